/- The small code is sound: what a call leaves as it was. -/
import Derived.Test.YtmgbbajgajmdjaaDoorTb

set_option linter.unusedSimpArgs false
set_option linter.unusedVariables false

/- What a change of the world leaves as it was. -/
namespace Go.AI
variable {P : Program}

/-- From a state to a later one. -/
structure Tr (ι : List Blk) (β : Nat → Nat) (L : Boxes) (m : Mem) (w : World) (ι' : List Blk) (β' : Nat → Nat) (L' : Boxes) (m' : Mem) (w' : World) : Prop where
  pre : ι <+: ι'
  size : w.heap.size ≤ w'.heap.size
  same : ∀ b : Nat, b < w.heap.size → (∀ k, ¬ owns ι β L m k b) → w'.heap[b]? = w.heap[b]?
  loops : ∀ (b : Nat) (r : Loop), w.heap[b]? = some (Obj.loop r) → ∃ r', w'.heap[b]? = some (Obj.loop r')
  own : ∀ (k : Own) (b : Nat), owns ι' β' L' m' k b → (∃ k0, owns ι β L m k0 b) ∨ w.heap.size ≤ b
  os : w'.os = w.os ∧ w'.output = w.output ∧ w'.tape = w.tape
  ro : ∀ (o : Nat) (cs : List V), m'.get o = some (.cells cs true) → m.get o = some (.cells cs true)

theorem Tr.refl (ι : List Blk) (β : Nat → Nat) (L : Boxes) (m : Mem) (w : World) : Tr ι β L m w ι β L m w :=
  ⟨List.prefix_refl _, Nat.le_refl _, fun _ _ _ => rfl, fun _ r h => ⟨r, h⟩, fun k _ h => .inl ⟨k, h⟩, ⟨rfl, rfl, rfl⟩, fun _ _ h => h⟩

theorem Tr.trans {ι ι1 ι2 : List Blk} {β β1 β2 : Nat → Nat} {L L1 L2 : Boxes} {m m1 m2 : Mem} {w w1 w2 : World} (h : Tr ι β L m w ι1 β1 L1 m1 w1) (h2 : Tr ι1 β1 L1 m1 w1 ι2 β2 L2 m2 w2) : Tr ι β L m w ι2 β2 L2 m2 w2 :=
  ⟨h.pre.trans h2.pre, Nat.le_trans h.size h2.size,
   fun b hb hn => by
    rw [h2.same b (Nat.lt_of_lt_of_le hb h.size) fun k hk => ?_, h.same b hb hn]
    rcases h.own k b hk with ⟨k0, h0⟩ | h0
    · exact hn k0 h0
    · omega,
   fun b r hr => let ⟨r1, h1⟩ := h.loops b r hr; h2.loops b r1 h1,
   fun k b hk => by
    rcases h2.own k b hk with ⟨k0, h0⟩ | h0
    · exact h.own k0 b h0
    · exact .inr (Nat.le_trans h.size h0),
   ⟨by rw [h2.os.1, h.os.1], by rw [h2.os.2.1, h.os.2.1], by rw [h2.os.2.2, h.os.2.2]⟩, fun o cs h3 => h.ro o cs (h2.ro o cs h3)⟩

theorem VA.pre {ι κ : List Blk} (h : ι <+: κ) {v : V} {c : Value} (hv : VA ι v c) : VA κ v c := hv.imp id (conc_pre h v c)

theorem FRv.pre {ι κ : List Blk} (h : ι <+: κ) {E : Env} {A : List V} {tmps : Array Value} (hf : FRv ι E A tmps) : FRv κ E A tmps :=
  ⟨hf.nt, hf.len, fun t i h1 h2 => (hf.var t i h1 h2).pre h, fun v hv => (hf.ok v hv).imp id fun ⟨c, hc⟩ => ⟨c, conc_pre h v c hc⟩⟩

theorem EntsR.pre {ι κ : List Blk} (h : ι <+: κ) : ∀ {es : List (V × V)} {fs : List MapEntry}, EntsR ι es fs → EntsR κ es fs
  | [], [], _ => trivial
  | (k, v) :: es, f :: fs, ⟨h1, h2, h3⟩ => ⟨conc_pre h k _ h1, conc_pre h v _ h2, h3.pre h⟩
  | [], _ :: _, h => h.elim
  | _ :: _, [], h => h.elim

theorem lt_of_get {w : World} {b : Nat} {o : Obj} (h : w.heap[b]? = some o) : b < w.heap.size := (Array.getElem?_eq_some_iff.1 h).1

theorem lt_of_cell {w : World} {a : Addr} {v : Value} (h : w.cell? a = some v) : a.block < w.heap.size := by
  unfold World.cell? at h
  cases ho : w.heap[a.block]? with
  | none => rw [ho] at h; cases h
  | some o => exact lt_of_get ho

theorem cell_same {w w' : World} {a : Addr} (h : w'.heap[a.block]? = w.heap[a.block]?) : w'.cell? a = w.cell? a := by
  unfold World.cell?; rw [h]

theorem ObR.keep {ι κ : List Blk} {w w' : World} {b : Blk} {x : Ob} (h : ObR P ι w b x) (hp : ι <+: κ) (hw : x.live → b.block < w.heap.size → w'.heap[b.block]? = w.heap[b.block]?) : ObR P κ w' b x := by
  cases x with
  | cells cs ro =>
    cases ro with
    | true =>
      obtain ⟨xs, h1, h2⟩ := h
      refine ⟨xs, concL_pre hp cs xs h1, fun i v hv => ?_⟩
      have := h2 i v hv
      have hne : cs ≠ [] := by
        intro e; subst e
        simp [concL] at h1; subst h1
        simp at hv
      rw [cell_same (w := w) (w' := w') (hw hne (lt_of_cell this))]; exact this
    | false =>
      obtain ⟨xs, arr, t, h1, h2, h3⟩ := h
      exact ⟨xs, arr, t, concL_pre hp cs xs h1, by rw [hw trivial (lt_of_get h2)]; exact h2, h3⟩
  | mp es =>
    obtain ⟨ents, clock, h1, h2⟩ := h
    exact ⟨ents, clock, by rw [hw trivial (lt_of_get h1)]; exact h1, h2.pre hp⟩
  | loop st pend A ps asg body =>
    obtain ⟨r, h1, E, h2, h3, h4, h5, h6, h7⟩ := h
    exact ⟨r, by rw [hw trivial (lt_of_get h1)]; exact h1, E, h2, h3, h4, h5, h6, h7.pre hp⟩
  | gone => trivial

section
variable {ι : List Blk} {β : Nat → Nat} {L : Boxes} {m : Mem} {w : World}

theorem Ob.live_of_rw {x : Ob} (h : x.rw = true) : x.live := by
  cases x with
  | cells cs ro => cases ro <;> simp_all [Ob.rw, Ob.live]
  | mp => trivial
  | loop => trivial
  | gone => simp [Ob.rw] at h

theorem ObR.lt {b : Blk} {x : Ob} (h : ObR P ι w b x) (hr : x.rw = true) : b.block < w.heap.size := by
  cases x with
  | cells cs ro =>
    cases ro with
    | true => simp [Ob.rw] at hr
    | false => obtain ⟨xs, arr, t, _, h2, _⟩ := h; exact lt_of_get h2
  | mp es => obtain ⟨_, _, h1, _⟩ := h; exact lt_of_get h1
  | loop => obtain ⟨_, h1, _⟩ := h; exact lt_of_get h1
  | gone => simp [Ob.rw] at hr

theorem RD.owns_lt (h : RD P ι β L m w) {k : Own} {b : Nat} (hk : owns ι β L m k b) : b < w.heap.size := by
  cases k with
  | ob o =>
    obtain ⟨x, bl, h1, h2, h3, rfl⟩ := hk
    obtain ⟨b', hb', hob⟩ := h.obj o x h1
    rw [h3] at hb'; cases hb'
    exact hob.lt h2
  | bx s =>
    obtain ⟨h1, rfl⟩ := hk
    obtain ⟨_, _, _, h2⟩ := h.box s h1
    exact lt_of_get h2

theorem get_append_old {ι : List Blk} {b : Blk} {o : Nat} (h : o < ι.length) : (ι ++ [b])[o]? = ι[o]? := List.getElem?_append_left h

theorem World.alloc_old (w : World) (o : Obj) {b : Nat} (h : b < w.heap.size) : (w.alloc o).heap[b]? = w.heap[b]? := by
  show (w.heap.push o)[b]? = _
  rw [Array.getElem?_push_lt h, Array.getElem?_eq_getElem h]

theorem World.alloc_new (w : World) (o : Obj) : (w.alloc o).heap[w.heap.size]? = some o := by
  show (w.heap.push o)[w.heap.size]? = _
  simp

theorem World.alloc_size' (w : World) (o : Obj) : (w.alloc o).heap.size = w.heap.size + 1 := by
  show (w.heap.push o).size = _
  simp

/-- A new object in a new block. -/
theorem WR.newObj (h : WR P ι β L m w) (x : Ob) (o : Obj) (n : Nat) (hx : ObR P (ι ++ [⟨w.heap.size, 0, n⟩]) (w.alloc o) ⟨w.heap.size, 0, n⟩ x) (hro : ∀ cs, x ≠ .cells cs true) :
    WR P (ι ++ [⟨w.heap.size, 0, n⟩]) β L (m.push x) (w.alloc o) ∧ Tr ι β L m w (ι ++ [⟨w.heap.size, 0, n⟩]) β L (m.push x) (w.alloc o) := by
  have hpre : ι <+: ι ++ [⟨w.heap.size, 0, n⟩] := List.prefix_append _ _
  have hnew : (ι ++ [⟨w.heap.size, 0, n⟩])[m.next]? = some ⟨w.heap.size, 0, n⟩ := by rw [← h.len]; simp
  have hown : ∀ k b, owns (ι ++ [⟨w.heap.size, 0, n⟩]) β L (m.push x) k b → (k = .ob m.next ∧ b = w.heap.size) ∨ owns ι β L m k b := by
    intro k b hk
    cases k with
    | ob o =>
      obtain ⟨y, bl, h1, h2, h3, rfl⟩ := hk
      rw [Mem.get_push] at h1
      by_cases he : o = m.next
      · subst he; rw [hnew] at h3; cases h3; exact .inl ⟨rfl, rfl⟩
      · rw [if_neg he] at h1
        rw [get_append_old (by rw [h.len]; exact Mem.get_lt h1)] at h3
        exact .inr ⟨y, bl, h1, h2, h3, rfl⟩
    | bx s => exact .inr hk
  refine ⟨{ len := by simp [Mem.push, h.len], glob := ?_, obj := ?_, box := ?_, inj := ?_, ro := ?_ }, ?_⟩
  · intro o y hy
    rw [Mem.get_push] at hy
    by_cases he : o = m.next
    · subst he; rw [if_pos rfl] at hy; cases hy; exact ⟨_, hnew, hx⟩
    · rw [if_neg he] at hy
      obtain ⟨b, hb, hob⟩ := h.obj o y hy
      exact ⟨b, get_pre hpre hb, hob.keep hpre fun _ hlt => World.alloc_old w _ hlt⟩
  · intro s hs
    obtain ⟨xs, t, h1, h2⟩ := h.box s hs
    exact ⟨xs, t, concL_pre hpre _ _ h1, by rw [World.alloc_old w _ (lt_of_get h2)]; exact h2⟩
  · intro g hg
    obtain ⟨b, hb, q⟩ := h.glob g hg
    exact ⟨b, get_pre hpre hb, q⟩
  · intro k k' b hk hk'
    rcases hown k b hk with ⟨rfl, rfl⟩ | h1
    · rcases hown k' _ hk' with ⟨rfl, _⟩ | h2
      · rfl
      · exact absurd (h.toRD.owns_lt h2) (by omega)
    · rcases hown k' b hk' with ⟨rfl, rfl⟩ | h2
      · exact absurd (h.toRD.owns_lt h1) (by omega)
      · exact h.inj k k' b h1 h2
  · intro o cs b k hg hne hb hk
    rw [Mem.get_push] at hg
    by_cases he : o = m.next
    · rw [if_pos he] at hg; cases hg; exact hro cs rfl
    · rw [if_neg he] at hg
      rw [get_append_old (by rw [h.len]; exact Mem.get_lt hg)] at hb
      rcases hown k b.block hk with ⟨rfl, hbb⟩ | h1
      · -- the new block, and a block that is read
        obtain ⟨b', hb', xs, hx1, hx2⟩ := h.obj o _ hg
        rw [hb] at hb'; cases hb'
        have hlen := concL_length hx1
        cases xs with
        | nil => exact hne (List.eq_nil_of_length_eq_zero (by simpa using hlen.symm))
        | cons x xs => have := lt_of_cell (hx2 0 x rfl); simp at this; omega
      · exact h.ro o cs b k hg hne hb h1
  · refine ⟨hpre, by rw [World.alloc_size']; omega, fun b hb _ => World.alloc_old w _ hb, fun b r hr => ⟨r, by rw [World.alloc_old w _ (lt_of_get hr)]; exact hr⟩, fun k b hk => ?_, ⟨rfl, rfl, rfl⟩, fun o cs h3 => ?_⟩
    · rcases hown k b hk with ⟨_, rfl⟩ | h1
      · exact .inr (Nat.le_refl _)
      · exact .inl ⟨k, h1⟩
    · rw [Mem.get_push] at h3
      split at h3
      · cases h3; exact absurd rfl (hro cs)
      · exact h3
/-- A new box in a new block. -/
theorem WR.newBox (h : WR P ι β L m w) (s : Nat) (cs : List V) (xs : List Value) (t : TypeId) (hx : concL ι cs = some xs) :
    WR P ι (fun k => if k = s then w.heap.size else β k) (L.put s cs) m (w.alloc (.cells xs.toArray t)) ∧ Tr ι β L m w ι (fun k => if k = s then w.heap.size else β k) (L.put s cs) m (w.alloc (.cells xs.toArray t)) := by
  have hown : ∀ k b, owns ι (fun k => if k = s then w.heap.size else β k) (L.put s cs) m k b → (k = .bx s ∧ b = w.heap.size) ∨ (k ≠ .bx s ∧ owns ι β L m k b) := by
    intro k b hk
    cases k with
    | ob o => exact .inr ⟨by simp, hk⟩
    | bx s' =>
      obtain ⟨h1, h2⟩ := hk
      rw [Boxes.get_put] at h1
      simp only at h2
      by_cases he : s' = s
      · subst he; rw [if_pos rfl] at h2; exact .inl ⟨rfl, h2.symm⟩
      · rw [if_neg he] at h1 h2; exact .inr ⟨by simpa using he, h1, h2⟩
  refine ⟨{ len := h.len, glob := h.glob, obj := ?_, box := ?_, inj := ?_, ro := ?_ }, ?_⟩
  · intro o y hy
    obtain ⟨b, hb, hob⟩ := h.obj o y hy
    exact ⟨b, hb, hob.keep (List.prefix_refl _) fun _ hlt => World.alloc_old w _ hlt⟩
  · intro s' hs
    rw [Boxes.get_put] at hs ⊢
    by_cases he : s' = s
    · subst he
      simp only [if_true]
      exact ⟨xs, t, hx, World.alloc_new w _⟩
    · rw [if_neg he] at hs
      simp only [if_neg he]
      obtain ⟨ys, t', h1, h2⟩ := h.box s' hs
      exact ⟨ys, t', h1, by rw [World.alloc_old w _ (lt_of_get h2)]; exact h2⟩
  · intro k k' b hk hk'
    rcases hown k b hk with ⟨rfl, rfl⟩ | ⟨_, h1⟩
    · rcases hown k' _ hk' with ⟨rfl, _⟩ | ⟨_, h2⟩
      · rfl
      · exact absurd (h.toRD.owns_lt h2) (by omega)
    · rcases hown k' b hk' with ⟨rfl, rfl⟩ | ⟨_, h2⟩
      · exact absurd (h.toRD.owns_lt h1) (by omega)
      · exact h.inj k k' b h1 h2
  · intro o cs' b k hg hne hb hk
    rcases hown k b.block hk with ⟨rfl, hbb⟩ | ⟨_, h1⟩
    · obtain ⟨b', hb', ys, hx1, hx2⟩ := h.obj o _ hg
      rw [hb] at hb'; cases hb'
      have hlen := concL_length hx1
      cases ys with
      | nil => exact hne (List.eq_nil_of_length_eq_zero (by simpa using hlen.symm))
      | cons x ys => have := lt_of_cell (hx2 0 x rfl); simp at this; omega
    · exact h.ro o cs' b k hg hne hb h1
  · refine ⟨List.prefix_refl _, by rw [World.alloc_size']; omega, fun b hb _ => World.alloc_old w _ hb, fun b r hr => ⟨r, by rw [World.alloc_old w _ (lt_of_get hr)]; exact hr⟩, fun k b hk => ?_, ⟨rfl, rfl, rfl⟩, fun _ _ h => h⟩
    rcases hown k b hk with ⟨_, rfl⟩ | ⟨_, h1⟩
    · exact .inr (Nat.le_refl _)
    · exact .inl ⟨k, h1⟩

/-- A box is not there any more. -/
theorem WR.dropBox (h : WR P ι β L m w) (s : Nat) : WR P ι β (L.put s []) m w ∧ Tr ι β L m w ι β (L.put s []) m w := by
  have hget : ∀ s', (L.put s []).get s' ≠ [] → s' ≠ s ∧ (L.put s []).get s' = L.get s' := by
    intro s' hs
    rw [Boxes.get_put] at hs ⊢
    by_cases he : s' = s
    · rw [if_pos he] at hs; exact absurd rfl hs
    · rw [if_neg he]; exact ⟨he, rfl⟩
  have hown : ∀ k b, owns ι β (L.put s []) m k b → owns ι β L m k b := by
    intro k b hk
    cases k with
    | ob o => exact hk
    | bx s' => obtain ⟨h1, h2⟩ := hk; have := hget s' h1; rw [this.2] at h1; exact ⟨h1, h2⟩
  have hbox : ∀ s', (L.put s []).get s' ≠ [] → ∃ xs t, concL ι ((L.put s []).get s') = some xs ∧ w.heap[β s']? = some (.cells xs.toArray t (0, 0)) := by
    intro s' hs
    have := hget s' hs
    rw [this.2] at hs ⊢
    exact h.box s' hs
  refine ⟨{ obj := h.obj, box := hbox, len := h.len, glob := h.glob, inj := ?_, ro := ?_ }, ?_⟩
  · exact fun k k' b hk hk' => h.inj k k' b (hown k b hk) (hown k' b hk')
  · exact fun o cs b k hg hne hb hk => h.ro o cs b k hg hne hb (hown k _ hk)
  · exact ⟨List.prefix_refl _, Nat.le_refl _, fun _ _ _ => rfl, fun _ r hr => ⟨r, hr⟩, fun k b hk => .inl ⟨k, hown k b hk⟩, ⟨rfl, rfl, rfl⟩, fun _ _ h => h⟩

/-- The world changes in one object's block. -/
theorem WR.setObj (h : WR P ι β L m w) {o : Nat} {x y : Ob} {f : Bool} {b : Blk} {w' : World} (hg : m.get o = some x) (hrw : x.rw = true) (hb : ι[o]? = some b) (hy : ObR P ι w' b y) (hro : ∀ cs, y ≠ .cells cs true)
    (hsz : w'.heap.size = w.heap.size) (hother : ∀ k, k ≠ b.block → w'.heap[k]? = w.heap[k]?) (hloop : ∀ r, w.heap[b.block]? = some (Obj.loop r) → ∃ r', w'.heap[b.block]? = some (Obj.loop r')) (hos : w'.os = w.os ∧ w'.output = w.output ∧ w'.tape = w.tape) :
    WR P ι β L (m.put o y f) w' ∧ Tr ι β L m w ι β L (m.put o y f) w' := by
  have hmine : owns ι β L m (.ob o) b.block := ⟨x, b, hg, hrw, hb, rfl⟩
  have hown : ∀ k c, owns ι β L (m.put o y f) k c → owns ι β L m k c := by
    intro k c hk
    cases k with
    | ob o' =>
      obtain ⟨z, bl, h1, h2, h3, rfl⟩ := hk
      rw [Mem.get_put hg] at h1
      by_cases he : o' = o
      · subst he; rw [hb] at h3; cases h3; exact hmine
      · rw [if_neg he] at h1; exact ⟨z, bl, h1, h2, h3, rfl⟩
    | bx s => exact hk
  refine ⟨{ len := by rw [Mem.put_next]; exact h.len, glob := h.glob, obj := ?_, box := ?_, inj := fun k k' c hk hk' => h.inj k k' c (hown k c hk) (hown k' c hk'), ro := ?_ }, ?_⟩
  · intro o' z hz
    rw [Mem.get_put hg] at hz
    by_cases he : o' = o
    · subst he; rw [if_pos rfl] at hz; cases hz; exact ⟨b, hb, hy⟩
    · rw [if_neg he] at hz
      obtain ⟨b', hb', hob⟩ := h.obj o' z hz
      refine ⟨b', hb', hob.keep (List.prefix_refl _) fun hlive _ => hother _ fun heq => ?_⟩
      cases z with
      | cells cs ro =>
        cases ro with
        | true => exact h.ro o' cs b' (.ob o) hz hlive hb' (heq ▸ hmine)
        | false =>
          have := h.inj (.ob o') (.ob o) b.block ⟨_, b', hz, rfl, hb', heq⟩ hmine
          exact he (by simpa using this)
      | mp => have := h.inj (.ob o') (.ob o) b.block ⟨_, b', hz, rfl, hb', heq⟩ hmine; exact he (by simpa using this)
      | loop => have := h.inj (.ob o') (.ob o) b.block ⟨_, b', hz, rfl, hb', heq⟩ hmine; exact he (by simpa using this)
      | gone => exact hlive.elim
  · intro s hs
    obtain ⟨xs, t, h1, h2⟩ := h.box s hs
    refine ⟨xs, t, h1, ?_⟩
    rw [hother _ fun heq => ?_]; exact h2
    have := h.inj (.bx s) (.ob o) b.block ⟨hs, heq⟩ hmine
    simp at this
  · intro o' cs b' k hz hne hb' hk
    rw [Mem.get_put hg] at hz
    by_cases he : o' = o
    · rw [if_pos he] at hz; cases hz; exact hro cs rfl
    · rw [if_neg he] at hz; exact h.ro o' cs b' k hz hne hb' (hown k _ hk)
  · refine ⟨List.prefix_refl _, by omega, fun c _ hn => hother c fun heq => hn (.ob o) (heq ▸ hmine), fun c r hr => ?_, fun k c hk => .inl ⟨k, hown k c hk⟩, hos, fun o' cs h3 => ?_⟩
    · by_cases heq : c = b.block
      · subst heq; exact hloop r hr
      · exact ⟨r, by rw [hother c heq]; exact hr⟩
    · rw [Mem.get_put hg] at h3
      split at h3
      · cases h3; exact absurd rfl (hro cs)
      · exact h3

/-- The world changes in one box. -/
theorem WR.setBox (h : WR P ι β L m w) {s : Nat} {cs : List V} {xs : List Value} {t : TypeId} {w' : World} (hs : L.get s ≠ []) (hx : concL ι cs = some xs) (hw : w'.heap[β s]? = some (.cells xs.toArray t (0, 0)))
    (hsz : w'.heap.size = w.heap.size) (hother : ∀ k, k ≠ β s → w'.heap[k]? = w.heap[k]?) (hos : w'.os = w.os ∧ w'.output = w.output ∧ w'.tape = w.tape) :
    WR P ι β (L.put s cs) m w' ∧ Tr ι β L m w ι β (L.put s cs) m w' := by
  have hmine : owns ι β L m (.bx s) (β s) := ⟨hs, rfl⟩
  have hown : ∀ k c, owns ι β (L.put s cs) m k c → owns ι β L m k c := by
    intro k c hk
    cases k with
    | ob o => exact hk
    | bx s' =>
      obtain ⟨h1, h2⟩ := hk
      rw [Boxes.get_put] at h1
      by_cases he : s' = s
      · subst he; exact ⟨hs, h2⟩
      · rw [if_neg he] at h1; exact ⟨h1, h2⟩
  refine ⟨{ len := h.len, glob := h.glob, obj := ?_, box := ?_, inj := fun k k' c hk hk' => h.inj k k' c (hown k c hk) (hown k' c hk'), ro := fun o cs b k hg hne hb hk => h.ro o cs b k hg hne hb (hown k _ hk) }, ?_⟩
  · intro o z hz
    obtain ⟨b', hb', hob⟩ := h.obj o z hz
    refine ⟨b', hb', hob.keep (List.prefix_refl _) fun hlive _ => hother _ fun heq => ?_⟩
    cases z with
    | cells cs ro =>
      cases ro with
      | true => exact h.ro o cs b' (.bx s) hz hlive hb' (heq ▸ hmine)
      | false => have := h.inj (.ob o) (.bx s) (β s) ⟨_, b', hz, rfl, hb', heq⟩ hmine; simp at this
    | mp => have := h.inj (.ob o) (.bx s) (β s) ⟨_, b', hz, rfl, hb', heq⟩ hmine; simp at this
    | loop => have := h.inj (.ob o) (.bx s) (β s) ⟨_, b', hz, rfl, hb', heq⟩ hmine; simp at this
    | gone => exact hlive.elim
  · intro s' hs'
    rw [Boxes.get_put] at hs' ⊢
    by_cases he : s' = s
    · subst he; rw [if_pos rfl]; exact ⟨xs, t, hx, hw⟩
    · rw [if_neg he] at hs' ⊢
      obtain ⟨ys, t', h1, h2⟩ := h.box s' hs'
      refine ⟨ys, t', h1, ?_⟩
      rw [hother _ fun heq => ?_]; exact h2
      have := h.inj (.bx s') (.bx s) (β s) ⟨hs', heq⟩ hmine
      exact he (by simpa using this)
  · refine ⟨List.prefix_refl _, by omega, fun c _ hn => hother c fun heq => hn (.bx s) (heq ▸ hmine), fun c r hr => ?_, fun k c hk => .inl ⟨k, hown k c hk⟩, hos, fun _ _ h => h⟩
    by_cases heq : c = β s
    · obtain ⟨ys, t', _, h2⟩ := h.box s hs
      rw [heq, h2] at hr; cases hr
    · exact ⟨r, by rw [hother c heq]; exact hr⟩

end
end Go.AI

/- Operations that make or write memory. -/
namespace Go.AI
variable {P : Program}

/-- What an operation leaves of the boxes but its own. -/
def Keep (site : Site) (β : Nat → Nat) (L : Boxes) (β' : Nat → Nat) (L' : Boxes) : Prop := ∀ s, site ≠ some s → β' s = β s ∧ (L'.get s = [] ↔ L.get s = [])

theorem Keep.refl (β : Nat → Nat) (L : Boxes) (site : Site) : Keep site β L β L := fun _ _ => ⟨rfl, Iff.rfl⟩

theorem VR.keep {ι ι' : List Blk} {β β' : Nat → Nat} {L L' : Boxes} {v : V} {c : Value} {site : Site} (h : VR ι β L v c) (hp : ι <+: ι') (hk : Keep site β L β' L') (hv : ∀ s off, v = .lp s off → site ≠ some s) : VR ι' β' L' v c := by
  by_cases hok : v.ok = true
  · exact VR.of (conc_pre hp v c (h.ok hok))
  · cases v <;> first | (exfalso; exact hok rfl) | skip
    case lp s off =>
      have ⟨h1, h2⟩ := hk s (hv s off rfl)
      intro hne
      rw [h1]
      exact h fun e => hne (h2.2 e)
    case dead => trivial

theorem run_newRow (elem : TypeId) (cells : Array Value) (w : World) : (newRow elem cells).run P w = .ok ⟨w.heap.size, 0, none⟩ (w.alloc (.cells cells elem)) := rfl

section ops
variable {ι : List Blk} {β : Nat → Nat} {L : Boxes} {m : Mem} {E : Env} {dsts : List (Option Tmp)} {locs A : List V} {a : Act}

theorem WR.drawn {w : World} (h : WR P ι β L m w) (k : Nat) : WR P ι β L m { w with drawn := k } ∧ Tr ι β L m w ι β L m { w with drawn := k } :=
  ⟨{ obj := fun o x hx => let ⟨b, hb, hob⟩ := h.obj o x hx; ⟨b, hb, hob.keep (List.prefix_refl _) fun _ _ => rfl⟩, box := h.box, len := h.len, glob := h.glob, inj := h.inj, ro := h.ro },
   ⟨List.prefix_refl _, Nat.le_refl _, fun _ _ _ => rfl, fun _ r hr => ⟨r, hr⟩, fun k _ hk => .inl ⟨k, hk⟩, ⟨rfl, rfl, rfl⟩, fun _ _ h => h⟩⟩

theorem newVar_sound {w : World} (h : WR P ι β L m w) {cs : List V} {xs : List Value} (hx : concL ι cs = some xs) (t : TypeId) (site : Site) :
    ∃ ι' β', WR P ι' β' (newVar site cs L m).2.1 (newVar site cs L m).2.2 (w.alloc (.cells xs.toArray t)) ∧ Tr ι β L m w ι' β' (newVar site cs L m).2.1 (newVar site cs L m).2.2 (w.alloc (.cells xs.toArray t)) ∧
      VR ι' β' (newVar site cs L m).2.1 (newVar site cs L m).1 (.pointer (some ⟨w.heap.size, 0, none⟩)) ∧ Keep site β L β' (newVar site cs L m).2.1 := by
  cases site with
  | none =>
    have hob : ObR P (ι ++ [⟨w.heap.size, 0, xs.length⟩]) (w.alloc (.cells xs.toArray t)) ⟨w.heap.size, 0, xs.length⟩ (.cells cs false) :=
      ⟨xs, xs.toArray, t, concL_pre (List.prefix_append _ _) _ _ hx, World.alloc_new w _, by simp, by simp [concL_length hx], fun i v hv => by simpa using hv⟩
    obtain ⟨h1, h2⟩ := h.newObj (.cells cs false) (.cells xs.toArray t) xs.length hob (by simp)
    refine ⟨_, β, h1, h2, VR.of ?_, Keep.refl _ _ _⟩
    simp only [newVar, conc]
    rw [← h.len]
    simp
  | some s =>
    obtain ⟨h1, h2⟩ := h.newBox s cs xs t hx
    refine ⟨ι, _, h1, h2, ?_, fun s' hs => ?_⟩
    · intro _
      simp
    · have hne : s' ≠ s := by intro e; exact hs (by rw [e])
      simp only [newVar]
      rw [Boxes.get_put, if_neg hne, if_neg hne]
      exact ⟨rfl, Iff.rfl⟩

theorem storeVar_run {t : TypeId} {n : Nat} (hn : sizeT P t = some n) {b o : Nat} {v : Value} {cur : Array Value} {ty : TypeId} {w : World} (hw : w.heap[b]? = some (.cells cur ty (0, 0))) (hl : v.cells.size = n) (hb : o + n ≤ cur.size) (h1 : ∀ x ∈ v.cells.toList, x.oneCell' = true) :
    (Instr.storeAt t (.pointer (some ⟨b, o, none⟩)) v).run P w = .ok () (w.setRow b (cur.toList.take o ++ v.cells.toList ++ cur.toList.drop (o + v.cells.toList.length)).toArray) := by
  unfold Instr.storeAt
  show (do let a ← Instr.sureAddr (.pointer (some ⟨b, o, none⟩)); storeVar t a v : Sem Unit).run P w = _
  rw [Sem.run_bind]
  show (storeVar t ⟨b, o, none⟩ v).run P w = _
  unfold storeVar
  rw [Sem.run_bind, sizeT_run hn]
  simp only [Result.andThen]
  rw [if_neg (by simp [hl])]
  have := run_storeCells_at (P := P) b o ty v.cells.toList 0 cur w hw (by simp [hl]; omega) h1
  simpa using this

theorem splice_length {cs xs : List V} {off : Nat} (h : off + xs.length ≤ cs.length) : (splice cs off xs).length = cs.length := by
  unfold splice; simp; omega

/-- The cells of a block behind a write. -/
theorem setRow_keep {w : World} {b : Nat} {cur new : Array Value} {ty : TypeId} (hw : w.heap[b]? = some (.cells cur ty (0, 0))) :
    (w.setRow b new).heap[b]? = some (.cells new ty (0, 0)) ∧ (w.setRow b new).heap.size = w.heap.size ∧ (∀ k, k ≠ b → (w.setRow b new).heap[k]? = w.heap[k]?) ∧
      (∀ r, w.heap[b]? = some (Obj.loop r) → ∃ r', (w.setRow b new).heap[b]? = some (Obj.loop r')) ∧ ((w.setRow b new).os = w.os ∧ (w.setRow b new).output = w.output ∧ (w.setRow b new).tape = w.tape) :=
  ⟨setRow_heap w b cur new ty _ hw, setRow_size w b new, fun k hk => setRow_other w b k new hk, fun r hr => (by rw [hw] at hr; cases hr), rfl, rfl, rfl⟩

theorem splice_get {cs : List Value} {xs : List Value} {arr : Array Value} {base off : Nat} (h : ∀ (i : Nat) v, cs[i]? = some v → arr[base + i]? = some v) (hoff : off + xs.length ≤ cs.length) (hsz : base + cs.length ≤ arr.size) :
    ∀ (i : Nat) v, (cs.take off ++ xs ++ cs.drop (off + xs.length))[i]? = some v → (arr.toList.take (base + off) ++ xs ++ arr.toList.drop (base + off + xs.length)).toArray[base + i]? = some v := by
  intro i v hv
  simp only [List.getElem?_toArray]
  by_cases h1 : i < off
  · rw [List.append_assoc, List.getElem?_append_left (by simp; omega), List.getElem?_take_of_lt h1] at hv
    rw [List.append_assoc, List.getElem?_append_left (by simp; omega), List.getElem?_take_of_lt (by omega)]
    simpa using h i v hv
  · by_cases h2 : i < off + xs.length
    · rw [List.append_assoc, List.getElem?_append_right (by simp; omega), List.getElem?_append_left (by simp; omega)] at hv
      rw [List.append_assoc, List.getElem?_append_right (by simp; omega), List.getElem?_append_left (by simp; omega)]
      simp only [List.length_take, Array.length_toList] at hv ⊢
      rw [← hv]; congr 1; omega
    · rw [List.getElem?_append_right (by simp; omega), List.getElem?_drop] at hv
      rw [List.getElem?_append_right (by simp; omega), List.getElem?_drop]
      simp only [List.length_append, List.length_take, Array.length_toList] at hv ⊢
      have e1 : off + xs.length + (i - (min off cs.length + xs.length)) = i := by omega
      rw [e1] at hv
      have e2 : base + off + xs.length + (base + i - (min (base + off) arr.size + xs.length)) = base + i := by omega
      rw [e2]
      simpa using h i v hv

/-- A write of whole cells, and what it leaves. -/
theorem write_sound {w : World} (h : WR P ι β L m w) {u : V} {c : Value} (hu : VR ι β L u c) {xs : List V} {ys : List Value} (hx : concL ι xs = some ys) {L' : Boxes} {m' : Mem} (hw : writeN L m u xs = some (L', m')) :
    ∃ b o cur ty, c = .pointer (some ⟨b, o, none⟩) ∧ w.heap[b]? = some (.cells cur ty (0, 0)) ∧ o + ys.length ≤ cur.size ∧
      WR P ι β L' m' (w.setRow b (cur.toList.take o ++ ys ++ cur.toList.drop (o + ys.length)).toArray) ∧ Tr ι β L m w ι β L' m' (w.setRow b (cur.toList.take o ++ ys ++ cur.toList.drop (o + ys.length)).toArray) ∧ Keep none β L β L' := by
  have hlen := concL_length hx
  unfold writeN at hw
  split at hw
  · rename_i s off
    simp only at hw
    split at hw
    · rename_i hc
      simp only [Bool.and_eq_true, blt_iff, ble_iff] at hc
      simp only [Option.some.injEq, Prod.mk.injEq] at hw
      obtain ⟨rfl, rfl⟩ := hw
      have hne : L.get s ≠ [] := by intro e; rw [e] at hc; simp at hc
      obtain ⟨zs, t, hz, hheap⟩ := h.box s hne
      have hzl := concL_length hz
      obtain ⟨k1, k2, k3, _, k5⟩ := setRow_keep (new := (zs.take off ++ ys ++ zs.drop (off + ys.length)).toArray) hheap
      obtain ⟨q1, q2⟩ := h.setBox hne (concL_splice off hz hx) k1 k2 k3 k5
      refine ⟨β s, off, zs.toArray, t, hu.lp hne, hheap, by simp; omega, q1, q2, fun s' _ => ⟨rfl, ?_⟩⟩
      rw [Boxes.get_put]
      by_cases he : s' = s
      · subst he
        rw [if_pos rfl]
        have hl := splice_length hc.2
        constructor
        · intro e; rw [e] at hl; simp at hl; omega
        · intro e; exact absurd e hne
      · rw [if_neg he]
    · cases hw
  · rename_i o off
    split at hw
    · rename_i cs hg
      split at hw
      · rename_i hc
        simp only [ble_iff] at hc
        simp only [Option.some.injEq, Prod.mk.injEq] at hw
        obtain ⟨rfl, rfl⟩ := hw
        obtain ⟨b, hb, zs, arr, t, hz, hheap, hsz, hcl, hcell⟩ := h.obj o _ hg
        have hzl := concL_length hz
        have hcv := hu.ok rfl
        simp only [conc, hb, Option.map_some, Option.some.injEq] at hcv
        obtain ⟨k1, k2, k3, k4, k5⟩ := setRow_keep (new := (arr.toList.take (b.base + off) ++ ys ++ arr.toList.drop (b.base + off + ys.length)).toArray) hheap
        have hob : ObR P ι (w.setRow b.block (arr.toList.take (b.base + off) ++ ys ++ arr.toList.drop (b.base + off + ys.length)).toArray) b (.cells (splice cs off xs) false) :=
          ⟨_, _, t, concL_splice off hz hx, k1, by simp; omega, by rw [splice_length hc]; exact hcl, splice_get hcell (by omega) (by omega)⟩
        obtain ⟨q1, q2⟩ := h.setObj (f := V.flatL xs) hg rfl hb hob (by simp) k2 k3 k4 k5
        exact ⟨b.block, b.base + off, arr, t, hcv.symm, hheap, by omega, q1, q2, Keep.refl _ _ _⟩
      · cases hw
    · cases hw
  · cases hw

/-! ### Zero cells -/

theorem range_split (k n : Nat) (f : Nat → Value) : (List.range (k + n)).map f = (List.range k).map f ++ (List.range n).map fun i => f (k + i) := by
  rw [List.range_add, List.map_append, List.map_map]
  rfl

theorem range_get (z : Array Value) : (List.range z.size).map (fun i => z[i % z.size]!) = z.toList := by
  apply List.ext_getElem
  · simp
  · intro i h1 h2
    simp only [List.length_map, List.length_range] at h1
    simp [Nat.mod_eq_of_lt h1, getElem!_pos z i h1]

theorem zeroCells_reps {zs : List V} {z : Array Value} (h : concL ι zs = some z.toList) : ∀ n, concL ι (reps n zs) = some ((List.range (n * z.size)).map fun i => z[i % z.size]!)
  | 0 => by simp [reps, concL]
  | n + 1 => by
    have ih := zeroCells_reps h n
    simp only [reps]
    rw [Nat.add_mul, Nat.one_mul, Nat.add_comm, range_split, range_get]
    refine concL_append h ?_
    rw [ih]
    congr 1
    apply List.map_congr_left
    intro i _
    rw [Nat.add_mod_left]

theorem reps_ones {zs : List V} (h : ones zs = true) : ∀ n, ones (reps n zs) = true
  | 0 => rfl
  | n + 1 => by
    have happ : ∀ (a b : List V), ones a = true → ones b = true → ones (a ++ b) = true := by
      intro a
      induction a with
      | nil => intro b _ h; exact h
      | cons x xs ih =>
        intro b h1 h2
        simp only [ones, Bool.and_eq_true] at h1
        simp only [List.cons_append, ones, Bool.and_eq_true]
        exact ⟨h1.1, ih b h1.2 h2⟩
    exact happ _ _ h (reps_ones h n)

theorem reps_length (zs : List V) : ∀ n, (reps n zs).length = n * zs.length
  | 0 => by simp [reps]
  | n + 1 => by simp [reps, reps_length zs n, Nat.add_mul]; omega

/-! ### The cells of what is appended -/

theorem cells_sound {w : World} (h : RD P ι β L m w) {x : V} {c : Value} (hx : VR ι β L x c) {size : Nat} {new : List V} {n : Nat} (hc : cellsOf m size x = some (new, n)) :
    ∃ ys : Array Value, concL ι new = some ys.toList ∧ (Builtin.lenOf c).run P w = .ok n w ∧ ∀ w' : World, w'.heap = w.heap → (Builtin.firstCells size n c).run P w' = .ok ys w' := by
  cases x <;> simp only [cellsOf] at hc <;> try (cases hc; done)
  case nils =>
    simp only [Option.some.injEq, Prod.mk.injEq] at hc
    obtain ⟨rfl, rfl⟩ := hc
    have := hx.ok rfl
    simp only [conc, Option.some.injEq] at this; subst this
    exact ⟨#[], by simp [concL], rfl, fun _ _ => rfl⟩
  case slc o off off0 len cap =>
    obtain ⟨b, p, k, hb, rfl, hpos⟩ := conc_slc' (hx.ok rfl)
    split at hc
    · rename_i hl
      simp only [beq_iff] at hl
      subst hl
      simp only [Option.some.injEq, Prod.mk.injEq] at hc
      obtain ⟨rfl, rfl⟩ := hc
      refine ⟨#[], by simp [concL], rfl, fun w' _ => ?_⟩
      show (loadCells _ (0 * size)).run P w' = _
      rw [Nat.zero_mul]; rfl
    · rename_i hl
      have hl : len ≠ 0 := fun e => hl (beq_iff.2 e)
      split at hc
      · rename_i cs ro hg
        split at hc
        · rename_i hle
          simp only [ble_iff] at hle
          simp only [Option.some.injEq, Prod.mk.injEq] at hc
          obtain ⟨rfl, rfl⟩ := hc
          have hp := hpos (by omega)
          subst hp
          obtain ⟨b0, o0, xs, e1, e2, e3, e4⟩ := h.readN (v := .ptr o off) (c := .pointer (some ⟨b.block, b.base + off, none⟩)) (n := len * size) (cs := slice cs off (len * size)) (VR.of (by simp [conc, hb])) (by simp [readN, hg, hle])
          simp only [Value.pointer.injEq, Option.some.injEq, Addr.mk.injEq, and_true] at e1
          obtain ⟨rfl, rfl⟩ := e1
          refine ⟨xs.toArray, by simpa using e2, rfl, fun w' hw' => ?_⟩
          show (loadCells ⟨b.block, b.base + off, none⟩ (len * size)).run P w' = _
          have := run_loadCells_list (P := P) w' ⟨b.block, b.base + off, none⟩ xs (fun j v hj => by
            rw [Addr.add_none]
            rw [cell_same (w := w) (w' := w') (by rw [hw'])]
            exact e4 j v hj)
          rw [e3] at this
          exact this
        · cases hc
      · cases hc
  case str s =>
    simp only [Option.some.injEq, Prod.mk.injEq] at hc
    obtain ⟨rfl, rfl⟩ := hc
    have := hx.ok rfl
    simp only [conc, Option.some.injEq] at this; subst this
    have hb : ∀ (l : List UInt8), concL ι (l.map fun b => V.int .u8 b.toNat) = some (l.map fun b => Value.int .u8 b.toNat) := by
      intro l
      induction l with
      | nil => simp [concL]
      | cons x l ih => simp [concL, conc, ih]
    refine ⟨(s.data.map fun b => .int .u8 b.toNat), ?_, rfl, fun w' _ => ?_⟩
    · rw [hb]; simp
    · show (pure ((s.extract 0 s.size).data.map fun b => Value.int .u8 b.toNat) : Sem (Array Value)).run P w' = _
      rw [ByteArray.extract_zero_size]
      rfl

end ops
end Go.AI

/- append. -/
namespace Go.AI
variable {P : Program}

theorem nextslicecap_le {need cap : Nat} (h : cap < need) : Builtin.nextslicecap need cap ≤ 2 * need := by
  unfold Builtin.nextslicecap
  split
  · omega
  · split
    · omega
    · have grow : ∀ r c, c ≤ 2 * need → Builtin.growBy need r c ≤ 2 * need ∨ need < 768 := by
        intro r
        induction r with
        | zero => intro c hc; exact .inl hc
        | succ r ih =>
          intro c hc
          unfold Builtin.growBy
          split
          · exact .inl hc
          · by_cases h7 : need < 768
            · exact .inr h7
            · exact ih _ (by omega)
      rcases grow 4 cap (by omega) with q | q
      · exact q
      · -- small: at most four rounds of a quarter
        have small : ∀ r c, 256 ≤ c → c ≤ 2 * need → Builtin.growBy need r c ≤ 2 * need := by
          intro r
          induction r with
          | zero => intro c _ hc; exact hc
          | succ r ih =>
            intro c h2 hc
            unfold Builtin.growBy
            split
            · exact hc
            · exact ih _ (by omega) (by omega)
        exact small 4 cap (by omega) (by omega)

section ops
variable {ι : List Blk} {β : Nat → Nat} {L : Boxes} {m : Mem} {E : Env} {dsts : List (Option Tmp)} {locs A : List V} {a : Act}

/-- append, as the model runs it: what is appended is known, in whatever world has the same heap. -/
theorem append_run {sT xT elem : TypeId} {size bytes : Nat} {z : Value} (hu : P.underlying sT = some (.slice elem)) {xd : TypeDesc} (hxu : P.underlying xT = some xd) (hsz : sizeT P elem = some size) (hby : bytesT P elem = some bytes) (hz : ∀ w, (zeroValue elem).run P w = .ok z w)
    {base : Option Addr} {sLen sCap n : Nat} {x : Value} {new : Array Value} {w : World} (ty : TypeId)
    (hsrc : ((∀ k, xd ≠ .int k) ∧ (Builtin.lenOf x).run P w = .ok n w ∧ ∀ w' : World, w'.heap = w.heap → (Builtin.firstCells size n x).run P w' = .ok new w') ∨
      ((∃ k, xd = .int k) ∧ (∃ k, x = .int k (n : Int)) ∧ n < 4611686018427387904 ∧ n * bytes ≤ 281474976710656 ∧ new = Builtin.zeroCells z.cells n ∧ z.cells.size = size)) :
    (sLen + n ≤ sCap → ∀ w', (match base with | some a => (storeCells (a.add (sLen * size)) new.toList).run P w | none => .ok () w) = .ok () w' → (Builtin.append_ #[sT, xT] ty #[.slice base sLen sCap, x]).run P w = .ok (.slice base (sLen + n) sCap) w') ∧
    (¬ sLen + n ≤ sCap → (sLen + n) * bytes * 2 ≤ 281474976710656 → sLen + n < 4611686018427387904 → ∀ old : Array Value, (∀ w' : World, w'.heap = w.heap → (Builtin.firstCells size sLen (.slice base sLen sCap)).run P w' = .ok old w') →
      ∃ newCap, sLen + n ≤ newCap ∧ (Builtin.append_ #[sT, xT] ty #[.slice base sLen sCap, x]).run P w =
        .ok (.slice (some ⟨w.heap.size, 0, none⟩) (sLen + n) newCap) (World.alloc { w with drawn := w.drawn + 1 } (.cells (old ++ new ++ Builtin.zeroCells z.cells (newCap - (sLen + n))) elem))) := by
  have wrapn : ∀ n : Nat, n < 4611686018427387904 → IntKind.i64.wrap (n : Int) = (n : Int) := by
    intro n hn
    rw [← wrap64_eq]
    have h1 : (n : Int) % 18446744073709551616 = n := Int.emod_eq_of_lt (by omega) (by omega)
    simp only [wrap64, h1]
    rw [if_neg (by omega)]
  obtain ⟨info, hinfo, hbytes⟩ := bytesT_run hby w
  have hmax : ∀ k : Nat, k < 4611686018427387904 → ¬ ((k : Int) > IntKind.i64.max) := by
    intro k hk
    simp [IntKind.max, IntKind.signed, IntKind.bits]; omega
  constructor
  · intro hle w' hst
    unfold Builtin.append_
    simp only [List.getElem?_toArray, List.getElem?_cons_zero, List.getElem?_cons_succ, Sem.run_bind, run_underlying hu, run_underlying hxu, sizeT_run hsz, Result.andThen, Sem.run_pure]
    rcases hsrc with ⟨h1, h2, h3⟩ | ⟨⟨k, rfl⟩, ⟨k', rfl⟩, h3, h4, rfl, h5⟩
    · have hz0 : (match xd with | .int _ => true | _ => false) = false := by cases xd <;> first | rfl | exact absurd rfl (h1 _)
      simp only [hz0, Bool.false_eq_true, if_false, Bool.not_false, if_true]
      rw [Sem.run_bind, h2]
      simp only [Result.andThen]
      rw [if_pos hle]
      simp only [Sem.run_bind, h3 w rfl, Result.andThen]
      cases base with
      | none => simp only [Result.ok.injEq, true_and] at hst; subst hst; rfl
      | some a => simp only at hst; simp only [Sem.run_bind, hst, Result.andThen]; rfl
    · simp only [if_true, Sem.run_bind, asInt, run_asIntOf, Result.andThen, Sem.run_pure, wrapn n h3]
      rw [if_neg (by omega)]
      simp only [Sem.run_bind, hinfo, Result.andThen, hbytes]
      rw [if_neg (by omega)]
      simp only [Sem.run_bind, Sem.run_pure, Result.andThen, Int.toNat_natCast]
      rw [if_pos hle]
      by_cases h0 : n * size = 0
      · have hnew : Builtin.zeroCells z.cells n = #[] := by
          unfold Builtin.zeroCells; rw [h5, h0]; simp
        rw [hnew] at hst
        simp only [Bool.not_true, Bool.false_eq_true, if_false, h0, if_true, Sem.run_bind, Sem.run_pure, Result.andThen]
        cases base with
        | none => simp only [Result.ok.injEq, true_and] at hst; subst hst; rfl
        | some a => simp only at hst; simp only [Sem.run_bind, hst, Result.andThen]; rfl
      · simp only [Bool.not_true, Bool.false_eq_true, if_false, h0, Sem.run_bind, hz, Sem.run_pure, Result.andThen]
        cases base with
        | none => simp only [Result.ok.injEq, true_and] at hst; subst hst; rfl
        | some a => simp only at hst; simp only [Sem.run_bind, hst, Result.andThen]; rfl
  · intro hgt hroom hbig old hold
    have hcap : ¬ (Builtin.nextslicecap (sLen + n) sCap * info.bytes > 2 ^ 48) := by
      have h1 := Nat.mul_le_mul_right bytes (nextslicecap_le (need := sLen + n) (cap := sCap) (by omega))
      rw [hbytes]
      have h2 : 2 * (sLen + n) * bytes = (sLen + n) * bytes * 2 := by rw [Nat.mul_comm 2, Nat.mul_assoc, Nat.mul_comm 2, ← Nat.mul_assoc]
      omega
    have hinfo' : ∀ w' : World, (typeInfo elem).run P w' = .ok info w' := by
      intro w'
      have := hinfo
      unfold typeInfo at this ⊢
      simp only [Sem.run_bind, run_program, Result.andThen] at this ⊢
      cases hi : P.info? elem with
      | none => rw [hi] at this; cases this
      | some i => rw [hi] at this; simp only [Sem.run_pure, Result.ok.injEq, and_true] at this ⊢; exact this
    refine ⟨(Question.appendCap (sLen + n) sCap elem).cut (w.tape w.drawn (.appendCap (sLen + n) sCap elem)), by simp only [Question.cut]; omega, ?_⟩
    have hask : ∀ (k : Nat) (w' : World), (askRoom k).run P w' = .ok () w' := by
      intro k w'; unfold askRoom; split <;> rfl
    have hdraw : ∀ (K : Nat → Sem Value), (do let c ← choose (.appendCap (sLen + n) sCap elem); K c : Sem Value).run P w =
        (K ((Question.appendCap (sLen + n) sCap elem).cut (w.tape w.drawn (.appendCap (sLen + n) sCap elem)))).run P { w with drawn := w.drawn + 1 } := by
      intro K
      rw [Sem.run_bind, run_choose]
      simp [Question.forced, Result.andThen]
    unfold Builtin.append_
    simp only [List.getElem?_toArray, List.getElem?_cons_zero, List.getElem?_cons_succ, Sem.run_bind, run_underlying hu, run_underlying hxu, sizeT_run hsz, Result.andThen, Sem.run_pure]
    rcases hsrc with ⟨h1, h2, h3⟩ | ⟨⟨k, rfl⟩, ⟨k', rfl⟩, h3, h4, rfl, h5⟩
    · have hz0 : (match xd with | .int _ => true | _ => false) = false := by cases xd <;> first | rfl | exact absurd rfl (h1 _)
      simp only [hz0, Bool.false_eq_true, if_false, Bool.not_false, if_true]
      rw [Sem.run_bind, h2]
      simp only [Result.andThen]
      rw [if_neg hgt]
      rw [Sem.run_bind, hinfo]
      simp only [Result.andThen]
      rw [if_neg (fun hc => hmax _ hbig hc.1), Sem.run_bind, hinfo]
      simp only [Result.andThen]
      rw [if_neg hcap, hdraw, Sem.run_bind, hinfo']
      simp only [Result.andThen, Sem.run_bind, hask]
      rw [hold { w with drawn := w.drawn + 1 } rfl]
      simp only []
      rw [h3 { w with drawn := w.drawn + 1 } rfl]
      simp only [hz, run_newRow]
      rfl
    · simp only [if_true, Sem.run_bind, asInt, run_asIntOf, Result.andThen, Sem.run_pure, wrapn n h3]
      rw [if_neg (by omega)]
      simp only [Sem.run_bind, hinfo, Result.andThen, hbytes]
      rw [if_neg (by omega)]
      simp only [Sem.run_bind, Sem.run_pure, Result.andThen, Int.toNat_natCast]
      rw [if_neg hgt]
      rw [Sem.run_bind, hinfo]
      simp only [Result.andThen]
      rw [if_neg (fun hc => hmax _ hbig hc.1), Sem.run_bind, hinfo]
      simp only [Result.andThen]
      rw [if_neg hcap, hdraw, Sem.run_bind, hinfo']
      simp only [Result.andThen, Sem.run_bind, hask]
      rw [hold { w with drawn := w.drawn + 1 } rfl]
      by_cases h0 : n * size = 0
      · have hnew : Builtin.zeroCells z.cells n = #[] := by
          unfold Builtin.zeroCells; rw [h5, h0]; simp
        simp only [Bool.not_true, Bool.false_eq_true, if_false, h0, if_true, Sem.run_bind, Sem.run_pure, Result.andThen, hz, run_newRow, hnew]
      · simp only [Bool.not_true, Bool.false_eq_true, if_false, h0, Sem.run_bind, hz, Sem.run_pure, Result.andThen, run_newRow]

end ops
end Go.AI

/- append: what the interpreter says of it. -/
namespace Go.AI
variable {P : Program}

section ops
variable {ι : List Blk} {β : Nat → Nat} {L : Boxes} {m : Mem} {E : Env} {dsts : List (Option Tmp)} {locs A : List V} {a : Act}

/-- An object gives its block to a new one. -/
theorem WR.moveTo {w w' : World} (h : WR P ι β L m w) {o : Nat} {x y : Ob} {b b' : Blk} (hg : m.get o = some x) (hrw : x.rw = true) (hb : ι[o]? = some b) (hbb : b'.block = b.block)
    (hy : ObR P (ι ++ [b']) w' b' y) (hro : ∀ cs, y ≠ .cells cs true)
    (hsz : w'.heap.size = w.heap.size) (hother : ∀ k, k ≠ b.block → w'.heap[k]? = w.heap[k]?) (hloop : ∀ r, w.heap[b.block]? = some (Obj.loop r) → ∃ r', w'.heap[b.block]? = some (Obj.loop r')) (hos : w'.os = w.os ∧ w'.output = w.output ∧ w'.tape = w.tape) :
    WR P (ι ++ [b']) β L ((m.put o .gone true).push y) w' ∧ Tr ι β L m w (ι ++ [b']) β L ((m.put o .gone true).push y) w' := by
  have hmine : owns ι β L m (.ob o) b.block := ⟨x, b, hg, hrw, hb, rfl⟩
  obtain ⟨h1, t1⟩ := h.setObj (f := true) (y := .gone) hg hrw hb trivial (by simp) hsz hother hloop hos
  have hpre : ι <+: ι ++ [b'] := List.prefix_append _ _
  have hnx : (m.put o .gone true).next = ι.length := by rw [Mem.put_next, h.len]
  have hnew : (ι ++ [b'])[(m.put o .gone true).next]? = some b' := by rw [hnx]; simp
  have hown1 : ∀ k c, owns ι β L (m.put o .gone true) k c → owns ι β L m k c ∧ c ≠ b.block := by
    intro k c hk
    have hk' : owns ι β L m k c := by
      cases k with
      | ob o' =>
        obtain ⟨z, bl, g1, g2, g3, rfl⟩ := hk
        rw [Mem.get_put hg] at g1
        by_cases he : o' = o
        · rw [if_pos he] at g1; cases g1; simp [Ob.rw] at g2
        · rw [if_neg he] at g1; exact ⟨z, bl, g1, g2, g3, rfl⟩
      | bx s => exact hk
    refine ⟨hk', fun e => ?_⟩
    have := h.inj k (.ob o) b.block (e ▸ hk') hmine
    subst this
    obtain ⟨z, bl, g1, g2, _⟩ := hk
    rw [Mem.get_put hg, if_pos rfl] at g1; cases g1; simp [Ob.rw] at g2
  have hown : ∀ k c, owns (ι ++ [b']) β L ((m.put o .gone true).push y) k c → (k = .ob (m.put o .gone true).next ∧ c = b.block) ∨ owns ι β L (m.put o .gone true) k c := by
    intro k c hk
    cases k with
    | ob o' =>
      obtain ⟨z, bl, g1, g2, g3, rfl⟩ := hk
      rw [Mem.get_push] at g1
      by_cases he : o' = (m.put o .gone true).next
      · subst he; rw [hnew] at g3; cases g3; exact .inl ⟨rfl, hbb⟩
      · rw [if_neg he] at g1
        rw [get_append_old (by rw [← hnx]; exact Mem.get_lt g1)] at g3
        exact .inr ⟨z, bl, g1, g2, g3, rfl⟩
    | bx s => exact .inr hk
  refine ⟨{ len := ?_, glob := ?_, obj := ?_, box := ?_, inj := ?_, ro := ?_ }, ?_⟩
  · intro o' z hz
    rw [Mem.get_push] at hz
    by_cases he : o' = (m.put o .gone true).next
    · subst he; rw [if_pos rfl] at hz; cases hz; exact ⟨_, hnew, hy⟩
    · rw [if_neg he] at hz
      obtain ⟨b0, hb0, hob⟩ := h1.obj o' z hz
      exact ⟨b0, get_pre hpre hb0, hob.keep hpre fun _ _ => rfl⟩
  · intro s hs
    obtain ⟨xs, t, g1, g2⟩ := h1.box s hs
    exact ⟨xs, t, concL_pre hpre _ _ g1, g2⟩
  · show (ι ++ [b']).length = (m.put o .gone true).next + 1
    rw [hnx]; simp
  · intro g hg'
    obtain ⟨b0, hb0, q⟩ := h.glob g hg'
    exact ⟨b0, get_pre hpre hb0, q⟩
  · intro k k' c hk hk'
    rcases hown k c hk with ⟨rfl, rfl⟩ | g1
    · rcases hown k' _ hk' with ⟨rfl, _⟩ | g2
      · rfl
      · exact absurd rfl (hown1 _ _ g2).2
    · rcases hown k' c hk' with ⟨rfl, rfl⟩ | g2
      · exact absurd rfl (hown1 _ _ g1).2
      · exact h1.inj k k' c g1 g2
  · intro o' cs b0 k hz hne hb0 hk
    rw [Mem.get_push] at hz
    by_cases he : o' = (m.put o .gone true).next
    · rw [if_pos he] at hz; cases hz; exact hro cs rfl
    · rw [if_neg he] at hz
      rw [get_append_old (by rw [← hnx]; exact Mem.get_lt hz)] at hb0
      rcases hown k b0.block hk with ⟨_, hbl⟩ | g1
      · rw [Mem.get_put hg] at hz
        by_cases he' : o' = o
        · rw [if_pos he'] at hz; cases hz
        · rw [if_neg he'] at hz
          exact h.ro o' cs b0 (.ob o) hz hne hb0 (hbl ▸ hmine)
      · exact h1.ro o' cs b0 k hz hne hb0 g1
  · refine ⟨hpre, t1.size, t1.same, t1.loops, fun k c hk => ?_, t1.os, fun o' cs h3 => ?_⟩
    · rcases hown k c hk with ⟨_, rfl⟩ | g1
      · exact .inl ⟨_, hmine⟩
      · exact t1.own k c g1
    · rw [Mem.get_push] at h3
      split at h3
      · cases h3; exact absurd rfl (hro cs)
      · exact t1.ro o' cs h3

theorem firstCells_slc {w : World} (h : RD P ι β L m w) {o off len size b : Nat} {off' : Nat} {cs : List V} {ro : Bool} {bl : Blk} (hg : m.get o = some (.cells cs ro)) (hb : ι[o]? = some bl) (hle : off + len * size ≤ cs.length) (k : Nat) (hb2 : bl.block = b) (hoff : 0 < len → off' = bl.base + off) :
    ∃ xs : List Value, concL ι (slice cs off (len * size)) = some xs ∧ xs.length = len * size ∧ ∀ w' : World, w'.heap = w.heap → (Builtin.firstCells size len (.slice (some ⟨b, off', none⟩) len k)).run P w' = .ok xs.toArray w' := by
  subst hb2
  obtain ⟨b0, o0, xs, e1, e2, e3, e4⟩ := h.readN (v := .ptr o off) (c := .pointer (some ⟨bl.block, bl.base + off, none⟩)) (n := len * size) (cs := slice cs off (len * size)) (VR.of (by simp [conc, hb])) (by
    cases ro <;> simp [readN, hg, hle])
  simp only [Value.pointer.injEq, Option.some.injEq, Addr.mk.injEq, and_true] at e1
  obtain ⟨rfl, rfl⟩ := e1
  refine ⟨xs, e2, e3, fun w' hw' => ?_⟩
  show (loadCells ⟨bl.block, off', none⟩ (len * size)).run P w' = _
  by_cases hl : len = 0
  · subst hl
    rw [Nat.zero_mul] at e3 ⊢
    have : xs = [] := List.eq_nil_of_length_eq_zero e3
    subst this; rfl
  · rw [hoff (by omega)]
    have := run_loadCells_list (P := P) w' ⟨bl.block, bl.base + off, none⟩ xs (fun j v hj => by
      rw [Addr.add_none]
      rw [cell_same (w := w) (w' := w') (by rw [hw'])]
      exact e4 j v hj)
    rw [e3] at this
    exact this

theorem append_sound {w : World} (h : WR P ι β L m w) {sT xT elem : TypeId} {size bytes : Nat} {z : Value} (hu : P.underlying sT = some (.slice elem)) {xd : TypeDesc} (hxu : P.underlying xT = some xd) (hsz : sizeT P elem = some size) (hby : bytesT P elem = some bytes) (hz : ∀ w, (zeroValue elem).run P w = .ok z w) (hzs : z.cells.size = size)
    (ty : TypeId) {s : V} {c x : Value} (hs : VR ι β L s c) {n : Nat} {new : List V} {ys : Array Value} (hy : concL ι new = some ys.toList)
    (hsrc : ((∀ k, xd ≠ .int k) ∧ (Builtin.lenOf x).run P w = .ok n w ∧ ∀ w' : World, w'.heap = w.heap → (Builtin.firstCells size n x).run P w' = .ok ys w') ∨
      ((∃ k, xd = .int k) ∧ (∃ k, x = .int k (n : Int)) ∧ n < 4611686018427387904 ∧ n * bytes ≤ 281474976710656 ∧ ys = Builtin.zeroCells z.cells n ∧ z.cells.size = size))
    {v : V} {L' : Boxes} {m' : Mem} (ha : append L m bytes size s new n = some (v, L', m')) :
    ∃ v' w' ι', (Builtin.append_ #[sT, xT] ty #[c, x]).run P w = .ok v' w' ∧ WR P ι' β L' m' w' ∧ Tr ι β L m w ι' β L' m' w' ∧ VR ι' β L' v v' ∧ L' = L := by
  unfold append at ha
  split at ha
  · cases ha
  rename_i hpre
  simp only [Bool.not_eq_true', Bool.not_eq_false, Bool.and_eq_true, beq_iff, blt_iff] at hpre
  obtain ⟨⟨hones, hnl⟩, hpos⟩ := hpre
  have hyl : ys.size = n * size := by have := concL_length hy; simp at this; omega
  have hy1 : ∀ q ∈ ys.toList, q.oneCell' = true := oneCells_of_ones hy hones
  have hzsz : ∀ k, (Builtin.zeroCells z.cells k).size = k * size := by intro k; unfold Builtin.zeroCells; simp [hzs]
  -- growth, in every case
  have grow : ∀ {base : Option Addr} {len cap : Nat} {old : List V} {ox : List Value}, c = .slice base len cap → concL ι old = some ox → ox.length = len * size → (∀ w' : World, w'.heap = w.heap → (Builtin.firstCells size len (.slice base len cap)).run P w' = .ok ox.toArray w') → ¬ len + n ≤ cap → (len + n) * bytes * 2 ≤ 281474976710656 → len + n < 4611686018427387904 →
      ∀ {m1 : Mem}, m1.next = m.next → WR P ι β L m1 w → Tr ι β L m w ι β L m1 w →
      ∃ v' w' ι', (Builtin.append_ #[sT, xT] ty #[c, x]).run P w = .ok v' w' ∧ WR P ι' β L (m1.push (.cells (old ++ new) false)) w' ∧ Tr ι β L m w ι' β L (m1.push (.cells (old ++ new) false)) w' ∧ VR ι' β L (.slc m.next 0 0 (len + n) (.op size)) v' := by
    intro base len cap old ox hc ho hol hfirst hgt hroom hbig m1 hm1 h1 t1
    obtain ⟨newCap, hnc, hrun⟩ := (append_run (P := P) hu hxu hsz hby hz (base := base) (sLen := len) (sCap := cap) (n := n) (x := x) (new := ys) (w := w) ty hsrc).2 hgt hroom hbig ox.toArray hfirst
    subst hc
    obtain ⟨h2, t2⟩ := h1.drawn (w.drawn + 1)
    have hcl := concL_append ho hy
    have hnl2 : n * size + (newCap - (len + n)) * size + len * size = newCap * size := by rw [← Nat.add_mul, ← Nat.add_mul]; congr 1; omega
    have hob : ObR P (ι ++ [⟨w.heap.size, 0, newCap * size⟩]) (World.alloc { w with drawn := w.drawn + 1 } (.cells (ox.toArray ++ ys ++ Builtin.zeroCells z.cells (newCap - (len + n))) elem)) ⟨w.heap.size, 0, newCap * size⟩ (.cells (old ++ new) false) := by
      refine ⟨ox ++ ys.toList, _, elem, concL_pre (List.prefix_append _ _) _ _ hcl, World.alloc_new { w with drawn := w.drawn + 1 } _, ?_, ?_, fun i u hi => ?_⟩
      · simp [hol, hyl, hzsz]; omega
      · have := concL_length hcl
        simp at this ⊢; omega
      · have hlt : i < (ox ++ ys.toList).length := (List.getElem?_eq_some_iff.1 hi).1
        rw [Nat.zero_add, Array.getElem?_append_left (by simpa using hlt)]
        rw [← Array.getElem?_toList]
        simpa using hi
    obtain ⟨h3, t3⟩ := h2.newObj (.cells (old ++ new) false) _ (newCap * size) hob (by simp)
    refine ⟨_, _, _, hrun, h3, (t1.trans t2).trans t3, VR.of ?_⟩
    have hg2 : (ι ++ [(⟨w.heap.size, 0, newCap * size⟩ : Blk)])[m.next]? = some ⟨w.heap.size, 0, newCap * size⟩ := by rw [← hm1, ← h1.len]; simp
    simp only [conc, hg2, Option.bind_some, Nat.sub_zero]
    simp only [Nat.mul_div_cancel _ hpos]
    rw [if_pos hnc]
    simp
  cases s <;> simp only at ha <;> try (cases ha; done)
  case nils =>
    have hc := hs.ok rfl
    simp only [conc, Option.some.injEq] at hc
    split at ha
    · rename_i h0
      simp only [beq_iff] at h0
      subst h0
      simp only [Option.some.injEq, Prod.mk.injEq] at ha
      obtain ⟨rfl, rfl, rfl⟩ := ha
      have hye : ys.toList = [] := List.eq_nil_of_length_eq_zero (by simp at hyl; simp [hyl])
      have := (append_run (P := P) hu hxu hsz hby hz (base := none) (sLen := 0) (sCap := 0) (n := 0) (x := x) (new := ys) (w := w) ty hsrc).1 (by omega) w rfl
      subst hc
      exact ⟨_, _, ι, this, h, Tr.refl _ _ _ _ _, VR.of (by simp [conc]), rfl⟩
    · split at ha
      · rename_i h0 hc2
        simp only [Bool.and_eq_true, ble_iff, blt_iff] at hc2
        simp only [Option.some.injEq, Prod.mk.injEq] at ha
        obtain ⟨rfl, rfl, rfl⟩ := ha
        rw [← Nat.zero_add n] at hc2
        have h0 : n ≠ 0 := fun e => h0 (beq_iff.2 e)
        obtain ⟨v', w', ι', q1, q2, q3, q4⟩ := grow hc.symm (old := []) (ox := []) (by simp [concL]) (by simp) (fun w' _ => by
          rfl) (by omega) (by omega) (by omega) rfl h (Tr.refl _ _ _ _ _)
        refine ⟨v', w', ι', q1, by simpa using q2, by simpa using q3, by simpa using q4, rfl⟩
      · cases ha
  case slc o off off0 len cap =>
    have hcv := hs.ok rfl
    split at ha
    · rename_i h0
      simp only [beq_iff] at h0
      subst h0
      have hye : ys.toList = [] := List.eq_nil_of_length_eq_zero (by simp at hyl; simp [hyl])
      have hform : ∃ b k, c = .slice (some b) len k ∧ len ≤ k ∧ v = .slc o off off0 len cap ∧ L' = L ∧ m' = m := by
        cases cap with
        | ex k =>
          simp only at ha
          split at ha
          · rename_i hk
            simp only [Option.some.injEq, Prod.mk.injEq] at ha
            simp only [conc, Option.map_eq_some_iff] at hcv
            obtain ⟨b, _, rfl⟩ := hcv
            exact ⟨_, k, rfl, ble_iff.1 hk, ha.1.symm, ha.2.1.symm, ha.2.2.symm⟩
          · cases ha
        | op e =>
          simp only [Option.some.injEq, Prod.mk.injEq] at ha
          simp only [conc, Option.bind_eq_some_iff] at hcv
          obtain ⟨b, _, hcv⟩ := hcv
          split at hcv
          · rename_i hk
            simp only [Option.some.injEq] at hcv
            subst hcv
            exact ⟨_, _, rfl, hk, ha.1.symm, ha.2.1.symm, ha.2.2.symm⟩
          · cases hcv
      obtain ⟨b, k, rfl, hk, rfl, rfl, rfl⟩ := hform
      have := (append_run (P := P) hu hxu hsz hby hz (base := some b) (sLen := len) (sCap := k) (n := 0) (x := x) (new := ys) (w := w) ty hsrc).1 (by omega) w (by rw [hye]; rfl)
      exact ⟨_, _, ι, this, h, Tr.refl _ _ _ _ _, hs, rfl⟩
    · rename_i h0
      have h0 : n ≠ 0 := fun e => h0 (beq_iff.2 e)
      split at ha
      · rename_i cs ro hg
        split at ha
        · rename_i hc2
          simp only [Bool.and_eq_true, ble_iff, blt_iff] at hc2
          obtain ⟨⟨hle, hroom⟩, hbig⟩ := hc2
          obtain ⟨b, hb, hob⟩ := h.obj o _ hg
          have hmul : (len + n) * size = len * size + n * size := Nat.add_mul _ _ _
          cases cap with
          | ex k =>
            simp only [conc, hb, Option.map_some, Option.some.injEq] at hcv
            simp only at ha
            split at ha
            · rename_i hk
              simp only [ble_iff] at hk
              split at ha
              · rename_i hro
                simp only [Bool.and_eq_true, Bool.not_eq_true', ble_iff] at hro
                obtain ⟨rfl, hfit⟩ := hro
                simp only [Option.some.injEq, Prod.mk.injEq] at ha
                obtain ⟨rfl, rfl, rfl⟩ := ha
                obtain ⟨b0, o0, cur, t, e1, e2, e3, e4, e5, _⟩ := write_sound h (u := .ptr o (off + len * size)) (c := .pointer (some ⟨b.block, b.base + (off + len * size), none⟩)) (VR.of (by simp [conc, hb])) hy (L' := L) (m' := m.put o (.cells (splice cs (off + len * size) new) false) (V.flatL new)) (by
                  simp only [writeN, hg]
                  rw [if_pos (ble_iff.2 (by omega))])
                simp only [Value.pointer.injEq, Option.some.injEq, Addr.mk.injEq, and_true] at e1
                obtain ⟨rfl, rfl⟩ := e1
                have hrun := (append_run (P := P) hu hxu hsz hby hz (base := some ⟨b.block, b.base + off, none⟩) (sLen := len) (sCap := k) (n := n) (x := x) (new := ys) (w := w) ty hsrc).1 hk _ (by
                  simp only
                  rw [Addr.add_none, Nat.add_assoc]
                  exact run_storeCells_at (P := P) b.block (b.base + (off + len * size)) t ys.toList 0 cur w e2 (by simpa using e3) hy1)
                subst hcv
                exact ⟨_, _, ι, hrun, e4, e5, VR.of (by simp [conc, hb]), rfl⟩
              · cases ha
            · rename_i hk
              have hk : ¬ len + n ≤ k := fun e => hk (ble_iff.2 e)
              simp only [Option.some.injEq, Prod.mk.injEq] at ha
              obtain ⟨rfl, rfl, rfl⟩ := ha
              obtain ⟨xs, q1, q2, q3⟩ := firstCells_slc h.toRD hg hb hle k rfl (fun _ => rfl)
              obtain ⟨v', w', ι', r1, r2, r3, r4⟩ := grow hcv.symm q1 q2 q3 hk (by omega) hbig rfl h (Tr.refl _ _ _ _ _)
              exact ⟨v', w', ι', r1, r2, r3, r4, rfl⟩
          | op esz =>
            simp only [conc, hb, Option.bind_some] at hcv
            simp only at ha
            split at ha
            · cases ha
            · rename_i hro
              simp only [Bool.or_eq_true, not_or, Bool.not_eq_true, Bool.not_eq_false', beq_iff] at hro
              obtain ⟨rfl, rfl⟩ := hro
              simp only [Option.some.injEq, Prod.mk.injEq] at ha
              obtain ⟨rfl, rfl, rfl⟩ := ha
              split at hcv
              · rename_i hlen
                simp only [Option.some.injEq] at hcv
                by_cases hk : len + n ≤ (b.n - off) / esz
                · -- in place
                  have hk0 : (b.n - off) / esz ≠ 0 := by omega
                  rw [if_neg hk0] at hcv
                  subst hcv
                  have hfit : (len + n) * esz ≤ b.n - off := Nat.le_trans (Nat.mul_le_mul_right _ hk) (Nat.div_mul_le_self _ _)
                  have hob' := hob
                  obtain ⟨xs, arr, t, hz1, hheap, hsz1, hcl, hcell⟩ := hob
                  have hzl := concL_length hz1
                  have hpos1 : 0 < n * esz := Nat.mul_pos (by omega) hpos
                  obtain ⟨k1, k2, k3, k4, k5⟩ := setRow_keep (new := (arr.toList.take (b.base + off + len * esz) ++ ys.toList ++ arr.toList.drop (b.base + off + len * esz + ys.toList.length)).toArray) hheap
                  have hrun := (append_run (P := P) hu hxu hsz hby hz (base := some ⟨b.block, b.base + off, none⟩) (sLen := len) (sCap := (b.n - off) / esz) (n := n) (x := x) (new := ys) (w := w) ty hsrc).1 hk _ (by
                    simp only
                    rw [Addr.add_none]
                    exact run_storeCells_at (P := P) b.block (b.base + off + len * esz) t ys.toList 0 arr w hheap (by simp; omega) hy1)
                  have hob2 : ObR P (ι ++ [⟨b.block, b.base + off, b.n - off⟩]) (w.setRow b.block (arr.toList.take (b.base + off + len * esz) ++ ys.toList ++ arr.toList.drop (b.base + off + len * esz + ys.toList.length)).toArray) ⟨b.block, b.base + off, b.n - off⟩ (.cells (slice cs off (len * esz) ++ new) false) := by
                    have hc1 := concL_append (concL_slice off (len * esz) hz1) hy
                    refine ⟨_, _, t, concL_pre (List.prefix_append _ _) _ _ hc1, k1, by simp; omega, ?_, fun i u hi => ?_⟩
                    · have := concL_length hc1
                      simp at this ⊢; omega
                    · simp only [List.getElem?_toArray]
                      by_cases h1 : i < len * esz
                      · rw [List.getElem?_append_left (by simp; omega), List.getElem?_take_of_lt h1, List.getElem?_drop] at hi
                        rw [List.append_assoc, List.getElem?_append_left (by simp; omega), List.getElem?_take_of_lt (by omega)]
                        rw [Nat.add_assoc]
                        simpa using hcell _ _ hi
                      · have hl1 : ((xs.drop off).take (len * esz)).length = len * esz := by simp; omega
                        rw [List.getElem?_append_right (by omega), hl1] at hi
                        have hi2 := (List.getElem?_eq_some_iff.1 hi).1
                        rw [List.append_assoc, List.getElem?_append_right (by simp; omega), List.getElem?_append_left (by simp at hi2 ⊢; omega)]
                        rw [← hi]; congr 1; simp; omega
                  obtain ⟨g1, g2⟩ := h.moveTo (b' := ⟨b.block, b.base + off, b.n - off⟩) hg rfl hb rfl hob2 (by simp) k2 k3 k4 k5
                  have hput : (m.put o .gone true).next = m.next := Mem.put_next
                  refine ⟨_, _, _, hrun, g1, g2, VR.of ?_, rfl⟩
                  have hg2 : (ι ++ [(⟨b.block, b.base + off, b.n - off⟩ : Blk)])[m.next]? = some ⟨b.block, b.base + off, b.n - off⟩ := by rw [← h.len]; simp
                  simp only [conc, hg2, Option.bind_some, Nat.sub_zero]
                  rw [if_pos hk]
                  simp
                · obtain ⟨xs, q1, q2, q3⟩ := firstCells_slc h.toRD hg hb hle ((b.n - off) / esz) rfl (off' := b.base + if (b.n - off) / esz = 0 then off0 else off) (fun hl => by rw [if_neg (by omega)])
                  obtain ⟨g1, g2⟩ := h.setObj (f := true) (y := .gone) hg rfl hb trivial (by simp) rfl (fun _ _ => rfl) (fun r hr => ⟨r, hr⟩) ⟨rfl, rfl, rfl⟩
                  obtain ⟨v', w', ι', r1, r2, r3, r4⟩ := grow hcv.symm q1 q2 q3 hk (by omega) hbig Mem.put_next g1 g2
                  exact ⟨v', w', ι', r1, r2, r3, r4, rfl⟩
              · cases hcv
        · cases ha
      · cases ha
end ops
end Go.AI

/- Every operation that makes or writes memory. -/
namespace Go.AI
variable {P : Program}

section ops
variable {ι : List Blk} {β : Nat → Nat} {L : Boxes} {m : Mem} {E : Env} {dsts : List (Option Tmp)} {locs A : List V} {a : Act}

/-- What a writing operation does. -/
def Eff (P : Program) (ι : List Blk) (β : Nat → Nat) (L : Boxes) (m : Mem) (w : World) (site : Site) (v : V) (L' : Boxes) (m' : Mem) (s : Sem Next) : Prop :=
  ∃ ι' β' w', WR P ι' β' L' m' w' ∧ Tr ι β L m w ι' β' L' m' w' ∧ Keep site β L β' L' ∧ ((∃ c, VR ι' β' L' v c ∧ s.run P w = .ok (.value c) w') ∨ (v = .tup [] ∧ s.run P w = .ok .skip w'))

theorem findKey_key {e : Eq} {k : V} : ∀ {es : List (V × V)} {i j : Nat} {v : V}, findKey e k es i = some (some (j, v)) → i ≤ j ∧ ∃ k', es[j - i]? = some (k', v) ∧ eqV e k k' = some true
  | [], i, j, v, h => by simp [findKey] at h
  | (k0, v0) :: es, i, j, v, h => by
    simp only [findKey] at h
    split at h
    · rename_i hq
      simp only [Option.some.injEq, Prod.mk.injEq] at h
      obtain ⟨rfl, rfl⟩ := h
      exact ⟨Nat.le_refl _, k0, by simp, hq⟩
    · obtain ⟨h1, k', h2, h3⟩ := findKey_key h
      refine ⟨by omega, k', ?_, h3⟩
      rw [show j - i = (j - (i + 1)) + 1 by omega]; simpa using h2
    · cases h

theorem ba_eq {a b : ByteArray} (h : (a == b) = true) : a = b := by
  obtain ⟨x⟩ := a
  obtain ⟨y⟩ := b
  have : (x == y) = true := h
  rw [beq_iff_eq.1 this]

theorem ba_self (a : ByteArray) : (a == a) = true := by
  obtain ⟨x⟩ := a
  show (x == x) = true
  simp

theorem modify_set {α : Type} (l : List α) (f : α → α) (i : Nat) (x : α) (h : l[i]? = some x) : l.modify i f = l.set i (f x) := by
  apply List.ext_getElem?
  intro j
  rw [List.getElem?_modify, List.getElem?_set]
  by_cases hj : i = j
  · subst hj
    obtain ⟨h1, h2⟩ := List.getElem?_eq_some_iff.1 h
    simp [h1, h2]
  · simp [hj]

theorem same_of_eq {t : TypeId} {e : Eq} (hk : keyEq P t = some e) {x y : V} {c d : Value} (h : eqV e x y = some true) (hx : conc ι x = some c) (hy : conc ι y = some d) : c = d ∧ ∀ n, Instr.sameBits n c c = true := by
  obtain ⟨dd, ks, hu, rfl, hd⟩ := keyEq_plain hk
  have h' : eqL ks [x] [y] = some true := h
  have hks : ∃ k, ks = [k] := by
    cases ks with
    | nil => simp [eqL] at h'
    | cons k ks => cases ks with
      | nil => exact ⟨k, rfl⟩
      | cons k2 ks =>
        simp only [eqL] at h'
        split at h' <;> simp at h'
  obtain ⟨k, rfl⟩ := hks
  have h1 := eq1_of h'
  unfold eq1 at h1
  split at h1 <;> first | (cases h1; done) | skip
  · simp only [conc, Option.some.injEq, beq_iff_eq] at hx hy h1
    subst h1; subst hx
    exact ⟨Option.some.inj (by simpa using hy), fun n => by cases n <;> simp [Instr.sameBits]⟩
  · split at h1
    · rename_i hq
      subst hq
      simp only [conc, Option.some.injEq, beq_iff_eq] at hx hy h1
      subst h1; subst hx
      exact ⟨Option.some.inj (by simpa using hy), fun n => by cases n <;> simp [Instr.sameBits]⟩
    · cases h1
  · simp only [conc, Option.some.injEq] at hx hy h1
    obtain rfl := ba_eq h1
    subst hx
    exact ⟨Option.some.inj (by simpa using hy), fun n => by cases n <;> simp only [Instr.sameBits, ba_self]⟩

theorem EntsR.length : ∀ {es : List (V × V)} {fs : List MapEntry}, EntsR ι es fs → es.length = fs.length
  | [], [], _ => rfl
  | _ :: es, _ :: fs, ⟨_, _, h⟩ => by simp [EntsR.length h]
  | [], _ :: _, h => h.elim
  | _ :: _, [], h => h.elim

theorem EntsR.get : ∀ {es : List (V × V)} {fs : List MapEntry} {i : Nat} {k v : V}, EntsR ι es fs → es[i]? = some (k, v) → ∃ f, fs[i]? = some f ∧ conc ι k = some f.key ∧ conc ι v = some f.val
  | (k, v) :: es, f :: fs, 0, _, _, ⟨h1, h2, _⟩, h => by simp at h; obtain ⟨rfl, rfl⟩ := h; exact ⟨f, by simp, h1, h2⟩
  | _ :: es, f :: fs, i + 1, _, _, ⟨_, _, h3⟩, h => by simp at h; obtain ⟨g, h4, h5⟩ := h3.get h; exact ⟨g, by simpa using h4, h5⟩
  | [], [], _, _, _, _, h => by simp at h
  | [], _ :: _, _, _, _, h, _ => h.elim
  | _ :: _, [], _, _, _, h, _ => h.elim

theorem EntsR.set : ∀ {es : List (V × V)} {fs : List MapEntry} (i : Nat) {k v : V} {f : MapEntry}, EntsR ι es fs → conc ι k = some f.key → conc ι v = some f.val → EntsR ι (es.set i (k, v)) (fs.set i f)
  | [], [], _, _, _, _, _, _, _ => trivial
  | (_, _) :: es, _ :: fs, 0, k, v, f, ⟨_, _, h3⟩, h4, h5 => ⟨h4, h5, h3⟩
  | (_, _) :: es, _ :: fs, i + 1, k, v, f, ⟨h1, h2, h3⟩, h4, h5 => ⟨h1, h2, h3.set i h4 h5⟩
  | [], _ :: _, _, _, _, _, h, _, _ => h.elim
  | _ :: _, [], _, _, _, _, h, _, _ => h.elim

theorem EntsR.append : ∀ {es : List (V × V)} {fs : List MapEntry} {k v : V} {f : MapEntry}, EntsR ι es fs → conc ι k = some f.key → conc ι v = some f.val → EntsR ι (es ++ [(k, v)]) (fs ++ [f])
  | [], [], _, _, _, _, h4, h5 => ⟨h4, h5, trivial⟩
  | (_, _) :: es, _ :: fs, k, v, f, ⟨h1, h2, h3⟩, h4, h5 => ⟨h1, h2, h3.append h4 h5⟩
  | [], _ :: _, _, _, _, h, _, _ => h.elim
  | _ :: _, [], _, _, _, h, _, _ => h.elim

theorem getObj_run {w : World} {b : Nat} {o : Obj} (h : w.heap[b]? = some o) (hc : ∀ a t f, o ≠ .cells a t f) : (getObj b).run P w = .ok o w := by
  simp only [getObj, Sem.run, h]

theorem setObj_run' {w : World} {b : Nat} {o o0 : Obj} (h0 : w.heap[b]? = some o0) (hc : ∀ a t f, o0 ≠ .cells a t f) : ∃ w', (setObj b o).run P w = .ok () w' ∧ w'.heap[b]? = some o ∧ w'.heap.size = w.heap.size ∧ (∀ k, k ≠ b → w'.heap[k]? = w.heap[k]?) ∧ (w'.os = w.os ∧ w'.output = w.output ∧ w'.tape = w.tape) := by
  refine ⟨{ w with heap := w.heap.setIfInBounds b o }, ?_, ?_, ?_, fun k hk => ?_, rfl, rfl, rfl⟩
  · simp only [setObj, Sem.run, h0]
  · simp [lt_of_get h0]
  · simp
  · simp [Ne.symm hk]

theorem update_run {t kt et : TypeId} (hu : P.underlying t = some (.map kt et)) {e : Eq} (hk : keyEq P kt = some e) {w : World} (h : WR P ι β L m w) {k v : V} {ck cv : Value} (hck : conc ι k = some ck) (hcv : conc ι v = some cv) {o : Nat} {es : List (V × V)} (hg : m.get o = some (.mp es)) {cx : Value} (hx : conc ι (.map o) = some cx)
    {r : Option (Nat × V)} (hf : findKey e k es 0 = some r) (fl : Bool) :
    ∃ w', (Instr.mapUpdate t cx ck cv).run P w = .ok () w' ∧ WR P ι β L (m.put o (.mp (match r with | some (i, _) => es.set i (k, v) | none => es ++ [(k, v)])) fl) w' ∧ Tr ι β L m w ι β L (m.put o (.mp (match r with | some (i, _) => es.set i (k, v) | none => es ++ [(k, v)])) fl) w' := by
  simp only [conc, Option.map_eq_some_iff] at hx
  obtain ⟨b, hb, rfl⟩ := hx
  obtain ⟨b', hb', hob⟩ := h.obj o _ hg
  rw [hb] at hb'; cases hb'
  obtain ⟨ents, clock, hh, he⟩ := hob
  have fin : ∀ (ents' : Array MapEntry) (clock' : Nat) (es' : List (V × V)), EntsR ι es' ents'.toList → ∃ w', (setObj b.block (.map ents' clock')).run P w = .ok () w' ∧ WR P ι β L (m.put o (.mp es') fl) w' ∧ Tr ι β L m w ι β L (m.put o (.mp es') fl) w' := by
    intro ents' clock' es' he'
    obtain ⟨w', q1, q2, q3, q4, q5⟩ := setObj_run' (P := P) (o := .map ents' clock') hh (by simp)
    obtain ⟨g1, g2⟩ := h.setObj (f := fl) (y := .mp es') hg rfl hb ⟨ents', clock', q2, he'⟩ (by simp) q3 q4 (fun r hr => by rw [hh] at hr; cases hr) q5
    exact ⟨w', q1, g1, g2⟩
  have pre : ∀ {X : Option (Nat × Value)}, (Instr.findKey kt ck ents.toList).run P w = .ok X w → (Instr.mapUpdate t (.map (some b.block)) ck cv).run P w = ((match X with
    | some (i, _) => do
      let key ← Instr.keyThatStays (((ents[i]?).map (·.key)).getD ck) ck
      setObj b.block (.map (ents.modify i fun e => { e with key, val := cv }) clock)
    | none => setObj b.block (.map (ents.push { key := ck, val := cv, born := clock }) (clock + 1))) : Sem Unit).run P w := by
    intro X hX
    unfold Instr.mapUpdate
    simp only [Sem.run_bind, run_underlying hu, Result.andThen, getObj_run hh (by simp), checkKey_run hk, hX]
    cases X <;> rfl
  rcases findKey_run hk hck hf he w with ⟨rfl, q⟩ | ⟨j, u, cu, rfl, _, q, _, _⟩
  · obtain ⟨w', q1, q2, q3⟩ := fin (ents.push { key := ck, val := cv, born := clock }) (clock + 1) (es ++ [(k, v)]) (by
      rw [Array.toList_push]
      exact he.append hck hcv)
    exact ⟨w', by rw [pre q]; exact q1, q2, q3⟩
  · obtain ⟨_, k', hkk, heq⟩ := findKey_key hf
    obtain ⟨f, hf1, hf2, hf3⟩ := he.get hkk
    obtain ⟨hs1, hs2⟩ := same_of_eq hk heq hck hf2
    simp only [Nat.sub_zero] at hf1
    have hf1' : ents[j]? = some f := by simpa using hf1
    obtain ⟨w', q1, q2, q3⟩ := fin (ents.modify j fun e => { e with key := ck, val := cv }) clock (es.set j (k, v)) (by
      have : (ents.modify j fun e => { e with key := ck, val := cv }).toList = ents.toList.set j { f with key := ck, val := cv } := by
        rw [Array.toList_modify, modify_set _ _ _ _ hf1]
      rw [this]
      exact he.set j hck hcv)
    refine ⟨w', ?_, q2, q3⟩
    rw [pre q]
    simp only [hf1', Option.map_some, Option.getD_some, Sem.run_bind]
    have hstay : (Instr.keyThatStays f.key ck).run P w = .ok ck w := by
      unfold Instr.keyThatStays
      rw [← hs1, if_pos (hs2 _)]
      rfl
    rw [hstay]
    exact q1

theorem ex_u {s : Sem Unit} {w w' : World} (hs : s.run P w = .ok () w') : (do s; pure Next.skip : Sem Next).run P w = .ok .skip w' := by
  rw [Sem.run_bind, hs]; rfl

theorem ex_v' {s : Sem Value} {c : Value} {w w' : World} (hs : s.run P w = .ok c w') : (do pure (Next.value (← s)) : Sem Next).run P w = .ok (.value c) w' := by
  rw [Sem.run_bind, hs]; rfl

theorem call_builtin' {b : Builtin} {args : Array Operand} {argTypes : Array TypeId} {o : Oper} (ho : o.op = .call { callee := .builtin b, args, argTypes }) {c : Value} {w w' : World}
    (h : ∀ consts, (builtin b argTypes o.type consts (args.map a.eval)).run P w = .ok (.value c) w') : (execOp a.eval o).run P w = .ok (.value c) w' := by
  unfold execOp
  simp only [ho]
  unfold resolve
  simp only [Sem.run_bind, Sem.run_pure, Result.andThen]
  unfold invoke
  exact h _

theorem VR.tup0 : VR ι β L (.tup []) undef := VR.of (by simp [conc, concL, undef])

theorem eff_builtin {w : World} (h : WR P ι β L m w) (cx : CX (P := P) ι β L E dsts locs A a) {o : Oper} {q : EOp} {b : Builtin} {args : Array Operand} {argTypes : Array TypeId} (ho : o.op = .call { callee := .builtin b, args, argTypes })
    (hc : compBuiltin P E dsts b args.toList argTypes.toList = some (.e q)) {v : V} {L' : Boxes} {m' : Mem} (he : effOp locs A L m q = some (v, L', m')) : Eff P ι β L m w (siteOf q) v L' m' (execOp a.eval o) := by
  unfold compBuiltin at hc
  split at hc
  · split at hc <;> (try simp only [Option.map_eq_some_iff, Option.some.injEq] at hc)
    all_goals first | (obtain ⟨_, _, hc⟩ := hc; cases hc; done) | (cases hc; done) | skip
    split at hc <;> cases hc
  · split at hc
    · simp only [Option.map_eq_some_iff] at hc
      obtain ⟨_, _, hc⟩ := hc; cases hc
    · cases hc
  · rename_i s x t u hs ht
    have hargs : args = #[s, x] := by apply Array.ext'; simpa using hs
    have hts : argTypes = #[t, u] := by apply Array.ext'; simpa using ht
    subst hargs; subst hts
    have hb : ∀ consts, builtin .append #[t, u] o.type consts (#[s, x].map a.eval) = (do pure (Next.value (← Builtin.append_ #[t, u] o.type #[a.eval s, a.eval x])) : Sem Next) := fun consts => by simp [builtin]
    split at hc
    · rename_i e k hu hxu
      simp only [Option.bind_eq_bind, Option.bind_eq_some_iff, Option.pure_def, Option.some.injEq] at hc
      obtain ⟨ss, h1, sx, h2, z, h3, n, h4, hc⟩ := hc
      split at hc
      · cases hc
      · rename_i hz
        simp only [Option.bind_eq_some_iff, Option.some.injEq, RK.e.injEq] at hc
        obtain ⟨by_, h5, rfl⟩ := hc
        simp only [effOp] at he
        split at he
        · cases he
        · rename_i k1 hk1
          split at he
          · rename_i hcond
            simp only [Bool.and_eq_true, ble_iff, blt_iff, beq_iff] at hcond
            obtain ⟨⟨hc1, hc2⟩, hc3⟩ := hcond
            obtain ⟨zc, hzc, hzr⟩ := zeroT_run ι h3
            have hzl := concL_length (conc_cells hzc)
            have hzs : zc.cells.size = n := by simp at hzl; omega
            have hx := (opd_VR cx h2).ok (by
              unfold V.asNat at hk1; split at hk1 <;> first | (rename_i hh; rw [hh]; rfl) | cases hk1)
            obtain ⟨kk, hxk⟩ := asNat_conc hk1 hx
            obtain ⟨v', w', ι', r1, r2, r3, r4, r5⟩ := append_sound h hu hxu h4 h5 hzr hzs o.type (opd_VR cx h1) (n := k1) (new := reps k1 z.cells) (ys := Builtin.zeroCells zc.cells k1) (x := a.eval x) (by
              unfold Builtin.zeroCells
              simpa using zeroCells_reps (conc_cells hzc) k1) (.inr ⟨⟨k, rfl⟩, ⟨kk, hxk⟩, hc2, hc1, rfl, hzs⟩) he
            subst r5
            exact ⟨ι', β, w', r2, r3, Keep.refl _ _ _, .inl ⟨v', r4, call_builtin' ho fun consts => by rw [hb]; exact ex_v' r1⟩⟩
          · cases he
    · rename_i e xd hnk hu hxu
      simp only [Option.bind_eq_bind, Option.bind_eq_some_iff, Option.pure_def, Option.some.injEq] at hc
      obtain ⟨ss, h1, sx, h2, z, h3, n, h4, hc⟩ := hc
      split at hc
      · cases hc
      · rename_i hz
        simp only [Option.bind_eq_some_iff, Option.some.injEq, RK.e.injEq] at hc
        obtain ⟨by_, h5, rfl⟩ := hc
        simp only [effOp] at he
        split at he
        · cases he
        · rename_i new k1 hk1
          obtain ⟨zc, hzc, hzr⟩ := zeroT_run ι h3
          have hzl := concL_length (conc_cells hzc)
          have hzs : zc.cells.size = n := by simp at hzl; omega
          obtain ⟨ys, y1, y2, y3⟩ := cells_sound h.toRD (opd_VR cx h2) hk1
          obtain ⟨v', w', ι', r1, r2, r3, r4, r5⟩ := append_sound h hu hxu h4 h5 hzr hzs o.type (opd_VR cx h1) (n := k1) (new := new) (ys := ys) (x := a.eval x) y1 (.inl ⟨fun k hk => hnk k (by rw [hk]), y2, y3⟩) he
          subst r5
          exact ⟨ι', β, w', r2, r3, Keep.refl _ _ _, .inl ⟨v', r4, call_builtin' ho fun consts => by rw [hb]; exact ex_v' r1⟩⟩
    · cases hc
  · simp only [Option.bind_eq_bind, Option.bind_eq_some_iff, Option.pure_def, Option.some.injEq] at hc
    obtain ⟨_, _, _, _, hc⟩ := hc; cases hc
  · simp only [Option.bind_eq_bind, Option.bind_eq_some_iff, Option.pure_def, Option.some.injEq] at hc
    obtain ⟨_, _, _, _, hc⟩ := hc; cases hc
  · cases hc

end ops
end Go.AI

namespace Go.AI
variable {P : Program}

section ops
variable {ι : List Blk} {β : Nat → Nat} {L : Boxes} {m : Mem} {E : Env} {dsts : List (Option Tmp)} {locs A : List V} {a : Act}

theorem VR.cellsR {v : V} {c : Value} (h : VR ι β L v c) (h1 : ones v.cells = true) : concL ι v.cells = some c.cells.toList := by
  refine conc_cells (h.ok ?_)
  cases v <;> first | rfl | (simp [V.cells, ones, V.one] at h1)

theorem newObjCells {w : World} (h : WR P ι β L m w) {cs : List V} {xs : List Value} (hx : concL ι cs = some xs) (t : TypeId) (arr : Array Value) (harr : arr.toList = xs) :
    WR P (ι ++ [⟨w.heap.size, 0, xs.length⟩]) β L (m.push (.cells cs false)) (w.alloc (.cells arr t)) ∧ Tr ι β L m w (ι ++ [⟨w.heap.size, 0, xs.length⟩]) β L (m.push (.cells cs false)) (w.alloc (.cells arr t)) := by
  have hxs : arr = xs.toArray := by rw [← harr]
  subst hxs
  refine h.newObj (.cells cs false) _ xs.length ⟨xs, xs.toArray, t, concL_pre (List.prefix_append _ _) _ _ hx, World.alloc_new w _, by simp, by simp [concL_length hx], fun i v hv => by simpa using hv⟩ (by simp)

theorem new_get {w : World} (h : WR P ι β L m w) (n : Nat) : (ι ++ [(⟨w.heap.size, 0, n⟩ : Blk)])[m.next]? = some ⟨w.heap.size, 0, n⟩ := by rw [← h.len]; simp

theorem zeros_cells {z : V} {zc : Value} (hz : conc ι z = some zc) (n : Nat) : concL ι (reps n z.cells) = some ((Array.range (n * zc.cells.size)).map (zc.cells[· % zc.cells.size]!)).toList := by
  have := zeroCells_reps (conc_cells hz) n
  rw [this]
  simp

theorem plainKey_ok {e : Eq} {v : V} (h : plainKey e v = true) : v.ok = true := by
  unfold plainKey at h
  split at h
  · rename_i r hr; exact (eqV_ok hr).1
  · cases h

theorem eff_sound {w : World} (h : WR P ι β L m w) (cx : CX (P := P) ι β L E dsts locs A a) {o : Oper} {q : EOp} (hc : compOp P E dsts o = some (.e q)) {v : V} {L' : Boxes} {m' : Mem} (he : effOp locs A L m q = some (v, L', m')) : Eff P ι β L m w (siteOf q) v L' m' (execOp a.eval o) := by
  obtain ⟨dst, op, ty, pos, after, guard⟩ := o
  cases op <;> simp only [compOp] at hc
  case alloc t =>
    simp only [Option.bind_eq_bind, Option.bind_eq_some_iff, Option.pure_def, Option.some.injEq, RK.e.injEq] at hc
    obtain ⟨z, hz, rfl⟩ := hc
    obtain ⟨zc, hzc, hzr⟩ := zeroT_run ι hz
    simp only [effOp, Option.some.injEq] at he
    obtain ⟨ι', β', q1, q2, q3, q4⟩ := newVar_sound h (conc_cells hzc) t (dst.bind E.site)
    rw [he] at q1 q2 q3 q4
    refine ⟨ι', β', _, q1, q2, q4, .inl ⟨_, q3, ?_⟩⟩
    refine ex_v' (s := Instr.alloc t true (.tuple #[])) ?_
    unfold Instr.alloc
    rw [Sem.run_bind, hzr]
    rfl
  case box t x =>
    simp only [Option.bind_eq_bind, Option.bind_eq_some_iff, Option.pure_def, Option.some.injEq, RK.e.injEq] at hc
    obtain ⟨s, hs, rfl⟩ := hc
    simp only [effOp] at he
    split at he
    · rename_i h1
      simp only [Option.some.injEq] at he
      obtain ⟨ι', β', q1, q2, q3, q4⟩ := newVar_sound h ((opd_VR cx hs).cellsR h1) t (dst.bind E.site)
      rw [he] at q1 q2 q3 q4
      exact ⟨ι', β', _, q1, q2, q4, .inl ⟨_, q3, rfl⟩⟩
    · cases he
  case buildSlice t len parts =>
    split at hc
    · rename_i e hu
      simp only [Option.bind_eq_bind, Option.bind_eq_some_iff, Option.pure_def, Option.some.injEq] at hc
      obtain ⟨z, hz, n, hn, hc⟩ := hc
      split at hc
      · cases hc
      · rename_i hlim
        simp only [Option.bind_eq_some_iff, Option.some.injEq, RK.e.injEq] at hc
        obtain ⟨ps, hps, rfl⟩ := hc
        simp only [Bool.or_eq_true, decide_eq_true_eq, not_or, Nat.not_lt] at hlim
        obtain ⟨⟨hl1, hl2⟩, hl3⟩ := hlim
        simp only [effOp] at he
        split at he
        · rename_i cs hf
          simp only [Option.some.injEq, Prod.mk.injEq] at he
          obtain ⟨rfl, rfl, rfl⟩ := he
          obtain ⟨zc, hzc, hzr⟩ := zeroT_run ι hz
          have hzl := concL_length (conc_cells hzc)
          have hzs : zc.cells.size = n := by simp at hzl hl3; omega
          have ⟨l1, l2⟩ := parts_VR cx hps
          obtain ⟨ys, hy1, hy2⟩ := fill_run (pl := fun i => some (i * n, n)) _ _ _ _ _ l1 l2 (zeros_cells hzc len) hf
          obtain ⟨g1, g2⟩ := newObjCells h hy2 e ys rfl
          refine ⟨_, β, _, g1, g2, Keep.refl _ _ _, .inl ⟨.slice (some ⟨w.heap.size, 0, none⟩) len len, VR.of ?_, ?_⟩⟩
          · simp only [conc, new_get h, Option.map_some]
          · refine ex_v' (s := Instr.buildSlice t len _) ?_
            unfold Instr.buildSlice
            simp only [Sem.run_bind, run_underlying hu, Result.andThen, sizeT_run hn]
            rw [if_neg (by omega)]
            rw [hzs] at hy1
            by_cases h0 : len * n = 0
            · rw [h0] at hy1 ⊢
              simp only [Array.range_zero', Array.map_empty] at hy1
              simp only [if_true, Sem.run_bind, Sem.run_pure, Result.andThen, Array.range_zero', Array.map_empty, evals_map, hy1, run_newRow]
            · simp only [h0, if_false, Sem.run_bind, hzr, Result.andThen, Sem.run_pure, hzs, evals_map]
              simp only [Array.toArray_toList] at hy1
              simp only [hy1, run_newRow, Sem.run_bind, Sem.run_pure, Result.andThen]
        · cases he
    · cases hc
  case store t x y =>
    simp only [Option.bind_eq_bind, Option.bind_eq_some_iff, Option.pure_def, Option.some.injEq, RK.e.injEq] at hc
    obtain ⟨n, hn, sx, hx, sy, hy, rfl⟩ := hc
    simp only [effOp] at he
    split at he
    · rename_i hcond
      simp only [Bool.and_eq_true, beq_iff] at hcond
      split at he
      · rename_i L1 m1 hw
        simp only [Option.some.injEq, Prod.mk.injEq] at he
        obtain ⟨rfl, rfl, rfl⟩ := he
        have hcells := (opd_VR cx hy).cellsR hcond.2
        obtain ⟨b, o0, cur, t0, e1, e2, e3, e4, e5, e6⟩ := write_sound h (opd_VR cx hx) hcells hw
        refine ⟨ι, β, _, e4, e5, e6, .inr ⟨rfl, ?_⟩⟩
        have hl := concL_length hcells
        simp only [Array.length_toList] at hl e3
        have := storeVar_run (P := P) (t := t) (n := n) (o := o0) (v := a.eval y) hn e2 (by omega) (by omega) (oneCells_of_ones hcells hcond.2)
        refine ex_u (s := Instr.storeAt t (a.eval x) (a.eval y)) ?_
        rw [e1]; exact this
      · cases he
    · cases he
  case makeMap t r =>
    cases r with
    | some r => simp only [] at hc; cases hc
    | none =>
      simp only [Option.some.injEq, RK.e.injEq] at hc
      subst hc
      simp only [effOp, Option.some.injEq, Prod.mk.injEq] at he
      obtain ⟨rfl, rfl, rfl⟩ := he
      obtain ⟨g1, g2⟩ := h.newObj (.mp []) (.map #[] 0) 0 ⟨#[], 0, World.alloc_new w _, trivial⟩ (by simp)
      refine ⟨_, β, _, g1, g2, Keep.refl _ _ _, .inl ⟨.map (some w.heap.size), VR.of ?_, rfl⟩⟩
      simp only [conc, new_get h, Option.map_some]
  case makeSlice t l c =>
    split at hc
    · rename_i e hu
      simp only [Option.bind_eq_bind, Option.bind_eq_some_iff, Option.pure_def, Option.some.injEq] at hc
      obtain ⟨z, hz, n, hn, hc⟩ := hc
      split at hc
      · cases hc
      · rename_i hzn
        simp only [Option.bind_eq_some_iff, Option.some.injEq, RK.e.injEq] at hc
        obtain ⟨by_, hby, sl, hsl, sc, hsc, rfl⟩ := hc
        simp only [effOp] at he
        split at he
        · rename_i l1 c1 hl1 hc1
          split at he
          · rename_i hcond
            simp only [Bool.and_eq_true, ble_iff, blt_iff] at hcond
            obtain ⟨⟨k1, k2⟩, k3⟩ := hcond
            simp only [Option.some.injEq, Prod.mk.injEq] at he
            obtain ⟨rfl, rfl, rfl⟩ := he
            obtain ⟨zc, hzc, hzr⟩ := zeroT_run ι hz
            have hzl := concL_length (conc_cells hzc)
            have hzs : zc.cells.size = n := by simp at hzl; omega
            have ok1 : ∀ {s : Src} {k : Nat}, (ev locs A s).asNat = some k → (ev locs A s).ok = true := by
              intro s k hk; unfold V.asNat at hk; split at hk <;> first | (rename_i hh; rw [hh]; rfl) | cases hk
            obtain ⟨kl, el⟩ := asNat_conc hl1 ((opd_VR cx hsl).ok (ok1 hl1))
            obtain ⟨kc, ec⟩ := asNat_conc hc1 ((opd_VR cx hsc).ok (ok1 hc1))
            have hx := zeros_cells hzc c1
            rw [hzs] at hx
            obtain ⟨g1, g2⟩ := newObjCells h hx e _ rfl
            refine ⟨_, β, _, g1, g2, Keep.refl _ _ _, .inl ⟨.slice (some ⟨w.heap.size, 0, none⟩) l1 c1, VR.of ?_, ?_⟩⟩
            · simp only [conc, new_get h, Option.map_some]
            · refine ex_v' (s := Instr.makeSlice t (a.eval l) (a.eval c)) ?_
              rw [el, ec]
              obtain ⟨info, hinfo, hbytes⟩ := bytesT_run hby w
              unfold Instr.makeSlice
              simp only [Sem.run_bind, run_underlying hu, Result.andThen, asInt, run_asIntOf, Sem.run_pure, hinfo, hbytes]
              have wr : ∀ k : Nat, k < 9223372036854775808 → IntKind.i64.wrap (k : Int) = (k : Int) := by
                intro k hk
                rw [← wrap64_eq]
                have h1 : (k : Int) % 18446744073709551616 = k := Int.emod_eq_of_lt (by omega) (by omega)
                simp only [wrap64, h1]
                rw [if_neg (by omega)]
              rw [wr l1 (by omega), wr c1 k3]
              have k2' : (by_ : Int) * (c1 : Int) ≤ 281474976710656 := by
                have q := Int.ofNat_le.2 k2
                rw [Int.natCast_mul] at q
                omega
              have d1 : decide ((c1 : Int) < 0) = false := decide_eq_false (by omega)
              have d2 : decide ((by_ : Int) * (c1 : Int) > 2 ^ 48) = false := decide_eq_false (by omega)
              have d3 : decide ((l1 : Int) < 0) = false := decide_eq_false (by omega)
              have d4 : decide ((l1 : Int) > (c1 : Int)) = false := decide_eq_false (by omega)
              rw [d1, d2, d3, d4]
              show Sem.run P (do askRoom _; _) w = _
              have hask : ∀ (k : Nat) (w' : World), (askRoom k).run P w' = .ok () w' := by
                intro k w'; unfold askRoom; split <;> rfl
              simp only [Sem.run_bind, hask, Result.andThen, sizeT_run hn, Int.toNat_natCast]
              by_cases h0 : c1 * n = 0
              · simp only [h0, if_true, Sem.run_bind, Sem.run_pure, Result.andThen, run_newRow, Array.range_zero', Array.map_empty]
              · simp only [h0, if_false, Sem.run_bind, hzr, Result.andThen, Sem.run_pure, run_newRow, hzs]
          · cases he
        · cases he
    · cases hc
  case mapUpdate t mm k x =>
    split at hc
    · rename_i kt et hu
      simp only [Option.bind_eq_bind, Option.bind_eq_some_iff, Option.pure_def, Option.some.injEq, RK.e.injEq] at hc
      obtain ⟨ke, hke, sm, hm, sk, hk, sv, hv, rfl⟩ := hc
      simp only [effOp] at he
      split at he
      · rename_i hpk
        simp only [Bool.and_eq_true] at hpk
        split at he
        · rename_i o' ho'
          split at he
          · rename_i es hg
            have hx := (opd_VR cx hm).ok (by rw [ho']; rfl)
            rw [ho'] at hx
            have hkk := (opd_VR cx hk).ok (plainKey_ok hpk.1)
            have hvv := (opd_VR cx hv).ok hpk.2
            split at he
            · rename_i i u hf
              simp only [Option.some.injEq, Prod.mk.injEq] at he
              obtain ⟨rfl, rfl, rfl⟩ := he
              obtain ⟨w', r1, r2, r3⟩ := update_run hu hke h hkk hvv hg hx hf _
              exact ⟨ι, β, w', r2, r3, Keep.refl _ _ _, .inr ⟨rfl, ex_u r1⟩⟩
            · rename_i hf
              simp only [Option.some.injEq, Prod.mk.injEq] at he
              obtain ⟨rfl, rfl, rfl⟩ := he
              obtain ⟨w', r1, r2, r3⟩ := update_run hu hke h hkk hvv hg hx hf _
              exact ⟨ι, β, w', r2, r3, Keep.refl _ _ _, .inr ⟨rfl, ex_u r1⟩⟩
            · cases he
          · cases he
        · cases he
      · cases he
    · cases hc
  case insert t mm k x =>
    split at hc
    · rename_i kt et hu
      simp only [Option.bind_eq_bind, Option.bind_eq_some_iff, Option.pure_def, Option.some.injEq, RK.e.injEq] at hc
      obtain ⟨ke, hke, sm, hm, sk, hk, sv, hv, rfl⟩ := hc
      simp only [effOp] at he
      split at he
      · rename_i hpk
        simp only [Bool.and_eq_true] at hpk
        split at he
        · rename_i o' ho'
          split at he
          · rename_i es hg
            have hx := (opd_VR cx hm).ok (by rw [ho']; rfl)
            rw [ho'] at hx
            have hkk := (opd_VR cx hk).ok (plainKey_ok hpk.1)
            have hvv := (opd_VR cx hv).ok hpk.2
            split at he
            · rename_i i u hf
              simp only [Option.some.injEq, Prod.mk.injEq] at he
              obtain ⟨rfl, rfl, rfl⟩ := he
              obtain ⟨w', r1, r2, r3⟩ := update_run hu hke h hkk hvv hg hx hf _
              exact ⟨ι, β, w', r2, r3, Keep.refl _ _ _, .inr ⟨rfl, ex_u r1⟩⟩
            · rename_i hf
              simp only [Option.some.injEq, Prod.mk.injEq] at he
              obtain ⟨rfl, rfl, rfl⟩ := he
              obtain ⟨w', r1, r2, r3⟩ := update_run hu hke h hkk hvv hg hx hf _
              exact ⟨ι, β, w', r2, r3, Keep.refl _ _ _, .inr ⟨rfl, ex_u r1⟩⟩
            · cases he
          · cases he
        · cases he
      · cases he
    · cases hc
  case call c =>
    obtain ⟨callee, args, argTypes⟩ := c
    cases callee with
    | builtin b => exact eff_builtin h cx rfl hc he
    | value f =>
      simp only [Option.bind_eq_bind, Option.bind_eq_some_iff, Option.pure_def, Option.some.injEq] at hc
      obtain ⟨_, _, _, _, hc⟩ := hc; cases hc
    | invoke r m =>
      simp only [Option.bind_eq_bind, Option.bind_eq_some_iff, Option.pure_def, Option.some.injEq] at hc
      obtain ⟨_, _, _, _, hc⟩ := hc; cases hc
  all_goals (try split at hc) <;> (try split at hc) <;> (try split at hc) <;> first | (cases hc; done) | skip
  all_goals simp only [Option.map_eq_some_iff, Option.bind_eq_bind, Option.bind_eq_some_iff, Option.pure_def, Option.some.injEq, reduceCtorEq, and_false, exists_false, exists_const] at hc
  all_goals (repeat (first | (cases hc; done) | (obtain ⟨_, _, hc⟩ := hc) | (split at hc) | simp only [Option.map_eq_some_iff, Option.bind_eq_bind, Option.bind_eq_some_iff, Option.pure_def, Option.some.injEq, reduceCtorEq, and_false, exists_false, exists_const] at hc))

end ops
end Go.AI

/- What a run leaves of the elder objects, seen on the memory alone. -/
namespace Go.AI

def Ob.under (n : Nat) : Ob → Prop
  | .cells cs _ => V.underL n cs = true
  | .mp es => ∀ p ∈ es, p.1.under n = true ∧ p.2.under n = true
  | .loop _ _ A _ _ _ => ∀ v ∈ A, v = .dead ∨ v.under n = true
  | .gone => True

structure MM (m m' : Mem) : Prop where
  lo : m'.lo = m.lo
  next : m.next ≤ m'.next
  wmin : m'.wmin ≤ m.wmin
  dmin : m'.dmin ≤ m.dmin
  w : ∀ o, o < m.lo → o < m'.wmin → m'.get o = m.get o
  d : ∀ o, o < m.lo → o < m'.dmin → ∀ x', m'.get o = some x' → ∃ x, m.get o = some x ∧ ∀ n, x.under n → x'.under n

theorem MM.refl (m : Mem) : MM m m := ⟨rfl, Nat.le_refl _, Nat.le_refl _, Nat.le_refl _, fun _ _ _ => rfl, fun _ _ _ x' h => ⟨x', h, fun _ h => h⟩⟩

theorem MM.trans {m m1 m2 : Mem} (h : MM m m1) (h2 : MM m1 m2) : MM m m2 :=
  ⟨by rw [h2.lo, h.lo], Nat.le_trans h.next h2.next, Nat.le_trans h2.wmin h.wmin, Nat.le_trans h2.dmin h.dmin,
   fun o ho hw => by rw [h2.w o (by rw [h.lo]; exact ho) hw, h.w o ho (Nat.lt_of_lt_of_le hw h2.wmin)],
   fun o ho hd x' hx' => by
    obtain ⟨x1, hx1, hu1⟩ := h2.d o (by rw [h.lo]; exact ho) hd x' hx'
    obtain ⟨x0, hx0, hu0⟩ := h.d o ho (Nat.lt_of_lt_of_le hd h2.dmin) x1 hx1
    exact ⟨x0, hx0, fun n hn => hu1 n (hu0 n hn)⟩⟩

theorem MM.push {m : Mem} (hle : m.lo ≤ m.next) (x : Ob) : MM m (m.push x) := by
  have hg : ∀ o, o < m.lo → (m.push x).get o = m.get o := fun o ho => by rw [Mem.get_push, if_neg (by omega)]
  exact ⟨rfl, Nat.le_succ _, Nat.le_refl _, Nat.le_refl _, fun o ho _ => hg o ho, fun o ho _ x' hx' => ⟨x', by rw [← hg o ho]; exact hx', fun _ h => h⟩⟩

theorem MM.put {m : Mem} {o : Nat} {x y : Ob} {flat : Bool} (hg : m.get o = some y) (hf : flat = true → ∀ n, y.under n → x.under n) : MM m (m.put o x flat) := by
  have hget := fun o' => Mem.get_put (x := x) (f := flat) (o' := o') hg
  by_cases ho : o < m.lo
  · have hp : m.put o x flat = { m with objs := m.objs.set (m.next - 1 - o) x, wmin := min m.wmin o, dmin := if flat then m.dmin else min m.dmin o } := by
      unfold Mem.put; rw [if_pos (blt_iff.2 ho)]
    have hw : (m.put o x flat).wmin = min m.wmin o := by rw [hp]
    have hd : (m.put o x flat).dmin = if flat then m.dmin else min m.dmin o := by rw [hp]
    refine ⟨Mem.put_lo, by rw [Mem.put_next]; exact Nat.le_refl _, by rw [hw]; omega, by rw [hd]; split <;> omega, fun o' _ h2 => ?_, fun o' _ h2 x' hx' => ?_⟩
    · rw [hw] at h2
      rw [hget, if_neg (by omega)]
    · rw [hget] at hx'
      split at hx'
      · rename_i he
        subst he
        cases hx'
        rw [hd] at h2
        cases flat with
        | true => exact ⟨y, hg, hf rfl⟩
        | false => simp at h2; omega
      · exact ⟨x', hx', fun _ h => h⟩
  · have hp : m.put o x flat = { m with objs := m.objs.set (m.next - 1 - o) x } := by
      unfold Mem.put; rw [if_neg (by rw [blt_iff]; exact ho)]
    have hw : (m.put o x flat).wmin = m.wmin := by rw [hp]
    have hd : (m.put o x flat).dmin = m.dmin := by rw [hp]
    have hg2 : ∀ o', o' < m.lo → (m.put o x flat).get o' = m.get o' := fun o' h => by rw [hget, if_neg (by omega)]
    exact ⟨Mem.put_lo, by rw [Mem.put_next]; exact Nat.le_refl _, by omega, by omega, fun o' h1 _ => hg2 o' h1, fun o' h1 _ x' hx' => ⟨x', by rw [← hg2 o' h1]; exact hx', fun _ h => h⟩⟩

mutual
theorem flat_under (n : Nat) : ∀ v : V, v.flat = true → v.under n = true
  | .bool _, _ => rfl
  | .int _ _, _ => rfl
  | .str _, _ => rfl
  | .nilp, _ => rfl
  | .ptr _ _, h => by simp [V.flat] at h
  | .lp _ _, h => by simp [V.flat] at h
  | .nils, _ => rfl
  | .slc _ _ _ _ _, h => by simp [V.flat] at h
  | .nilm, _ => rfl
  | .map _, h => by simp [V.flat] at h
  | .fn f a b, h => by
    simp only [V.flat, Bool.and_eq_true] at h
    simp only [V.under, Bool.and_eq_true]
    refine ⟨⟨?_, flat_underL n a h.1.2⟩, flat_underL n b h.2⟩
    have := h.1.1
    cases f <;> first | rfl | (simp at this)
  | .nilf, _ => rfl
  | .nili, _ => rfl
  | .ifc _ v, h => by simp only [V.flat] at h; simp only [V.under]; exact flat_under n v h
  | .agg cs, h => by simp only [V.flat] at h; simp only [V.under]; exact flat_underL n cs h
  | .tup cs, h => by simp only [V.flat] at h; simp only [V.under]; exact flat_underL n cs h
  | .dead, h => by simp [V.flat] at h
theorem flat_underL (n : Nat) : ∀ vs : List V, V.flatL vs = true → V.underL n vs = true
  | [], _ => rfl
  | v :: vs, h => by
    simp only [V.flatL, Bool.and_eq_true] at h
    simp only [V.underL, Bool.and_eq_true]
    exact ⟨flat_under n v h.1, flat_underL n vs h.2⟩
end

theorem underL_iff {n : Nat} : ∀ {vs : List V}, V.underL n vs = true ↔ ∀ v ∈ vs, v.under n = true
  | [] => by simp [V.underL]
  | v :: vs => by simp [V.underL, underL_iff]

theorem flatL_iff : ∀ {vs : List V}, V.flatL vs = true ↔ ∀ v ∈ vs, v.flat = true
  | [] => by simp [V.flatL]
  | v :: vs => by simp [V.flatL, flatL_iff]

theorem underL_splice {n off : Nat} {cs xs : List V} (h : V.underL n cs = true) (hx : V.flatL xs = true) : V.underL n (splice cs off xs) = true := by
  rw [underL_iff] at h ⊢
  intro v hv
  unfold splice at hv
  rcases List.mem_append.1 hv with hv | hv
  · rcases List.mem_append.1 hv with hv | hv
    · exact h v (List.mem_of_mem_take hv)
    · exact flat_under n v (flatL_iff.1 hx v hv)
  · exact h v (List.mem_of_mem_drop hv)

theorem newVar_mm {site : Site} {cs : List V} {L : Boxes} {m : Mem} (hle : m.lo ≤ m.next) : MM m (newVar site cs L m).2.2 := by
  cases site with
  | none => exact MM.push hle _
  | some s => exact MM.refl _

theorem writeN_mm {L L' : Boxes} {m m' : Mem} {u : V} {xs : List V} (h : writeN L m u xs = some (L', m')) : MM m m' := by
  unfold writeN at h
  split at h
  · simp only at h
    split at h
    · simp only [Option.some.injEq, Prod.mk.injEq] at h; obtain ⟨_, rfl⟩ := h; exact MM.refl _
    · cases h
  · split at h
    · rename_i cs hg
      split at h
      · simp only [Option.some.injEq, Prod.mk.injEq] at h; obtain ⟨_, rfl⟩ := h
        exact MM.put hg fun hf n hn => underL_splice hn hf
      · cases h
    · cases h
  · cases h

theorem append_mm {L L' : Boxes} {m m' : Mem} (hle : m.lo ≤ m.next) {bytes size n : Nat} {s v : V} {new : List V} (h : append L m bytes size s new n = some (v, L', m')) : MM m m' := by
  unfold append at h
  split at h
  · cases h
  split at h
  · split at h
    · simp only [Option.some.injEq, Prod.mk.injEq] at h; obtain ⟨_, _, rfl⟩ := h; exact MM.refl _
    · split at h
      · simp only [Option.some.injEq, Prod.mk.injEq] at h; obtain ⟨_, _, rfl⟩ := h; exact MM.push hle _
      · cases h
  · split at h
    · split at h
      · split at h
        · simp only [Option.some.injEq, Prod.mk.injEq] at h; obtain ⟨_, _, rfl⟩ := h; exact MM.refl _
        · cases h
      · simp only [Option.some.injEq, Prod.mk.injEq] at h; obtain ⟨_, _, rfl⟩ := h; exact MM.refl _
    · split at h
      · rename_i cs ro hg
        split at h
        · split at h
          · split at h
            · split at h
              · simp only [Option.some.injEq, Prod.mk.injEq] at h; obtain ⟨_, _, rfl⟩ := h
                exact MM.put hg fun hf n hn => underL_splice hn hf
              · cases h
            · simp only [Option.some.injEq, Prod.mk.injEq] at h; obtain ⟨_, _, rfl⟩ := h; exact MM.push hle _
          · split at h
            · cases h
            · simp only [Option.some.injEq, Prod.mk.injEq] at h; obtain ⟨_, _, rfl⟩ := h
              exact (MM.put (x := .gone) (flat := true) hg fun _ _ _ => trivial).trans (MM.push (by rw [Mem.put_lo, Mem.put_next]; exact hle) _)
        · cases h
      · cases h
  · cases h

theorem effOp_mm {locs A : List V} {L L' : Boxes} {m m' : Mem} (hle : m.lo ≤ m.next) {q : EOp} {v : V} (h : effOp locs A L m q = some (v, L', m')) : MM m m' := by
  cases q <;> simp only [effOp] at h
  case alloc s zs =>
    simp only [Option.some.injEq] at h
    have := newVar_mm (site := s) (cs := zs) (L := L) hle
    rw [h] at this; exact this
  case boxv s x =>
    split at h
    · simp only [Option.some.injEq] at h
      have := newVar_mm (site := s) (cs := (ev locs A x).cells) (L := L) hle
      rw [h] at this; exact this
    · cases h
  case bldSl =>
    split at h
    · simp only [Option.some.injEq, Prod.mk.injEq] at h; obtain ⟨_, _, rfl⟩ := h; exact MM.push hle _
    · cases h
  case st =>
    split at h
    · split at h
      · rename_i hw
        simp only [Option.some.injEq, Prod.mk.injEq] at h; obtain ⟨_, _, rfl⟩ := h; exact writeN_mm hw
      · cases h
    · cases h
  case mkMap => simp only [Option.some.injEq, Prod.mk.injEq] at h; obtain ⟨_, _, rfl⟩ := h; exact MM.push hle _
  case mkSl =>
    split at h
    · split at h
      · simp only [Option.some.injEq, Prod.mk.injEq] at h; obtain ⟨_, _, rfl⟩ := h; exact MM.push hle _
      · cases h
    · cases h
  case append =>
    split at h
    · cases h
    · exact append_mm hle h
  case appendZ =>
    split at h
    · cases h
    · split at h
      · exact append_mm hle h
      · cases h
  case copy =>
    split at h
    · cases h
    · split at h
      · cases h
      · split at h
        · simp only [Option.some.injEq, Prod.mk.injEq] at h; obtain ⟨_, _, rfl⟩ := h; exact MM.refl _
        · split at h
          · simp only [Option.some.injEq, Prod.mk.injEq] at h; obtain ⟨_, _, rfl⟩ := h; exact MM.refl _
          · split at h
            · rename_i hw
              simp only [Option.some.injEq, Prod.mk.injEq] at h; obtain ⟨_, _, rfl⟩ := h; exact writeN_mm hw
            · cases h
        · cases h
  case update =>
    split at h
    · split at h
      · split at h
        · rename_i es hg
          split at h
          · simp only [Option.some.injEq, Prod.mk.injEq] at h; obtain ⟨_, _, rfl⟩ := h
            refine MM.put hg fun hf n hn p hp => ?_
            simp only [Bool.and_eq_true] at hf
            rcases List.mem_or_eq_of_mem_set hp with hp | rfl
            · exact hn p hp
            · exact ⟨flat_under n _ hf.1, flat_under n _ hf.2⟩
          · simp only [Option.some.injEq, Prod.mk.injEq] at h; obtain ⟨_, _, rfl⟩ := h
            refine MM.put hg fun hf n hn p hp => ?_
            simp only [Bool.and_eq_true] at hf
            rcases List.mem_append.1 hp with hp | hp
            · exact hn p hp
            · simp only [List.mem_singleton] at hp; subst hp
              exact ⟨flat_under n _ hf.1, flat_under n _ hf.2⟩
          · cases h
        · cases h
      · cases h
    · cases h

end Go.AI

/- What is kept behind a call. -/
namespace Go.AI
variable {P : Program}

/-! ### Meaning below a bound -/

mutual
theorem conc_under {ι : List Blk} : ∀ (v : V) (c : Value), conc ι v = some c → v.under ι.length = true
  | .bool _, _, _ => rfl
  | .int _ _, _, _ => rfl
  | .str _, _, _ => rfl
  | .nilp, _, _ => rfl
  | .ptr o _, c, h => by
    simp only [conc, Option.map_eq_some_iff] at h
    obtain ⟨b, hb, _⟩ := h
    exact blt_iff.2 (List.getElem?_eq_some_iff.1 hb).1
  | .lp _ _, c, h => by simp [conc] at h
  | .nils, _, _ => rfl
  | .slc o _ _ _ (.ex _), c, h => by
    simp only [conc, Option.map_eq_some_iff] at h
    obtain ⟨b, hb, _⟩ := h
    exact blt_iff.2 (List.getElem?_eq_some_iff.1 hb).1
  | .slc o _ _ _ (.op _), c, h => by
    simp only [conc, Option.bind_eq_some_iff] at h
    obtain ⟨b, hb, _⟩ := h
    exact blt_iff.2 (List.getElem?_eq_some_iff.1 hb).1
  | .nilm, _, _ => rfl
  | .map o, c, h => by
    simp only [conc, Option.map_eq_some_iff] at h
    obtain ⟨b, hb, _⟩ := h
    exact blt_iff.2 (List.getElem?_eq_some_iff.1 hb).1
  | .fn f a b, c, h => by
    simp only [conc, Option.bind_eq_some_iff, Option.map_eq_some_iff] at h
    obtain ⟨f', hf, a', ha, b', hb, _⟩ := h
    simp only [V.under, Bool.and_eq_true]
    refine ⟨⟨?_, concL_under a a' ha⟩, concL_under b b' hb⟩
    cases f <;> try rfl
    simp only [concFn, Option.map_eq_some_iff] at hf
    obtain ⟨x, hx, _⟩ := hf
    exact blt_iff.2 (List.getElem?_eq_some_iff.1 hx).1
  | .nilf, _, _ => rfl
  | .nili, _, _ => rfl
  | .ifc _ v, c, h => by
    simp only [conc, Option.map_eq_some_iff] at h
    obtain ⟨d, hd, _⟩ := h
    simp only [V.under]; exact conc_under v d hd
  | .agg cs, c, h => by
    simp only [conc, Option.map_eq_some_iff] at h
    obtain ⟨d, hd, _⟩ := h
    simp only [V.under]; exact concL_under cs d hd
  | .tup cs, c, h => by
    simp only [conc, Option.map_eq_some_iff] at h
    obtain ⟨d, hd, _⟩ := h
    simp only [V.under]; exact concL_under cs d hd
  | .dead, c, h => by simp [conc] at h
theorem concL_under {ι : List Blk} : ∀ (vs : List V) (cs : List Value), concL ι vs = some cs → V.underL ι.length vs = true
  | [], _, _ => rfl
  | v :: vs, cs, h => by
    obtain ⟨c, ds, h1, h2, _⟩ := concL_cons.1 h
    simp only [V.underL, Bool.and_eq_true]
    exact ⟨conc_under v c h1, concL_under vs ds h2⟩
end

theorem get_of_pre {ι κ : List Blk} (h : ι <+: κ) {o : Nat} (ho : Nat.blt o ι.length = true) : κ[o]? = ι[o]? := by
  obtain ⟨t, rfl⟩ := h
  exact List.getElem?_append_left (blt_iff.1 ho)

mutual
theorem conc_down {ι κ : List Blk} (h : ι <+: κ) : ∀ (v : V) (c : Value), v.under ι.length = true → conc κ v = some c → conc ι v = some c
  | .bool _, _, _, hc => by simpa [conc] using hc
  | .int _ _, _, _, hc => by simpa [conc] using hc
  | .str _, _, _, hc => by simpa [conc] using hc
  | .nilp, _, _, hc => by simpa [conc] using hc
  | .ptr o _, c, hu, hc => by
    simp only [V.under] at hu
    simp only [conc, get_of_pre h hu] at hc ⊢; exact hc
  | .lp _ _, _, _, hc => by simp [conc] at hc
  | .nils, _, _, hc => by simpa [conc] using hc
  | .slc o _ _ _ (.ex _), c, hu, hc => by
    simp only [V.under] at hu
    simp only [conc, get_of_pre h hu] at hc ⊢; exact hc
  | .slc o _ _ _ (.op _), c, hu, hc => by
    simp only [V.under] at hu
    simp only [conc, get_of_pre h hu] at hc ⊢; exact hc
  | .nilm, _, _, hc => by simpa [conc] using hc
  | .map o, c, hu, hc => by
    simp only [V.under] at hu
    simp only [conc, get_of_pre h hu] at hc ⊢; exact hc
  | .fn f a b, c, hu, hc => by
    simp only [V.under, Bool.and_eq_true] at hu
    simp only [conc, Option.bind_eq_some_iff, Option.map_eq_some_iff] at hc ⊢
    obtain ⟨f', hf, a', ha, b', hb, rfl⟩ := hc
    refine ⟨f', ?_, a', concL_down h a a' hu.1.2 ha, b', concL_down h b b' hu.2 hb, rfl⟩
    cases f <;> try exact hf
    simp only [concFn, get_of_pre h hu.1.1] at hf ⊢; exact hf
  | .nilf, _, _, hc => by simpa [conc] using hc
  | .nili, _, _, hc => by simpa [conc] using hc
  | .ifc _ v, c, hu, hc => by
    simp only [V.under] at hu
    simp only [conc, Option.map_eq_some_iff] at hc ⊢
    obtain ⟨d, hd, rfl⟩ := hc
    exact ⟨d, conc_down h v d hu hd, rfl⟩
  | .agg cs, c, hu, hc => by
    simp only [V.under] at hu
    simp only [conc, Option.map_eq_some_iff] at hc ⊢
    obtain ⟨d, hd, rfl⟩ := hc
    exact ⟨d, concL_down h cs d hu hd, rfl⟩
  | .tup cs, c, hu, hc => by
    simp only [V.under] at hu
    simp only [conc, Option.map_eq_some_iff] at hc ⊢
    obtain ⟨d, hd, rfl⟩ := hc
    exact ⟨d, concL_down h cs d hu hd, rfl⟩
  | .dead, _, _, hc => by simp [conc] at hc
theorem concL_down {ι κ : List Blk} (h : ι <+: κ) : ∀ (vs : List V) (cs : List Value), V.underL ι.length vs = true → concL κ vs = some cs → concL ι vs = some cs
  | [], _, _, hc => by simpa [concL] using hc
  | v :: vs, cs, hu, hc => by
    simp only [V.underL, Bool.and_eq_true] at hu
    obtain ⟨c, ds, h1, h2, rfl⟩ := concL_cons.1 hc
    exact concL_cons.2 ⟨c, ds, conc_down h v c hu.1 h1, concL_down h vs ds hu.2 h2, rfl⟩
end

theorem EntsR.under {ι : List Blk} : ∀ {es : List (V × V)} {fs : List MapEntry}, EntsR ι es fs → ∀ p ∈ es, p.1.under ι.length = true ∧ p.2.under ι.length = true
  | [], [], _, p, hp => by simp at hp
  | (k, v) :: es, f :: fs, ⟨h1, h2, h3⟩, p, hp => by
    rcases List.mem_cons.1 hp with rfl | hp
    · exact ⟨conc_under _ _ h1, conc_under _ _ h2⟩
    · exact h3.under p hp
  | [], _ :: _, h, _, _ => h.elim
  | _ :: _, [], h, _, _ => h.elim

theorem EntsR.down {ι κ : List Blk} (h : ι <+: κ) : ∀ {es : List (V × V)} {fs : List MapEntry}, EntsR κ es fs → (∀ p ∈ es, p.1.under ι.length = true ∧ p.2.under ι.length = true) → EntsR ι es fs
  | [], [], _, _ => trivial
  | (k, v) :: es, f :: fs, ⟨h1, h2, h3⟩, hu =>
    have hp := hu (k, v) (by simp)
    ⟨conc_down h k _ hp.1 h1, conc_down h v _ hp.2 h2, h3.down h fun p hp => hu p (by simp [hp])⟩
  | [], _ :: _, h, _ => h.elim
  | _ :: _, [], h, _ => h.elim

theorem ObR.under {ι : List Blk} {w : World} {b : Blk} {x : Ob} (h : ObR P ι w b x) : x.under ι.length := by
  cases x with
  | cells cs ro =>
    cases ro with
    | true => obtain ⟨xs, h1, _⟩ := h; exact concL_under _ _ h1
    | false => obtain ⟨xs, _, _, h1, _⟩ := h; exact concL_under _ _ h1
  | mp es => obtain ⟨_, _, _, h2⟩ := h; exact h2.under
  | loop st pend A ps asg body =>
    obtain ⟨r, _, E, _, _, _, _, _, h7⟩ := h
    intro v hv
    rcases h7.ok v hv with h | ⟨c, hc⟩
    · exact .inl h
    · exact .inr (conc_under v c hc)
  | gone => trivial

theorem ObR.down {ι κ : List Blk} (hp : ι <+: κ) {w : World} {b : Blk} {x : Ob} (h : ObR P κ w b x) (hu : x.under ι.length) : ObR P ι w b x := by
  cases x with
  | cells cs ro =>
    cases ro with
    | true => obtain ⟨xs, h1, h2⟩ := h; exact ⟨xs, concL_down hp _ _ hu h1, h2⟩
    | false => obtain ⟨xs, arr, t, h1, h2⟩ := h; exact ⟨xs, arr, t, concL_down hp _ _ hu h1, h2⟩
  | mp es => obtain ⟨ents, clock, h1, h2⟩ := h; exact ⟨ents, clock, h1, h2.down hp hu⟩
  | loop st pend A ps asg body =>
    obtain ⟨r, h1, E, h2, h3, h4, h5, h6, h7⟩ := h
    refine ⟨r, h1, E, h2, h3, h4, h5, h6, h7.nt, h7.len, fun t i q1 q2 => ?_, fun v hv => ?_⟩
    · rcases h7.var t i q1 q2 with q | q
      · exact .inl q
      · by_cases hi : i < A.length
        · have hmem : A.getD i .dead ∈ A := by
            rw [List.getD_eq_getElem?_getD, List.getElem?_eq_getElem hi]
            exact List.getElem_mem hi
          rcases hu _ hmem with hd | hd
          · exact .inl hd
          · exact .inr (conc_down hp _ _ hd q)
        · left
          rw [List.getD_eq_getElem?_getD, List.getElem?_eq_none (by omega)]; rfl
    · rcases h7.ok v hv with q | ⟨c, hc⟩
      · exact .inl q
      · rcases hu v hv with hd | hd
        · exact .inl hd
        · exact .inr ⟨c, conc_down hp _ _ hd hc⟩
  | gone => trivial

/-! ### Back in the caller -/

section
variable {ι ι1 : List Blk} {β β0 β1 : Nat → Nat} {L L1 : Boxes} {m m1 : Mem} {w w1 : World}

theorem owns_enter {k : Own} {b : Nat} (h : owns ι β0 [] (enter m) k b) : (∃ o, k = .ob o) ∧ owns ι β L m k b := by
  cases k with
  | ob o => exact ⟨⟨o, rfl⟩, h⟩
  | bx s => exact absurd (by cases s <;> rfl) h.1

theorem WR.enter (h : WR P ι β L m w) (β0 : Nat → Nat) : WR P ι β0 [] (AI.enter m) w where
  obj := h.obj
  box := fun s hs => absurd (by cases s <;> rfl) hs
  len := h.len
  glob := h.glob
  inj := fun k k' b hk hk' => h.inj k k' b (owns_enter (β := β) (L := L) hk).2 (owns_enter (β := β) (L := L) hk').2
  ro := fun o cs b k hg hne hb hk => h.ro o cs b k hg hne hb (owns_enter (β := β) (L := L) hk).2

theorem WR.back (h : WR P ι β L m w) (h1 : WR P ι1 β1 L1 m1 w1) (t : Tr ι β0 [] (AI.enter m) w ι1 β1 L1 m1 w1) {ι' : List Blk} {m' : Mem} (hpre : ι <+: ι') (hlen : ι'.length = m'.next) (f : Nat → Nat)
    (hfi : ∀ o o', o < m'.next → o' < m'.next → f o = f o' → o = o') (hfo : ∀ o, o < m'.next → f o < m.next → f o = o) (hf : ∀ o b, ι'[o]? = some b → ι1[f o]? = some b)
    (hobj : ∀ o x, m'.get o = some x → m1.get (f o) = some x ∧ ∀ b, ObR P ι1 w1 b x → ObR P ι' w1 b x) :
    WR P ι' β L m' w1 ∧ Tr ι β L m w ι' β L m' w1 := by
  have hown : ∀ k b, owns ι' β L m' k b → (∃ o, k = .ob o ∧ o < m'.next ∧ owns ι1 β1 L1 m1 (.ob (f o)) b) ∨ (∃ s, k = .bx s ∧ owns ι β L m k b) := by
    intro k b hk
    cases k with
    | ob o =>
      obtain ⟨x, bl, g1, g2, g3, g4⟩ := hk
      exact .inl ⟨o, rfl, Mem.get_lt g1, x, bl, (hobj o x g1).1, g2, hf o bl g3, g4⟩
    | bx s => exact .inr ⟨s, rfl, hk⟩
  have hstart : ∀ {k b}, owns ι1 β1 L1 m1 k b → (∃ o, owns ι β L m (.ob o) b) ∨ w.heap.size ≤ b := by
    intro k b hk
    rcases t.own k b hk with ⟨k0, hk0⟩ | q
    · obtain ⟨⟨o, rfl⟩, ho⟩ := owns_enter (β := β) (L := L) hk0
      exact .inl ⟨o, ho⟩
    · exact .inr q
  have hbxsame : ∀ s, L.get s ≠ [] → w1.heap[β s]? = w.heap[β s]? := by
    intro s hs
    have hmine : owns ι β L m (.bx s) (β s) := ⟨hs, rfl⟩
    refine t.same (β s) (h.toRD.owns_lt hmine) fun k hk => ?_
    obtain ⟨⟨o, rfl⟩, ho⟩ := owns_enter (β := β) (L := L) hk
    have := h.inj _ _ _ ho hmine
    simp at this
  have hcross : ∀ {o s b}, owns ι1 β1 L1 m1 (.ob o) b → owns ι β L m (.bx s) b → False := by
    intro o s b h2 h3
    rcases hstart h2 with ⟨o', ho'⟩ | q
    · have := h.inj _ _ _ ho' h3
      simp at this
    · have := h.toRD.owns_lt h3
      omega
  refine ⟨{ obj := ?_, box := ?_, len := hlen, glob := ?_, inj := ?_, ro := ?_ }, ?_⟩
  · intro o x hx
    have hlt : o < ι'.length := by rw [hlen]; exact Mem.get_lt hx
    obtain ⟨q1, q2⟩ := hobj o x hx
    obtain ⟨b, hb, hob⟩ := h1.obj (f o) x q1
    have hb' := hf o _ (List.getElem?_eq_getElem hlt)
    rw [hb] at hb'
    exact ⟨b, by rw [List.getElem?_eq_getElem hlt, hb'], q2 b hob⟩
  · intro s hs
    obtain ⟨xs, ty, q1, q2⟩ := h.box s hs
    exact ⟨xs, ty, concL_pre hpre _ _ q1, by rw [hbxsame s hs]; exact q2⟩
  · intro g hg
    obtain ⟨b, hb, q⟩ := h.glob g hg
    exact ⟨b, get_pre hpre hb, q⟩
  · intro k k' b hk hk'
    rcases hown k b hk with ⟨o, rfl, ho, h2⟩ | ⟨s, rfl, h2⟩
    · rcases hown k' b hk' with ⟨o', rfl, ho', h3⟩ | ⟨s', rfl, h3⟩
      · have := h1.inj _ _ _ h2 h3
        simp only [Own.ob.injEq] at this
        rw [hfi o o' ho ho' this]
      · exact (hcross h2 h3).elim
    · rcases hown k' b hk' with ⟨o', rfl, ho', h3⟩ | ⟨s', rfl, h3⟩
      · exact (hcross h3 h2).elim
      · exact h.inj _ _ _ h2 h3
  · intro o cs b k hg hne hb hk
    obtain ⟨q1, _⟩ := hobj o _ hg
    have hb1 := hf o b hb
    rcases hown k b.block hk with ⟨o2, rfl, ho2, h2⟩ | ⟨s, rfl, h2⟩
    · exact h1.ro (f o) cs b _ q1 hne hb1 h2
    · have q2 : m.get (f o) = some (.cells cs true) := t.ro (f o) cs q1
      have hlt : f o < ι.length := by rw [h.len]; exact Mem.get_lt q2
      have hb0 : ι[f o]? = some b := by rw [← get_of_pre t.pre (blt_iff.2 hlt)]; exact hb1
      exact h.ro (f o) cs b _ q2 hne hb0 h2
  · refine ⟨hpre, t.size, fun b hb hn => t.same b hb fun k hk => hn k (owns_enter (β := β) (L := L) hk).2, t.loops, fun k b hk => ?_, t.os, fun o cs hg => ?_⟩
    · rcases hown k b hk with ⟨o, rfl, _, h2⟩ | ⟨s, rfl, h2⟩
      · rcases hstart h2 with ⟨o', ho'⟩ | q
        · exact .inl ⟨_, ho'⟩
        · exact .inr q
      · exact .inl ⟨_, h2⟩
    · obtain ⟨q1, _⟩ := hobj o _ hg
      have q2 : m.get (f o) = some (.cells cs true) := t.ro (f o) cs q1
      rw [hfo o (Mem.get_lt hg) (Mem.get_lt q2)] at q2
      exact q2

end
end Go.AI

/- settle: what it says. -/
namespace Go.AI
variable {P : Program}

/-! ### The ids of a value -/

mutual
/-- Every id of a value is below n or among some. -/
def V.cov (n : Nat) (ids : List Nat) : V → Prop
  | .ptr o _ => o < n ∨ o ∈ ids
  | .slc o _ _ _ _ => o < n ∨ o ∈ ids
  | .map o => o < n ∨ o ∈ ids
  | .fn f a b => (∀ l, f = .yield l → l < n ∨ l ∈ ids) ∧ V.covL n ids a ∧ V.covL n ids b
  | .ifc _ v => v.cov n ids
  | .agg cs => V.covL n ids cs
  | .tup cs => V.covL n ids cs
  | _ => True
def V.covL (n : Nat) (ids : List Nat) : List V → Prop
  | [] => True
  | v :: vs => v.cov n ids ∧ V.covL n ids vs
end

mutual
theorem cov_mono {n : Nat} {ids ids' : List Nat} (h : ∀ o ∈ ids, o ∈ ids') : ∀ v : V, v.cov n ids → v.cov n ids'
  | .bool _, _ => trivial
  | .int _ _, _ => trivial
  | .str _, _ => trivial
  | .nilp, _ => trivial
  | .ptr o _, hv => by simp only [V.cov] at hv ⊢; exact hv.imp id (h o)
  | .lp _ _, _ => trivial
  | .nils, _ => trivial
  | .slc o _ _ _ _, hv => by simp only [V.cov] at hv ⊢; exact hv.imp id (h o)
  | .nilm, _ => trivial
  | .map o, hv => by simp only [V.cov] at hv ⊢; exact hv.imp id (h o)
  | .fn f a b, hv => by
    simp only [V.cov] at hv ⊢
    exact ⟨fun l hl => (hv.1 l hl).imp id (h l), covL_mono h a hv.2.1, covL_mono h b hv.2.2⟩
  | .nilf, _ => trivial
  | .nili, _ => trivial
  | .ifc _ v, hv => by simp only [V.cov] at hv ⊢; exact cov_mono h v hv
  | .agg cs, hv => by simp only [V.cov] at hv ⊢; exact covL_mono h cs hv
  | .tup cs, hv => by simp only [V.cov] at hv ⊢; exact covL_mono h cs hv
  | .dead, _ => trivial
theorem covL_mono {n : Nat} {ids ids' : List Nat} (h : ∀ o ∈ ids, o ∈ ids') : ∀ vs : List V, V.covL n ids vs → V.covL n ids' vs
  | [], _ => trivial
  | v :: vs, hv => by
    simp only [V.covL] at hv ⊢
    exact ⟨cov_mono h v hv.1, covL_mono h vs hv.2⟩
end

/-- What newIds adds: new ones alone, each once. -/
structure Add (n N : Nat) (acc ids : List Nat) : Prop where
  sub : ∀ o ∈ acc, o ∈ ids
  nodup : acc.Nodup → ids.Nodup
  lo : (∀ o ∈ acc, n ≤ o) → ∀ o ∈ ids, n ≤ o
  hi : (∀ o ∈ acc, o < N) → ∀ o ∈ ids, o < N

theorem Add.refl (n N : Nat) (acc : List Nat) : Add n N acc acc := ⟨fun _ h => h, fun h => h, fun h => h, fun h => h⟩
theorem Add.trans {n N : Nat} {a b c : List Nat} (h : Add n N a b) (h2 : Add n N b c) : Add n N a c :=
  ⟨fun o ho => h2.sub o (h.sub o ho), fun hn => h2.nodup (h.nodup hn), fun hl => h2.lo (h.lo hl), fun hl => h2.hi (h.hi hl)⟩

theorem add_one {n N o : Nat} {acc : List Nat} (ho : Nat.blt o N = true) : Add n N acc (if Nat.blt o n || acc.contains o then acc else o :: acc) ∧ (o < n ∨ o ∈ (if Nat.blt o n || acc.contains o then acc else o :: acc)) := by
  by_cases h : (Nat.blt o n || acc.contains o) = true
  · rw [if_pos h]
    refine ⟨Add.refl _ _ _, ?_⟩
    simp only [Bool.or_eq_true, blt_iff] at h
    exact h.imp id fun h => by simpa using h
  · rw [if_neg h]
    simp only [Bool.or_eq_true, not_or] at h
    have h1 : n ≤ o := by have := h.1; rw [blt_iff] at this; omega
    have h2 : o ∉ acc := by simpa using h.2
    refine ⟨⟨fun x hx => List.mem_cons_of_mem _ hx, fun hn => List.nodup_cons.2 ⟨h2, hn⟩, fun hl x hx => ?_, fun hl x hx => ?_⟩, .inr (by simp)⟩
    · rcases List.mem_cons.1 hx with rfl | hx
      · exact h1
      · exact hl x hx
    · rcases List.mem_cons.1 hx with rfl | hx
      · exact blt_iff.1 ho
      · exact hl x hx

mutual
theorem newIds_add (n N : Nat) : ∀ (v : V) (acc : List Nat), v.under N = true → Add n N acc (newIds n v acc) ∧ v.cov n (newIds n v acc)
  | .bool _, acc, _ => ⟨Add.refl _ _ _, trivial⟩
  | .int _ _, acc, _ => ⟨Add.refl _ _ _, trivial⟩
  | .str _, acc, _ => ⟨Add.refl _ _ _, trivial⟩
  | .nilp, acc, _ => ⟨Add.refl _ _ _, trivial⟩
  | .ptr o _, acc, h => by simp only [newIds, V.cov]; exact add_one (by simpa [V.under] using h)
  | .lp _ _, acc, _ => ⟨Add.refl _ _ _, trivial⟩
  | .nils, acc, _ => ⟨Add.refl _ _ _, trivial⟩
  | .slc o _ _ _ _, acc, h => by simp only [newIds, V.cov]; exact add_one (by simpa [V.under] using h)
  | .nilm, acc, _ => ⟨Add.refl _ _ _, trivial⟩
  | .map o, acc, h => by simp only [newIds, V.cov]; exact add_one (by simpa [V.under] using h)
  | .fn f a b, acc, h => by
    simp only [V.under, Bool.and_eq_true] at h
    have e : newIds n (.fn f a b) acc = newIdsL n b (newIdsL n a (newIds n (.fn f [] []) acc)) := by simp only [newIds, newIdsL]
    rw [e]
    simp only [V.cov]
    obtain ⟨acc0, hacc0, h0, h0'⟩ : ∃ acc0, acc0 = newIds n (.fn f [] []) acc ∧ Add n N acc acc0 ∧ ∀ l, f = .yield l → l < n ∨ l ∈ acc0 := by
      refine ⟨_, rfl, ?_⟩
      cases f <;> simp only [newIds, newIdsL] <;> first | (exact ⟨Add.refl _ _ _, fun l hl => by cases hl⟩) | skip
      rename_i l
      have := add_one (n := n) (acc := acc) h.1.1
      exact ⟨this.1, fun l' hl => by cases hl; exact this.2⟩
    rw [← hacc0]
    obtain ⟨a1, a2⟩ := newIdsL_add n N a acc0 h.1.2
    obtain ⟨b1, b2⟩ := newIdsL_add n N b (newIdsL n a acc0) h.2
    exact ⟨h0.trans (a1.trans b1), fun l hl => (h0' l hl).imp id fun hm => b1.sub _ (a1.sub _ hm), covL_mono b1.sub a a2, b2⟩
  | .nilf, acc, _ => ⟨Add.refl _ _ _, trivial⟩
  | .nili, acc, _ => ⟨Add.refl _ _ _, trivial⟩
  | .ifc _ v, acc, h => by simp only [V.under] at h; simp only [newIds, V.cov]; exact newIds_add n N v acc h
  | .agg cs, acc, h => by simp only [V.under] at h; simp only [newIds, V.cov]; exact newIdsL_add n N cs acc h
  | .tup cs, acc, h => by simp only [V.under] at h; simp only [newIds, V.cov]; exact newIdsL_add n N cs acc h
  | .dead, acc, _ => ⟨Add.refl _ _ _, trivial⟩
theorem newIdsL_add (n N : Nat) : ∀ (vs : List V) (acc : List Nat), V.underL N vs = true → Add n N acc (newIdsL n vs acc) ∧ V.covL n (newIdsL n vs acc) vs
  | [], acc, _ => ⟨Add.refl _ _ _, trivial⟩
  | v :: vs, acc, h => by
    simp only [V.underL, Bool.and_eq_true] at h
    simp only [newIdsL, V.covL]
    obtain ⟨a1, a2⟩ := newIds_add n N v acc h.1
    obtain ⟨b1, b2⟩ := newIdsL_add n N vs (newIds n v acc) h.2
    exact ⟨a1.trans b1, cov_mono b1.sub v a2, b2⟩
end

/-! ### Renaming -/

mutual
theorem rename_conc {ι1 ι' : List Blk} {n : Nat} {ids : List Nat} (h : ∀ o, o < n ∨ o ∈ ids → ι'[newId n ids o]? = ι1[o]?) : ∀ (v : V) (c : Value), v.cov n ids → conc ι1 v = some c → conc ι' (rename n ids v) = some c
  | .bool _, _, _, hc => by simpa [conc, rename] using hc
  | .int _ _, _, _, hc => by simpa [conc, rename] using hc
  | .str _, _, _, hc => by simpa [conc, rename] using hc
  | .nilp, _, _, hc => by simpa [conc, rename] using hc
  | .ptr o _, c, hu, hc => by simp only [V.cov] at hu; simp only [conc, rename, h o hu] at hc ⊢; exact hc
  | .lp _ _, _, _, hc => by simp [conc] at hc
  | .nils, _, _, hc => by simpa [conc, rename] using hc
  | .slc o _ _ _ (.ex _), c, hu, hc => by simp only [V.cov] at hu; simp only [conc, rename, h o hu] at hc ⊢; exact hc
  | .slc o _ _ _ (.op _), c, hu, hc => by simp only [V.cov] at hu; simp only [conc, rename, h o hu] at hc ⊢; exact hc
  | .nilm, _, _, hc => by simpa [conc, rename] using hc
  | .map o, c, hu, hc => by simp only [V.cov] at hu; simp only [conc, rename, h o hu] at hc ⊢; exact hc
  | .fn f a b, c, hu, hc => by
    simp only [V.cov] at hu
    simp only [conc, rename, Option.bind_eq_some_iff, Option.map_eq_some_iff] at hc ⊢
    obtain ⟨f', hf, a', ha, b', hb, rfl⟩ := hc
    refine ⟨f', ?_, a', renameL_conc h a a' hu.2.1 ha, b', renameL_conc h b b' hu.2.2 hb, rfl⟩
    cases f <;> try exact hf
    rename_i l
    simp only [concFn, h l (hu.1 l rfl)] at hf ⊢; exact hf
  | .nilf, _, _, hc => by simpa [conc, rename] using hc
  | .nili, _, _, hc => by simpa [conc, rename] using hc
  | .ifc _ v, c, hu, hc => by
    simp only [V.cov] at hu
    simp only [conc, rename, Option.map_eq_some_iff] at hc ⊢
    obtain ⟨d, hd, rfl⟩ := hc
    exact ⟨d, rename_conc h v d hu hd, rfl⟩
  | .agg cs, c, hu, hc => by
    simp only [V.cov] at hu
    simp only [conc, rename, Option.map_eq_some_iff] at hc ⊢
    obtain ⟨d, hd, rfl⟩ := hc
    exact ⟨d, renameL_conc h cs d hu hd, rfl⟩
  | .tup cs, c, hu, hc => by
    simp only [V.cov] at hu
    simp only [conc, rename, Option.map_eq_some_iff] at hc ⊢
    obtain ⟨d, hd, rfl⟩ := hc
    exact ⟨d, renameL_conc h cs d hu hd, rfl⟩
  | .dead, _, _, hc => by simp [conc] at hc
theorem renameL_conc {ι1 ι' : List Blk} {n : Nat} {ids : List Nat} (h : ∀ o, o < n ∨ o ∈ ids → ι'[newId n ids o]? = ι1[o]?) : ∀ (vs : List V) (cs : List Value), V.covL n ids vs → concL ι1 vs = some cs → concL ι' (renameL n ids vs) = some cs
  | [], _, _, hc => by simpa [concL, renameL] using hc
  | v :: vs, cs, hu, hc => by
    simp only [V.covL] at hu
    obtain ⟨c, ds, h1, h2, rfl⟩ := concL_cons.1 hc
    exact concL_cons.2 ⟨c, ds, rename_conc h v c hu.1 h1, renameL_conc h vs ds hu.2 h2, rfl⟩
end

theorem place_get : ∀ {ids : List Nat} {o : Nat}, o ∈ ids → place o ids < ids.length ∧ ids.reverse[place o ids]? = some o
  | [], o, h => by simp at h
  | x :: xs, o, h => by
    unfold place
    split
    · rename_i hx
      rw [beq_iff] at hx
      subst hx
      refine ⟨by simp, ?_⟩
      rw [List.reverse_cons, List.getElem?_append_right (by simp)]
      simp
    · rename_i hx
      have hx : x ≠ o := fun e => hx (beq_iff.2 e)
      have hm : o ∈ xs := by
        rcases List.mem_cons.1 h with rfl | h
        · exact absurd rfl hx
        · exact h
      obtain ⟨h1, h2⟩ := place_get hm
      refine ⟨by simp; omega, ?_⟩
      rw [List.reverse_cons, List.getElem?_append_left (by simpa using h1)]
      exact h2

theorem keep_get {m : Mem} {n : Nat} : ∀ {ids : List Nat} {obs : List Ob}, keep m n ids = some obs → obs.length = ids.length ∧ ∀ (i o : Nat), ids[i]? = some o → ∃ cs ro, m.get o = some (.cells cs ro) ∧ V.underL n cs = true ∧ obs[i]? = some (.cells cs ro)
  | [], obs, h => by simp [keep] at h; subst h; simp
  | o :: os, obs, h => by
    simp only [keep] at h
    split at h
    · rename_i cs ro hg
      split at h
      · rename_i hu
        split at h
        · rename_i r hr
          simp only [Option.some.injEq] at h; subst h
          obtain ⟨h1, h2⟩ := keep_get hr
          refine ⟨by simp [h1], fun i o' hi => ?_⟩
          cases i with
          | zero => simp at hi; subst hi; exact ⟨cs, ro, hg, hu, by simp⟩
          | succ i => simpa using h2 i o' (by simpa using hi)
        · cases h
      · cases h
    · cases h

end Go.AI

/- settle. -/
namespace Go.AI
variable {P : Program}

mutual
theorem cov_under {n N : Nat} : ∀ {v : V}, v.under N = true → v.cov n [] → v.under n = true
  | .bool _, _, _ => rfl
  | .int _ _, _, _ => rfl
  | .str _, _, _ => rfl
  | .nilp, _, _ => rfl
  | .ptr o _, _, h => by simp only [V.cov, List.not_mem_nil, or_false] at h; simp only [V.under]; exact blt_iff.2 h
  | .lp _ _, hu, _ => by simp [V.under] at hu
  | .nils, _, _ => rfl
  | .slc o _ _ _ _, _, h => by simp only [V.cov, List.not_mem_nil, or_false] at h; simp only [V.under]; exact blt_iff.2 h
  | .nilm, _, _ => rfl
  | .map o, _, h => by simp only [V.cov, List.not_mem_nil, or_false] at h; simp only [V.under]; exact blt_iff.2 h
  | .fn f a b, hu, h => by
    simp only [V.under, Bool.and_eq_true] at hu
    simp only [V.cov, List.not_mem_nil, or_false] at h
    simp only [V.under, Bool.and_eq_true]
    refine ⟨⟨?_, covL_under hu.1.2 h.2.1⟩, covL_under hu.2 h.2.2⟩
    cases f <;> try rfl
    exact blt_iff.2 (h.1 _ rfl)
  | .nilf, _, _ => rfl
  | .nili, _, _ => rfl
  | .ifc _ v, hu, h => by simp only [V.under] at hu; simp only [V.cov] at h; simp only [V.under]; exact cov_under hu h
  | .agg cs, hu, h => by simp only [V.under] at hu; simp only [V.cov] at h; simp only [V.under]; exact covL_under hu h
  | .tup cs, hu, h => by simp only [V.under] at hu; simp only [V.cov] at h; simp only [V.under]; exact covL_under hu h
  | .dead, hu, _ => by simp [V.under] at hu
theorem covL_under {n N : Nat} : ∀ {vs : List V}, V.underL N vs = true → V.covL n [] vs → V.underL n vs = true
  | [], _, _ => rfl
  | v :: vs, hu, h => by
    simp only [V.underL, Bool.and_eq_true] at hu
    simp only [V.covL] at h
    simp only [V.underL, Bool.and_eq_true]
    exact ⟨cov_under hu.1 h.1, covL_under hu.2 h.2⟩
end

theorem nodup_get {l : List Nat} (h : l.Nodup) {i j x : Nat} (hi : l[i]? = some x) (hj : l[j]? = some x) : i = j := by
  obtain ⟨h1, h2⟩ := List.getElem?_eq_some_iff.1 hi
  obtain ⟨h3, h4⟩ := List.getElem?_eq_some_iff.1 hj
  rcases Nat.lt_trichotomy i j with q | q | q
  · exact absurd (h2.trans h4.symm) (List.pairwise_iff_getElem.1 h i j h1 h3 q)
  · exact q
  · exact absurd (h4.trans h2.symm) (List.pairwise_iff_getElem.1 h j i h3 h1 q)

theorem get_append_left' {ι t : List Blk} {o : Nat} (h : o < ι.length) : (ι ++ t)[o]? = ι[o]? := List.getElem?_append_left h

section
variable {ι ι1 : List Blk} {β β0 β1 : Nat → Nat} {L L1 : Boxes} {m m1 : Mem} {w w1 : World}

theorem elder_next (h : m.next ≤ m1.next) : (elder m m1).next = m.next := by unfold elder; split <;> rfl

theorem elder_get (mm : MM (enter m) m1) {o : Nat} (ho : o < m.next) : (elder m m1).get o = m1.get o := by
  have hn : m.next ≤ m1.next := mm.next
  unfold elder
  split
  · unfold Mem.get
    simp only
    rw [if_pos (blt_iff.2 ho), if_pos (blt_iff.2 (by omega)), List.getElem?_drop]
    congr 1; omega
  · rename_i hw
    rw [blt_iff] at hw
    exact (mm.w o ho (by omega)).symm

theorem elder_mm (mm : MM (enter m) m1) (hle : m.lo ≤ m.next) (hd : m.next ≤ m1.dmin) : MM m (elder m m1) := by
  have hn : m.next ≤ m1.next := mm.next
  unfold elder
  split
  · rename_i hw
    rw [blt_iff] at hw
    have hg : ∀ o, o < m.next → ({ m with objs := m1.objs.drop (m1.next - m.next), wmin := AI.back m.lo m.wmin m1.wmin } : Mem).get o = m1.get o := by
      intro o ho
      have := elder_get mm ho
      unfold elder at this
      rw [if_pos (blt_iff.2 hw)] at this
      exact this
    refine ⟨rfl, Nat.le_refl _, ?_, Nat.le_refl _, fun o ho h2 => ?_, fun o ho _ x' hx' => ?_⟩
    · show AI.back m.lo m.wmin m1.wmin ≤ m.wmin
      unfold AI.back; split <;> omega
    · rw [hg o (by omega)]
      refine mm.w o (show o < m.next by omega) ?_
      have h2 : o < AI.back m.lo m.wmin m1.wmin := h2
      unfold AI.back at h2
      split at h2
      · omega
      · rename_i h3; rw [blt_iff] at h3; omega
    · rw [hg o (by omega)] at hx'
      exact mm.d o (show o < m.next by omega) (by omega) x' hx'
  · exact MM.refl _

theorem keepAll_mm (mm : MM (enter m) m1) (hle : m.lo ≤ m.next) : MM m (keepAll m m1) := by
  have hn : m.next ≤ m1.next := mm.next
  have hg : ∀ o, (keepAll m m1).get o = m1.get o := fun _ => rfl
  refine ⟨rfl, hn, ?_, ?_, fun o ho h2 => ?_, fun o ho h2 x' hx' => ?_⟩
  · show AI.back m.lo m.wmin m1.wmin ≤ m.wmin
    unfold AI.back; split <;> omega
  · show AI.back m.lo m.dmin m1.dmin ≤ m.dmin
    unfold AI.back; split <;> omega
  · rw [hg]
    refine mm.w o (show o < m.next by omega) ?_
    have h2 : o < AI.back m.lo m.wmin m1.wmin := h2
    unfold AI.back at h2
    split at h2
    · omega
    · rename_i h3; rw [blt_iff] at h3; omega
  · rw [hg] at hx'
    refine mm.d o (show o < m.next by omega) ?_ x' hx'
    have h2 : o < AI.back m.lo m.dmin m1.dmin := h2
    unfold AI.back at h2
    split at h2
    · omega
    · rename_i h3; rw [blt_iff] at h3; omega

/-- An elder object means what it meant. -/
theorem elder_ob (h : WR P ι β L m w) (mm : MM (enter m) m1) (hd : m.next ≤ m1.dmin) (hp : ι <+: ι1) {o : Nat} (ho : o < m.next) {x : Ob} (hx : m1.get o = some x) (b : Blk) (hob : ObR P ι1 w1 b x) : ObR P ι w1 b x := by
  obtain ⟨x0, hx0, hu⟩ := mm.d o ho (by omega) x hx
  obtain ⟨b0, _, hob0⟩ := h.obj o x0 hx0
  exact hob.down hp (hu _ hob0.under)

theorem settle_sound (h : WR P ι β L m w) (h1 : WR P ι1 β1 L1 m1 w1) (t : Tr ι β0 [] (AI.enter m) w ι1 β1 L1 m1 w1) (mm : MM (AI.enter m) m1) (hle : m.lo ≤ m.next) {v v' : V} {c : Value} {m' : Mem}
    (hv : conc ι1 v = some c) (hs : settle m m1 v = (v', m')) : ∃ ι', WR P ι' β L m' w1 ∧ Tr ι β L m w ι' β L m' w1 ∧ conc ι' v' = some c ∧ MM m m' := by
  have hn : m.next ≤ m1.next := mm.next
  have hu : v.under m1.next = true := by rw [← h1.len]; exact conc_under v c hv
  have keep_all : (v, keepAll m m1) = (v', m') → ∃ ι', WR P ι' β L m' w1 ∧ Tr ι β L m w ι' β L m' w1 ∧ conc ι' v' = some c ∧ MM m m' := by
    intro e
    simp only [Prod.mk.injEq] at e
    obtain ⟨rfl, rfl⟩ := e
    obtain ⟨q1, q2⟩ := h.back h1 t (ι' := ι1) (m' := keepAll m m1) t.pre h1.len id (fun _ _ _ _ h => h) (fun _ _ _ => rfl) (fun _ _ h => h) (fun o x hx => ⟨hx, fun _ h => h⟩)
    exact ⟨ι1, q1, q2, hv, keepAll_mm mm hle⟩
  unfold settle at hs
  split at hs
  · exact keep_all hs
  · rename_i hd
    rw [blt_iff] at hd
    have hd : m.next ≤ m1.dmin := by omega
    obtain ⟨hadd, hcov⟩ := newIds_add m.next m1.next v [] hu
    have hen := elder_next (m := m) (m1 := m1) hn
    split at hs
    · rename_i hids
      simp only [Prod.mk.injEq] at hs
      obtain ⟨rfl, rfl⟩ := hs
      obtain ⟨q1, q2⟩ := h.back h1 t (ι' := ι) (m' := elder m m1) (List.prefix_refl _) (by rw [hen]; exact h.len) id (fun _ _ _ _ h => h) (fun _ _ _ => rfl)
        (fun o b hb => get_pre t.pre hb) (fun o x hx => by
          have ho : o < m.next := by rw [← hen]; exact Mem.get_lt hx
          rw [elder_get mm ho] at hx
          exact ⟨hx, fun b hob => elder_ob h mm hd t.pre ho hx b hob⟩)
      refine ⟨ι, q1, q2, ?_, elder_mm mm hle hd⟩
      -- nothing is renamed
      have hun : v.under ι.length = true := by
        rw [h.len]
        rw [hids] at hcov
        exact cov_under hu hcov
      exact conc_down t.pre v c hun hv
    · rename_i ids hids0
      split at hs
      · rename_i obs hobs
        simp only [Prod.mk.injEq] at hs
        obtain ⟨rfl, rfl⟩ := hs
        generalize newIds m.next v [] = ids at *
        obtain ⟨k1, k2⟩ := keep_get hobs
        have hlo : ∀ o ∈ ids, m.next ≤ o := hadd.lo (by simp)
        have hhi : ∀ o ∈ ids, o < m1.next := hadd.hi (by simp)
        have hnd : ids.reverse.Nodup := by
          have := hadd.nodup List.Pairwise.nil
          exact List.pairwise_reverse.2 (List.Pairwise.imp (fun h => Ne.symm h) this)
        -- the place of an object
        let f : Nat → Nat := fun o => if o < m.next then o else ids.reverse.getD (o - m.next) 0
        have hf1 : ∀ o, o < m.next → f o = o := fun o ho => if_pos ho
        have hf2 : ∀ o, ¬ o < m.next → o < m.next + ids.length → ids.reverse[o - m.next]? = some (f o) ∧ f o ∈ ids := by
          intro o ho1 ho2
          have hlt : o - m.next < ids.reverse.length := by simp; omega
          have : f o = ids.reverse[o - m.next] := by
            show (if o < m.next then o else ids.reverse.getD (o - m.next) 0) = _
            rw [if_neg ho1, List.getD_eq_getElem?_getD, List.getElem?_eq_getElem hlt]; rfl
          rw [this]
          exact ⟨List.getElem?_eq_getElem hlt, by rw [← List.mem_reverse]; exact List.getElem_mem hlt⟩
        have hlen1 : ∀ o ∈ ids, ∃ b, ι1[o]? = some b := fun o ho => ⟨_, List.getElem?_eq_getElem (by rw [h1.len]; exact hhi o ho)⟩
        let news : List Blk := ids.reverse.map fun o => ι1.getD o default
        have hnews : ∀ (j o : Nat), ids.reverse[j]? = some o → (ι ++ news)[m.next + j]? = ι1[o]? := by
          intro j o hj
          have ho : o ∈ ids := by rw [← List.mem_reverse]; exact List.mem_of_getElem? hj
          obtain ⟨b, hb⟩ := hlen1 o ho
          rw [List.getElem?_append_right (by rw [h.len]; omega), h.len]
          have : m.next + j - m.next = j := by omega
          rw [this, List.getElem?_map, hj]
          simp [hb]
        let m2 : Mem := { elder m m1 with objs := obs ++ (elder m m1).objs, next := m.next + ids.length }
        have hget1 : ∀ o, o < m.next → m2.get o = m1.get o := by
          intro o ho
          rw [← elder_get mm ho]
          show Mem.get { elder m m1 with objs := obs ++ (elder m m1).objs, next := m.next + ids.length } o = _
          unfold Mem.get
          simp only
          rw [hen, if_pos (blt_iff.2 (by omega)), if_pos (blt_iff.2 ho), List.getElem?_append_right (by omega), k1]
          congr 1; omega
        have hget2 : ∀ o, ¬ o < m.next → ∀ x, m2.get o = some x → m1.get (f o) = some x ∧ ∃ cs ro, x = .cells cs ro ∧ V.underL m.next cs = true := by
          intro o ho x hx
          have hlt : o < m.next + ids.length := Mem.get_lt hx
          obtain ⟨q1, _⟩ := hf2 o ho hlt
          have hx' : (obs ++ (elder m m1).objs)[m.next + ids.length - 1 - o]? = some x := by
            have : m2.get o = (if Nat.blt o (m.next + ids.length) then (obs ++ (elder m m1).objs)[m.next + ids.length - 1 - o]? else none) := rfl
            rw [this, if_pos (blt_iff.2 hlt)] at hx
            exact hx
          rw [List.getElem?_append_left (by omega)] at hx'
          have hi : ids[m.next + ids.length - 1 - o]? = some (f o) := by
            rw [List.getElem?_reverse (by omega)] at q1
            rw [← q1]; congr 1; omega
          obtain ⟨cs, ro, g1, g2, g3⟩ := k2 _ _ hi
          rw [hx'] at g3
          simp only [Option.some.injEq] at g3
          subst g3
          exact ⟨g1, cs, ro, rfl, g2⟩
        have hinj : ∀ o o', o < m.next + ids.length → o' < m.next + ids.length → f o = f o' → o = o' := by
          intro o o' ho ho' he
          by_cases h1o : o < m.next
          · by_cases h2o : o' < m.next
            · rwa [hf1 o h1o, hf1 o' h2o] at he
            · have := hlo _ (hf2 o' h2o ho').2
              rw [hf1 o h1o] at he; omega
          · by_cases h2o : o' < m.next
            · have := hlo _ (hf2 o h1o ho).2
              rw [hf1 o' h2o] at he; omega
            · have e1 := (hf2 o h1o ho).1
              have e2 := (hf2 o' h2o ho').1
              rw [he] at e1
              have := nodup_get hnd e1 e2
              omega
        have hfo : ∀ o, o < m.next + ids.length → f o < m.next → f o = o := by
          intro o ho hlt
          by_cases h1o : o < m.next
          · exact hf1 o h1o
          · have := hlo _ (hf2 o h1o ho).2; omega
        obtain ⟨q1, q2⟩ := h.back h1 t (ι' := ι ++ news) (m' := m2) (List.prefix_append _ _) (by
            show (ι ++ news).length = m.next + ids.length
            simp [news, h.len]) f hinj hfo
          (fun o b hb => by
            by_cases h1o : o < m.next
            · rw [hf1 o h1o]
              rw [get_append_left' (by rw [h.len]; exact h1o)] at hb
              exact get_pre t.pre hb
            · have hlt : o < m.next + ids.length := by
                have := (List.getElem?_eq_some_iff.1 hb).1
                simp [news, h.len] at this; omega
              have e := hnews _ _ (hf2 o h1o hlt).1
              have e2 : m.next + (o - m.next) = o := by omega
              rw [e2] at e
              rw [← e]; exact hb)
          (fun o x hx => by
            by_cases h1o : o < m.next
            · rw [hget1 o h1o] at hx
              rw [hf1 o h1o]
              exact ⟨hx, fun b hob => (elder_ob h mm hd t.pre h1o hx b hob).keep (w := w1) (List.prefix_append _ _) fun _ _ => rfl⟩
            · obtain ⟨g1, cs, ro, rfl, g2⟩ := hget2 o h1o x hx
              refine ⟨g1, fun b hob => ?_⟩
              have hd : ObR P ι w1 b (.cells cs ro) := hob.down t.pre (by
                show V.underL ι.length cs = true
                rw [h.len]; exact g2)
              exact hd.keep (w := w1) (List.prefix_append _ _) fun _ _ => rfl)
        refine ⟨_, q1, q2, ?_, ?_⟩
        · refine rename_conc (ι1 := ι1) (fun o ho => ?_) v c hcov hv
          unfold newId
          rcases Nat.lt_or_ge o m.next with h1o | h1o
          · rw [if_pos (blt_iff.2 h1o), get_append_left' (by rw [h.len]; exact h1o)]
            exact (get_of_pre t.pre (blt_iff.2 (by rw [h.len]; exact h1o))).symm
          · rw [if_neg (by rw [blt_iff]; omega)]
            have hm : o ∈ ids := by
              rcases ho with ho | ho
              · omega
              · exact ho
            exact hnews _ _ (place_get hm).2
        · have e1 := elder_mm mm hle hd
          have hlo2 : (elder m m1).lo = m.lo := e1.lo
          refine ⟨hlo2, ?_, e1.wmin, e1.dmin, fun o ho h2 => ?_, fun o ho h2 x' hx' => ?_⟩
          · show m.next ≤ m.next + ids.length
            omega
          · have ho' : o < m.next := by omega
            rw [show Mem.get _ o = m2.get o from rfl, hget1 o ho', ← elder_get mm ho']
            exact e1.w o ho h2
          · have ho' : o < m.next := by omega
            rw [show Mem.get _ o = m2.get o from rfl, hget1 o ho', ← elder_get mm ho'] at hx'
            exact e1.d o ho h2 x' hx'
      · exact keep_all hs

end
end Go.AI
