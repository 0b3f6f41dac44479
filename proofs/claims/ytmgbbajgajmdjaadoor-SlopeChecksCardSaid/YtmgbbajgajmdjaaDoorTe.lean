/- The small code is sound: regions whose order is drawn. -/
import Derived.Test.YtmgbbajgajmdjaaDoorTd
import Derived.OrdersIn

set_option linter.unusedSimpArgs false
set_option linter.unusedVariables false

/- A region that draws its order: values and operations. -/
namespace Go.AI
variable {P : Program}

theorem sameFn_eq : ∀ {f g : Fn}, sameFn f g = true → f = g := by
  intro f g h
  cases f <;> cases g <;> first | (cases h; done) | (simp only [sameFn, beq_iff] at h; rw [h])

mutual
theorem V.same_eq : ∀ {a b : V}, V.same a b = true → a = b
  | .bool a, b, h => by cases b <;> first | (simp [V.same] at h; done) | (simp [V.same] at h; rw [h])
  | .int k a, b, h => by cases b <;> first | (simp [V.same] at h; done) | (simp [V.same] at h; rw [h.1, h.2])
  | .str a, b, h => by
    cases b <;> first | (simp [V.same] at h; done) | skip
    simp only [V.same, beq_iff_eq] at h
    rw [ByteArray.ext (Array.toList_inj.1 h)]
  | .nilp, b, h => by cases b <;> first | (simp [V.same] at h; done) | rfl
  | .ptr o a, b, h => by cases b <;> first | (simp [V.same] at h; done) | (simp [V.same] at h; rw [h.1, h.2])
  | .lp o a, b, h => by cases b <;> first | (simp [V.same] at h; done) | (simp [V.same] at h; rw [h.1, h.2])
  | .nils, b, h => by cases b <;> first | (simp [V.same] at h; done) | rfl
  | .slc o a x l c, b, h => by
    cases b <;> first | (simp [V.same] at h; done) | skip
    simp only [V.same, Bool.and_eq_true, beq_iff, decide_eq_true_eq] at h
    obtain ⟨⟨⟨⟨h1, h2⟩, h3⟩, h4⟩, h5⟩ := h
    rw [h1, h2, h3, h4, h5]
  | .nilm, b, h => by cases b <;> first | (simp [V.same] at h; done) | rfl
  | .map o, b, h => by cases b <;> first | (simp [V.same] at h; done) | (simp [V.same] at h; rw [h])
  | .fn f x y, b, h => by
    cases b <;> first | (simp [V.same] at h; done) | skip
    simp only [V.same, Bool.and_eq_true] at h
    rw [sameFn_eq h.1.1, V.sameL_eq h.1.2, V.sameL_eq h.2]
  | .nilf, b, h => by cases b <;> first | (simp [V.same] at h; done) | rfl
  | .nili, b, h => by cases b <;> first | (simp [V.same] at h; done) | rfl
  | .ifc t v, b, h => by
    cases b <;> first | (simp [V.same] at h; done) | skip
    simp only [V.same, Bool.and_eq_true, beq_iff] at h
    rw [h.1, V.same_eq h.2]
  | .agg a, b, h => by
    cases b <;> first | (simp [V.same] at h; done) | skip
    simp only [V.same] at h
    rw [V.sameL_eq h]
  | .tup a, b, h => by
    cases b <;> first | (simp [V.same] at h; done) | skip
    simp only [V.same] at h
    rw [V.sameL_eq h]
  | .dead, b, h => by simp [V.same] at h
theorem V.sameL_eq : ∀ {a b : List V}, V.sameL a b = true → a = b
  | [], [], _ => rfl
  | x :: xs, y :: ys, h => by
    simp only [V.sameL, Bool.and_eq_true] at h
    rw [V.same_eq h.1, V.sameL_eq h.2]
  | [], _ :: _, h => by simp [V.sameL] at h
  | _ :: _, [], h => by simp [V.sameL] at h
end

section congr
variable {l1 l2 A1 A2 : List V}

theorem evL_congr : ∀ {xs : List Src}, (∀ s ∈ xs, ev l1 A1 s = ev l2 A2 s) → evL l1 A1 xs = evL l2 A2 xs
  | [], _ => rfl
  | x :: xs, h => by simp only [evL]; rw [h x (by simp), evL_congr fun s hs => h s (by simp [hs])]

theorem evP_congr : ∀ {ps : List (Nat × Nat × Src)}, (∀ s ∈ partSrcs ps, ev l1 A1 s = ev l2 A2 s) → evP l1 A1 ps = evP l2 A2 ps
  | [], _ => rfl
  | (a, b, x) :: ps, h => by simp only [evP]; rw [h x (by simp [partSrcs]), evP_congr fun s hs => h s (by simp [partSrcs, hs])]

theorem optNat_congr {x : Option Src} {d : Nat} (h : ∀ s ∈ optSrcs x, ev l1 A1 s = ev l2 A2 s) : optNat l1 A1 x d = optNat l2 A2 x d := by
  cases x with
  | none => rfl
  | some s => simp only [optNat]; rw [h s (by simp [optSrcs])]

theorem pureOp_congr {L : Boxes} {m : Mem} {q : POp} (h : ∀ s ∈ q.srcs, ev l1 A1 s = ev l2 A2 s) : pureOp l1 A1 L m q = pureOp l2 A2 L m q := by
  cases q
  case bld zs parts => simp only [pureOp]; rw [evP_congr h]
  case mkFn f a b =>
    simp only [pureOp]
    rw [evL_congr (xs := a) fun s hs => h s (by simp [POp.srcs, hs]), evL_congr (xs := b) fun s hs => h s (by simp [POp.srcs, hs])]
  case minmax b x xs =>
    simp only [pureOp]
    rw [h x (by simp [POp.srcs]), evL_congr (xs := xs) fun s hs => h s (by simp [POp.srcs, hs])]
  case slArr n size x lo hi mx =>
    have e1 := h x (by simp [POp.srcs])
    have e2 : ∀ d, optNat l1 A1 lo d = optNat l2 A2 lo d := fun d => optNat_congr fun s hs => h s (by simp [POp.srcs, hs])
    have e3 : ∀ d, optNat l1 A1 hi d = optNat l2 A2 hi d := fun d => optNat_congr fun s hs => h s (by simp [POp.srcs, hs])
    have e4 : ∀ d, optNat l1 A1 mx d = optNat l2 A2 mx d := fun d => optNat_congr fun s hs => h s (by simp [POp.srcs, hs])
    simp only [pureOp, e1, e2, e3, e4]
  case sl size x lo hi mx =>
    have e1 := h x (by simp [POp.srcs])
    have e2 : ∀ d, optNat l1 A1 lo d = optNat l2 A2 lo d := fun d => optNat_congr fun s hs => h s (by simp [POp.srcs, hs])
    have e3 : ∀ d, optNat l1 A1 hi d = optNat l2 A2 hi d := fun d => optNat_congr fun s hs => h s (by simp [POp.srcs, hs])
    have e4 : ∀ d, optNat l1 A1 mx d = optNat l2 A2 mx d := fun d => optNat_congr fun s hs => h s (by simp [POp.srcs, hs])
    cases mx with
    | none => simp only [pureOp, e1, e2, e3, e4]
    | some y =>
      have e5 := h y (by simp [POp.srcs, optSrcs])
      simp only [pureOp, e1, e2, e3, e4, e5]
  case slStr x lo hi =>
    have e1 := h x (by simp [POp.srcs])
    have e2 : ∀ d, optNat l1 A1 lo d = optNat l2 A2 lo d := fun d => optNat_congr fun s hs => h s (by simp [POp.srcs, hs])
    have e3 : ∀ d, optNat l1 A1 hi d = optNat l2 A2 hi d := fun d => optNat_congr fun s hs => h s (by simp [POp.srcs, hs])
    simp only [pureOp, e1, e2, e3]
  case pick c a b => simp only [pureOp]; rw [h c (by simp [POp.srcs]), h a (by simp [POp.srcs]), h b (by simp [POp.srcs])]
  case fail => rfl
  case lenC => rfl
  all_goals
    simp only [POp.srcs, List.mem_cons, List.not_mem_nil, or_false, forall_eq_or_imp, forall_eq] at h
    first
    | (obtain ⟨h1, h2⟩ := h; simp only [pureOp, h1, h2]; done)
    | (simp only [pureOp, h]; done)

theorem effOp_congr {L : Boxes} {m : Mem} {q : EOp} (h : ∀ s ∈ q.srcs, ev l1 A1 s = ev l2 A2 s) : effOp l1 A1 L m q = effOp l2 A2 L m q := by
  cases q
  case bldSl n zs parts => simp only [effOp]; rw [evP_congr h]
  case alloc => rfl
  case mkMap => rfl
  case update ks m k x =>
    have e1 := h m (by simp [EOp.srcs])
    have e2 := h k (by simp [EOp.srcs])
    have e3 := h x (by simp [EOp.srcs])
    simp only [effOp, e1, e2, e3]
  all_goals
    simp only [EOp.srcs, List.mem_cons, List.not_mem_nil, or_false, forall_eq_or_imp, forall_eq] at h
    first
    | (obtain ⟨h1, h2⟩ := h; simp only [effOp, h1, h2]; done)
    | (simp only [effOp, h]; done)

theorem callOp_congr {call : CallF} {m : Mem} {q : COp} {K : V → Mem → Ans} (h : ∀ s ∈ q.srcs, ev l1 A1 s = ev l2 A2 s) : callOp call l1 A1 m q K = callOp call l2 A2 m q K := by
  cases q with
  | fnv f args => simp only [callOp]; rw [h f (by simp [COp.srcs]), evL_congr (xs := args) fun s hs => h s (by simp [COp.srcs, hs])]
  | inv t x args => simp only [callOp]; rw [h x (by simp [COp.srcs]), evL_congr (xs := args) fun s hs => h s (by simp [COp.srcs, hs])]

theorem wantedG_congr {g : Option (Src × Bool)} (h : ∀ s ∈ guardSrcs g, ev l1 A1 s = ev l2 A2 s) : wantedG l1 A1 g = wantedG l2 A2 g := by
  rcases g with _ | ⟨s, b⟩
  · rfl
  · simp only [wantedG]; rw [h s (by simp [guardSrcs])]

end congr

theorem pureOp_free {locs A : List V} {q : POp} (h : q.reads = 0) (L L' : Boxes) (m m' : Mem) : pureOp locs A L m q = pureOp locs A L' m' q := by
  cases q <;> first | rfl | (simp [POp.reads] at h)

theorem pureOp_box {locs A : List V} {q : POp} (h : q.reads = 2) (L : Boxes) (m m' : Mem) : pureOp locs A L m q = pureOp locs A L m' q := by
  cases q <;> first | rfl | (simp [POp.reads] at h)

theorem POp.reads_lt (q : POp) : q.reads = 0 ∨ q.reads = 1 ∨ q.reads = 2 := by cases q <;> simp [POp.reads]

theorem append_L {L L' : Boxes} {m m' : Mem} {b s : Nat} {x v : V} {new : List V} {n : Nat} (h : append L m b s x new n = some (v, L', m')) : L' = L := by
  unfold append at h
  split at h
  · cases h
  · split at h
    · split at h
      · simp only [Option.some.injEq, Prod.mk.injEq] at h; exact h.2.1.symm
      · split at h
        · simp only [Option.some.injEq, Prod.mk.injEq] at h; exact h.2.1.symm
        · cases h
    · split at h
      · split at h
        · split at h
          · simp only [Option.some.injEq, Prod.mk.injEq] at h; exact h.2.1.symm
          · cases h
        · simp only [Option.some.injEq, Prod.mk.injEq] at h; exact h.2.1.symm
      · split at h
        · split at h
          · split at h
            · split at h
              · split at h
                · simp only [Option.some.injEq, Prod.mk.injEq] at h; exact h.2.1.symm
                · cases h
              · simp only [Option.some.injEq, Prod.mk.injEq] at h; exact h.2.1.symm
            · split at h
              · cases h
              · simp only [Option.some.injEq, Prod.mk.injEq] at h; exact h.2.1.symm
          · cases h
        · cases h
    · cases h

theorem effOp_L {locs A : List V} {L L' : Boxes} {m m' : Mem} {q : EOp} {v : V} (hs : siteOf q = none) (hn : isSt (.e q) = false) (h : effOp locs A L m q = some (v, L', m')) : L' = L := by
  cases q <;> simp only [effOp] at h
  case alloc s zs =>
    simp only [siteOf] at hs; subst hs
    simp only [newVar, Option.some.injEq, Prod.mk.injEq] at h; exact h.2.1.symm
  case boxv s x =>
    simp only [siteOf] at hs; subst hs
    split at h
    · simp only [newVar, Option.some.injEq, Prod.mk.injEq] at h; exact h.2.1.symm
    · cases h
  case bldSl =>
    split at h
    · simp only [Option.some.injEq, Prod.mk.injEq] at h; exact h.2.1.symm
    · cases h
  case st => cases hn
  case mkMap => simp only [Option.some.injEq, Prod.mk.injEq] at h; exact h.2.1.symm
  case mkSl =>
    split at h
    · split at h
      · simp only [Option.some.injEq, Prod.mk.injEq] at h; exact h.2.1.symm
      · cases h
    · cases h
  case append =>
    split at h
    · cases h
    · exact append_L h
  case appendZ =>
    split at h
    · cases h
    · split at h
      · exact append_L h
      · cases h
  case copy => cases hn
  case update =>
    split at h
    · split at h
      · split at h
        · split at h
          · simp only [Option.some.injEq, Prod.mk.injEq] at h; exact h.2.1.symm
          · simp only [Option.some.injEq, Prod.mk.injEq] at h; exact h.2.1.symm
          · cases h
        · cases h
      · cases h
    · cases h

end Go.AI

/- A region that draws its order: variables that are made early. -/
namespace Go.AI
variable {P : Program}

/-- A block that was made, and is not there yet. -/
structure Pend (ι : List Blk) (β : Nat → Nat) (L : Boxes) (m : Mem) (w : World) (h0 b : Nat) (cs : List V) : Prop where
  ob : ∃ xs t, concL ι cs = some xs ∧ w.heap[b]? = some (.cells xs.toArray t (0, 0))
  no : ∀ k, ¬ owns ι β L m k b
  ro : ∀ (o : Nat) cs' b', m.get o = some (.cells cs' true) → cs' ≠ [] → ι[o]? = some b' → b'.block ≠ b
  lo : h0 ≤ b

section
variable {ι ι' : List Blk} {β β' : Nat → Nat} {L L' : Boxes} {m m' : Mem} {w w' : World} {h0 b : Nat} {cs : List V}

theorem Pend.lt (p : Pend ι β L m w h0 b cs) : b < w.heap.size := by
  obtain ⟨xs, t, _, h⟩ := p.ob
  exact lt_of_get h

theorem Pend.tr (p : Pend ι β L m w h0 b cs) (hw : WR P ι β L m w) (t : Tr ι β L m w ι' β' L' m' w') : Pend ι' β' L' m' w' h0 b cs := by
  have hlt := p.lt
  obtain ⟨xs, ty, h1, h2⟩ := p.ob
  refine ⟨⟨xs, ty, concL_pre t.pre _ _ h1, by rw [t.same b hlt p.no]; exact h2⟩, fun k hk => ?_, fun o cs' b' hg hne hb => ?_, p.lo⟩
  · rcases t.own k b hk with ⟨k0, hk0⟩ | q
    · exact p.no k0 hk0
    · omega
  · have hg0 := t.ro o cs' hg
    obtain ⟨b0, hb0, _⟩ := hw.obj o _ hg0
    have := get_pre t.pre hb0
    rw [hb] at this; cases this
    exact p.ro o cs' b' hg0 hne hb0

/-- A new block that is not there yet. -/
theorem WR.grow (h : WR P ι β L m w) (o : Obj) : WR P ι β L m (w.alloc o) ∧ Tr ι β L m w ι β L m (w.alloc o) := by
  refine ⟨{ obj := fun o' y hy => ?_, box := fun s hs => ?_, len := h.len, glob := h.glob, inj := h.inj, ro := h.ro }, ?_⟩
  · obtain ⟨b, hb, hob⟩ := h.obj o' y hy
    exact ⟨b, hb, hob.keep (List.prefix_refl _) fun _ hlt => World.alloc_old w _ hlt⟩
  · obtain ⟨xs, t, h1, h2⟩ := h.box s hs
    exact ⟨xs, t, h1, by rw [World.alloc_old w _ (lt_of_get h2)]; exact h2⟩
  · exact ⟨List.prefix_refl _, by rw [World.alloc_size']; omega, fun b hb _ => World.alloc_old w _ hb, fun b r hr => ⟨r, by rw [World.alloc_old w _ (lt_of_get hr)]; exact hr⟩, fun k b hk => .inl ⟨k, hk⟩, ⟨rfl, rfl, rfl⟩, fun _ _ h => h⟩

theorem WR.ro_lt (h : WR P ι β L m w) {o : Nat} {cs' : List V} {b' : Blk} (hg : m.get o = some (.cells cs' true)) (hne : cs' ≠ []) (hb : ι[o]? = some b') : b'.block < w.heap.size := by
  obtain ⟨b0, hb0, xs, hx1, hx2⟩ := h.obj o _ hg
  rw [hb] at hb0; cases hb0
  have hlen := concL_length hx1
  cases xs with
  | nil => exact absurd (List.eq_nil_of_length_eq_zero (by simpa using hlen.symm)) hne
  | cons x xs => have := lt_of_cell (hx2 0 x rfl); simpa using this

theorem Pend.new (h : WR P ι β L m w) {xs : List Value} {t : TypeId} (hx : concL ι cs = some xs) (hh : h0 ≤ w.heap.size) : Pend ι β L m (w.alloc (.cells xs.toArray t)) h0 w.heap.size cs := by
  refine ⟨⟨xs, t, hx, World.alloc_new w _⟩, fun k hk => ?_, fun o cs' b' hg hne hb => ?_, hh⟩
  · have := h.toRD.owns_lt hk
    omega
  · have := h.ro_lt hg hne hb
    omega

/-- From here on it is there: a variable in memory. -/
theorem WR.regObj (h : WR P ι β L m w) {ι0 : List Blk} {β0 : Nat → Nat} {L0 : Boxes} {m0 : Mem} {w0 : World} (t : Tr ι0 β0 L0 m0 w0 ι β L m w) (p : Pend ι β L m w w0.heap.size b cs) :
    ∃ n, WR P (ι ++ [⟨b, 0, n⟩]) β L (m.push (.cells cs false)) w ∧ Tr ι0 β0 L0 m0 w0 (ι ++ [⟨b, 0, n⟩]) β L (m.push (.cells cs false)) w := by
  obtain ⟨xs, ty, hx, hb0⟩ := p.ob
  refine ⟨xs.length, ?_⟩
  have hpre : ι <+: ι ++ [⟨b, 0, xs.length⟩] := List.prefix_append _ _
  have hnew : (ι ++ [⟨b, 0, xs.length⟩])[m.next]? = some ⟨b, 0, xs.length⟩ := by rw [← h.len]; simp
  have hown : ∀ k b', owns (ι ++ [⟨b, 0, xs.length⟩]) β L (m.push (.cells cs false)) k b' → (k = .ob m.next ∧ b' = b) ∨ owns ι β L m k b' := by
    intro k b' hk
    cases k with
    | ob o =>
      obtain ⟨y, bl, h1, h2, h3, rfl⟩ := hk
      rw [Mem.get_push] at h1
      by_cases he : o = m.next
      · subst he; rw [hnew] at h3; cases h3; exact .inl ⟨rfl, rfl⟩
      · rw [if_neg he] at h1
        rw [get_append_old (by rw [h.len]; exact Mem.get_lt h1)] at h3
        exact .inr ⟨y, bl, h1, h2, h3, rfl⟩
    | bx s => exact .inr hk
  refine ⟨{ len := by simp [Mem.push, h.len], glob := ?_, obj := ?_, box := ?_, inj := ?_, ro := ?_ }, ?_⟩
  · intro o y hy
    rw [Mem.get_push] at hy
    by_cases he : o = m.next
    · subst he; rw [if_pos rfl] at hy; cases hy
      exact ⟨_, hnew, xs, xs.toArray, ty, concL_pre hpre _ _ hx, hb0, by simp, by simp [concL_length hx], fun i v hv => by simpa using hv⟩
    · rw [if_neg he] at hy
      obtain ⟨b, hb, hob⟩ := h.obj o y hy
      exact ⟨b, get_pre hpre hb, hob.keep hpre fun _ _ => rfl⟩
  · intro s hs
    obtain ⟨xs, t, h1, h2⟩ := h.box s hs
    exact ⟨xs, t, concL_pre hpre _ _ h1, h2⟩
  · intro g hg
    obtain ⟨b, hb, q⟩ := h.glob g hg
    exact ⟨b, get_pre hpre hb, q⟩
  · intro k k' b' hk hk'
    rcases hown k b' hk with ⟨rfl, rfl⟩ | h1
    · rcases hown k' _ hk' with ⟨rfl, _⟩ | h2
      · rfl
      · exact absurd h2 (p.no k')
    · rcases hown k' b' hk' with ⟨rfl, rfl⟩ | h2
      · exact absurd h1 (p.no k)
      · exact h.inj k k' b' h1 h2
  · intro o cs' b' k hg hne hb hk
    rw [Mem.get_push] at hg
    by_cases he : o = m.next
    · rw [if_pos he] at hg; cases hg
    · rw [if_neg he] at hg
      rw [get_append_old (by rw [h.len]; exact Mem.get_lt hg)] at hb
      rcases hown k b'.block hk with ⟨rfl, hbb⟩ | h1
      · exact p.ro o cs' b' hg hne hb hbb
      · exact h.ro o cs' b' k hg hne hb h1
  · refine ⟨t.pre.trans hpre, t.size, t.same, t.loops, fun k b' hk => ?_, t.os, fun o cs' h3 => ?_⟩
    · rcases hown k b' hk with ⟨_, rfl⟩ | h1
      · exact .inr p.lo
      · exact t.own k b' h1
    · rw [Mem.get_push] at h3
      split at h3
      · cases h3
      · exact t.ro o cs' h3

/-- From here on it is there: a box. -/
theorem WR.regBox (h : WR P ι β L m w) {ι0 : List Blk} {β0 : Nat → Nat} {L0 : Boxes} {m0 : Mem} {w0 : World} (t : Tr ι0 β0 L0 m0 w0 ι β L m w) (s : Nat) (p : Pend ι β L m w w0.heap.size b cs) :
    WR P ι (fun k => if k = s then b else β k) (L.put s cs) m w ∧ Tr ι0 β0 L0 m0 w0 ι (fun k => if k = s then b else β k) (L.put s cs) m w := by
  obtain ⟨xs, ty, hx, hb0⟩ := p.ob
  have hown : ∀ k b', owns ι (fun k => if k = s then b else β k) (L.put s cs) m k b' → (k = .bx s ∧ b' = b) ∨ (k ≠ .bx s ∧ owns ι β L m k b') := by
    intro k b' hk
    cases k with
    | ob o => exact .inr ⟨by simp, hk⟩
    | bx s' =>
      obtain ⟨h1, h2⟩ := hk
      rw [Boxes.get_put] at h1
      simp only at h2
      by_cases he : s' = s
      · subst he; rw [if_pos rfl] at h2; exact .inl ⟨rfl, h2.symm⟩
      · rw [if_neg he] at h1 h2; exact .inr ⟨by simpa using he, h1, h2⟩
  refine ⟨{ len := h.len, glob := h.glob, obj := h.obj, box := ?_, inj := ?_, ro := ?_ }, ?_⟩
  · intro s' hs
    rw [Boxes.get_put] at hs ⊢
    by_cases he : s' = s
    · subst he
      simp only [if_true]
      exact ⟨xs, ty, hx, hb0⟩
    · rw [if_neg he] at hs
      simp only [if_neg he]
      exact h.box s' hs
  · intro k k' b' hk hk'
    rcases hown k b' hk with ⟨rfl, rfl⟩ | ⟨_, h1⟩
    · rcases hown k' _ hk' with ⟨rfl, _⟩ | ⟨_, h2⟩
      · rfl
      · exact absurd h2 (p.no k')
    · rcases hown k' b' hk' with ⟨rfl, rfl⟩ | ⟨_, h2⟩
      · exact absurd h1 (p.no k)
      · exact h.inj k k' b' h1 h2
  · intro o cs' b' k hg hne hb hk
    rcases hown k b'.block hk with ⟨rfl, hbb⟩ | ⟨_, h1⟩
    · exact p.ro o cs' b' hg hne hb hbb
    · exact h.ro o cs' b' k hg hne hb h1
  · refine ⟨t.pre, t.size, t.same, t.loops, fun k b' hk => ?_, t.os, t.ro⟩
    rcases hown k b' hk with ⟨_, rfl⟩ | ⟨_, h1⟩
    · exact .inr p.lo
    · exact t.own k b' h1

/-- Another one stays what it is. -/
theorem Pend.regObj (p : Pend ι β L m w h0 b cs) {b1 n : Nat} {cs1 : List V} (h : WR P ι β L m w) (hne : b ≠ b1) : Pend (ι ++ [⟨b1, 0, n⟩]) β L (m.push (.cells cs1 false)) w h0 b cs := by
  have hpre : ι <+: ι ++ [⟨b1, 0, n⟩] := List.prefix_append _ _
  obtain ⟨xs, ty, hx, hb0⟩ := p.ob
  refine ⟨⟨xs, ty, concL_pre hpre _ _ hx, hb0⟩, fun k hk => ?_, fun o cs' b' hg hn hb => ?_, p.lo⟩
  · cases k with
    | ob o =>
      obtain ⟨y, bl, h1, h2, h3, h4⟩ := hk
      rw [Mem.get_push] at h1
      by_cases he : o = m.next
      · subst he
        rw [← h.len] at h3
        simp at h3
        rw [← h3] at h4
        exact hne h4.symm
      · rw [if_neg he] at h1
        rw [get_append_old (by rw [h.len]; exact Mem.get_lt h1)] at h3
        exact p.no (.ob o) ⟨y, bl, h1, h2, h3, h4⟩
    | bx s => exact p.no (.bx s) hk
  · rw [Mem.get_push] at hg
    split at hg
    · cases hg
    · rw [get_append_old (by rw [h.len]; exact Mem.get_lt hg)] at hb
      exact p.ro o cs' b' hg hn hb

theorem Pend.regBox (p : Pend ι β L m w h0 b cs) {b1 : Nat} {cs1 : List V} (s : Nat) (hne : b ≠ b1) : Pend ι (fun k => if k = s then b1 else β k) (L.put s cs1) m w h0 b cs := by
  refine ⟨p.ob, fun k hk => ?_, p.ro, p.lo⟩
  cases k with
  | ob o => exact p.no (.ob o) hk
  | bx s' =>
    obtain ⟨h1, h2⟩ := hk
    rw [Boxes.get_put] at h1
    simp only at h2
    by_cases he : s' = s
    · subst he; rw [if_pos rfl] at h2; exact hne h2.symm
    · rw [if_neg he] at h1 h2; exact p.no (.bx s') ⟨h1, h2⟩

end

section
variable {ι : List Blk} {β : Nat → Nat} {L : Boxes} {m : Mem} {E : Env} {dsts : List (Option Tmp)} {locs A : List V} {a : Act}

/-- What a maker that floats makes: its cells; and what its slot holds. -/
def floCells (locs A : List V) : EOp → Option (List V)
  | .alloc _ zs => some zs
  | .bldSl _ zs parts => fillP zs (evP locs A parts)
  | _ => none

def floVal (b : Nat) : EOp → Value
  | .alloc _ _ => .pointer (some ⟨b, 0, none⟩)
  | .bldSl len _ _ => .slice (some ⟨b, 0, none⟩) len len
  | _ => undef

theorem builtin_no_flo {E : Env} {dsts : List (Option Tmp)} {b : Builtin} {args : List Operand} {ts : List TypeId} {q : EOp} (hc : compBuiltin P E dsts b args ts = some (.e q)) (hq : (∃ s zs, q = .alloc s zs) ∨ ∃ n zs ps, q = .bldSl n zs ps) : False := by
  rcases hq with ⟨s, zs, rfl⟩ | ⟨n, zs, ps, rfl⟩ <;>
  · unfold compBuiltin at hc
    repeat (first | (cases hc; done) | (obtain ⟨_, _, hc⟩ := hc) | (split at hc) | simp only [Option.map_eq_some_iff, Option.bind_eq_bind, Option.bind_eq_some_iff, Option.pure_def, Option.some.injEq, RK.e.injEq, reduceCtorEq, and_false, exists_false, exists_const] at hc)

theorem compOp_flo {o : Oper} {q : EOp} (hc : compOp P E dsts o = some (.e q)) (hq : (∃ s zs, q = .alloc s zs) ∨ ∃ n zs ps, q = .bldSl n zs ps) : (∃ t, o.op = .alloc t) ∨ ∃ t n ps, o.op = .buildSlice t n ps := by
  obtain ⟨dst, op, ty, pos, after, guard⟩ := o
  cases op <;> simp only [compOp] at hc
  case alloc t => exact .inl ⟨t, rfl⟩
  case buildSlice t n ps => exact .inr ⟨t, n, ps, rfl⟩
  case makeMap t r =>
    exfalso
    cases r with
    | some r => simp only [] at hc; cases hc
    | none =>
      simp only [Option.some.injEq, RK.e.injEq] at hc
      subst hc
      rcases hq with ⟨s, zs, h⟩ | ⟨n, zs, ps, h⟩ <;> cases h
  all_goals
    exfalso
    rcases hq with ⟨s, zs, rfl⟩ | ⟨n, zs, ps, rfl⟩ <;>
    (repeat (first | (cases hc; done) | (exact builtin_no_flo hc (.inl ⟨_, _, rfl⟩)) | (exact builtin_no_flo hc (.inr ⟨_, _, _, rfl⟩)) | (obtain ⟨_, _, hc⟩ := hc) | (split at hc) | simp only [Option.map_eq_some_iff, Option.bind_eq_bind, Option.bind_eq_some_iff, Option.pure_def, Option.some.injEq, RK.e.injEq, reduceCtorEq, and_false, exists_false, exists_const] at hc))

theorem flo_run {w : World} (cx : CX (P := P) ι β L E dsts locs A a) {o : Oper} {q : EOp} (hc : compOp P E dsts o = some (.e q)) {cs : List V} (hf : floCells locs A q = some cs) :
    ∃ xs t, concL ι cs = some xs ∧ (execOp a.eval o).run P w = .ok (.value (floVal w.heap.size q)) (w.alloc (.cells xs.toArray t)) := by
  have hq : (∃ s zs, q = .alloc s zs) ∨ ∃ n zs ps, q = .bldSl n zs ps := by
    cases q <;> simp only [floCells] at hf <;> first | (cases hf; done) | exact .inl ⟨_, _, rfl⟩ | exact .inr ⟨_, _, _, rfl⟩
  have hop := compOp_flo hc hq
  obtain ⟨dst, op, ty, pos, after, guard⟩ := o
  rcases hop with ⟨t, rfl⟩ | ⟨t, len, parts, rfl⟩
  · simp only [compOp, Option.bind_eq_bind, Option.bind_eq_some_iff, Option.pure_def, Option.some.injEq, RK.e.injEq] at hc
    obtain ⟨z, hz, rfl⟩ := hc
    simp only [floCells, Option.some.injEq] at hf
    subst hf
    obtain ⟨zc, hzc, hzr⟩ := zeroT_run ι hz
    refine ⟨_, t, conc_cells hzc, ?_⟩
    refine ex_v' (s := Instr.alloc t true (.tuple #[])) ?_
    unfold Instr.alloc
    rw [Sem.run_bind, hzr]
    rfl
  · simp only [compOp] at hc
    split at hc
    · rename_i e hu
      simp only [Option.bind_eq_bind, Option.bind_eq_some_iff, Option.pure_def, Option.some.injEq] at hc
      obtain ⟨z, hz, n, hn, hc⟩ := hc
      split at hc
      · cases hc
      · rename_i hlim
        simp only [Option.bind_eq_some_iff, Option.some.injEq, RK.e.injEq] at hc
        obtain ⟨ps, hps, rfl⟩ := hc
        simp only [Bool.or_eq_true, decide_eq_true_eq, not_or, Nat.not_lt] at hlim
        obtain ⟨⟨hl1, hl2⟩, hl3⟩ := hlim
        simp only [floCells] at hf
        obtain ⟨zc, hzc, hzr⟩ := zeroT_run ι hz
        have hzl := concL_length (conc_cells hzc)
        have hzs : zc.cells.size = n := by simp at hzl hl3; omega
        have ⟨l1, l2⟩ := parts_VR cx hps
        obtain ⟨ys, hy1, hy2⟩ := fill_run (pl := fun i => some (i * n, n)) _ _ _ _ _ l1 l2 (zeros_cells hzc len) hf
        refine ⟨ys.toList, e, hy2, ?_⟩
        refine ex_v' (s := Instr.buildSlice t len _) ?_
        unfold Instr.buildSlice
        simp only [Sem.run_bind, run_underlying hu, Result.andThen, sizeT_run hn]
        rw [if_neg (by omega)]
        rw [hzs] at hy1
        by_cases h0 : len * n = 0
        · rw [h0] at hy1 ⊢
          simp only [Array.range_zero', Array.map_empty] at hy1
          simp only [if_true, Sem.run_bind, Sem.run_pure, Result.andThen, Array.range_zero', Array.map_empty, evals_map, hy1, run_newRow]
          rfl
        · simp only [h0, if_false, Sem.run_bind, hzr, Result.andThen, Sem.run_pure, hzs, evals_map]
          simp only [Array.toArray_toList] at hy1
          simp only [hy1, run_newRow, Sem.run_bind, Sem.run_pure, Result.andThen]
          rfl
    · cases hc
end

end Go.AI

/- A region that draws its order: the record of its run in one order. -/
namespace Go.AI
variable {P : Program}

/-- An operation of the one order: what was before it, what it makes. -/
structure Rec where
  i : Nat
  o : Oper
  r : ROp
  fl : Bool
  re : List (Nat × ROp)
  ds : List (Option Tmp)
  locs : List V
  prev : List (Nat × ROp)
  C : Nat
  L : Boxes
  m : Mem
  v : V
  L' : Boxes
  m' : Mem

def Rec.ch (x : Rec) : Bool := !x.fl && !isP x.r.op

structure RecOK (P : Program) (call : CallF) (ops : Array Oper) (E : Env) (A : List V) (Bs : List Nat) (x : Rec) : Prop where
  hop : ops[x.i]? = some x.o
  hd : dstOk E x.o x.r.op = true
  hg : (x.o.guard = none ∧ x.r.guard = none) ∨ (∃ j b t s, x.o.guard = some (j, b) ∧ (ops[j]?).bind (·.dst) = some t ∧ E.src x.ds t = some s ∧ x.r.guard = some (s, b))
  hk : x.r.op = (compOp P E x.ds x.o).getD (.p .fail)
  hs : stepD call A ⟨x.r, x.fl, x.re⟩ x.locs x.L x.m = some (x.v, x.L', x.m')
  hf : x.fl = true → x.r.guard = none ∧ ∃ q, x.r.op = .e q ∧ ((∃ s zs, q = .alloc s zs) ∨ ∃ n zs ps, q = .bldSl n zs ps)
  hn : x.fl = false → noSite x.r.op = true ∧ sub x.C (Bs.getD x.i 0) = true
  hsrc : srcOK (Bs.getD x.i 0) x.prev x.r.srcs = true
  hre : x.ch = true → x.re = retry (Bs.getD x.i 0) x.r.op x.prev 0
  hpu : x.ch = false → x.L' = x.L ∧ x.m' = x.m

def Link : Boxes → Mem → List (Option Tmp) → List V → List (Nat × ROp) → Nat → List Rec → Prop
  | _, _, _, _, _, _, [] => True
  | L, m, ds, locs, prev, C, x :: xs => x.L = L ∧ x.m = m ∧ x.ds = ds ∧ x.locs = locs ∧ x.prev = prev ∧ x.C = C ∧
      Link x.L' x.m' (x.o.dst :: ds) (x.v :: locs) ((x.i, x.r) :: prev) (if x.ch then C ||| (1 <<< x.i) else C) xs

theorem stepD_pure {call : CallF} {A : List V} {d : DOp} {locs : List V} {L L' : Boxes} {m m' : Mem} {v : V} (h : stepD call A d locs L m = some (v, L', m')) (hp : (!d.flo && !isP d.o.op) = false) : L' = L ∧ m' = m := by
  unfold stepD at h
  split at h
  · split at h
    · simp only [Option.some.injEq, Prod.mk.injEq] at h; exact ⟨h.2.1.symm, h.2.2.symm⟩
    · cases h
  · rename_i hf
    have hp : isP d.o.op = true := by
      cases hq : isP d.o.op with
      | true => rfl
      | false => rw [hq] at hp; simp at hp; exact absurd hp hf
    cases ho : d.o.op with
    | e q => rw [ho] at hp; cases hp
    | c q => rw [ho] at hp; cases hp
    | p q =>
      rw [ho] at h
      split at h
      · cases h
      · simp only [Option.some.injEq, Prod.mk.injEq] at h; exact ⟨h.2.1.symm, h.2.2.symm⟩
      · simp only at h
        split at h
        · simp only [Option.some.injEq, Prod.mk.injEq] at h; exact ⟨h.2.1.symm, h.2.2.symm⟩
        · cases h

def endSt : Boxes → Mem → List Rec → Boxes × Mem
  | L, m, [] => (L, m)
  | _, _, x :: xs => endSt x.L' x.m' xs

def Rec.dop (x : Rec) : DOp := ⟨x.r, x.fl, x.re⟩

/-- The record of a part. -/
theorem mk_recs {call : CallF} {ops : Array Oper} {E : Env} {A : List V} {Bs : List Nat} {F : Nat} {canF : Bool} :
    ∀ (idx : List Nat) (os : List Oper) (R : List ROp) (ds0 d : List (Option Tmp)) (dl : List DOp) (locs locs1 : List V) (L L1 : Boxes) (m m1 : Mem) (prev : List (Nat × ROp)) (C : Nat),
      getOps ops idx = some os → compOps P E ops os ds0 = some (R, d) → segOf Bs F canF idx R prev C = some dl → runD call A dl locs L m = some (locs1, L1, m1) →
      ∃ recs : List Rec, Link L m ds0 locs prev C recs ∧ (∀ x ∈ recs, RecOK P call ops E A Bs x) ∧ recs.map (·.i) = idx ∧ recs.map (·.r) = R ∧ recs.map Rec.dop = dl ∧ (canF = false → ∀ x ∈ recs, x.fl = false) ∧
        d = (recs.map (·.o.dst)).reverse ++ ds0 ∧ locs1 = (recs.map (·.v)).reverse ++ locs ∧ endSt L m recs = (L1, m1) := by
  intro idx
  induction idx with
  | nil =>
    intro os R ds0 d dl locs locs1 L L1 m m1 prev C ho hc hsg hr
    simp only [getOps, Option.some.injEq] at ho
    subst ho
    simp only [compOps, Option.some.injEq, Prod.mk.injEq] at hc
    obtain ⟨rfl, rfl⟩ := hc
    simp only [segOf, Option.some.injEq] at hsg
    subst hsg
    simp only [runD, Option.some.injEq, Prod.mk.injEq] at hr
    obtain ⟨rfl, rfl, rfl⟩ := hr
    exact ⟨[], trivial, by simp, rfl, rfl, rfl, by simp, by simp, by simp, rfl⟩
  | cons i idx ih =>
    intro os R ds0 d dl locs locs1 L L1 m m1 prev C ho hc hsg hr
    simp only [getOps] at ho
    split at ho
    case h_2 => cases ho
    rename_i o hoi
    simp only [Option.map_eq_some_iff] at ho
    obtain ⟨os', ho', rfl⟩ := ho
    obtain ⟨g, R', hok, hg, hR, rfl⟩ := compOps_cons hc
    generalize hk : (compOp P E ds0 o).getD (.p .fail) = k at *
    simp only [segOf] at hsg
    -- what follows from the rest of the part
    have fin : ∀ (fl : Bool) (re : List (Nat × ROp)) (dl' : List DOp) (C' : Nat), dl = ⟨⟨g, k⟩, fl, re⟩ :: dl' → segOf Bs F canF idx R' ((i, ⟨g, k⟩) :: prev) C' = some dl' →
        (fl = true → g = none ∧ ∃ q, k = .e q ∧ ((∃ s zs, q = .alloc s zs) ∨ ∃ n zs ps, q = .bldSl n zs ps)) →
        (fl = false → noSite k = true ∧ sub C (Bs.getD i 0) = true) → srcOK (Bs.getD i 0) prev (ROp.mk g k).srcs = true → ((!fl && !isP k) = true → re = retry (Bs.getD i 0) k prev 0) →
        C' = (if (!fl && !isP k) then C ||| (1 <<< i) else C) → (canF = false → fl = false) →
        ∃ recs : List Rec, Link L m ds0 locs prev C recs ∧ (∀ x ∈ recs, RecOK P call ops E A Bs x) ∧ recs.map (·.i) = i :: idx ∧ recs.map (·.r) = ⟨g, k⟩ :: R' ∧ recs.map Rec.dop = dl ∧ (canF = false → ∀ x ∈ recs, x.fl = false) ∧
          d = (recs.map (·.o.dst)).reverse ++ ds0 ∧ locs1 = (recs.map (·.v)).reverse ++ locs ∧ endSt L m recs = (L1, m1) := by
      intro fl re dl' C' e1 e2 e3 e4 e5 e6 e7 e8
      subst e1
      simp only [runD] at hr
      split at hr
      case h_2 => cases hr
      rename_i v L2 m2 hst
      obtain ⟨recs, q1, q2, q3, q4, q5, q6, q7, q8, q9⟩ := ih os' R' (o.dst :: ds0) d dl' (v :: locs) locs1 L2 L1 m2 m1 ((i, ⟨g, k⟩) :: prev) C' ho' hR e2 hr
      refine ⟨⟨i, o, ⟨g, k⟩, fl, re, ds0, locs, prev, C, L, m, v, L2, m2⟩ :: recs, ?_, ?_, ?_, ?_, ?_, ?_, ?_, ?_, ?_⟩
      · refine ⟨rfl, rfl, rfl, rfl, rfl, rfl, ?_⟩
        subst e7
        exact q1
      · intro x hx
        rcases List.mem_cons.1 hx with rfl | hx
        · exact ⟨hoi, hok, hg, hk.symm, hst, e3, e4, e5, e6, fun hp => stepD_pure hst hp⟩
        · exact q2 x hx
      · simp [q3]
      · simp [q4]
      · simp [q5, Rec.dop]
      · intro hc x hx
        rcases List.mem_cons.1 hx with rfl | hx
        · exact e8 hc
        · exact q6 hc x hx
      · rw [q7]; simp
      · rw [q8]; simp
      · exact q9
    split at hsg
    · -- a variable that floats
      split at hsg
      · cases hsg
      · rename_i hcf
        simp only [Bool.or_eq_true, Bool.not_eq_true', not_or, Bool.not_eq_false] at hcf
        have hgn : g = none := by
          cases g with
          | none => rfl
          | some _ => exact absurd rfl hcf.2
        split at hsg
        · rename_i s zs
          split at hsg
          · cases hsg
          · rename_i hsrc
            simp only [Bool.not_eq_true', Bool.not_eq_false] at hsrc
            simp only [Option.map_eq_some_iff] at hsg
            obtain ⟨l, hl, rfl⟩ := hsg
            exact fin true [] l C rfl hl (fun _ => ⟨hgn, _, rfl, .inl ⟨_, _, rfl⟩⟩) (fun h => by cases h) hsrc (fun h => by simp at h) (by simp) (fun h => by rw [h] at hcf; simp at hcf)
        · rename_i n zs ps
          split at hsg
          · cases hsg
          · rename_i hsrc
            simp only [Bool.not_eq_true', Bool.not_eq_false] at hsrc
            simp only [Option.map_eq_some_iff] at hsg
            obtain ⟨l, hl, rfl⟩ := hsg
            exact fin true [] l C rfl hl (fun _ => ⟨hgn, _, rfl, .inr ⟨_, _, _, rfl⟩⟩) (fun h => by cases h) hsrc (fun h => by simp at h) (by simp) (fun h => by rw [h] at hcf; simp at hcf)
        · cases hsg
    · split at hsg
      · rename_i hall
        simp only [Bool.and_eq_true] at hall
        split at hsg
        · rename_i l hl
          simp only [Option.some.injEq] at hsg
          subst hsg
          refine fin false _ l _ rfl hl (fun h => by cases h) (fun _ => ⟨hall.1.2, hall.1.1⟩) hall.2 (fun h => ?_) ?_ (fun _ => rfl)
          · have hp : isP k = false := by simpa using h
            rw [hp]; rfl
          · cases hp : isP k <;> simp
        · cases hsg
      · cases hsg

theorem compOps_append {E : Env} {ops : Array Oper} : ∀ {os1 os2 : List Oper} {ds d : List (Option Tmp)} {R : List ROp}, compOps P E ops (os1 ++ os2) ds = some (R, d) →
    ∃ R1 d1 R2, compOps P E ops os1 ds = some (R1, d1) ∧ compOps P E ops os2 d1 = some (R2, d) ∧ R = R1 ++ R2 ∧ R1.length = os1.length
  | [], os2, ds, d, R, h => ⟨[], ds, R, rfl, h, rfl, rfl⟩
  | o :: os1, os2, ds, d, R, h => by
    have h0 := h
    rw [List.cons_append] at h
    obtain ⟨g, R', hok, hg, hR, rfl⟩ := compOps_cons h
    obtain ⟨R1, d1, R2, h1, h2, rfl, h4⟩ := compOps_append hR
    refine ⟨_ :: R1, d1, R2, ?_, h2, rfl, by simp [h4]⟩
    show compOps P E ops (o :: os1) ds = _
    rw [List.cons_append] at h0
    unfold compOps at h0 ⊢
    simp only [hok] at h0 ⊢
    rw [h1]
    rw [hR] at h0
    simp only [Bool.not_true, Bool.false_eq_true, if_false] at h0 ⊢
    rcases hg with ⟨e1, e2⟩ | ⟨j, b, t, s, e1, e2, e3, e4⟩
    · subst e2
      simp only [e1] at h0 ⊢
      simp
    · subst e4
      simp only [e1, e2, e3, Option.bind_eq_bind, Option.bind_some] at h0 ⊢
      simp

theorem getOps_append {ops : Array Oper} : ∀ {i1 i2 : List Nat} {os : List Oper}, getOps ops (i1 ++ i2) = some os → ∃ o1 o2, getOps ops i1 = some o1 ∧ getOps ops i2 = some o2 ∧ os = o1 ++ o2 ∧ o1.length = i1.length
  | [], i2, os, h => ⟨[], os, rfl, h, rfl, rfl⟩
  | i :: i1, i2, os, h => by
    simp only [List.cons_append, getOps] at h
    split at h
    · rename_i o ho
      simp only [Option.map_eq_some_iff] at h
      obtain ⟨os', h1, rfl⟩ := h
      obtain ⟨o1, o2, q1, q2, rfl, q4⟩ := getOps_append h1
      exact ⟨o :: o1, o2, by simp [getOps, ho, q1], q2, rfl, by simp [q4]⟩
    · cases h

end Go.AI

/- A region that draws its order: the states of the one order. -/
namespace Go.AI
variable {P : Program}

theorem Link.shape : ∀ {pre post : List Rec} {y : Rec} {L : Boxes} {m : Mem} {ds : List (Option Tmp)} {locs : List V} {prev : List (Nat × ROp)} {C : Nat}, Link L m ds locs prev C (pre ++ y :: post) →
    y.ds = (pre.map (·.o.dst)).reverse ++ ds ∧ y.locs = (pre.map (·.v)).reverse ++ locs ∧ y.prev = (pre.map fun x => (x.i, x.r)).reverse ++ prev ∧ endSt L m pre = (y.L, y.m) ∧ (∀ x ∈ pre, x.ch = true → has y.C x.i = true) ∧ (∀ i, has C i = true → has y.C i = true)
  | [], post, y, L, m, ds, locs, prev, C, h => by
    obtain ⟨rfl, rfl, rfl, rfl, rfl, rfl, _⟩ := h
    exact ⟨rfl, rfl, rfl, rfl, by simp, fun _ h => h⟩
  | x :: pre, post, y, L, m, ds, locs, prev, C, h => by
    obtain ⟨rfl, rfl, rfl, rfl, rfl, rfl, h⟩ := h
    obtain ⟨h1, h2, h3, h4, h5, h6⟩ := Link.shape h
    have hmono : ∀ i, has x.C i = true → has (if x.ch then x.C ||| (1 <<< x.i) else x.C) i = true := by
      intro i hi
      split
      · unfold has at *; rw [Nat.testBit_or, hi]; rfl
      · exact hi
    refine ⟨by rw [h1]; simp, by rw [h2]; simp, by rw [h3]; simp, h4, ?_, fun i hi => h6 i (hmono i hi)⟩
    intro z hz hc
    rcases List.mem_cons.1 hz with rfl | hz
    · refine h6 z.i ?_
      rw [if_pos hc]
      unfold has
      rw [Nat.testBit_or, Nat.testBit_shiftLeft]
      simp
    · exact h5 z hz hc

theorem Link.tail : ∀ {pre post : List Rec} {y : Rec} {L : Boxes} {m : Mem} {ds : List (Option Tmp)} {locs : List V} {prev : List (Nat × ROp)} {C : Nat}, Link L m ds locs prev C (pre ++ y :: post) →
    ∃ C', Link y.L' y.m' (y.o.dst :: y.ds) (y.v :: y.locs) ((y.i, y.r) :: y.prev) C' post
  | [], post, y, L, m, ds, locs, prev, C, h => by
    obtain ⟨rfl, rfl, rfl, rfl, rfl, rfl, h⟩ := h
    exact ⟨_, h⟩
  | x :: pre, post, y, L, m, ds, locs, prev, C, h => by
    obtain ⟨_, _, _, _, _, _, h⟩ := h
    exact Link.tail h

/-- Only heavy operations change the state. -/
theorem endSt_pure {L : Boxes} {m : Mem} : ∀ {l : List Rec}, (∀ x ∈ l, x.ch = false → x.L' = x.L ∧ x.m' = x.m) → (∀ x ∈ l, x.ch = false) → ∀ {ds locs prev C}, Link L m ds locs prev C l → endSt L m l = (L, m)
  | [], _, _, _, _, _, _, _ => rfl
  | x :: l, h1, h2, ds, locs, prev, C, h => by
    obtain ⟨rfl, rfl, _, _, _, _, h⟩ := h
    obtain ⟨e1, e2⟩ := h1 x (by simp) (h2 x (by simp))
    simp only [endSt]
    rw [endSt_pure (L := x.L') (m := x.m') (fun z hz => h1 z (by simp [hz])) (fun z hz => h2 z (by simp [hz])) h, e1, e2]

theorem endSt_append {L : Boxes} {m : Mem} : ∀ {l1 l2 : List Rec}, endSt L m (l1 ++ l2) = endSt (endSt L m l1).1 (endSt L m l1).2 l2
  | [], l2 => rfl
  | x :: l1, l2 => by simp only [List.cons_append, endSt]; exact endSt_append

theorem sub_has {a b : Nat} (h : sub a b = true) {i : Nat} (hi : has a i = true) : has b i = true := by
  unfold sub at h
  rw [beq_iff] at h
  unfold has at *
  rw [← h, Nat.testBit_and, Bool.and_eq_true] at hi
  exact hi.2

theorem retry_mem {B : Nat} {c : RK} : ∀ {prev : List (Nat × ROp)} {k n i : Nat} {r : ROp}, prev[n]? = some (i, r) → mustTry c r.op = true → has B i = false → (k + n, r) ∈ retry B c prev k
  | [], k, n, i, r, h, _, _ => by simp at h
  | (j, q) :: prev, k, 0, i, r, h, h1, h2 => by
    simp only [List.getElem?_cons_zero, Option.some.injEq, Prod.mk.injEq] at h
    obtain ⟨rfl, rfl⟩ := h
    simp only [retry, h1, h2]
    simp
  | (j, q) :: prev, k, n + 1, i, r, h, h1, h2 => by
    simp only [List.getElem?_cons_succ] at h
    have := retry_mem (B := B) (c := c) (k := k + 1) h h1 h2
    rw [show k + 1 + n = k + (n + 1) by omega] at this
    simp only [retry]
    split
    · exact List.mem_cons_of_mem _ this
    · exact this

theorem recheck_mem {locs A : List V} {L : Boxes} {m : Mem} : ∀ {l : List (Nat × ROp)}, recheck locs A L m l = true → ∀ {k : Nat} {r : ROp}, (k, r) ∈ l →
    (wantedG (locs.drop (k + 1)) A r.guard = some false ∨ (wantedG (locs.drop (k + 1)) A r.guard = some true ∧ ∃ q, r.op = .p q ∧ pureOp (locs.drop (k + 1)) A L m q = some (locs.getD k .dead)))
  | [], _, _, _, h => by cases h
  | (j, q) :: l, h, k, r, hm => by
    simp only [recheck, Bool.and_eq_true] at h
    rcases List.mem_cons.1 hm with e | hm
    · simp only [Prod.mk.injEq] at e
      obtain ⟨rfl, rfl⟩ := e
      have h := h.1
      split at h
      · rename_i hw; exact .inl hw
      · rename_i hw
        refine .inr ⟨hw, ?_⟩
        split at h
        · rename_i p hp
          refine ⟨p, hp, ?_⟩
          split at h
          · rename_i v hv
            rw [hv, V.same_eq h]
          · cases h
        · cases h
      · cases h
    · exact recheck_mem h.2 hm

/-- What a step of a heavy operation says. -/
theorem stepD_ch {call : CallF} {A : List V} {d : DOp} {locs : List V} {L L' : Boxes} {m m' : Mem} {v : V} (h : stepD call A d locs L m = some (v, L', m')) (hp : (!d.flo && !isP d.o.op) = true) :
    (wantedG locs A d.o.guard = some false ∧ v = .tup [] ∧ L' = L ∧ m' = m) ∨
    (wantedG locs A d.o.guard = some true ∧ recheck locs A L' m' d.re = true ∧ (isSt d.o.op = false → L' = L) ∧
      ((∃ q, d.o.op = .e q ∧ siteOf q = none ∧ effOp locs A L m q = some (v, L', m')) ∨ (∃ q, d.o.op = .c q ∧ callOp call locs A m q (fun v m => some (v, m)) = some (v, m') ∧ L' = L))) := by
  simp only [Bool.and_eq_true, Bool.not_eq_true'] at hp
  unfold stepD at h
  rw [hp.1] at h
  simp only [Bool.false_eq_true, if_false] at h
  split at h
  · cases h
  · rename_i hw
    left
    refine ⟨hw, ?_⟩
    split at h
    · split at h
      · simp only [Option.some.injEq, Prod.mk.injEq] at h; exact ⟨h.1.symm, h.2.1.symm, h.2.2.symm⟩
      · cases h
    · simp only [Option.some.injEq, Prod.mk.injEq] at h; exact ⟨h.1.symm, h.2.1.symm, h.2.2.symm⟩
  · rename_i hw
    right
    refine ⟨hw, ?_⟩
    split at h
    · rename_i q hq; rw [hq] at hp; cases hp.2
    · rename_i q hq
      split at h
      · cases h
      · rename_i hs
        split at h
        · rename_i v' L2 m2 he
          split at h
          · rename_i hr
            simp only [Option.some.injEq, Prod.mk.injEq] at h
            obtain ⟨rfl, rfl, rfl⟩ := h
            refine ⟨hr, fun hn => ?_, .inl ⟨q, hq, hs, he⟩⟩
            rw [hq] at hn
            exact effOp_L hs hn he
          · cases h
        · cases h
    · rename_i q hq
      split at h
      · rename_i v' m2 he
        split at h
        · rename_i hr
          simp only [Option.some.injEq, Prod.mk.injEq] at h
          obtain ⟨rfl, rfl, rfl⟩ := h
          exact ⟨hr, fun _ => rfl, .inr ⟨q, hq, he, rfl⟩⟩
        · cases h
      · cases h

/-- A pure operation gives what it gave behind whatever heavy operations come before it. -/
theorem stays {call : CallF} {ops : Array Oper} {E : Env} {A : List V} {Bs : List Nat} {y : Rec} {q : POp} (hy : y.r.op = .p q) (hyg : wantedG y.locs A y.r.guard = some true) (S : Nat → Bool) (hyS : S y.i = false)
    (hcl : ∀ i, S i = true → ∀ k, has (Bs.getD i 0) k = true → S k = true) :
    ∀ (post : List Rec) (L : Boxes) (m : Mem) (ds : List (Option Tmp)) (pm : List (Nat × ROp)) (vm : List V) (C : Nat), pm.length = vm.length → (∀ x ∈ post, RecOK P call ops E A Bs x) →
      Link L m ds (vm ++ y.v :: y.locs) (pm ++ (y.i, y.r) :: y.prev) C post → pureOp y.locs A L m q = some y.v →
      ∀ p1 c p2, post = p1 ++ c :: p2 → c.ch = true → S c.i = true → pureOp y.locs A c.L' c.m' q = some y.v := by
  intro post
  induction post with
  | nil => intro L m ds pm vm C _ _ _ _ p1 c p2 h; simp at h
  | cons x post ih =>
    intro L m ds pm vm C hlen hok hl hp p1 c p2 hsplit hc hS
    obtain ⟨rfl, rfl, h3, h4, h5, h6, hl⟩ := hl
    have hx := hok x (by simp)
    have hxlen : x.ch = true → S x.i = true → pureOp y.locs A x.L' x.m' q = some y.v := by
      intro hxc hxS
      rcases stepD_ch hx.hs (by simpa [Rec.ch] using hxc) with ⟨_, _, e1, e2⟩ | ⟨_, hr, hL, _⟩
      · rw [e1, e2]; exact hp
      · have hB : has (Bs.getD x.i 0) y.i = false := by
          cases hb : has (Bs.getD x.i 0) y.i with
          | false => rfl
          | true => rw [hcl x.i hxS y.i hb] at hyS; cases hyS
        have hget : x.prev[pm.length]? = some (y.i, y.r) := by rw [h5]; simp
        by_cases hmt : mustTry x.r.op y.r.op = true
        · have hm := retry_mem (k := 0) hget hmt hB
          rw [Nat.zero_add] at hm
          have hre := hx.hre hxc
          have hm2 : (pm.length, y.r) ∈ x.re := by rw [hre]; exact hm
          have := recheck_mem (l := x.re) hr hm2
          have hdrop : x.locs.drop (pm.length + 1) = y.locs := by rw [h4, hlen]; simp
          have hgd : x.locs.getD pm.length .dead = y.v := by rw [h4, hlen]; simp
          rw [hdrop, hgd] at this
          rcases this with e | ⟨_, q', e1, e2⟩
          · rw [hyg] at e; cases e
          · rw [hy] at e1; cases e1; exact e2
        · rw [hy] at hmt
          simp only [mustTry, Bool.or_eq_true, Bool.and_eq_true, beq_iff, not_or, not_and] at hmt
          rcases POp.reads_lt q with e | e | e
          · rw [← hp]; exact pureOp_free e _ _ _ _
          · exact absurd e hmt.1
          · have := hL (by simpa using hmt.2 e)
            rw [this, ← hp]
            exact pureOp_box e _ _ _
    cases p1 with
    | nil =>
      simp only [List.nil_append, List.cons.injEq] at hsplit
      obtain ⟨rfl, rfl⟩ := hsplit
      exact hxlen hc hS
    | cons z p1 =>
      simp only [List.cons_append, List.cons.injEq] at hsplit
      obtain ⟨rfl, rfl⟩ := hsplit
      refine ih x.L' x.m' (x.o.dst :: ds) ((x.i, x.r) :: pm) (x.v :: vm) _ (by simp [hlen]) (fun z hz => hok z (by simp [hz])) (by simpa [h4, h5] using hl) ?_ p1 c p2 rfl hc hS
      by_cases hxc : x.ch = true
      · refine hxlen hxc ?_
        -- x is before c, so c's turn says that x is done
        have hcok := hok c (by simp)
        obtain ⟨_, _, _, _, q5, q6⟩ := Link.shape hl
        have hcx : has c.C x.i = true := by
          refine q6 x.i ?_
          rw [if_pos hxc]
          unfold has
          rw [Nat.testBit_or, Nat.testBit_shiftLeft]
          simp
        have hcf : c.fl = false := by
          simp only [Rec.ch, Bool.and_eq_true, Bool.not_eq_true'] at hc
          exact hc.1
        exact hcl c.i hS x.i (sub_has (hcok.hn hcf).2 hcx)
      · simp only [Bool.not_eq_true] at hxc
        obtain ⟨e1, e2⟩ := hx.hpu hxc
        rw [e1, e2]; exact hp

end Go.AI

/- A region that draws its order: what is so between two operations, in whatever order. -/
namespace Go.AI
variable {P : Program}

def maskL (S : Nat → Bool) (l : List Rec) (locs0 : List V) : List V := l.map (fun x => if S x.i then x.v else .dead) ++ locs0

def overw (S : Nat → Bool) (E : Env) (recs : List Rec) (j : Nat) : Bool := recs.any fun x => S x.i && (match x.o.dst with | some t => (match idxOf t E.vars 0 with | some k => Nat.beq k j | none => false) | none => false)

def maskA (S : Nat → Bool) (E : Env) (recs : List Rec) : List V → Nat → List V
  | [], _ => []
  | v :: A, j => (if overw S E recs j then .dead else v) :: maskA S E recs A (j + 1)

theorem maskA_get (S : Nat → Bool) (E : Env) (recs : List Rec) : ∀ (A : List V) (j0 j : Nat), (maskA S E recs A j0).getD j .dead = if overw S E recs (j0 + j) then .dead else A.getD j .dead
  | [], j0, j => by simp [maskA]
  | v :: A, j0, 0 => by simp [maskA]
  | v :: A, j0, j + 1 => by
    have := maskA_get S E recs A (j0 + 1) j
    rw [show j0 + 1 + j = j0 + (j + 1) by omega] at this
    simpa [maskA] using this

theorem maskA_mem (S : Nat → Bool) (E : Env) (recs : List Rec) : ∀ (A : List V) (j0 : Nat) (v : V), v ∈ maskA S E recs A j0 → v = .dead ∨ v ∈ A
  | [], j0, v, h => by simp [maskA] at h
  | u :: A, j0, v, h => by
    simp only [maskA, List.mem_cons] at h
    rcases h with rfl | h
    · split
      · exact .inl rfl
      · exact .inr (by simp)
    · rcases maskA_mem S E recs A (j0 + 1) v h with q | q
      · exact .inl q
      · exact .inr (by simp [q])

theorem overw_spec {S : Nat → Bool} {E : Env} {recs : List Rec} {j : Nat} (h : overw S E recs j = true) : ∃ x ∈ recs, S x.i = true ∧ ∃ t, x.o.dst = some t ∧ idxOf t E.vars 0 = some j := by
  unfold overw at h
  rw [List.any_eq_true] at h
  obtain ⟨x, hx, h⟩ := h
  simp only [Bool.and_eq_true] at h
  refine ⟨x, hx, h.1, ?_⟩
  have h := h.2
  split at h
  · rename_i t ht
    split at h
    · rename_i k hk
      rw [beq_iff] at h
      exact ⟨t, ht, by rw [hk, h]⟩
    · cases h
  · cases h

theorem overw_of {S : Nat → Bool} {E : Env} {recs : List Rec} {j : Nat} {x : Rec} (hx : x ∈ recs) (hS : S x.i = true) {t : Tmp} (ht : x.o.dst = some t) (hj : idxOf t E.vars 0 = some j) : overw S E recs j = true := by
  unfold overw
  rw [List.any_eq_true]
  exact ⟨x, hx, by simp [hS, ht, hj, beq_iff]⟩

/-- A slot behind some operations and the elder ones. -/
theorem src_app (E : Env) (t : Tmp) (ds0 : List (Option Tmp)) {s : Src} : ∀ (l : List Rec), E.src (l.map (·.o.dst) ++ ds0) t = some s →
    (∃ q, E.site t = some q ∧ s = .box q) ∨ (E.site t = none ∧ ((∃ (j : Nat) (x : Rec), l[j]? = some x ∧ x.o.dst = some t ∧ s = .loc j) ∨
      ((∀ x ∈ l, x.o.dst ≠ some t) ∧ ((∃ k, E.src ds0 t = some (.loc k) ∧ s = .loc (k + l.length)) ∨ (∃ k, E.src ds0 t = some (.var k) ∧ s = .var k))))) := by
  intro l h
  unfold Env.src at h ⊢
  split at h
  · rename_i q hq
    simp only [Option.some.injEq] at h
    exact .inl ⟨q, hq, h.symm⟩
  · rename_i hn
    refine .inr ⟨hn, ?_⟩
    have key : ∀ (l : List Rec) (i : Nat) (s : Src), Env.src.go E t (l.map (·.o.dst) ++ ds0) i = some s → (∃ (j : Nat) (x : Rec), l[j]? = some x ∧ x.o.dst = some t ∧ s = .loc (i + j)) ∨
        ((∀ x ∈ l, x.o.dst ≠ some t) ∧ Env.src.go E t ds0 (i + l.length) = some s) := by
      intro l
      induction l with
      | nil => intro i s h; exact .inr ⟨by simp, by simpa using h⟩
      | cons x l ih =>
        intro i s h
        have rest : Env.src.go E t (l.map (·.o.dst) ++ ds0) (i + 1) = some s → x.o.dst ≠ some t → (∃ (j : Nat) (z : Rec), (x :: l)[j]? = some z ∧ z.o.dst = some t ∧ s = .loc (i + j)) ∨
            ((∀ z ∈ x :: l, z.o.dst ≠ some t) ∧ Env.src.go E t ds0 (i + (x :: l).length) = some s) := by
          intro h hne
          rcases ih (i + 1) s h with ⟨j, z, h1, h2, h3⟩ | ⟨h1, h2⟩
          · exact .inl ⟨j + 1, z, by simpa using h1, h2, by rw [h3]; congr 1; omega⟩
          · refine .inr ⟨fun z hz => ?_, by rw [← h2]; congr 1; simp; omega⟩
            rcases List.mem_cons.1 hz with rfl | hz
            · exact hne
            · exact h1 z hz
        simp only [List.map_cons, List.cons_append] at h
        cases hd : x.o.dst with
        | none =>
          rw [hd] at h
          simp only [Env.src.go] at h
          exact rest h (by rw [hd]; simp)
        | some d =>
          rw [hd] at h
          simp only [Env.src.go] at h
          split at h
          · rename_i he
            rw [beq_iff] at he
            simp only [Option.some.injEq] at h
            exact .inl ⟨0, x, rfl, by rw [hd, he], by rw [← h]; rfl⟩
          · rename_i he
            rw [beq_iff] at he
            exact rest h (by rw [hd]; simpa using he)
    rcases key l 0 s h with ⟨j, x, h1, h2, h3⟩ | ⟨h1, h2⟩
    · exact .inl ⟨j, x, h1, h2, by rw [h3]; simp⟩
    · refine .inr ⟨h1, ?_⟩
      have hsh : ∀ (n : Nat) (ds : List (Option Tmp)) (s : Src), Env.src.go E t ds n = some s → (∃ k, Env.src.go E t ds 0 = some (.loc k) ∧ s = .loc (k + n)) ∨ ∃ k, Env.src.go E t ds 0 = some (.var k) ∧ s = .var k := by
        intro n
        induction n with
        | zero =>
          intro ds s h
          rcases go_form E t ds 0 s h with ⟨k, rfl⟩ | ⟨k, rfl⟩
          · exact .inl ⟨k, h, rfl⟩
          · exact .inr ⟨k, h, rfl⟩
        | succ n ih =>
          intro ds s h
          rw [go_shift] at h
          simp only [Option.map_eq_some_iff] at h
          obtain ⟨s0, h0, rfl⟩ := h
          rcases ih ds s0 h0 with ⟨k, q1, rfl⟩ | ⟨k, q1, rfl⟩
          · exact .inl ⟨k, q1, rfl⟩
          · exact .inr ⟨k, q1, rfl⟩
      rw [Nat.zero_add] at h2
      exact hsh _ _ _ h2

/-- A part of a region. -/
structure SEG (P : Program) (call : CallF) (ops : Array Oper) (E : Env) (A : List V) (Bs : List Nat) (recs : List Rec) (ds0 : List (Option Tmp)) (locs0 : List V) (Ls : Boxes) (ms : Mem) : Prop where
  link : Link Ls ms ds0 locs0 [] 0 recs
  ok : ∀ x ∈ recs, RecOK P call ops E A Bs x
  ne : recs.Pairwise fun x y => x.i ≠ y.i ∧ ∀ t, x.o.dst = some t → y.o.dst ≠ some t
  nd : ∀ x ∈ recs, ∀ t, x.o.dst = some t → some t ∉ ds0
  va : ∀ x ∈ recs, ∀ y ∈ recs, x.i ≠ y.i → ∀ t v, x.o.dst = some t → idxOf t E.vars 0 = some v → Src.var v ∈ y.r.srcs → has (Bs.getD x.i 0) y.i = true
  fl : ∀ x ∈ recs, x.fl = true → ∃ q cs, x.r.op = .e q ∧ floCells x.locs A q = some cs

theorem SEG.diff {call : CallF} {ops : Array Oper} {E : Env} {A : List V} {Bs : List Nat} {recs : List Rec} {ds0 : List (Option Tmp)} {locs0 : List V} {Ls : Boxes} {ms : Mem} (h : SEG P call ops E A Bs recs ds0 locs0 Ls ms)
    {x y : Rec} (hx : x ∈ recs) (hy : y ∈ recs) (hne : x.i ≠ y.i) {t : Tmp} (hd : x.o.dst = some t) : y.o.dst ≠ some t := by
  have key : ∀ (l : List Rec), l.Pairwise (fun x y => x.i ≠ y.i ∧ ∀ t, x.o.dst = some t → y.o.dst ≠ some t) → x ∈ l → y ∈ l → y.o.dst ≠ some t := by
    intro l
    induction l with
    | nil => intro _ h; cases h
    | cons z l ih =>
      intro hp h1 h2
      rw [List.pairwise_cons] at hp
      rcases List.mem_cons.1 h1 with rfl | h1
      · rcases List.mem_cons.1 h2 with rfl | h2
        · exact absurd rfl hne
        · exact (hp.1 y h2).2 t hd
      · rcases List.mem_cons.1 h2 with rfl | h2
        · intro hy
          rcases List.mem_cons.1 h1 with rfl | h1
          · exact hne rfl
          · exact (hp.1 x h1).2 t hy hd
        · exact ih hp.2 h1 h2
  exact key recs h.ne hx hy

theorem SEG.same {call : CallF} {ops : Array Oper} {E : Env} {A : List V} {Bs : List Nat} {recs : List Rec} {ds0 : List (Option Tmp)} {locs0 : List V} {Ls : Boxes} {ms : Mem} (h : SEG P call ops E A Bs recs ds0 locs0 Ls ms)
    {x y : Rec} (hx : x ∈ recs) (hy : y ∈ recs) (he : x.i = y.i) : x = y := by
  have key : ∀ (l : List Rec), l.Pairwise (fun x y => x.i ≠ y.i ∧ ∀ t, x.o.dst = some t → y.o.dst ≠ some t) → x ∈ l → y ∈ l → x = y := by
    intro l
    induction l with
    | nil => intro _ h; cases h
    | cons z l ih =>
      intro hp h1 h2
      rw [List.pairwise_cons] at hp
      rcases List.mem_cons.1 h1 with rfl | h1
      · rcases List.mem_cons.1 h2 with rfl | h2
        · rfl
        · exact absurd he (hp.1 y h2).1
      · rcases List.mem_cons.1 h2 with rfl | h2
        · rcases List.mem_cons.1 h1 with rfl | h1
          · rfl
          · exact absurd he.symm (hp.1 x h1).1
        · exact ih hp.2 h1 h2
  exact key recs h.ne hx hy

/-- Between two operations. -/
structure INV (P : Program) (E : Env) (A : List V) (recs : List Rec) (ds0 : List (Option Tmp)) (locs0 : List V) (Ls : Boxes) (ms : Mem) (ι0 : List Blk) (β0 : Nat → Nat) (Lz : Boxes) (mz : Mem) (wz : World) (df : List Deferred)
    (S : Nat → Bool) (a : Act) (w : World) (ι : List Blk) (β : Nat → Nat) (L : Boxes) (m : Mem) (bl : Nat → Nat) : Prop where
  wr : WR P ι β L m w
  st : ((∀ x ∈ recs, x.ch = true → S x.i = false) ∧ L = Ls ∧ m = ms) ∨ ∃ pre c post, recs = pre ++ c :: post ∧ c.ch = true ∧ S c.i = true ∧ (∀ x ∈ post, x.ch = true → S x.i = false) ∧ L = c.L' ∧ m = c.m'
  old : ∀ t s, E.src ds0 t = some s → ((∃ q, s = .box q) ∨ ∀ x ∈ recs, S x.i = true → x.o.dst ≠ some t) → VR ι β L (ev locs0 A s) (a.tmps.getD t undef)
  val : ∀ x ∈ recs, S x.i = true → ∀ t, x.o.dst = some t → E.site t = none → VR ι β L x.v (a.tmps.getD t undef)
  nt : E.nt ≤ a.tmps.size
  okA : ∀ v ∈ A, v = .dead ∨ ∃ c, conc ι v = some c
  pd : ∀ x ∈ recs, x.fl = true → S x.i = true → ∃ q cs, x.r.op = .e q ∧ floCells x.locs A q = some cs ∧ Pend ι β L m w wz.heap.size (bl x.i) cs ∧ ∀ t, x.o.dst = some t → a.tmps.getD t undef = floVal (bl x.i) q
  inj : ∀ x ∈ recs, ∀ y ∈ recs, x.fl = true → y.fl = true → S x.i = true → S y.i = true → bl x.i = bl y.i → x.i = y.i
  nb : ∀ x ∈ recs, x.fl = true → ∀ q s, x.r.op = .e q → siteOf q = some s → L.get s = []
  tr : Tr ι0 β0 Lz mz wz ι β L m w
  mm : MM mz m
  df : a.defers = df
  le : m.lo ≤ m.next

section
variable {call : CallF} {ops : Array Oper} {E : Env} {A : List V} {Bs : List Nat} {recs : List Rec} {ds0 : List (Option Tmp)} {locs0 : List V} {Ls : Boxes} {ms : Mem} {ι0 : List Blk} {β0 : Nat → Nat} {Lz : Boxes} {mz : Mem} {wz : World} {df : List Deferred}
  {S : Nat → Bool} {a : Act} {w : World} {ι : List Blk} {β : Nat → Nat} {L : Boxes} {m : Mem} {bl : Nat → Nat}

theorem srcOK_loc {B : Nat} {prev : List (Nat × ROp)} : ∀ {l : List Src}, srcOK B prev l = true → ∀ {k : Nat}, Src.loc k ∈ l → ∀ {i : Nat} {r : ROp}, prev[k]? = some (i, r) → has B i = true
  | [], _, k, h, _, _, _ => by cases h
  | s :: ss, h, k, hm, i, r, hg => by
    rcases List.mem_cons.1 hm with rfl | hm
    · simp only [srcOK, hg, Bool.and_eq_true] at h
      exact h.1
    · have h2 : srcOK B prev ss = true := by
        cases s <;> simp only [srcOK, Bool.and_eq_true] at h <;> first | exact h | exact h.2
      exact srcOK_loc h2 hm hg

/-- What an operation that is ready sees. -/
theorem INV.see (sg : SEG P call ops E A Bs recs ds0 locs0 Ls ms) (h : INV P E A recs ds0 locs0 Ls ms ι0 β0 Lz mz wz df S a w ι β L m bl) {pre post : List Rec} {y : Rec} (hr : recs = pre ++ y :: post) (hyS : S y.i = false)
    (hcl : ∀ i, S i = true → ∀ k, has (Bs.getD i 0) k = true → S k = true) (hB : ∀ k, has (Bs.getD y.i 0) k = true → S k = true) :
    IN P ι β L m w E y.ds (maskL S pre.reverse locs0) (maskA S E recs A 0) a ∧ ∀ s ∈ y.r.srcs, ev (maskL S pre.reverse locs0) (maskA S E recs A 0) s = ev y.locs A s := by
  have hlk := sg.link
  rw [hr] at hlk
  obtain ⟨q1, q2, q3, q4, q5, _⟩ := hlk.shape
  have hym : y ∈ recs := by rw [hr]; simp
  have hpm : ∀ x ∈ pre, x ∈ recs := fun x hx => by rw [hr]; simp [hx]
  have hds : y.ds = pre.reverse.map (·.o.dst) ++ ds0 := by rw [q1, List.map_reverse]
  refine ⟨⟨h.wr, fun t s hs => ?_, h.nt, fun v hv => ?_⟩, fun s hs => ?_⟩
  · rw [hds] at hs
    rcases src_app E t ds0 pre.reverse hs with ⟨q, e1, rfl⟩ | ⟨e0, ⟨j, x, e1, e2, rfl⟩ | ⟨e1, ⟨k, e2, rfl⟩ | ⟨k, e2, rfl⟩⟩⟩
    · exact h.old t (.box q) (by unfold Env.src; rw [e1]) (.inl ⟨q, rfl⟩)
    · have hx : x ∈ recs := hpm x (by have := List.mem_of_getElem? e1; simpa using this)
      show VR ι β L ((maskL S pre.reverse locs0).getD j .dead) _
      have hj : j < pre.reverse.length := (List.getElem?_eq_some_iff.1 e1).1
      have hv : (maskL S pre.reverse locs0).getD j .dead = if S x.i then x.v else .dead := by
        unfold maskL
        rw [List.getD_eq_getElem?_getD, List.getElem?_append_left (by simpa using hj), List.getElem?_map, e1]
        rfl
      rw [hv]
      split
      · rename_i hS
        exact h.val x hx hS t e2 e0
      · trivial
    · -- an elder slot
      have hno : ∀ x ∈ recs, S x.i = true → x.o.dst ≠ some t := by
        intro x hx _ hd
        have := sg.nd x hx t hd
        refine this ?_
        have hsome : ∀ (ds : List (Option Tmp)) (n k : Nat), Env.src.go E t ds n = some (.loc k) → some t ∈ ds := by
          intro ds
          induction ds with
          | nil =>
            intro n k h
            simp only [Env.src.go, Option.map_eq_some_iff] at h
            obtain ⟨_, _, h⟩ := h
            cases h
          | cons d ds ih =>
            intro n k h
            cases d with
            | none => simp only [Env.src.go] at h; exact List.mem_cons_of_mem _ (ih _ _ h)
            | some d =>
              simp only [Env.src.go] at h
              split at h
              · rename_i he
                rw [beq_iff] at he
                rw [he]; simp
              · exact List.mem_cons_of_mem _ (ih _ _ h)
        unfold Env.src at e2
        rw [e0] at e2
        exact hsome _ _ _ e2
      have := h.old t (.loc k) e2 (.inr hno)
      show VR ι β L ((maskL S pre.reverse locs0).getD (k + pre.reverse.length) .dead) _
      have hv : (maskL S pre.reverse locs0).getD (k + pre.reverse.length) .dead = locs0.getD k .dead := by
        unfold maskL
        rw [List.getD_eq_getElem?_getD, List.getElem?_append_right (by simp), List.getD_eq_getElem?_getD]
        congr 2
        simp
      rw [hv]
      exact this
    · show VR ι β L ((maskA S E recs A 0).getD k .dead) _
      rw [maskA_get, Nat.zero_add]
      split
      · trivial
      · rename_i hov
        have hi : idxOf t E.vars 0 = some k := by
          unfold Env.src at e2
          rw [e0] at e2
          have : ∀ (ds : List (Option Tmp)) (n : Nat), Env.src.go E t ds n = some (.var k) → idxOf t E.vars 0 = some k := by
            intro ds
            induction ds with
            | nil =>
              intro n h
              simp only [Env.src.go, Option.map_eq_some_iff] at h
              obtain ⟨_, h1, h⟩ := h
              cases h
              exact h1
            | cons d ds ih =>
              intro n h
              cases d with
              | none => simp only [Env.src.go] at h; exact ih _ h
              | some d =>
                simp only [Env.src.go] at h
                split at h
                · cases h
                · exact ih _ h
          exact this _ _ e2
        exact h.old t (.var k) e2 (.inr fun x hx hS hd => hov (overw_of hx hS hd hi))
  · rcases maskA_mem S E recs A 0 v hv with q | q
    · exact .inl q
    · exact h.okA v q
  · cases s with
    | loc k =>
      show (maskL S pre.reverse locs0).getD k .dead = y.locs.getD k .dead
      rw [q2, ← List.map_reverse]
      unfold maskL
      rw [List.getD_eq_getElem?_getD, List.getD_eq_getElem?_getD]
      rcases Nat.lt_or_ge k pre.reverse.length with hlt | hge
      · rw [List.getElem?_append_left (by simpa using hlt), List.getElem?_append_left (by simpa using hlt), List.getElem?_map, List.getElem?_map, List.getElem?_eq_getElem hlt]
        simp only [Option.map_some, Option.getD_some]
        have hg : y.prev[k]? = some (pre.reverse[k].i, pre.reverse[k].r) := by
          rw [q3, List.append_nil, ← List.map_reverse, List.getElem?_map, List.getElem?_eq_getElem hlt]
          rfl
        have := srcOK_loc (sg.ok y hym).hsrc hs hg
        rw [if_pos (hB _ this)]
      · rw [List.getElem?_append_right (by simpa using hge), List.getElem?_append_right (by simpa using hge)]
        simp
    | var k =>
      show (maskA S E recs A 0).getD k .dead = A.getD k .dead
      rw [maskA_get, Nat.zero_add]
      split
      · rename_i hov
        exfalso
        obtain ⟨x, hx, hS, t, ht, hi⟩ := overw_spec hov
        have hne : x.i ≠ y.i := fun e => by rw [e, hyS] at hS; cases hS
        have := hcl x.i hS y.i (sg.va x hx y hym hne t k ht hi hs)
        rw [hyS] at this; cases this
      · rfl
    | box => rfl
    | cst => rfl
    | glob => rfl
    | fn => rfl

end

end Go.AI

/- A region that draws its order: an operation that is ready. -/
namespace Go.AI
variable {P : Program}

section
variable {call : CallF} {ops : Array Oper} {E : Env} {A : List V} {Bs : List Nat} {recs : List Rec} {ds0 : List (Option Tmp)} {locs0 : List V} {Ls : Boxes} {ms : Mem} {ι0 : List Blk} {β0 : Nat → Nat} {Lz : Boxes} {mz : Mem} {wz : World} {df : List Deferred}
  {S S' : Nat → Bool} {a : Act} {w : World} {ι : List Blk} {β : Nat → Nat} {L : Boxes} {m : Mem} {bl : Nat → Nat}

/-- Behind an operation that does not float. -/
theorem INV.next (sg : SEG P call ops E A Bs recs ds0 locs0 Ls ms) (h : INV P E A recs ds0 locs0 Ls ms ι0 β0 Lz mz wz df S a w ι β L m bl) {pre post : List Rec} {y : Rec} (hr : recs = pre ++ y :: post) (hyS : S y.i = false)
    (hcl : ∀ i, S i = true → ∀ k, has (Bs.getD i 0) k = true → S k = true) (hS : ∀ k, S' k = true ↔ k = y.i ∨ S k = true) (hfl : y.fl = false)
    {ι' : List Blk} {β' : Nat → Nat} {L' : Boxes} {m' : Mem} {w' : World} {c : Value} (hw : WR P ι' β' L' m' w') (ht : Tr ι β L m w ι' β' L' m' w') (hm : MM m m') (hk : Keep none β L β' L') (hv : VR ι' β' L' y.v c)
    (hst : (y.ch = true ∧ L' = y.L' ∧ m' = y.m') ∨ (y.ch = false ∧ L' = L ∧ m' = m)) :
    INV P E A recs ds0 locs0 Ls ms ι0 β0 Lz mz wz df S' (a.put y.o.dst c) w' ι' β' L' m' bl := by
  have hym : y ∈ recs := by rw [hr]; simp
  have hyok := sg.ok y hym
  obtain ⟨hd1, hd2⟩ := dstOk_spec hyok.hd
  have hns : y.o.dst.bind E.site = none := by
    rw [hd2]
    have := (hyok.hn hfl).1
    cases hop : y.r.op with
    | e q =>
      rw [hop] at this
      simp only [noSite, Option.isNone_iff_eq_none] at this
      exact this
    | _ => rfl
  have hSm : ∀ x ∈ recs, S' x.i = true → x = y ∨ S x.i = true := by
    intro x hx hs
    rcases (hS _).1 hs with e | e
    · exact .inl (sg.same hx hym e)
    · exact .inr e
  have hSk : ∀ k, S k = true → S' k = true := fun k e => (hS k).2 (.inr e)
  have hflS : ∀ x ∈ recs, x.fl = true → S' x.i = true → S x.i = true := by
    intro x hx hf hs
    rcases hSm x hx hs with rfl | e
    · rw [hfl] at hf; cases hf
    · exact e
  refine { wr := hw, st := ?_, old := ?_, val := ?_, nt := ?_, okA := ?_, pd := ?_, inj := ?_, nb := ?_, tr := h.tr.trans ht, mm := h.mm.trans hm, df := ?_, le := ?_ }
  · rcases hst with ⟨hc, rfl, rfl⟩ | ⟨hc, rfl, rfl⟩
    · refine .inr ⟨pre, y, post, hr, hc, (hS _).2 (.inl rfl), fun x hx hxc => ?_, rfl, rfl⟩
      have hxm : x ∈ recs := by rw [hr]; simp [hx]
      cases hxs : S' x.i with
      | false => rfl
      | true =>
        exfalso
        rcases (hS _).1 hxs with e | e
        · have hp := sg.ne
          rw [hr, List.pairwise_append, List.pairwise_cons] at hp
          exact (hp.2.1.1 x hx).1 e.symm
        · -- x comes behind y, and y is not done
          obtain ⟨p1, p2, hsp⟩ := List.append_of_mem hx
          have hlk := sg.link
          rw [hr, hsp, ← List.cons_append, ← List.append_assoc] at hlk
          obtain ⟨_, _, _, _, q5, _⟩ := hlk.shape
          have hcx := q5 y (by simp) hc
          have hxf : x.fl = false := by
            simp only [Rec.ch, Bool.and_eq_true, Bool.not_eq_true'] at hxc
            exact hxc.1
          have := hcl x.i e y.i (sub_has ((sg.ok x hxm).hn hxf).2 hcx)
          rw [hyS] at this; cases this
    · have hsame : ∀ x ∈ recs, x.ch = true → S x.i = false → S' x.i = false := by
        intro x hx hxc hxs
        cases hxs' : S' x.i with
        | false => rfl
        | true =>
          rcases hSm x hx hxs' with rfl | e
          · rw [hc] at hxc; cases hxc
          · rw [hxs] at e; cases e
      rcases h.st with ⟨q1, q2, q3⟩ | ⟨p1, z, p2, q1, q2, q3, q4, q5, q6⟩
      · exact .inl ⟨fun x hx hxc => hsame x hx hxc (q1 x hx hxc), q2, q3⟩
      · exact .inr ⟨p1, z, p2, q1, q2, hSk _ q3, fun x hx hxc => hsame x (by rw [q1]; simp [hx]) hxc (q4 x hx hxc), q5, q6⟩
  · intro t s hs hc
    have hnt : y.o.dst ≠ some t := by
      rcases hc with ⟨q, rfl⟩ | hc
      · intro e
        rw [e] at hns
        simp only [Option.bind_some] at hns
        unfold Env.src at hs
        rw [hns] at hs
        simp only at hs
        rcases go_form E t ds0 0 _ hs with ⟨k, e⟩ | ⟨k, e⟩ <;> cases e
      · exact hc y hym ((hS _).2 (.inl rfl))
    rw [put_other hnt]
    refine (h.old t s hs (hc.imp id fun hc x hx e => hc x hx (hSk _ e))).keep ht.pre hk fun _ _ _ => by simp
  · intro x hx hs t hd hsite
    rcases hSm x hx hs with rfl | e
    · rw [hd, put_same (Nat.lt_of_lt_of_le (hd1 t hd) h.nt)]
      exact hv
    · have hne : x.i ≠ y.i := fun q => by rw [q, hyS] at e; cases e
      rw [put_other (sg.diff hx hym hne hd)]
      exact (h.val x hx e t hd hsite).keep ht.pre hk fun _ _ _ => by simp
  · cases y.o.dst with
    | none => exact h.nt
    | some d => simpa [Act.put] using h.nt
  · exact fun v hv => (h.okA v hv).imp id fun ⟨c, hc⟩ => ⟨c, conc_pre ht.pre v c hc⟩
  · intro x hx hf hs
    have e := hflS x hx hf hs
    obtain ⟨q, cs, q1, q2, q3, q4⟩ := h.pd x hx hf e
    refine ⟨q, cs, q1, q2, q3.tr h.wr ht, fun t hd => ?_⟩
    have hne : x.i ≠ y.i := fun q => by rw [q, hyS] at e; cases e
    rw [put_other (sg.diff hx hym hne hd)]
    exact q4 t hd
  · intro x hx z hz hf hg hs hs'
    exact h.inj x hx z hz hf hg (hflS x hx hf hs) (hflS z hz hg hs')
  · intro x hx hf q s hq hs
    exact (hk s (by simp)).2.2 (h.nb x hx hf q s hq hs)
  · rw [← h.df]
    cases y.o.dst <;> rfl
  · have := hm.lo; have := hm.next; have := h.le; omega

/-- Behind a maker that floats. -/
theorem INV.nextFlo (sg : SEG P call ops E A Bs recs ds0 locs0 Ls ms) (h : INV P E A recs ds0 locs0 Ls ms ι0 β0 Lz mz wz df S a w ι β L m bl) {pre post : List Rec} {y : Rec} (hr : recs = pre ++ y :: post) (hyS : S y.i = false)
    (hS : ∀ k, S' k = true ↔ k = y.i ∨ S k = true) (hfl : y.fl = true) {q : EOp} (hq : y.r.op = .e q) {cs : List V} (hcs : floCells y.locs A q = some cs) {xs : List Value} {t : TypeId} (hxs : concL ι cs = some xs) (hdead : y.v = .dead) :
    INV P E A recs ds0 locs0 Ls ms ι0 β0 Lz mz wz df S' (a.put y.o.dst (floVal w.heap.size q)) (w.alloc (.cells xs.toArray t)) ι β L m (fun k => if k = y.i then w.heap.size else bl k) := by
  have hym : y ∈ recs := by rw [hr]; simp
  have hyok := sg.ok y hym
  obtain ⟨hd1, hd2⟩ := dstOk_spec hyok.hd
  obtain ⟨hw, ht⟩ := h.wr.grow (.cells xs.toArray t)
  have hSm : ∀ x ∈ recs, S' x.i = true → x = y ∨ (x.i ≠ y.i ∧ S x.i = true) := by
    intro x hx hs
    rcases (hS _).1 hs with e | e
    · exact .inl (sg.same hx hym e)
    · exact .inr ⟨fun q => (by rw [q, hyS] at e; cases e), e⟩
  have hSk : ∀ k, S k = true → S' k = true := fun k e => (hS k).2 (.inr e)
  have hch : y.ch = false := by simp [Rec.ch, hfl]
  have hbl : ∀ x ∈ recs, x.fl = true → S x.i = true → bl x.i < w.heap.size := by
    intro x hx hf hs
    obtain ⟨_, _, _, _, q3, _⟩ := h.pd x hx hf hs
    exact q3.lt
  refine { wr := hw, st := ?_, old := ?_, val := ?_, nt := ?_, okA := h.okA, pd := ?_, inj := ?_, nb := h.nb, tr := h.tr.trans ht, mm := h.mm, df := ?_, le := h.le }
  · have hsame : ∀ x ∈ recs, x.ch = true → S x.i = false → S' x.i = false := by
      intro x hx hxc hxs
      cases hxs' : S' x.i with
      | false => rfl
      | true =>
        rcases hSm x hx hxs' with rfl | ⟨_, e⟩
        · rw [hch] at hxc; cases hxc
        · rw [hxs] at e; cases e
    rcases h.st with ⟨q1, q2, q3⟩ | ⟨p1, z, p2, q1, q2, q3, q4, q5, q6⟩
    · exact .inl ⟨fun x hx hxc => hsame x hx hxc (q1 x hx hxc), q2, q3⟩
    · exact .inr ⟨p1, z, p2, q1, q2, hSk _ q3, fun x hx hxc => hsame x (by rw [q1]; simp [hx]) hxc (q4 x hx hxc), q5, q6⟩
  · intro t' s hs hc
    by_cases hd : y.o.dst = some t'
    · rcases hc with ⟨b, rfl⟩ | hc
      · -- its own box is not there
        have hsite : E.site t' = some b := by
          unfold Env.src at hs
          split at hs
          · rename_i b' hb'
            simp only [Option.some.injEq, Src.box.injEq] at hs
            rw [hb', hs]
          · rcases go_form E t' ds0 0 _ hs with ⟨k, e⟩ | ⟨k, e⟩ <;> cases e
        rw [hd] at hd2
        simp only [Option.bind_some] at hd2
        rw [hsite, hq] at hd2
        have := h.nb y hym hfl q b hq hd2.symm
        intro hne
        exact absurd this hne
      · exact absurd hd (hc y hym ((hS _).2 (.inl rfl)))
    · rw [put_other hd]
      exact (h.old t' s hs (hc.imp id fun hc x hx e => hc x hx (hSk _ e)))
  · intro x hx hs t' hd hsite
    rcases hSm x hx hs with rfl | ⟨hne, e⟩
    · rw [hdead]; trivial
    · rw [put_other (sg.diff hx hym hne hd)]
      exact h.val x hx e t' hd hsite
  · cases y.o.dst with
    | none => exact h.nt
    | some d => simpa [Act.put] using h.nt
  · intro x hx hf hs
    rcases hSm x hx hs with rfl | ⟨hne, e⟩
    · refine ⟨q, cs, hq, hcs, ?_, fun t' hd => ?_⟩
      · rw [if_pos rfl]
        exact Pend.new h.wr hxs h.tr.size
      · rw [hd, put_same (Nat.lt_of_lt_of_le (hd1 t' hd) h.nt), if_pos rfl]
    · obtain ⟨q', cs', q1, q2, q3, q4⟩ := h.pd x hx hf e
      refine ⟨q', cs', q1, q2, ?_, fun t' hd => ?_⟩
      · rw [if_neg hne]
        exact q3.tr h.wr ht
      · rw [put_other (sg.diff hx hym hne hd), if_neg hne]
        exact q4 t' hd
  · intro x hx z hz hf hg hs hs' he
    rcases hSm x hx hs with rfl | ⟨hne, e⟩
    · rcases hSm z hz hs' with rfl | ⟨hne', e'⟩
      · rfl
      · rw [if_pos rfl, if_neg hne'] at he
        have := hbl z hz hg e'
        omega
    · rcases hSm z hz hs' with rfl | ⟨hne', e'⟩
      · rw [if_pos rfl, if_neg hne] at he
        have := hbl x hx hf e
        omega
      · rw [if_neg hne, if_neg hne'] at he
        exact h.inj x hx z hz hf hg e e' he
  · rw [← h.df]
    cases y.o.dst <;> rfl

/-- The state in which a heavy operation comes. -/
theorem INV.state (sg : SEG P call ops E A Bs recs ds0 locs0 Ls ms) (h : INV P E A recs ds0 locs0 Ls ms ι0 β0 Lz mz wz df S a w ι β L m bl) {pre post : List Rec} {y : Rec} (hr : recs = pre ++ y :: post) (hyS : S y.i = false)
    (hcl : ∀ i, S i = true → ∀ k, has (Bs.getD i 0) k = true → S k = true) (hB : ∀ k, has (Bs.getD y.i 0) k = true → S k = true) (hfl : y.fl = false) :
    (L = y.L ∧ m = y.m) ∨ (y.ch = false ∧ ∃ p1 c p2, post = p1 ++ c :: p2 ∧ c.ch = true ∧ S c.i = true ∧ L = c.L' ∧ m = c.m') := by
  have hym : y ∈ recs := by rw [hr]; simp
  have hlk := sg.link
  rw [hr] at hlk
  obtain ⟨_, _, _, q4, q5, _⟩ := hlk.shape
  have hpre : ∀ x ∈ pre, x.ch = true → S x.i = true := fun x hx hc => hB _ (sub_has ((sg.ok y hym).hn hfl).2 (q5 x hx hc))
  have hokp : ∀ x ∈ pre, x.ch = false → x.L' = x.L ∧ x.m' = x.m := fun x hx => (sg.ok x (by rw [hr]; simp [hx])).hpu
  have hlpre : ∀ {p1 p2 : List Rec} {L m ds locs prev C}, Link L m ds locs prev C (p1 ++ p2) → Link L m ds locs prev C p1 := by
    intro p1
    induction p1 with
    | nil => intros; trivial
    | cons x p1 ih =>
      intro p2 L m ds locs prev C h
      obtain ⟨h1, h2, h3, h4, h5, h6, h7⟩ := h
      exact ⟨h1, h2, h3, h4, h5, h6, ih h7⟩
  rcases h.st with ⟨e1, e2, e3⟩ | ⟨p1, c, p2, e1, e2, e3, e4, e5, e6⟩
  · left
    have hno : ∀ x ∈ pre, x.ch = false := by
      intro x hx
      cases hc : x.ch with
      | false => rfl
      | true =>
        have h1 := hpre x hx hc
        rw [e1 x (by rw [hr]; simp [hx]) hc] at h1; cases h1
    have := endSt_pure (L := Ls) (m := ms) (l := pre) hokp hno (hlpre hlk)
    rw [q4, Prod.mk.injEq] at this
    exact ⟨by rw [e2, this.1], by rw [e3, this.2]⟩
  · -- the last one that is done: before or behind y
    rw [hr] at e1
    rw [List.append_eq_append_iff] at e1
    rcases e1 with ⟨as, g1, g2⟩ | ⟨bs, g1, g2⟩
    · -- p1 = pre ++ as
      cases as with
      | nil =>
        simp only [List.nil_append, List.cons.injEq] at g2
        obtain ⟨g2, _⟩ := g2
        rw [g2, e3] at hyS; cases hyS
      | cons u as =>
        simp only [List.cons_append, List.cons.injEq] at g2
        obtain ⟨rfl, g3⟩ := g2
        right
        refine ⟨?_, as, c, p2, g3, e2, e3, e5, e6⟩
        cases hyc : y.ch with
        | false => rfl
        | true =>
          exfalso
          have hlk2 := sg.link
          rw [hr, g3, ← List.cons_append, ← List.append_assoc] at hlk2
          obtain ⟨_, _, _, _, r5, _⟩ := hlk2.shape
          have hcf : c.fl = false := by
            simp only [Rec.ch, Bool.and_eq_true, Bool.not_eq_true'] at e2
            exact e2.1
          have := hcl c.i e3 y.i (sub_has ((sg.ok c (by rw [hr, g3]; simp)).hn hcf).2 (r5 y (by simp) hyc))
          rw [hyS] at this; cases this
    · -- pre = p1 ++ bs
      cases bs with
      | nil =>
        simp only [List.nil_append, List.cons.injEq] at g2
        obtain ⟨g2, _⟩ := g2
        rw [← g2, e3] at hyS; cases hyS
      | cons u bs =>
        simp only [List.cons_append, List.cons.injEq] at g2
        obtain ⟨rfl, g3⟩ := g2
        left
        have hno : ∀ x ∈ bs, x.ch = false := by
          intro x hx
          cases hc : x.ch with
          | false => rfl
          | true =>
            have h1 := hpre x (by rw [g1]; simp [hx]) hc
            rw [e4 x (by rw [g3]; simp [hx]) hc] at h1; cases h1
        have hlk3 := hlpre hlk
        rw [g1] at hlk3
        obtain ⟨C', hlk4⟩ := hlk3.tail
        have := endSt_pure (L := c.L') (m := c.m') (l := bs) (fun x hx => hokp x (by rw [g1]; simp [hx])) hno hlk4
        rw [g1, endSt_append] at q4
        simp only [endSt] at q4
        rw [q4, Prod.mk.injEq] at this
        exact ⟨by rw [e5, this.1], by rw [e6, this.2]⟩

end

end Go.AI

/- A region that draws its order: whatever the order. -/
namespace Go.AI
variable {P : Program}

section
variable {call : CallF} {ops : Array Oper} {E : Env} {A : List V} {Bs : List Nat} {recs : List Rec} {ds0 : List (Option Tmp)} {locs0 : List V} {Ls : Boxes} {ms : Mem} {ι0 : List Blk} {β0 : Nat → Nat} {Lz : Boxes} {mz : Mem} {wz : World} {df : List Deferred}
  {S S' : Nat → Bool} {a : Act} {w : World}

/-- An operation that is ready, in whatever state. -/
theorem step_sound (hcall : CallOK P call) {r : Option Nat} {n : Nat} {Q : Exit → Act → World → Prop} (sg : SEG P call ops E A Bs recs ds0 locs0 Ls ms)
    (h : ∃ ι β L m bl, INV P E A recs ds0 locs0 Ls ms ι0 β0 Lz mz wz df S a w ι β L m bl) {pre post : List Rec} {y : Rec} (hr : recs = pre ++ y :: post) (hyS : S y.i = false)
    (hcl : ∀ i, S i = true → ∀ k, has (Bs.getD i 0) k = true → S k = true) (hB : ∀ k, has (Bs.getD y.i 0) k = true → S k = true) (hS : ∀ k, S' k = true ↔ k = y.i ∨ S k = true)
    {K : Act → World → Prop} (hK : ∀ a' w', (∃ ι β L m bl, INV P E A recs ds0 locs0 Ls ms ι0 β0 Lz mz wz df S' a' w' ι β L m bl) → K a' w') : wpOpIn (FW r) n P ops Q y.i K a w := by
  obtain ⟨ι, β, L, m, bl, h⟩ := h
  have hym : y ∈ recs := by rw [hr]; simp
  have hyok := sg.ok y hym
  obtain ⟨hin, hsee⟩ := h.see sg hr hyS hcl hB
  have hgs : wantedG (maskL S pre.reverse locs0) (maskA S E recs A 0) y.r.guard = wantedG y.locs A y.r.guard := wantedG_congr fun s hs => hsee s (by simp [ROp.srcs, hs])
  have hos : ∀ s ∈ y.r.op.srcs, ev (maskL S pre.reverse locs0) (maskA S E recs A 0) s = ev y.locs A s := fun s hs => hsee s (by simp [ROp.srcs, hs])
  unfold wpOpIn
  rw [hyok.hop]
  simp only
  cases hfl : y.fl with
  | true =>
    obtain ⟨hgn, q, hq, _⟩ := hyok.hf hfl
    obtain ⟨q', cs, hq', hcs⟩ := sg.fl y hym hfl
    rw [hq] at hq'; cases hq'
    have hgo : y.o.guard = none := by
      rcases hyok.hg with ⟨e, _⟩ | ⟨_, _, _, _, _, _, _, e⟩
      · exact e
      · rw [hgn] at e; cases e
    have hwt : Region.wanted y.o (yielded ops a.tmps) = true := by simp [Region.wanted, hgo]
    rw [hwt]
    simp only [if_true]
    refine ⟨fun _ _ => trivial, ?_⟩
    have hk0 : compOp P E y.ds y.o = some (.e q) := by
      have := hyok.hk
      cases hc : compOp P E y.ds y.o with
      | none => rw [hc, hq] at this; cases this
      | some k => rw [hc, hq] at this; simp only [Option.getD_some] at this; rw [this]
    rw [Oper.semAt_eq _ _ _ (not_defer hk0)]
    have hcs' : floCells (maskL S pre.reverse locs0) (maskA S E recs A 0) q = some cs := by
      rw [← hcs]
      rw [hq] at hos
      cases q <;> first | rfl | skip
      rename_i len zs parts
      simp only [floCells]
      rw [evP_congr (l2 := y.locs) (A2 := A) fun s hs => hos s hs]
    obtain ⟨xs, t, hxs, hrun⟩ := flo_run (w := w) hin.cx hk0 hcs'
    rw [hrun]
    simp only [Oper.uponIn]
    refine hK _ _ ⟨ι, β, L, m, _, h.nextFlo sg hr hyS hS hfl hq hcs hxs ?_⟩
    have hs := hyok.hs
    unfold stepD at hs
    simp only [hfl, if_true, hgn, Option.some.injEq, Prod.mk.injEq] at hs
    exact hs.1.symm
  | false =>
    have hstate := h.state sg hr hyS hcl hB hfl
    have next : ∀ {ι' : List Blk} {β' : Nat → Nat} {L' : Boxes} {m' : Mem} {w' : World} {c : Value}, WR P ι' β' L' m' w' → Tr ι β L m w ι' β' L' m' w' → MM m m' → Keep none β L β' L' → VR ι' β' L' y.v c →
        ((y.ch = true ∧ L' = y.L' ∧ m' = y.m') ∨ (y.ch = false ∧ L' = L ∧ m' = m)) → K (a.put y.o.dst c) w' :=
      fun q1 q2 q3 q4 q5 q6 => hK _ _ ⟨_, _, _, _, _, h.next sg hr hyS hcl hS hfl q1 q2 q3 q4 q5 q6⟩
    have hsite : siteK y.r.op = none := by
      have := (hyok.hn hfl).1
      cases hop : y.r.op with
      | e q =>
        rw [hop] at this
        simp only [noSite, Option.isNone_iff_eq_none] at this
        exact this
      | _ => rfl
    have hs := hyok.hs
    have hfl' : (DOp.mk y.r y.fl y.re).flo = false := hfl
    cases hgw : wantedG y.locs A y.r.guard with
    | none =>
      exfalso
      unfold stepD at hs
      simp only [hfl, Bool.false_eq_true, if_false, hgw] at hs
      cases hs
    | some b =>
      have hw := wanted_run hin.sl hyok.hg (by rw [hgs]; exact hgw)
      rw [hw]
      cases b with
      | false =>
        simp only [Bool.false_eq_true, if_false]
        refine ⟨fun _ _ => trivial, ?_⟩
        have hv : y.v = .tup [] ∧ y.L' = y.L ∧ y.m' = y.m := by
          unfold stepD at hs
          simp only [hfl, Bool.false_eq_true, if_false, hgw] at hs
          split at hs
          · split at hs
            · simp only [Option.some.injEq, Prod.mk.injEq] at hs; exact ⟨hs.1.symm, hs.2.1.symm, hs.2.2.symm⟩
            · cases hs
          · simp only [Option.some.injEq, Prod.mk.injEq] at hs; exact ⟨hs.1.symm, hs.2.1.symm, hs.2.2.symm⟩
        refine next h.wr (Tr.refl _ _ _ _ _) (MM.refl _) (Keep.refl _ _ _) (by rw [hv.1]; exact VR.tup0) ?_
        cases hc : y.ch with
        | false => exact .inr ⟨rfl, rfl, rfl⟩
        | true =>
          rcases hstate with ⟨e1, e2⟩ | ⟨e, _⟩
          · exact .inl ⟨rfl, by rw [hv.2.1, e1], by rw [hv.2.2, e2]⟩
          · rw [hc] at e; cases e
      | true =>
        simp only [if_true]
        cases hk0 : compOp P E y.ds y.o with
        | none =>
          exfalso
          have := hyok.hk
          rw [hk0] at this
          unfold stepD at hs
          simp only [hfl, Bool.false_eq_true, if_false, hgw, this, Option.getD_none, pureOp] at hs
          cases hs
        | some k =>
          have hk := hyok.hk
          rw [hk0] at hk
          simp only [Option.getD_some] at hk
          refine ⟨fun _ _ => trivial, ?_⟩
          rw [Oper.semAt_eq _ _ _ (not_defer hk0)]
          cases k with
          | p q =>
            have hchf : y.ch = false := by simp [Rec.ch, hk, isP]
            have hp0 : pureOp y.locs A y.L y.m q = some y.v := by
              unfold stepD at hs
              simp only [hfl, Bool.false_eq_true, if_false, hgw, hk] at hs
              split at hs
              · rename_i v hv
                simp only [Option.some.injEq, Prod.mk.injEq] at hs
                rw [hv, hs.1]
              · cases hs
            have hp : pureOp y.locs A L m q = some y.v := by
              rcases hstate with ⟨e1, e2⟩ | ⟨_, p1, c, p2, e1, e2, e3, e4, e5⟩
              · rw [e1, e2]; exact hp0
              · have hlk := sg.link
                rw [hr] at hlk
                obtain ⟨C', hlt⟩ := hlk.tail
                rw [e4, e5]
                refine stays (P := P) (call := call) (ops := ops) (E := E) hk hgw S hyS hcl post y.L' y.m' (y.o.dst :: y.ds) [] [] C' rfl (fun x hx => sg.ok x (by rw [hr]; simp [hx])) hlt ?_ p1 c p2 e1 e2 e3
                obtain ⟨f1, f2⟩ := hyok.hpu hchf
                rw [f1, f2]; exact hp0
            rw [hk] at hos
            rw [← pureOp_congr hos] at hp
            obtain ⟨c, hv, hrun⟩ := pure_sound hk0 hin.cx hp hin.wr.toRD
            rw [hrun w hin.wr.toRD]
            simp only [Oper.uponIn]
            exact next h.wr (Tr.refl _ _ _ _ _) (MM.refl _) (Keep.refl _ _ _) hv (.inr ⟨hchf, rfl, rfl⟩)
          | e q =>
            have hcht : y.ch = true := by simp [Rec.ch, hk, isP, hfl]
            obtain ⟨e1, e2⟩ : L = y.L ∧ m = y.m := by
              rcases hstate with e | ⟨e, _⟩
              · exact e
              · rw [hcht] at e; cases e
            have hsq : siteOf q = none := by rw [hk] at hsite; exact hsite
            rcases stepD_ch hs (by simp [hfl, hk, isP]) with ⟨e, _⟩ | ⟨_, _, _, ⟨q', f1, _, f3⟩ | ⟨q', f1, _⟩⟩
            · simp only [hgw] at e; cases e
            · simp only [hk, RK.e.injEq] at f1
              subst f1
              rw [hk] at hos
              rw [← effOp_congr hos, ← e1, ← e2] at f3
              obtain ⟨ι', β', w', h1, h2, h3, h4⟩ := eff_sound hin.wr hin.cx hk0 f3
              have hmm := effOp_mm h.le f3
              rw [hsq] at h3
              rcases h4 with ⟨c, hv, hrun⟩ | ⟨hv, hrun⟩
              · rw [hrun]
                simp only [Oper.uponIn]
                exact next h1 h2 hmm h3 hv (.inl ⟨hcht, rfl, rfl⟩)
              · rw [hrun]
                simp only [Oper.uponIn]
                exact next h1 h2 hmm h3 (by rw [hv]; exact VR.tup0) (.inl ⟨hcht, rfl, rfl⟩)
            · simp only [hk] at f1; cases f1
          | c q =>
            have hcht : y.ch = true := by simp [Rec.ch, hk, isP, hfl]
            obtain ⟨e1, e2⟩ : L = y.L ∧ m = y.m := by
              rcases hstate with e | ⟨e, _⟩
              · exact e
              · rw [hcht] at e; cases e
            rcases stepD_ch hs (by simp [hfl, hk, isP]) with ⟨e, _⟩ | ⟨_, _, _, ⟨q', f1, _⟩ | ⟨q', f1, f3, f4⟩⟩
            · simp only [hgw] at e; cases e
            · simp only [hk] at f1; cases f1
            · simp only [hk, RK.c.injEq] at f1
              subst f1
              rw [hk] at hos
              rw [← callOp_congr hos, ← e2] at f3
              obtain ⟨v, m', hKv, nx, hrun, hnx⟩ := callOp_sound hcall hin h.le hk0 f3
              simp only [Option.some.injEq, Prod.mk.injEq] at hKv
              obtain ⟨rfl, rfl⟩ := hKv
              rw [hrun]
              have hend : ∀ (e : Ending) (w' : World), CallR P ι β L m w y.v y.m' e w' → (match e with
                | .returned v => fun w'' => K (a.put y.o.dst v) w''
                | .panicked chain => fun w'' => Q (.panic chain) a w''
                | .outgrown => fun _ => LetsOut Q) w' := by
                intro e w' hrr
                cases e with
                | returned c =>
                  obtain ⟨ι', h1, h2, h3, h4⟩ := hrr
                  exact next h1 h2 h4 (Keep.refl _ _ _) (VR.of h3) (.inl ⟨hcht, by rw [f4, e1], rfl⟩)
                | panicked chain => exact hrr.elim
                | outgrown => exact hrr.elim
              rcases hnx with ⟨f, as, rfl, hcl⟩ | ⟨l, f, tmps, asg, body, rfl, hcl⟩
              · refine And.intro (fun h => absurd h (by simp [fw_depth])) ?_
                exact CallsIn.mono (hcl (n - 1)) fun e w' hr => by
                  have := hend e w' hr
                  cases e <;> exact this
              · refine And.intro (fun h => absurd h (by simp [fw_depth])) ?_
                exact RoundIn.mono (hcl (n - 1)) fun e w' hr => by
                  have := hend e w' hr
                  cases e <;> exact this

/-- The closure of the edges. -/
theorem upMask_has {B : List Nat} {o : Oper} {k : Nat} (h : has (upMask B o) k = true) : ∃ e ∈ o.after, Region.binds .any e = true ∧ (e.on = k ∨ has (B.getD e.on 0) k = true) := by
  unfold upMask at h
  have key : ∀ (l : List Edge) (b : Nat), has (l.foldl (fun b e => if Region.binds .any e then b ||| (1 <<< e.on) ||| B.getD e.on 0 else b) b) k = true →
      has b k = true ∨ ∃ e ∈ l, Region.binds .any e = true ∧ (e.on = k ∨ has (B.getD e.on 0) k = true) := by
    intro l
    induction l with
    | nil => intro b h; exact .inl h
    | cons e l ih =>
      intro b h
      simp only [List.foldl_cons] at h
      rcases ih _ h with q | ⟨e', h1, h2⟩
      · split at q
        · rename_i hb
          unfold has at q
          rw [Nat.testBit_or, Nat.testBit_or, Bool.or_eq_true, Bool.or_eq_true] at q
          rcases q with (q | q) | q
          · exact .inl q
          · refine .inr ⟨e, by simp, hb, .inl ?_⟩
            rw [Nat.testBit_shiftLeft] at q
            simp only [Bool.and_eq_true, decide_eq_true_eq] at q
            obtain ⟨q1, q2⟩ := q
            have : k - e.on = 0 := by
              cases hk : k - e.on with
              | zero => rfl
              | succ j => rw [hk] at q2; simp [Nat.testBit_succ] at q2
            omega
          · exact .inr ⟨e, by simp, hb, .inr q⟩
        · exact .inl q
      · exact .inr ⟨e', by simp [h1], h2⟩
  rcases key _ _ h with q | ⟨e, h1, h2⟩
  · simp [has] at q
  · exact ⟨e, by simpa using h1, h2⟩

theorem closOK_get {B : List Nat} : ∀ {os : List Oper} {bs : List Nat}, closOK B os bs = true → ∀ {i : Nat} {o : Oper}, os[i]? = some o → sub (bs.getD i 0) (upMask B o) = true
  | [], [], _, i, o, h => by simp at h
  | o :: os, b :: bs, h, i, o', hi => by
    simp only [closOK, Bool.and_eq_true] at h
    cases i with
    | zero =>
      simp only [List.getElem?_cons_zero, Option.some.injEq] at hi
      subst hi
      exact h.1
    | succ i => exact closOK_get h.2 (by simpa using hi)
  | [], _ :: _, h, _, _, _ => by simp [closOK] at h
  | _ :: _, [], h, _, _, _ => by simp [closOK] at h

/-- What is ready: what comes before it is done. -/
theorem ready_up {Bs : List Nat} {ops : Array Oper} (hc : closOK Bs ops.toList Bs = true) {listed : Array Bool} (hcl : ∀ i, listed.getD i false = true → ∀ k, has (Bs.getD i 0) k = true → listed.getD k false = true)
    {i : Nat} (hr : i ∈ Region.ready .any ops listed) : listed.getD i true = false ∧ ∀ k, has (Bs.getD i 0) k = true → listed.getD k false = true := by
  obtain ⟨h1, o, h2, h3⟩ := mem_ready.1 hr
  refine ⟨h1, fun k hk => ?_⟩
  have h4 := closOK_get hc (i := i) (o := o) (by simpa using h2)
  obtain ⟨e, he, hb, hh⟩ := upMask_has (sub_has h4 hk)
  have h5 := h3 e he hb
  rcases hh with rfl | hh
  · exact h5
  · exact hcl _ h5 k hh

end

end Go.AI

/- A region that draws its order: a part of it, whatever the order. -/
namespace Go.AI
variable {P : Program}

theorem count_set : ∀ {l : List Bool} {i : Nat}, l[i]? = some false → (l.set i true).count false + 1 = l.count false
  | [], i, h => by simp at h
  | b :: l, 0, h => by
    simp only [List.getElem?_cons_zero, Option.some.injEq] at h
    subst h
    simp
  | b :: l, i + 1, h => by
    simp only [List.getElem?_cons_succ] at h
    have := count_set h
    simp only [List.set_cons_succ, List.count_cons]
    omega

theorem downOK_get : ∀ {os : List Oper} {i0 : Nat}, downOK os i0 = true → ∀ {i : Nat} {o : Oper}, os[i]? = some o → ∀ e ∈ o.after, Region.binds .any e = true → e.on < i0 + i
  | [], _, _, i, o, h => by simp at h
  | o :: os, i0, h, i, o', hi => by
    simp only [downOK, Bool.and_eq_true] at h
    cases i with
    | zero =>
      simp only [List.getElem?_cons_zero, Option.some.injEq] at hi
      subst hi
      intro e he hb
      have := h.1
      rw [List.all_eq_true] at this
      have := this e (by simpa using he)
      rw [hb] at this
      simp only [Bool.not_true, Bool.false_or, blt_iff] at this
      omega
    | succ i =>
      have := downOK_get h.2 (i := i) (o := o') (by simpa using hi)
      intro e he hb
      have := this e he hb
      omega

/-- As long as not all is done, something is ready. -/
theorem ready_some {ops : Array Oper} (hd : downOK ops.toList 0 = true) {listed : Array Bool} : ∀ (i : Nat), i < ops.size → i < listed.size → listed.getD i false = false → Region.ready .any ops listed ≠ [] := by
  intro i
  induction i using Nat.strongRecOn with
  | ind i ih =>
    intro hi hs hl
    by_cases hall : ∀ j < i, listed.getD j false = true
    · have : i ∈ Region.ready .any ops listed := by
        refine mem_ready.2 ⟨?_, ops[i], by simp [hi], fun e he hb => ?_⟩
        · simp only [Array.getD_eq_getD_getElem?, Array.getElem?_eq_getElem hs, Option.getD_some] at hl ⊢
          exact hl
        · have := downOK_get hd (i := i) (o := ops[i]) (by simp [hi]) e he hb
          exact hall _ (by omega)
      intro e
      rw [e] at this; cases this
    · simp only [Classical.not_forall] at hall
      obtain ⟨j, hj, hn⟩ := hall
      refine ih j hj (by omega) (by omega) ?_
      simpa using hn

theorem getD_set_iff {listed : Array Bool} {i : Nat} (hi : i < listed.size) (k : Nat) : (listed.setIfInBounds i true).getD k false = true ↔ k = i ∨ listed.getD k false = true := by
  by_cases h : k = i
  · subst h
    simp [Array.getD_eq_getD_getElem?, hi]
  · simp [Array.getD_eq_getD_getElem?, Array.getElem?_setIfInBounds, Ne.symm h, h]

section
variable {call : CallF} {ops : Array Oper} {E : Env} {A : List V} {Bs : List Nat} {recs : List Rec} {ds0 : List (Option Tmp)} {locs0 : List V} {Ls : Boxes} {ms : Mem} {ι0 : List Blk} {β0 : Nat → Nat} {Lz : Boxes} {mz : Mem} {wz : World} {df : List Deferred}

theorem seg_any (hcall : CallOK P call) {r : Option Nat} {n : Nat} {Q : Exit → Act → World → Prop} (hcl : closOK Bs ops.toList Bs = true) (hdn : downOK ops.toList 0 = true) (sg : SEG P call ops E A Bs recs ds0 locs0 Ls ms) :
    ∀ (fuel : Nat) (listed : Array Bool) (a : Act) (w : World), listed.size = ops.size → listed.toList.count false ≤ fuel → (∀ i, listed.getD i false = true → ∀ k, has (Bs.getD i 0) k = true → listed.getD k false = true) →
      (∀ i < ops.size, (∃ x ∈ recs, x.i = i) ∨ listed.getD i false = true ∨ ∀ x ∈ recs, has (Bs.getD i 0) x.i = true) →
      (∃ ι β L m bl, INV P E A recs ds0 locs0 Ls ms ι0 β0 Lz mz wz df (fun i => listed.getD i false) a w ι β L m bl) →
      (∀ (fuel' : Nat) (listed' : Array Bool) (a' : Act) (w' : World), listed'.size = ops.size → listed'.toList.count false ≤ fuel' → (∀ i, listed'.getD i false = true → ∀ k, has (Bs.getD i 0) k = true → listed'.getD k false = true) →
        (∀ x ∈ recs, listed'.getD x.i false = true) → (∀ i, (∀ x ∈ recs, x.i ≠ i) → listed'.getD i false = listed.getD i false) →
        (∃ ι β L m bl, INV P E A recs ds0 locs0 Ls ms ι0 β0 Lz mz wz df (fun i => listed'.getD i false) a' w' ι β L m bl) → wpAnyIn (FW r) n P .any ops Q fuel' listed' a' w') →
      wpAnyIn (FW r) n P .any ops Q fuel listed a w := by
  intro fuel
  induction fuel with
  | zero =>
    intro listed a w hsz hct hc _ hinv hcont
    refine hcont 0 listed a w hsz hct hc (fun x hx => ?_) (fun _ _ => rfl) hinv
    have hop := (sg.ok x hx).hop
    have hlt : x.i < listed.size := by rw [hsz]; exact (Array.getElem?_eq_some_iff.1 hop).1
    have h0 : listed.toList.count false = 0 := by omega
    rw [List.count_eq_zero] at h0
    cases hv : listed[x.i] with
    | true => simp [Array.getD_eq_getD_getElem?, hlt, hv]
    | false => exact absurd (by rw [← hv]; simp) h0
  | succ fuel ih =>
    intro listed a w hsz hct hc hpart hinv hcont
    by_cases hall : ∀ x ∈ recs, listed.getD x.i false = true
    · exact hcont _ listed a w hsz hct hc hall (fun _ _ => rfl) hinv
    · simp only [Classical.not_forall] at hall
      obtain ⟨z, hz, hzn⟩ := hall
      have hzn : listed.getD z.i false = false := by simpa using hzn
      have hzlt : z.i < ops.size := (Array.getElem?_eq_some_iff.1 (sg.ok z hz).hop).1
      refine ⟨fun h0 => absurd h0 (ready_some hdn z.i hzlt (by omega) hzn), fun i hi => ?_⟩
      obtain ⟨hiu, hup⟩ := ready_up hcl hc hi
      have hilt : i < ops.size := by
        obtain ⟨_, o, ho, _⟩ := mem_ready.1 hi
        exact (Array.getElem?_eq_some_iff.1 ho).1
      have his : i < listed.size := by omega
      have hiv : listed[i] = false := by simpa [Array.getD_eq_getD_getElem?, his] using hiu
      have hiu' : listed.getD i false = false := by simp [Array.getD_eq_getD_getElem?, his, hiv]
      rcases hpart i hilt with ⟨y, hy, rfl⟩ | e | e
      · obtain ⟨pre, post, hr⟩ := List.append_of_mem hy
        refine step_sound hcall sg hinv hr hiu' hc hup (S' := fun k => (listed.setIfInBounds y.i true).getD k false) (fun k => getD_set_iff his k) ?_
        intro a' w' hinv'
        refine ih (listed.setIfInBounds y.i true) a' w' (by simpa using hsz) ?_ ?_ ?_ hinv' ?_
        · have := count_set (l := listed.toList) (i := y.i) (by simp [his, hiv])
          rw [Array.toList_setIfInBounds]
          omega
        · intro j hj k hk
          rw [getD_set_iff his] at hj ⊢
          rcases hj with rfl | hj
          · exact .inr (hup k hk)
          · exact .inr (hc j hj k hk)
        · intro j hj
          rcases hpart j hj with q | q | q
          · exact .inl q
          · exact .inr (.inl ((getD_set_iff his j).2 (.inr q)))
          · exact .inr (.inr q)
        · intro fuel' listed' a2 w2 q1 q2 q3 q4 q5 q6
          refine hcont fuel' listed' a2 w2 q1 q2 q3 q4 (fun j hj => ?_) q6
          rw [q5 j hj]
          have hne : y.i ≠ j := hj y hy
          simp [Array.getD_eq_getD_getElem?, Array.getElem?_setIfInBounds, hne]
      · rw [hiu'] at e; cases e
      · have := hup z.i (e z hz)
        rw [hzn] at this; cases this

/-- All is done: the state, and what is in the slots. -/
theorem INV.all (sg : SEG P call ops E A Bs recs ds0 locs0 Ls ms) {S : Nat → Bool} {a : Act} {w : World} {ι : List Blk} {β : Nat → Nat} {L : Boxes} {m : Mem} {bl : Nat → Nat}
    (h : INV P E A recs ds0 locs0 Ls ms ι0 β0 Lz mz wz df S a w ι β L m bl) (hall : ∀ x ∈ recs, S x.i = true) :
    (L, m) = endSt Ls ms recs ∧ IN P ι β L m w E ((recs.map (·.o.dst)).reverse ++ ds0) ((recs.map (·.v)).reverse ++ locs0) A a := by
  have hst : (L, m) = endSt Ls ms recs := by
    have hok : ∀ x ∈ recs, x.ch = false → x.L' = x.L ∧ x.m' = x.m := fun x hx => (sg.ok x hx).hpu
    rcases h.st with ⟨e1, e2, e3⟩ | ⟨p1, c, p2, e1, e2, e3, e4, e5, e6⟩
    · have hno : ∀ x ∈ recs, x.ch = false := by
        intro x hx
        cases hc : x.ch with
        | false => rfl
        | true => have := e1 x hx hc; rw [hall x hx] at this; cases this
      rw [endSt_pure hok hno sg.link, e2, e3]
    · have hlk := sg.link
      rw [e1] at hlk
      obtain ⟨C', hlt⟩ := hlk.tail
      have hno : ∀ x ∈ p2, x.ch = false := by
        intro x hx
        cases hc : x.ch with
        | false => rfl
        | true => have := e4 x hx hc; rw [hall x (by rw [e1]; simp [hx])] at this; cases this
      rw [e1, endSt_append]
      simp only [endSt]
      rw [endSt_pure (fun x hx => hok x (by rw [e1]; simp [hx])) hno hlt, e5, e6]
  refine ⟨hst, h.wr, fun t s hs => ?_, h.nt, h.okA⟩
  rw [← List.map_reverse] at hs ⊢
  rcases src_app E t ds0 recs.reverse hs with ⟨q, e1, rfl⟩ | ⟨e0, ⟨j, x, e1, e2, rfl⟩ | ⟨e1, ⟨k, e2, rfl⟩ | ⟨k, e2, rfl⟩⟩⟩
  · exact h.old t (.box q) (by unfold Env.src; rw [e1]) (.inl ⟨q, rfl⟩)
  · have hx : x ∈ recs := by have := List.mem_of_getElem? e1; simpa using this
    show VR ι β L (((recs.reverse.map (·.v)) ++ locs0).getD j .dead) _
    have hj : j < recs.reverse.length := (List.getElem?_eq_some_iff.1 e1).1
    have hv : ((recs.map (·.v)).reverse ++ locs0).getD j .dead = x.v := by
      rw [← List.map_reverse, List.getD_eq_getElem?_getD, List.getElem?_append_left (by simpa using hj), List.getElem?_map, e1]
      rfl
    rw [List.map_reverse, hv]
    exact h.val x hx (hall x hx) t e2 e0
  · have := h.old t (.loc k) e2 (.inr fun x hx _ => e1 x (by simpa using hx))
    show VR ι β L (((recs.reverse.map (·.v)) ++ locs0).getD (k + recs.reverse.length) .dead) _
    rw [List.map_reverse]
    have hv : ((recs.map (·.v)).reverse ++ locs0).getD (k + recs.reverse.length) .dead = locs0.getD k .dead := by
      rw [List.getD_eq_getElem?_getD, List.getElem?_append_right (by simp), List.getD_eq_getElem?_getD]
      congr 2
      simp
    rw [hv]
    exact this
  · exact h.old t (.var k) e2 (.inr fun x hx _ => e1 x (by simpa using hx))

end

end Go.AI

/- A region that draws its order: the variables that were made are there. -/
namespace Go.AI
variable {P : Program}

theorem src_loc_get {E : Env} {t : Tmp} {ds : List (Option Tmp)} {k : Nat} (h : E.src ds t = some (.loc k)) : ds[k]? = some (some t) ∧ E.site t = none := by
  unfold Env.src at h
  split at h
  · cases h
  · rename_i hn
    refine ⟨?_, hn⟩
    have key : ∀ (ds : List (Option Tmp)) (n j : Nat), Env.src.go E t ds n = some (.loc j) → ∃ i, j = n + i ∧ ds[i]? = some (some t) := by
      intro ds
      induction ds with
      | nil =>
        intro n j h
        simp only [Env.src.go, Option.map_eq_some_iff] at h
        obtain ⟨_, _, h⟩ := h
        cases h
      | cons d ds ih =>
        intro n j h
        cases d with
        | none =>
          simp only [Env.src.go] at h
          obtain ⟨i, e1, e2⟩ := ih _ _ h
          exact ⟨i + 1, by omega, by simpa using e2⟩
        | some d =>
          simp only [Env.src.go] at h
          split at h
          · rename_i he
            rw [beq_iff] at he
            simp only [Option.some.injEq, Src.loc.injEq] at h
            exact ⟨0, by omega, by simp [he]⟩
          · obtain ⟨i, e1, e2⟩ := ih _ _ h
            exact ⟨i + 1, by omega, by simpa using e2⟩
    obtain ⟨i, e1, e2⟩ := key ds 0 k h
    rw [e1, Nat.zero_add]; exact e2

theorem push_mm {m : Mem} {cs : List V} (hle : m.lo ≤ m.next) : MM m (m.push (.cells cs false)) := by
  have := newVar_mm (site := none) (cs := cs) (L := []) hle
  exact this

section
variable {E : Env} {A o : List V} {ds : List (Option Tmp)} {ι0 : List Blk} {β0 : Nat → Nat} {Lz : Boxes} {mz : Mem} {wz : World} {a : Act} {w : World}

/-- A variable that was made: its block. -/
def RegOK (E : Env) (A o : List V) (ds : List (Option Tmp)) (h0 : Nat) (a : Act) (w : World) (ι : List Blk) (β : Nat → Nat) (L : Boxes) (m : Mem) (kq : Nat × EOp) (b : Nat) : Prop :=
  ∃ cs, floCells (o.drop (kq.1 + 1)) A kq.2 = some cs ∧ Pend ι β L m w h0 b cs ∧ (∀ t, ds[kq.1]? = some (some t) → a.tmps.getD t undef = floVal b kq.2) ∧ ∀ s, siteOf kq.2 = some s → ∃ t, E.site t = some s ∧ a.tmps.getD t undef = floVal b kq.2

inductive All2 {α β : Type} (R : α → β → Prop) : List α → List β → Prop
  | nil : All2 R [] []
  | cons {a b l1 l2} : R a b → All2 R l1 l2 → All2 R (a :: l1) (b :: l2)

theorem reg_sound : ∀ (regs : List (Nat × EOp)) (bs : List Nat) (locs : List V) (L : Boxes) (m : Mem) (ι : List Blk) (β : Nat → Nat) (l2 : List V) (L2 : Boxes) (m2 : Mem), regD o A regs locs L m = some (l2, L2, m2) →
    IN P ι β L m w E ds locs A a → Tr ι0 β0 Lz mz wz ι β L m w → MM mz m → m.lo ≤ m.next → locs.length = ds.length → All2 (RegOK E A o ds wz.heap.size a w ι β L m) regs bs → bs.Nodup →
    ∃ ι' β', IN P ι' β' L2 m2 w E ds l2 A a ∧ Tr ι0 β0 Lz mz wz ι' β' L2 m2 w ∧ MM mz m2 ∧ m2.lo ≤ m2.next := by
  intro regs
  induction regs with
  | nil =>
    intro bs locs L m ι β l2 L2 m2 hr hin ht hm hle _ _ _
    simp only [regD, Option.some.injEq, Prod.mk.injEq] at hr
    obtain ⟨rfl, rfl, rfl⟩ := hr
    exact ⟨ι, β, hin, ht, hm, hle⟩
  | cons kq regs ih =>
    intro bs locs L m ι β l2 L2 m2 hr hin ht hm hle hlen hf hnd
    obtain ⟨k, q⟩ := kq
    cases hf with
    | cons hreg hf =>
      rename_i b bs
      rw [List.nodup_cons] at hnd
      obtain ⟨cs, c1, c2, c3, c4⟩ := hreg
      simp only at c1 c3 c4
      have hothers : ∀ (ι' : List Blk) (β' : Nat → Nat) (L' : Boxes) (m' : Mem), (∀ b' cs', b' ≠ b → Pend ι β L m w wz.heap.size b' cs' → Pend ι' β' L' m' w wz.heap.size b' cs') → All2 (RegOK E A o ds wz.heap.size a w ι' β' L' m') regs bs := by
        intro ι' β' L' m' hp
        have : ∀ (rs : List (Nat × EOp)) (bs : List Nat), (∀ b' ∈ bs, b' ≠ b) → All2 (RegOK E A o ds wz.heap.size a w ι β L m) rs bs → All2 (RegOK E A o ds wz.heap.size a w ι' β' L' m') rs bs := by
          intro rs bs hne h
          induction h with
          | nil => exact .nil
          | cons h1 _ ih =>
            obtain ⟨cs, d1, d2, d3, d4⟩ := h1
            exact .cons ⟨cs, d1, hp _ _ (hne _ (by simp)) d2, d3, d4⟩ (ih fun b' hb' => hne b' (by simp [hb']))
        exact this regs bs (fun b' hb' e => hnd.1 (by rw [← e]; exact hb')) hf
      -- a new object in memory
      have obj : ∀ (v : V) (n : Nat), regD o A regs (locs.set k v) L (m.push (.cells cs false)) = some (l2, L2, m2) → (siteOf q = none) → (∀ n, conc (ι ++ [⟨b, 0, n⟩]) v = some (floVal b q)) →
          ∃ ι' β', IN P ι' β' L2 m2 w E ds l2 A a ∧ Tr ι0 β0 Lz mz wz ι' β' L2 m2 w ∧ MM mz m2 ∧ m2.lo ≤ m2.next := by
        intro v _ hr _ hv
        obtain ⟨n, g1, g2⟩ := hin.wr.regObj ht c2
        have hpre : ι <+: ι ++ [⟨b, 0, n⟩] := List.prefix_append _ _
        refine ih bs _ L _ _ β l2 L2 m2 hr ?_ g2 (hm.trans (push_mm hle)) (by have := push_mm (cs := cs) hle; have h1 := this.lo; have h2 := this.next; omega) (by simpa using hlen) ?_ hnd.2
        · refine ⟨g1, fun t s hs => ?_, hin.nt, fun v hv => (hin.ok v hv).imp id fun ⟨c, hc⟩ => ⟨c, conc_pre hpre v c hc⟩⟩
          have hold := hin.sl t s hs
          cases s with
          | loc k' =>
            obtain ⟨e1, e2⟩ := src_loc_get hs
            show VR _ β L ((locs.set k v).getD k' .dead) _
            by_cases hk : k' = k
            · subst hk
              have hlt : k' < locs.length := by rw [hlen]; exact (List.getElem?_eq_some_iff.1 e1).1
              rw [List.getD_eq_getElem?_getD, List.getElem?_set_self hlt, Option.getD_some, c3 t e1]
              exact VR.of (hv n)
            · rw [List.getD_eq_getElem?_getD, List.getElem?_set_ne (Ne.symm hk), ← List.getD_eq_getElem?_getD]
              exact hold.keep hpre (Keep.refl β L none) fun _ _ _ => by simp
          | _ => exact hold.keep hpre (Keep.refl β L none) fun _ _ _ => by simp
        · exact hothers _ _ _ _ fun b' cs' hne hp => hp.regObj hin.wr hne
      cases q with
      | alloc site zs =>
        simp only [floCells, Option.some.injEq] at c1
        subst c1
        cases site with
        | some s =>
          simp only [regD] at hr
          obtain ⟨t0, s1, s2⟩ := c4 s rfl
          obtain ⟨g1, g2⟩ := hin.wr.regBox ht s c2
          have hkeep : Keep (some s) β L (fun k => if k = s then b else β k) (L.put s zs) := by
            intro s' hs'
            have hne : s' ≠ s := fun e => hs' (by rw [e])
            rw [Boxes.get_put, if_neg hne]
            simp only [if_neg hne]
            trivial
          refine ih bs _ _ m ι _ l2 L2 m2 hr ?_ g2 hm hle ?_ ?_ hnd.2
          · refine ⟨g1, fun t s' hs' => ?_, hin.nt, hin.ok⟩
            have hold := hin.sl t s' hs'
            cases s' with
            | loc k' =>
              show VR _ _ _ ((deaden s locs).getD k' .dead) _
              rw [deaden_get]
              have hold : VR ι β L (locs.getD k' .dead) _ := hold
              cases hx : locs.getD k' .dead <;> simp only <;> rw [hx] at hold <;> try (exact hold.keep (List.prefix_refl _) hkeep fun _ _ e => by cases e)
              rename_i s2 off
              split
              · trivial
              · rename_i hne
                rw [beq_iff] at hne
                exact hold.keep (List.prefix_refl _) hkeep fun s' off e => by
                  simp only [V.lp.injEq] at e
                  intro e2
                  simp only [Option.some.injEq] at e2
                  exact hne (by rw [e2, e.1])
            | box s' =>
              have hsite : E.site t = some s' := by
                unfold Env.src at hs'
                split at hs'
                · rename_i b' hb'
                  simp only [Option.some.injEq, Src.box.injEq] at hs'
                  rw [hb', hs']
                · rcases go_form E t ds 0 _ hs' with ⟨k, e⟩ | ⟨k, e⟩ <;> cases e
              by_cases he : s' = s
              · subst he
                have := site_inj hsite s1
                subst this
                show VR _ _ _ (.lp s' 0) _
                intro _
                rw [s2]
                simp [floVal]
              · exact hold.keep (List.prefix_refl _) hkeep fun s'' off e => by
                  simp only [ev, V.lp.injEq] at e
                  intro e2
                  simp only [Option.some.injEq] at e2
                  exact he (by rw [e.1, e2])
            | var k' =>
              refine hold.keep (List.prefix_refl _) hkeep fun s'' off e => ?_
              exfalso
              have e : A.getD k' .dead = .lp s'' off := e
              have hlt : k' < A.length := by
                rcases Nat.lt_or_ge k' A.length with q | q
                · exact q
                · rw [List.getD_eq_getElem?_getD, List.getElem?_eq_none q] at e; cases e
              rw [List.getD_eq_getElem?_getD, List.getElem?_eq_getElem hlt] at e
              simp only [Option.getD_some] at e
              rcases hin.ok _ (List.getElem_mem hlt) with q | ⟨c, q⟩
              · rw [e] at q; cases q
              · rw [e] at q; simp [conc] at q
            | cst v =>
              refine hold.keep (List.prefix_refl _) hkeep fun s'' off e => ?_
              exfalso
              unfold Env.src at hs'
              split at hs'
              · cases hs'
              · rcases go_form E t ds 0 _ hs' with ⟨k, e⟩ | ⟨k, e⟩ <;> cases e
            | glob g => exact hold.keep (List.prefix_refl _) hkeep fun _ _ e => by cases e
            | fn f => exact hold.keep (List.prefix_refl _) hkeep fun _ _ e => by cases e
          · have : ∀ l : List V, (deaden s l).length = l.length := by
              intro l
              induction l with
              | nil => rfl
              | cons v l ih => cases v <;> simp [deaden, ih]
            rw [this]; exact hlen
          · exact hothers _ _ _ _ fun b' cs' hne hp => hp.regBox s hne
        | none =>
          simp only [regD] at hr
          refine obj _ 0 hr rfl fun n => ?_
          simp only [conc, floVal]
          rw [← hin.wr.len]
          simp
      | bldSl len zs parts =>
        simp only [floCells] at c1
        simp only [regD, c1] at hr
        refine obj _ 0 hr rfl fun n => ?_
        simp only [conc, floVal]
        rw [← hin.wr.len]
        simp
      | _ => simp only [floCells] at c1; cases c1

end

end Go.AI

/- A region that draws its order. -/
namespace Go.AI
variable {P : Program}

theorem dropSites_get {s : Nat} : ∀ (l : List Nat) (L : Boxes), (dropSites l L).get s = if s ∈ l then [] else L.get s
  | [], L => by simp [dropSites]
  | x :: l, L => by
    simp only [dropSites]
    rw [dropSites_get l, Boxes.get_put]
    by_cases h1 : s ∈ l
    · simp [h1]
    · by_cases h2 : s = x <;> simp [h1, h2]

theorem dropSites_WR {ι : List Blk} {β : Nat → Nat} {m : Mem} {w : World} : ∀ (l : List Nat) (L : Boxes), WR P ι β L m w → WR P ι β (dropSites l L) m w ∧ Tr ι β L m w ι β (dropSites l L) m w
  | [], L, h => ⟨h, Tr.refl _ _ _ _ _⟩
  | s :: l, L, h => by
    obtain ⟨h1, t1⟩ := h.dropBox s
    obtain ⟨h2, t2⟩ := dropSites_WR l _ h1
    exact ⟨h2, t1.trans t2⟩

theorem drops_mem : ∀ {regs : List (Nat × EOp)} {k : Nat} {q : EOp} {s : Nat}, (k, q) ∈ regs → siteOf q = some s → s ∈ dropsOf regs
  | [], _, _, _, h, _ => by cases h
  | (k', q') :: regs, k, q, s, h, hs => by
    rcases List.mem_cons.1 h with e | h
    · simp only [Prod.mk.injEq] at e
      obtain ⟨rfl, rfl⟩ := e
      simp [dropsOf, hs]
    · have := drops_mem h hs
      simp only [dropsOf]
      split
      · exact List.mem_cons_of_mem _ this
      · exact this

theorem regs_mem : ∀ {ds : List DOp} {d : DOp} {q : EOp}, d ∈ ds → d.flo = true → d.o.op = .e q → ∃ k, (k, q) ∈ regsOf ds
  | [], _, _, h, _, _ => by cases h
  | x :: ds, d, q, h, hf, hq => by
    rcases List.mem_cons.1 h with rfl | h
    · refine ⟨ds.length, ?_⟩
      simp only [regsOf, hf, if_true, hq]
      simp
    · obtain ⟨k, hk⟩ := regs_mem h hf hq
      refine ⟨k, ?_⟩
      simp only [regsOf]
      split
      · split
        · exact List.mem_cons_of_mem _ hk
        · exact hk
      · exact hk

/-- All that is put there has cells. -/
theorem regD_cells {o A : List V} : ∀ {regs : List (Nat × EOp)} {locs : List V} {L : Boxes} {m : Mem} {r}, regD o A regs locs L m = some r → ∀ k q, (k, q) ∈ regs → ∃ cs, floCells (o.drop (k + 1)) A q = some cs
  | [], _, _, _, _, _, k, q, h => by cases h
  | (k', q') :: regs, locs, L, m, r, hr, k, q, h => by
    cases q' with
    | alloc site zs =>
      cases site with
      | some s =>
        simp only [regD] at hr
        rcases List.mem_cons.1 h with e | h
        · simp only [Prod.mk.injEq] at e
          obtain ⟨rfl, rfl⟩ := e
          exact ⟨_, rfl⟩
        · exact regD_cells hr k q h
      | none =>
        simp only [regD] at hr
        rcases List.mem_cons.1 h with e | h
        · simp only [Prod.mk.injEq] at e
          obtain ⟨rfl, rfl⟩ := e
          exact ⟨_, rfl⟩
        · exact regD_cells hr k q h
    | bldSl len zs parts =>
      simp only [regD] at hr
      split at hr
      · rename_i cs hcs
        rcases List.mem_cons.1 h with e | h
        · simp only [Prod.mk.injEq] at e
          obtain ⟨rfl, rfl⟩ := e
          exact ⟨_, hcs⟩
        · exact regD_cells hr k q h
      · cases hr
    | _ => simp only [regD] at hr; cases hr

theorem dstsDiffer_nodup : ∀ {l : List (Option Tmp)}, dstsDiffer l = true → l.Pairwise fun x y => ∀ t, x = some t → y ≠ some t
  | [], _ => List.Pairwise.nil
  | none :: l, h => by
    simp only [dstsDiffer] at h
    exact List.Pairwise.cons (fun y _ t ht => by cases ht) (dstsDiffer_nodup h)
  | some u :: l, h => by
    simp only [dstsDiffer, Bool.and_eq_true, List.all_eq_true] at h
    refine List.Pairwise.cons (fun y hy t ht => ?_) (dstsDiffer_nodup h.2)
    simp only [Option.some.injEq] at ht
    subst ht
    intro e
    subst e
    have := h.1 _ hy
    simp only [Bool.not_eq_true'] at this
    have h2 : Nat.beq u u = true := beq_iff.2 rfl
    rw [this] at h2; cases h2

theorem noDup_nodup : ∀ {l : List Nat}, noDup l = true → l.Pairwise (· ≠ ·)
  | [], _ => List.Pairwise.nil
  | i :: l, h => by
    simp only [noDup, Bool.and_eq_true, List.all_eq_true] at h
    refine List.Pairwise.cons (fun j hj e => ?_) (noDup_nodup h.2)
    subst e
    have := h.1 _ hj
    simp only [Bool.not_eq_true'] at this
    have h2 : Nat.beq i i = true := beq_iff.2 rfl
    rw [this] at h2; cases h2

theorem varOK_spec {E : Env} {Bs : List Nat} {ops : Array Oper} {idx : List Nat} {R : List ROp} (h : varOK E Bs ops idx R = true) {j : Nat} (hj : j ∈ idx) {o : Oper} (ho : ops[j]? = some o) {t : Tmp} (ht : o.dst = some t) {v : Nat} (hv : idxOf t E.vars 0 = some v)
    {i : Nat} {r : ROp} (hir : (i, r) ∈ idx.zip R) (hne : j ≠ i) (hs : Src.var v ∈ r.srcs) : has (Bs.getD j 0) i = true := by
  unfold varOK at h
  rw [List.all_eq_true] at h
  have := h j hj
  simp only [ho, Option.bind_some, ht, hv, List.all_eq_true] at this
  have := this (i, r) hir
  simp only [Bool.or_eq_true, List.all_eq_true] at this
  rcases this with (q | q) | q
  · rw [beq_iff] at q; exact absurd q.symm hne
  · exact q
  · have := q _ hs
    simp only [Bool.not_eq_true'] at this
    have h2 : Nat.beq v v = true := beq_iff.2 rfl
    rw [this] at h2; cases h2

theorem zip_recs : ∀ (recs : List Rec), ∀ x ∈ recs, (x.i, x.r) ∈ (recs.map (·.i)).zip (recs.map (·.r))
  | [], _, h => by cases h
  | y :: recs, x, h => by
    simp only [List.map_cons, List.zip_cons_cons]
    rcases List.mem_cons.1 h with rfl | h
    · simp
    · exact List.mem_cons_of_mem _ (zip_recs recs x h)

theorem maskOf_has {l : List Nat} {i : Nat} (h : i ∈ l) : has (maskOf l) i = true := by
  unfold maskOf
  have key : ∀ (l : List Nat) (b : Nat), (has b i = true ∨ i ∈ l) → has (l.foldl (fun b i => b ||| (1 <<< i)) b) i = true := by
    intro l
    induction l with
    | nil =>
      intro b h
      rcases h with h | h
      · exact h
      · cases h
    | cons x l ih =>
      intro b h
      simp only [List.foldl_cons]
      refine ih _ ?_
      rcases h with h | h
      · left; unfold has at *; rw [Nat.testBit_or, h]; rfl
      · rcases List.mem_cons.1 h with rfl | h
        · left
          unfold has
          rw [Nat.testBit_or, Nat.testBit_shiftLeft]
          simp
        · exact .inr h
  exact key l 0 (.inr h)

theorem isIn_mem {i : Nat} : ∀ {l : List Nat}, isIn i l = true → i ∈ l
  | [], h => by cases h
  | j :: l, h => by
    simp only [isIn, Bool.or_eq_true, beq_iff] at h
    rcases h with rfl | h
    · simp
    · exact List.mem_cons_of_mem _ (isIn_mem h)

theorem getOps_lt {ops : Array Oper} : ∀ {idx : List Nat} {os : List Oper}, getOps ops idx = some os → ∀ i ∈ idx, i < ops.size
  | [], _, _, i, h => by cases h
  | j :: idx, os, h, i, hi => by
    simp only [getOps] at h
    split at h
    · rename_i o ho
      simp only [Option.map_eq_some_iff] at h
      obtain ⟨os', h1, _⟩ := h
      rcases List.mem_cons.1 hi with rfl | hi
      · exact (Array.getElem?_eq_some_iff.1 ho).1
      · exact getOps_lt h1 i hi
    · cases h

end Go.AI

/- A region that draws its order is sound. -/
namespace Go.AI
variable {P : Program}

/-- The variables that were made in a part, and their blocks. -/
theorem regs_all {call : CallF} {ops : Array Oper} {E : Env} {A : List V} {Bs : List Nat} {recs : List Rec} {Ls : Boxes} {ms : Mem} {ι0 : List Blk} {β0 : Nat → Nat} {Lz : Boxes} {mz : Mem} {wz : World} {df : List Deferred}
    {S : Nat → Bool} {a : Act} {w : World} {ι : List Blk} {β : Nat → Nat} {L : Boxes} {m : Mem} {bl : Nat → Nat}
    (sg : SEG P call ops E A Bs recs [] [] Ls ms) (h : INV P E A recs [] [] Ls ms ι0 β0 Lz mz wz df S a w ι β L m bl) (hall : ∀ x ∈ recs, S x.i = true) :
    ∀ (post pre : List Rec), recs = pre ++ post → All2 (RegOK E A ((recs.map (·.v)).reverse ++ []) ((recs.map (·.o.dst)).reverse ++ []) wz.heap.size a w ι β L m) (regsOf (post.map Rec.dop)) ((post.filter (·.fl)).map (bl ·.i)) := by
  intro post
  induction post with
  | nil => intro pre _; exact .nil
  | cons x post ih =>
    intro pre hr
    have hx : x ∈ recs := by rw [hr]; simp
    have ih' := ih (pre ++ [x]) (by rw [hr]; simp)
    cases hf : x.fl with
    | false =>
      rw [List.filter_cons_of_neg (by simp [hf])]
      simp only [List.map_cons, regsOf, Rec.dop, hf, Bool.false_eq_true, if_false]
      exact ih'
    | true =>
      obtain ⟨q, cs, q1, q2, q3, q4⟩ := h.pd x hx hf (hall x hx)
      rw [List.filter_cons_of_pos hf]
      simp only [List.map_cons, regsOf, Rec.dop, hf, if_true, q1]
      refine .cons ?_ ih'
      have hlk := sg.link
      rw [hr] at hlk
      obtain ⟨s1, s2, _⟩ := hlk.shape
      have hlen : (post.map Rec.dop).length = post.length := by simp
      have hlen' : (post.map fun (x : Rec) => (⟨x.r, x.fl, x.re⟩ : DOp)).length = post.length := by simp
      refine ⟨cs, ?_, q3, fun t ht => ?_, fun s hs => ?_⟩
      · simp only [hlen']
        rw [← q2, s2, hr]
        congr 1
        simp only [List.map_append, List.map_cons, List.reverse_append, List.reverse_cons, List.append_assoc, List.append_nil, List.singleton_append]
        rw [List.drop_append, List.drop_of_length_le (by simp)]
        simp
      · simp only [hlen'] at ht
        refine q4 t ?_
        rw [hr] at ht
        simp only [List.map_append, List.map_cons, List.reverse_append, List.reverse_cons, List.append_assoc, List.append_nil, List.singleton_append] at ht
        rw [List.getElem?_append_right (by simp)] at ht
        simpa using ht
      · have hd := (dstOk_spec (sg.ok x hx).hd).2
        rw [q1] at hd
        have hd : x.o.dst.bind E.site = siteOf q := hd
        rw [hs] at hd
        cases hdst : x.o.dst with
        | none => rw [hdst] at hd; cases hd
        | some t =>
          rw [hdst] at hd
          exact ⟨t, hd, q4 t hdst⟩

theorem mem_dsts {recs : List Rec} {x : Rec} {t : Tmp} (hx : x ∈ recs) (hd : x.o.dst = some t) : some t ∈ (recs.map (·.o.dst)).reverse := by
  rw [List.mem_reverse, List.mem_map]
  exact ⟨x, hx, hd⟩

theorem bls_nodup {recs : List Rec} {bl : Nat → Nat} (hne : recs.Pairwise fun x y => x.i ≠ y.i ∧ ∀ t, x.o.dst = some t → y.o.dst ≠ some t) (hi : ∀ x ∈ recs, ∀ y ∈ recs, x.fl = true → y.fl = true → bl x.i = bl y.i → x.i = y.i) :
    ((recs.filter (·.fl)).map (bl ·.i)).Nodup := by
  induction recs with
  | nil => simp
  | cons x recs ih =>
    rw [List.pairwise_cons] at hne
    have ih' := ih hne.2 fun a ha b hb => hi a (by simp [ha]) b (by simp [hb])
    cases hf : x.fl with
    | false => rw [List.filter_cons_of_neg (by simp [hf])]; exact ih'
    | true =>
      rw [List.filter_cons_of_pos hf, List.map_cons, List.nodup_cons]
      refine ⟨fun hm => ?_, ih'⟩
      rw [List.mem_map] at hm
      obtain ⟨y, hy, he⟩ := hm
      rw [List.mem_filter] at hy
      exact (hne.1 y hy.1).1 (hi x (by simp) y (by simp [hy.1]) hf hy.2 he.symm)

theorem compDraw_spec {E : Env} {ops : Array Oper} {ic : IC} (h : compDraw P E ops = some ic) :
    ∃ (Bs : List Nat) (F : Nat) (fr tl : List Nat) (os : List Oper) (R : List ROp) (d : List (Option Tmp)) (f t : List DOp), closOK Bs ops.toList Bs = true ∧ downOK ops.toList 0 = true ∧ (∀ i < ops.size, i ∈ fr ++ tl) ∧ (fr ++ tl).Pairwise (· ≠ ·) ∧
      (∀ i ∈ tl, ∀ k ∈ fr, has (Bs.getD i 0) k = true) ∧ getOps ops (fr ++ tl) = some os ∧ compOps P E ops os [] = some (R, d) ∧ dstsDiffer d = true ∧ varOK E Bs ops fr (R.take fr.length) = true ∧ varOK E Bs ops tl (R.drop fr.length) = true ∧
      segOf Bs F true fr (R.take fr.length) [] 0 = some f ∧ segOf Bs F false tl (R.drop fr.length) [] 0 = some t ∧ ic = .draw (dropsOf (regsOf f)) f (regsOf f) t (compUpd E d E.vars 0) := by
  unfold compDraw at h
  simp only at h
  split at h
  · cases h
  rename_i h1
  split at h
  · cases h
  rename_i h2
  split at h
  · cases h
  rename_i h3
  split at h
  · cases h
  rename_i os hos
  split at h
  · cases h
  rename_i R d hc
  split at h
  · cases h
  rename_i h4
  split at h
  · rename_i f t hf ht
    simp only [Option.some.injEq] at h
    simp only [Bool.not_eq_true', Bool.not_eq_false, Bool.and_eq_true] at h1 h2 h3 h4
    refine ⟨_, _, _, _, os, R, d, f, t, h1.1, h1.2, fun i hi => ?_, noDup_nodup h2.2, fun i hi k hk => ?_, hos, hc, h4.1.1, h4.1.2, h4.2, hf, ht, h.symm⟩
    · have := h2.1
      rw [List.all_eq_true] at this
      exact isIn_mem (this i (by simpa using hi))
    · rw [List.all_eq_true] at h3
      exact sub_has (h3 i hi) (maskOf_has hk)
  · cases h

theorem draw_sound {call : CallF} (hcall : CallOK P call) (hm : P.follows .mixedOrders = true) {n : Nat} {E : Env} {id : Nat} {ops : Array Oper} {ic : IC} (hc : compC P E (.region id ops true) = some ic) : Sound P call n E (.region id ops true) ic := by
  simp only [compC] at hc
  obtain ⟨Bs, F, fr, tl, os, R, d, f, t, hclo, hdn, hidx, hnd, htl, hos, hcomp, hdd, hv1, hv2, hs1, hs2, rfl⟩ := compDraw_spec hc
  intro r base nn s K res hx ι β a w hst Q hQ
  simp only [exec] at hx
  split at hx
  case h_2 => cases hx
  rename_i locs1 L1 m1 hrun1
  split at hx
  case h_2 => cases hx
  rename_i locs2 L2 m2 hreg
  split at hx
  case h_2 => cases hx
  rename_i locs3 L3 m3 hrun2
  split at hx
  case h_2 => cases hx
  rename_i A' hupd
  -- the parts
  obtain ⟨o1, o2, ho1, ho2, rfl, hol⟩ := getOps_append hos
  obtain ⟨R1, d1, R2, hc1, hc2, rfl, hRl⟩ := compOps_append hcomp
  have hR1 : (R1 ++ R2).take fr.length = R1 := by rw [← hol, ← hRl]; simp
  have hR2 : (R1 ++ R2).drop fr.length = R2 := by rw [← hol, ← hRl]; simp
  rw [hR1] at hv1 hs1
  rw [hR2] at hv2 hs2
  obtain ⟨recs1, lk1, ok1, i1, r1, p1, _, dd1, ll1, en1⟩ := mk_recs (call := call) (A := s.A) fr o1 R1 [] d1 f [] locs1 (dropSites (dropsOf (regsOf f)) s.L) L1 s.m m1 [] 0 ho1 hc1 hs1 hrun1
  obtain ⟨recs2, lk2, ok2, i2, r2, p2, nf2, dd2, ll2, en2⟩ := mk_recs (call := call) (A := s.A) tl o2 R2 d1 d t locs2 locs3 L2 L3 m2 m3 [] 0 ho2 hc2 hs2 hrun2
  have nf2 := nf2 rfl
  have hdp := dstsDiffer_nodup hdd
  rw [dd2, dd1, List.append_nil] at hdp
  have hpair : ∀ (recs : List Rec), (recs.map (·.i)).Pairwise (· ≠ ·) → ((recs.map (·.o.dst)).reverse).Pairwise (fun x y => ∀ t, x = some t → y ≠ some t) → recs.Pairwise fun x y => x.i ≠ y.i ∧ ∀ t, x.o.dst = some t → y.o.dst ≠ some t := by
    intro recs q1 q2
    rw [List.pairwise_map] at q1
    rw [List.pairwise_reverse, List.pairwise_map] at q2
    refine (q1.and q2).imp fun ⟨e1, e2⟩ => ⟨e1, fun t ht hy => e2 t hy ht⟩
  rw [List.pairwise_append] at hdp
  rw [List.pairwise_append] at hnd
  have ne1 := hpair recs1 (by rw [i1]; exact hnd.1) hdp.2.1
  have ne2 := hpair recs2 (by rw [i2]; exact hnd.2.1) hdp.1
  have hva : ∀ (recs : List Rec) (idx : List Nat) (R : List ROp), recs.map (·.i) = idx → recs.map (·.r) = R → (∀ x ∈ recs, RecOK P call ops E s.A Bs x) → varOK E Bs ops idx R = true →
      ∀ x ∈ recs, ∀ y ∈ recs, x.i ≠ y.i → ∀ t v, x.o.dst = some t → idxOf t E.vars 0 = some v → Src.var v ∈ y.r.srcs → has (Bs.getD x.i 0) y.i = true := by
    intro recs idx R e1 e2 ok hv x hx y hy hne t v hd hi hs
    refine varOK_spec hv (by rw [← e1, List.mem_map]; exact ⟨x, hx, rfl⟩) (ok x hx).hop hd hi ?_ hne hs
    rw [← e1, ← e2]
    exact zip_recs recs y hy
  have hcells := regD_cells hreg
  have sg1 : SEG P call ops E s.A Bs recs1 [] [] (dropSites (dropsOf (regsOf f)) s.L) s.m := by
    refine ⟨lk1, ok1, ne1, fun x _ t _ => by simp, hva recs1 fr R1 i1 r1 ok1 hv1, fun x hx hf => ?_⟩
    obtain ⟨_, q, hq, _⟩ := (ok1 x hx).hf hf
    obtain ⟨pre, post, hr⟩ := List.append_of_mem hx
    -- its place
    have hin : (post.length, q) ∈ regsOf f := by
      rw [← p1, hr]
      have key : ∀ pre : List Rec, (post.length, q) ∈ regsOf ((pre ++ x :: post).map Rec.dop) := by
        intro pre
        induction pre with
        | nil =>
          simp only [List.nil_append, List.map_cons, regsOf, Rec.dop, hf, if_true, hq]
          simp
        | cons z pre ih =>
          simp only [List.cons_append, List.map_cons, regsOf]
          split
          · split
            · exact List.mem_cons_of_mem _ ih
            · exact ih
          · exact ih
      exact key pre
    obtain ⟨cs, hcs⟩ := hcells _ _ hin
    refine ⟨q, cs, hq, ?_⟩
    rw [← hcs, ll1, hr]
    rw [hr] at lk1
    obtain ⟨_, s2, _⟩ := lk1.shape
    rw [s2]
    congr 1
    simp only [List.map_append, List.map_cons, List.reverse_append, List.reverse_cons, List.append_assoc, List.append_nil, List.singleton_append]
    rw [List.drop_append, List.drop_of_length_le (by simp)]
    simp
  -- the start
  refine wpIn_region_any hm ?_
  obtain ⟨w1, t1⟩ := hst.wr.drawn (w.drawn + 1)
  obtain ⟨w2, t2⟩ := dropSites_WR (dropsOf (regsOf f)) s.L w1
  have tz := t1.trans t2
  have hunl : ∀ i, (Array.replicate ops.size false).getD i false = false := by
    intro i
    simp only [Array.getD_eq_getD_getElem?, Array.getElem?_replicate]
    split <;> rfl
  have inv1 : INV P E s.A recs1 [] [] (dropSites (dropsOf (regsOf f)) s.L) s.m ι β s.L s.m w a.defers (fun i => (Array.replicate ops.size false).getD i false) a { w with drawn := w.drawn + 1 } ι β (dropSites (dropsOf (regsOf f)) s.L) s.m (fun _ => 0) := by
    refine { wr := w2, st := .inl ⟨fun x _ _ => hunl _, rfl, rfl⟩, old := fun t' sr hs _ => ?_, val := fun x _ h => ?_, nt := hst.fr.nt, okA := hst.fr.ok, pd := fun x _ _ h => ?_, inj := fun x _ y _ _ _ h => ?_, nb := fun x hx hf q s' hq hs' => ?_, tr := tz, mm := MM.refl _, df := rfl, le := hst.le }
    · have hin := IN.start hst.wr hst.fr
      have hold := hin.sl t' sr hs
      cases sr with
      | box s' =>
        show VR _ _ _ (.lp s' 0) _
        have hold : VR ι β s.L (.lp s' 0) _ := hold
        intro hne
        refine hold fun e => hne ?_
        rw [dropSites_get]
        split
        · rfl
        · exact e
      | loc k => exact absurd (src_loc_get hs).1 (by simp)
      | var k =>
        have hold : VR ι β s.L (s.A.getD k .dead) _ := hold
        show VR _ _ _ (s.A.getD k .dead) _
        cases hv : s.A.getD k .dead with
        | dead => trivial
        | lp s' off =>
          exfalso
          have e := hv
          have hlt : k < s.A.length := by
            rcases Nat.lt_or_ge k s.A.length with q | q
            · exact q
            · rw [List.getD_eq_getElem?_getD, List.getElem?_eq_none q] at e; cases e
          rw [List.getD_eq_getElem?_getD, List.getElem?_eq_getElem hlt] at e
          simp only [Option.getD_some] at e
          rcases hst.fr.ok _ (List.getElem_mem hlt) with q | ⟨c, q⟩
          · rw [e] at q; cases q
          · rw [e] at q; simp [conc] at q
        | _ =>
          rw [hv] at hold
          exact VR.of (hold.ok rfl)
      | _ => exact VR.of (hold.ok (by rcases go_form E t' [] 0 _ (by
          unfold Env.src at hs
          split at hs
          · cases hs
          · exact hs) with ⟨k, e⟩ | ⟨k, e⟩ <;> cases e))
    · simp only [hunl] at h; cases h
    · simp only [hunl] at h; cases h
    · simp only [hunl] at h; cases h
    · rw [dropSites_get, if_pos ?_]
      have hm : x.dop ∈ f := by rw [← p1, List.mem_map]; exact ⟨x, hx, rfl⟩
      obtain ⟨k, hk⟩ := regs_mem (d := x.dop) hm hf hq
      exact drops_mem hk hs'
  -- the first part
  refine seg_any hcall hclo hdn sg1 _ _ _ _ (by simp) (by simp) (fun i hi => by rw [hunl] at hi; cases hi) (fun i hi => ?_) ⟨_, _, _, _, _, inv1⟩ ?_
  · rcases List.mem_append.1 (hidx i hi) with h | h
    · rw [← i1, List.mem_map] at h
      exact .inl h
    · refine .inr (.inr fun x hx => htl i h x.i ?_)
      rw [← i1, List.mem_map]; exact ⟨x, hx, rfl⟩
  intro fuel listed a1 wa hsz hct hcl hall hkeep hinv
  obtain ⟨ιa, βa, La, ma, bl, hinv⟩ := hinv
  obtain ⟨hend, hin⟩ := hinv.all sg1 hall
  rw [en1, Prod.mk.injEq] at hend
  obtain ⟨rfl, rfl⟩ := hend
  have hregs := regs_all sg1 hinv hall recs1 [] rfl
  have hbn := bls_nodup (bl := bl) ne1 fun x hx y hy hf hg he => hinv.inj x hx y hy hf hg (hall x hx) (hall y hy) he
  rw [p1] at hregs
  rw [← dd1, ← ll1] at hregs hin
  obtain ⟨ιb, βb, hin2, tb, mb, leb⟩ := reg_sound (regsOf f) _ locs1 La ma ιa βa locs2 L2 m2 hreg hin hinv.tr hinv.mm hinv.le (by rw [ll1, dd1]; simp) hregs hbn
  -- the second part
  have sg2 : SEG P call ops E s.A Bs recs2 d1 locs2 L2 m2 := by
    refine ⟨lk2, ok2, ne2, fun x hx t' hd hmem => ?_, hva recs2 tl R2 i2 r2 ok2 hv2, fun x hx hf => by rw [nf2 x hx] at hf; cases hf⟩
    rw [dd1, List.append_nil] at hmem
    exact hdp.2.2 _ (mem_dsts hx hd) _ hmem t' rfl rfl
  have hun2 : ∀ x ∈ recs2, listed.getD x.i false = false := by
    intro x hx
    rw [hkeep x.i fun z hz => ?_]
    · exact hunl _
    · have h1 : z.i ∈ fr := by rw [← i1, List.mem_map]; exact ⟨z, hz, rfl⟩
      have h2 : x.i ∈ tl := by rw [← i2, List.mem_map]; exact ⟨x, hx, rfl⟩
      exact hnd.2.2 _ h1 _ h2
  have inv2 : INV P E s.A recs2 d1 locs2 L2 m2 ι β s.L s.m w a.defers (fun i => listed.getD i false) a1 wa ιb βb L2 m2 (fun _ => 0) :=
    { wr := hin2.wr, st := .inl ⟨fun x hx _ => hun2 x hx, rfl, rfl⟩, old := fun t' sr hs _ => hin2.sl t' sr hs, val := fun x hx h => (by rw [hun2 x hx] at h; cases h), nt := hin2.nt, okA := hin2.ok,
      pd := fun x hx hf => (by rw [nf2 x hx] at hf; cases hf), inj := fun x hx _ _ hf => (by rw [nf2 x hx] at hf; cases hf), nb := fun x hx hf => (by rw [nf2 x hx] at hf; cases hf), tr := tb, mm := mb, df := hinv.df, le := leb }
  refine seg_any hcall hclo hdn sg2 fuel listed a1 wa hsz hct hcl (fun i hi => ?_) ⟨_, _, _, _, _, inv2⟩ ?_
  · rcases List.mem_append.1 (hidx i hi) with h | h
    · rw [← i1, List.mem_map] at h
      obtain ⟨x, hx, rfl⟩ := h
      exact .inr (.inl (hall x hx))
    · rw [← i2, List.mem_map] at h
      exact .inl h
  intro fuel2 listed2 a2 wb hsz2 _ _ hall2 hkeep2 hinv2
  obtain ⟨ιc, βc, Lc, mc, bl2, hinv2⟩ := hinv2
  obtain ⟨hend2, hin3⟩ := hinv2.all sg2 hall2
  rw [en2, Prod.mk.injEq] at hend2
  obtain ⟨rfl, rfl⟩ := hend2
  rw [← dd2, ← ll2] at hin3
  refine wpAnyIn_done ?_ ?_ fuel2
  · -- nothing is left
    rw [List.eq_nil_iff_forall_not_mem]
    intro i hi
    obtain ⟨h1, o, h2, _⟩ := mem_ready.1 hi
    have hilt : i < ops.size := (Array.getElem?_eq_some_iff.1 h2).1
    have : listed2.getD i false = true := by
      rcases List.mem_append.1 (hidx i hilt) with h | h
      · rw [hkeep2 i fun x hx e => ?_]
        · rw [← i1, List.mem_map] at h
          obtain ⟨x, hx, rfl⟩ := h
          exact hall x hx
        · have h3 : x.i ∈ tl := by rw [← i2, List.mem_map]; exact ⟨x, hx, rfl⟩
          exact hnd.2.2 i h x.i h3 e.symm
      · rw [← i2, List.mem_map] at h
        obtain ⟨x, hx, rfl⟩ := h
        exact hall2 x hx
    have his : i < listed2.size := by omega
    simp only [Array.getD_eq_getD_getElem?, Array.getElem?_eq_getElem his, Option.getD_some] at this h1
    rw [this] at h1; cases h1
  · have hfr := hin3.done hst.fr.len hupd
    refine hQ .normal ⟨A', Lc, mc⟩ ιc βc a2 wb hx ⟨hin3.wr, hfr, hinv2.le, by rw [hinv2.df]; exact hst.mks.tr hinv2.tr, Nat.le_trans hst.bs hinv2.tr.size, fun l hl => ?_⟩ hinv2.tr hinv2.mm
    obtain ⟨x, hx⟩ := hst.rd l hl
    exact hinv2.tr.loops l x hx

/-- Every call of a table's functions is sound: each is the program's own, or sound by itself. -/
theorem call_sound' {tab : FuncId → Option IFun} (hm : P.follows .mixedOrders = true) (n : Nat)
    (htab : ∀ g F, tab g = some F → (∃ fn c E, P.funcs[g]? = some fn ∧ fn.body = some c ∧ compF P E fn = some F) ∨ ∀ cf, FunOK P cf n g F) (d : Nat) : CallOK P (call tab n d) :=
  call_ok (fun _ hcall _ _ _ _ hc => draw_sound hcall hm hc) (fun _ hcall g F hg => by
    rcases htab g F hg with h | h
    · intro as m m' v hle hx ι β L w hw cas has
      exact func_sound hcall (fun _ _ _ _ hc => draw_sound hcall hm hc) h hle hx hw fun t _ => concL_VA has t
    · exact h _) d

/-- Every call of a table's functions is sound. -/
theorem call_sound {tab : FuncId → Option IFun} (htab : TabOK P tab) (hm : P.follows .mixedOrders = true) (n d : Nat) : CallOK P (call tab n d) :=
  call_sound' hm n (fun g F hg => .inl (htab g F hg)) d

end Go.AI

/- A function that looks at its globals alone, known from one run. -/
namespace Go.AI
variable {P : Program}

theorem CallR.widen {ι ι1 : List Blk} {β : Nat → Nat} {L : Boxes} {m m0 : Mem} {w : World} {v : V} (hw : WR P ι β L m w) (hno : ∀ k b, ¬ owns ι1 β [] m0 k b) (hc : ∀ ι ι', conc ι v = conc ι' v) {e : Ending} {w' : World}
    (h : CallR P ι1 β [] m0 w v m0 e w') : CallR P ι β L m w v m e w' := by
  cases e with
  | returned c =>
    obtain ⟨ι', _, h2, h3, _⟩ := h
    have hs : ∀ b : Nat, b < w.heap.size → w'.heap[b]? = w.heap[b]? := fun b hb => h2.same b hb fun k => hno k b
    refine ⟨ι, ?_, ?_, (hc _ _).trans h3, MM.refl m⟩
    · refine { obj := fun o x hx => ?_, box := fun s hs' => ?_, len := hw.len, glob := hw.glob, inj := hw.inj, ro := hw.ro }
      · obtain ⟨b, hb, hob⟩ := hw.obj o x hx
        exact ⟨b, hb, hob.keep (List.prefix_refl _) fun _ hlt => hs _ hlt⟩
      · obtain ⟨xs, t, g1, g2⟩ := hw.box s hs'
        exact ⟨xs, t, g1, by rw [hs _ (Array.getElem?_eq_some_iff.1 g2).1]; exact g2⟩
    · exact ⟨List.prefix_refl _, h2.size, fun b hb _ => hs b hb, h2.loops, fun k b hk => .inl ⟨k, hk⟩, h2.os, fun _ _ h => h⟩
  | _ => exact h.elim

end Go.AI
