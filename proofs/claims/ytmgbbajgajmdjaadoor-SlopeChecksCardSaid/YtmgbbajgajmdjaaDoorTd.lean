/- The small code is sound: code, functions, calls. -/
import Derived.Test.YtmgbbajgajmdjaaDoorTc
import Derived.Scope
import Derived.LoopNIn
import Derived.RangeFuncRecord
import Derived.RangeFuncNested

set_option linter.unusedSimpArgs false
set_option linter.unusedVariables false

/- A region, in the order of its text. -/
namespace Go.AI
variable {P : Program}

def FW (r : Option Nat) : Fence := { Fence.wide with round := r }

/-- The run of a region's operations so far. -/
structure IN (P : Program) (ι : List Blk) (β : Nat → Nat) (L : Boxes) (m : Mem) (w : World) (E : Env) (dsts : List (Option Tmp)) (locs A : List V) (a : Act) : Prop where
  wr : WR P ι β L m w
  sl : SL ι β L E dsts locs A a
  nt : E.nt ≤ a.tmps.size
  ok : ∀ v ∈ A, v = .dead ∨ ∃ c, conc ι v = some c

theorem IN.cx {ι : List Blk} {β : Nat → Nat} {L : Boxes} {m : Mem} {w : World} {E : Env} {dsts : List (Option Tmp)} {locs A : List V} {a : Act} (h : IN P ι β L m w E dsts locs A a) : CX (P := P) ι β L E dsts locs A a := ⟨h.sl, h.wr.glob⟩

theorem idxOf_get {x : Nat} : ∀ {l : List Nat} {i k : Nat}, idxOf x l i = some k → i ≤ k ∧ l[k - i]? = some x
  | [], i, k, h => by simp [idxOf] at h
  | y :: ys, i, k, h => by
    unfold idxOf at h
    split at h
    · rename_i he
      rw [beq_iff] at he
      simp only [Option.some.injEq] at h
      subst h; subst he
      exact ⟨Nat.le_refl _, by simp⟩
    · obtain ⟨h1, h2⟩ := idxOf_get h
      refine ⟨by omega, ?_⟩
      rw [show k - i = (k - (i + 1)) + 1 by omega]
      simpa using h2

theorem site_inj {E : Env} {t u : Tmp} {s : Nat} (h : E.site t = some s) (h2 : E.site u = some s) : t = u := by
  have h1 := (idxOf_get h).2
  have h3 := (idxOf_get h2).2
  rw [h1] at h3
  exact Option.some.inj h3

def shift : Src → Src
  | .loc k => .loc (k + 1)
  | s => s

theorem go_shift (E : Env) (t : Tmp) : ∀ (ds : List (Option Tmp)) (i : Nat), Env.src.go E t ds (i + 1) = (Env.src.go E t ds i).map shift
  | [], i => by
    simp only [Env.src.go]
    cases idxOf t E.vars 0 <;> rfl
  | some d :: ds, i => by
    simp only [Env.src.go]
    split
    · rfl
    · exact go_shift E t ds (i + 1)
  | none :: ds, i => by
    simp only [Env.src.go]
    exact go_shift E t ds (i + 1)

theorem go_form (E : Env) (t : Tmp) : ∀ (ds : List (Option Tmp)) (i : Nat) (s : Src), Env.src.go E t ds i = some s → (∃ k, s = .loc k) ∨ (∃ k, s = .var k)
  | [], i, s, h => by
    simp only [Env.src.go, Option.map_eq_some_iff] at h
    obtain ⟨k, _, rfl⟩ := h
    exact .inr ⟨k, rfl⟩
  | some d :: ds, i, s, h => by
    simp only [Env.src.go] at h
    split at h
    · simp only [Option.some.injEq] at h; exact .inl ⟨i, h.symm⟩
    · exact go_form E t ds _ s h
  | none :: ds, i, s, h => by
    simp only [Env.src.go] at h
    exact go_form E t ds _ s h

theorem deaden_get (s : Nat) : ∀ (l : List V) (k : Nat), (deaden s l).getD k .dead = (match l.getD k .dead with | .lp s' off => if Nat.beq s s' then .dead else .lp s' off | v => v)
  | [], k => by simp [deaden]
  | v :: vs, 0 => by cases v <;> simp [deaden]
  | v :: vs, k + 1 => by
    have := deaden_get s vs k
    cases v <;> simpa [deaden] using this

theorem put_same {a : Act} {d : Tmp} {c : Value} (h : d < a.tmps.size) : (a.put (some d) c).tmps.getD d undef = c := by
  simp [Act.put, h]

theorem put_other {a : Act} {dst : Option Tmp} {t : Tmp} {c : Value} (h : dst ≠ some t) : (a.put dst c).tmps.getD t undef = a.tmps.getD t undef := by
  cases dst with
  | none => rfl
  | some d =>
    have hne : d ≠ t := fun e => h (by rw [e])
    simp [Act.put, Array.getD_eq_getD_getElem?, Array.getElem?_setIfInBounds, hne]

def behind (site : Site) (locs : List V) : List V := match site with | some s => deaden s locs | none => locs

theorem IN.put {ι ι' : List Blk} {β β' : Nat → Nat} {L L' : Boxes} {m m' : Mem} {w w' : World} {E : Env} {dsts : List (Option Tmp)} {locs A : List V} {a : Act} (h : IN P ι β L m w E dsts locs A a) {dst : Option Tmp} {site : Site} (hsite : dst.bind E.site = site)
    {v : V} {c : Value} (hpre : ι <+: ι') (hk : Keep site β L β' L') (hv : VR ι' β' L' v c) (hs : ∀ s, site = some s → v = .lp s 0 ∨ L'.get s = []) (hlt : ∀ d, dst = some d → d < E.nt) (hwr : WR P ι' β' L' m' w') :
    IN P ι' β' L' m' w' E (dst :: dsts) (v :: behind site locs) A (a.put dst c) := by
  refine ⟨hwr, fun t s hsrc => ?_, ?_, fun v hv => (h.ok v hv).imp id fun ⟨c, hc⟩ => ⟨c, conc_pre hpre v c hc⟩⟩
  · unfold Env.src at hsrc
    split at hsrc
    · rename_i st hst
      simp only [Option.some.injEq] at hsrc
      subst hsrc
      by_cases hd : dst = some t
      · subst hd
        have hsite' : site = some st := by rw [← hsite]; exact hst
        rw [put_same (Nat.lt_of_lt_of_le (hlt t rfl) h.nt)]
        rcases hs st hsite' with rfl | he
        · exact hv
        · intro hne; exact absurd he hne
      · rw [put_other hd]
        have hne : site ≠ some st := by
          intro e
          rw [← hsite] at e
          cases dst with
          | none => cases e
          | some d => exact hd (by rw [site_inj (t := d) (u := t) e hst])
        have := h.sl t (.box st) (by unfold Env.src; rw [hst])
        exact this.keep hpre hk fun s off e => by
          simp only [ev, V.lp.injEq] at e
          rw [← e.1]; exact hne
    · rename_i hst
      by_cases hd : dst = some t
      · subst hd
        simp only [Env.src.go, Nat.beq_refl, if_true, Option.some.injEq] at hsrc
        subst hsrc
        rw [put_same (Nat.lt_of_lt_of_le (hlt t rfl) h.nt)]
        exact hv
      · rw [put_other hd]
        have hgo : Env.src.go E t dsts 1 = some s := by
          cases dst with
          | none => simpa only [Env.src.go] using hsrc
          | some d =>
            simp only [Env.src.go] at hsrc
            rw [if_neg (by rw [beq_iff]; exact fun e => hd (by rw [e]))] at hsrc
            exact hsrc
        rw [go_shift E t dsts 0] at hgo
        simp only [Option.map_eq_some_iff] at hgo
        obtain ⟨s0, hs0, rfl⟩ := hgo
        have hold := h.sl t s0 (by unfold Env.src; rw [hst]; exact hs0)
        rcases go_form E t dsts 0 s0 hs0 with ⟨k, rfl⟩ | ⟨k, rfl⟩
        · show VR ι' β' L' ((behind site locs).getD k .dead) _
          have hold : VR ι β L (locs.getD k .dead) _ := hold
          cases site with
          | none => exact hold.keep hpre hk fun _ _ _ => by simp
          | some st =>
            show VR ι' β' L' ((deaden st locs).getD k .dead) _
            rw [deaden_get]
            cases hx : locs.getD k .dead <;> simp only <;> rw [hx] at hold <;> try (exact hold.keep hpre hk fun _ _ e => by cases e)
            rename_i s' off
            split
            · trivial
            · rename_i hne
              rw [beq_iff] at hne
              exact hold.keep hpre hk fun s off e => by
                simp only [V.lp.injEq] at e
                intro e2
                simp only [Option.some.injEq] at e2
                exact hne (by rw [e2, e.1])
        · show VR ι' β' L' (A.getD k .dead) _
          have hold : VR ι β L (A.getD k .dead) _ := hold
          refine hold.keep hpre hk fun s off e => ?_
          exfalso
          have hlt : k < A.length := by
            rcases Nat.lt_or_ge k A.length with q | q
            · exact q
            · rw [List.getD_eq_getElem?_getD, List.getElem?_eq_none q] at e; cases e
          rw [List.getD_eq_getElem?_getD, List.getElem?_eq_getElem hlt] at e
          simp only [Option.getD_some] at e
          rcases h.ok _ (List.getElem_mem hlt) with q | ⟨c, q⟩
          · rw [e] at q; cases q
          · rw [e] at q; simp [conc] at q
  · cases dst with
    | none => exact h.nt
    | some d => simpa [Act.put] using h.nt

theorem compOps_cons {E : Env} {ops : Array Oper} {o : Oper} {os : List Oper} {dsts d : List (Option Tmp)} {R : List ROp} (h : compOps P E ops (o :: os) dsts = some (R, d)) :
    ∃ g R', dstOk E o ((compOp P E dsts o).getD (.p .fail)) = true ∧ ((o.guard = none ∧ g = none) ∨ (∃ j b t s, o.guard = some (j, b) ∧ (ops[j]?).bind (·.dst) = some t ∧ E.src dsts t = some s ∧ g = some (s, b))) ∧
      compOps P E ops os (o.dst :: dsts) = some (R', d) ∧ R = ⟨g, (compOp P E dsts o).getD (.p .fail)⟩ :: R' := by
  unfold compOps at h
  simp only at h
  split at h
  · cases h
  · rename_i hok
    simp only [Bool.not_eq_true', Bool.not_eq_false] at hok
    split at h
    · rename_i hgn
      simp only [Option.bind_eq_bind, Option.bind_eq_some_iff, Option.pure_def, Option.some.injEq] at h
      obtain ⟨g, rfl, ⟨R', d'⟩, hR, h⟩ := h
      simp only [Prod.mk.injEq] at h
      obtain ⟨rfl, rfl⟩ := h
      exact ⟨none, R', hok, .inl ⟨hgn, rfl⟩, hR, rfl⟩
    · rename_i j b hgs
      simp only [Option.bind_eq_bind, Option.bind_eq_some_iff, Option.pure_def, Option.some.injEq] at h
      obtain ⟨t, ht, s, hs, g, rfl, ⟨R', d'⟩, hR, h⟩ := h
      simp only [Prod.mk.injEq] at h
      obtain ⟨rfl, rfl⟩ := h
      exact ⟨some (s, b), R', hok, .inr ⟨j, b, t, s, hgs, by rw [Option.bind_eq_some_iff]; exact ht, hs, rfl⟩, hR, rfl⟩

theorem wanted_run {ι : List Blk} {β : Nat → Nat} {L : Boxes} {E : Env} {dsts : List (Option Tmp)} {locs A : List V} {a : Act} (h : SL ι β L E dsts locs A a) {ops : Array Oper} {o : Oper} {g : Option (Src × Bool)}
    (hg : (o.guard = none ∧ g = none) ∨ (∃ j b t s, o.guard = some (j, b) ∧ (ops[j]?).bind (·.dst) = some t ∧ E.src dsts t = some s ∧ g = some (s, b))) {r : Bool} (hw : wantedG locs A g = some r) :
    Region.wanted o (yielded ops a.tmps) = r := by
  rcases hg with ⟨h1, rfl⟩ | ⟨j, b, t, s, h1, h2, h3, rfl⟩
  · simp only [wantedG, Option.some.injEq] at hw
    subst hw
    simp [Region.wanted, h1]
  · have hv := h t s h3
    simp only [wantedG] at hw
    unfold Region.wanted yielded
    rw [h1]
    simp only
    rw [h2]
    simp only [Option.bind_some]
    have hx : a.tmps.getD t undef = (a.tmps[t]?).getD undef := Array.getD_eq_getD_getElem?
    have nb : (∀ q, a.tmps.getD t undef ≠ .bool q) → ((match a.tmps[t]? with | some (.bool b) => some b | _ => none) == some b) = false := by
      intro hq
      cases ht : a.tmps[t]? with
      | none => rfl
      | some x =>
        rw [hx, ht] at hq
        cases x <;> first | rfl | exact absurd rfl (hq _)
    cases hev : ev locs A s <;> rw [hev] at hw hv <;> simp only at hw <;> try (cases hw; done)
    case bool q =>
      simp only [Option.some.injEq] at hw
      have hv' := hv.ok rfl
      simp only [conc, Option.some.injEq] at hv'
      rw [hx] at hv'
      cases ht : a.tmps[t]? with
      | none => rw [ht] at hv'; cases hv'
      | some x =>
        rw [ht] at hv'
        simp only [Option.getD_some] at hv'
        subst hv'
        simpa using hw
    all_goals
      simp only [Option.some.injEq] at hw
      subst hw
      refine nb fun q e => ?_
      have hv' := hv.ok rfl
      rw [e] at hv'
      first
      | (simp [conc] at hv'; done)
      | (obtain ⟨_, _, _, _, h5, _⟩ := conc_slc' hv'; cases h5)
      | (simp only [conc, Option.bind_eq_some_iff, Option.map_eq_some_iff] at hv'; obtain ⟨_, _, _, _, _, _, h5⟩ := hv'; cases h5)

end Go.AI

/- A region, in the order of its text. -/
namespace Go.AI
variable {P : Program}

/-- What a call hands back. -/
def CallR (P : Program) (ι : List Blk) (β : Nat → Nat) (L : Boxes) (m : Mem) (w : World) (v : V) (m' : Mem) : Ending → World → Prop
  | .returned c, w' => ∃ ι', WR P ι' β L m' w' ∧ Tr ι β L m w ι' β L m' w' ∧ conc ι' v = some c ∧ MM m m'
  | _, _ => False

def NextOK (P : Program) (nx : Next) (w : World) (R : Ending → World → Prop) : Prop :=
  (∃ g as, nx = .enter g as ∧ ∀ n, CallsIn Fence.wide n P g as w R) ∨ (∃ l f tmps asg body, nx = .round l f tmps asg body ∧ ∀ n, RoundIn Fence.wide n P l f tmps asg body w R)

def CallOK (P : Program) (call : CallF) : Prop :=
  ∀ f args m v m', call f args m = some (v, m') → ∀ ι β L w cf cargs, WR P ι β L m w → VR ι β L f cf → VRs ι β L args cargs → m.lo ≤ m.next →
    ∃ fn first cap, cf = .func fn first cap ∧ ∃ nx, (invoke (.fn fn cap) (first ++ cargs.toArray)).run P w = .ok nx w ∧ NextOK P nx w (CallR P ι β L m w v m') ∧ (∀ g, fn = .func g → ∃ g' as, nx = .enter g' as)

theorem method_run {name : String} {t : TypeId} {f : FuncId} (h : findT t (invokeTable P name) = some f) (v : Value) (w : World) : (method (P.types.size + Made.depth) t v name).run P w = .ok (f, v) w := by
  have hm : (t, f) ∈ invokeTable P name := by
    have : ∀ (l : List (TypeId × FuncId)), findT t l = some f → (t, f) ∈ l := by
      intro l
      induction l with
      | nil => intro h; cases h
      | cons x l ih =>
        obtain ⟨u, g⟩ := x
        intro h
        simp only [findT] at h
        split at h
        · rename_i he
          rw [beq_iff] at he
          simp only [Option.some.injEq] at h
          subst he; subst h
          simp
        · exact List.mem_cons_of_mem _ (ih h)
    exact this _ h
  unfold invokeTable at hm
  rw [List.mem_filterMap] at hm
  obtain ⟨t', _, ht⟩ := hm
  unfold invokeAt at ht
  split at ht <;> try (cases ht; done)
  rename_i i hi
  split at ht <;> try (cases ht; done)
  rename_i m hfind
  split at ht <;> try (cases ht; done)
  rename_i _ _ f' ptr hpath hfunc
  have hfuel : P.types.size + Made.depth = (P.types.size + 99) + 1 := rfl
  rw [hfuel]
  have key : t' = t → f' = f → (receiverAt t (.val v) ptr (if m.path.isEmpty then some ((name.splitOn ".").getLastD name) else none)).run P w = .ok v w → (method ((P.types.size + 99) + 1) t v name).run P w = .ok (f, v) w := by
    intro h1 h2 h3
    subst h1; subst h2
    unfold method
    simp only [Sem.run_bind, typeInfo_run hi, Result.andThen, hfind, hpath, follow, Sem.run_pure, hfunc, h3]
  split at ht
  · rename_i e hu
    split at ht
    · rename_i hp
      simp only [Option.some.injEq, Prod.mk.injEq] at ht
      obtain ⟨rfl, rfl⟩ := ht
      refine key rfl rfl ?_
      unfold receiverAt
      rw [Sem.run_bind, run_underlying hu]
      simp only [Result.andThen, hp]
      rfl
    · cases ht
  · rename_i d hnp hu
    split at ht
    · cases ht
    · rename_i hp
      simp only [Option.some.injEq, Prod.mk.injEq] at ht
      obtain ⟨rfl, rfl⟩ := ht
      refine key rfl rfl ?_
      unfold receiverAt
      rw [Sem.run_bind, run_underlying hu]
      simp only [Bool.not_eq_true] at hp
      simp only [Result.andThen, hp]
      cases d <;> first | rfl | exact absurd hu (hnp _)
  · cases ht

theorem builtin_no_c {E : Env} {dsts : List (Option Tmp)} {b : Builtin} {args : List Operand} {ts : List TypeId} {q : COp} (hc : compBuiltin P E dsts b args ts = some (.c q)) : False := by
  unfold compBuiltin at hc
  repeat (first | (cases hc; done) | (obtain ⟨_, _, hc⟩ := hc) | (split at hc) | simp only [Option.map_eq_some_iff, Option.bind_eq_bind, Option.bind_eq_some_iff, Option.pure_def, Option.some.injEq, reduceCtorEq, and_false, exists_false, exists_const] at hc)

/-- A call, as an operation of a region. -/
theorem callOp_sound {call : CallF} (hcall : CallOK P call) {ι : List Blk} {β : Nat → Nat} {L : Boxes} {m : Mem} {w : World} {E : Env} {dsts : List (Option Tmp)} {locs A : List V} {a : Act} (h : IN P ι β L m w E dsts locs A a) (hle : m.lo ≤ m.next)
    {o : Oper} {q : COp} (hc : compOp P E dsts o = some (.c q)) {K : V → Mem → Ans} {res : V × Mem} (hx : callOp call locs A m q K = some res) :
    ∃ v m', K v m' = some res ∧ ∃ nx, (execOp a.eval o).run P w = .ok nx w ∧ NextOK P nx w (CallR P ι β L m w v m') := by
  obtain ⟨dst, op, ty, pos, after, guard⟩ := o
  cases op <;> simp only [compOp] at hc
  case makeMap t r =>
    cases r with
    | some r => simp only [] at hc; cases hc
    | none => simp only [Option.some.injEq, reduceCtorEq] at hc
  case call c =>
    obtain ⟨callee, args, argTypes⟩ := c
    cases callee with
    | builtin b =>
      exact (builtin_no_c hc).elim
    | value f =>
      simp only [Option.bind_eq_bind, Option.bind_eq_some_iff, Option.pure_def, Option.some.injEq, RK.c.injEq] at hc
      obtain ⟨sf, hf, ss, hss, rfl⟩ := hc
      simp only [callOp] at hx
      split at hx
      · rename_i v m' hcl
        obtain ⟨fn, first, cap, e1, nx, e2, e3, _⟩ := hcall _ _ _ _ _ hcl ι β L w _ _ h.wr (opd_VR h.cx hf) (opds_VR h.cx hss) hle
        refine ⟨v, m', hx, nx, ?_, e3⟩
        unfold execOp
        simp only
        unfold resolve
        simp only [e1, Deferred.ofValue, Sem.run_bind, Sem.run_pure, Result.andThen]
        rw [← e2]
        congr 3
        apply Array.ext'
        simp
      · cases hx
    | invoke r name =>
      simp only [Option.bind_eq_bind, Option.bind_eq_some_iff, Option.pure_def, Option.some.injEq, RK.c.injEq] at hc
      obtain ⟨sr, hr, ss, hss, rfl⟩ := hc
      simp only [callOp] at hx
      split at hx
      · rename_i t u hev
        split at hx
        · rename_i f hft
          split at hx
          · rename_i v m' hcl
            have hrv := (opd_VR h.cx hr).ok (by rw [hev]; rfl)
            rw [hev] at hrv
            simp only [conc, Option.map_eq_some_iff] at hrv
            obtain ⟨cu, hcu, hcr⟩ := hrv
            obtain ⟨fn, first, cap, e1, nx, e2, e3, _⟩ := hcall _ _ _ _ _ hcl ι β L w (.func (.func f) #[] #[]) (cu :: (args.toList.map a.eval)) h.wr (VR.of (by simp [conc, concFn, concL])) ⟨VR.of hcu, opds_VR h.cx hss⟩ hle
            simp only [Value.func.injEq] at e1
            obtain ⟨rfl, rfl, rfl⟩ := e1
            refine ⟨v, m', hx, nx, ?_, e3⟩
            unfold execOp
            simp only
            unfold resolve
            simp only [Sem.run_bind, Sem.run_pure, Result.andThen, ← hcr]
            unfold invoke callMethod
            unfold invoke at e2
            simp only [Sem.run_bind, run_program, Result.andThen] at e2 ⊢
            have hargs : (#[Value.iface t cu] ++ args.map a.eval)[0]? = some (.iface t cu) := by
              rw [Array.getElem?_append_left (by simp)]; rfl
            rw [hargs]
            simp only [Sem.run_bind, run_program, Result.andThen, method_run hft]
            rw [← e2]
            congr 2
            apply Array.ext'
            simp
            exact List.take_of_length_le (by simp)
          · cases hx
        · cases hx
      · cases hx
  all_goals (exfalso; repeat (first | (cases hc; done) | (exact builtin_no_c hc) | (obtain ⟨_, _, hc⟩ := hc) | (split at hc) | simp only [Option.map_eq_some_iff, Option.bind_eq_bind, Option.bind_eq_some_iff, Option.pure_def, Option.some.injEq, reduceCtorEq, and_false, exists_false, exists_const] at hc))

end Go.AI

/- A region, in the order of its text. -/
namespace Go.AI
variable {P : Program}

theorem fw_depth (r : Option Nat) : (FW r).depth = none := rfl

theorem eff_lp {locs A : List V} {L L' : Boxes} {m m' : Mem} {q : EOp} {v : V} (h : effOp locs A L m q = some (v, L', m')) {s : Nat} (hs : siteOf q = some s) : v = .lp s 0 := by
  cases q <;> simp only [siteOf] at hs <;> try (cases hs; done)
  · subst hs
    simp only [effOp, newVar, Option.some.injEq, Prod.mk.injEq] at h
    exact h.1.symm
  · subst hs
    simp only [effOp, newVar] at h
    split at h
    · simp only [Option.some.injEq, Prod.mk.injEq] at h
      exact h.1.symm
    · cases h

theorem dstOk_spec {E : Env} {o : Oper} {k : RK} (h : dstOk E o k = true) : (∀ d, o.dst = some d → d < E.nt) ∧ o.dst.bind E.site = siteK k := by
  unfold dstOk at h
  simp only [Bool.and_eq_true] at h
  obtain ⟨h1, h2⟩ := h
  refine ⟨fun d hd => ?_, ?_⟩
  · rw [hd] at h1; exact blt_iff.1 h1
  · split at h2
    · rename_i e1 e2; rw [e1, e2]
    · rename_i e1 e2; rw [beq_iff] at h2; rw [e1, e2, h2]
    · cases h2

theorem not_defer {E : Env} {dsts : List (Option Tmp)} {o : Oper} {k : RK} (h : compOp P E dsts o = some k) : ∀ c, o.op ≠ .defer c := by
  intro c hc
  unfold compOp at h
  rw [hc] at h
  cases h

theorem Keep.drop {β : Nat → Nat} {L : Boxes} {s : Nat} : Keep (some s) β L β (L.put s []) := by
  intro s' hs
  have hne : s' ≠ s := fun e => hs (by rw [e])
  rw [Boxes.get_put, if_neg hne]
  exact ⟨rfl, Iff.rfl⟩

theorem execOps_sound {call : CallF} (hcall : CallOK P call) {ops : Array Oper} {r : Option Nat} {n : Nat} {E : Env} {A : List V} {res : V × Mem} {Q : Exit → Act → World → Prop} :
    ∀ (os : List Oper) (i : Nat), ops.toList.drop i = os → ∀ (dsts : List (Option Tmp)) (R : List ROp) (d : List (Option Tmp)), compOps P E ops os dsts = some (R, d) →
      ∀ (locs : List V) (L : Boxes) (m : Mem) (K : List V → Boxes → Mem → Ans), execOps call A R locs L m K = some res →
      ∀ (ι : List Blk) (β : Nat → Nat) (a : Act) (w : World), IN P ι β L m w E dsts locs A a → m.lo ≤ m.next →
      (∀ locs' L' m' ι' β' a' w', K locs' L' m' = some res → IN P ι' β' L' m' w' E d locs' A a' → Tr ι β L m w ι' β' L' m' w' → MM m m' → a'.defers = a.defers → Q .normal a' w') →
      wpOpsIn (FW r) n P ops Q (List.range' i os.length) a w := by
  intro os
  induction os with
  | nil =>
    intro i hi dsts R d hc locs L m K hx ι β a w hin hle hQ
    simp only [compOps, Option.some.injEq, Prod.mk.injEq] at hc
    obtain ⟨rfl, rfl⟩ := hc
    simp only [execOps] at hx
    exact hQ _ _ _ _ _ _ _ hx hin (Tr.refl _ _ _ _ _) (MM.refl _) rfl
  | cons o os ih =>
    intro i hi dsts R d hc locs L m K hx ι β a w hin hle hQ
    obtain ⟨g, R', hok, hg, hR, rfl⟩ := compOps_cons hc
    obtain ⟨hd1, hd2⟩ := dstOk_spec hok
    have hoi : ops[i]? = some o := by
      have : (ops.toList.drop i)[0]? = some o := by rw [hi]; rfl
      simpa using this
    have hi' : ops.toList.drop (i + 1) = os := by
      have : (ops.toList.drop i).drop 1 = os := by rw [hi]; rfl
      rw [List.drop_drop] at this
      exact this
    -- what comes behind the operation
    have next : ∀ {v : V} {c : Value} {ι' : List Blk} {β' : Nat → Nat} {L' : Boxes} {m' : Mem} {w' : World}, execOps call A R' (v :: behind (siteK ((compOp P E dsts o).getD (.p .fail))) locs) L' m' K = some res →
        WR P ι' β' L' m' w' → Tr ι β L m w ι' β' L' m' w' → MM m m' → Keep (siteK ((compOp P E dsts o).getD (.p .fail))) β L β' L' → VR ι' β' L' v c → (∀ s, siteK ((compOp P E dsts o).getD (.p .fail)) = some s → v = .lp s 0 ∨ L'.get s = []) →
        wpOpsIn (FW r) n P ops Q (List.range' (i + 1) os.length) (a.put o.dst c) w' := by
      intro v c ι' β' L' m' w' hx' hwr htr hmm hk hv hs
      have hin' := hin.put (dst := o.dst) hd2 htr.pre hk hv hs hd1 hwr
      refine ih (i + 1) hi' (o.dst :: dsts) R' d hR _ L' m' K hx' ι' β' _ w' hin' (by have := hmm.lo; have := hmm.next; omega) ?_
      intro locs2 L2 m2 ι2 β2 a2 w2 hK hin2 htr2 hmm2 hdf
      refine hQ _ _ _ _ _ _ _ hK hin2 (htr.trans htr2) (hmm.trans hmm2) ?_
      rw [hdf]
      cases o.dst <;> rfl
    simp only [List.length_cons, List.range'_succ]
    unfold wpOpsIn
    rw [hoi]
    simp only
    unfold execOps at hx
    simp only at hx
    cases hgw : wantedG locs A g with
    | none => rw [hgw] at hx; cases hx
    | some b =>
      rw [hgw] at hx
      have hw := wanted_run hin.sl hg hgw
      cases b with
      | false =>
        rw [hw]
        simp only [Bool.false_eq_true, if_false]
        refine ⟨fun _ _ => trivial, ?_⟩
        simp only at hx
        cases hk : (compOp P E dsts o).getD (.p .fail) with
        | p q =>
          rw [hk] at hx
          exact next (by rw [hk]; exact hx) hin.wr (Tr.refl _ _ _ _ _) (MM.refl _) (Keep.refl _ _ _) VR.tup0 (fun s hs => by rw [hk] at hs; cases hs)
        | c q =>
          rw [hk] at hx
          exact next (by rw [hk]; exact hx) hin.wr (Tr.refl _ _ _ _ _) (MM.refl _) (Keep.refl _ _ _) VR.tup0 (fun s hs => by rw [hk] at hs; cases hs)
        | e q =>
          rw [hk] at hx
          cases hs0 : siteOf q with
          | none =>
            simp only [hs0] at hx
            exact next (by rw [hk]; show execOps call A R' (.tup [] :: behind (siteOf q) locs) L m K = some res; rw [hs0]; exact hx) hin.wr (Tr.refl _ _ _ _ _) (MM.refl _) (Keep.refl _ _ _) VR.tup0 (fun s hs => by
              rw [hk] at hs
              have hs : siteOf q = some s := hs
              rw [hs0] at hs; cases hs)
          | some s =>
            simp only [hs0] at hx
            obtain ⟨q1, q2⟩ := hin.wr.dropBox s
            refine next (v := .tup []) (L' := L.put s []) (by rw [hk]; show execOps call A R' (.tup [] :: behind (siteOf q) locs) (L.put s []) m K = some res; rw [hs0]; exact hx) q1 q2 (MM.refl _) ?_ VR.tup0 (fun s' hs => ?_)
            · rw [hk]; show Keep (siteOf q) _ _ _ _; rw [hs0]; exact Keep.drop
            · rw [hk] at hs
              have hs : siteOf q = some s' := hs
              rw [hs0] at hs
              simp only [Option.some.injEq] at hs
              subst hs
              right
              rw [Boxes.get_put, if_pos rfl]
      | true =>
        rw [hw]
        simp only [if_true]
        simp only at hx
        cases hk0 : compOp P E dsts o with
        | none =>
          rw [hk0] at hx
          simp only [Option.getD_none, pureOp] at hx
          cases hx
        | some k =>
          rw [hk0] at hx next
          simp only [Option.getD_some] at hx next
          refine ⟨fun _ _ => trivial, ?_⟩
          rw [Oper.semAt_eq _ _ _ (not_defer hk0)]
          cases k with
          | p q =>
            simp only at hx
            split at hx
            · rename_i v hp
              obtain ⟨c, hv, hrun⟩ := pure_sound hk0 hin.cx hp hin.wr.toRD
              rw [hrun w hin.wr.toRD]
              exact next hx hin.wr (Tr.refl _ _ _ _ _) (MM.refl _) (Keep.refl _ _ _) hv (fun s hs => by cases hs)
            · cases hx
          | e q =>
            simp only at hx
            split at hx
            · rename_i v L' m' he
              obtain ⟨ι', β', w', h1, h2, h3, h4⟩ := eff_sound hin.wr hin.cx hk0 he
              have hmm := effOp_mm hle he
              have hxx : execOps call A R' (v :: behind (siteOf q) locs) L' m' K = some res := hx
              rcases h4 with ⟨c, hv, hrun⟩ | ⟨rfl, hrun⟩
              · rw [hrun]
                exact next hxx h1 h2 hmm h3 hv (fun s hs => .inl (eff_lp he hs))
              · rw [hrun]
                exact next hxx h1 h2 hmm h3 VR.tup0 (fun s hs => .inl (eff_lp he hs))
            · cases hx
          | c q =>
            simp only at hx
            obtain ⟨v, m', hK, nx, hrun, hnx⟩ := callOp_sound hcall hin hle hk0 hx
            rw [hrun]
            have hend : ∀ (e : Ending) (w' : World), CallR P ι β L m w v m' e w' → (match e with
              | .returned v => fun w'' => wpOpsIn (FW r) n P ops Q (List.range' (i + 1) os.length) (a.put o.dst v) w''
              | .panicked chain => fun w'' => Q (.panic chain) a w''
              | .outgrown => fun _ => LetsOut Q) w' := by
              intro e w' hr
              cases e with
              | returned c =>
                obtain ⟨ι', h1, h2, h3, h4⟩ := hr
                exact next hK h1 h2 h4 (Keep.refl _ _ _) (VR.of h3) (fun s hs => by cases hs)
              | panicked chain => exact hr.elim
              | outgrown => exact hr.elim
            rcases hnx with ⟨f, as, rfl, hcl⟩ | ⟨l, f, tmps, asg, body, rfl, hcl⟩
            · refine And.intro (fun h => absurd h (by simp [fw_depth])) ?_
              exact CallsIn.mono (hcl (n - 1)) fun e w' hr => by
                have := hend e w' hr
                cases e <;> exact this
            · refine And.intro (fun h => absurd h (by simp [fw_depth])) ?_
              exact RoundIn.mono (hcl (n - 1)) fun e w' hr => by
                have := hend e w' hr
                cases e <;> exact this

end Go.AI

/- The variables behind a region. -/
namespace Go.AI
variable {P : Program}

/-- The frame of an activation. -/
structure FR (ι : List Blk) (β : Nat → Nat) (L : Boxes) (E : Env) (A : List V) (tmps : Array Value) : Prop extends FRv ι E A tmps where
  bx : ∀ t s, E.site t = some s → VR ι β L (.lp s 0) (tmps.getD t undef)

section
variable {ι : List Blk} {β : Nat → Nat} {L : Boxes} {m : Mem} {w : World} {E : Env} {d : List (Option Tmp)} {locs A : List V} {a : Act}

theorem IN.start (hw : WR P ι β L m w) (hf : FR ι β L E A a.tmps) : IN P ι β L m w E [] [] A a := by
  refine ⟨hw, fun t s hs => ?_, hf.nt, hf.ok⟩
  unfold Env.src at hs
  split at hs
  · rename_i st hst
    simp only [Option.some.injEq] at hs; subst hs
    exact hf.bx t st hst
  · rename_i hst
    simp only [Env.src.go, Option.map_eq_some_iff] at hs
    obtain ⟨i, hi, rfl⟩ := hs
    rcases hf.var t i hst hi with h | h
    · show VR ι β L (A.getD i .dead) _
      rw [h]; trivial
    · exact VR.of h

theorem noLp_VA {v : V} {c : Value} (h : VR ι β L v c) (hn : v.noLp = true) : VA ι v c := by
  cases v <;> first | exact .inr (h.ok rfl) | skip
  · simp [V.noLp] at hn
  · exact .inl rfl

theorem applyUpd_spec : ∀ (ts : List Nat) (i0 : Nat) (A' A2 : List V), applyUpd locs (compUpd E d ts i0) A A' = some A2 →
    A2.length = A'.length ∧ (∀ i, i < i0 → A2.getD i .dead = A'.getD i .dead) ∧
    (∀ j t, ts[j]? = some t → i0 + j < A'.length →
      (∀ k, E.src d t = some (.loc k) → A2.getD (i0 + j) .dead = locs.getD k .dead ∧ (locs.getD k .dead).noLp = true) ∧
      ((∀ k, E.src d t ≠ some (.loc k)) → A2.getD (i0 + j) .dead = A'.getD (i0 + j) .dead)) ∧
    (∀ v ∈ A2, v ∈ A' ∨ ∃ t k, E.src d t = some (.loc k) ∧ v = locs.getD k .dead ∧ v.noLp = true)
  | [], i0, A', A2, h => by
    simp only [compUpd, applyUpd, Option.some.injEq] at h
    subst h
    exact ⟨rfl, fun _ _ => rfl, fun j t ht => by simp at ht, fun v hv => .inl hv⟩
  | t0 :: ts, i0, A', A2, h => by
    simp only [compUpd] at h
    split at h
    · rename_i k hk
      simp only [applyUpd] at h
      split at h
      · rename_i hn
        have hn : (locs.getD k .dead).noLp = true := hn
        obtain ⟨h1, h2, h3, h4⟩ := applyUpd_spec ts (i0 + 1) _ A2 h
        simp only [List.length_set] at h1 h3
        refine ⟨h1, fun i hi => ?_, fun j t ht hj => ?_, fun v hv => ?_⟩
        · rw [h2 i (by omega), List.getD_eq_getElem?_getD, List.getElem?_set_ne (by omega), ← List.getD_eq_getElem?_getD]
        · cases j with
          | zero =>
            simp only [List.getElem?_cons_zero, Option.some.injEq] at ht
            subst ht
            refine ⟨fun k' hk' => ?_, fun hne => absurd hk (hne k)⟩
            rw [hk] at hk'
            simp only [Option.some.injEq, Src.loc.injEq] at hk'
            subst hk'
            refine ⟨?_, hn⟩
            rw [h2 (i0 + 0) (by omega), List.getD_eq_getElem?_getD]
            simp only [Nat.add_zero] at hj ⊢
            rw [List.getElem?_set_self hj]
            rfl
          | succ j =>
            have := h3 j t (by simpa using ht) (by omega)
            rw [show i0 + (j + 1) = i0 + 1 + j by omega]
            refine ⟨this.1, fun hne => ?_⟩
            rw [this.2 hne, List.getD_eq_getElem?_getD, List.getElem?_set_ne (by omega), ← List.getD_eq_getElem?_getD]
        · rcases h4 v hv with q | q
          · rcases List.mem_or_eq_of_mem_set q with q | q
            · exact .inl q
            · exact .inr ⟨t0, k, hk, q, by rw [q]; exact hn⟩
          · exact .inr q
      · cases h
    · rename_i hk
      obtain ⟨h1, h2, h3, h4⟩ := applyUpd_spec ts (i0 + 1) A' A2 h
      refine ⟨h1, fun i hi => h2 i (by omega), fun j t ht hj => ?_, h4⟩
      cases j with
      | zero =>
        simp only [List.getElem?_cons_zero, Option.some.injEq] at ht
        subst ht
        exact ⟨fun k hk' => absurd hk' (hk k), fun _ => h2 (i0 + 0) (by omega)⟩
      | succ j =>
        rw [show i0 + (j + 1) = i0 + 1 + j by omega]
        exact h3 j t (by simpa using ht) (by omega)

theorem IN.done (h : IN P ι β L m w E d locs A a) (hlen : A.length = E.vars.length) {A2 : List V} (hu : applyUpd locs (compUpd E d E.vars 0) A A = some A2) : FR ι β L E A2 a.tmps := by
  obtain ⟨h1, _, h3, h4⟩ := applyUpd_spec E.vars 0 A A2 hu
  refine { nt := h.nt, len := by rw [h1, hlen], var := fun t i ht hi => ?_, ok := fun v hv => ?_, bx := fun t s hs => h.sl t (.box s) (by unfold Env.src; rw [hs]) }
  · obtain ⟨_, hget⟩ := idxOf_get hi
    simp only [Nat.sub_zero] at hget
    have hlt : i < A.length := by rw [hlen]; exact (List.getElem?_eq_some_iff.1 hget).1
    have h5 := h3 i t hget (by omega)
    simp only [Nat.zero_add] at h5
    have hsrc : ∃ s, E.src d t = some s ∧ ((∃ k, s = .loc k) ∨ s = .var i) := by
      have : ∀ (ds : List (Option Tmp)) (n : Nat), ∃ s, Env.src.go E t ds n = some s ∧ ((∃ k, s = .loc k) ∨ s = .var i) := by
        intro ds
        induction ds with
        | nil => intro n; exact ⟨.var i, by simp [Env.src.go, hi], .inr rfl⟩
        | cons x ds ih =>
          intro n
          cases x with
          | none => simp only [Env.src.go]; exact ih _
          | some y =>
            simp only [Env.src.go]
            split
            · exact ⟨_, rfl, .inl ⟨n, rfl⟩⟩
            · exact ih _
      obtain ⟨s, q1, q2⟩ := this d 0
      exact ⟨s, by unfold Env.src; rw [ht]; exact q1, q2⟩
    obtain ⟨s, hs, hk⟩ := hsrc
    have hv := h.sl t s hs
    rcases hk with ⟨k, rfl⟩ | rfl
    · obtain ⟨e, hn⟩ := h5.1 k hs
      rw [e]
      exact noLp_VA hv hn
    · rw [h5.2 (fun k e => by rw [hs] at e; cases e)]
      have hv : VR ι β L (A.getD i .dead) _ := hv
      have hmem : A.getD i .dead ∈ A := by
        rw [List.getD_eq_getElem?_getD, List.getElem?_eq_getElem hlt]
        exact List.getElem_mem hlt
      rcases h.ok _ hmem with q | ⟨c, q⟩
      · exact .inl q
      · exact .inr (hv.ok (ok_of_conc q))
  · rcases h4 v hv with q | ⟨t, k, hs, rfl, hn⟩
    · exact h.ok v q
    · have hv := h.sl t _ hs
      rcases noLp_VA hv hn with q | q
      · exact .inl q
      · exact .inr ⟨_, q⟩

end

theorem stepR_scope {b : Frame} {a : Act} {k : List Item} {cs : List Frame} {w : World} {c : Code} : step P (lone (b.atR a (.code (.scope c) :: k)) cs w) = .next (lone (b.atR a (.code c :: .inScope c :: k)) cs w) :=
  step_lone_go (by simp [stepG, stepG.exec, Frame.atR, GStep.bare_after])
theorem stepR_inScope {b : Frame} {a : Act} {k : List Item} {cs : List Frame} {w : World} {c : Code} : step P (lone (b.atR a (.inScope c :: k)) cs w) = .next (lone (b.atR a k) cs w) :=
  step_lone_go (by simp [stepG, stepG.exec, Frame.atR, GStep.bare_after])

end Go.AI

/- A run of code. -/
namespace Go.AI
variable {P : Program}

theorem wpIn_scope {F : Fence} {n : Nat} {Q : Exit → Act → World → Prop} {a : Act} {w : World} {c : Code} (h : c.wpIn F n P (Exit.noGoto Q) a w) : (Code.scope c).wpIn F n P Q a w := by
  intro b k cs hro hb hr
  have h0 : (lone (b.atR a (.code (.scope c) :: k)) cs w).fenced P F := fenced_calm hb hr rfl
  obtain ⟨e, a₁, w₁, hq, harr⟩ := h b (.inScope c :: k) cs hro hb hr
  cases e with
  | normal => exact ⟨.normal, a₁, w₁, hq, .head h0 stepR_scope (StepsIn.trans harr (.one (fenced_calm hb hr rfl) stepR_inScope))⟩
  | exit id =>
    have hx : exitTo id (.inScope c :: k) = exitTo id k := by simp [exitTo]
    exact ⟨.exit id, a₁, w₁, hq, fun k' hk => .head h0 stepR_scope (harr.1 k' (by rw [hx]; exact hk)),
      fun hr' hk => let ⟨k₁, h1, h2⟩ := harr.2 hr' (by rw [hx]; exact hk); ⟨k₁, h1, .head h0 stepR_scope h2⟩⟩
  | goto l => exact hq.elim
  | ret => exact ⟨.ret, a₁, w₁, hq, .of_steps (.one h0 stepR_scope) harr⟩
  | panic ch => exact ⟨.panic ch, a₁, w₁, hq, .of_steps (.one h0 stepR_scope) harr⟩
  | outgrown => exact ⟨.outgrown, a₁, w₁, hq, .of_steps (.one h0 stepR_scope) harr⟩

/-- The marks among the deferred calls. -/
structure MK (ι : List Blk) (β : Nat → Nat) (L : Boxes) (m : Mem) (base : Nat) (w : World) (ds : List Deferred) : Prop where
  all : ∀ d ∈ ds, ∃ r, d = { target := .collected r, args := #[] } ∧ base ≤ r ∧ w.heap[r]? = some (.deferred (some [])) ∧ ∀ k, ¬ owns ι β L m k r
  nd : ds.Pairwise (· ≠ ·)

theorem MK.tr {ι ι' : List Blk} {β β' : Nat → Nat} {L L' : Boxes} {m m' : Mem} {base : Nat} {w w' : World} {ds : List Deferred} (h : MK ι β L m base w ds) (t : Tr ι β L m w ι' β' L' m' w') : MK ι' β' L' m' base w' ds := by
  refine ⟨fun d hd => ?_, h.nd⟩
  obtain ⟨r, h1, h2, h3, h4⟩ := h.all d hd
  have hlt := lt_of_get h3
  refine ⟨r, h1, h2, by rw [t.same r hlt h4]; exact h3, fun k hk => ?_⟩
  rcases t.own k r hk with ⟨k0, hk0⟩ | q
  · exact h4 k0 hk0
  · omega

/-- The state of an activation. -/
structure SR (P : Program) (ι : List Blk) (β : Nat → Nat) (E : Env) (s : St) (a : Act) (w : World) (r : Option Nat) (base : Nat) : Prop where
  wr : WR P ι β s.L s.m w
  fr : FR ι β s.L E s.A a.tmps
  le : s.m.lo ≤ s.m.next
  mks : MK ι β s.L s.m base w a.defers
  bs : base ≤ w.heap.size
  rd : ∀ l, r = some l → ∃ x, w.heap[l]? = some (Obj.loop x)

def exOf : Ex → Exit
  | .normal => .normal
  | .exit i => .exit i
  | .ret => .ret

/-- What a run of the small code says of the code. -/
def Sound (P : Program) (call : CallF) (n : Nat) (E : Env) (c : Code) (ic : IC) : Prop :=
  ∀ (r : Option Nat) (base nn : Nat) (s : St) (K : Ex → St → Ans) (res : V × Mem), exec call n ic s K = some res → ∀ (ι : List Blk) (β : Nat → Nat) (a : Act) (w : World), SR P ι β E s a w r base →
    ∀ (Q : Exit → Act → World → Prop), (∀ e s' ι' β' a' w', K e s' = some res → SR P ι' β' E s' a' w' r base → Tr ι β s.L s.m w ι' β' s'.L s'.m w' → MM s.m s'.m → Q (exOf e) a' w') →
      c.wpIn (FW r) nn P Q a w

theorem region_sound {call : CallF} (hcall : CallOK P call) {n : Nat} {E : Env} {id : Nat} {ops : Array Oper} {R : List ROp} {d : List (Option Tmp)} (hc : compOps P E ops ops.toList [] = some (R, d)) :
    Sound P call n E (.region id ops false) (.region R (compUpd E d E.vars 0)) := by
  intro r base nn s K res hx ι β a w hst Q hQ
  simp only [exec] at hx
  refine wpIn_region ?_
  have := execOps_sound (Q := Q) (r := r) (n := nn) hcall ops.toList 0 (by simp) [] R d hc [] s.L s.m _ hx ι β a w (IN.start hst.wr hst.fr) hst.le ?_
  · rw [List.range_eq_range']
    simpa using this
  · intro locs' L' m' ι' β' a' w' hK hin htr hmm hdf
    split at hK
    · rename_i A2 hu
      have hfr := hin.done hst.fr.len hu
      refine hQ .normal ⟨A2, L', m'⟩ ι' β' a' w' hK ⟨hin.wr, hfr, by have := hmm.lo; have := hmm.next; have := hst.le; show m'.lo ≤ m'.next; omega, by rw [hdf]; exact hst.mks.tr htr, Nat.le_trans hst.bs htr.size, fun l hl => ?_⟩ htr hmm
      obtain ⟨x, hx⟩ := hst.rd l hl
      exact htr.loops l x hx
    · cases hK

theorem seq_sound {call : CallF} {n : Nat} {E : Env} {x y : Code} {a b : IC} (h1 : Sound P call n E x a) (h2 : Sound P call n E y b) : Sound P call n E (.seq x y) (.seq a b) := by
  intro r base nn s K res hx ι β act w hst Q hQ
  simp only [exec] at hx
  refine wpIn_seq (h1 r base nn s _ res hx ι β act w hst _ ?_)
  intro e s' ι' β' a' w' hK hst' htr hmm
  cases e with
  | normal =>
    exact h2 r base nn s' K res hK ι' β' a' w' hst' Q fun e2 s2 ι2 β2 a2 w2 hK2 hst2 htr2 hmm2 => hQ e2 s2 ι2 β2 a2 w2 hK2 hst2 (htr.trans htr2) (hmm.trans hmm2)
  | exit i => exact hQ (.exit i) s' ι' β' a' w' hK hst' htr hmm
  | ret => exact hQ .ret s' ι' β' a' w' hK hst' htr hmm

theorem eval_of_SR {ι : List Blk} {β : Nat → Nat} {E : Env} {s : St} {a : Act} {w : World} {r : Option Nat} {base : Nat} (h : SR P ι β E s a w r base) {x : Operand} {src : Src} (hs : opd P E [] x = some src) : VR ι β s.L (ev [] s.A src) (a.eval x) :=
  opd_VR (IN.start h.wr h.fr).cx hs

theorem cond_sound {call : CallF} {n : Nat} {E : Env} {c : Operand} {src : Src} {x y : Code} {a b : IC} (hc : opd P E [] c = some src) (h1 : Sound P call n E x a) (h2 : Sound P call n E y b) : Sound P call n E (.cond c x y) (.cond src a b) := by
  intro r base nn s K res hx ι β act w hst Q hQ
  have hv := eval_of_SR hst hc
  simp only [exec] at hx
  split at hx
  · rename_i he
    rw [he] at hv
    have hv := hv.ok rfl
    simp only [conc, Option.some.injEq] at hv
    exact wpIn_cond_true hv.symm (h1 r base nn s K res hx ι β act w hst Q hQ)
  · rename_i he
    rw [he] at hv
    have hv := hv.ok rfl
    simp only [conc, Option.some.injEq] at hv
    exact wpIn_cond_false hv.symm (h2 r base nn s K res hx ι β act w hst Q hQ)
  · cases hx

theorem block_sound {call : CallF} {n : Nat} {E : Env} {id : Nat} {x : Code} {a : IC} (h1 : Sound P call n E x a) : Sound P call n E (.block id x) (.block id a) := by
  intro r base nn s K res hx ι β act w hst Q hQ
  simp only [exec] at hx
  refine wpIn_block (h1 r base nn s _ res hx ι β act w hst _ ?_)
  intro e s' ι' β' a' w' hK hst' htr hmm
  cases e with
  | normal => exact hQ .normal s' ι' β' a' w' hK hst' htr hmm
  | exit i =>
    simp only at hK
    show Exit.inBlock id Q (.exit i) a' w'
    simp only [Exit.inBlock]
    split at hK
    · rename_i hi
      rw [beq_iff] at hi
      rw [if_pos hi]
      exact hQ .normal s' ι' β' a' w' hK hst' htr hmm
    · rename_i hi
      rw [beq_iff] at hi
      rw [if_neg hi]
      exact hQ (.exit i) s' ι' β' a' w' hK hst' htr hmm
  | ret => exact hQ .ret s' ι' β' a' w' hK hst' htr hmm

theorem loop_sound {call : CallF} {n : Nat} {E : Env} {x : Code} {a : IC} (h1 : Sound P call n E x a) : Sound P call n E (.loop x) (.loop a) := by
  intro r base nn s K res hx ι β act w hst Q hQ
  simp only [exec] at hx
  refine wpIn_loop_rounds n ?_
  have key : ∀ (j : Nat) (s : St), iter j (exec call n a) s K = some res → ∀ ι β act w, SR P ι β E s act w r base →
      (∀ e s' ι' β' a' w', K e s' = some res → SR P ι' β' E s' a' w' r base → Tr ι β s.L s.m w ι' β' s'.L s'.m w' → MM s.m s'.m → Q (exOf e) a' w') → Code.roundsIn (FW r) nn P x Q j act w := by
    intro j
    induction j with
    | zero => intro s hx; cases hx
    | succ j ih =>
      intro s hx ι β act w hst hQ
      rw [roundsIn_succ]
      simp only [iter] at hx
      refine h1 r base nn s _ res hx ι β act w hst _ ?_
      intro e s' ι' β' a' w' hK hst' htr hmm
      cases e with
      | normal => exact ih s' hK ι' β' a' w' hst' fun e2 s2 ι2 β2 a2 w2 hK2 hst2 htr2 hmm2 => hQ e2 s2 ι2 β2 a2 w2 hK2 hst2 (htr.trans htr2) (hmm.trans hmm2)
      | exit i => exact hQ (.exit i) s' ι' β' a' w' hK hst' htr hmm
      | ret => exact hQ .ret s' ι' β' a' w' hK hst' htr hmm
  exact key n s hx ι β act w hst hQ

end Go.AI

/- A range over a function. -/
namespace Go.AI
variable {P : Program}

section
variable {ι : List Blk} {β : Nat → Nat} {L : Boxes} {m : Mem} {w : World}

/-- A block that nobody owns is laid. -/
theorem WR.other (h : WR P ι β L m w) (o : Obj) : WR P ι β L m (w.alloc o) ∧ Tr ι β L m w ι β L m (w.alloc o) :=
  ⟨{ obj := fun o' x hx => let ⟨b, hb, hob⟩ := h.obj o' x hx; ⟨b, hb, hob.keep (List.prefix_refl _) fun _ hlt => World.alloc_old w _ hlt⟩
     box := fun s hs => let ⟨xs, t, h1, h2⟩ := h.box s hs; ⟨xs, t, h1, by rw [World.alloc_old w _ (lt_of_get h2)]; exact h2⟩
     len := h.len, glob := h.glob, inj := h.inj, ro := h.ro },
   ⟨List.prefix_refl _, by rw [World.alloc_size']; omega, fun b hb _ => World.alloc_old w _ hb, fun b r hr => ⟨r, by rw [World.alloc_old w _ (lt_of_get hr)]; exact hr⟩, fun k _ hk => .inl ⟨k, hk⟩, ⟨rfl, rfl, rfl⟩, fun _ _ h => h⟩⟩

theorem FR.keepv {ι' : List Blk} {E : Env} {A : List V} {tmps : Array Value} (h : FR ι β L E A tmps) (hp : ι <+: ι') : FR ι' β L E A tmps :=
  { toFRv := h.toFRv.pre hp, bx := fun t s hs => (h.bx t s hs).keep hp (Keep.refl β L none) fun _ _ _ => by simp }

theorem loop_ob (h : WR P ι β L m w) {l : Nat} {st : LState} {pend : Option Ex} {A : List V} {ps : List (Option Nat)} {asg body : IC} (hg : m.get l = some (.loop st pend A ps asg body)) {b : Blk} (hb : ι[l]? = some b) :
    ∃ r, w.heap[b.block]? = some (.loop r) ∧ LoopR P ι st pend A ps asg body r := by
  obtain ⟨b', hb', hob⟩ := h.obj l _ hg
  rw [hb] at hb'; cases hb'
  exact hob

/-- A loop's record turns. -/
theorem WR.setLoop (h : WR P ι β L m w) {l : Nat} {st st' : LState} {pend pend' : Option Ex} {A : List V} {ps : List (Option Nat)} {asg body : IC} (hg : m.get l = some (.loop st pend A ps asg body)) {b : Blk} (hb : ι[l]? = some b) {r : Loop} (hw : w.heap[b.block]? = some (.loop r)) {r' : Loop} (hr : LoopR P ι st' pend' A ps asg body r') :
    WR P ι β L (m.put l (.loop st' pend' A ps asg body) true) (w.putObj b.block (.loop r')) ∧ Tr ι β L m w ι β L (m.put l (.loop st' pend' A ps asg body) true) (w.putObj b.block (.loop r')) ∧ MM m (m.put l (.loop st' pend' A ps asg body) true) := by
  have hlt := lt_of_get hw
  obtain ⟨h1, h2⟩ := h.setObj (f := true) (y := .loop st' pend' A ps asg body) (w' := w.putObj b.block (.loop r')) hg rfl hb ⟨r', World.putObj_heap_same hlt, hr⟩ (by simp) (by simp) (fun k hk => World.putObj_heap_other hk) (fun _ _ => ⟨r', World.putObj_heap_same hlt⟩) ⟨rfl, rfl, rfl⟩
  exact ⟨h1, h2, MM.put hg fun _ _ hu => hu⟩

end

theorem range_sound {call : CallF} (hcall : CallOK P call) {n : Nat} {E : Env} {g : Operand} {src : Src} {ps : Array Tmp} {ps' : List (Option Nat)} {assign body : Code} {asg bd : IC}
    (hg : opd P E [] g = some src) (hps : compParams E ps.toList = some ps') (ha : compC P E assign = some asg) (hb : compC P E body = some bd) :
    Sound P call n E (.rangeFunc g ps assign body) (.range src ps' asg bd) := by
  intro r base nn s K res hx ι β a w hst Q hQ
  simp only [exec] at hx
  split at hx
  case h_2 => cases hx
  rename_i v m3 hcl
  split at hcl
  case h_2 => cases hcl
  rename_i gf fa fb hev
  -- the record is laid
  obtain ⟨lb, mark, df, w0, hw0, t0, hmk0, hent, hlb⟩ : ∃ (lb : Nat) (mark : List Deferred) (df : Nat) (w0 : World), WR P ι β s.L s.m w0 ∧ Tr ι β s.L s.m w ι β s.L s.m w0 ∧ MK ι β s.L s.m base w0 (mark ++ a.defers) ∧
      (∀ fn, (Instr.enterLoop fn a.tmps ps assign body (FW r).round).run P w = .ok (lb, mark) (w0.alloc (.loop { state := .ready, pending := none, fn, tmps := a.tmps, params := ps, assign, body, defers := df }))) ∧ lb = w0.heap.size := by
    cases r with
    | none =>
      obtain ⟨q1, q2⟩ := hst.wr.other (.deferred (some []))
      refine ⟨w.heap.size + 1, [{ target := .collected w.heap.size, args := #[] }], w.heap.size, _, q1, q2, ⟨fun d hd => ?_, ?_⟩, fun fn => run_enterLoop_outer fn a.tmps ps assign body, by rw [World.alloc_size']⟩
      · rcases List.mem_append.1 hd with hd | hd
        · simp only [List.mem_singleton] at hd
          subst hd
          exact ⟨_, rfl, hst.bs, World.alloc_new w _, fun k hk => by have := hst.wr.toRD.owns_lt hk; omega⟩
        · exact (hst.mks.tr q2).all d hd
      · rw [List.singleton_append, List.pairwise_cons]
        refine ⟨fun d hd e => ?_, hst.mks.nd⟩
        obtain ⟨r, h1, _, h3, _⟩ := hst.mks.all d hd
        rw [h1] at e
        simp only [Deferred.mk.injEq, Target.collected.injEq, and_true] at e
        have := lt_of_get h3
        omega
    | some l0 =>
      obtain ⟨r0, hr0⟩ := hst.rd l0 rfl
      exact ⟨w.heap.size, [], r0.defers, w, hst.wr, Tr.refl _ _ _ _ _, hst.mks, fun fn => run_enterLoop_inner hr0 fn a.tmps ps assign body, rfl⟩
  refine wpIn_rangeFunc fun fn hfn => ?_
  -- the loop's object
  have hpre1 : ι <+: ι ++ [⟨w0.heap.size, 0, 0⟩] := List.prefix_append _ _
  have hL0 : LoopR P (ι ++ [⟨w0.heap.size, 0, 0⟩]) .ready none s.A ps' asg bd { state := .ready, pending := none, fn, tmps := a.tmps, params := ps, assign, body, defers := df } :=
    ⟨E, rfl, rfl, hps, ha, hb, hst.fr.toFRv.pre hpre1⟩
  obtain ⟨hw1, t1⟩ := hw0.newObj (.loop .ready none s.A ps' asg bd) (.loop { state := .ready, pending := none, fn, tmps := a.tmps, params := ps, assign, body, defers := df }) 0 ⟨_, World.alloc_new w0 _, hL0⟩ (by simp)
  have hnew := new_get hw0 0
  have mm1 : MM s.m (s.m.push (.loop .ready none s.A ps' asg bd)) := MM.push hst.le _
  have hle1 : (s.m.push (.loop .ready none s.A ps' asg bd)).lo ≤ (s.m.push (.loop .ready none s.A ps' asg bd)).next := by have := mm1.lo; have := mm1.next; have := hst.le; omega
  have hfv : VR (ι ++ [⟨w0.heap.size, 0, 0⟩]) β s.L (.fn (.func gf) fa fb) (a.eval g) := by
    have := (eval_of_SR hst hg).keep hpre1 (Keep.refl β s.L none) fun _ _ _ => by simp
    rw [hev] at this
    exact this
  have hyv : VRs (ι ++ [⟨w0.heap.size, 0, 0⟩]) β s.L [V.fn (.yield s.m.next) [] []] [Value.func (.yield lb) #[] #[]] := by
    refine ⟨VR.of ?_, trivial⟩
    simp only [conc, concFn, hnew, concL, Option.map_some, Option.bind_some, hlb]
  obtain ⟨fnv, first, cap, e1, nx, e2, e3, e4⟩ := hcall _ _ _ _ _ hcl _ β s.L _ _ _ hw1 hfv hyv hle1
  have hfnv : fnv = .func gf := by
    have := hfv.ok rfl
    simp only [conc, concFn, Option.bind_eq_some_iff, Option.map_eq_some_iff] at this
    obtain ⟨f', hf', _, _, _, _, he⟩ := this
    simp only [Option.some.injEq] at hf'
    rw [e1] at he
    simp only [Value.func.injEq] at he
    rw [← he.1, ← hf']
  obtain ⟨g', as, rfl⟩ := e4 gf hfnv
  refine ⟨lb, mark, _, { target := .fn fnv cap, args := first ++ #[.func (.yield lb) #[] #[]] }, _, g', as, _, hent fn, ?_, fun _ _ => trivial, e2, fun h => absurd h (by simp [fw_depth]), ?_⟩
  · show (resolve a.eval (rangeCall g lb) 0).run P _ = _
    unfold resolve
    simp only [e1, Deferred.ofValue, Sem.run_pure]
    have : Array.map a.eval #[Operand.const (Value.func (Fn.yield lb) #[] #[])] = #[Value.func (Fn.yield lb) #[] #[]] := by simp [Act.eval]
    rw [this]
  · rcases e3 with ⟨g2, as2, he, hcalls⟩ | ⟨l2, f2, tm2, as2, bd2, he, _⟩
    case inr => cases he
    simp only [Next.enter.injEq] at he
    obtain ⟨rfl, rfl⟩ := he
    refine CallsIn.mono (hcalls (nn - 1)) fun e w3 hr => ?_
    cases e with
    | panicked chain => exact hr.elim
    | outgrown => exact hr.elim
    | returned c =>
      obtain ⟨ι3, hw3, t3, _, mm3⟩ := hr
      split at hx
      case h_2 => cases hx
      rename_i st pend A' ps2 asg2 bd2 hg3
      have hb3 : ι3[s.m.next]? = some ⟨w0.heap.size, 0, 0⟩ := get_pre t3.pre hnew
      obtain ⟨rc, hrc, E2, r1, r2, r3, r4, r5, r6⟩ := loop_ob hw3 hg3 hb3
      have fin : cvtL st ≠ .busy → (pend = none → K .normal ⟨s.A, s.L, m3.put s.m.next (.loop .exhausted pend A' ps2 asg2 bd2) true⟩ = some res) →
          (∀ e, pend = some e → K e ⟨s.A, s.L, m3.put s.m.next (.loop .exhausted pend A' ps2 asg2 bd2) true⟩ = some res) →
          rangePost (FW r) nn P lb Q { a with defers := mark ++ a.defers } (.returned c) w3 := by
        intro hnb hxn hxs
        obtain ⟨hw4, t4, mm4⟩ := hw3.setLoop (st' := .exhausted) (pend' := pend) hg3 hb3 hrc (r' := { rc with state := .exhausted }) ⟨E2, rfl, r2, r3, r4, r5, r6⟩
        have hlb2 : lb = w0.heap.size := hlb
        subst hlb2
        have hend := run_endLoop (P := P) hrc (by rw [r1]; exact hnb)
        have tt := t1.trans (t3.trans t4)
        have mm := mm1.trans (mm3.trans mm4)
        have hsr : SR P ι3 β E ⟨s.A, s.L, m3.put s.m.next (.loop .exhausted pend A' ps2 asg2 bd2) true⟩ { a with defers := mark ++ a.defers } (w3.putObj w0.heap.size (.loop { rc with state := .exhausted })) r base := by
          refine ⟨hw4, hst.fr.keepv (hpre1.trans t3.pre), ?_, hmk0.tr tt, Nat.le_trans hst.bs (t0.trans tt).size, fun l hl => ?_⟩
          · show (m3.put s.m.next (.loop .exhausted pend A' ps2 asg2 bd2) true).lo ≤ (m3.put s.m.next (.loop .exhausted pend A' ps2 asg2 bd2) true).next
            have := mm.lo; have := mm.next; have := hst.le; omega
          · obtain ⟨x, hx⟩ := hst.rd l hl
            exact (t0.trans tt).loops l x hx
        have hq := fun e hK => hQ e _ ι3 β { a with defers := mark ++ a.defers } _ hK hsr (t0.trans tt) mm
        refine ⟨rc.pending, _, hend, ?_⟩
        split
        · rename_i hp
          rw [r2] at hp
          simp only [Option.map_eq_none_iff] at hp
          exact hq .normal (hxn hp)
        · rename_i c hp
          rw [r2] at hp
          simp only [Option.map_eq_some_iff] at hp
          obtain ⟨e, he, rfl⟩ := hp
          cases e with
          | normal => exact wpIn_skip (hq .normal (hxs .normal he))
          | exit i => exact wpIn_exit (hq (.exit i) (hxs (.exit i) he))
          | ret => exact wpIn_ret (hq .ret (hxs .ret he))
      cases st with
      | busy => cases hx
      | ready => exact fin (by simp [cvtL]) (fun h => by subst h; exact hx) (fun e h => by subst h; exact hx)
      | done => exact fin (by simp [cvtL]) (fun h => by subst h; exact hx) (fun e h => by subst h; exact hx)
      | exhausted => exact fin (by simp [cvtL]) (fun h => by subst h; exact hx) (fun e h => by subst h; exact hx)

/-- Every code that compiles. -/
theorem sound_of {call : CallF} (hcall : CallOK P call) {n : Nat} {E : Env} (hd : ∀ id ops ic, compC P E (.region id ops true) = some ic → Sound P call n E (.region id ops true) ic) : ∀ (c : Code) (ic : IC), compC P E c = some ic → Sound P call n E c ic := by
  intro c
  induction c with
  | skip =>
    intro ic h
    simp only [compC, Option.some.injEq] at h
    subst h
    intro r base nn s K res hx ι β a w hst Q hQ
    simp only [exec] at hx
    exact wpIn_skip (hQ .normal s ι β a w hx hst (Tr.refl _ _ _ _ _) (MM.refl _))
  | label l =>
    intro ic h
    simp only [compC, Option.some.injEq] at h
    subst h
    intro r base nn s K res hx ι β a w hst Q hQ
    simp only [exec] at hx
    exact wpIn_label (hQ .normal s ι β a w hx hst (Tr.refl _ _ _ _ _) (MM.refl _))
  | region id ops draw =>
    intro ic h
    cases draw with
    | true => exact hd id ops ic h
    | false =>
      simp only [compC, Option.bind_eq_bind, Option.bind_eq_some_iff, Option.pure_def, Option.some.injEq] at h
      obtain ⟨⟨R, d⟩, h1, rfl⟩ := h
      exact region_sound hcall h1
  | seq x y ihx ihy =>
    intro ic h
    simp only [compC, Option.bind_eq_bind, Option.bind_eq_some_iff, Option.pure_def, Option.some.injEq] at h
    obtain ⟨a, h1, b, h2, rfl⟩ := h
    exact seq_sound (ihx a h1) (ihy b h2)
  | cond c x y ihx ihy =>
    intro ic h
    simp only [compC, Option.bind_eq_bind, Option.bind_eq_some_iff, Option.pure_def, Option.some.injEq] at h
    obtain ⟨s, h0, a, h1, b, h2, rfl⟩ := h
    exact cond_sound h0 (ihx a h1) (ihy b h2)
  | block id x ih =>
    intro ic h
    simp only [compC, Option.bind_eq_bind, Option.bind_eq_some_iff, Option.pure_def, Option.some.injEq] at h
    obtain ⟨a, h1, rfl⟩ := h
    exact block_sound (ih a h1)
  | loop x ih =>
    intro ic h
    simp only [compC, Option.bind_eq_bind, Option.bind_eq_some_iff, Option.pure_def, Option.some.injEq] at h
    obtain ⟨a, h1, rfl⟩ := h
    exact loop_sound (ih a h1)
  | scope x ih =>
    intro ic h
    simp only [compC] at h
    intro r base nn s K res hx ι β a w hst Q hQ
    refine wpIn_scope (ih ic h r base nn s K res hx ι β a w hst _ ?_)
    intro e s' ι' β' a' w' hK hst' htr hmm
    cases e with
    | normal => exact hQ .normal s' ι' β' a' w' hK hst' htr hmm
    | exit i => exact hQ (.exit i) s' ι' β' a' w' hK hst' htr hmm
    | ret => exact hQ .ret s' ι' β' a' w' hK hst' htr hmm
  | rangeFunc g ps x y ihx ihy =>
    intro ic h
    simp only [compC, Option.bind_eq_bind, Option.bind_eq_some_iff, Option.pure_def, Option.some.injEq] at h
    obtain ⟨s, h0, p, h1, a, h2, b, h3, rfl⟩ := h
    exact range_sound hcall h0 h1 h2 h3
  | exit i =>
    intro ic h
    simp only [compC, Option.some.injEq] at h
    subst h
    intro r base nn s K res hx ι β a w hst Q hQ
    simp only [exec] at hx
    exact wpIn_exit (hQ (.exit i) s ι β a w hx hst (Tr.refl _ _ _ _ _) (MM.refl _))
  | ret =>
    intro ic h
    simp only [compC, Option.some.injEq] at h
    subst h
    intro r base nn s K res hx ι β a w hst Q hQ
    simp only [exec] at hx
    exact wpIn_ret (hQ .ret s ι β a w hx hst (Tr.refl _ _ _ _ _) (MM.refl _))
  | _ => intro ic h; simp [compC] at h

end Go.AI

/- The end of a function: its results, its marks. -/
namespace Go.AI
variable {P : Program}

section
variable {ι : List Blk} {β : Nat → Nat} {L : Boxes} {m : Mem} {w : World} {E : Env} {A : List V} {tmps : Array Value}

theorem load_cells {v : V} {c : Value} {t : TypeId} {n : Nat} {cs : List V} (ha : isAggT P t = some true) (hn : sizeT P t = some n) (hw : RD P ι β L m w) (hv : VR ι β L v c) (hr : readN L m v n = some cs) :
    ∃ r, conc ι (.agg cs) = some r ∧ (do loadVar t (← asAddr c) : Sem Value).run P w = .ok r w := by
  obtain ⟨b, o, xs, rfl, h2, h3, h4⟩ := hw.readN hv hr
  refine ⟨.agg xs.toArray, by simp [conc, h2], ?_⟩
  have := run_loadCells_list (P := P) w ⟨b, o, none⟩ xs (fun j v hj => by rw [Addr.add_none]; exact h4 j v hj)
  rw [h3] at this
  show (loadVar t ⟨b, o, none⟩).run P w = _
  unfold loadVar
  rw [Sem.run_bind, isAggT_run ha]
  simp only [Result.andThen, if_true, Sem.run_bind, sizeT_run hn, this]
  rfl

theorem load_one {v : V} {c : Value} {t : TypeId} {u : V} (ha : isAggT P t = some false) (hw : RD P ι β L m w) (hv : VR ι β L v c) (hr : read1 L m v = some u) :
    ∃ r, conc ι u = some r ∧ (do loadVar t (← asAddr c) : Sem Value).run P w = .ok r w := by
  obtain ⟨b, o, x, rfl, h2, h3⟩ := hw.read1 hv hr
  refine ⟨x, h2, ?_⟩
  show (loadVar t ⟨b, o, none⟩).run P w = _
  exact loadVar_one ha h3

/-- The values of results, as the model reads them. -/
def resOne (tmps : Array Value) : ResultVar → Sem Value
  | .tmp t => pure (tmps.getD t undef)
  | .cell a t => do loadVar t (← asAddr (tmps.getD a undef))

theorem results_sound (hw : RD P ι β L m w) (hf : FR ι β L E A tmps) : ∀ {rs : List ResultVar} {ss : List RSrc} {vs : List V}, compRes P E rs = some ss → resultsL ⟨A, L, m⟩ ss = some vs → V.underL m.next vs = true →
    ∃ cs, concL ι vs = some cs ∧ (rs.mapM (resOne tmps)).run P w = .ok cs w
  | [], ss, vs, hc, hr, _ => by
    simp only [compRes, Option.some.injEq] at hc; subst hc
    simp only [resultsL, Option.some.injEq] at hr; subst hr
    exact ⟨[], by simp [concL], rfl⟩
  | r :: rs, ss, vs, hc, hr, hu => by
    -- one result
    have one : ∀ (s : RSrc) (ss' : List RSrc), ss = s :: ss' → compRes P E rs = some ss' → (∀ v, result1 ⟨A, L, m⟩ s = some v → v.under m.next = true → ∃ c, conc ι v = some c ∧ (resOne tmps r).run P w = .ok c w) →
        ∃ cs, concL ι vs = some cs ∧ ((r :: rs).mapM (resOne tmps)).run P w = .ok cs w := by
      intro s ss' he hrs h1
      subst he
      simp only [resultsL] at hr
      split at hr
      · rename_i v hv
        split at hr
        · rename_i vs' hvs
          simp only [Option.some.injEq] at hr; subst hr
          simp only [V.underL, Bool.and_eq_true] at hu
          obtain ⟨c, q1, q2⟩ := h1 v hv hu.1
          obtain ⟨cs, q3, q4⟩ := results_sound hw hf hrs hvs hu.2
          refine ⟨c :: cs, concL_cons.2 ⟨c, cs, q1, q3, rfl⟩, ?_⟩
          simp only [List.mapM_cons, Sem.run_bind, q2, Result.andThen, q4]
          rfl
        · cases hr
      · cases hr
    have hin := fun t i (hi : idxOf t E.vars 0 = some i) (ht : E.site t = none) => hf.var t i ht hi
    cases r with
    | tmp t =>
      simp only [compRes] at hc
      split at hc
      · cases hc
      · rename_i ht
        simp only [Option.bind_eq_bind, Option.bind_eq_some_iff, Option.pure_def, Option.some.injEq] at hc
        obtain ⟨i, hi, ss', hss', rfl⟩ := hc
        refine one _ _ rfl hss' fun v hv hvu => ?_
        simp only [result1, Option.some.injEq] at hv
        have ht' : E.site t = none := by simpa using ht
        rcases hin t i hi ht' with q | q
        · rw [hv] at q; subst q; simp [V.under] at hvu
        · rw [hv] at q; exact ⟨_, q, rfl⟩
    | cell t ty =>
      simp only [compRes, Option.bind_eq_bind, Option.bind_eq_some_iff, Option.pure_def, Option.some.injEq] at hc
      obtain ⟨ag, hag, n, hn, hc⟩ := hc
      split at hc
      · rename_i s hs
        simp only [Option.bind_eq_some_iff, Option.some.injEq] at hc
        obtain ⟨ss', hss', rfl⟩ := hc
        refine one _ _ rfl hss' fun v hv _ => ?_
        have hvr := hf.bx t s hs
        simp only [result1] at hv
        cases ag with
        | true =>
          simp only [if_true, Option.map_eq_some_iff] at hv
          obtain ⟨cs, hcs, rfl⟩ := hv
          exact load_cells hag hn hw hvr hcs
        | false =>
          simp only [Bool.false_eq_true, if_false] at hv
          exact load_one hag hw hvr hv
      · rename_i hs
        simp only [Option.bind_eq_some_iff, Option.some.injEq] at hc
        obtain ⟨i, hi, ss', hss', rfl⟩ := hc
        refine one _ _ rfl hss' fun v hv _ => ?_
        have hvr : VR ι β L (A.getD i .dead) (tmps.getD t undef) := by
          rcases hin t i hi hs with q | q
          · rw [q]; trivial
          · exact VR.of q
        simp only [result1] at hv
        cases ag with
        | true =>
          simp only [if_true, Option.map_eq_some_iff] at hv
          obtain ⟨cs, hcs, rfl⟩ := hv
          exact load_cells hag hn hw hvr hcs
        | false =>
          simp only [Bool.false_eq_true, if_false] at hv
          exact load_one hag hw hvr hv

theorem resultV_sound {fn : Func} (hw : RD P ι β L m w) (hf : FR ι β L E A tmps) {ss : List RSrc} {v : V} (hc : compRes P E fn.results.toList = some ss) (hr : resultV ⟨A, L, m⟩ ss = some v) (hu : v.under m.next = true) :
    ∃ c, conc ι v = some c ∧ (results fn tmps).run P w = .ok c w := by
  have main : ∀ vs, resultsL ⟨A, L, m⟩ ss = some vs → V.underL m.next vs = true → ∃ cs, concL ι vs = some cs ∧ (results fn tmps).run P w = .ok (if h : cs.toArray.size = 1 then cs.toArray[0] else .tuple cs.toArray) w := by
    intro vs h1 h2
    obtain ⟨cs, q1, q2⟩ := results_sound hw hf hc h1 h2
    refine ⟨cs, q1, ?_⟩
    have hm : (fn.results.mapM (resOne tmps)).run P w = .ok cs.toArray w := by
      have e : fn.results.mapM (resOne tmps) = List.toArray <$> fn.results.toList.mapM (resOne tmps) := by
        rw [← List.mapM_toArray, Array.toArray_toList]
      rw [e]
      show (do let x ← fn.results.toList.mapM (resOne tmps); pure x.toArray : Sem (Array Value)).run P w = _
      rw [Sem.run_bind, q2]
      rfl
    have he : results fn tmps = (do let vs ← fn.results.mapM (resOne tmps); pure (if h : vs.size = 1 then vs[0] else .tuple vs)) := by
      unfold results
      congr 1
    rw [he, Sem.run_bind, hm]
    rfl
  unfold resultV at hr
  split at hr
  · rename_i v0 hv
    simp only [Option.some.injEq] at hr; subst hr
    obtain ⟨cs, q1, q2⟩ := main _ hv (by simp [V.underL, hu])
    obtain ⟨c, cs', q3, q4, rfl⟩ := concL_cons.1 q1
    simp only [concL, Option.some.injEq] at q4; subst q4
    exact ⟨c, q3, by simpa using q2⟩
  · rename_i vs hne hv
    simp only [Option.some.injEq] at hr; subst hr
    simp only [V.under] at hu
    obtain ⟨cs, q1, q2⟩ := main _ hv hu
    have hl := concL_length q1
    refine ⟨.tuple cs.toArray, by simp [conc, q1], ?_⟩
    rw [q2, dif_neg]
    intro h1
    simp only [List.size_toArray] at h1
    rw [hl] at h1
    match vs, h1 with
    | [x], _ => exact hne x rfl
  · cases hr

end
end Go.AI

/- A call. -/
namespace Go.AI
variable {P : Program}

section
variable {ι ι0 : List Blk} {β β0 : Nat → Nat} {L L0 : Boxes} {m m0 : Mem} {w w0 : World}

/-- A block that nobody owns, and that is no row, is shut. -/
theorem WR.putFree (h : WR P ι β L m w) {r : Nat} {x : Option (List Deferred)} (o : Obj) (hr : w.heap[r]? = some (.deferred x)) (hn : ∀ k, ¬ owns ι β L m k r) : WR P ι β L m (w.putObj r o) where
  obj := fun o' y hy => by
    obtain ⟨b, hb, hob⟩ := h.obj o' y hy
    refine ⟨b, hb, ?_⟩
    by_cases he : b.block = r
    · subst he
      cases y with
      | cells cs ro =>
        cases ro with
        | true =>
          obtain ⟨xs, h1, h2⟩ := hob
          refine ⟨xs, h1, fun i v hv => ?_⟩
          have := h2 i v hv
          simp [World.cell?, hr] at this
        | false => exact absurd ⟨_, b, hy, rfl, hb, rfl⟩ (hn (.ob o'))
      | mp es => exact absurd ⟨_, b, hy, rfl, hb, rfl⟩ (hn (.ob o'))
      | loop => exact absurd ⟨_, b, hy, rfl, hb, rfl⟩ (hn (.ob o'))
      | gone => trivial
    · exact hob.keep (List.prefix_refl _) fun _ _ => World.putObj_heap_other he
  box := fun s hs => by
    obtain ⟨xs, t, h1, h2⟩ := h.box s hs
    refine ⟨xs, t, h1, ?_⟩
    rw [World.putObj_heap_other fun e => hn (.bx s) ⟨hs, e⟩]
    exact h2
  len := h.len
  glob := h.glob
  inj := h.inj
  ro := h.ro

theorem Tr.putFree (t : Tr ι0 β0 L0 m0 w0 ι β L m w) {r : Nat} {x : Option (List Deferred)} (o : Obj) (hr : w.heap[r]? = some (.deferred x)) (hb : w0.heap.size ≤ r) : Tr ι0 β0 L0 m0 w0 ι β L m (w.putObj r o) :=
  ⟨t.pre, by rw [World.putObj_size]; exact t.size, fun b hb' hn => by rw [World.putObj_heap_other (by omega)]; exact t.same b hb' hn,
   fun b l hl => by
    obtain ⟨l', hl'⟩ := t.loops b l hl
    have : b ≠ r := fun e => by rw [e, hr] at hl'; cases hl'
    exact ⟨l', by rw [World.putObj_heap_other this]; exact hl'⟩,
   t.own, t.os, t.ro⟩

/-- The marks are taken, one by one; then the function leaves. -/
theorem leaves_sound {n : Nat} {fn : Func} {tmps : Array Value} {R : Ending → World → Prop} : ∀ (ds : List Deferred) (w : World), WR P ι β L m w → Tr ι0 β0 L0 m0 w0 ι β L m w → MK ι β L m w0.heap.size w ds →
    (∀ w', WR P ι β L m w' → Tr ι0 β0 L0 m0 w0 ι β L m w' → ∃ v, (results fn tmps).run P w' = .ok v w' ∧ R (.returned v) w') → LeavesInM (FW none) n P fn tmps R ds .returning w
  | [], w, h, t, _, hend => by
    obtain ⟨v, h1, h2⟩ := hend w h t
    exact ⟨v, h1, h2⟩
  | d :: ds, w, h, t, hm, hend => by
    obtain ⟨r, rfl, hb, hr, hn⟩ := hm.all d (by simp)
    have hnd := List.pairwise_cons.1 hm.nd
    refine ⟨by simp, .inl ⟨r, _, rfl, run_takeDeferred hr, ?_⟩⟩
    refine leaves_sound ds _ (h.putFree _ hr hn) (t.putFree _ hr hb) ⟨fun d' hd' => ?_, hnd.2⟩ hend
    obtain ⟨r', rfl, hb', hr', hn'⟩ := hm.all d' (by simp [hd'])
    refine ⟨r', rfl, hb', ?_, hn'⟩
    have hne : r' ≠ r := fun e => hnd.1 _ hd' (by rw [e])
    rw [World.putObj_heap_other hne]
    exact hr'

end

def TabOK (P : Program) (tab : FuncId → Option IFun) : Prop := ∀ g F, tab g = some F → ∃ fn c E, P.funcs[g]? = some fn ∧ fn.body = some c ∧ compF P E fn = some F

theorem initA_length (as : List V) : ∀ vs : List Nat, (initA as vs).length = vs.length
  | [] => rfl
  | t :: ts => by simp [initA, initA_length as ts]

theorem initA_get (as : List V) : ∀ (vs : List Nat) (i t : Nat), vs[i]? = some t → (initA as vs)[i]? = some (as.getD t (.tup []))
  | [], i, t, h => by simp at h
  | v :: vs, 0, t, h => by simp at h; subst h; simp [initA]
  | v :: vs, i + 1, t, h => by simpa [initA] using initA_get as vs i t (by simpa using h)

theorem initA_mem (as : List V) : ∀ (vs : List Nat) (v : V), v ∈ initA as vs → v ∈ as ∨ v = .tup []
  | [], v, h => by simp [initA] at h
  | t :: ts, v, h => by
    rcases List.mem_cons.1 h with rfl | h
    · by_cases ht : t < as.length
      · left
        rw [List.getD_eq_getElem?_getD, List.getElem?_eq_getElem ht]
        exact List.getElem_mem ht
      · right
        rw [List.getD_eq_getElem?_getD, List.getElem?_eq_none (by omega)]; rfl
    · exact initA_mem as ts v h

theorem concL_mem {ι : List Blk} : ∀ {vs : List V} {cs : List Value}, concL ι vs = some cs → ∀ v ∈ vs, ∃ c, conc ι v = some c
  | [], _, _, v, hv => by simp at hv
  | u :: vs, cs, h, v, hv => by
    obtain ⟨c, ds, h1, h2, _⟩ := concL_cons.1 h
    rcases List.mem_cons.1 hv with rfl | hv
    · exact ⟨c, h1⟩
    · exact concL_mem h2 v hv

theorem initA_mem' (as : List V) : ∀ (vs : List Nat) (v : V), v ∈ initA as vs → ∃ t ∈ vs, v = as.getD t (.tup [])
  | [], v, h => by simp [initA] at h
  | t :: ts, v, h => by
    rcases List.mem_cons.1 h with rfl | h
    · exact ⟨t, by simp, rfl⟩
    · obtain ⟨u, hu, he⟩ := initA_mem' as ts v h
      exact ⟨u, by simp [hu], he⟩

theorem concL_VA {ι : List Blk} {as : List V} {cas : List Value} (has : concL ι as = some cas) (t : Nat) : VA ι (as.getD t (.tup [])) (cas.getD t undef) := by
  have hcl := concL_length has
  right
  by_cases ht : t < as.length
  · obtain ⟨c, q1, q2⟩ := concL_get has (List.getElem?_eq_getElem ht)
    rw [List.getD_eq_getElem?_getD, List.getElem?_eq_getElem ht, List.getD_eq_getElem?_getD, q1]
    exact q2
  · have e1 : as[t]? = none := List.getElem?_eq_none (Nat.le_of_not_lt ht)
    have e2 : cas[t]? = none := List.getElem?_eq_none (by have := Nat.le_of_not_lt ht; omega)
    rw [List.getD_eq_getElem?_getD, e1, List.getD_eq_getElem?_getD, e2]
    simp [conc, concL, undef]

/-- A function of the table. -/
theorem func_sound {cf : CallF} {n : Nat} (hd : CallOK P cf) (hdraw : ∀ E id ops ic, compC P E (.region id ops true) = some ic → Sound P cf n E (.region id ops true) ic)
    {g : FuncId} {F : IFun} (hg : ∃ fn c E, P.funcs[g]? = some fn ∧ fn.body = some c ∧ compF P E fn = some F) {as : List V} {m m' : Mem} {v : V} (hle : m.lo ≤ m.next)
    (hx : exec cf n F.body ⟨initA as F.vars, [], enter m⟩ (fun e s => match e with
      | .exit _ => none
      | _ => match resultV s F.results with
        | some v => if V.under s.m.next v then some (settle m s.m v) else none
        | none => none) = some (v, m'))
    {ι : List Blk} {β : Nat → Nat} {L : Boxes} {w : World} (h : WR P ι β L m w) {cas : List Value} (has : ∀ t ∈ F.vars, VA ι (as.getD t (.tup [])) (cas.getD t undef)) :
    (∀ w', (callFunc g cas.toArray).run P w' = .ok (.enter g cas.toArray) w') ∧ ∀ nn, CallsIn Fence.wide nn P g cas.toArray w (CallR P ι β L m w v m') := by
  obtain ⟨fn, c, E, hf, hb, hc⟩ := hg
  unfold compF at hc
  simp only [Option.bind_eq_bind, Option.pure_def] at hc
  split at hc
  · simp at hc
  rename_i hname
  simp only [Bool.or_eq_true, not_or] at hname
  obtain ⟨hname, hnt⟩ := hname
  have hnt : E.nt ≤ fn.ntmps := by rw [blt_iff] at hnt; omega
  simp only [Option.bind_eq_some_iff, Option.some.injEq] at hc
  obtain ⟨c', hc', ic, hic, ss, hss, rfl⟩ := hc
  rw [hb] at hc'
  simp only [Option.some.injEq] at hc'
  subst hc'
  refine ⟨fun w' => ?_, fun nn => ?_⟩
  · unfold callFunc
    simp only [Sem.run_bind, run_program, Result.andThen, hf]
    rw [if_neg hname]
    simp only [hb, Option.isNone_some, Bool.false_eq_true, if_false, Sem.run_pure]
  · have hsound := sound_of hd (n := n) (E := E) (hdraw E) c ic hic none w.heap.size nn _ _ _ hx ι β { tmps := cas.toArray ++ Array.replicate (fn.ntmps - cas.toArray.size) undef, defers := [] } w
    have hget : ∀ t, (cas.toArray ++ Array.replicate (fn.ntmps - cas.toArray.size) undef).getD t undef = cas.getD t undef := by
      intro t
      rw [Array.getD_eq_getD_getElem?, List.getD_eq_getElem?_getD]
      by_cases ht : t < cas.length
      · rw [Array.getElem?_append_left (by simpa using ht)]
        simp
      · rw [Array.getElem?_append_right (by simp; omega), List.getElem?_eq_none (by omega)]
        simp only [Array.getElem?_replicate]
        split <;> rfl
    have hst : SR P ι β E ⟨initA as E.vars, [], AI.enter m⟩ { tmps := cas.toArray ++ Array.replicate (fn.ntmps - cas.toArray.size) undef, defers := [] } w none w.heap.size := by
      refine ⟨h.enter β, ?_, Nat.le_refl _, ⟨fun d hd => by simp at hd, List.Pairwise.nil⟩, Nat.le_refl _, fun l hl => by cases hl⟩
      refine { nt := ?_, len := initA_length _ _, var := fun t i _ hi => ?_, ok := fun v hv => ?_, bx := fun t s _ hne => absurd (by cases s <;> rfl) hne }
      · simp only [Array.size_append, Array.size_replicate]
        omega
      · obtain ⟨_, hi2⟩ := idxOf_get hi
        simp only [Nat.sub_zero] at hi2
        show VA ι ((initA as E.vars).getD i .dead) (Array.getD _ t undef)
        rw [hget, List.getD_eq_getElem?_getD, initA_get as E.vars i t hi2]
        simp only [Option.getD_some]
        exact has t (List.mem_of_getElem? hi2)
      · obtain ⟨t, ht, rfl⟩ := initA_mem' as E.vars v hv
        rcases has t ht with q | q
        · exact .inl q
        · exact .inr ⟨_, q⟩
    have fin : ∀ e s' ι' β' a' w', (match (e : Ex) with
        | .exit _ => (none : Ans)
        | _ => match resultV s' ss with
          | some v => if V.under s'.m.next v then some (settle m s'.m v) else none
          | none => none) = some (v, m') → SR P ι' β' E s' a' w' none w.heap.size → Tr ι β [] (AI.enter m) w ι' β' s'.L s'.m w' → MM (AI.enter m) s'.m →
        (match resultV s' ss with
          | some v => if V.under s'.m.next v then some (settle m s'.m v) else none
          | none => none) = some (v, m') → LeavesInM (FW none) nn P fn a'.tmps (CallR P ι β L m w v m') a'.defers .returning w' := by
      intro e s' ι' β' a' w' _ hst' htr hmm hK
      split at hK
      · rename_i v0 hv0
        split at hK
        · rename_i hu
          simp only [Option.some.injEq] at hK
          refine leaves_sound (β0 := β) (L0 := []) (m0 := AI.enter m) a'.defers w' hst'.wr htr hst'.mks fun w2 hw2 htr2 => ?_
          obtain ⟨cv, q1, q2⟩ := resultV_sound (fn := fn) hw2.toRD hst'.fr hss hv0 hu
          obtain ⟨ι2, g1, g2, g3, g4⟩ := settle_sound h hw2 htr2 hmm hle q1 hK
          exact ⟨cv, q2, ι2, g1, g2, g3, g4⟩
        · cases hK
      · cases hK
    have hmain := hsound hst (bodyPostM (FW none) nn P fn (CallR P ι β L m w v m')) fun e s' ι' β' a' w' hK hst' htr hmm => by
      cases e with
      | normal => exact fin .normal s' ι' β' a' w' hK hst' htr hmm hK
      | exit i => cases hK
      | ret => exact fin .ret s' ι' β' a' w' hK hst' htr hmm hK
    exact callsIn_of_wp_marks (F := FW none) hf hb trivial hmain

end Go.AI

/- Rounds; every call. -/
namespace Go.AI
variable {P : Program}

theorem FRv.setParam {ι : List Blk} {E : Env} {A : List V} {tmps : Array Value} (h : FRv ι E A tmps) {t : Tmp} (ht : t < E.nt) {v : V} {c : Value} (hv : conc ι v = some c) :
    (∀ i, idxOf t E.vars 0 = some i → FRv ι E (A.set i v) (tmps.setIfInBounds t c)) ∧ (idxOf t E.vars 0 = none → FRv ι E A (tmps.setIfInBounds t c)) := by
  have other : ∀ t', t' ≠ t → (tmps.setIfInBounds t c).getD t' undef = tmps.getD t' undef := by
    intro t' hne
    simp [Array.getD_eq_getD_getElem?, Array.getElem?_setIfInBounds, Ne.symm hne]
  refine ⟨fun i hi => ?_, fun hn => ?_⟩
  · obtain ⟨_, hget⟩ := idxOf_get hi
    simp only [Nat.sub_zero] at hget
    have hlt : i < A.length := by rw [h.len]; exact (List.getElem?_eq_some_iff.1 hget).1
    refine ⟨by simpa using h.nt, by simpa using h.len, fun t' i' hs' hi' => ?_, fun u hu => ?_⟩
    · by_cases he : t' = t
      · subst he
        rw [hi] at hi'
        simp only [Option.some.injEq] at hi'
        subst hi'
        right
        have hts : t' < tmps.size := Nat.lt_of_lt_of_le ht h.nt
        rw [List.getD_eq_getElem?_getD, List.getElem?_set_self hlt]
        simp only [Option.getD_some]
        rw [hv]
        simp [hts]
      · have hne : i' ≠ i := by
          intro e
          obtain ⟨_, hget'⟩ := idxOf_get hi'
          simp only [Nat.sub_zero] at hget'
          rw [e, hget] at hget'
          exact he (Option.some.inj hget').symm
        rw [other t' he, List.getD_eq_getElem?_getD, List.getElem?_set_ne (Ne.symm hne), ← List.getD_eq_getElem?_getD]
        exact h.var t' i' hs' hi'
    · rcases List.mem_or_eq_of_mem_set hu with q | q
      · exact h.ok u q
      · exact .inr ⟨c, by rw [q]; exact hv⟩
  · refine ⟨by simpa using h.nt, h.len, fun t' i' hs' hi' => ?_, h.ok⟩
    have he : t' ≠ t := fun e => by rw [e, hn] at hi'; cases hi'
    rw [other t' he]
    exact h.var t' i' hs' hi'

theorem setParams_sound {ι : List Blk} {E : Env} : ∀ (ts : List Tmp) (ps : List (Option Nat)) (vs : List V) (cs : List Value) (A A1 : List V) (tmps : Array Value), compParams E ts = some ps → setParams ps vs A = some A1 → concL ι vs = some cs → FRv ι E A tmps →
    FRv ι E A1 ((ts.zip cs).foldl (fun tmps (t, a) => tmps.setIfInBounds t a) tmps) ∧ ts.length = cs.length
  | [], ps, vs, cs, A, A1, tmps, hp, hs, hc, hf => by
    simp only [compParams, Option.some.injEq] at hp
    subst hp
    cases vs with
    | nil =>
      simp only [setParams, Option.some.injEq] at hs
      subst hs
      simp only [concL, Option.some.injEq] at hc
      subst hc
      exact ⟨hf, rfl⟩
    | cons v vs => simp [setParams] at hs
  | t :: ts, ps, vs, cs, A, A1, tmps, hp, hs, hc, hf => by
    simp only [compParams] at hp
    split at hp
    · cases hp
    rename_i hcond
    simp only [Bool.or_eq_true, not_or, Bool.not_eq_true', Bool.not_eq_false, blt_iff] at hcond
    simp only [Option.bind_eq_bind, Option.bind_eq_some_iff, Option.pure_def, Option.some.injEq] at hp
    obtain ⟨ps', hps', rfl⟩ := hp
    cases vs with
    | nil => cases hi : idxOf t E.vars 0 <;> rw [hi] at hs <;> simp [setParams] at hs
    | cons v vs =>
      obtain ⟨c, cs', h1, h2, rfl⟩ := concL_cons.1 hc
      obtain ⟨g1, g2⟩ := hf.setParam hcond.2 h1
      cases hi : idxOf t E.vars 0 with
      | some i =>
        rw [hi] at hs
        simp only [setParams] at hs
        obtain ⟨q1, q2⟩ := setParams_sound ts ps' vs cs' _ A1 _ hps' hs h2 (g1 i hi)
        exact ⟨by simpa using q1, by simp [q2]⟩
      | none =>
        rw [hi] at hs
        simp only [setParams] at hs
        obtain ⟨q1, q2⟩ := setParams_sound ts ps' vs cs' _ A1 _ hps' hs h2 (g2 hi)
        exact ⟨by simpa using q1, by simp [q2]⟩

section
variable {ι ι1 : List Blk} {β β0 β1 : Nat → Nat} {L L1 : Boxes} {m m1 : Mem} {w w1 : World}

theorem WR.noBox (h : WR P ι β L m w) (β0 : Nat → Nat) : WR P ι β0 [] m w :=
  let q := h.enter β0
  { obj := q.obj, box := q.box, len := q.len, glob := q.glob, inj := q.inj, ro := q.ro }

theorem WR.unBox (h : WR P ι β L m w) (h1 : WR P ι1 β1 L1 m1 w1) (t : Tr ι β0 [] m w ι1 β1 L1 m1 w1) : WR P ι1 β L m1 w1 ∧ Tr ι β L m w ι1 β L m1 w1 :=
  h.back h1 (β0 := β0) ⟨t.pre, t.size, t.same, t.loops, t.own, t.os, t.ro⟩ (ι' := ι1) (m' := m1) t.pre h1.len id (fun _ _ _ _ h => h) (fun _ _ _ => rfl) (fun _ _ h => h) (fun o x hx => ⟨hx, fun _ h => h⟩)
end

end Go.AI

/- Every call. -/
namespace Go.AI
variable {P : Program}

theorem compParams_length {E : Env} : ∀ {ts : List Tmp} {ps : List (Option Nat)}, compParams E ts = some ps → ps.length = ts.length
  | [], ps, h => by simp only [compParams, Option.some.injEq] at h; subst h; rfl
  | t :: ts, ps, h => by
    simp only [compParams] at h
    split at h
    · cases h
    · simp only [Option.bind_eq_bind, Option.bind_eq_some_iff, Option.pure_def, Option.some.injEq] at h
      obtain ⟨ps', h1, rfl⟩ := h
      simp [compParams_length h1]

theorem VRs.under {ι : List Blk} {β : Nat → Nat} {L : Boxes} {n : Nat} : ∀ {vs : List V} {cs : List Value}, VRs ι β L vs cs → V.underL n vs = true → concL ι vs = some cs
  | [], [], _, _ => by simp [concL]
  | v :: vs, c :: cs, h, hu => by
    simp only [V.underL, Bool.and_eq_true] at hu
    refine concL_cons.2 ⟨c, cs, h.1.ok ?_, VRs.under h.2 hu.2, rfl⟩
    have := hu.1
    cases v <;> first | rfl | (simp [V.under] at this)
  | [], _ :: _, h, _ => h.elim
  | _ :: _, [], h, _ => h.elim

/-- A round. -/
theorem yield_sound {tab : FuncId → Option IFun} {n d : Nat} (hd : CallOK P (call tab n d)) (hdraw : ∀ E id ops ic, compC P E (.region id ops true) = some ic → Sound P (call tab n d) n E (.region id ops true) ic)
    {l : Nat} {args : List V} {m m' : Mem} {v : V} (hle : m.lo ≤ m.next) {pend : Option Ex} {A A1 : List V} {ps : List (Option Nat)} {asg bd : IC} (hg : m.get l = some (.loop .ready pend A ps asg bd)) (hps : setParams ps args A = some A1)
    (hx : exec (call tab n d) n asg ⟨A1, [], m⟩ (fun e s => match e with
            | .normal => match s.m.get l with
              | some (.loop .ready pend2 A2 ps2 asg2 bd2) =>
                exec (call tab n d) n bd { s with m := s.m.put l (.loop .busy pend2 A2 ps2 asg2 bd2) true } fun e s => match s.m.get l with
                  | some (.loop _ _ A3 ps3 asg3 bd3) => match e with
                    | .normal => some (.bool true, s.m.put l (.loop .ready none A3 ps3 asg3 bd3) true)
                    | e => some (.bool false, s.m.put l (.loop .done (some e) A3 ps3 asg3 bd3) true)
                  | _ => none
              | _ => none
            | _ => none) = some (v, m'))
    {ι : List Blk} {β : Nat → Nat} {L : Boxes} {w : World} (h : WR P ι β L m w) {b : Blk} (hb : ι[l]? = some b) {cargs : List Value} (has : concL ι args = some cargs) :
    ∃ f tmps assign body, (Instr.yield b.block cargs.toArray).run P w = .ok (.round b.block f tmps assign body) w ∧ ∀ nn, RoundIn Fence.wide nn P b.block f tmps assign body w (CallR P ι β L m w v m') := by
  obtain ⟨r, hr, E, r1, r2, r3, r4, r5, r6⟩ := loop_ob h hg hb
  obtain ⟨hf, hlen⟩ := setParams_sound r.params.toList ps args cargs A A1 r.tmps r3 hps has r6
  have hfold : (r.params.zip cargs.toArray).foldl (fun tmps (t, a) => tmps.setIfInBounds t a) r.tmps = (r.params.toList.zip cargs).foldl (fun tmps (t, a) => tmps.setIfInBounds t a) r.tmps := by
    rw [← Array.foldl_toList]
    simp
  refine ⟨_, _, _, _, run_yield hr (by simp at hlen ⊢; omega), fun nn => ?_⟩
  refine roundIn_of_wpIn (F := Fence.wide) trivial ?_
  rw [hfold]
  have h0 := h.noBox β
  have hst : SR P ι β E ⟨A1, [], m⟩ { tmps := (r.params.toList.zip cargs).foldl (fun tmps (t, a) => tmps.setIfInBounds t a) r.tmps, defers := [] } w (some b.block) 0 :=
    ⟨h0, { toFRv := hf, bx := fun t s hs hne => absurd (by cases s <;> rfl) hne }, hle, ⟨fun d hd => by simp at hd, List.Pairwise.nil⟩, Nat.zero_le _, fun l' hl' => by cases hl'; exact ⟨r, hr⟩⟩
  refine sound_of hd (hdraw E) r.assign asg r4 (some b.block) 0 nn _ _ _ hx ι β _ w hst _ ?_
  intro e s1 ι1 β1 a1 w1 hK hst1 t1 mm1
  cases e with
  | exit i => cases hK
  | ret => cases hK
  | normal =>
    simp only at hK
    split at hK
    case h_2 => cases hK
    rename_i pend2 A2 ps2 asg2 bd2 hg1
    have hb1 : ι1[l]? = some b := get_pre t1.pre hb
    obtain ⟨q, hq, E2, q1, q2, q3, q4, q5, q6⟩ := loop_ob hst1.wr hg1 hb1
    obtain ⟨hw2, t2, mm2⟩ := hst1.wr.setLoop (st' := .busy) (pend' := pend2) hg1 hb1 hq (r' := { q with state := .busy }) ⟨E2, rfl, q2, q3, q4, q5, q6⟩
    refine ⟨_, run_beginRound hq q1, ?_⟩
    have hst2 : SR P ι1 β1 E { s1 with m := s1.m.put l (.loop .busy pend2 A2 ps2 asg2 bd2) true } a1 (w1.putObj b.block (.loop { q with state := .busy })) (some b.block) 0 :=
      ⟨hw2, hst1.fr, by have := mm2.lo; have := mm2.next; have := hst1.le; show (s1.m.put l _ true).lo ≤ (s1.m.put l _ true).next; omega, hst1.mks.tr t2, Nat.zero_le _, fun l' hl' => by
        obtain ⟨x, hx⟩ := hst1.rd l' hl'
        exact t2.loops l' x hx⟩
    refine sound_of hd (hdraw E) r.body bd r5 (some b.block) 0 nn _ _ _ hK ι1 β1 a1 _ hst2 _ ?_
    intro e s3 ι3 β3 a3 w3 hK3 hst3 t3 mm3
    split at hK3
    case h_2 => cases hK3
    rename_i st3 pend3 A3 ps3 asg3 bd3 hg3
    have hb3 : ι3[l]? = some b := get_pre t3.pre hb1
    obtain ⟨z, hz, E3, z1, z2, z3, z4, z5, z6⟩ := loop_ob hst3.wr hg3 hb3
    -- the round is left
    have fin : ∀ (jump : Option Code) (st' : LState) (pend' : Option Ex) (bv : Bool), (if jump.isNone then LoopState.ready else .done) = cvtL st' → jump = pend'.map cvtEx → bv = jump.isNone →
        (v, m') = (V.bool bv, s3.m.put l (.loop st' pend' A3 ps3 asg3 bd3) true) → ∃ v' w', (Instr.endRound b.block jump).run P w3 = .ok v' w' ∧ CallR P ι β L m w v m' (.returned v') w' := by
      intro jump st' pend' bv e1 e2 e3 e4
      obtain ⟨hw4, t4, mm4⟩ := hst3.wr.setLoop (st' := st') (pend' := pend') hg3 hb3 hz (r' := { z with state := if jump.isNone then .ready else .done, pending := jump }) ⟨E3, e1, e2, z3, z4, z5, z6⟩
      simp only [Prod.mk.injEq] at e4
      obtain ⟨rfl, rfl⟩ := e4
      obtain ⟨g1, g2⟩ := h.unBox hw4 (t1.trans (t2.trans (t3.trans t4)))
      exact ⟨_, _, run_endRound jump hz, ι3, g1, g2, by rw [e3]; simp [conc], mm1.trans (mm2.trans (mm3.trans mm4))⟩
    cases e with
    | normal =>
      simp only [Option.some.injEq] at hK3
      exact fin none .ready none true rfl rfl rfl hK3.symm
    | exit i =>
      simp only [Option.some.injEq] at hK3
      exact fin (some (.exit i)) .done (some (.exit i)) false rfl rfl rfl hK3.symm
    | ret =>
      simp only [Option.some.injEq] at hK3
      exact fin (some .ret) .done (some .ret) false rfl rfl rfl hK3.symm

/-- A function of a table, as the small code has it, is sound if the calls are. -/
def FunOK (P : Program) (cf : CallF) (n : Nat) (g : FuncId) (F : IFun) : Prop := ∀ {as : List V} {m m' : Mem} {v : V}, m.lo ≤ m.next →
    exec cf n F.body ⟨initA as F.vars, [], enter m⟩ (fun e s => match e with
      | .exit _ => none
      | _ => match resultV s F.results with
        | some v => if V.under s.m.next v then some (settle m s.m v) else none
        | none => none) = some (v, m') →
    ∀ {ι : List Blk} {β : Nat → Nat} {L : Boxes} {w : World}, WR P ι β L m w → ∀ {cas : List Value}, concL ι as = some cas →
    (∀ w', (callFunc g cas.toArray).run P w' = .ok (.enter g cas.toArray) w') ∧ ∀ nn, CallsIn Fence.wide nn P g cas.toArray w (CallR P ι β L m w v m')

theorem call_ok {tab : FuncId → Option IFun} {n : Nat} (hdraw : ∀ d, CallOK P (call tab n d) → ∀ E id ops ic, compC P E (.region id ops true) = some ic → Sound P (call tab n d) n E (.region id ops true) ic)
    (hfun : ∀ d, CallOK P (call tab n d) → ∀ g F, tab g = some F → FunOK P (call tab n d) n g F) : ∀ d, CallOK P (call tab n d)
  | 0 => fun f args m v m' h => by simp [call] at h
  | d + 1 => by
    have ih := call_ok hdraw hfun d
    intro f args m v m' hx ι β L w cf cargs h hf hargs hle
    simp only [call] at hx
    split at hx
    · -- a function
      rename_i g first cap
      have hcf := hf.ok rfl
      simp only [conc, concFn, Option.bind_eq_some_iff, Option.map_eq_some_iff, Option.some.injEq] at hcf
      obtain ⟨_, rfl, cfirst, hcfirst, ccap, hccap, rfl⟩ := hcf
      split at hx
      · rename_i F hg
        split at hx
        · rename_i hu
          have hua : V.underL m.next args = true := by
            rw [underL_iff] at hu ⊢
            exact fun v hv => hu v (by simp [hv])
          have has : concL ι args = some cargs := VRs.under hargs hua
          have hall := concL_append (concL_append hcfirst has) hccap
          obtain ⟨q1, q2⟩ := hfun d ih _ _ hg hle hx h hall
          refine ⟨_, _, _, rfl, _, ?_, .inl ⟨g, _, rfl, q2⟩, fun g' _ => ⟨g, _, rfl⟩⟩
          have := q1 w
          unfold invoke
          rw [← this]
          congr 2
          simp
        · cases hx
      · cases hx
    · -- the yield of a loop
      rename_i l cap
      have hcf := hf.ok rfl
      simp only [conc, concFn, concL, Option.bind_eq_some_iff, Option.map_eq_some_iff, Option.some.injEq] at hcf
      obtain ⟨fb, ⟨b, hb, rfl⟩, _, rfl, ccap, hccap, rfl⟩ := hcf
      split at hx
      · rename_i st pend A ps asg bd hg
        split at hx
        · split at hx
          · cases hx
          · rename_i hok
            split at hx
            · rename_i A1 hA1
              have has : concL ι args = some cargs := oks_VRs hargs (by simpa using hok)
              obtain ⟨f, tmps, assign, body, q1, q2⟩ := yield_sound ih (hdraw d ih) hle hg hA1 hx h hb has
              refine ⟨_, _, _, rfl, _, ?_, .inr ⟨_, _, _, _, _, rfl, q2⟩, fun g' hg' => by cases hg'⟩
              unfold invoke
              rw [← q1]
              congr 1
              simp
            · cases hx
        · cases hx
      · cases hx
    · cases hx

end Go.AI
