/- What the functions of the law answer, first part. -/
import Derived.Test.YtmgbbajgajmdjaaDoorTf
import Derived.Test.YtmgbbajgajmdjaaDoorIb

set_option linter.unusedSimpArgs false
set_option linter.unusedVariables false

namespace Go.AI.Sl
open Go.AI

def IsInts (m : Mem) (v : V) (xs : List Int) : Prop := IsRows 1 m v (xs.map fun x => [.int .i64 x])

theorem IsInts.at {m : Mem} {v : V} {xs : List Int} (h : IsInts m v xs) {i : Nat} (hi : i < xs.length) : ∃ o off, idxV 1 v (some i) = some (.ptr o off) ∧ ∀ L, read1 L m (.ptr o off) = some (.int .i64 (xs.getD i 0)) := by
  obtain ⟨_, _, _, _, h⟩ := h
  obtain ⟨o, off, cs, ro, h1, h2, h3, h4⟩ := h i [.int .i64 xs[i]] (by simp [hi])
  refine ⟨o, off, h1, fun L => ?_⟩
  simp only [read1, h2]
  have : (slice cs off 1)[0]? = some (.int .i64 xs[i]) := by rw [h4]; rfl
  unfold slice at this
  rw [List.getElem?_take_of_lt (by omega), List.getElem?_drop] at this
  simpa [hi] using this

def numOK (x : Int) : Bool := decide (-100 ≤ x) && decide (x ≤ 100)
def numbersB (xs : List Int) (many : Int) : Bool := xs.all numOK && decide ((xs.length : Int) = many)

theorem all_take_succ {α : Type} (p : α → Bool) (xs : List α) (i : Nat) (d : α) (h : i < xs.length) : (xs.take (i + 1)).all p = ((xs.take i).all p && p (xs.getD i d)) := by
  rw [List.take_succ_eq_append_getElem h, List.all_append]
  simp [h]

set_option maxRecDepth 10000
theorem numbers_ok {m : Mem} {v : V} {xs : List Int} (many : Int) (hv : IsInts m v xs) (hlen : xs.length < 1000000) : Ev tab (.fn (.func 32) [] []) [v, .int .i64 many] m (.bool (numbersB xs many)) m := by
  have hl : lenV v = some (.int .i64 xs.length) := by simpa using hv.1
  have hnl := hv.2.2.2.1
  refine Ev_func (F := ir32) rfl (by simp [V.underL, hv.2.1, V.under]) ?_
  simp only [ir32, go_sem, if_true]
  refine WL.mono (W_loop (fun s k => ∃ i : Nat, i ≤ xs.length ∧ k = xs.length - i ∧ (xs.take i).all numOK = true ∧ ∃ a2 a3, s = ⟨[.int .i64 i, v, a2, a3, .int .i64 many, .bool false], [], enter m⟩)
    (Q := fun e s => (e = .exit 0 ∧ xs.all numOK = true ∧ ∃ a0 a2 a3, s = ⟨[a0, v, a2, a3, .int .i64 many, .bool false], [], enter m⟩) ∨ (e = .ret ∧ xs.all numOK = false ∧ ∃ a0 a2 a3, s = ⟨[a0, v, a2, a3, .int .i64 many, .bool false], [], enter m⟩)) ?_ _ xs.length ⟨0, by omega, by omega, by simp, _, _, rfl⟩) ?_
  · rintro s k ⟨i, hi, rfl, hall, a2, a3, rfl⟩
    by_cases hlt : i < xs.length
    · obtain ⟨o, off, h1, h2⟩ := hv.at hlt
      have hs := all_take_succ numOK xs i 0 hlt
      have hw : wrapK .i64 ((i : Int) + 1) = ((i + 1 : Nat) : Int) := by rw [wrapK_in (by omega) (by omega)]; rfl
      have e1 : decide ((i : Int) < (xs.length : Int)) = true := by simpa using hlt
      have hbad : numOK (xs.getD i 0) = false → xs.all numOK = false := fun h => by
        rw [List.all_eq_false]; exact ⟨xs[i], by simp, by simpa [hlt] using h⟩
      generalize xs.getD i 0 = x at h2 hs hbad
      by_cases hx : x < -100
      · simp only [ir32_l0, go_sem, if_true, hl, e1, asNat_nat, h1, h2, hx, decide_true, reduceCtorEq, false_and, true_and, false_or]
        exact ⟨hbad (by simp [numOK]; omega), _, _, _, rfl⟩
      · by_cases hy : x > 100
        · simp only [ir32_l0, go_sem, if_true, hl, e1, asNat_nat, h1, h2, hx, hy, decide_true, decide_false, reduceCtorEq, false_and, true_and, false_or, hnl]
          exact ⟨hbad (by simp [numOK]; omega), _, _, _, rfl⟩
        · simp only [ir32_l0, go_sem, if_true, hl, e1, asNat_nat, h1, h2, hx, hy, decide_true, decide_false, reduceCtorEq, false_and, true_and, false_or, hnl, hw]
          exact ⟨xs.length - (i + 1), by omega, i + 1, by omega, rfl, by rw [hs, hall]; simp [numOK]; omega, _, _, rfl⟩
    · have e1 : decide ((i : Int) < (xs.length : Int)) = false := by simpa using hlt
      simp only [ir32_l0, go_sem, if_true, hl, e1]
      obtain rfl : i = xs.length := by omega
      exact .inl ⟨trivial, by simpa using hall, _, _, _, rfl⟩
  · rintro e s (⟨rfl, hall, a0, a2, a3, rfl⟩ | ⟨rfl, hall, a0, a2, a3, rfl⟩)
    · simp only [go_sem, if_true, hl]
      refine ⟨trivial, ?_⟩
      rw [show numbersB xs many = ((xs.length : Int) == many) by simp [numbersB, hall]; rfl]
      exact fin_same rfl rfl
    · simp only [go_sem, if_true]
      refine ⟨trivial, ?_⟩
      rw [show numbersB xs many = false by simp [numbersB, hall]]
      exact fin_same rfl rfl
end Go.AI.Sl

namespace Go.AI.Sl
open Go.AI
set_option maxRecDepth 10000

/-- A ground as a value. -/
structure IsG (m : Mem) (v : V) (N : Int) (E : List (Int × Int)) (X : List (Int × Int × Int)) : Prop where
  ex : ∃ vE vP, v = .agg [.int .i64 N, vE, vP] ∧ IsE m vE E ∧ IsP m vP X

def edgeI (E : List (Int × Int)) (a b : Int) : Int := match E.findIdx? (fun e => e.1 == min a b && e.2 == max a b) with | some i => (i : Int) | none => -1

theorem edge_ok {m : Mem} {N : Int} {vE vP : V} {E : List (Int × Int)} {X : List (Int × Int × Int)} (hE : IsE m vE E) (hP : IsP m vP X) (hlen : E.length < 1000000) (a b : Int) :
    Ev tab (.fn (.func 52) [] []) [.agg [.int .i64 N, vE, vP], .int .i64 a, .int .i64 b] m (.int .i64 (edgeI E a b)) m := by
  have hl : lenV vE = some (.int .i64 E.length) := by simpa using hE.len
  refine Ev_func (F := ir52) rfl (by simp [V.underL, V.under, hE.un, hP.un]) ?_
  simp only [ir52, go_sem, hE.one, hP.one]
  refine WL.mono (W_loop (fun s k => ∃ i : Nat, i ≤ E.length ∧ k = E.length - i ∧ (∀ j (h : j < E.length), j < i → (E[j].1 == min a b && E[j].2 == max a b) = false) ∧ ∃ a2 a5, s = ⟨[.agg [.int .i64 N, vE, vP], .int .i64 i, a2, .int .i64 a, .int .i64 b, a5, .int .i64 0], [[.int .i64 N, vE, vP]], enter m⟩)
    (Q := fun e s => (e = .exit 0 ∧ edgeI E a b = -1 ∧ ∃ a1 a2 a5, s = ⟨[.agg [.int .i64 N, vE, vP], a1, a2, .int .i64 a, .int .i64 b, a5, .int .i64 0], [[.int .i64 N, vE, vP]], enter m⟩) ∨ (e = .ret ∧ ∃ a1 a2 a5, s = ⟨[.agg [.int .i64 N, vE, vP], a1, a2, .int .i64 a, .int .i64 b, a5, .int .i64 (edgeI E a b)], [[.int .i64 N, vE, vP]], enter m⟩)) ?_ _ E.length ⟨0, by omega, by omega, by simp, _, _, rfl⟩) ?_
  · rintro s k ⟨i, hi, rfl, hall, a2, a5, rfl⟩
    by_cases hlt : i < E.length
    · obtain ⟨o, off, h1, h2, _⟩ := hE.at hlt
      have hw : wrapK .i64 ((i : Int) + 1) = ((i + 1 : Nat) : Int) := by rw [wrapK_in (by omega) (by omega)]; rfl
      have e1 : decide ((i : Int) < (E.length : Int)) = true := by simpa using hlt
      cases hx : (E[i].1 == min a b && E[i].2 == max a b) with
      | true =>
        simp only [ir52_l0, hl, e1, h1, h2, hx, if_false, if_true, Nat.reduceAdd, Nat.reduceMul, Nat.reduceLT, Nat.reduceLeDiff, Nat.reduceEqDiff, Nat.reduceSub, reduceCtorEq, false_and, true_and, false_or, or_false, asNat_nat, go_sem]
        rw [show edgeI E a b = (i : Int) by
          unfold edgeI
          rw [List.findIdx?_eq_some_iff_getElem.2 ⟨hlt, hx, fun j hj => by have := hall j (by omega) hj; rw [this]; simp⟩]]
        exact ⟨_, _, _, rfl⟩
      | false =>
        simp only [ir52_l0, hl, e1, h1, h2, hx, hw, if_false, if_true, Nat.reduceAdd, Nat.reduceMul, Nat.reduceLT, Nat.reduceLeDiff, Nat.reduceEqDiff, Nat.reduceSub, reduceCtorEq, false_and, true_and, false_or, or_false, asNat_nat, go_sem]
        refine ⟨E.length - (i + 1), by omega, i + 1, by omega, rfl, fun j hj hji => ?_, _, _, rfl⟩
        rcases Nat.lt_succ_iff_lt_or_eq.1 hji with h | h
        · exact hall j hj h
        · subst h; exact hx
    · have e1 : decide ((i : Int) < (E.length : Int)) = false := by simpa using hlt
      simp only [ir52_l0, hl, e1, if_false, if_true, Nat.reduceAdd, Nat.reduceMul, Nat.reduceLT, Nat.reduceLeDiff, Nat.reduceEqDiff, Nat.reduceSub, reduceCtorEq, false_and, true_and, false_or, or_false, asNat_nat, go_sem]
      refine ⟨?_, _, _, _, rfl⟩
      unfold edgeI
      rw [List.findIdx?_eq_none_iff.2 fun e he => ?_]
      obtain ⟨j, hj, rfl⟩ := List.getElem_of_mem he
      exact hall j hj (by omega)
  · rintro e s (⟨rfl, hall, a1, a2, a5, rfl⟩ | ⟨rfl, a1, a2, a5, rfl⟩)
    · simp only [if_false, if_true, Nat.reduceAdd, Nat.reduceMul, Nat.reduceLT, Nat.reduceLeDiff, Nat.reduceEqDiff, Nat.reduceSub, reduceCtorEq, false_and, true_and, false_or, or_false, asNat_nat, go_sem]
      rw [hall]
      exact fin_same rfl rfl
    · simp only [if_false, if_true, Nat.reduceAdd, Nat.reduceMul, Nat.reduceLT, Nat.reduceLeDiff, Nat.reduceEqDiff, Nat.reduceSub, reduceCtorEq, false_and, true_and, false_or, or_false, asNat_nat, go_sem]
      exact fin_same rfl rfl
end Go.AI.Sl

namespace Go.AI.Sl
open Go.AI
set_option maxRecDepth 10000

def beforeB (p q : Int × Int × Int) : Bool :=
  if p.1 = q.1 then if p.2.1 = q.2.1 then if p.2.2 = q.2.2 then false else decide (p.2.2 < q.2.2) else decide (p.2.1 < q.2.1) else decide (p.1 < q.1)

theorem before_ok (m : Mem) (p q : Int × Int × Int) : Ev tab (.fn (.func 80) [] []) [.agg (tr p), .agg (tr q)] m (.bool (beforeB p q)) m := by
  obtain ⟨a, b, c⟩ := p
  obtain ⟨x, y, z⟩ := q
  refine Ev_func (F := ir80) rfl rfl ?_
  simp only [ir80, tr, if_false, if_true, Nat.reduceAdd, Nat.reduceMul, Nat.reduceLT, Nat.reduceLeDiff, Nat.reduceEqDiff, Nat.reduceSub, reduceCtorEq, false_and, true_and, false_or, or_false, asNat_nat, go_sem]
  unfold beforeB
  by_cases h0 : a = x
  · have e0 : (a != x) = false := by simp [h0]
    refine W_unroll ?_
    simp only [ir80_l0, e0, if_false, if_true, Nat.reduceAdd, Nat.reduceMul, Nat.reduceLT, Nat.reduceLeDiff, Nat.reduceEqDiff, Nat.reduceSub, reduceCtorEq, false_and, true_and, false_or, or_false, asNat_nat, go_sem]
    by_cases h1 : b = y
    · have e1 : (b != y) = false := by simp [h1]
      refine W_unroll ?_
      simp only [ir80_l0, e1, if_false, if_true, Nat.reduceAdd, Nat.reduceMul, Nat.reduceLT, Nat.reduceLeDiff, Nat.reduceEqDiff, Nat.reduceSub, reduceCtorEq, false_and, true_and, false_or, or_false, asNat_nat, go_sem]
      by_cases h2 : c = z
      · have e2 : (c != z) = false := by simp [h2]
        refine W_unroll ?_
        simp only [ir80_l0, e2, if_false, if_true, Nat.reduceAdd, Nat.reduceMul, Nat.reduceLT, Nat.reduceLeDiff, Nat.reduceEqDiff, Nat.reduceSub, reduceCtorEq, false_and, true_and, false_or, or_false, asNat_nat, go_sem]
        refine W_unroll ?_
        simp only [ir80_l0, h0, h1, h2, if_false, if_true, Nat.reduceAdd, Nat.reduceMul, Nat.reduceLT, Nat.reduceLeDiff, Nat.reduceEqDiff, Nat.reduceSub, reduceCtorEq, false_and, true_and, false_or, or_false, asNat_nat, go_sem]
        exact fin_same rfl rfl
      · have e2 : (c != z) = true := by simp [h2]
        refine W_unroll ?_
        simp only [ir80_l0, e2, h0, h1, h2, if_false, if_true, Nat.reduceAdd, Nat.reduceMul, Nat.reduceLT, Nat.reduceLeDiff, Nat.reduceEqDiff, Nat.reduceSub, reduceCtorEq, false_and, true_and, false_or, or_false, asNat_nat, go_sem]
        exact fin_same rfl rfl
    · have e1 : (b != y) = true := by simp [h1]
      refine W_unroll ?_
      simp only [ir80_l0, e1, h0, h1, if_false, if_true, Nat.reduceAdd, Nat.reduceMul, Nat.reduceLT, Nat.reduceLeDiff, Nat.reduceEqDiff, Nat.reduceSub, reduceCtorEq, false_and, true_and, false_or, or_false, asNat_nat, go_sem]
      exact fin_same rfl rfl
  · have e0 : (a != x) = true := by simp [h0]
    refine W_unroll ?_
    simp only [ir80_l0, e0, h0, if_false, if_true, Nat.reduceAdd, Nat.reduceMul, Nat.reduceLT, Nat.reduceLeDiff, Nat.reduceEqDiff, Nat.reduceSub, reduceCtorEq, false_and, true_and, false_or, or_false, asNat_nat, go_sem]
    exact fin_same rfl rfl
end Go.AI.Sl

namespace Go.AI.Sl
open Go.AI
set_option maxRecDepth 10000

def lexB (p q : Int × Int) : Bool := decide (p.1 < q.1) || (p.1 == q.1 && decide (p.2 < q.2))
def edgeOK (N : Int) (E : List (Int × Int)) (i : Nat) : Bool :=
  decide (0 ≤ (E.getD i (0, 0)).1) && decide ((E.getD i (0, 0)).1 < (E.getD i (0, 0)).2) && decide ((E.getD i (0, 0)).2 < N) && (decide (i = 0) || lexB (E.getD (i - 1) (0, 0)) (E.getD i (0, 0)))
def plateOK (E : List (Int × Int)) (X : List (Int × Int × Int)) (i : Nat) : Bool :=
  let p := X.getD i (0, 0, 0)
  decide (p.1 < p.2.1) && decide (p.2.1 < p.2.2) && decide (0 ≤ edgeI E p.1 p.2.1) && decide (0 ≤ edgeI E p.1 p.2.2) && decide (0 ≤ edgeI E p.2.1 p.2.2) && (decide (i = 0) || beforeB (X.getD (i - 1) (0, 0, 0)) p)
def upTo (n : Nat) (p : Nat → Bool) : Bool := (List.range n).all p
theorem upTo_zero (p : Nat → Bool) : upTo 0 p = true := rfl
theorem upTo_succ (n : Nat) (p : Nat → Bool) : upTo (n + 1) p = (upTo n p && p n) := by simp [upTo, List.range_succ]
theorem upTo_false {n i : Nat} {p : Nat → Bool} (h : i < n) (hp : p i = false) : upTo n p = false := by
  unfold upTo; rw [List.all_eq_false]; exact ⟨i, List.mem_range.2 h, by simp [hp]⟩

def checkB (N : Int) (E : List (Int × Int)) (X : List (Int × Int × Int)) : Bool :=
  decide (1 ≤ N) && decide (N ≤ 6) && decide (E.length ≤ 10) && decide (X.length ≤ 6) && upTo E.length (edgeOK N E) && upTo X.length (plateOK E X)

theorem getD_eq {α : Type} {l : List α} {i : Nat} {d : α} (h : i < l.length) : l.getD i d = l[i] := by simp [h]

section
variable {m : Mem} {N : Int} {vE vP : V} {E : List (Int × Int)} {X : List (Int × Int × Int)}

/-- The edges of the reference's look. -/
theorem check49_l0 (hE : IsE m vE E) (hP : IsP m vP X) (hlen : E.length < 1000000) (hlx : X.length < 1000000) (a2 a3 a4 a5 a6 a7 a8 a9 : V) :
    WL tab ir49_l0 ⟨[.agg [.int .i64 N, vE, vP], a2, .int .i64 0, a3, a4, a5, a6, a7, a8, a9, .bool false], [[.int .i64 N, vE, vP]], enter m⟩ (fun e s =>
      (e = .exit 0 ∧ upTo E.length (edgeOK N E) = true ∧ ∃ b2 b3 b4 b5 b6, s = ⟨[.agg [.int .i64 N, vE, vP], a2, b2, b3, b4, b5, b6, a7, a8, a9, .bool false], [[.int .i64 N, vE, vP]], enter m⟩) ∨
      (e = .ret ∧ upTo E.length (edgeOK N E) = false ∧ s.A.getD 10 .dead = .bool false ∧ s.m = enter m)) := by
  have hl : lenV vE = some (.int .i64 E.length) := by simpa using hE.len
  refine W_loop (fun s k => ∃ i : Nat, i ≤ E.length ∧ k = E.length - i ∧ upTo i (edgeOK N E) = true ∧ ∃ b3 b4 b5 b6, s = ⟨[.agg [.int .i64 N, vE, vP], a2, .int .i64 i, b3, b4, b5, b6, a7, a8, a9, .bool false], [[.int .i64 N, vE, vP]], enter m⟩) ?_ _ E.length ⟨0, by omega, by omega, rfl, _, _, _, _, rfl⟩
  rintro s k ⟨i, hi, rfl, hall, b3, b4, b5, b6, rfl⟩
  by_cases hlt : i < E.length
  · obtain ⟨o, off, h1, h2, h3, h4⟩ := hE.at hlt
    have hw : wrapK .i64 ((i : Int) + 1) = ((i + 1 : Nat) : Int) := by rw [wrapK_in (by omega) (by omega)]; rfl
    have e1 : decide ((i : Int) < (E.length : Int)) = true := by simpa using hlt
    have hbad : edgeOK N E i = false → upTo E.length (edgeOK N E) = false := upTo_false hlt
    have hgood : edgeOK N E i = true → upTo (i + 1) (edgeOK N E) = true := fun h => by rw [upTo_succ, hall, h]; rfl
    have hdef : edgeOK N E i = (decide (0 ≤ E[i].1) && decide (E[i].1 < E[i].2) && decide (E[i].2 < N) && (decide (i = 0) || lexB (E.getD (i - 1) (0, 0)) E[i])) := by unfold edgeOK; rw [getD_eq hlt]
    rw [hdef] at hbad hgood
    clear hdef
    generalize hae : E[i].1 = a at *
    generalize hbe : E[i].2 = b at *
    by_cases c1 : a < 0
    · simp only [ir49_l0, hl, e1, h1, h2, h3, h4, c1, if_false, if_true, Nat.reduceAdd, Nat.reduceMul, Nat.reduceLT, Nat.reduceLeDiff, Nat.reduceEqDiff, Nat.reduceSub, reduceCtorEq, false_and, true_and, false_or, or_false, asNat_nat, go_sem]
      exact ⟨hbad (by simp; omega), trivial⟩
    by_cases c2 : a ≥ b
    · simp only [ir49_l0, hl, e1, h1, h2, h3, h4, c1, c2, if_false, if_true, Nat.reduceAdd, Nat.reduceMul, Nat.reduceLT, Nat.reduceLeDiff, Nat.reduceEqDiff, Nat.reduceSub, reduceCtorEq, false_and, true_and, false_or, or_false, asNat_nat, go_sem]
      exact ⟨hbad (by simp; omega), trivial⟩
    by_cases c3 : b ≥ N
    · simp only [ir49_l0, hl, e1, h1, h2, h3, h4, c1, c2, c3, if_false, if_true, Nat.reduceAdd, Nat.reduceMul, Nat.reduceLT, Nat.reduceLeDiff, Nat.reduceEqDiff, Nat.reduceSub, reduceCtorEq, false_and, true_and, false_or, or_false, asNat_nat, go_sem]
      exact ⟨hbad (by simp; omega), trivial⟩
    by_cases c4 : (i : Int) > 0
    · have hi1 : i - 1 < E.length := by omega
      obtain ⟨o', off', g1, g2, g3, g4⟩ := hE.at hi1
      have hw1 : wrapK .i64 ((i : Int) - 1) = ((i - 1 : Nat) : Int) := by rw [wrapK_in (by omega) (by omega)]; omega
      have hne : i ≠ 0 := by omega
      rw [getD_eq hi1] at hbad hgood
      simp only [lexB] at hbad hgood
      generalize hpe : E[i - 1].1 = pa at *
      generalize hqe : E[i - 1].2 = pb at *
      rw [hae, hbe] at hbad hgood
      by_cases c5 : pa > a
      · have c5' : (pa == a) = false := by simp; omega
        simp only [ir49_l0, hl, e1, h1, h2, h3, h4, c1, c2, c3, c4, hw1, g1, g2, g3, g4, c5, c5', if_false, if_true, Nat.reduceAdd, Nat.reduceMul, Nat.reduceLT, Nat.reduceLeDiff, Nat.reduceEqDiff, Nat.reduceSub, reduceCtorEq, false_and, true_and, false_or, or_false, asNat_nat, go_sem]
        exact ⟨hbad (by simp; omega), trivial⟩
      by_cases c6 : pa = a
      · have c6' : (pa == a) = true := by simp [c6]
        by_cases c7 : pb ≥ b
        · simp only [ir49_l0, hl, e1, h1, h2, h3, h4, c1, c2, c3, c4, hw1, g1, g2, g3, g4, c5, c6', c7, if_false, if_true, Nat.reduceAdd, Nat.reduceMul, Nat.reduceLT, Nat.reduceLeDiff, Nat.reduceEqDiff, Nat.reduceSub, reduceCtorEq, false_and, true_and, false_or, or_false, asNat_nat, go_sem]
          exact ⟨hbad (by simp; omega), trivial⟩
        · simp only [ir49_l0, hl, e1, h1, h2, h3, h4, c1, c2, c3, c4, hw1, g1, g2, g3, g4, c5, c6', c7, hw, if_false, if_true, Nat.reduceAdd, Nat.reduceMul, Nat.reduceLT, Nat.reduceLeDiff, Nat.reduceEqDiff, Nat.reduceSub, reduceCtorEq, false_and, true_and, false_or, or_false, asNat_nat, go_sem]
          exact ⟨E.length - (i + 1), by omega, i + 1, by omega, rfl, hgood (by simp; omega), _, _, _, _, rfl⟩
      · have c6' : (pa == a) = false := by simp [c6]
        simp only [ir49_l0, hl, e1, h1, h2, h3, h4, c1, c2, c3, c4, hw1, g1, g2, g3, g4, c5, c6', hw, if_false, if_true, Nat.reduceAdd, Nat.reduceMul, Nat.reduceLT, Nat.reduceLeDiff, Nat.reduceEqDiff, Nat.reduceSub, reduceCtorEq, false_and, true_and, false_or, or_false, asNat_nat, go_sem]
        exact ⟨E.length - (i + 1), by omega, i + 1, by omega, rfl, hgood (by simp; omega), _, _, _, _, rfl⟩
    · have hz : i = 0 := by omega
      simp only [ir49_l0, hl, e1, h1, h2, h3, h4, c1, c2, c3, c4, hw, if_false, if_true, Nat.reduceAdd, Nat.reduceMul, Nat.reduceLT, Nat.reduceLeDiff, Nat.reduceEqDiff, Nat.reduceSub, reduceCtorEq, false_and, true_and, false_or, or_false, asNat_nat, go_sem]
      exact ⟨E.length - (i + 1), by omega, i + 1, by omega, rfl, hgood (by simp [hz]; omega), _, _, _, _, rfl⟩
  · have e1 : decide ((i : Int) < (E.length : Int)) = false := by simpa using hlt
    simp only [ir49_l0, hl, e1, if_false, if_true, Nat.reduceAdd, Nat.reduceMul, Nat.reduceLT, Nat.reduceLeDiff, Nat.reduceEqDiff, Nat.reduceSub, reduceCtorEq, false_and, true_and, false_or, or_false, asNat_nat, go_sem]
    obtain rfl : i = E.length := by omega
    exact ⟨hall, _, _, _, _, _, rfl⟩
end
end Go.AI.Sl

namespace Go.AI.Sl
open Go.AI
set_option maxRecDepth 10000
section
variable {m : Mem} {N : Int} {vE vP : V} {E : List (Int × Int)} {X : List (Int × Int × Int)}

/-- The plates of the reference's look. -/
theorem check49_l1 (hE : IsE m vE E) (hP : IsP m vP X) (hlen : E.length < 1000000) (hlx : X.length < 1000000) (a1 a2 a3 a4 a5 a6 a8 a9 : V) :
    WL tab ir49_l1 ⟨[.agg [.int .i64 N, vE, vP], a1, a2, a3, a4, a5, a6, .int .i64 0, a8, a9, .bool false], [[.int .i64 N, vE, vP]], enter m⟩ (fun e s =>
      (e = .exit 2 ∧ upTo X.length (plateOK E X) = true ∧ ∃ b7 b8 b9 L, s = ⟨[.agg [.int .i64 N, vE, vP], a1, a2, a3, a4, a5, a6, b7, b8, b9, .bool false], L, enter m⟩) ∨
      (e = .ret ∧ upTo X.length (plateOK E X) = false ∧ s.A.getD 10 .dead = .bool false ∧ s.m = enter m)) := by
  have hl : lenV vP = some (.int .i64 X.length) := by simpa using hP.len
  refine W_loop (fun s k => ∃ i : Nat, i ≤ X.length ∧ k = X.length - i ∧ upTo i (plateOK E X) = true ∧ ∃ b8 b9, (s = ⟨[.agg [.int .i64 N, vE, vP], a1, a2, a3, a4, a5, a6, .int .i64 i, b8, b9, .bool false], [[.int .i64 N, vE, vP]], enter m⟩ ∨
    ∃ c, s = ⟨[.agg [.int .i64 N, vE, vP], a1, a2, a3, a4, a5, a6, .int .i64 i, b8, b9, .bool false], [[.int .i64 N, vE, vP], c], enter m⟩)) ?_ _ X.length ⟨0, by omega, by omega, rfl, _, _, .inl rfl⟩
  rintro s k ⟨i, hi, rfl, hall, b8, b9, hs⟩
  by_cases hlt : i < X.length
  · obtain ⟨o, off, h1, h2, _, _, _⟩ := hP.at hlt
    have hw : wrapK .i64 ((i : Int) + 1) = ((i + 1 : Nat) : Int) := by rw [wrapK_in (by omega) (by omega)]; rfl
    have e1 : decide ((i : Int) < (X.length : Int)) = true := by simpa using hlt
    have hbad : plateOK E X i = false → upTo X.length (plateOK E X) = false := upTo_false hlt
    have hgood : plateOK E X i = true → upTo (i + 1) (plateOK E X) = true := fun h => by rw [upTo_succ, hall, h]; rfl
    have hdef : plateOK E X i = (decide (X[i].1 < X[i].2.1) && decide (X[i].2.1 < X[i].2.2) && decide (0 ≤ edgeI E X[i].1 X[i].2.1) && decide (0 ≤ edgeI E X[i].1 X[i].2.2) && decide (0 ≤ edgeI E X[i].2.1 X[i].2.2) && (decide (i = 0) || beforeB (X.getD (i - 1) (0, 0, 0)) X[i])) := by unfold plateOK; rw [getD_eq hlt]
    rw [hdef] at hbad hgood
    clear hdef
    have hx : tr X[i] = [.int .i64 X[i].1, .int .i64 X[i].2.1, .int .i64 X[i].2.2] := rfl
    generalize hp0 : X[i].1 = p0 at *
    generalize hp1 : X[i].2.1 = p1 at *
    generalize hp2 : X[i].2.2 = p2 at *
    have k1 := edge_ok (N := N) hE.enter hP.enter hlen p0 p1
    have k2 := edge_ok (N := N) hE.enter hP.enter hlen p0 p2
    have k3 := edge_ok (N := N) hE.enter hP.enter hlen p1 p2
    have tail : ∀ (t : St), (t = ⟨[.agg [.int .i64 N, vE, vP], a1, a2, a3, a4, a5, a6, .int .i64 i, b8, b9, .bool false], [[.int .i64 N, vE, vP]], enter m⟩ ∨
        ∃ c, t = ⟨[.agg [.int .i64 N, vE, vP], a1, a2, a3, a4, a5, a6, .int .i64 i, b8, b9, .bool false], [[.int .i64 N, vE, vP], c], enter m⟩) → t = s → True := fun _ _ _ => trivial
    by_cases c1 : p0 ≥ p1
    · rcases hs with rfl | ⟨c, rfl⟩ <;>
      · simp only [ir49_l1, hl, e1, h1, h2, c1, if_false, if_true, Nat.reduceAdd, Nat.reduceMul, Nat.reduceLT, Nat.reduceLeDiff, Nat.reduceEqDiff, Nat.reduceSub, reduceCtorEq, false_and, true_and, false_or, or_false, asNat_nat, go_sem]
        exact ⟨hbad (by simp; omega), trivial⟩
    by_cases c2 : p1 ≥ p2
    · rcases hs with rfl | ⟨c, rfl⟩ <;>
      · simp only [ir49_l1, hl, e1, h1, h2, c1, c2, if_false, if_true, Nat.reduceAdd, Nat.reduceMul, Nat.reduceLT, Nat.reduceLeDiff, Nat.reduceEqDiff, Nat.reduceSub, reduceCtorEq, false_and, true_and, false_or, or_false, asNat_nat, go_sem]
        exact ⟨hbad (by simp; omega), trivial⟩
    by_cases c3 : edgeI E p0 p1 < 0
    · rcases hs with rfl | ⟨c, rfl⟩ <;>
      · simp only [ir49_l1, hl, e1, h1, h2, c1, c2, if_false, if_true, Nat.reduceAdd, Nat.reduceMul, Nat.reduceLT, Nat.reduceLeDiff, Nat.reduceEqDiff, Nat.reduceSub, reduceCtorEq, false_and, true_and, false_or, or_false, asNat_nat, go_sem]
        refine k1.callT ?_
        simp only [c3, if_false, if_true, Nat.reduceAdd, Nat.reduceMul, Nat.reduceLT, Nat.reduceLeDiff, Nat.reduceEqDiff, Nat.reduceSub, reduceCtorEq, false_and, true_and, false_or, or_false, asNat_nat, go_sem]
        exact ⟨hbad (by simp; omega), trivial⟩
    by_cases c4 : edgeI E p0 p2 < 0
    · rcases hs with rfl | ⟨c, rfl⟩ <;>
      · simp only [ir49_l1, hl, e1, h1, h2, c1, c2, if_false, if_true, Nat.reduceAdd, Nat.reduceMul, Nat.reduceLT, Nat.reduceLeDiff, Nat.reduceEqDiff, Nat.reduceSub, reduceCtorEq, false_and, true_and, false_or, or_false, asNat_nat, go_sem]
        refine k1.callT ?_
        simp only [c3, if_false, if_true, Nat.reduceAdd, Nat.reduceMul, Nat.reduceLT, Nat.reduceLeDiff, Nat.reduceEqDiff, Nat.reduceSub, reduceCtorEq, false_and, true_and, false_or, or_false, asNat_nat, go_sem]
        refine k2.callT ?_
        simp only [c4, if_false, if_true, Nat.reduceAdd, Nat.reduceMul, Nat.reduceLT, Nat.reduceLeDiff, Nat.reduceEqDiff, Nat.reduceSub, reduceCtorEq, false_and, true_and, false_or, or_false, asNat_nat, go_sem]
        exact ⟨hbad (by simp; omega), trivial⟩
    by_cases c5 : edgeI E p1 p2 < 0
    · rcases hs with rfl | ⟨c, rfl⟩ <;>
      · simp only [ir49_l1, hl, e1, h1, h2, c1, c2, if_false, if_true, Nat.reduceAdd, Nat.reduceMul, Nat.reduceLT, Nat.reduceLeDiff, Nat.reduceEqDiff, Nat.reduceSub, reduceCtorEq, false_and, true_and, false_or, or_false, asNat_nat, go_sem]
        refine k1.callT ?_
        simp only [c3, if_false, if_true, Nat.reduceAdd, Nat.reduceMul, Nat.reduceLT, Nat.reduceLeDiff, Nat.reduceEqDiff, Nat.reduceSub, reduceCtorEq, false_and, true_and, false_or, or_false, asNat_nat, go_sem]
        refine k2.callT ?_
        simp only [c4, if_false, if_true, Nat.reduceAdd, Nat.reduceMul, Nat.reduceLT, Nat.reduceLeDiff, Nat.reduceEqDiff, Nat.reduceSub, reduceCtorEq, false_and, true_and, false_or, or_false, asNat_nat, go_sem]
        refine k3.callT ?_
        simp only [c5, if_false, if_true, Nat.reduceAdd, Nat.reduceMul, Nat.reduceLT, Nat.reduceLeDiff, Nat.reduceEqDiff, Nat.reduceSub, reduceCtorEq, false_and, true_and, false_or, or_false, asNat_nat, go_sem]
        exact ⟨hbad (by simp; omega), trivial⟩
    by_cases c6 : (i : Int) > 0
    · have hi1 : i - 1 < X.length := by omega
      obtain ⟨o', off', g1, g2, _⟩ := hP.at hi1
      have hw1 : wrapK .i64 ((i : Int) - 1) = ((i - 1 : Nat) : Int) := by rw [wrapK_in (by omega) (by omega)]; omega
      have hne : i ≠ 0 := by omega
      rw [getD_eq hi1] at hbad hgood
      have k4 := before_ok (enter m) X[i - 1] X[i]
      have hy : tr X[i - 1] = [.int .i64 X[i - 1].1, .int .i64 X[i - 1].2.1, .int .i64 X[i - 1].2.2] := rfl
      rw [hx, hy] at k4
      cases hb : beforeB X[i - 1] X[i] with
      | false =>
        rw [hb] at k4 hbad
        rcases hs with rfl | ⟨c, rfl⟩ <;>
        · simp only [ir49_l1, hl, e1, h1, h2, c1, c2, if_false, if_true, Nat.reduceAdd, Nat.reduceMul, Nat.reduceLT, Nat.reduceLeDiff, Nat.reduceEqDiff, Nat.reduceSub, reduceCtorEq, false_and, true_and, false_or, or_false, asNat_nat, go_sem]
          refine k1.callT ?_
          simp only [c3, if_false, if_true, Nat.reduceAdd, Nat.reduceMul, Nat.reduceLT, Nat.reduceLeDiff, Nat.reduceEqDiff, Nat.reduceSub, reduceCtorEq, false_and, true_and, false_or, or_false, asNat_nat, go_sem]
          refine k2.callT ?_
          simp only [c4, if_false, if_true, Nat.reduceAdd, Nat.reduceMul, Nat.reduceLT, Nat.reduceLeDiff, Nat.reduceEqDiff, Nat.reduceSub, reduceCtorEq, false_and, true_and, false_or, or_false, asNat_nat, go_sem]
          refine k3.callT ?_
          simp only [c5, c6, hw1, g1, g2, if_false, if_true, Nat.reduceAdd, Nat.reduceMul, Nat.reduceLT, Nat.reduceLeDiff, Nat.reduceEqDiff, Nat.reduceSub, reduceCtorEq, false_and, true_and, false_or, or_false, asNat_nat, go_sem]
          refine k4.callT ?_
          simp only [if_false, if_true, Nat.reduceAdd, Nat.reduceMul, Nat.reduceLT, Nat.reduceLeDiff, Nat.reduceEqDiff, Nat.reduceSub, reduceCtorEq, false_and, true_and, false_or, or_false, asNat_nat, go_sem]
          exact ⟨hbad (by simp [hne]), trivial⟩
      | true =>
        rw [hb] at k4 hgood
        rcases hs with rfl | ⟨c, rfl⟩ <;>
        · simp only [ir49_l1, hl, e1, h1, h2, c1, c2, if_false, if_true, Nat.reduceAdd, Nat.reduceMul, Nat.reduceLT, Nat.reduceLeDiff, Nat.reduceEqDiff, Nat.reduceSub, reduceCtorEq, false_and, true_and, false_or, or_false, asNat_nat, go_sem]
          refine k1.callT ?_
          simp only [c3, if_false, if_true, Nat.reduceAdd, Nat.reduceMul, Nat.reduceLT, Nat.reduceLeDiff, Nat.reduceEqDiff, Nat.reduceSub, reduceCtorEq, false_and, true_and, false_or, or_false, asNat_nat, go_sem]
          refine k2.callT ?_
          simp only [c4, if_false, if_true, Nat.reduceAdd, Nat.reduceMul, Nat.reduceLT, Nat.reduceLeDiff, Nat.reduceEqDiff, Nat.reduceSub, reduceCtorEq, false_and, true_and, false_or, or_false, asNat_nat, go_sem]
          refine k3.callT ?_
          simp only [c5, c6, hw1, g1, g2, if_false, if_true, Nat.reduceAdd, Nat.reduceMul, Nat.reduceLT, Nat.reduceLeDiff, Nat.reduceEqDiff, Nat.reduceSub, reduceCtorEq, false_and, true_and, false_or, or_false, asNat_nat, go_sem]
          refine k4.callT ?_
          simp only [hw, if_false, if_true, Nat.reduceAdd, Nat.reduceMul, Nat.reduceLT, Nat.reduceLeDiff, Nat.reduceEqDiff, Nat.reduceSub, reduceCtorEq, false_and, true_and, false_or, or_false, asNat_nat, go_sem]
          exact ⟨X.length - (i + 1), by omega, i + 1, by omega, rfl, hgood (by simp; omega), _, _, .inr ⟨_, rfl⟩⟩
    · have hz : i = 0 := by omega
      rcases hs with rfl | ⟨c, rfl⟩ <;>
      · simp only [ir49_l1, hl, e1, h1, h2, c1, c2, if_false, if_true, Nat.reduceAdd, Nat.reduceMul, Nat.reduceLT, Nat.reduceLeDiff, Nat.reduceEqDiff, Nat.reduceSub, reduceCtorEq, false_and, true_and, false_or, or_false, asNat_nat, go_sem]
        refine k1.callT ?_
        simp only [c3, if_false, if_true, Nat.reduceAdd, Nat.reduceMul, Nat.reduceLT, Nat.reduceLeDiff, Nat.reduceEqDiff, Nat.reduceSub, reduceCtorEq, false_and, true_and, false_or, or_false, asNat_nat, go_sem]
        refine k2.callT ?_
        simp only [c4, if_false, if_true, Nat.reduceAdd, Nat.reduceMul, Nat.reduceLT, Nat.reduceLeDiff, Nat.reduceEqDiff, Nat.reduceSub, reduceCtorEq, false_and, true_and, false_or, or_false, asNat_nat, go_sem]
        refine k3.callT ?_
        simp only [c5, c6, hw, if_false, if_true, Nat.reduceAdd, Nat.reduceMul, Nat.reduceLT, Nat.reduceLeDiff, Nat.reduceEqDiff, Nat.reduceSub, reduceCtorEq, false_and, true_and, false_or, or_false, asNat_nat, go_sem]
        exact ⟨X.length - (i + 1), by omega, i + 1, by omega, rfl, hgood (by simp [hz]; omega), _, _, .inr ⟨_, rfl⟩⟩
  · have e1 : decide ((i : Int) < (X.length : Int)) = false := by simpa using hlt
    obtain rfl : i = X.length := by omega
    rcases hs with rfl | ⟨c, rfl⟩ <;>
    · simp only [ir49_l1, hl, e1, if_false, if_true, Nat.reduceAdd, Nat.reduceMul, Nat.reduceLT, Nat.reduceLeDiff, Nat.reduceEqDiff, Nat.reduceSub, reduceCtorEq, false_and, true_and, false_or, or_false, asNat_nat, go_sem]
      exact ⟨hall, _, _, _, _, rfl⟩

theorem check49_ok (hE : IsE m vE E) (hP : IsP m vP X) (hlen : E.length < 1000000) (hlx : X.length < 1000000) : Ev tab (.fn (.func 49) [] []) [.agg [.int .i64 N, vE, vP]] m (.bool (checkB N E X)) m := by
  have hlE : lenV vE = some (.int .i64 E.length) := by simpa using hE.len
  have hlP : lenV vP = some (.int .i64 X.length) := by simpa using hP.len
  refine Ev_func (F := ir49) rfl (by simp [V.underL, V.under, hE.un, hP.un]) ?_
  by_cases c1 : N < 1
  · simp only [ir49, hE.one, hP.one, hlE, hlP, c1, if_false, if_true, Nat.reduceAdd, Nat.reduceMul, Nat.reduceLT, Nat.reduceLeDiff, Nat.reduceEqDiff, Nat.reduceSub, reduceCtorEq, false_and, true_and, false_or, or_false, asNat_nat, go_sem]
    rw [show checkB N E X = false by unfold checkB; simp; omega]
    exact fin_same rfl rfl
  by_cases c2 : N > 6
  · simp only [ir49, hE.one, hP.one, hlE, hlP, c1, c2, if_false, if_true, Nat.reduceAdd, Nat.reduceMul, Nat.reduceLT, Nat.reduceLeDiff, Nat.reduceEqDiff, Nat.reduceSub, reduceCtorEq, false_and, true_and, false_or, or_false, asNat_nat, go_sem]
    rw [show checkB N E X = false by unfold checkB; simp; omega]
    exact fin_same rfl rfl
  by_cases c3 : (E.length : Int) > 10
  · simp only [ir49, hE.one, hP.one, hlE, hlP, c1, c2, c3, if_false, if_true, Nat.reduceAdd, Nat.reduceMul, Nat.reduceLT, Nat.reduceLeDiff, Nat.reduceEqDiff, Nat.reduceSub, reduceCtorEq, false_and, true_and, false_or, or_false, asNat_nat, go_sem]
    rw [show checkB N E X = false by unfold checkB; simp; omega]
    exact fin_same rfl rfl
  by_cases c4 : (X.length : Int) > 6
  · simp only [ir49, hE.one, hP.one, hlE, hlP, c1, c2, c3, c4, if_false, if_true, Nat.reduceAdd, Nat.reduceMul, Nat.reduceLT, Nat.reduceLeDiff, Nat.reduceEqDiff, Nat.reduceSub, reduceCtorEq, false_and, true_and, false_or, or_false, asNat_nat, go_sem]
    rw [show checkB N E X = false by unfold checkB; simp; omega]
    exact fin_same rfl rfl
  have hcb : checkB N E X = (upTo E.length (edgeOK N E) && upTo X.length (plateOK E X)) := by
    unfold checkB
    rw [show decide (1 ≤ N) = true by simp; omega, show decide (N ≤ 6) = true by simp; omega, show decide (E.length ≤ 10) = true by simp; omega, show decide (X.length ≤ 6) = true by simp; omega]
    simp
  rw [hcb]
  simp only [ir49, hE.one, hP.one, hlE, hlP, c1, c2, c3, c4, if_false, if_true, Nat.reduceAdd, Nat.reduceMul, Nat.reduceLT, Nat.reduceLeDiff, Nat.reduceEqDiff, Nat.reduceSub, reduceCtorEq, false_and, true_and, false_or, or_false, asNat_nat, go_sem]
  refine WL.mono (check49_l0 hE hP hlen hlx _ _ _ _ _ _ _ _) ?_
  rintro e s (⟨rfl, h1, b2, b3, b4, b5, b6, rfl⟩ | ⟨rfl, h1, h2, h3⟩)
  · rw [h1]
    simp only [if_false, if_true, Nat.reduceAdd, Nat.reduceMul, Nat.reduceLT, Nat.reduceLeDiff, Nat.reduceEqDiff, Nat.reduceSub, reduceCtorEq, false_and, true_and, false_or, or_false, asNat_nat, go_sem]
    refine WL.mono (check49_l1 hE hP hlen hlx _ _ _ _ _ _ _ _) ?_
    rintro e s (⟨rfl, h1, b7, b8, b9, L, rfl⟩ | ⟨rfl, h1, h2, h3⟩)
    · rw [h1]
      simp only [if_false, if_true, Nat.reduceAdd, Nat.reduceMul, Nat.reduceLT, Nat.reduceLeDiff, Nat.reduceEqDiff, Nat.reduceSub, reduceCtorEq, false_and, true_and, false_or, or_false, asNat_nat, go_sem]
      exact fin_same rfl rfl
    · rw [h1]
      simp only [h2, h3, if_false, if_true, Nat.reduceAdd, Nat.reduceMul, Nat.reduceLT, Nat.reduceLeDiff, Nat.reduceEqDiff, Nat.reduceSub, reduceCtorEq, false_and, true_and, false_or, or_false, asNat_nat, go_sem]
      exact fin_same rfl rfl
  · rw [h1]
    simp only [h2, h3, if_false, if_true, Nat.reduceAdd, Nat.reduceMul, Nat.reduceLT, Nat.reduceLeDiff, Nat.reduceEqDiff, Nat.reduceSub, reduceCtorEq, false_and, true_and, false_or, or_false, asNat_nat, go_sem]
    exact fin_same rfl rfl
end
end Go.AI.Sl

namespace Go.AI.Sl
open Go.AI
set_option maxRecDepth 10000

theorem isNaN_ok (m : Mem) (a : Int) : Ev tab (.fn (.func 101) [] []) [.int .i64 a] m (.bool false) m := by
  refine Ev_func (F := ir101) rfl rfl ?_
  simp only [ir101, if_false, if_true, Nat.reduceAdd, Nat.reduceMul, Nat.reduceLT, Nat.reduceLeDiff, Nat.reduceEqDiff, Nat.reduceSub, reduceCtorEq, false_and, true_and, false_or, or_false, asNat_nat, go_sem]
  rw [show (a != a) = false by simp]
  exact fin_same rfl rfl

def cmpI (a b : Int) : Int := if a < b then -1 else if a > b then 1 else 0

theorem cmp_ok (m : Mem) (a b : Int) : Ev tab (.fn (.func 98) [] []) [.int .i64 a, .int .i64 b] m (.int .i64 (cmpI a b)) m := by
  refine Ev_func (F := ir98) rfl rfl ?_
  simp only [ir98, if_false, if_true, Nat.reduceAdd, Nat.reduceMul, Nat.reduceLT, Nat.reduceLeDiff, Nat.reduceEqDiff, Nat.reduceSub, reduceCtorEq, false_and, true_and, false_or, or_false, asNat_nat, go_sem]
  refine (isNaN_ok _ a).callT ?_
  simp only [if_false, if_true, Nat.reduceAdd, Nat.reduceMul, Nat.reduceLT, Nat.reduceLeDiff, Nat.reduceEqDiff, Nat.reduceSub, reduceCtorEq, false_and, true_and, false_or, or_false, asNat_nat, go_sem]
  refine (isNaN_ok _ b).callT ?_
  unfold cmpI
  by_cases h1 : a < b
  · simp only [h1, if_false, if_true, Nat.reduceAdd, Nat.reduceMul, Nat.reduceLT, Nat.reduceLeDiff, Nat.reduceEqDiff, Nat.reduceSub, reduceCtorEq, false_and, true_and, false_or, or_false, asNat_nat, go_sem]
    exact fin_same rfl rfl
  · by_cases h2 : a > b
    · simp only [h1, h2, if_false, if_true, Nat.reduceAdd, Nat.reduceMul, Nat.reduceLT, Nat.reduceLeDiff, Nat.reduceEqDiff, Nat.reduceSub, reduceCtorEq, false_and, true_and, false_or, or_false, asNat_nat, go_sem]
      exact fin_same rfl rfl
    · simp only [h1, h2, if_false, if_true, Nat.reduceAdd, Nat.reduceMul, Nat.reduceLT, Nat.reduceLeDiff, Nat.reduceEqDiff, Nat.reduceSub, reduceCtorEq, false_and, true_and, false_or, or_false, asNat_nat, go_sem]
      exact fin_same rfl rfl

def compareI : List Int → List Int → Int
  | [], [] => 0
  | [], _ :: _ => -1
  | _ :: _, [] => 1
  | x :: xs, y :: ys => if cmpI x y = 0 then compareI xs ys else cmpI x y

theorem compare_ok {m : Mem} {v u : V} {xs ys : List Int} (hv : IsI m v xs) (hu : IsI m u ys) (hlen : xs.length < 1000000) (hle : xs.length = ys.length) : Ev tab (.fn (.func 81) [] []) [v, u] m (.int .i64 (compareI xs ys)) m := by
  have hl : lenV v = some (.int .i64 xs.length) := by simpa using hv.len
  have hl2 : lenV u = some (.int .i64 ys.length) := by simpa using hu.len
  refine Ev_func (F := ir81) rfl (by simp [V.underL, hv.un, hu.un]) ?_
  simp only [ir81, hl, hl2, hv.nl, hu.nl, if_false, if_true, Nat.reduceAdd, Nat.reduceMul, Nat.reduceLT, Nat.reduceLeDiff, Nat.reduceEqDiff, Nat.reduceSub, reduceCtorEq, false_and, true_and, false_or, or_false, asNat_nat, go_sem]
  refine WL.mono (W_loop (fun s k => ∃ i : Nat, i ≤ xs.length ∧ k = xs.length - i ∧ compareI xs ys = compareI (xs.drop i) (ys.drop i) ∧ ∃ b3 b5 b7 b8 b9 b10 b11 b12, s = ⟨[v, .int .i64 i, .int .i64 xs.length, b3, v, b5, u, b7, b8, b9, b10, b11, b12, .int .i64 0], [], enter m⟩)
    (Q := fun e s => (e = .exit 0 ∧ compareI xs ys = 0 ∧ ∃ b1 b2 b3 b5 b7 b8 b9 b10 b11 b12, s = ⟨[v, b1, b2, b3, v, b5, u, b7, b8, b9, b10, b11, b12, .int .i64 0], [], enter m⟩) ∨ (e = .ret ∧ s.A.getD 13 .dead = .int .i64 (compareI xs ys) ∧ s.m = enter m)) ?_ _ xs.length ⟨0, by omega, by omega, rfl, _, _, _, _, _, _, _, _, rfl⟩) ?_
  · rintro s k ⟨i, hi, rfl, hc, b3, b5, b7, b8, b9, b10, b11, b12, rfl⟩
    by_cases hlt : i < xs.length
    · obtain ⟨o, off, h1, h2⟩ := hv.at hlt
      obtain ⟨o', off', g1, g2⟩ := hu.at (i := i) (by omega)
      have hw : wrapK .i64 ((i : Int) + 1) = ((i + 1 : Nat) : Int) := by rw [wrapK_in (by omega) (by omega)]; rfl
      have e1 : decide ((i : Int) < (xs.length : Int)) = true := by simpa using hlt
      have e2 : decide ((i : Int) ≥ (ys.length : Int)) = false := by simp; omega
      have hd : compareI (xs.drop i) (ys.drop i) = if cmpI xs[i] ys[i] = 0 then compareI (xs.drop (i + 1)) (ys.drop (i + 1)) else cmpI xs[i] ys[i] := by
        rw [List.drop_eq_getElem_cons hlt, List.drop_eq_getElem_cons (by omega : i < ys.length)]
        rfl
      simp only [ir81_l0, hl, hl2, e1, e2, h1, h2, g1, g2, if_false, if_true, Nat.reduceAdd, Nat.reduceMul, Nat.reduceLT, Nat.reduceLeDiff, Nat.reduceEqDiff, Nat.reduceSub, reduceCtorEq, false_and, true_and, false_or, or_false, asNat_nat, go_sem]
      refine (cmp_ok _ _ _).callT ?_
      by_cases hz : cmpI xs[i] ys[i] = 0
      · have e3 : (cmpI xs[i] ys[i] != 0) = false := by simp [hz]
        simp only [e3, hw, if_false, if_true, Nat.reduceAdd, Nat.reduceMul, Nat.reduceLT, Nat.reduceLeDiff, Nat.reduceEqDiff, Nat.reduceSub, reduceCtorEq, false_and, true_and, false_or, or_false, asNat_nat, go_sem]
        rw [if_pos hz] at hd
        exact ⟨xs.length - (i + 1), by omega, i + 1, by omega, rfl, by rw [hc, hd], _, _, _, _, _, _, _, _, rfl⟩
      · have e3 : (cmpI xs[i] ys[i] != 0) = true := by simp [hz]
        rw [if_neg hz] at hd
        simp only [e3, hc, hd, if_false, if_true, Nat.reduceAdd, Nat.reduceMul, Nat.reduceLT, Nat.reduceLeDiff, Nat.reduceEqDiff, Nat.reduceSub, reduceCtorEq, false_and, true_and, false_or, or_false, asNat_nat, go_sem]
    · have e1 : decide ((i : Int) < (xs.length : Int)) = false := by simpa using hlt
      obtain rfl : i = xs.length := by omega
      simp only [ir81_l0, e1, if_false, if_true, Nat.reduceAdd, Nat.reduceMul, Nat.reduceLT, Nat.reduceLeDiff, Nat.reduceEqDiff, Nat.reduceSub, reduceCtorEq, false_and, true_and, false_or, or_false, asNat_nat, go_sem]
      refine ⟨?_, _, _, _, _, _, _, _, _, _, _, rfl⟩
      rw [hc, hle, List.drop_length, ← hle, List.drop_length]
      rfl
  · rintro e s (⟨rfl, h1, b1, b2, b3, b5, b7, b8, b9, b10, b11, b12, rfl⟩ | ⟨rfl, h1, h2⟩)
    · have e2 : decide ((xs.length : Int) < (ys.length : Int)) = false := by simp; omega
      simp only [hl, hl2, e2, hv.nl, hu.nl, if_false, if_true, Nat.reduceAdd, Nat.reduceMul, Nat.reduceLT, Nat.reduceLeDiff, Nat.reduceEqDiff, Nat.reduceSub, reduceCtorEq, false_and, true_and, false_or, or_false, asNat_nat, go_sem]
      rw [h1]
      exact fin_same rfl rfl
    · simp only [h1, h2, if_false, if_true, Nat.reduceAdd, Nat.reduceMul, Nat.reduceLT, Nat.reduceLeDiff, Nat.reduceEqDiff, Nat.reduceSub, reduceCtorEq, false_and, true_and, false_or, or_false, asNat_nat, go_sem]
      exact fin_same rfl rfl

def indexE (E : List (Int × Int)) (a b : Int) : Int := match E.findIdx? (fun e => a == e.1 && b == e.2) with | some i => (i : Int) | none => -1

theorem index_ok {m : Mem} {vE : V} {E : List (Int × Int)} (hE : IsE m vE E) (hlen : E.length < 1000000) (a b : Int) :
    Ev tab (.fn (.func 83) [] []) [vE, .agg [.int .i64 a, .int .i64 b]] m (.int .i64 (indexE E a b)) m := by
  have hl : lenV vE = some (.int .i64 E.length) := by simpa using hE.len
  refine Ev_func (F := ir83) rfl (by simp [V.underL, V.under, hE.un]) ?_
  simp only [ir83, hl, hE.nl, if_false, if_true, Nat.reduceAdd, Nat.reduceMul, Nat.reduceLT, Nat.reduceLeDiff, Nat.reduceEqDiff, Nat.reduceSub, reduceCtorEq, false_and, true_and, false_or, or_false, asNat_nat, go_sem]
  refine WL.mono (W_loop (fun s k => ∃ i : Nat, i ≤ E.length ∧ k = E.length - i ∧ (∀ j (h : j < E.length), j < i → (a == E[j].1 && b == E[j].2) = false) ∧ ∃ a4 a5 a6, s = ⟨[.agg [.int .i64 a, .int .i64 b], vE, .int .i64 i, .int .i64 E.length, a4, a5, a6, .int .i64 0], [[.int .i64 a, .int .i64 b]], enter m⟩)
    (Q := fun e s => (e = .exit 0 ∧ indexE E a b = -1 ∧ ∃ a0 a1 a2 a3 a4 a5 a6 L, s = ⟨[a0, a1, a2, a3, a4, a5, a6, .int .i64 0], L, enter m⟩) ∨ (e = .ret ∧ s.A.getD 7 .dead = .int .i64 (indexE E a b) ∧ s.m = enter m)) ?_ _ E.length ⟨0, by omega, by omega, by simp, _, _, _, rfl⟩) ?_
  · rintro s k ⟨i, hi, rfl, hall, a4, a5, a6, rfl⟩
    by_cases hlt : i < E.length
    · obtain ⟨o, off, h1, h2, _⟩ := hE.at hlt
      have hw : wrapK .i64 ((i : Int) + 1) = ((i + 1 : Nat) : Int) := by rw [wrapK_in (by omega) (by omega)]; rfl
      have e1 : decide ((i : Int) < (E.length : Int)) = true := by simpa using hlt
      cases hx : (a == E[i].1 && b == E[i].2) with
      | true =>
        simp only [ir83_l0, hl, e1, h1, h2, hx, if_false, if_true, Nat.reduceAdd, Nat.reduceMul, Nat.reduceLT, Nat.reduceLeDiff, Nat.reduceEqDiff, Nat.reduceSub, reduceCtorEq, false_and, true_and, false_or, or_false, asNat_nat, go_sem]
        rw [show indexE E a b = (i : Int) by
          unfold indexE
          rw [List.findIdx?_eq_some_iff_getElem.2 ⟨hlt, hx, fun j hj => by have := hall j (by omega) hj; rw [this]; simp⟩]]
        exact ⟨rfl, trivial⟩
      | false =>
        simp only [ir83_l0, hl, e1, h1, h2, hx, hw, if_false, if_true, Nat.reduceAdd, Nat.reduceMul, Nat.reduceLT, Nat.reduceLeDiff, Nat.reduceEqDiff, Nat.reduceSub, reduceCtorEq, false_and, true_and, false_or, or_false, asNat_nat, go_sem]
        refine ⟨E.length - (i + 1), by omega, i + 1, by omega, rfl, fun j hj hji => ?_, _, _, _, rfl⟩
        rcases Nat.lt_succ_iff_lt_or_eq.1 hji with h | h
        · exact hall j hj h
        · subst h; exact hx
    · have e1 : decide ((i : Int) < (E.length : Int)) = false := by simpa using hlt
      simp only [ir83_l0, hl, e1, if_false, if_true, Nat.reduceAdd, Nat.reduceMul, Nat.reduceLT, Nat.reduceLeDiff, Nat.reduceEqDiff, Nat.reduceSub, reduceCtorEq, false_and, true_and, false_or, or_false, asNat_nat, go_sem]
      refine ⟨?_, _, _, _, _, _, _, _, _, rfl⟩
      unfold indexE
      rw [List.findIdx?_eq_none_iff.2 fun e he => ?_]
      obtain ⟨j, hj, rfl⟩ := List.getElem_of_mem he
      exact hall j hj (by omega)
  · rintro e s (⟨rfl, hall, a0, a1, a2, a3, a4, a5, a6, L, rfl⟩ | ⟨rfl, h1, h2⟩)
    · simp only [if_false, if_true, Nat.reduceAdd, Nat.reduceMul, Nat.reduceLT, Nat.reduceLeDiff, Nat.reduceEqDiff, Nat.reduceSub, reduceCtorEq, false_and, true_and, false_or, or_false, asNat_nat, go_sem]
      rw [hall]
      exact fin_same rfl rfl
    · simp only [h1, h2, if_false, if_true, Nat.reduceAdd, Nat.reduceMul, Nat.reduceLT, Nat.reduceLeDiff, Nat.reduceEqDiff, Nat.reduceSub, reduceCtorEq, false_and, true_and, false_or, or_false, asNat_nat, go_sem]
      exact fin_same rfl rfl

theorem contains_ok {m : Mem} {vE : V} {E : List (Int × Int)} (hE : IsE m vE E) (hlen : E.length < 1000000) (a b : Int) :
    Ev tab (.fn (.func 82) [] []) [vE, .agg [.int .i64 a, .int .i64 b]] m (.bool (decide (indexE E a b ≥ 0))) m := by
  refine Ev_func (F := ir82) rfl (by simp [V.underL, V.under, hE.un]) ?_
  simp only [ir82, hE.nl, if_false, if_true, Nat.reduceAdd, Nat.reduceMul, Nat.reduceLT, Nat.reduceLeDiff, Nat.reduceEqDiff, Nat.reduceSub, reduceCtorEq, false_and, true_and, false_or, or_false, asNat_nat, go_sem]
  refine (index_ok hE.enter hlen a b).callT ?_
  simp only [if_false, if_true, Nat.reduceAdd, Nat.reduceMul, Nat.reduceLT, Nat.reduceLeDiff, Nat.reduceEqDiff, Nat.reduceSub, reduceCtorEq, false_and, true_and, false_or, or_false, asNat_nat, go_sem]
  exact fin_same rfl rfl
end Go.AI.Sl

namespace Go.AI.Sl
open Go.AI
set_option maxRecDepth 10000

theorem cmp2 (p q a b : Int) : decide (compareI [p, q] [a, b] ≥ 0) = !lexB (p, q) (a, b) := by
  simp only [compareI, cmpI, lexB]
  by_cases h1 : p < a
  · simp [h1]
  · by_cases h2 : p > a
    · simp [h1, h2]; omega
    · have : p = a := by omega
      subst this
      by_cases h3 : q < b
      · simp [h3]
      · by_cases h4 : q > b
        · simp [h3, h4]
        · simp [h3, h4]

theorem cmp3 (p q r a b c : Int) : decide (compareI [p, q, r] [a, b, c] ≥ 0) = !beforeB (p, q, r) (a, b, c) := by
  simp only [compareI, cmpI, beforeB]
  by_cases h1 : p < a
  · have : p ≠ a := by omega
    simp [h1, this]
  · by_cases h2 : p > a
    · have : p ≠ a := by omega
      simp [h1, h2, this]
    · have : p = a := by omega
      subst this
      by_cases h3 : q < b
      · have : q ≠ b := by omega
        simp [h3, this]
      · by_cases h4 : q > b
        · have : q ≠ b := by omega
          simp [h3, h4, this]
        · have : q = b := by omega
          subst this
          by_cases h5 : r < c
          · have : r ≠ c := by omega
            simp [h5, this]
          · by_cases h6 : r > c
            · have : r ≠ c := by omega
              simp [h5, h6, this]
            · have : r = c := by omega
              simp [this]

theorem index_edge (E : List (Int × Int)) {p q : Int} (h : p < q) : indexE E p q = edgeI E p q := by
  unfold indexE edgeI
  rw [show min p q = p by omega, show max p q = q by omega]
  have : (fun e : Int × Int => p == e.1 && q == e.2) = fun e => e.1 == p && e.2 == q := by
    funext e
    rw [BEq.comm (a := p), BEq.comm (a := q)]
  rw [this]
  all_goals rfl

section
variable {m : Mem} {N : Int} {vE vP : V} {E : List (Int × Int)} {X : List (Int × Int × Int)}

theorem check50_l0 (hE : IsE m vE E) (hlen : E.length < 1000000) {m0 : Mem} (hm0 : Grow (enter m) m0) (a1 a4 a6 a7 a8 a9 a10 a11 a12 a13 a14 a15 a16 a17 a18 a19 a20 : V) :
    WL tab ir50_l0 ⟨[.agg [.int .i64 N, vE, vP], a1, .int .i64 0, .int .i64 E.length, a4, vE, a6, a7, a8, a9, a10, a11, a12, a13, a14, a15, a16, a17, a18, a19, a20, .int .i64 0], [[.int .i64 N, vE, vP]], m0⟩ (fun e s =>
      (e = .exit 0 ∧ upTo E.length (edgeOK N E) = true ∧ ∃ m1, Grow (enter m) m1 ∧ ∃ b1 b2 b3 b4 b5 b6 b7 b8 b9 b10 b11 b12 b13 b14 b15 b16 b17 b18 b19 b20, s = ⟨[.agg [.int .i64 N, vE, vP], b1, b2, b3, b4, b5, b6, b7, b8, b9, b10, b11, b12, b13, b14, b15, b16, b17, b18, b19, b20, .int .i64 0], [[.int .i64 N, vE, vP]], m1⟩) ∨
      (e = .ret ∧ upTo E.length (edgeOK N E) = false ∧ s.A.getD 21 .dead = .int .i64 30 ∧ Grow (enter m) s.m)) := by
  have hl : lenV vE = some (.int .i64 E.length) := by simpa using hE.len
  refine W_loop (fun s k => ∃ i : Nat, i ≤ E.length ∧ k = E.length - i ∧ upTo i (edgeOK N E) = true ∧ ∃ m1, Grow (enter m) m1 ∧ ∃ b1 b4 b6 b7 b8 b9 b10 b11 b12 b13 b14 b15 b16 b17 b18 b19 b20, s = ⟨[.agg [.int .i64 N, vE, vP], b1, .int .i64 i, .int .i64 E.length, b4, vE, b6, b7, b8, b9, b10, b11, b12, b13, b14, b15, b16, b17, b18, b19, b20, .int .i64 0], [[.int .i64 N, vE, vP]], m1⟩) ?_ _ E.length ⟨0, by omega, by omega, rfl, m0, hm0, _, _, _, _, _, _, _, _, _, _, _, _, _, _, _, _, _, rfl⟩
  rintro s k ⟨i, hi, rfl, hall, m1, hm1, b1, b4, b6, b7, b8, b9, b10, b11, b12, b13, b14, b15, b16, b17, b18, b19, b20, rfl⟩
  by_cases hlt : i < E.length
  · have hE1 : IsE m1 vE E := hE.enter.ext hm1.ext
    have hle : m1.lo ≤ m1.next := by rw [hm1.lo]; exact hm1.ext.1
    obtain ⟨o, off, h1, h2, h3, h4⟩ := hE1.at hlt
    have hw : wrapK .i64 ((i : Int) + 1) = ((i + 1 : Nat) : Int) := by rw [wrapK_in (by omega) (by omega)]; rfl
    have e1 : decide ((i : Int) < (E.length : Int)) = true := by simpa using hlt
    have hbad : edgeOK N E i = false → upTo E.length (edgeOK N E) = false := upTo_false hlt
    have hgood : edgeOK N E i = true → upTo (i + 1) (edgeOK N E) = true := fun h => by rw [upTo_succ, hall, h]; rfl
    have hdef : edgeOK N E i = (decide (0 ≤ E[i].1) && decide (E[i].1 < E[i].2) && decide (E[i].2 < N) && (decide (i = 0) || lexB (E.getD (i - 1) (0, 0)) E[i])) := by unfold edgeOK; rw [getD_eq hlt]
    rw [hdef] at hbad hgood
    clear hdef
    have hnew := IsI.new (m := m1) (xs := [E[i].1, E[i].2]) (ro := false)
    have hcmp : ∀ p, decide (compareI [p.1, p.2] [E[i].1, E[i].2] ≥ 0) = !lexB p E[i] := fun p => cmp2 _ _ _ _
    generalize hae : E[i].1 = a at *
    generalize hbe : E[i].2 = b at *
    have hwr : ∀ L, writeN L (m1.push (.cells [.int .i64 0, .int .i64 0] false)) (.ptr m1.next 0) [.int .i64 a, .int .i64 b] = some (L, m1.push (.cells [.int .i64 a, .int .i64 b] false)) := fun L => writeN_new hle rfl
    have r0 : ∀ L, read1 L (m1.push (.cells [.int .i64 a, .int .i64 b] false)) (.ptr m1.next 0) = some (.int .i64 a) := fun L => read1_new
    have r1 : ∀ L, read1 L (m1.push (.cells [.int .i64 a, .int .i64 b] false)) (.ptr m1.next 1) = some (.int .i64 b) := fun L => read1_new
    have hgr := hm1.push (.cells [.int .i64 a, .int .i64 b] false)
    by_cases c1 : a < 0
    · simp only [ir50_l0, hl, e1, h1, h2, h3, h4, hwr, r0, r1, c1, if_false, if_true, Nat.reduceAdd, Nat.reduceMul, Nat.reduceLT, Nat.reduceLeDiff, Nat.reduceEqDiff, Nat.reduceSub, reduceCtorEq, false_and, true_and, false_or, or_false, asNat_nat, go_sem]
      exact ⟨hbad (by simp; omega), hgr⟩
    by_cases c2 : a ≥ b
    · simp only [ir50_l0, hl, e1, h1, h2, h3, h4, hwr, r0, r1, c1, c2, if_false, if_true, Nat.reduceAdd, Nat.reduceMul, Nat.reduceLT, Nat.reduceLeDiff, Nat.reduceEqDiff, Nat.reduceSub, reduceCtorEq, false_and, true_and, false_or, or_false, asNat_nat, go_sem]
      exact ⟨hbad (by simp; omega), hgr⟩
    by_cases c3 : b ≥ N
    · simp only [ir50_l0, hl, e1, h1, h2, h3, h4, hwr, r0, r1, c1, c2, c3, if_false, if_true, Nat.reduceAdd, Nat.reduceMul, Nat.reduceLT, Nat.reduceLeDiff, Nat.reduceEqDiff, Nat.reduceSub, reduceCtorEq, false_and, true_and, false_or, or_false, asNat_nat, go_sem]
      exact ⟨hbad (by simp; omega), hgr⟩
    by_cases c4 : (i : Int) > 0
    · have hi1 : i - 1 < E.length := by omega
      obtain ⟨o', off', g1, g2⟩ := hE1.addr hi1
      have hw1 : wrapK .i64 ((i : Int) - 1) = ((i - 1 : Nat) : Int) := by rw [wrapK_in (by omega) (by omega)]; omega
      have hne : i ≠ 0 := by omega
      rw [getD_eq hi1] at hbad hgood
      have hcmp := hcmp E[i - 1]
      have hc := compare_ok (m := m1.push (.cells [.int .i64 a, .int .i64 b] false)) (g2.ext (Ext.push _ _)) hnew (by simp) rfl
      simp only [List.map, List.length_cons, List.length_nil, Nat.reduceAdd] at hc
      cases hx : lexB E[i - 1] E[i] with
      | false =>
        rw [hx] at hcmp hbad
        simp only [Bool.not_false] at hcmp
        simp only [ir50_l0, hl, e1, h1, h2, h3, h4, hwr, r0, r1, c1, c2, c3, c4, hw1, g1, if_false, if_true, Nat.reduceAdd, Nat.reduceMul, Nat.reduceLT, Nat.reduceLeDiff, Nat.reduceEqDiff, Nat.reduceSub, reduceCtorEq, false_and, true_and, false_or, or_false, asNat_nat, go_sem]
        refine hc.callT ?_
        simp only [hcmp, if_false, if_true, Nat.reduceAdd, Nat.reduceMul, Nat.reduceLT, Nat.reduceLeDiff, Nat.reduceEqDiff, Nat.reduceSub, reduceCtorEq, false_and, true_and, false_or, or_false, asNat_nat, go_sem]
        exact ⟨hbad (by simp [hne]), hgr⟩
      | true =>
        rw [hx] at hcmp hgood
        simp only [Bool.not_true] at hcmp
        simp only [ir50_l0, hl, e1, h1, h2, h3, h4, hwr, r0, r1, c1, c2, c3, c4, hw1, g1, if_false, if_true, Nat.reduceAdd, Nat.reduceMul, Nat.reduceLT, Nat.reduceLeDiff, Nat.reduceEqDiff, Nat.reduceSub, reduceCtorEq, false_and, true_and, false_or, or_false, asNat_nat, go_sem]
        refine hc.callT ?_
        simp only [hcmp, hw, if_false, if_true, Nat.reduceAdd, Nat.reduceMul, Nat.reduceLT, Nat.reduceLeDiff, Nat.reduceEqDiff, Nat.reduceSub, reduceCtorEq, false_and, true_and, false_or, or_false, asNat_nat, go_sem]
        exact ⟨E.length - (i + 1), by omega, i + 1, by omega, rfl, hgood (by simp; omega), _, hgr, _, _, _, _, _, _, _, _, _, _, _, _, _, _, _, _, _, rfl⟩
    · have hz : i = 0 := by omega
      simp only [ir50_l0, hl, e1, h1, h2, h3, h4, hwr, r0, r1, c1, c2, c3, c4, hw, if_false, if_true, Nat.reduceAdd, Nat.reduceMul, Nat.reduceLT, Nat.reduceLeDiff, Nat.reduceEqDiff, Nat.reduceSub, reduceCtorEq, false_and, true_and, false_or, or_false, asNat_nat, go_sem]
      exact ⟨E.length - (i + 1), by omega, i + 1, by omega, rfl, hgood (by simp [hz]; omega), _, hgr, _, _, _, _, _, _, _, _, _, _, _, _, _, _, _, _, _, rfl⟩
  · have e1 : decide ((i : Int) < (E.length : Int)) = false := by simpa using hlt
    simp only [ir50_l0, hl, e1, if_false, if_true, Nat.reduceAdd, Nat.reduceMul, Nat.reduceLT, Nat.reduceLeDiff, Nat.reduceEqDiff, Nat.reduceSub, reduceCtorEq, false_and, true_and, false_or, or_false, asNat_nat, go_sem]
    obtain rfl : i = E.length := by omega
    exact ⟨hall, _, hm1, _, _, _, _, _, _, _, _, _, _, _, _, _, _, _, _, _, _, _, _, rfl⟩
end
end Go.AI.Sl

namespace Go.AI.Sl
open Go.AI
set_option maxRecDepth 10000
section
variable {m : Mem} {N : Int} {vE vP : V} {E : List (Int × Int)} {X : List (Int × Int × Int)}

/-- The edges of a plate. -/
theorem check50_l1 (hE : IsE m vE E) (hlen : E.length < 1000000) {m1 : Mem} (hm1 : Grow (enter m) m1) {p0 p1 p2 : Int} {L : Boxes} (hL : L = [[.int .i64 N, vE, vP]] ∨ ∃ c, L = [[.int .i64 N, vE, vP], c]) (a1 a2 a3 a4 a5 a6 a7 a8 a9 a10 a11 a12 a13 a14 a15 a18 a20 : V) :
    WL tab ir50_l1 ⟨[.agg [.int .i64 N, vE, vP], a1, a2, a3, a4, a5, a6, a7, a8, a9, a10, a11, a12, a13, a14, a15, .int .i64 0, .int .i64 3, a18, .slc m1.next 0 0 3 (.ex 3), a20, .int .i64 0], L, m1.push (.cells [.int .i64 p0, .int .i64 p1, .int .i64 p0, .int .i64 p2, .int .i64 p1, .int .i64 p2] false)⟩ (fun e s =>
      (e = .exit 4 ∧ (decide (indexE E p0 p1 ≥ 0) && decide (indexE E p0 p2 ≥ 0) && decide (indexE E p1 p2 ≥ 0)) = true ∧ ∃ m2, Grow (enter m) m2 ∧ ∃ c16 c17 c18 c20 c, s = ⟨[.agg [.int .i64 N, vE, vP], a1, a2, a3, a4, a5, a6, a7, a8, a9, a10, a11, a12, a13, a14, a15, c16, c17, c18, .slc m1.next 0 0 3 (.ex 3), c20, .int .i64 0], [[.int .i64 N, vE, vP], c], m2⟩) ∨
      (e = .ret ∧ (decide (indexE E p0 p1 ≥ 0) && decide (indexE E p0 p2 ≥ 0) && decide (indexE E p1 p2 ≥ 0)) = false ∧ s.A.getD 21 .dead = .int .i64 30 ∧ Grow (enter m) s.m)) := by
  have hgr := hm1.push (.cells [.int .i64 p0, .int .i64 p1, .int .i64 p0, .int .i64 p2, .int .i64 p1, .int .i64 p2] false)
  have hE2 : IsE _ vE E := hE.enter.ext hgr.ext
  have k1 := contains_ok hE2 hlen p0 p1
  have k2 := contains_ok hE2 hlen p0 p2
  have k3 := contains_ok hE2 hlen p1 p2
  have r : ∀ L k n, readN L (m1.push (.cells [.int .i64 p0, .int .i64 p1, .int .i64 p0, .int .i64 p2, .int .i64 p1, .int .i64 p2] false)) (.ptr m1.next k) n = if k + n ≤ 6 then some (slice [.int .i64 p0, .int .i64 p1, .int .i64 p0, .int .i64 p2, .int .i64 p1, .int .i64 p2] k n) else none := fun L k n => readN_newk
  generalize m1.push (.cells [.int .i64 p0, .int .i64 p1, .int .i64 p0, .int .i64 p2, .int .i64 p1, .int .i64 p2] false) = m2 at *
  by_cases c1 : indexE E p0 p1 ≥ 0
  · by_cases c2 : indexE E p0 p2 ≥ 0
    · by_cases c3 : indexE E p1 p2 ≥ 0
      · rcases hL with rfl | ⟨c, rfl⟩ <;>
        · refine W_unroll ?_
          simp only [ir50_l1, r, idxV_lit, if_false, if_true, Nat.reduceAdd, Nat.reduceMul, Nat.reduceLT, Nat.reduceLeDiff, Nat.reduceEqDiff, Nat.reduceSub, reduceCtorEq, false_and, true_and, false_or, or_false, asNat_nat, go_sem]
          refine k1.callT ?_
          simp only [c1, if_false, if_true, Nat.reduceAdd, Nat.reduceMul, Nat.reduceLT, Nat.reduceLeDiff, Nat.reduceEqDiff, Nat.reduceSub, reduceCtorEq, false_and, true_and, false_or, or_false, asNat_nat, go_sem]
          refine W_unroll ?_
          simp only [ir50_l1, r, idxV_lit, if_false, if_true, Nat.reduceAdd, Nat.reduceMul, Nat.reduceLT, Nat.reduceLeDiff, Nat.reduceEqDiff, Nat.reduceSub, reduceCtorEq, false_and, true_and, false_or, or_false, asNat_nat, go_sem]
          refine k2.callT ?_
          simp only [c2, if_false, if_true, Nat.reduceAdd, Nat.reduceMul, Nat.reduceLT, Nat.reduceLeDiff, Nat.reduceEqDiff, Nat.reduceSub, reduceCtorEq, false_and, true_and, false_or, or_false, asNat_nat, go_sem]
          refine W_unroll ?_
          simp only [ir50_l1, r, idxV_lit, if_false, if_true, Nat.reduceAdd, Nat.reduceMul, Nat.reduceLT, Nat.reduceLeDiff, Nat.reduceEqDiff, Nat.reduceSub, reduceCtorEq, false_and, true_and, false_or, or_false, asNat_nat, go_sem]
          refine k3.callT ?_
          simp only [c3, if_false, if_true, Nat.reduceAdd, Nat.reduceMul, Nat.reduceLT, Nat.reduceLeDiff, Nat.reduceEqDiff, Nat.reduceSub, reduceCtorEq, false_and, true_and, false_or, or_false, asNat_nat, go_sem]
          refine W_unroll ?_
          simp only [ir50_l1, if_false, if_true, Nat.reduceAdd, Nat.reduceMul, Nat.reduceLT, Nat.reduceLeDiff, Nat.reduceEqDiff, Nat.reduceSub, reduceCtorEq, false_and, true_and, false_or, or_false, asNat_nat, go_sem]
          exact ⟨by simp only [c1, c2, c3, decide_true, Bool.and_self], _, hgr, _, _, _, _, _, rfl⟩
      · rcases hL with rfl | ⟨c, rfl⟩ <;>
        · refine W_unroll ?_
          simp only [ir50_l1, r, idxV_lit, if_false, if_true, Nat.reduceAdd, Nat.reduceMul, Nat.reduceLT, Nat.reduceLeDiff, Nat.reduceEqDiff, Nat.reduceSub, reduceCtorEq, false_and, true_and, false_or, or_false, asNat_nat, go_sem]
          refine k1.callT ?_
          simp only [c1, if_false, if_true, Nat.reduceAdd, Nat.reduceMul, Nat.reduceLT, Nat.reduceLeDiff, Nat.reduceEqDiff, Nat.reduceSub, reduceCtorEq, false_and, true_and, false_or, or_false, asNat_nat, go_sem]
          refine W_unroll ?_
          simp only [ir50_l1, r, idxV_lit, if_false, if_true, Nat.reduceAdd, Nat.reduceMul, Nat.reduceLT, Nat.reduceLeDiff, Nat.reduceEqDiff, Nat.reduceSub, reduceCtorEq, false_and, true_and, false_or, or_false, asNat_nat, go_sem]
          refine k2.callT ?_
          simp only [c2, if_false, if_true, Nat.reduceAdd, Nat.reduceMul, Nat.reduceLT, Nat.reduceLeDiff, Nat.reduceEqDiff, Nat.reduceSub, reduceCtorEq, false_and, true_and, false_or, or_false, asNat_nat, go_sem]
          refine W_unroll ?_
          simp only [ir50_l1, r, idxV_lit, if_false, if_true, Nat.reduceAdd, Nat.reduceMul, Nat.reduceLT, Nat.reduceLeDiff, Nat.reduceEqDiff, Nat.reduceSub, reduceCtorEq, false_and, true_and, false_or, or_false, asNat_nat, go_sem]
          refine k3.callT ?_
          simp only [c3, if_false, if_true, Nat.reduceAdd, Nat.reduceMul, Nat.reduceLT, Nat.reduceLeDiff, Nat.reduceEqDiff, Nat.reduceSub, reduceCtorEq, false_and, true_and, false_or, or_false, asNat_nat, go_sem]
          exact hgr
    · rcases hL with rfl | ⟨c, rfl⟩ <;>
      · refine W_unroll ?_
        simp only [ir50_l1, r, idxV_lit, if_false, if_true, Nat.reduceAdd, Nat.reduceMul, Nat.reduceLT, Nat.reduceLeDiff, Nat.reduceEqDiff, Nat.reduceSub, reduceCtorEq, false_and, true_and, false_or, or_false, asNat_nat, go_sem]
        refine k1.callT ?_
        simp only [c1, if_false, if_true, Nat.reduceAdd, Nat.reduceMul, Nat.reduceLT, Nat.reduceLeDiff, Nat.reduceEqDiff, Nat.reduceSub, reduceCtorEq, false_and, true_and, false_or, or_false, asNat_nat, go_sem]
        refine W_unroll ?_
        simp only [ir50_l1, r, idxV_lit, if_false, if_true, Nat.reduceAdd, Nat.reduceMul, Nat.reduceLT, Nat.reduceLeDiff, Nat.reduceEqDiff, Nat.reduceSub, reduceCtorEq, false_and, true_and, false_or, or_false, asNat_nat, go_sem]
        refine k2.callT ?_
        simp only [c2, if_false, if_true, Nat.reduceAdd, Nat.reduceMul, Nat.reduceLT, Nat.reduceLeDiff, Nat.reduceEqDiff, Nat.reduceSub, reduceCtorEq, false_and, true_and, false_or, or_false, asNat_nat, go_sem]
        exact hgr
  · rcases hL with rfl | ⟨c, rfl⟩ <;>
    · refine W_unroll ?_
      simp only [ir50_l1, r, idxV_lit, if_false, if_true, Nat.reduceAdd, Nat.reduceMul, Nat.reduceLT, Nat.reduceLeDiff, Nat.reduceEqDiff, Nat.reduceSub, reduceCtorEq, false_and, true_and, false_or, or_false, asNat_nat, go_sem]
      refine k1.callT ?_
      simp only [c1, if_false, if_true, Nat.reduceAdd, Nat.reduceMul, Nat.reduceLT, Nat.reduceLeDiff, Nat.reduceEqDiff, Nat.reduceSub, reduceCtorEq, false_and, true_and, false_or, or_false, asNat_nat, go_sem]
      exact hgr
end

section
variable {m : Mem} {N : Int} {vE vP : V} {E : List (Int × Int)} {X : List (Int × Int × Int)}

theorem check50_l2 (hE : IsE m vE E) (hP : IsP m vP X) (hlen : E.length < 1000000) (hlx : X.length < 1000000) {m0 : Mem} (hm0 : Grow (enter m) m0) (a1 a2 a3 a4 a5 a6 a7 a8 a11 a13 a14 a15 a16 a17 a18 a19 a20 : V) :
    WL tab ir50_l2 ⟨[.agg [.int .i64 N, vE, vP], a1, a2, a3, a4, a5, a6, a7, a8, .int .i64 0, .int .i64 X.length, a11, vP, a13, a14, a15, a16, a17, a18, a19, a20, .int .i64 0], [[.int .i64 N, vE, vP]], m0⟩ (fun e s =>
      (e = .exit 2 ∧ upTo X.length (plateOK E X) = true ∧ ∃ m1, Grow (enter m) m1 ∧ ∃ b1 b2 b3 b4 b5 b6 b7 b8 b9 b10 b11 b12 b13 b14 b15 b16 b17 b18 b19 b20 L, s = ⟨[.agg [.int .i64 N, vE, vP], b1, b2, b3, b4, b5, b6, b7, b8, b9, b10, b11, b12, b13, b14, b15, b16, b17, b18, b19, b20, .int .i64 0], L, m1⟩) ∨
      (e = .ret ∧ upTo X.length (plateOK E X) = false ∧ s.A.getD 21 .dead = .int .i64 30 ∧ Grow (enter m) s.m)) := by
  have hl : lenV vP = some (.int .i64 X.length) := by simpa using hP.len
  refine W_loop (fun s k => ∃ i : Nat, i ≤ X.length ∧ k = X.length - i ∧ upTo i (plateOK E X) = true ∧ ∃ m1, Grow (enter m) m1 ∧ ∃ L, (L = [[.int .i64 N, vE, vP]] ∨ ∃ c, L = [[.int .i64 N, vE, vP], c]) ∧ ∃ b1 b2 b3 b4 b5 b6 b7 b8 b11 b13 b14 b15 b16 b17 b18 b19 b20, s = ⟨[.agg [.int .i64 N, vE, vP], b1, b2, b3, b4, b5, b6, b7, b8, .int .i64 i, .int .i64 X.length, b11, vP, b13, b14, b15, b16, b17, b18, b19, b20, .int .i64 0], L, m1⟩) ?_ _ X.length ⟨0, by omega, by omega, rfl, m0, hm0, _, .inl rfl, _, _, _, _, _, _, _, _, _, _, _, _, _, _, _, _, _, rfl⟩
  rintro s k ⟨i, hi, rfl, hall, m1, hm1, L, hL, b1, b2, b3, b4, b5, b6, b7, b8, b11, b13, b14, b15, b16, b17, b18, b19, b20, rfl⟩
  by_cases hlt : i < X.length
  · have hE1 : IsE m1 vE E := hE.enter.ext hm1.ext
    have hP1 : IsP m1 vP X := hP.enter.ext hm1.ext
    have hle : m1.lo ≤ m1.next := by rw [hm1.lo]; exact hm1.ext.1
    obtain ⟨o, off, h1, h2, _⟩ := hP1.at hlt
    have hw : wrapK .i64 ((i : Int) + 1) = ((i + 1 : Nat) : Int) := by rw [wrapK_in (by omega) (by omega)]; rfl
    have e1 : decide ((i : Int) < (X.length : Int)) = true := by simpa using hlt
    have hbad : plateOK E X i = false → upTo X.length (plateOK E X) = false := upTo_false hlt
    have hgood : plateOK E X i = true → upTo (i + 1) (plateOK E X) = true := fun h => by rw [upTo_succ, hall, h]; rfl
    have hdef : plateOK E X i = (decide (X[i].1 < X[i].2.1) && decide (X[i].2.1 < X[i].2.2) && decide (0 ≤ edgeI E X[i].1 X[i].2.1) && decide (0 ≤ edgeI E X[i].1 X[i].2.2) && decide (0 ≤ edgeI E X[i].2.1 X[i].2.2) && (decide (i = 0) || beforeB (X.getD (i - 1) (0, 0, 0)) X[i])) := by unfold plateOK; rw [getD_eq hlt]
    rw [hdef] at hbad hgood
    clear hdef
    have hnew := IsI.new (m := m1) (xs := [X[i].1, X[i].2.1, X[i].2.2]) (ro := false)
    have hcmp : ∀ p, decide (compareI [p.1, p.2.1, p.2.2] [X[i].1, X[i].2.1, X[i].2.2] ≥ 0) = !beforeB p X[i] := fun p => cmp3 _ _ _ _ _ _
    generalize hp0 : X[i].1 = p0 at *
    generalize hp1 : X[i].2.1 = p1 at *
    generalize hp2 : X[i].2.2 = p2 at *
    have hwr : ∀ L, writeN L (m1.push (.cells [.int .i64 0, .int .i64 0, .int .i64 0] false)) (.ptr m1.next 0) [.int .i64 p0, .int .i64 p1, .int .i64 p2] = some (L, m1.push (.cells [.int .i64 p0, .int .i64 p1, .int .i64 p2] false)) := fun L => writeN_new hle rfl
    have r0 : ∀ L, read1 L (m1.push (.cells [.int .i64 p0, .int .i64 p1, .int .i64 p2] false)) (.ptr m1.next 0) = some (.int .i64 p0) := fun L => read1_new
    have r1 : ∀ L, read1 L (m1.push (.cells [.int .i64 p0, .int .i64 p1, .int .i64 p2] false)) (.ptr m1.next 1) = some (.int .i64 p1) := fun L => read1_new
    have r2 : ∀ L, read1 L (m1.push (.cells [.int .i64 p0, .int .i64 p1, .int .i64 p2] false)) (.ptr m1.next 2) = some (.int .i64 p2) := fun L => read1_new
    have hgr := hm1.push (.cells [.int .i64 p0, .int .i64 p1, .int .i64 p2] false)
    have hL0 : Boxes.get L 0 = [.int .i64 N, vE, vP] := by rcases hL with rfl | ⟨c, rfl⟩ <;> rfl
    by_cases c1 : p0 ≥ p1
    · simp only [ir50_l2, hl, hL0, e1, h1, h2, hwr, r0, r1, r2, c1, if_false, if_true, Nat.reduceAdd, Nat.reduceMul, Nat.reduceLT, Nat.reduceLeDiff, Nat.reduceEqDiff, Nat.reduceSub, reduceCtorEq, false_and, true_and, false_or, or_false, asNat_nat, go_sem]
      exact ⟨hbad (by simp; omega), hgr⟩
    by_cases c2 : p1 ≥ p2
    · simp only [ir50_l2, hl, hL0, e1, h1, h2, hwr, r0, r1, r2, c1, c2, if_false, if_true, Nat.reduceAdd, Nat.reduceMul, Nat.reduceLT, Nat.reduceLeDiff, Nat.reduceEqDiff, Nat.reduceSub, reduceCtorEq, false_and, true_and, false_or, or_false, asNat_nat, go_sem]
      exact ⟨hbad (by simp; omega), hgr⟩
    have x1 : indexE E p0 p1 = edgeI E p0 p1 := index_edge E (by omega)
    have x2 : indexE E p0 p2 = edgeI E p0 p2 := index_edge E (by omega)
    have x3 : indexE E p1 p2 = edgeI E p1 p2 := index_edge E (by omega)
    by_cases c4 : (i : Int) > 0
    · have hi1 : i - 1 < X.length := by omega
      obtain ⟨o', off', g1, g2⟩ := hP1.addr hi1
      have hw1 : wrapK .i64 ((i : Int) - 1) = ((i - 1 : Nat) : Int) := by rw [wrapK_in (by omega) (by omega)]; omega
      have hne : i ≠ 0 := by omega
      rw [getD_eq hi1] at hbad hgood
      have hcmp := hcmp X[i - 1]
      have hc := compare_ok (m := m1.push (.cells [.int .i64 p0, .int .i64 p1, .int .i64 p2] false)) (g2.ext (Ext.push _ _)) hnew (by simp) rfl
      simp only [List.map, List.length_cons, List.length_nil, Nat.reduceAdd] at hc
      cases hx : beforeB X[i - 1] X[i] with
      | false =>
        rw [hx] at hcmp hbad
        simp only [Bool.not_false] at hcmp
        simp only [ir50_l2, hl, hL0, e1, h1, h2, hwr, r0, r1, r2, c1, c2, c4, hw1, g1, if_false, if_true, Nat.reduceAdd, Nat.reduceMul, Nat.reduceLT, Nat.reduceLeDiff, Nat.reduceEqDiff, Nat.reduceSub, reduceCtorEq, false_and, true_and, false_or, or_false, asNat_nat, go_sem]
        refine hc.callT ?_
        simp only [hcmp, if_false, if_true, Nat.reduceAdd, Nat.reduceMul, Nat.reduceLT, Nat.reduceLeDiff, Nat.reduceEqDiff, Nat.reduceSub, reduceCtorEq, false_and, true_and, false_or, or_false, asNat_nat, go_sem]
        exact ⟨hbad (by simp [hne]), hgr⟩
      | true =>
        rw [hx] at hcmp hgood
        simp only [Bool.not_true] at hcmp
        simp only [ir50_l2, hl, hL0, e1, h1, h2, hwr, r0, r1, r2, c1, c2, c4, hw1, g1, if_false, if_true, Nat.reduceAdd, Nat.reduceMul, Nat.reduceLT, Nat.reduceLeDiff, Nat.reduceEqDiff, Nat.reduceSub, reduceCtorEq, false_and, true_and, false_or, or_false, asNat_nat, go_sem]
        refine hc.callT ?_
        simp only [hcmp, hl, hL0, e1, h1, h2, hwr, r0, r1, r2, if_false, if_true, Nat.reduceAdd, Nat.reduceMul, Nat.reduceLT, Nat.reduceLeDiff, Nat.reduceEqDiff, Nat.reduceSub, reduceCtorEq, false_and, true_and, false_or, or_false, asNat_nat, go_sem]
        refine WL.mono (check50_l1 hE hlen hgr hL _ _ _ _ _ _ _ _ _ _ _ _ _ _ _ _ _) ?_
        rw [x1, x2, x3]
        rintro e s (⟨rfl, q1, m2, q2, c16, c17, c18, c20, c, rfl⟩ | ⟨rfl, q1, q2, q3⟩)
        · simp only [hw, if_false, if_true, Nat.reduceAdd, Nat.reduceMul, Nat.reduceLT, Nat.reduceLeDiff, Nat.reduceEqDiff, Nat.reduceSub, reduceCtorEq, false_and, true_and, false_or, or_false, asNat_nat, go_sem]
          refine ⟨X.length - (i + 1), by omega, i + 1, by omega, rfl, hgood ?_, _, q2, _, .inr ⟨_, rfl⟩, _, _, _, _, _, _, _, _, _, _, _, _, _, _, _, _, _, rfl⟩
          simp only [Bool.and_eq_true, decide_eq_true_eq] at q1
          simp; omega
        · simp only [if_false, if_true, Nat.reduceAdd, Nat.reduceMul, Nat.reduceLT, Nat.reduceLeDiff, Nat.reduceEqDiff, Nat.reduceSub, reduceCtorEq, false_and, true_and, false_or, or_false, asNat_nat, go_sem]
          refine ⟨hbad ?_, q2, q3⟩
          simp only [Bool.and_eq_false_iff, decide_eq_false_iff_not] at q1
          simp; omega
    · have hz : i = 0 := by omega
      simp only [ir50_l2, hl, hL0, e1, h1, h2, hwr, r0, r1, r2, c1, c2, c4, if_false, if_true, Nat.reduceAdd, Nat.reduceMul, Nat.reduceLT, Nat.reduceLeDiff, Nat.reduceEqDiff, Nat.reduceSub, reduceCtorEq, false_and, true_and, false_or, or_false, asNat_nat, go_sem]
      refine WL.mono (check50_l1 hE hlen hgr hL _ _ _ _ _ _ _ _ _ _ _ _ _ _ _ _ _) ?_
      rw [x1, x2, x3]
      rintro e s (⟨rfl, q1, m2, q2, c16, c17, c18, c20, c, rfl⟩ | ⟨rfl, q1, q2, q3⟩)
      · simp only [hw, if_false, if_true, Nat.reduceAdd, Nat.reduceMul, Nat.reduceLT, Nat.reduceLeDiff, Nat.reduceEqDiff, Nat.reduceSub, reduceCtorEq, false_and, true_and, false_or, or_false, asNat_nat, go_sem]
        refine ⟨X.length - (i + 1), by omega, i + 1, by omega, rfl, hgood ?_, _, q2, _, .inr ⟨_, rfl⟩, _, _, _, _, _, _, _, _, _, _, _, _, _, _, _, _, _, rfl⟩
        simp only [Bool.and_eq_true, decide_eq_true_eq] at q1
        simp; omega
      · simp only [if_false, if_true, Nat.reduceAdd, Nat.reduceMul, Nat.reduceLT, Nat.reduceLeDiff, Nat.reduceEqDiff, Nat.reduceSub, reduceCtorEq, false_and, true_and, false_or, or_false, asNat_nat, go_sem]
        refine ⟨hbad ?_, q2, q3⟩
        simp only [Bool.and_eq_false_iff, decide_eq_false_iff_not] at q1
        simp; omega
  · have e1 : decide ((i : Int) < (X.length : Int)) = false := by simpa using hlt
    simp only [ir50_l2, hl, e1, if_false, if_true, Nat.reduceAdd, Nat.reduceMul, Nat.reduceLT, Nat.reduceLeDiff, Nat.reduceEqDiff, Nat.reduceSub, reduceCtorEq, false_and, true_and, false_or, or_false, asNat_nat, go_sem]
    obtain rfl : i = X.length := by omega
    exact ⟨hall, _, hm1, _, _, _, _, _, _, _, _, _, _, _, _, _, _, _, _, _, _, _, _, _, rfl⟩

theorem check50_ok (hE : IsE m vE E) (hP : IsP m vP X) (hlen : E.length < 1000000) (hlx : X.length < 1000000) : Ev tab (.fn (.func 50) [] []) [.agg [.int .i64 N, vE, vP]] m (.int .i64 (if checkB N E X then 0 else 30)) m := by
  have hlE : lenV vE = some (.int .i64 E.length) := by simpa using hE.len
  have hlP : lenV vP = some (.int .i64 X.length) := by simpa using hP.len
  refine Ev_func (F := ir50) rfl (by simp [V.underL, V.under, hE.un, hP.un]) ?_
  by_cases c1 : N < 1
  · rw [show checkB N E X = false by unfold checkB; simp; omega]
    simp only [ir50, hE.one, hP.one, hlE, hlP, c1, if_false, if_true, Nat.reduceAdd, Nat.reduceMul, Nat.reduceLT, Nat.reduceLeDiff, Nat.reduceEqDiff, Nat.reduceSub, reduceCtorEq, false_and, true_and, false_or, or_false, asNat_nat, go_sem]
    exact fin_same rfl rfl
  by_cases c2 : N > 6
  · rw [show checkB N E X = false by unfold checkB; simp; omega]
    simp only [ir50, hE.one, hP.one, hlE, hlP, c1, c2, if_false, if_true, Nat.reduceAdd, Nat.reduceMul, Nat.reduceLT, Nat.reduceLeDiff, Nat.reduceEqDiff, Nat.reduceSub, reduceCtorEq, false_and, true_and, false_or, or_false, asNat_nat, go_sem]
    exact fin_same rfl rfl
  by_cases c3 : (E.length : Int) > 10
  · rw [show checkB N E X = false by unfold checkB; simp; omega]
    simp only [ir50, hE.one, hP.one, hlE, hlP, c1, c2, c3, if_false, if_true, Nat.reduceAdd, Nat.reduceMul, Nat.reduceLT, Nat.reduceLeDiff, Nat.reduceEqDiff, Nat.reduceSub, reduceCtorEq, false_and, true_and, false_or, or_false, asNat_nat, go_sem]
    exact fin_same rfl rfl
  by_cases c4 : (X.length : Int) > 6
  · rw [show checkB N E X = false by unfold checkB; simp; omega]
    simp only [ir50, hE.one, hP.one, hlE, hlP, c1, c2, c3, c4, if_false, if_true, Nat.reduceAdd, Nat.reduceMul, Nat.reduceLT, Nat.reduceLeDiff, Nat.reduceEqDiff, Nat.reduceSub, reduceCtorEq, false_and, true_and, false_or, or_false, asNat_nat, go_sem]
    exact fin_same rfl rfl
  have hcb : checkB N E X = (upTo E.length (edgeOK N E) && upTo X.length (plateOK E X)) := by
    unfold checkB
    rw [show decide (1 ≤ N) = true by simp; omega, show decide (N ≤ 6) = true by simp; omega, show decide (E.length ≤ 10) = true by simp; omega, show decide (X.length ≤ 6) = true by simp; omega]
    simp
  rw [hcb]
  simp only [ir50, hE.one, hP.one, hE.nl, hP.nl, hlE, hlP, c1, c2, c3, c4, if_false, if_true, Nat.reduceAdd, Nat.reduceMul, Nat.reduceLT, Nat.reduceLeDiff, Nat.reduceEqDiff, Nat.reduceSub, reduceCtorEq, false_and, true_and, false_or, or_false, asNat_nat, go_sem]
  refine WL.mono (check50_l0 hE hlen (Grow.refl _) _ _ _ _ _ _ _ _ _ _ _ _ _ _ _ _ _) ?_
  rintro e s (⟨rfl, h1, m1, hm1, b1, b2, b3, b4, b5, b6, b7, b8, b9, b10, b11, b12, b13, b14, b15, b16, b17, b18, b19, b20, rfl⟩ | ⟨rfl, h1, h2, h3⟩)
  · rw [h1]
    simp only [hlP, hP.nl, if_false, if_true, Nat.reduceAdd, Nat.reduceMul, Nat.reduceLT, Nat.reduceLeDiff, Nat.reduceEqDiff, Nat.reduceSub, reduceCtorEq, false_and, true_and, false_or, or_false, asNat_nat, go_sem]
    refine WL.mono (check50_l2 hE hP hlen hlx hm1 _ _ _ _ _ _ _ _ _ _ _ _ _ _ _ _ _) ?_
    rintro e s (⟨rfl, h1, m1, hm1, b1, b2, b3, b4, b5, b6, b7, b8, b9, b10, b11, b12, b13, b14, b15, b16, b17, b18, b19, b20, L, rfl⟩ | ⟨rfl, h1, h2, h3⟩)
    · rw [h1]
      simp only [if_false, if_true, Nat.reduceAdd, Nat.reduceMul, Nat.reduceLT, Nat.reduceLeDiff, Nat.reduceEqDiff, Nat.reduceSub, reduceCtorEq, false_and, true_and, false_or, or_false, asNat_nat, go_sem]
      exact fin_grow hm1 rfl rfl
    · rw [h1]
      simp only [h2, if_false, if_true, Nat.reduceAdd, Nat.reduceMul, Nat.reduceLT, Nat.reduceLeDiff, Nat.reduceEqDiff, Nat.reduceSub, reduceCtorEq, false_and, true_and, false_or, or_false, asNat_nat, go_sem]
      exact fin_grow h3 rfl rfl
  · rw [h1]
    simp only [h2, if_false, if_true, Nat.reduceAdd, Nat.reduceMul, Nat.reduceLT, Nat.reduceLeDiff, Nat.reduceEqDiff, Nat.reduceSub, reduceCtorEq, false_and, true_and, false_or, or_false, asNat_nat, go_sem]
    exact fin_grow h3 rfl rfl
end
end Go.AI.Sl
