/- What the functions of the law answer, second part. -/
import Derived.Test.YtmgbbajgajmdjaaDoorLa
import Derived.Test.YtmgbbajgajmdjaaDoorTf

set_option linter.unusedSimpArgs false
set_option linter.unusedVariables false

namespace Go.AI.Sl
open Go.AI
set_option maxRecDepth 10000

theorem wide_ok (m : Mem) (x : Int) : Ev tab (.fn (.func 85) [] []) [.int .i64 x] m (.bool (!numOK x)) m := by
  refine Ev_func (F := ir85) rfl rfl ?_
  by_cases h1 : x < -100
  · simp only [ir85, h1, if_false, if_true, Nat.reduceAdd, Nat.reduceMul, Nat.reduceLT, Nat.reduceLeDiff, Nat.reduceEqDiff, Nat.reduceSub, reduceCtorEq, false_and, true_and, false_or, or_false, asNat_nat, go_sem]
    rw [show (!numOK x) = true by simp [numOK]; omega]
    exact fin_same rfl rfl
  · by_cases h2 : x > 100
    · simp only [ir85, h1, h2, if_false, if_true, Nat.reduceAdd, Nat.reduceMul, Nat.reduceLT, Nat.reduceLeDiff, Nat.reduceEqDiff, Nat.reduceSub, reduceCtorEq, false_and, true_and, false_or, or_false, asNat_nat, go_sem]
      rw [show (!numOK x) = true by simp [numOK]; omega]
      exact fin_same rfl rfl
    · simp only [ir85, h1, h2, if_false, if_true, Nat.reduceAdd, Nat.reduceMul, Nat.reduceLT, Nat.reduceLeDiff, Nat.reduceEqDiff, Nat.reduceSub, reduceCtorEq, false_and, true_and, false_or, or_false, asNat_nat, go_sem]
      rw [show (!numOK x) = false by simp [numOK]; omega]
      exact fin_same rfl rfl

theorem anyWide_ok {m : Mem} {v : V} {xs : List Int} (hv : IsI m v xs) (hlen : xs.length < 1000000) : Ev tab (.fn (.func 74) [] []) [v, .fn (.func 85) [] []] m (.bool (!xs.all numOK)) m := by
  have hl : lenV v = some (.int .i64 xs.length) := by simpa using hv.len
  have key : Ev tab (.fn (.func 96) [] []) [v, .fn (.func 85) [] []] (enter m) (.int .i64 (match xs.findIdx? (fun x => !numOK x) with | some i => (i : Int) | none => -1)) (enter m) := by
    refine Ev_func (F := ir96) rfl (by simp [V.underL, V.under, hv.enter.un]) ?_
    simp only [ir96, hl, hv.nl, if_false, if_true, Nat.reduceAdd, Nat.reduceMul, Nat.reduceLT, Nat.reduceLeDiff, Nat.reduceEqDiff, Nat.reduceSub, reduceCtorEq, false_and, true_and, false_or, or_false, asNat_nat, go_sem]
    refine WL.mono (W_loop (fun s k => ∃ i : Nat, i ≤ xs.length ∧ k = xs.length - i ∧ (∀ j (h : j < xs.length), j < i → numOK xs[j] = true) ∧ ∃ a3 a5 a6, s = ⟨[v, .int .i64 i, .int .i64 xs.length, a3, .fn (.func 85) [] [], a5, a6, .int .i64 0], [], enter (enter m)⟩)
      (Q := fun e s => (e = .exit 0 ∧ (∀ j (h : j < xs.length), numOK xs[j] = true) ∧ s.A.getD 7 .dead = .int .i64 0 ∧ s.A.length = 8 ∧ s.m = enter (enter m) ∧ ∃ a0 a1 a2 a3 a4 a5 a6, s = ⟨[a0, a1, a2, a3, a4, a5, a6, .int .i64 0], [], enter (enter m)⟩) ∨
        (e = .ret ∧ (∃ i, xs.findIdx? (fun x => !numOK x) = some i ∧ s.A.getD 7 .dead = .int .i64 i) ∧ s.m = enter (enter m))) ?_ _ xs.length ⟨0, by omega, by omega, by simp, _, _, _, rfl⟩) ?_
    · rintro s k ⟨i, hi, rfl, hall, a3, a5, a6, rfl⟩
      by_cases hlt : i < xs.length
      · obtain ⟨o, off, h1, h2⟩ := hv.at hlt
        have hw : wrapK .i64 ((i : Int) + 1) = ((i + 1 : Nat) : Int) := by rw [wrapK_in (by omega) (by omega)]; rfl
        have e1 : decide ((i : Int) < (xs.length : Int)) = true := by simpa using hlt
        simp only [ir96_l0, hl, hv.nl, e1, h1, h2, if_false, if_true, Nat.reduceAdd, Nat.reduceMul, Nat.reduceLT, Nat.reduceLeDiff, Nat.reduceEqDiff, Nat.reduceSub, reduceCtorEq, false_and, true_and, false_or, or_false, asNat_nat, go_sem]
        refine (wide_ok _ _).callT ?_
        cases hx : numOK xs[i] with
        | true =>
          simp only [hw, if_false, if_true, Nat.reduceAdd, Nat.reduceMul, Nat.reduceLT, Nat.reduceLeDiff, Nat.reduceEqDiff, Nat.reduceSub, reduceCtorEq, false_and, true_and, false_or, or_false, asNat_nat, go_sem]
          refine ⟨xs.length - (i + 1), by omega, i + 1, by omega, rfl, fun j hj hji => ?_, _, _, _, rfl⟩
          rcases Nat.lt_succ_iff_lt_or_eq.1 hji with h | h
          · exact hall j hj h
          · subst h; exact hx
        | false =>
          simp only [if_false, if_true, Nat.reduceAdd, Nat.reduceMul, Nat.reduceLT, Nat.reduceLeDiff, Nat.reduceEqDiff, Nat.reduceSub, reduceCtorEq, false_and, true_and, false_or, or_false, asNat_nat, go_sem]
          exact ⟨⟨i, List.findIdx?_eq_some_iff_getElem.2 ⟨hlt, by simp [hx], fun j hj => by have := hall j (by omega) hj; rw [this]; simp⟩, rfl⟩, trivial⟩
      · have e1 : decide ((i : Int) < (xs.length : Int)) = false := by simpa using hlt
        simp only [ir96_l0, hl, e1, if_false, if_true, Nat.reduceAdd, Nat.reduceMul, Nat.reduceLT, Nat.reduceLeDiff, Nat.reduceEqDiff, Nat.reduceSub, reduceCtorEq, false_and, true_and, false_or, or_false, asNat_nat, go_sem]
        exact ⟨fun j hj => hall j hj (by omega), _, _, _, _, _, _, _, rfl⟩
    · rintro e s (⟨rfl, hall, _, _, _, a0, a1, a2, a3, a4, a5, a6, rfl⟩ | ⟨rfl, ⟨i, h1, h2⟩, h3⟩)
      · simp only [if_false, if_true, Nat.reduceAdd, Nat.reduceMul, Nat.reduceLT, Nat.reduceLeDiff, Nat.reduceEqDiff, Nat.reduceSub, reduceCtorEq, false_and, true_and, false_or, or_false, asNat_nat, go_sem]
        rw [List.findIdx?_eq_none_iff.2 fun e he => by obtain ⟨j, hj, rfl⟩ := List.getElem_of_mem he; rw [hall j hj]; rfl]
        exact fin_same rfl rfl
      · simp only [h2, h3, if_false, if_true, Nat.reduceAdd, Nat.reduceMul, Nat.reduceLT, Nat.reduceLeDiff, Nat.reduceEqDiff, Nat.reduceSub, reduceCtorEq, false_and, true_and, false_or, or_false, asNat_nat, go_sem]
        rw [h1]
        exact fin_same rfl rfl
  refine Ev_func (F := ir74) rfl (by simp [V.underL, V.under, hv.un]) ?_
  simp only [ir74, hv.nl, if_false, if_true, Nat.reduceAdd, Nat.reduceMul, Nat.reduceLT, Nat.reduceLeDiff, Nat.reduceEqDiff, Nat.reduceSub, reduceCtorEq, false_and, true_and, false_or, or_false, asNat_nat, go_sem]
  refine key.callT ?_
  have : decide ((match xs.findIdx? (fun x => !numOK x) with | some i => (i : Int) | none => -1) ≥ 0) = !xs.all numOK := by
    cases h : xs.findIdx? (fun x => !numOK x) with
    | none =>
      rw [List.findIdx?_eq_none_iff] at h
      have : xs.all numOK = true := by rw [List.all_eq_true]; intro x hx; have := h x hx; simpa using this
      rw [this]; rfl
    | some i =>
      obtain ⟨hlt, h1, _⟩ := List.findIdx?_eq_some_iff_getElem.1 h
      have : xs.all numOK = false := by rw [List.all_eq_false]; exact ⟨xs[i], by simp, by simpa using h1⟩
      rw [this]; simp
  simp only [this, if_false, if_true, Nat.reduceAdd, Nat.reduceMul, Nat.reduceLT, Nat.reduceLeDiff, Nat.reduceEqDiff, Nat.reduceSub, reduceCtorEq, false_and, true_and, false_or, or_false, asNat_nat, go_sem]
  exact fin_same rfl rfl

section
variable {m : Mem} {N : Int} {vE vP : V} {E : List (Int × Int)} {X : List (Int × Int × Int)}

theorem edges_ok (hE : IsE m vE E) (hP : IsP m vP X) : Ev tab (.fn (.func 55) [.agg [.int .i64 N, vE, vP]] []) [] m (.int .i64 E.length) m := by
  have hl : lenV vE = some (.int .i64 E.length) := by simpa using hE.len
  refine Ev_func (F := ir55) rfl (by simp [V.underL, V.under, hE.un, hP.un]) ?_
  simp only [ir55, hE.one, hP.one, hl, if_false, if_true, Nat.reduceAdd, Nat.reduceMul, Nat.reduceLT, Nat.reduceLeDiff, Nat.reduceEqDiff, Nat.reduceSub, reduceCtorEq, false_and, true_and, false_or, or_false, asNat_nat, go_sem]
  exact fin_same rfl rfl
theorem plates_ok (hE : IsE m vE E) (hP : IsP m vP X) : Ev tab (.fn (.func 65) [.agg [.int .i64 N, vE, vP]] []) [] m (.int .i64 X.length) m := by
  have hl : lenV vP = some (.int .i64 X.length) := by simpa using hP.len
  refine Ev_func (F := ir65) rfl (by simp [V.underL, V.under, hE.un, hP.un]) ?_
  simp only [ir65, hE.one, hP.one, hl, if_false, if_true, Nat.reduceAdd, Nat.reduceMul, Nat.reduceLT, Nat.reduceLeDiff, Nat.reduceEqDiff, Nat.reduceSub, reduceCtorEq, false_and, true_and, false_or, or_false, asNat_nat, go_sem]
  exact fin_same rfl rfl
theorem places_ok (hE : IsE m vE E) (hP : IsP m vP X) : Ev tab (.fn (.func 64) [.agg [.int .i64 N, vE, vP]] []) [] m (.int .i64 N) m := by
  refine Ev_func (F := ir64) rfl (by simp [V.underL, V.under, hE.un, hP.un]) ?_
  simp only [ir64, hE.one, hP.one, if_false, if_true, Nat.reduceAdd, Nat.reduceMul, Nat.reduceLT, Nat.reduceLeDiff, Nat.reduceEqDiff, Nat.reduceSub, reduceCtorEq, false_and, true_and, false_or, or_false, asNat_nat, go_sem]
  exact fin_same rfl rfl

def openI (N : Int) (E : List (Int × Int)) (X : List (Int × Int × Int)) (xs : List Int) (many : Int) : Int := if checkB N E X then if numbersB xs many then 0 else 1 else 30

theorem open_ok (hE : IsE m vE E) (hP : IsP m vP X) (hlen : E.length < 1000000) (hlx : X.length < 1000000) {v : V} {xs : List Int} (hv : IsI m v xs) (hlv : xs.length < 1000000) {k : Nat} {many : Int}
    (hk : Ev tab (.fn (.func k) [.agg [.int .i64 N, vE, vP]] []) [] (enter m) (.int .i64 many) (enter m)) :
    Ev tab (.fn (.func 54) [] []) [.agg [.int .i64 N, vE, vP], v, .fn (.func k) [.agg [.int .i64 N, vE, vP]] []] m (.int .i64 (openI N E X xs many)) m := by
  have hl : lenV v = some (.int .i64 xs.length) := by simpa using hv.len
  refine Ev_func (F := ir54) rfl (by simp [V.underL, V.under, hE.un, hP.un, hv.un]) ?_
  simp only [ir54, hE.one, hP.one, if_false, if_true, Nat.reduceAdd, Nat.reduceMul, Nat.reduceLT, Nat.reduceLeDiff, Nat.reduceEqDiff, Nat.reduceSub, reduceCtorEq, false_and, true_and, false_or, or_false, asNat_nat, go_sem]
  refine (check50_ok hE.enter hP.enter hlen hlx).callT ?_
  unfold openI
  cases hc : checkB N E X with
  | false =>
    simp only [Bool.false_eq_true, show ((30 : Int) != 0) = true from rfl, if_false, if_true, Nat.reduceAdd, Nat.reduceMul, Nat.reduceLT, Nat.reduceLeDiff, Nat.reduceEqDiff, Nat.reduceSub, reduceCtorEq, false_and, true_and, false_or, or_false, asNat_nat, go_sem]
    exact fin_same rfl rfl
  | true =>
    simp only [show ((0 : Int) != 0) = false from rfl, hl, hv.nl, if_false, if_true, Nat.reduceAdd, Nat.reduceMul, Nat.reduceLT, Nat.reduceLeDiff, Nat.reduceEqDiff, Nat.reduceSub, reduceCtorEq, false_and, true_and, false_or, or_false, asNat_nat, go_sem]
    refine hk.callT ?_
    by_cases hn : (xs.length : Int) = many
    · have e1 : ((xs.length : Int) != many) = false := by simp [hn]
      simp only [e1, hv.nl, if_false, if_true, Nat.reduceAdd, Nat.reduceMul, Nat.reduceLT, Nat.reduceLeDiff, Nat.reduceEqDiff, Nat.reduceSub, reduceCtorEq, false_and, true_and, false_or, or_false, asNat_nat, go_sem]
      refine (anyWide_ok hv.enter hlv).callT ?_
      cases ha : xs.all numOK with
      | true =>
        rw [show numbersB xs many = true by simp [numbersB, ha, hn]]
        simp only [if_false, if_true, Nat.reduceAdd, Nat.reduceMul, Nat.reduceLT, Nat.reduceLeDiff, Nat.reduceEqDiff, Nat.reduceSub, reduceCtorEq, false_and, true_and, false_or, or_false, asNat_nat, go_sem]
        exact fin_same rfl rfl
      | false =>
        rw [show numbersB xs many = false by simp [numbersB, ha]]
        simp only [Bool.false_eq_true, if_false, if_true, Nat.reduceAdd, Nat.reduceMul, Nat.reduceLT, Nat.reduceLeDiff, Nat.reduceEqDiff, Nat.reduceSub, reduceCtorEq, false_and, true_and, false_or, or_false, asNat_nat, go_sem]
        exact fin_same rfl rfl
    · have e1 : ((xs.length : Int) != many) = true := by simp [hn]
      rw [show numbersB xs many = false by simp [numbersB, hn]]
      simp only [e1, Bool.false_eq_true, if_false, if_true, Nat.reduceAdd, Nat.reduceMul, Nat.reduceLT, Nat.reduceLeDiff, Nat.reduceEqDiff, Nat.reduceSub, reduceCtorEq, false_and, true_and, false_or, or_false, asNat_nat, go_sem]
      exact fin_same rfl rfl
end
end Go.AI.Sl

namespace Go.AI.Sl
open Go.AI
set_option maxRecDepth 10000
theorem resultV_b3 {s : St} {b n i : Nat} : resultV s [.box b true n, .var i] = (match readN s.L s.m (.lp b 0) n with | some cs => some (.tup [.agg cs, s.A.getD i .dead]) | none => none) := by
  simp only [resultV, resultsL, result1, if_true]
  cases readN s.L s.m (.lp b 0) n <;> rfl
section
variable {m : Mem} {N : Int} {vE vP : V} {E : List (Int × Int)} {X : List (Int × Int × Int)} {v : V} {xs : List Int}

theorem gains_err (hE : IsE m vE E) (hP : IsP m vP X) (hlen : E.length < 1000000) (hlx : X.length < 1000000) (hv : IsI m v xs) (hlv : xs.length < 1000000) (he : openI N E X xs E.length ≠ 0) :
    Ev tab (.fn (.func 16) [] []) [.agg [.int .i64 N, vE, vP], v] m (.tup [.nils, .int .i64 (openI N E X xs E.length)]) m := by
  have he' : (openI N E X xs E.length != 0) = true := by simpa using he
  refine Ev_func (F := ir16) rfl (by simp [V.underL, V.under, hE.un, hP.un, hv.un]) ?_
  simp only [ir16, hE.one, hP.one, hv.nl, if_false, if_true, Nat.reduceAdd, Nat.reduceMul, Nat.reduceLT, Nat.reduceLeDiff, Nat.reduceEqDiff, Nat.reduceSub, reduceCtorEq, false_and, true_and, false_or, or_false, asNat_nat, go_sem]
  refine (open_ok hE.enter hP.enter hlen hlx hv.enter hlv (edges_ok hE.enter.enter hP.enter.enter)).callT ?_
  simp only [he', if_false, if_true, Nat.reduceAdd, Nat.reduceMul, Nat.reduceLT, Nat.reduceLeDiff, Nat.reduceEqDiff, Nat.reduceSub, reduceCtorEq, false_and, true_and, false_or, or_false, asNat_nat, go_sem]
  exact fin_same rfl rfl

theorem best_err (hE : IsE m vE E) (hP : IsP m vP X) (hlen : E.length < 1000000) (hlx : X.length < 1000000) (hv : IsI m v xs) (hlv : xs.length < 1000000) (he : openI N E X xs E.length ≠ 0) :
    Ev tab (.fn (.func 18) [] []) [.agg [.int .i64 N, vE, vP], v] m (.tup [.nils, .int .i64 (openI N E X xs E.length)]) m := by
  have he' : (openI N E X xs E.length != 0) = true := by simpa using he
  refine Ev_func (F := ir18) rfl (by simp [V.underL, V.under, hE.un, hP.un, hv.un]) ?_
  simp only [ir18, hE.one, hP.one, hv.nl, if_false, if_true, Nat.reduceAdd, Nat.reduceMul, Nat.reduceLT, Nat.reduceLeDiff, Nat.reduceEqDiff, Nat.reduceSub, reduceCtorEq, false_and, true_and, false_or, or_false, asNat_nat, go_sem]
  refine (open_ok hE.enter hP.enter hlen hlx hv.enter hlv (edges_ok hE.enter.enter hP.enter.enter)).callT ?_
  simp only [he', if_false, if_true, Nat.reduceAdd, Nat.reduceMul, Nat.reduceLT, Nat.reduceLeDiff, Nat.reduceEqDiff, Nat.reduceSub, reduceCtorEq, false_and, true_and, false_or, or_false, asNat_nat, go_sem]
  exact fin_same rfl rfl

theorem gradient_err (hE : IsE m vE E) (hP : IsP m vP X) (hlen : E.length < 1000000) (hlx : X.length < 1000000) (hv : IsI m v xs) (hlv : xs.length < 1000000) (he : openI N E X xs N ≠ 0) :
    Ev tab (.fn (.func 28) [] []) [.agg [.int .i64 N, vE, vP], v] m (.tup [.nils, .int .i64 (openI N E X xs N)]) m := by
  have he' : (openI N E X xs N != 0) = true := by simpa using he
  refine Ev_func (F := ir28) rfl (by simp [V.underL, V.under, hE.un, hP.un, hv.un]) ?_
  simp only [ir28, hE.one, hP.one, hv.nl, if_false, if_true, Nat.reduceAdd, Nat.reduceMul, Nat.reduceLT, Nat.reduceLeDiff, Nat.reduceEqDiff, Nat.reduceSub, reduceCtorEq, false_and, true_and, false_or, or_false, asNat_nat, go_sem]
  refine (open_ok hE.enter hP.enter hlen hlx hv.enter hlv (places_ok hE.enter.enter hP.enter.enter)).callT ?_
  simp only [he', if_false, if_true, Nat.reduceAdd, Nat.reduceMul, Nat.reduceLT, Nat.reduceLeDiff, Nat.reduceEqDiff, Nat.reduceSub, reduceCtorEq, false_and, true_and, false_or, or_false, asNat_nat, go_sem]
  exact fin_same rfl rfl

theorem swirl_err (hE : IsE m vE E) (hP : IsP m vP X) (hlen : E.length < 1000000) (hlx : X.length < 1000000) (hv : IsI m v xs) (hlv : xs.length < 1000000) (he : openI N E X xs X.length ≠ 0) :
    Ev tab (.fn (.func 31) [] []) [.agg [.int .i64 N, vE, vP], v] m (.tup [.nils, .int .i64 (openI N E X xs X.length)]) m := by
  have he' : (openI N E X xs X.length != 0) = true := by simpa using he
  refine Ev_func (F := ir31) rfl (by simp [V.underL, V.under, hE.un, hP.un, hv.un]) ?_
  simp only [ir31, hE.one, hP.one, hv.nl, if_false, if_true, Nat.reduceAdd, Nat.reduceMul, Nat.reduceLT, Nat.reduceLeDiff, Nat.reduceEqDiff, Nat.reduceSub, reduceCtorEq, false_and, true_and, false_or, or_false, asNat_nat, go_sem]
  refine (open_ok hE.enter hP.enter hlen hlx hv.enter hlv (plates_ok hE.enter.enter hP.enter.enter)).callT ?_
  simp only [he', if_false, if_true, Nat.reduceAdd, Nat.reduceMul, Nat.reduceLT, Nat.reduceLeDiff, Nat.reduceEqDiff, Nat.reduceSub, reduceCtorEq, false_and, true_and, false_or, or_false, asNat_nat, go_sem]
  exact fin_same rfl rfl

theorem turns_err (hE : IsE m vE E) (hP : IsP m vP X) (hlen : E.length < 1000000) (hlx : X.length < 1000000) (hv : IsI m v xs) (hlv : xs.length < 1000000) (he : openI N E X xs E.length ≠ 0) :
    Ev tab (.fn (.func 33) [] []) [.agg [.int .i64 N, vE, vP], v] m (.tup [.nils, .int .i64 (openI N E X xs E.length)]) m := by
  have he' : (openI N E X xs E.length != 0) = true := by simpa using he
  refine Ev_func (F := ir33) rfl (by simp [V.underL, V.under, hE.un, hP.un, hv.un]) ?_
  have hx : Ext m ((enter m).push (.cells [v] false)) := (Ext.enter m).trans (Ext.push _ _)
  have hg : Grow (enter m) ((enter m).push (.cells [v] false)) := (Grow.refl _).push _
  have r0 : ∀ L, read1 L ((enter m).push (.cells [v] false)) (.ptr m.next 0) = some v := fun L => read1_new (m := enter m)
  have hcv := cells_one hv.one
  simp only [ir33, hE.one, hP.one, hv.one, hcv, hv.nl, enter_next, r0, if_false, if_true, Nat.reduceAdd, Nat.reduceMul, Nat.reduceLT, Nat.reduceLeDiff, Nat.reduceEqDiff, Nat.reduceSub, reduceCtorEq, false_and, true_and, false_or, or_false, asNat_nat, go_sem]
  refine (open_ok (hE.ext hx) (hP.ext hx) hlen hlx (hv.ext hx) hlv (edges_ok (hE.ext hx).enter (hP.ext hx).enter)).callT ?_
  simp only [he', if_false, if_true, Nat.reduceAdd, Nat.reduceMul, Nat.reduceLT, Nat.reduceLeDiff, Nat.reduceEqDiff, Nat.reduceSub, reduceCtorEq, false_and, true_and, false_or, or_false, asNat_nat, go_sem]
  exact fin_grow hg rfl rfl

theorem heights_err (hE : IsE m vE E) (hP : IsP m vP X) (hlen : E.length < 1000000) (hlx : X.length < 1000000) (hv : IsI m v xs) (hlv : xs.length < 1000000) (he : openI N E X xs E.length ≠ 0) :
    Ev tab (.fn (.func 34) [] []) [.agg [.int .i64 N, vE, vP], v] m (.tup [.nils, .bool false, .int .i64 (openI N E X xs E.length)]) m := by
  have he' : (openI N E X xs E.length != 0) = true := by simpa using he
  refine Ev_func (F := ir34) rfl (by simp [V.underL, V.under, hE.un, hP.un, hv.un]) ?_
  simp only [ir34, hE.one, hP.one, hv.nl, if_false, if_true, Nat.reduceAdd, Nat.reduceMul, Nat.reduceLT, Nat.reduceLeDiff, Nat.reduceEqDiff, Nat.reduceSub, reduceCtorEq, false_and, true_and, false_or, or_false, asNat_nat, go_sem]
  refine (open_ok hE.enter hP.enter hlen hlx hv.enter hlv (edges_ok hE.enter.enter hP.enter.enter)).callT ?_
  simp only [he', if_false, if_true, Nat.reduceAdd, Nat.reduceMul, Nat.reduceLT, Nat.reduceLeDiff, Nat.reduceEqDiff, Nat.reduceSub, reduceCtorEq, false_and, true_and, false_or, or_false, asNat_nat, go_sem]
  exact fin_same rfl rfl

theorem ring_err (hE : IsE m vE E) (hP : IsP m vP X) (hlen : E.length < 1000000) (hlx : X.length < 1000000) (hv : IsI m v xs) (hlv : xs.length < 1000000) (he : openI N E X xs E.length ≠ 0) :
    Ev tab (.fn (.func 40) [] []) [.agg [.int .i64 N, vE, vP], v] m (.tup [.nils, .bool false, .int .i64 (openI N E X xs E.length)]) m := by
  have he' : (openI N E X xs E.length != 0) = true := by simpa using he
  refine Ev_func (F := ir40) rfl (by simp [V.underL, V.under, hE.un, hP.un, hv.un]) ?_
  simp only [ir40, hE.one, hP.one, hv.nl, if_false, if_true, Nat.reduceAdd, Nat.reduceMul, Nat.reduceLT, Nat.reduceLeDiff, Nat.reduceEqDiff, Nat.reduceSub, reduceCtorEq, false_and, true_and, false_or, or_false, asNat_nat, go_sem]
  refine (open_ok hE.enter hP.enter hlen hlx hv.enter hlv (edges_ok hE.enter.enter hP.enter.enter)).callT ?_
  simp only [he', if_false, if_true, Nat.reduceAdd, Nat.reduceMul, Nat.reduceLT, Nat.reduceLeDiff, Nat.reduceEqDiff, Nat.reduceSub, reduceCtorEq, false_and, true_and, false_or, or_false, asNat_nat, go_sem]
  exact fin_same rfl rfl

theorem isRing_err (hE : IsE m vE E) (hP : IsP m vP X) (hlen : E.length < 1000000) (hlx : X.length < 1000000) (hv : IsI m v xs) (hlv : xs.length < 1000000) {u : V} (hu : V.under m.next u = true) (hun : u.noLp = true) (he : openI N E X xs E.length ≠ 0) :
    Ev tab (.fn (.func 51) [] []) [.agg [.int .i64 N, vE, vP], v, u] m (.tup [.int .i64 0, .bool false, .int .i64 (openI N E X xs E.length)]) m := by
  have he' : (openI N E X xs E.length != 0) = true := by simpa using he
  refine Ev_func (F := ir51) rfl (by simp [V.underL, V.under, hE.un, hP.un, hv.un, hu]) ?_
  simp only [ir51, hE.one, hP.one, hv.nl, if_false, if_true, Nat.reduceAdd, Nat.reduceMul, Nat.reduceLT, Nat.reduceLeDiff, Nat.reduceEqDiff, Nat.reduceSub, reduceCtorEq, false_and, true_and, false_or, or_false, asNat_nat, go_sem]
  refine (open_ok hE.enter hP.enter hlen hlx hv.enter hlv (edges_ok hE.enter.enter hP.enter.enter)).callT ?_
  simp only [he', if_false, if_true, Nat.reduceAdd, Nat.reduceMul, Nat.reduceLT, Nat.reduceLeDiff, Nat.reduceEqDiff, Nat.reduceSub, reduceCtorEq, false_and, true_and, false_or, or_false, asNat_nat, go_sem]
  exact fin_same rfl rfl

theorem parts_err (hE : IsE m vE E) (hP : IsP m vP X) (hlen : E.length < 1000000) (hlx : X.length < 1000000) (hv : IsI m v xs) (hlv : xs.length < 1000000) (he : openI N E X xs E.length ≠ 0) :
    Ev tab (.fn (.func 17) [] []) [.agg [.int .i64 N, vE, vP], v] m (.tup [.agg [.nils, .nils, .nils], .int .i64 (openI N E X xs E.length)]) m := by
  have he' : (openI N E X xs E.length != 0) = true := by simpa using he
  refine Ev_func (F := ir17) rfl (by simp [V.underL, V.under, hE.un, hP.un, hv.un]) ?_
  simp only [ir17, hE.one, hP.one, hv.nl, if_false, if_true, Nat.reduceAdd, Nat.reduceMul, Nat.reduceLT, Nat.reduceLeDiff, Nat.reduceEqDiff, Nat.reduceSub, reduceCtorEq, false_and, true_and, false_or, or_false, asNat_nat, go_sem]
  refine (open_ok hE.enter hP.enter hlen hlx hv.enter hlv (edges_ok hE.enter.enter hP.enter.enter)).callT ?_
  simp only [he', resultV_b3, if_false, if_true, Nat.reduceAdd, Nat.reduceMul, Nat.reduceLT, Nat.reduceLeDiff, Nat.reduceEqDiff, Nat.reduceSub, reduceCtorEq, false_and, true_and, false_or, or_false, asNat_nat, go_sem]
  exact fin_same rfl rfl

theorem sizes_err (hE : IsE m vE E) (hP : IsP m vP X) (hlen : E.length < 1000000) (hlx : X.length < 1000000) (hv : IsI m v xs) (hlv : xs.length < 1000000) (he : openI N E X xs E.length ≠ 0) :
    Ev tab (.fn (.func 37) [] []) [.agg [.int .i64 N, vE, vP], v] m (.tup [.agg [.int .i64 0, .int .i64 0, .int .i64 0, .int .i64 0, .int .i64 0, .int .i64 0, .int .i64 0, .int .i64 0], .int .i64 (openI N E X xs E.length)]) m := by
  have he' : (openI N E X xs E.length != 0) = true := by simpa using he
  refine Ev_func (F := ir37) rfl (by simp [V.underL, V.under, hE.un, hP.un, hv.un]) ?_
  simp only [ir37, hE.one, hP.one, hv.nl, if_false, if_true, Nat.reduceAdd, Nat.reduceMul, Nat.reduceLT, Nat.reduceLeDiff, Nat.reduceEqDiff, Nat.reduceSub, reduceCtorEq, false_and, true_and, false_or, or_false, asNat_nat, go_sem]
  refine (open_ok hE.enter hP.enter hlen hlx hv.enter hlv (edges_ok hE.enter.enter hP.enter.enter)).callT ?_
  simp only [he', resultV_b3, if_false, if_true, Nat.reduceAdd, Nat.reduceMul, Nat.reduceLT, Nat.reduceLeDiff, Nat.reduceEqDiff, Nat.reduceSub, reduceCtorEq, false_and, true_and, false_or, or_false, asNat_nat, go_sem]
  exact fin_same rfl rfl

theorem isCalm_err (hE : IsE m vE E) (hP : IsP m vP X) (hlen : E.length < 1000000) (hlx : X.length < 1000000) (hv : IsI m v xs) (hlv : xs.length < 1000000) (he : openI N E X xs E.length ≠ 0) :
    Ev tab (.fn (.func 46) [] []) [.agg [.int .i64 N, vE, vP], v] m (.tup [.bool false, .int .i64 (openI N E X xs E.length)]) m := by
  have he' : (openI N E X xs E.length != 0) = true := by simpa using he
  refine Ev_func (F := ir46) rfl (by simp [V.underL, V.under, hE.un, hP.un, hv.un]) ?_
  simp only [ir46, hE.one, hP.one, hv.nl, if_false, if_true, Nat.reduceAdd, Nat.reduceMul, Nat.reduceLT, Nat.reduceLeDiff, Nat.reduceEqDiff, Nat.reduceSub, reduceCtorEq, false_and, true_and, false_or, or_false, asNat_nat, go_sem]
  refine (gains_err hE.enter hP.enter hlen hlx hv.enter hlv he).callT ?_
  simp only [he', if_false, if_true, Nat.reduceAdd, Nat.reduceMul, Nat.reduceLT, Nat.reduceLeDiff, Nat.reduceEqDiff, Nat.reduceSub, reduceCtorEq, false_and, true_and, false_or, or_false, asNat_nat, go_sem]
  exact fin_same rfl rfl

theorem gauge_err (hE : IsE m vE E) (hP : IsP m vP X) (hlen : E.length < 1000000) (hlx : X.length < 1000000) (he : checkB N E X = false) :
    Ev tab (.fn (.func 44) [] []) [.agg [.int .i64 N, vE, vP]] m (.tup [.int .i64 0, .int .i64 30]) m := by
  have hk := check50_ok (N := N) hE.enter hP.enter hlen hlx
  rw [he] at hk
  refine Ev_func (F := ir44) rfl (by simp [V.underL, V.under, hE.un, hP.un]) ?_
  simp only [ir44, hE.one, hP.one, if_false, if_true, Nat.reduceAdd, Nat.reduceMul, Nat.reduceLT, Nat.reduceLeDiff, Nat.reduceEqDiff, Nat.reduceSub, reduceCtorEq, false_and, true_and, false_or, or_false, asNat_nat, go_sem]
  refine hk.callT ?_
  simp only [Bool.false_eq_true, show ((30 : Int) != 0) = true from rfl, if_false, if_true, Nat.reduceAdd, Nat.reduceMul, Nat.reduceLT, Nat.reduceLeDiff, Nat.reduceEqDiff, Nat.reduceSub, reduceCtorEq, false_and, true_and, false_or, or_false, asNat_nat, go_sem]
  exact fin_same rfl rfl

theorem pieces_err (hE : IsE m vE E) (hP : IsP m vP X) (hlen : E.length < 1000000) (hlx : X.length < 1000000) (he : checkB N E X = false) :
    Ev tab (.fn (.func 45) [] []) [.agg [.int .i64 N, vE, vP]] m (.tup [.int .i64 0, .int .i64 30]) m := by
  have hk := check50_ok (N := N) hE.enter hP.enter hlen hlx
  rw [he] at hk
  refine Ev_func (F := ir45) rfl (by simp [V.underL, V.under, hE.un, hP.un]) ?_
  simp only [ir45, hE.one, hP.one, if_false, if_true, Nat.reduceAdd, Nat.reduceMul, Nat.reduceLT, Nat.reduceLeDiff, Nat.reduceEqDiff, Nat.reduceSub, reduceCtorEq, false_and, true_and, false_or, or_false, asNat_nat, go_sem]
  refine hk.callT ?_
  simp only [Bool.false_eq_true, show ((30 : Int) != 0) = true from rfl, if_false, if_true, Nat.reduceAdd, Nat.reduceMul, Nat.reduceLT, Nat.reduceLeDiff, Nat.reduceEqDiff, Nat.reduceSub, reduceCtorEq, false_and, true_and, false_or, or_false, asNat_nat, go_sem]
  exact fin_same rfl rfl
end
end Go.AI.Sl

namespace Go.AI.Sl
open Go.AI
set_option maxRecDepth 10000
section
variable {m : Mem} {N : Int} {vE vP : V} {E : List (Int × Int)} {X : List (Int × Int × Int)}

theorem Rows.one' {size : Nat} {m : Mem} {v : V} {rows : List (List V)} (h : Rows size m v rows) : v.cells = [v] := cells_one h.one

theorem own_ok (hE : IsE m vE E) (hP : IsP m vP X) (cE : CapOK 2 vE) (cP : CapOK 3 vP) :
    ∃ uE uP m', Ev tab (.fn (.func 20) [] []) [.agg [.int .i64 N, vE, vP]] m (.agg [.int .i64 N, uE, uP]) m' ∧ IsE m' uE (E.take 11) ∧ IsP m' uP (X.take 7) ∧ Ext m m' ∧ CapOK 2 uE ∧ CapOK 3 uP ∧ m'.lo = m.lo := by
  have hlE : lenV vE = some (.int .i64 E.length) := by simpa using hE.len
  have hlP : lenV vP = some (.int .i64 X.length) := by simpa using hP.len
  have mE : min (E.length : Int) 11 = ((min E.length 11 : Nat) : Int) := by omega
  have mP : min (X.length : Int) 7 = ((min X.length 7 : Nat) : Int) := by omega
  have sE := same_list hlE
  have sP := same_list hlP
  suffices h : vc tab ir20.body ⟨initA ([] ++ [.agg [.int .i64 N, vE, vP]] ++ []) ir20.vars, [], enter m⟩ fun e s => (match e with | .exit _ => False | _ => True) ∧ ∃ v, resultV s ir20.results = some v ∧ V.under s.m.next v = true ∧
      ∃ uE uP m', settle m s.m v = (.agg [.int .i64 N, uE, uP], m') ∧ IsE m' uE (E.take 11) ∧ IsP m' uP (X.take 7) ∧ Ext m m' ∧ CapOK 2 uE ∧ CapOK 3 uP ∧ m'.lo = m.lo by
    obtain ⟨N', e, s', ⟨h0, v, h1, h2, uE, uP, m', h3, h4⟩, h5⟩ := vc_sound _ _ _ h
    refine ⟨uE, uP, m', ⟨N' + 1, fun n d hn hd => ?_⟩, h4⟩
    obtain ⟨d, rfl⟩ : ∃ d', d = d' + 1 := ⟨d - 1, by omega⟩
    have hu : V.underL m.next ([] ++ [V.agg [.int .i64 N, vE, vP]] ++ []) = true := by simp [V.underL, V.under, hE.un, hP.un]
    simp only [call, show tab 20 = some ir20 from rfl, hu, if_true]
    rw [h5 n d (by omega) (by omega)]
    cases e with
    | exit i => exact h0.elim
    | normal => simp only [h1, h2, if_true, h3]
    | ret => simp only [h1, h2, if_true, h3]
  simp only [ir20, hE.one, hP.one, hlE, hlP, mE, mP, if_false, if_true, Nat.reduceAdd, Nat.reduceMul, Nat.reduceLT, Nat.reduceLeDiff, Nat.reduceEqDiff, Nat.reduceSub, reduceCtorEq, false_and, true_and, false_or, or_false, asNat_nat, go_sem]
  refine opt_sl hE.enter cE (by rfl) (by rfl) (k := min E.length 11) (by simp; omega) fun u1 hu1 => ?_
  simp only [hlE, hlP, mE, mP, if_false, if_true, Nat.reduceAdd, Nat.reduceMul, Nat.reduceLT, Nat.reduceLeDiff, Nat.reduceEqDiff, Nat.reduceSub, reduceCtorEq, false_and, true_and, false_or, or_false, asNat_nat, go_sem]
  refine opt_sl hP.enter cP (by rfl) (by rfl) (k := min X.length 7) (by simp; omega) fun u2 hu2 => ?_
  simp only [if_false, if_true, Nat.reduceAdd, Nat.reduceMul, Nat.reduceLT, Nat.reduceLeDiff, Nat.reduceEqDiff, Nat.reduceSub, reduceCtorEq, false_and, true_and, false_or, or_false, asNat_nat, go_sem]
  refine opt_append_nil (bytes := 16) (m0 := enter m) hu1 (by rfl) (by rfl) (Grow.refl _) (fun r hr => pr_ones E r (List.mem_of_mem_take hr)) (by decide) (by simp; omega) (by simp; omega) fun w1 m1 o1 g1 x1 => ?_
  simp only [hlE, sE, sP, same_int, if_false, if_true, Nat.reduceAdd, Nat.reduceMul, Nat.reduceLT, Nat.reduceLeDiff, Nat.reduceEqDiff, Nat.reduceSub, reduceCtorEq, false_and, true_and, false_or, or_false, asNat_nat, go_sem]
  refine opt_append_nil (bytes := 24) (m0 := enter m) (hu2.ext x1) (by rfl) (by rfl) g1 (fun r hr => tr_ones X r (List.mem_of_mem_take hr)) (by decide) (by simp; omega) (by simp; omega) fun w2 m2 o2 g2 x2 => ?_
  have o1' := o1.grow x2
  have hw1 := o1'.rows
  have hw2 := o2.rows
  have c1 := cells_one hw1.one
  have c2 := cells_one hw2.one
  simp only [sP, same_int, c1, c2, hw1.one, hw2.one, if_false, if_true, Nat.reduceAdd, Nat.reduceMul, Nat.reduceLT, Nat.reduceLeDiff, Nat.reduceEqDiff, Nat.reduceSub, reduceCtorEq, false_and, true_and, false_or, or_false, asNat_nat, go_sem]
  rw [← List.map_take] at o1' o2
  obtain ⟨v1, v2, m', q1, q2, q3, q4, q5, q6, q7, _⟩ := settle_lists g2 o1' o2 (pr_under _ _) (tr_under _ _) N
  refine ⟨.agg [.int .i64 N, w1, w2], rfl, ?_, v1, v2, m', q1, ?_, ?_, q4, q5, q6, q7⟩
  · simp [V.under, V.underL, hw1.un, hw2.un]
  · have : E.take (min E.length 11) = E.take 11 := by rw [List.take_eq_take_iff]; omega
    rw [this] at q2; exact q2
  · have : X.take (min X.length 7) = X.take 7 := by rw [List.take_eq_take_iff]; omega
    rw [this] at q3; exact q3

theorem given_ok (hE : IsE m vE E) (hP : IsP m vP X) (cE : CapOK 2 vE) (cP : CapOK 3 vP) (hlen : E.length < 1000) (hlx : X.length < 1000) :
    ∃ uE uP m', Ev tab (.fn (.func 13) [] []) [.agg [.int .i64 N, vE, vP]] m (.agg [.int .i64 N, uE, uP]) m' ∧ IsE m' uE E ∧ IsP m' uP X ∧ Ext m m' ∧ CapOK 2 uE ∧ CapOK 3 uP ∧ m'.lo = m.lo := by
  have hlE : lenV vE = some (.int .i64 E.length) := by simpa using hE.len
  have hlP : lenV vP = some (.int .i64 X.length) := by simpa using hP.len
  have sE := same_list hlE
  have sP := same_list hlP
  suffices h : vc tab ir13.body ⟨initA ([] ++ [.agg [.int .i64 N, vE, vP]] ++ []) ir13.vars, [], enter m⟩ fun e s => (match e with | .exit _ => False | _ => True) ∧ ∃ v, resultV s ir13.results = some v ∧ V.under s.m.next v = true ∧
      ∃ uE uP m', settle m s.m v = (.agg [.int .i64 N, uE, uP], m') ∧ IsE m' uE E ∧ IsP m' uP X ∧ Ext m m' ∧ CapOK 2 uE ∧ CapOK 3 uP ∧ m'.lo = m.lo by
    obtain ⟨N', e, s', ⟨h0, v, h1, h2, uE, uP, m', h3, h4⟩, h5⟩ := vc_sound _ _ _ h
    refine ⟨uE, uP, m', ⟨N' + 1, fun n d hn hd => ?_⟩, h4⟩
    obtain ⟨d, rfl⟩ : ∃ d', d = d' + 1 := ⟨d - 1, by omega⟩
    have hu : V.underL m.next ([] ++ [V.agg [.int .i64 N, vE, vP]] ++ []) = true := by simp [V.underL, V.under, hE.un, hP.un]
    simp only [call, show tab 13 = some ir13 from rfl, hu, if_true]
    rw [h5 n d (by omega) (by omega)]
    cases e with
    | exit i => exact h0.elim
    | normal => simp only [h1, h2, if_true, h3]
    | ret => simp only [h1, h2, if_true, h3]
  simp only [ir13, hE.one, hP.one, if_false, if_true, Nat.reduceAdd, Nat.reduceMul, Nat.reduceLT, Nat.reduceLeDiff, Nat.reduceEqDiff, Nat.reduceSub, reduceCtorEq, false_and, true_and, false_or, or_false, asNat_nat, go_sem]
  refine opt_append_nil (bytes := 16) (m0 := enter m) hE.enter (by rfl) (by rfl) (Grow.refl _) (pr_ones E) (by decide) (by simp; omega) (by simp; omega) fun w1 m1 o1 g1 x1 => ?_
  simp only [sE, sP, same_int, if_false, if_true, Nat.reduceAdd, Nat.reduceMul, Nat.reduceLT, Nat.reduceLeDiff, Nat.reduceEqDiff, Nat.reduceSub, reduceCtorEq, false_and, true_and, false_or, or_false, asNat_nat, go_sem]
  refine opt_append_nil (bytes := 24) (m0 := enter m) (hP.enter.ext x1) (by rfl) (by rfl) g1 (tr_ones X) (by decide) (by simp; omega) (by simp; omega) fun w2 m2 o2 g2 x2 => ?_
  have o1' := o1.grow x2
  have hw1 := o1'.rows
  have hw2 := o2.rows
  have c1 := cells_one hw1.one
  have c2 := cells_one hw2.one
  simp only [sP, same_int, c1, c2, hw1.one, hw2.one, if_false, if_true, Nat.reduceAdd, Nat.reduceMul, Nat.reduceLT, Nat.reduceLeDiff, Nat.reduceEqDiff, Nat.reduceSub, reduceCtorEq, false_and, true_and, false_or, or_false, asNat_nat, go_sem]
  obtain ⟨v1, v2, m', q1, q2, q3, q4, q5, q6, q7, _⟩ := settle_lists g2 o1' o2 (pr_under _ _) (tr_under _ _) N
  exact ⟨.agg [.int .i64 N, w1, w2], rfl, by simp [V.under, V.underL, hw1.un, hw2.un], v1, v2, m', q1, q2, q3, q4, q5, q6, q7⟩

theorem few_ok {v : V} {xs : List Int} (hv : IsI m v xs) (cv : CapOK 1 v) (most : Nat) (hmo : most < 1000) :
    ∃ u m', Ev tab (.fn (.func 15) [] []) [v, .int .i64 most] m u m' ∧ IsI m' u (xs.take most) ∧ Ext m m' ∧ CapOK 1 u ∧ m'.lo = m.lo := by
  have hl : lenV v = some (.int .i64 xs.length) := by simpa using hv.len
  have mE : min (xs.length : Int) (most : Int) = ((min xs.length most : Nat) : Int) := by omega
  suffices h : vc tab ir15.body ⟨initA ([] ++ [v, .int .i64 most] ++ []) ir15.vars, [], enter m⟩ fun e s => (match e with | .exit _ => False | _ => True) ∧ ∃ v, resultV s ir15.results = some v ∧ V.under s.m.next v = true ∧
      ∃ u m', settle m s.m v = (u, m') ∧ IsI m' u (xs.take most) ∧ Ext m m' ∧ CapOK 1 u ∧ m'.lo = m.lo by
    obtain ⟨N', e, s', ⟨h0, w, h1, h2, u, m', h3, h4⟩, h5⟩ := vc_sound _ _ _ h
    refine ⟨u, m', ⟨N' + 1, fun n d hn hd => ?_⟩, h4⟩
    obtain ⟨d, rfl⟩ : ∃ d', d = d' + 1 := ⟨d - 1, by omega⟩
    have hu : V.underL m.next ([] ++ [v, .int .i64 most] ++ []) = true := by simp [V.underL, V.under, hv.un]
    simp only [call, show tab 15 = some ir15 from rfl, hu, if_true]
    rw [h5 n d (by omega) (by omega)]
    cases e with
    | exit i => exact h0.elim
    | normal => simp only [h1, h2, if_true, h3]
    | ret => simp only [h1, h2, if_true, h3]
  simp only [ir15, hv.nl, hl, mE, if_false, if_true, Nat.reduceAdd, Nat.reduceMul, Nat.reduceLT, Nat.reduceLeDiff, Nat.reduceEqDiff, Nat.reduceSub, reduceCtorEq, false_and, true_and, false_or, or_false, asNat_nat, go_sem]
  refine opt_sl hv.enter cv (by rfl) (by rfl) (k := min xs.length most) (by simp; omega) fun u1 hu1 => ?_
  simp only [if_false, if_true, Nat.reduceAdd, Nat.reduceMul, Nat.reduceLT, Nat.reduceLeDiff, Nat.reduceEqDiff, Nat.reduceSub, reduceCtorEq, false_and, true_and, false_or, or_false, asNat_nat, go_sem]
  refine opt_append_nil (bytes := 8) (m0 := enter m) hu1 (by rfl) (by rfl) (Grow.refl _) (fun r hr => in_ones xs r (List.mem_of_mem_take hr)) (by decide) (by simp; omega) (by simp; omega) fun w1 m1 o1 g1 x1 => ?_
  simp only [o1.rows.nl, if_false, if_true, Nat.reduceAdd, Nat.reduceMul, Nat.reduceLT, Nat.reduceLeDiff, Nat.reduceEqDiff, Nat.reduceSub, reduceCtorEq, false_and, true_and, false_or, or_false, asNat_nat, go_sem]
  rw [← List.map_take] at o1
  have : xs.take (min xs.length most) = xs.take most := by rw [List.take_eq_take_iff]; omega
  rw [this] at o1
  obtain ⟨u, m', q1, q2, q3, q4, q5, _⟩ := settle_bare g1 o1 (in_under _ _)
  exact ⟨w1, rfl, o1.rows.un, u, m', q1, q2, q3, q4, q5⟩
end
end Go.AI.Sl

namespace Go.AI.Sl
open Go.AI
set_option maxRecDepth 10000
theorem put_zero {L : Boxes} {c : List V} : Boxes.put L 0 c = c :: L.tail := by cases L <;> rfl
theorem get_zero {L : Boxes} {c : List V} : Boxes.get (c :: L) 0 = c := rfl
theorem upTo_at {n : Nat} {p : Nat → Bool} (h : upTo n p = true) {i : Nat} (hi : i < n) : p i = true := by
  unfold upTo at h; rw [List.all_eq_true] at h; exact h i (List.mem_range.2 hi)
theorem check_edge {N : Int} {E : List (Int × Int)} {X : List (Int × Int × Int)} (h : checkB N E X = true) {i : Nat} (hi : i < E.length) : 0 ≤ E[i].1 ∧ E[i].1 < E[i].2 ∧ E[i].2 < N := by
  simp only [checkB, Bool.and_eq_true, decide_eq_true_eq] at h
  have h2 := upTo_at h.1.2 hi
  simp only [edgeOK, Bool.and_eq_true, decide_eq_true_eq] at h2
  simp only [getD_eq hi] at h2
  omega
section
variable {m : Mem} {N : Int} {vE vP : V} {E : List (Int × Int)} {X : List (Int × Int × Int)} {v : V} {xs : List Int}

theorem gradient_ok (hE : IsE m vE E) (hP : IsP m vP X) (hlen : E.length < 1000000) (hlx : X.length < 1000000) (hv : IsI m v xs) (hlv : xs.length < 1000000) (hc : checkB N E X = true) (hn : numbersB xs N = true) :
    ∃ u m', Ev tab (.fn (.func 28) [] []) [.agg [.int .i64 N, vE, vP], v] m (.tup [u, .int .i64 0]) m' ∧ Ext m m' ∧ m'.lo = m.lo ∧ u.noLp = true := by
  have he : openI N E X xs N = 0 := by simp [openI, hc, hn]
  have hlE : lenV vE = some (.int .i64 E.length) := by simpa using hE.len
  have hxl : (xs.length : Int) = N := by
    simp only [numbersB, Bool.and_eq_true, decide_eq_true_eq] at hn; exact hn.2
  suffices h : vc tab ir28.body ⟨initA ([] ++ [.agg [.int .i64 N, vE, vP], v] ++ []) ir28.vars, [], enter m⟩ fun e s => (match e with | .exit _ => False | _ => True) ∧ ∃ v, resultV s ir28.results = some v ∧ V.under s.m.next v = true ∧
      ∃ u m', settle m s.m v = (.tup [u, .int .i64 0], m') ∧ Ext m m' ∧ m'.lo = m.lo ∧ u.noLp = true by
    obtain ⟨N', e, s', ⟨h0, w, h1, h2, u, m', h3, h4⟩, h5⟩ := vc_sound _ _ _ h
    refine ⟨u, m', ⟨N' + 1, fun n d hn hd => ?_⟩, h4⟩
    obtain ⟨d, rfl⟩ : ∃ d', d = d' + 1 := ⟨d - 1, by omega⟩
    have hu : V.underL m.next ([] ++ [V.agg [.int .i64 N, vE, vP], v] ++ []) = true := by simp [V.underL, V.under, hE.un, hP.un, hv.un]
    simp only [call, show tab 28 = some ir28 from rfl, hu, if_true]
    rw [h5 n d (by omega) (by omega)]
    cases e with
    | exit i => exact h0.elim
    | normal => simp only [h1, h2, if_true, h3]
    | ret => simp only [h1, h2, if_true, h3]
  simp only [ir28, hE.one, hP.one, hv.nl, if_false, if_true, Nat.reduceAdd, Nat.reduceMul, Nat.reduceLT, Nat.reduceLeDiff, Nat.reduceEqDiff, Nat.reduceSub, reduceCtorEq, false_and, true_and, false_or, or_false, asNat_nat, go_sem]
  refine (open_ok hE.enter hP.enter hlen hlx hv.enter hlv (places_ok hE.enter.enter hP.enter.enter)).callT ?_
  simp only [he, show ((0 : Int) != 0) = false from rfl, hlE, hE.nl, if_false, if_true, Nat.reduceAdd, Nat.reduceMul, Nat.reduceLT, Nat.reduceLeDiff, Nat.reduceEqDiff, Nat.reduceSub, reduceCtorEq, false_and, true_and, false_or, or_false, asNat_nat, go_sem]
  refine WL.mono (W_loop (fun s k => ∃ i : Nat, i ≤ E.length ∧ k = E.length - i ∧ ∃ a6 u L m1 ys, s = ⟨[.agg [.int .i64 N, vE, vP], v, .int .i64 0, .bool false, .int .i64 i, .int .i64 E.length, a6, vE, u, .nils, .int .i64 0], [.int .i64 N, vE, vP] :: L, m1⟩ ∧ Owned 1 (enter m) m1 u ((ys : List Int).map fun x => [.int .i64 x]) ∧ ys.length = i ∧ Grow (enter m) m1)
    (Q := fun e s => e = .exit 0 ∧ ∃ a6 a4 u L m1 ys, s = ⟨[.agg [.int .i64 N, vE, vP], v, .int .i64 0, .bool false, a4, .int .i64 E.length, a6, vE, u, .nils, .int .i64 0], [.int .i64 N, vE, vP] :: L, m1⟩ ∧ Owned 1 (enter m) m1 u ((ys : List Int).map fun x => [.int .i64 x]) ∧ Grow (enter m) m1) ?_ _ E.length ⟨0, by omega, by omega, _, _, _, _, [], rfl, Owned.nil _ _ _, rfl, Grow.refl _⟩) ?_
  · rintro s k ⟨i, hi, rfl, a6, u, L, m1, ys, rfl, ho, hys, hg⟩
    by_cases hlt : i < E.length
    · have hE1 : IsE m1 vE E := hE.ext ((Ext.enter m).trans hg.ext)
      have hv1 : IsI m1 v xs := hv.ext ((Ext.enter m).trans hg.ext)
      obtain ⟨o, off, h1, h2, h3, h4⟩ := hE1.at hlt
      obtain ⟨b1, b2, b3⟩ := check_edge hc hlt
      obtain ⟨o1, off1, g1, g2⟩ := hv1.at (i := E[i].1.toNat) (by omega)
      obtain ⟨o2, off2, g3, g4⟩ := hv1.at (i := E[i].2.toNat) (by omega)
      have n1 : V.asNat (.int .i64 E[i].1) = some E[i].1.toNat := asNat_nonneg b1
      have n2 : V.asNat (.int .i64 E[i].2) = some E[i].2.toNat := asNat_nonneg (by omega)
      have hw : wrapK .i64 ((i : Int) + 1) = ((i + 1 : Nat) : Int) := by rw [wrapK_in (by omega) (by omega)]; rfl
      have e1 : decide ((i : Int) < (E.length : Int)) = true := by simpa using hlt
      simp only [ir28_l0, hlE, hE.nl, hv.nl, e1, h1, h2, put_zero, g1, g2, g3, g4, n1, n2, if_false, if_true, Nat.reduceAdd, Nat.reduceMul, Nat.reduceLT, Nat.reduceLeDiff, Nat.reduceEqDiff, Nat.reduceSub, reduceCtorEq, false_and, true_and, false_or, or_false, asNat_nat, go_sem]
      have hnew : IsI (m1.push (.cells [.int .i64 (wrapK .i64 (xs[E[i].2.toNat] - xs[E[i].1.toNat]))] false)) (.slc m1.next 0 0 1 (.ex 1)) [wrapK .i64 (xs[E[i].2.toNat] - xs[E[i].1.toNat])] := IsI.new (xs := [_])
      refine opt_append (bytes := 8) (m0 := enter m) (ho.grow (Ext.push _ _)) hnew (by rfl) (by rfl) (hg.push _) (Nat.le_refl _) (in_ones _) (by decide) (by simp; omega) (by simp; omega) fun w1 m2 o1 g1 _ => ?_
      have o1' := o1.rows
      simp only [o1'.nl, hw, if_false, if_true, Nat.reduceAdd, Nat.reduceMul, Nat.reduceLT, Nat.reduceLeDiff, Nat.reduceEqDiff, Nat.reduceSub, reduceCtorEq, false_and, true_and, false_or, or_false, asNat_nat, go_sem]
      rw [← List.map_append] at o1
      exact ⟨E.length - (i + 1), by omega, i + 1, by omega, rfl, _, _, _, _, _, rfl, o1, by simp [hys], g1⟩
    · have e1 : decide ((i : Int) < (E.length : Int)) = false := by simpa using hlt
      simp only [ir28_l0, hlE, e1, if_false, if_true, Nat.reduceAdd, Nat.reduceMul, Nat.reduceLT, Nat.reduceLeDiff, Nat.reduceEqDiff, Nat.reduceSub, reduceCtorEq, false_and, true_and, false_or, or_false, asNat_nat, go_sem]
      exact ⟨_, _, _, _, _, _, rfl, ho, hg⟩
  · rintro e s ⟨rfl, a6, a4, u, L, m1, ys, rfl, ho, hg⟩
    simp only [ho.rows.nl, if_false, if_true, Nat.reduceAdd, Nat.reduceMul, Nat.reduceLT, Nat.reduceLeDiff, Nat.reduceEqDiff, Nat.reduceSub, reduceCtorEq, false_and, true_and, false_or, or_false, asNat_nat, go_sem]
    obtain ⟨w, m', q1, q2, q3, q4, q5, _⟩ := settle_list hg ho (in_under _ _) [.int .i64 0] (fun _ => rfl) (fun _ => rfl)
    exact ⟨_, rfl, by simp [V.under, V.underL, ho.rows.un], w, m', q1, q3, q5, q2.nl⟩
end
end Go.AI.Sl

namespace Go.AI.Sl
open Go.AI
set_option maxRecDepth 10000

/-- As before, but for the numbers of one list. -/
structure Arr (mb : Mem) (oa n : Nat) (mc : Mem) : Prop where
  next : mc.next = mb.next
  get : ∀ o, o ≠ oa → mc.get o = mb.get o
  arr : ∃ ys : List Int, ys.length = n ∧ mc.get oa = some (.cells (ys.map (V.int .i64)) false)
structure Inner (mb : Mem) (oa n : Nat) (mc : Mem) : Prop extends Arr mb oa n mc where
  lo : mc.lo = mb.next
  dmin : mc.dmin = mb.next
  wmin : mb.lo ≤ mc.wmin

theorem splice_set {ys : List Int} {i : Nat} {w : Int} (hi : i < ys.length) : splice (ys.map (V.int .i64)) i [.int .i64 w] = (ys.set i w).map (V.int .i64) := by
  unfold splice
  rw [List.map_set, List.set_eq_take_append_cons_drop, if_pos (by simpa using hi)]
  simp

theorem writeN_ptr {L : Boxes} {m : Mem} {o off : Nat} {cs xs : List V} (h : m.get o = some (.cells cs false)) (hl : off + xs.length ≤ cs.length) : writeN L m (.ptr o off) xs = some (L, m.put o (.cells (splice cs off xs) false) (V.flatL xs)) := by
  simp only [writeN, h]
  rw [if_pos (by rw [ble_iff]; exact hl)]

section
variable {mb mc : Mem} {l ov ox oa n : Nat} {x : Int} {r1 r2 : Bool} {a0 a1 a2 a3 a4 a5 a6 a7 a8 a9 a10 a11 a13 a14 a16 a17 : V}

theorem yield_ok (hI : Inner mb oa n mc) (hl : mb.get l = some (.loop .ready none [a0, a1, a2, a3, a4, a5, a6, a7, a8, a9, a10, a11, .ptr ov 0, a13, a14, .ptr ox 0, a16, a17] [some 10, some 11] ir31_a0 ir31_b0)) (hlo : mb.lo ≤ l) (hoa : mb.lo ≤ oa) (hne : l ≠ oa)
    (hov : mb.get ov = some (.cells [.slc oa 0 0 n (.ex n)] r1)) (hva : ov ≠ oa) (hox : mb.get ox = some (.cells [.int .i64 x] r2)) (hxa : ox ≠ oa) {i : Nat} (hi : i < n) (σ : Int) :
    ∃ mc', Ev tab (.fn (.yield l) [] []) [.int .i64 i, .int .i64 σ] mc (.bool true) mc' ∧ Inner mb oa n mc' := by
  obtain ⟨⟨g1, g2, ys, hys, g3⟩, g4, g5, g6⟩ := hI
  have hlc : mc.get l = some _ := (g2 l hne).trans hl
  have hvl : ov ≠ l := fun h => by subst h; rw [hov] at hl; cases hl
  have hxl : ox ≠ l := fun h => by subst h; rw [hox] at hl; cases hl
  have q1 : ∀ L X, read1 L (mc.put l X true) (.ptr ov 0) = some (.slc oa 0 0 n (.ex n)) := by
    intro L X
    simp only [read1, Mem.get_put hlc, if_neg hvl, g2 ov hva, hov]; rfl
  have q2 : ∀ L X, read1 L (mc.put l X true) (.ptr ox 0) = some (.int .i64 x) := by
    intro L X
    simp only [read1, Mem.get_put hlc, if_neg hxl, g2 ox hxa, hox]; rfl
  have q3 : ∀ L X, read1 L (mc.put l X true) (.ptr oa (i * 1)) = some (.int .i64 ys[i]) := by
    intro L X
    simp only [read1, Mem.get_put hlc, if_neg hne.symm, g3]; simp
  have q4 : idxV 1 (.slc oa 0 0 n (.ex n)) (some i) = some (.ptr oa (i * 1)) := by rw [idxV_lit, if_pos hi, Nat.zero_add]
  have q6 : ∀ X, (mc.put l X true).get oa = some (.cells (ys.map (V.int .i64)) false) := fun X => by rw [Mem.get_put hlc, if_neg hne.symm]; exact g3
  have q5 : ∀ L X w, writeN L (mc.put l X true) (.ptr oa (i * 1)) [.int .i64 w] = some (L, (mc.put l X true).put oa (.cells ((ys.set i w).map (V.int .i64)) false) true) := by
    intro L X w
    rw [writeN_ptr (q6 X) (by simp; omega)]
    rw [show i * 1 = i by omega, splice_set (by omega)]; rfl
  have fin : ∀ X w, Inner mb oa n (((mc.put l X true).put oa (.cells ((ys.set i w).map (V.int .i64)) false) true).put l (.loop .ready none [a0, a1, a2, a3, a4, a5, a6, a7, a8, a9, a10, a11, .ptr ov 0, a13, a14, .ptr ox 0, a16, a17] [some 10, some 11] ir31_a0 ir31_b0) true) := by
    intro X w
    have k1 : (mc.put l X true).get l = some X := by rw [Mem.get_put hlc, if_pos rfl]
    have k2 : ∀ Y, ((mc.put l X true).put oa Y true).get l = some X := fun Y => by rw [Mem.get_put (q6 X), if_neg hne]; exact k1
    refine ⟨⟨by simp only [Mem.put_next]; exact g1, fun o ho => ?_, ys.set i w, by simpa using hys, ?_⟩, by simp only [Mem.put_lo]; exact g4, by simp only [put_dmin]; exact g5, ?_⟩
    · rw [Mem.get_put (k2 _)]
      by_cases h : o = l
      · subst h; rw [if_pos rfl]; exact hl.symm
      · rw [if_neg h, Mem.get_put (q6 X), if_neg ho, Mem.get_put hlc, if_neg h]; exact g2 o ho
    · rw [Mem.get_put (k2 _), if_neg hne.symm, Mem.get_put (q6 X), if_pos rfl]
    · simp only [put_wmin, Mem.put_lo]
      split <;> split <;> omega
  have hf := fin (.loop .busy none [a0, a1, a2, a3, a4, a5, a6, a7, a8, a9, a10, a11, .ptr ov 0, a13, a14, .ptr ox 0, a16, a17] [some 10, some 11] ir31_a0 ir31_b0) (wrapK .i64 (ys[i] + wrapK .i64 (σ * x)))
  refine ⟨_, Ev_yield hlc rfl rfl ?_, hf⟩
  generalize hX : (Ob.loop .busy none [a0, a1, a2, a3, a4, a5, a6, a7, a8, a9, a10, a11, .ptr ov 0, a13, a14, .ptr ox 0, a16, a17] [some 10, some 11] ir31_a0 ir31_b0) = X
  generalize hM : Mem.put _ _ _ _ = M
  simp only [ir31_a0, List.set_cons_zero, List.set_cons_succ, if_false, if_true, Nat.reduceAdd, Nat.reduceMul, Nat.reduceLT, Nat.reduceLeDiff, Nat.reduceEqDiff, Nat.reduceSub, reduceCtorEq, false_and, true_and, false_or, or_false, asNat_nat, go_sem]
  refine ⟨_, _, _, _, hlc, ?_⟩
  rw [hX]
  simp only [ir31_b0, q1, q2, q3, q4, q5, if_false, if_true, Nat.reduceAdd, Nat.reduceMul, Nat.reduceLT, Nat.reduceLeDiff, Nat.reduceEqDiff, Nat.reduceSub, reduceCtorEq, false_and, true_and, false_or, or_false, asNat_nat, go_sem]
  refine ⟨.busy, none, _, _, _, _, ?_, hM.symm⟩
  rw [Mem.get_put (q6 X), if_neg hne, Mem.get_put hlc, if_pos rfl, ← hX]
end

theorem sides_ok {m : Mem} {N b : Int} {vE vP : V} {E : List (Int × Int)} {X : List (Int × Int × Int)} (hE : IsE m vE E) (hP : IsP m vP X) :
    Ev tab (.fn (.func 66) [] []) [.agg [.int .i64 N, vE, vP], .int .i64 b] m (.fn (.func 94) [] [.ptr m.next 0, .ptr (m.next + 1) 0]) ((m.push (.cells [.int .i64 N, vE, vP] false)).push (.cells [.int .i64 b] false)) := by
  refine Ev_func (F := ir66) rfl (by simp [V.underL, V.under, hE.un, hP.un]) ?_
  simp only [ir66, hE.one, hP.one, enter_next, if_false, if_true, Nat.reduceAdd, Nat.reduceMul, Nat.reduceLT, Nat.reduceLeDiff, Nat.reduceEqDiff, Nat.reduceSub, reduceCtorEq, false_and, true_and, false_or, or_false, asNat_nat, go_sem]
  have hn : ∀ x, ((enter m).push x).next = m.next + 1 := fun _ => rfl
  refine ⟨_, rfl, ?_, ?_⟩
  · simp [V.under, V.underL, Mem.push, enter, blt_dec]; omega
  · have hb0 : Nat.blt m.next m.next = false := by rw [blt_dec]; simp
    have hb1 : Nat.blt (m.next + 1) m.next = false := by rw [blt_dec]; simp
    rw [settle_ids2 (o1 := m.next) (o2 := m.next + 1) (((Grow.refl _).push _).push _) ?_ (Mem.get_push_old (Mem.get_push_self (m := enter m))) ?_ (Mem.get_push_self (m := (enter m).push _)) rfl]
    · simp only [rename, renameL, hn, newId, hb0, hb1, place, Bool.false_eq_true, if_false]
      simp [place, Nat.beq_refl, beq_dec]
    · simp only [newIds, newIdsL, hn, hb0, hb1, Bool.false_or]
      simp
    · simp [V.underL, V.under, hE.un, hP.un]
end Go.AI.Sl

namespace Go.AI.Sl
open Go.AI
set_option maxRecDepth 10000
section
variable {m0 mb : Mem} {l ov ox oa og ob : Nat} {N x : Int} {vE vP : V} {E : List (Int × Int)} {X : List (Int × Int × Int)} {b : Nat} {r1 r2 rg rb : Bool} {a0 a1 a2 a3 a4 a5 a6 a7 a8 a9 a10 a11 a13 a14 a16 a17 : V}

theorem Arr.ext {oa n : Nat} {m0 mb mc : Mem} (h : Arr mb oa n mc) (hx : Ext m0 mb) (hoa : m0.next ≤ oa) : Ext m0 mc :=
  ⟨by rw [h.next]; exact hx.1, fun o x ho => by rw [h.get o (by have := Mem.get_lt ho; omega)]; exact hx.2 o x ho⟩

theorem sides94_ok (hE : IsE m0 vE E) (hP : IsP m0 vP X) (hx0 : Ext m0 mb) (h0a : m0.next ≤ oa) (hlen : E.length < 1000000) (hb : b < X.length) (harr : ∃ ys : List Int, ys.length = E.length ∧ mb.get oa = some (.cells (ys.map (V.int .i64)) false))
    (hl : mb.get l = some (.loop .ready none [a0, a1, a2, a3, a4, a5, a6, a7, a8, a9, a10, a11, .ptr ov 0, a13, a14, .ptr ox 0, a16, a17] [some 10, some 11] ir31_a0 ir31_b0)) (hlo : mb.lo ≤ l) (hoa : mb.lo ≤ oa) (hne : l ≠ oa)
    (hov : mb.get ov = some (.cells [.slc oa 0 0 E.length (.ex E.length)] r1)) (hva : ov ≠ oa) (hox : mb.get ox = some (.cells [.int .i64 x] r2)) (hxa : ox ≠ oa)
    (hog : mb.get og = some (.cells [.int .i64 N, vE, vP] rg)) (hob : mb.get ob = some (.cells [.int .i64 b] rb)) (hmlo : mb.lo ≤ mb.next) :
    ∃ m', Ev tab (.fn (.func 94) [] [.ptr og 0, .ptr ob 0]) [.fn (.yield l) [] []] mb (.tup []) m' ∧ Arr mb oa E.length m' ∧ m'.lo = mb.lo ∧ m'.wmin = mb.wmin ∧ m'.dmin = mb.dmin := by
  have hlE : lenV vE = some (.int .i64 E.length) := by simpa using hE.len
  have hI0 : Inner mb oa E.length (enter mb) := ⟨⟨rfl, fun _ _ => rfl, harr⟩, rfl, rfl, hmlo⟩
  suffices h : vc tab ir94.body ⟨initA ([] ++ [.fn (.yield l) [] []] ++ [.ptr og 0, .ptr ob 0]) ir94.vars, [], enter mb⟩ fun e s => (match e with | .exit _ => False | _ => True) ∧ Inner mb oa E.length s.m by
    obtain ⟨N', e, s', ⟨h0, hI⟩, h5⟩ := vc_sound _ _ _ h
    obtain ⟨m', q1, q2, q3, q4, q5, q6⟩ := settle_elder (m := mb) (m2 := s'.m) (v := .tup []) rfl hI.dmin (by rw [hI.next]; exact Nat.le_refl _) hI.wmin
    have hA : Arr mb oa E.length m' := by
      rcases q6 with q6 | rfl
      · obtain ⟨ys, hy1, hy2⟩ := hI.arr
        have hlt : oa < mb.next := by have := Mem.get_lt hy2; rw [hI.next] at this; exact this
        refine ⟨q2, fun o ho => ?_, ys, hy1, by rw [q6 oa hlt]; exact hy2⟩
        by_cases h : o < mb.next
        · rw [q6 o h]; exact hI.get o ho
        · unfold Mem.get
          rw [q2, if_neg (by rw [blt_iff]; exact h), if_neg (by rw [blt_iff]; exact h)]
      · exact ⟨rfl, fun _ _ => rfl, harr⟩
    refine ⟨m', ⟨N' + 1, fun n d hn hd => ?_⟩, hA, q3, q4, q5⟩
    obtain ⟨d, rfl⟩ : ∃ d', d = d' + 1 := ⟨d - 1, by omega⟩
    have hu : V.underL mb.next ([] ++ [V.fn (.yield l) [] []] ++ [.ptr og 0, .ptr ob 0]) = true := by simp [V.underL, V.under, blt_dec, Mem.get_lt hl, Mem.get_lt hog, Mem.get_lt hob]
    simp only [call, show tab 94 = some ir94 from rfl, hu, if_true]
    rw [h5 n d (by omega) (by omega)]
    have hr : resultV s' ir94.results = some (.tup []) := rfl
    cases e with
    | exit i => exact h0.elim
    | normal => simp only [hr, q1]; rfl
    | ret => simp only [hr, q1]; rfl
  have p1 : ∀ L, read1 L (enter mb) (.ptr og 2) = some vP := fun L => by simp only [read1, get_enter, hog]; rfl
  have p2 : ∀ L, read1 L (enter mb) (.ptr ob 0) = some (.int .i64 b) := fun L => by simp only [read1, get_enter, hob]; rfl
  have p3 : ∀ L, read1 L (enter mb) (.ptr og 1) = some vE := fun L => by simp only [read1, get_enter, hog]; rfl
  obtain ⟨o, off, h1, h2, _, _, _⟩ := IsP.at (hP.ext (hx0.trans (Ext.enter mb))) hb
  simp only [ir94, p1, p2, p3, h1, h2, hlE, hE.nl, if_false, if_true, Nat.reduceAdd, Nat.reduceMul, Nat.reduceLT, Nat.reduceLeDiff, Nat.reduceEqDiff, Nat.reduceSub, reduceCtorEq, false_and, true_and, false_or, or_false, asNat_nat, go_sem]
  refine WL.mono (W_loop (fun s k => ∃ i : Nat, i ≤ E.length ∧ k = E.length - i ∧ ∃ a4 a6 a7 a8 a9 a11 a12 L mc, s = ⟨[.ptr og 0, .ptr ob 0, .int .i64 i, .int .i64 E.length, a4, vE, a6, a7, a8, a9, .fn (.yield l) [] [], a11, a12], [.int .i64 X[b].1, .int .i64 X[b].2.1, .int .i64 X[b].2.2] :: L, mc⟩ ∧ Inner mb oa E.length mc)
    (Q := fun e s => e = .exit 0 ∧ Inner mb oa E.length s.m) ?_ _ E.length ⟨0, by omega, by omega, _, _, _, _, _, _, _, _, _, rfl, hI0⟩) ?_
  · rintro s k ⟨i, hi, rfl, a4, a6, a7, a8, a9, a11, a12, L, mc, rfl, hI⟩
    by_cases hlt : i < E.length
    · have hE1 : IsE mc vE E := hE.ext (hI.toArr.ext hx0 h0a)
      obtain ⟨o, off, h1, h2, h3, h4⟩ := hE1.at hlt
      have hw : wrapK .i64 ((i : Int) + 1) = ((i + 1 : Nat) : Int) := by rw [wrapK_in (by omega) (by omega)]; rfl
      have e1 : decide ((i : Int) < (E.length : Int)) = true := by simpa using hlt
      obtain ⟨mc1, y1, I1⟩ := yield_ok (x := x) hI hl hlo hoa hne hov hva hox hxa hlt 1
      obtain ⟨mc2, y2, I2⟩ := yield_ok (x := x) hI hl hlo hoa hne hov hva hox hxa hlt (-1)
      have z1 : ((1 : Int) != 0) = true := rfl
      have z2 : ((-1 : Int) != 0) = true := rfl
      have z0 : ((0 : Int) != 0) = false := rfl
      cases c1 : (E[i].1 == X[b].1 && E[i].2 == X[b].2.1) with
      | true =>
        simp only [ir94_l0, e1, h1, h2, put_zero, get_zero, c1, z1, if_false, if_true, Nat.reduceAdd, Nat.reduceMul, Nat.reduceLT, Nat.reduceLeDiff, Nat.reduceEqDiff, Nat.reduceSub, reduceCtorEq, false_and, true_and, false_or, or_false, asNat_nat, go_sem]
        refine y1.callT ?_
        simp only [hw, if_false, if_true, Nat.reduceAdd, Nat.reduceMul, Nat.reduceLT, Nat.reduceLeDiff, Nat.reduceEqDiff, Nat.reduceSub, reduceCtorEq, false_and, true_and, false_or, or_false, asNat_nat, go_sem]
        exact ⟨E.length - (i + 1), by omega, i + 1, by omega, rfl, _, _, _, _, _, _, _, _, _, rfl, I1⟩
      | false =>
        cases c2 : (E[i].1 == X[b].2.1 && E[i].2 == X[b].2.2) with
        | true =>
          simp only [ir94_l0, e1, h1, h2, put_zero, get_zero, c1, c2, z1, if_false, if_true, Nat.reduceAdd, Nat.reduceMul, Nat.reduceLT, Nat.reduceLeDiff, Nat.reduceEqDiff, Nat.reduceSub, reduceCtorEq, false_and, true_and, false_or, or_false, asNat_nat, go_sem]
          refine y1.callT ?_
          simp only [hw, if_false, if_true, Nat.reduceAdd, Nat.reduceMul, Nat.reduceLT, Nat.reduceLeDiff, Nat.reduceEqDiff, Nat.reduceSub, reduceCtorEq, false_and, true_and, false_or, or_false, asNat_nat, go_sem]
          exact ⟨E.length - (i + 1), by omega, i + 1, by omega, rfl, _, _, _, _, _, _, _, _, _, rfl, I1⟩
        | false =>
          cases c3 : (E[i].1 == X[b].1 && E[i].2 == X[b].2.2) with
          | true =>
            simp only [ir94_l0, e1, h1, h2, put_zero, get_zero, c1, c2, c3, z2, if_false, if_true, Nat.reduceAdd, Nat.reduceMul, Nat.reduceLT, Nat.reduceLeDiff, Nat.reduceEqDiff, Nat.reduceSub, reduceCtorEq, false_and, true_and, false_or, or_false, asNat_nat, go_sem]
            refine y2.callT ?_
            simp only [hw, if_false, if_true, Nat.reduceAdd, Nat.reduceMul, Nat.reduceLT, Nat.reduceLeDiff, Nat.reduceEqDiff, Nat.reduceSub, reduceCtorEq, false_and, true_and, false_or, or_false, asNat_nat, go_sem]
            exact ⟨E.length - (i + 1), by omega, i + 1, by omega, rfl, _, _, _, _, _, _, _, _, _, rfl, I2⟩
          | false =>
            simp only [ir94_l0, e1, h1, h2, put_zero, get_zero, c1, c2, c3, z0, hw, if_false, if_true, Nat.reduceAdd, Nat.reduceMul, Nat.reduceLT, Nat.reduceLeDiff, Nat.reduceEqDiff, Nat.reduceSub, reduceCtorEq, false_and, true_and, false_or, or_false, asNat_nat, go_sem]
            exact ⟨E.length - (i + 1), by omega, i + 1, by omega, rfl, _, _, _, _, _, _, _, _, _, rfl, hI⟩
    · have e1 : decide ((i : Int) < (E.length : Int)) = false := by simpa using hlt
      simp only [ir94_l0, e1, if_false, if_true, Nat.reduceAdd, Nat.reduceMul, Nat.reduceLT, Nat.reduceLeDiff, Nat.reduceEqDiff, Nat.reduceSub, reduceCtorEq, false_and, true_and, false_or, or_false, asNat_nat, go_sem]
      exact hI
  · rintro e s ⟨rfl, hI⟩
    simp only [if_false, if_true, Nat.reduceAdd, Nat.reduceMul, Nat.reduceLT, Nat.reduceLeDiff, Nat.reduceEqDiff, Nat.reduceSub, reduceCtorEq, false_and, true_and, false_or, or_false, asNat_nat, go_sem]
    exact hI
end
end Go.AI.Sl

namespace Go.AI.Sl
open Go.AI
set_option maxRecDepth 10000

theorem reps_zero (n : Nat) : reps n [V.int .i64 0] = (List.replicate n (0 : Int)).map (V.int .i64) := by
  induction n with
  | zero => rfl
  | succ n ih => simp [reps, ih, List.replicate_succ]

theorem e_mkSl {locs A : List V} {L : Boxes} {m : Mem} {l c : Src} {n : Nat} (h1 : ev locs A l = .int .i64 n) (h2 : ev locs A c = .int .i64 n) (hn : n < 1000000) {Q : V × Boxes × Mem → Prop} {t : Tag Q}
    (hQ : Q (.slc m.next 0 0 n (.ex n), L, m.push (.cells ((List.replicate n (0 : Int)).map (V.int .i64)) false))) : OptT (effOp locs A L m (.mkSl 8 1 [.int .i64 0] l c)) Q t := by
  refine ⟨_, ?_, hQ⟩
  have c1 : Nat.ble n n = true := by rw [ble_dec]; simp
  have c2 : Nat.ble (8 * n) 281474976710656 = true := by rw [ble_dec]; simp; omega
  have c3 : Nat.blt n 9223372036854775808 = true := by rw [blt_dec]; simp; omega
  simp only [effOp, h1, h2, asNat_nat, c1, c2, c3, Bool.and_self, if_true, reps_zero]

structure SwM (m : Mem) (n : Nat) (m1 : Mem) : Prop extends Grow (enter m) m1 where
  var : m1.get (m.next + 1) = some (.cells [.slc m.next 0 0 n (.ex n)] false)
  arr : ∃ ys : List Int, ys.length = n ∧ m1.get m.next = some (.cells (ys.map (V.int .i64)) false)

section
variable {m : Mem} {N : Int} {vE vP : V} {E : List (Int × Int)} {X : List (Int × Int × Int)} {v : V} {xs : List Int}

theorem swirl_ok (hE : IsE m vE E) (hP : IsP m vP X) (hlen : E.length < 1000000) (hlx : X.length < 1000000) (hv : IsI m v xs) (hlv : xs.length < 1000000) (hc : checkB N E X = true) (hn : numbersB xs X.length = true) :
    ∃ u m', Ev tab (.fn (.func 31) [] []) [.agg [.int .i64 N, vE, vP], v] m (.tup [u, .int .i64 0]) m' ∧ Ext m m' ∧ m'.lo = m.lo ∧ u.noLp = true := by
  have he : openI N E X xs X.length = 0 := by simp [openI, hc, hn]
  have hlE : lenV vE = some (.int .i64 E.length) := by simpa using hE.len
  have hlV : lenV v = some (.int .i64 xs.length) := by simpa using hv.len
  have hxl : xs.length = X.length := by
    simp only [numbersB, Bool.and_eq_true, decide_eq_true_eq] at hn; have := hn.2; omega
  suffices h : vc tab ir31.body ⟨initA ([] ++ [.agg [.int .i64 N, vE, vP], v] ++ []) ir31.vars, [], enter m⟩ fun e s => (match e with | .exit _ => False | _ => True) ∧ ∃ v, resultV s ir31.results = some v ∧ V.under s.m.next v = true ∧
      ∃ u m', settle m s.m v = (.tup [u, .int .i64 0], m') ∧ Ext m m' ∧ m'.lo = m.lo ∧ u.noLp = true by
    obtain ⟨N', e, s', ⟨h0, w, h1, h2, u, m', h3, h4⟩, h5⟩ := vc_sound _ _ _ h
    refine ⟨u, m', ⟨N' + 1, fun n d hn hd => ?_⟩, h4⟩
    obtain ⟨d, rfl⟩ : ∃ d', d = d' + 1 := ⟨d - 1, by omega⟩
    have hu : V.underL m.next ([] ++ [V.agg [.int .i64 N, vE, vP], v] ++ []) = true := by simp [V.underL, V.under, hE.un, hP.un, hv.un]
    simp only [call, show tab 31 = some ir31 from rfl, hu, if_true]
    rw [h5 n d (by omega) (by omega)]
    cases e with
    | exit i => exact h0.elim
    | normal => simp only [h1, h2, if_true, h3]
    | ret => simp only [h1, h2, if_true, h3]
  simp only [ir31, hE.one, hP.one, hv.nl, if_false, if_true, Nat.reduceAdd, Nat.reduceMul, Nat.reduceLT, Nat.reduceLeDiff, Nat.reduceEqDiff, Nat.reduceSub, reduceCtorEq, false_and, true_and, false_or, or_false, asNat_nat, go_sem]
  refine (open_ok hE.enter hP.enter hlen hlx hv.enter hlv (plates_ok hE.enter.enter hP.enter.enter)).callT ?_
  simp only [he, show ((0 : Int) != 0) = false from rfl, hlE, hE.nl, if_false, if_true, Nat.reduceAdd, Nat.reduceMul, Nat.reduceLT, Nat.reduceLeDiff, Nat.reduceEqDiff, Nat.reduceSub, reduceCtorEq, false_and, true_and, false_or, or_false, asNat_nat, go_sem]
  refine e_mkSl (n := E.length) (by rfl) (by rfl) hlen ?_
  have w1 : ∀ (L : Boxes) (M : Mem) (u : V), M.lo ≤ M.next → writeN L (M.push (.cells [.nils] false)) (.ptr M.next 0) [u] = some (L, M.push (.cells [u] false)) := fun L M u h => writeN_new h rfl
  have hm1 : ∀ x, ((enter m).push x).lo ≤ ((enter m).push x).next := fun x => Nat.le_succ _
  simp only [hlV, hv.nl, w1 _ _ _ (hm1 _), enter_next, if_false, if_true, Nat.reduceAdd, Nat.reduceMul, Nat.reduceLT, Nat.reduceLeDiff, Nat.reduceEqDiff, Nat.reduceSub, reduceCtorEq, false_and, true_and, false_or, or_false, asNat_nat, go_sem]
  have hS0 : SwM m E.length (((enter m).push (.cells ((List.replicate E.length 0).map (V.int .i64)) false)).push (.cells [.slc m.next 0 0 E.length (.ex E.length)] false)) :=
    ⟨((Grow.refl _).push _).push _, Mem.get_push_self (m := (enter m).push _), List.replicate E.length 0, by simp, Mem.get_push_old (Mem.get_push_self (m := enter m))⟩
  refine WL.mono (W_loop (fun s k => ∃ i : Nat, i ≤ xs.length ∧ k = xs.length - i ∧ ∃ a6 a8 a9 a10 a11 a13 a14 a15 m1, s = ⟨[.agg [.int .i64 N, vE, vP], v, .int .i64 0, .bool false, .int .i64 i, .int .i64 xs.length, a6, v, a8, a9, a10, a11, .ptr (m.next + 1) 0, a13, a14, a15, .nils, .int .i64 0], [[.int .i64 N, vE, vP]], m1⟩ ∧ SwM m E.length m1)
    (Q := fun e s => e = .exit 0 ∧ ∃ a4 a6 a8 a9 a10 a11 a13 a14 a15 m1, s = ⟨[.agg [.int .i64 N, vE, vP], v, .int .i64 0, .bool false, a4, .int .i64 xs.length, a6, v, a8, a9, a10, a11, .ptr (m.next + 1) 0, a13, a14, a15, .nils, .int .i64 0], [[.int .i64 N, vE, vP]], m1⟩ ∧ SwM m E.length m1) ?_ _ xs.length ⟨0, by omega, by omega, _, _, _, _, _, _, _, _, _, rfl, hS0⟩) ?_
  · rintro s k ⟨i, hi, rfl, a6, a8, a9, a10, a11, a13, a14, a15, m1, rfl, hS⟩
    by_cases hlt : i < xs.length
    · have x1 : Ext m m1 := (Ext.enter m).trans hS.ext
      have hv1 : IsI m1 v xs := hv.ext x1
      obtain ⟨o, off, h1, h2⟩ := hv1.at hlt
      have hw : wrapK .i64 ((i : Int) + 1) = ((i + 1 : Nat) : Int) := by rw [wrapK_in (by omega) (by omega)]; rfl
      have e1 : decide ((i : Int) < (xs.length : Int)) = true := by simpa using hlt
      have k1 : m1.lo ≤ m1.next := by have := hS.ext.1; have := hS.lo; simp only [enter] at *; omega
      have w2 : ∀ (L : Boxes) (M : Mem) (u : V), M.lo ≤ M.next → writeN L (M.push (.cells [.int .i64 0] false)) (.ptr M.next 0) [u] = some (L, M.push (.cells [u] false)) := fun L M u h => writeN_new h rfl
      simp only [ir31_l1, hlV, hv.nl, e1, h1, h2, w2 _ _ _ k1, hE.one, hP.one, if_false, if_true, Nat.reduceAdd, Nat.reduceMul, Nat.reduceLT, Nat.reduceLeDiff, Nat.reduceEqDiff, Nat.reduceSub, reduceCtorEq, false_and, true_and, false_or, or_false, asNat_nat, go_sem]
      have x2 : Ext m (m1.push (.cells [.int .i64 xs[i]] false)) := x1.trans (Ext.push _ _)
      refine (sides_ok (hE.ext x2) (hP.ext x2)).callT ?_
      simp only [if_false, if_true, Nat.reduceAdd, Nat.reduceMul, Nat.reduceLT, Nat.reduceLeDiff, Nat.reduceEqDiff, Nat.reduceSub, reduceCtorEq, false_and, true_and, false_or, or_false, asNat_nat, go_sem]
      obtain ⟨ys, hy1, hy2⟩ := hS.arr
      have hvar := hS.var
      have hlo : m1.lo = m.next := hS.lo
      have hn1 := Mem.get_lt hvar
      have hxn : m.next ≤ m1.next := x1.1
      let B1 : Mem := m1.push (.cells [.int .i64 xs[i]] false)
      let B2 : Mem := B1.push (.cells [.int .i64 N, vE, vP] false)
      let B3 : Mem := B2.push (.cells [.int .i64 i] false)
      let mb : Mem := B3.push (.loop .ready none [.agg [.int .i64 N, vE, vP], v, .int .i64 0, .bool false, .int .i64 i, .int .i64 xs.length, .bool true, v, .int .i64 i, .fn (.func 94) [] [.ptr B1.next 0, .ptr (B1.next + 1) 0], a10, a11, .ptr (m.next + 1) 0, a13, a14, .ptr m1.next 0, .nils, .int .i64 0] [some 10, some 11] ir31_a0 ir31_b0)
      have xb : Ext m1 mb := ((((Ext.push _ _).trans (Ext.push _ _)).trans (Ext.push _ _)).trans (Ext.push _ _))
      have gl : mb.get B3.next = some _ := Mem.get_push_self
      have gx : mb.get m1.next = some (.cells [.int .i64 xs[i]] false) := Mem.get_push_old (Mem.get_push_old (Mem.get_push_old Mem.get_push_self))
      have gg : mb.get B1.next = some (.cells [.int .i64 N, vE, vP] false) := Mem.get_push_old (Mem.get_push_old Mem.get_push_self)
      have gb : mb.get (B1.next + 1) = some (.cells [.int .i64 i] false) := Mem.get_push_old (Mem.get_push_self (m := B2))
      have b3 : B3.next = m1.next + 3 := rfl
      have bm : mb.next = m1.next + 4 := rfl
      have bl : mb.lo = m.next := hlo
      obtain ⟨m4, ev4, A4, l4, w4, d4⟩ := sides94_ok (m0 := m) (mb := mb) (l := B3.next) (ov := m.next + 1) (ox := m1.next) (oa := m.next) (og := B1.next) (ob := B1.next + 1) (x := xs[i]) (b := i)
        hE hP (x1.trans xb) (Nat.le_refl _) hlen (by omega) ⟨ys, hy1, xb.2 _ _ hy2⟩ gl (by omega) (by omega) (by omega) (xb.2 _ _ hvar) (by omega) gx (by omega) gg gb (by omega)
      have gl4 : m4.get B3.next = some _ := (A4.get _ (by omega)).trans gl
      refine W_range (s := ⟨_, _, B3⟩) (by rfl) ev4 gl4 ?_
      simp only [hw, if_false, if_true, Nat.reduceAdd, Nat.reduceMul, Nat.reduceLT, Nat.reduceLeDiff, Nat.reduceEqDiff, Nat.reduceSub, reduceCtorEq, false_and, true_and, false_or, or_false, asNat_nat, go_sem]
      refine ⟨xs.length - (i + 1), by omega, i + 1, by omega, rfl, _, _, _, _, _, _, _, _, _, rfl, ?_⟩
      obtain ⟨zs, hz1, hz2⟩ := A4.arr
      refine ⟨⟨⟨?_, fun o x ho => ?_⟩, ?_, ?_, ?_⟩, ?_, zs, hz1, ?_⟩
      · rw [Mem.put_next, A4.next]; show m.next ≤ _; omega
      · have := Mem.get_lt ho
        have h1 : o < m.next := this
        rw [Mem.get_put gl4, if_neg (by omega), A4.get _ (by omega)]
        exact xb.2 _ _ (hS.ext.2 _ _ ho)
      · rw [Mem.put_lo, l4]; exact hlo
      · rw [put_wmin, if_neg (by rw [l4]; omega), w4]; exact hS.wmin
      · rw [put_dmin, d4]; exact hS.dmin
      · rw [Mem.get_put gl4, if_neg (by omega), A4.get _ (by omega)]; exact xb.2 _ _ hvar
      · rw [Mem.get_put gl4, if_neg (by omega)]; exact hz2
    · have e1 : decide ((i : Int) < (xs.length : Int)) = false := by simpa using hlt
      simp only [ir31_l1, e1, if_false, if_true, Nat.reduceAdd, Nat.reduceMul, Nat.reduceLT, Nat.reduceLeDiff, Nat.reduceEqDiff, Nat.reduceSub, reduceCtorEq, false_and, true_and, false_or, or_false, asNat_nat, go_sem]
      exact ⟨_, _, _, _, _, _, _, _, _, _, rfl, hS⟩
  · rintro e s ⟨rfl, a4, a6, a8, a9, a10, a11, a13, a14, a15, m1, rfl, hS⟩
    have r1 : ∀ L, read1 L m1 (.ptr (m.next + 1) 0) = some (.slc m.next 0 0 E.length (.ex E.length)) := fun L => by simp only [read1, hS.var]; rfl
    obtain ⟨ys, hy1, hy2⟩ := hS.arr
    have hb : Nat.blt m.next m.next = false := by rw [blt_dec]; simp
    have hlt := Mem.get_lt hy2
    simp only [r1, if_false, if_true, Nat.reduceAdd, Nat.reduceMul, Nat.reduceLT, Nat.reduceLeDiff, Nat.reduceEqDiff, Nat.reduceSub, reduceCtorEq, false_and, true_and, false_or, or_false, asNat_nat, go_sem]
    refine ⟨_, rfl, by simp [V.under, V.underL, blt_dec, hlt], .slc m.next 0 0 E.length (.ex E.length), m.push (.cells (ys.map (V.int .i64)) false), ?_, Ext.push _ _, rfl, rfl⟩
    rw [settle_ids hS.toGrow (o := m.next) ?_ hy2 ?_]
    · simp only [rename, renameL, newId, hb, place, Bool.false_eq_true, if_false]
      simp [place, Nat.beq_refl]
    · simp only [newIds, newIdsL, hb, Bool.false_or]
      simp
    · clear hy1 hy2
      induction ys with
      | nil => rfl
      | cons y ys ih => simpa [V.underL, V.under] using ih
end
end Go.AI.Sl

namespace Go.AI.Sl
open Go.AI
set_option maxRecDepth 10000
theorem Rows.isRows {m : Mem} {v : V} {xs : List Int} (h : IsI m v xs) : IsInts m v xs := ⟨h.len, h.un, h.ok, h.nl, h.at'⟩
theorem read_none {m : Mem} (h : m.get 0 = some (.cells [.int .i64 0, .int .i64 1] true)) (L : Boxes) : readN L m (.ptr 0 0) 2 = some [.int .i64 0, .int .i64 1] := by simp only [readN, h]; rfl
theorem awake_ok {m : Mem} (h : m.get 0 = some (.cells [.int .i64 0, .int .i64 1] true)) : Ev tab (.fn (.func 24) [] []) [] m (.bool true) m := by
  refine Ev_func (F := ir24c) rfl rfl ?_
  have h' : ∀ L, readN L (enter m) (.ptr 0 0) 2 = some [.int .i64 0, .int .i64 1] := read_none (m := enter m) h
  simp only [ir24c, h', show ((0 : Int) == 0) = true from rfl, show ((1 : Int) == 1) = true from rfl, if_false, if_true, Nat.reduceAdd, Nat.reduceMul, Nat.reduceLT, Nat.reduceLeDiff, Nat.reduceEqDiff, Nat.reduceSub, reduceCtorEq, false_and, true_and, false_or, or_false, asNat_nat, go_sem]
  exact fin_same rfl rfl
theorem eqV_b {a b : Bool} : eqV (.plain [.b]) (.bool a) (.bool b) = some (a == b) := by cases a <;> cases b <;> rfl
theorem z0eq : ((0 : Int) == 0) = true := rfl
theorem w00 : wrapK .i64 (0 + 0) = 0 := rfl
theorem eqV_8 : eqV (.plainA [.i, .i, .i, .i, .i, .i, .i, .i]) (.agg [.int .i64 0, .int .i64 0, .int .i64 0, .int .i64 0, .int .i64 0, .int .i64 0, .int .i64 0, .int .i64 0]) (.agg [.int .i64 0, .int .i64 0, .int .i64 0, .int .i64 0, .int .i64 0, .int .i64 0, .int .i64 0, .int .i64 0]) = some true := rfl
theorem zn0 : ((0 : Int) != 0) = false := rfl
theorem CallT.of {tab : FuncId → Option IFun} {f : V} {args args' : List V} {m m' : Mem} {v : V} {Q : V → Mem → Prop} {t : Tag Q} (h : Ev tab f args m v m') (hQ : Q v m') (he : args' = args := by rfl) : CallT tab f args' m Q t := he ▸ h.callT hQ
section
variable {m : Mem} {N : Int} {vE vP : V} {E : List (Int × Int)} {X : List (Int × Int × Int)} {v : V} {xs : List Int}

theorem gradient_any (hE : IsE m vE E) (hP : IsP m vP X) (hlen : E.length < 1000000) (hlx : X.length < 1000000) (hv : IsI m v xs) (hlv : xs.length < 1000000) :
    ∃ u m', Ev tab (.fn (.func 28) [] []) [.agg [.int .i64 N, vE, vP], v] m (.tup [u, .int .i64 (openI N E X xs N)]) m' ∧ Ext m m' ∧ (openI N E X xs N ≠ 0 → u = .nils) ∧ u.noLp = true := by
  by_cases he : openI N E X xs N = 0
  · have hc : checkB N E X = true := by cases h : checkB N E X <;> simp [openI, h] at he ⊢
    have hn : numbersB xs N = true := by cases h : numbersB xs N <;> simp [openI, hc, h] at he ⊢
    obtain ⟨u, m', h1, h2, _, hu⟩ := gradient_ok hE hP hlen hlx hv hlv hc hn
    rw [he]
    exact ⟨u, m', h1, h2, fun h => absurd rfl h, hu⟩
  · exact ⟨_, _, gradient_err hE hP hlen hlx hv hlv he, Ext.refl m, fun _ => rfl, rfl⟩
theorem swirl_any (hE : IsE m vE E) (hP : IsP m vP X) (hlen : E.length < 1000000) (hlx : X.length < 1000000) (hv : IsI m v xs) (hlv : xs.length < 1000000) :
    ∃ u m', Ev tab (.fn (.func 31) [] []) [.agg [.int .i64 N, vE, vP], v] m (.tup [u, .int .i64 (openI N E X xs X.length)]) m' ∧ Ext m m' ∧ (openI N E X xs X.length ≠ 0 → u = .nils) ∧ u.noLp = true := by
  by_cases he : openI N E X xs X.length = 0
  · have hc : checkB N E X = true := by cases h : checkB N E X <;> simp [openI, h] at he ⊢
    have hn : numbersB xs X.length = true := by cases h : numbersB xs X.length <;> simp [openI, hc, h] at he ⊢
    obtain ⟨u, m', h1, h2, _, hu⟩ := swirl_ok hE hP hlen hlx hv hlv hc hn
    rw [he]
    exact ⟨u, m', h1, h2, fun h => absurd rfl h, hu⟩
  · exact ⟨_, _, swirl_err hE hP hlen hlx hv hlv he, Ext.refl m, fun _ => rfl, rfl⟩

theorem main_ok (hE : IsE m vE E) (hP : IsP m vP X) (cE : CapOK 2 vE) (cP : CapOK 3 vP) (hv : IsI m v xs) (cv : CapOK 1 v) (hm0 : m.get 0 = some (.cells [.int .i64 0, .int .i64 1] true)) :
    ∃ m', Ev tab (.fn (.func 11) [] []) [.agg [.int .i64 N, vE, vP], v] m (.bool true) m' := by
  suffices h : vc tab ir11.body ⟨initA ([] ++ [.agg [.int .i64 N, vE, vP], v] ++ []) ir11.vars, [], enter m⟩ fun e s => (match e with | .exit _ => False | _ => True) ∧ resultV s ir11.results = some (.bool true) by
    obtain ⟨N', e, s', ⟨h0, h1⟩, h5⟩ := vc_sound _ _ _ h
    have hs : settle m s'.m (.bool true) = (.bool true, (settle m s'.m (.bool true)).2) := by
      unfold settle
      split
      · rfl
      · rfl
    refine ⟨(settle m s'.m (.bool true)).2, N' + 1, fun n d hn hd => ?_⟩
    obtain ⟨d, rfl⟩ : ∃ d', d = d' + 1 := ⟨d - 1, by omega⟩
    have hu : V.underL m.next ([] ++ [V.agg [.int .i64 N, vE, vP], v] ++ []) = true := by simp [V.underL, V.under, hE.un, hP.un, hv.un]
    simp only [call, show tab 11 = some ir11 from rfl, hu, if_true]
    rw [h5 n d (by omega) (by omega)]
    cases e with
    | exit i => exact h0.elim
    | normal => simp only [h1]; rw [← hs]; rfl
    | ret => simp only [h1]; rw [← hs]; rfl
  simp only [ir11, hE.one, hP.one, hv.nl, if_false, if_true, Nat.reduceAdd, Nat.reduceMul, Nat.reduceLT, Nat.reduceLeDiff, Nat.reduceEqDiff, Nat.reduceSub, reduceCtorEq, false_and, true_and, false_or, or_false, asNat_nat, go_sem]
  obtain ⟨x1, x2, m1, ev1, hE1, hP1, e1, cE1, cP1, _⟩ := own_ok (N := N) hE.enter hP.enter cE cP
  refine ev1.callT ?_
  simp only [hE1.one, hP1.one, if_false, if_true, Nat.reduceAdd, Nat.reduceMul, Nat.reduceLT, Nat.reduceLeDiff, Nat.reduceEqDiff, Nat.reduceSub, reduceCtorEq, false_and, true_and, false_or, or_false, asNat_nat, go_sem]
  have lE : (E.take 11).length < 1000 := by simp; omega
  have lX : (X.take 7).length < 1000 := by simp; omega
  obtain ⟨y1, y2, m2, ev2, hE2, hP2, e2, cE2, cP2, _⟩ := given_ok (N := N) hE1 hP1 cE1 cP1 lE lX
  refine ev2.callT ?_
  simp only [hE2.one, hP2.one, if_false, if_true, Nat.reduceAdd, Nat.reduceMul, Nat.reduceLT, Nat.reduceLeDiff, Nat.reduceEqDiff, Nat.reduceSub, reduceCtorEq, false_and, true_and, false_or, or_false, asNat_nat, go_sem]
  have x02 : Ext m m2 := ((Ext.enter m).trans e1).trans e2
  obtain ⟨f, m3, ev3, hv3, e3, cv3, _⟩ := few_ok (hv.ext x02) cv 11 (by decide)
  refine CallT.of ev3 ?_
  have lf : (xs.take 11).length < 1000000 := by simp; omega
  have hEx : IsE m3 x1 (E.take 11) := hE1.ext (e2.trans e3)
  have hPx : IsP m3 x2 (X.take 7) := hP1.ext (e2.trans e3)
  have hEy : IsE m3 y1 (E.take 11) := hE2.ext e3
  have hPy : IsP m3 y2 (X.take 7) := hP2.ext e3
  generalize E.take 11 = E' at *
  generalize X.take 7 = X' at *
  generalize xs.take 11 = xs' at *
  have g3 : m3.get 0 = some (.cells [.int .i64 0, .int .i64 1] true) := (x02.trans e3).2 _ _ hm0
  simp only [hv3.nl, if_false, if_true, Nat.reduceAdd, Nat.reduceMul, Nat.reduceLT, Nat.reduceLeDiff, Nat.reduceEqDiff, Nat.reduceSub, reduceCtorEq, false_and, true_and, false_or, or_false, asNat_nat, go_sem]
  refine (check49_ok hEx hPx (by omega) (by omega)).callT ?_
  cases hc : checkB N E' X' with
  | false =>
    have op : ∀ k, openI N E' X' xs' k = 30 := fun k => by simp [openI, hc]
    have z30 : ((30 : Int) != 0) = true := rfl
    have z3030 : ((30 : Int) != 30) = false := rfl
    have z00 : (wrapK .i64 (0 + 0 : Int) != 0) = false := rfl
    simp only [if_false, if_true, Nat.reduceAdd, Nat.reduceMul, Nat.reduceLT, Nat.reduceLeDiff, Nat.reduceEqDiff, Nat.reduceSub, reduceCtorEq, false_and, true_and, false_or, or_false, asNat_nat, go_sem]
    refine (check50_ok hEy hPy (by omega) (by omega)).callT ?_
    simp only [hc, Bool.false_eq_true, z30, z3030, if_false, if_true, Nat.reduceAdd, Nat.reduceMul, Nat.reduceLT, Nat.reduceLeDiff, Nat.reduceEqDiff, Nat.reduceSub, reduceCtorEq, false_and, true_and, false_or, or_false, asNat_nat, go_sem]
    refine (gauge_err hEy hPy (by omega) (by omega) hc).callT ?_
    simp only [if_false, if_true, Nat.reduceAdd, Nat.reduceMul, Nat.reduceLT, Nat.reduceLeDiff, Nat.reduceEqDiff, Nat.reduceSub, reduceCtorEq, false_and, true_and, false_or, or_false, asNat_nat, go_sem]
    refine (pieces_err hEy hPy (by omega) (by omega) hc).callT ?_
    simp only [z3030, z00, if_false, if_true, Nat.reduceAdd, Nat.reduceMul, Nat.reduceLT, Nat.reduceLeDiff, Nat.reduceEqDiff, Nat.reduceSub, reduceCtorEq, false_and, true_and, false_or, or_false, asNat_nat, go_sem]
    refine (check49_ok hEx hPx (by omega) (by omega)).callT ?_
    simp only [hc, if_false, if_true, Nat.reduceAdd, Nat.reduceMul, Nat.reduceLT, Nat.reduceLeDiff, Nat.reduceEqDiff, Nat.reduceSub, reduceCtorEq, false_and, true_and, false_or, or_false, asNat_nat, go_sem]
    obtain ⟨u1, m4, ev4, e4, hu1, _⟩ := gradient_any hEy hPy (by omega) (by omega) hv3 lf (N := N)
    have hu1 := hu1 (by rw [op]; decide)
    subst hu1
    refine ev4.callT ?_
    simp only [op, z30, z3030, eqV_b, zn0, if_false, if_true, Nat.reduceAdd, Nat.reduceMul, Nat.reduceLT, Nat.reduceLeDiff, Nat.reduceEqDiff, Nat.reduceSub, reduceCtorEq, false_and, true_and, false_or, or_false, asNat_nat, go_sem]
    obtain ⟨u2, m5, ev5, e5, hu2, _⟩ := swirl_any (hEy.ext e4) (hPy.ext e4) (by omega) (by omega) (hv3.ext e4) lf (N := N)
    have hu2 := hu2 (by rw [op]; decide)
    subst hu2
    refine ev5.callT ?_
    simp only [op, z30, z3030, eqV_b, zn0, if_false, if_true, Nat.reduceAdd, Nat.reduceMul, Nat.reduceLT, Nat.reduceLeDiff, Nat.reduceEqDiff, Nat.reduceSub, reduceCtorEq, false_and, true_and, false_or, or_false, asNat_nat, go_sem]
    have op' := op E'.length
    have heO : openI N E' X' xs' E'.length ≠ 0 := by rw [op']; decide
    have zw : ((30 : Int) == 30) = true := rfl
    have hEz : IsE m5 y1 E' := hEy.ext (e4.trans e5)
    have hPz : IsP m5 y2 X' := hPy.ext (e4.trans e5)
    have hvz : IsI m5 f xs' := hv3.ext (e4.trans e5)
    have xz : Ext m5 (m5.push (.cells [.int .i64 0, .int .i64 1, .int .i64 2] false)) := Ext.push _ _
    have hEz' := hEz.ext xz
    have hPz' := hPz.ext xz
    have hvz' := hvz.ext xz
    have g5 : m5.get 0 = some (.cells [.int .i64 0, .int .i64 1] true) := (e4.trans e5).2 _ _ g3
    refine (gains_err hEz hPz (by omega) (by omega) hvz lf heO).callT ?_
    simp only [op', if_false, if_true, Nat.reduceAdd, Nat.reduceMul, Nat.reduceLT, Nat.reduceLeDiff, Nat.reduceEqDiff, Nat.reduceSub, reduceCtorEq, false_and, true_and, false_or, or_false, asNat_nat, go_sem]
    refine (turns_err hEz hPz (by omega) (by omega) hvz lf heO).callT ?_
    simp only [op', if_false, if_true, Nat.reduceAdd, Nat.reduceMul, Nat.reduceLT, Nat.reduceLeDiff, Nat.reduceEqDiff, Nat.reduceSub, reduceCtorEq, false_and, true_and, false_or, or_false, asNat_nat, go_sem]
    refine (heights_err hEz hPz (by omega) (by omega) hvz lf heO).callT ?_
    simp only [op', if_false, if_true, Nat.reduceAdd, Nat.reduceMul, Nat.reduceLT, Nat.reduceLeDiff, Nat.reduceEqDiff, Nat.reduceSub, reduceCtorEq, false_and, true_and, false_or, or_false, asNat_nat, go_sem]
    refine (ring_err hEz hPz (by omega) (by omega) hvz lf heO).callT ?_
    simp only [op', if_false, if_true, Nat.reduceAdd, Nat.reduceMul, Nat.reduceLT, Nat.reduceLeDiff, Nat.reduceEqDiff, Nat.reduceSub, reduceCtorEq, false_and, true_and, false_or, or_false, asNat_nat, go_sem]
    refine (isRing_err hEz' hPz' (by omega) (by omega) hvz' lf (by simp [V.under, Mem.push, blt_dec]) rfl heO).callT ?_
    simp only [op', if_false, if_true, Nat.reduceAdd, Nat.reduceMul, Nat.reduceLT, Nat.reduceLeDiff, Nat.reduceEqDiff, Nat.reduceSub, reduceCtorEq, false_and, true_and, false_or, or_false, asNat_nat, go_sem]
    refine (parts_err hEz' hPz' (by omega) (by omega) hvz' lf heO).callT ?_
    simp only [op', zw, z0eq, w00, eqV_8, put_zero, get_zero, if_false, if_true, Nat.reduceAdd, Nat.reduceMul, Nat.reduceLT, Nat.reduceLeDiff, Nat.reduceEqDiff, Nat.reduceSub, reduceCtorEq, false_and, true_and, false_or, or_false, asNat_nat, go_sem]
    refine (best_err hEz' hPz' (by omega) (by omega) hvz' lf heO).callT ?_
    simp only [op', zw, z0eq, w00, eqV_8, put_zero, get_zero, if_false, if_true, Nat.reduceAdd, Nat.reduceMul, Nat.reduceLT, Nat.reduceLeDiff, Nat.reduceEqDiff, Nat.reduceSub, reduceCtorEq, false_and, true_and, false_or, or_false, asNat_nat, go_sem]
    refine (sizes_err hEz' hPz' (by omega) (by omega) hvz' lf heO).callT ?_
    simp only [op', zw, z0eq, w00, eqV_8, put_zero, get_zero, if_false, if_true, Nat.reduceAdd, Nat.reduceMul, Nat.reduceLT, Nat.reduceLeDiff, Nat.reduceEqDiff, Nat.reduceSub, reduceCtorEq, false_and, true_and, false_or, or_false, asNat_nat, go_sem]
    refine (isCalm_err hEz' hPz' (by omega) (by omega) hvz' lf heO).callT ?_
    simp only [op', zw, z0eq, w00, eqV_8, put_zero, get_zero, if_false, if_true, Nat.reduceAdd, Nat.reduceMul, Nat.reduceLT, Nat.reduceLeDiff, Nat.reduceEqDiff, Nat.reduceSub, reduceCtorEq, false_and, true_and, false_or, or_false, asNat_nat, go_sem]
    refine (awake_ok (Mem.get_push_old g5)).callT ?_
    simp only [if_false, if_true, Nat.reduceAdd, Nat.reduceMul, Nat.reduceLT, Nat.reduceLeDiff, Nat.reduceEqDiff, Nat.reduceSub, reduceCtorEq, false_and, true_and, false_or, or_false, asNat_nat, go_sem]
  | true =>
    have z11 : ((1 : Int) != 1) = false := rfl
    have z10 : ((1 : Int) != 0) = true := rfl
    have opT : ∀ k, numbersB xs' k = true → openI N E' X' xs' k = 0 := fun k h => by simp [openI, hc, h]
    have opF : ∀ k, numbersB xs' k = false → openI N E' X' xs' k = 1 := fun k h => by simp [openI, hc, h]
    have lE' : lenV x1 = some (.int .i64 E'.length) := by simpa using hEx.len
    have lX' : lenV x2 = some (.int .i64 X'.length) := by simpa using hPx.len
    simp only [if_false, if_true, Nat.reduceAdd, Nat.reduceMul, Nat.reduceLT, Nat.reduceLeDiff, Nat.reduceEqDiff, Nat.reduceSub, reduceCtorEq, false_and, true_and, false_or, or_false, asNat_nat, go_sem]
    refine (check50_ok hEy hPy (by omega) (by omega)).callT ?_
    simp only [hc, zn0, if_false, if_true, Nat.reduceAdd, Nat.reduceMul, Nat.reduceLT, Nat.reduceLeDiff, Nat.reduceEqDiff, Nat.reduceSub, reduceCtorEq, false_and, true_and, false_or, or_false, asNat_nat, go_sem]
    refine (check49_ok hEx hPx (by omega) (by omega)).callT ?_
    simp only [hc, if_false, if_true, Nat.reduceAdd, Nat.reduceMul, Nat.reduceLT, Nat.reduceLeDiff, Nat.reduceEqDiff, Nat.reduceSub, reduceCtorEq, false_and, true_and, false_or, or_false, asNat_nat, go_sem]
    obtain ⟨u1, m4, ev4, e4, hu1, nu1⟩ := gradient_any hEy hPy (by omega) (by omega) hv3 lf (N := N)
    refine ev4.callT ?_
    simp only [nu1, if_false, if_true, Nat.reduceAdd, Nat.reduceMul, Nat.reduceLT, Nat.reduceLeDiff, Nat.reduceEqDiff, Nat.reduceSub, reduceCtorEq, false_and, true_and, false_or, or_false, asNat_nat, go_sem]
    refine (numbers_ok N (Rows.isRows (hv3.ext e4)) lf).callT ?_
    cases nN : numbersB xs' N with
    | true =>
      simp only [opT _ nN, zn0, eqV_b, if_false, if_true, Nat.reduceAdd, Nat.reduceMul, Nat.reduceLT, Nat.reduceLeDiff, Nat.reduceEqDiff, Nat.reduceSub, reduceCtorEq, false_and, true_and, false_or, or_false, asNat_nat, go_sem]
      obtain ⟨u2, m5, ev5, e5, hu2, nu2⟩ := swirl_any (hEy.ext e4) (hPy.ext e4) (by omega) (by omega) (hv3.ext e4) lf (N := N)
      refine ev5.callT ?_
      simp only [nu2, lX', if_false, if_true, Nat.reduceAdd, Nat.reduceMul, Nat.reduceLT, Nat.reduceLeDiff, Nat.reduceEqDiff, Nat.reduceSub, reduceCtorEq, false_and, true_and, false_or, or_false, asNat_nat, go_sem]
      refine (numbers_ok X'.length (Rows.isRows (hv3.ext (e4.trans e5))) lf).callT ?_
      cases nX : numbersB xs' X'.length with
      | true =>
        simp only [opT _ nX, zn0, eqV_b, if_false, if_true, Nat.reduceAdd, Nat.reduceMul, Nat.reduceLT, Nat.reduceLeDiff, Nat.reduceEqDiff, Nat.reduceSub, reduceCtorEq, false_and, true_and, false_or, or_false, asNat_nat, go_sem]
        cases nE : numbersB xs' E'.length with
        | true =>
          simp only [lE', if_false, if_true, Nat.reduceAdd, Nat.reduceMul, Nat.reduceLT, Nat.reduceLeDiff, Nat.reduceEqDiff, Nat.reduceSub, reduceCtorEq, false_and, true_and, false_or, or_false, asNat_nat, go_sem]
          refine (numbers_ok E'.length (Rows.isRows (hv3.ext (e4.trans e5))) lf).callT ?_
          simp only [nE, if_false, if_true, Nat.reduceAdd, Nat.reduceMul, Nat.reduceLT, Nat.reduceLeDiff, Nat.reduceEqDiff, Nat.reduceSub, reduceCtorEq, false_and, true_and, false_or, or_false, asNat_nat, go_sem]
          refine (awake_ok ((e4.trans e5).2 _ _ g3)).callT ?_
          simp only [if_false, if_true, Nat.reduceAdd, Nat.reduceMul, Nat.reduceLT, Nat.reduceLeDiff, Nat.reduceEqDiff, Nat.reduceSub, reduceCtorEq, false_and, true_and, false_or, or_false, asNat_nat, go_sem]
        | false =>
          have op' := opF _ nE
          have heO : openI N E' X' xs' E'.length ≠ 0 := by rw [op']; decide
          have zw : ((1 : Int) == 1) = true := rfl
          simp only [lE', if_false, if_true, Nat.reduceAdd, Nat.reduceMul, Nat.reduceLT, Nat.reduceLeDiff, Nat.reduceEqDiff, Nat.reduceSub, reduceCtorEq, false_and, true_and, false_or, or_false, asNat_nat, go_sem]
          refine (numbers_ok E'.length (Rows.isRows (hv3.ext (e4.trans e5))) lf).callT ?_
          simp only [nE, if_false, if_true, Nat.reduceAdd, Nat.reduceMul, Nat.reduceLT, Nat.reduceLeDiff, Nat.reduceEqDiff, Nat.reduceSub, reduceCtorEq, false_and, true_and, false_or, or_false, asNat_nat, go_sem]
          have hEz : IsE m5 y1 E' := hEy.ext (e4.trans e5)
          have hPz : IsP m5 y2 X' := hPy.ext (e4.trans e5)
          have hvz : IsI m5 f xs' := hv3.ext (e4.trans e5)
          have xz : Ext m5 (m5.push (.cells [.int .i64 0, .int .i64 1, .int .i64 2] false)) := Ext.push _ _
          have hEz' := hEz.ext xz
          have hPz' := hPz.ext xz
          have hvz' := hvz.ext xz
          have g5 : m5.get 0 = some (.cells [.int .i64 0, .int .i64 1] true) := (e4.trans e5).2 _ _ g3
          refine (gains_err hEz hPz (by omega) (by omega) hvz lf heO).callT ?_
          simp only [op', if_false, if_true, Nat.reduceAdd, Nat.reduceMul, Nat.reduceLT, Nat.reduceLeDiff, Nat.reduceEqDiff, Nat.reduceSub, reduceCtorEq, false_and, true_and, false_or, or_false, asNat_nat, go_sem]
          refine (turns_err hEz hPz (by omega) (by omega) hvz lf heO).callT ?_
          simp only [op', if_false, if_true, Nat.reduceAdd, Nat.reduceMul, Nat.reduceLT, Nat.reduceLeDiff, Nat.reduceEqDiff, Nat.reduceSub, reduceCtorEq, false_and, true_and, false_or, or_false, asNat_nat, go_sem]
          refine (heights_err hEz hPz (by omega) (by omega) hvz lf heO).callT ?_
          simp only [op', if_false, if_true, Nat.reduceAdd, Nat.reduceMul, Nat.reduceLT, Nat.reduceLeDiff, Nat.reduceEqDiff, Nat.reduceSub, reduceCtorEq, false_and, true_and, false_or, or_false, asNat_nat, go_sem]
          refine (ring_err hEz hPz (by omega) (by omega) hvz lf heO).callT ?_
          simp only [op', if_false, if_true, Nat.reduceAdd, Nat.reduceMul, Nat.reduceLT, Nat.reduceLeDiff, Nat.reduceEqDiff, Nat.reduceSub, reduceCtorEq, false_and, true_and, false_or, or_false, asNat_nat, go_sem]
          refine (isRing_err hEz' hPz' (by omega) (by omega) hvz' lf (by simp [V.under, Mem.push, blt_dec]) rfl heO).callT ?_
          simp only [op', if_false, if_true, Nat.reduceAdd, Nat.reduceMul, Nat.reduceLT, Nat.reduceLeDiff, Nat.reduceEqDiff, Nat.reduceSub, reduceCtorEq, false_and, true_and, false_or, or_false, asNat_nat, go_sem]
          refine (parts_err hEz' hPz' (by omega) (by omega) hvz' lf heO).callT ?_
          simp only [op', zw, z0eq, w00, eqV_8, put_zero, get_zero, if_false, if_true, Nat.reduceAdd, Nat.reduceMul, Nat.reduceLT, Nat.reduceLeDiff, Nat.reduceEqDiff, Nat.reduceSub, reduceCtorEq, false_and, true_and, false_or, or_false, asNat_nat, go_sem]
          refine (best_err hEz' hPz' (by omega) (by omega) hvz' lf heO).callT ?_
          simp only [op', zw, z0eq, w00, eqV_8, put_zero, get_zero, if_false, if_true, Nat.reduceAdd, Nat.reduceMul, Nat.reduceLT, Nat.reduceLeDiff, Nat.reduceEqDiff, Nat.reduceSub, reduceCtorEq, false_and, true_and, false_or, or_false, asNat_nat, go_sem]
          refine (sizes_err hEz' hPz' (by omega) (by omega) hvz' lf heO).callT ?_
          simp only [op', zw, z0eq, w00, eqV_8, put_zero, get_zero, if_false, if_true, Nat.reduceAdd, Nat.reduceMul, Nat.reduceLT, Nat.reduceLeDiff, Nat.reduceEqDiff, Nat.reduceSub, reduceCtorEq, false_and, true_and, false_or, or_false, asNat_nat, go_sem]
          refine (isCalm_err hEz' hPz' (by omega) (by omega) hvz' lf heO).callT ?_
          simp only [op', zw, z0eq, w00, eqV_8, put_zero, get_zero, if_false, if_true, Nat.reduceAdd, Nat.reduceMul, Nat.reduceLT, Nat.reduceLeDiff, Nat.reduceEqDiff, Nat.reduceSub, reduceCtorEq, false_and, true_and, false_or, or_false, asNat_nat, go_sem]
          refine (awake_ok (Mem.get_push_old g5)).callT ?_
          simp only [if_false, if_true, Nat.reduceAdd, Nat.reduceMul, Nat.reduceLT, Nat.reduceLeDiff, Nat.reduceEqDiff, Nat.reduceSub, reduceCtorEq, false_and, true_and, false_or, or_false, asNat_nat, go_sem]
      | false =>
        have hu2 := hu2 (by rw [opF _ nX]; decide)
        subst hu2
        simp only [opF _ nX, z10, z11, zn0, eqV_b, if_false, if_true, Nat.reduceAdd, Nat.reduceMul, Nat.reduceLT, Nat.reduceLeDiff, Nat.reduceEqDiff, Nat.reduceSub, reduceCtorEq, false_and, true_and, false_or, or_false, asNat_nat, go_sem]
        cases nE : numbersB xs' E'.length with
        | true =>
          simp only [lE', if_false, if_true, Nat.reduceAdd, Nat.reduceMul, Nat.reduceLT, Nat.reduceLeDiff, Nat.reduceEqDiff, Nat.reduceSub, reduceCtorEq, false_and, true_and, false_or, or_false, asNat_nat, go_sem]
          refine (numbers_ok E'.length (Rows.isRows (hv3.ext (e4.trans e5))) lf).callT ?_
          simp only [nE, if_false, if_true, Nat.reduceAdd, Nat.reduceMul, Nat.reduceLT, Nat.reduceLeDiff, Nat.reduceEqDiff, Nat.reduceSub, reduceCtorEq, false_and, true_and, false_or, or_false, asNat_nat, go_sem]
          refine (awake_ok ((e4.trans e5).2 _ _ g3)).callT ?_
          simp only [if_false, if_true, Nat.reduceAdd, Nat.reduceMul, Nat.reduceLT, Nat.reduceLeDiff, Nat.reduceEqDiff, Nat.reduceSub, reduceCtorEq, false_and, true_and, false_or, or_false, asNat_nat, go_sem]
        | false =>
          have op' := opF _ nE
          have heO : openI N E' X' xs' E'.length ≠ 0 := by rw [op']; decide
          have zw : ((1 : Int) == 1) = true := rfl
          simp only [lE', if_false, if_true, Nat.reduceAdd, Nat.reduceMul, Nat.reduceLT, Nat.reduceLeDiff, Nat.reduceEqDiff, Nat.reduceSub, reduceCtorEq, false_and, true_and, false_or, or_false, asNat_nat, go_sem]
          refine (numbers_ok E'.length (Rows.isRows (hv3.ext (e4.trans e5))) lf).callT ?_
          simp only [nE, if_false, if_true, Nat.reduceAdd, Nat.reduceMul, Nat.reduceLT, Nat.reduceLeDiff, Nat.reduceEqDiff, Nat.reduceSub, reduceCtorEq, false_and, true_and, false_or, or_false, asNat_nat, go_sem]
          have hEz : IsE m5 y1 E' := hEy.ext (e4.trans e5)
          have hPz : IsP m5 y2 X' := hPy.ext (e4.trans e5)
          have hvz : IsI m5 f xs' := hv3.ext (e4.trans e5)
          have xz : Ext m5 (m5.push (.cells [.int .i64 0, .int .i64 1, .int .i64 2] false)) := Ext.push _ _
          have hEz' := hEz.ext xz
          have hPz' := hPz.ext xz
          have hvz' := hvz.ext xz
          have g5 : m5.get 0 = some (.cells [.int .i64 0, .int .i64 1] true) := (e4.trans e5).2 _ _ g3
          refine (gains_err hEz hPz (by omega) (by omega) hvz lf heO).callT ?_
          simp only [op', if_false, if_true, Nat.reduceAdd, Nat.reduceMul, Nat.reduceLT, Nat.reduceLeDiff, Nat.reduceEqDiff, Nat.reduceSub, reduceCtorEq, false_and, true_and, false_or, or_false, asNat_nat, go_sem]
          refine (turns_err hEz hPz (by omega) (by omega) hvz lf heO).callT ?_
          simp only [op', if_false, if_true, Nat.reduceAdd, Nat.reduceMul, Nat.reduceLT, Nat.reduceLeDiff, Nat.reduceEqDiff, Nat.reduceSub, reduceCtorEq, false_and, true_and, false_or, or_false, asNat_nat, go_sem]
          refine (heights_err hEz hPz (by omega) (by omega) hvz lf heO).callT ?_
          simp only [op', if_false, if_true, Nat.reduceAdd, Nat.reduceMul, Nat.reduceLT, Nat.reduceLeDiff, Nat.reduceEqDiff, Nat.reduceSub, reduceCtorEq, false_and, true_and, false_or, or_false, asNat_nat, go_sem]
          refine (ring_err hEz hPz (by omega) (by omega) hvz lf heO).callT ?_
          simp only [op', if_false, if_true, Nat.reduceAdd, Nat.reduceMul, Nat.reduceLT, Nat.reduceLeDiff, Nat.reduceEqDiff, Nat.reduceSub, reduceCtorEq, false_and, true_and, false_or, or_false, asNat_nat, go_sem]
          refine (isRing_err hEz' hPz' (by omega) (by omega) hvz' lf (by simp [V.under, Mem.push, blt_dec]) rfl heO).callT ?_
          simp only [op', if_false, if_true, Nat.reduceAdd, Nat.reduceMul, Nat.reduceLT, Nat.reduceLeDiff, Nat.reduceEqDiff, Nat.reduceSub, reduceCtorEq, false_and, true_and, false_or, or_false, asNat_nat, go_sem]
          refine (parts_err hEz' hPz' (by omega) (by omega) hvz' lf heO).callT ?_
          simp only [op', zw, z0eq, w00, eqV_8, put_zero, get_zero, if_false, if_true, Nat.reduceAdd, Nat.reduceMul, Nat.reduceLT, Nat.reduceLeDiff, Nat.reduceEqDiff, Nat.reduceSub, reduceCtorEq, false_and, true_and, false_or, or_false, asNat_nat, go_sem]
          refine (best_err hEz' hPz' (by omega) (by omega) hvz' lf heO).callT ?_
          simp only [op', zw, z0eq, w00, eqV_8, put_zero, get_zero, if_false, if_true, Nat.reduceAdd, Nat.reduceMul, Nat.reduceLT, Nat.reduceLeDiff, Nat.reduceEqDiff, Nat.reduceSub, reduceCtorEq, false_and, true_and, false_or, or_false, asNat_nat, go_sem]
          refine (sizes_err hEz' hPz' (by omega) (by omega) hvz' lf heO).callT ?_
          simp only [op', zw, z0eq, w00, eqV_8, put_zero, get_zero, if_false, if_true, Nat.reduceAdd, Nat.reduceMul, Nat.reduceLT, Nat.reduceLeDiff, Nat.reduceEqDiff, Nat.reduceSub, reduceCtorEq, false_and, true_and, false_or, or_false, asNat_nat, go_sem]
          refine (isCalm_err hEz' hPz' (by omega) (by omega) hvz' lf heO).callT ?_
          simp only [op', zw, z0eq, w00, eqV_8, put_zero, get_zero, if_false, if_true, Nat.reduceAdd, Nat.reduceMul, Nat.reduceLT, Nat.reduceLeDiff, Nat.reduceEqDiff, Nat.reduceSub, reduceCtorEq, false_and, true_and, false_or, or_false, asNat_nat, go_sem]
          refine (awake_ok (Mem.get_push_old g5)).callT ?_
          simp only [if_false, if_true, Nat.reduceAdd, Nat.reduceMul, Nat.reduceLT, Nat.reduceLeDiff, Nat.reduceEqDiff, Nat.reduceSub, reduceCtorEq, false_and, true_and, false_or, or_false, asNat_nat, go_sem]
    | false =>
      have hu1 := hu1 (by rw [opF _ nN]; decide)
      subst hu1
      simp only [opF _ nN, z10, z11, zn0, eqV_b, if_false, if_true, Nat.reduceAdd, Nat.reduceMul, Nat.reduceLT, Nat.reduceLeDiff, Nat.reduceEqDiff, Nat.reduceSub, reduceCtorEq, false_and, true_and, false_or, or_false, asNat_nat, go_sem]
      obtain ⟨u2, m5, ev5, e5, hu2, nu2⟩ := swirl_any (hEy.ext e4) (hPy.ext e4) (by omega) (by omega) (hv3.ext e4) lf (N := N)
      refine ev5.callT ?_
      simp only [nu2, lX', if_false, if_true, Nat.reduceAdd, Nat.reduceMul, Nat.reduceLT, Nat.reduceLeDiff, Nat.reduceEqDiff, Nat.reduceSub, reduceCtorEq, false_and, true_and, false_or, or_false, asNat_nat, go_sem]
      refine (numbers_ok X'.length (Rows.isRows (hv3.ext (e4.trans e5))) lf).callT ?_
      cases nX : numbersB xs' X'.length with
      | true =>
        simp only [opT _ nX, zn0, eqV_b, if_false, if_true, Nat.reduceAdd, Nat.reduceMul, Nat.reduceLT, Nat.reduceLeDiff, Nat.reduceEqDiff, Nat.reduceSub, reduceCtorEq, false_and, true_and, false_or, or_false, asNat_nat, go_sem]
        cases nE : numbersB xs' E'.length with
        | true =>
          simp only [lE', if_false, if_true, Nat.reduceAdd, Nat.reduceMul, Nat.reduceLT, Nat.reduceLeDiff, Nat.reduceEqDiff, Nat.reduceSub, reduceCtorEq, false_and, true_and, false_or, or_false, asNat_nat, go_sem]
          refine (numbers_ok E'.length (Rows.isRows (hv3.ext (e4.trans e5))) lf).callT ?_
          simp only [nE, if_false, if_true, Nat.reduceAdd, Nat.reduceMul, Nat.reduceLT, Nat.reduceLeDiff, Nat.reduceEqDiff, Nat.reduceSub, reduceCtorEq, false_and, true_and, false_or, or_false, asNat_nat, go_sem]
          refine (awake_ok ((e4.trans e5).2 _ _ g3)).callT ?_
          simp only [if_false, if_true, Nat.reduceAdd, Nat.reduceMul, Nat.reduceLT, Nat.reduceLeDiff, Nat.reduceEqDiff, Nat.reduceSub, reduceCtorEq, false_and, true_and, false_or, or_false, asNat_nat, go_sem]
        | false =>
          have op' := opF _ nE
          have heO : openI N E' X' xs' E'.length ≠ 0 := by rw [op']; decide
          have zw : ((1 : Int) == 1) = true := rfl
          simp only [lE', if_false, if_true, Nat.reduceAdd, Nat.reduceMul, Nat.reduceLT, Nat.reduceLeDiff, Nat.reduceEqDiff, Nat.reduceSub, reduceCtorEq, false_and, true_and, false_or, or_false, asNat_nat, go_sem]
          refine (numbers_ok E'.length (Rows.isRows (hv3.ext (e4.trans e5))) lf).callT ?_
          simp only [nE, if_false, if_true, Nat.reduceAdd, Nat.reduceMul, Nat.reduceLT, Nat.reduceLeDiff, Nat.reduceEqDiff, Nat.reduceSub, reduceCtorEq, false_and, true_and, false_or, or_false, asNat_nat, go_sem]
          have hEz : IsE m5 y1 E' := hEy.ext (e4.trans e5)
          have hPz : IsP m5 y2 X' := hPy.ext (e4.trans e5)
          have hvz : IsI m5 f xs' := hv3.ext (e4.trans e5)
          have xz : Ext m5 (m5.push (.cells [.int .i64 0, .int .i64 1, .int .i64 2] false)) := Ext.push _ _
          have hEz' := hEz.ext xz
          have hPz' := hPz.ext xz
          have hvz' := hvz.ext xz
          have g5 : m5.get 0 = some (.cells [.int .i64 0, .int .i64 1] true) := (e4.trans e5).2 _ _ g3
          refine (gains_err hEz hPz (by omega) (by omega) hvz lf heO).callT ?_
          simp only [op', if_false, if_true, Nat.reduceAdd, Nat.reduceMul, Nat.reduceLT, Nat.reduceLeDiff, Nat.reduceEqDiff, Nat.reduceSub, reduceCtorEq, false_and, true_and, false_or, or_false, asNat_nat, go_sem]
          refine (turns_err hEz hPz (by omega) (by omega) hvz lf heO).callT ?_
          simp only [op', if_false, if_true, Nat.reduceAdd, Nat.reduceMul, Nat.reduceLT, Nat.reduceLeDiff, Nat.reduceEqDiff, Nat.reduceSub, reduceCtorEq, false_and, true_and, false_or, or_false, asNat_nat, go_sem]
          refine (heights_err hEz hPz (by omega) (by omega) hvz lf heO).callT ?_
          simp only [op', if_false, if_true, Nat.reduceAdd, Nat.reduceMul, Nat.reduceLT, Nat.reduceLeDiff, Nat.reduceEqDiff, Nat.reduceSub, reduceCtorEq, false_and, true_and, false_or, or_false, asNat_nat, go_sem]
          refine (ring_err hEz hPz (by omega) (by omega) hvz lf heO).callT ?_
          simp only [op', if_false, if_true, Nat.reduceAdd, Nat.reduceMul, Nat.reduceLT, Nat.reduceLeDiff, Nat.reduceEqDiff, Nat.reduceSub, reduceCtorEq, false_and, true_and, false_or, or_false, asNat_nat, go_sem]
          refine (isRing_err hEz' hPz' (by omega) (by omega) hvz' lf (by simp [V.under, Mem.push, blt_dec]) rfl heO).callT ?_
          simp only [op', if_false, if_true, Nat.reduceAdd, Nat.reduceMul, Nat.reduceLT, Nat.reduceLeDiff, Nat.reduceEqDiff, Nat.reduceSub, reduceCtorEq, false_and, true_and, false_or, or_false, asNat_nat, go_sem]
          refine (parts_err hEz' hPz' (by omega) (by omega) hvz' lf heO).callT ?_
          simp only [op', zw, z0eq, w00, eqV_8, put_zero, get_zero, if_false, if_true, Nat.reduceAdd, Nat.reduceMul, Nat.reduceLT, Nat.reduceLeDiff, Nat.reduceEqDiff, Nat.reduceSub, reduceCtorEq, false_and, true_and, false_or, or_false, asNat_nat, go_sem]
          refine (best_err hEz' hPz' (by omega) (by omega) hvz' lf heO).callT ?_
          simp only [op', zw, z0eq, w00, eqV_8, put_zero, get_zero, if_false, if_true, Nat.reduceAdd, Nat.reduceMul, Nat.reduceLT, Nat.reduceLeDiff, Nat.reduceEqDiff, Nat.reduceSub, reduceCtorEq, false_and, true_and, false_or, or_false, asNat_nat, go_sem]
          refine (sizes_err hEz' hPz' (by omega) (by omega) hvz' lf heO).callT ?_
          simp only [op', zw, z0eq, w00, eqV_8, put_zero, get_zero, if_false, if_true, Nat.reduceAdd, Nat.reduceMul, Nat.reduceLT, Nat.reduceLeDiff, Nat.reduceEqDiff, Nat.reduceSub, reduceCtorEq, false_and, true_and, false_or, or_false, asNat_nat, go_sem]
          refine (isCalm_err hEz' hPz' (by omega) (by omega) hvz' lf heO).callT ?_
          simp only [op', zw, z0eq, w00, eqV_8, put_zero, get_zero, if_false, if_true, Nat.reduceAdd, Nat.reduceMul, Nat.reduceLT, Nat.reduceLeDiff, Nat.reduceEqDiff, Nat.reduceSub, reduceCtorEq, false_and, true_and, false_or, or_false, asNat_nat, go_sem]
          refine (awake_ok (Mem.get_push_old g5)).callT ?_
          simp only [if_false, if_true, Nat.reduceAdd, Nat.reduceMul, Nat.reduceLT, Nat.reduceLeDiff, Nat.reduceEqDiff, Nat.reduceSub, reduceCtorEq, false_and, true_and, false_or, or_false, asNat_nat, go_sem]
      | false =>
        have hu2 := hu2 (by rw [opF _ nX]; decide)
        subst hu2
        simp only [opF _ nX, z10, z11, zn0, eqV_b, if_false, if_true, Nat.reduceAdd, Nat.reduceMul, Nat.reduceLT, Nat.reduceLeDiff, Nat.reduceEqDiff, Nat.reduceSub, reduceCtorEq, false_and, true_and, false_or, or_false, asNat_nat, go_sem]
        cases nE : numbersB xs' E'.length with
        | true =>
          simp only [lE', if_false, if_true, Nat.reduceAdd, Nat.reduceMul, Nat.reduceLT, Nat.reduceLeDiff, Nat.reduceEqDiff, Nat.reduceSub, reduceCtorEq, false_and, true_and, false_or, or_false, asNat_nat, go_sem]
          refine (numbers_ok E'.length (Rows.isRows (hv3.ext (e4.trans e5))) lf).callT ?_
          simp only [nE, if_false, if_true, Nat.reduceAdd, Nat.reduceMul, Nat.reduceLT, Nat.reduceLeDiff, Nat.reduceEqDiff, Nat.reduceSub, reduceCtorEq, false_and, true_and, false_or, or_false, asNat_nat, go_sem]
          refine (awake_ok ((e4.trans e5).2 _ _ g3)).callT ?_
          simp only [if_false, if_true, Nat.reduceAdd, Nat.reduceMul, Nat.reduceLT, Nat.reduceLeDiff, Nat.reduceEqDiff, Nat.reduceSub, reduceCtorEq, false_and, true_and, false_or, or_false, asNat_nat, go_sem]
        | false =>
          have op' := opF _ nE
          have heO : openI N E' X' xs' E'.length ≠ 0 := by rw [op']; decide
          have zw : ((1 : Int) == 1) = true := rfl
          simp only [lE', if_false, if_true, Nat.reduceAdd, Nat.reduceMul, Nat.reduceLT, Nat.reduceLeDiff, Nat.reduceEqDiff, Nat.reduceSub, reduceCtorEq, false_and, true_and, false_or, or_false, asNat_nat, go_sem]
          refine (numbers_ok E'.length (Rows.isRows (hv3.ext (e4.trans e5))) lf).callT ?_
          simp only [nE, if_false, if_true, Nat.reduceAdd, Nat.reduceMul, Nat.reduceLT, Nat.reduceLeDiff, Nat.reduceEqDiff, Nat.reduceSub, reduceCtorEq, false_and, true_and, false_or, or_false, asNat_nat, go_sem]
          have hEz : IsE m5 y1 E' := hEy.ext (e4.trans e5)
          have hPz : IsP m5 y2 X' := hPy.ext (e4.trans e5)
          have hvz : IsI m5 f xs' := hv3.ext (e4.trans e5)
          have xz : Ext m5 (m5.push (.cells [.int .i64 0, .int .i64 1, .int .i64 2] false)) := Ext.push _ _
          have hEz' := hEz.ext xz
          have hPz' := hPz.ext xz
          have hvz' := hvz.ext xz
          have g5 : m5.get 0 = some (.cells [.int .i64 0, .int .i64 1] true) := (e4.trans e5).2 _ _ g3
          refine (gains_err hEz hPz (by omega) (by omega) hvz lf heO).callT ?_
          simp only [op', if_false, if_true, Nat.reduceAdd, Nat.reduceMul, Nat.reduceLT, Nat.reduceLeDiff, Nat.reduceEqDiff, Nat.reduceSub, reduceCtorEq, false_and, true_and, false_or, or_false, asNat_nat, go_sem]
          refine (turns_err hEz hPz (by omega) (by omega) hvz lf heO).callT ?_
          simp only [op', if_false, if_true, Nat.reduceAdd, Nat.reduceMul, Nat.reduceLT, Nat.reduceLeDiff, Nat.reduceEqDiff, Nat.reduceSub, reduceCtorEq, false_and, true_and, false_or, or_false, asNat_nat, go_sem]
          refine (heights_err hEz hPz (by omega) (by omega) hvz lf heO).callT ?_
          simp only [op', if_false, if_true, Nat.reduceAdd, Nat.reduceMul, Nat.reduceLT, Nat.reduceLeDiff, Nat.reduceEqDiff, Nat.reduceSub, reduceCtorEq, false_and, true_and, false_or, or_false, asNat_nat, go_sem]
          refine (ring_err hEz hPz (by omega) (by omega) hvz lf heO).callT ?_
          simp only [op', if_false, if_true, Nat.reduceAdd, Nat.reduceMul, Nat.reduceLT, Nat.reduceLeDiff, Nat.reduceEqDiff, Nat.reduceSub, reduceCtorEq, false_and, true_and, false_or, or_false, asNat_nat, go_sem]
          refine (isRing_err hEz' hPz' (by omega) (by omega) hvz' lf (by simp [V.under, Mem.push, blt_dec]) rfl heO).callT ?_
          simp only [op', if_false, if_true, Nat.reduceAdd, Nat.reduceMul, Nat.reduceLT, Nat.reduceLeDiff, Nat.reduceEqDiff, Nat.reduceSub, reduceCtorEq, false_and, true_and, false_or, or_false, asNat_nat, go_sem]
          refine (parts_err hEz' hPz' (by omega) (by omega) hvz' lf heO).callT ?_
          simp only [op', zw, z0eq, w00, eqV_8, put_zero, get_zero, if_false, if_true, Nat.reduceAdd, Nat.reduceMul, Nat.reduceLT, Nat.reduceLeDiff, Nat.reduceEqDiff, Nat.reduceSub, reduceCtorEq, false_and, true_and, false_or, or_false, asNat_nat, go_sem]
          refine (best_err hEz' hPz' (by omega) (by omega) hvz' lf heO).callT ?_
          simp only [op', zw, z0eq, w00, eqV_8, put_zero, get_zero, if_false, if_true, Nat.reduceAdd, Nat.reduceMul, Nat.reduceLT, Nat.reduceLeDiff, Nat.reduceEqDiff, Nat.reduceSub, reduceCtorEq, false_and, true_and, false_or, or_false, asNat_nat, go_sem]
          refine (sizes_err hEz' hPz' (by omega) (by omega) hvz' lf heO).callT ?_
          simp only [op', zw, z0eq, w00, eqV_8, put_zero, get_zero, if_false, if_true, Nat.reduceAdd, Nat.reduceMul, Nat.reduceLT, Nat.reduceLeDiff, Nat.reduceEqDiff, Nat.reduceSub, reduceCtorEq, false_and, true_and, false_or, or_false, asNat_nat, go_sem]
          refine (isCalm_err hEz' hPz' (by omega) (by omega) hvz' lf heO).callT ?_
          simp only [op', zw, z0eq, w00, eqV_8, put_zero, get_zero, if_false, if_true, Nat.reduceAdd, Nat.reduceMul, Nat.reduceLT, Nat.reduceLeDiff, Nat.reduceEqDiff, Nat.reduceSub, reduceCtorEq, false_and, true_and, false_or, or_false, asNat_nat, go_sem]
          refine (awake_ok (Mem.get_push_old g5)).callT ?_
          simp only [if_false, if_true, Nat.reduceAdd, Nat.reduceMul, Nat.reduceLT, Nat.reduceLeDiff, Nat.reduceEqDiff, Nat.reduceSub, reduceCtorEq, false_and, true_and, false_or, or_false, asNat_nat, go_sem]
end
end Go.AI.Sl
