/- SlopeChecks: whatever the ground and the list, the law answers true, and what it was handed reads as it did. Conditions: those of the given statement, no other. -/
import Derived.Test.YtmgbbajgajmdjaaDoorTg
import Derived.Test.YtmgbbajgajmdjaaDoorLb
import Derived.Test.YtmgbbajgajmdjaaDoorCards
import Derived.Test.YtmgbbajgajmdjaaDoorTie
import Derived.WalkKit
import Derived.ProofKit
import Derived.OpenShut
import Derived.Deep.DeepHandedRow
import Derived.Deep.Slices
import Derived.Deep.Strs
import Derived.Carry

set_option linter.unusedSimpArgs false
set_option linter.unusedVariables false

/- The law's arguments, seen from the small memory. -/
namespace Go.AI.Sl
open Go Go.AI Go.Proofs

/-- The number in a cell. -/
def cellI (W : World) (b i : Nat) : Int := match W.cell? ⟨b, i, none⟩ with | some (.int _ z) => z | _ => 0

def rowI (W : World) (b off k i : Nat) : List Int := (List.range k).map fun j => cellI W b (off + (i * k + j))
def rowsI (W : World) (b off k len : Nat) : List (List Int) := (List.range len).map (rowI W b off k)

theorem rowsI_flat (W : World) (b off k : Nat) : ∀ len, (rowsI W b off k len).flatten = (List.range (len * k)).map fun t => cellI W b (off + t)
  | 0 => by simp [rowsI]
  | n + 1 => by
    have ih := rowsI_flat W b off k n
    unfold rowsI at ih ⊢
    rw [List.range_succ, List.map_append, List.flatten_append, ih, Nat.add_mul, Nat.one_mul, List.range_add, List.map_append]
    simp [rowI, Function.comp_def]

theorem concL_ints {ι : List Blk} : ∀ (l : List Int), concL ι (l.map (V.int .i64)) = some (l.map (Value.int .i64))
  | [] => rfl
  | x :: l => by simp [concL, conc, concL_ints l]

theorem rows_at_ro {size : Nat} {m : Mem} {o c : Nat} {rows : List (List V)} (hr : ∀ r ∈ rows, r.length = size) (hg : m.get o = some (.cells rows.flatten true)) : Rows size m (.slc o 0 0 rows.length (.ex c)) rows := by
  refine ⟨rfl, by simp [V.under, Mem.get_lt hg], rfl, rfl, rfl, fun i row hi => ?_⟩
  have hlt : i < rows.length := by
    rcases Nat.lt_or_ge i rows.length with h | h
    · exact h
    · rw [List.getElem?_eq_none h] at hi; cases hi
  refine ⟨o, 0 + i * size, _, _, ?_, hg, ?_, ?_⟩
  · simp only [idxV]; rw [if_pos (by rw [blt_iff]; exact hlt)]
  · rw [flatten_length hr]
    have : (i + 1) * size ≤ rows.length * size := Nat.mul_le_mul_right _ hlt
    rw [Nat.add_mul] at this
    omega
  · rw [Nat.zero_add]; exact flatten_slice hr hi

/-- A list of rows of numbers that a world holds, for the small memory. -/
theorem listed {P : Program} {W : World} (k o : Nat) {c : Value} (h : c = .slice none 0 0 ∨ ∃ b off len cap, c = .slice (some ⟨b, off, none⟩) len cap ∧ len ≤ cap ∧ ∀ t < len * k, ∃ z, W.cell? ⟨b, off + t, none⟩ = some (.int .i64 z)) :
    ∃ (v : V) (ob : Ob) (blk : Blk) (rows : List (List Int)), (∀ r ∈ rows, r.length = k) ∧ (∀ ι : List Blk, ι[o]? = some blk → conc ι v = some c) ∧ (∀ ι, ObR P ι W blk ob) ∧ ob.rw = false ∧
      ∀ m : Mem, m.get o = some ob → Rows k m v (rows.map (·.map (V.int .i64))) ∧ CapOK k v := by
  rcases h with rfl | ⟨b, off, len, cap, rfl, hle, hc⟩
  · exact ⟨.nils, .gone, default, [], by simp, fun _ _ => rfl, fun _ => trivial, rfl, fun m _ => ⟨Rows.nils _ _, trivial⟩⟩
  · have hlen : (rowsI W b off k len).length = len := by simp [rowsI]
    have hrl : ∀ r ∈ rowsI W b off k len, r.length = k := by
      intro r hr
      simp only [rowsI, List.mem_map] at hr
      obtain ⟨i, _, rfl⟩ := hr
      simp [rowI]
    have hfl : ((rowsI W b off k len).map (·.map (V.int .i64))).flatten = ((List.range (len * k)).map fun t => cellI W b (off + t)).map (V.int .i64) := by
      rw [← rowsI_flat, List.map_flatten]
    refine ⟨.slc o 0 0 len (.ex cap), .cells (((List.range (len * k)).map fun t => cellI W b (off + t)).map (V.int .i64)) true, ⟨b, off, 0⟩, rowsI W b off k len, hrl, fun ι hι => ?_, fun ι => ?_, rfl, fun m hm => ⟨?_, hle⟩⟩
    · simp [conc, hι]
    · refine ⟨_, concL_ints _, fun i v hv => ?_⟩
      rw [List.getElem?_map, List.getElem?_map] at hv
      by_cases hi : i < len * k
      · rw [List.getElem?_range hi] at hv
        obtain ⟨z, hz⟩ := hc i hi
        simp only [Option.map_some, Option.some.injEq] at hv
        subst hv
        rw [hz]
        simp [cellI, hz]
      · rw [List.getElem?_eq_none (by simp; omega)] at hv; cases hv
    · have := rows_at_ro (size := k) (c := cap) (m := m) (o := o) (rows := (rowsI W b off k len).map (·.map (V.int .i64))) (fun r hr => by
        simp only [List.mem_map] at hr
        obtain ⟨r', h1, rfl⟩ := hr
        simpa using hrl r' h1) (by rw [hfl]; exact hm)
      simpa [hlen] using this

theorem rows_pr : ∀ (rows : List (List Int)), (∀ r ∈ rows, r.length = 2) → ∃ E : List (Int × Int), rows.map (·.map (V.int .i64)) = E.map pr
  | [], _ => ⟨[], rfl⟩
  | r :: rows, h => by
    obtain ⟨E, hE⟩ := rows_pr rows fun x hx => h x (by simp [hx])
    have h2 := h r (by simp)
    match r, h2 with
    | [a, b], _ => exact ⟨(a, b) :: E, by simp [hE, pr]⟩
theorem rows_tr : ∀ (rows : List (List Int)), (∀ r ∈ rows, r.length = 3) → ∃ E : List (Int × Int × Int), rows.map (·.map (V.int .i64)) = E.map tr
  | [], _ => ⟨[], rfl⟩
  | r :: rows, h => by
    obtain ⟨E, hE⟩ := rows_tr rows fun x hx => h x (by simp [hx])
    have h2 := h r (by simp)
    match r, h2 with
    | [a, b, c], _ => exact ⟨(a, b, c) :: E, by simp [hE, tr]⟩
theorem rows_in : ∀ (rows : List (List Int)), (∀ r ∈ rows, r.length = 1) → ∃ E : List Int, rows.map (·.map (V.int .i64)) = E.map fun x => [V.int .i64 x]
  | [], _ => ⟨[], rfl⟩
  | r :: rows, h => by
    obtain ⟨E, hE⟩ := rows_in rows fun x hx => h x (by simp [hx])
    have h2 := h r (by simp)
    match r, h2 with
    | [a], _ => exact ⟨a :: E, by simp [hE]⟩
end Go.AI.Sl

namespace Go.AI.Sl
open Go Go.AI Go.Proofs
section
variable {H : Type} {enc : TypeId × Value → H} {W : World}

theorem add_none (b off n : Nat) : (⟨b, off, none⟩ : Addr).add n = ⟨b, off + n, none⟩ := by
  unfold Addr.add
  split
  · rename_i h; subst h; rfl
  · rfl

theorem slice_of {P : Program} {ts e : TypeId} {k : Nat} {c : Value} {fuel base : Nat} {x : DataW H × List MemPlace} (ht : P.underlying ts = some (.slice e)) (hce : P.cellsOf e = k)
    (hel : ∀ n cs' x, cs'.length = k → DataW.trod enc P W 0 (fun _ => true) true n e cs' = some x → ∀ j < k, ∃ z, cs'[j]? = some (.int .i64 z))
    (h : DataW.trod enc P W 0 (fun _ => true) true fuel ts [c] = some x) (hok : Cell.okWide P W .any base ts c) :
    c = .slice none 0 0 ∨ ∃ b off len cap, c = .slice (some ⟨b, off, none⟩) len cap ∧ len ≤ cap ∧ ∀ t < len * k, ∃ z, W.cell? ⟨b, off + t, none⟩ = some (.int .i64 z) := by
  rcases Go.Deep.open_slice ht h with ⟨h0, _⟩ | ⟨a, len, cap, m, n, D, Pl, hc, _, hle, _, hm, _, hx⟩
  · left; simpa using h0
  · right
    have hc : c = .slice (some a) len cap := by simpa using hc
    subst hc
    have hsp : a.spot = none := by
      simp only [Cell.okWide, ht, Cell.ok] at hok
      exact hok.2.2.2.1
    obtain ⟨b, off, sp⟩ := a
    simp only at hsp
    subst hsp
    refine ⟨b, off, len, cap, rfl, hle, fun t ht' => ?_⟩
    have hk : 0 < k := by rcases Nat.eq_zero_or_pos k with h | h; · subst h; simp at ht'
                          · exact h
    have hi : t / k < len := by rw [Nat.div_lt_iff_lt_mul hk]; exact ht'
    obtain ⟨cs', h1, h2⟩ := hx (t / k) (by rw [hm]; simp; omega)
    rw [hce] at h1
    obtain ⟨_, hl, hcell⟩ := World.cells?_some h1
    obtain ⟨z, hz⟩ := hel n cs' _ hl h2 (t % k) (Nat.mod_lt _ hk)
    refine ⟨z, ?_⟩
    have := hcell (t % k) (Nat.mod_lt _ hk)
    rw [hz] at this
    simp only [add_none] at this
    rw [show off + t / k * k + t % k = off + t by have := Nat.div_add_mod t k; rw [Nat.mul_comm] at this; omega] at this
    exact this

theorem el_int (n : Nat) (cs' : List Value) (x : DataW H × List MemPlace) (_ : cs'.length = 1) (h : DataW.trod enc Tryd.prog W 0 (fun _ => true) true n 3 cs' = some x) : ∀ j < 1, ∃ z, cs'[j]? = some (.int .i64 z) := by
  obtain ⟨z, rfl, _⟩ := DataW.trod_int Tryd.underlying3 h
  intro j hj
  obtain rfl : j = 0 := by omega
  exact ⟨z, rfl⟩
theorem cells3 : Tryd.prog.cellsOf 3 = 1 := by kernel_rfl
theorem cells45 : Tryd.prog.cellsOf 45 = 2 := by kernel_rfl
theorem cells79 : Tryd.prog.cellsOf 79 = 3 := by kernel_rfl
theorem cells25 : Tryd.prog.cellsOf 25 = 3 := by kernel_rfl
theorem el_arr {e : TypeId} {k : Nat} (he : Tryd.prog.underlying e = some (.array k 3)) (n : Nat) (cs' : List Value) (x : DataW H × List MemPlace) (_ : cs'.length = k) (h : DataW.trod enc Tryd.prog W 0 (fun _ => true) true n e cs' = some x) : ∀ j < k, ∃ z, cs'[j]? = some (.int .i64 z) := by
  obtain ⟨xs, m, _, _, _, hl, hx⟩ := DataW.trod_array he h
  intro j hj
  have := hx j hj
  rw [cells3, List.getElem?_eq_getElem (by omega)] at this
  obtain ⟨z, hz, _⟩ := DataW.trod_int Tryd.underlying3 this
  refine ⟨z, ?_⟩
  have h0 := congrArg (·[0]?) hz
  simpa [List.getElem?_take, List.getElem?_drop] using h0

theorem gNone : Tryd.prog.globalNamed "tosher/slope.none" = some 0 := by kernel_rfl
theorem gType : (Tryd.prog.globals[0]?).map (·.type) = some 102 := by kernel_rfl
theorem none_cells (h : laidMetH Tryd.prog YtmgbbajgajmdjaaDoor.Rows.slopeChecksRow.laid W) : W.cell? ⟨0, 0, none⟩ = some (.int .i64 0) ∧ W.cell? ⟨0, 1, none⟩ = some (.int .i64 1) := by
  have h : laidMet Tryd.prog [("tosher/slope.none", YtmgbbajgajmdjaaDoor.Rows.laid_tosher_slope_none)] W := h
  obtain ⟨ps, ⟨g', t', cs, fuel, p, q, hg', ht', hvar, hd, _, _⟩, _⟩ := h
  obtain rfl := Option.some.inj (gNone.symm.trans hg')
  obtain rfl := Option.some.inj (gType.symm.trans ht')
  obtain ⟨y0, y1, n, hx, hl, h0, h1⟩ := Go.ChangeShapes.trod_struct2 Tryd.underlying102 hd
  obtain ⟨z0, e0, rfl, _⟩ := DataW.trod_int Tryd.underlying2 h0
  obtain ⟨z1, e1, rfl, _⟩ := DataW.trod_int Tryd.underlying2 h1
  have hc2 : Tryd.prog.cellsOf 2 = 1 := by kernel_rfl
  rw [hc2] at e0 e1
  have hx1 := congrArg Prod.fst hx
  simp [YtmgbbajgajmdjaaDoor.Rows.laid_tosher_slope_none] at hx1
  obtain ⟨rfl, rfl⟩ := hx1
  have a0 := congrArg (·[0]?) e0
  have a1 := congrArg (·[0]?) e1
  have v0 := World.var?_cell gNone hvar 0
  have v1 := World.var?_cell gNone hvar 1
  rw [v0, v1]
  simp [List.getElem?_take, List.getElem?_drop] at a0 a1
  exact ⟨by simpa using a0, by simpa using a1⟩
end
end Go.AI.Sl

namespace Go.AI.Sl
open Go Go.AI Go.Proofs
set_option maxRecDepth 10000
section
variable {W : World}

theorem law_calls {N : Int} {cE cP cV : Value} (h0 : W.cell? ⟨0, 0, none⟩ = some (.int .i64 0)) (h1 : W.cell? ⟨0, 1, none⟩ = some (.int .i64 1))
    (hE : cE = .slice none 0 0 ∨ ∃ b off len cap, cE = .slice (some ⟨b, off, none⟩) len cap ∧ len ≤ cap ∧ ∀ t < len * 2, ∃ z, W.cell? ⟨b, off + t, none⟩ = some (.int .i64 z))
    (hP : cP = .slice none 0 0 ∨ ∃ b off len cap, cP = .slice (some ⟨b, off, none⟩) len cap ∧ len ≤ cap ∧ ∀ t < len * 3, ∃ z, W.cell? ⟨b, off + t, none⟩ = some (.int .i64 z))
    (hV : cV = .slice none 0 0 ∨ ∃ b off len cap, cV = .slice (some ⟨b, off, none⟩) len cap ∧ len ≤ cap ∧ ∀ t < len * 1, ∃ z, W.cell? ⟨b, off + t, none⟩ = some (.int .i64 z)) :
    Calls Tryd.prog 11 #[.agg #[.int .i64 N, cE, cP], cV] W fun e W' => e = .returned (.bool true) ∧ Go.RowKit.Below W.heap.size W W' := by
  obtain ⟨vE, o1, b1, r1, l1, c1, ob1, w1, R1⟩ := listed (P := Tryd.prog) (W := W) 2 1 hE
  obtain ⟨vP, o2, b2, r2, l2, c2, ob2, w2, R2⟩ := listed (P := Tryd.prog) (W := W) 3 2 hP
  obtain ⟨v, o3, b3, r3, l3, c3, ob3, w3, R3⟩ := listed (P := Tryd.prog) (W := W) 1 3 hV
  obtain ⟨E, eE⟩ := rows_pr r1 l1
  obtain ⟨X, eX⟩ := rows_tr r2 l2
  obtain ⟨xs, ex⟩ := rows_in r3 l3
  let m : Mem := { objs := [o3, o2, o1, .cells [.int .i64 0, .int .i64 1] true], next := 4, lo := 4, wmin := 4, dmin := 4 }
  let ι : List Blk := [⟨0, 0, 0⟩, b1, b2, b3]
  have i1 := c1 ι rfl
  have i2 := c2 ι rfl
  have i3 := c3 ι rfl
  obtain ⟨R1, k1⟩ := R1 m rfl
  obtain ⟨R2, k2⟩ := R2 m rfl
  obtain ⟨R3, k3⟩ := R3 m rfl
  rw [eE] at R1
  rw [eX] at R2
  rw [ex] at R3
  have has : concL ι [.agg [.int .i64 N, vE, vP], v] = some [.agg #[.int .i64 N, cE, cP], cV] := by simp [concL, conc, i1, i2, i3]
  have hno : ∀ k r, ¬ owns ι (fun _ => 0) [] m k r := by
    intro k r hk
    cases k with
    | ob o =>
      obtain ⟨x, _, hx, hrw, _⟩ := hk
      have hlt : o < 4 := Mem.get_lt hx
      match o, hlt with
      | 0, _ => cases (show some (Ob.cells [.int .i64 0, .int .i64 1] true) = some x from hx); cases hrw
      | 1, _ => cases (show some o1 = some x from hx); rw [w1] at hrw; cases hrw
      | 2, _ => cases (show some o2 = some x from hx); rw [w2] at hrw; cases hrw
      | 3, _ => cases (show some o3 = some x from hx); rw [w3] at hrw; cases hrw
    | bx s => exact hk.1 (by cases s <;> rfl)
  have hw : WR Tryd.prog ι (fun _ => 0) [] m W := by
    refine { obj := fun o x hx => ?_, box := fun s hs => absurd (by cases s <;> rfl) hs, len := rfl, glob := fun g hg => ?_, inj := fun k _ r hk => absurd hk (hno k r), ro := fun o cs r k _ _ _ => hno k _ }
    · have hlt : o < 4 := Mem.get_lt hx
      match o, hlt with
      | 0, _ =>
        cases (show some (Ob.cells [.int .i64 0, .int .i64 1] true) = some x from hx)
        refine ⟨⟨0, 0, 0⟩, rfl, [.int .i64 0, .int .i64 1], by simp [concL, conc], fun i u hu => ?_⟩
        match i, hu with
        | 0, hu => cases hu; exact h0
        | 1, hu => cases hu; exact h1
        | i + 2, hu => cases hu
      | 1, _ => cases (show some o1 = some x from hx); exact ⟨b1, rfl, ob1 ι⟩
      | 2, _ => cases (show some o2 = some x from hx); exact ⟨b2, rfl, ob2 ι⟩
      | 3, _ => cases (show some o3 = some x from hx); exact ⟨b3, rfl, ob3 ι⟩
    · rw [globals1] at hg
      have : g = 0 := by omega
      subst this
      exact ⟨⟨0, 0, 0⟩, rfl, rfl, rfl⟩
  obtain ⟨m', n, hev⟩ := main_ok (N := N) (m := m) (vE := vE) (vP := vP) (E := E) (X := X) (v := v) (xs := xs) R1 R2 k1 k2 R3 k3 rfl
  have hx := hev n (n + 1) (Nat.le_refl _) (Nat.le_succ _)
  simp only [call, show tab 11 = some ir11 from rfl] at hx
  split at hx
  · have hcall : CallOK Tryd.prog (call tab n n) := tab_sound n n
    obtain ⟨_, r2⟩ := func_sound (g := 11) (F := ir11) (cas := [.agg #[.int .i64 N, cE, cP], cV]) hcall (fun _ _ _ _ hc => draw_sound hcall mixed hc) (real_ok 11 ir11 rfl) (Nat.le_refl 4) hx hw (fun t _ => concL_VA has t)
    refine ((callsIn_wide (n := 0)).1 (r2 0)).mono fun e W' he => ?_
    cases e with
    | returned c =>
      obtain ⟨ι', _, t, q, _⟩ := he
      simp only [conc, Option.some.injEq] at q
      subst q
      exact ⟨rfl, t.os.1, t.os.2.2, t.os.2.1, t.size, fun b hb => t.same b hb fun k => hno k b⟩
    | _ => exact he.elim
  · cases hx
end
end Go.AI.Sl

namespace Go.Proofs.YtmgbbajgajmdjaaDoor.slopeChecks
open Go Go.Proofs Go.AI.Sl Go.Proofs.YtmgbbajgajmdjaaDoor
open Go.ChangeShapes Go.WideShapes Go.ChangeAt Go.RowKit
set_option maxRecDepth 10000

theorem own : ownKnob Tryd.prog.godebug = none := by kernel_rfl
theorem cells26 : Tryd.prog.cellsOf 26 = 1 := by kernel_rfl
theorem cells22 : Tryd.prog.cellsOf 22 = 1 := by kernel_rfl
theorem cells23 : Tryd.prog.cellsOf 23 = 1 := by kernel_rfl
theorem cellTypes25 : Tryd.prog.cellTypes Tryd.prog.depth 25 = some [3, 22, 23] := by kernel_rfl
theorem laidOut : laidOutB Tryd.prog = true := by kernel_rfl
theorem rec25 : Tryd.prog.readableRec 25 = true := by kernel_rfl
theorem rec26 : Tryd.prog.readableRec 26 = true := by kernel_rfl

theorem row25 : 25 < Tryd.prog.types.size := of_decide_eq_true (by kernel_rfl)
theorem row26 : 26 < Tryd.prog.types.size := of_decide_eq_true (by kernel_rfl)

theorem take_one {α : Type} {l : List α} {i : Nat} {x : α} (h : (l.drop i).take 1 = [x]) : l[i]? = some x := by
  have := congrArg (·[0]?) h
  simpa [List.getElem?_take, List.getElem?_drop] using this

theorem contract (H : Type) (enc : TypeId × Value → H) (W : World) (base : Nat) (args : Array Value) (ds gs : List (DataW H)) (before : List MemPlace)
    (hval : ∀ (j : Nat) t v, Tryd.f11.params[j]? = some t → args[j]? = some v → Value.okWide Tryd.prog W .any base t v)
    (hW : DataW.Whole enc Tryd.prog Tryd.f11.params.toList Rows.slopeChecksSpec.vars false W args.toList ds gs before) (hL : laidMetH Tryd.prog Rows.slopeChecksRow.laid W) :
    Calls Tryd.prog 11 args W fun e W' => ∃ v, e = .returned v ∧ Rows.slopeChecksSpec.post enc Tryd.prog Tryd.f11 false true false false W args v W' := by
  have hW' := hW
  obtain ⟨p, q, hA0, hV, rfl, hfz, hnd⟩ := hW
  have hA : DataW.TrodAll enc Tryd.prog W 0 (fun _ => true) true Tryd.f11.params.toList args.toList ds p := hA0
  rw [Tryd.params11] at hA hval
  obtain ⟨v0, v1, d0, d1, p0, p1, hargs, rfl, rfl, t0, t1⟩ := trodAll_two hA
  obtain ⟨rfl, rfl⟩ := trodVars_none hV
  obtain rfl : args = #[v0, v1] := hargs
  have k0 := hval 0 25 v0 rfl rfl
  have k1 := hval 1 26 v1 rfl rfl
  have hlt : ∀ x ∈ p0 ++ p1, x.block < W.heap.size := fun x hx => hA.lt x hx
  obtain ⟨f0, t0'⟩ := t0
  obtain ⟨f1, t1'⟩ := t1
  -- the ground
  simp only [Value.okWide, Tryd.underlying25] at k0
  obtain ⟨cs, rfl, hsz, ts, hts, _, hcell⟩ := k0
  rw [cellTypes25] at hts
  cases hts
  obtain ⟨y0, y1, y2, n, hx, hl, g0, g1, g2⟩ := Go.Deep.trod_struct3 Tryd.underlying25 t0'
  simp only [Value.cells, cells3, cells22, cells23] at g0 g1 g2 hl
  rw [cells25] at hsz
  obtain ⟨x0, x1, x2, rfl⟩ : ∃ x0 x1 x2, cs = #[x0, x1, x2] := by
    obtain ⟨l⟩ := cs
    match l, hsz with
    | [x0, x1, x2], _ => exact ⟨x0, x1, x2, rfl⟩
  obtain ⟨N, e0, _⟩ := DataW.trod_int Tryd.underlying3 g0
  obtain rfl : x0 = .int .i64 N := by simpa using e0
  have c1 : Cell.okWide Tryd.prog W .any base 22 x1 := by
    obtain ⟨u, hu, hc⟩ := hcell 1 x1 rfl
    cases hu; exact hc
  have c2 : Cell.okWide Tryd.prog W .any base 23 x2 := by
    obtain ⟨u, hu, hc⟩ := hcell 2 x2 rfl
    cases hu; exact hc
  have sE := slice_of (k := 2) Tryd.underlying22 cells45 (el_arr Tryd.underlying45) (by simpa using g1) c1
  have sP := slice_of (k := 3) Tryd.underlying23 cells79 (el_arr Tryd.underlying79) (by simpa using g2) c2
  -- the list
  have k1' : Cell.okWide Tryd.prog W .any base 26 v1 := by simpa only [Value.okWide, Tryd.underlying26] using k1
  have hv1 : v1.cells.toList = [v1] := by
    obtain ⟨a, len, cap, rfl⟩ := okWide_slice Tryd.underlying26 k1
    rfl
  rw [hv1] at t1'
  have sV := slice_of (k := 1) Tryd.underlying26 cells3 el_int t1' k1'
  obtain ⟨z0, z1⟩ := none_cells hL
  refine (law_calls z0 z1 sE sP sV).mono fun e W' ⟨he, hb⟩ => ?_
  subst he
  have u0 : DataW.Trod enc Tryd.prog W' 0 (fun b => decide (b < W.heap.size)) true 25 (.agg #[.int .i64 N, x1, x2]) d0 p0 :=
    Below.trod laidOut rec25 row25 ⟨f0, t0'⟩ hb fun x hx => hlt x (List.mem_append_left _ hx)
  have u1 : DataW.Trod enc Tryd.prog W' 0 (fun b => decide (b < W.heap.size)) true 26 v1 d1 p1 :=
    Below.trod laidOut rec26 row26 ⟨f1, by rw [hv1]; exact t1'⟩ hb fun x hx => hlt x (List.mem_append_right _ hx)
  refine ⟨_, rfl, [d0, d1], [], _, [], p0 ++ p1, [], hW', ?_, ?_, rfl, hb.frame _, fun h => by cases h⟩
  · exact trodAll_mk1 (shut_bool Tryd.underlying4 _)
  · exact trodAll_mk2 u0 u1
end Go.Proofs.YtmgbbajgajmdjaaDoor.slopeChecks

namespace Go.Proofs.YtmgbbajgajmdjaaDoor.slopeChecks
open Go Go.Proofs Go.AI.Sl Go.Proofs.YtmgbbajgajmdjaaDoor
open Go.ChangeShapes Go.WideShapes Go.ChangeAt Go.RowKit

def theArgs : Array Value := #[.agg #[.int .i64 0, .slice none 0 0, .slice none 0 0], .slice none 0 0]

/-- A world for the witness: the settled one, the variable holding what its initialiser lays. -/
noncomputable def laidWorld (os : Os) : World :=
  { World.holding Tryd.prog os ⟨#[], #[], []⟩ with heap := (World.holding Tryd.prog os ⟨#[], #[], []⟩).heap.modify 0 fun
      | .cells _ t frozen => .cells #[.int .i64 0, .int .i64 1] t frozen
      | o => o }
theorem laid_met (os : Os) : laidMet Tryd.prog Rows.slopeChecksRow.laid ((laidWorld os).forCall (fun _ _ => 0) ⟨#[], theArgs, []⟩).memory :=
  laidMet_of_run' 8 (by kernel_rfl) (by kernel_rfl)
theorem reads (os : Os) {H : Type} (enc : TypeId × Value → H) : ∃ places, DataW.whole enc Tryd.prog ((laidWorld os).forCall (fun _ _ => 0) ⟨#[], theArgs, []⟩).memory Tryd.f11.params.toList Rows.slopeChecksSpec.vars false theArgs.toList 8 = some ([.agg [.lit (.int .i64 0), .nil, .nil], .nil], [], places) :=
  ⟨[], by kernel_rfl⟩

set_option maxRecDepth 100000 in
theorem lifted (os : Os) (started : os.Started) (H : Type) (enc : TypeId × Value → H) (F : Stop.Interp) :
    ReturnsInHanded {} Tryd.checked os 11 .any ((OpenSpec.ofChange Rows.slopeChecksSpec).preRow enc Tryd.prog Tryd.f11 Rows.slopeChecksRow.domain false Rows.slopeChecksRow.laid) (((OpenSpec.ofChange Rows.slopeChecksSpec).at F).post enc Tryd.prog Tryd.f11 false true false false) := by
  obtain ⟨places, hx⟩ := reads os enc
  refine returnsInHanded_of_row (C := Tryd.checked) (s := OpenSpec.ofChange Rows.slopeChecksSpec) own started (by kernel_rfl) Tryd.func11
    (witness_row_at (enc := enc) (C := Tryd.checked) false (laidWorld os) theArgs rfl (by kernel_rfl) (by kernel_rfl) (by kernel_rfl)
      (OpenSpec.preRow_of_cond 8 hx (by kernel_rfl) (fun k hk => by cases hk) (by kernel_rfl) (laid_met os))) ?_
  intro W base args ds gs before hval hW _ _ _ hL _ _
  exact contract H enc W base args ds gs before hval hW hL

theorem said : Rows.SlopeChecksSaid :=
  OpenClaim.holds_of_cond 11 Tryd.f11 rfl rfl rfl rfl rfl rfl rfl ⟨rfl, rfl, rfl, rfl, rfl⟩ rfl rfl rfl rfl rfl (by kernel_rfl) Tryd.func11 (by kernel_rfl)
    (of_decide_eq_true (by kernel_rfl)) (by unfold Func.isWrapper; first | (rw [if_pos (by decide +kernel)]; kernel_rfl) | (rw [if_neg (by decide +kernel)]; exact ⟨rfl, rfl⟩))
    (fun os started H enc _ F => by rw [OpenClaim.pre_eq_preRow]; exact lifted os started H enc F)

theorem plain (f : FuncId) (fn : Func) (hf : Tryd.pinned.checked.prog.funcNamed "tosher/tosherlaw03.SlopeChecks" = some f) (hfn : Tryd.pinned.checked.prog.funcs[f]? = some fn) :
    false = Tryd.pinned.checked.prog.looks [] ∧ ∀ (j : Nat) t, fn.params[j]? = some t → Tryd.pinned.checked.prog.wantsStandIn t = false := by
  obtain rfl : f = 11 := Option.some.inj ((show Tryd.prog.funcNamed "tosher/tosherlaw03.SlopeChecks" = some 11 by kernel_rfl).symm.trans hf) |>.symm
  obtain rfl : fn = Tryd.f11 := (Option.some.inj (Tryd.func11.symm.trans hfn)).symm
  refine ⟨by kernel_rfl, fun j t ht => ?_⟩
  rw [Tryd.params11] at ht
  match j, ht with
  | 0, ht => cases ht; exact (show Tryd.prog.wantsStandIn 25 = false by kernel_rfl)
  | 1, ht => cases ht; exact (show Tryd.prog.wantsStandIn 26 = false by kernel_rfl)
  | j + 2, ht => simp at ht

/-- The card of SlopeChecks. -/
theorem card : Rows.SlopeChecksCardSaid :=
  Claim7.holds_tied_plain_at .later [] _ _ _ _ said (fun _ h => by cases h) (by kernel_rfl) (fun _ h => by cases h) slopeChecks_row_tie rfl ⟨rfl, rfl⟩ (by kernel_rfl) rfl plain (by kernel_rfl)
end Go.Proofs.YtmgbbajgajmdjaaDoor.slopeChecks
