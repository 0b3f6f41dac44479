/- The table of the law is sound. -/
import Derived.Test.YtmgbbajgajmdjaaDoorTe
import Derived.Test.YtmgbbajgajmdjaaDoorTf
import Derived.Test.YtmgbbajgajmdjaaDoorOk
import Derived.Test.YtmgbbajgajmdjaaDoorAw

set_option linter.unusedSimpArgs false
set_option linter.unusedVariables false

namespace Go.AI.Sl
open Go Go.AI Go.Proofs
set_option maxRecDepth 10000

theorem readN_two {m : Mem} {cs : List V} (h : readN [] m (.ptr 0 0) 2 = some cs) : ∃ ds ro, m.get 0 = some (.cells ds ro) ∧ 2 ≤ ds.length ∧ cs = ds.take 2 := by
  simp only [readN] at h
  split at h
  · rename_i ds ro hg
    split at h
    · rename_i hb
      rw [ble_iff] at hb
      refine ⟨ds, ro, hg, by omega, ?_⟩
      simp only [Option.some.injEq] at h
      rw [← h]; unfold slice; rfl
    · cases h
  · cases h

theorem eqL_01 {cs : List V} (h : eqL [.i, .i] cs [.int .i64 0, .int .i64 1] = some true) : cs = [.int .i64 0, .int .i64 1] := by
  have one : ∀ {x : V} {b : Int} {t : Bool}, eq1 .i x (.int .i64 b) = some t → t = true → x = .int .i64 b := by
    intro x b t hx ht
    subst ht
    cases x <;> simp only [eq1] at hx <;> try (cases hx; done)
    rename_i k a
    split at hx
    · rename_i hk
      subst hk
      simp only [Option.some.injEq, beq_iff_eq] at hx
      rw [hx]
    · cases hx
  cases cs with
  | nil => simp [eqL] at h
  | cons x xs =>
    simp only [eqL] at h
    split at h
    · rename_i h1
      have e1 := one h1 rfl
      subst e1
      cases xs with
      | nil => cases h
      | cons y ys =>
        simp only [eqL] at h
        split at h
        · rename_i h2
          have e2 := one h2 rfl
          subst e2
          cases ys with
          | nil => rfl
          | cons z zs => cases h
        · split at h <;> cases h
        · cases h
    · split at h <;> cases h
    · cases h

theorem run24c {cf : CallF} {n : Nat} {ar : List V} {m m' : Mem} {v : V} (hx : exec cf n ir24c.body ⟨initA ar ir24c.vars, [], enter m⟩ (fun e s => match e with
      | .exit _ => none
      | _ => match resultV s ir24c.results with
        | some v => if V.under s.m.next v then some (settle m s.m v) else none
        | none => none) = some (v, m')) : v = .bool true ∧ m' = m ∧ ∃ ds ro, m.get 0 = some (.cells ds ro) ∧ 2 ≤ ds.length ∧ ds.take 2 = [.int .i64 0, .int .i64 1] := by
  simp only [ir24c, exec, execOps, wantedG, pureOp, ev, initA] at hx
  cases hr : readN [] (enter m) (.ptr 0 0) 2 with
  | none => simp only [hr] at hx; simp at hx
  | some cs =>
    obtain ⟨ds, ro, h1, h2, rfl⟩ := readN_two hr
    simp only [hr] at hx
    simp only [Option.map_some, List.getD_cons_zero, eqV] at hx
    cases he : eqL [.i, .i] (ds.take 2) [.int .i64 0, .int .i64 1] with
    | none => simp [he] at hx
    | some b =>
      cases b with
      | false => simp [he, applyUpd, ev, V.noLp] at hx
      | true =>
        have e := eqL_01 he
        simp only [he] at hx
        simp [applyUpd, ev, V.noLp, resultV_var, V.under, settle_same m (.bool true) rfl] at hx
        exact ⟨hx.1.symm, hx.2.symm, ds, ro, h1, h2, e⟩
end Go.AI.Sl

namespace Go.AI.Sl
open Go Go.AI Go.Proofs
set_option maxRecDepth 10000
theorem find_mem {f : Nat} {F : IFun} : ∀ {l : List (Nat × IFun)}, find f l = some F → (f, F) ∈ l
  | [], h => by cases h
  | (g, G) :: r, h => by
    simp only [find] at h
    split at h
    · rename_i hb
      rw [Nat.beq_eq] at hb
      subst hb
      cases h
      exact List.mem_cons_self
    · exact List.mem_cons_of_mem _ (find_mem h)
theorem real_all : ∀ p ∈ tabL, ∃ fn c E, Tryd.prog.funcs[p.1]? = some fn ∧ fn.body = some c ∧ compF Tryd.prog E fn = some p.2 := by
  refine List.forall_mem_cons.2 ⟨⟨_, _, _, Tryd.func3, rfl, ok3⟩, ?_⟩
  refine List.forall_mem_cons.2 ⟨⟨_, _, _, Tryd.func4, rfl, ok4⟩, ?_⟩
  refine List.forall_mem_cons.2 ⟨⟨_, _, _, Tryd.func5, rfl, ok5⟩, ?_⟩
  refine List.forall_mem_cons.2 ⟨⟨_, _, _, Tryd.func6, rfl, ok6⟩, ?_⟩
  refine List.forall_mem_cons.2 ⟨⟨_, _, _, Tryd.func7, rfl, ok7⟩, ?_⟩
  refine List.forall_mem_cons.2 ⟨⟨_, _, _, Tryd.func8, rfl, ok8⟩, ?_⟩
  refine List.forall_mem_cons.2 ⟨⟨_, _, _, Tryd.func9, rfl, ok9⟩, ?_⟩
  refine List.forall_mem_cons.2 ⟨⟨_, _, _, Tryd.func10, rfl, ok10⟩, ?_⟩
  refine List.forall_mem_cons.2 ⟨⟨_, _, _, Tryd.func11, rfl, ok11⟩, ?_⟩
  refine List.forall_mem_cons.2 ⟨⟨_, _, _, Tryd.func12, rfl, ok12⟩, ?_⟩
  refine List.forall_mem_cons.2 ⟨⟨_, _, _, Tryd.func13, rfl, ok13⟩, ?_⟩
  refine List.forall_mem_cons.2 ⟨⟨_, _, _, Tryd.func14, rfl, ok14⟩, ?_⟩
  refine List.forall_mem_cons.2 ⟨⟨_, _, _, Tryd.func15, rfl, ok15⟩, ?_⟩
  refine List.forall_mem_cons.2 ⟨⟨_, _, _, Tryd.func16, rfl, ok16⟩, ?_⟩
  refine List.forall_mem_cons.2 ⟨⟨_, _, _, Tryd.func17, rfl, ok17⟩, ?_⟩
  refine List.forall_mem_cons.2 ⟨⟨_, _, _, Tryd.func18, rfl, ok18⟩, ?_⟩
  refine List.forall_mem_cons.2 ⟨⟨_, _, _, Tryd.func19, rfl, ok19⟩, ?_⟩
  refine List.forall_mem_cons.2 ⟨⟨_, _, _, Tryd.func20, rfl, ok20⟩, ?_⟩
  refine List.forall_mem_cons.2 ⟨⟨_, _, _, Tryd.func21, rfl, ok21⟩, ?_⟩
  refine List.forall_mem_cons.2 ⟨⟨_, _, _, Tryd.func22, rfl, ok22⟩, ?_⟩
  refine List.forall_mem_cons.2 ⟨⟨_, _, _, Tryd.func23, rfl, ok23⟩, ?_⟩
  refine List.forall_mem_cons.2 ⟨⟨_, _, _, Tryd.func24, rfl, ok24⟩, ?_⟩
  refine List.forall_mem_cons.2 ⟨⟨_, _, _, Tryd.func25, rfl, ok25⟩, ?_⟩
  refine List.forall_mem_cons.2 ⟨⟨_, _, _, Tryd.func26, rfl, ok26⟩, ?_⟩
  refine List.forall_mem_cons.2 ⟨⟨_, _, _, Tryd.func27, rfl, ok27⟩, ?_⟩
  refine List.forall_mem_cons.2 ⟨⟨_, _, _, Tryd.func28, rfl, ok28⟩, ?_⟩
  refine List.forall_mem_cons.2 ⟨⟨_, _, _, Tryd.func29, rfl, ok29⟩, ?_⟩
  refine List.forall_mem_cons.2 ⟨⟨_, _, _, Tryd.func30, rfl, ok30⟩, ?_⟩
  refine List.forall_mem_cons.2 ⟨⟨_, _, _, Tryd.func31, rfl, ok31⟩, ?_⟩
  refine List.forall_mem_cons.2 ⟨⟨_, _, _, Tryd.func32, rfl, ok32⟩, ?_⟩
  refine List.forall_mem_cons.2 ⟨⟨_, _, _, Tryd.func33, rfl, ok33⟩, ?_⟩
  refine List.forall_mem_cons.2 ⟨⟨_, _, _, Tryd.func34, rfl, ok34⟩, ?_⟩
  refine List.forall_mem_cons.2 ⟨⟨_, _, _, Tryd.func35, rfl, ok35⟩, ?_⟩
  refine List.forall_mem_cons.2 ⟨⟨_, _, _, Tryd.func36, rfl, ok36⟩, ?_⟩
  refine List.forall_mem_cons.2 ⟨⟨_, _, _, Tryd.func37, rfl, ok37⟩, ?_⟩
  refine List.forall_mem_cons.2 ⟨⟨_, _, _, Tryd.func38, rfl, ok38⟩, ?_⟩
  refine List.forall_mem_cons.2 ⟨⟨_, _, _, Tryd.func39, rfl, ok39⟩, ?_⟩
  refine List.forall_mem_cons.2 ⟨⟨_, _, _, Tryd.func40, rfl, ok40⟩, ?_⟩
  refine List.forall_mem_cons.2 ⟨⟨_, _, _, Tryd.func41, rfl, ok41⟩, ?_⟩
  refine List.forall_mem_cons.2 ⟨⟨_, _, _, Tryd.func42, rfl, ok42⟩, ?_⟩
  refine List.forall_mem_cons.2 ⟨⟨_, _, _, Tryd.func43, rfl, ok43⟩, ?_⟩
  refine List.forall_mem_cons.2 ⟨⟨_, _, _, Tryd.func44, rfl, ok44⟩, ?_⟩
  refine List.forall_mem_cons.2 ⟨⟨_, _, _, Tryd.func45, rfl, ok45⟩, ?_⟩
  refine List.forall_mem_cons.2 ⟨⟨_, _, _, Tryd.func46, rfl, ok46⟩, ?_⟩
  refine List.forall_mem_cons.2 ⟨⟨_, _, _, Tryd.func47, rfl, ok47⟩, ?_⟩
  refine List.forall_mem_cons.2 ⟨⟨_, _, _, Tryd.func48, rfl, ok48⟩, ?_⟩
  refine List.forall_mem_cons.2 ⟨⟨_, _, _, Tryd.func49, rfl, ok49⟩, ?_⟩
  refine List.forall_mem_cons.2 ⟨⟨_, _, _, Tryd.func50, rfl, ok50⟩, ?_⟩
  refine List.forall_mem_cons.2 ⟨⟨_, _, _, Tryd.func51, rfl, ok51⟩, ?_⟩
  refine List.forall_mem_cons.2 ⟨⟨_, _, _, Tryd.func52, rfl, ok52⟩, ?_⟩
  refine List.forall_mem_cons.2 ⟨⟨_, _, _, Tryd.func53, rfl, ok53⟩, ?_⟩
  refine List.forall_mem_cons.2 ⟨⟨_, _, _, Tryd.func54, rfl, ok54⟩, ?_⟩
  refine List.forall_mem_cons.2 ⟨⟨_, _, _, Tryd.func55, rfl, ok55⟩, ?_⟩
  refine List.forall_mem_cons.2 ⟨⟨_, _, _, Tryd.func56, rfl, ok56⟩, ?_⟩
  refine List.forall_mem_cons.2 ⟨⟨_, _, _, Tryd.func57, rfl, ok57⟩, ?_⟩
  refine List.forall_mem_cons.2 ⟨⟨_, _, _, Tryd.func58, rfl, ok58⟩, ?_⟩
  refine List.forall_mem_cons.2 ⟨⟨_, _, _, Tryd.func59, rfl, ok59⟩, ?_⟩
  refine List.forall_mem_cons.2 ⟨⟨_, _, _, Tryd.func60, rfl, ok60⟩, ?_⟩
  refine List.forall_mem_cons.2 ⟨⟨_, _, _, Tryd.func61, rfl, ok61⟩, ?_⟩
  refine List.forall_mem_cons.2 ⟨⟨_, _, _, Tryd.func62, rfl, ok62⟩, ?_⟩
  refine List.forall_mem_cons.2 ⟨⟨_, _, _, Tryd.func63, rfl, ok63⟩, ?_⟩
  refine List.forall_mem_cons.2 ⟨⟨_, _, _, Tryd.func64, rfl, ok64⟩, ?_⟩
  refine List.forall_mem_cons.2 ⟨⟨_, _, _, Tryd.func65, rfl, ok65⟩, ?_⟩
  refine List.forall_mem_cons.2 ⟨⟨_, _, _, Tryd.func66, rfl, ok66⟩, ?_⟩
  refine List.forall_mem_cons.2 ⟨⟨_, _, _, Tryd.func67, rfl, ok67⟩, ?_⟩
  refine List.forall_mem_cons.2 ⟨⟨_, _, _, Tryd.func68, rfl, ok68⟩, ?_⟩
  refine List.forall_mem_cons.2 ⟨⟨_, _, _, Tryd.func69, rfl, ok69⟩, ?_⟩
  refine List.forall_mem_cons.2 ⟨⟨_, _, _, Tryd.func70, rfl, ok70⟩, ?_⟩
  refine List.forall_mem_cons.2 ⟨⟨_, _, _, Tryd.func71, rfl, ok71⟩, ?_⟩
  refine List.forall_mem_cons.2 ⟨⟨_, _, _, Tryd.func72, rfl, ok72⟩, ?_⟩
  refine List.forall_mem_cons.2 ⟨⟨_, _, _, Tryd.func73, rfl, ok73⟩, ?_⟩
  refine List.forall_mem_cons.2 ⟨⟨_, _, _, Tryd.func74, rfl, ok74⟩, ?_⟩
  refine List.forall_mem_cons.2 ⟨⟨_, _, _, Tryd.func75, rfl, ok75⟩, ?_⟩
  refine List.forall_mem_cons.2 ⟨⟨_, _, _, Tryd.func76, rfl, ok76⟩, ?_⟩
  refine List.forall_mem_cons.2 ⟨⟨_, _, _, Tryd.func77, rfl, ok77⟩, ?_⟩
  refine List.forall_mem_cons.2 ⟨⟨_, _, _, Tryd.func78, rfl, ok78⟩, ?_⟩
  refine List.forall_mem_cons.2 ⟨⟨_, _, _, Tryd.func79, rfl, ok79⟩, ?_⟩
  refine List.forall_mem_cons.2 ⟨⟨_, _, _, Tryd.func80, rfl, ok80⟩, ?_⟩
  refine List.forall_mem_cons.2 ⟨⟨_, _, _, Tryd.func81, rfl, ok81⟩, ?_⟩
  refine List.forall_mem_cons.2 ⟨⟨_, _, _, Tryd.func82, rfl, ok82⟩, ?_⟩
  refine List.forall_mem_cons.2 ⟨⟨_, _, _, Tryd.func83, rfl, ok83⟩, ?_⟩
  refine List.forall_mem_cons.2 ⟨⟨_, _, _, Tryd.func84, rfl, ok84⟩, ?_⟩
  refine List.forall_mem_cons.2 ⟨⟨_, _, _, Tryd.func85, rfl, ok85⟩, ?_⟩
  refine List.forall_mem_cons.2 ⟨⟨_, _, _, Tryd.func86, rfl, ok86⟩, ?_⟩
  refine List.forall_mem_cons.2 ⟨⟨_, _, _, Tryd.func87, rfl, ok87⟩, ?_⟩
  refine List.forall_mem_cons.2 ⟨⟨_, _, _, Tryd.func88, rfl, ok88⟩, ?_⟩
  refine List.forall_mem_cons.2 ⟨⟨_, _, _, Tryd.func89, rfl, ok89⟩, ?_⟩
  refine List.forall_mem_cons.2 ⟨⟨_, _, _, Tryd.func90, rfl, ok90⟩, ?_⟩
  refine List.forall_mem_cons.2 ⟨⟨_, _, _, Tryd.func91, rfl, ok91⟩, ?_⟩
  refine List.forall_mem_cons.2 ⟨⟨_, _, _, Tryd.func92, rfl, ok92⟩, ?_⟩
  refine List.forall_mem_cons.2 ⟨⟨_, _, _, Tryd.func93, rfl, ok93⟩, ?_⟩
  refine List.forall_mem_cons.2 ⟨⟨_, _, _, Tryd.func94, rfl, ok94⟩, ?_⟩
  refine List.forall_mem_cons.2 ⟨⟨_, _, _, Tryd.func95, rfl, ok95⟩, ?_⟩
  refine List.forall_mem_cons.2 ⟨⟨_, _, _, Tryd.func96, rfl, ok96⟩, ?_⟩
  refine List.forall_mem_cons.2 ⟨⟨_, _, _, Tryd.func97, rfl, ok97⟩, ?_⟩
  refine List.forall_mem_cons.2 ⟨⟨_, _, _, Tryd.func98, rfl, ok98⟩, ?_⟩
  refine List.forall_mem_cons.2 ⟨⟨_, _, _, Tryd.func99, rfl, ok99⟩, ?_⟩
  refine List.forall_mem_cons.2 ⟨⟨_, _, _, Tryd.func100, rfl, ok100⟩, ?_⟩
  refine List.forall_mem_cons.2 ⟨⟨_, _, _, Tryd.func101, rfl, ok101⟩, ?_⟩
  refine List.forall_mem_cons.2 ⟨⟨_, _, _, Tryd.func117, rfl, ok117⟩, ?_⟩
  refine List.forall_mem_cons.2 ⟨⟨_, _, _, Tryd.func122, rfl, ok122⟩, ?_⟩
  intro p hp; cases hp
theorem real_ok : TabOK Tryd.prog tabR := fun g F h => real_all (g, F) (find_mem h)
theorem globals1 : Tryd.prog.globals.size = 1 := by kernel_rfl
theorem mixed : Tryd.prog.follows .mixedOrders = true := by kernel_rfl

theorem awake_fun (cf : CallF) (n : Nat) : FunOK Tryd.prog cf n 24 ir24c := by
  intro ar m m' v hle hx ι β L w hw cas has
  obtain ⟨rfl, rfl, ds, ro, h1, h2, h3⟩ := run24c hx
  obtain ⟨b, hb, hob⟩ := hw.obj 0 _ h1
  have hlen : 0 < ι.length := (List.getElem?_eq_some_iff.1 hb).1
  have ht : (ι.take 1)[0]? = some b := by rw [List.getElem?_take_of_lt (by omega)]; exact hb
  have d0 : ds[0]? = some (.int .i64 0) := by have : (ds.take 2)[0]? = some (V.int .i64 0) := by rw [h3]; rfl
                                              rwa [List.getElem?_take_of_lt (by omega)] at this
  have d1 : ds[1]? = some (.int .i64 1) := by have : (ds.take 2)[1]? = some (V.int .i64 1) := by rw [h3]; rfl
                                              rwa [List.getElem?_take_of_lt (by omega)] at this
  have hcell : w.cell? ⟨b.block, b.base + 0, none⟩ = some (.int .i64 0) ∧ w.cell? ⟨b.block, b.base + 1, none⟩ = some (.int .i64 1) := by
    cases ro with
    | true =>
      obtain ⟨xs, g1, g2⟩ := hob
      obtain ⟨c0, e0, f0⟩ := concL_get g1 d0
      obtain ⟨c1, e1, f1⟩ := concL_get g1 d1
      simp only [conc, Option.some.injEq] at f0 f1
      subst f0; subst f1
      exact ⟨g2 0 _ e0, g2 1 _ e1⟩
    | false =>
      obtain ⟨xs, arr, t, g1, g2, _, _, g3⟩ := hob
      obtain ⟨c0, e0, f0⟩ := concL_get g1 d0
      obtain ⟨c1, e1, f1⟩ := concL_get g1 d1
      simp only [conc, Option.some.injEq] at f0 f1
      subst f0; subst f1
      simp only [World.cell?, g2]
      exact ⟨g3 0 _ e0, g3 1 _ e1⟩
  have hno : ∀ k r, ¬ owns (ι.take 1) β [] m0 k r := by
    intro k r hk
    cases k with
    | ob o =>
      obtain ⟨x, _, hx, hrw, _⟩ := hk
      have : x = .cells [.int .i64 0, .int .i64 1] true := by
        have hlt := Mem.get_lt hx
        have : o = 0 := by have : o < 1 := hlt; omega
        subst this
        exact (Option.some.inj hx).symm
      subst this
      cases hrw
    | bx s => exact hk.1 (by cases s <;> rfl)
  have hw0 : WR Tryd.prog (ι.take 1) β [] m0 w := by
    refine { obj := fun o x hx => ?_, box := fun s hs => absurd (by cases s <;> rfl) hs, len := ?_, glob := fun g hg => ?_, inj := fun k _ r hk => absurd hk (hno k r), ro := fun o cs r k _ _ _ => hno k _ }
    · have hlt := Mem.get_lt hx
      have : o = 0 := by have : o < 1 := hlt; omega
      subst this
      cases (show some (Ob.cells [.int .i64 0, .int .i64 1] true) = some x from hx)
      refine ⟨b, ht, [.int .i64 0, .int .i64 1], by simp [concL, conc], fun i u hu => ?_⟩
      match i, hu with
      | 0, hu => cases hu; exact hcell.1
      | 1, hu => cases hu; exact hcell.2
      | i + 2, hu => cases hu
    · rw [List.length_take]; show min 1 ι.length = 1; omega
    · rw [globals1] at hg
      have : g = 0 := by omega
      subst this
      obtain ⟨b', q1, q2, q3⟩ := hw.glob 0 (by rw [globals1]; omega)
      exact ⟨b', by rw [List.getElem?_take_of_lt (by omega)]; exact q1, q2, q3⟩
  have hcall : CallOK Tryd.prog (call tabR 200 60) := call_sound real_ok mixed 200 60
  obtain ⟨r1, r2⟩ := func_sound (g := 24) (F := ir24) («as» := List.replicate 15 .dead) (m := m0) (m' := m0) (v := .bool true) (cas := cas) hcall (fun _ _ _ _ hc => draw_sound hcall mixed hc) (real_ok 24 ir24 rfl) (Nat.le_refl 1) awake_run hw0 (fun t ht => by
    left
    have h15 : ∀ t ∈ ir24.vars, t < 15 := by decide
    have := h15 t ht
    rw [List.getD_eq_getElem?_getD, List.getElem?_replicate, if_pos this]; rfl)
  exact ⟨r1, fun nn => (r2 nn).mono fun e w' he => CallR.widen hw hno (fun _ _ => rfl) he⟩

theorem tab_sound (n d : Nat) : CallOK Tryd.prog (call tab n d) := call_sound' mixed n (fun g F h => by
  unfold tab at h
  split at h
  · rename_i hb
    rw [Nat.beq_eq] at hb
    subst hb
    cases h
    exact .inr fun cf => awake_fun cf n
  · exact .inl (real_ok g F h)) d
end Go.AI.Sl
