/-
  A part of the proof: what a run of the translated code computes, over values and objects of its own, and that the run of the model does the same. Conditions: those of each theorem.
-/
import Derived.Test.YtcligehgdmcblaaGreatDoorKA
import Derived.Laws.Runes
set_option linter.unusedSimpArgs false
set_option linter.unusedVariables false
namespace Det
open Go

section
variable {P : Program} {T : PT TypeInfo} {E : List Nat} {GC : GT} {B0 : Nat} {g : Gh} {hp hp' : PT HO} {c c' : Nat} {w : World} {tm : PT AV} {a : Act}
variable {o : Oper} {d : DOp} {l : List Opd} {vs : List AV} {v : AV} {fz : Bool}

theorem CV.get {cs : List AV} {xs : Array Value} (h : CV g w cs xs) : ∀ k x, cs[k]? = some x → VR g w x (xs.getD k undef) := h.2

theorem sim_alloc {t : TypeId} {z : List AV} (hL : Link P T E) (hz : zcells T t = some z) (ho : o.op = .alloc t)
    (hW : WR GC B0 g hp c w) (hr : oAlloc z [] hp c = some (v, hp', c')) : Sim P GC B0 g w a o hp' c' v := by
  obtain ⟨rfl, rfl, rfl⟩ := ok_inv hr
  obtain ⟨zv, z1, z2⟩ := zcells_run (P := P) hL hz g w
  have hm : More w { w with heap := w.heap.push (.cells zv.cells t) } (.cells zv.cells t) := ⟨rfl, rfl, rfl⟩
  obtain ⟨g', L, e1, e2, e3, e4⟩ := newCells hW hm (fun k hk => by simp) (Nat.le_of_eq z2.1) z2.2
  refine ⟨_, .pointer (some ⟨w.heap.size, 0, none⟩), _, g', ?_, .inl rfl, e1, e2, ?_⟩
  · simp only [execOp, ho, Instr.alloc, newVar, newRow, Sem.run_bind, z1, Result.andThen_ok, run_newObj, Sem.run_pure]
  · have := VR.ptr (g := g') (w := { w with heap := w.heap.push (.cells zv.cells t) }) c 0 L e3
    subst e4; exact this

theorem sim_box {t : TypeId} {x : Operand} (ho : o.op = .box t x) (hc : c1 GC .box x = some (d, l)) (hv : opvs tm l = some vs)
    (hW : WR GC B0 g hp c w) (hT : TM g w tm a) (hr : opRun d vs hp c = some (v, hp', c')) : Sim P GC B0 g w a o hp' c' v := by
  obtain ⟨rfl, u, rfl, hu⟩ := c1_inv hc hv hW hT
  obtain ⟨rfl, rfl, rfl⟩ := ok_inv (show ok (.ptr c 0) (hp.set c (.cells u.cells)) (c + 1) = _ from hr)
  have hcs := hu.cells
  have hm : More w { w with heap := w.heap.push (.cells (a.eval x).cells t) } (.cells (a.eval x).cells t) := ⟨rfl, rfl, rfl⟩
  obtain ⟨g', L, e1, e2, e3, e4⟩ := newCells hW hm (fun k hk => by simp) (Nat.le_of_eq hcs.1) hcs.2
  refine ⟨_, .pointer (some ⟨w.heap.size, 0, none⟩), _, g', ?_, .inl rfl, e1, e2, ?_⟩
  · simp only [execOp, ho, Instr.box, newVar, newRow, Sem.run_bind, Result.andThen_ok, run_newObj, Sem.run_pure]
  · have := VR.ptr (g := g') (w := { w with heap := w.heap.push (.cells (a.eval x).cells t) }) c 0 L e3
    subst e4; exact this

-- ------------------------------------------------------------------ elements out of cells

theorem takeS_eq : ∀ (n : Nat) (cs r : List AV), takeS n cs = some r → r.length = n ∧ r = cs.take n ∧ (∀ x, x ∈ r → shp x = none)
  | 0, cs, r, h => by simp only [takeS, Option.some.injEq] at h; subst h; exact ⟨rfl, by simp, fun x h => by cases h⟩
  | n + 1, [], r, h => by simp [takeS] at h
  | n + 1, x :: cs, r, h => by
    simp only [takeS] at h
    cases h1 : shp x with
    | some _ => rw [h1] at h; cases h
    | none =>
      cases h2 : takeS n cs with
      | none => rw [h1, h2] at h; cases h
      | some q =>
        rw [h1, h2] at h; simp only [Option.some.injEq] at h; subst h
        obtain ⟨e1, e2, e3⟩ := takeS_eq n cs q h2
        refine ⟨by simp [e1], by rw [e2]; rfl, fun y hy => ?_⟩
        rcases List.mem_cons.1 hy with rfl | hy
        · exact h1
        · exact e3 y hy

theorem flat_plain : ∀ (l : List AV), (∀ x, x ∈ l → shp x = none) → flat l = l
  | [], _ => rfl
  | x :: l, h => by
    have h1 := h x (List.mem_cons_self ..)
    have : x.cells = [x] := by cases x <;> first | rfl | cases h1
    simp only [flat, this, flat_plain l (fun y hy => h y (List.mem_cons_of_mem _ hy)), List.singleton_append]

theorem chunk_eq {k : Option Nat} : ∀ (n : Nat) (cs xs : List AV), chunk k n cs = some xs →
    xs.length = n ∧ (∀ x, x ∈ xs → shp x = k) ∧ n * ksz k ≤ cs.length ∧ flat xs = cs.take (n * ksz k) := by
  cases k with
  | none =>
    intro n cs xs h
    have h' : takeS n cs = some xs := by cases n <;> exact h
    obtain ⟨e1, e2, e3⟩ := takeS_eq n cs xs h'
    refine ⟨e1, e3, ?_, ?_⟩
    · simp only [ksz, Nat.mul_one]; rw [← e1, e2, List.length_take]; omega
    · rw [flat_plain xs e3, e2]; simp [ksz]
  | some k =>
    intro n
    induction n with
    | zero => intro cs xs h; simp only [chunk, Option.some.injEq] at h; subst h; simp [flat]
    | succ n ih =>
      intro cs xs h
      simp only [chunk] at h
      cases h1 : takeN k cs with
      | none => rw [h1] at h; cases h
      | some q =>
        cases h2 : chunk (some k) n (dropN k cs) with
        | none => rw [h1, h2] at h; cases h
        | some r =>
          rw [h1, h2] at h; simp only [Option.some.injEq] at h; subst h
          obtain ⟨e1, e2⟩ := takeN_eq _ _ _ h1
          obtain ⟨f1, f2, f3, f4⟩ := ih _ _ h2
          rw [dropN_eq] at f3 f4
          simp only [ksz] at f3 f4 ⊢
          rw [List.length_drop] at f3
          have hq : q.length = k := by rw [e2, List.length_take]; omega
          refine ⟨by simp [f1], fun x hx => ?_, by rw [Nat.succ_mul]; omega, ?_⟩
          · rcases List.mem_cons.1 hx with rfl | hx
            · simp [shp, hq]
            · exact f2 x hx
          · simp only [flat, AV.cells, f4]
            rw [e2, Nat.succ_mul, Nat.add_comm, List.take_add]

theorem rep_len : ∀ (n : Nat) (z : List AV), (rep n z).length = n * z.length
  | 0, z => by simp [rep]
  | n + 1, z => by simp [rep, rep_len n z, Nat.succ_mul, Nat.add_comm]
theorem rep_get : ∀ (n : Nat) (z : List AV) (k : Nat), k < n * z.length → (rep n z)[k]? = z[k % z.length]?
  | 0, z, k, h => by simp at h
  | n + 1, z, k, h => by
    rw [Nat.succ_mul] at h
    simp only [rep]
    by_cases hk : k < z.length
    · rw [List.getElem?_append_left hk, Nat.mod_eq_of_lt hk]
    · rw [List.getElem?_append_right (by omega), rep_get n z _ (by omega)]
      rw [Nat.mod_eq_sub_mod (a := k) (by omega)]

/-- zeros, so many -/
theorem rep_CV {z : List AV} {zs : Array Value} (h : CV g w z zs) (n s : Nat) (hs : z.length = s) (hpos : 0 < s) :
    CV g w (rep n z) ((Array.range (n * s)).map (zs[· % zs.size]!)) := by
  refine ⟨by simp [rep_len, hs], fun k x e => ?_⟩
  have hk : k < n * s := by have := (List.getElem?_eq_some_iff.1 e).1; rw [rep_len, hs] at this; exact this
  rw [rep_get n z k (by rw [hs]; exact hk)] at e
  have hsz : zs.size = s := by rw [← h.1, hs]
  have := h.2 _ _ e
  have e2 : ((Array.range (n * s)).map (zs[· % zs.size]!)).getD k undef = zs.getD (k % z.length) undef := by
    have hm : k % s < zs.size := by rw [hsz]; exact Nat.mod_lt _ hpos
    simp only [Array.getD_eq_getD_getElem?, Array.getElem?_map, Array.getElem?_range, if_pos hk, Option.map_some, Option.getD_some, hs]
    rw [hsz, Array.getElem?_eq_getElem hm, Option.getD_some, getElem!_pos zs _ hm]
  rw [e2]; exact this

theorem zip2_false (s : Nat) : ∀ (is : List Nat) (vs : List AV) (q : List (Nat × Nat × AV)) (hq : PT HO), zip2 false s hp is vs = some (q, hq) →
    hq = hp ∧ zip3 (is.map fun i => (i * s, s)) vs = some q
  | [], [], q, hq, h => by simp only [zip2, Option.some.injEq, Prod.mk.injEq] at h; obtain ⟨rfl, rfl⟩ := h; exact ⟨rfl, rfl⟩
  | i :: is, v :: vs, q, hq, h => by
    simp only [zip2, cond_false] at h
    cases h1 : zip2 false s hp is vs with
    | none => rw [h1] at h; cases h
    | some r =>
      obtain ⟨r1, r2⟩ := r
      rw [h1] at h; simp only [Option.some.injEq, Prod.mk.injEq] at h
      obtain ⟨rfl, rfl⟩ := h
      obtain ⟨e1, e2⟩ := zip2_false s is vs r1 r2 h1
      exact ⟨e1, by simp [zip3, e2]⟩
  | [], _ :: _, q, hq, h => by simp [zip2] at h
  | _ :: _, [], q, hq, h => by simp [zip2] at h

/-- a slice literal, once its parts are what they are -/
theorem sliceLit {t e : TypeId} {k : Option Nat} {z : List AV} {len : Nat} {ps : Array (Nat × Operand)} {q : List (Nat × Nat × AV)} {cs' xs : List AV} (hL : Link P T E) (hu : under T t = .slice e)
    (hk : kindOf T e = some k) (hz : zcells T e = some z) (hsm : len * ksz k ≤ 16777216) (hzl : z.length = ksz k) (ho : o.op = .buildSlice t len ps)
    (hW : WR GC B0 g hp c w) (hpr : PR g w (fun i => some (i * ksz k, ksz k)) q ((ps.map fun (i, x) => (i, a.eval x)).toList))
    (hf : fill (rep len z) q = some cs') (hch : chunk k len cs' = some xs) : Sim P GC B0 g w a o hp c (.sl xs true) := by
  have hun := hL.under hu (by simp)
  obtain ⟨_, hpos, _, _, hsz⟩ := hL.kind hk w
  obtain ⟨zv, z1, z2⟩ := zcells_run (P := P) hL hz g w
  obtain ⟨ys, e1, e2⟩ := fill_run q _ (rep len z) _ cs' hpr (rep_CV z2 len (ksz k) hzl hpos) hf
  obtain ⟨c1, c2, c3, c4⟩ := chunk_eq len cs' xs hch
  have hm : More w { w with heap := w.heap.push (.cells ys e) } (.cells ys e) := ⟨rfl, rfl, rfl⟩
  have hcell : ∀ j, cellAt { w with heap := w.heap.push (.cells ys e) } w.heap.size j = ys[j]? := fun j => by simp only [cellAt, World.cell?, hm.new]; rfl
  refine ⟨_, .slice (some ⟨w.heap.size, 0, none⟩) len len, _, g.ro w.heap.size, ?_, .inl rfl, hm.ext_ro hW, hm.roWR hW, ?_⟩
  · have hn : ¬ len * ksz k > 2 ^ 24 := by omega
    simp only [execOp, ho, Instr.buildSlice, Sem.run_bind, run_underlying hun, Result.andThen_ok, hsz, hn, if_false]
    by_cases h0 : len * ksz k = 0
    · have e0 : ((Array.range (len * ksz k)).map (fun i => (#[] : Array Value)[i % (#[] : Array Value).size]!)) = ((Array.range (len * ksz k)).map (zv.cells[· % zv.cells.size]!)) := by
        rw [h0]; simp
      rw [if_pos h0]
      simp only [Sem.run_pure, Result.andThen_ok, Sem.run_bind]
      rw [e0, e1]
      simp only [newRow, Sem.run_bind, run_newObj, Result.andThen_ok, Sem.run_pure]
    · rw [if_neg h0]
      simp only [Sem.run_pure, Result.andThen_ok, Sem.run_bind, z1]
      rw [e1]
      simp only [newRow, Sem.run_bind, run_newObj, Result.andThen_ok, Sem.run_pure]
  · have hget : ∀ j x, (flat xs)[j]? = some x → cs'[j]? = some x := fun j x e => by
      rw [c4, List.getElem?_take] at e
      split at e
      · exact e
      · cases e
    refine .sl xs true w.heap.size 0 len len (fun j => ys.getD j undef) k c1.symm c2 (fun _ => rfl) (Nat.le_refl _) (fun j x e => ?_) (fun j x e => (e2.2 j x (hget j x e)).mono (hm.ext_ro hW).sub)
    have hj : j < ys.size := by have := (List.getElem?_eq_some_iff.1 (hget j x e)).1; rw [e2.1] at this; exact this
    refine ⟨by simp [Gh.ro], ?_⟩
    rw [Nat.zero_add, hcell, Array.getD_eq_getD_getElem?, Array.getElem?_eq_getElem hj]; rfl

theorem lits_inv {t : TypeId} {len : Nat} {ps : Array (Nat × Operand)} (hc : compOp GC T E fz (.buildSlice t len ps) = some (d, l)) :
    ∃ e k z, under T t = .slice e ∧ kindOf T e = some k ∧ zcells T e = some z ∧ len * ksz k ≤ 16777216 ∧ z.length = ksz k ∧
      cs GC (.buildSlice k z len (ps.toList.map (·.1)) fz) (ps.toList.map (·.2)) = some (d, l) := by
  simp only [compOp] at hc
  unfold elemOf at hc
  cases hu : under T t with
  | slice e =>
    rw [hu] at hc; simp only at hc
    cases hk : kindOf T e with
    | none => rw [hk] at hc; cases hc
    | some k =>
      cases hz : zcells T e with
      | none => rw [hk, hz] at hc; cases hc
      | some z =>
        rw [hk, hz] at hc; simp only at hc
        cases hb : Nat.ble (len * ksz k) 16777216 && Nat.beq z.length (ksz k) with
        | false => rw [hb] at hc; cases hc
        | true =>
          rw [hb] at hc; simp only [cond_true] at hc
          simp only [Bool.and_eq_true] at hb
          exact ⟨e, k, z, rfl, hk, hz, Nat.le_of_ble_eq_true hb.1, Nat.eq_of_beq_eq_true hb.2, hc⟩
  | _ => rw [hu] at hc; cases hc

theorem sim_buildSlice {t : TypeId} {len : Nat} {ps : Array (Nat × Operand)} (hL : Link P T E) (ho : o.op = .buildSlice t len ps)
    (hc : compOp GC T E false (.buildSlice t len ps) = some (d, l)) (hv : opvs tm l = some vs)
    (hW : WR GC B0 g hp c w) (hT : TM g w tm a) (hr : opRun d vs hp c = some (v, hp', c')) : hp' = hp ∧ c' = c ∧ Sim P GC B0 g w a o hp' c' v := by
  obtain ⟨e, k, z, hu, hk, hz, hsm, hzl, hc⟩ := lits_inv hc
  obtain ⟨rfl, hvs⟩ := cs_inv hc hv hW hT
  have hr' : (match zip2 false (ksz k) hp (ps.toList.map (·.1)) vs with
    | some (l, hp) => (match fill (rep len z) l with
      | some cs => (match chunk k len cs with | some xs => ok (.sl xs true) hp c | none => none)
      | none => none)
    | none => none) = some (v, hp', c') := hr
  cases h2 : zip2 false (ksz k) hp (ps.toList.map (·.1)) vs with
  | none => rw [h2] at hr'; cases hr'
  | some q =>
    obtain ⟨q, hq⟩ := q
    rw [h2] at hr'; simp only at hr'
    cases h3 : fill (rep len z) q with
    | none => rw [h3] at hr'; cases hr'
    | some cs' =>
      rw [h3] at hr'; simp only at hr'
      cases h4 : chunk k len cs' with
      | none => rw [h4] at hr'; cases hr'
      | some xs =>
        rw [h4] at hr'
        obtain ⟨rfl, rfl, rfl⟩ := ok_inv hr'
        obtain ⟨e1, e2⟩ := zip2_false (ksz k) _ _ _ _ h2
        subst e1
        refine ⟨rfl, rfl, sliceLit hL hu hk hz hsm hzl ho hW ?_ h3 h4⟩
        rw [parts_eq]
        exact zip3_PR _ _ _ _ _ e2 (by simp) hvs

theorem sim_makeSlice {t e : TypeId} {k : Option Nat} {z : List AV} {x y : Operand} (hL : Link P T E) (hu : under T t = .slice e) (hk : kindOf T e = some k) (hz : zcells T e = some z)
    (hb : smallB T e = true) (hzl : z.length = ksz k) (ho : o.op = .makeSlice t x y) (hc : c2 GC (.makeSlice k z) x y = some (d, l)) (hv : opvs tm l = some vs)
    (hW : WR GC B0 g hp c w) (hT : TM g w tm a) (hr : opRun d vs hp c = some (v, hp', c')) : Sim P GC B0 g w a o hp' c' v := by
  obtain ⟨rfl, p, q, rfl, hp1, hq1⟩ := c2_inv hc hv hW hT
  have hun := hL.under hu (by simp)
  obtain ⟨_, hpos, _, _, hsz⟩ := hL.kind hk w
  obtain ⟨zv, z1, z2⟩ := zcells_run (P := P) hL hz g w
  have hr' : (match natIn q 1000000 with
    | some m => (match natIn p m with
      | some l => ok (.arr c 0 l k) (hp.set c (.cells (rep m z))) (c + 1)
      | none => none)
    | none => none) = some (v, hp', c') := hr
  cases h1 : natIn q 1000000 with
  | none => rw [h1] at hr'; cases hr'
  | some m =>
    rw [h1] at hr'; simp only at hr'
    cases h2 : natIn p m with
    | none => rw [h2] at hr'; cases hr'
    | some n =>
      rw [h2] at hr'
      obtain ⟨rfl, rfl, rfl⟩ := ok_inv hr'
      obtain ⟨k1, rfl, hm⟩ := natIn_inv h1
      obtain ⟨k2, rfl, hn⟩ := natIn_inv h2
      have e1 := hp1.int_inv
      have e2 := hq1.int_inv
      unfold smallB at hb
      cases hT : T.get e with
      | none => rw [hT] at hb; cases hb
      | some inf =>
        rw [hT] at hb
        have hi := hL.info e inf hT
        have hby : inf.bytes ≤ 65536 := Nat.le_of_ble_eq_true hb
        have hrep := rep_CV z2 m (ksz k) hzl hpos
        have hmore : More w { w with heap := w.heap.push (.cells ((Array.range (m * ksz k)).map (zv.cells[· % zv.cells.size]!)) e) } (.cells ((Array.range (m * ksz k)).map (zv.cells[· % zv.cells.size]!)) e) := ⟨rfl, rfl, rfl⟩
        obtain ⟨g', L, f1, f2, f3, f4⟩ := newCells hW hmore (fun k hk => by simp) (Nat.le_of_eq hrep.1) hrep.2
        refine ⟨_, .slice (some ⟨w.heap.size, 0, none⟩) n m, _, g', ?_, .inl rfl, f1, f2, ?_⟩
        · have w1 : IntKind.i64.wrap (n : Int) = n := wrap_small _ (by omega) (by omega)
          have w2 : IntKind.i64.wrap (m : Int) = m := wrap_small _ (by omega) (by omega)
          have hbm : (inf.bytes : Int) * m ≤ 65536 * 1000000 := Int.mul_le_mul (by omega) (by omega) (by omega) (by omega)
          have ht : (decide ((m : Int) < 0) || decide ((inf.bytes : Int) * m > 2 ^ 48)) = false := by
            rw [Bool.or_eq_false_iff, decide_eq_false_iff_not, decide_eq_false_iff_not]
            omega
          have hcond : ((decide ((m : Int) < 0) || decide ((inf.bytes : Int) * m > 2 ^ 48)) || decide ((n : Int) < 0) || decide ((n : Int) > m)) = false := by
            rw [ht, Bool.false_or, Bool.or_eq_false_iff, decide_eq_false_iff_not, decide_eq_false_iff_not]
            omega
          have hti : (typeInfo e).run P w = .ok inf w := by simp [typeInfo, hi]
          simp only [execOp, ho, Instr.makeSlice, Sem.run_bind, run_underlying hun, Result.andThen_ok, e1, e2, asInt, asIntOf, Sem.run_pure, hti, w1, w2]
          simp only [hcond, Bool.false_eq_true, if_false, Sem.run_bind, run_askRoom, Result.andThen_ok, hsz, Int.toNat_natCast]
          by_cases h0 : m * ksz k = 0
          · have e0 : ((Array.range (m * ksz k)).map (fun i => (#[] : Array Value)[i % (#[] : Array Value).size]!)) = ((Array.range (m * ksz k)).map (zv.cells[· % zv.cells.size]!)) := by
              rw [h0]; simp
            rw [if_pos h0]
            simp only [Sem.run_pure, Result.andThen_ok, Sem.run_bind, newRow, run_newObj]
            rw [e0]
          · rw [if_neg h0]
            simp only [Sem.run_pure, Result.andThen_ok, Sem.run_bind, z1, newRow, run_newObj]
        · subst f4
          have hl := hrep.1
          refine .arr c 0 n k _ m f3 hpos ?_ ?_ hn
          · simp [rep_len, hzl]
          · simp
end
end Det
namespace Det
open Go

section
variable {P : Program} {T : PT TypeInfo} {E : List Nat} {GC : GT} {B0 : Nat} {g : Gh} {hp hp' : PT HO} {c c' : Nat} {w : World} {tm : PT AV} {a : Act}
variable {o : Oper} {d : DOp} {l : List Opd} {vs : List AV} {v : AV} {fz : Bool}

theorem splice_nil : ∀ (cs : List AV) (n : Nat) (r : List AV), splice cs n [] = some r → r = cs
  | cs, 0, r, h => by
    have h' : some cs = some r := by cases cs <;> exact h
    simpa using h'.symm
  | [], n + 1, r, h => by simpa [splice] using h.symm
  | x :: cs, n + 1, r, h => by
    simp only [splice] at h
    cases h1 : splice cs n [] with
    | none => rw [h1] at h; cases h
    | some q =>
      rw [h1] at h; simp only [Option.some.injEq] at h; subst h
      rw [splice_nil cs n q h1]

theorem WR.congr (hW : WR GC B0 g hp c w) (h : ∀ id, hp'.get id = hp.get id) : WR GC B0 g hp' c w :=
  ⟨fun id L e => by rw [h]; exact hW.obj id L e, hW.fresh, hW.tagged, hW.owned, hW.place, fun i j L1 L2 e1 e2 eb v1 v2 => hW.uniq i j L1 L2 e1 e2 eb (by rw [← h]; exact v1) (by rw [← h]; exact v2), hW.base, hW.kept, hW.glob⟩

theorem WR.kill (hW : WR GC B0 g hp c w) (id : Nat) : WR GC B0 g (hp.set id .dead) c w where
  obj := fun id' L e => by
    by_cases h : id' = id
    · rw [h, PT.get_set_same]; trivial
    · rw [PT.get_set_ne _ _ h]; exact hW.obj id' L e
  fresh := hW.fresh
  tagged := hW.tagged
  owned := hW.owned
  place := hW.place
  uniq := fun i j L1 L2 e1 e2 eb v1 v2 => by
    have g1 : live (hp.get i) = true := by
      by_cases h : i = id
      · rw [h, PT.get_set_same] at v1; cases v1
      · rwa [PT.get_set_ne _ _ h] at v1
    have g2 : live (hp.get j) = true := by
      by_cases h : j = id
      · rw [h, PT.get_set_same] at v2; cases v2
      · rwa [PT.get_set_ne _ _ h] at v2
    exact hW.uniq i j L1 L2 e1 e2 eb g1 g2
  base := hW.base
  kept := hW.kept
  glob := hW.glob

theorem set_same {id : Nat} {x : HO} (h : hp.get id = some x) (i : Nat) : (hp.set id x).get i = hp.get i := by
  by_cases hi : i = id
  · rw [hi, PT.get_set_same, h]
  · rw [PT.get_set_ne _ _ hi]

/-- cells of an object overwritten, by the model's own stores -/
theorem store_run {id : Nat} {L : Loc} {cs cs' xs : List AV} {us : List Value} {off : Nat} (hW : WR GC B0 g hp c w) (hl : g.loc id = some L) (hc : cellsAt hp id = some cs)
    (hsp : splice cs off xs = some cs') (hpl : plains xs = true) (hlen : xs.length = us.length) (hv : ∀ k x, xs[k]? = some x → VR g w x (us.getD k undef)) :
    ∃ w', (storeCells ⟨L.b, L.o + off, none⟩ us).run P w = .ok () w' ∧ Ext B0 g w g w' ∧ WR GC B0 g (hp.set id (.cells cs')) c w' := by
  cases hx : xs with
  | nil =>
    subst hx
    have hu : us = [] := List.eq_nil_of_length_eq_zero (by rw [← hlen]; rfl)
    subst hu
    have := splice_nil _ _ _ hsp
    subst this
    exact ⟨w, by simp [storeCells], Ext.refl .., hW.congr (set_same (cellsAt_inv hc))⟩
  | cons x0 xs0 =>
    have hne : xs ≠ [] := by rw [hx]; simp
    obtain ⟨o1, o2, o3, o4⟩ := hW.own hl hc
    have hoff := (splice_eq cs off xs cs' hsp (.inl hne)).1
    obtain ⟨w', h1, h2⟩ := storeCells_run P (b := L.b) (o' := L.o + off) us 0 w (fun k hk => by
      obtain ⟨_, k2, k3⟩ := o3 (off + k) (by omega)
      rw [show L.o + off + 0 + k = L.o + (off + k) by omega]
      exact ⟨k2, k3⟩) (fun u hu => by
      obtain ⟨k, hk, e⟩ := List.mem_iff_getElem.1 hu
      have hxk : xs[k]? = some xs[k] := List.getElem?_eq_getElem (by omega)
      have := hv k _ hxk
      rw [List.getD_eq_getElem?_getD, List.getElem?_eq_getElem hk, Option.getD_some, e] at this
      exact this.plain (plains_get hpl k _ hxk))
    obtain ⟨h3, h4⟩ := Wrote.sim hW hl hc hsp hlen hv h2 hne
    exact ⟨w', h1, h3, h4⟩

theorem getD_toList (xs : Array Value) (k : Nat) : xs.toList.getD k undef = xs.getD k undef := by
  simp [List.getD_eq_getElem?_getD, Array.getD_eq_getD_getElem?]

theorem sim_store {t : TypeId} {k : Option Nat} {x y : Operand} (hL : Link P T E) (hk : kindOf T t = some k) (ho : o.op = .store t x y) (hc : c2 GC (.store (ksz k)) x y = some (d, l)) (hv : opvs tm l = some vs)
    (hW : WR GC B0 g hp c w) (hT : TM g w tm a) (hr : opRun d vs hp c = some (v, hp', c')) : Sim P GC B0 g w a o hp' c' v := by
  obtain ⟨rfl, p, q, rfl, hp1, hq1⟩ := c2_inv hc hv hW hT
  have hsz := (hL.kind hk w).2.2.2.2
  have hr' : (match storeC hp (ksz k) p q with | some hp => ok (.tup []) hp c | none => none) = some (v, hp', c') := hr
  cases hs : storeC hp (ksz k) p q with
  | none => rw [hs] at hr'; cases hr'
  | some hp2 =>
    rw [hs] at hr'
    obtain ⟨rfl, rfl, rfl⟩ := ok_inv hr'
    cases p with
    | ptr id off =>
      simp only [storeC] at hs
      cases hcs : cellsAt hp id with
      | none => rw [hcs] at hs; cases hs
      | some cs =>
        rw [hcs] at hs; simp only at hs
        cases hb : Nat.beq q.cells.length (ksz k) && plains q.cells with
        | false => rw [hb] at hs; cases hs
        | true =>
          rw [hb] at hs; simp only [cond_true] at hs
          simp only [Bool.and_eq_true] at hb
          have hlen := Nat.eq_of_beq_eq_true hb.1
          cases hsp : splice cs off q.cells with
          | none => rw [hsp] at hs; cases hs
          | some cs' =>
            rw [hsp] at hs; simp only [Option.some.injEq] at hs; subst hs
            obtain ⟨L, hl, e1⟩ := hp1.ptr_inv
            obtain ⟨c1, c2⟩ := hq1.cells
            obtain ⟨w', r1, r2, r3⟩ := store_run (P := P) (us := (a.eval y).cells.toList) hW hl hcs hsp hb.2 (by rw [c1]; simp) (fun k x e => by rw [getD_toList]; exact c2 k x e)
            refine ⟨.skip, undef, w', g, ?_, .inr ⟨rfl, rfl⟩, r2, r3, .tup [] #[] rfl (fun k x e => by simp at e)⟩
            have hne : ¬ (a.eval y).cells.size ≠ ksz k := by rw [← c1, hlen]; simp
            simp only [execOp, ho, Instr.storeAt, e1, Instr.sureAddr, storeVar, Sem.run_bind, Sem.run_pure, Result.andThen_ok, hsz, hne, if_false, r1]
    | _ => cases hs

theorem sim_range {t : TypeId} {x : Operand} (hL : Link P T E) (hu : under T t = .string) (ho : o.op = .range t x) (hc : c1 GC .range x = some (d, l)) (hv : opvs tm l = some vs)
    (hW : WR GC B0 g hp c w) (hT : TM g w tm a) (hr : opRun d vs hp c = some (v, hp', c')) : Sim P GC B0 g w a o hp' c' v := by
  obtain ⟨rfl, u, rfl, hu'⟩ := c1_inv hc hv hW hT
  have hun := hL.under hu (by simp)
  cases u with
  | str s =>
    obtain ⟨rfl, rfl, rfl⟩ := ok_inv (show ok (.ptr c 0) (hp.set c (.iter s 0)) (c + 1) = _ from hr)
    obtain ⟨s', e, rfl⟩ := hu'.str_inv
    have hm : More w { w with heap := w.heap.push (.stringIter s' 0) } (.stringIter s' 0) := ⟨rfl, rfl, rfl⟩
    refine ⟨_, .pointer (some ⟨w.heap.size, 0, none⟩), _, g.own w.heap.size c ⟨w.heap.size, 0, 0, 0⟩, ?_, .inl rfl, hm.ext_own hW _, hm.own hW _ rfl _ ⟨s', hm.new, rfl, by simp [Gh.own], rfl⟩, ?_⟩
    · simp only [execOp, ho, Instr.range, Sem.run_bind, run_underlying hun, Result.andThen_ok, e, Sem.run_pure, run_newObj]
    · exact .ptr c 0 ⟨w.heap.size, 0, 0, 0⟩ (by simp [Gh.own])
  | _ => cases hr

theorem getD_in {xs : Array Value} {k : Nat} (h : k < xs.size) : xs[k]? = some (xs.getD k undef) := by
  rw [Array.getD_eq_getD_getElem?, Array.getElem?_eq_getElem h]; rfl

theorem sim_next {x : Operand} (ho : o.op = .next x true) (hc : c1 GC .next x = some (d, l)) (hv : opvs tm l = some vs)
    (hW : WR GC B0 g hp c w) (hT : TM g w tm a) (hr : opRun d vs hp c = some (v, hp', c')) : Sim P GC B0 g w a o hp' c' v := by
  obtain ⟨rfl, u, rfl, hu'⟩ := c1_inv hc hv hW hT
  cases u with
  | ptr id off =>
    cases off with
    | succ n => cases hr
    | zero =>
      have hr' : (match hp.get id with
        | some (.iter s pos) => bif Nat.blt pos s.length then
            (match Utf8.decode ⟨s.toArray⟩ pos with
              | (r, w) => ok (.tup [.bool true, .int .i64 pos, .int .i32 r]) (hp.set id (.iter s (pos + w))) c)
            else ok (.tup [.bool false]) hp c
        | _ => none) = some (v, hp', c') := hr
      obtain ⟨L, hl, e1⟩ := hu'.ptr_inv
      cases hg : hp.get id with
      | none => rw [hg] at hr'; cases hr'
      | some ob =>
        cases ob with
        | iter s pos =>
          rw [hg] at hr'; simp only at hr'
          have hobj := hW.obj id L hl
          rw [hg] at hobj
          obtain ⟨s', h1, rfl, h3, h4⟩ := hobj
          rw [h4, Nat.zero_add] at e1
          have hs' : (⟨s'.data.toList.toArray⟩ : ByteArray) = s' := by apply ByteArray.ext; simp
          have hgo : (getObj L.b).run P w = .ok (.stringIter s' pos) w := by simp only [getObj, Sem.run, h1]
          cases hb : Nat.blt pos s'.data.toList.length with
          | false =>
            rw [hb] at hr'
            obtain ⟨rfl, rfl, rfl⟩ := ok_inv hr'
            have hnb : ¬ pos < s'.size := by
              rw [ba_size]; intro h; rw [← Nat.blt_eq] at h; rw [h] at hb; cases hb
            refine ⟨_, .tuple #[.bool false], w, g, ?_, .inl rfl, Ext.refl .., hW, .tup _ _ rfl (fun k x e => ?_)⟩
            · simp only [execOp, ho, Instr.next, e1, Sem.run_bind, hgo, Result.andThen_ok, hnb, if_false, Sem.run_pure]
            · match k with
              | 0 => simp at e; subst e; simpa using VR.bool false
              | k + 1 => simp at e
          | true =>
            rw [hb, hs'] at hr'
            simp only [cond_true] at hr'
            obtain ⟨rfl, rfl, rfl⟩ := ok_inv hr'
            have hlt : pos < s'.size := by rw [ba_size]; simpa [Nat.blt_eq] using hb
            have hset : ∀ k, ({ w with heap := w.heap.setIfInBounds L.b (.stringIter s' (pos + (Utf8.decode s' pos).2)) } : World).heap[k]? =
                if k = L.b then some (.stringIter s' (pos + (Utf8.decode s' pos).2)) else w.heap[k]? := fun k => by
              have hpl := (hW.place id L hl).2
              by_cases hk : k = L.b
              · subst hk; simp [hpl]
              · rw [if_neg hk]; exact Array.getElem?_setIfInBounds_ne (Ne.symm hk)
            have hsub : ∀ b o', g.tag b o' = .ro → cellAt { w with heap := w.heap.setIfInBounds L.b (.stringIter s' (pos + (Utf8.decode s' pos).2)) } b o' = cellAt w b o' := fun b o' e => by
              by_cases hk : b = L.b
              · subst hk
                simp only [cellAt, World.cell?, hset, if_true, h1]
              · exact cellAt_congr (by rw [hset, if_neg hk])
            have hext : Ext B0 g w g { w with heap := w.heap.setIfInBounds L.b (.stringIter s' (pos + (Utf8.decode s' pos).2)) } :=
              ⟨fun _ _ e => e, fun b o' e => ⟨e, hsub b o' e⟩, fun k hk => by have := (hW.place id L hl).1; rw [hset, if_neg (by omega)], rfl, rfl, by simp, fun _ => Iff.rfl, fun _ _ _ => rfl⟩
            refine ⟨_, .tuple #[.bool true, .int .i64 pos, .int .i32 (Utf8.decode s' pos).1], { w with heap := w.heap.setIfInBounds L.b (.stringIter s' (pos + (Utf8.decode s' pos).2)) }, g, ?_, .inl rfl, hext, ?_, .tup _ _ rfl (fun k x e => ?_)⟩
            · have hso : (setObj L.b (.stringIter s' (pos + (Utf8.decode s' pos).2))).run P w = .ok () { w with heap := w.heap.setIfInBounds L.b (.stringIter s' (pos + (Utf8.decode s' pos).2)) } := by
                simp only [setObj, Sem.run, h1]
              simp only [execOp, ho, Instr.next, e1, Sem.run_bind, hgo, Result.andThen_ok, hlt, if_true, hso, Sem.run_pure, goInt]
            · refine ⟨fun id' L' e => ?_, hW.fresh, fun b o' e => by simpa using hW.tagged b o' e, hW.owned, fun i L' e => by simpa using hW.place i L' e, ?_, by simpa using hW.base, hW.kept, fun gi cs0 e => ?_⟩
              · by_cases hid : id' = id
                · subst hid
                  rw [hl] at e; simp only [Option.some.injEq] at e; subst e
                  rw [PT.get_set_same]
                  exact ⟨s', by rw [hset, if_pos rfl], rfl, h3, h4⟩
                · rw [PT.get_set_ne _ _ hid]
                  cases hlv : live (hp.get id') with
                  | false => exact Own1.of_dead hlv (fun es he => by have := hW.obj id' L' e; rw [he] at this; exact this)
                  | true => exact (hW.obj id' L' e).keep hext.sub (fun o' ht => ht) (by rw [hset, if_neg (fun hb => hid (hW.uniq id' id L' L e hl hb hlv (by rw [hg]; rfl)))])
              · intro i j L1 L2 e1 e2 eb v1 v2
                have hlv : live (hp.get id) = true := by rw [hg]; rfl
                have g1 : live (hp.get i) = true := by
                  by_cases h : i = id
                  · rw [h]; exact hlv
                  · rwa [PT.get_set_ne _ _ h] at v1
                have g2 : live (hp.get j) = true := by
                  by_cases h : j = id
                  · rw [h]; exact hlv
                  · rwa [PT.get_set_ne _ _ h] at v2
                exact hW.uniq i j L1 L2 e1 e2 eb g1 g2
              · obtain ⟨cv, hcv⟩ := hW.glob gi cs0 e
                refine ⟨cv, fun k x hk => ?_⟩
                obtain ⟨k1, k2, k3⟩ := hcv k x hk
                exact ⟨k1, by rw [hsub _ _ k1]; exact k2, k3.mono hext.sub⟩
            · match k with
              | 0 => simp at e; subst e; simpa using VR.bool true
              | 1 => simp at e; subst e; simpa using VR.int .i64 pos
              | 2 => simp at e; subst e; simpa using VR.int .i32 (Utf8.decode s' pos).1
              | k + 3 => simp at e
        | _ => rw [hg] at hr'; cases hr'
  | _ => cases hr

theorem modify_push {ob : Obj} (h : Array Obj) (f : Obj → Obj) : (h.push ob).modify h.size f = h.push (f ob) := by
  apply Array.ext
  · simp
  · intro i h1 h2
    simp only [Array.getElem_modify, Array.getElem_push]
    simp only [Array.size_push] at h2
    by_cases hi : i = h.size
    · subst hi; simp
    · rw [if_neg (Ne.symm hi)]
      have : i < h.size := by omega
      simp [this]

theorem cap_cut (n m : Nat) (e : TypeId) (hn : n < 2 ^ 63) (t : Nat) : n ≤ (Question.appendCap n m e).cut t := by
  simp only [Question.cut]; omega

theorem sim_strBytes {s t e : TypeId} {x : Operand} (hL : Link P T E) (h1 : under T s = .string) (h2 : under T t = .slice e) (h3 : under T e = .int .u8)
    (ho : o.op = .convert s t x) (hc : c1 GC .strBytes x = some (d, l)) (hv : opvs tm l = some vs)
    (hW : WR GC B0 g hp c w) (hT : TM g w tm a) (hr : opRun d vs hp c = some (v, hp', c')) : Sim P GC B0 g w a o hp' c' v := by
  obtain ⟨rfl, u, rfl, hu⟩ := c1_inv hc hv hW hT
  have u1 := hL.under h1 (by simp)
  have u2 := hL.under h2 (by simp)
  have u3 := hL.under h3 (by simp)
  cases u with
  | str q =>
    obtain ⟨rfl, rfl, rfl⟩ := ok_inv (show ok (.arr c 0 q.length none) (hp.set c (.cells (bytesAV q))) (c + 1) = _ from hr)
    obtain ⟨s', e1, rfl⟩ := hu.str_inv
    generalize hN : (Question.appendCap s'.size 0 e).cut (w.tape w.drawn (Question.appendCap s'.size 0 e)) = N
    have hsize : s'.data.size = s'.size := rfl
    generalize hxs : (s'.data.map fun b => Value.int .u8 b.toNat) ++ Array.replicate (N - s'.size) (Value.int .u8 0) = xs
    have hxl : s'.size ≤ xs.size := by rw [← hxs]; simp
    have hm : More w { w with heap := w.heap.push (.cells xs e (xs.size, xs.size + 1)), drawn := w.drawn + 1 } (.cells xs e (xs.size, xs.size + 1)) := ⟨rfl, rfl, rfl⟩
    have hcv : ∀ k x, (bytesAV s'.data.toList)[k]? = some x → VR g w x (xs.getD k undef) := fun k x ex => by
      rw [bytesAV_get] at ex
      obtain ⟨b, hb, rfl⟩ := Option.map_eq_some_iff.1 ex
      have hk : k < s'.data.size := by have := (List.getElem?_eq_some_iff.1 hb).1; simpa using this
      have hb' : s'.data[k]? = some b := by rw [← hb]; simp
      have : xs.getD k undef = .int .u8 b.toNat := by
        rw [← hxs, Array.getD_eq_getD_getElem?, Array.getElem?_append_left (by simpa using hk), Array.getElem?_map, hb']
        rfl
      rw [this]; exact .int _ _
    obtain ⟨g', L, f1, f2, f3, f4⟩ := newCells hW hm (fun k hk => by simp only; omega) (by rw [bytesAV_len, ← ba_size]; exact hxl) hcv
    refine ⟨_, .slice (some ⟨w.heap.size, 0, none⟩) s'.size N, _, g', ?_, .inl rfl, f1, f2, ?_⟩
    · simp only [execOp, ho, convert, Sem.run_bind, run_underlying u1, run_underlying u2, Result.andThen_ok, e1, run_underlying u3, Conv.stringToBytes, run_choose, Question.forced, Bool.false_eq_true, if_false, hN, hxs,
        newRow, run_newObj, Sem.run_pure, markStringish, run_shape, World.shape?, Array.getElem?_push, if_true, run_freeze, World.freeze]
      simp only [Nat.succ_ne_self, if_false, modify_push, BEq.rfl, if_true, Nat.one_ne_zero]
    · subst f4
      have hNx : s'.size ≤ 2 ^ 63 → s'.size ≤ N := fun _ => by
        rw [← hN]; simp only [Question.cut]; omega
      have hxN : xs.size = max s'.size N := by rw [← hxs]; simp; omega
      have hsl : s'.data.toList.length = s'.size := (ba_size s').symm
      rw [hsl]
      have hge : s'.size ≤ N := by rw [← hN]; simp only [Question.cut]; omega
      refine .arr c 0 s'.size none _ N f3 (by simp [ksz]) ?_ ?_ hge
      · simp only [bytesAV_len, ksz, hsl]; omega
      · simp only [ksz]; omega
  | _ => cases hr
end
end Det
namespace Det
open Go

section
variable {P : Program} {T : PT TypeInfo} {E : List Nat} {GC : GT} {B0 : Nat} {g : Gh} {hp hp' : PT HO} {c c' : Nat} {w : World} {tm : PT AV} {a : Act}
variable {o : Oper} {d : DOp} {l : List Opd} {vs : List AV} {v : AV} {fz : Bool}

theorem growBy_le : ∀ (r m n : Nat), Builtin.growBy n r m ≤ max m (2 * n + 768)
  | 0, m, n => by simp [Builtin.growBy]; omega
  | r + 1, m, n => by
    simp only [Builtin.growBy]
    split
    · omega
    · have := growBy_le r (m + (m + 768) / 4) n
      omega
theorem nextcap_le {n m : Nat} (h : m < n) : Builtin.nextslicecap n m ≤ 2 * n + 768 := by
  unfold Builtin.nextslicecap
  split
  · omega
  · split
    · omega
    · have := growBy_le 4 m n; omega

/-- what append is told of the types -/
structure AppT (P : Program) (T : PT TypeInfo) (ts : Array TypeId) (e : TypeId) (k : Option Nat) (zv : Value) : Prop where
  slice : ∃ t, ts[0]? = some t ∧ P.underlying t = some (.slice e)
  plain : ts[1]? = none ∨ ∃ t d, ts[1]? = some t ∧ P.underlying t = some d ∧ (d matches .int _) = false
  size : ∀ w, (Go.sizeOf e).run P w = .ok (ksz k) w
  pos : 0 < ksz k
  info : ∃ i, P.info? e = some i ∧ i.bytes ≤ 65536
  zero : ∀ w, (zeroValue e).run P w = .ok zv w
  zlen : zv.cells.size = ksz k

theorem append_in {ts : Array TypeId} {ty e : TypeId} {k : Option Nat} {zv : Value} (hA : AppT P T ts e k zv) {base : Option Addr} {sLen sCap n : Nat} {x : Value} {new : Array Value}
    (hl : (Builtin.lenOf x).run P w = .ok n w) (hf : (Builtin.firstCells (ksz k) n x).run P w = .ok new w) (hle : sLen + n ≤ sCap) :
    (Builtin.append_ ts ty #[.slice base sLen sCap, x]).run P w =
      ((match base with | some a => storeCells (a.add (sLen * ksz k)) new.toList | none => pure () : Sem Unit).run P w).andThen fun _ w' => .ok (.slice base (sLen + n) sCap) w' := by
  obtain ⟨t, ht, hu⟩ := hA.slice
  have a0 : (#[.slice base sLen sCap, x] : Array Value)[0]? = some (.slice base sLen sCap) := rfl
  have a1 : (#[.slice base sLen sCap, x] : Array Value)[1]? = some x := rfl
  unfold Builtin.append_
  rcases hA.plain with hp | ⟨t1, d1, hp, hd, hm⟩
  · simp only [ht, a0, a1, hp, Sem.run_bind, run_underlying hu, Result.andThen_ok, hA.size w, Sem.run_pure, Bool.false_eq_true, if_false, hl, Bool.not_false, if_true, hle, hf]
    cases base <;> simp only [Sem.run_bind, Sem.run_pure, Result.andThen_ok]
  · cases d1 <;> first
      | (cases hm; done)
      | (simp only [ht, a0, a1, hp, Sem.run_bind, run_underlying hu, run_underlying hd, Result.andThen_ok, hA.size w, Sem.run_pure, Bool.false_eq_true, if_false, hl, Bool.not_false, if_true, hle, hf]
         cases base <;> simp only [Sem.run_bind, Sem.run_pure, Result.andThen_ok])

theorem append_out {ts : Array TypeId} {ty e : TypeId} {k : Option Nat} {zv : Value} (hA : AppT P T ts e k zv) {base : Option Addr} {sLen sCap n : Nat} {x : Value} {old new : Array Value}
    (hl : (Builtin.lenOf x).run P w = .ok n w) (hle : ¬ sLen + n ≤ sCap) (hsm : sLen + n ≤ 1000000000)
    (hf : (Builtin.firstCells (ksz k) n x).run P { w with drawn := w.drawn + 1 } = .ok new { w with drawn := w.drawn + 1 })
    (hold : (Builtin.firstCells (ksz k) sLen (.slice base sLen sCap)).run P { w with drawn := w.drawn + 1 } = .ok old { w with drawn := w.drawn + 1 }) :
    ∃ N, sLen + n ≤ N ∧ (Builtin.append_ ts ty #[.slice base sLen sCap, x]).run P w =
      .ok (.slice (some ⟨w.heap.size, 0, none⟩) (sLen + n) N) { w with heap := w.heap.push (.cells (old ++ new ++ Builtin.zeroCells zv.cells (N - (sLen + n))) e), drawn := w.drawn + 1 } := by
  obtain ⟨t, ht, hu⟩ := hA.slice
  obtain ⟨inf, hi, hby⟩ := hA.info
  have hti : ∀ w', (typeInfo e).run P w' = .ok inf w' := fun w' => by simp [typeInfo, hi]
  refine ⟨(Question.appendCap (sLen + n) sCap e).cut (w.tape w.drawn (Question.appendCap (sLen + n) sCap e)), by simp only [Question.cut]; omega, ?_⟩
  have h1 : ¬ (((sLen + n : Nat) : Int) > IntKind.i64.max) := by rw [IntKind.max_i64]; omega
  have hcap := nextcap_le (Nat.lt_of_not_le hle)
  have h2 : ¬ (Builtin.nextslicecap (sLen + n) sCap * inf.bytes > 2 ^ 48) := by
    have : Builtin.nextslicecap (sLen + n) sCap * inf.bytes ≤ (2 * 1000000000 + 768) * 65536 := Nat.mul_le_mul (by omega) hby
    omega
  have a0 : (#[.slice base sLen sCap, x] : Array Value)[0]? = some (.slice base sLen sCap) := rfl
  have a1 : (#[.slice base sLen sCap, x] : Array Value)[1]? = some x := rfl
  unfold Builtin.append_
  rcases hA.plain with hp | ⟨t1, d1, hp, hd, hm⟩
  · simp only [ht, a0, a1, hp, Sem.run_bind, run_underlying hu, Result.andThen_ok, hA.size w, Sem.run_pure, Bool.false_eq_true, if_false, hl, Bool.not_false, if_true, hle, hti,
      h1, false_and, h2, run_choose, Question.forced, run_askRoom, hf, hold, hA.zero, newRow, run_newObj]
  · cases d1 <;> first
      | (cases hm; done)
      | (simp only [ht, a0, a1, hp, Sem.run_bind, run_underlying hu, run_underlying hd, Result.andThen_ok, hA.size w, Sem.run_pure, Bool.false_eq_true, if_false, hl, Bool.not_false, if_true, hle, hti,
          h1, false_and, h2, run_choose, Question.forced, run_askRoom, hf, hold, hA.zero, newRow, run_newObj])

theorem AppT.of (hL : Link P T E) {cl : Call} {t e : TypeId} {r : List TypeId} {k : Option Nat} {z : List AV} (hts : cl.argTypes.toList = t :: r) (hu : under T t = .slice e) (hk : kindOf T e = some k)
    (hz : zcells T e = some z) (hb : (smallB T e && noCount T r) = true) (hzl : z.length = ksz k) (g : Gh) (w : World) : ∃ zv, AppT P T cl.argTypes e k zv := by
  obtain ⟨zv, z1, z2⟩ := zcells_run (P := P) hL hz g w
  simp only [Bool.and_eq_true] at hb
  have hts' : cl.argTypes = (t :: r).toArray := by rw [← hts]
  refine ⟨zv, ⟨t, by simp [hts'], hL.under hu (by simp)⟩, ?_, fun w' => (hL.kind hk w').2.2.2.2, (hL.kind hk w).2.1, ?_, z1, by rw [← z2.1, hzl]⟩
  · rw [hts']
    cases r with
    | nil => exact .inl rfl
    | cons t1 r =>
      have hn := hb.2
      simp only [noCount] at hn
      have hne : under T t1 ≠ .invalid := fun e => by rw [e] at hn; cases hn
      refine .inr ⟨t1, _, rfl, hL.under (d := under T t1) rfl hne, ?_⟩
      cases hd : under T t1 <;> first | rfl | (rw [hd] at hn; cases hn)
  · have h1 := hb.1
    unfold smallB at h1
    cases hi : T.get e with
    | none => rw [hi] at h1; cases h1
    | some i => rw [hi] at h1; exact ⟨i, hL.info e i hi, Nat.le_of_ble_eq_true h1⟩

/-- cells of two rows in one -/
theorem CV_append {cs ds : List AV} {xs ys zs : Array Value} (h1 : cs.length = xs.size) (h2 : ∀ k x, cs[k]? = some x → VR g w x (xs.getD k undef))
    (h3 : ds.length = ys.size) (h4 : ∀ k x, ds[k]? = some x → VR g w x (ys.getD k undef)) :
    ∀ k x, (cs ++ ds)[k]? = some x → VR g w x ((xs ++ ys ++ zs).getD k undef) := by
  intro k x e
  by_cases hk : k < cs.length
  · rw [List.getElem?_append_left hk] at e
    have := h2 k x e
    have e2 : (xs ++ ys ++ zs).getD k undef = xs.getD k undef := by
      rw [Array.getD_eq_getD_getElem?, Array.getD_eq_getD_getElem?, Array.getElem?_append_left (by simp; omega), Array.getElem?_append_left (by omega)]
    rw [e2]; exact this
  · rw [List.getElem?_append_right (by omega)] at e
    have hlt := (List.getElem?_eq_some_iff.1 e).1
    have := h4 _ x e
    have e2 : (xs ++ ys ++ zs).getD k undef = ys.getD (k - cs.length) undef := by
      rw [Array.getD_eq_getD_getElem?, Array.getD_eq_getD_getElem?, Array.getElem?_append_left (by simp; omega), Array.getElem?_append_right (by omega), h1]
    rw [e2]; exact this

theorem Sub.heap {w' : World} (hw : w'.heap = w.heap) : Sub g w g w' := ⟨fun _ _ e => e, fun b o' e => ⟨e, cellAt_congr (by rw [hw])⟩⟩
theorem WR.heap {w' : World} (hW : WR GC B0 g hp c w) (hw : w'.heap = w.heap) : WR GC B0 g hp c w' := by
  refine ⟨fun id L e => (hW.obj id L e).keep (Sub.heap hw) (fun _ h => h) (by rw [hw]), hW.fresh, fun b o' e => by rw [hw]; exact hW.tagged b o' e, hW.owned, fun id L e => by rw [hw]; exact hW.place id L e, hW.uniq, by rw [hw]; exact hW.base, hW.kept, fun gi cs e => ?_⟩
  obtain ⟨cv, hcv⟩ := hW.glob gi cs e
  exact ⟨cv, fun k x hk => ⟨(hcv k x hk).1, by rw [cellAt_congr (w := w) (by rw [hw])]; exact (hcv k x hk).2.1, (hcv k x hk).2.2.mono (Sub.heap hw)⟩⟩

/-- an object's cells from a place on become another object, the first one is no more -/
def Gh.move (g : Gh) (id : Nat) (L : Loc) : Gh where
  loc := fun i => if i = id then some L else g.loc i
  tag := fun x y => if x = L.b ∧ L.o ≤ y ∧ y < L.o + L.N then .own id else g.tag x y
  res := g.res

theorem WR.moved {w' : World} {id : Nat} {L : Loc} {cs ds : List AV} {us : List Value} {off p : Nat} (hW : WR GC B0 g hp c w) (hl : g.loc id = some L) (hc : cellsAt hp id = some cs) (hoff : off ≤ L.N)
    (hw : Wrote w w' L.b (L.o + p) us) (hp' : p + us.length ≤ L.N)
    (hd : ds.length ≤ L.N - off) (hds : ∀ k x, ds[k]? = some x → ∃ cv, cellAt w' L.b (L.o + off + k) = some cv ∧ VR g w x cv) :
    Ext B0 g w (g.move c ⟨L.b, L.o + off, ds.length, L.N - off⟩) w' ∧ WR GC B0 (g.move c ⟨L.b, L.o + off, ds.length, L.N - off⟩) ((hp.set id .dead).set c (.cells ds)) (c + 1) w' ∧
      (g.move c ⟨L.b, L.o + off, ds.length, L.N - off⟩).loc c = some ⟨L.b, L.o + off, ds.length, L.N - off⟩ := by
  obtain ⟨o1, o2, o3, o4⟩ := hW.own hl hc
  have hidc := hW.fresh id L hl
  have hpl := hW.place id L hl
  have hro : ∀ o', L.o ≤ o' → o' < L.o + L.N → g.tag L.b o' = .own id := fun o' h1 h2 => by
    have := (o3 (o' - L.o) (by omega)).1
    rwa [show L.o + (o' - L.o) = o' by omega] at this
  have hcell : ∀ b o', g.tag b o' = .ro → cellAt w' b o' = cellAt w b o' := fun b o' e => by
    by_cases hb : b = L.b
    · subst hb
      rw [hw.cell]
      split
      · rename_i h
        rw [hro o' (by omega) (by omega)] at e; cases e
      · rfl
    · exact cellAt_congr (hw.other b hb)
  have hext : Ext B0 g w (g.move c ⟨L.b, L.o + off, ds.length, L.N - off⟩) w' := by
    refine ⟨fun i L' e => ?_, fun b o' e => ⟨?_, hcell b o' e⟩, fun k hk => hw.other k (by omega), hw.os, hw.output, by rw [hw.size]; exact Nat.le_refl _, fun _ => Iff.rfl, fun b o' hb => by have := (hW.place _ _ hl).1; simp only [Gh.move]; rw [if_neg (by omega)]⟩
    · have := hW.fresh i L' e
      simp only [Gh.move]; rw [if_neg (by omega)]; exact e
    · simp only [Gh.move]
      rw [if_neg]
      · exact e
      · rintro ⟨rfl, h2, h3⟩; rw [hro o' (by omega) (by omega)] at e; cases e
  refine ⟨hext, ⟨fun i L' e => ?_, fun i L' e => ?_, fun b o' e => ?_, fun b o' i e => ?_, fun i L' e => ?_, fun i j L1 L2 e1 e2 eb v1 v2 => ?_, by rw [hw.size]; exact hW.base, fun i e => ?_, fun gi cs0 e => ?_⟩, by simp [Gh.move]⟩
  · by_cases hi : i = c
    · subst hi
      simp only [Gh.move, if_true, Option.some.injEq] at e
      subst e
      rw [PT.get_set_same]
      refine ⟨rfl, hd, fun k hk => ?_, fun k x e => ?_⟩
      · have hk' : k < L.N - off := hk
        obtain ⟨_, ⟨cv, k2⟩, k3⟩ := o3 (off + k) (by omega)
        show _ ∧ (∃ cv, cellAt w' L.b (L.o + off + k) = some cv) ∧ w'.frozen? ⟨L.b, L.o + off + k, none⟩ = false
        refine ⟨if_pos ⟨rfl, show L.o + off ≤ L.o + off + k by omega, show L.o + off + k < L.o + off + (L.N - off) by omega⟩, ?_, by rw [hw.frozen, Nat.add_assoc]; exact k3⟩
        rw [hw.cell]
        split
        · rename_i h
          have : L.o + off + k - (L.o + p) < us.length := by omega
          exact ⟨us[L.o + off + k - (L.o + p)], by simp [this]⟩
        · exact ⟨cv, by rw [Nat.add_assoc]; exact k2⟩
      · obtain ⟨cv, k1, k2⟩ := hds k x e
        exact ⟨cv, k1, k2.mono hext.sub⟩
    · simp only [Gh.move, if_neg hi] at e
      rw [PT.get_set_ne _ _ hi]
      by_cases hid : i = id
      · rw [hid, PT.get_set_same]; trivial
      · rw [PT.get_set_ne _ _ hid]
        cases hlv : live (hp.get i) with
        | false => exact Own1.of_dead hlv (fun es he => by have := hW.obj i L' e; rw [he] at this; exact this)
        | true =>
          have hne : L'.b ≠ L.b := fun h1 => hid (hW.uniq i id L' L e hl h1 hlv (by rw [cellsAt_inv hc]; rfl))
          refine (hW.obj i L' e).keep hext.sub (fun o' ht => ?_) (hw.other _ hne)
          simp only [Gh.move]
          rw [if_neg (fun h => hne h.1)]
          exact ht
  · by_cases hi : i = c
    · omega
    · simp only [Gh.move, if_neg hi] at e
      have := hW.fresh i L' e; omega
  · rw [hw.size]
    simp only [Gh.move] at e
    by_cases hb : b = L.b
    · omega
    · rw [if_neg (fun h => hb h.1)] at e
      exact hW.tagged b o' e
  · simp only [Gh.move] at e ⊢
    by_cases hb : b = L.b ∧ L.o + off ≤ o' ∧ o' < L.o + off + (L.N - off)
    · rw [if_pos hb] at e
      simp only [Tag.own.injEq] at e
      subst e
      exact ⟨⟨L.b, L.o + off, ds.length, L.N - off⟩, by rw [if_pos rfl], hb.1.symm⟩
    · rw [if_neg hb] at e
      obtain ⟨L', k2, k3⟩ := hW.owned b o' i e
      have := hW.fresh i L' k2
      exact ⟨L', by rw [if_neg (by omega)]; exact k2, k3⟩
  · rw [hw.size]
    by_cases hi : i = c
    · subst hi
      simp only [Gh.move, if_true, Option.some.injEq] at e
      subst e
      exact hpl
    · simp only [Gh.move, if_neg hi] at e
      exact hW.place i L' e
  · have lv : ∀ i, i ≠ c → live ((((hp.set id .dead).set c (.cells ds)) : PT HO).get i) = true → i ≠ id ∧ live (hp.get i) = true := by
      intro i hi v
      rw [PT.get_set_ne _ _ hi] at v
      by_cases hid : i = id
      · rw [hid, PT.get_set_same] at v; cases v
      · rw [PT.get_set_ne _ _ hid] at v; exact ⟨hid, v⟩
    have hlvid : live (hp.get id) = true := by rw [cellsAt_inv hc]; rfl
    simp only [Gh.move] at e1 e2
    by_cases h1 : i = c
    · by_cases h2 : j = c
      · omega
      · rw [if_pos h1] at e1; rw [if_neg h2] at e2
        simp only [Option.some.injEq] at e1; subst e1
        obtain ⟨k1, k2⟩ := lv j h2 v2
        exact absurd (hW.uniq j id L2 L e2 hl eb.symm k2 hlvid) k1
    · obtain ⟨k1, k2⟩ := lv i h1 v1
      by_cases h2 : j = c
      · rw [if_neg h1] at e1; rw [if_pos h2] at e2
        simp only [Option.some.injEq] at e2; subst e2
        exact absurd (hW.uniq i id L1 L e1 hl eb k2 hlvid) k1
      · rw [if_neg h1] at e1; rw [if_neg h2] at e2
        exact hW.uniq i j L1 L2 e1 e2 eb k2 (lv j h2 v2).2
  · obtain ⟨h1, h2⟩ := hW.kept i e
    exact ⟨by simp only [Gh.move]; rw [if_neg (by omega)]; exact h1, by omega⟩
  · obtain ⟨cv, hcv⟩ := hW.glob gi cs0 e
    refine ⟨cv, fun k x hk => ?_⟩
    obtain ⟨k1, k2, k3⟩ := hcv k x hk
    exact ⟨(hext.ro _ _ k1).1, by rw [hcell _ _ k1]; exact k2, k3.mono hext.sub⟩

theorem plains_append : ∀ {xs ys : List AV}, plains (xs ++ ys) = (plains xs && plains ys)
  | [], ys => by simp [plains]
  | x :: xs, ys => by simp [plains, plains_append (xs := xs) (ys := ys), Bool.and_assoc]

/-- elements appended -/
theorem append_sim {ts : Array TypeId} {ty e : TypeId} {k : Option Nat} {zv : Value} (hA : AppT P T ts e k zv) {x y : AV} {u s : Value} {n : Nat} {yc : List AV}
    (hW : WR GC B0 g hp c w) (hx : VR g w x u) (hy : VR g w y s) (hn : lenOf y = some n) (hc : elemCells k hp y = some yc) (hr : appTo k n yc x hp c = some (v, hp', c')) :
    ∃ cv w' g', (Builtin.append_ ts ty #[u, s]).run P w = .ok cv w' ∧ Ext B0 g w g' w' ∧ WR GC B0 g' hp' c' w' ∧ VR g' w' v cv := by
  obtain ⟨hl, hyl, new, n1, n2, n3⟩ := firstCells_run (P := P) hW hy hc hn (Nat.le_refl n)
  have hpos := hA.pos
  have newget : ∀ j x, yc[j]? = some x → VR g w x (new.getD j undef) := fun j x e => n3 j x (by have := (List.getElem?_eq_some_iff.1 e).1; omega) e
  -- the world in which the cells are read before a new block is laid
  have hW1 : WR GC B0 g hp c { w with drawn := w.drawn + 1 } := hW.heap rfl
  have hS1 : Sub g w g { w with drawn := w.drawn + 1 } := Sub.heap rfl
  obtain ⟨_, _, new1, m1, m2, m3⟩ := firstCells_run (P := P) hW1 (hy.mono hS1) hc hn (Nat.le_refl n)
  have back : ∀ {x : AV} {v : Value}, VR g { w with drawn := w.drawn + 1 } x v → VR g w x v := fun h => h.mono (Sub.heap (w := { w with drawn := w.drawn + 1 }) (w' := w) rfl)
  -- a new block
  have out : ∀ {base : Option Addr} {sLen sCap : Nat} {x0 : AV} {oc : List AV}, u = .slice base sLen sCap → VR g w x0 u → lenOf x0 = some sLen → elemCells k hp x0 = some oc → ¬ sLen + n ≤ sCap → sLen + n ≤ 1000000000 →
      ∃ cv w' g', (Builtin.append_ ts ty #[u, s]).run P w = .ok cv w' ∧ Ext B0 g w g' w' ∧ WR GC B0 g' (hp.set c (.cells (oc ++ yc))) (c + 1) w' ∧ VR g' w' (.arr c 0 (sLen + n) k) cv := by
    intro base sLen sCap x0 oc hu hx0 hl0 hc0 hle hsm
    obtain ⟨_, hol, old, o1, o2, o3⟩ := firstCells_run (P := P) hW1 (hx0.mono hS1) hc0 hl0 (Nat.le_refl sLen)
    rw [hu] at o2
    obtain ⟨N, hN, hrun⟩ := append_out (ty := ty) hA hl hle hsm m2 o2
    have hm : More w { w with heap := w.heap.push (.cells (old ++ new1 ++ Builtin.zeroCells zv.cells (N - (sLen + n))) e), drawn := w.drawn + 1 } (.cells (old ++ new1 ++ Builtin.zeroCells zv.cells (N - (sLen + n))) e) := ⟨rfl, rfl, rfl⟩
    have hsz : (old ++ new1 ++ Builtin.zeroCells zv.cells (N - (sLen + n))).size = N * ksz k := by
      have e1 : (N - (sLen + n)) * ksz k + (sLen + n) * ksz k = N * ksz k := mulsub hN
      have e2 : (sLen + n) * ksz k = sLen * ksz k + n * ksz k := Nat.add_mul ..
      simp only [Array.size_append, o1, m1, Builtin.zeroCells, Array.size_map, Array.size_range, hA.zlen]
      omega
    have hcl : (oc ++ yc).length = (sLen + n) * ksz k := by rw [List.length_append, hol, hyl, Nat.add_mul]
    obtain ⟨g', L, f1, f2, f3, f4⟩ := newCells hW hm (fun k hk => by simp) (cs := oc ++ yc) (by rw [hcl, hsz]; exact Nat.mul_le_mul_right _ hN)
      (CV_append (by rw [hol, o1]) (fun j x e => back (o3 j x (by have := (List.getElem?_eq_some_iff.1 e).1; omega) e)) (by rw [hyl, m1]) (fun j x e => back (m3 j x (by have := (List.getElem?_eq_some_iff.1 e).1; omega) e)))
    refine ⟨_, _, g', by rw [hu]; exact hrun, f1, f2, ?_⟩
    subst f4
    refine .arr c 0 (sLen + n) k _ N f3 hpos ?_ ?_ hN
    · simp only [hcl, Nat.zero_add]; exact Nat.mul_le_mul_right _ hN
    · simp only [hsz, Nat.zero_add]; exact Nat.le_refl _
  -- nothing is appended
  have noth : n = 0 → ∀ {base : Option Addr} {sLen sCap : Nat}, u = .slice base sLen sCap → sLen ≤ sCap → (Builtin.append_ ts ty #[u, s]).run P w = .ok u w := by
    intro h0 base sLen sCap hu hle
    subst h0
    have hnew : new = #[] := Array.eq_empty_of_size_eq_zero (by rw [n1]; simp)
    rw [hu, append_in hA hl n2 (by simpa using hle), hnew]
    cases base <;> simp [storeCells]
  cases x with
  | sl xs ex =>
    obtain ⟨ad, cap, hu, h1, h2, ⟨kk, h3⟩, h4⟩ := hx.sl_inv
    have hr' : (bif Nat.beq n 0 then ok (.sl xs ex) hp c else
      bif ex && uni k xs && plains yc && Nat.ble (xs.length + n) 1000000000 then ok (.arr c 0 (xs.length + n) k) (hp.set c (.cells (flat xs ++ yc))) (c + 1) else none) = some (v, hp', c') := hr
    cases hn0 : Nat.beq n 0 with
    | true =>
      rw [hn0] at hr'
      obtain ⟨rfl, rfl, rfl⟩ := ok_inv hr'
      exact ⟨u, w, g, noth (Nat.eq_of_beq_eq_true hn0) hu h2, Ext.refl .., hW, hx⟩
    | false =>
      rw [hn0] at hr'; simp only [cond_false] at hr'
      have hne : n ≠ 0 := fun e => by rw [e] at hn0; cases hn0
      cases hb : ex && uni k xs && plains yc && Nat.ble (xs.length + n) 1000000000 with
      | false => rw [hb] at hr'; cases hr'
      | true =>
        rw [hb] at hr'
        obtain ⟨rfl, rfl, rfl⟩ := ok_inv hr'
        simp only [Bool.and_eq_true] at hb
        have hcap := h1 hb.1.1.1
        exact out hu hx rfl (by simp only [elemCells, hb.1.1.2, cond_true]) (by omega) (Nat.le_of_ble_eq_true hb.2)
  | arr id off len k' =>
    have hr' : (match cellsAt hp id with
    | some cs => bif !kEq k' k then none else bif Nat.ble (off + len * ksz k + yc.length) cs.length then
        (bif !plains yc then none else match splice cs (off + len * ksz k) yc with | some cs => ok (.arr id off (len + n) k) (hp.set id (.cells cs)) c | none => none)
      else bif Nat.beq n 0 then ok (.arr id off len k) hp c
      else bif Nat.ble (len + n) 1000000000 && plains yc then (match takeN (len * ksz k) (dropN off cs) with
        | some old => ok (.arr c 0 (len + n) k) ((hp.set id .dead).set c (.cells (old ++ yc))) (c + 1)
        | none => none)
      else none
    | none => none) = some (v, hp', c') := hr
    cases hcs : cellsAt hp id with
    | none => rw [hcs] at hr'; cases hr'
    | some cs =>
      rw [hcs] at hr'; simp only at hr'
      cases hk : kEq k' k with
      | false => rw [hk] at hr'; cases hr'
      | true =>
        rw [hk] at hr'; simp only [Bool.not_true, cond_false] at hr'
        have := kEq_iff.1 hk; subst this
        obtain ⟨L, ad, cap, hloc, h0, hu, h1⟩ := hx.arr_inv
        obtain ⟨o1, o2, o3, o4⟩ := hW.own hloc hcs
        have hcapl : len ≤ cap := by
          rcases h1 with ⟨h1, h2, _⟩ | ⟨_, _, _, h2⟩ <;> omega
        have hsum : (len + n) * ksz k' = len * ksz k' + n * ksz k' := Nat.add_mul ..
        cases hfit : Nat.ble (off + len * ksz k' + yc.length) cs.length with
        | true =>
          rw [hfit] at hr'; simp only [cond_true] at hr'
          have hfit' := Nat.le_of_ble_eq_true hfit
          cases hpl : plains yc with
          | false => rw [hpl] at hr'; cases hr'
          | true =>
            rw [hpl] at hr'; simp only [Bool.not_true, cond_false] at hr'
            cases hsp : splice cs (off + len * ksz k') yc with
            | none => rw [hsp] at hr'; cases hr'
            | some cs' =>
              rw [hsp] at hr'
              obtain ⟨rfl, rfl, rfl⟩ := ok_inv hr'
              rcases h1 with ⟨hl0, hc0, h1⟩ | ⟨rfl, h1, h2, h3⟩
              · -- behind the end: nothing is appended
                have hz : n * ksz k' = 0 := by omega
                have hn0 : n = 0 := by rcases Nat.mul_eq_zero.1 hz with e | e <;> omega
                have hyc : yc = [] := List.eq_nil_of_length_eq_zero (by rw [hyl]; exact hz)
                subst hyc
                have := splice_nil _ _ _ hsp
                subst this
                subst hn0
                refine ⟨u, w, g, noth rfl hu hcapl, Ext.refl .., hW.congr (set_same (cellsAt_inv hcs)), ?_⟩
                exact hx
              · have hle : (len + n) * ksz k' ≤ cap * ksz k' := by omega
                have hle2 : len + n ≤ cap := Nat.le_of_mul_le_mul_right hle h0
                obtain ⟨w', r1, r2, r3⟩ := store_run (P := P) (us := new.toList) hW hloc hcs hsp hpl (by rw [hyl]; simpa using n1.symm) (fun j x e => by rw [getD_toList]; exact newget j x e)
                refine ⟨.slice (some ⟨L.b, L.o + off, none⟩) (len + n) cap, w', g, ?_, r2, r3, .arr id off (len + n) k' L cap hloc h0 h1 h2 hle2⟩
                rw [hu, append_in hA hl n2 hle2]
                simp only [Addr.add_spot]
                rw [Nat.add_assoc L.o, r1]; rfl
        | false =>
          rw [hfit] at hr'; simp only [cond_false] at hr'
          have hnfit : ¬ (off + len * ksz k' + yc.length ≤ cs.length) := fun h => by rw [Nat.ble_eq_true_of_le h] at hfit; cases hfit
          cases hn0 : Nat.beq n 0 with
          | true =>
            rw [hn0] at hr'
            obtain ⟨rfl, rfl, rfl⟩ := ok_inv hr'
            exact ⟨u, w, g, noth (Nat.eq_of_beq_eq_true hn0) hu hcapl, Ext.refl .., hW, hx⟩
          | false =>
            rw [hn0] at hr'; simp only [cond_false] at hr'
            have hne : n ≠ 0 := fun e => by rw [e] at hn0; cases hn0
            cases hb : Nat.ble (len + n) 1000000000 && plains yc with
            | false => rw [hb] at hr'; cases hr'
            | true =>
              rw [hb] at hr'; simp only [cond_true] at hr'
              simp only [Bool.and_eq_true] at hb
              cases hold : takeN (len * ksz k') (dropN off cs) with
              | none => rw [hold] at hr'; cases hr'
              | some old =>
                rw [hold] at hr'
                obtain ⟨rfl, rfl, rfl⟩ := ok_inv hr'
                have hel : elemCells k' hp (.arr id off len k') = some old := by
                  simp only [elemCells, hk, cond_true, hcs]; exact hold
                obtain ⟨t1, t2⟩ := loadC_take o4 hold
                by_cases hin : len + n ≤ cap
                · -- into the spare cells
                  rcases h1 with ⟨hl0, hc0, h1⟩ | ⟨rfl, h1, h2, h3⟩
                  · omega
                  · have hle : (len + n) * ksz k' ≤ cap * ksz k' := Nat.mul_le_mul_right _ hin
                    have hus : new.toList.length = n * ksz k' := by simpa using n1
                    obtain ⟨w', r1, r2⟩ := storeCells_run P (b := L.b) (o' := L.o + off + len * ksz k') new.toList 0 w (fun j hj => by
                      obtain ⟨_, k2, k3⟩ := o3 (off + len * ksz k' + j) (by omega)
                      rw [show L.o + off + len * ksz k' + 0 + j = L.o + (off + len * ksz k' + j) by omega]
                      exact ⟨k2, k3⟩) (fun v hv => by
                      obtain ⟨j, hj, ej⟩ := List.mem_iff_getElem.1 hv
                      have hyj : yc[j]? = some yc[j] := List.getElem?_eq_getElem (by omega)
                      have := newget j _ hyj
                      rw [← getD_toList, List.getD_eq_getElem?_getD, List.getElem?_eq_getElem hj, Option.getD_some, ej] at this
                      exact this.plain (plains_get hb.2 j _ hyj))
                    have hdl : (old ++ yc).length = (len + n) * ksz k' := by rw [List.length_append, t1, hyl, hsum]
                    rw [Nat.add_zero, show L.o + off + len * ksz k' = L.o + (off + len * ksz k') by omega] at r2
                    obtain ⟨q1, q2, q3⟩ := WR.moved (ds := old ++ yc) (off := off) hW hloc hcs (by omega) r2 (by omega) (by omega) (fun j x e => by
                      rw [r2.cell]
                      by_cases hj : j < old.length
                      · rw [List.getElem?_append_left hj] at e
                        obtain ⟨cv, e1, e2⟩ := t2 j x e
                        exact ⟨cv, by rw [if_neg (by omega)]; exact e1, e2⟩
                      · have hj2 := (List.getElem?_eq_some_iff.1 e).1
                        rw [List.getElem?_append_right (by omega)] at e
                        have := newget _ x e
                        rw [if_pos (by omega)]
                        have hlt : L.o + off + j - (L.o + (off + len * ksz k')) < new.toList.length := by omega
                        refine ⟨_, List.getElem?_eq_getElem hlt, ?_⟩
                        rw [← getD_toList, List.getD_eq_getElem?_getD, show j - old.length = L.o + off + j - (L.o + (off + len * ksz k')) by omega, List.getElem?_eq_getElem hlt] at this
                        exact this)
                    refine ⟨.slice (some ⟨L.b, L.o + off, Option.none⟩) (len + n) cap, w', _, ?_, q1, q2, ?_⟩
                    · rw [hu, append_in hA hl n2 hin]
                      simp only [Addr.add_spot]
                      rw [r1]; rfl
                    · have := VR.arr (g := g.move c ⟨L.b, L.o + off, (old ++ yc).length, L.N - off⟩) (w := w') c 0 (len + n) k' _ cap q3 h0 (by simp only [hdl]; omega) (by simp only; omega) hin
                      exact this
                · obtain ⟨cv, w', g', f1, f2, f3, f4⟩ := out hu hx rfl hel hin (Nat.le_of_ble_eq_true hb.1)
                  have f5 := f3.kill id
                  have hidc := hW.fresh id L hloc
                  exact ⟨cv, w', g', f1, f2, f5.congr (fun i => by
                    by_cases h1 : i = c
                    · rw [h1, PT.get_set_same, PT.get_set_ne _ _ (by omega), PT.get_set_same]
                    · rw [PT.get_set_ne _ _ h1]
                      by_cases h2 : i = id
                      · rw [h2, PT.get_set_same, PT.get_set_same]
                      · rw [PT.get_set_ne _ _ h2, PT.get_set_ne _ _ h2, PT.get_set_ne _ _ h1]), f4⟩
  | nils =>
    have hr' : (bif Nat.beq n 0 then ok .nils hp c else
      bif plains yc && Nat.ble n 1000000000 then ok (.arr c 0 n k) (hp.set c (.cells yc)) (c + 1) else none) = some (v, hp', c') := hr
    have hu : u = .slice none 0 0 := by cases hx; rfl
    cases hn0 : Nat.beq n 0 with
    | true =>
      rw [hn0] at hr'
      obtain ⟨rfl, rfl, rfl⟩ := ok_inv hr'
      exact ⟨u, w, g, noth (Nat.eq_of_beq_eq_true hn0) hu (Nat.le_refl _), Ext.refl .., hW, hx⟩
    | false =>
      rw [hn0] at hr'; simp only [cond_false] at hr'
      have hne : n ≠ 0 := fun e => by rw [e] at hn0; cases hn0
      cases hb : plains yc && Nat.ble n 1000000000 with
      | false => rw [hb] at hr'; cases hr'
      | true =>
        rw [hb] at hr'
        obtain ⟨rfl, rfl, rfl⟩ := ok_inv hr'
        simp only [Bool.and_eq_true] at hb
        have := out (oc := []) hu hx rfl rfl (by omega) (by have := Nat.le_of_ble_eq_true hb.2; omega)
        simpa using this
  | _ => cases hr
end
end Det
namespace Det
open Go

section
variable {P : Program} {T : PT TypeInfo} {E : List Nat} {GC : GT} {B0 : Nat} {g : Gh} {hp hp' : PT HO} {c c' : Nat} {w : World} {tm : PT AV} {a : Act}
variable {o : Oper} {d : DOp} {l : List Opd} {vs : List AV} {v : AV} {fz : Bool}

theorem sim_append {x y : Operand} {cl : Call} {t e : TypeId} {r : List TypeId} {k : Option Nat} {z : List AV} (hL : Link P T E) (ho : o.op = .call cl) (hb : cl.callee = .builtin .append)
    (hargs : cl.args.toList = [x, y]) (hts : cl.argTypes.toList = t :: r) (hu : under T t = .slice e) (hk : kindOf T e = some k) (hz : zcells T e = some z)
    (hsm : (smallB T e && noCount T r) = true) (hzl : z.length = ksz k) (hc : c2 GC (.append k) x y = some (d, l)) (hv : opvs tm l = some vs)
    (hW : WR GC B0 g hp c w) (hT : TM g w tm a) (hr : opRun d vs hp c = some (v, hp', c')) : Sim P GC B0 g w a o hp' c' v := by
  obtain ⟨rfl, p, q, rfl, hp1, hq1⟩ := c2_inv hc hv hW hT
  have hargs' : cl.args = #[x, y] := by rw [← Array.toArray_toList (xs := cl.args), hargs]
  obtain ⟨zv, hA⟩ := AppT.of hL hts hu hk hz hsm hzl g w
  have hr' : (match lenOf q, elemCells k hp q with
    | some n, some yc => appTo k n yc p hp c
    | _, _ => none) = some (v, hp', c') := hr
  cases hn : lenOf q with
  | none => rw [hn] at hr'; cases hr'
  | some n =>
    cases hyc : elemCells k hp q with
    | none => rw [hn, hyc] at hr'; cases hr'
    | some yc =>
      rw [hn, hyc] at hr'
      obtain ⟨cv, w', g', h1, h2, h3, h4⟩ := append_sim (ty := o.type) hA hW hp1 hq1 hn hyc hr'
      obtain ⟨consts, hcr⟩ := callee_run a ho hb
      refine ⟨.value cv, cv, w', g', ?_, .inl rfl, h2, h3, h4⟩
      rw [hcr]
      simp only [builtin, hargs', List.map_toArray, List.map_cons, List.map_nil, Sem.run_bind, h1, Result.andThen_ok, Sem.run_pure]

theorem elemOf_inv {t e : TypeId} (h : elemOf T t = some e) : under T t = .slice e := by
  unfold elemOf at h
  cases hu : under T t <;> rw [hu] at h <;> first | (cases h; done) | (simp only [Option.some.injEq] at h; rw [h])

theorem sim_copy {x y : Operand} {cl : Call} {t e : TypeId} {r : List TypeId} {k : Option Nat} (hL : Link P T E) (ho : o.op = .call cl) (hb : cl.callee = .builtin .copy)
    (hargs : cl.args.toList = [x, y]) (hts : cl.argTypes.toList = t :: r) (hu : under T t = .slice e) (hk : kindOf T e = some k)
    (hc : c2 GC (.copy k) x y = some (d, l)) (hv : opvs tm l = some vs)
    (hW : WR GC B0 g hp c w) (hT : TM g w tm a) (hr : opRun d vs hp c = some (v, hp', c')) : Sim P GC B0 g w a o hp' c' v := by
  obtain ⟨rfl, p, q, rfl, hp1, hq1⟩ := c2_inv hc hv hW hT
  have hargs' : cl.args = #[x, y] := by rw [← Array.toArray_toList (xs := cl.args), hargs]
  have hts' : cl.argTypes = (t :: r).toArray := by rw [← hts]
  have ht0 : cl.argTypes[0]? = some t := by simp [hts']
  have hun := hL.under hu (by simp)
  have hsz := fun w' => (hL.kind hk w').2.2.2.2
  obtain ⟨consts, hcr⟩ := callee_run a ho hb
  have a0 : ∀ u v : Value, (#[u, v] : Array Value)[0]? = some u := fun _ _ => rfl
  have a1 : ∀ u v : Value, (#[u, v] : Array Value)[1]? = some v := fun _ _ => rfl
  have run : ∀ base len cap n m (vs' : Array Value), a.eval x = .slice base len cap → (Builtin.lenOf (a.eval y)).run P w = .ok n w → m = Nat.min n len → (Builtin.firstCells (ksz k) m (a.eval y)).run P w = .ok vs' w →
      (execOp a.eval o).run P w = ((match base with | some ad => storeCells ad vs'.toList | none => pure () : Sem Unit).run P w).andThen fun _ w' => .ok (.value (.int .i64 m)) w' := by
    intro base len cap n m vs' e1 e2 e3 e4
    rw [hcr]
    subst e3
    simp only [builtin, hargs', List.map_toArray, List.map_cons, List.map_nil, Builtin.copy_, ht0, a0, a1, e1, Sem.run_bind, run_underlying hun, Result.andThen_ok, e2, hsz, e4, Sem.run_pure, goInt]
    cases base with
    | none => simp
    | some ad =>
      simp only [Sem.run_bind, Sem.run_pure]
      cases (storeCells ad vs'.toList).run P w <;> rfl
  have len0 : ∀ n, lenOf q = some n → (Builtin.lenOf (a.eval y)).run P w = .ok n w ∧ (Builtin.firstCells (ksz k) 0 (a.eval y)).run P w = .ok #[] w := by
    intro n hn
    cases q with
    | str s =>
      obtain ⟨s', e2, rfl⟩ := hq1.str_inv
      simp only [lenOf, Option.some.injEq] at hn
      rw [e2, ← hn, ← ba_size]
      exact ⟨by simp [Builtin.lenOf], by simp [Builtin.firstCells]⟩
    | sl ys ex' =>
      obtain ⟨ad', cap', e2, _⟩ := hq1.sl_inv
      simp only [lenOf, Option.some.injEq] at hn
      rw [e2, ← hn]
      exact ⟨by simp [Builtin.lenOf], by simp [Builtin.firstCells, loadCells, loadCellsFrom]⟩
    | arr id off len k' =>
      obtain ⟨L, ad', cap', _, _, e2, _⟩ := hq1.arr_inv
      simp only [lenOf, Option.some.injEq] at hn
      rw [e2, ← hn]
      exact ⟨by simp [Builtin.lenOf], by simp [Builtin.firstCells, loadCells, loadCellsFrom]⟩
    | nils =>
      simp only [lenOf, Option.some.injEq] at hn
      generalize hev : a.eval y = yy at hq1
      cases hq1 with
      | nils =>
        rw [← hn]
        exact ⟨by simp [Builtin.lenOf], by simp [Builtin.firstCells, loadCells, loadCellsFrom]⟩
    | _ => cases hn
  cases p with
  | sl xs ex =>
    have hr' : (match lenOf q with
      | some n => bif Nat.beq (Nat.min xs.length n) 0 then ok (.int .i64 0) hp c else none
      | none => none) = some (v, hp', c') := hr
    cases hn : lenOf q with
    | none => rw [hn] at hr'; cases hr'
    | some n =>
      rw [hn] at hr'; simp only at hr'
      cases h0 : Nat.beq (Nat.min xs.length n) 0 with
      | false => rw [h0] at hr'; cases hr'
      | true =>
        rw [h0] at hr'
        obtain ⟨rfl, rfl, rfl⟩ := ok_inv hr'
        have h0' := Nat.eq_of_beq_eq_true h0
        obtain ⟨ad, cap, e1, _⟩ := hp1.sl_inv
        -- the length of what is copied, and none of its cells
        have hlen := len0 n hn
        have := run ad xs.length cap n 0 #[] e1 hlen.1 (by rw [show Nat.min n xs.length = min n xs.length from rfl]; have : min xs.length n = 0 := h0'; omega) hlen.2
        refine ⟨_, .int .i64 0, w, g, this.trans ?_, .inl rfl, Ext.refl .., hW, .int _ _⟩
        cases ad <;> simp [storeCells]
  | arr id off len k' =>
    have hr' : (match lenOf q, elemCells k hp q, cellsAt hp id with
      | some n, some yc, some cs => (bif !kEq k' k then none else match takeN (Nat.min len n * ksz k) yc with
        | some z => (bif !plains z then none else match splice cs off z with | some cs => ok (.int .i64 (Nat.min len n)) (hp.set id (.cells cs)) c | none => none)
        | none => none)
      | _, _, _ => none) = some (v, hp', c') := hr
    cases hn : lenOf q with
    | none => rw [hn] at hr'; cases hr'
    | some n =>
      cases hyc : elemCells k hp q with
      | none => rw [hn, hyc] at hr'; cases hr'
      | some yc =>
        cases hcs : cellsAt hp id with
        | none => rw [hn, hyc, hcs] at hr'; cases hr'
        | some cs =>
          rw [hn, hyc, hcs] at hr'; simp only at hr'
          cases hkk : kEq k' k with
          | false => rw [hkk] at hr'; cases hr'
          | true =>
            rw [hkk] at hr'; simp only [Bool.not_true, cond_false] at hr'
            have := kEq_iff.1 hkk; subst this
            cases hz : takeN (Nat.min len n * ksz k') yc with
            | none => rw [hz] at hr'; cases hr'
            | some z =>
              rw [hz] at hr'; simp only at hr'
              cases hpl : plains z with
              | false => rw [hpl] at hr'; cases hr'
              | true =>
                rw [hpl] at hr'; simp only [Bool.not_true, cond_false] at hr'
                cases hsp : splice cs off z with
                | none => rw [hsp] at hr'; cases hr'
                | some cs' =>
                  rw [hsp] at hr'
                  obtain ⟨rfl, rfl, rfl⟩ := ok_inv hr'
                  obtain ⟨L, ad, cap, hl, h0, e1, h1⟩ := hp1.arr_inv
                  have hmin : Nat.min n len = Nat.min len n := Nat.min_comm n len
                  obtain ⟨hlo, hyl, vs', n1, n2, n3⟩ := firstCells_run (P := P) (m := Nat.min len n) hW hq1 hyc hn (Nat.min_le_right len n)
                  obtain ⟨z1, z2⟩ := takeN_eq _ _ _ hz
                  have hzl : z.length = Nat.min len n * ksz k' := by rw [z2, List.length_take]; omega
                  have hrun := run ad len cap n (Nat.min len n) vs' e1 hlo hmin.symm n2
                  rcases h1 with ⟨hl0, _, _⟩ | ⟨rfl, _⟩
                  · have hm0 : Nat.min len n = 0 := by rw [hl0]; exact Nat.zero_min n
                    rw [hm0] at hzl n1 hrun ⊢
                    have hzn : z = [] := List.eq_nil_of_length_eq_zero (by rw [hzl]; simp)
                    have hvn : vs' = #[] := Array.eq_empty_of_size_eq_zero (by rw [n1]; simp)
                    subst hzn; subst hvn
                    have := splice_nil _ _ _ hsp
                    subst this
                    refine ⟨_, .int .i64 0, w, g, hrun.trans ?_, .inl rfl, Ext.refl .., hW.congr (set_same (cellsAt_inv hcs)), .int _ _⟩
                    cases ad <;> simp [storeCells]
                  · obtain ⟨w', r1, r2, r3⟩ := store_run (P := P) (us := vs'.toList) hW hl hcs hsp hpl (by rw [hzl]; simpa using n1.symm) (fun j x e => by
                      rw [getD_toList]
                      have hj := (List.getElem?_eq_some_iff.1 e).1
                      rw [z2, List.getElem?_take, if_pos (by omega)] at e
                      exact n3 j x (by omega) e)
                    exact ⟨_, .int .i64 (Nat.min len n : Nat), w', g, by rw [hrun]; simp only [r1, Result.andThen_ok], .inl rfl, r2, r3, .int _ _⟩
  | nils =>
    have hr' : (match lenOf q with
      | some _ => ok (.int .i64 0) hp c
      | none => none) = some (v, hp', c') := hr
    cases hn : lenOf q with
    | none => rw [hn] at hr'; cases hr'
    | some n =>
      rw [hn] at hr'
      obtain ⟨rfl, rfl, rfl⟩ := ok_inv hr'
      have hlen := len0 n hn
      have e1 : a.eval x = .slice none 0 0 := by
        generalize a.eval x = xx at hp1
        cases hp1; rfl
      have := run none 0 0 n 0 #[] e1 hlen.1 (by simp) hlen.2
      refine ⟨_, .int .i64 0, w, g, this.trans ?_, .inl rfl, Ext.refl .., hW, .int _ _⟩
      simp [storeCells]
  | _ => cases hr

theorem sim_clear {x : Operand} {cl : Call} {t e : TypeId} {r : List TypeId} {k : Option Nat} {z : List AV} (hL : Link P T E) (ho : o.op = .call cl) (hb : cl.callee = .builtin .clear)
    (hargs : cl.args.toList = [x]) (hts : cl.argTypes.toList = t :: r) (hu : under T t = .slice e) (hk : kindOf T e = some k) (hz : zcells T e = some z) (hzl : z.length = ksz k)
    (hc : c1 GC (.clear k z) x = some (d, l)) (hv : opvs tm l = some vs)
    (hW : WR GC B0 g hp c w) (hT : TM g w tm a) (hr : opRun d vs hp c = some (v, hp', c')) : Sim P GC B0 g w a o hp' c' v := by
  obtain ⟨rfl, p, rfl, hp1⟩ := c1_inv hc hv hW hT
  have hargs' : cl.args = #[x] := by rw [← Array.toArray_toList (xs := cl.args), hargs]
  have hts' : cl.argTypes = (t :: r).toArray := by rw [← hts]
  have ht0 : cl.argTypes[0]? = some t := by simp [hts']
  have hun := hL.under hu (by simp)
  obtain ⟨zv, z1, z2⟩ := zcells_run (P := P) hL hz g w
  have hpos := (hL.kind hk w).2.1
  obtain ⟨consts, hcr⟩ := callee_run a ho hb
  have a0 : ∀ u : Value, (#[u] : Array Value)[0]? = some u := fun _ => rfl
  have zero : ∀ ad cap, a.eval x = .slice ad 0 cap → (execOp a.eval o).run P w = .ok (.value (.tuple #[])) w := by
    intro ad cap e1
    rw [hcr]
    simp only [builtin, hargs', List.map_toArray, List.map_cons, List.map_nil, Builtin.clear_, ht0, a0, e1, Sem.run_bind, run_underlying hun, Result.andThen_ok]
    cases ad <;> simp
  cases p with
  | sl xs ex =>
    cases xs with
    | cons _ _ => cases hr
    | nil =>
      obtain ⟨rfl, rfl, rfl⟩ := ok_inv (show ok (.tup []) hp c = _ from hr)
      obtain ⟨ad, cap, e1, _⟩ := hp1.sl_inv
      exact ⟨_, .tuple #[], w, g, zero ad cap e1, .inl rfl, Ext.refl .., hW, .tup [] #[] rfl (fun k x e => by simp at e)⟩
  | nils =>
    obtain ⟨rfl, rfl, rfl⟩ := ok_inv (show ok (.tup []) hp c = _ from hr)
    have e1 : a.eval x = .slice none 0 0 := by
      generalize a.eval x = xx at hp1
      cases hp1; rfl
    exact ⟨_, .tuple #[], w, g, zero none 0 e1, .inl rfl, Ext.refl .., hW, .tup [] #[] rfl (fun k x e => by simp at e)⟩
  | arr id off len k' =>
    have hr' : (match cellsAt hp id with
      | some cs => (bif !(kEq k' k && plains z) then none else match splice cs off (rep len z) with | some cs => ok (.tup []) (hp.set id (.cells cs)) c | none => none)
      | none => none) = some (v, hp', c') := hr
    cases hcs : cellsAt hp id with
    | none => rw [hcs] at hr'; cases hr'
    | some cs =>
      rw [hcs] at hr'; simp only at hr'
      cases hkk : kEq k' k && plains z with
      | false => rw [hkk] at hr'; cases hr'
      | true =>
        rw [hkk] at hr'; simp only [Bool.not_true, cond_false] at hr'
        simp only [Bool.and_eq_true] at hkk
        have := kEq_iff.1 hkk.1; subst this
        cases hsp : splice cs off (rep len z) with
        | none => rw [hsp] at hr'; cases hr'
        | some cs' =>
          rw [hsp] at hr'
          obtain ⟨rfl, rfl, rfl⟩ := ok_inv hr'
          obtain ⟨L, ad, cap, hl, h0, e1, h1⟩ := hp1.arr_inv
          rcases Nat.eq_zero_or_pos len with hl0 | hlp
          · subst hl0
            have := splice_nil _ _ _ hsp
            subst this
            exact ⟨_, .tuple #[], w, g, zero ad cap e1, .inl rfl, Ext.refl .., hW.congr (set_same (cellsAt_inv hcs)), .tup [] #[] rfl (fun k x e => by simp at e)⟩
          · rcases h1 with ⟨hl0, _, _⟩ | ⟨rfl, _⟩
            · omega
            · have hrep := rep_CV z2 len (ksz k') hzl hpos
              have hsz : zv.cells.size = ksz k' := by rw [← z2.1, hzl]
              have hzc : Builtin.zeroCells zv.cells len = (Array.range (len * ksz k')).map (zv.cells[· % zv.cells.size]!) := by simp only [Builtin.zeroCells, hsz]
              have hprep : ∀ n, plains (rep n z) = true := by
                intro n
                induction n with
                | zero => rfl
                | succ n ih => rw [rep, plains_append, hkk.2, ih]; rfl
              obtain ⟨w', r1, r2, r3⟩ := store_run (P := P) (us := (Builtin.zeroCells zv.cells len).toList) hW hl hcs hsp (hprep len) (by rw [hzc, hrep.1]; simp) (fun j x e => by
                rw [getD_toList, hzc]; exact hrep.2 j x e)
              refine ⟨.value (.tuple #[]), .tuple #[], w', g, ?_, .inl rfl, r2, r3, .tup [] #[] rfl (fun k x e => by simp at e)⟩
              rw [hcr]
              obtain ⟨n, rfl⟩ : ∃ n, len = n + 1 := ⟨len - 1, by omega⟩
              simp only [builtin, hargs', List.map_toArray, List.map_cons, List.map_nil, Builtin.clear_, ht0, a0, e1, Sem.run_bind, run_underlying hun, Result.andThen_ok, z1, r1, Sem.run_pure]
  | _ => cases hr
end
end Det
namespace Det
open Go

section
variable {P : Program} {T : PT TypeInfo} {E : List Nat} {GC : GT} {B0 : Nat} {g : Gh} {hp hp' : PT HO} {c c' : Nat} {w : World} {tm : PT AV} {a : Act}

/-- the cells of an object are not written any more -/
def Gh.still (g : Gh) (L : Loc) : Gh where
  loc := g.loc
  tag := fun x y => if x = L.b ∧ L.o ≤ y ∧ y < L.o + L.N then .ro else g.tag x y
  res := g.res

theorem WR.still {id : Nat} {L : Loc} {cs : List AV} (hW : WR GC B0 g hp c w) (hl : g.loc id = some L) (hc : cellsAt hp id = some cs) :
    Ext B0 g w (g.still L) w ∧ WR GC B0 (g.still L) (hp.set id .dead) c w ∧
      ∃ cv : Nat → Value, ∀ k x, cs[k]? = some x → (g.still L).tag L.b (L.o + k) = .ro ∧ cellAt w L.b (L.o + k) = some (cv k) ∧ VR (g.still L) w x (cv k) := by
  obtain ⟨o1, o2, o3, o4⟩ := hW.own hl hc
  have hlvid : live (hp.get id) = true := by rw [cellsAt_inv hc]; rfl
  have hext : Ext B0 g w (g.still L) w := by
    refine ⟨fun _ _ e => e, fun b o' e => ⟨?_, rfl⟩, fun _ _ => rfl, rfl, rfl, Nat.le_refl _, fun _ => Iff.rfl, fun b o' hb => by have := (hW.place _ _ hl).1; simp only [Gh.still]; rw [if_neg (by omega)]⟩
    simp only [Gh.still]
    split
    · rfl
    · exact e
  refine ⟨hext, ⟨fun i L' e => ?_, hW.fresh, fun b o' e => ?_, fun b o' i e => ?_, hW.place, fun i j L1 L2 e1 e2 eb v1 v2 => ?_, hW.base, hW.kept, fun gi cs0 e => ?_⟩, fun k => (cellAt w L.b (L.o + k)).getD undef, fun k x e => ?_⟩
  · by_cases hid : i = id
    · rw [hid, PT.get_set_same]; trivial
    · rw [PT.get_set_ne _ _ hid]
      cases hlv : live (hp.get i) with
      | false => exact Own1.of_dead hlv (fun es he => by have := hW.obj i L' e; rw [he] at this; exact this)
      | true =>
        have hne : L'.b ≠ L.b := fun h1 => hid (hW.uniq i id L' L e hl h1 hlv hlvid)
        refine (hW.obj i L' e).keep hext.sub (fun o' ht => ?_) rfl
        simp only [Gh.still]
        rw [if_neg (fun h => hne h.1)]
        exact ht
  · simp only [Gh.still] at e
    by_cases hb : b = L.b
    · have := (hW.place id L hl).2; omega
    · rw [if_neg (fun h => hb h.1)] at e
      exact hW.tagged b o' e
  · simp only [Gh.still] at e
    split at e
    · cases e
    · exact hW.owned b o' i e
  · have lv : ∀ i, live ((hp.set id .dead : PT HO).get i) = true → live (hp.get i) = true := by
      intro i v
      by_cases hid : i = id
      · rw [hid, PT.get_set_same] at v; cases v
      · rwa [PT.get_set_ne _ _ hid] at v
    exact hW.uniq i j L1 L2 e1 e2 eb (lv i v1) (lv j v2)
  · obtain ⟨cv, hcv⟩ := hW.glob gi cs0 e
    refine ⟨cv, fun k x hk => ?_⟩
    obtain ⟨k1, k2, k3⟩ := hcv k x hk
    exact ⟨(hext.ro _ _ k1).1, k2, k3.mono hext.sub⟩
  · have hk := (List.getElem?_eq_some_iff.1 e).1
    obtain ⟨cv, e1, e2⟩ := o4 k x e
    have e3 : (cellAt w L.b (L.o + k)).getD undef = cv := by rw [e1]; rfl
    refine ⟨if_pos ⟨rfl, by omega, by omega⟩, ?_, ?_⟩
    · simp only [e3]; exact e1
    · simp only [e3]; exact e2.mono hext.sub

theorem VR.weak {xs : List AV} {ex ex' : Bool} {v : Value} (h : VR g w (.sl xs ex) v) (he : ex' = true → ex = true) : VR g w (.sl xs ex') v := by
  cases h with
  | sl0 _ ad cap e => exact .sl0 _ ad cap (fun h => e (he h))
  | sl _ _ b o n cap cv kk hn hk h1 h2 hc h => exact .sl xs ex' b o n cap cv kk hn hk (fun h => h1 (he h)) h2 hc h

/-- the shape of a value is the model's -/
def shpV : Value → Option Nat
  | .agg vs => some vs.size
  | _ => none
theorem VR.shape {x : AV} {v : Value} (h : VR g w x v) : shp x = shpV v := by
  cases h <;> first | rfl | (rename_i h1 _; simp [shp, shpV, h1])

def FzOk (GC : GT) (B0 : Nat) (d : Nat) : Prop :=
  (∀ (g : Gh) (hp : PT HO) (c : Nat) (w : World) (ptrs canon : Bool) (x : AV) (v : Value) (y : AV) (hp' : PT HO), WR GC B0 g hp c w → VR g w x v → freeze d ptrs canon hp x = some (y, hp') →
    ∃ g', Ext B0 g w g' w ∧ WR GC B0 g' hp' c w ∧ VR g' w y v) ∧
  (∀ (xs : List AV) (g : Gh) (hp : PT HO) (c : Nat) (w : World) (ptrs canon : Bool) (cv : Nat → Value) (ys : List AV) (hp' : PT HO), WR GC B0 g hp c w → (∀ k x, xs[k]? = some x → VR g w x (cv k)) →
    freezes d ptrs canon hp xs = some (ys, hp') → ∃ g', Ext B0 g w g' w ∧ WR GC B0 g' hp' c w ∧ ys.length = xs.length ∧ ∀ k y, ys[k]? = some y → VR g' w y (cv k))

theorem freeze_ok (GC : GT) (B0 : Nat) : ∀ d, FzOk GC B0 d := by
  intro d
  induction d with
  | zero =>
    refine ⟨fun g hp c w ptrs canon x v y hp' hW hx h => ?_, fun xs g hp c w ptrs canon cv ys hp' hW hx h => ?_⟩
    · cases x with
      | arr id off len k => simp [freeze] at h
      | sl xs ex =>
        cases ptrs with
        | false =>
          simp only [freeze, Option.some.injEq, Prod.mk.injEq] at h
          obtain ⟨rfl, rfl⟩ := h
          exact ⟨g, Ext.refl .., hW, hx.weak (by simp; intro h _; exact h)⟩
        | true => simp [freeze] at h
      | ptr id off =>
        cases ptrs with
        | false =>
          simp only [freeze, Option.some.injEq, Prod.mk.injEq] at h
          obtain ⟨rfl, rfl⟩ := h
          exact ⟨g, Ext.refl .., hW, hx⟩
        | true => simp [freeze] at h
      | agg _ => simp [freeze] at h
      | tup _ => simp [freeze] at h
      | iface _ _ => simp [freeze] at h
      | _ =>
        simp only [freeze, Option.some.injEq, Prod.mk.injEq] at h
        obtain ⟨rfl, rfl⟩ := h
        exact ⟨g, Ext.refl .., hW, hx⟩
    · cases xs with
      | nil =>
        simp only [freezes, Option.some.injEq, Prod.mk.injEq] at h
        obtain ⟨rfl, rfl⟩ := h
        exact ⟨g, Ext.refl .., hW, rfl, fun k y e => by simp at e⟩
      | cons _ _ => simp [freezes] at h
  | succ d ih =>
    refine ⟨fun g hp c w ptrs canon x v y hp' hW hx h => ?_, fun xs g hp c w ptrs canon cv ys hp' hW hx h => ?_⟩
    · cases x with
      | arr id off len k =>
        simp only [freeze] at h
        cases hc : cellsAt hp id with
        | none => rw [hc] at h; cases h
        | some cs =>
          rw [hc] at h; simp only at h
          cases ht : takeN (len * ksz k) (dropN off cs) with
          | none => rw [ht] at h; cases h
          | some ds =>
            rw [ht] at h; simp only at h
            cases hf : freezes d ptrs canon (hp.set id .dead) ds with
            | none => rw [hf] at h; cases h
            | some q =>
              obtain ⟨es, hp2⟩ := q
              rw [hf] at h; simp only at h
              cases hch : chunk k len es with
              | none => rw [hch] at h; cases h
              | some xs =>
                rw [hch] at h
                simp only [Option.some.injEq, Prod.mk.injEq] at h
                obtain ⟨rfl, rfl⟩ := h
                obtain ⟨L, ad, cap, hl, h0, hv, h1⟩ := hx.arr_inv
                obtain ⟨s1, s2, cv, s3⟩ := hW.still hl hc
                obtain ⟨t1, t2⟩ := takeN_eq _ _ _ ht
                rw [dropN_eq] at t1 t2
                have hds : ∀ k' x, ds[k']? = some x → cs[off + k']? = some x := fun k' x e => by
                  rw [t2, List.getElem?_take] at e
                  split at e
                  · rw [List.getElem?_drop] at e; exact e
                  · cases e
                obtain ⟨g', f1, f2, f3, f4⟩ := ih.2 ds _ _ c w ptrs canon (fun k => cv (off + k)) es hp2 s2 (fun k x e => (s3 _ x (hds k x e)).2.2) hf
                refine ⟨g', s1.trans f1, f2, ?_⟩
                obtain ⟨c1, c2, c3, c4⟩ := chunk_eq len es xs hch
                subst hv
                rcases h1 with ⟨rfl, rfl, _⟩ | ⟨rfl, h1, h2, h3⟩
                · have : xs = [] := List.eq_nil_of_length_eq_zero c1
                  subst this
                  exact .sl0 _ _ _ (fun h => by cases h)
                · have hget : ∀ j x, (flat xs)[j]? = some x → es[j]? = some x := fun j x e => by
                    rw [c4, List.getElem?_take] at e
                    split at e
                    · exact e
                    · cases e
                  refine .sl xs false L.b (L.o + off) len cap (fun j => cv (off + j)) k c1.symm c2 (fun h => by cases h) h3 (fun j x e => ?_) (fun j x e => f4 j x (hget j x e))
                  have hj := (List.getElem?_eq_some_iff.1 (hget j x e)).1
                  have hjd : j < ds.length := by omega
                  have := s3 _ _ (hds j ds[j] (List.getElem?_eq_getElem hjd))
                  rw [Nat.add_assoc]
                  exact ⟨(f1.ro _ _ this.1).1, this.2.1⟩
      | sl xs ex =>
        cases ptrs with
        | false =>
          simp only [freeze, Option.some.injEq, Prod.mk.injEq] at h
          obtain ⟨rfl, rfl⟩ := h
          exact ⟨g, Ext.refl .., hW, hx.weak (by simp; intro h _; exact h)⟩
        | true =>
          simp only [freeze] at h
          cases hf : freezes d true canon hp xs with
          | none => rw [hf] at h; cases h
          | some q =>
            obtain ⟨ys, hp2⟩ := q
            rw [hf] at h
            simp only [Option.some.injEq, Prod.mk.injEq] at h
            obtain ⟨rfl, rfl⟩ := h
            obtain ⟨ad, cap, rfl, h1, h2, ⟨kk, h3⟩, h4⟩ := hx.sl_inv
            rcases h4 with rfl | ⟨b, o, cv, rfl, hcc, hrr⟩
            · have : freezes d true canon hp [] = some ([], hp) := by cases d <;> simp [freezes]
              rw [this] at hf
              simp only [Option.some.injEq, Prod.mk.injEq] at hf
              obtain ⟨rfl, rfl⟩ := hf
              exact ⟨g, Ext.refl .., hW, .sl0 _ _ _ (fun h => by simp only [Bool.and_eq_true] at h; exact h1 h.1)⟩
            · -- each element avz one value
              obtain ⟨g', f1, f2, f3, f4⟩ := ih.2 xs g hp c w true canon
                (fun i => match kk with | none => cv i | some n => .agg ((List.range n).map fun j => cv (i * n + j)).toArray) ys hp2 hW (fun i x e => by
                  have hs := h3 x (List.mem_of_getElem? e)
                  cases kk with
                  | none =>
                    have hfl := flat_plain xs h3
                    exact hrr i x (by rw [hfl]; exact e)
                  | some n =>
                    cases x <;> first | (cases hs; done) | skip
                    rename_i cs
                    simp only [shp, Option.some.injEq] at hs
                    refine .agg _ _ (by simp [hs]) (fun j z ez => ?_)
                    have hj : j < n := by have := (List.getElem?_eq_some_iff.1 ez).1; omega
                    have hfa := flat_at xs h3 e j (by simpa [ksz] using hj)
                    simp only [ksz] at hfa
                    have := hrr (i * n + j) z (by rw [hfa]; exact ez)
                    have e2 : (((List.range n).map fun j => cv (i * n + j)).toArray).getD j undef = cv (i * n + j) := by
                      simp [Array.getD_eq_getD_getElem?, hj]
                    rw [e2]; exact this) hf
              have hys : ∀ y, y ∈ ys → shp y = kk := fun y hy => by
                obtain ⟨i, hi, ei⟩ := List.mem_iff_getElem.1 hy
                have := (f4 i y (by rw [List.getElem?_eq_getElem hi, ei])).shape
                rw [this]
                have hx0 := h3 (xs[i]'(by omega)) (List.getElem_mem _)
                cases kk with
                | none =>
                  have e0 : xs[i]? = some (xs[i]'(by omega)) := List.getElem?_eq_getElem (by omega)
                  have hfl := flat_plain xs h3
                  have := (hrr i _ (by rw [hfl]; exact e0)).shape
                  simp only; rw [← this]; exact hx0
                | some n => simp [shpV]
              refine ⟨g', f1, f2, .sl ys _ b o xs.length cap cv kk f3.symm hys (fun h => by simp only [Bool.and_eq_true] at h; exact h1 h.1) h2 (fun j x e => ?_) (fun j x e => ?_)⟩
              · have hjy := (List.getElem?_eq_some_iff.1 e).1
                have hjx : j < (flat xs).length := by rw [flat_len xs h3, ← f3, ← flat_len ys hys]; exact hjy
                have := hcc j _ (List.getElem?_eq_getElem hjx)
                exact ⟨(f1.ro _ _ this.1).1, this.2⟩
              · -- which element, which of its cells
                have hjy := (List.getElem?_eq_some_iff.1 e).1
                cases kk with
                | none =>
                  have hfl := flat_plain ys hys
                  rw [hfl] at e
                  exact f4 j x e
                | some n =>
                  rw [flat_len ys hys] at hjy
                  simp only [ksz] at hjy
                  have hn : 0 < n := by
                    rcases Nat.eq_zero_or_pos n with h0 | h0
                    · subst h0; omega
                    · exact h0
                  have hi : j / n < ys.length := (Nat.div_lt_iff_lt_mul hn).2 hjy
                  have hdm : j / n * n + j % n = j := Nat.div_add_mod' j n
                  have hfa := flat_at ys hys (List.getElem?_eq_getElem hi) (j % n) (by simpa [ksz] using Nat.mod_lt j hn)
                  simp only [ksz] at hfa
                  rw [hdm, e] at hfa
                  have hv := f4 (j / n) _ (List.getElem?_eq_getElem hi)
                  simp only at hv
                  have hsh := hys _ (List.getElem_mem hi)
                  revert hv hfa hsh
                  generalize ys[j / n] = yy
                  intro hfa hv hsh
                  cases yy <;> first | (cases hsh; done) | skip
                  rename_i cs
                  obtain ⟨us, e1, e2, e3⟩ := hv.agg_inv
                  have := e3 (j % n) x hfa.symm
                  simp only [Value.agg.injEq] at e1
                  rw [← e1] at this
                  have e4 : (((List.range n).map fun q => cv (j / n * n + q)).toArray).getD (j % n) undef = cv j := by
                    simp [Array.getD_eq_getD_getElem?, Nat.mod_lt j hn, hdm]
                  rw [e4] at this
                  exact this
      | agg cs =>
        simp only [freeze] at h
        cases hf : freezes d ptrs canon hp cs with
        | none => rw [hf] at h; cases h
        | some q =>
          obtain ⟨ys, hp2⟩ := q
          rw [hf] at h
          simp only [Option.some.injEq, Prod.mk.injEq] at h
          obtain ⟨rfl, rfl⟩ := h
          obtain ⟨us, rfl, e1, e2⟩ := hx.agg_inv
          obtain ⟨g', f1, f2, f3, f4⟩ := ih.2 cs g hp c w ptrs canon (fun k => us.getD k undef) ys hp2 hW e2 hf
          exact ⟨g', f1, f2, .agg _ _ (by omega) f4⟩
      | tup cs =>
        simp only [freeze] at h
        cases hf : freezes d ptrs canon hp cs with
        | none => rw [hf] at h; cases h
        | some q =>
          obtain ⟨ys, hp2⟩ := q
          rw [hf] at h
          simp only [Option.some.injEq, Prod.mk.injEq] at h
          obtain ⟨rfl, rfl⟩ := h
          obtain ⟨us, rfl, e1, e2⟩ := hx.tup_inv
          obtain ⟨g', f1, f2, f3, f4⟩ := ih.2 cs g hp c w ptrs canon (fun k => us.getD k undef) ys hp2 hW e2 hf
          exact ⟨g', f1, f2, .tup _ _ (by omega) f4⟩
      | iface t x =>
        simp only [freeze] at h
        cases hf : freeze d ptrs canon hp x with
        | none => rw [hf] at h; cases h
        | some q =>
          obtain ⟨y', hp2⟩ := q
          rw [hf] at h
          simp only [Option.some.injEq, Prod.mk.injEq] at h
          obtain ⟨rfl, rfl⟩ := h
          obtain ⟨u, rfl, e1⟩ := hx.iface_inv
          obtain ⟨g', f1, f2, f3⟩ := ih.1 g hp c w ptrs canon x u y' hp2 hW e1 hf
          exact ⟨g', f1, f2, .iface _ _ _ f3⟩
      | ptr id off =>
        cases ptrs with
        | false =>
          simp only [freeze, Option.some.injEq, Prod.mk.injEq] at h
          obtain ⟨rfl, rfl⟩ := h
          exact ⟨g, Ext.refl .., hW, hx⟩
        | true =>
          simp only [freeze] at h
          cases hc : cellsAt hp id with
          | none => rw [hc] at h; cases h
          | some cs =>
            rw [hc] at h; simp only at h
            cases hf : freezes d true canon (hp.set id .dead) cs with
            | none => rw [hf] at h; cases h
            | some q =>
              obtain ⟨es, hp2⟩ := q
              rw [hf] at h
              simp only [Option.some.injEq, Prod.mk.injEq] at h
              obtain ⟨rfl, rfl⟩ := h
              obtain ⟨L, hl, rfl⟩ := hx.ptr_inv
              obtain ⟨s1, s2, cv, s3⟩ := hW.still hl hc
              obtain ⟨g', f1, f2, f3, f4⟩ := ih.2 cs _ _ c w true canon cv es hp2 s2 (fun k x e => (s3 k x e).2.2) hf
              refine ⟨g', s1.trans f1, f2, .rop es off L.b L.o cv (fun k x e => ?_) f4⟩
              have hk := (List.getElem?_eq_some_iff.1 e).1
              have := s3 k _ (List.getElem?_eq_getElem (show k < cs.length by omega))
              exact ⟨(f1.ro _ _ this.1).1, this.2.1⟩
      | _ =>
        simp only [freeze, Option.some.injEq, Prod.mk.injEq] at h
        obtain ⟨rfl, rfl⟩ := h
        exact ⟨g, Ext.refl .., hW, hx⟩
    · cases xs with
      | nil =>
        simp only [freezes, Option.some.injEq, Prod.mk.injEq] at h
        obtain ⟨rfl, rfl⟩ := h
        exact ⟨g, Ext.refl .., hW, rfl, fun k y e => by simp at e⟩
      | cons x xs =>
        simp only [freezes] at h
        cases hf : freeze d ptrs canon hp x with
        | none => rw [hf] at h; cases h
        | some q =>
          obtain ⟨y, hp1⟩ := q
          rw [hf] at h; simp only at h
          cases hg : freezes d ptrs canon hp1 xs with
          | none => rw [hg] at h; cases h
          | some q2 =>
            obtain ⟨ys', hp2⟩ := q2
            rw [hg] at h
            simp only [Option.some.injEq, Prod.mk.injEq] at h
            obtain ⟨rfl, rfl⟩ := h
            obtain ⟨g1, f1, f2, f3⟩ := ih.1 g hp c w ptrs canon x (cv 0) y hp1 hW (hx 0 x rfl) hf
            obtain ⟨g2, k1, k2, k3, k4⟩ := ih.2 xs g1 hp1 c w ptrs canon (fun k => cv (k + 1)) ys' hp2 f2 (fun k z e => (hx (k + 1) z (by simpa using e)).mono f1.sub) hg
            refine ⟨g2, f1.trans k1, k2, by simp [k3], fun k z e => ?_⟩
            cases k with
            | zero => simp only [List.getElem?_cons_zero, Option.some.injEq] at e; subst e; exact f3.mono k1.sub
            | succ k => exact k4 k z (by simpa using e)
end
end Det
namespace Det
open Go

section
variable {P : Program} {T : PT TypeInfo} {E : List Nat} {GC : GT} {B0 : Nat} {g : Gh} {hp hp' : PT HO} {c c' : Nat} {w : World} {tm : PT AV} {a : Act}
variable {o : Oper} {d : DOp} {l : List Opd} {vs : List AV} {v : AV} {fz : Bool}

theorem zip2_ok {s : Nat} : ∀ (is : List Nat) (vs : List AV) (us : List Value) (g : Gh) (hp : PT HO) (q : List (Nat × Nat × AV)) (hq : PT HO), WR GC B0 g hp c w → VRs g w vs us →
    zip2 fz s hp is vs = some (q, hq) → ∃ g', Ext B0 g w g' w ∧ WR GC B0 g' hq c w ∧ PR g' w (fun i => some (i * s, s)) q (is.zip us)
  | [], [], us, g, hp, q, hq, hW, hv, h => by
    simp only [zip2, Option.some.injEq, Prod.mk.injEq] at h
    obtain ⟨rfl, rfl⟩ := h
    exact ⟨g, Ext.refl .., hW, by simp [PR]⟩
  | i :: is, v :: vs, us, g, hp, q, hq, hW, hv, h => by
    cases us with
    | nil => exact hv.elim
    | cons u us =>
      simp only [zip2] at h
      have h1 : ∃ g1 v' hp1, (bif fz then freeze 100000 false false hp v else some (v, hp)) = some (v', hp1) ∧ Ext B0 g w g1 w ∧ WR GC B0 g1 hp1 c w ∧ VR g1 w v' u := by
        cases fz with
        | false => exact ⟨g, v, hp, rfl, Ext.refl .., hW, hv.1⟩
        | true =>
          simp only [cond_true] at h ⊢
          cases hf : freeze 100000 false false hp v with
          | none => rw [hf] at h; cases h
          | some r =>
            obtain ⟨v', hp1⟩ := r
            obtain ⟨g1, f1, f2, f3⟩ := (freeze_ok GC B0 100000).1 g hp c w false false v u v' hp1 hW hv.1 hf
            exact ⟨g1, v', hp1, rfl, f1, f2, f3⟩
      obtain ⟨g1, v', hp1, e1, f1, f2, f3⟩ := h1
      rw [e1] at h; simp only at h
      cases h2 : zip2 fz s hp1 is vs with
      | none => rw [h2] at h; cases h
      | some r =>
        obtain ⟨r1, r2⟩ := r
        rw [h2] at h; simp only [Option.some.injEq, Prod.mk.injEq] at h
        obtain ⟨rfl, rfl⟩ := h
        obtain ⟨g2, k1, k2, k3⟩ := zip2_ok is vs us g1 hp1 r1 r2 f2 (hv.2.mono f1.sub) h2
        exact ⟨g2, f1.trans k1, k2, rfl, f3.mono k1.sub, k3⟩
  | [], _ :: _, us, g, hp, q, hq, hW, hv, h => by simp [zip2] at h
  | _ :: _, [], us, g, hp, q, hq, hW, hv, h => by simp [zip2] at h

theorem sim_buildSlice' {t : TypeId} {len : Nat} {ps : Array (Nat × Operand)} (hL : Link P T E) (ho : o.op = .buildSlice t len ps)
    (hc : compOp GC T E fz (.buildSlice t len ps) = some (d, l)) (hv : opvs tm l = some vs)
    (hW : WR GC B0 g hp c w) (hT : TM g w tm a) (hr : opRun d vs hp c = some (v, hp', c')) : Sim P GC B0 g w a o hp' c' v := by
  obtain ⟨e, k, z, hu, hk, hz, hsm, hzl, hc⟩ := lits_inv hc
  obtain ⟨rfl, hvs⟩ := cs_inv hc hv hW hT
  have hr' : (match zip2 fz (ksz k) hp (ps.toList.map (·.1)) vs with
    | some (l, hp) => (match fill (rep len z) l with
      | some cs => (match chunk k len cs with | some xs => ok (.sl xs true) hp c | none => none)
      | none => none)
    | none => none) = some (v, hp', c') := hr
  cases h2 : zip2 fz (ksz k) hp (ps.toList.map (·.1)) vs with
  | none => rw [h2] at hr'; cases hr'
  | some q =>
    obtain ⟨q, hq⟩ := q
    rw [h2] at hr'; simp only at hr'
    cases h3 : fill (rep len z) q with
    | none => rw [h3] at hr'; cases hr'
    | some cs' =>
      rw [h3] at hr'; simp only at hr'
      cases h4 : chunk k len cs' with
      | none => rw [h4] at hr'; cases hr'
      | some xs =>
        rw [h4] at hr'
        obtain ⟨rfl, rfl, rfl⟩ := ok_inv hr'
        obtain ⟨g1, f1, f2, f3⟩ := zip2_ok _ _ _ _ _ _ _ hW hvs h2
        rw [← parts_eq] at f3
        obtain ⟨nx, cv, w', g', s1, s2, s3, s4, s5⟩ := sliceLit (P := P) hL hu hk hz hsm hzl ho f2 f3 h3 h4
        exact ⟨nx, cv, w', g', s1, s2, f1.trans s3, s4, s5⟩

theorem sim_builtin {cl : Call} {b : Builtin} (hL : Link P T E) (ho : o.op = .call cl) (hb : cl.callee = .builtin b) (hc : compBuiltin GC T b cl.argTypes.toList cl.args.toList = some (d, l)) (hv : opvs tm l = some vs)
    (hW : WR GC B0 g hp c w) (hT : TM g w tm a) (hr : opRun d vs hp c = some (v, hp', c')) : Sim P GC B0 g w a o hp' c' v := by
  unfold compBuiltin at hc
  split at hc
  · rename_i t r x hts hargs
    have ht0 : cl.argTypes[0]? = some t := by rw [show cl.argTypes = (t :: r).toArray from by rw [← hts]]; simp
    split at hc
    · rename_i hu; exact (sim_len (s := true) hL ho hb hargs ht0 hu hc hv hW hT hr).sim hW
    · rename_i e hu; exact (sim_len (s := false) hL ho hb hargs ht0 ⟨e, hu⟩ hc hv hW hT hr).sim hW
    · cases hc
  · rename_i t r x y hts hargs
    split at hc
    · rename_i e he
      split at hc
      · rename_i k z hk hz hsm
        cases hbz : Nat.beq z.length (ksz k) with
        | false => rw [hbz] at hc; cases hc
        | true =>
          rw [hbz] at hc
          exact sim_append hL ho hb hargs hts (elemOf_inv he) hk hz hsm (Nat.eq_of_beq_eq_true hbz) hc hv hW hT hr
      · cases hc
    · cases hc
  · rename_i t r x y hts hargs
    split at hc
    · rename_i e he
      split at hc
      · rename_i k hk
        exact sim_copy hL ho hb hargs hts (elemOf_inv he) hk hc hv hW hT hr
      · cases hc
    · cases hc
  · rename_i t r x hts hargs
    split at hc
    · rename_i e he
      split at hc
      · rename_i k z hk hz
        cases hbz : Nat.beq z.length (ksz k) with
        | false => rw [hbz] at hc; cases hc
        | true =>
          rw [hbz] at hc
          exact sim_clear hL ho hb hargs hts (elemOf_inv he) hk hz (Nat.eq_of_beq_eq_true hbz) hc hv hW hT hr
      · cases hc
    · cases hc
  · rename_i x y hargs
    exact (sim_min ho hb hargs hc hv hW hT hr).sim hW
  · rename_i x y hargs
    exact (sim_max ho hb hargs hc hv hW hT hr).sim hW
  · cases hc

theorem sim_slices {t : TypeId} {x : Operand} {lo hi mx : Option Operand} (hL : Link P T E) (ho : o.op = .slice t x lo hi mx) (hc : compSlice GC T t x lo hi mx = some (d, l)) (hv : opvs tm l = some vs)
    (hW : WR GC B0 g hp c w) (hT : TM g w tm a) (hr : opRun d vs hp c = some (v, hp', c')) : Sim P GC B0 g w a o hp' c' v := by
  have none_of : mx.isNone = true → mx = none := fun h => by cases mx <;> simp_all
  unfold compSlice at hc
  simp only at hc
  split at hc
  · rename_i hu
    cases hm : mx.isNone with
    | false => rw [hm] at hc; cases hc
    | true =>
      rw [hm] at hc
      have := none_of hm; subst this
      exact (sim_sliceStr hL hu ho hc hv hW hT hr).sim hW
  · rename_i e hu
    split at hc
    · rename_i k hk; exact (sim_slice hL hu hk ho hc hv hW hT hr).sim hW
    · cases hc
  · rename_i n e hu
    cases hm : mx.isNone with
    | false => rw [hm] at hc; cases hc
    | true =>
      rw [hm] at hc; simp only [cond_true] at hc
      have := none_of hm; subst this
      split at hc
      · rename_i k hk; exact (sim_sliceArr hL (.inl hu) hk ho hc hv hW hT hr).sim hW
      · cases hc
  · rename_i s hu
    split at hc
    · rename_i n e hu2
      cases hm : mx.isNone with
      | false => rw [hm] at hc; cases hc
      | true =>
        rw [hm] at hc; simp only [cond_true] at hc
        have := none_of hm; subst this
        split at hc
        · rename_i k hk; exact (sim_sliceArr hL (.inr ⟨s, hu, hu2⟩) hk ho hc hv hW hT hr).sim hW
        · cases hc
    · cases hc
  · cases hc

theorem sim_convs {s t : TypeId} {x : Operand} (hL : Link P T E) (ho : o.op = .convert s t x) (hc : compConv GC T s t x = some (d, l)) (hv : opvs tm l = some vs)
    (hW : WR GC B0 g hp c w) (hT : TM g w tm a) (hr : opRun d vs hp c = some (v, hp', c')) : Sim P GC B0 g w a o hp' c' v := by
  have hc0 := hc
  have plain : d ≠ .strBytes → d ≠ .bytesStr → d ≠ .runesStr → Sim P GC B0 g w a o hp' c' v := fun h1 h2 h3 => (sim_conv hL ho hc0 hv hW hT h1 h2 h3 hr).sim hW
  unfold compConv at hc
  split at hc
  · obtain ⟨rfl, _⟩ := c1_inv hc hv hW hT; exact plain (by simp) (by simp) (by simp)
  · obtain ⟨rfl, _⟩ := c1_inv hc hv hW hT; exact plain (by simp) (by simp) (by simp)
  · obtain ⟨rfl, _⟩ := c1_inv hc hv hW hT; exact plain (by simp) (by simp) (by simp)
  · rename_i e h1 h2
    split at hc
    · rename_i h3; exact sim_strBytes hL h1 h2 h3 ho hc hv hW hT hr
    · cases hc
  · rename_i e h1 h2
    split at hc
    · rename_i h3; exact (sim_bytesStr hL h1 h2 h3 ho hc hv hW hT hr).sim hW
    · rename_i h3; exact (sim_runesStr hL h1 h2 h3 ho hc hv hW hT hr).sim hW
    · cases hc
  · cases hc

/-- calls of functions are told apart -/
def isCall : DOp → Bool
  | .callF _ => true
  | .callV => true
  | _ => false

/-- every operation that calls no function -/
theorem sim_op (hL : Link P T E) (hc : compOp GC T E fz o.op = some (d, l)) (hv : opvs tm l = some vs)
    (hW : WR GC B0 g hp c w) (hT : TM g w tm a) (hr : opRun d vs hp c = some (v, hp', c')) : Sim P GC B0 g w a o hp' c' v := by
  have hc0 := hc
  cases ho : o.op with
  | move x => rw [ho] at hc; exact (sim_move (by simp [execOp, ho]) hc hv hW hT hr).sim hW
  | assign x => rw [ho] at hc; exact (sim_move (by simp [execOp, ho]) hc hv hW hT hr).sim hW
  | pick x y z => rw [ho] at hc; exact (sim_pick ho hc hv hW hT hr).sim hW
  | alloc t =>
    rw [ho] at hc; simp only [compOp] at hc
    split at hc
    · rename_i z hz
      simp only [Option.some.injEq, Prod.mk.injEq] at hc
      obtain ⟨rfl, rfl⟩ := hc
      simp only [opvs, Option.some.injEq] at hv; subst hv
      exact sim_alloc hL hz ho hW hr
    · cases hc
  | box t x => rw [ho] at hc; exact sim_box ho hc hv hW hT hr
  | build t ps => rw [ho] at hc; exact (sim_build hL ho hc hv hW hT hr).sim hW
  | buildSlice t n ps => rw [ho] at hc; exact sim_buildSlice' hL ho hc hv hW hT hr
  | load t x =>
    rw [ho] at hc; simp only [compOp] at hc
    split at hc
    · rename_i k hk; exact (sim_load hL hk ho hc hv hW hT hr).sim hW
    · cases hc
  | store t x y =>
    rw [ho] at hc; simp only [compOp] at hc
    split at hc
    · rename_i k hk; exact sim_store hL hk ho hc hv hW hT hr
    · cases hc
  | nilCheck x => rw [ho] at hc; exact (sim_nilCheck ho hc hv hW hT hr).sim hW
  | binOp op t x y ty =>
    rw [ho] at hc; simp only [compOp] at hc
    have eqs : ∀ (neg : Bool) (op : BinOp), op = (if neg then .neq else .eql) → o.op = .binOp op t x y ty →
        (match under T t with | .int _ => c2 GC (.bin op) x y | .string => c2 GC (.bin op) x y | _ => c2 GC (.eq (eqD T E t (lit x || lit y) (nilC y)) neg) x y) = some (d, l) → Sim P GC B0 g w a o hp' c' v := by
      intro neg op hop ho hc
      cases hu : under T t <;> rw [hu] at hc <;> simp only at hc <;> first
        | exact (sim_bin ho hc hv hW hT hr).sim hW
        | exact (sim_eq hL hop (by rw [hu]; simp) (by rw [hu]; simp) ho hc hv hW hT hr).sim hW
    cases op <;> first
      | exact eqs false _ rfl ho hc
      | exact eqs true _ rfl ho hc
      | exact (sim_bin ho hc hv hW hT hr).sim hW
  | unOp op t x => rw [ho] at hc; exact (sim_un ho hc hv hW hT hr).sim hW
  | convert s t x => rw [ho] at hc; exact sim_convs hL ho hc hv hW hT hr
  | makeInterface t x => rw [ho] at hc; exact (sim_iface hL ho hc hv hW hT hr).sim hW
  | makeFunc f x y =>
    rw [ho] at hc
    cases f with
    | func f => exact (sim_fn ho hc hv hW hT hr).sim hW
    | _ => cases hc
  | makeSlice t x y =>
    rw [ho] at hc; simp only [compOp] at hc
    split at hc
    · rename_i e he
      split at hc
      · rename_i k z hk hz
        cases hb : smallB T e && Nat.beq z.length (ksz k) with
        | false => rw [hb] at hc; cases hc
        | true =>
          rw [hb] at hc; simp only [cond_true] at hc
          simp only [Bool.and_eq_true] at hb
          exact sim_makeSlice hL (elemOf_inv he) hk hz hb.1 (Nat.eq_of_beq_eq_true hb.2) ho hc hv hW hT hr
      · cases hc
    · cases hc
  | slice t x lo hi mx => rw [ho] at hc; exact sim_slices hL ho hc hv hW hT hr
  | fieldAddr s x f =>
    rw [ho] at hc; simp only [compOp] at hc
    split at hc
    · rename_i fs hu
      split at hc
      · rename_i fl hf
        cases hb : Nat.beq (size T fl.type) 0 with
        | true => rw [hb] at hc; cases hc
        | false =>
          rw [hb] at hc
          exact (sim_fieldAddr hL hu hf hb ho hc hv hW hT hr).sim hW
      · cases hc
    · cases hc
  | field t x f =>
    rw [ho] at hc; simp only [compOp] at hc
    split at hc
    · rename_i fs hu
      split at hc
      · rename_i fl hf
        split at hc
        · rename_i k hk; exact (sim_field hL hu hf hk ho hc hv hW hT hr).sim hW
        · cases hc
      · cases hc
    · cases hc
  | indexAddr t x y =>
    rw [ho] at hc; simp only [compOp] at hc
    split at hc
    · rename_i e hu
      split at hc
      · rename_i k hk; exact (sim_indexAddr hL hu hk ho hc hv hW hT hr).sim hW
      · cases hc
    · rename_i n e hu
      split at hc
      · rename_i k hk; exact (sim_indexArr hL hu hk ho hc hv hW hT hr).sim hW
      · cases hc
    · cases hc
  | index t x y =>
    rw [ho] at hc; simp only [compOp] at hc
    split at hc
    · rename_i hu; exact (sim_indexStr hL hu ho hc hv hW hT hr).sim hW
    · rename_i n e hu
      split at hc
      · rename_i k hk; exact (sim_indexAgg hL hu hk ho hc hv hW hT hr).sim hW
      · cases hc
    · cases hc
  | range t x =>
    rw [ho] at hc; simp only [compOp] at hc
    split at hc
    · rename_i hu; exact sim_range hL hu ho hc hv hW hT hr
    · cases hc
  | next x b =>
    rw [ho] at hc
    cases b with
    | true => exact sim_next ho hc hv hW hT hr
    | false => cases hc
  | typeAssert x xt t o' =>
    rw [ho] at hc; simp only [compOp] at hc
    split at hc
    · cases hc
    · cases hc
    · rename_i h1 h2
      split at hc
      · rename_i z hz
        exact (sim_assertT hL (fun h => h2 h) (fun ms h => h1 ms h) hz ho hc hv hW hT hr).sim hW
      · cases hc
  | extract x i => rw [ho] at hc; exact (sim_extract ho hc hv hW hT hr).sim hW
  | call cl =>
    rw [ho] at hc; simp only [compOp] at hc
    split at hc
    · obtain ⟨rfl, _⟩ := cs_inv hc hv hW hT; cases hr
    · obtain ⟨rfl, _⟩ := cs_inv hc hv hW hT; cases hr
    · rename_i b hb; exact sim_builtin hL ho hb hc hv hW hT hr
    · cases hc
  | _ => rw [ho] at hc; cases hc
end
end Det
namespace Det
open Go

/-- all slots have a value -/
def Full (tm : PT AV) (a : Act) : Prop := ∀ n, n < a.tmps.size → tm.get n ≠ none

theorem Full.put {tm tm' : PT AV} {a : Act} (h : Full tm a) {d : Option Nat} {v : AV} {cv : Value} (hp : putT tm d v = some tm') : Full tm' (a.put d cv) := by
  cases d with
  | none => simp only [putT, Option.some.injEq] at hp; subst hp; exact h
  | some d =>
    simp only [putT] at hp
    cases hd : tm.get d with
    | none => rw [hd] at hp; cases hp
    | some u =>
      rw [hd] at hp; simp only [Option.some.injEq] at hp; subst hp
      intro n hn
      have hsz : (a.put (some d) cv).tmps.size = a.tmps.size := by simp [Act.put]
      rw [hsz] at hn
      rw [PT.get_set]
      split
      · simp
      · exact h n hn

/-- what a function call does -/
def CallPost (GC : GT) (B0 : Nat) (g : Gh) (w : World) (v : AV) (hp' : PT HO) (c' : Nat) : Ending → World → Prop
  | .returned cv, w' => ∃ g', Ext B0 g w g' w' ∧ WR GC B0 g' hp' c' w' ∧ VR g' w' v cv
  | _, _ => False

def CallOk (P : Program) (GC : GT) (B0 : Nat) (rec : Task → PT HO → Nat → Option Out) : Prop :=
  ∀ (f : Nat) (args : List AV) (hp : PT HO) (c : Nat) (v : AV) (hp' : PT HO) (c' : Nat) (g : Gh) (w : World) (us : List Value),
    rec (.call f args) hp c = some (.v v hp' c') → WR GC B0 g hp c w → VRs g w args us → Calls P f us.toArray w (CallPost GC B0 g w v hp' c')

/-- the function numbers name functions with a body -/
def Bodied (P : Program) (f : Nat) : Prop := ∃ fn, P.funcs[f]? = some fn ∧ fn.body.isSome = true ∧ fn.name ≠ "runtime.NumGoroutine"

/-- what code does -/
structure Done (GC : GT) (B0 : Nat) (g : Gh) (w : World) (tm' : PT AV) (hp' : PT HO) (c' : Nat) (a' : Act) (w' : World) : Prop where
  ex : ∃ g', Ext B0 g w g' w' ∧ WR GC B0 g' hp' c' w' ∧ TM g' w' tm' a'
  full : Full tm' a'
  defers : a'.defers = []

def Post (GC : GT) (B0 : Nat) (g : Gh) (w : World) (e : Ex) (tm' : PT AV) (hp' : PT HO) (c' : Nat) : Exit → Act → World → Prop
  | .normal, a', w' => e = .normal ∧ Done GC B0 g w tm' hp' c' a' w'
  | .exit i, a', w' => e = .exit i ∧ Done GC B0 g w tm' hp' c' a' w'
  | .ret, a', w' => e = .ret ∧ Done GC B0 g w tm' hp' c' a' w'
  | _, _, _ => False

theorem Done.mono {GC : GT} {B0 : Nat} {g g1 : Gh} {w w1 : World} {tm' : PT AV} {hp' : PT HO} {c' : Nat} {a' : Act} {w' : World} (h : Ext B0 g w g1 w1)
    (hd : Done GC B0 g1 w1 tm' hp' c' a' w') : Done GC B0 g w tm' hp' c' a' w' := by
  obtain ⟨⟨g', h1, h2, h3⟩, h4, h5⟩ := hd
  exact ⟨⟨g', h.trans h1, h2, h3⟩, h4, h5⟩
theorem Post.mono {GC : GT} {B0 : Nat} {g g1 : Gh} {w w1 : World} {e : Ex} {tm' : PT AV} {hp' : PT HO} {c' : Nat} (h : Ext B0 g w g1 w1) {x : Exit} {a' : Act} {w' : World}
    (hd : Post GC B0 g1 w1 e tm' hp' c' x a' w') : Post GC B0 g w e tm' hp' c' x a' w' := by
  cases x <;> first | exact ⟨hd.1, hd.2.mono h⟩ | exact hd.elim

section
variable {P : Program} {T : PT TypeInfo} {E : List Nat} {GC : GT} {B0 : Nat} {g : Gh} {hp hp' : PT HO} {c c' : Nat} {w : World} {tm tm' : PT AV} {a : Act}
variable {rec : Task → PT HO → Nat → Option Out} {fz : Bool}

theorem callFunc_run {f : Nat} (h : Bodied P f) (args : Array Value) (w : World) : (callFunc f args).run P w = .ok (.enter f args) w := by
  obtain ⟨fn, h1, h2, h3⟩ := h
  have h5 : fn.body ≠ none := by cases hb : fn.body <;> simp_all
  simp [callFunc, h1, h3, h5]

/-- what a call operation comes to -/
theorem call_resolves {o : Oper} {cl : Call} {x : Operand} {f : Nat} {x' y' : Array Value} (ho : o.op = .call cl) (hcal : cl.callee = .value x) (hx : a.eval x = .func (.func f) x' y') (hb : Bodied P f) :
    (execOp a.eval o).run P w = .ok (.enter f (x' ++ cl.args.map a.eval ++ y')) w := by
  simp only [execOp, ho, resolve, hcal, hx, Deferred.ofValue, Sem.run_bind, Sem.run_pure, Result.andThen_ok, invoke, callFunc_run hb]

theorem VRs.append : ∀ {xs ys : List AV} {us vs : List Value}, VRs g w xs us → VRs g w ys vs → VRs g w (xs ++ ys) (us ++ vs)
  | [], _, [], _, _, h => h
  | _ :: _, _, _ :: _, _, h1, h2 => ⟨h1.1, VRs.append h1.2 h2⟩
  | [], _, _ :: _, _, h, _ => h.elim
  | _ :: _, _, [], _, h, _ => h.elim

theorem VRs.of : ∀ {xs : List AV} {us : List Value}, xs.length = us.length → (∀ k x, xs[k]? = some x → VR g w x (us.getD k undef)) → VRs g w xs us
  | [], [], _, _ => trivial
  | x :: xs, u :: us, h1, h2 => ⟨by simpa using h2 0 x rfl, VRs.of (by simpa using h1) (fun k z e => by simpa using h2 (k + 1) z (by simpa using e))⟩
  | [], _ :: _, h, _ => by simp at h
  | _ :: _, [], h, _ => by simp at h

theorem c1_d {q : DOp} {x : Operand} {d : DOp} {l : List Opd} (h : c1 GC q x = some (d, l)) : d = q := by
  unfold c1 at h; split at h
  · simp only [Option.some.injEq, Prod.mk.injEq] at h; exact h.1.symm
  · cases h
theorem c2_d {q : DOp} {x y : Operand} {d : DOp} {l : List Opd} (h : c2 GC q x y = some (d, l)) : d = q := by
  unfold c2 at h; split at h
  · simp only [Option.some.injEq, Prod.mk.injEq] at h; exact h.1.symm
  · cases h
theorem c3_d {q : DOp} {x y z : Operand} {d : DOp} {l : List Opd} (h : c3 GC q x y z = some (d, l)) : d = q := by
  unfold c3 at h; split at h
  · simp only [Option.some.injEq, Prod.mk.injEq] at h; exact h.1.symm
  · cases h
theorem cs_d {q : DOp} {xs : List Operand} {d : DOp} {l : List Opd} (h : cs GC q xs = some (d, l)) : d = q := by
  unfold cs at h; split at h
  · simp only [Option.some.injEq, Prod.mk.injEq] at h; exact h.1.symm
  · cases h
theorem cond_l {α : Type} {b : Bool} {x : Option α} {y : α} (h : (bif b then x else none) = some y) : x = some y := by
  cases b with
  | true => exact h
  | false => cases h
theorem cond_r {α : Type} {b : Bool} {x : Option α} {y : α} (h : (bif b then none else x) = some y) : x = some y := by
  cases b with
  | false => exact h
  | true => cases h

theorem slice_notCall {t : TypeId} {x : Operand} {lo hi mx : Option Operand} {d : DOp} {l : List Opd} (hc : compSlice GC T t x lo hi mx = some (d, l)) : isCall d = false := by
  unfold compSlice at hc
  simp only at hc
  split at hc
  · rw [cs_d (cond_l hc)]; rfl
  · split at hc
    · rw [cs_d hc]; rfl
    · cases hc
  · have hc := cond_l hc
    split at hc
    · rw [cs_d hc]; rfl
    · cases hc
  · split at hc
    · have hc := cond_l hc
      split at hc
      · rw [cs_d hc]; rfl
      · cases hc
    · cases hc
  · cases hc
theorem conv_notCall {s t : TypeId} {x : Operand} {d : DOp} {l : List Opd} (hc : compConv GC T s t x = some (d, l)) : isCall d = false := by
  unfold compConv at hc
  split at hc
  · rw [c1_d hc]; rfl
  · rw [c1_d hc]; rfl
  · rw [c1_d hc]; rfl
  · split at hc
    · rw [c1_d hc]; rfl
    · cases hc
  · split at hc
    · rw [c1_d hc]; rfl
    · rw [c1_d hc]; rfl
    · cases hc
  · cases hc

theorem comp_notCall {op : Op} {d : DOp} {l : List Opd} (ho : ∀ cl, op ≠ .call cl) (hc : compOp GC T E fz op = some (d, l)) : isCall d = false := by
  cases op with
  | move x => rw [c1_d hc]; rfl
  | assign x => rw [c1_d hc]; rfl
  | pick x y z => rw [c3_d hc]; rfl
  | alloc t =>
    simp only [compOp] at hc; split at hc
    · simp only [Option.some.injEq, Prod.mk.injEq] at hc; rw [← hc.1]; rfl
    · cases hc
  | box t x => rw [c1_d hc]; rfl
  | build t ps =>
    simp only [compOp] at hc; split at hc
    · have hc := cond_r hc
      split at hc
      · rw [cs_d hc]; rfl
      · cases hc
    · split at hc
      · rw [cs_d hc]; rfl
      · cases hc
    · cases hc
  | buildSlice t n ps =>
    obtain ⟨_, _, _, _, _, _, _, _, hc⟩ := lits_inv hc
    rw [cs_d hc]; rfl
  | load t x => simp only [compOp] at hc; split at hc <;> first | (rw [c1_d hc]; rfl) | cases hc
  | store t x y => simp only [compOp] at hc; split at hc <;> first | (rw [c2_d hc]; rfl) | cases hc
  | nilCheck x => rw [c1_d hc]; rfl
  | binOp op t x y ty =>
    simp only [compOp] at hc
    split at hc
    · split at hc <;> (rw [c2_d hc]; rfl)
    · split at hc <;> (rw [c2_d hc]; rfl)
    · rw [c2_d hc]; rfl
  | unOp op t x => rw [c1_d hc]; rfl
  | convert s t x => exact conv_notCall hc
  | makeInterface t x => simp only [compOp] at hc; split at hc <;> first | (rw [c1_d hc]; rfl) | cases hc
  | makeFunc f x y =>
    cases f with
    | func f => rw [cs_d hc]; rfl
    | _ => cases hc
  | makeSlice t x y =>
    simp only [compOp] at hc; split at hc
    · split at hc
      · rw [c2_d (cond_l hc)]; rfl
      · cases hc
    · cases hc
  | slice t x lo hi mx => exact slice_notCall hc
  | fieldAddr s x f =>
    simp only [compOp] at hc; split at hc
    · split at hc
      · rw [c1_d (cond_r hc)]; rfl
      · cases hc
    · cases hc
  | field t x f =>
    simp only [compOp] at hc; split at hc
    · split at hc
      · split at hc <;> first | (rw [c1_d hc]; rfl) | cases hc
      · cases hc
    · cases hc
  | indexAddr t x y =>
    simp only [compOp] at hc; split at hc
    · split at hc <;> first | (rw [c2_d hc]; rfl) | cases hc
    · split at hc <;> first | (rw [c2_d hc]; rfl) | cases hc
    · cases hc
  | index t x y =>
    simp only [compOp] at hc; split at hc
    · rw [c2_d hc]; rfl
    · split at hc <;> first | (rw [c2_d hc]; rfl) | cases hc
    · cases hc
  | range t x => simp only [compOp] at hc; split at hc <;> first | (rw [c1_d hc]; rfl) | cases hc
  | next x b =>
    cases b with
    | true => rw [c1_d hc]; rfl
    | false => cases hc
  | typeAssert x xt t o' =>
    simp only [compOp] at hc; split at hc
    · cases hc
    · cases hc
    · split at hc <;> first | (rw [c1_d hc]; rfl) | cases hc
  | extract x i => rw [c1_d hc]; rfl
  | call cl => exact absurd rfl (ho cl)
  | _ => cases hc

/-- one operation, on its way -/
theorem oper_wp (hL : Link P T E) (hR : CallOk P GC B0 rec) (hB : ∀ f hp c args r, rec (.call f args) hp c = some r → Bodied P f) {o : Oper} {d : DOp} {l : List Opd} {vs : List AV} {v : AV}
    (hc : compOp GC T E fz o.op = some (d, l)) (hv : opvs tm l = some vs)
    (hW : WR GC B0 g hp c w) (hT : TM g w tm a) (hr : doOp rec d vs hp c = some (v, hp', c')) {K : Act → World → Prop} {Q : Exit → Act → World → Prop}
    (hK : ∀ cv w' g', Ext B0 g w g' w' → WR GC B0 g' hp' c' w' → VR g' w' v cv → K (a.put o.dst cv) w') : o.wp P a w K Q := by
  have plain : isCall d = false → o.wp P a w K Q := by
    intro hd
    have hr' : opRun d vs hp c = some (v, hp', c') := by cases d <;> first | exact hr | cases hd
    obtain ⟨nx, cv, w', g', h1, h2, h3, h4, h5⟩ := sim_op hL hc hv hW hT hr'
    unfold Oper.wp
    rw [h1]
    rcases h2 with rfl | ⟨rfl, rfl⟩
    · exact hK cv w' g' h3 h4 h5
    · exact hK undef w' g' h3 h4 h5
  -- a call of a function, its arguments known
  have call : ∀ (f : Nat) (args : List AV) (us : List Value), callRes rec f args hp c = some (v, hp', c') → VRs g w args us →
      (Bodied P f → (execOp a.eval o).run P w = .ok (.enter f us.toArray) w) → o.wp P a w K Q := by
    intro f args us hcr hvs hex
    unfold callRes at hcr
    cases hrec : rec (.call f args) hp c with
    | none => rw [hrec] at hcr; cases hcr
    | some out =>
      cases out with
      | x _ _ _ _ => rw [hrec] at hcr; cases hcr
      | v v1 hp1 c1 =>
        rw [hrec] at hcr; simp only [Option.some.injEq, Prod.mk.injEq] at hcr
        obtain ⟨rfl, rfl, rfl⟩ := hcr
        have hcalls := hR f args hp c v1 hp1 c1 g w us hrec hW hvs
        unfold Oper.wp
        rw [hex (hB f hp c args _ hrec)]
        exact Calls.mono hcalls (fun e w' he => by
          cases e with
          | returned cv => obtain ⟨g', h1, h2, h3⟩ := he; exact hK cv w' g' h1 h2 h3
          | panicked _ => exact he.elim
          | outgrown => exact he.elim)
  cases ho : o.op with
  | call cl =>
    rw [ho] at hc
    simp only [compOp] at hc
    split at hc
    · rename_i f hcal
      obtain ⟨rfl, hvs⟩ := cs_inv hc hv hW hT
      refine call f vs _ hr hvs (fun hb => ?_)
      rw [call_resolves (x' := #[]) (y' := #[]) ho hcal rfl hb]
      congr 2
      apply Array.ext'
      simp
    · rename_i x hx hcal
      obtain ⟨rfl, hvs⟩ := cs_inv hc hv hW hT
      cases vs with
      | nil => cases hr
      | cons u vs =>
        cases u with
        | fn f xa ya =>
          have hvx := hvs.1
          obtain ⟨x', y', e1, e2, e3, e4, e5⟩ := hvx.fn_inv
          refine call f (xa ++ vs ++ ya) (x'.toList ++ cl.args.toList.map a.eval ++ y'.toList) hr ?_ (fun hb => ?_)
          · exact ((VRs.of (by simpa using e2) (fun k z e => by rw [getD_toList]; exact e4 k z e)).append hvs.2).append (VRs.of (by simpa using e3) (fun k z e => by rw [getD_toList]; exact e5 k z e))
          · rw [call_resolves ho hcal e1 hb]
            congr 2
            apply Array.ext'
            simp
        | _ => cases hr
    · rename_i b hb
      have : isCall d = false := by
        unfold compBuiltin at hc
        have k1 : ∀ {x : Operand} {o : DOp}, c1 GC o x = some (d, l) → d = o := fun {x o} h => (c1_inv h hv hW hT).1
        have k2 : ∀ {x y : Operand} {o : DOp}, c2 GC o x y = some (d, l) → d = o := fun {x y o} h => (c2_inv h hv hW hT).1
        split at hc
        · split at hc <;> first | (rw [k1 hc]; rfl) | cases hc
        · split at hc
          · split at hc
            · rename_i z _ _ _ 
              cases hbz : Nat.beq z.length (ksz _) with
              | false => rw [hbz] at hc; cases hc
              | true => rw [hbz] at hc; rw [k2 hc]; rfl
            · cases hc
          · cases hc
        · split at hc
          · split at hc <;> first | (rw [k2 hc]; rfl) | cases hc
          · cases hc
        · split at hc
          · split at hc
            · rename_i z _ _
              cases hbz : Nat.beq z.length (ksz _) with
              | false => rw [hbz] at hc; cases hc
              | true => rw [hbz] at hc; rw [k1 hc]; rfl
            · cases hc
          · cases hc
        · rw [k2 hc]; rfl
        · rw [k2 hc]; rfl
        · cases hc
      exact plain this
    · cases hc
  | _ => exact plain (comp_notCall (by rw [ho]; intro cl h; cases h) hc)
end
end Det
namespace Det
open Go

section
variable {P : Program} {T : PT TypeInfo} {E : List Nat} {GC : GT} {B0 : Nat} {g : Gh} {hp hp' : PT HO} {c c' : Nat} {w : World} {tm tm' : PT AV} {a : Act}
variable {rec : Task → PT HO → Nat → Option Out} {fz : Bool}

theorem wanted_eq {ops : Array Oper} {o : Oper} {q : DOper} (hT : TM g w tm a) (hF : Full tm a)
    (hg : match o.guard with
      | none => q.guard = none
      | some (j, b) => ∃ d, (ops[j]?).bind (·.dst) = some d ∧ q.guard = some (d, b)) :
    Region.wanted o (yielded ops a.tmps) = wants q tm := by
  unfold Region.wanted wants
  cases ho : o.guard with
  | none => rw [ho] at hg; simp only at hg; rw [hg]
  | some jb =>
    obtain ⟨j, b⟩ := jb
    rw [ho] at hg
    obtain ⟨d, h1, h2⟩ := hg
    rw [h2]
    simp only [yielded, h1, Option.bind_some]
    cases hd : tm.get d with
    | none =>
      have : ¬ d < a.tmps.size := fun h => hF d h hd
      rw [Array.getElem?_eq_none (Nat.le_of_not_lt this)]
      simp
    | some v =>
      obtain ⟨hlt, hv⟩ := hT d v hd
      rw [getD_in hlt]
      generalize a.tmps.getD d undef = cv at hv
      cases v <;> first
        | (rename_i b'
           rw [hv.bool_inv]
           cases b <;> cases b' <;> rfl)
        | (cases hv <;> first
            | (simp; done)
            | rfl)

theorem compOper_inv {ops : Array Oper} {o : Oper} {q : DOper} (h : compOper GC T E fz ops o = some q) :
    compOp GC T E fz o.op = some (q.op, q.args) ∧ q.dst = o.dst ∧ (match o.guard with
      | none => q.guard = none
      | some (j, b) => ∃ d, (ops[j]?).bind (·.dst) = some d ∧ q.guard = some (d, b)) := by
  unfold compOper at h
  cases hc : compOp GC T E fz o.op with
  | none => rw [hc] at h; cases h
  | some r =>
    obtain ⟨op, args⟩ := r
    rw [hc] at h; simp only at h
    cases hg : o.guard with
    | none => rw [hg] at h; simp only [Option.some.injEq] at h; subst h; exact ⟨rfl, rfl, rfl⟩
    | some jb =>
      obtain ⟨j, b⟩ := jb
      rw [hg] at h; simp only at h
      cases hd : (ops[j]?).bind (·.dst) with
      | none => rw [hd] at h; cases h
      | some d => rw [hd] at h; simp only [Option.some.injEq] at h; subst h; exact ⟨rfl, rfl, d, hd, rfl⟩

theorem undef_VR : VR g w (.tup []) undef := .tup [] #[] rfl (fun k x e => by simp at e)

theorem ops_ok (hL : Link P T E) (hR : CallOk P GC B0 rec) (hB : ∀ f hp c args r, rec (.call f args) hp c = some r → Bodied P f) {ops : Array Oper} :
    ∀ (suf pre : List Oper) (l : List DOper) (tm : PT AV) (hp : PT HO) (c : Nat) (g : Gh) (w : World) (a : Act) (e : Ex) (tm' : PT AV) (hp' : PT HO) (c' : Nat),
      ops.toList = pre ++ suf → compOpers GC T E fz ops suf = some l → opsRun rec l tm hp c = some (.x e tm' hp' c') → WR GC B0 g hp c w → TM g w tm a → Full tm a → a.defers = [] →
      wpOps P ops (Post GC B0 g w e tm' hp' c') (List.range' pre.length suf.length) a w := by
  intro suf
  induction suf with
  | nil =>
    intro pre l tm hp c g w a e tm' hp' c' _ hc hr hW hT hF hD
    simp only [compOpers, Option.some.injEq] at hc; subst hc
    simp only [opsRun, Option.some.injEq, Out.x.injEq] at hr
    obtain ⟨rfl, rfl, rfl, rfl⟩ := hr
    exact ⟨rfl, ⟨⟨g, Ext.refl .., hW, hT⟩, hF, hD⟩⟩
  | cons o suf ih =>
    intro pre l tm hp c g w a e tm' hp' c' hops hc hr hW hT hF hD
    simp only [compOpers] at hc
    cases h1 : compOper GC T E fz ops o with
    | none => rw [h1] at hc; cases hc
    | some q =>
      cases h2 : compOpers GC T E fz ops suf with
      | none => rw [h1, h2] at hc; cases hc
      | some l' =>
        rw [h1, h2] at hc; simp only [Option.some.injEq] at hc; subst hc
        obtain ⟨k1, k2, k3⟩ := compOper_inv h1
        have hi : ops[pre.length]? = some o := by
          rw [← Array.getElem?_toList, hops, List.getElem?_append_right (Nat.le_refl _), Nat.sub_self]; rfl
        have hnext : ops.toList = (pre ++ [o]) ++ suf := by rw [hops]; simp
        simp only [List.length_cons, List.range'_succ, wpOps, hi]
        have hwant := wanted_eq hT hF k3
        rw [hwant]
        simp only [opsRun] at hr
        have next : ∀ (tm1 : PT AV) (hp1 : PT HO) (c1 : Nat) (g1 : Gh) (w1 : World) (a1 : Act), Ext B0 g w g1 w1 → opsRun rec l' tm1 hp1 c1 = some (.x e tm' hp' c') → WR GC B0 g1 hp1 c1 w1 → TM g1 w1 tm1 a1 → Full tm1 a1 → a1.defers = [] →
            wpOps P ops (Post GC B0 g w e tm' hp' c') (List.range' (pre.length + 1) suf.length) a1 w1 := by
          intro tm1 hp1 c1 g1 w1 a1 hE hr1 hW1 hT1 hF1 hD1
          have := ih (pre ++ [o]) l' tm1 hp1 c1 g1 w1 a1 e tm' hp' c' hnext h2 hr1 hW1 hT1 hF1 hD1
          rw [List.length_append, List.length_singleton] at this
          have mono : ∀ (li : List Nat) (a : Act) (w2 : World), wpOps P ops (Post GC B0 g1 w1 e tm' hp' c') li a w2 → wpOps P ops (Post GC B0 g w e tm' hp' c') li a w2 := by
            intro li
            induction li with
            | nil => intro a w2 h; exact Post.mono hE h
            | cons i li ihl =>
              intro a w2 h
              simp only [wpOps] at h ⊢
              cases hoi : ops[i]? with
              | none => simp only [hoi] at h; exact ihl _ _ h
              | some o1 =>
                simp only [hoi] at h ⊢
                split
                · rename_i hw
                  rw [if_pos hw] at h
                  rcases h with h | ⟨h, a0, w0, h0⟩
                  · left
                    unfold Oper.wp at h ⊢
                    generalize (execOp a.eval o1).run P w2 = r at h ⊢
                    cases r with
                    | ok n w' =>
                      cases n <;> simp only [Oper.upon] at h ⊢ <;>
                        first
                          | exact ihl _ _ h
                          | exact Calls.mono h (fun e w'' he => by cases e <;> first | exact ihl _ _ he | exact Post.mono hE he | (obtain ⟨a0, w0, h0⟩ := he; exact h0.elim))
                          | exact Rows.mono h (fun _ _ he => ihl _ _ he)
                    | halt x w' => cases x <;> simp only [Oper.upon] at h ⊢ <;> first | exact h | exact Post.mono hE h
                  · exact h0.elim
                · rename_i hw
                  rw [if_neg hw] at h
                  exact ihl _ _ h
          exact mono _ _ _ this
        cases hwq : wants q tm with
        | true =>
          rw [hwq] at hr; simp only at hr
          rw [if_pos rfl]
          left
          cases h3 : opvs tm q.args with
          | none => rw [h3] at hr; cases hr
          | some vs =>
            rw [h3] at hr; simp only at hr
            cases h4 : doOp rec q.op vs hp c with
            | none => rw [h4] at hr; cases hr
            | some r =>
              obtain ⟨v, hp1, c1⟩ := r
              rw [h4] at hr; simp only at hr
              cases h5 : putT tm q.dst v with
              | none => rw [h5] at hr; cases hr
              | some tm1 =>
                rw [h5] at hr; simp only at hr
                refine oper_wp hL hR hB k1 h3 hW hT h4 (fun cv w1 g1 e1 e2 e3 => ?_)
                rw [k2] at h5
                exact next tm1 hp1 c1 g1 w1 _ e1 hr e2 ((hT.mono e1.sub).put e3 h5) (hF.put h5) (by cases o.dst <;> exact hD)
        | false =>
          rw [hwq] at hr; simp only at hr
          rw [if_neg (by simp)]
          cases h5 : putT tm q.dst (.tup []) with
          | none => rw [h5] at hr; cases hr
          | some tm1 =>
            rw [h5] at hr; simp only at hr
            rw [k2] at h5
            exact next tm1 hp c g w _ (Ext.refl ..) hr hW (hT.put undef_VR h5) (hF.put h5) (by cases o.dst <;> exact hD)

/-- a loop, before a round -/
def LoopWp (P : Program) (code : Code) (Q : Exit → Act → World → Prop) (a : Act) (w : World) : Prop :=
  ∀ (b : Frame) (k : List Item) (cs : List Frame), ∃ e a' w', Q e a' w' ∧ Arrives P (lone (b.at a (.code code :: .inLoop code :: k)) cs w) b k cs e a' w'

theorem LoopWp.of {code : Code} {Q : Exit → Act → World → Prop} {a : Act} {w : World} (h : code.wp P (Exit.then (LoopWp P code Q) Q) a w) : LoopWp P code Q a w := by
  intro b k cs
  obtain ⟨e, a₁, w₁, hq, harr⟩ := h b (.inLoop code :: k) cs
  cases e with
  | normal =>
    obtain ⟨e₂, a₂, w₂, hq₂, harr₂⟩ := hq b k cs
    exact ⟨e₂, a₂, w₂, hq₂, .of_steps (Steps.trans harr (.one step_inLoop)) harr₂⟩
  | exit id => exact ⟨_, a₁, w₁, hq, .pass (x := .inLoop code) rfl (fun _ _ => .inl (by simp)) harr⟩
  | goto l => exact ⟨_, a₁, w₁, hq, .pass (x := .inLoop code) rfl (fun _ _ => .inl (by simp)) harr⟩
  | ret => exact ⟨_, a₁, w₁, hq, .pass (x := .inLoop code) rfl (fun _ _ => .inl (by simp)) harr⟩
  | panic ch => exact ⟨_, a₁, w₁, hq, .pass (x := .inLoop code) rfl (fun _ _ => .inl (by simp)) harr⟩
  | outgrown => exact ⟨_, a₁, w₁, hq, .pass (x := .inLoop code) rfl (fun _ _ => .inl (by simp)) harr⟩

theorem LoopWp.loop {code : Code} {Q : Exit → Act → World → Prop} {a : Act} {w : World} (h : LoopWp P code Q a w) : (Code.loop code).wp P Q a w :=
  fun b k cs => let ⟨e, a', w', hq, harr⟩ := h b k cs; ⟨e, a', w', hq, .of_steps (.one step_loop) harr⟩

def LoopOk (P : Program) (T : PT TypeInfo) (E : List Nat) (GC : GT) (B0 : Nat) (rec : Task → PT HO → Nat → Option Out) : Prop :=
  ∀ (fz : Bool) (code : Code) (tm : PT AV) (hp : PT HO) (c : Nat) (e : Ex) (tm' : PT AV) (hp' : PT HO) (c' : Nat) (g : Gh) (w : World) (a : Act),
    rec (.code (.loop (comp GC T E fz code)) tm) hp c = some (.x e tm' hp' c') → WR GC B0 g hp c w → TM g w tm a → Full tm a → a.defers = [] → LoopWp P code (Post GC B0 g w e tm' hp' c') a w

def DrawOk (P : Program) (T : PT TypeInfo) (E : List Nat) (GC : GT) (B0 : Nat) (rec : Task → PT HO → Nat → Option Out) : Prop :=
  ∀ (fz : Bool) (id : Nat) (ops : Array Oper) (l : List DOper) (rd st al : List (Nat × Nat)) (tm : PT AV) (hp : PT HO) (c : Nat) (e : Ex) (tm' : PT AV) (hp' : PT HO) (c' : Nat) (g : Gh) (w : World) (a : Act),
    compRegion GC T E fz ops true = .draw l rd st al → drawRun rec l rd st al tm hp c = some (.x e tm' hp' c') → WR GC B0 g hp c w → TM g w tm a → Full tm a → a.defers = [] →
    (Code.region id ops true).wp P (Post GC B0 g w e tm' hp' c') a w

theorem compRegion_false {ops : Array Oper} : compRegion GC T E fz ops false = match compOpers GC T E fz ops ops.toList with | none => .bad "region" | some l => .ops l := by
  unfold compRegion
  simp only [Bool.not_false, Bool.and_true]
  cases compOpers GC T E fz ops ops.toList <;> rfl

theorem compRegion_true {ops : Array Oper} : (∃ l rd st al, compRegion GC T E fz ops true = .draw l rd st al) ∨ ∃ why, compRegion GC T E fz ops true = .bad why := by
  unfold compRegion
  split
  · exact .inr ⟨_, rfl⟩
  · simp only [cond_true]
    split
    · generalize hb : (_ && _ : Bool) = b
      cases b with
      | true => exact .inl ⟨_, _, _, _, rfl⟩
      | false => exact .inr ⟨_, rfl⟩
    · exact .inr ⟨_, rfl⟩

theorem code_ok (hL : Link P T E) (hR : CallOk P GC B0 rec) (hB : ∀ f hp c args r, rec (.call f args) hp c = some r → Bodied P f) (hO : LoopOk P T E GC B0 rec) (hDr : DrawOk P T E GC B0 rec) :
    ∀ (code : Code) (tm : PT AV) (hp : PT HO) (c : Nat) (e : Ex) (tm' : PT AV) (hp' : PT HO) (c' : Nat) (g : Gh) (w : World) (a : Act),
      codeRun rec (comp GC T E fz code) tm hp c = some (.x e tm' hp' c') → WR GC B0 g hp c w → TM g w tm a → Full tm a → a.defers = [] → code.wp P (Post GC B0 g w e tm' hp' c') a w := by
  intro code
  have after : ∀ {code2 : Code} {e : Ex} {tm' : PT AV} {hp' : PT HO} {c' : Nat} {g : Gh} {w : World} {Q : Exit → Act → World → Prop} {x : Exit} {a1 : Act} {w1 : World} {e1 : Ex} {tm1 : PT AV} {hp1 : PT HO} {c1 : Nat},
      Post GC B0 g w e1 tm1 hp1 c1 x a1 w1 → (e1 = .normal → ∀ g1, Ext B0 g w g1 w1 → WR GC B0 g1 hp1 c1 w1 → TM g1 w1 tm1 a1 → Full tm1 a1 → a1.defers = [] → Q .normal a1 w1) →
      (e1 ≠ .normal → Post GC B0 g w e1 tm1 hp1 c1 x a1 w1 → Q x a1 w1) → Q x a1 w1 := by
    intro _ _ _ _ _ _ _ Q x a1 w1 e1 tm1 hp1 c1 h h1 h2
    by_cases he : e1 = .normal
    · cases x with
      | normal => obtain ⟨⟨g1, k1, k2, k3⟩, k4, k5⟩ := h.2; exact h1 he g1 k1 k2 k3 k4 k5
      | exit i => rw [he] at h; cases h.1
      | ret => rw [he] at h; cases h.1
      | goto l => exact h.elim
      | panic ch => exact h.elim
      | outgrown => exact h.elim
    · exact h2 he h
  induction code with
  | skip =>
    intro tm hp c e tm' hp' c' g w a h hW hT hF hD
    simp only [comp, codeRun, Option.some.injEq, Out.x.injEq] at h
    obtain ⟨rfl, rfl, rfl, rfl⟩ := h
    exact wp_skip ⟨rfl, ⟨⟨g, Ext.refl .., hW, hT⟩, hF, hD⟩⟩
  | label l =>
    intro tm hp c e tm' hp' c' g w a h hW hT hF hD
    simp only [comp, codeRun, Option.some.injEq, Out.x.injEq] at h
    obtain ⟨rfl, rfl, rfl, rfl⟩ := h
    exact wp_label ⟨rfl, ⟨⟨g, Ext.refl .., hW, hT⟩, hF, hD⟩⟩
  | region id ops dr =>
    intro tm hp c e tm' hp' c' g w a h hW hT hF hD
    simp only [comp] at h
    cases dr with
    | false =>
      rw [compRegion_false] at h
      cases hc : compOpers GC T E fz ops ops.toList with
      | none => rw [hc] at h; cases h
      | some l =>
        rw [hc] at h
        have := ops_ok hL hR hB ops.toList [] l tm hp c g w a e tm' hp' c' rfl hc h hW hT hF hD
        refine wp_region ?_
        rw [List.range_eq_range']
        simpa using this
    | true =>
      rcases compRegion_true (T := T) (E := E) (GC := GC) (fz := fz) (ops := ops) with ⟨l, rd, st, al, hc⟩ | ⟨why, hc⟩
      · rw [hc] at h
        exact hDr fz id ops l rd st al tm hp c e tm' hp' c' g w a hc h hW hT hF hD
      · rw [hc] at h; cases h
  | seq x y ihx ihy =>
    intro tm hp c e tm' hp' c' g w a h hW hT hF hD
    simp only [comp, codeRun] at h
    cases hx : codeRun rec (comp GC T E fz x) tm hp c with
    | none => rw [hx] at h; cases h
    | some out =>
      cases out with
      | v _ _ _ => rw [hx] at h; cases h
      | x e1 tm1 hp1 c1 =>
        rw [hx] at h
        refine wp_seq (wp_mono (ihx tm hp c e1 tm1 hp1 c1 g w a hx hW hT hF hD) (fun xe a1 w1 hq => ?_))
        cases e1 with
        | normal =>
          simp only at h
          cases xe with
          | normal =>
            obtain ⟨⟨g1, k1, k2, k3⟩, k4, k5⟩ := hq.2
            exact wp_mono (ihy tm1 hp1 c1 e tm' hp' c' g1 w1 a1 h k2 k3 k4 k5) (fun _ _ _ hh => Post.mono k1 hh)
          | exit i => cases hq.1
          | ret => cases hq.1
          | goto l => exact hq.elim
          | panic ch => exact hq.elim
          | outgrown => exact hq.elim
        | exit i =>
          simp only [Option.some.injEq, Out.x.injEq] at h
          obtain ⟨rfl, rfl, rfl, rfl⟩ := h
          cases xe with
          | normal => cases hq.1
          | _ => exact hq
        | ret =>
          simp only [Option.some.injEq, Out.x.injEq] at h
          obtain ⟨rfl, rfl, rfl, rfl⟩ := h
          cases xe with
          | normal => cases hq.1
          | _ => exact hq
  | cond x p q ihp ihq =>
    intro tm hp c e tm' hp' c' g w a h hW hT hF hD
    simp only [comp] at h
    cases hx : opd GC x with
    | none => rw [hx] at h; cases h
    | some y =>
      rw [hx] at h; simp only [codeRun] at h
      cases hy : opv tm y with
      | none => rw [hy] at h; cases h
      | some v =>
        rw [hy] at h
        have hv := opd_VR hW hT hx hy
        cases v <;> first | (cases h; done) | skip
        rename_i b
        cases b with
        | true => exact wp_cond_true hv.bool_inv (ihp tm hp c e tm' hp' c' g w a h hW hT hF hD)
        | false => exact wp_cond_false hv.bool_inv (ihq tm hp c e tm' hp' c' g w a h hW hT hF hD)
  | block id b ih =>
    intro tm hp c e tm' hp' c' g w a h hW hT hF hD
    simp only [comp, codeRun] at h
    cases hx : codeRun rec (comp GC T E fz b) tm hp c with
    | none => rw [hx] at h; cases h
    | some out =>
      cases out with
      | v _ _ _ => rw [hx] at h; cases h
      | x e1 tm1 hp1 c1 =>
        rw [hx] at h
        refine wp_block (wp_mono (ih tm hp c e1 tm1 hp1 c1 g w a hx hW hT hF hD) (fun xe a1 w1 hq => ?_))
        cases e1 with
        | exit i =>
          simp only at h
          cases hi : Nat.beq i id with
          | true =>
            rw [hi] at h
            simp only [cond_true, Option.some.injEq, Out.x.injEq] at h
            obtain ⟨rfl, rfl, rfl, rfl⟩ := h
            have := Nat.eq_of_beq_eq_true hi; subst this
            cases xe with
            | exit j =>
              have := hq.1
              simp only [Ex.exit.injEq] at this; subst this
              simp only [Exit.inBlock, if_true]
              exact ⟨rfl, hq.2⟩
            | normal => cases hq.1
            | ret => cases hq.1
            | goto l => exact hq.elim
            | panic ch => exact hq.elim
            | outgrown => exact hq.elim
          | false =>
            rw [hi] at h
            simp only [cond_false, Option.some.injEq, Out.x.injEq] at h
            obtain ⟨rfl, rfl, rfl, rfl⟩ := h
            cases xe with
            | exit j =>
              have := hq.1
              simp only [Ex.exit.injEq] at this; subst this
              have hne : ¬ i = id := fun e => by rw [e, Nat.beq_refl] at hi; cases hi
              simp only [Exit.inBlock, hne, if_false]
              exact hq
            | normal => cases hq.1
            | ret => cases hq.1
            | goto l => exact hq.elim
            | panic ch => exact hq.elim
            | outgrown => exact hq.elim
        | normal =>
          simp only [Option.some.injEq, Out.x.injEq] at h
          obtain ⟨rfl, rfl, rfl, rfl⟩ := h
          cases xe with
          | exit j => cases hq.1
          | _ => exact hq
        | ret =>
          simp only [Option.some.injEq, Out.x.injEq] at h
          obtain ⟨rfl, rfl, rfl, rfl⟩ := h
          cases xe with
          | exit j => cases hq.1
          | _ => exact hq
  | loop b ih =>
    intro tm hp c e tm' hp' c' g w a h hW hT hF hD
    simp only [comp, codeRun] at h
    cases hx : codeRun rec (comp GC T E fz b) tm hp c with
    | none => rw [hx] at h; cases h
    | some out =>
      cases out with
      | v _ _ _ => rw [hx] at h; cases h
      | x e1 tm1 hp1 c1 =>
        rw [hx] at h
        refine LoopWp.loop (LoopWp.of (wp_mono (ih tm hp c e1 tm1 hp1 c1 g w a hx hW hT hF hD) (fun xe a1 w1 hq => ?_)))
        cases e1 with
        | normal =>
          simp only at h
          cases xe with
          | normal =>
            obtain ⟨⟨g1, k1, k2, k3⟩, k4, k5⟩ := hq.2
            intro b' k' cs'
            obtain ⟨e2, a2, w2, hq2, harr2⟩ := hO fz b tm1 hp1 c1 e tm' hp' c' g1 w1 a1 h k2 k3 k4 k5 b' k' cs'
            exact ⟨e2, a2, w2, Post.mono k1 hq2, harr2⟩
          | exit i => cases hq.1
          | ret => cases hq.1
          | goto l => exact hq.elim
          | panic ch => exact hq.elim
          | outgrown => exact hq.elim
        | exit i =>
          simp only [Option.some.injEq, Out.x.injEq] at h
          obtain ⟨rfl, rfl, rfl, rfl⟩ := h
          cases xe with
          | normal => cases hq.1
          | _ => exact hq
        | ret =>
          simp only [Option.some.injEq, Out.x.injEq] at h
          obtain ⟨rfl, rfl, rfl, rfl⟩ := h
          cases xe with
          | normal => cases hq.1
          | _ => exact hq
  | exit id =>
    intro tm hp c e tm' hp' c' g w a h hW hT hF hD
    simp only [comp, codeRun, Option.some.injEq, Out.x.injEq] at h
    obtain ⟨rfl, rfl, rfl, rfl⟩ := h
    exact wp_exit ⟨rfl, ⟨⟨g, Ext.refl .., hW, hT⟩, hF, hD⟩⟩
  | ret =>
    intro tm hp c e tm' hp' c' g w a h hW hT hF hD
    simp only [comp, codeRun, Option.some.injEq, Out.x.injEq] at h
    obtain ⟨rfl, rfl, rfl, rfl⟩ := h
    exact wp_ret ⟨rfl, ⟨⟨g, Ext.refl .., hW, hT⟩, hF, hD⟩⟩
  | _ => intro tm hp c e tm' hp' c' g w a h; simp only [comp] at h; cases h
end
end Det
namespace Det
open Go

section
variable {P : Program} {T : PT TypeInfo} {E : List Nat} {GC : GT} {B0 : Nat} {g : Gh} {hp hp' : PT HO} {c c' : Nat} {w : World} {tm tm' : PT AV} {a : Act}
variable {rec : Task → PT HO → Nat → Option Out} {fz : Bool}

def PrimOk (P : Program) (GC : GT) (B0 : Nat) (p : OpF) (f : Nat) : Prop :=
  ∀ (args : List AV) (hp : PT HO) (c : Nat) (v : AV) (hp' : PT HO) (c' : Nat) (g : Gh) (w : World) (us : List Value),
    p args hp c = some (v, hp', c') → WR GC B0 g hp c w → VRs g w args us → Calls P f us.toArray w (CallPost GC B0 g w v hp' c')

/-- the table of functions is the program's -/
structure FunsOk (P : Program) (T : PT TypeInfo) (E : List Nat) (GC : GT) (B0 : Nat) (G : G) : Prop where
  bodied : ∀ f x, G.fun_ f = some x → Bodied P f
  code : ∀ f d, G.fun_ f = some (.inl d) → ∃ fn pol, P.funcs[f]? = some fn ∧ compFun GC T E pol f fn = some d
  prim : ∀ f p, G.fun_ f = some (.inr p) → PrimOk P GC B0 p f

theorem putAll_get : ∀ (vs : List AV) (i : Nat) (t : PT AV) (n : Nat), (putAll vs i t).get n = if i ≤ n ∧ n < i + vs.length then vs[n - i]? else t.get n
  | [], i, t, n => by simp only [putAll, List.length_nil]; rw [if_neg (by omega)]
  | v :: vs, i, t, n => by
    simp only [putAll, List.length_cons]
    rw [putAll_get vs (i + 1) _ n]
    by_cases h1 : i + 1 ≤ n ∧ n < i + 1 + vs.length
    · rw [if_pos h1, if_pos (by omega), show n - i = (n - (i + 1)) + 1 by omega, List.getElem?_cons_succ]
    · rw [if_neg h1, PT.get_set]
      by_cases h2 : n = i
      · subst h2; rw [if_pos rfl, if_pos (by omega), Nat.sub_self]; rfl
      · rw [if_neg h2, if_neg (by omega)]
theorem undefs_get : ∀ (k i : Nat) (t : PT AV) (n : Nat), (undefs k i t).get n = if i ≤ n ∧ n < i + k then some (.tup []) else t.get n
  | 0, i, t, n => by simp only [undefs]; rw [if_neg (by omega)]
  | k + 1, i, t, n => by
    simp only [undefs]
    rw [undefs_get k (i + 1) _ n]
    by_cases h1 : i + 1 ≤ n ∧ n < i + 1 + k
    · rw [if_pos h1, if_pos (by omega)]
    · rw [if_neg h1, PT.get_set]
      by_cases h2 : n = i
      · subst h2; rw [if_pos rfl, if_pos (by omega)]
      · rw [if_neg h2, if_neg (by omega)]

theorem enter_TM {args : List AV} {us : List Value} (h : VRs g w args us) (nt : Nat) :
    TM g w (undefs (nt - args.length) args.length (putAll args 0 .nil)) { tmps := us.toArray ++ Array.replicate (nt - us.toArray.size) undef, defers := [] } ∧
    Full (undefs (nt - args.length) args.length (putAll args 0 .nil)) { tmps := us.toArray ++ Array.replicate (nt - us.toArray.size) undef, defers := [] } := by
  obtain ⟨h1, h2⟩ := h.get
  have hsz : (us.toArray ++ Array.replicate (nt - us.toArray.size) undef).size = us.length + (nt - us.length) := by simp
  have hget : ∀ n, (undefs (nt - args.length) args.length (putAll args 0 .nil)).get n = if args.length ≤ n ∧ n < args.length + (nt - args.length) then some (.tup []) else if n < args.length then args[n]? else none := by
    intro n
    rw [undefs_get, putAll_get]
    simp only [Nat.zero_le, true_and, Nat.zero_add, Nat.sub_zero, PT.get_nil]
  refine ⟨fun n v e => ?_, fun n hn => ?_⟩
  · rw [hget] at e
    show n < (us.toArray ++ Array.replicate (nt - us.toArray.size) undef).size ∧ VR g w v ((us.toArray ++ Array.replicate (nt - us.toArray.size) undef).getD n undef)
    rw [hsz]
    split at e
    · rename_i hn
      simp only [Option.some.injEq] at e; subst e
      refine ⟨by omega, ?_⟩
      have : (us.toArray ++ Array.replicate (nt - us.toArray.size) undef).getD n undef = undef := by
        rw [Array.getD_eq_getD_getElem?, Array.getElem?_append_right (by simp; omega)]
        by_cases hk : n - us.toArray.size < nt - us.toArray.size
        · rw [Array.getElem?_replicate, if_pos hk]; rfl
        · rw [Array.getElem?_replicate, if_neg hk]; rfl
      rw [this]; exact undef_VR
    · split at e
      · rename_i _ hn
        obtain ⟨u, e1, e2⟩ := h2 n v e
        refine ⟨by omega, ?_⟩
        have : (us.toArray ++ Array.replicate (nt - us.toArray.size) undef).getD n undef = u := by
          rw [Array.getD_eq_getD_getElem?, Array.getElem?_append_left (by simp; omega), List.getElem?_toArray, e1]; rfl
        rw [this]; exact e2
      · cases e
  · have hn' : n < us.length + (nt - us.length) := by
      have : n < (us.toArray ++ Array.replicate (nt - us.toArray.size) undef).size := hn
      rwa [hsz] at this
    rw [hget]
    split
    · simp
    · rw [if_pos (by omega), List.getElem?_eq_getElem (by omega)]; simp

theorem results_list (hL : Link P T E) (hW : WR GC B0 g hp c w) (hT : TM g w tm a) : ∀ (rs : List ResultVar) (ds : List (Nat × Option (Option Nat))) (vs : List AV), compResults T rs = some ds → resVals hp tm ds = some vs →
    ∃ us : List Value, (rs.mapM (fun r => match r with
      | .tmp t => pure (a.tmps.getD t undef)
      | .cell ad t => do loadVar t (← asAddr (a.tmps.getD ad undef))) : Sem (List Value)).run P w = .ok us w ∧ VRs g w vs us
  | [], ds, vs, h1, h2 => by
    simp only [compResults, Option.some.injEq] at h1; subst h1
    simp only [resVals, Option.some.injEq] at h2; subst h2
    exact ⟨[], by simp, trivial⟩
  | .tmp t :: rs, ds, vs, h1, h2 => by
    simp only [compResults] at h1
    cases hc : compResults T rs with
    | none => rw [hc] at h1; cases h1
    | some ds' =>
      rw [hc] at h1; simp only [Option.some.injEq] at h1; subst h1
      simp only [resVals] at h2
      cases hg : tm.get t with
      | none => rw [hg] at h2; cases h2
      | some v =>
        cases hr : resVals hp tm ds' with
        | none => rw [hg, hr] at h2; cases h2
        | some vs' =>
          rw [hg, hr] at h2; simp only [Option.some.injEq] at h2; subst h2
          obtain ⟨us, e1, e2⟩ := results_list hL hW hT rs ds' vs' hc hr
          exact ⟨_ :: us, by simp only [List.mapM_cons, Sem.run_bind, Sem.run_pure, Result.andThen_ok, e1], (hT t v hg).2, e2⟩
  | .cell ad t :: rs, ds, vs, h1, h2 => by
    simp only [compResults] at h1
    cases hk : kindOf T t with
    | none => rw [hk] at h1; cases h1
    | some k =>
      cases hc : compResults T rs with
      | none => rw [hk, hc] at h1; cases h1
      | some ds' =>
        rw [hk, hc] at h1; simp only [Option.some.injEq] at h1; subst h1
        simp only [resVals] at h2
        cases hg : tm.get ad with
        | none => rw [hg] at h2; cases h2
        | some v =>
          cases hr : resVals hp tm ds' with
          | none => rw [hg, hr] at h2; cases h2
          | some vs' =>
            rw [hg, hr] at h2; simp only at h2
            cases hl : loadK hp k v with
            | none => rw [hl] at h2; cases h2
            | some y =>
              rw [hl] at h2; simp only [Option.some.injEq] at h2; subst h2
              obtain ⟨us, e1, e2⟩ := results_list hL hW hT rs ds' vs' hc hr
              obtain ⟨ad', cv, f1, f2, f3⟩ := loadK_run (P := P) hL hk hW (hT ad v hg).2 hl
              have f4 : (asAddr (a.tmps.getD ad undef)).run P w = .ok ad' w := by rw [f1]; rfl
              exact ⟨cv :: us, by simp only [List.mapM_cons, Sem.run_bind, Sem.run_pure, Result.andThen_ok, f4, f2, e1], f3, e2⟩

theorem VRs.one {vs : List AV} {us : List Value} (h : VRs g w vs us) : VR g w (Det.one vs) (if h : us.toArray.size = 1 then us.toArray[0] else .tuple us.toArray) := by
  obtain ⟨h1, h2⟩ := h.get
  have tup : VR g w (.tup vs) (.tuple us.toArray) := .tup _ _ (by simpa using h1) (fun k x e => by
    obtain ⟨u, e1, e2⟩ := h2 k x e
    have : us.toArray.getD k undef = u := by rw [Array.getD_eq_getD_getElem?, List.getElem?_toArray, e1]; rfl
    rw [this]; exact e2)
  match vs, us, h, h1, tup with
  | [], [], _, _, tup => exact tup
  | [v], [u], h, _, _ => exact h.1
  | v :: v2 :: vs, u :: u2 :: us, _, _, tup =>
    rw [dif_neg (by simp)]
    exact tup

theorem results_ok (hL : Link P T E) (hW : WR GC B0 g hp c w) (hT : TM g w tm a) {fn : Func} {ds : List (Nat × Option (Option Nat))} {vs : List AV} (h1 : compResults T fn.results.toList = some ds) (h2 : resVals hp tm ds = some vs) :
    ∃ cv, (results fn a.tmps).run P w = .ok cv w ∧ VR g w (one vs) cv := by
  obtain ⟨us, e1, e2⟩ := results_list (P := P) hL hW hT _ ds vs h1 h2
  refine ⟨_, ?_, e2.one⟩
  unfold results
  rw [Sem.run_bind, Array.mapM_eq_mapM_toList, Sem.run_map]
  erw [e1]
  rfl

theorem fun_ok (hL : Link P T E) (hR : CallOk P GC B0 rec) (hB : ∀ f hp c args r, rec (.call f args) hp c = some r → Bodied P f) (hO : LoopOk P T E GC B0 rec) (hDr : DrawOk P T E GC B0 rec)
    {f : Nat} {fn : Func} {pol : Pol} {d : DFun} (hf : P.funcs[f]? = some fn) (hc : compFun GC T E pol f fn = some d) {args : List AV} {v : AV} {us : List Value}
    (h : enter rec d args hp c = some (.v v hp' c')) (hW : WR GC B0 g hp c w) (hv : VRs g w args us) : Calls P f us.toArray w (CallPost GC B0 g w v hp' c') := by
  unfold compFun at hc
  cases hb : fn.body with
  | none => rw [hb] at hc; cases hc
  | some code =>
    cases hrs : compResults T fn.results.toList with
    | none => rw [hb, hrs] at hc; cases hc
    | some ds =>
      rw [hb, hrs] at hc; simp only [Option.some.injEq] at hc
      unfold enter at h
      -- the arguments, frozen or not
      have hargs : ∃ g1 args1 hp1, (bif d.freezeArg then freezes 100000 false true hp args else some (args, hp)) = some (args1, hp1) ∧ Ext B0 g w g1 w ∧ WR GC B0 g1 hp1 c w ∧ VRs g1 w args1 us := by
        cases hfa : d.freezeArg with
        | false => exact ⟨g, args, hp, rfl, Ext.refl .., hW, hv⟩
        | true =>
          rw [hfa] at h; simp only [cond_true] at h ⊢
          cases hfz : freezes 100000 false true hp args with
          | none => rw [hfz] at h; cases h
          | some q =>
            obtain ⟨args1, hp1⟩ := q
            obtain ⟨v1, v2⟩ := hv.get
            obtain ⟨g1, f1, f2, f3, f4⟩ := (freeze_ok GC B0 100000).2 args g hp c w false true (fun k => us.getD k undef) args1 hp1 hW (fun k x e => by
              obtain ⟨u, e1, e2⟩ := v2 k x e
              rw [List.getD_eq_getElem?_getD, e1]; exact e2) hfz
            exact ⟨g1, args1, hp1, rfl, f1, f2, VRs.of (by omega) f4⟩
      obtain ⟨g1, args1, hp1, e1, e2, e3, e4⟩ := hargs
      rw [e1] at h; simp only at h
      obtain ⟨t1, t2⟩ := enter_TM e4 fn.ntmps
      have hnt : d.ntmps = fn.ntmps := by rw [← hc]
      have hbody : d.body = comp GC T E (!mem f pol.noFB) code := by rw [← hc]
      have hres : d.results = ds := by rw [← hc]
      rw [hnt, hbody] at h
      cases hcr : codeRun rec (comp GC T E (!mem f pol.noFB) code) (undefs (fn.ntmps - args1.length) args1.length (putAll args1 0 .nil)) hp1 c with
      | none => rw [hcr] at h; cases h
      | some out =>
        rw [hcr] at h
        cases out with
        | v _ _ _ => cases h
        | x ex tm2 hp2 c2 =>
          have hwp := code_ok hL hR hB hO hDr code _ hp1 c ex tm2 hp2 c2 g1 w _ hcr e3 t1 t2 rfl
          have hfin : ex ≠ .normal → ex ≠ .ret → False := by
            intro h1 h2
            cases ex with
            | normal => exact h1 rfl
            | exit i => cases h
            | ret => exact h2 rfl
          have h' : finish d tm2 hp2 c2 = some (.v v hp' c') := by
            cases ex with
            | normal => exact h
            | exit i => cases h
            | ret => exact h
          refine calls_of_wp hf hb (wp_mono hwp (fun x a' w' hq => ?_))
          have fin : Done GC B0 g1 w tm2 hp2 c2 a' w' → a'.defers = [] ∧ ∃ cv, (results fn a'.tmps).run P w' = .ok cv w' ∧ CallPost GC B0 g w v hp' c' (.returned cv) w' := by
            rintro ⟨⟨g2, k1, k2, k3⟩, k4, k5⟩
            refine ⟨k5, ?_⟩
            unfold finish at h'
            rw [hres] at h'
            cases hrv : resVals hp2 tm2 ds with
            | none => rw [hrv] at h'; cases h'
            | some vs =>
              rw [hrv] at h'; simp only at h'
              obtain ⟨cv, r1, r2⟩ := results_ok (P := P) hL k2 k3 hrs hrv
              have fz : ∀ (ptrs : Bool), (match freeze 100000 ptrs true hp2 (one vs) with | some (v, hp) => some (Out.v v hp c2) | none => none) = some (.v v hp' c') → CallPost GC B0 g w v hp' c' (.returned cv) w' := by
                intro ptrs hh
                cases hfr : freeze 100000 ptrs true hp2 (one vs) with
                | none => rw [hfr] at hh; cases hh
                | some q =>
                  obtain ⟨y, hp3⟩ := q
                  rw [hfr] at hh
                  simp only [Option.some.injEq, Out.v.injEq] at hh
                  obtain ⟨rfl, rfl, rfl⟩ := hh
                  obtain ⟨g3, m1, m2, m3⟩ := (freeze_ok GC B0 100000).1 g2 hp2 c2 w' ptrs true (one vs) cv y hp3 k2 r2 hfr
                  exact ⟨g3, e2.trans (k1.trans m1), m2, m3⟩
              refine ⟨cv, r1, ?_⟩
              cases hfp : d.freezePtr with
              | true => rw [hfp] at h'; exact fz true h'
              | false =>
                rw [hfp] at h'; simp only [cond_false] at h'
                cases hfr : d.freezeRet with
                | true => rw [hfr] at h'; exact fz false h'
                | false =>
                  rw [hfr] at h'
                  simp only [cond_false, Option.some.injEq, Out.v.injEq] at h'
                  obtain ⟨rfl, rfl, rfl⟩ := h'
                  exact ⟨g2, e2.trans k1, k2, r2⟩
          cases x with
          | normal => exact fin hq.2
          | ret => exact fin hq.2
          | exit i => exact (hfin (by rw [hq.1]; simp) (by rw [hq.1]; simp)).elim
          | goto l => exact hq.elim
          | panic ch => exact hq.elim
          | outgrown => exact hq.elim

theorem run_ok (hL : Link P T E) {G : G} (hG : FunsOk P T E GC B0 G)
    (hDr : ∀ rec, CallOk P GC B0 rec → (∀ f hp c args r, rec (.call f args) hp c = some r → Bodied P f) → DrawOk P T E GC B0 rec) :
    ∀ n, CallOk P GC B0 (run G n) ∧ (∀ f hp c args r, run G n (.call f args) hp c = some r → Bodied P f) ∧ LoopOk P T E GC B0 (run G n) := by
  intro n
  induction n with
  | zero =>
    refine ⟨fun f args hp c v hp' c' g w us h => ?_, fun f hp c args r h => ?_, fun fz code tm hp c e tm' hp' c' g w a h => ?_⟩ <;> cases h
  | succ n ih =>
    obtain ⟨hR, hB, hO⟩ := ih
    have hD := hDr _ hR hB
    refine ⟨fun f args hp c v hp' c' g w us h hW hv => ?_, fun f hp c args r h => ?_, fun fz code tm hp c e tm' hp' c' g w a h hW hT hF hDe => ?_⟩
    · have h' : step (run G n) G (.call f args) hp c = some (.v v hp' c') := h
      simp only [step] at h'
      cases hf : G.fun_ f with
      | none => rw [hf] at h'; cases h'
      | some x =>
        rw [hf] at h'
        cases x with
        | inl d =>
          obtain ⟨fn, pol, k1, k2⟩ := hG.code f d hf
          exact fun_ok hL hR hB hO hD k1 k2 h' hW hv
        | inr p =>
          simp only at h'
          cases hp1 : p args hp c with
          | none => rw [hp1] at h'; cases h'
          | some q =>
            obtain ⟨v1, hp2, c2⟩ := q
            rw [hp1] at h'
            simp only [Option.some.injEq, Out.v.injEq] at h'
            obtain ⟨rfl, rfl, rfl⟩ := h'
            exact hG.prim f p hf args hp c v1 hp2 c2 g w us hp1 hW hv
    · have h' : step (run G n) G (.call f args) hp c = some r := h
      simp only [step] at h'
      cases hf : G.fun_ f with
      | none => rw [hf] at h'; cases h'
      | some x => exact hG.bodied f x hf
    · have h' : codeRun (run G n) (.loop (comp GC T E fz code)) tm hp c = some (.x e tm' hp' c') := h
      have hwp := code_ok hL hR hB hO hD (.loop code) tm hp c e tm' hp' c' g w a h' hW hT hF hDe
      -- the loop's own wp, taken behind its first step
      simp only [codeRun] at h'
      cases hx : codeRun (run G n) (comp GC T E fz code) tm hp c with
      | none => rw [hx] at h'; cases h'
      | some out =>
        cases out with
        | v _ _ _ => rw [hx] at h'; cases h'
        | x e1 tm1 hp1 c1 =>
          rw [hx] at h'
          refine LoopWp.of (wp_mono (code_ok hL hR hB hO hD code tm hp c e1 tm1 hp1 c1 g w a hx hW hT hF hDe) (fun xe a1 w1 hq => ?_))
          cases e1 with
          | normal =>
            simp only at h'
            cases xe with
            | normal =>
              obtain ⟨⟨g1, k1, k2, k3⟩, k4, k5⟩ := hq.2
              intro b' k' cs'
              obtain ⟨e2, a2, w2, hq2, harr2⟩ := hO fz code tm1 hp1 c1 e tm' hp' c' g1 w1 a1 h' k2 k3 k4 k5 b' k' cs'
              exact ⟨e2, a2, w2, Post.mono k1 hq2, harr2⟩
            | exit i => cases hq.1
            | ret => cases hq.1
            | goto l => exact hq.elim
            | panic ch => exact hq.elim
            | outgrown => exact hq.elim
          | exit i =>
            simp only [Option.some.injEq, Out.x.injEq] at h'
            obtain ⟨rfl, rfl, rfl, rfl⟩ := h'
            cases xe with
            | normal => cases hq.1
            | _ => exact hq
          | ret =>
            simp only [Option.some.injEq, Out.x.injEq] at h'
            obtain ⟨rfl, rfl, rfl, rfl⟩ := h'
            cases xe with
            | normal => cases hq.1
            | _ => exact hq
end
end Det
namespace Det
open Go

section
variable {P : Program} {T : PT TypeInfo} {E : List Nat} {GC : GT} {fz : Bool}

-- ------------------------------------------------------------------ what the check of a region says

theorem mem_iff {n : Nat} : ∀ {l : List Nat}, mem n l = true ↔ n ∈ l
  | [] => by simp [mem]
  | x :: l => by
    simp only [mem]
    cases h : Nat.beq n x with
    | true => simp [Nat.eq_of_beq_eq_true h]
    | false =>
      have : n ≠ x := fun e => by rw [e, Nat.beq_refl] at h; cases h
      simp [this, mem_iff (l := l)]

def PairIn (an : List (List Nat)) (l : List DOper) (p : Prs) (i j : Nat) : Prop :=
  ∀ x y, l[i]? = some x → l[j]? = some y → mem i (an.getD j []) = true ∨
    (pairOf x y ≠ .no ∧ (pairOf x y = .rd → (i, j) ∈ p.rd) ∧ (pairOf x y = .dr → (j, i) ∈ p.rd) ∧ (pairOf x y = .ss → (i, j) ∈ p.st) ∧
      (pairOf x y = .al → (i, j) ∈ p.al) ∧ (pairOf x y = .la → (j, i) ∈ p.al))

def Prs.le (p q : Prs) : Prop := (∀ x, x ∈ p.rd → x ∈ q.rd) ∧ (∀ x, x ∈ p.st → x ∈ q.st) ∧ (∀ x, x ∈ p.al → x ∈ q.al)
theorem Prs.le_refl (p : Prs) : p.le p := ⟨fun _ h => h, fun _ h => h, fun _ h => h⟩
theorem Prs.le_trans {p q r : Prs} (h : p.le q) (k : q.le r) : p.le r := ⟨fun x e => k.1 x (h.1 x e), fun x e => k.2.1 x (h.2.1 x e), fun x e => k.2.2 x (h.2.2 x e)⟩

theorem pairsOf_spec (an : List (List Nat)) (i : Nat) (x : DOper) : ∀ (l : List DOper) (j0 : Nat) (p q : Prs), pairsOf an i x j0 l p = some q →
    p.le q ∧ ∀ k y, l[k]? = some y → mem i (an.getD (j0 + k) []) = true ∨
      (pairOf x y ≠ .no ∧ (pairOf x y = .rd → (i, j0 + k) ∈ q.rd) ∧ (pairOf x y = .dr → (j0 + k, i) ∈ q.rd) ∧ (pairOf x y = .ss → (i, j0 + k) ∈ q.st) ∧
        (pairOf x y = .al → (i, j0 + k) ∈ q.al) ∧ (pairOf x y = .la → (j0 + k, i) ∈ q.al)) := by
  intro l
  induction l with
  | nil =>
    intro j0 p q h
    simp only [pairsOf, Option.some.injEq] at h; subst h
    exact ⟨p.le_refl, fun k y e => by simp at e⟩
  | cons y l ih =>
    intro j0 p q h
    simp only [pairsOf] at h
    have shift : ∀ {p1 : Prs}, pairsOf an i x (j0 + 1) l p1 = some q → p1.le q ∧ ∀ k z, l[k]? = some z → mem i (an.getD (j0 + (k + 1)) []) = true ∨
        (pairOf x z ≠ .no ∧ (pairOf x z = .rd → (i, j0 + (k + 1)) ∈ q.rd) ∧ (pairOf x z = .dr → (j0 + (k + 1), i) ∈ q.rd) ∧ (pairOf x z = .ss → (i, j0 + (k + 1)) ∈ q.st) ∧
          (pairOf x z = .al → (i, j0 + (k + 1)) ∈ q.al) ∧ (pairOf x z = .la → (j0 + (k + 1), i) ∈ q.al)) := by
      intro p1 h1
      obtain ⟨e1, e2⟩ := ih (j0 + 1) p1 q h1
      exact ⟨e1, fun k z e => by have := e2 k z e; rw [show j0 + 1 + k = j0 + (k + 1) by omega] at this; exact this⟩
    cases hm : mem i (an.getD j0 []) with
    | true =>
      rw [hm] at h; simp only [cond_true] at h
      obtain ⟨e1, e2⟩ := shift h
      refine ⟨e1, fun k z e => ?_⟩
      cases k with
      | zero => exact .inl hm
      | succ k => exact e2 k z (by simpa using e)
    | false =>
      rw [hm] at h; simp only [cond_false] at h
      have fin : ∀ {p1 : Prs}, p.le p1 → pairsOf an i x (j0 + 1) l p1 = some q → (pairOf x y ≠ .no ∧ (pairOf x y = .rd → (i, j0) ∈ p1.rd) ∧ (pairOf x y = .dr → (j0, i) ∈ p1.rd) ∧ (pairOf x y = .ss → (i, j0) ∈ p1.st) ∧
          (pairOf x y = .al → (i, j0) ∈ p1.al) ∧ (pairOf x y = .la → (j0, i) ∈ p1.al)) → p.le q ∧ ∀ k z, (y :: l)[k]? = some z → mem i (an.getD (j0 + k) []) = true ∨
          (pairOf x z ≠ .no ∧ (pairOf x z = .rd → (i, j0 + k) ∈ q.rd) ∧ (pairOf x z = .dr → (j0 + k, i) ∈ q.rd) ∧ (pairOf x z = .ss → (i, j0 + k) ∈ q.st) ∧
            (pairOf x z = .al → (i, j0 + k) ∈ q.al) ∧ (pairOf x z = .la → (j0 + k, i) ∈ q.al)) := by
        intro p1 hle h1 h2
        obtain ⟨e1, e2⟩ := shift h1
        refine ⟨Prs.le_trans hle e1, fun k z e => ?_⟩
        cases k with
        | zero =>
          simp only [List.getElem?_cons_zero, Option.some.injEq] at e; subst e
          exact .inr ⟨h2.1, fun h => e1.1 _ (h2.2.1 h), fun h => e1.1 _ (h2.2.2.1 h), fun h => e1.2.1 _ (h2.2.2.2.1 h), fun h => e1.2.2 _ (h2.2.2.2.2.1 h), fun h => e1.2.2 _ (h2.2.2.2.2.2 h)⟩
        | succ k => exact e2 k z (by simpa using e)
      cases hp : pairOf x y with
      | fine => rw [hp] at h; exact fin p.le_refl h (by rw [hp]; simp)
      | rd =>
        rw [hp] at h; simp only at h
        refine fin ?_ h ?_
        · exact ⟨fun x e => List.mem_cons_of_mem _ e, fun _ e => e, fun _ e => e⟩
        · rw [hp]; simp
      | dr =>
        rw [hp] at h; simp only at h
        refine fin ?_ h ?_
        · exact ⟨fun x e => List.mem_cons_of_mem _ e, fun _ e => e, fun _ e => e⟩
        · rw [hp]; simp
      | ss =>
        rw [hp] at h; simp only at h
        refine fin ?_ h ?_
        · exact ⟨fun _ e => e, fun x e => List.mem_cons_of_mem _ e, fun _ e => e⟩
        · rw [hp]; simp
      | al =>
        rw [hp] at h; simp only at h
        refine fin ?_ h ?_
        · exact ⟨fun _ e => e, fun _ e => e, fun x e => List.mem_cons_of_mem _ e⟩
        · rw [hp]; simp
      | la =>
        rw [hp] at h; simp only at h
        refine fin ?_ h ?_
        · exact ⟨fun _ e => e, fun _ e => e, fun x e => List.mem_cons_of_mem _ e⟩
        · rw [hp]; simp
      | no => rw [hp] at h; cases h

theorem allPairs_spec (an : List (List Nat)) : ∀ (l : List DOper) (i0 : Nat) (p q : Prs), allPairs an i0 l p = some q →
    p.le q ∧ ∀ a b x y, a < b → l[a]? = some x → l[b]? = some y → mem (i0 + a) (an.getD (i0 + b) []) = true ∨
      (pairOf x y ≠ .no ∧ (pairOf x y = .rd → (i0 + a, i0 + b) ∈ q.rd) ∧ (pairOf x y = .dr → (i0 + b, i0 + a) ∈ q.rd) ∧ (pairOf x y = .ss → (i0 + a, i0 + b) ∈ q.st) ∧
        (pairOf x y = .al → (i0 + a, i0 + b) ∈ q.al) ∧ (pairOf x y = .la → (i0 + b, i0 + a) ∈ q.al)) := by
  intro l
  induction l with
  | nil => intro i0 p q h; simp only [allPairs, Option.some.injEq] at h; subst h; exact ⟨p.le_refl, fun a b x y _ e => by simp at e⟩
  | cons z l ih =>
    intro i0 p q h
    simp only [allPairs] at h
    cases h1 : pairsOf an i0 z (i0 + 1) l p with
    | none => rw [h1] at h; cases h
    | some p1 =>
      rw [h1] at h; simp only at h
      obtain ⟨e1, e2⟩ := pairsOf_spec an i0 z l (i0 + 1) p p1 h1
      obtain ⟨f1, f2⟩ := ih (i0 + 1) p1 q h
      refine ⟨Prs.le_trans e1 f1, fun a b x y hab ha hb => ?_⟩
      cases b with
      | zero => omega
      | succ b =>
        simp only [List.getElem?_cons_succ] at hb
        cases a with
        | zero =>
          simp only [List.getElem?_cons_zero, Option.some.injEq] at ha; subst ha
          have := e2 b y hb
          rw [show i0 + 1 + b = i0 + (b + 1) by omega] at this
          rw [Nat.add_zero]
          rcases this with h | ⟨g1, g2, g3, g4, g5, g6⟩
          · exact .inl h
          · exact .inr ⟨g1, fun h => f1.1 _ (g2 h), fun h => f1.1 _ (g3 h), fun h => f1.2.1 _ (g4 h), fun h => f1.2.2 _ (g5 h), fun h => f1.2.2 _ (g6 h)⟩
        | succ a =>
          simp only [List.getElem?_cons_succ] at ha
          have := f2 a b x y (by omega) ha hb
          rw [show i0 + 1 + a = i0 + (a + 1) by omega, show i0 + 1 + b = i0 + (b + 1) by omega] at this
          exact this

/-- ahead of an operation: by its edges, or ahead of one of those -/
theorem ancs_spec (D : Nat → Prop) (ops : List Oper) (hD : ∀ j o, ops[j]? = some o → D j → ∀ e, e ∈ o.after.toList → Region.binds .any e = true → D e.on) :
    ∀ (l pre : List Oper) (acc : List (List Nat)), ops = pre ++ l → acc.length = pre.length →
      (∀ j o, pre[j]? = some o → (∀ e, e ∈ o.after.toList → Region.binds .any e = true → D e.on) → ∀ i, i ∈ acc.getD j [] → D i) →
      ∀ j o, ops[j]? = some o → (∀ e, e ∈ o.after.toList → Region.binds .any e = true → D e.on) → ∀ i, i ∈ (ancs l acc).getD j [] → D i := by
  intro l
  induction l with
  | nil =>
    intro pre acc hops hlen hacc j o ho hd i hi
    simp only [ancs] at hi
    rw [List.append_nil] at hops
    subst hops
    exact hacc j o ho hd i hi
  | cons q l ih =>
    intro pre acc hops hlen hacc
    simp only [ancs]
    refine ih (pre ++ [q]) _ (by rw [hops]; simp) (by simp [hlen]) (fun j o ho hd i hi => ?_)
    by_cases hj : j < pre.length
    · rw [List.getElem?_append_left hj] at ho
      rw [List.getD_eq_getElem?_getD, List.getElem?_append_left (by omega), ← List.getD_eq_getElem?_getD] at hi
      exact hacc j o ho hd i hi
    · have hj2 : j = pre.length := by
        have := (List.getElem?_eq_some_iff.1 ho).1
        simp at this; omega
      subst hj2
      rw [List.getElem?_append_right (Nat.le_refl _), Nat.sub_self] at ho
      simp only [List.getElem?_cons_zero, Option.some.injEq] at ho; subst ho
      rw [List.getD_eq_getElem?_getD, List.getElem?_append_right (by omega), hlen, Nat.sub_self] at hi
      simp only [List.getElem?_cons_zero, Option.getD_some] at hi
      -- along the edges
      have : ∀ es : List Edge, (∀ e, e ∈ es → e ∈ q.after.toList ∧ Region.binds .any e = true) → ∀ i, i ∈ es.foldr (fun e s => e.on :: (acc.getD e.on [] ++ s)) [] → D i := by
        intro es
        induction es with
        | nil => intro _ i hi; cases hi
        | cons e es ihe =>
          intro hes i hi
          simp only [List.foldr_cons, List.mem_cons, List.mem_append] at hi
          obtain ⟨g1, g2⟩ := hes e (List.mem_cons_self ..)
          have hde := hd e g1 g2
          rcases hi with rfl | hi | hi
          · exact hde
          · by_cases hlt : e.on < pre.length
            · have ho : pre[e.on]? = some pre[e.on] := List.getElem?_eq_getElem hlt
              refine hacc e.on _ ho (fun e' h1 h2 => hD e.on pre[e.on] (by rw [hops, List.getElem?_append_left hlt, ho]) hde e' h1 h2) i hi
            · rw [List.getD_eq_getElem?_getD, List.getElem?_eq_none (by omega)] at hi
              cases hi
          · exact ihe (fun e' he' => hes e' (List.mem_cons_of_mem _ he')) i hi
      refine this _ (fun e he => ?_) i hi
      have := List.mem_filter.1 he
      exact ⟨this.1, this.2⟩

theorem backs_spec : ∀ (l : List Oper) (i0 : Nat), backs i0 l = true → ∀ j o, l[j]? = some o → ∀ e, e ∈ o.after.toList → Region.binds .any e = true → e.on < i0 + j
  | [], i0, h, j, o, ho => by simp at ho
  | q :: l, i0, h, j, o, ho => by
    simp only [backs, Bool.and_eq_true, List.all_eq_true] at h
    intro e he hb
    cases j with
    | zero =>
      simp only [List.getElem?_cons_zero, Option.some.injEq] at ho; subst ho
      have := h.1 e he
      rw [hb] at this
      simpa [Nat.blt_eq] using this
    | succ j =>
      have := backs_spec l (i0 + 1) h.2 j o (by simpa using ho) e he hb
      omega

theorem dstsApart_spec : ∀ (l : List DOper), dstsApart l = true → ∀ (i j : Nat) (x y : DOper) (d : Nat), i < j → l[i]? = some x → l[j]? = some y → x.dst = some d → y.dst = some d → False
  | [], _, i, j, x, y, d, _, hx, _ => by simp at hx
  | q :: l, h, i, j, x, y, d, hij, hx, hy => by
    simp only [dstsApart, Bool.and_eq_true, List.all_eq_true] at h
    intro e1 e2
    cases j with
    | zero => omega
    | succ j =>
      simp only [List.getElem?_cons_succ] at hy
      cases i with
      | zero =>
        simp only [List.getElem?_cons_zero, Option.some.injEq] at hx; subst hx
        have := h.1 y (List.mem_of_getElem? hy)
        rw [e1, e2] at this
        simp [sameDst, Nat.beq_refl] at this
      | succ i => exact dstsApart_spec l h.2 i j x y d (by omega) (by simpa using hx) hy e1 e2
end
end Det
namespace Det
open Go

section
variable {P : Program} {T : PT TypeInfo} {E : List Nat} {GC : GT} {fz : Bool} {rec : Task → PT HO → Nat → Option Out}

-- ------------------------------------------------------------------ allocations laid ahead

def isPre : DOp → Bool | .pre _ _ => true | _ => false
/-- how many of the first n -/
def preN (l : List DOper) (n : Nat) : Nat := ((l.take n).filter fun q => isPre q.op).length

theorem preN_zero (l : List DOper) : preN l 0 = 0 := by simp [preN]
theorem preN_cons (q : DOper) (l : List DOper) (n : Nat) : preN (q :: l) (n + 1) = (if isPre q.op then 1 else 0) + preN l n := by
  simp only [preN, List.take_succ_cons, List.filter_cons]
  split <;> simp [Nat.add_comm]
theorem preN_mono (l : List DOper) : ∀ {m n : Nat}, m ≤ n → preN l m ≤ preN l n := by
  intro m n h
  induction l generalizing m n with
  | nil => simp [preN]
  | cons q l ih =>
    cases m with
    | zero => simp [preN_zero]
    | succ m =>
      cases n with
      | zero => omega
      | succ n => rw [preN_cons, preN_cons]; have := ih (m := m) (n := n) (by omega); omega

theorem floats_spec (an : List (List Nat)) : ∀ (l0 : List DOper) (i0 m0 : Nat), (∀ q, q ∈ l0 → isPre q.op = false) →
    (floats an i0 m0 l0).length = l0.length ∧ ∀ i q0, l0[i]? = some q0 → ∃ q, (floats an i0 m0 l0)[i]? = some q ∧ q.dst = q0.dst ∧ q.args = q0.args ∧ q.guard = q0.guard ∧
      ((q.op = q0.op ∧ isPre q.op = false) ∨ ∃ z, q0.op = .alloc z ∧ q0.guard = none ∧ an.getD (i0 + i) [] = [] ∧ q.op = .pre (m0 + preN (floats an i0 m0 l0) i) z) := by
  intro l0
  induction l0 with
  | nil => intro i0 m0 _; exact ⟨rfl, fun i q0 e => by simp at e⟩
  | cons q l0 ih =>
    intro i0 m0 hpre
    have hq := hpre q (List.mem_cons_self ..)
    have hl := fun x hx => hpre x (List.mem_cons_of_mem _ hx)
    -- an operation kept as it is
    have keep : floats an i0 m0 (q :: l0) = q :: floats an (i0 + 1) m0 l0 → (floats an i0 m0 (q :: l0)).length = (q :: l0).length ∧ ∀ i q0, (q :: l0)[i]? = some q0 →
        ∃ q', (floats an i0 m0 (q :: l0))[i]? = some q' ∧ q'.dst = q0.dst ∧ q'.args = q0.args ∧ q'.guard = q0.guard ∧
          ((q'.op = q0.op ∧ isPre q'.op = false) ∨ ∃ z, q0.op = .alloc z ∧ q0.guard = none ∧ an.getD (i0 + i) [] = [] ∧ q'.op = .pre (m0 + preN (floats an i0 m0 (q :: l0)) i) z) := by
      intro he
      rw [he]
      obtain ⟨h1, h2⟩ := ih (i0 + 1) m0 hl
      refine ⟨by simp [h1], fun i q0 e => ?_⟩
      cases i with
      | zero =>
        simp only [List.getElem?_cons_zero, Option.some.injEq] at e; subst e
        exact ⟨q, rfl, rfl, rfl, rfl, .inl ⟨rfl, hq⟩⟩
      | succ i =>
        obtain ⟨q', e1, e2, e3, e4, e5⟩ := h2 i q0 (by simpa using e)
        refine ⟨q', by simpa using e1, e2, e3, e4, ?_⟩
        rw [preN_cons, hq]
        simp only [Bool.false_eq_true, if_false, Nat.zero_add]
        rw [show i0 + (i + 1) = i0 + 1 + i by omega]
        exact e5
    cases hop : q.op with
    | alloc z =>
      cases hg : q.guard with
      | none =>
        cases ha : an.getD i0 [] with
        | nil =>
          have he : floats an i0 m0 (q :: l0) = { q with op := .pre m0 z } :: floats an (i0 + 1) (m0 + 1) l0 := by
            simp only [floats, hop, hg, ha]
          rw [he]
          obtain ⟨h1, h2⟩ := ih (i0 + 1) (m0 + 1) hl
          refine ⟨by simp [h1], fun i q0 e => ?_⟩
          cases i with
          | zero =>
            simp only [List.getElem?_cons_zero, Option.some.injEq] at e; subst e
            exact ⟨_, rfl, rfl, rfl, rfl, .inr ⟨z, hop, hg, by simpa using ha, by simp [preN_zero]⟩⟩
          | succ i =>
            obtain ⟨q', e1, e2, e3, e4, e5⟩ := h2 i q0 (by simpa using e)
            refine ⟨q', by simpa using e1, e2, e3, e4, ?_⟩
            rw [preN_cons]
            simp only [isPre, if_true]
            rw [show i0 + (i + 1) = i0 + 1 + i by omega, ← Nat.add_assoc]
            exact e5
        | cons y ys => exact keep (by simp only [floats, hop, hg, ha])
      | some b => exact keep (by simp only [floats, hop, hg])
    | _ => exact keep (by simp only [floats, hop])

theorem laid_spec : ∀ (l : List DOper) (hp : PT HO) (c : Nat),
    (laid l hp c).2 = c + preN l l.length ∧ (∀ i q m z, l[i]? = some q → q.op = .pre m z → (laid l hp c).1.get (c + preN l i) = some (.cells z)) ∧
      ∀ id, (id < c ∨ c + preN l l.length ≤ id) → (laid l hp c).1.get id = hp.get id := by
  intro l
  induction l with
  | nil => intro hp c; exact ⟨rfl, fun i q m z e => by simp at e, fun id _ => rfl⟩
  | cons q l ih =>
    intro hp c
    have other : isPre q.op = false → laid (q :: l) hp c = laid l hp c := by
      intro h
      cases hop : q.op <;> first | (simp only [laid, hop]; done) | (rw [hop] at h; cases h)
    cases hpre : isPre q.op with
    | false =>
      rw [other hpre]
      obtain ⟨h1, h2, h3⟩ := ih hp c
      simp only [List.length_cons, preN_cons, hpre, Bool.false_eq_true, if_false, Nat.zero_add]
      refine ⟨h1, fun i q' m z e1 e2 => ?_, h3⟩
      cases i with
      | zero =>
        simp only [List.getElem?_cons_zero, Option.some.injEq] at e1; subst e1
        rw [e2] at hpre; cases hpre
      | succ i =>
        rw [preN_cons, hpre]
        simp only [Bool.false_eq_true, if_false, Nat.zero_add]
        exact h2 i q' m z (by simpa using e1) e2
    | true =>
      cases hop : q.op with
      | pre m0 z0 =>
        have he : laid (q :: l) hp c = laid l (hp.set c (.cells z0)) (c + 1) := by simp only [laid, hop]
        rw [he]
        obtain ⟨h1, h2, h3⟩ := ih (hp.set c (.cells z0)) (c + 1)
        simp only [List.length_cons, preN_cons, hpre, if_true]
        refine ⟨by rw [h1]; omega, fun i q' m z e1 e2 => ?_, fun id hid => ?_⟩
        · cases i with
          | zero =>
            simp only [List.getElem?_cons_zero, Option.some.injEq] at e1; subst e1
            rw [hop] at e2
            simp only [DOp.pre.injEq] at e2
            rw [preN_zero]
            simp only [Nat.add_zero]
            rw [h3 c (.inl (by omega)), PT.get_set_same, e2.2]
          | succ i =>
            rw [preN_cons, hpre, if_pos rfl]
            have := h2 i q' m z (by simpa using e1) e2
            rw [show c + (1 + preN l i) = c + 1 + preN l i by omega]
            exact this
        · rw [h3 id (by omega), PT.get_set_ne _ _ (by omega)]
      | _ => rw [hop] at hpre; cases hpre

-- ------------------------------------------------------------------ the run in list order, state by state

structure Tr (rec : Task → PT HO → Nat → Option Out) (base : Nat) (l : List DOper) (S : Nat → PT AV × PT HO × Nat) (V : Nat → AV) (ev : List Ev) : Prop where
  len : ev.length = l.length
  put : ∀ i q, l[i]? = some q → putT (S i).1 q.dst (V i) = some (S (i + 1)).1
  did : ∀ i q, l[i]? = some q → wants q (S i).1 = true → ∃ vs, opvs (S i).1 q.args = some vs ∧
    doOpAt rec base q.op vs (S i).2.1 (S i).2.2 = some (V i, (S (i + 1)).2.1, (S (i + 1)).2.2) ∧ evAt ev i = evOf base q.op vs (V i) (S i).2.1 (S (i + 1)).2.1
  not : ∀ i q, l[i]? = some q → wants q (S i).1 = false → V i = .tup [] ∧ (S (i + 1)).2 = (S i).2 ∧ evAt ev i = .no

theorem evAt_cons (e : Ev) (l : List Ev) (i : Nat) : evAt (e :: l) (i + 1) = evAt l i := rfl

theorem opsLog_tr (base : Nat) : ∀ (l : List DOper) (tm : PT AV) (hp : PT HO) (c : Nat) (ev : List Ev) (tm' : PT AV) (hp' : PT HO) (c' : Nat),
    opsLog rec base l tm hp c = some (ev, tm', hp', c') → ∃ S V, S 0 = (tm, hp, c) ∧ S l.length = (tm', hp', c') ∧ Tr rec base l S V ev := by
  intro l
  induction l with
  | nil =>
    intro tm hp c ev tm' hp' c' h
    simp only [opsLog, Option.some.injEq, Prod.mk.injEq] at h
    obtain ⟨rfl, rfl, rfl, rfl⟩ := h
    exact ⟨fun _ => (tm, hp, c), fun _ => .nilp, rfl, rfl, rfl, fun i q e => by simp at e, fun i q e => by simp at e, fun i q e => by simp at e⟩
  | cons q l ih =>
    intro tm hp c ev tm' hp' c' h
    simp only [opsLog] at h
    -- one state more
    have glue : ∀ (tm1 : PT AV) (hp1 : PT HO) (c1 : Nat) (v : AV) (e : Ev) (ev1 : List Ev), opsLog rec base l tm1 hp1 c1 = some (ev1, tm', hp', c') → ev = e :: ev1 → putT tm q.dst v = some tm1 →
        (wants q tm = true → ∃ vs, opvs tm q.args = some vs ∧ doOpAt rec base q.op vs hp c = some (v, hp1, c1) ∧ e = evOf base q.op vs v hp hp1) →
        (wants q tm = false → v = .tup [] ∧ (hp1, c1) = (hp, c) ∧ e = .no) →
        ∃ S V, S 0 = (tm, hp, c) ∧ S (q :: l).length = (tm', hp', c') ∧ Tr rec base (q :: l) S V ev := by
      intro tm1 hp1 c1 v e ev1 h1 he hput hdid hnot
      obtain ⟨S, V, s0, sn, tr⟩ := ih tm1 hp1 c1 ev1 tm' hp' c' h1
      refine ⟨fun n => match n with | 0 => (tm, hp, c) | n + 1 => S n, fun n => match n with | 0 => v | n + 1 => V n, rfl, sn, ?_⟩
      subst he
      refine ⟨by simp [tr.len], fun i q' e' => ?_, fun i q' e' hw => ?_, fun i q' e' hw => ?_⟩
      · cases i with
        | zero => simp only [List.getElem?_cons_zero, Option.some.injEq] at e'; subst e'; simp only [s0]; exact hput
        | succ i => exact tr.put i q' (by simpa using e')
      · cases i with
        | zero => simp only [List.getElem?_cons_zero, Option.some.injEq] at e'; subst e'; simp only [s0]; exact hdid hw
        | succ i => exact tr.did i q' (by simpa using e') hw
      · cases i with
        | zero => simp only [List.getElem?_cons_zero, Option.some.injEq] at e'; subst e'; simp only [s0]; exact hnot hw
        | succ i => exact tr.not i q' (by simpa using e') hw
    cases hw : wants q tm with
    | true =>
      rw [hw] at h; simp only at h
      cases h1 : opvs tm q.args with
      | none => rw [h1] at h; cases h
      | some vs =>
        rw [h1] at h; simp only at h
        cases h2 : doOpAt rec base q.op vs hp c with
        | none => rw [h2] at h; cases h
        | some r =>
          obtain ⟨v, hp1, c1⟩ := r
          rw [h2] at h; simp only at h
          cases h3 : putT tm q.dst v with
          | none => rw [h3] at h; cases h
          | some tm1 =>
            rw [h3] at h; simp only at h
            cases h4 : opsLog rec base l tm1 hp1 c1 with
            | none => rw [h4] at h; cases h
            | some r2 =>
              obtain ⟨ev1, r3⟩ := r2
              rw [h4] at h
              simp only [Option.some.injEq, Prod.mk.injEq] at h
              obtain ⟨rfl, rfl⟩ := h
              exact glue tm1 hp1 c1 v _ ev1 h4 rfl h3 (fun _ => ⟨vs, h1, h2, rfl⟩) (fun h => by rw [hw] at h; cases h)
    | false =>
      rw [hw] at h; simp only at h
      cases h3 : putT tm q.dst (.tup []) with
      | none => rw [h3] at h; cases h
      | some tm1 =>
        rw [h3] at h; simp only at h
        cases h4 : opsLog rec base l tm1 hp c with
        | none => rw [h4] at h; cases h
        | some r2 =>
          obtain ⟨ev1, r3⟩ := r2
          rw [h4] at h
          simp only [Option.some.injEq, Prod.mk.injEq] at h
          obtain ⟨rfl, rfl⟩ := h
          exact glue tm1 hp c (.tup []) _ ev1 h4 rfl h3 (fun h => by rw [hw] at h; cases h) (fun _ => ⟨rfl, rfl, rfl⟩)

-- ------------------------------------------------------------------ slots

theorem putT_get {tm tm' : PT AV} {d : Option Nat} {v : AV} (h : putT tm d v = some tm') (s : Nat) : tm'.get s = if d = some s then some v else tm.get s := by
  cases d with
  | none => simp only [putT, Option.some.injEq] at h; subst h; simp
  | some d =>
    simp only [putT] at h
    cases hd : tm.get d with
    | none => rw [hd] at h; cases h
    | some u =>
      rw [hd] at h; simp only [Option.some.injEq] at h; subst h
      rw [PT.get_set]
      by_cases e : s = d
      · subst e; simp
      · rw [if_neg e, if_neg (fun h => e (by simpa using h.symm))]

/-- the slots when some are done -/
def tmD (l : List DOper) (V : Nat → AV) (tm0 : PT AV) (done : Nat → Bool) : Nat → PT AV
  | 0 => tm0
  | n + 1 => match l[n]? with
    | some q => (match q.dst, done n with | some d, true => (tmD l V tm0 done n).set d (V n) | _, _ => tmD l V tm0 done n)
    | none => tmD l V tm0 done n

theorem tmD_get {l : List DOper} {V : Nat → AV} {tm0 : PT AV} {done : Nat → Bool} (hap : ∀ (i j : Nat) (x y : DOper) (d : Nat), i < j → l[i]? = some x → l[j]? = some y → x.dst = some d → y.dst = some d → False) :
    ∀ n s, (∀ j q, j < n → l[j]? = some q → q.dst = some s → done j = true → (tmD l V tm0 done n).get s = some (V j)) ∧
      ((∀ j q, j < n → l[j]? = some q → q.dst = some s → done j = false) → (tmD l V tm0 done n).get s = tm0.get s) := by
  intro n
  induction n with
  | zero => intro s; exact ⟨fun j q h => by omega, fun _ => rfl⟩
  | succ n ih =>
    intro s
    obtain ⟨h1, h2⟩ := ih s
    cases hq : l[n]? with
    | none =>
      have he : tmD l V tm0 done (n + 1) = tmD l V tm0 done n := by simp only [tmD, hq]
      rw [he]
      refine ⟨fun j q hj e => ?_, fun h => h2 (fun j q hj => h j q (by omega))⟩
      by_cases hjn : j = n
      · subst hjn; rw [hq] at e; cases e
      · exact h1 j q (by omega) e
    | some q =>
      have keep : (q.dst ≠ some s ∨ done n = false) → (tmD l V tm0 done (n + 1)).get s = (tmD l V tm0 done n).get s := by
        intro hor
        simp only [tmD, hq]
        cases hd : q.dst with
        | none => rfl
        | some d =>
          cases hdn : done n with
          | false => rfl
          | true =>
            simp only
            rw [PT.get_set_ne]
            rcases hor with h | h
            · rw [hd] at h; intro e; exact h (by rw [e])
            · rw [hdn] at h; cases h
      refine ⟨fun j q' hj e1 e2 e3 => ?_, fun h => ?_⟩
      · by_cases hjn : j = n
        · subst hjn
          rw [hq] at e1; simp only [Option.some.injEq] at e1; subst e1
          simp only [tmD, hq, e2, e3, PT.get_set_same]
        · rw [keep (.inl (fun e => hap j n q' q s (by omega) e1 hq e2 e))]
          exact h1 j q' (by omega) e1 e2 e3
      · rw [keep (by
          by_cases e : q.dst = some s
          · exact .inr (h n q (by omega) hq e)
          · exact .inl e)]
        exact h2 (fun j q' hj => h j q' (by omega))

/-- in list order all that come ahead are done -/
theorem Tr.slots {base : Nat} {l : List DOper} {S : Nat → PT AV × PT HO × Nat} {V : Nat → AV} {ev : List Ev} (h : Tr rec base l S V ev)
    (hap : ∀ (i j : Nat) (x y : DOper) (d : Nat), i < j → l[i]? = some x → l[j]? = some y → x.dst = some d → y.dst = some d → False) :
    ∀ n, n ≤ l.length → ∀ s, (∀ j q, j < n → l[j]? = some q → q.dst = some s → (S n).1.get s = some (V j)) ∧
      ((∀ j q, j < n → l[j]? = some q → q.dst ≠ some s) → (S n).1.get s = (S 0).1.get s) := by
  intro n
  induction n with
  | zero => intro _ s; exact ⟨fun j q h => by omega, fun _ => rfl⟩
  | succ n ih =>
    intro hn s
    obtain ⟨h1, h2⟩ := ih (by omega) s
    have hq : l[n]? = some l[n] := List.getElem?_eq_getElem (by omega)
    have hput := putT_get (h.put n _ hq) s
    refine ⟨fun j q' hj e1 e2 => ?_, fun hh => ?_⟩
    · by_cases hjn : j = n
      · subst hjn
        rw [hq] at e1; simp only [Option.some.injEq] at e1; subst e1
        rw [hput, if_pos e2]
      · rw [hput, if_neg (fun e => hap j n q' _ s (by omega) e1 hq e2 e)]
        exact h1 j q' (by omega) e1 e2
    · rw [hput, if_neg (hh n _ (by omega) hq)]
      exact h2 (fun j q' hj => hh j q' (by omega))
end
end Det
namespace Det
open Go

-- ------------------------------------------------------------------ what kinds of operations lean on

/-- leaves the heap, does not look at it -/
def PureF (f : OpF) : Prop := ∀ vs hp c v hp' c', f vs hp c = some (v, hp', c') → hp' = hp ∧ c' = c ∧ ∀ h2 c2, f vs h2 c2 = some (v, h2, c2)
/-- leaves the heap -/
def ReadF (f : OpF) : Prop := ∀ vs hp c v hp' c', f vs hp c = some (v, hp', c') → hp' = hp ∧ c' = c ∧ ∀ c2, f vs hp c2 = some (v, hp, c2)

theorem PureF.of {f : OpF} (k : List AV → Option AV) (h : ∀ vs hp c, f vs hp c = match k vs with | some v => ok v hp c | none => none) : PureF f := by
  intro vs hp c v hp' c' e
  rw [h] at e
  cases hk : k vs with
  | none => rw [hk] at e; cases e
  | some u =>
    rw [hk] at e
    obtain ⟨rfl, rfl, rfl⟩ := ok_inv e
    exact ⟨rfl, rfl, fun h2 c2 => by rw [h, hk]; rfl⟩
theorem ReadF.of {f : OpF} (k : List AV → PT HO → Option AV) (h : ∀ vs hp c, f vs hp c = match k vs hp with | some v => ok v hp c | none => none) : ReadF f := by
  intro vs hp c v hp' c' e
  rw [h] at e
  cases hk : k vs hp with
  | none => rw [hk] at e; cases e
  | some u =>
    rw [hk] at e
    obtain ⟨rfl, rfl, rfl⟩ := ok_inv e
    exact ⟨rfl, rfl, fun c2 => by rw [h, hk]; rfl⟩

/-- an operation's answer, the heap thrown away -/
def ans (f : OpF) (hp : PT HO) (vs : List AV) : Option AV := (f vs hp 0).map (·.1)

theorem pure_op {op : DOp} (h : Cls.of op = .pure) : PureF (opRun op) := by
  have fin : ∀ {f : OpF}, (∀ vs hp c, (f vs hp c = none ∧ ∀ h2 c2, f vs h2 c2 = none) ∨ ∃ v, ∀ h2 c2, f vs h2 c2 = ok v h2 c2) → PureF f := by
    intro f hf vs hp c v hp' c' e
    rcases hf vs hp c with ⟨h1, _⟩ | ⟨u, h1⟩
    · rw [h1] at e; cases e
    · rw [h1] at e
      obtain ⟨rfl, rfl, rfl⟩ := ok_inv e
      exact ⟨rfl, rfl, fun h2 c2 => h1 h2 c2⟩
  cases op with
  | move => exact fin (fun vs hp c => by rcases vs with _ | ⟨x, _ | ⟨y, vs⟩⟩ <;> first | exact .inl ⟨rfl, fun _ _ => rfl⟩ | exact .inr ⟨_, fun _ _ => rfl⟩)
  | pick =>
    refine fin (fun vs hp c => ?_)
    rcases vs with _ | ⟨x, _ | ⟨y, _ | ⟨z, _ | ⟨t, vs⟩⟩⟩⟩ <;> (try cases x) <;> first | exact .inl ⟨rfl, fun _ _ => rfl⟩ | exact .inr ⟨_, fun _ _ => rfl⟩
  | build z ps =>
    refine fin (fun vs hp c => ?_)
    simp only [opRun, oBuild]
    cases zip3 ps vs with
    | none => exact .inl ⟨rfl, fun _ _ => rfl⟩
    | some l => cases hf : fill z l with
      | none => left; simp only [hf]; exact ⟨trivial, fun _ _ => trivial⟩
      | some cs => right; exact ⟨.agg cs, fun _ _ => by simp only [hf]⟩
  | buildSlice k z len ps fz =>
    cases fz with
    | true => cases h
    | false =>
      intro vs hp c v hp' c' e
      simp only [opRun, oBuildSlice] at e ⊢
      have zf : ∀ (s : Nat) (is : List Nat) (vs : List AV) (h1 : PT HO), zip2 false s h1 is vs = match zip3 (is.map fun i => (i * s, s)) vs with | some q => some (q, h1) | none => none := by
        intro s is
        induction is with
        | nil => intro vs h1; cases vs <;> rfl
        | cons i is ih =>
          intro vs h1
          cases vs with
          | nil => rfl
          | cons v vs =>
            simp only [zip2, cond_false, ih, List.map_cons, zip3]
            cases zip3 (is.map fun i => (i * s, s)) vs <;> rfl
      rw [zf] at e
      cases hz : zip3 (ps.map fun i => (i * ksz k, ksz k)) vs with
      | none => rw [hz] at e; cases e
      | some q =>
        rw [hz] at e; simp only at e
        cases hf : fill (rep len z) q with
        | none => rw [hf] at e; cases e
        | some cs =>
          rw [hf] at e; simp only at e
          cases hc : chunk k len cs with
          | none => rw [hc] at e; cases e
          | some xs =>
            rw [hc] at e
            obtain ⟨rfl, rfl, rfl⟩ := ok_inv e
            refine ⟨rfl, rfl, fun h2 c2 => ?_⟩
            rw [zf, hz]; simp only [hf, hc]; rfl
  | nilCheck =>
    refine fin (fun vs hp c => ?_)
    rcases vs with _ | ⟨x, _ | ⟨y, vs⟩⟩
    · exact .inl ⟨rfl, fun _ _ => rfl⟩
    · cases hn : isNil x with
      | true => left; simp only [opRun, oNil, hn]; exact ⟨rfl, fun _ _ => rfl⟩
      | false => right; exact ⟨x, fun _ _ => by simp only [opRun, oNil, hn, cond_false]⟩
    · exact .inl ⟨rfl, fun _ _ => rfl⟩
  | bin op =>
    refine fin (fun vs hp c => ?_)
    rcases vs with _ | ⟨x, _ | ⟨y, _ | ⟨z, vs⟩⟩⟩ <;> first
      | exact .inl ⟨rfl, fun _ _ => rfl⟩
      | (cases hb : bin op x y with
         | none => left; simp only [opRun, oBin, hb]; exact ⟨trivial, fun _ _ => trivial⟩
         | some v => right; exact ⟨v, fun _ _ => by simp only [opRun, oBin, hb]⟩)
  | eq d neg =>
    refine fin (fun vs hp c => ?_)
    rcases vs with _ | ⟨x, _ | ⟨y, _ | ⟨z, vs⟩⟩⟩ <;> first
      | exact .inl ⟨rfl, fun _ _ => rfl⟩
      | (cases hb : equal d x y with
         | none => left; simp only [opRun, oEq, hb]; exact ⟨trivial, fun _ _ => trivial⟩
         | some v => right; exact ⟨_, fun _ _ => by simp only [opRun, oEq, hb]; rfl⟩)
  | un op =>
    refine fin (fun vs hp c => ?_)
    rcases vs with _ | ⟨x, _ | ⟨y, vs⟩⟩ <;> (try cases x) <;> (try cases op) <;> first
      | exact .inl ⟨rfl, fun _ _ => rfl⟩
      | exact .inr ⟨_, fun _ _ => rfl⟩
  | convInt k => refine fin (fun vs hp c => ?_); rcases vs with _ | ⟨x, _ | ⟨y, vs⟩⟩ <;> (try cases x) <;> first | exact .inl ⟨rfl, fun _ _ => rfl⟩ | exact .inr ⟨_, fun _ _ => rfl⟩
  | intStr => refine fin (fun vs hp c => ?_); rcases vs with _ | ⟨x, _ | ⟨y, vs⟩⟩ <;> (try cases x) <;> first | exact .inl ⟨rfl, fun _ _ => rfl⟩ | exact .inr ⟨_, fun _ _ => rfl⟩
  | strStr => refine fin (fun vs hp c => ?_); rcases vs with _ | ⟨x, _ | ⟨y, vs⟩⟩ <;> (try cases x) <;> first | exact .inl ⟨rfl, fun _ _ => rfl⟩ | exact .inr ⟨_, fun _ _ => rfl⟩
  | mkIface t => refine fin (fun vs hp c => ?_); rcases vs with _ | ⟨x, _ | ⟨y, vs⟩⟩ <;> first | exact .inl ⟨rfl, fun _ _ => rfl⟩ | exact .inr ⟨_, fun _ _ => rfl⟩
  | mkFn f n => exact fin (fun vs hp c => .inr ⟨_, fun _ _ => rfl⟩)
  | sliceStr lo hi =>
    refine fin (fun vs hp c => ?_)
    rcases vs with _ | ⟨x, r⟩
    · exact .inl ⟨rfl, fun _ _ => rfl⟩
    · cases x <;> first | exact .inl ⟨rfl, fun _ _ => rfl⟩ | skip
      rename_i s
      cases hb : slBounds lo hi false s.length s.length r with
      | none => left; simp only [opRun, oSliceStr, hb]; exact ⟨trivial, fun _ _ => trivial⟩
      | some q => right; exact ⟨_, fun _ _ => by simp only [opRun, oSliceStr, hb]; rfl⟩
  | fieldAddr o' => refine fin (fun vs hp c => ?_); rcases vs with _ | ⟨x, _ | ⟨y, vs⟩⟩ <;> (try cases x) <;> first | exact .inl ⟨rfl, fun _ _ => rfl⟩ | exact .inr ⟨_, fun _ _ => rfl⟩
  | field k o' =>
    refine fin (fun vs hp c => ?_)
    rcases vs with _ | ⟨x, _ | ⟨y, vs⟩⟩ <;> (try cases x) <;> first
      | exact .inl ⟨rfl, fun _ _ => rfl⟩
      | (rename_i cs
         cases hb : Det.partAt k cs o' with
         | none => left; simp only [opRun, oField, hb]; exact ⟨trivial, fun _ _ => trivial⟩
         | some v => right; exact ⟨v, fun _ _ => by simp only [opRun, oField, hb]⟩)
  | indexAddr k =>
    refine fin (fun vs hp c => ?_)
    rcases vs with _ | ⟨x, _ | ⟨y, _ | ⟨z, vs⟩⟩⟩ <;> (try cases x) <;> (try cases y) <;> first
      | exact .inl ⟨rfl, fun _ _ => rfl⟩
      | (rename_i n; cases n <;> first | exact .inl ⟨rfl, fun _ _ => rfl⟩ | skip)
    · rename_i xs ex kk n
      cases hu : uni k xs with
      | false => left; simp only [opRun, oIndexAddr, hu]; exact ⟨rfl, fun _ _ => rfl⟩
      | true =>
        cases hn : nth xs n with
        | none => left; simp only [opRun, oIndexAddr, hu, hn]; exact ⟨rfl, fun _ _ => rfl⟩
        | some v => right; exact ⟨_, fun _ _ => by simp only [opRun, oIndexAddr, hu, hn, cond_true]; rfl⟩
    · rename_i id off len k' kk n
      cases hb : kEq k' k && Nat.blt n len with
      | false => left; simp only [opRun, oIndexAddr, hb]; exact ⟨rfl, fun _ _ => rfl⟩
      | true => right; exact ⟨_, fun _ _ => by simp only [opRun, oIndexAddr, hb, cond_true]; rfl⟩
  | indexArr n s =>
    refine fin (fun vs hp c => ?_)
    rcases vs with _ | ⟨x, _ | ⟨y, _ | ⟨z, vs⟩⟩⟩ <;> (try cases x) <;> (try cases y) <;> first
      | exact .inl ⟨rfl, fun _ _ => rfl⟩
      | (rename_i j; cases j <;> first | exact .inl ⟨rfl, fun _ _ => rfl⟩ | skip)
    all_goals
      rename_i j
      cases hb : Nat.blt j n with
      | false => left; simp only [opRun, oIndexArr, hb]; exact ⟨rfl, fun _ _ => rfl⟩
      | true => right; exact ⟨_, fun _ _ => by simp only [opRun, oIndexArr, hb, cond_true]; rfl⟩
  | indexStr =>
    refine fin (fun vs hp c => ?_)
    rcases vs with _ | ⟨x, _ | ⟨y, _ | ⟨z, vs⟩⟩⟩ <;> (try cases x) <;> (try cases y) <;> first
      | exact .inl ⟨rfl, fun _ _ => rfl⟩
      | (rename_i j; cases j <;> first | exact .inl ⟨rfl, fun _ _ => rfl⟩ | skip)
    rename_i s kk j
    cases hb : s[j]? with
    | none => left; simp only [opRun, oIndexStr, hb]; exact ⟨trivial, fun _ _ => trivial⟩
    | some v => right; exact ⟨_, fun _ _ => by simp only [opRun, oIndexStr, hb]; rfl⟩
  | indexAgg n k =>
    refine fin (fun vs hp c => ?_)
    rcases vs with _ | ⟨x, _ | ⟨y, _ | ⟨z, vs⟩⟩⟩ <;> (try cases x) <;> (try cases y) <;> first
      | exact .inl ⟨rfl, fun _ _ => rfl⟩
      | (rename_i j; cases j <;> first | exact .inl ⟨rfl, fun _ _ => rfl⟩ | skip)
    rename_i cs kk j
    cases hb : Nat.blt j n with
    | false => left; simp only [opRun, oIndexAgg, hb]; exact ⟨rfl, fun _ _ => rfl⟩
    | true =>
      cases hp1 : Det.partAt k cs (j * ksz k) with
      | none => left; simp only [opRun, oIndexAgg, hb, hp1]; exact ⟨rfl, fun _ _ => rfl⟩
      | some v => right; exact ⟨_, fun _ _ => by simp only [opRun, oIndexAgg, hb, hp1, cond_true]; rfl⟩
  | assertT t z o' =>
    refine fin (fun vs hp c => ?_)
    rcases vs with _ | ⟨x, _ | ⟨y, vs⟩⟩ <;> (try cases x) <;> (try cases o') <;> first
      | exact .inl ⟨rfl, fun _ _ => rfl⟩
      | exact .inr ⟨_, fun _ _ => rfl⟩
      | (rename_i t' v'
         cases hb : Nat.beq t' t with
         | false => first
           | (left; simp only [opRun, oAssertT, hb]; exact ⟨rfl, fun _ _ => rfl⟩)
           | (right; exact ⟨_, fun _ _ => by simp only [opRun, oAssertT, hb, cond_true, cond_false]; rfl⟩)
         | true => right; exact ⟨_, fun _ _ => by simp only [opRun, oAssertT, hb, cond_true, cond_false]; rfl⟩)
  | extract i =>
    refine fin (fun vs hp c => ?_)
    rcases vs with _ | ⟨x, _ | ⟨y, vs⟩⟩ <;> (try cases x) <;> first
      | exact .inl ⟨rfl, fun _ _ => rfl⟩
      | (rename_i cs
         cases hb : nth cs i with
         | none => left; simp only [opRun, oExtract, hb]; exact ⟨trivial, fun _ _ => trivial⟩
         | some v => right; exact ⟨v, fun _ _ => by simp only [opRun, oExtract, hb]⟩)
  | len s =>
    refine fin (fun vs hp c => ?_)
    rcases vs with _ | ⟨x, _ | ⟨y, vs⟩⟩ <;> (try cases x) <;> (try cases s) <;> first
      | exact .inl ⟨rfl, fun _ _ => rfl⟩
      | exact .inr ⟨_, fun _ _ => rfl⟩
  | min =>
    refine fin (fun vs hp c => ?_)
    rcases vs with _ | ⟨x, _ | ⟨y, _ | ⟨z, vs⟩⟩⟩ <;> (try cases x) <;> (try cases y) <;> first | exact .inl ⟨rfl, fun _ _ => rfl⟩ | exact .inr ⟨_, fun _ _ => rfl⟩
  | max =>
    refine fin (fun vs hp c => ?_)
    rcases vs with _ | ⟨x, _ | ⟨y, _ | ⟨z, vs⟩⟩⟩ <;> (try cases x) <;> (try cases y) <;> first | exact .inl ⟨rfl, fun _ _ => rfl⟩ | exact .inr ⟨_, fun _ _ => rfl⟩
  | bad why => exact fin (fun vs hp c => .inl ⟨rfl, fun _ _ => rfl⟩)
  | _ => cases h
end Det
namespace Det
open Go

theorem read_op {op : DOp} (h : Cls.of op = .read) : ReadF (opRun op) := by
  have fin : ∀ {f : OpF}, (∀ vs hp, (∀ c2, f vs hp c2 = none) ∨ ∃ v, ∀ c2, f vs hp c2 = ok v hp c2) → ReadF f := by
    intro f hf vs hp c v hp' c' e
    rcases hf vs hp with h1 | ⟨u, h1⟩
    · rw [h1] at e; cases e
    · rw [h1] at e
      obtain ⟨rfl, rfl, rfl⟩ := ok_inv e
      exact ⟨rfl, rfl, fun c2 => h1 c2⟩
  cases op with
  | load k =>
    refine fin (fun vs hp => ?_)
    rcases vs with _ | ⟨x, _ | ⟨y, vs⟩⟩
    · exact .inl (fun _ => rfl)
    · cases hl : loadK hp k x with
      | none => left; simp only [opRun, oLoad, hl]; exact fun _ => trivial
      | some v => right; exact ⟨v, fun _ => by simp only [opRun, oLoad, hl]⟩
    · exact .inl (fun _ => rfl)
  | bytesStr =>
    have gen : ∀ (x : AV) (hp : PT HO) (c2 : Nat), (∀ s, x ≠ .str s) → opRun .bytesStr [x] hp c2 = (match elemCells none hp x with
        | some cs => (match bytesOf cs with | some s => ok (.str s) hp c2 | none => none)
        | none => none) := by
      intro x hp c2 hx
      cases x <;> first | rfl | exact absurd rfl (hx _)
    refine fin (fun vs hp => ?_)
    rcases vs with _ | ⟨x, _ | ⟨y, vs⟩⟩
    · exact .inl (fun _ => rfl)
    · by_cases hx : ∃ s, x = .str s
      · obtain ⟨s, rfl⟩ := hx; exact .inl (fun _ => rfl)
      · have hx' : ∀ s, x ≠ .str s := fun s e => hx ⟨s, e⟩
        cases hec : elemCells none hp x with
        | none => left; intro c2; rw [gen x hp c2 hx', hec]
        | some cs =>
          cases hb : bytesOf cs with
          | none => left; intro c2; rw [gen x hp c2 hx', hec]; simp only [hb]
          | some s => right; exact ⟨.str s, fun c2 => by rw [gen x hp c2 hx', hec]; simp only [hb]⟩
    · exact .inl (fun _ => by cases x <;> rfl)
  | runesStr =>
    have gen : ∀ (x : AV) (hp : PT HO) (c2 : Nat), (∀ s, x ≠ .str s) → opRun .runesStr [x] hp c2 = (match elemCells none hp x with
        | some cs => (match runesOf cs with | some s => ok (.str s) hp c2 | none => none)
        | none => none) := by
      intro x hp c2 hx
      cases x <;> first | rfl | exact absurd rfl (hx _)
    refine fin (fun vs hp => ?_)
    rcases vs with _ | ⟨x, _ | ⟨y, vs⟩⟩
    · exact .inl (fun _ => rfl)
    · by_cases hx : ∃ s, x = .str s
      · obtain ⟨s, rfl⟩ := hx; exact .inl (fun _ => rfl)
      · have hx' : ∀ s, x ≠ .str s := fun s e => hx ⟨s, e⟩
        cases hec : elemCells none hp x with
        | none => left; intro c2; rw [gen x hp c2 hx', hec]
        | some cs =>
          cases hb : runesOf cs with
          | none => left; intro c2; rw [gen x hp c2 hx', hec]; simp only [hb]
          | some s => right; exact ⟨.str s, fun c2 => by rw [gen x hp c2 hx', hec]; simp only [hb]⟩
    · exact .inl (fun _ => by cases x <;> rfl)
  | slice k lo hi mx =>
    refine fin (fun vs hp => ?_)
    rcases vs with _ | ⟨x, r⟩
    · exact .inl (fun _ => rfl)
    · cases x <;> first | exact .inl (fun _ => rfl) | skip
      · cases hb : slBounds lo hi mx 0 0 r with
        | none => left; intro _; simp only [opRun, oSlice, hb]
        | some q => right; exact ⟨_, fun _ => by simp only [opRun, oSlice, hb]; rfl⟩
      · rename_i xs ex
        cases hu : uni k xs with
        | false => left; intro _; simp only [opRun, oSlice, hu]; rfl
        | true =>
          cases hb : slBounds lo hi mx xs.length xs.length r with
          | none => left; intro _; simp only [opRun, oSlice, hu, hb]; rfl
          | some q => right; exact ⟨_, fun _ => by simp only [opRun, oSlice, hu, hb, cond_true]; rfl⟩
      · rename_i id off len k'
        cases hu : kEq k' k with
        | false => left; intro _; simp only [opRun, oSlice, hu]; rfl
        | true =>
          cases hc : cellsAt hp id with
          | none => left; intro _; simp only [opRun, oSlice, hu, hc]; rfl
          | some cs =>
            cases hb : slBounds lo hi mx len ((cs.length - off) / ksz k) r with
            | none => left; intro _; simp only [opRun, oSlice, hu, hc, hb]; rfl
            | some q =>
              obtain ⟨l, h', m⟩ := q
              cases mx with
              | false => right; exact ⟨_, fun _ => by simp only [opRun, oSlice, hu, hc, hb, cond_true]; rfl⟩
              | true =>
                cases h1 : Nat.beq m l with
                | true => right; exact ⟨_, fun _ => by simp only [opRun, oSlice, hu, hc, hb, h1, cond_true]; rfl⟩
                | false =>
                  cases h2 : Nat.beq (off + m * ksz k) cs.length with
                  | true => right; exact ⟨_, fun _ => by simp only [opRun, oSlice, hu, hc, hb, h1, h2, cond_true, cond_false]; rfl⟩
                  | false => left; intro _; simp only [opRun, oSlice, hu, hc, hb, h1, h2, cond_true, cond_false]
  | sliceArr n k lo hi =>
    refine fin (fun vs hp => ?_)
    rcases vs with _ | ⟨x, r⟩
    · exact .inl (fun _ => rfl)
    · cases x <;> first | exact .inl (fun _ => rfl) | skip
      rename_i id off
      cases hc : cellsAt hp id with
      | none => left; intro _; simp only [opRun, oSliceArr, hc]
      | some cs =>
        cases hu : Nat.beq (off + n * ksz k) cs.length && Nat.blt 0 (ksz k) with
        | false => left; intro _; simp only [opRun, oSliceArr, hc, hu]; rfl
        | true =>
          cases hb : slBounds lo hi false n n r with
          | none => left; intro _; simp only [opRun, oSliceArr, hc, hu, hb]; rfl
          | some q => right; exact ⟨_, fun _ => by simp only [opRun, oSliceArr, hc, hu, hb, cond_true]; rfl⟩
  | buildSlice k z len ps fz => cases fz <;> cases h
  | _ => cases h

theorem store_op {n : Nat} {vs : List AV} {hp hp' : PT HO} {c c' : Nat} {v : AV} (h : opRun (.store n) vs hp c = some (v, hp', c')) :
    ∃ id off x cs cs', vs = [.ptr id off, x] ∧ cellsAt hp id = some cs ∧ hp' = hp.set id (.cells cs') ∧ c' = c ∧ v = .tup [] ∧
      ∀ h2 c2, h2.get id = hp.get id → opRun (.store n) vs h2 c2 = some (.tup [], h2.set id (.cells cs'), c2) := by
  rcases vs with _ | ⟨a, _ | ⟨x, _ | ⟨y, vs⟩⟩⟩
  · cases h
  · cases h
  · have h' : (match storeC hp n a x with | some hp => ok (.tup []) hp c | none => none) = some (v, hp', c') := h
    cases a with
    | ptr id off =>
      cases hc : cellsAt hp id with
      | none => simp only [storeC, hc] at h'; cases h'
      | some cs =>
        cases hb : Nat.beq x.cells.length n && plains x.cells with
        | false => simp only [storeC, hc, hb, cond_false] at h'; cases h'
        | true =>
          cases hs : splice cs off x.cells with
          | none => simp only [storeC, hc, hb, hs, cond_true] at h'; cases h'
          | some cs' =>
            simp only [storeC, hc, hb, hs, cond_true] at h'
            obtain ⟨rfl, rfl, rfl⟩ := ok_inv h'
            refine ⟨id, off, x, cs, cs', rfl, hc, rfl, rfl, rfl, fun h2 c2 he => ?_⟩
            have hc2 : cellsAt h2 id = some cs := by unfold cellsAt at hc ⊢; rw [he]; exact hc
            show (match storeC h2 n (.ptr id off) x with | some hp => ok (.tup []) hp c2 | none => none) = _
            simp only [storeC, hc2, hb, hs, cond_true]
            rfl
    | _ => cases h'
  · cases h

mutual
theorem same_eq : ∀ (a b : AV), same a b = true → a = b
  | .bool a, .bool b, h => by simp only [same, beq_iff_eq] at h; rw [h]
  | .int k a, .int j b, h => by
    simp only [same, Bool.and_eq_true, beq_iff_eq] at h
    obtain ⟨rfl, h2⟩ := h
    rw [intEq_iff] at h2
    rw [eq_of_beq h2]
  | .str a, .str b, h => by simp only [same, strEq_iff] at h; rw [eq_of_beq h]
  | .ptr a i, .ptr b j, h => by
    simp only [same, Bool.and_eq_true] at h
    rw [Nat.eq_of_beq_eq_true h.1, Nat.eq_of_beq_eq_true h.2]
  | .rop a i, .rop b j, h => by
    simp only [same, Bool.and_eq_true] at h
    rw [sames_eq a b h.1, Nat.eq_of_beq_eq_true h.2]
  | .nilp, .nilp, _ => rfl
  | .nils, .nils, _ => rfl
  | .sl a x, .sl b y, h => by
    simp only [same, Bool.and_eq_true, beq_iff_eq] at h
    rw [sames_eq a b h.1, h.2]
  | .arr a i l k, .arr b j m n, h => by
    simp only [same, Bool.and_eq_true, beq_iff_eq] at h
    rw [Nat.eq_of_beq_eq_true h.1.1.1, Nat.eq_of_beq_eq_true h.1.1.2, Nat.eq_of_beq_eq_true h.1.2, h.2]
  | .fn f a b, .fn g c d, h => by
    simp only [same, Bool.and_eq_true] at h
    rw [Nat.eq_of_beq_eq_true h.1.1, sames_eq a c h.1.2, sames_eq b d h.2]
  | .nilf, .nilf, _ => rfl
  | .iface s u, .iface t v, h => by
    simp only [same, Bool.and_eq_true] at h
    rw [Nat.eq_of_beq_eq_true h.1, same_eq u v h.2]
  | .nili, .nili, _ => rfl
  | .agg a, .agg b, h => by simp only [same] at h; rw [sames_eq a b h]
  | .tup a, .tup b, h => by simp only [same] at h; rw [sames_eq a b h]
  | .mp a, .mp b, h => by simp only [same] at h; rw [Nat.eq_of_beq_eq_true h]
  | .nilm, .nilm, _ => rfl
theorem sames_eq : ∀ (a b : List AV), sames a b = true → a = b
  | [], [], _ => rfl
  | a :: x, b :: y, h => by
    simp only [sames, Bool.and_eq_true] at h
    rw [same_eq a b h.1, sames_eq x y h.2]
  | [], _ :: _, h => by simp [sames] at h
  | _ :: _, [], h => by simp [sames] at h
end
end Det
namespace Det
open Go

section
variable {rec : Task → PT HO → Nat → Option Out} {base : Nat} {l : List DOper} {S : Nat → PT AV × PT HO × Nat} {V : Nat → AV} {ev : List Ev}

/-- the heap and the counter when some are done -/
def hD (S : Nat → PT AV × PT HO × Nat) (ev : List Ev) (done : Nat → Bool) : Nat → PT HO × Nat
  | 0 => (S 0).2
  | n + 1 => match evAt ev n, done n with
    | .ef _ _, true => (S (n + 1)).2
    | .st id _ h2, true => (match h2.get id with | some x => ((hD S ev done n).1.set id x, (hD S ev done n).2) | none => hD S ev done n)
    | _, _ => hD S ev done n

/-- what the records say of two states -/
def Marks (S : Nat → PT AV × PT HO × Nat) (ev : List Ev) (n : Nat) : Prop :=
  match evAt ev n with
  | .ef h1 h2 => h1 = (S n).2.1 ∧ h2 = (S (n + 1)).2.1
  | .st id h1 h2 => h1 = (S n).2.1 ∧ h2 = (S (n + 1)).2.1 ∧ (S (n + 1)).2.2 = (S n).2.2 ∧ ∃ x, (S (n + 1)).2.1 = (S n).2.1.set id x
  | _ => (S (n + 1)).2 = (S n).2

def isEf (ev : List Ev) (n : Nat) : Bool := match evAt ev n with | .ef _ _ => true | _ => false
def stId (ev : List Ev) (n : Nat) : Option Nat := match evAt ev n with | .st id _ _ => some id | _ => none

theorem hD_all {done : Nat → Bool} (id : Nat) : ∀ n, (∀ i, i < n → Marks S ev i) → (∀ i, i < n → isEf ev i = true → done i = true) → (∀ i, i < n → stId ev i = some id → done i = true) →
    (hD S ev done n).1.get id = (S n).2.1.get id ∧ (hD S ev done n).2 = (S n).2.2 := by
  intro n
  induction n with
  | zero => intro _ _ _; exact ⟨rfl, rfl⟩
  | succ n ih =>
    intro hm h1 h2
    obtain ⟨i1, i2⟩ := ih (fun i hi => hm i (by omega)) (fun i hi => h1 i (by omega)) (fun i hi => h2 i (by omega))
    have m := hm n (by omega)
    have a1 := h1 n (by omega)
    have a2 := h2 n (by omega)
    unfold Marks at m
    unfold isEf at a1
    unfold stId at a2
    simp only [hD]
    cases he : evAt ev n with
    | ef x y => rw [he] at a1; rw [a1 rfl]; exact ⟨rfl, rfl⟩
    | st id' x y =>
      rw [he] at m a2
      obtain ⟨m1, m2, m3, z, m4⟩ := m
      have hy : y.get id' = some z := by rw [m2, m4, PT.get_set_same]
      cases hd : done n with
      | true =>
        simp only [hy]
        refine ⟨?_, by rw [i2, m3]⟩
        by_cases e : id = id'
        · subst e; rw [PT.get_set_same, m4, PT.get_set_same]
        · rw [PT.get_set_ne _ _ e, m4, PT.get_set_ne _ _ e]; exact i1
      | false =>
        have e : id ≠ id' := fun e => by subst e; rw [a2 rfl] at hd; cases hd
        simp only
        exact ⟨by rw [m4, PT.get_set_ne _ _ e]; exact i1, by rw [i2, m3]⟩
    | no => rw [he] at m; simp only; rw [m]; exact ⟨i1, i2⟩
    | rd _ _ _ => rw [he] at m; simp only; rw [m]; exact ⟨i1, i2⟩
    | al _ _ => rw [he] at m; simp only; rw [m]; exact ⟨i1, i2⟩

theorem hD_none {done : Nat → Bool} (id : Nat) (n : Nat) : ∀ m, n ≤ m → (∀ i, n ≤ i → i < m → isEf ev i = true → done i = false) → (∀ i, n ≤ i → i < m → stId ev i = some id → done i = false) →
    (hD S ev done m).1.get id = (hD S ev done n).1.get id ∧ (hD S ev done m).2 = (hD S ev done n).2 := by
  intro m
  induction m with
  | zero => intro h _ _; have : n = 0 := by omega
            subst this; exact ⟨rfl, rfl⟩
  | succ m ih =>
    intro h h1 h2
    by_cases hn : n = m + 1
    · subst hn; exact ⟨rfl, rfl⟩
    · obtain ⟨i1, i2⟩ := ih (by omega) (fun i a b => h1 i a (by omega)) (fun i a b => h2 i a (by omega))
      have a1 := h1 m (by omega) (by omega)
      have a2 := h2 m (by omega) (by omega)
      unfold isEf at a1
      unfold stId at a2
      simp only [hD]
      cases he : evAt ev m with
      | ef x y => rw [he] at a1; rw [a1 rfl]; exact ⟨i1, i2⟩
      | st id' x y =>
        rw [he] at a2
        cases hd : done m with
        | false => exact ⟨i1, i2⟩
        | true =>
          have e : id ≠ id' := fun e => by subst e; rw [a2 rfl] at hd; cases hd
          simp only
          cases hy : y.get id' with
          | none => exact ⟨i1, i2⟩
          | some z => exact ⟨by rw [PT.get_set_ne _ _ e]; exact i1, i2⟩
      | no => exact ⟨i1, i2⟩
      | rd _ _ _ => exact ⟨i1, i2⟩
      | al _ _ => exact ⟨i1, i2⟩

/-- one more is done, and it is no store to this object, nor any other effect -/
theorem hD_more {done done' : Nat → Bool} (id i : Nat) (hd : ∀ j, j ≠ i → done' j = done j) (h1 : isEf ev i = false) (h2 : stId ev i ≠ some id) :
    ∀ n, (hD S ev done' n).1.get id = (hD S ev done n).1.get id ∧ (hD S ev done' n).2 = (hD S ev done n).2 := by
  intro n
  induction n with
  | zero => exact ⟨rfl, rfl⟩
  | succ n ih =>
    obtain ⟨i1, i2⟩ := ih
    by_cases hn : n = i
    · subst hn
      unfold isEf at h1
      unfold stId at h2
      simp only [hD]
      cases he : evAt ev n with
      | ef x y => rw [he] at h1; cases h1
      | st id' x y =>
        rw [he] at h2
        have e : id ≠ id' := fun e => h2 (by rw [e])
        cases h3 : done' n <;> cases h4 : done n <;> simp only <;> (try (cases hy : y.get id')) <;> (try simp only [PT.get_set_ne _ _ e]) <;> exact ⟨i1, i2⟩
      | no => exact ⟨i1, i2⟩
      | rd _ _ _ => exact ⟨i1, i2⟩
      | al _ _ => exact ⟨i1, i2⟩
    · simp only [hD, hd n hn]
      cases he : evAt ev n with
      | ef x y => cases done n <;> first | exact ⟨rfl, rfl⟩ | exact ⟨i1, i2⟩
      | st id' x y =>
        cases done n with
        | false => exact ⟨i1, i2⟩
        | true =>
          simp only
          cases hy : y.get id' with
          | none => exact ⟨i1, i2⟩
          | some z =>
            refine ⟨?_, i2⟩
            by_cases e : id = id'
            · subst e; rw [PT.get_set_same, PT.get_set_same]
            · rw [PT.get_set_ne _ _ e, PT.get_set_ne _ _ e]; exact i1
      | no => exact ⟨i1, i2⟩
      | rd _ _ _ => exact ⟨i1, i2⟩
      | al _ _ => exact ⟨i1, i2⟩
end
end Det
namespace Det
open Go

section
variable {P : Program} {T : PT TypeInfo} {E : List Nat} {GC : GT} {B0 : Nat} {g : Gh} {hp hp' : PT HO} {c c' : Nat} {w : World} {tm : PT AV} {a : Act} {fz : Bool}
variable {rec : Task → PT HO → Nat → Option Out} {base : Nat} {l : List DOper} {S : Nat → PT AV × PT HO × Nat} {V : Nat → AV} {ev : List Ev}

/-- an object laid under a number that was kept for it -/
def Gh.lay (g : Gh) (b id : Nat) (L : Loc) : Gh where
  loc := fun i => if i = id then some L else g.loc i
  tag := fun x y => if x = b then .own id else g.tag x y
  res := fun i => g.res i ∧ i ≠ id

theorem More.lay {w' : World} {xs : Array Value} {t : TypeId} {id : Nat} {cs : List AV} (hW : WR GC B0 g hp c w) (hm : More w w' (.cells xs t)) (hk : g.loc id = none) (hc : id < c)
    (hh : hp.get id = some (.cells cs)) (hcv : CV g w cs xs) :
    WR GC B0 (g.lay w.heap.size id ⟨w.heap.size, 0, cs.length, xs.size⟩) hp c w' ∧ (∀ i L, g.loc i = some L → (g.lay w.heap.size id ⟨w.heap.size, 0, cs.length, xs.size⟩).loc i = some L) ∧
      (∀ b o, g.tag b o = .ro → (g.lay w.heap.size id ⟨w.heap.size, 0, cs.length, xs.size⟩).tag b o = .ro ∧ cellAt w' b o = cellAt w b o) := by
  have hloc : ∀ i L, g.loc i = some L → (g.lay w.heap.size id ⟨w.heap.size, 0, cs.length, xs.size⟩).loc i = some L := fun i L e => by
    simp only [Gh.lay]; rw [if_neg (fun h => by rw [h, hk] at e; cases e)]; exact e
  have hro : ∀ b o, g.tag b o = .ro → (g.lay w.heap.size id ⟨w.heap.size, 0, cs.length, xs.size⟩).tag b o = .ro ∧ cellAt w' b o = cellAt w b o := fun b o e => by
    have hb := hW.tagged b o (by rw [e]; simp)
    exact ⟨by simp only [Gh.lay]; rw [if_neg (by omega)]; exact e, cellAt_congr (hm.old hb)⟩
  have hsub : Sub g w (g.lay w.heap.size id ⟨w.heap.size, 0, cs.length, xs.size⟩) w' := ⟨hloc, hro⟩
  have hcell : ∀ k, cellAt w' w.heap.size k = xs[k]? := fun k => by simp [cellAt, World.cell?, hm.new]
  refine ⟨⟨fun i L' e => ?_, fun i L' e => ?_, fun b o e => ?_, fun b o i e => ?_, fun i L' e => ?_, fun i j L1 L2 e1 e2 eb v1 v2 => ?_, by rw [hm.size]; have := hW.base; omega, fun i e => ?_, fun gi cs0 e => ?_⟩, hloc, hro⟩
  · by_cases hi : i = id
    · subst hi
      simp only [Gh.lay, if_true, Option.some.injEq] at e
      subst e
      rw [hh]
      refine ⟨rfl, Nat.le_of_eq hcv.1, fun k hk' => ?_, fun k x e => ?_⟩
      · simp only [Nat.zero_add]
        have hk2 : k < xs.size := hk'
        refine ⟨if_pos rfl, ⟨xs[k], by rw [hcell]; simp [hk2]⟩, ?_⟩
        simp [World.frozen?, hm.new]
      · have hk2 : k < xs.size := by have := (List.getElem?_eq_some_iff.1 e).1; rw [hcv.1] at this; exact this
        simp only [Nat.zero_add]
        refine ⟨xs[k], by rw [hcell]; simp [hk2], ?_⟩
        have := hcv.2 k x e
        rw [Array.getD_eq_getD_getElem?, Array.getElem?_eq_getElem hk2] at this
        exact VR.mono hsub this
    · simp only [Gh.lay, if_neg hi] at e
      have hb := (hW.place i L' e).2
      refine (hW.obj i L' e).keep hsub (fun o ht => ?_) (hm.old hb)
      simp only [Gh.lay]
      rw [if_neg (by omega)]; exact ht
  · by_cases hi : i = id
    · omega
    · simp only [Gh.lay, if_neg hi] at e
      exact hW.fresh i L' e
  · rw [hm.size]
    simp only [Gh.lay] at e
    by_cases hb : b = w.heap.size
    · omega
    · rw [if_neg hb] at e
      have := hW.tagged b o e; omega
  · simp only [Gh.lay] at e ⊢
    by_cases hb : b = w.heap.size
    · rw [if_pos hb] at e
      simp only [Tag.own.injEq] at e
      subst e
      exact ⟨_, if_pos rfl, hb.symm⟩
    · rw [if_neg hb] at e
      obtain ⟨L', k2, k3⟩ := hW.owned b o i e
      exact ⟨L', by rw [if_neg (fun h => by rw [h, hk] at k2; cases k2)]; exact k2, k3⟩
  · rw [hm.size]
    by_cases hi : i = id
    · subst hi
      simp only [Gh.lay, if_true, Option.some.injEq] at e
      subst e
      have := hW.base
      show B0 ≤ w.heap.size ∧ w.heap.size < w.heap.size + 1
      omega
    · simp only [Gh.lay, if_neg hi] at e
      have := hW.place i L' e; omega
  · simp only [Gh.lay] at e1 e2
    by_cases h1 : i = id
    · by_cases h2 : j = id
      · omega
      · rw [if_pos h1] at e1; rw [if_neg h2] at e2
        simp only [Option.some.injEq] at e1; subst e1
        have := (hW.place j L2 e2).2
        simp only at eb; omega
    · by_cases h2 : j = id
      · rw [if_neg h1] at e1; rw [if_pos h2] at e2
        simp only [Option.some.injEq] at e2; subst e2
        have := (hW.place i L1 e1).2
        simp only at eb; omega
      · rw [if_neg h1] at e1; rw [if_neg h2] at e2
        exact hW.uniq i j L1 L2 e1 e2 eb v1 v2
  · obtain ⟨h1, h2⟩ := hW.kept i e.1
    exact ⟨by simp only [Gh.lay]; rw [if_neg e.2]; exact h1, h2⟩
  · obtain ⟨cv, hcv0⟩ := hW.glob gi cs0 e
    refine ⟨cv, fun k x hk' => ?_⟩
    obtain ⟨k1, k2, k3⟩ := hcv0 k x hk'
    have := hro _ _ k1
    exact ⟨this.1, by rw [this.2]; exact k2, k3.mono hsub⟩
end
end Det
namespace Det
open Go

section
variable {P : Program} {T : PT TypeInfo} {E : List Nat} {GC : GT} {B0 : Nat} {g : Gh} {hp hp' : PT HO} {c c' : Nat} {w : World} {tm : PT AV} {a : Act} {fz : Bool}
variable {rec : Task → PT HO → Nat → Option Out} {base : Nat} {l : List DOper} {S : Nat → PT AV × PT HO × Nat} {V : Nat → AV} {ev : List Ev}

theorem slice_notPre {t : TypeId} {x : Operand} {lo hi mx : Option Operand} {d : DOp} {l : List Opd} (hc : compSlice GC T t x lo hi mx = some (d, l)) : isPre d = false := by
  unfold compSlice at hc
  simp only at hc
  split at hc
  · rw [cs_d (cond_l hc)]; rfl
  · split at hc
    · rw [cs_d hc]; rfl
    · cases hc
  · have hc := cond_l hc
    split at hc
    · rw [cs_d hc]; rfl
    · cases hc
  · split at hc
    · have hc := cond_l hc
      split at hc
      · rw [cs_d hc]; rfl
      · cases hc
    · cases hc
  · cases hc
theorem conv_notPre {s t : TypeId} {x : Operand} {d : DOp} {l : List Opd} (hc : compConv GC T s t x = some (d, l)) : isPre d = false := by
  unfold compConv at hc
  split at hc
  · rw [c1_d hc]; rfl
  · rw [c1_d hc]; rfl
  · rw [c1_d hc]; rfl
  · split at hc
    · rw [c1_d hc]; rfl
    · cases hc
  · split at hc
    · rw [c1_d hc]; rfl
    · rw [c1_d hc]; rfl
    · cases hc
  · cases hc

theorem comp_notPre {op : Op} {d : DOp} {l : List Opd} (hc : compOp GC T E fz op = some (d, l)) : isPre d = false := by
  cases op with
  | move x => rw [c1_d hc]; rfl
  | assign x => rw [c1_d hc]; rfl
  | pick x y z => rw [c3_d hc]; rfl
  | alloc t =>
    simp only [compOp] at hc; split at hc
    · simp only [Option.some.injEq, Prod.mk.injEq] at hc; rw [← hc.1]; rfl
    · cases hc
  | box t x => rw [c1_d hc]; rfl
  | build t ps =>
    simp only [compOp] at hc; split at hc
    · have hc := cond_r hc
      split at hc
      · rw [cs_d hc]; rfl
      · cases hc
    · split at hc
      · rw [cs_d hc]; rfl
      · cases hc
    · cases hc
  | buildSlice t n ps =>
    obtain ⟨_, _, _, _, _, _, _, _, hc⟩ := lits_inv hc
    rw [cs_d hc]; rfl
  | load t x => simp only [compOp] at hc; split at hc <;> first | (rw [c1_d hc]; rfl) | cases hc
  | store t x y => simp only [compOp] at hc; split at hc <;> first | (rw [c2_d hc]; rfl) | cases hc
  | nilCheck x => rw [c1_d hc]; rfl
  | binOp op t x y ty =>
    simp only [compOp] at hc
    split at hc
    · split at hc <;> (rw [c2_d hc]; rfl)
    · split at hc <;> (rw [c2_d hc]; rfl)
    · rw [c2_d hc]; rfl
  | unOp op t x => rw [c1_d hc]; rfl
  | convert s t x => exact conv_notPre hc
  | makeInterface t x => simp only [compOp] at hc; split at hc <;> first | (rw [c1_d hc]; rfl) | cases hc
  | makeFunc f x y =>
    cases f with
    | func f => rw [cs_d hc]; rfl
    | _ => cases hc
  | makeSlice t x y =>
    simp only [compOp] at hc; split at hc
    · split at hc
      · rw [c2_d (cond_l hc)]; rfl
      · cases hc
    · cases hc
  | slice t x lo hi mx => exact slice_notPre hc
  | fieldAddr s x f =>
    simp only [compOp] at hc; split at hc
    · split at hc
      · rw [c1_d (cond_r hc)]; rfl
      · cases hc
    · cases hc
  | field t x f =>
    simp only [compOp] at hc; split at hc
    · split at hc
      · split at hc <;> first | (rw [c1_d hc]; rfl) | cases hc
      · cases hc
    · cases hc
  | indexAddr t x y =>
    simp only [compOp] at hc; split at hc
    · split at hc <;> first | (rw [c2_d hc]; rfl) | cases hc
    · split at hc <;> first | (rw [c2_d hc]; rfl) | cases hc
    · cases hc
  | index t x y =>
    simp only [compOp] at hc; split at hc
    · rw [c2_d hc]; rfl
    · split at hc <;> first | (rw [c2_d hc]; rfl) | cases hc
    · cases hc
  | range t x => simp only [compOp] at hc; split at hc <;> first | (rw [c1_d hc]; rfl) | cases hc
  | next x b =>
    cases b with
    | true => rw [c1_d hc]; rfl
    | false => cases hc
  | typeAssert x xt t o' =>
    simp only [compOp] at hc; split at hc
    · cases hc
    · cases hc
    · split at hc <;> first | (rw [c1_d hc]; rfl) | cases hc
  | extract x i => rw [c1_d hc]; rfl
  | call cl =>
    simp only [compOp] at hc; split at hc
    · rw [cs_d hc]; rfl
    · rw [cs_d hc]; rfl
    · unfold compBuiltin at hc
      split at hc
      · split at hc <;> first | (rw [c1_d hc]; rfl) | cases hc
      · split at hc
        · split at hc
          · rw [c2_d (cond_l hc)]; rfl
          · cases hc
        · cases hc
      · split at hc
        · split at hc <;> first | (rw [c2_d hc]; rfl) | cases hc
        · cases hc
      · split at hc
        · split at hc
          · rw [c1_d (cond_l hc)]; rfl
          · cases hc
        · cases hc
      · rw [c2_d hc]; rfl
      · rw [c2_d hc]; rfl
      · cases hc
    · cases hc
  | _ => cases hc


theorem cls_notCall {op : DOp} (h : Cls.of op ≠ .eff) : isCall op = false := by
  cases op <;> first | rfl | exact absurd rfl h

/-- what the record of an operation says -/
theorem Tr.marks (h : Tr rec base l S V ev) {i : Nat} (hi : i < l.length) : Marks S ev i := by
  have hq : l[i]? = some l[i] := List.getElem?_eq_getElem hi
  cases hw : wants l[i] (S i).1 with
  | false =>
    obtain ⟨_, h2, h3⟩ := h.not i _ hq hw
    unfold Marks; rw [h3]; exact h2
  | true =>
    obtain ⟨vs, h1, h2, h3⟩ := h.did i _ hq hw
    revert h2 h3
    generalize l[i].op = op
    intro h2 h3
    unfold Marks
    rw [h3]
    unfold evOf
    cases hc : Cls.of op with
    | pre =>
      cases op <;> first | (cases hc; done) | skip
      · rename_i m z
        obtain ⟨_, e2, e3⟩ := ok_inv (show ok (.ptr (base + m) 0) (S i).2.1 (S i).2.2 = _ from h2)
        exact Prod.ext e2 e3
      · rename_i fz; cases fz <;> cases hc
    | eff => exact ⟨rfl, rfl⟩
    | pure =>
      have hnp : doOpAt rec base op vs (S i).2.1 (S i).2.2 = opRun op vs (S i).2.1 (S i).2.2 := by cases op <;> first | rfl | cases hc
      rw [hnp] at h2
      obtain ⟨e1, e2, _⟩ := pure_op hc _ _ _ _ _ _ h2
      exact Prod.ext e1 e2
    | read =>
      have hnp : doOpAt rec base op vs (S i).2.1 (S i).2.2 = opRun op vs (S i).2.1 (S i).2.2 := by cases op <;> first | rfl | cases hc
      rw [hnp] at h2
      obtain ⟨e1, e2, _⟩ := read_op hc _ _ _ _ _ _ h2
      exact Prod.ext e1 e2
    | store =>
      cases op <;> first | (cases hc; done) | skip
      · rename_i fz; cases fz <;> cases hc
      · rename_i n
        have h2' : opRun (.store n) vs (S i).2.1 (S i).2.2 = some (V i, (S (i + 1)).2.1, (S (i + 1)).2.2) := h2
        obtain ⟨id, off, x, cs, cs', rfl, k1, k2, k3, _, _⟩ := store_op h2'
        exact ⟨rfl, rfl, k3, _, k2⟩
end
end Det
