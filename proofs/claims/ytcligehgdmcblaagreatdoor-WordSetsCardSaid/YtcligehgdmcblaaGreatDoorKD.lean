/-
  Proved here: the tied card of the law WordSets: for every string the law answers true and leaves its argument as it was. Conditions: the listed package variables hold what the program lays into them, which the card ties to its text.
-/
import Derived.Test.YtcligehgdmcblaaGreatDoorKC
import Derived.Lib.TrimU
import Derived.Test.YtcligehgdmcblaaGreatDoorCards
import Derived.Test.YtcligehgdmcblaaGreatDoorTie
set_option linter.unusedSimpArgs false
set_option linter.unusedVariables false
set_option linter.unusedSimpArgs false
set_option linter.unusedVariables false
namespace W
open Go Det
def L46x0 : DCode := .seq (.ops [⟨some 8, .next, [.t 7], none⟩,
      ⟨some 9, .extract 0, [.t 8], none⟩]) <|
  .seq (.cond (.t 9) (.skip)
      (.exit 0)) <|
  .block 1 (.seq (.ops [⟨some 10, .extract 2, [.t 8], none⟩,
        ⟨some 5, .move, [.t 10], none⟩]) <|
    .ops [⟨some 11, .move, [.t 3], none⟩,
      ⟨some 12, .move, [.t 5], none⟩,
      ⟨some 13, .buildSlice none [.int .i32 0] 1 [0] true, [.t 12], none⟩,
      ⟨some 14, .append none, [.t 11, .t 13], none⟩,
      ⟨some 3, .move, [.t 14], none⟩])
def C46 : DCode := .seq (.ops [⟨some 2, .move, [.c (.nils)], none⟩]) <|
  .seq (.ops [⟨some 3, .move, [.c (.nils)], none⟩]) <|
  .seq (.seq (.ops [⟨some 6, .move, [.t 0], none⟩,
        ⟨some 7, .range, [.t 6], none⟩]) <|
    .block 0 (.loop L46x0)) <|
  .seq (.ops [⟨some 15, .move, [.t 3], none⟩,
      ⟨some 2, .move, [.t 15], none⟩]) <|
  .ret
def D46 : DFun := ⟨1, 16, C46, [(2, none)], true, true, false⟩
def L26x0 : DCode := .seq (.ops [⟨some 12, .bin .lss, [.t 11, .t 10], none⟩]) <|
  .seq (.cond (.t 12) (.skip)
      (.exit 0)) <|
  .seq (.block 1 (.seq (.ops [⟨some 13, .indexAddr none, [.t 9, .t 11], none⟩,
          ⟨some 14, .load none, [.t 13], none⟩,
          ⟨some 7, .move, [.t 14], none⟩]) <|
      .ops [⟨some 15, .move, [.t 5], none⟩,
        ⟨some 16, .move, [.t 7], none⟩,
        ⟨some 17, .move, [.t 1], none⟩,
        ⟨some 18, .build [.int .i32 0, .bool false] [(0, 1), (1, 1)], [.t 16, .t 17], none⟩,
        ⟨some 19, .buildSlice (some 2) [.int .i32 0, .bool false] 1 [0] true, [.t 18], none⟩,
        ⟨some 20, .append (some 2), [.t 15, .t 19], none⟩,
        ⟨some 5, .move, [.t 20], none⟩])) <|
  .ops [⟨some 21, .bin .add, [.t 11, .c (.int .i64 1)], none⟩,
    ⟨some 11, .move, [.t 21], none⟩]
def C26 : DCode := .seq (.ops [⟨some 4, .move, [.c (.nils)], none⟩]) <|
  .seq (.ops [⟨some 5, .move, [.c (.nils)], none⟩]) <|
  .seq (.seq (.ops [⟨some 8, .move, [.t 0], none⟩,
        ⟨some 9, .callF 46, [.t 8], none⟩,
        ⟨some 10, .len false, [.t 9], none⟩,
        ⟨some 11, .move, [.c (.int .i64 0)], none⟩]) <|
    .block 0 (.loop L26x0)) <|
  .seq (.ops [⟨some 22, .move, [.t 5], none⟩,
      ⟨some 4, .move, [.t 22], none⟩]) <|
  .ret
def D26 : DFun := ⟨2, 23, C26, [(4, none)], true, true, false⟩
def L12x0 : DCode := .seq (.ops [⟨some 9, .bin .lss, [.t 8, .t 7], none⟩]) <|
  .seq (.cond (.t 9) (.skip)
      (.exit 0)) <|
  .seq (.block 1 (.seq (.ops [⟨some 10, .indexAddr (some 2), [.t 6, .t 8], none⟩,
          ⟨some 11, .load (some 2), [.t 10], none⟩,
          ⟨some 5, .alloc [.int .i32 0, .bool false], [], none⟩,
          ⟨none, .store 2, [.t 5, .t 11], none⟩]) <|
      .ops [⟨some 12, .move, [.t 3], none⟩,
        ⟨some 13, .fieldAddr 0, [.t 5], none⟩,
        ⟨some 14, .load none, [.t 13], none⟩,
        ⟨some 15, .buildSlice none [.int .i32 0] 1 [0] true, [.t 14], none⟩,
        ⟨some 16, .append none, [.t 12, .t 15], none⟩,
        ⟨some 3, .move, [.t 16], none⟩])) <|
  .ops [⟨some 17, .bin .add, [.t 8, .c (.int .i64 1)], none⟩,
    ⟨some 8, .move, [.t 17], none⟩]
def C12 : DCode := .seq (.ops [⟨some 2, .move, [.c (.str [])], none⟩]) <|
  .seq (.ops [⟨some 3, .move, [.c (.nils)], none⟩]) <|
  .seq (.seq (.ops [⟨some 6, .move, [.t 0], none⟩,
        ⟨some 7, .len false, [.t 6], none⟩,
        ⟨some 8, .move, [.c (.int .i64 0)], none⟩]) <|
    .block 0 (.loop L12x0)) <|
  .seq (.ops [⟨some 18, .move, [.t 3], none⟩,
      ⟨some 19, .runesStr, [.t 18], none⟩,
      ⟨some 2, .move, [.t 19], none⟩]) <|
  .ret
def D12 : DFun := ⟨1, 20, C12, [(2, none)], true, true, false⟩
def L18x0 : DCode := .seq (.ops [⟨some 9, .bin .lss, [.t 8, .t 7], none⟩]) <|
  .seq (.cond (.t 9) (.skip)
      (.exit 0)) <|
  .seq (.block 1 (.seq (.ops [⟨some 10, .indexAddr (some 4), [.t 6, .t 8], none⟩,
          ⟨some 11, .load (some 4), [.t 10], none⟩,
          ⟨some 5, .alloc [.str [], .bool false, .bool false, .bool false], [], none⟩,
          ⟨none, .store 4, [.t 5, .t 11], none⟩]) <|
      .seq (.seq (.ops [⟨some 12, .fieldAddr 3, [.t 5], none⟩,
            ⟨some 13, .load none, [.t 12], none⟩]) <|
        .cond (.t 13) (.seq (.ops [⟨some 14, .move, [.t 3], none⟩,
              ⟨some 15, .build [.int .i32 0, .bool false] [(0, 1)], [.c (.int .i32 32)], none⟩,
              ⟨some 16, .buildSlice (some 2) [.int .i32 0, .bool false] 1 [0] true, [.t 15], none⟩,
              ⟨some 17, .append (some 2), [.t 14, .t 16], none⟩,
              ⟨some 3, .move, [.t 17], none⟩]) <|
          .exit 1)
          (.skip)) <|
      .ops [⟨some 18, .move, [.t 3], none⟩,
        ⟨some 19, .fieldAddr 0, [.t 5], none⟩,
        ⟨some 20, .load none, [.t 19], none⟩,
        ⟨some 21, .fieldAddr 1, [.t 5], none⟩,
        ⟨some 22, .load none, [.t 21], none⟩,
        ⟨some 23, .callF 26, [.t 20, .t 22], none⟩,
        ⟨some 24, .append (some 2), [.t 18, .t 23], none⟩,
        ⟨some 3, .move, [.t 24], none⟩])) <|
  .ops [⟨some 25, .bin .add, [.t 8, .c (.int .i64 1)], none⟩,
    ⟨some 8, .move, [.t 25], none⟩]
def C18 : DCode := .seq (.ops [⟨some 2, .move, [.c (.nils)], none⟩]) <|
  .seq (.ops [⟨some 3, .move, [.c (.nils)], none⟩]) <|
  .seq (.seq (.ops [⟨some 6, .move, [.t 0], none⟩,
        ⟨some 7, .len false, [.t 6], none⟩,
        ⟨some 8, .move, [.c (.int .i64 0)], none⟩]) <|
    .block 0 (.loop L18x0)) <|
  .seq (.ops [⟨some 26, .move, [.t 3], none⟩,
      ⟨some 2, .move, [.t 26], none⟩]) <|
  .ret
def D18 : DFun := ⟨1, 27, C18, [(2, none)], true, true, false⟩
/-- the letters from a place on -/
def runesF (s : List UInt8) : Nat → Nat → List Nat
  | 0, _ => []
  | f + 1, p => if p < s.length then (Utf8.decode ⟨s.toArray⟩ p).1 :: runesF s f (p + (Utf8.decode ⟨s.toArray⟩ p).2) else []
def rA (r : Nat) : AV := .int .i32 r
theorem runesF_len (s : List UInt8) : ∀ f p, (runesF s f p).length ≤ f
  | 0, p => Nat.le_refl _
  | f + 1, p => by
    simp only [runesF]
    split
    · simp only [List.length_cons]; have := runesF_len s f (p + (Utf8.decode ⟨s.toArray⟩ p).2); omega
    · simp
def runes (s : List UInt8) : List Nat := runesF s (s.length + 1) 0

theorem runes_loop (g : G) (s : List UInt8) (v0 v1 v2 v4 v6 v15 : AV) : ∀ (f pos : Nat) (acc : List AV) (t3 v5 v8 v9 v10 v11 v12 v13 v14 : AV) (hp : PT HO) (c it : Nat), s.length - pos < f → hp.get it = some (.iter s pos) →
    Sl hp c none t3 acc → (t3 ≠ .nils → acc ≠ []) → (∀ off n, t3 ≠ .arr it off n none) → it < c → acc.length + (s.length - pos) ≤ 1000000000 →
    ∃ t3' v5' v8' v9' v10' v11' v12' v13' v14' hp' c', codeRun (ev g) (.loop L46x0) (TL [v0, v1, v2, t3, v4, v5, v6, .ptr it 0, v8, v9, v10, v11, v12, v13, v14, v15]) hp c =
        some (.x (.exit 0) (TL [v0, v1, v2, t3', v4, v5', v6, .ptr it 0, v8', v9', v10', v11', v12', v13', v14', v15]) hp' c') ∧ Sl hp' c' none t3' (acc ++ (runesF s f pos).map rA) ∧ (t3' ≠ .nils → acc ++ (runesF s f pos).map rA ≠ []) := by
  intro f
  induction f with
  | zero => intro pos acc t3 v5 v8 v9 v10 v11 v12 v13 v14 hp c it h; omega
  | succ f ih =>
    intro pos acc t3 v5 v8 v9 v10 v11 v12 v13 v14 hp c it hf hit hsl hnn hne hitc hsz
    by_cases hp0 : pos < s.length
    · obtain ⟨r, wd, hdec⟩ : ∃ r wd, Utf8.decode ⟨s.toArray⟩ pos = (r, wd) := ⟨_, _, rfl⟩
      have hwd : 1 ≤ wd := by have := Lib.width_pos ⟨s.toArray⟩ pos; rw [hdec] at this; exact this
      have hn := fun c => next_some (c := c) hit hp0 hdec
      have hl := fun hp c => lit1 (z := .int .i32 0) (v := .int .i32 r) (hp := hp) (c := c) rfl rfl true
      have hsl' : Sl (hp.set it (.iter s (pos + wd))) c none t3 acc := hsl.other hne
      obtain ⟨hp', ha, hb, hc⟩ := hsl'.append (ex := true) (ys := [.int .i32 r]) (by simp [ksz]) (by simp [shp]) rfl (by simp) (by simp; omega)
      have hit' : hp'.get it = some (.iter s (pos + wd)) := by rw [hc it hitc (fun off n => hne off n), PT.get_set_same]
      obtain ⟨u3, u5, u8, u9, u10, u11, u12, u13, u14, hp2, c2, h1, h2, h3⟩ := ih (pos + wd) (acc ++ [.int .i32 r]) (.arr c 0 (acc.length + 1) none) (.int .i32 r) (.tup [.bool true, .int .i64 pos, .int .i32 r]) (.bool true) (.int .i32 r) t3 (.int .i32 r) (.sl [.int .i32 r] true) (.arr c 0 (acc.length + 1) none) hp' (c + 1) it (by omega) hit' hb (by simp) (by intro off n e; simp only [AV.arr.injEq] at e; omega) (by omega) (by simp; omega)
      have e : (runesF s (f + 1) pos).map rA = [.int .i32 r] ++ (runesF s f (pos + wd)).map rA := by
        simp only [runesF, if_pos hp0, hdec, List.map_cons, rA]; rfl
      rw [List.append_assoc, ← e] at h2 h3
      refine ⟨u3, u5, u8, u9, u10, u11, u12, u13, u14, hp2, c2, ?_, h2, h3⟩
      rw [← loop_ev h1, x_loop]
      conv => lhs; unfold L46x0
      simp only [x_seq, x_seqK, x_seqR, x_seqE, x_cond, x_condT, x_condF, x_block, x_blockN, x_blockR, x_blockE, x_ops, x_skip, x_ret, x_exit, x_nil, x_cons, x_guard, x_guard_t, x_guard_tf, x_guard_ft, x_guard_u, x_putK, x_putK0, TL_get, x_opv, x_opvc, x_opvs0, x_opvs, vcons_some, obind_some, lput_zero, lput_succ, lcons_some, List.getElem?_cons_succ, List.getElem?_cons_zero, d_move, d_pick, d_extract, d_range, d_append, d_next, d_buildSlice, d_nilCheck, d_alloc, d_box, d_load, d_store, d_bin, d_not, d_lenS, d_lenN, d_lenL, d_lenA, d_fieldAddr, d_fieldAddr', d_field, d_call, load_p1, load_pn, load_r1, load_rn, store_p, putC, takeN_zero, takeN_succ, dropN_zero, dropN_succ, splice_zero, splice_succ, over_nil, over_cons, aggOf_some, nth, c_agg, c_bool, c_int, c_str, c_ptr, c_rop, c_nilp, c_nils, c_sl, c_arr, c_fn, c_nilf, c_iface, c_nili, p_bool, p_int, p_str, p_ptr, p_rop, p_nilp, p_nils, p_sl, p_arr, p_fn, p_nilf, p_iface, p_nili, plains_nil, plains_cons, List.length_cons, List.length_nil, natbeq, eq_self, bin_int, bin_str, binI_add, binI_sub, binI_eql, binI_neq, binI_lss, binI_gtr, binI_leq, binI_geq, binS_eql, binS_neq, if_true, if_false, reduceIte, Nat.reduceEqDiff, Nat.reduceAdd, Nat.zero_add, Nat.add_zero, Bool.and_self, Bool.and_true, Bool.true_and, Bool.not_true, Bool.not_false, cond_true, cond_false, x_loopN, x_loopE, x_loopR, decide_true, decide_false, x_retR, x_retN, List.nil_append, List.cons_append, List.replicate, Nat.reduceSub, hn, hl, ha]
      rfl
    · have hn := fun c => next_none (c := c) hit hp0
      have e : (runesF s (f + 1) pos).map rA = [] := by simp only [runesF, if_neg hp0, List.map_nil]
      rw [e, List.append_nil]
      refine ⟨t3, v5, .tup [.bool false], .bool false, v10, v11, v12, v13, v14, hp, c, ?_, hsl, hnn⟩
      rw [x_loop]
      conv => lhs; unfold L46x0
      simp only [x_seq, x_seqK, x_seqR, x_seqE, x_cond, x_condT, x_condF, x_block, x_blockN, x_blockR, x_blockE, x_ops, x_skip, x_ret, x_exit, x_nil, x_cons, x_guard, x_guard_t, x_guard_tf, x_guard_ft, x_guard_u, x_putK, x_putK0, TL_get, x_opv, x_opvc, x_opvs0, x_opvs, vcons_some, obind_some, lput_zero, lput_succ, lcons_some, List.getElem?_cons_succ, List.getElem?_cons_zero, d_move, d_pick, d_extract, d_range, d_append, d_next, d_buildSlice, d_nilCheck, d_alloc, d_box, d_load, d_store, d_bin, d_not, d_lenS, d_lenN, d_lenL, d_lenA, d_fieldAddr, d_fieldAddr', d_field, d_call, load_p1, load_pn, load_r1, load_rn, store_p, putC, takeN_zero, takeN_succ, dropN_zero, dropN_succ, splice_zero, splice_succ, over_nil, over_cons, aggOf_some, nth, c_agg, c_bool, c_int, c_str, c_ptr, c_rop, c_nilp, c_nils, c_sl, c_arr, c_fn, c_nilf, c_iface, c_nili, p_bool, p_int, p_str, p_ptr, p_rop, p_nilp, p_nils, p_sl, p_arr, p_fn, p_nilf, p_iface, p_nili, plains_nil, plains_cons, List.length_cons, List.length_nil, natbeq, eq_self, bin_int, bin_str, binI_add, binI_sub, binI_eql, binI_neq, binI_lss, binI_gtr, binI_leq, binI_geq, binS_eql, binS_neq, if_true, if_false, reduceIte, Nat.reduceEqDiff, Nat.reduceAdd, Nat.zero_add, Nat.add_zero, Bool.and_self, Bool.and_true, Bool.true_and, Bool.not_true, Bool.not_false, cond_true, cond_false, x_loopN, x_loopE, x_loopR, decide_true, decide_false, x_retR, x_retN, List.nil_append, List.cons_append, List.replicate, Nat.reduceSub, hn]

theorem rA_stab {l : List Nat} : ∀ x, x ∈ flat (l.map rA) → stab x = true := by
  intro x hx
  rw [flat_one _ (fun y hy => by obtain ⟨r, _, rfl⟩ := List.mem_map.1 hy; rfl)] at hx
  obtain ⟨r, _, rfl⟩ := List.mem_map.1 hx; rfl
theorem rA_shp {l : List Nat} : ∀ x, x ∈ l.map rA → shp x = none := by
  intro x hx; obtain ⟨r, _, rfl⟩ := List.mem_map.1 hx; rfl
theorem rA_val : ∀ {l : List Nat}, valAs (l.map rA) = true
  | [] => rfl
  | _ :: l => by simp only [List.map_cons, valAs, rA, valA, Bool.true_and]; exact rA_val

/-- glyph.Runes -/
theorem runes_ok (g : G) (s : List UInt8) (h : s.length ≤ 80000) : ∃ hp c, enter (ev g) D46 [.str s] .nil 0 = some (.v (ofL ((runes s).map rA)) hp c) := by
  have hfz : freezes 100000 false true .nil [.str s] = some ([.str s], .nil) := rfl
  obtain ⟨t3, v5, v8, v9, v10, v11, v12, v13, v14, hp1, c1, h1, h2, h3⟩ := runes_loop g s (.str s) (.tup []) .nils (.tup []) (.str s) (.tup []) (s.length + 1) 0 [] .nils (.tup []) (.tup []) (.tup []) (.tup []) (.tup []) (.tup []) (.tup []) (.tup []) ((PT.nil : PT HO).set 0 (.iter s 0)) 1 0 (by omega) (PT.get_set_same _ _ _) (.inl ⟨rfl, rfl⟩) (fun h => absurd rfl h) (by intro off n e; cases e) (by omega) (by simp; omega)
  simp only [List.nil_append] at h2 h3
  have hlen := runesF_len s (s.length + 1) 0
  obtain ⟨hp2, h4⟩ := h2.fin rA_stab (by rw [flat_one _ rA_shp, List.length_map]; omega) h3
  refine ⟨hp2, c1, ?_⟩
  rw [x_enter, show D46.freezeArg = true from rfl, cond_true, hfz, obind_some]
  rw [show D46.body = C46 from rfl, show D46.ntmps = 16 from rfl]
  unfold C46
  simp only [x_seq, x_seqK, x_seqR, x_seqE, x_cond, x_condT, x_condF, x_block, x_blockN, x_blockR, x_blockE, x_ops, x_skip, x_ret, x_exit, x_nil, x_cons, x_guard, x_guard_t, x_guard_tf, x_guard_ft, x_guard_u, x_putK, x_putK0, TL_get, x_opv, x_opvc, x_opvs0, x_opvs, vcons_some, obind_some, lput_zero, lput_succ, lcons_some, List.getElem?_cons_succ, List.getElem?_cons_zero, d_move, d_pick, d_extract, d_range, d_append, d_next, d_buildSlice, d_nilCheck, d_alloc, d_box, d_load, d_store, d_bin, d_not, d_lenS, d_lenN, d_lenL, d_lenA, d_fieldAddr, d_fieldAddr', d_field, d_call, load_p1, load_pn, load_r1, load_rn, store_p, putC, takeN_zero, takeN_succ, dropN_zero, dropN_succ, splice_zero, splice_succ, over_nil, over_cons, aggOf_some, nth, c_agg, c_bool, c_int, c_str, c_ptr, c_rop, c_nilp, c_nils, c_sl, c_arr, c_fn, c_nilf, c_iface, c_nili, p_bool, p_int, p_str, p_ptr, p_rop, p_nilp, p_nils, p_sl, p_arr, p_fn, p_nilf, p_iface, p_nili, plains_nil, plains_cons, List.length_cons, List.length_nil, natbeq, eq_self, bin_int, bin_str, binI_add, binI_sub, binI_eql, binI_neq, binI_lss, binI_gtr, binI_leq, binI_geq, binS_eql, binS_neq, if_true, if_false, reduceIte, Nat.reduceEqDiff, Nat.reduceAdd, Nat.zero_add, Nat.add_zero, Bool.and_self, Bool.and_true, Bool.true_and, Bool.not_true, Bool.not_false, cond_true, cond_false, x_loopN, x_loopE, x_loopR, decide_true, decide_false, x_retR, x_retN, List.nil_append, List.cons_append, List.replicate, Nat.reduceSub, h1, finish, D46, resVals, one, h4]
  rfl

/-- a letter of a field -/
def cA (q : Bool) (r : Nat) : AV := .agg [.int .i32 r, .bool q]
theorem chars_loop (g : G) (q : Bool) (rs : List Nat) (v0 v2 v3 v4 v6 v8 v22 : AV) (hn : rs.length ≤ 100000) : ∀ (k i : Nat) (acc : List AV) (t5 v7 v12 v13 v14 v15 v16 v17 v18 v19 v20 v21 : AV) (hp : PT HO) (c : Nat), i + k = rs.length →
    Sl hp c (some 2) t5 acc → (t5 ≠ .nils → acc ≠ []) → acc.length ≤ i →
    ∃ t5' v7' v12' v13' v14' v15' v16' v17' v18' v19' v20' v21' hp' c', codeRun (ev g) (.loop L26x0) (TL [v0, .bool q, v2, v3, v4, t5, v6, v7, v8, ofL (rs.map rA), .int .i64 rs.length, .int .i64 i, v12, v13, v14, v15, v16, v17, v18, v19, v20, v21, v22]) hp c =
        some (.x (.exit 0) (TL [v0, .bool q, v2, v3, v4, t5', v6, v7', v8, ofL (rs.map rA), .int .i64 rs.length, .int .i64 rs.length, v12', v13', v14', v15', v16', v17', v18', v19', v20', v21', v22]) hp' c') ∧
      Sl hp' c' (some 2) t5' (acc ++ (rs.drop i).map (cA q)) ∧ (t5' ≠ .nils → acc ++ (rs.drop i).map (cA q) ≠ []) := by
  intro k
  induction k with
  | zero =>
    intro i acc t5 v7 v12 v13 v14 v15 v16 v17 v18 v19 v20 v21 hp c hi hsl hnn hac
    have hi' : i = rs.length := by omega
    subst hi'
    rw [List.drop_length, List.map_nil, List.append_nil]
    refine ⟨t5, v7, .bool false, v13, v14, v15, v16, v17, v18, v19, v20, v21, hp, c, ?_, hsl, hnn⟩
    have d1 : decide ((rs.length : Int) < (rs.length : Int)) = false := decide_eq_false (by omega)
    rw [x_loop]
    conv => lhs; unfold L26x0
    simp only [x_seq, x_seqK, x_seqR, x_seqE, x_cond, x_condT, x_condF, x_block, x_blockN, x_blockR, x_blockE, x_ops, x_skip, x_ret, x_exit, x_nil, x_cons, x_guard, x_guard_t, x_guard_tf, x_guard_ft, x_guard_u, x_putK, x_putK0, TL_get, x_opv, x_opvc, x_opvs0, x_opvs, vcons_some, obind_some, lput_zero, lput_succ, lcons_some, List.getElem?_cons_succ, List.getElem?_cons_zero, d_move, d_pick, d_extract, d_range, d_append, d_next, d_buildSlice, d_nilCheck, d_alloc, d_box, d_load, d_store, d_bin, d_not, d_lenS, d_lenN, d_lenL, d_lenA, d_fieldAddr, d_fieldAddr', d_field, d_call, load_p1, load_pn, load_r1, load_rn, store_p, putC, takeN_zero, takeN_succ, dropN_zero, dropN_succ, splice_zero, splice_succ, over_nil, over_cons, aggOf_some, nth, c_agg, c_bool, c_int, c_str, c_ptr, c_rop, c_nilp, c_nils, c_sl, c_arr, c_fn, c_nilf, c_iface, c_nili, p_bool, p_int, p_str, p_ptr, p_rop, p_nilp, p_nils, p_sl, p_arr, p_fn, p_nilf, p_iface, p_nili, plains_nil, plains_cons, List.length_cons, List.length_nil, natbeq, eq_self, bin_int, bin_str, binI_add, binI_sub, binI_eql, binI_neq, binI_lss, binI_gtr, binI_leq, binI_geq, binS_eql, binS_neq, if_true, if_false, reduceIte, Nat.reduceEqDiff, Nat.reduceAdd, Nat.zero_add, Nat.add_zero, Bool.and_self, Bool.and_true, Bool.true_and, Bool.not_true, Bool.not_false, cond_true, cond_false, x_loopN, x_loopE, x_loopR, decide_true, decide_false, x_retR, x_retN, List.nil_append, List.cons_append, List.replicate, Nat.reduceSub, d1]
  | succ k ih =>
    intro i acc t5 v7 v12 v13 v14 v15 v16 v17 v18 v19 v20 v21 hp c hi hsl hnn hac
    have hlt : i < rs.length := by omega
    have d1 : decide ((i : Int) < (rs.length : Int)) = true := decide_eq_true (by omega)
    have hidx := fun hp c => idx_of (ev g) hp c (k := none) (xs := rs.map rA) (kk := .i64) (n := i) (x := .int .i32 (rs[i] : Nat)) rA_shp (by simp [hlt, rA])
    have hl := fun hp c => litA (m := 2) (z := [.int .i32 0, .bool false]) (cs := [.int .i32 (rs[i] : Nat), .bool q]) (hp := hp) (c := c) rfl rfl (by omega) rfl true
    obtain ⟨hp', ha, hb, hc⟩ := hsl.append (ex := true) (ys := [.agg [.int .i32 (rs[i] : Nat), .bool q]]) (by simp [ksz]) (by simp [shp]) rfl (by simp) (by simp; omega)
    have w1 : IntKind.i64.wrap ((i : Int) + 1) = ((i + 1 : Nat) : Int) := by rw [show ((i : Int) + 1) = ((i + 1 : Nat) : Int) by omega]; exact wrap_nat _ (by omega)
    obtain ⟨u5, u7, u12, u13, u14, u15, u16, u17, u18, u19, u20, u21, hp2, c2, h1, h2, h3⟩ := ih (i + 1) (acc ++ [.agg [.int .i32 (rs[i] : Nat), .bool q]]) (.arr c 0 (acc.length + 1) (some 2)) (.int .i32 (rs[i] : Nat)) (.bool true) (.rop [.int .i32 (rs[i] : Nat)] 0) (.int .i32 (rs[i] : Nat)) t5 (.int .i32 (rs[i] : Nat)) (.bool q) (.agg [.int .i32 (rs[i] : Nat), .bool q]) (.sl [.agg [.int .i32 (rs[i] : Nat), .bool q]] true) (.arr c 0 (acc.length + 1) (some 2)) (.int .i64 (i + 1 : Nat)) hp' (c + 1) (by omega) hb (by simp) (by simp; omega)
    have e : (rs.drop i).map (cA q) = [.agg [.int .i32 (rs[i] : Nat), .bool q]] ++ (rs.drop (i + 1)).map (cA q) := by
      rw [List.drop_eq_getElem_cons hlt, List.map_cons]; rfl
    rw [List.append_assoc, ← e] at h2 h3
    refine ⟨u5, u7, u12, u13, u14, u15, u16, u17, u18, u19, u20, u21, hp2, c2, ?_, h2, h3⟩
    rw [← loop_ev h1, x_loop]
    conv => lhs; unfold L26x0
    simp only [x_seq, x_seqK, x_seqR, x_seqE, x_cond, x_condT, x_condF, x_block, x_blockN, x_blockR, x_blockE, x_ops, x_skip, x_ret, x_exit, x_nil, x_cons, x_guard, x_guard_t, x_guard_tf, x_guard_ft, x_guard_u, x_putK, x_putK0, TL_get, x_opv, x_opvc, x_opvs0, x_opvs, vcons_some, obind_some, lput_zero, lput_succ, lcons_some, List.getElem?_cons_succ, List.getElem?_cons_zero, d_move, d_pick, d_extract, d_range, d_append, d_next, d_buildSlice, d_nilCheck, d_alloc, d_box, d_load, d_store, d_bin, d_not, d_lenS, d_lenN, d_lenL, d_lenA, d_fieldAddr, d_fieldAddr', d_field, d_call, load_p1, load_pn, load_r1, load_rn, store_p, putC, takeN_zero, takeN_succ, dropN_zero, dropN_succ, splice_zero, splice_succ, over_nil, over_cons, aggOf_some, nth, c_agg, c_bool, c_int, c_str, c_ptr, c_rop, c_nilp, c_nils, c_sl, c_arr, c_fn, c_nilf, c_iface, c_nili, p_bool, p_int, p_str, p_ptr, p_rop, p_nilp, p_nils, p_sl, p_arr, p_fn, p_nilf, p_iface, p_nili, plains_nil, plains_cons, List.length_cons, List.length_nil, natbeq, eq_self, bin_int, bin_str, binI_add, binI_sub, binI_eql, binI_neq, binI_lss, binI_gtr, binI_leq, binI_geq, binS_eql, binS_neq, if_true, if_false, reduceIte, Nat.reduceEqDiff, Nat.reduceAdd, Nat.zero_add, Nat.add_zero, Bool.and_self, Bool.and_true, Bool.true_and, Bool.not_true, Bool.not_false, cond_true, cond_false, x_loopN, x_loopE, x_loopR, decide_true, decide_false, x_retR, x_retN, List.nil_append, List.cons_append, List.replicate, Nat.reduceSub, d1, hidx, hl, ha, w1, d_build, buildR, zip3, fill]
    rfl

theorem cA_shp {q : Bool} {l : List Nat} : ∀ x, x ∈ l.map (cA q) → shp x = some 2 := by
  intro x hx; obtain ⟨r, _, rfl⟩ := List.mem_map.1 hx; rfl
theorem cA_flat {q : Bool} : ∀ {l : List Nat}, (∀ x, x ∈ flat (l.map (cA q)) → stab x = true) ∧ plains (flat (l.map (cA q))) = true ∧ (flat (l.map (cA q))).length = 2 * l.length ∧ valAs (l.map (cA q)) = true
  | [] => ⟨fun x hx => absurd hx List.not_mem_nil, rfl, rfl, rfl⟩
  | r :: l => by
    obtain ⟨h1, h2, h3, h4⟩ := cA_flat (q := q) (l := l)
    refine ⟨fun x hx => ?_, ?_, ?_, ?_⟩
    · simp only [List.map_cons, flat, cA, AV.cells, List.cons_append, List.nil_append, List.mem_cons] at hx
      rcases hx with rfl | rfl | hx
      · rfl
      · rfl
      · exact h1 x hx
    · simp only [List.map_cons, flat, cA, AV.cells, List.cons_append, List.nil_append, plains, plain1, Bool.true_and]; exact h2
    · have e : flat ((r :: l).map (cA q)) = .int .i32 r :: .bool q :: flat (l.map (cA q)) := rfl
      rw [e]; simp only [List.length_cons, h3]; omega
    · simp only [List.map_cons, valAs, cA, valA, Bool.true_and]; exact h4
def F46 : List AV → Option AV
  | [.str s] => bif Nat.ble s.length 80000 then some (ofL ((runes s).map rA)) else none
  | _ => none
theorem F46_eq {s : List UInt8} (h : s.length ≤ 80000) : F46 [.str s] = some (ofL ((runes s).map rA)) := by
  simp only [F46, Nat.ble_eq_true_of_le h, cond_true]
theorem runes_len (s : List UInt8) : (runes s).length ≤ s.length + 1 := runesF_len _ _ _
/-- glob.Chars -/
theorem chars_ok (g : G) (hp46 : g.fun_ 46 = some (.inr (pureF F46))) (s : List UInt8) (q : Bool) (h : s.length ≤ 40000) : ∃ hp c, enter (ev g) D26 [.str s, .bool q] .nil 0 = some (.v (ofL ((runes s).map (cA q))) hp c) := by
  have hfz : freezes 100000 false true .nil [.str s, .bool q] = some ([.str s, .bool q], .nil) := rfl
  have hlen := runes_len s
  have hcall := fun hp c => call_pure (hp := hp) (c := c) hp46 (F46_eq (s := s) (by omega)) rfl
  obtain ⟨t5, v7, v12, v13, v14, v15, v16, v17, v18, v19, v20, v21, hp1, c1, h1, h2, h3⟩ := chars_loop g q (runes s) (.str s) (.tup []) (.tup []) .nils (.tup []) (.str s) (.tup []) (by omega) (runes s).length 0 [] .nils (.tup []) (.tup []) (.tup []) (.tup []) (.tup []) (.tup []) (.tup []) (.tup []) (.tup []) (.tup []) (.tup []) .nil 0 (by omega) (.inl ⟨rfl, rfl⟩) (fun h => absurd rfl h) (by simp)
  simp only [List.nil_append, List.drop_zero] at h2 h3
  obtain ⟨k1, k2, k3, k4⟩ := cA_flat (q := q) (l := runes s)
  obtain ⟨hp2, h4⟩ := h2.fin k1 (by rw [k3]; omega) h3
  refine ⟨hp2, c1, ?_⟩
  rw [x_enter, show D26.freezeArg = true from rfl, cond_true, hfz, obind_some]
  rw [show D26.body = C26 from rfl, show D26.ntmps = 23 from rfl]
  unfold C26
  have e0 : ((0 : Nat) : Int) = 0 := rfl
  rw [e0] at h1
  simp only [x_seq, x_seqK, x_seqR, x_seqE, x_cond, x_condT, x_condF, x_block, x_blockN, x_blockR, x_blockE, x_ops, x_skip, x_ret, x_exit, x_nil, x_cons, x_guard, x_guard_t, x_guard_tf, x_guard_ft, x_guard_u, x_putK, x_putK0, TL_get, x_opv, x_opvc, x_opvs0, x_opvs, vcons_some, obind_some, lput_zero, lput_succ, lcons_some, List.getElem?_cons_succ, List.getElem?_cons_zero, d_move, d_pick, d_extract, d_range, d_append, d_next, d_buildSlice, d_nilCheck, d_alloc, d_box, d_load, d_store, d_bin, d_not, d_lenS, d_lenN, d_lenL, d_lenA, d_fieldAddr, d_fieldAddr', d_field, d_call, load_p1, load_pn, load_r1, load_rn, store_p, putC, takeN_zero, takeN_succ, dropN_zero, dropN_succ, splice_zero, splice_succ, over_nil, over_cons, aggOf_some, nth, c_agg, c_bool, c_int, c_str, c_ptr, c_rop, c_nilp, c_nils, c_sl, c_arr, c_fn, c_nilf, c_iface, c_nili, p_bool, p_int, p_str, p_ptr, p_rop, p_nilp, p_nils, p_sl, p_arr, p_fn, p_nilf, p_iface, p_nili, plains_nil, plains_cons, List.length_cons, List.length_nil, natbeq, eq_self, bin_int, bin_str, binI_add, binI_sub, binI_eql, binI_neq, binI_lss, binI_gtr, binI_leq, binI_geq, binS_eql, binS_neq, if_true, if_false, reduceIte, Nat.reduceEqDiff, Nat.reduceAdd, Nat.zero_add, Nat.add_zero, Bool.and_self, Bool.and_true, Bool.true_and, Bool.not_true, Bool.not_false, cond_true, cond_false, x_loopN, x_loopE, x_loopR, decide_true, decide_false, x_retR, x_retN, List.nil_append, List.cons_append, List.replicate, Nat.reduceSub, hcall, d_lenO, List.length_map, h1, finish, D26, resVals, one, h4]
def F26 : List AV → Option AV
  | [.str s, .bool q] => bif Nat.ble s.length 40000 then some (ofL ((runes s).map (cA q))) else none
  | _ => none
theorem F26_eq {s : List UInt8} {q : Bool} (h : s.length ≤ 40000) : F26 [.str s, .bool q] = some (ofL ((runes s).map (cA q))) := by
  simp only [F26, Nat.ble_eq_true_of_le h, cond_true]
end W
set_option linter.unusedSimpArgs false
set_option linter.unusedVariables false
namespace W
open Go Det
def C44 : DCode := .ops [⟨some 6, .move, [.t 0], none⟩,
    ⟨some 7, .move, [.t 1], none⟩,
    ⟨some 8, .move, [.t 2], none⟩,
    ⟨some 9, .move, [.t 2], none⟩,
    ⟨some 10, .un .not, [.t 9], none⟩,
    ⟨some 11, .build [.str [], .bool false, .bool false, .bool false] [(0, 1), (1, 1), (2, 1)], [.t 7, .t 8, .t 10], none⟩,
    ⟨some 12, .callF 40, [.t 6, .t 11], none⟩]
def D44 : DFun := ⟨3, 13, C44, [], true, true, false⟩
def C59 : DCode := .seq (.ops [⟨some 4, .move, [.c (.str [])], none⟩,
      ⟨some 5, .move, [.c (.bool false)], none⟩]) <|
  .seq (.seq (.ops [⟨some 8, .move, [.t 1], none⟩]) <|
    .block 0 (.seq (.ops [⟨some 10, .bin .eql, [.t 8, .c (.str [35])], none⟩,
          ⟨some 9, .move, [.t 10], none⟩]) <|
      .cond (.t 9) (.seq (.ops [⟨some 11, .move, [.t 0], none⟩,
            ⟨some 12, .nilCheck, [.t 11], none⟩,
            ⟨some 13, .fieldAddr 1, [.t 12], none⟩,
            ⟨some 14, .fieldAddr 1, [.t 13], none⟩,
            ⟨some 15, .load none, [.t 14], none⟩,
            ⟨some 16, .len false, [.t 15], none⟩,
            ⟨some 17, .callF 60, [.t 16], none⟩,
            ⟨some 4, .move, [.t 17], none⟩,
            ⟨some 5, .move, [.c (.bool true)], none⟩]) <|
        .ret)
        (.seq (.ops [⟨some 19, .bin .eql, [.t 8, .c (.str [63])], none⟩,
            ⟨some 18, .move, [.t 19], none⟩]) <|
        .cond (.t 18) (.seq (.ops [⟨some 20, .move, [.t 0], none⟩,
              ⟨some 21, .nilCheck, [.t 20], none⟩,
              ⟨some 22, .fieldAddr 4, [.t 21], none⟩,
              ⟨some 23, .load none, [.t 22], none⟩,
              ⟨some 24, .callF 60, [.t 23], none⟩,
              ⟨some 4, .move, [.t 24], none⟩,
              ⟨some 5, .move, [.c (.bool true)], none⟩]) <|
          .ret)
          (.seq (.ops [⟨some 26, .bin .eql, [.t 8, .c (.str [64])], none⟩,
              ⟨some 25, .move, [.t 26], none⟩]) <|
          .cond (.t 25) (.seq (.draw [⟨some 27, .move, [.t 0], none⟩,
                ⟨some 28, .nilCheck, [.t 27], none⟩,
                ⟨some 29, .fieldAddr 1, [.t 28], none⟩,
                ⟨some 30, .fieldAddr 1, [.t 29], none⟩,
                ⟨some 31, .load none, [.t 30], none⟩,
                ⟨some 32, .callF 76, [.t 31, .c (.str [32])], none⟩,
                ⟨some 33, .move, [.t 0], none⟩,
                ⟨some 34, .nilCheck, [.t 33], none⟩,
                ⟨some 35, .fieldAddr 1, [.t 34], none⟩,
                ⟨some 36, .fieldAddr 1, [.t 35], none⟩,
                ⟨some 37, .load none, [.t 36], none⟩,
                ⟨some 38, .len false, [.t 37], none⟩,
                ⟨some 39, .bin .gtr, [.t 38, .c (.int .i64 0)], none⟩,
                ⟨some 4, .move, [.t 32], none⟩,
                ⟨some 5, .move, [.t 39], none⟩] [(10, 5)] [] []) <|
            .ret)
            (.skip))))) <|
  .seq (.seq (.ops [⟨some 40, .move, [.t 1], none⟩,
        ⟨some 41, .callF 77, [.t 40], none⟩]) <|
    .cond (.t 41) (.seq (.ops [⟨some 42, .move, [.t 0], none⟩,
          ⟨some 43, .nilCheck, [.t 42], none⟩,
          ⟨some 44, .fieldAddr 1, [.t 43], none⟩,
          ⟨some 45, .load (some 3), [.t 44], none⟩,
          ⟨some 46, .move, [.t 1], none⟩,
          ⟨some 47, .callF 78, [.t 45, .t 46], none⟩,
          ⟨some 48, .extract 0, [.t 47], none⟩,
          ⟨some 49, .extract 1, [.t 47], none⟩,
          ⟨some 4, .move, [.t 48], none⟩,
          ⟨some 5, .move, [.t 49], none⟩]) <|
      .ret)
      (.skip)) <|
  .seq (.ops [⟨some 51, .move, [.t 1], none⟩,
      ⟨some 52, .callF 79, [.t 51], none⟩,
      ⟨some 50, .move, [.t 52], none⟩,
      ⟨some 53, .extract 0, [.t 50], none⟩,
      ⟨some 54, .extract 1, [.t 50], none⟩,
      ⟨some 6, .move, [.t 53], none⟩,
      ⟨some 7, .move, [.t 54], none⟩]) <|
  .seq (.ops [⟨some 55, .move, [.t 0], none⟩,
      ⟨some 56, .nilCheck, [.t 55], none⟩,
      ⟨some 57, .fieldAddr 1, [.t 56], none⟩,
      ⟨some 58, .load (some 3), [.t 57], none⟩,
      ⟨some 59, .move, [.t 6], none⟩,
      ⟨some 60, .callF 80, [.t 58, .t 59], none⟩,
      ⟨some 61, .extract 0, [.t 60], none⟩,
      ⟨some 62, .extract 1, [.t 60], none⟩,
      ⟨some 4, .move, [.t 61], none⟩,
      ⟨some 5, .move, [.t 62], none⟩]) <|
  .ret
def D59 : DFun := ⟨2, 63, C59, [(4, none), (5, none)], true, true, false⟩
def L63x0 : DCode := .seq (.ops [⟨some 18, .bin .lss, [.t 17, .t 16], none⟩]) <|
  .seq (.cond (.t 18) (.skip)
      (.exit 0)) <|
  .seq (.block 1 (.seq (.ops [⟨some 19, .move, [.t 17], none⟩,
          ⟨some 20, .indexAddr none, [.t 15, .t 17], none⟩,
          ⟨some 21, .load none, [.t 20], none⟩,
          ⟨some 4, .move, [.t 19], none⟩,
          ⟨some 5, .move, [.t 21], none⟩]) <|
      .seq (.seq (.ops [⟨some 22, .move, [.t 4], none⟩,
            ⟨some 23, .bin .gtr, [.t 22, .c (.int .i64 0)], none⟩]) <|
        .cond (.t 23) (.ops [⟨some 24, .move, [.t 0], none⟩,
            ⟨some 25, .build [.str [], .bool false, .bool false, .bool false] [(3, 1)], [.c (.bool true)], none⟩,
            ⟨some 26, .callF 40, [.t 24, .t 25], none⟩])
          (.skip)) <|
      .ops [⟨some 27, .move, [.t 0], none⟩,
        ⟨some 28, .move, [.t 5], none⟩,
        ⟨some 29, .fieldAddr 4, [.t 3], none⟩,
        ⟨some 30, .load none, [.t 29], none⟩,
        ⟨some 31, .callF 44, [.t 27, .t 28, .t 30], none⟩])) <|
  .ops [⟨some 32, .bin .add, [.t 17, .c (.int .i64 1)], none⟩,
    ⟨some 17, .move, [.t 32], none⟩]
def C63 : DCode := .seq (.ops [⟨some 3, .box, [.t 1], none⟩]) <|
  .seq (.seq (.ops [⟨some 8, .fieldAddr 1, [.t 3], none⟩,
        ⟨some 9, .load none, [.t 8], none⟩,
        ⟨some 10, .bin .eql, [.t 9, .c (.str [64])], none⟩]) <|
    .cond (.t 10) (.seq (.seq (.ops [⟨some 11, .move, [.t 0], none⟩,
            ⟨some 12, .nilCheck, [.t 11], none⟩,
            ⟨some 13, .fieldAddr 1, [.t 12], none⟩,
            ⟨some 14, .fieldAddr 1, [.t 13], none⟩,
            ⟨some 15, .load none, [.t 14], none⟩,
            ⟨some 16, .len false, [.t 15], none⟩,
            ⟨some 17, .move, [.c (.int .i64 0)], none⟩]) <|
        .block 0 (.loop L63x0)) <|
      .ret)
      (.skip)) <|
  .seq (.ops [⟨some 34, .move, [.t 0], none⟩,
      ⟨some 35, .fieldAddr 1, [.t 3], none⟩,
      ⟨some 36, .load none, [.t 35], none⟩,
      ⟨some 37, .callF 59, [.t 34, .t 36], none⟩,
      ⟨some 33, .move, [.t 37], none⟩,
      ⟨some 38, .extract 0, [.t 33], none⟩,
      ⟨some 39, .extract 1, [.t 33], none⟩,
      ⟨some 6, .move, [.t 38], none⟩,
      ⟨some 7, .move, [.t 39], none⟩]) <|
  .ops [⟨some 40, .move, [.t 0], none⟩,
    ⟨some 41, .move, [.t 6], none⟩,
    ⟨some 42, .fieldAddr 4, [.t 3], none⟩,
    ⟨some 43, .load none, [.t 42], none⟩,
    ⟨some 44, .callF 44, [.t 40, .t 41, .t 43], none⟩]
def D63 : DFun := ⟨2, 45, C63, [], true, true, false⟩
def C41 : DCode := .seq (.ops [⟨some 3, .box, [.t 1], none⟩]) <|
  .seq (.ops [⟨some 7, .move, [.t 0], none⟩,
      ⟨some 8, .fieldAddr 1, [.t 3], none⟩,
      ⟨some 9, .load none, [.t 8], none⟩,
      ⟨some 10, .callF 59, [.t 7, .t 9], none⟩,
      ⟨some 6, .move, [.t 10], none⟩,
      ⟨some 11, .extract 0, [.t 6], none⟩,
      ⟨some 12, .extract 1, [.t 6], none⟩,
      ⟨some 4, .move, [.t 11], none⟩,
      ⟨some 5, .move, [.t 12], none⟩]) <|
  .block 0 (.seq (.ops [⟨some 17, .fieldAddr 2, [.t 3], none⟩,
        ⟨some 18, .load none, [.t 17], none⟩,
        ⟨some 19, .bin .eql, [.t 18, .c (.str [35])], none⟩,
        ⟨some 16, .move, [.t 19], none⟩]) <|
    .cond (.t 16) (.draw [⟨some 20, .move, [.t 0], none⟩,
        ⟨some 21, .move, [.t 4], none⟩,
        ⟨some 22, .callF 61, [.t 21], none⟩,
        ⟨some 23, .callF 60, [.t 22], none⟩,
        ⟨some 24, .fieldAddr 4, [.t 3], none⟩,
        ⟨some 25, .load none, [.t 24], none⟩,
        ⟨some 26, .callF 44, [.t 20, .t 23, .t 25], none⟩] [(5, 3), (5, 2)] [] [])
      (.seq (.ops [⟨some 28, .fieldAddr 2, [.t 3], none⟩,
          ⟨some 29, .load none, [.t 28], none⟩,
          ⟨some 30, .bin .eql, [.t 29, .c (.str [58, 43])], none⟩,
          ⟨some 31, .move, [.t 30], none⟩,
          ⟨some 32, .move, [.t 4], some (31, true)⟩,
          ⟨some 33, .bin .neq, [.t 32, .c (.str [])], some (31, true)⟩,
          ⟨some 34, .pick, [.t 31, .t 33, .c (.bool false)], none⟩,
          ⟨some 27, .move, [.t 34], none⟩]) <|
      .cond (.t 27) (.ops [⟨some 35, .move, [.t 0], none⟩,
          ⟨some 36, .load (some 5), [.t 3], none⟩,
          ⟨some 37, .callF 62, [.t 35, .t 36], none⟩])
        (.seq (.ops [⟨some 39, .fieldAddr 2, [.t 3], none⟩,
            ⟨some 40, .load none, [.t 39], none⟩,
            ⟨some 41, .bin .eql, [.t 40, .c (.str [58, 43])], none⟩,
            ⟨some 38, .move, [.t 41], none⟩]) <|
        .cond (.t 38) (.seq (.ops [⟨some 42, .fieldAddr 4, [.t 3], none⟩,
              ⟨some 43, .load none, [.t 42], none⟩]) <|
          .cond (.t 43) (.ops [⟨some 44, .move, [.t 0], none⟩,
              ⟨some 45, .build [.str [], .bool false, .bool false, .bool false] [(1, 1)], [.c (.bool true)], none⟩,
              ⟨some 46, .callF 40, [.t 44, .t 45], none⟩])
            (.skip))
          (.seq (.ops [⟨some 48, .fieldAddr 2, [.t 3], none⟩,
              ⟨some 49, .load none, [.t 48], none⟩,
              ⟨some 50, .bin .eql, [.t 49, .c (.str [])], none⟩,
              ⟨some 51, .move, [.t 50], none⟩,
              ⟨some 52, .move, [.t 5], some (51, false)⟩,
              ⟨some 53, .move, [.t 52], some (51, false)⟩,
              ⟨some 54, .move, [.t 4], some (53, true)⟩,
              ⟨some 55, .bin .neq, [.t 54, .c (.str [])], some (53, true)⟩,
              ⟨some 56, .pick, [.t 53, .t 55, .c (.bool false)], some (51, false)⟩,
              ⟨some 57, .pick, [.t 51, .c (.bool true), .t 56], none⟩,
              ⟨some 47, .move, [.t 57], none⟩]) <|
          .cond (.t 47) (.ops [⟨some 58, .move, [.t 0], none⟩,
              ⟨some 59, .load (some 5), [.t 3], none⟩,
              ⟨some 60, .callF 63, [.t 58, .t 59], none⟩])
            (.seq (.ops [⟨some 62, .fieldAddr 2, [.t 3], none⟩,
                ⟨some 63, .load none, [.t 62], none⟩,
                ⟨some 64, .bin .eql, [.t 63, .c (.str [58, 61])], none⟩,
                ⟨some 61, .move, [.t 64], none⟩]) <|
            .cond (.t 61) (.ops [⟨some 65, .move, [.t 0], none⟩,
                ⟨some 66, .load (some 5), [.t 3], none⟩,
                ⟨some 67, .callF 64, [.t 65, .t 66], none⟩])
              (.ops [⟨some 13, .move, [.t 0], none⟩,
                ⟨some 14, .load (some 5), [.t 3], none⟩,
                ⟨some 15, .callF 62, [.t 13, .t 14], none⟩]))))))
def D41 : DFun := ⟨2, 68, C41, [], true, true, false⟩
/-- a run -/
def runA (s : List UInt8) (q sp br : Bool) : AV := .agg [.str s, .bool q, .bool sp, .bool br]
/-- the maker of runs, and what lies beside it -/
def Mk (b : Nat) (o : Nat → Option HO) (id : Nat) (e1 e2 e3 st : AV) (hp : PT HO) (c : Nat) (tl : AV) (m : Nat) (runs : List AV) : Prop :=
  cellsAt hp id = some [tl, e1, e2, e3, st, .int .i64 0, .int .i64 m] ∧ Sl hp c (some 4) tl runs ∧ id < c ∧ b ≤ c ∧ (∀ off n, tl ≠ .arr id off n (some 4)) ∧
  (∀ j, j < b → j ≠ id → hp.get j = o j ∧ ∀ off n, tl ≠ .arr j off n (some 4)) ∧ (tl ≠ .nils → runs ≠ [])
theorem Mk.set {b : Nat} {o : Nat → Option HO} {id : Nat} {e1 e2 e3 st : AV} {hp : PT HO} {c : Nat} {tl : AV} {m : Nat} {runs : List AV} {i c' : Nat} {x : HO} (h : Mk b o id e1 e2 e3 st hp c tl m runs) (hi : c ≤ i) (hc : c ≤ c') :
    Mk b o id e1 e2 e3 st (hp.set i x) c' tl m runs := by
  obtain ⟨h1, h2, h3, h4, h5, h6, h7⟩ := h
  refine ⟨?_, (h2.other (h2.fresh hi)).up hc, by omega, by omega, h5, fun j hj hji => ⟨?_, (h6 j hj hji).2⟩, h7⟩
  · rw [← h1]; unfold cellsAt; rw [PT.get_set_ne _ _ (by omega)]
  · rw [PT.get_set_ne _ _ (by omega)]; exact (h6 j hj hji).1
section
variable {g : G} {b : Nat} {o : Nat → Option HO} {id : Nat} {e1 e2 e3 st : AV} {hp : PT HO} {c : Nat} {tl : AV} {m : Nat} {runs : List AV}
theorem run_ok (f40 : g.fun_ 40 = some (.inl D40)) (hM : Mk b o id e1 e2 e3 st hp c tl m runs) (s : List UInt8) (q sp br : Bool) (h1 : s.length ≤ 4000) (h2 : m + s.length ≤ 16000) (h3 : runs.length ≤ 100000) :
    ∃ tl' hp' c', callRes (ev g) 40 [.ptr id 0, .agg [.str s, .bool q, .bool sp, .bool br]] hp c = some (.tup [], hp', c') ∧ Mk b o id e1 e2 e3 st hp' c' tl' (m + s.length) (runs ++ [runA s q sp br]) := by
  obtain ⟨k1, k2, k3, k4, k5, k6, k7⟩ := hM
  obtain ⟨tl', hp', c', r1, r2, r3, r4, r5, r6⟩ := run40 g hp c id tl e1 e2 e3 st (.int .i64 0) m runs s q sp br k1 k2 k3 k5 h1 h2 h3 k2.plain
  refine ⟨tl', hp', c', callRes_some _ _ _ (ev_call f40 r1), r2, r3, by omega, by omega, r5, fun j hj hji => ?_, fun _ => by simp⟩
  obtain ⟨a1, a2⟩ := r6 j (by omega) hji (k6 j hj hji).2
  exact ⟨a1.trans (k6 j hj hji).1, a2⟩
theorem text_ok (f40 : g.fun_ 40 = some (.inl D40)) (f44 : g.fun_ 44 = some (.inl D44)) (hM : Mk b o id e1 e2 e3 st hp c tl m runs) (s : List UInt8) (q : Bool) (h1 : s.length ≤ 4000) (h2 : m + s.length ≤ 16000) (h3 : runs.length ≤ 100000) :
    ∃ tl' hp' c', callRes (ev g) 44 [.ptr id 0, .str s, .bool q] hp c = some (.tup [], hp', c') ∧ Mk b o id e1 e2 e3 st hp' c' tl' (m + s.length) (runs ++ [runA s q (!q) false]) := by
  obtain ⟨tl', hp', c', r1, r2⟩ := run_ok f40 hM s q (!q) false h1 h2 h3
  refine ⟨tl', hp', c', callRes_some _ _ _ (ev_call f44 ?_), r2⟩
  have hfz : freezes 100000 false true hp [.ptr id 0, .str s, .bool q] = some ([.ptr id 0, .str s, .bool q], hp) := rfl
  rw [x_enter, show D44.freezeArg = true from rfl, cond_true, hfz, obind_some]
  rw [show D44.body = C44 from rfl, show D44.ntmps = 13 from rfl]
  unfold C44
  simp only [x_seq, x_seqK, x_seqR, x_seqE, x_cond, x_condT, x_condF, x_block, x_blockN, x_blockR, x_blockE, x_ops, x_skip, x_ret, x_exit, x_nil, x_cons, x_guard, x_guard_t, x_guard_tf, x_guard_ft, x_guard_u, x_putK, x_putK0, TL_get, x_opv, x_opvc, x_opvs0, x_opvs, vcons_some, obind_some, lput_zero, lput_succ, lcons_some, List.getElem?_cons_succ, List.getElem?_cons_zero, d_move, d_pick, d_extract, d_range, d_append, d_next, d_buildSlice, d_nilCheck, d_alloc, d_box, d_load, d_store, d_bin, d_not, d_lenS, d_lenN, d_lenL, d_lenA, d_fieldAddr, d_fieldAddr', d_field, d_call, load_p1, load_pn, load_r1, load_rn, store_p, putC, takeN_zero, takeN_succ, dropN_zero, dropN_succ, splice_zero, splice_succ, over_nil, over_cons, aggOf_some, nth, c_agg, c_bool, c_int, c_str, c_ptr, c_rop, c_nilp, c_nils, c_sl, c_arr, c_fn, c_nilf, c_iface, c_nili, p_bool, p_int, p_str, p_ptr, p_rop, p_nilp, p_nils, p_sl, p_arr, p_fn, p_nilf, p_iface, p_nili, plains_nil, plains_cons, List.length_cons, List.length_nil, natbeq, eq_self, bin_int, bin_str, binI_add, binI_sub, binI_eql, binI_neq, binI_lss, binI_gtr, binI_leq, binI_geq, binS_eql, binS_neq, if_true, if_false, reduceIte, Nat.reduceEqDiff, Nat.reduceAdd, Nat.zero_add, Nat.add_zero, Bool.and_self, Bool.and_true, Bool.true_and, Bool.not_true, Bool.not_false, cond_true, cond_false, x_loopN, x_loopE, x_loopR, decide_true, decide_false, x_retR, x_retN, List.nil_append, List.cons_append, List.replicate, Nat.reduceSub, d_build, buildR, zip3, fill, r1, finish, D44, resVals, one]
  rfl
/-- constants of this word -/
def nm : List UInt8 := [120]
theorem value_ok (f59 : g.fun_ 59 = some (.inl D59)) (hM : Mk b o id e1 e2 e3 st hp c tl m runs) {v : List UInt8} (he : plains [e1, e2, e3] = true)
    (h77 : ∀ hp c, callRes (ev g) 77 [.str [120]] hp c = some (.bool true, hp, c)) (h78 : ∀ hp c, callRes (ev g) 78 [.agg [e1, e2, e3], .str [120]] hp c = some (.tup [.str v, .bool true], hp, c)) :
    callRes (ev g) 59 [.ptr id 0, .str [120]] hp c = some (.tup [.str v, .bool true], hp, c) := by
  have hfz : freezes 100000 false true hp [.ptr id 0, .str [120]] = some ([.ptr id 0, .str [120]], hp) := rfl
  have q1 : (([120] : List UInt8) == [35]) = false := rfl
  have q2 : (([120] : List UInt8) == [63]) = false := rfl
  have q3 : (([120] : List UInt8) == [64]) = false := rfl
  refine callRes_some _ _ _ (ev_call f59 ?_)
  rw [x_enter, show D59.freezeArg = true from rfl, cond_true, hfz, obind_some]
  rw [show D59.body = C59 from rfl, show D59.ntmps = 63 from rfl]
  unfold C59
  simp only [x_seq, x_seqK, x_seqR, x_seqE, x_cond, x_condT, x_condF, x_block, x_blockN, x_blockR, x_blockE, x_ops, x_skip, x_ret, x_exit, x_nil, x_cons, x_guard, x_guard_t, x_guard_tf, x_guard_ft, x_guard_u, x_putK, x_putK0, TL_get, x_opv, x_opvc, x_opvs0, x_opvs, vcons_some, obind_some, lput_zero, lput_succ, lcons_some, List.getElem?_cons_succ, List.getElem?_cons_zero, d_move, d_pick, d_extract, d_range, d_append, d_next, d_buildSlice, d_nilCheck, d_alloc, d_box, d_load, d_store, d_bin, d_not, d_lenS, d_lenN, d_lenL, d_lenA, d_fieldAddr, d_fieldAddr', d_field, d_call, load_p1, load_pn, load_r1, load_rn, store_p, putC, takeN_zero, takeN_succ, dropN_zero, dropN_succ, splice_zero, splice_succ, over_nil, over_cons, aggOf_some, nth, c_agg, c_bool, c_int, c_str, c_ptr, c_rop, c_nilp, c_nils, c_sl, c_arr, c_fn, c_nilf, c_iface, c_nili, p_bool, p_int, p_str, p_ptr, p_rop, p_nilp, p_nils, p_sl, p_arr, p_fn, p_nilf, p_iface, p_nili, plains_nil, plains_cons, List.length_cons, List.length_nil, natbeq, eq_self, bin_int, bin_str, binI_add, binI_sub, binI_eql, binI_neq, binI_lss, binI_gtr, binI_leq, binI_geq, binS_eql, binS_neq, if_true, if_false, reduceIte, Nat.reduceEqDiff, Nat.reduceAdd, Nat.zero_add, Nat.add_zero, Bool.and_self, Bool.and_true, Bool.true_and, Bool.not_true, Bool.not_false, cond_true, cond_false, x_loopN, x_loopE, x_loopR, decide_true, decide_false, x_retR, x_retN, List.nil_append, List.cons_append, List.replicate, Nat.reduceSub, q1, q2, q3, hM.1, he, h77, h78, finish, D59, resVals, one]
  rfl
theorem plain_ok (f40 : g.fun_ 40 = some (.inl D40)) (f44 : g.fun_ 44 = some (.inl D44)) (f59 : g.fun_ 59 = some (.inl D59)) (f63 : g.fun_ 63 = some (.inl D63)) (hM : Mk b o id e1 e2 e3 st hp c tl m runs) {v : List UInt8} (he : plains [e1, e2, e3] = true)
    (h77 : ∀ hp c, callRes (ev g) 77 [.str [120]] hp c = some (.bool true, hp, c)) (h78 : ∀ hp c, callRes (ev g) 78 [.agg [e1, e2, e3], .str [120]] hp c = some (.tup [.str v, .bool true], hp, c))
    {op : List UInt8} {wd : AV} {q : Bool} (hw : plain1 wd = true) (hwf : ∀ hp, freezes 100000 false true hp [.ptr id 0, .agg [.int .i64 2, .str [120], .str op, wd, .bool q]] = some ([.ptr id 0, .agg [.int .i64 2, .str [120], .str op, wd, .bool q]], hp))
    (h1 : v.length ≤ 4000) (h2 : m + v.length ≤ 16000) (h3 : runs.length ≤ 100000) :
    ∃ tl' hp' c', callRes (ev g) 63 [.ptr id 0, .agg [.int .i64 2, .str [120], .str op, wd, .bool q]] hp c = some (.tup [], hp', c') ∧ Mk b o id e1 e2 e3 st hp' c' tl' (m + v.length) (runs ++ [runA v q (!q) false]) := by
  have hM1 := hM.set (i := c) (c' := c + 1) (x := .cells [.int .i64 2, .str [120], .str op, wd, .bool q]) (Nat.le_refl _) (by omega)
  have hval := value_ok f59 hM1 he h77 h78
  obtain ⟨tl', hp', c', r1, r2⟩ := text_ok f40 f44 hM1 v q h1 h2 h3
  refine ⟨tl', hp', c', callRes_some _ _ _ (ev_call f63 ?_), r2⟩
  have q3 : (([120] : List UInt8) == [64]) = false := rfl
  rw [x_enter, show D63.freezeArg = true from rfl, cond_true, hwf hp, obind_some]
  rw [show D63.body = C63 from rfl, show D63.ntmps = 45 from rfl]
  unfold C63
  simp only [x_seq, x_seqK, x_seqR, x_seqE, x_cond, x_condT, x_condF, x_block, x_blockN, x_blockR, x_blockE, x_ops, x_skip, x_ret, x_exit, x_nil, x_cons, x_guard, x_guard_t, x_guard_tf, x_guard_ft, x_guard_u, x_putK, x_putK0, TL_get, x_opv, x_opvc, x_opvs0, x_opvs, vcons_some, obind_some, lput_zero, lput_succ, lcons_some, List.getElem?_cons_succ, List.getElem?_cons_zero, d_move, d_pick, d_extract, d_range, d_append, d_next, d_buildSlice, d_nilCheck, d_alloc, d_box, d_load, d_store, d_bin, d_not, d_lenS, d_lenN, d_lenL, d_lenA, d_fieldAddr, d_fieldAddr', d_field, d_call, load_p1, load_pn, load_r1, load_rn, store_p, putC, takeN_zero, takeN_succ, dropN_zero, dropN_succ, splice_zero, splice_succ, over_nil, over_cons, aggOf_some, nth, c_agg, c_bool, c_int, c_str, c_ptr, c_rop, c_nilp, c_nils, c_sl, c_arr, c_fn, c_nilf, c_iface, c_nili, p_bool, p_int, p_str, p_ptr, p_rop, p_nilp, p_nils, p_sl, p_arr, p_fn, p_nilf, p_iface, p_nili, plains_nil, plains_cons, List.length_cons, List.length_nil, natbeq, eq_self, bin_int, bin_str, binI_add, binI_sub, binI_eql, binI_neq, binI_lss, binI_gtr, binI_leq, binI_geq, binS_eql, binS_neq, if_true, if_false, reduceIte, Nat.reduceEqDiff, Nat.reduceAdd, Nat.zero_add, Nat.add_zero, Bool.and_self, Bool.and_true, Bool.true_and, Bool.not_true, Bool.not_false, cond_true, cond_false, x_loopN, x_loopE, x_loopR, decide_true, decide_false, x_retR, x_retN, List.nil_append, List.cons_append, List.replicate, Nat.reduceSub, AV.cells, cellsAt_set, q3, hval, r1, d_extract, finish, D63, resVals, one]
  rfl
theorem param_ok (f40 : g.fun_ 40 = some (.inl D40)) (f44 : g.fun_ 44 = some (.inl D44)) (f59 : g.fun_ 59 = some (.inl D59)) (f63 : g.fun_ 63 = some (.inl D63)) (f41 : g.fun_ 41 = some (.inl D41)) (hM : Mk b o id e1 e2 e3 st hp c tl m runs) {v : List UInt8} (he : plains [e1, e2, e3] = true)
    (h77 : ∀ hp c, callRes (ev g) 77 [.str [120]] hp c = some (.bool true, hp, c)) (h78 : ∀ hp c, callRes (ev g) 78 [.agg [e1, e2, e3], .str [120]] hp c = some (.tup [.str v, .bool true], hp, c))
    {op : List UInt8} {wd : AV} {q : Bool} (hw : plain1 wd = true) (hwf : ∀ hp, freezes 100000 false true hp [.ptr id 0, .agg [.int .i64 2, .str [120], .str op, wd, .bool q]] = some ([.ptr id 0, .agg [.int .i64 2, .str [120], .str op, wd, .bool q]], hp))
    (hop : op = [] ∨ (op = [58, 61] ∧ v ≠ [])) (h1 : v.length ≤ 4000) (h2 : m + v.length ≤ 16000) (h3 : runs.length ≤ 100000) :
    ∃ tl' hp' c', callRes (ev g) 41 [.ptr id 0, .agg [.int .i64 2, .str [120], .str op, wd, .bool q]] hp c = some (.tup [], hp', c') ∧ Mk b o id e1 e2 e3 st hp' c' tl' (m + v.length) (runs ++ [runA v q (!q) false]) := by
  have hM1 := hM.set (i := c) (c' := c + 1) (x := .cells [.int .i64 2, .str [120], .str op, wd, .bool q]) (Nat.le_refl _) (by omega)
  have hval := value_ok f59 hM1 he h77 h78
  obtain ⟨tl', hp', c', r1, r2⟩ := plain_ok f40 f44 f59 f63 hM1 he h77 h78 hw hwf h1 h2 h3
  refine ⟨tl', hp', c', callRes_some _ _ _ (ev_call f41 ?_), r2⟩
  have hpl : plains [.int .i64 2, .str [120], .str op, wd, .bool q] = true := by simp only [plains_cons, plains_nil, p_int, p_str, p_bool, hw, Bool.and_self]
  rw [x_enter, show D41.freezeArg = true from rfl, cond_true, hwf hp, obind_some]
  rw [show D41.body = C41 from rfl, show D41.ntmps = 68 from rfl]
  unfold C41
  rcases hop with rfl | ⟨rfl, hv⟩
  · have q1 : (([] : List UInt8) == [35]) = false := rfl
    have q2 : (([] : List UInt8) == [58, 43]) = false := rfl
    have q3 : (([] : List UInt8) == []) = true := rfl
    simp only [x_seq, x_seqK, x_seqR, x_seqE, x_cond, x_condT, x_condF, x_block, x_blockN, x_blockR, x_blockE, x_ops, x_skip, x_ret, x_exit, x_nil, x_cons, x_guard, x_guard_t, x_guard_tf, x_guard_ft, x_guard_u, x_putK, x_putK0, TL_get, x_opv, x_opvc, x_opvs0, x_opvs, vcons_some, obind_some, lput_zero, lput_succ, lcons_some, List.getElem?_cons_succ, List.getElem?_cons_zero, d_move, d_pick, d_extract, d_range, d_append, d_next, d_buildSlice, d_nilCheck, d_alloc, d_box, d_load, d_store, d_bin, d_not, d_lenS, d_lenN, d_lenL, d_lenA, d_fieldAddr, d_fieldAddr', d_field, d_call, load_p1, load_pn, load_r1, load_rn, store_p, putC, takeN_zero, takeN_succ, dropN_zero, dropN_succ, splice_zero, splice_succ, over_nil, over_cons, aggOf_some, nth, c_agg, c_bool, c_int, c_str, c_ptr, c_rop, c_nilp, c_nils, c_sl, c_arr, c_fn, c_nilf, c_iface, c_nili, p_bool, p_int, p_str, p_ptr, p_rop, p_nilp, p_nils, p_sl, p_arr, p_fn, p_nilf, p_iface, p_nili, plains_nil, plains_cons, List.length_cons, List.length_nil, natbeq, eq_self, bin_int, bin_str, binI_add, binI_sub, binI_eql, binI_neq, binI_lss, binI_gtr, binI_leq, binI_geq, binS_eql, binS_neq, if_true, if_false, reduceIte, Nat.reduceEqDiff, Nat.reduceAdd, Nat.zero_add, Nat.add_zero, Bool.and_self, Bool.and_true, Bool.true_and, Bool.not_true, Bool.not_false, cond_true, cond_false, x_loopN, x_loopE, x_loopR, decide_true, decide_false, x_retR, x_retN, List.nil_append, List.cons_append, List.replicate, Nat.reduceSub, AV.cells, cellsAt_set, q1, q2, q3, hval, r1, hpl, hw, d_extract, finish, D41, resVals, one]
    rfl
  · have q1 : (([58, 61] : List UInt8) == [35]) = false := rfl
    have q2 : (([58, 61] : List UInt8) == [58, 43]) = false := rfl
    have q3 : (([58, 61] : List UInt8) == []) = false := rfl
    have q4 : (v == []) = false := by cases v <;> first | exact absurd rfl hv | rfl
    simp only [x_seq, x_seqK, x_seqR, x_seqE, x_cond, x_condT, x_condF, x_block, x_blockN, x_blockR, x_blockE, x_ops, x_skip, x_ret, x_exit, x_nil, x_cons, x_guard, x_guard_t, x_guard_tf, x_guard_ft, x_guard_u, x_putK, x_putK0, TL_get, x_opv, x_opvc, x_opvs0, x_opvs, vcons_some, obind_some, lput_zero, lput_succ, lcons_some, List.getElem?_cons_succ, List.getElem?_cons_zero, d_move, d_pick, d_extract, d_range, d_append, d_next, d_buildSlice, d_nilCheck, d_alloc, d_box, d_load, d_store, d_bin, d_not, d_lenS, d_lenN, d_lenL, d_lenA, d_fieldAddr, d_fieldAddr', d_field, d_call, load_p1, load_pn, load_r1, load_rn, store_p, putC, takeN_zero, takeN_succ, dropN_zero, dropN_succ, splice_zero, splice_succ, over_nil, over_cons, aggOf_some, nth, c_agg, c_bool, c_int, c_str, c_ptr, c_rop, c_nilp, c_nils, c_sl, c_arr, c_fn, c_nilf, c_iface, c_nili, p_bool, p_int, p_str, p_ptr, p_rop, p_nilp, p_nils, p_sl, p_arr, p_fn, p_nilf, p_iface, p_nili, plains_nil, plains_cons, List.length_cons, List.length_nil, natbeq, eq_self, bin_int, bin_str, binI_add, binI_sub, binI_eql, binI_neq, binI_lss, binI_gtr, binI_leq, binI_geq, binS_eql, binS_neq, if_true, if_false, reduceIte, Nat.reduceEqDiff, Nat.reduceAdd, Nat.zero_add, Nat.add_zero, Bool.and_self, Bool.and_true, Bool.true_and, Bool.not_true, Bool.not_false, cond_true, cond_false, x_loopN, x_loopE, x_loopR, decide_true, decide_false, x_retR, x_retN, List.nil_append, List.cons_append, List.replicate, Nat.reduceSub, AV.cells, cellsAt_set, q1, q2, q3, q4, hval, r1, hpl, hw, d_extract, finish, D41, resVals, one]
    rfl
end
end W
set_option linter.unusedSimpArgs false
set_option linter.unusedVariables false
namespace W
open Go Det
def L25x0 : DCode := .seq (.ops [⟨some 11, .bin .lss, [.t 10, .t 9], none⟩]) <|
  .seq (.cond (.t 11) (.skip)
      (.exit 0)) <|
  .seq (.block 1 (.seq (.ops [⟨some 12, .indexAddr (some 5), [.t 8, .t 10], none⟩,
          ⟨some 13, .load (some 5), [.t 12], none⟩,
          ⟨some 5, .alloc [.int .i64 0, .str [], .str [], .nils, .bool false], [], none⟩,
          ⟨none, .store 5, [.t 5, .t 13], none⟩]) <|
      .seq (.seq (.ops [⟨some 14, .move, [.t 0], none⟩,
            ⟨some 15, .nilCheck, [.t 14], none⟩,
            ⟨some 16, .fieldAddr 5, [.t 15], none⟩,
            ⟨some 17, .load none, [.t 16], none⟩,
            ⟨some 18, .bin .neq, [.t 17, .c (.int .i64 0)], none⟩]) <|
        .cond (.t 18) (.ret)
          (.skip)) <|
      .seq (.ops [⟨some 19, .fieldAddr 0, [.t 5], none⟩,
          ⟨some 20, .load none, [.t 19], none⟩]) <|
      .block 2 (.seq (.ops [⟨some 22, .bin .eql, [.t 20, .c (.int .i64 1)], none⟩,
            ⟨some 21, .move, [.t 22], none⟩]) <|
        .cond (.t 21) (.ops [⟨some 23, .move, [.t 0], none⟩,
            ⟨some 24, .fieldAddr 1, [.t 5], none⟩,
            ⟨some 25, .load none, [.t 24], none⟩,
            ⟨some 26, .fieldAddr 4, [.t 5], none⟩,
            ⟨some 27, .load none, [.t 26], none⟩,
            ⟨some 28, .build [.str [], .bool false, .bool false, .bool false] [(0, 1), (1, 1)], [.t 25, .t 27], none⟩,
            ⟨some 29, .callF 40, [.t 23, .t 28], none⟩])
          (.seq (.ops [⟨some 31, .bin .eql, [.t 20, .c (.int .i64 2)], none⟩,
              ⟨some 30, .move, [.t 31], none⟩]) <|
          .cond (.t 30) (.ops [⟨some 32, .move, [.t 0], none⟩,
              ⟨some 33, .load (some 5), [.t 5], none⟩,
              ⟨some 34, .callF 41, [.t 32, .t 33], none⟩])
            (.seq (.ops [⟨some 36, .bin .eql, [.t 20, .c (.int .i64 3)], none⟩,
                ⟨some 35, .move, [.t 36], none⟩]) <|
            .cond (.t 35) (.seq (.draw [⟨some 38, .fieldAddr 1, [.t 5], none⟩,
                  ⟨some 39, .load none, [.t 38], none⟩,
                  ⟨some 40, .move, [.t 0], none⟩,
                  ⟨some 41, .nilCheck, [.t 40], none⟩,
                  ⟨some 42, .fieldAddr 1, [.t 41], none⟩,
                  ⟨some 43, .fieldAddr 0, [.t 42], none⟩,
                  ⟨some 44, .load none, [.t 43], none⟩,
                  ⟨some 45, .callF 42, [.t 39, .t 44], none⟩,
                  ⟨some 37, .move, [.t 45], none⟩,
                  ⟨some 46, .extract 0, [.t 37], none⟩,
                  ⟨some 47, .extract 1, [.t 37], none⟩,
                  ⟨some 6, .move, [.t 46], none⟩,
                  ⟨some 7, .move, [.t 47], none⟩] [] [] []) <|
              .seq (.seq (.ops [⟨some 48, .move, [.t 7], none⟩,
                    ⟨some 49, .bin .neq, [.t 48, .c (.int .i64 0)], none⟩]) <|
                .cond (.t 49) (.ops [⟨some 50, .move, [.t 0], none⟩,
                    ⟨some 51, .move, [.t 7], none⟩,
                    ⟨some 52, .callF 43, [.t 50, .t 51], none⟩])
                  (.skip)) <|
              .draw [⟨some 53, .move, [.t 0], none⟩,
                ⟨some 54, .move, [.t 6], none⟩,
                ⟨some 55, .callF 45, [.t 54, .c (.int .i64 10)], none⟩,
                ⟨some 56, .fieldAddr 4, [.t 5], none⟩,
                ⟨some 57, .load none, [.t 56], none⟩,
                ⟨some 58, .callF 44, [.t 53, .t 55, .t 57], none⟩] [(4, 2)] [] [])
              (.skip)))))) <|
  .ops [⟨some 59, .bin .add, [.t 10, .c (.int .i64 1)], none⟩,
    ⟨some 10, .move, [.t 59], none⟩]
def C25 : DCode := .seq (.ops [⟨some 8, .move, [.t 1], none⟩,
      ⟨some 9, .len false, [.t 8], none⟩,
      ⟨some 10, .move, [.c (.int .i64 0)], none⟩]) <|
  .block 0 (.loop L25x0)
def D25 : DFun := ⟨2, 60, C25, [], true, true, false⟩
def C17 : DCode := .seq (.ops [⟨some 3, .box, [.t 0], none⟩,
      ⟨some 4, .box, [.t 1], none⟩,
      ⟨some 6, .move, [.c (.nils)], none⟩,
      ⟨some 7, .alloc [.nils, .nils, .nils], [], none⟩,
      ⟨some 8, .move, [.c (.int .i64 0)], none⟩]) <|
  .seq (.ops [⟨some 10, .load (some 3), [.t 4], none⟩,
      ⟨some 11, .move, [.t 2], none⟩,
      ⟨some 12, .build [.nils, .nils, .nils, .nils, .int .i64 0, .int .i64 0, .int .i64 0] [(1, 3), (4, 1)], [.t 10, .t 11], none⟩,
      ⟨some 13, .box, [.t 12], none⟩,
      ⟨some 9, .move, [.t 13], none⟩]) <|
  .seq (.ops [⟨some 14, .move, [.t 9], none⟩,
      ⟨some 15, .fieldAddr 0, [.t 3], none⟩,
      ⟨some 16, .load none, [.t 15], none⟩,
      ⟨some 17, .callF 25, [.t 14, .t 16], none⟩]) <|
  .seq (.seq (.ops [⟨some 18, .move, [.t 9], none⟩,
        ⟨some 19, .nilCheck, [.t 18], none⟩,
        ⟨some 20, .fieldAddr 5, [.t 19], none⟩,
        ⟨some 21, .load none, [.t 20], none⟩,
        ⟨some 22, .bin .neq, [.t 21, .c (.int .i64 0)], none⟩]) <|
    .cond (.t 22) (.seq (.draw [⟨some 23, .load (some 3), [.t 4], none⟩,
          ⟨some 24, .move, [.t 9], none⟩,
          ⟨some 25, .nilCheck, [.t 24], none⟩,
          ⟨some 26, .fieldAddr 5, [.t 25], none⟩,
          ⟨some 27, .load none, [.t 26], none⟩,
          ⟨some 6, .move, [.c (.nils)], none⟩,
          ⟨none, .store 3, [.t 7, .t 23], none⟩,
          ⟨some 8, .move, [.t 27], none⟩] [(4, 6)] [] []) <|
      .ret)
      (.skip)) <|
  .seq (.draw [⟨some 28, .move, [.t 9], none⟩,
      ⟨some 29, .nilCheck, [.t 28], none⟩,
      ⟨some 30, .fieldAddr 0, [.t 29], none⟩,
      ⟨some 31, .load none, [.t 30], none⟩,
      ⟨some 32, .move, [.t 9], none⟩,
      ⟨some 33, .nilCheck, [.t 32], none⟩,
      ⟨some 34, .fieldAddr 1, [.t 33], none⟩,
      ⟨some 35, .load (some 3), [.t 34], none⟩,
      ⟨some 6, .move, [.t 31], none⟩,
      ⟨none, .store 3, [.t 7, .t 35], none⟩,
      ⟨some 8, .move, [.c (.int .i64 0)], none⟩] [] [] []) <|
  .ret
def D17 : DFun := ⟨3, 36, C17, [(6, none), (7, some (some 3)), (8, none)], true, true, false⟩
def partA (op : List UInt8) (wd : AV) (q : Bool) : AV := .agg [.int .i64 2, .str [120], .str op, wd, .bool q]
section
variable {g : G} {b : Nat} {o : Nat → Option HO} {id : Nat} {e1 e2 e3 st : AV} {hp : PT HO} {c : Nat} {tl : AV} {m : Nat} {runs : List AV}
theorem parts_ok (f40 : g.fun_ 40 = some (.inl D40)) (f44 : g.fun_ 44 = some (.inl D44)) (f59 : g.fun_ 59 = some (.inl D59)) (f63 : g.fun_ 63 = some (.inl D63)) (f41 : g.fun_ 41 = some (.inl D41)) (f25 : g.fun_ 25 = some (.inl D25))
    (hM : Mk b o id e1 e2 e3 st hp c tl m runs) {v : List UInt8} (he : plains [e1, e2, e3] = true)
    (h77 : ∀ hp c, callRes (ev g) 77 [.str [120]] hp c = some (.bool true, hp, c)) (h78 : ∀ hp c, callRes (ev g) 78 [.agg [e1, e2, e3], .str [120]] hp c = some (.tup [.str v, .bool true], hp, c))
    {op op' : List UInt8} {wd wd' : AV} {q q' : Bool} (hw : plain1 wd = true) (hwf : ∀ hp, freezes 100000 false true hp [.ptr id 0, .agg [.int .i64 2, .str [120], .str op, wd, .bool q]] = some ([.ptr id 0, .agg [.int .i64 2, .str [120], .str op, wd, .bool q]], hp))
    (hw' : plain1 wd' = true) (hwf' : ∀ hp, freezes 100000 false true hp [.ptr id 0, .agg [.int .i64 2, .str [120], .str op', wd', .bool q']] = some ([.ptr id 0, .agg [.int .i64 2, .str [120], .str op', wd', .bool q']], hp))
    (hop : op = [] ∨ (op = [58, 61] ∧ v ≠ [])) (hop' : op' = [] ∨ (op' = [58, 61] ∧ v ≠ [])) (h1 : v.length ≤ 4000) (h2 : m + v.length + v.length ≤ 16000) (h3 : runs.length + 1 ≤ 100000) :
    ∃ tl' hp' c', callRes (ev g) 25 [.ptr id 0, .sl [.agg [.int .i64 2, .str [120], .str op, wd, .bool q], .agg [.int .i64 2, .str [120], .str op', wd', .bool q']] false] hp c = some (.tup [], hp', c') ∧
      Mk b o id e1 e2 e3 st hp' c' tl' (m + v.length + v.length) (runs ++ [runA v q (!q) false] ++ [runA v q' (!q') false]) := by
  have hM1 := (hM.set (i := c) (c' := c) (x := .cells [.int .i64 0, .str [], .str [], .nils, .bool false]) (Nat.le_refl _) (Nat.le_refl _)).set (i := c) (c' := c + 1) (x := .cells [.int .i64 2, .str [120], .str op, wd, .bool q]) (Nat.le_refl _) (by omega)
  obtain ⟨tl1, hp1, c1, r1, r2⟩ := param_ok f40 f44 f59 f63 f41 hM1 he h77 h78 hw hwf hop h1 (by omega) (by omega)
  have hM2 := (r2.set (i := c1) (c' := c1) (x := .cells [.int .i64 0, .str [], .str [], .nils, .bool false]) (Nat.le_refl _) (Nat.le_refl _)).set (i := c1) (c' := c1 + 1) (x := .cells [.int .i64 2, .str [120], .str op', wd', .bool q']) (Nat.le_refl _) (by omega)
  obtain ⟨tl2, hp2, c2, r3, r4⟩ := param_ok f40 f44 f59 f63 f41 hM2 he h77 h78 hw' hwf' hop' h1 (by omega) (by simp; omega)
  refine ⟨tl2, hp2, c2, callRes_some _ _ _ (ev_call f25 ?_), r4⟩
  have hpl : plains [.int .i64 2, .str [120], .str op, wd, .bool q] = true := by simp only [plains_cons, plains_nil, p_int, p_str, p_bool, hw, Bool.and_self]
  have hpl' : plains [.int .i64 2, .str [120], .str op', wd', .bool q'] = true := by simp only [plains_cons, plains_nil, p_int, p_str, p_bool, hw', Bool.and_self]
  have hidc : ¬ id = c := by have := hM.2.2.1; omega
  have hidc1 : ¬ id = c1 := by have := r2.2.2.1; omega
  have hx : ∀ hp c kk, doOp (ev g) (.indexAddr (some 5)) [.sl [.agg [.int .i64 2, .str [120], .str op, wd, .bool q], .agg [.int .i64 2, .str [120], .str op', wd', .bool q']] false, .int kk 0] hp c = some (.rop [.int .i64 2, .str [120], .str op, wd, .bool q] 0, hp, c) :=
    fun hp c kk => idx_sl (n := 0) (x := .agg [.int .i64 2, .str [120], .str op, wd, .bool q]) (by intro y hy; simp at hy; rcases hy with rfl | rfl <;> rfl) rfl
  have hx' : ∀ hp c kk, doOp (ev g) (.indexAddr (some 5)) [.sl [.agg [.int .i64 2, .str [120], .str op, wd, .bool q], .agg [.int .i64 2, .str [120], .str op', wd', .bool q']] false, .int kk 1] hp c = some (.rop [.int .i64 2, .str [120], .str op', wd', .bool q'] 0, hp, c) :=
    fun hp c kk => idx_sl (n := 1) (x := .agg [.int .i64 2, .str [120], .str op', wd', .bool q']) (by intro y hy; simp at hy; rcases hy with rfl | rfl <;> rfl) rfl
  have hfz : freezes 100000 false true hp [.ptr id 0, .sl [.agg [.int .i64 2, .str [120], .str op, wd, .bool q], .agg [.int .i64 2, .str [120], .str op', wd', .bool q']] false] = some ([.ptr id 0, .sl [.agg [.int .i64 2, .str [120], .str op, wd, .bool q], .agg [.int .i64 2, .str [120], .str op', wd', .bool q']] false], hp) := rfl
  have w1 : IntKind.i64.wrap (0 + 1) = 1 := rfl
  have w2 : IntKind.i64.wrap (1 + 1) = 2 := rfl
  have l0 : decide ((0 : Int) < 2) = true := rfl
  have l1 : decide ((1 : Int) < 2) = true := rfl
  have l2 : decide ((2 : Int) < 2) = false := rfl
  have hlen : ∀ hp c, doOp (ev g) (.len false) [.sl [.agg [.int .i64 2, .str [120], .str op, wd, .bool q], .agg [.int .i64 2, .str [120], .str op', wd', .bool q']] false] hp c = some (.int .i64 2, hp, c) := fun _ _ => rfl
  have q1 : ((2 : Int) == 1) = false := rfl
  have q2 : ((2 : Int) == 2) = true := rfl
  have q3 : ((0 : Int) == 0) = true := rfl
  rw [x_enter, show D25.freezeArg = true from rfl, cond_true, hfz, obind_some]
  rw [show D25.body = C25 from rfl, show D25.ntmps = 60 from rfl]
  unfold C25
  have hl : ∃ tm', codeRun (ev g) (.loop L25x0) (TL ([.ptr id 0, .sl [.agg [.int .i64 2, .str [120], .str op, wd, .bool q], .agg [.int .i64 2, .str [120], .str op', wd', .bool q']] false, .tup [], .tup [], .tup [], .tup [], .tup [], .tup [], .sl [.agg [.int .i64 2, .str [120], .str op, wd, .bool q], .agg [.int .i64 2, .str [120], .str op', wd', .bool q']] false, .int .i64 2, .int .i64 0] ++ List.replicate 49 (.tup []))) hp c = some (.x (.exit 0) (TL tm') hp2 c2) := by
    apply Exists.intro
    rw [x_loop]
    conv => lhs; unfold L25x0
    simp only [x_seq, x_seqK, x_seqR, x_seqE, x_cond, x_condT, x_condF, x_block, x_blockN, x_blockR, x_blockE, x_ops, x_skip, x_ret, x_exit, x_nil, x_cons, x_guard, x_guard_t, x_guard_tf, x_guard_ft, x_guard_u, x_putK, x_putK0, TL_get, x_opv, x_opvc, x_opvs0, x_opvs, vcons_some, obind_some, lput_zero, lput_succ, lcons_some, List.getElem?_cons_succ, List.getElem?_cons_zero, d_move, d_pick, d_extract, d_range, d_append, d_next, d_buildSlice, d_nilCheck, d_alloc, d_box, d_load, d_store, d_bin, d_not, d_lenS, d_lenN, d_lenL, d_lenA, d_fieldAddr, d_fieldAddr', d_field, d_call, load_p1, load_pn, load_r1, load_rn, store_p, putC, takeN_zero, takeN_succ, dropN_zero, dropN_succ, splice_zero, splice_succ, over_nil, over_cons, aggOf_some, nth, c_agg, c_bool, c_int, c_str, c_ptr, c_rop, c_nilp, c_nils, c_sl, c_arr, c_fn, c_nilf, c_iface, c_nili, p_bool, p_int, p_str, p_ptr, p_rop, p_nilp, p_nils, p_sl, p_arr, p_fn, p_nilf, p_iface, p_nili, plains_nil, plains_cons, List.length_cons, List.length_nil, natbeq, eq_self, bin_int, bin_str, binI_add, binI_sub, binI_eql, binI_neq, binI_lss, binI_gtr, binI_leq, binI_geq, binS_eql, binS_neq, if_true, if_false, reduceIte, Nat.reduceEqDiff, Nat.reduceAdd, Nat.zero_add, Nat.add_zero, Bool.and_self, Bool.and_true, Bool.true_and, Bool.not_true, Bool.not_false, cond_true, cond_false, x_loopN, x_loopE, x_loopR, decide_true, decide_false, x_retR, x_retN, List.nil_append, List.cons_append, List.replicate, Nat.reduceSub, hx, AV.cells, cellsAt_set, hidc, hM.1, hpl, l0, q1, q2, q3, r1, w1]
    refine loop_ev ?_
    rw [x_loop]
    simp only [x_seq, x_seqK, x_seqR, x_seqE, x_cond, x_condT, x_condF, x_block, x_blockN, x_blockR, x_blockE, x_ops, x_skip, x_ret, x_exit, x_nil, x_cons, x_guard, x_guard_t, x_guard_tf, x_guard_ft, x_guard_u, x_putK, x_putK0, TL_get, x_opv, x_opvc, x_opvs0, x_opvs, vcons_some, obind_some, lput_zero, lput_succ, lcons_some, List.getElem?_cons_succ, List.getElem?_cons_zero, d_move, d_pick, d_extract, d_range, d_append, d_next, d_buildSlice, d_nilCheck, d_alloc, d_box, d_load, d_store, d_bin, d_not, d_lenS, d_lenN, d_lenL, d_lenA, d_fieldAddr, d_fieldAddr', d_field, d_call, load_p1, load_pn, load_r1, load_rn, store_p, putC, takeN_zero, takeN_succ, dropN_zero, dropN_succ, splice_zero, splice_succ, over_nil, over_cons, aggOf_some, nth, c_agg, c_bool, c_int, c_str, c_ptr, c_rop, c_nilp, c_nils, c_sl, c_arr, c_fn, c_nilf, c_iface, c_nili, p_bool, p_int, p_str, p_ptr, p_rop, p_nilp, p_nils, p_sl, p_arr, p_fn, p_nilf, p_iface, p_nili, plains_nil, plains_cons, List.length_cons, List.length_nil, natbeq, eq_self, bin_int, bin_str, binI_add, binI_sub, binI_eql, binI_neq, binI_lss, binI_gtr, binI_leq, binI_geq, binS_eql, binS_neq, if_true, if_false, reduceIte, Nat.reduceEqDiff, Nat.reduceAdd, Nat.zero_add, Nat.add_zero, Bool.and_self, Bool.and_true, Bool.true_and, Bool.not_true, Bool.not_false, cond_true, cond_false, x_loopN, x_loopE, x_loopR, decide_true, decide_false, x_retR, x_retN, List.nil_append, List.cons_append, List.replicate, Nat.reduceSub, hx', AV.cells, cellsAt_set, hidc1, r2.1, hpl', l1, q1, q2, q3, r3, w2]
    refine loop_ev ?_
    rw [x_loop]
    simp only [x_seq, x_seqK, x_seqR, x_seqE, x_cond, x_condT, x_condF, x_block, x_blockN, x_blockR, x_blockE, x_ops, x_skip, x_ret, x_exit, x_nil, x_cons, x_guard, x_guard_t, x_guard_tf, x_guard_ft, x_guard_u, x_putK, x_putK0, TL_get, x_opv, x_opvc, x_opvs0, x_opvs, vcons_some, obind_some, lput_zero, lput_succ, lcons_some, List.getElem?_cons_succ, List.getElem?_cons_zero, d_move, d_pick, d_extract, d_range, d_append, d_next, d_buildSlice, d_nilCheck, d_alloc, d_box, d_load, d_store, d_bin, d_not, d_lenS, d_lenN, d_lenL, d_lenA, d_fieldAddr, d_fieldAddr', d_field, d_call, load_p1, load_pn, load_r1, load_rn, store_p, putC, takeN_zero, takeN_succ, dropN_zero, dropN_succ, splice_zero, splice_succ, over_nil, over_cons, aggOf_some, nth, c_agg, c_bool, c_int, c_str, c_ptr, c_rop, c_nilp, c_nils, c_sl, c_arr, c_fn, c_nilf, c_iface, c_nili, p_bool, p_int, p_str, p_ptr, p_rop, p_nilp, p_nils, p_sl, p_arr, p_fn, p_nilf, p_iface, p_nili, plains_nil, plains_cons, List.length_cons, List.length_nil, natbeq, eq_self, bin_int, bin_str, binI_add, binI_sub, binI_eql, binI_neq, binI_lss, binI_gtr, binI_leq, binI_geq, binS_eql, binS_neq, if_true, if_false, reduceIte, Nat.reduceEqDiff, Nat.reduceAdd, Nat.zero_add, Nat.add_zero, Bool.and_self, Bool.and_true, Bool.true_and, Bool.not_true, Bool.not_false, cond_true, cond_false, x_loopN, x_loopE, x_loopR, decide_true, decide_false, x_retR, x_retN, List.nil_append, List.cons_append, List.replicate, Nat.reduceSub, l2]
    rfl
  obtain ⟨tm', hl⟩ := hl
  simp only [List.replicate, List.cons_append, List.nil_append] at hl
  simp only [x_seq, x_seqK, x_seqR, x_seqE, x_cond, x_condT, x_condF, x_block, x_blockN, x_blockR, x_blockE, x_ops, x_skip, x_ret, x_exit, x_nil, x_cons, x_guard, x_guard_t, x_guard_tf, x_guard_ft, x_guard_u, x_putK, x_putK0, TL_get, x_opv, x_opvc, x_opvs0, x_opvs, vcons_some, obind_some, lput_zero, lput_succ, lcons_some, List.getElem?_cons_succ, List.getElem?_cons_zero, d_move, d_pick, d_extract, d_range, d_append, d_next, d_buildSlice, d_nilCheck, d_alloc, d_box, d_load, d_store, d_bin, d_not, d_lenS, d_lenN, d_lenL, d_lenA, d_fieldAddr, d_fieldAddr', d_field, d_call, load_p1, load_pn, load_r1, load_rn, store_p, putC, takeN_zero, takeN_succ, dropN_zero, dropN_succ, splice_zero, splice_succ, over_nil, over_cons, aggOf_some, nth, c_agg, c_bool, c_int, c_str, c_ptr, c_rop, c_nilp, c_nils, c_sl, c_arr, c_fn, c_nilf, c_iface, c_nili, p_bool, p_int, p_str, p_ptr, p_rop, p_nilp, p_nils, p_sl, p_arr, p_fn, p_nilf, p_iface, p_nili, plains_nil, plains_cons, List.length_cons, List.length_nil, natbeq, eq_self, bin_int, bin_str, binI_add, binI_sub, binI_eql, binI_neq, binI_lss, binI_gtr, binI_leq, binI_geq, binS_eql, binS_neq, if_true, if_false, reduceIte, Nat.reduceEqDiff, Nat.reduceAdd, Nat.zero_add, Nat.add_zero, Bool.and_self, Bool.and_true, Bool.true_and, Bool.not_true, Bool.not_false, cond_true, cond_false, x_loopN, x_loopE, x_loopR, decide_true, decide_false, x_retR, x_retN, List.nil_append, List.cons_append, List.replicate, Nat.reduceSub, hlen, hl, finish, D25, resVals, one]
  rfl
end
end W
set_option linter.unusedSimpArgs false
set_option linter.unusedVariables false
namespace W
open Go Det
theorem runA_flat (v : List UInt8) (q sp br q' sp' br' : Bool) : flat [runA v q sp br, runA v q' sp' br'] = [.str v, .bool q, .bool sp, .bool br, .str v, .bool q', .bool sp', .bool br'] := rfl
section
variable {g : G} {e1 e2 e3 : AV}
theorem runs_ok (f40 : g.fun_ 40 = some (.inl D40)) (f44 : g.fun_ 44 = some (.inl D44)) (f59 : g.fun_ 59 = some (.inl D59)) (f63 : g.fun_ 63 = some (.inl D63)) (f41 : g.fun_ 41 = some (.inl D41)) (f25 : g.fun_ 25 = some (.inl D25)) (f17 : g.fun_ 17 = some (.inl D17))
    {v : List UInt8} (he : plains [e1, e2, e3] = true) (hs1 : stab e1 = true) (hs2 : stab e2 = true) (hs3 : stab e3 = true)
    (h77 : ∀ hp c, callRes (ev g) 77 [.str [120]] hp c = some (.bool true, hp, c)) (h78 : ∀ hp c, callRes (ev g) 78 [.agg [e1, e2, e3], .str [120]] hp c = some (.tup [.str v, .bool true], hp, c))
    {op op' : List UInt8} {wd wd' : AV} {q q' : Bool} (hw : plain1 wd = true) (hwf : ∀ hp id, freezes 100000 false true hp [.ptr id 0, .agg [.int .i64 2, .str [120], .str op, wd, .bool q]] = some ([.ptr id 0, .agg [.int .i64 2, .str [120], .str op, wd, .bool q]], hp))
    (hw' : plain1 wd' = true) (hwf' : ∀ hp id, freezes 100000 false true hp [.ptr id 0, .agg [.int .i64 2, .str [120], .str op', wd', .bool q']] = some ([.ptr id 0, .agg [.int .i64 2, .str [120], .str op', wd', .bool q']], hp))
    (hop : op = [] ∨ (op = [58, 61] ∧ v ≠ [])) (hop' : op' = [] ∨ (op' = [58, 61] ∧ v ≠ [])) (h1 : v.length ≤ 4000) :
    ∃ hp' c', enter (ev g) D17 [.agg [.sl [.agg [.int .i64 2, .str [120], .str op, wd, .bool q], .agg [.int .i64 2, .str [120], .str op', wd', .bool q']] false], .agg [e1, e2, e3], .int .i64 0] .nil 0 =
        some (.v (.tup [.sl [runA v q (!q) false, runA v q' (!q') false] false, .agg [e1, e2, e3], .int .i64 0]) hp' c') := by
  let hp : PT HO := .nil
  let c : Nat := 0
  let H0 : PT HO := (((hp.set c (.cells [.sl [.agg [.int .i64 2, .str [120], .str op, wd, .bool q], .agg [.int .i64 2, .str [120], .str op', wd', .bool q']] false])).set (c + 1) (.cells [e1, e2, e3])).set (c + 1 + 1) (.cells [.nils, .nils, .nils])).set (c + 1 + 1 + 1) (.cells [.nils, e1, e2, e3, .int .i64 0, .int .i64 0, .int .i64 0])
  have hM : Mk (c + 1 + 1 + 1) H0.get (c + 1 + 1 + 1) e1 e2 e3 (.int .i64 0) H0 (c + 1 + 1 + 1 + 1) .nils 0 [] := by
    refine ⟨?_, .inl ⟨rfl, rfl⟩, by simp only [c]; omega, by simp only [c]; omega, by simp, fun j _ _ => ⟨rfl, by simp⟩, fun h => absurd rfl h⟩
    simp only [H0, cellsAt_set, if_true]; rfl
  obtain ⟨tl, hp1, c1, r1, k1, k2, k3, k4, k5, k6, k7⟩ := parts_ok f40 f44 f59 f63 f41 f25 hM he h77 h78 hw (fun hp => hwf hp _) hw' (fun hp => hwf' hp _) hop hop' h1 (by omega) (by simp)
  have ho2 : cellsAt hp1 (c + 1 + 1) = some [.nils, .nils, .nils] := by
    rw [cellsAt_get (k6 (c + 1 + 1) (by simp only [c]; omega) (by simp only [c]; omega)).1]
    simp [H0, cellsAt_set, c]
  have hs : Sl (hp1.set (c + 1 + 1) (.cells [e1, e2, e3])) c1 (some 4) tl ([] ++ [runA v q (!q) false] ++ [runA v q' (!q') false]) := k2.other (k6 _ (by simp only [c]; omega) (by simp only [c]; omega)).2
  have hfl : flat ([] ++ [runA v q (!q) false] ++ [runA v q' (!q') false]) = [.str v, .bool q, .bool (!q), .bool false, .str v, .bool q', .bool (!q'), .bool false] := rfl
  obtain ⟨hp2, hz⟩ := hs.finD 99997 (fun x hx => List.all_eq_true.1 (show ((flat ([] ++ [runA v q (!q) false] ++ [runA v q' (!q') false])).all stab) = true from rfl) x hx) (by rw [hfl]; simp) (fun h => by simp)
  have hfin := fz_env hz hs1 hs2 hs3 (y := .int .i64 0) rfl
  refine ⟨hp2, c1, ?_⟩
  have hfz : freezes 100000 false true .nil [.agg [.sl [.agg [.int .i64 2, .str [120], .str op, wd, .bool q], .agg [.int .i64 2, .str [120], .str op', wd', .bool q']] false], .agg [e1, e2, e3], .int .i64 0] = some ([.agg [.sl [.agg [.int .i64 2, .str [120], .str op, wd, .bool q], .agg [.int .i64 2, .str [120], .str op', wd', .bool q']] false], .agg [e1, e2, e3], .int .i64 0], .nil) := by
    simp only [freezes, Det.freeze, freeze_stab hs1, freeze_stab hs2, freeze_stab hs3]; rfl
  have n6 : ¬ (3 : Nat) = 2 := by omega
  have q3 : ((0 : Int) == 0) = true := rfl
  rw [x_enter, show D17.freezeArg = true from rfl, cond_true, hfz, obind_some]
  rw [show D17.body = C17 from rfl, show D17.ntmps = 36 from rfl]
  unfold C17
  simp only [H0, hp, c, Nat.zero_add, Nat.reduceAdd] at r1 k1 ho2 hfin
  simp only [x_seq, x_seqK, x_seqR, x_seqE, x_cond, x_condT, x_condF, x_block, x_blockN, x_blockR, x_blockE, x_ops, x_skip, x_ret, x_exit, x_nil, x_cons, x_guard, x_guard_t, x_guard_tf, x_guard_ft, x_guard_u, x_putK, x_putK0, TL_get, x_opv, x_opvc, x_opvs0, x_opvs, vcons_some, obind_some, lput_zero, lput_succ, lcons_some, List.getElem?_cons_succ, List.getElem?_cons_zero, d_move, d_pick, d_extract, d_range, d_append, d_next, d_buildSlice, d_nilCheck, d_alloc, d_box, d_load, d_store, d_bin, d_not, d_lenS, d_lenN, d_lenL, d_lenA, d_fieldAddr, d_fieldAddr', d_field, d_call, load_p1, load_pn, load_r1, load_rn, store_p, putC, takeN_zero, takeN_succ, dropN_zero, dropN_succ, splice_zero, splice_succ, over_nil, over_cons, aggOf_some, nth, c_agg, c_bool, c_int, c_str, c_ptr, c_rop, c_nilp, c_nils, c_sl, c_arr, c_fn, c_nilf, c_iface, c_nili, p_bool, p_int, p_str, p_ptr, p_rop, p_nilp, p_nils, p_sl, p_arr, p_fn, p_nilf, p_iface, p_nili, plains_nil, plains_cons, List.length_cons, List.length_nil, natbeq, eq_self, bin_int, bin_str, binI_add, binI_sub, binI_eql, binI_neq, binI_lss, binI_gtr, binI_leq, binI_geq, binS_eql, binS_neq, if_true, if_false, reduceIte, Nat.reduceEqDiff, Nat.reduceAdd, Nat.zero_add, Nat.add_zero, Bool.and_self, Bool.and_true, Bool.true_and, Bool.not_true, Bool.not_false, cond_true, cond_false, x_loopN, x_loopE, x_loopR, decide_true, decide_false, x_retR, x_retN, List.nil_append, List.cons_append, List.replicate, Nat.reduceSub, AV.cells, cellsAt_set, n6, he, d_build, buildR, zip3, fill, r1, k1, ho2, q3, x_draw, noPre, isPre, finish, D17, resVals, one, hfin]
  rfl
end
end W
set_option linter.unusedSimpArgs false
set_option linter.unusedVariables false
namespace W
open Go Det
/-- split.Join of two runs -/
theorem join_ok (g : G) (f26 : g.fun_ 26 = some (.inr (pureF F26))) (s s' : List UInt8) (q sp q' sp' : Bool) (h : s.length ≤ 4000) (h' : s'.length ≤ 4000) :
    ∃ hp c, enter (ev g) D18 [.sl [.agg [.str s, .bool q, .bool sp, .bool false], .agg [.str s', .bool q', .bool sp', .bool false]] false] .nil 0 = some (.v (ofL ((runes s).map (cA q) ++ (runes s').map (cA q'))) hp c) := by
  have hl1 := runes_len s
  have hl2 := runes_len s'
  obtain ⟨k1, k2, k3, k4⟩ := cA_flat (q := q) (l := runes s)
  obtain ⟨j1, j2, j3, j4⟩ := cA_flat (q := q') (l := runes s')
  have hcall := fun hp c => call_pure (hp := hp) (c := c) f26 (F26_eq (s := s) (q := q) (by omega)) rfl
  have hcall' := fun hp c => call_pure (hp := hp) (c := c) f26 (F26_eq (s := s') (q := q') (by omega)) rfl
  let hp0 : PT HO := ((PT.nil : PT HO).set 0 (.cells [.str [], .bool false, .bool false, .bool false])).set 0 (.cells [.str s, .bool q, .bool sp, .bool false])
  obtain ⟨v1, hp1, c1, a1, a2, a3, a4, a5, a6⟩ := Sl.appendO (hp := hp0) (c := 1) (k := some 2) (v := .nils) (xs := []) (ys := (runes s).map (cA q)) (.inl ⟨rfl, rfl⟩) (by simp [ksz]) cA_shp k2 (by simp; omega)
  have a7 := a5 (fun h => absurd rfl h)
  have hs2 : Sl ((hp1.set c1 (.cells [.str [], .bool false, .bool false, .bool false])).set c1 (.cells [.str s', .bool q', .bool sp', .bool false])) (c1 + 1) (some 2) v1 ([] ++ (runes s).map (cA q)) :=
    ((a3.other (a3.fresh (Nat.le_refl _))).other (a3.fresh (Nat.le_refl _))).up (by omega)
  obtain ⟨v2, hp2, c2, b1, b2, b3, b4, b5, b6⟩ := hs2.appendO (ys := (runes s').map (cA q')) (by simp [ksz]) cA_shp j2 (by simp; omega)
  have b7 := b5 a7
  obtain ⟨hp3, hz⟩ := b3.fin (fun x hx => by
      rw [List.nil_append, flat_app] at hx
      rcases List.mem_append.1 hx with hx | hx
      · exact k1 x hx
      · exact j1 x hx) (by rw [List.nil_append, flat_app, List.length_append, k3, j3]; omega) b7
  rw [List.nil_append] at hz
  have hx : ∀ hp c kk, doOp (ev g) (.indexAddr (some 4)) [.sl [.agg [.str s, .bool q, .bool sp, .bool false], .agg [.str s', .bool q', .bool sp', .bool false]] false, .int kk 0] hp c = some (.rop [.str s, .bool q, .bool sp, .bool false] 0, hp, c) :=
    fun hp c kk => idx_sl (n := 0) (x := .agg [.str s, .bool q, .bool sp, .bool false]) (by intro y hy; simp at hy; rcases hy with rfl | rfl <;> rfl) rfl
  have hx' : ∀ hp c kk, doOp (ev g) (.indexAddr (some 4)) [.sl [.agg [.str s, .bool q, .bool sp, .bool false], .agg [.str s', .bool q', .bool sp', .bool false]] false, .int kk 1] hp c = some (.rop [.str s', .bool q', .bool sp', .bool false] 0, hp, c) :=
    fun hp c kk => idx_sl (n := 1) (x := .agg [.str s', .bool q', .bool sp', .bool false]) (by intro y hy; simp at hy; rcases hy with rfl | rfl <;> rfl) rfl
  have hfz : freezes 100000 false true .nil [.sl [.agg [.str s, .bool q, .bool sp, .bool false], .agg [.str s', .bool q', .bool sp', .bool false]] false] = some ([.sl [.agg [.str s, .bool q, .bool sp, .bool false], .agg [.str s', .bool q', .bool sp', .bool false]] false], .nil) := rfl
  have w1 : IntKind.i64.wrap (0 + 1) = 1 := rfl
  have w2 : IntKind.i64.wrap (1 + 1) = 2 := rfl
  have l0 : decide ((0 : Int) < 2) = true := rfl
  have l1 : decide ((1 : Int) < 2) = true := rfl
  have l2 : decide ((2 : Int) < 2) = false := rfl
  have hlen : ∀ hp c, doOp (ev g) (.len false) [.sl [.agg [.str s, .bool q, .bool sp, .bool false], .agg [.str s', .bool q', .bool sp', .bool false]] false] hp c = some (.int .i64 2, hp, c) := fun _ _ => rfl
  refine ⟨hp3, c2, ?_⟩
  rw [x_enter, show D18.freezeArg = true from rfl, cond_true, hfz, obind_some]
  rw [show D18.body = C18 from rfl, show D18.ntmps = 27 from rfl]
  unfold C18
  simp only [hp0] at a1
  have hl : ∃ t0 t1 t2 t4 t5 r, codeRun (ev g) (.loop L18x0) (TL ([.sl [.agg [.str s, .bool q, .bool sp, .bool false], .agg [.str s', .bool q', .bool sp', .bool false]] false, .tup [], .nils, .nils, .tup [], .tup [], .sl [.agg [.str s, .bool q, .bool sp, .bool false], .agg [.str s', .bool q', .bool sp', .bool false]] false, .int .i64 2, .int .i64 0] ++ List.replicate 18 (.tup []))) .nil 0 = some (.x (.exit 0) (TL (t0 :: t1 :: t2 :: v2 :: t4 :: t5 :: r)) hp2 c2) ∧ r.length = 21 := by
    refine ⟨?_, ?_, ?_, ?_, ?_, ?_, ?_, ?_⟩
    rotate_left 6
    · rw [x_loop]
      conv => lhs; unfold L18x0
      simp only [x_seq, x_seqK, x_seqR, x_seqE, x_cond, x_condT, x_condF, x_block, x_blockN, x_blockR, x_blockE, x_ops, x_skip, x_ret, x_exit, x_nil, x_cons, x_guard, x_guard_t, x_guard_tf, x_guard_ft, x_guard_u, x_putK, x_putK0, TL_get, x_opv, x_opvc, x_opvs0, x_opvs, vcons_some, obind_some, lput_zero, lput_succ, lcons_some, List.getElem?_cons_succ, List.getElem?_cons_zero, d_move, d_pick, d_extract, d_range, d_append, d_next, d_buildSlice, d_nilCheck, d_alloc, d_box, d_load, d_store, d_bin, d_not, d_lenS, d_lenN, d_lenL, d_lenA, d_fieldAddr, d_fieldAddr', d_field, d_call, load_p1, load_pn, load_r1, load_rn, store_p, putC, takeN_zero, takeN_succ, dropN_zero, dropN_succ, splice_zero, splice_succ, over_nil, over_cons, aggOf_some, nth, c_agg, c_bool, c_int, c_str, c_ptr, c_rop, c_nilp, c_nils, c_sl, c_arr, c_fn, c_nilf, c_iface, c_nili, p_bool, p_int, p_str, p_ptr, p_rop, p_nilp, p_nils, p_sl, p_arr, p_fn, p_nilf, p_iface, p_nili, plains_nil, plains_cons, List.length_cons, List.length_nil, natbeq, eq_self, bin_int, bin_str, binI_add, binI_sub, binI_eql, binI_neq, binI_lss, binI_gtr, binI_leq, binI_geq, binS_eql, binS_neq, if_true, if_false, reduceIte, Nat.reduceEqDiff, Nat.reduceAdd, Nat.zero_add, Nat.add_zero, Bool.and_self, Bool.and_true, Bool.true_and, Bool.not_true, Bool.not_false, cond_true, cond_false, x_loopN, x_loopE, x_loopR, decide_true, decide_false, x_retR, x_retN, List.nil_append, List.cons_append, List.replicate, Nat.reduceSub, hx, AV.cells, cellsAt_set, l0, w1, hcall, a1]
      refine loop_ev ?_
      rw [x_loop]
      simp only [x_seq, x_seqK, x_seqR, x_seqE, x_cond, x_condT, x_condF, x_block, x_blockN, x_blockR, x_blockE, x_ops, x_skip, x_ret, x_exit, x_nil, x_cons, x_guard, x_guard_t, x_guard_tf, x_guard_ft, x_guard_u, x_putK, x_putK0, TL_get, x_opv, x_opvc, x_opvs0, x_opvs, vcons_some, obind_some, lput_zero, lput_succ, lcons_some, List.getElem?_cons_succ, List.getElem?_cons_zero, d_move, d_pick, d_extract, d_range, d_append, d_next, d_buildSlice, d_nilCheck, d_alloc, d_box, d_load, d_store, d_bin, d_not, d_lenS, d_lenN, d_lenL, d_lenA, d_fieldAddr, d_fieldAddr', d_field, d_call, load_p1, load_pn, load_r1, load_rn, store_p, putC, takeN_zero, takeN_succ, dropN_zero, dropN_succ, splice_zero, splice_succ, over_nil, over_cons, aggOf_some, nth, c_agg, c_bool, c_int, c_str, c_ptr, c_rop, c_nilp, c_nils, c_sl, c_arr, c_fn, c_nilf, c_iface, c_nili, p_bool, p_int, p_str, p_ptr, p_rop, p_nilp, p_nils, p_sl, p_arr, p_fn, p_nilf, p_iface, p_nili, plains_nil, plains_cons, List.length_cons, List.length_nil, natbeq, eq_self, bin_int, bin_str, binI_add, binI_sub, binI_eql, binI_neq, binI_lss, binI_gtr, binI_leq, binI_geq, binS_eql, binS_neq, if_true, if_false, reduceIte, Nat.reduceEqDiff, Nat.reduceAdd, Nat.zero_add, Nat.add_zero, Bool.and_self, Bool.and_true, Bool.true_and, Bool.not_true, Bool.not_false, cond_true, cond_false, x_loopN, x_loopE, x_loopR, decide_true, decide_false, x_retR, x_retN, List.nil_append, List.cons_append, List.replicate, Nat.reduceSub, hx', AV.cells, cellsAt_set, l1, w2, hcall', b1]
      refine loop_ev ?_
      rw [x_loop]
      simp only [x_seq, x_seqK, x_seqR, x_seqE, x_cond, x_condT, x_condF, x_block, x_blockN, x_blockR, x_blockE, x_ops, x_skip, x_ret, x_exit, x_nil, x_cons, x_guard, x_guard_t, x_guard_tf, x_guard_ft, x_guard_u, x_putK, x_putK0, TL_get, x_opv, x_opvc, x_opvs0, x_opvs, vcons_some, obind_some, lput_zero, lput_succ, lcons_some, List.getElem?_cons_succ, List.getElem?_cons_zero, d_move, d_pick, d_extract, d_range, d_append, d_next, d_buildSlice, d_nilCheck, d_alloc, d_box, d_load, d_store, d_bin, d_not, d_lenS, d_lenN, d_lenL, d_lenA, d_fieldAddr, d_fieldAddr', d_field, d_call, load_p1, load_pn, load_r1, load_rn, store_p, putC, takeN_zero, takeN_succ, dropN_zero, dropN_succ, splice_zero, splice_succ, over_nil, over_cons, aggOf_some, nth, c_agg, c_bool, c_int, c_str, c_ptr, c_rop, c_nilp, c_nils, c_sl, c_arr, c_fn, c_nilf, c_iface, c_nili, p_bool, p_int, p_str, p_ptr, p_rop, p_nilp, p_nils, p_sl, p_arr, p_fn, p_nilf, p_iface, p_nili, plains_nil, plains_cons, List.length_cons, List.length_nil, natbeq, eq_self, bin_int, bin_str, binI_add, binI_sub, binI_eql, binI_neq, binI_lss, binI_gtr, binI_leq, binI_geq, binS_eql, binS_neq, if_true, if_false, reduceIte, Nat.reduceEqDiff, Nat.reduceAdd, Nat.zero_add, Nat.add_zero, Bool.and_self, Bool.and_true, Bool.true_and, Bool.not_true, Bool.not_false, cond_true, cond_false, x_loopN, x_loopE, x_loopR, decide_true, decide_false, x_retR, x_retN, List.nil_append, List.cons_append, List.replicate, Nat.reduceSub, l2]
      rfl
    · rfl
  obtain ⟨t0, t1, t2, t4, t5, r, hl, hr⟩ := hl
  match r, hr with
  | [r6, r7, r8, r9, r10, r11, r12, r13, r14, r15, r16, r17, r18, r19, r20, r21, r22, r23, r24, r25, r26], _ =>
    simp only [List.replicate, List.cons_append, List.nil_append] at hl
    simp only [x_seq, x_seqK, x_seqR, x_seqE, x_cond, x_condT, x_condF, x_block, x_blockN, x_blockR, x_blockE, x_ops, x_skip, x_ret, x_exit, x_nil, x_cons, x_guard, x_guard_t, x_guard_tf, x_guard_ft, x_guard_u, x_putK, x_putK0, TL_get, x_opv, x_opvc, x_opvs0, x_opvs, vcons_some, obind_some, lput_zero, lput_succ, lcons_some, List.getElem?_cons_succ, List.getElem?_cons_zero, d_move, d_pick, d_extract, d_range, d_append, d_next, d_buildSlice, d_nilCheck, d_alloc, d_box, d_load, d_store, d_bin, d_not, d_lenS, d_lenN, d_lenL, d_lenA, d_fieldAddr, d_fieldAddr', d_field, d_call, load_p1, load_pn, load_r1, load_rn, store_p, putC, takeN_zero, takeN_succ, dropN_zero, dropN_succ, splice_zero, splice_succ, over_nil, over_cons, aggOf_some, nth, c_agg, c_bool, c_int, c_str, c_ptr, c_rop, c_nilp, c_nils, c_sl, c_arr, c_fn, c_nilf, c_iface, c_nili, p_bool, p_int, p_str, p_ptr, p_rop, p_nilp, p_nils, p_sl, p_arr, p_fn, p_nilf, p_iface, p_nili, plains_nil, plains_cons, List.length_cons, List.length_nil, natbeq, eq_self, bin_int, bin_str, binI_add, binI_sub, binI_eql, binI_neq, binI_lss, binI_gtr, binI_leq, binI_geq, binS_eql, binS_neq, if_true, if_false, reduceIte, Nat.reduceEqDiff, Nat.reduceAdd, Nat.zero_add, Nat.add_zero, Bool.and_self, Bool.and_true, Bool.true_and, Bool.not_true, Bool.not_false, cond_true, cond_false, x_loopN, x_loopE, x_loopR, decide_true, decide_false, x_retR, x_retN, List.nil_append, List.cons_append, List.replicate, Nat.reduceSub, hlen, hl, finish, D18, resVals, one, hz]
end W
set_option linter.unusedSimpArgs false
set_option linter.unusedVariables false
namespace W
open Go Det
/-- a letter of a pattern -/
def cP (x : Int × Bool) : AV := .agg [.int .i32 x.1, .bool x.2]
def rP (x : Int × Bool) : AV := .int .i32 x.1
theorem cP_shp {l : List (Int × Bool)} : ∀ x, x ∈ l.map cP → shp x = some 2 := by
  intro x hx; obtain ⟨r, _, rfl⟩ := List.mem_map.1 hx; rfl
theorem rP_shp {l : List (Int × Bool)} : ∀ x, x ∈ l.map rP → shp x = none := by
  intro x hx; obtain ⟨r, _, rfl⟩ := List.mem_map.1 hx; rfl
def encP : List (Int × Bool) → List UInt8
  | [] => []
  | x :: l => (Utf8.encode x.1).data.toList ++ encP l
theorem encP_runes : ∀ (l : List (Int × Bool)), runesOf (l.map rP) = some (encP l)
  | [] => rfl
  | x :: l => by simp only [List.map_cons, runesOf, encP, encP_runes l, show rP x = .int .i32 x.1 from rfl]
theorem text_loop (g : G) (L : List (Int × Bool)) (v0 v1 v2 v4 v18 v19 : AV) (hn : L.length ≤ 100000) : ∀ (k i : Nat) (acc : List AV) (t3 v5 v9 v10 v11 v12 v13 v14 v15 v16 v17 : AV) (hp : PT HO) (c : Nat), i + k = L.length →
    Sl hp c none t3 acc → acc.length ≤ i →
    ∃ t3' v5' v9' v10' v11' v12' v13' v14' v15' v16' v17' hp' c', codeRun (ev g) (.loop L12x0) (TL [v0, v1, v2, t3, v4, v5, ofL (L.map cP), .int .i64 L.length, .int .i64 i, v9, v10, v11, v12, v13, v14, v15, v16, v17, v18, v19]) hp c =
        some (.x (.exit 0) (TL [v0, v1, v2, t3', v4, v5', ofL (L.map cP), .int .i64 L.length, .int .i64 L.length, v9', v10', v11', v12', v13', v14', v15', v16', v17', v18, v19]) hp' c') ∧
      Sl hp' c' none t3' (acc ++ (L.drop i).map rP) := by
  intro k
  induction k with
  | zero =>
    intro i acc t3 v5 v9 v10 v11 v12 v13 v14 v15 v16 v17 hp c hi hsl hac
    have hi' : i = L.length := by omega
    subst hi'
    rw [List.drop_length, List.map_nil, List.append_nil]
    refine ⟨t3, v5, .bool false, v10, v11, v12, v13, v14, v15, v16, v17, hp, c, ?_, hsl⟩
    have d1 : decide ((L.length : Int) < (L.length : Int)) = false := decide_eq_false (by omega)
    rw [x_loop]
    conv => lhs; unfold L12x0
    simp only [x_seq, x_seqK, x_seqR, x_seqE, x_cond, x_condT, x_condF, x_block, x_blockN, x_blockR, x_blockE, x_ops, x_skip, x_ret, x_exit, x_nil, x_cons, x_guard, x_guard_t, x_guard_tf, x_guard_ft, x_guard_u, x_putK, x_putK0, TL_get, x_opv, x_opvc, x_opvs0, x_opvs, vcons_some, obind_some, lput_zero, lput_succ, lcons_some, List.getElem?_cons_succ, List.getElem?_cons_zero, d_move, d_pick, d_extract, d_range, d_append, d_next, d_buildSlice, d_nilCheck, d_alloc, d_box, d_load, d_store, d_bin, d_not, d_lenS, d_lenN, d_lenL, d_lenA, d_fieldAddr, d_fieldAddr', d_field, d_call, load_p1, load_pn, load_r1, load_rn, store_p, putC, takeN_zero, takeN_succ, dropN_zero, dropN_succ, splice_zero, splice_succ, over_nil, over_cons, aggOf_some, nth, c_agg, c_bool, c_int, c_str, c_ptr, c_rop, c_nilp, c_nils, c_sl, c_arr, c_fn, c_nilf, c_iface, c_nili, p_bool, p_int, p_str, p_ptr, p_rop, p_nilp, p_nils, p_sl, p_arr, p_fn, p_nilf, p_iface, p_nili, plains_nil, plains_cons, List.length_cons, List.length_nil, natbeq, eq_self, bin_int, bin_str, binI_add, binI_sub, binI_eql, binI_neq, binI_lss, binI_gtr, binI_leq, binI_geq, binS_eql, binS_neq, if_true, if_false, reduceIte, Nat.reduceEqDiff, Nat.reduceAdd, Nat.zero_add, Nat.add_zero, Bool.and_self, Bool.and_true, Bool.true_and, Bool.not_true, Bool.not_false, cond_true, cond_false, x_loopN, x_loopE, x_loopR, decide_true, decide_false, x_retR, x_retN, List.nil_append, List.cons_append, List.replicate, Nat.reduceSub, d1]
  | succ k ih =>
    intro i acc t3 v5 v9 v10 v11 v12 v13 v14 v15 v16 v17 hp c hi hsl hac
    have hlt : i < L.length := by omega
    have d1 : decide ((i : Int) < (L.length : Int)) = true := decide_eq_true (by omega)
    have hidx := fun hp c => idx_of (ev g) hp c (k := some 2) (xs := L.map cP) (kk := .i64) (n := i) (x := .agg [.int .i32 (L[i]).1, .bool (L[i]).2]) cP_shp (by simp [hlt, cP])
    have hl := fun hp c => lit1 (z := .int .i32 0) (v := .int .i32 (L[i]).1) (hp := hp) (c := c) rfl rfl true
    have hs1 : Sl ((hp.set c (.cells [.int .i32 0, .bool false])).set c (.cells [.int .i32 (L[i]).1, .bool (L[i]).2])) (c + 1) none t3 acc := ((hsl.other (hsl.fresh (Nat.le_refl _))).other (hsl.fresh (Nat.le_refl _))).up (by omega)
    obtain ⟨hp', ha, hb, hc⟩ := hs1.append (ex := true) (ys := [.int .i32 (L[i]).1]) (by simp [ksz]) (by simp [shp]) rfl (by simp) (by simp; omega)
    have w1 : IntKind.i64.wrap ((i : Int) + 1) = ((i + 1 : Nat) : Int) := by rw [show ((i : Int) + 1) = ((i + 1 : Nat) : Int) by omega]; exact wrap_nat _ (by omega)
    obtain ⟨u3, u5, u9, u10, u11, u12, u13, u14, u15, u16, u17, hp2, c2, h1, h2⟩ := ih (i + 1) (acc ++ [.int .i32 (L[i]).1]) (.arr (c + 1) 0 (acc.length + 1) none) (.ptr c 0) (.bool true) (.rop [.int .i32 (L[i]).1, .bool (L[i]).2] 0) (.agg [.int .i32 (L[i]).1, .bool (L[i]).2]) t3 (.ptr c 0) (.int .i32 (L[i]).1) (.sl [.int .i32 (L[i]).1] true) (.arr (c + 1) 0 (acc.length + 1) none) (.int .i64 (i + 1 : Nat)) hp' (c + 1 + 1) (by omega) hb (by simp; omega)
    have e : (L.drop i).map rP = [.int .i32 (L[i]).1] ++ (L.drop (i + 1)).map rP := by
      rw [List.drop_eq_getElem_cons hlt, List.map_cons]; rfl
    rw [List.append_assoc, ← e] at h2
    refine ⟨u3, u5, u9, u10, u11, u12, u13, u14, u15, u16, u17, hp2, c2, ?_, h2⟩
    rw [← loop_ev h1, x_loop]
    conv => lhs; unfold L12x0
    simp only [x_seq, x_seqK, x_seqR, x_seqE, x_cond, x_condT, x_condF, x_block, x_blockN, x_blockR, x_blockE, x_ops, x_skip, x_ret, x_exit, x_nil, x_cons, x_guard, x_guard_t, x_guard_tf, x_guard_ft, x_guard_u, x_putK, x_putK0, TL_get, x_opv, x_opvc, x_opvs0, x_opvs, vcons_some, obind_some, lput_zero, lput_succ, lcons_some, List.getElem?_cons_succ, List.getElem?_cons_zero, d_move, d_pick, d_extract, d_range, d_append, d_next, d_buildSlice, d_nilCheck, d_alloc, d_box, d_load, d_store, d_bin, d_not, d_lenS, d_lenN, d_lenL, d_lenA, d_fieldAddr, d_fieldAddr', d_field, d_call, load_p1, load_pn, load_r1, load_rn, store_p, putC, takeN_zero, takeN_succ, dropN_zero, dropN_succ, splice_zero, splice_succ, over_nil, over_cons, aggOf_some, nth, c_agg, c_bool, c_int, c_str, c_ptr, c_rop, c_nilp, c_nils, c_sl, c_arr, c_fn, c_nilf, c_iface, c_nili, p_bool, p_int, p_str, p_ptr, p_rop, p_nilp, p_nils, p_sl, p_arr, p_fn, p_nilf, p_iface, p_nili, plains_nil, plains_cons, List.length_cons, List.length_nil, natbeq, eq_self, bin_int, bin_str, binI_add, binI_sub, binI_eql, binI_neq, binI_lss, binI_gtr, binI_leq, binI_geq, binS_eql, binS_neq, if_true, if_false, reduceIte, Nat.reduceEqDiff, Nat.reduceAdd, Nat.zero_add, Nat.add_zero, Bool.and_self, Bool.and_true, Bool.true_and, Bool.not_true, Bool.not_false, cond_true, cond_false, x_loopN, x_loopE, x_loopR, decide_true, decide_false, x_retR, x_retN, List.nil_append, List.cons_append, List.replicate, Nat.reduceSub, AV.cells, cellsAt_set, d1, hidx, hl, ha, w1]
    rfl
/-- glob.Text -/
theorem gtext_ok (g : G) (L : List (Int × Bool)) (hn : L.length ≤ 100000) : ∃ hp c, enter (ev g) D12 [ofL (L.map cP)] .nil 0 = some (.v (.str (encP L)) hp c) := by
  obtain ⟨t3, v5, v9, v10, v11, v12, v13, v14, v15, v16, v17, hp1, c1, h1, h2⟩ := text_loop g L (ofL (L.map cP)) (.tup []) (.str []) (.tup []) (.tup []) (.tup []) hn L.length 0 [] .nils (.tup []) (.tup []) (.tup []) (.tup []) (.tup []) (.tup []) (.tup []) (.tup []) (.tup []) (.tup []) .nil 0 (by omega) (.inl ⟨rfl, rfl⟩) (by simp)
  simp only [List.nil_append, List.drop_zero] at h2
  have hfz : freezes 100000 false true .nil [ofL (L.map cP)] = some ([ofL (L.map cP)], .nil) := by cases L <;> rfl
  have hr : doOp (ev g) .runesStr [t3] hp1 c1 = some (.str (encP L), hp1, c1) := by
    have hlen := flat_length (rP_shp (l := L))
    have hel : elemCells none hp1 t3 = some (L.map rP) := by
      rcases h2 with ⟨rfl, h⟩ | ⟨id, rfl, _, hg, hx⟩
      · rw [h]; rfl
      · have hca : cellsAt hp1 id = some (flat (L.map rP)) := by unfold cellsAt; rw [hg]
        have hkk : kEq none none = true := rfl
        have htk : takeN ((L.map rP).length * ksz none) (dropN 0 (flat (L.map rP))) = some (flat (L.map rP)) := by rw [← hlen]; exact takeN_all _
        rw [flat_one _ rP_shp] at hca htk
        simp only [elemCells, hkk, cond_true, hca, htk]
    have hnot : ∀ s, t3 ≠ .str s := by
      intro s e
      rcases h2 with ⟨h, _⟩ | ⟨id, h, _⟩ <;> rw [h] at e <;> cases e
    have e1 : doOp (ev g) .runesStr [t3] hp1 c1 = oRunesStr [t3] hp1 c1 := rfl
    rw [e1]
    have e2 : oRunesStr [t3] hp1 c1 = (match elemCells none hp1 t3 with
      | some cs => (match runesOf cs with | some s => ok (.str s) hp1 c1 | none => none)
      | none => none) := by
      cases t3 <;> first | rfl | exact absurd rfl (hnot _)
    rw [e2, hel]
    simp only [encP_runes, ok]
  refine ⟨hp1, c1, ?_⟩
  rw [x_enter, show D12.freezeArg = true from rfl, cond_true, hfz, obind_some]
  rw [show D12.body = C12 from rfl, show D12.ntmps = 20 from rfl]
  unfold C12
  have e0 : ((0 : Nat) : Int) = 0 := rfl
  rw [e0] at h1
  simp only [x_seq, x_seqK, x_seqR, x_seqE, x_cond, x_condT, x_condF, x_block, x_blockN, x_blockR, x_blockE, x_ops, x_skip, x_ret, x_exit, x_nil, x_cons, x_guard, x_guard_t, x_guard_tf, x_guard_ft, x_guard_u, x_putK, x_putK0, TL_get, x_opv, x_opvc, x_opvs0, x_opvs, vcons_some, obind_some, lput_zero, lput_succ, lcons_some, List.getElem?_cons_succ, List.getElem?_cons_zero, d_move, d_pick, d_extract, d_range, d_append, d_next, d_buildSlice, d_nilCheck, d_alloc, d_box, d_load, d_store, d_bin, d_not, d_lenS, d_lenN, d_lenL, d_lenA, d_fieldAddr, d_fieldAddr', d_field, d_call, load_p1, load_pn, load_r1, load_rn, store_p, putC, takeN_zero, takeN_succ, dropN_zero, dropN_succ, splice_zero, splice_succ, over_nil, over_cons, aggOf_some, nth, c_agg, c_bool, c_int, c_str, c_ptr, c_rop, c_nilp, c_nils, c_sl, c_arr, c_fn, c_nilf, c_iface, c_nili, p_bool, p_int, p_str, p_ptr, p_rop, p_nilp, p_nils, p_sl, p_arr, p_fn, p_nilf, p_iface, p_nili, plains_nil, plains_cons, List.length_cons, List.length_nil, natbeq, eq_self, bin_int, bin_str, binI_add, binI_sub, binI_eql, binI_neq, binI_lss, binI_gtr, binI_leq, binI_geq, binS_eql, binS_neq, if_true, if_false, reduceIte, Nat.reduceEqDiff, Nat.reduceAdd, Nat.zero_add, Nat.add_zero, Bool.and_self, Bool.and_true, Bool.true_and, Bool.not_true, Bool.not_false, cond_true, cond_false, x_loopN, x_loopE, x_loopR, decide_true, decide_false, x_retR, x_retN, List.nil_append, List.cons_append, List.replicate, Nat.reduceSub, d_lenO, List.length_map, h1, hr, finish, D12, resVals, one]
  rfl
end W
set_option linter.unusedSimpArgs false
set_option linter.unusedVariables false
namespace W
open Go Det
def C11 : DCode := .seq (.ops [⟨some 3, .box, [.t 0], none⟩,
      ⟨some 4, .box, [.t 1], none⟩,
      ⟨some 6, .move, [.c (.nils)], none⟩,
      ⟨some 7, .alloc [.nils, .nils, .nils], [], none⟩,
      ⟨some 8, .move, [.c (.int .i64 0)], none⟩]) <|
  .seq (.ops [⟨some 13, .load (some 1), [.t 3], none⟩,
      ⟨some 14, .load (some 3), [.t 4], none⟩,
      ⟨some 15, .move, [.t 2], none⟩,
      ⟨some 16, .callF 17, [.t 13, .t 14, .t 15], none⟩,
      ⟨some 12, .move, [.t 16], none⟩,
      ⟨some 17, .extract 0, [.t 12], none⟩,
      ⟨some 18, .extract 1, [.t 12], none⟩,
      ⟨some 19, .extract 2, [.t 12], none⟩,
      ⟨some 10, .alloc [.nils, .nils, .nils], [], none⟩,
      ⟨some 9, .move, [.t 17], none⟩,
      ⟨none, .store 3, [.t 10, .t 18], none⟩,
      ⟨some 11, .move, [.t 19], none⟩]) <|
  .seq (.seq (.ops [⟨some 20, .move, [.t 11], none⟩,
        ⟨some 21, .bin .neq, [.t 20, .c (.int .i64 0)], none⟩]) <|
    .cond (.t 21) (.seq (.draw [⟨some 22, .load (some 3), [.t 4], none⟩,
          ⟨some 23, .move, [.t 11], none⟩,
          ⟨some 6, .move, [.c (.nils)], none⟩,
          ⟨none, .store 3, [.t 7, .t 22], none⟩,
          ⟨some 8, .move, [.t 23], none⟩] [] [] []) <|
      .ret)
      (.skip)) <|
  .seq (.draw [⟨some 24, .move, [.t 9], none⟩,
      ⟨some 25, .callF 18, [.t 24], none⟩,
      ⟨some 26, .load (some 3), [.t 10], none⟩,
      ⟨some 6, .move, [.t 25], none⟩,
      ⟨none, .store 3, [.t 7, .t 26], none⟩,
      ⟨some 8, .move, [.c (.int .i64 0)], none⟩] [(2, 1)] [] []) <|
  .ret
def D11 : DFun := ⟨3, 27, C11, [(6, none), (7, some (some 3)), (8, none)], true, true, false⟩
def C5 : DCode := .seq (.ops [⟨some 3, .box, [.t 0], none⟩,
      ⟨some 4, .box, [.t 1], none⟩,
      ⟨some 6, .move, [.c (.str [])], none⟩,
      ⟨some 7, .alloc [.nils, .nils, .nils], [], none⟩,
      ⟨some 8, .move, [.c (.int .i64 0)], none⟩]) <|
  .seq (.ops [⟨some 14, .load (some 1), [.t 3], none⟩,
      ⟨some 15, .load (some 3), [.t 4], none⟩,
      ⟨some 16, .move, [.t 2], none⟩,
      ⟨some 17, .callF 11, [.t 14, .t 15, .t 16], none⟩,
      ⟨some 13, .move, [.t 17], none⟩,
      ⟨some 18, .extract 0, [.t 13], none⟩,
      ⟨some 19, .extract 1, [.t 13], none⟩,
      ⟨some 20, .extract 2, [.t 13], none⟩,
      ⟨some 10, .alloc [.nils, .nils, .nils], [], none⟩,
      ⟨some 9, .move, [.t 18], none⟩,
      ⟨none, .store 3, [.t 10, .t 19], none⟩,
      ⟨some 11, .move, [.t 20], none⟩]) <|
  .seq (.ops [⟨some 21, .move, [.t 9], none⟩,
      ⟨some 22, .callF 12, [.t 21], none⟩,
      ⟨some 12, .move, [.t 22], none⟩]) <|
  .seq (.seq (.ops [⟨some 23, .move, [.t 11], none⟩,
        ⟨some 24, .bin .eql, [.t 23, .c (.int .i64 0)], none⟩,
        ⟨some 25, .move, [.t 24], none⟩,
        ⟨some 26, .move, [.t 12], some (25, true)⟩,
        ⟨some 27, .len true, [.t 26], some (25, true)⟩,
        ⟨some 28, .bin .gtr, [.t 27, .c (.int .i64 4000)], some (25, true)⟩,
        ⟨some 29, .pick, [.t 25, .t 28, .c (.bool false)], none⟩]) <|
    .cond (.t 29) (.ops [⟨some 11, .move, [.c (.int .i64 3)], none⟩])
      (.skip)) <|
  .seq (.seq (.ops [⟨some 30, .move, [.t 11], none⟩,
        ⟨some 31, .bin .neq, [.t 30, .c (.int .i64 0)], none⟩]) <|
    .cond (.t 31) (.seq (.draw [⟨some 32, .load (some 3), [.t 4], none⟩,
          ⟨some 33, .move, [.t 11], none⟩,
          ⟨some 6, .move, [.c (.str [])], none⟩,
          ⟨none, .store 3, [.t 7, .t 32], none⟩,
          ⟨some 8, .move, [.t 33], none⟩] [] [] []) <|
      .ret)
      (.skip)) <|
  .seq (.draw [⟨some 34, .move, [.t 12], none⟩,
      ⟨some 35, .load (some 3), [.t 10], none⟩,
      ⟨some 6, .move, [.t 34], none⟩,
      ⟨none, .store 3, [.t 7, .t 35], none⟩,
      ⟨some 8, .move, [.c (.int .i64 0)], none⟩] [] [] []) <|
  .ret
def D5 : DFun := ⟨3, 36, C5, [(6, none), (7, some (some 3)), (8, none)], true, true, false⟩
def L16x0 : DCode := .seq (.seq (.ops [⟨some 11, .move, [.t 5], none⟩,
        ⟨some 12, .move, [.t 0], none⟩,
        ⟨some 13, .len false, [.t 12], none⟩,
        ⟨some 14, .bin .lss, [.t 11, .t 13], none⟩]) <|
    .cond (.t 14) (.skip)
      (.exit 0)) <|
  .seq (.block 1 (.seq (.draw [⟨some 17, .move, [.t 0], none⟩,
          ⟨some 18, .move, [.t 5], none⟩,
          ⟨some 19, .indexAddr (some 2), [.t 17, .t 18], none⟩,
          ⟨some 20, .load (some 2), [.t 19], none⟩,
          ⟨some 21, .move, [.t 1], none⟩,
          ⟨some 22, .move, [.t 5], none⟩,
          ⟨some 23, .indexAddr (some 2), [.t 21, .t 22], none⟩,
          ⟨some 24, .load (some 2), [.t 23], none⟩,
          ⟨some 25, .eq (.struct [(0, none, .str), (1, none, .str)]) true, [.t 20, .t 24], none⟩] [] [] []) <|
      .cond (.t 25) (.seq (.ops [⟨some 4, .move, [.c (.bool false)], none⟩]) <|
        .ret)
        (.skip))) <|
  .ops [⟨some 15, .move, [.t 5], none⟩,
    ⟨some 16, .bin .add, [.t 15, .c (.int .i64 1)], none⟩,
    ⟨some 5, .move, [.t 16], none⟩]
def C16 : DCode := .seq (.ops [⟨some 4, .move, [.c (.bool false)], none⟩]) <|
  .seq (.seq (.ops [⟨some 6, .move, [.t 0], none⟩,
        ⟨some 7, .len false, [.t 6], none⟩,
        ⟨some 8, .move, [.t 1], none⟩,
        ⟨some 9, .len false, [.t 8], none⟩,
        ⟨some 10, .bin .neq, [.t 7, .t 9], none⟩]) <|
    .cond (.t 10) (.seq (.ops [⟨some 4, .move, [.c (.bool false)], none⟩]) <|
      .ret)
      (.skip)) <|
  .seq (.seq (.ops [⟨some 5, .move, [.c (.int .i64 0)], none⟩]) <|
    .block 0 (.loop L16x0)) <|
  .seq (.ops [⟨some 4, .move, [.c (.bool true)], none⟩]) <|
  .ret
def D16 : DFun := ⟨2, 26, C16, [(4, none)], true, true, false⟩
def L9x0 : DCode := .seq (.seq (.ops [⟨some 29, .move, [.t 5], none⟩,
        ⟨some 30, .fieldAddr 2, [.t 2], none⟩,
        ⟨some 31, .load none, [.t 30], none⟩,
        ⟨some 32, .len false, [.t 31], none⟩,
        ⟨some 33, .bin .lss, [.t 29, .t 32], none⟩]) <|
    .cond (.t 33) (.skip)
      (.exit 0)) <|
  .seq (.block 1 (.seq (.draw [⟨some 36, .fieldAddr 2, [.t 2], none⟩,
          ⟨some 37, .load none, [.t 36], none⟩,
          ⟨some 38, .move, [.t 5], none⟩,
          ⟨some 39, .indexAddr (some 2), [.t 37, .t 38], none⟩,
          ⟨some 40, .load (some 2), [.t 39], none⟩,
          ⟨some 41, .fieldAddr 2, [.t 3], none⟩,
          ⟨some 42, .load none, [.t 41], none⟩,
          ⟨some 43, .move, [.t 5], none⟩,
          ⟨some 44, .indexAddr (some 2), [.t 42, .t 43], none⟩,
          ⟨some 45, .load (some 2), [.t 44], none⟩,
          ⟨some 46, .eq (.struct [(0, none, .str), (1, none, .int)]) true, [.t 40, .t 45], none⟩] [] [] []) <|
      .cond (.t 46) (.seq (.ops [⟨some 4, .move, [.c (.bool false)], none⟩]) <|
        .ret)
        (.skip))) <|
  .ops [⟨some 34, .move, [.t 5], none⟩,
    ⟨some 35, .bin .add, [.t 34, .c (.int .i64 1)], none⟩,
    ⟨some 5, .move, [.t 35], none⟩]
def C9 : DCode := .seq (.ops [⟨some 2, .box, [.t 0], none⟩,
      ⟨some 3, .box, [.t 1], none⟩,
      ⟨some 4, .move, [.c (.bool false)], none⟩]) <|
  .seq (.seq (.ops [⟨some 6, .fieldAddr 2, [.t 2], none⟩,
        ⟨some 7, .load none, [.t 6], none⟩,
        ⟨some 8, .len false, [.t 7], none⟩,
        ⟨some 9, .fieldAddr 2, [.t 3], none⟩,
        ⟨some 10, .load none, [.t 9], none⟩,
        ⟨some 11, .len false, [.t 10], none⟩,
        ⟨some 12, .bin .neq, [.t 8, .t 11], none⟩,
        ⟨some 13, .move, [.t 12], none⟩,
        ⟨some 14, .fieldAddr 0, [.t 2], some (13, false)⟩,
        ⟨some 15, .load none, [.t 14], some (13, false)⟩,
        ⟨some 16, .fieldAddr 0, [.t 3], some (13, false)⟩,
        ⟨some 17, .load none, [.t 16], some (13, false)⟩,
        ⟨some 18, .callF 16, [.t 15, .t 17], some (13, false)⟩,
        ⟨some 19, .un .not, [.t 18], some (13, false)⟩,
        ⟨some 20, .pick, [.t 13, .c (.bool true), .t 19], none⟩,
        ⟨some 21, .move, [.t 20], none⟩,
        ⟨some 22, .fieldAddr 1, [.t 2], some (21, false)⟩,
        ⟨some 23, .load none, [.t 22], some (21, false)⟩,
        ⟨some 24, .fieldAddr 1, [.t 3], some (21, false)⟩,
        ⟨some 25, .load none, [.t 24], some (21, false)⟩,
        ⟨some 26, .callF 15, [.t 23, .t 25], some (21, false)⟩,
        ⟨some 27, .un .not, [.t 26], some (21, false)⟩,
        ⟨some 28, .pick, [.t 21, .c (.bool true), .t 27], none⟩]) <|
    .cond (.t 28) (.seq (.ops [⟨some 4, .move, [.c (.bool false)], none⟩]) <|
      .ret)
      (.skip)) <|
  .seq (.seq (.ops [⟨some 5, .move, [.c (.int .i64 0)], none⟩]) <|
    .block 0 (.loop L9x0)) <|
  .seq (.ops [⟨some 4, .move, [.c (.bool true)], none⟩]) <|
  .ret
def D9 : DFun := ⟨2, 47, C9, [(4, none)], true, true, false⟩
def C3 : DCode := .seq (.ops [⟨some 2, .move, [.c (.bool false)], none⟩]) <|
  .seq (.seq (.ops [⟨some 9, .move, [.t 0], none⟩,
        ⟨some 10, .len true, [.t 9], none⟩,
        ⟨some 11, .bin .gtr, [.t 10, .c (.int .i64 100)], none⟩]) <|
    .cond (.t 11) (.seq (.ops [⟨some 2, .move, [.c (.bool true)], none⟩]) <|
      .ret)
      (.skip)) <|
  .seq (.ops [⟨some 12, .build [.nils, .nils, .nils] [], [], none⟩,
      ⟨some 3, .alloc [.nils, .nils, .nils], [], none⟩,
      ⟨none, .store 3, [.t 3, .t 12], none⟩]) <|
  .seq (.seq (.ops [⟨some 13, .move, [.t 0], none⟩,
        ⟨some 14, .bin .neq, [.t 13, .c (.str [])], none⟩]) <|
    .cond (.t 14) (.ops [⟨some 15, .load (some 3), [.t 3], none⟩,
        ⟨some 16, .move, [.t 0], none⟩,
        ⟨some 17, .callF 4, [.t 15, .c (.str [120]), .t 16], none⟩,
        ⟨none, .store 3, [.t 3, .t 17], none⟩])
      (.skip)) <|
  .seq (.draw [⟨some 19, .callF 6, [.c (.str [36, 123, 120, 58, 61, 39, 100, 32, 101, 39, 125, 36, 120])], none⟩,
      ⟨some 20, .load (some 3), [.t 3], none⟩,
      ⟨some 21, .callF 5, [.t 19, .t 20, .c (.int .i64 0)], none⟩,
      ⟨some 18, .move, [.t 21], none⟩,
      ⟨some 22, .extract 0, [.t 18], none⟩,
      ⟨some 23, .extract 1, [.t 18], none⟩,
      ⟨some 24, .extract 2, [.t 18], none⟩,
      ⟨some 5, .pre 0 [.nils, .nils, .nils], [], none⟩,
      ⟨some 4, .move, [.t 22], none⟩,
      ⟨none, .store 3, [.t 5, .t 23], none⟩,
      ⟨some 6, .move, [.t 24], none⟩] [(1, 0)] [] [(7, 2), (7, 0)]) <|
  .seq (.ops [⟨some 26, .load (some 3), [.t 5], none⟩,
      ⟨some 27, .callF 7, [.t 26, .c (.str [120])], none⟩,
      ⟨some 25, .move, [.t 27], none⟩,
      ⟨some 28, .extract 0, [.t 25], none⟩,
      ⟨some 29, .extract 1, [.t 25], none⟩,
      ⟨some 7, .move, [.t 28], none⟩,
      ⟨some 8, .move, [.t 29], none⟩]) <|
  .seq (.seq (.ops [⟨some 30, .move, [.t 0], none⟩,
        ⟨some 31, .bin .eql, [.t 30, .c (.str [])], none⟩]) <|
    .cond (.t 31) (.seq (.ops [⟨some 32, .move, [.t 6], none⟩,
          ⟨some 33, .bin .eql, [.t 32, .c (.int .i64 0)], none⟩,
          ⟨some 34, .move, [.t 33], none⟩,
          ⟨some 35, .move, [.t 4], some (34, true)⟩,
          ⟨some 36, .bin .eql, [.t 35, .c (.str [100, 32, 101, 100, 32, 101])], some (34, true)⟩,
          ⟨some 37, .pick, [.t 34, .t 36, .c (.bool false)], none⟩,
          ⟨some 38, .move, [.t 37], none⟩,
          ⟨some 39, .move, [.t 8], some (38, true)⟩,
          ⟨some 40, .pick, [.t 38, .t 39, .c (.bool false)], none⟩,
          ⟨some 41, .move, [.t 40], none⟩,
          ⟨some 42, .move, [.t 7], some (41, true)⟩,
          ⟨some 43, .bin .eql, [.t 42, .c (.str [100, 32, 101])], some (41, true)⟩,
          ⟨some 44, .pick, [.t 41, .t 43, .c (.bool false)], none⟩,
          ⟨some 45, .move, [.t 44], none⟩,
          ⟨some 46, .callF 8, [], some (45, true)⟩,
          ⟨some 47, .pick, [.t 45, .t 46, .c (.bool false)], none⟩,
          ⟨some 2, .move, [.t 47], none⟩]) <|
      .ret)
      (.skip)) <|
  .seq (.ops [⟨some 48, .move, [.t 6], none⟩,
      ⟨some 49, .bin .eql, [.t 48, .c (.int .i64 0)], none⟩,
      ⟨some 50, .move, [.t 49], none⟩,
      ⟨some 51, .load (some 3), [.t 3], some (50, true)⟩,
      ⟨some 52, .load (some 3), [.t 5], some (50, true)⟩,
      ⟨some 53, .callF 9, [.t 51, .t 52], some (50, true)⟩,
      ⟨some 54, .pick, [.t 50, .t 53, .c (.bool false)], none⟩,
      ⟨some 55, .move, [.t 54], none⟩,
      ⟨some 56, .move, [.t 8], some (55, true)⟩,
      ⟨some 57, .pick, [.t 55, .t 56, .c (.bool false)], none⟩,
      ⟨some 58, .move, [.t 57], none⟩,
      ⟨some 59, .move, [.t 7], some (58, true)⟩,
      ⟨some 60, .move, [.t 0], some (58, true)⟩,
      ⟨some 61, .bin .eql, [.t 59, .t 60], some (58, true)⟩,
      ⟨some 62, .pick, [.t 58, .t 61, .c (.bool false)], none⟩,
      ⟨some 63, .move, [.t 62], none⟩,
      ⟨some 64, .callF 8, [], some (63, true)⟩,
      ⟨some 65, .pick, [.t 63, .t 64, .c (.bool false)], none⟩,
      ⟨some 2, .move, [.t 65], none⟩]) <|
  .ret
def D3 : DFun := ⟨1, 66, C3, [(2, none)], true, true, false⟩
def look1 : List AV → Option (List UInt8)
  | [_, .agg [.sl [.agg [_, .str v]] _, _, _], _] => some v
  | _ => none
def good1 (v : List UInt8) : Bool := !(strEq v []) && Nat.ble v.length 200
theorem good1_inv {v : List UInt8} (h : good1 v = true) : v ≠ [] ∧ v.length ≤ 200 := by
  simp only [good1, Bool.and_eq_true, strEq_iff, Bool.not_eq_true'] at h
  refine ⟨fun e => ?_, Nat.le_of_ble_eq_true h.2⟩
  rw [e] at h; cases h.1
def csV (v : List UInt8) : List AV := (runes v).map (cA false) ++ (runes v).map (cA false)
def lsV (v : List UInt8) : List (Int × Bool) := (runes v).map (fun (r : Nat) => ((r : Int), false)) ++ (runes v).map (fun (r : Nat) => ((r : Int), false))
theorem csV_eq (v : List UInt8) : csV v = (lsV v).map cP := by
  simp only [csV, lsV, List.map_append, List.map_map]; rfl
theorem enc_le (r : Int) : (Utf8.encode r).data.toList.length ≤ 4 := by
  unfold Utf8.encode
  simp only
  generalize (if Utf8.valid r = true then r.toNat else Utf8.runeError) = c
  split
  · simp
  · split
    · simp
    · split <;> simp
theorem encP_len : ∀ (l : List (Int × Bool)), (encP l).length ≤ 4 * l.length
  | [] => Nat.le_refl _
  | x :: l => by
    have h1 := enc_le x.1
    have h2 := encP_len l
    simp only [encP, List.length_append, List.length_cons]; omega
def F17 : List AV → Option AV := F1 look1 good1 (fun v => [.agg [.sl [.agg [.int .i64 2, .str [120], .str [58, 61], .sl [.agg [.int .i64 1, .str [100, 32, 101], .str [], .nils, .bool true]] false, .bool false], .agg [.int .i64 2, .str [120], .str [], .nils, .bool false]] false], .agg [.sl [.agg [.str [120], .str v]] false, .nils, .nils], .int .i64 0]) (fun v => .tup [.sl [.agg [.str v, .bool false, .bool true, .bool false], .agg [.str v, .bool false, .bool true, .bool false]] false, .agg [.sl [.agg [.str [120], .str v]] false, .nils, .nils], .int .i64 0])
def look18 : List AV → Option (List UInt8)
  | [.sl [.agg [.str v, _, _, _], _] _] => some v
  | _ => none
def F18 : List AV → Option AV := F1 look18 good1 (fun v => [.sl [.agg [.str v, .bool false, .bool true, .bool false], .agg [.str v, .bool false, .bool true, .bool false]] false]) (fun v => ofL (csV v))
def F11 : List AV → Option AV := F1 look1 good1 (fun v => [.agg [.sl [.agg [.int .i64 2, .str [120], .str [58, 61], .sl [.agg [.int .i64 1, .str [100, 32, 101], .str [], .nils, .bool true]] false, .bool false], .agg [.int .i64 2, .str [120], .str [], .nils, .bool false]] false], .agg [.sl [.agg [.str [120], .str v]] false, .nils, .nils], .int .i64 0]) (fun v => .tup [ofL (csV v), .agg [.sl [.agg [.str [120], .str v]] false, .nils, .nils], .int .i64 0])
def F5 : List AV → Option AV := F1 look1 good1 (fun v => [.agg [.sl [.agg [.int .i64 2, .str [120], .str [58, 61], .sl [.agg [.int .i64 1, .str [100, 32, 101], .str [], .nils, .bool true]] false, .bool false], .agg [.int .i64 2, .str [120], .str [], .nils, .bool false]] false], .agg [.sl [.agg [.str [120], .str v]] false, .nils, .nils], .int .i64 0]) (fun v => .tup [.str (encP (lsV v)), .agg [.sl [.agg [.str [120], .str v]] false, .nils, .nils], .int .i64 0])
def unP : List AV → Option (List (Int × Bool))
  | [] => some []
  | .agg [.int _ z, .bool b] :: r => (match unP r with | some l => some ((z, b) :: l) | none => none)
  | _ => none
theorem unP_map : ∀ (L : List (Int × Bool)), unP (L.map cP) = some L
  | [] => rfl
  | x :: L => by simp only [List.map_cons, cP, unP]; rw [show unP (L.map cP) = some L from unP_map L]
def look12 : List AV → Option (List (Int × Bool))
  | [.nils] => some []
  | [.sl cs _] => unP cs
  | _ => none
def F12 : List AV → Option AV := F1 look12 (fun L => Nat.ble L.length 100000) (fun L => [ofL (L.map cP)]) (fun L => .str (encP L))
theorem look12_pat (L : List (Int × Bool)) : look12 [ofL (L.map cP)] = some L := by
  cases L with
  | nil => rfl
  | cons x L => exact unP_map (x :: L)
/-- word.Pattern -/
theorem pattern_ok (g : G) (f17 : g.fun_ 17 = some (.inr (pureF F17))) (f18 : g.fun_ 18 = some (.inr (pureF F18))) {v : List UInt8} (hg : good1 v = true) :
    ∃ hp c, enter (ev g) D11 [.agg [.sl [.agg [.int .i64 2, .str [120], .str [58, 61], .sl [.agg [.int .i64 1, .str [100, 32, 101], .str [], .nils, .bool true]] false, .bool false], .agg [.int .i64 2, .str [120], .str [], .nils, .bool false]] false], .agg [.sl [.agg [.str [120], .str v]] false, .nils, .nils], .int .i64 0] .nil 0 = some (.v (.tup [ofL (csV v), .agg [.sl [.agg [.str [120], .str v]] false, .nils, .nils], .int .i64 0]) hp c) := by
  have h17 := fun hp c => call_pure (hp := hp) (c := c) f17 (F1_eq (look := look1) (good := good1) (v := v) rfl hg) rfl
  have h18 := fun hp c => call_pure (hp := hp) (c := c) f18 (F1_eq (look := look18) (good := good1) (v := v) rfl hg) rfl
  have hfz : freezes 100000 false true .nil [.agg [.sl [.agg [.int .i64 2, .str [120], .str [58, 61], .sl [.agg [.int .i64 1, .str [100, 32, 101], .str [], .nils, .bool true]] false, .bool false], .agg [.int .i64 2, .str [120], .str [], .nils, .bool false]] false], .agg [.sl [.agg [.str [120], .str v]] false, .nils, .nils], .int .i64 0] = some ([.agg [.sl [.agg [.int .i64 2, .str [120], .str [58, 61], .sl [.agg [.int .i64 1, .str [100, 32, 101], .str [], .nils, .bool true]] false, .bool false], .agg [.int .i64 2, .str [120], .str [], .nils, .bool false]] false], .agg [.sl [.agg [.str [120], .str v]] false, .nils, .nils], .int .i64 0], .nil) := rfl
  have hpl := ofL_plain (csV v)
  have q3 : ((0 : Int) == 0) = true := rfl
  have hfin := fun hp => fz_env (hp := hp) (hp' := hp) (v := ofL (csV v)) (x := ofL (csV v)) (e1 := .sl [.agg [.str [120], .str v]] false) (e2 := .nils) (e3 := .nils) (y := .int .i64 0) (freeze_stab (ofL_stab _)) rfl rfl rfl rfl
  refine ⟨?hp, 4, ?main⟩
  case main =>
    rw [x_enter, show D11.freezeArg = true from rfl, cond_true, hfz, obind_some]
    rw [show D11.body = C11 from rfl, show D11.ntmps = 27 from rfl]
    unfold C11
    simp only [x_seq, x_seqK, x_seqR, x_seqE, x_cond, x_condT, x_condF, x_block, x_blockN, x_blockR, x_blockE, x_ops, x_skip, x_ret, x_exit, x_nil, x_cons, x_guard, x_guard_t, x_guard_tf, x_guard_ft, x_guard_u, x_putK, x_putK0, TL_get, x_opv, x_opvc, x_opvs0, x_opvs, vcons_some, obind_some, lput_zero, lput_succ, lcons_some, List.getElem?_cons_succ, List.getElem?_cons_zero, d_move, d_pick, d_extract, d_range, d_append, d_next, d_buildSlice, d_nilCheck, d_alloc, d_box, d_load, d_store, d_bin, d_not, d_lenS, d_lenN, d_lenL, d_lenA, d_fieldAddr, d_fieldAddr', d_field, d_call, load_p1, load_pn, load_r1, load_rn, store_p, putC, takeN_zero, takeN_succ, dropN_zero, dropN_succ, splice_zero, splice_succ, over_nil, over_cons, aggOf_some, nth, c_agg, c_bool, c_int, c_str, c_ptr, c_rop, c_nilp, c_nils, c_sl, c_arr, c_fn, c_nilf, c_iface, c_nili, p_bool, p_int, p_str, p_ptr, p_rop, p_nilp, p_nils, p_sl, p_arr, p_fn, p_nilf, p_iface, p_nili, plains_nil, plains_cons, List.length_cons, List.length_nil, natbeq, eq_self, bin_int, bin_str, binI_add, binI_sub, binI_eql, binI_neq, binI_lss, binI_gtr, binI_leq, binI_geq, binS_eql, binS_neq, if_true, if_false, reduceIte, Nat.reduceEqDiff, Nat.reduceAdd, Nat.zero_add, Nat.add_zero, Bool.and_self, Bool.and_true, Bool.true_and, Bool.not_true, Bool.not_false, cond_true, cond_false, x_loopN, x_loopE, x_loopR, decide_true, decide_false, x_retR, x_retN, List.nil_append, List.cons_append, List.replicate, Nat.reduceSub, x_drawU, laid, l_nil, l_cons, l_put, l_put0, doOpAt, evOf, Cls.of, pairsFine, evAt, rdFine, stFine, alFine, reads_load, still_at, PT.get_set, d_extract, AV.cells, cellsAt_set, h17, h18, hpl, q3, finish, D11, resVals, one, hfin]
    rfl
theorem look12_eq (v : List UInt8) (h : v.length ≤ 200) : F12 [ofL (csV v)] = some (.str (encP (lsV v))) := by
  rw [csV_eq]
  have hl := runes_len v
  exact F1_eq (v := lsV v) (look12_pat _) (Nat.ble_eq_true_of_le (by simp only [lsV, List.length_append, List.length_map]; omega))
theorem csV_val (v : List UInt8) : valAs (csV v) = true := by
  have app : ∀ (a b : List AV), valAs a = true → valAs b = true → valAs (a ++ b) = true := by
    intro a b ha hb
    induction a with
    | nil => exact hb
    | cons x a ih =>
      simp only [valAs, Bool.and_eq_true, List.cons_append] at ha ⊢
      exact ⟨ha.1, ih ha.2⟩
  exact app _ _ cA_flat.2.2.2 cA_flat.2.2.2
/-- word.Text -/
theorem wtext_ok (g : G) (f11 : g.fun_ 11 = some (.inr (pureF F11))) (f12 : g.fun_ 12 = some (.inr (pureF F12))) {v : List UInt8} (hg : good1 v = true) :
    ∃ hp c, enter (ev g) D5 [.agg [.sl [.agg [.int .i64 2, .str [120], .str [58, 61], .sl [.agg [.int .i64 1, .str [100, 32, 101], .str [], .nils, .bool true]] false, .bool false], .agg [.int .i64 2, .str [120], .str [], .nils, .bool false]] false], .agg [.sl [.agg [.str [120], .str v]] false, .nils, .nils], .int .i64 0] .nil 0 = some (.v (.tup [.str (encP (lsV v)), .agg [.sl [.agg [.str [120], .str v]] false, .nils, .nils], .int .i64 0]) hp c) := by
  have hgi := good1_inv hg
  have h11 := fun hp c => call_pure (hp := hp) (c := c) f11 (F1_eq (look := look1) (good := good1) (v := v) rfl hg) rfl
  have hval : valAs [ofL (csV v)] = true := by simp only [valAs, ofL_val (csV_val v), Bool.and_self]
  have h12 := fun hp c => call_pure (hp := hp) (c := c) f12 (look12_eq v hgi.2) hval
  have hlen : (encP (lsV v)).length ≤ 4000 := by
    have h1 := encP_len (lsV v)
    have h2 := runes_len v
    have h3 : (lsV v).length = (runes v).length + (runes v).length := by simp only [lsV, List.length_append, List.length_map]
    omega
  have d1 : decide ((4000 : Int) < ((encP (lsV v)).length : Int)) = false := decide_eq_false (by omega)
  have hfz : freezes 100000 false true .nil [.agg [.sl [.agg [.int .i64 2, .str [120], .str [58, 61], .sl [.agg [.int .i64 1, .str [100, 32, 101], .str [], .nils, .bool true]] false, .bool false], .agg [.int .i64 2, .str [120], .str [], .nils, .bool false]] false], .agg [.sl [.agg [.str [120], .str v]] false, .nils, .nils], .int .i64 0] = some ([.agg [.sl [.agg [.int .i64 2, .str [120], .str [58, 61], .sl [.agg [.int .i64 1, .str [100, 32, 101], .str [], .nils, .bool true]] false, .bool false], .agg [.int .i64 2, .str [120], .str [], .nils, .bool false]] false], .agg [.sl [.agg [.str [120], .str v]] false, .nils, .nils], .int .i64 0], .nil) := rfl
  have hpl := ofL_plain (csV v)
  have q3 : ((0 : Int) == 0) = true := rfl
  refine ⟨?hp, 4, ?main⟩
  case main =>
    rw [x_enter, show D5.freezeArg = true from rfl, cond_true, hfz, obind_some]
    rw [show D5.body = C5 from rfl, show D5.ntmps = 36 from rfl]
    unfold C5
    simp only [x_seq, x_seqK, x_seqR, x_seqE, x_cond, x_condT, x_condF, x_block, x_blockN, x_blockR, x_blockE, x_ops, x_skip, x_ret, x_exit, x_nil, x_cons, x_guard, x_guard_t, x_guard_tf, x_guard_ft, x_guard_u, x_putK, x_putK0, TL_get, x_opv, x_opvc, x_opvs0, x_opvs, vcons_some, obind_some, lput_zero, lput_succ, lcons_some, List.getElem?_cons_succ, List.getElem?_cons_zero, d_move, d_pick, d_extract, d_range, d_append, d_next, d_buildSlice, d_nilCheck, d_alloc, d_box, d_load, d_store, d_bin, d_not, d_lenS, d_lenN, d_lenL, d_lenA, d_fieldAddr, d_fieldAddr', d_field, d_call, load_p1, load_pn, load_r1, load_rn, store_p, putC, takeN_zero, takeN_succ, dropN_zero, dropN_succ, splice_zero, splice_succ, over_nil, over_cons, aggOf_some, nth, c_agg, c_bool, c_int, c_str, c_ptr, c_rop, c_nilp, c_nils, c_sl, c_arr, c_fn, c_nilf, c_iface, c_nili, p_bool, p_int, p_str, p_ptr, p_rop, p_nilp, p_nils, p_sl, p_arr, p_fn, p_nilf, p_iface, p_nili, plains_nil, plains_cons, List.length_cons, List.length_nil, natbeq, eq_self, bin_int, bin_str, binI_add, binI_sub, binI_eql, binI_neq, binI_lss, binI_gtr, binI_leq, binI_geq, binS_eql, binS_neq, if_true, if_false, reduceIte, Nat.reduceEqDiff, Nat.reduceAdd, Nat.zero_add, Nat.add_zero, Bool.and_self, Bool.and_true, Bool.true_and, Bool.not_true, Bool.not_false, cond_true, cond_false, x_loopN, x_loopE, x_loopR, decide_true, decide_false, x_retR, x_retN, List.nil_append, List.cons_append, List.replicate, Nat.reduceSub, x_drawU, laid, l_nil, l_cons, l_put, l_put0, doOpAt, evOf, Cls.of, pairsFine, evAt, rdFine, stFine, alFine, reads_load, still_at, PT.get_set, d_extract, AV.cells, cellsAt_set, h11, h12, hpl, q3, d1, finish, D5, resVals, one]
    rfl
def look16 : List AV → Option (List UInt8)
  | [.sl [.agg [_, .str v]] _, _] => some v
  | _ => none
def F16 : List AV → Option AV := F1 look16 (fun _ => true) (fun v => [.sl [.agg [.str [120], .str v]] false, .sl [.agg [.str [120], .str v]] false]) (fun _ => .bool true)
def look9 : List AV → Option (List UInt8)
  | [.agg [.sl [.agg [_, .str v]] _, _, _], _] => some v
  | _ => none
def F9 : List AV → Option AV := F1 look9 (fun _ => true) (fun v => [.agg [.sl [.agg [.str [120], .str v]] false, .nils, .nils], .agg [.sl [.agg [.str [120], .str v]] false, .nils, .nils]]) (fun _ => .bool true)
/-- env: the variables are the same -/
theorem vars_ok (g : G) (v : List UInt8) : ∃ hp c, enter (ev g) D16 [.sl [.agg [.str [120], .str v]] false, .sl [.agg [.str [120], .str v]] false] .nil 0 = some (.v (.bool true) hp c) := by
  have hfz : freezes 100000 false true .nil [.sl [.agg [.str [120], .str v]] false, .sl [.agg [.str [120], .str v]] false] = some ([.sl [.agg [.str [120], .str v]] false, .sl [.agg [.str [120], .str v]] false], .nil) := rfl
  have hx : ∀ hp c kk, doOp (ev g) (.indexAddr (some 2)) [.sl [.agg [.str [120], .str v]] false, .int kk 0] hp c = some (.rop [.str [120], .str v] 0, hp, c) :=
    fun hp c kk => idx_sl (n := 0) (x := .agg [.str [120], .str v]) (by intro y hy; simp at hy; rcases hy with rfl; rfl) rfl
  have w1 : IntKind.i64.wrap (0 + 1) = 1 := rfl
  have l0 : decide ((0 : Int) < 1) = true := rfl
  have l1 : decide ((1 : Int) < 1) = false := rfl
  have q3 : ((1 : Int) == 1) = true := rfl
  have hlen : ∀ hp c, doOp (ev g) (.len false) [.sl [.agg [.str [120], .str v]] false] hp c = some (.int .i64 1, hp, c) := fun _ _ => rfl
  have heq : equal (.struct [(0, none, .str), (1, none, .str)]) (.agg [.str [120], .str v]) (.agg [.str [120], .str v]) = some true := by
    simp [equal, eqAgg, equals, Det.partAt, nth, eqFlat, strEq_refl, strEq]
  refine ⟨.nil, 0, ?_⟩
  rw [x_enter, show D16.freezeArg = true from rfl, cond_true, hfz, obind_some]
  rw [show D16.body = C16 from rfl, show D16.ntmps = 26 from rfl]
  unfold C16
  have hl : ∃ t0 t1 t2 t3 r, codeRun (ev g) (.loop L16x0) (TL ([.sl [.agg [.str [120], .str v]] false, .sl [.agg [.str [120], .str v]] false, .tup [], .tup [], .bool false, .int .i64 0, .sl [.agg [.str [120], .str v]] false, .int .i64 1, .sl [.agg [.str [120], .str v]] false, .int .i64 1, .bool false] ++ List.replicate 15 (.tup []))) .nil 0 = some (.x (.exit 0) (TL (t0 :: t1 :: t2 :: t3 :: .bool false :: r)) .nil 0) ∧ r.length = 21 := by
    refine ⟨?_, ?_, ?_, ?_, ?_, ?_, ?_⟩
    rotate_left 5
    · rw [x_loop]
      conv => lhs; unfold L16x0
      simp only [x_seq, x_seqK, x_seqR, x_seqE, x_cond, x_condT, x_condF, x_block, x_blockN, x_blockR, x_blockE, x_ops, x_skip, x_ret, x_exit, x_nil, x_cons, x_guard, x_guard_t, x_guard_tf, x_guard_ft, x_guard_u, x_putK, x_putK0, TL_get, x_opv, x_opvc, x_opvs0, x_opvs, vcons_some, obind_some, lput_zero, lput_succ, lcons_some, List.getElem?_cons_succ, List.getElem?_cons_zero, d_move, d_pick, d_extract, d_range, d_append, d_next, d_buildSlice, d_nilCheck, d_alloc, d_box, d_load, d_store, d_bin, d_not, d_lenS, d_lenN, d_lenL, d_lenA, d_fieldAddr, d_fieldAddr', d_field, d_call, load_p1, load_pn, load_r1, load_rn, store_p, putC, takeN_zero, takeN_succ, dropN_zero, dropN_succ, splice_zero, splice_succ, over_nil, over_cons, aggOf_some, nth, c_agg, c_bool, c_int, c_str, c_ptr, c_rop, c_nilp, c_nils, c_sl, c_arr, c_fn, c_nilf, c_iface, c_nili, p_bool, p_int, p_str, p_ptr, p_rop, p_nilp, p_nils, p_sl, p_arr, p_fn, p_nilf, p_iface, p_nili, plains_nil, plains_cons, List.length_cons, List.length_nil, natbeq, eq_self, bin_int, bin_str, binI_add, binI_sub, binI_eql, binI_neq, binI_lss, binI_gtr, binI_leq, binI_geq, binS_eql, binS_neq, if_true, if_false, reduceIte, Nat.reduceEqDiff, Nat.reduceAdd, Nat.zero_add, Nat.add_zero, Bool.and_self, Bool.and_true, Bool.true_and, Bool.not_true, Bool.not_false, cond_true, cond_false, x_loopN, x_loopE, x_loopR, decide_true, decide_false, x_retR, x_retN, List.nil_append, List.cons_append, List.replicate, Nat.reduceSub, x_draw, noPre, isPre, hx, hlen, AV.cells, l0, w1, d_eq, heq, Bool.not_true]
      refine loop_ev ?_
      rw [x_loop]
      simp only [x_seq, x_seqK, x_seqR, x_seqE, x_cond, x_condT, x_condF, x_block, x_blockN, x_blockR, x_blockE, x_ops, x_skip, x_ret, x_exit, x_nil, x_cons, x_guard, x_guard_t, x_guard_tf, x_guard_ft, x_guard_u, x_putK, x_putK0, TL_get, x_opv, x_opvc, x_opvs0, x_opvs, vcons_some, obind_some, lput_zero, lput_succ, lcons_some, List.getElem?_cons_succ, List.getElem?_cons_zero, d_move, d_pick, d_extract, d_range, d_append, d_next, d_buildSlice, d_nilCheck, d_alloc, d_box, d_load, d_store, d_bin, d_not, d_lenS, d_lenN, d_lenL, d_lenA, d_fieldAddr, d_fieldAddr', d_field, d_call, load_p1, load_pn, load_r1, load_rn, store_p, putC, takeN_zero, takeN_succ, dropN_zero, dropN_succ, splice_zero, splice_succ, over_nil, over_cons, aggOf_some, nth, c_agg, c_bool, c_int, c_str, c_ptr, c_rop, c_nilp, c_nils, c_sl, c_arr, c_fn, c_nilf, c_iface, c_nili, p_bool, p_int, p_str, p_ptr, p_rop, p_nilp, p_nils, p_sl, p_arr, p_fn, p_nilf, p_iface, p_nili, plains_nil, plains_cons, List.length_cons, List.length_nil, natbeq, eq_self, bin_int, bin_str, binI_add, binI_sub, binI_eql, binI_neq, binI_lss, binI_gtr, binI_leq, binI_geq, binS_eql, binS_neq, if_true, if_false, reduceIte, Nat.reduceEqDiff, Nat.reduceAdd, Nat.zero_add, Nat.add_zero, Bool.and_self, Bool.and_true, Bool.true_and, Bool.not_true, Bool.not_false, cond_true, cond_false, x_loopN, x_loopE, x_loopR, decide_true, decide_false, x_retR, x_retN, List.nil_append, List.cons_append, List.replicate, Nat.reduceSub, hlen, l1]
      rfl
    · rfl
  obtain ⟨t0, t1, t2, t3, r, hl, hr⟩ := hl
  match r, hr with
  | [r6, r7, r8, r9, r10, r11, r12, r13, r14, r15, r16, r17, r18, r19, r20, r21, r22, r23, r24, r25, r26], _ =>
    simp only [List.replicate, List.cons_append, List.nil_append] at hl
    simp only [x_seq, x_seqK, x_seqR, x_seqE, x_cond, x_condT, x_condF, x_block, x_blockN, x_blockR, x_blockE, x_ops, x_skip, x_ret, x_exit, x_nil, x_cons, x_guard, x_guard_t, x_guard_tf, x_guard_ft, x_guard_u, x_putK, x_putK0, TL_get, x_opv, x_opvc, x_opvs0, x_opvs, vcons_some, obind_some, lput_zero, lput_succ, lcons_some, List.getElem?_cons_succ, List.getElem?_cons_zero, d_move, d_pick, d_extract, d_range, d_append, d_next, d_buildSlice, d_nilCheck, d_alloc, d_box, d_load, d_store, d_bin, d_not, d_lenS, d_lenN, d_lenL, d_lenA, d_fieldAddr, d_fieldAddr', d_field, d_call, load_p1, load_pn, load_r1, load_rn, store_p, putC, takeN_zero, takeN_succ, dropN_zero, dropN_succ, splice_zero, splice_succ, over_nil, over_cons, aggOf_some, nth, c_agg, c_bool, c_int, c_str, c_ptr, c_rop, c_nilp, c_nils, c_sl, c_arr, c_fn, c_nilf, c_iface, c_nili, p_bool, p_int, p_str, p_ptr, p_rop, p_nilp, p_nils, p_sl, p_arr, p_fn, p_nilf, p_iface, p_nili, plains_nil, plains_cons, List.length_cons, List.length_nil, natbeq, eq_self, bin_int, bin_str, binI_add, binI_sub, binI_eql, binI_neq, binI_lss, binI_gtr, binI_leq, binI_geq, binS_eql, binS_neq, if_true, if_false, reduceIte, Nat.reduceEqDiff, Nat.reduceAdd, Nat.zero_add, Nat.add_zero, Bool.and_self, Bool.and_true, Bool.true_and, Bool.not_true, Bool.not_false, cond_true, cond_false, x_loopN, x_loopE, x_loopR, decide_true, decide_false, x_retR, x_retN, List.nil_append, List.cons_append, List.replicate, Nat.reduceSub, hlen, q3, hl, finish, D16, resVals, one]
    rfl
end W
set_option linter.unusedSimpArgs false
set_option linter.unusedVariables false
namespace W
open Go Det
def F15 : List AV → Option AV := F1 (fun _ => some ()) (fun _ => true) (fun _ => [.nils, .nils]) (fun _ => .bool true)
def F77 : List AV → Option AV := F1 (fun _ => some ()) (fun _ => true) (fun _ => [.str [120]]) (fun _ => .bool true)
def F8 : List AV → Option AV := F1 (fun _ => some ()) (fun _ => true) (fun _ => []) (fun _ => .bool true)
def F6 : List AV → Option AV := F1 (fun _ => some ()) (fun _ => true) (fun _ => [.str [36, 123, 120, 58, 61, 39, 100, 32, 101, 39, 125, 36, 120]]) (fun _ => .agg [.sl [.agg [.int .i64 2, .str [120], .str [58, 61], .sl [.agg [.int .i64 1, .str [100, 32, 101], .str [], .nils, .bool true]] false, .bool false], .agg [.int .i64 2, .str [120], .str [], .nils, .bool false]] false])
def look7 : List AV → Option (List UInt8)
  | [.agg [.sl [.agg [_, .str v]] _, _, _], _] => some v
  | _ => none
def F7 : List AV → Option AV := F1 look7 (fun _ => true) (fun v => [.agg [.sl [.agg [.str [120], .str v]] false, .nils, .nils], .str [120]]) (fun v => .tup [.str v, .bool true])
def look4 : List AV → Option (List UInt8)
  | [_, _, .str v] => some v
  | _ => none
def F4 : List AV → Option AV := F1 look4 (fun _ => true) (fun v => [.agg [.nils, .nils, .nils], .str [120], .str v]) (fun v => .agg [.sl [.agg [.str [120], .str v]] false, .nils, .nils])
/-- env.Same -/
theorem same_ok (g : G) (f15 : g.fun_ 15 = some (.inr (pureF F15))) (f16 : g.fun_ 16 = some (.inr (pureF F16))) (v : List UInt8) : ∃ hp c, enter (ev g) D9 [.agg [.sl [.agg [.str [120], .str v]] false, .nils, .nils], .agg [.sl [.agg [.str [120], .str v]] false, .nils, .nils]] .nil 0 = some (.v (.bool true) hp c) := by
  have h15 := fun hp c => call_pure (hp := hp) (c := c) f15 (F1_eq (look := fun _ => some ()) (good := fun _ => true) (v := ()) rfl rfl) rfl
  have h16 := fun hp c => call_pure (hp := hp) (c := c) f16 (F1_eq (look := look16) (good := fun _ => true) (v := v) rfl rfl) rfl
  have hfz : freezes 100000 false true .nil [.agg [.sl [.agg [.str [120], .str v]] false, .nils, .nils], .agg [.sl [.agg [.str [120], .str v]] false, .nils, .nils]] = some ([.agg [.sl [.agg [.str [120], .str v]] false, .nils, .nils], .agg [.sl [.agg [.str [120], .str v]] false, .nils, .nils]], .nil) := rfl
  have l1 : decide ((0 : Int) < 0) = false := rfl
  have q3 : ((0 : Int) == 0) = true := rfl
  have hlen : ∀ hp c, doOp (ev g) (.len false) [.nils] hp c = some (.int .i64 0, hp, c) := fun _ _ => rfl
  refine ⟨?hp, 2, ?main⟩
  case main =>
    rw [x_enter, show D9.freezeArg = true from rfl, cond_true, hfz, obind_some]
    rw [show D9.body = C9 from rfl, show D9.ntmps = 47 from rfl]
    unfold C9 L9x0
    simp only [x_seq, x_seqK, x_seqR, x_seqE, x_cond, x_condT, x_condF, x_block, x_blockN, x_blockR, x_blockE, x_ops, x_skip, x_ret, x_exit, x_nil, x_cons, x_guard, x_guard_t, x_guard_tf, x_guard_ft, x_guard_u, x_putK, x_putK0, TL_get, x_opv, x_opvc, x_opvs0, x_opvs, vcons_some, obind_some, lput_zero, lput_succ, lcons_some, List.getElem?_cons_succ, List.getElem?_cons_zero, d_move, d_pick, d_extract, d_range, d_append, d_next, d_buildSlice, d_nilCheck, d_alloc, d_box, d_load, d_store, d_bin, d_not, d_lenS, d_lenN, d_lenL, d_lenA, d_fieldAddr, d_fieldAddr', d_field, d_call, load_p1, load_pn, load_r1, load_rn, store_p, putC, takeN_zero, takeN_succ, dropN_zero, dropN_succ, splice_zero, splice_succ, over_nil, over_cons, aggOf_some, nth, c_agg, c_bool, c_int, c_str, c_ptr, c_rop, c_nilp, c_nils, c_sl, c_arr, c_fn, c_nilf, c_iface, c_nili, p_bool, p_int, p_str, p_ptr, p_rop, p_nilp, p_nils, p_sl, p_arr, p_fn, p_nilf, p_iface, p_nili, plains_nil, plains_cons, List.length_cons, List.length_nil, natbeq, eq_self, bin_int, bin_str, binI_add, binI_sub, binI_eql, binI_neq, binI_lss, binI_gtr, binI_leq, binI_geq, binS_eql, binS_neq, if_true, if_false, reduceIte, Nat.reduceEqDiff, Nat.reduceAdd, Nat.zero_add, Nat.add_zero, Bool.and_self, Bool.and_true, Bool.true_and, Bool.not_true, Bool.not_false, cond_true, cond_false, x_loopN, x_loopE, x_loopR, decide_true, decide_false, x_retR, x_retN, List.nil_append, List.cons_append, List.replicate, Nat.reduceSub, AV.cells, cellsAt_set, h15, h16, hlen, l1, q3, finish, D9, resVals, one]
    rfl
theorem sets_long (g : G) (v : List UInt8) (h : 100 < v.length) : ∃ hp c, enter (ev g) D3 [.str v] .nil 0 = some (.v (.bool true) hp c) := by
  have d1 : decide ((100 : Int) < (v.length : Int)) = true := decide_eq_true (by omega)
  have hfz : freezes 100000 false true .nil [.str v] = some ([.str v], .nil) := rfl
  refine ⟨?hp, 0, ?main⟩
  case main =>
    rw [x_enter, show D3.freezeArg = true from rfl, cond_true, hfz, obind_some]
    rw [show D3.body = C3 from rfl, show D3.ntmps = 66 from rfl]
    unfold C3
    simp only [x_seq, x_seqK, x_seqR, x_seqE, x_cond, x_condT, x_condF, x_block, x_blockN, x_blockR, x_blockE, x_ops, x_skip, x_ret, x_exit, x_nil, x_cons, x_guard, x_guard_t, x_guard_tf, x_guard_ft, x_guard_u, x_putK, x_putK0, TL_get, x_opv, x_opvc, x_opvs0, x_opvs, vcons_some, obind_some, lput_zero, lput_succ, lcons_some, List.getElem?_cons_succ, List.getElem?_cons_zero, d_move, d_pick, d_extract, d_range, d_append, d_next, d_buildSlice, d_nilCheck, d_alloc, d_box, d_load, d_store, d_bin, d_not, d_lenS, d_lenN, d_lenL, d_lenA, d_fieldAddr, d_fieldAddr', d_field, d_call, load_p1, load_pn, load_r1, load_rn, store_p, putC, takeN_zero, takeN_succ, dropN_zero, dropN_succ, splice_zero, splice_succ, over_nil, over_cons, aggOf_some, nth, c_agg, c_bool, c_int, c_str, c_ptr, c_rop, c_nilp, c_nils, c_sl, c_arr, c_fn, c_nilf, c_iface, c_nili, p_bool, p_int, p_str, p_ptr, p_rop, p_nilp, p_nils, p_sl, p_arr, p_fn, p_nilf, p_iface, p_nili, plains_nil, plains_cons, List.length_cons, List.length_nil, natbeq, eq_self, bin_int, bin_str, binI_add, binI_sub, binI_eql, binI_neq, binI_lss, binI_gtr, binI_leq, binI_geq, binS_eql, binS_neq, if_true, if_false, reduceIte, Nat.reduceEqDiff, Nat.reduceAdd, Nat.zero_add, Nat.add_zero, Bool.and_self, Bool.and_true, Bool.true_and, Bool.not_true, Bool.not_false, cond_true, cond_false, x_loopN, x_loopE, x_loopR, decide_true, decide_false, x_retR, x_retN, List.nil_append, List.cons_append, List.replicate, Nat.reduceSub, d1, finish, D3, resVals, one]
    rfl
/-- WordSets, of a value -/
theorem sets_ok (g : G) (f4 : g.fun_ 4 = some (.inr (pureF F4))) (f5 : g.fun_ 5 = some (.inr (pureF F5))) (f6 : g.fun_ 6 = some (.inr (pureF F6))) (f7 : g.fun_ 7 = some (.inr (pureF F7))) (f8 : g.fun_ 8 = some (.inr (pureF F8))) (f9 : g.fun_ 9 = some (.inr (pureF F9)))
    (v : List UInt8) (hv : v ≠ []) (h : v.length ≤ 100) : ∃ hp c, enter (ev g) D3 [.str v] .nil 0 = some (.v (.bool true) hp c) := by
  have hg : good1 v = true := by
    simp only [good1, strEq_iff, Nat.ble_eq_true_of_le (show v.length ≤ 200 by omega), Bool.and_true]
    cases v <;> first | exact absurd rfl hv | rfl
  have h4 := fun hp c => call_pure (hp := hp) (c := c) f4 (F1_eq (look := look4) (good := fun _ => true) (v := v) rfl rfl) rfl
  have h5 := fun hp c => call_pure (hp := hp) (c := c) f5 (F1_eq (look := look1) (good := good1) (v := v) rfl hg) rfl
  have h6 := fun hp c => call_pure (hp := hp) (c := c) f6 (F1_eq (look := fun _ => some ()) (good := fun _ => true) (v := ()) rfl rfl) rfl
  have h7 := fun hp c => call_pure (hp := hp) (c := c) f7 (F1_eq (look := look7) (good := fun _ => true) (v := v) rfl rfl) rfl
  have h8 := fun hp c => call_pure (hp := hp) (c := c) f8 (F1_eq (look := fun _ => some ()) (good := fun _ => true) (v := ()) rfl rfl) rfl
  have h9 := fun hp c => call_pure (hp := hp) (c := c) f9 (F1_eq (look := look9) (good := fun _ => true) (v := v) rfl rfl) rfl
  have d1 : decide ((100 : Int) < (v.length : Int)) = false := decide_eq_false (by omega)
  have q1 : (v == ([] : List UInt8)) = false := by cases v <;> first | exact absurd rfl hv | rfl
  have q2 : (v == v) = true := by simp
  have q3 : ((0 : Int) == 0) = true := rfl
  have hfz : freezes 100000 false true .nil [.str v] = some ([.str v], .nil) := rfl
  refine ⟨?hp, 2, ?main⟩
  case main =>
    rw [x_enter, show D3.freezeArg = true from rfl, cond_true, hfz, obind_some]
    rw [show D3.body = C3 from rfl, show D3.ntmps = 66 from rfl]
    unfold C3
    simp only [x_seq, x_seqK, x_seqR, x_seqE, x_cond, x_condT, x_condF, x_block, x_blockN, x_blockR, x_blockE, x_ops, x_skip, x_ret, x_exit, x_nil, x_cons, x_guard, x_guard_t, x_guard_tf, x_guard_ft, x_guard_u, x_putK, x_putK0, TL_get, x_opv, x_opvc, x_opvs0, x_opvs, vcons_some, obind_some, lput_zero, lput_succ, lcons_some, List.getElem?_cons_succ, List.getElem?_cons_zero, d_move, d_pick, d_extract, d_range, d_append, d_next, d_buildSlice, d_nilCheck, d_alloc, d_box, d_load, d_store, d_bin, d_not, d_lenS, d_lenN, d_lenL, d_lenA, d_fieldAddr, d_fieldAddr', d_field, d_call, load_p1, load_pn, load_r1, load_rn, store_p, putC, takeN_zero, takeN_succ, dropN_zero, dropN_succ, splice_zero, splice_succ, over_nil, over_cons, aggOf_some, nth, c_agg, c_bool, c_int, c_str, c_ptr, c_rop, c_nilp, c_nils, c_sl, c_arr, c_fn, c_nilf, c_iface, c_nili, p_bool, p_int, p_str, p_ptr, p_rop, p_nilp, p_nils, p_sl, p_arr, p_fn, p_nilf, p_iface, p_nili, plains_nil, plains_cons, List.length_cons, List.length_nil, natbeq, eq_self, bin_int, bin_str, binI_add, binI_sub, binI_eql, binI_neq, binI_lss, binI_gtr, binI_leq, binI_geq, binS_eql, binS_neq, if_true, if_false, reduceIte, Nat.reduceEqDiff, Nat.reduceAdd, Nat.zero_add, Nat.add_zero, Bool.and_self, Bool.and_true, Bool.true_and, Bool.not_true, Bool.not_false, cond_true, cond_false, x_loopN, x_loopE, x_loopR, decide_true, decide_false, x_retR, x_retN, List.nil_append, List.cons_append, List.replicate, Nat.reduceSub, x_drawU, laid, l_nil, l_cons, l_put, l_put0, doOpAt, evOf, Cls.of, pairsFine, evAt, rdFine, stFine, alFine, reads_load, still_at, PT.get_set, d_extract, Det.ok, d_build, buildR, zip3, fill, AV.cells, cellsAt_set, d1, q1, q2, q3, h4, h5, h6, h7, h8, h9, finish, D3, resVals, one]
    rfl
end W
set_option linter.unusedSimpArgs false
set_option linter.unusedVariables false
set_option maxRecDepth 100000
namespace Go.Proofs.YtcligehgdmcblaaGreatDoor
open Go Det W
theorem k6 : outV (run g0 1000000 (.call 6 [.str [36, 123, 120, 58, 61, 39, 100, 32, 101, 39, 125, 36, 120]]) .nil 0) = some (.agg [.sl [.agg [.int .i64 2, .str [120], .str [58, 61], .sl [.agg [.int .i64 1, .str [100, 32, 101], .str [], .nils, .bool true]] false, .bool false], .agg [.int .i64 2, .str [120], .str [], .nils, .bool false]] false]) := by kernel_rfl
theorem k4 (v : List UInt8) : outV (run g0 1000000 (.call 4 [.agg [.nils, .nils, .nils], .str [120], .str v]) .nil 0) = some (.agg [.sl [.agg [.str [120], .str v]] false, .nils, .nils]) := by kernel_rfl
theorem k7 (v : List UInt8) : outV (run g0 1000000 (.call 7 [.agg [.sl [.agg [.str [120], .str v]] false, .nils, .nils], .str [120]]) .nil 0) = some (.tup [.str v, .bool true]) := by kernel_rfl
theorem k78 (v : List UInt8) : outV (run g0 1000000 (.call 78 [.agg [.sl [.agg [.str [120], .str v]] false, .nils, .nils], .str [120]]) .nil 0) = some (.tup [.str v, .bool true]) := by kernel_rfl
theorem k77 : outV (run g0 1000000 (.call 77 [.str [120]]) .nil 0) = some (.bool true) := by kernel_rfl
theorem k15 : outV (run g0 1000000 (.call 15 [.nils, .nils]) .nil 0) = some (.bool true) := by kernel_rfl
theorem k8 : outV (run g0 1000000 (.call 8 []) .nil 0) = some (.bool true) := by kernel_rfl
theorem sysL {l : List (Nat × OpF)} (h : OkP Tryz.prog (lookG GL0) l) : Det.Sys Tryz.prog T0 E0 (lookG GL0) (gP (lookP l)) := sysP h
theorem sy0 : Det.Sys Tryz.prog T0 E0 (lookG GL0) (gP (lookP [])) := sysL OkP.nil
theorem g0_eq : gP (lookP []) = g0 := rfl
theorem bd (f : Nat) (h : bodyB Tryz.prog f = true) : Bodied Tryz.prog f := bodied_ofB noNG0 h
def lk1 : List (Nat × OpF) := [(6, pureF F6), (4, pureF F4), (7, pureF F7), (78, pureF F7), (77, pureF F77), (15, pureF F15), (8, pureF F8), (46, pureF F46)]
theorem d46 : g0.fun_ 46 = some (.inl D46) := by kernel_rfl
theorem p46 (B0 : Nat) : PrimOk Tryz.prog (lookG GL0) B0 (pureF F46) 46 := sys0.pureE (fun args v e ha => by
  unfold F46 at e
  split at e
  · rename_i s
    cases hb : Nat.ble s.length 80000 with
    | true =>
      rw [hb] at e; simp only [cond_true, Option.some.injEq] at e; subst e
      obtain ⟨hp, c, h⟩ := runes_ok g0 s (Nat.le_of_ble_eq_true hb)
      exact ⟨ofL_val rA_val, hp, c, ev_call d46 h⟩
    | false => rw [hb] at e; cases e
  · cases e) B0
theorem ok1 : OkP Tryz.prog (lookG GL0) lk1 :=
  ((((((((OkP.nil).cons (bd 46 (by kernel_rfl)) p46).cons (bd 8 (by kernel_rfl)) (sys0.pure1 (fun _ _ => rfl) (fun _ _ => outV_ev k8))).cons (bd 15 (by kernel_rfl)) (sys0.pure1 (fun _ _ => rfl) (fun _ _ => outV_ev k15))).cons
    (bd 77 (by kernel_rfl)) (sys0.pure1 (fun _ _ => rfl) (fun _ _ => outV_ev k77))).cons (bd 78 (by kernel_rfl)) (sys0.pure1 (fun _ _ => rfl) (fun v _ => outV_ev (k78 v)))).cons
    (bd 7 (by kernel_rfl)) (sys0.pure1 (fun _ _ => rfl) (fun v _ => outV_ev (k7 v)))).cons (bd 4 (by kernel_rfl)) (sys0.pure1 (fun _ _ => rfl) (fun v _ => outV_ev (k4 v)))).cons (bd 6 (by kernel_rfl)) (sys0.pure1 (fun _ _ => rfl) (fun _ _ => outV_ev k6))
noncomputable def g1 : G := gP (lookP lk1)
theorem sys1 : Det.Sys Tryz.prog T0 E0 (lookG GL0) g1 := sysL ok1
theorem a46 : g1.fun_ 46 = some (.inr (pureF F46)) := rfl
theorem a77 : g1.fun_ 77 = some (.inr (pureF F77)) := rfl
theorem a78 : g1.fun_ 78 = some (.inr (pureF F7)) := rfl
theorem b26 : g1.fun_ 26 = some (.inl D26) := by kernel_rfl
theorem b12 : g1.fun_ 12 = some (.inl D12) := by kernel_rfl
theorem b16 : g1.fun_ 16 = some (.inl D16) := by kernel_rfl
theorem b17 : g1.fun_ 17 = some (.inl D17) := by kernel_rfl
theorem b25 : g1.fun_ 25 = some (.inl D25) := by kernel_rfl
theorem b40 : g1.fun_ 40 = some (.inl D40) := by kernel_rfl
theorem b41 : g1.fun_ 41 = some (.inl D41) := by kernel_rfl
theorem b44 : g1.fun_ 44 = some (.inl D44) := by kernel_rfl
theorem b59 : g1.fun_ 59 = some (.inl D59) := by kernel_rfl
theorem b63 : g1.fun_ 63 = some (.inl D63) := by kernel_rfl
theorem p26 (B0 : Nat) : PrimOk Tryz.prog (lookG GL0) B0 (pureF F26) 26 := sys1.pureE (fun args v e ha => by
  unfold F26 at e
  split at e
  · rename_i s q
    cases hb : Nat.ble s.length 40000 with
    | true =>
      rw [hb] at e; simp only [cond_true, Option.some.injEq] at e; subst e
      obtain ⟨hp, c, h⟩ := chars_ok g1 a46 s q (Nat.le_of_ble_eq_true hb)
      exact ⟨ofL_val cA_flat.2.2.2, hp, c, ev_call b26 h⟩
    | false => rw [hb] at e; cases e
  · cases e) B0
theorem p12 (B0 : Nat) : PrimOk Tryz.prog (lookG GL0) B0 (pureF F12) 12 := sys1.pure1 (fun _ _ => rfl) (fun L h => by
  obtain ⟨hp, c, h⟩ := gtext_ok g1 L (Nat.le_of_ble_eq_true h)
  exact ⟨hp, c, ev_call b12 h⟩) B0
theorem p16 (B0 : Nat) : PrimOk Tryz.prog (lookG GL0) B0 (pureF F16) 16 := sys1.pure1 (fun _ _ => rfl) (fun v _ => by
  obtain ⟨hp, c, h⟩ := vars_ok g1 v
  exact ⟨hp, c, ev_call b16 h⟩) B0
theorem p17 (B0 : Nat) : PrimOk Tryz.prog (lookG GL0) B0 (pureF F17) 17 := sys1.pure1 (fun _ _ => rfl) (fun v hg => by
  obtain ⟨h1, h2⟩ := good1_inv hg
  obtain ⟨hp, c, h⟩ := runs_ok (g := g1) b40 b44 b59 b63 b41 b25 rfl (e1 := .sl [.agg [.str [120], .str v]] false) (e2 := .nils) (e3 := .nils) (v := v) rfl rfl rfl rfl
    (fun hp c => call_pure (hp := hp) (c := c) a77 (F1_eq (look := fun _ => some ()) (good := fun _ => true) (v := ()) rfl rfl) rfl)
    (fun hp c => call_pure (hp := hp) (c := c) a78 (F1_eq (look := look7) (good := fun _ => true) (v := v) rfl rfl) rfl)
    (op := [58, 61]) (op' := []) (wd := .sl [.agg [.int .i64 1, .str [100, 32, 101], .str [], .nils, .bool true]] false) (wd' := .nils) (q := false) (q' := false) rfl (fun _ _ => rfl) rfl (fun _ _ => rfl) (.inr ⟨rfl, h1⟩) (.inl rfl) (by omega)
  exact ⟨hp, c, ev_call b17 h⟩) B0
def lk2 : List (Nat × OpF) := (17, pureF F17) :: (16, pureF F16) :: (12, pureF F12) :: (26, pureF F26) :: lk1
theorem ok2 : OkP Tryz.prog (lookG GL0) lk2 := (((ok1.cons (bd 26 (by kernel_rfl)) p26).cons (bd 12 (by kernel_rfl)) p12).cons (bd 16 (by kernel_rfl)) p16).cons (bd 17 (by kernel_rfl)) p17
noncomputable def g2 : G := gP (lookP lk2)
theorem sys2 : Det.Sys Tryz.prog T0 E0 (lookG GL0) g2 := sysL ok2
theorem c18 : g2.fun_ 18 = some (.inl D18) := by kernel_rfl
theorem c9 : g2.fun_ 9 = some (.inl D9) := by kernel_rfl
theorem p18 (B0 : Nat) : PrimOk Tryz.prog (lookG GL0) B0 (pureF F18) 18 := sys2.pure1 (fun v _ => ofL_val (csV_val v)) (fun v hg => by
  obtain ⟨h1, h2⟩ := good1_inv hg
  obtain ⟨hp, c, h⟩ := join_ok g2 rfl v v false true false true (by omega) (by omega)
  exact ⟨hp, c, ev_call c18 h⟩) B0
theorem p9 (B0 : Nat) : PrimOk Tryz.prog (lookG GL0) B0 (pureF F9) 9 := sys2.pure1 (fun _ _ => rfl) (fun v _ => by
  obtain ⟨hp, c, h⟩ := same_ok g2 rfl rfl v
  exact ⟨hp, c, ev_call c9 h⟩) B0
def lk3 : List (Nat × OpF) := (9, pureF F9) :: (18, pureF F18) :: lk2
theorem ok3 : OkP Tryz.prog (lookG GL0) lk3 := (ok2.cons (bd 18 (by kernel_rfl)) p18).cons (bd 9 (by kernel_rfl)) p9
noncomputable def g3 : G := gP (lookP lk3)
theorem sys3 : Det.Sys Tryz.prog T0 E0 (lookG GL0) g3 := sysL ok3
theorem c11 : g3.fun_ 11 = some (.inl D11) := by kernel_rfl
theorem p11 (B0 : Nat) : PrimOk Tryz.prog (lookG GL0) B0 (pureF F11) 11 := sys3.pure1 (fun v _ => by simp only [valA, valAs, ofL_val (csV_val v), Bool.and_self]) (fun v hg => by
  obtain ⟨hp, c, h⟩ := pattern_ok g3 rfl rfl hg
  exact ⟨hp, c, ev_call c11 h⟩) B0
def lk4 : List (Nat × OpF) := (11, pureF F11) :: lk3
theorem ok4 : OkP Tryz.prog (lookG GL0) lk4 := ok3.cons (bd 11 (by kernel_rfl)) p11
noncomputable def g4 : G := gP (lookP lk4)
theorem sys4 : Det.Sys Tryz.prog T0 E0 (lookG GL0) g4 := sysL ok4
theorem c5 : g4.fun_ 5 = some (.inl D5) := by kernel_rfl
theorem p5 (B0 : Nat) : PrimOk Tryz.prog (lookG GL0) B0 (pureF F5) 5 := sys4.pure1 (fun _ _ => rfl) (fun v hg => by
  obtain ⟨hp, c, h⟩ := wtext_ok g4 rfl rfl hg
  exact ⟨hp, c, ev_call c5 h⟩) B0
def lk5 : List (Nat × OpF) := (5, pureF F5) :: lk4
theorem ok5 : OkP Tryz.prog (lookG GL0) lk5 := ok4.cons (bd 5 (by kernel_rfl)) p5
noncomputable def g5 : G := gP (lookP lk5)
theorem sys5 : Det.Sys Tryz.prog T0 E0 (lookG GL0) g5 := sysL ok5
theorem c3 : g5.fun_ 3 = some (.inl D3) := by kernel_rfl
theorem law (s : List UInt8) : ∃ prims, Det.Sys Tryz.prog T0 E0 (lookG GL0) (gP prims) ∧ ∃ hp c, ev (gP prims) (.call 3 [.str s]) .nil 0 = some (.v (.bool true) hp c) := by
  by_cases h0 : s = []
  · subst h0
    obtain ⟨hp, c, h⟩ := isT_inv empty0
    exact ⟨_, sys0, hp, c, ev_of h⟩
  · refine ⟨_, sys5, ?_⟩
    by_cases hl : 100 < s.length
    · obtain ⟨hp, c, h⟩ := sets_long g5 s hl
      exact ⟨hp, c, ev_call c3 h⟩
    · obtain ⟨hp, c, h⟩ := sets_ok g5 rfl rfl rfl rfl rfl rfl s h0 (by omega)
      exact ⟨hp, c, ev_call c3 h⟩
end Go.Proofs.YtcligehgdmcblaaGreatDoor
set_option maxRecDepth 100000
namespace Go.Proofs.YtcligehgdmcblaaGreatDoor
open Go Det Go.RowKit Go.ChangeShapes Go.WideShapes Go.ChangeAt Go.ChangeMaps
theorem own : ownKnob Tryz.prog.godebug = none := by kernel_rfl
theorem laidP : laidOutB Tryz.prog = true := by kernel_rfl
theorem plainM : laidMetH Tryz.prog Rows.wordSetsRow.laid = laidMet Tryz.prog Rows.wordSetsRow.laid := by
  funext w; exact MakeChecks.laidMetH_plain _ _ _ (by kernel_rfl)
theorem func3 : Tryz.prog.funcs[3]? = some Tryz.f3 := by kernel_rfl
theorem str9 : Tryz.prog.underlying 9 = some .string := by kernel_rfl
theorem params3 : Tryz.f3.params = #[9] := by kernel_rfl
theorem lifted (os : Os) (started : os.Started) (H : Type) (enc : TypeId × Value → H) :
    ReturnsInHanded {} Tryz.checked os 3 .any (fun w args => (Rows.wordSetsSpec.pre enc Tryz.prog Tryz.f3 Rows.wordSetsRow.domain false w args ∧ laidMetH Tryz.prog Rows.wordSetsRow.laid w) ∧ sizedMet enc Tryz.prog Tryz.f3 (OpenSpec.ofChange Rows.wordSetsSpec) false w args)
      (Rows.wordSetsSpec.post enc Tryz.prog Tryz.f3 false true false false) := by
  refine returnsInHanded_of_change_and (C := Tryz.checked) (X := fun w _ => laidMetH Tryz.prog Rows.wordSetsRow.laid w) (fun _ _ _ hh h => h.of_heap hh) own started (by kernel_rfl) func3
    (ChangeSpec.witness_shaped (enc := enc) (C := Tryz.checked) (os := os) (X := fun w _ => laidMetH Tryz.prog Rows.wordSetsRow.laid w) false (World.laidAll Tryz.prog os Rows.wordSetsRow.laid) #[.string ⟨#[]⟩] 8 (World.laidAll_os _ _ _)
      (World.shaped_of_ZipB (by kernel_rfl) (by kernel_rfl)) (by kernel_rfl) (by kernel_rfl) (by kernel_rfl)
      (by rw [plainM]; exact laidMet_laidAll _ (by kernel_rfl) (by kernel_rfl))) ?_
  intro W base args ds gs before hval0 hW hc _ hL _
  have hval : ∀ (j : Nat) t v, Tryz.f3.params[j]? = some t → args[j]? = some v → Value.okWide Tryz.prog W .any base t v := hval0
  have hW0 := hW
  obtain ⟨p, q, hA0, _, _, _, _⟩ := hW0
  have hA : DataW.TrodAll enc Tryz.prog W 0 (fun _ => true) true Tryz.f3.params.toList args.toList ds p := hA0
  rw [params3] at hA hval
  obtain ⟨v0, d0, rfl, rfl, h0⟩ := trodAll_one hA
  obtain ⟨s, rfl, rfl, rfl, _⟩ := open_string str9 (hval 0 9 v0 rfl rfl) h0
  have hX : laidMetH Tryz.prog Rows.wordSetsRow.laid W := hL
  rw [plainM] at hX
  obtain ⟨_, sy, hp, c, hl⟩ := law s.data.toList
  exact sy.contract laidP (s := Rows.wordSetsSpec) rfl (tb := 4) (by kernel_rfl) (by kernel_rfl) (by kernel_rfl) (fun ds' h => by
    rw [show Tryz.f3.params.toList.length = 1 by kernel_rfl] at h
    match ds', h with
    | [d], _ => rfl) hW (glob_laid sy.link gl0 hX) (avs := [.str s.data.toList]) ⟨.str _ _ rfl, trivial⟩ hl ⟨hp, c, rfl⟩
theorem holds : Rows.WordSetsSaid :=
  OpenClaim.holds_of_wide 3 Tryz.f3 rfl rfl rfl rfl rfl rfl rfl ⟨rfl, rfl, rfl, rfl, rfl⟩ rfl rfl rfl rfl rfl (by kernel_rfl) func3 (by kernel_rfl)
    (of_decide_eq_true (by kernel_rfl)) (by unfold Func.isWrapper; first | (rw [if_pos (by decide +kernel)]; kernel_rfl) | (rw [if_neg (by decide +kernel)]; exact ⟨rfl, rfl⟩))
    (fun os started H enc _ => lifted os started H enc)
theorem card_holds : Rows.WordSetsCardSaid :=
  Claim7.holds_tied_plain_at .later [] [.data, .data, .data, .data, .sentinel, .sentinel, .pinned] true (true, "becebdcf5cd1f7a83ea61847bffc0553bc1442947d566ca7dc7e992dea19601b") true holds (fun _ h => by cases h) (by kernel_rfl) (fun _ h => by cases h) wordSets_row_tie rfl ⟨rfl, rfl⟩ (by kernel_rfl) rfl
    (fun f fn hf hfn => by
      obtain rfl : f = 3 := Option.some.inj ((show Tryz.prog.funcNamed "lazarus/lazaruslaw16.WordSets" = some 3 by kernel_rfl).symm.trans hf) |>.symm
      obtain rfl : fn = Tryz.f3 := (Option.some.inj (func3.symm.trans hfn)).symm
      exact ⟨by kernel_rfl, fun j t ht => by
        rw [params3] at ht
        have hm : t ∈ [9] := by simpa using Array.mem_of_getElem? ht
        have hall : ([9].all fun u => !Tryz.prog.wantsStandIn u) = true := by kernel_rfl
        exact (show Tryz.prog.wantsStandIn t = false by simpa using List.all_eq_true.1 hall t hm)⟩)
    (by kernel_rfl)
end Go.Proofs.YtcligehgdmcblaaGreatDoor
