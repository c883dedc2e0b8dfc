/- Of the reckoning machine, and what is proved with it: texts joined by program. -/
import Derived.Test.YthnphjpjgcmdbaaU0
import Derived.Test.YthnphjpjgcmdbaaK2
set_option linter.all false

/- Package affine, and the document's transforms (04). Printed by gen/aff2.py. -/



namespace Go.UM
open Go.AM
set_option maxRecDepth 4000

@[simp] theorem nm_t3 (x : T3) : AV.namesL (t3 x) = [] := by simp [t3]
@[simp] theorem fl_t3 (x : T3) : AV.flatL (t3 x) = true := by simp [t3]
@[simp] theorem nm_af (a : Af) : AV.namesL a.row = [] := by simp [Af.row]
@[simp] theorem fl_af (a : Af) : AV.flatL a.row = true := by simp [Af.row]
theorem same4_c {R : Env} (h : N221 R) : R.Pc 221 [] (.agg same4.row) :=
  h.o221.enter 60 rfl fun X bb hfit hp => by
    refine sh ?_
    exact rT
theorem rsame4_c {R : Env} (h : N222 R) : R.Pc 222 [] (.agg same4.row) :=
  h.o222.enter 60 rfl fun X bb hfit hp => by
    refine sh ?_
    exact rT
theorem move4_c {R : Env} (h : N223 R) (v : T3) : R.Pc 223 [.agg (t3 v)] (.agg (move4 v).row) :=
  h.o223.enter 60 rfl fun X bb hfit hp => by
    refine sh ?_
    refine ICall.pure h.n221.o221.hb (same4_c h.n221) rfl ?_
    refine sh ?_
    exact rT
theorem rmove4_c {R : Env} (h : N224 R) (v : T3) : R.Pc 224 [.agg (t3 v)] (.agg (move4 v).row) :=
  h.o224.enter 60 rfl fun X bb hfit hp => by
    refine sh ?_
    refine ICall.pure h.n222.o222.hb (rsame4_c h.n222) rfl ?_
    refine sh ?_
    exact rT

theorem size4_c {R : Env} (h : N225 R) (l : List Int) (hl : l.length ≤ 1000) : R.Pc 225 [.isl 1 (slcK .i64 l)] (.agg (size4 l).row) :=
  h.o225.enter 100 rfl fun X bb hfit hp => by
    refine sh ?_
    refine ICall.pure h.n221.o221.hb (same4_c h.n221) rfl ?_
    match l, hl with
    | [], _ =>
      refine sh ?_
      refine ILoop.one 100 ?_
      refine sh ?_
      refine acnd_t (by decide) ?_
      refine sh ?_
      refine acnd_f (by simp) ?_
      refine sh ?_
      refine acnd_f (by simp) ?_
      refine sh ?_
      refine ILoop.one 100 ?_
      refine sh ?_
      refine acnd_t (by decide) ?_
      refine sh ?_
      refine acnd_f (by simp) ?_
      refine sh ?_
      refine acnd_f (by simp) ?_
      refine sh ?_
      refine ILoop.one 100 ?_
      refine sh ?_
      refine acnd_t (by decide) ?_
      refine sh ?_
      refine acnd_f (by simp) ?_
      refine sh ?_
      refine acnd_f (by simp) ?_
      refine sh ?_
      refine ILoop.one 100 ?_
      refine sh ?_
      refine acnd_f (by decide) ?_
      refine sh ?_
      exact rT
    | [x], _ =>
      refine sh ?_
      refine ILoop.one 100 ?_
      refine sh ?_
      refine acnd_t (by decide) ?_
      refine sh ?_
      refine acnd_f (by simp) ?_
      refine sh ?_
      refine acnd_t (by simp) ?_
      refine sh ?_
      refine eget_map (show _ = some x from rfl) ?_
      refine sh ?_
      refine ILoop.one 100 ?_
      refine sh ?_
      refine acnd_t (by decide) ?_
      refine sh ?_
      refine acnd_f (by simp) ?_
      refine sh ?_
      refine acnd_t (by simp) ?_
      refine sh ?_
      refine eget_map (show _ = some x from rfl) ?_
      refine sh ?_
      refine ILoop.one 100 ?_
      refine sh ?_
      refine acnd_t (by decide) ?_
      refine sh ?_
      refine acnd_f (by simp) ?_
      refine sh ?_
      refine acnd_t (by simp) ?_
      refine sh ?_
      refine eget_map (show _ = some x from rfl) ?_
      refine sh ?_
      refine ILoop.one 100 ?_
      refine sh ?_
      refine acnd_f (by decide) ?_
      refine sh ?_
      exact rT
    | [x, y], _ =>
      refine sh ?_
      refine ILoop.one 100 ?_
      refine sh ?_
      refine acnd_t (by decide) ?_
      refine sh ?_
      refine acnd_f (by simp) ?_
      refine sh ?_
      refine acnd_t (by simp) ?_
      refine sh ?_
      refine eget_map (show _ = some x from rfl) ?_
      refine sh ?_
      refine ILoop.one 100 ?_
      refine sh ?_
      refine acnd_t (by decide) ?_
      refine sh ?_
      refine acnd_f (by simp) ?_
      refine sh ?_
      refine acnd_t (by simp) ?_
      refine sh ?_
      refine eget_map (show _ = some x from rfl) ?_
      refine sh ?_
      refine ILoop.one 100 ?_
      refine sh ?_
      refine acnd_t (by decide) ?_
      refine sh ?_
      refine acnd_f (by simp) ?_
      refine sh ?_
      refine acnd_t (by simp) ?_
      refine sh ?_
      refine eget_map (show _ = some x from rfl) ?_
      refine sh ?_
      refine ILoop.one 100 ?_
      refine sh ?_
      refine acnd_f (by decide) ?_
      refine sh ?_
      exact rT
    | x :: y :: z :: r, hl =>
      simp only [List.length_cons] at hl
      refine sh ?_
      refine ILoop.one 100 ?_
      refine sh ?_
      refine acnd_t (by decide) ?_
      refine sh ?_
      refine acnd_t (by (simp; omega)) ?_
      refine sh ?_
      refine eget_map (show (x :: y :: z :: r : List Int)[0]? = some x from rfl) ?_
      refine sh ?_
      refine ILoop.one 100 ?_
      refine sh ?_
      refine acnd_t (by decide) ?_
      refine sh ?_
      refine acnd_t (by (simp; omega)) ?_
      refine sh ?_
      refine eget_map (show (x :: y :: z :: r : List Int)[1]? = some y from rfl) ?_
      refine sh ?_
      refine ILoop.one 100 ?_
      refine sh ?_
      refine acnd_t (by decide) ?_
      refine sh ?_
      refine acnd_t (by (simp; omega)) ?_
      refine sh ?_
      refine eget_map (show (x :: y :: z :: r : List Int)[2]? = some z from rfl) ?_
      refine sh ?_
      refine ILoop.one 100 ?_
      refine sh ?_
      refine acnd_f (by decide) ?_
      refine sh ?_
      exact rT
theorem rsize4_c {R : Env} (h : N226 R) (l : List Int) (hl : l.length ≤ 1000) : R.Pc 226 [.isl 1 (slcK .i64 l)] (.agg (size4 l).row) :=
  h.o226.enter 100 rfl fun X bb hfit hp => by
    refine sh ?_
    refine ICall.pure h.n222.o222.hb (rsame4_c h.n222) rfl ?_
    match l, hl with
    | [], _ =>
      refine sh ?_
      refine acnd_f (by simp) ?_
      refine sh ?_
      refine acnd_f (by simp) ?_
      refine sh ?_
      refine acnd_f (by simp) ?_
      refine sh ?_
      exact rT
    | [x], _ =>
      refine sh ?_
      refine acnd_t (by simp) ?_
      refine sh ?_
      refine eget_map (show ([x] : List Int)[0]? = some x from rfl) ?_
      refine sh ?_
      refine eget_map (show ([x] : List Int)[0]? = some x from rfl) ?_
      refine sh ?_
      refine eget_map (show ([x] : List Int)[0]? = some x from rfl) ?_
      refine sh ?_
      refine acnd_f (by simp) ?_
      refine sh ?_
      exact rT
    | [x, y], _ =>
      refine sh ?_
      refine acnd_f (by simp) ?_
      refine sh ?_
      refine acnd_t (by simp) ?_
      refine sh ?_
      refine eget_map (show ([x, y] : List Int)[0]? = some x from rfl) ?_
      refine sh ?_
      refine eget_map (show ([x, y] : List Int)[0]? = some x from rfl) ?_
      refine sh ?_
      refine eget_map (show ([x, y] : List Int)[0]? = some x from rfl) ?_
      refine sh ?_
      refine acnd_f (by simp) ?_
      refine sh ?_
      exact rT
    | x :: y :: z :: r, hl =>
      simp only [List.length_cons] at hl
      refine sh ?_
      refine acnd_f (by (simp; omega)) ?_
      refine sh ?_
      refine acnd_f (by (simp; omega)) ?_
      refine sh ?_
      refine acnd_t (by (simp; omega)) ?_
      refine sh ?_
      refine eget_map (show (x :: y :: z :: r : List Int)[0]? = some x from rfl) ?_
      refine sh ?_
      refine eget_map (show (x :: y :: z :: r : List Int)[1]? = some y from rfl) ?_
      refine sh ?_
      refine eget_map (show (x :: y :: z :: r : List Int)[2]? = some z from rfl) ?_
      refine sh ?_
      exact rT

theorem row4_c {R : Env} (h : N251 R) (a : Af) (i : Nat) (hi : i < 3) : R.Pc 251 [.agg a.mrow, .int .i64 i] (.agg (t3 (a.rw i))) := by
  match i, hi with
  | 0, _ =>
    exact h.o251.enter 60 rfl fun X bb hfit hp => by
      refine sh ?_
      exact rT
  | 1, _ =>
    exact h.o251.enter 60 rfl fun X bb hfit hp => by
      refine sh ?_
      exact rT
  | 2, _ =>
    exact h.o251.enter 60 rfl fun X bb hfit hp => by
      refine sh ?_
      exact rT
theorem col4_c {R : Env} (h : N258 R) (a : Af) (i : Nat) (hi : i < 3) : R.Pc 258 [.agg a.mrow, .int .i64 i] (.agg (t3 (a.cl i))) := by
  match i, hi with
  | 0, _ =>
    exact h.o258.enter 60 rfl fun X bb hfit hp => by
      refine sh ?_
      exact rT
  | 1, _ =>
    exact h.o258.enter 60 rfl fun X bb hfit hp => by
      refine sh ?_
      exact rT
  | 2, _ =>
    exact h.o258.enter 60 rfl fun X bb hfit hp => by
      refine sh ?_
      exact rT
theorem turn4_c {R : Env} (h : N231 R) {a : Af} {v : T3} (ha : a.I) (hv : v.I) : R.Pc 231 [.agg a.row, .agg (t3 v)] (.agg (t3 (turn4 a v))) :=
  h.o231.enter 60 rfl fun X bb hfit hp => by
    refine sh ?_
    refine ICall.pure h.n251.o251.hb (row4_c h.n251 a 0 (by omega)) rfl ?_
    refine sh ?_
    refine ICall.pure h.n252.o252.hb (dot_c h.n252 (ha.rw 0) hv) rfl ?_
    refine sh ?_
    refine ICall.pure h.n251.o251.hb (row4_c h.n251 a 1 (by omega)) rfl ?_
    refine sh ?_
    refine ICall.pure h.n252.o252.hb (dot_c h.n252 (ha.rw 1) hv) rfl ?_
    refine sh ?_
    refine ICall.pure h.n251.o251.hb (row4_c h.n251 a 2 (by omega)) rfl ?_
    refine sh ?_
    refine ICall.pure h.n252.o252.hb (dot_c h.n252 (ha.rw 2) hv) rfl ?_
    refine sh ?_
    exact rT
theorem apply4_c {R : Env} (h : N233 R) {a : Af} {v : T3} (ha : a.I) (hv : v.I) : R.Pc 233 [.agg a.row, .agg (t3 v)] (.agg (t3 (apply4 a v))) :=
  h.o233.enter 60 rfl fun X bb hfit hp => by
    refine sh ?_
    refine ICall.pure h.n231.o231.hb (turn4_c h.n231 ha hv) rfl ?_
    have i1 := turn_in a v
    have c1 := vadd_c h.n246 [turn4 a v, a.t] (by simp) (by intro x hx; simp at hx; rcases hx with rfl | rfl; exact i1; exact ha.t)
    rw [show [turn4 a v, a.t].foldl vadd z3 = apply4 a v by simp [vadd0 i1, apply4]] at c1
    refine sh ?_
    refine cM true [] (c1.mc h.n246.o246.hb) ?_
    repeat ((intro _u; clear _u); first | refine eK ?_ | refine eP ?_)
    refine sh ?_
    exact rT
theorem rturn4_c {R : Env} (h : N232 R) {a : Af} {v : T3} (ha : a.I) (hv : v.I) : R.Pc 232 [.agg a.row, .agg (t3 v)] (.agg (t3 (turn4 a v))) :=
  h.o232.enter 60 rfl fun X bb hfit hp => by
    refine sh ?_
    refine ILoop.one 100 ?_
    refine sh ?_
    refine acnd_t (by decide) ?_
    refine sh ?_
    refine ICall.pure h.n253.o253.hb (rdot_c h.n253 (ha.rw 0) hv) rfl ?_
    refine sh ?_
    refine ILoop.one 100 ?_
    refine sh ?_
    refine acnd_t (by decide) ?_
    refine sh ?_
    refine ICall.pure h.n253.o253.hb (rdot_c h.n253 (ha.rw 1) hv) rfl ?_
    refine sh ?_
    refine ILoop.one 100 ?_
    refine sh ?_
    refine acnd_t (by decide) ?_
    refine sh ?_
    refine ICall.pure h.n253.o253.hb (rdot_c h.n253 (ha.rw 2) hv) rfl ?_
    refine sh ?_
    refine ILoop.one 100 ?_
    refine sh ?_
    refine acnd_f (by decide) ?_
    refine sh ?_
    refine aelt_lit rfl ?_
    refine sh ?_
    refine aelt_lit rfl ?_
    refine sh ?_
    refine aelt_lit rfl ?_
    refine sh ?_
    exact rT
theorem rapply4_c {R : Env} (h : N234 R) {a : Af} {v : T3} (ha : a.I) (hv : v.I) : R.Pc 234 [.agg a.row, .agg (t3 v)] (.agg (t3 (apply4 a v))) :=
  h.o234.enter 60 rfl fun X bb hfit hp => by
    refine sh ?_
    refine ICall.pure h.n232.o232.hb (rturn4_c h.n232 ha hv) rfl ?_
    refine sh ?_
    refine ICall.pure h.n254.o254.hb (rvtwo_c h.n254 (turn_in a v) ha.t) rfl ?_
    refine sh ?_
    exact rT

/-! ### May one be? -/
theorem off40_e {x : Int} (hx : I64 x) : off40 x = decide (1099511627776 < sizeI x) := by
  rw [i64_iff] at hx
  unfold off40 sizeI sat
  rw [Bool.eq_iff_iff]
  simp only [Bool.or_eq_true, decide_eq_true_eq]
  repeat' split
  all_goals omega
theorem chk4_yes {a : Af} {x : Int} (hx : x ∈ ms a) (h : off40 x = true) : chk4 a = 2 := by
  unfold chk4
  rw [if_pos (List.any_eq_true.2 ⟨x, hx, h⟩)]
theorem check4_c {R : Env} (h : N235 R) {a : Af} (ha : a.I) : R.Pc 235 [.agg a.row] (.int .i64 (chk4 a)) :=
  h.o235.enter 100 rfl fun X bb hfit hp => by
    refine sh ?_
    refine ILoop.one 100 ?_
    refine sh ?_
    refine acnd_t (by decide) ?_
    refine sh ?_
    refine ICall.pure h.n255.o255.hb (fabs_c h.n255 ha.m0) rfl ?_
    refine sh ?_
    refine cS (fun o0 => ?_) (fun o0 => ?_)
    · rw [chk4_yes (x := a.m0) (by simp [ms]) (by rw [off40_e ha.m0]; simpa using o0)]
      refine sh ?_
      exact rT
    · skip
      refine sh ?_
      refine ILoop.one 100 ?_
      refine sh ?_
      refine acnd_t (by decide) ?_
      refine sh ?_
      refine ICall.pure h.n255.o255.hb (fabs_c h.n255 ha.m1) rfl ?_
      refine sh ?_
      refine cS (fun o1 => ?_) (fun o1 => ?_)
      · rw [chk4_yes (x := a.m1) (by simp [ms]) (by rw [off40_e ha.m1]; simpa using o1)]
        refine sh ?_
        exact rT
      · skip
        refine sh ?_
        refine ILoop.one 100 ?_
        refine sh ?_
        refine acnd_t (by decide) ?_
        refine sh ?_
        refine ICall.pure h.n255.o255.hb (fabs_c h.n255 ha.m2) rfl ?_
        refine sh ?_
        refine cS (fun o2 => ?_) (fun o2 => ?_)
        · rw [chk4_yes (x := a.m2) (by simp [ms]) (by rw [off40_e ha.m2]; simpa using o2)]
          refine sh ?_
          exact rT
        · skip
          refine sh ?_
          refine ILoop.one 100 ?_
          refine sh ?_
          refine acnd_t (by decide) ?_
          refine sh ?_
          refine ICall.pure h.n255.o255.hb (fabs_c h.n255 ha.m3) rfl ?_
          refine sh ?_
          refine cS (fun o3 => ?_) (fun o3 => ?_)
          · rw [chk4_yes (x := a.m3) (by simp [ms]) (by rw [off40_e ha.m3]; simpa using o3)]
            refine sh ?_
            exact rT
          · skip
            refine sh ?_
            refine ILoop.one 100 ?_
            refine sh ?_
            refine acnd_t (by decide) ?_
            refine sh ?_
            refine ICall.pure h.n255.o255.hb (fabs_c h.n255 ha.m4) rfl ?_
            refine sh ?_
            refine cS (fun o4 => ?_) (fun o4 => ?_)
            · rw [chk4_yes (x := a.m4) (by simp [ms]) (by rw [off40_e ha.m4]; simpa using o4)]
              refine sh ?_
              exact rT
            · skip
              refine sh ?_
              refine ILoop.one 100 ?_
              refine sh ?_
              refine acnd_t (by decide) ?_
              refine sh ?_
              refine ICall.pure h.n255.o255.hb (fabs_c h.n255 ha.m5) rfl ?_
              refine sh ?_
              refine cS (fun o5 => ?_) (fun o5 => ?_)
              · rw [chk4_yes (x := a.m5) (by simp [ms]) (by rw [off40_e ha.m5]; simpa using o5)]
                refine sh ?_
                exact rT
              · skip
                refine sh ?_
                refine ILoop.one 100 ?_
                refine sh ?_
                refine acnd_t (by decide) ?_
                refine sh ?_
                refine ICall.pure h.n255.o255.hb (fabs_c h.n255 ha.m6) rfl ?_
                refine sh ?_
                refine cS (fun o6 => ?_) (fun o6 => ?_)
                · rw [chk4_yes (x := a.m6) (by simp [ms]) (by rw [off40_e ha.m6]; simpa using o6)]
                  refine sh ?_
                  exact rT
                · skip
                  refine sh ?_
                  refine ILoop.one 100 ?_
                  refine sh ?_
                  refine acnd_t (by decide) ?_
                  refine sh ?_
                  refine ICall.pure h.n255.o255.hb (fabs_c h.n255 ha.m7) rfl ?_
                  refine sh ?_
                  refine cS (fun o7 => ?_) (fun o7 => ?_)
                  · rw [chk4_yes (x := a.m7) (by simp [ms]) (by rw [off40_e ha.m7]; simpa using o7)]
                    refine sh ?_
                    exact rT
                  · skip
                    refine sh ?_
                    refine ILoop.one 100 ?_
                    refine sh ?_
                    refine acnd_t (by decide) ?_
                    refine sh ?_
                    refine ICall.pure h.n255.o255.hb (fabs_c h.n255 ha.m8) rfl ?_
                    refine sh ?_
                    refine cS (fun o8 => ?_) (fun o8 => ?_)
                    · rw [chk4_yes (x := a.m8) (by simp [ms]) (by rw [off40_e ha.m8]; simpa using o8)]
                      refine sh ?_
                      exact rT
                    · skip
                      refine sh ?_
                      refine ILoop.one 100 ?_
                      refine sh ?_
                      refine acnd_f (by decide) ?_
                      have hno : (ms a).any off40 = false := by
                        simp only [ms, List.any_cons, List.any_nil, (off40_e ha.m0).trans (decide_eq_false (by omega)), (off40_e ha.m1).trans (decide_eq_false (by omega)), (off40_e ha.m2).trans (decide_eq_false (by omega)), (off40_e ha.m3).trans (decide_eq_false (by omega)), (off40_e ha.m4).trans (decide_eq_false (by omega)), (off40_e ha.m5).trans (decide_eq_false (by omega)), (off40_e ha.m6).trans (decide_eq_false (by omega)), (off40_e ha.m7).trans (decide_eq_false (by omega)), (off40_e ha.m8).trans (decide_eq_false (by omega))]
                        rfl
                      unfold chk4
                      rw [if_neg (by rw [hno]; simp)]
                      refine sh ?_
                      refine ICall.pure h.n256.o256.hb (vmost_c h.n256 ha.t) rfl ?_
                      refine sh ?_
                      refine cS (fun w => ?_) (fun w => ?_)
                      · rw [if_pos (by omega)]
                        refine sh ?_
                        exact rT
                      · rw [if_neg (by omega)]
                        refine sh ?_
                        exact rT
theorem rcheck4_c {R : Env} (h : N236 R) {a : Af} (ha : a.I) : R.Pc 236 [.agg a.row] (.int .i64 (chk4 a)) :=
  h.o236.enter 100 rfl fun X bb hfit hp => by
    refine sh ?_
    refine ILoop.one 100 ?_
    refine sh ?_
    refine acnd_t (by decide) ?_
    refine sh ?_
    refine cS (fun o0 => ?_) (fun o0 => ?_)
    · rw [chk4_yes (x := a.m0) (by simp [ms]) (by simp [off40]; omega)]
      refine sh ?_
      exact rT
    · refine sh ?_
      refine cS (fun q0 => ?_) (fun q0 => ?_)
      · rw [chk4_yes (x := a.m0) (by simp [ms]) (by simp [off40]; omega)]
        refine sh ?_
        exact rT
      · skip
        refine sh ?_
        refine ILoop.one 100 ?_
        refine sh ?_
        refine acnd_t (by decide) ?_
        refine sh ?_
        refine cS (fun o1 => ?_) (fun o1 => ?_)
        · rw [chk4_yes (x := a.m1) (by simp [ms]) (by simp [off40]; omega)]
          refine sh ?_
          exact rT
        · refine sh ?_
          refine cS (fun q1 => ?_) (fun q1 => ?_)
          · rw [chk4_yes (x := a.m1) (by simp [ms]) (by simp [off40]; omega)]
            refine sh ?_
            exact rT
          · skip
            refine sh ?_
            refine ILoop.one 100 ?_
            refine sh ?_
            refine acnd_t (by decide) ?_
            refine sh ?_
            refine cS (fun o2 => ?_) (fun o2 => ?_)
            · rw [chk4_yes (x := a.m2) (by simp [ms]) (by simp [off40]; omega)]
              refine sh ?_
              exact rT
            · refine sh ?_
              refine cS (fun q2 => ?_) (fun q2 => ?_)
              · rw [chk4_yes (x := a.m2) (by simp [ms]) (by simp [off40]; omega)]
                refine sh ?_
                exact rT
              · skip
                refine sh ?_
                refine ILoop.one 100 ?_
                refine sh ?_
                refine acnd_t (by decide) ?_
                refine sh ?_
                refine cS (fun o3 => ?_) (fun o3 => ?_)
                · rw [chk4_yes (x := a.m3) (by simp [ms]) (by simp [off40]; omega)]
                  refine sh ?_
                  exact rT
                · refine sh ?_
                  refine cS (fun q3 => ?_) (fun q3 => ?_)
                  · rw [chk4_yes (x := a.m3) (by simp [ms]) (by simp [off40]; omega)]
                    refine sh ?_
                    exact rT
                  · skip
                    refine sh ?_
                    refine ILoop.one 100 ?_
                    refine sh ?_
                    refine acnd_t (by decide) ?_
                    refine sh ?_
                    refine cS (fun o4 => ?_) (fun o4 => ?_)
                    · rw [chk4_yes (x := a.m4) (by simp [ms]) (by simp [off40]; omega)]
                      refine sh ?_
                      exact rT
                    · refine sh ?_
                      refine cS (fun q4 => ?_) (fun q4 => ?_)
                      · rw [chk4_yes (x := a.m4) (by simp [ms]) (by simp [off40]; omega)]
                        refine sh ?_
                        exact rT
                      · skip
                        refine sh ?_
                        refine ILoop.one 100 ?_
                        refine sh ?_
                        refine acnd_t (by decide) ?_
                        refine sh ?_
                        refine cS (fun o5 => ?_) (fun o5 => ?_)
                        · rw [chk4_yes (x := a.m5) (by simp [ms]) (by simp [off40]; omega)]
                          refine sh ?_
                          exact rT
                        · refine sh ?_
                          refine cS (fun q5 => ?_) (fun q5 => ?_)
                          · rw [chk4_yes (x := a.m5) (by simp [ms]) (by simp [off40]; omega)]
                            refine sh ?_
                            exact rT
                          · skip
                            refine sh ?_
                            refine ILoop.one 100 ?_
                            refine sh ?_
                            refine acnd_t (by decide) ?_
                            refine sh ?_
                            refine cS (fun o6 => ?_) (fun o6 => ?_)
                            · rw [chk4_yes (x := a.m6) (by simp [ms]) (by simp [off40]; omega)]
                              refine sh ?_
                              exact rT
                            · refine sh ?_
                              refine cS (fun q6 => ?_) (fun q6 => ?_)
                              · rw [chk4_yes (x := a.m6) (by simp [ms]) (by simp [off40]; omega)]
                                refine sh ?_
                                exact rT
                              · skip
                                refine sh ?_
                                refine ILoop.one 100 ?_
                                refine sh ?_
                                refine acnd_t (by decide) ?_
                                refine sh ?_
                                refine cS (fun o7 => ?_) (fun o7 => ?_)
                                · rw [chk4_yes (x := a.m7) (by simp [ms]) (by simp [off40]; omega)]
                                  refine sh ?_
                                  exact rT
                                · refine sh ?_
                                  refine cS (fun q7 => ?_) (fun q7 => ?_)
                                  · rw [chk4_yes (x := a.m7) (by simp [ms]) (by simp [off40]; omega)]
                                    refine sh ?_
                                    exact rT
                                  · skip
                                    refine sh ?_
                                    refine ILoop.one 100 ?_
                                    refine sh ?_
                                    refine acnd_t (by decide) ?_
                                    refine sh ?_
                                    refine cS (fun o8 => ?_) (fun o8 => ?_)
                                    · rw [chk4_yes (x := a.m8) (by simp [ms]) (by simp [off40]; omega)]
                                      refine sh ?_
                                      exact rT
                                    · refine sh ?_
                                      refine cS (fun q8 => ?_) (fun q8 => ?_)
                                      · rw [chk4_yes (x := a.m8) (by simp [ms]) (by simp [off40]; omega)]
                                        refine sh ?_
                                        exact rT
                                      · skip
                                        refine sh ?_
                                        refine ILoop.one 100 ?_
                                        refine sh ?_
                                        refine acnd_f (by decide) ?_
                                        have hno : (ms a).any off40 = false := by
                                          simp only [ms, List.any_cons, List.any_nil, (show off40 a.m0 = false by simp [off40]; omega), (show off40 a.m1 = false by simp [off40]; omega), (show off40 a.m2 = false by simp [off40]; omega), (show off40 a.m3 = false by simp [off40]; omega), (show off40 a.m4 = false by simp [off40]; omega), (show off40 a.m5 = false by simp [off40]; omega), (show off40 a.m6 = false by simp [off40]; omega), (show off40 a.m7 = false by simp [off40]; omega), (show off40 a.m8 = false by simp [off40]; omega)]
                                          rfl
                                        unfold chk4
                                        rw [if_neg (by rw [hno]; simp)]
                                        refine sh ?_
                                        refine ICall.pure h.n257.o257.hb (rmost_c h.n257 ha.t) rfl ?_
                                        refine sh ?_
                                        refine cS (fun w => ?_) (fun w => ?_)
                                        · rw [if_pos (by omega)]
                                          refine sh ?_
                                          exact rT
                                        · rw [if_neg (by omega)]
                                          refine sh ?_
                                          exact rT

/-! ### Places of the grid -/
theorem snap4_c {R : Env} (h : N243 R) {v : T3} (hv : v.I) : R.Pc 243 [.agg (t3 v)] (.tup [.agg (t3 (snap4 v).1), .int .i64 (snap4 v).2]) :=
  h.o243.enter 100 rfl fun X bb hfit hp => by
    refine sh ?_
    refine ICall.pure h.n260.o260.hb (fround_c h.n260 hv.1) rfl ?_
    refine sh ?_
    refine ICall.pure h.n260.o260.hb (fround_c h.n260 hv.2.1) rfl ?_
    refine sh ?_
    refine ICall.pure h.n260.o260.hb (fround_c h.n260 hv.2.2) rfl ?_
    generalize hq : snap4 v = q
    unfold snap4 rnd3 at hq
    generalize rnd v.a = x at *
    generalize rnd v.b = y at *
    generalize rnd v.c = z at *
    unfold offG at hq
    refine sh ?_
    refine cS (fun h1 => ?_) (fun h1 => ?_)
    · rw [if_pos (by simp; omega)] at hq
      subst hq
      refine sh ?_
      exact rT
    · refine sh ?_
      refine cS (fun h2 => ?_) (fun h2 => ?_)
      · rw [if_pos (by simp; omega)] at hq
        subst hq
        refine sh ?_
        exact rT
      · rw [if_neg (by simp; omega)] at hq
        subst hq
        refine sh ?_
        exact rT
theorem rsnap4_c {R : Env} (h : N244 R) {v : T3} (hv : v.I) : R.Pc 244 [.agg (t3 v)] (.tup [.agg (t3 (snap4 v).1), .int .i64 (snap4 v).2]) :=
  h.o244.enter 100 rfl fun X bb hfit hp => by
    refine sh ?_
    refine ICall.pure h.n261.o261.hb (rround_c h.n261 hv.1) rfl ?_
    refine sh ?_
    refine ICall.pure h.n261.o261.hb (rround_c h.n261 hv.2.1) rfl ?_
    refine sh ?_
    refine ICall.pure h.n261.o261.hb (rround_c h.n261 hv.2.2) rfl ?_
    generalize hq : snap4 v = q
    unfold snap4 rnd3 at hq
    generalize rnd v.a = x at *
    generalize rnd v.b = y at *
    generalize rnd v.c = z at *
    unfold offG at hq
    by_cases ho : (65536 < x ∨ x < -65536) ∨ (65536 < y ∨ y < -65536) ∨ (65536 < z ∨ z < -65536)
    · rw [if_pos (by simp; omega)] at hq
      subst hq
      refine sh ?_
      refine cS (fun h1 => ?_) (fun h1 => ?_)
      · refine sh ?_
        exact rT
      · refine sh ?_
        refine cS (fun h2 => ?_) (fun h2 => ?_)
        · refine sh ?_
          exact rT
        · refine sh ?_
          refine cS (fun h3 => ?_) (fun h3 => ?_)
          · refine sh ?_
            exact rT
          · refine sh ?_
            refine cS (fun h4 => ?_) (fun h4 => ?_)
            · refine sh ?_
              exact rT
            · refine sh ?_
              refine cS (fun h5 => ?_) (fun h5 => ?_)
              · refine sh ?_
                exact rT
              · refine sh ?_
                refine acnd_t (by (simp; omega)) ?_
                refine sh ?_
                exact rT
    · rw [if_neg (by simp; omega)] at hq
      subst hq
      refine sh ?_
      refine acnd_f (by (simp; omega)) ?_
      refine sh ?_
      refine acnd_f (by (simp; omega)) ?_
      refine sh ?_
      refine acnd_f (by (simp; omega)) ?_
      refine sh ?_
      refine acnd_f (by (simp; omega)) ?_
      refine sh ?_
      refine acnd_f (by (simp; omega)) ?_
      refine sh ?_
      refine acnd_f (by (simp; omega)) ?_
      refine sh ?_
      exact rT
theorem place4_c {R : Env} (h : N241 R) {a : Af} {p : T3} (ha : a.I) (hp' : p.I) : R.Pc 241 [.agg a.row, .agg (t3 p)] (.tup [.agg (t3 (place4 a p).1), .int .i64 (place4 a p).2]) :=
  h.o241.enter 100 rfl fun X bb hfit hp => by
    refine sh ?_
    refine ICall.pure h.n235.o235.hb (check4_c h.n235 ha) rfl ?_
    generalize hq : place4 a p = q
    unfold place4 at hq
    by_cases hc : chk4 a = 0
    · rw [if_neg (by simpa using hc)] at hq
      refine sh ?_
      refine acnd_f (by simpa using hc) ?_
      refine sh ?_
      refine ICall.pure h.n249.o249.hb (vofp_c h.n249 hp') rfl ?_
      refine sh ?_
      refine ICall.pure h.n233.o233.hb (apply4_c h.n233 ha (vof_in p)) rfl ?_
      refine sh ?_
      refine ICall.pure h.n243.o243.hb (snap4_c h.n243 (apply_in a (vof p))) rfl ?_
      subst hq
      refine sh ?_
      exact rT
    · rw [if_pos (by simpa using hc)] at hq
      refine sh ?_
      refine acnd_t (by simpa using hc) ?_
      subst hq
      refine sh ?_
      exact rT
theorem rplace4_c {R : Env} (h : N242 R) {a : Af} {p : T3} (ha : a.I) (hp' : p.I) : R.Pc 242 [.agg a.row, .agg (t3 p)] (.tup [.agg (t3 (place4 a p).1), .int .i64 (place4 a p).2]) :=
  h.o242.enter 100 rfl fun X bb hfit hp => by
    refine sh ?_
    refine ICall.pure h.n236.o236.hb (rcheck4_c h.n236 ha) rfl ?_
    generalize hq : place4 a p = q
    unfold place4 at hq
    by_cases hc : chk4 a = 0
    · rw [if_neg (by simpa using hc)] at hq
      refine sh ?_
      refine acnd_f (by simpa using hc) ?_
      refine sh ?_
      refine ICall.pure h.n259.o259.hb (rvof_c h.n259 hp') rfl ?_
      refine sh ?_
      refine ICall.pure h.n234.o234.hb (rapply4_c h.n234 ha (vof_in p)) rfl ?_
      refine sh ?_
      refine ICall.pure h.n244.o244.hb (rsnap4_c h.n244 (apply_in a (vof p))) rfl ?_
      subst hq
      refine sh ?_
      exact rT
    · rw [if_pos (by simpa using hc)] at hq
      refine sh ?_
      refine acnd_t (by simpa using hc) ?_
      subst hq
      refine sh ?_
      exact rT
end Go.UM

/- Package affine, and the document's transforms (04), part 2: axes, one behind the other. Printed by gen/aff3.py. -/

namespace Go.UM
open Go.AM
set_option maxRecDepth 4000

def slA (l : List Af) : List (List AV) := l.map Af.row
@[simp] theorem slA_length (l : List Af) : (slA l).length = l.length := by simp [slA]
@[simp] theorem slA_NmL (l : List Af) : NmL (slA l) := by simp [slA]
@[simp] theorem slA_FlL (l : List Af) : FlL (slA l) := by simp [slA]
instance {l : List Af} : LenOf (slA l) l.length := ⟨slA_length l⟩
theorem slA_take (l : List Af) (k : Nat) : (slA l).take k = slA (l.take k) := by simp [slA, List.map_take]
theorem capA (b : List Af) (m : Int) : (slA b).take (min (b.length : Int) m).toNat = slA (b.take m.toNat) := by rw [slA_take, take_cap]

theorem axes4_c {R : Env} (h : N227 R) (l : List T3) (hl : l.length ≤ 1000) : R.Pc 227 [.isl 3 (slc3 l)] (.agg (axes4 l).row) :=
  h.o227.enter 100 rfl fun X bb hfit hp => by
    refine sh ?_
    refine ICall.pure h.n221.o221.hb (same4_c h.n221) rfl ?_
    match l, hl with
    | [], _ =>
      refine sh ?_
      refine ILoop.one 100 ?_
      refine sh ?_
      refine acnd_f (by simp) ?_
      refine sh ?_
      refine acnd_f (by simp) ?_
      refine sh ?_
      exact rT
    | [x], _ =>
      refine sh ?_
      refine ILoop.one 100 ?_
      refine sh ?_
      refine acnd_t (by simp) ?_
      refine sh ?_
      refine eget_map (show ([x] : List T3)[0]? = some x from rfl) ?_
      refine sh ?_
      refine acnd_t (by decide) ?_
      refine sh ?_
      refine ILoop.one 100 ?_
      refine sh ?_
      refine acnd_f (by simp) ?_
      refine sh ?_
      refine acnd_f (by simp) ?_
      refine sh ?_
      exact rT
    | [x, y], _ =>
      refine sh ?_
      refine ILoop.one 100 ?_
      refine sh ?_
      refine acnd_t (by simp) ?_
      refine sh ?_
      refine eget_map (show ([x, y] : List T3)[0]? = some x from rfl) ?_
      refine sh ?_
      refine acnd_t (by decide) ?_
      refine sh ?_
      refine ILoop.one 100 ?_
      refine sh ?_
      refine acnd_t (by simp) ?_
      refine sh ?_
      refine eget_map (show ([x, y] : List T3)[1]? = some y from rfl) ?_
      refine sh ?_
      refine acnd_t (by decide) ?_
      refine sh ?_
      refine ILoop.one 100 ?_
      refine sh ?_
      refine acnd_f (by simp) ?_
      refine sh ?_
      refine acnd_f (by simp) ?_
      refine sh ?_
      exact rT
    | [x, y, z], _ =>
      refine sh ?_
      refine ILoop.one 100 ?_
      refine sh ?_
      refine acnd_t (by simp) ?_
      refine sh ?_
      refine eget_map (show ([x, y, z] : List T3)[0]? = some x from rfl) ?_
      refine sh ?_
      refine acnd_t (by decide) ?_
      refine sh ?_
      refine ILoop.one 100 ?_
      refine sh ?_
      refine acnd_t (by simp) ?_
      refine sh ?_
      refine eget_map (show ([x, y, z] : List T3)[1]? = some y from rfl) ?_
      refine sh ?_
      refine acnd_t (by decide) ?_
      refine sh ?_
      refine ILoop.one 100 ?_
      refine sh ?_
      refine acnd_t (by simp) ?_
      refine sh ?_
      refine eget_map (show ([x, y, z] : List T3)[2]? = some z from rfl) ?_
      refine sh ?_
      refine acnd_t (by decide) ?_
      refine sh ?_
      refine ILoop.one 100 ?_
      refine sh ?_
      refine acnd_f (by simp) ?_
      refine sh ?_
      refine acnd_f (by simp) ?_
      refine sh ?_
      exact rT
    | x :: y :: z :: t :: r, hl =>
      simp only [List.length_cons] at hl
      refine sh ?_
      refine ILoop.one 100 ?_
      refine sh ?_
      refine acnd_t (by (simp; omega)) ?_
      refine sh ?_
      refine eget_map (show (x :: y :: z :: t :: r : List T3)[0]? = some x from rfl) ?_
      refine sh ?_
      refine acnd_t (by decide) ?_
      refine sh ?_
      refine ILoop.one 100 ?_
      refine sh ?_
      refine acnd_t (by (simp; omega)) ?_
      refine sh ?_
      refine eget_map (show (x :: y :: z :: t :: r : List T3)[1]? = some y from rfl) ?_
      refine sh ?_
      refine acnd_t (by decide) ?_
      refine sh ?_
      refine ILoop.one 100 ?_
      refine sh ?_
      refine acnd_t (by (simp; omega)) ?_
      refine sh ?_
      refine eget_map (show (x :: y :: z :: t :: r : List T3)[2]? = some z from rfl) ?_
      refine sh ?_
      refine acnd_t (by decide) ?_
      refine sh ?_
      refine lPa 100 (fun k : Nat => 3 ≤ k ∧ k ≤ r.length + 4) (fun k => ⟨[(0, .isl 3 (slc3 (x :: y :: z :: t :: r))), (2, .loc 0 1 0 0), (3, .loc 1 1 0 0), (7, .isl 3 (slc3 (x :: y :: z :: t :: r))), (8, .int .i64 (r.length + 4 : Nat)), (9, .int .i64 k)], [(1, .var (R.ty 33) (cols x y z z3).row), (0, .var (R.ty 33) [.int .i64 0, .int .i64 0, .int .i64 0, .int .i64 0, .int .i64 0, .int .i64 0, .int .i64 0, .int .i64 0, .int .i64 0, .int .i64 0, .int .i64 0, .int .i64 0])], 2⟩) (fun k => r.length + 4 - k) (3) ?_ ?_
      · omega
      · intro k hk
        dsimp only
        refine sh ?_
        refine cS (fun h4 => ?_) (fun h4 => ?_)
        · obtain ⟨u, hu⟩ : ∃ u, (x :: y :: z :: t :: r : List T3)[k]? = some u := ⟨_, List.getElem?_eq_getElem (by simp; omega)⟩
          refine sh ?_
          refine eget_map hu ?_
          refine sh ?_
          refine acnd_f (by (simp; omega)) ?_
          refine sh ?_
          refine nXa (k + 1) ?_ ?_
          · omega
          · omega
        · refine sh ?_
          refine acnd_t (by (simp; omega)) ?_
          refine sh ?_
          refine eget_map (show (x :: y :: z :: t :: r : List T3)[3]? = some t from rfl) ?_
          refine sh ?_
          exact rT
theorem raxes4_c {R : Env} (h : N228 R) (l : List T3) (hl : l.length ≤ 1000) : R.Pc 228 [.isl 3 (slc3 l)] (.agg (axes4 l).row) :=
  h.o228.enter 100 rfl fun X bb hfit hp => by
    refine sh ?_
    refine ICall.pure h.n222.o222.hb (rsame4_c h.n222) rfl ?_
    match l, hl with
    | [], _ =>
      refine sh ?_
      refine ILoop.one 100 ?_
      refine sh ?_
      refine acnd_f (by simp) ?_
      refine sh ?_
      refine acnd_f (by simp) ?_
      refine sh ?_
      exact rT
    | [x], _ =>
      refine sh ?_
      refine ILoop.one 100 ?_
      refine sh ?_
      refine acnd_t (by simp) ?_
      refine sh ?_
      refine acnd_t (by decide) ?_
      refine sh ?_
      refine eget_map (show ([x] : List T3)[0]? = some x from rfl) ?_
      refine sh ?_
      refine eget_map (show ([x] : List T3)[0]? = some x from rfl) ?_
      refine sh ?_
      refine eget_map (show ([x] : List T3)[0]? = some x from rfl) ?_
      refine sh ?_
      refine ILoop.one 100 ?_
      refine sh ?_
      refine acnd_f (by simp) ?_
      refine sh ?_
      refine acnd_f (by simp) ?_
      refine sh ?_
      exact rT
    | [x, y], _ =>
      refine sh ?_
      refine ILoop.one 100 ?_
      refine sh ?_
      refine acnd_t (by simp) ?_
      refine sh ?_
      refine acnd_t (by decide) ?_
      refine sh ?_
      refine eget_map (show ([x, y] : List T3)[0]? = some x from rfl) ?_
      refine sh ?_
      refine eget_map (show ([x, y] : List T3)[0]? = some x from rfl) ?_
      refine sh ?_
      refine eget_map (show ([x, y] : List T3)[0]? = some x from rfl) ?_
      refine sh ?_
      refine ILoop.one 100 ?_
      refine sh ?_
      refine acnd_t (by simp) ?_
      refine sh ?_
      refine acnd_t (by decide) ?_
      refine sh ?_
      refine eget_map (show ([x, y] : List T3)[1]? = some y from rfl) ?_
      refine sh ?_
      refine eget_map (show ([x, y] : List T3)[1]? = some y from rfl) ?_
      refine sh ?_
      refine eget_map (show ([x, y] : List T3)[1]? = some y from rfl) ?_
      refine sh ?_
      refine ILoop.one 100 ?_
      refine sh ?_
      refine acnd_f (by simp) ?_
      refine sh ?_
      refine acnd_f (by simp) ?_
      refine sh ?_
      exact rT
    | [x, y, z], _ =>
      refine sh ?_
      refine ILoop.one 100 ?_
      refine sh ?_
      refine acnd_t (by simp) ?_
      refine sh ?_
      refine acnd_t (by decide) ?_
      refine sh ?_
      refine eget_map (show ([x, y, z] : List T3)[0]? = some x from rfl) ?_
      refine sh ?_
      refine eget_map (show ([x, y, z] : List T3)[0]? = some x from rfl) ?_
      refine sh ?_
      refine eget_map (show ([x, y, z] : List T3)[0]? = some x from rfl) ?_
      refine sh ?_
      refine ILoop.one 100 ?_
      refine sh ?_
      refine acnd_t (by simp) ?_
      refine sh ?_
      refine acnd_t (by decide) ?_
      refine sh ?_
      refine eget_map (show ([x, y, z] : List T3)[1]? = some y from rfl) ?_
      refine sh ?_
      refine eget_map (show ([x, y, z] : List T3)[1]? = some y from rfl) ?_
      refine sh ?_
      refine eget_map (show ([x, y, z] : List T3)[1]? = some y from rfl) ?_
      refine sh ?_
      refine ILoop.one 100 ?_
      refine sh ?_
      refine acnd_t (by simp) ?_
      refine sh ?_
      refine acnd_t (by decide) ?_
      refine sh ?_
      refine eget_map (show ([x, y, z] : List T3)[2]? = some z from rfl) ?_
      refine sh ?_
      refine eget_map (show ([x, y, z] : List T3)[2]? = some z from rfl) ?_
      refine sh ?_
      refine eget_map (show ([x, y, z] : List T3)[2]? = some z from rfl) ?_
      refine sh ?_
      refine ILoop.one 100 ?_
      refine sh ?_
      refine acnd_f (by simp) ?_
      refine sh ?_
      refine acnd_f (by simp) ?_
      refine sh ?_
      exact rT
    | x :: y :: z :: t :: r, hl =>
      simp only [List.length_cons] at hl
      refine sh ?_
      refine ILoop.one 100 ?_
      refine sh ?_
      refine acnd_t (by (simp; omega)) ?_
      refine sh ?_
      refine acnd_t (by decide) ?_
      refine sh ?_
      refine eget_map (show (x :: y :: z :: t :: r : List T3)[0]? = some x from rfl) ?_
      refine sh ?_
      refine eget_map (show (x :: y :: z :: t :: r : List T3)[0]? = some x from rfl) ?_
      refine sh ?_
      refine eget_map (show (x :: y :: z :: t :: r : List T3)[0]? = some x from rfl) ?_
      refine sh ?_
      refine ILoop.one 100 ?_
      refine sh ?_
      refine acnd_t (by (simp; omega)) ?_
      refine sh ?_
      refine acnd_t (by decide) ?_
      refine sh ?_
      refine eget_map (show (x :: y :: z :: t :: r : List T3)[1]? = some y from rfl) ?_
      refine sh ?_
      refine eget_map (show (x :: y :: z :: t :: r : List T3)[1]? = some y from rfl) ?_
      refine sh ?_
      refine eget_map (show (x :: y :: z :: t :: r : List T3)[1]? = some y from rfl) ?_
      refine sh ?_
      refine ILoop.one 100 ?_
      refine sh ?_
      refine acnd_t (by (simp; omega)) ?_
      refine sh ?_
      refine acnd_t (by decide) ?_
      refine sh ?_
      refine eget_map (show (x :: y :: z :: t :: r : List T3)[2]? = some z from rfl) ?_
      refine sh ?_
      refine eget_map (show (x :: y :: z :: t :: r : List T3)[2]? = some z from rfl) ?_
      refine sh ?_
      refine eget_map (show (x :: y :: z :: t :: r : List T3)[2]? = some z from rfl) ?_
      refine sh ?_
      refine ILoop.one 100 ?_
      refine sh ?_
      refine acnd_t (by (simp; omega)) ?_
      refine sh ?_
      refine acnd_f (by decide) ?_
      refine sh ?_
      refine acnd_t (by (simp; omega)) ?_
      refine sh ?_
      refine eget_map (show (x :: y :: z :: t :: r : List T3)[3]? = some t from rfl) ?_
      refine sh ?_
      exact rT

theorem then4_succ {l : List Af} {k : Nat} {g : Af} (h : l[k]? = some g) (hk : 1 ≤ k) : then4 (l.take (k + 1)) = comp4 (then4 (l.take k)) g := by
  match l, k, h, hk with
  | f :: r, m + 1, h, _ =>
    have h : r[m]? = some g := by simpa using h
    rw [List.take_succ_cons, List.take_succ_cons, take_succ_get h]
    simp [then4, List.foldl_append]
theorem then4_one {l : List Af} {g : Af} (h : l[0]? = some g) : then4 (l.take 1) = g := by
  match l, h with
  | f :: r, h =>
    have h : f = g := by simpa using h
    simp [then4, h]
theorem then4_c {R : Env} (h : N238 R) (l : List Af) (hl : l.length ≤ 1000) (hi : ∀ a ∈ l, a.I) : R.Pc 238 [.isl 12 (slA l)] (.agg (then4 l).row) :=
  h.o238.enter 100 rfl fun X bb hfit hp => by
    refine sh ?_
    refine ICall.pure h.n221.o221.hb (same4_c h.n221) rfl ?_
    refine sh ?_
    refine lPa 100 (fun s : Nat × Af => s.1 ≤ l.length ∧ s.2.I ∧ then4 (l.take s.1) = s.2) (fun s => ⟨[(2, .loc 0 1 0 0), (3, .loc 1 1 0 0), (7, .isl 12 (slA l)), (8, .int .i64 l.length), (9, .int .i64 s.1)], [(1, .var (R.ty 33) s.2.row), (0, .var (R.ty 33) [.int .i64 0, .int .i64 0, .int .i64 0, .int .i64 0, .int .i64 0, .int .i64 0, .int .i64 0, .int .i64 0, .int .i64 0, .int .i64 0, .int .i64 0, .int .i64 0])], 2⟩) (fun s => l.length - s.1) ((0, same4)) ?_ ?_
    · exact ⟨Nat.zero_le _, same_in, rfl⟩
    · rintro ⟨k, f⟩ ⟨h1, h2, h3⟩
      dsimp only at h1 h2 h3 ⊢
      refine sh ?_
      refine cS (fun h4 => ?_) (fun h4 => ?_)
      · obtain ⟨g, hg⟩ : ∃ u_, l[k]? = some u_ := ⟨_, List.getElem?_eq_getElem (by first | omega | (simp <;> omega))⟩
        refine sh ?_
        refine eget_map hg ?_
        have ig := hi g (List.mem_of_getElem? hg)
        by_cases h0 : k = 0
        · subst h0
          refine sh ?_
          refine acnd_t (by rfl) ?_
          refine sh ?_
          refine nXa ((1, g)) ?_ ?_
          · exact ⟨by omega, ig, then4_one hg⟩
          · omega
        · refine sh ?_
          refine acnd_f (by (simp; omega)) ?_
          refine sh ?_
          refine ICall.pure h.n258.o258.hb (col4_c h.n258 f 0 (by omega)) rfl ?_
          refine sh ?_
          refine ICall.pure h.n231.o231.hb (turn4_c h.n231 ig (h2.cl 0)) rfl ?_
          refine sh ?_
          refine ICall.pure h.n258.o258.hb (col4_c h.n258 f 1 (by omega)) rfl ?_
          refine sh ?_
          refine ICall.pure h.n231.o231.hb (turn4_c h.n231 ig (h2.cl 1)) rfl ?_
          refine sh ?_
          refine ICall.pure h.n258.o258.hb (col4_c h.n258 f 2 (by omega)) rfl ?_
          refine sh ?_
          refine ICall.pure h.n231.o231.hb (turn4_c h.n231 ig (h2.cl 2)) rfl ?_
          refine sh ?_
          refine ICall.pure h.n233.o233.hb (apply4_c h.n233 ig h2.t) rfl ?_
          refine sh ?_
          refine cM true [] ((axes4_c h.n227 [turn4 g (f.cl 0), turn4 g (f.cl 1), turn4 g (f.cl 2), apply4 g f.t] (by simp)).mc h.n227.o227.hb) ?_
          repeat ((intro _u; clear _u); first | refine eK ?_ | refine eP ?_)
          refine sh ?_
          refine nXa ((k + 1, comp4 f g)) ?_ ?_
          · exact ⟨by omega, comp_in f g, by rw [then4_succ hg (by omega), h3]⟩
          · omega
      · rw [List.take_of_length_le (by omega)] at h3
        rw [h3]
        refine sh ?_
        exact rT
theorem then4_nil {R : Env} (h : N238 R) : R.Pc 238 [.nils] (.agg same4.row) :=
  h.o238.enter 100 rfl fun X bb hfit hp => by
    refine sh ?_
    refine ICall.pure h.n221.o221.hb (same4_c h.n221) rfl ?_
    refine sh ?_
    refine ILoop.one 100 ?_
    refine sh ?_
    refine acnd_f (by decide) ?_
    refine sh ?_
    exact rT
theorem rthen4_c {R : Env} (h : N239 R) (l : List Af) (hl : l.length ≤ 1000) (hi : ∀ a ∈ l, a.I) : R.Pc 239 [.isl 12 (slA l)] (.agg (then4 l).row) :=
  h.o239.enter 100 rfl fun X bb hfit hp => by
    by_cases h0 : l = []
    · subst h0
      refine sh ?_
      refine acnd_t (by simp) ?_
      refine sh ?_
      refine ICall.pure h.n222.o222.hb (rsame4_c h.n222) rfl ?_
      refine sh ?_
      exact rT
    · have h1 : 1 ≤ l.length := Nat.one_le_iff_ne_zero.2 fun e => h0 (List.eq_nil_of_length_eq_zero e)
      refine sh ?_
      refine acnd_f (by (simp; omega)) ?_
      obtain ⟨z, hz⟩ : ∃ u_, l[0]? = some u_ := ⟨_, List.getElem?_eq_getElem (by first | omega | (simp <;> omega))⟩
      refine sh ?_
      refine eget_map hz ?_
      refine sh ?_
      refine lPa 100 (fun s : Nat × Af => (1 ≤ s.1 ∧ s.1 ≤ l.length) ∧ s.2.I ∧ then4 (l.take s.1) = s.2) (fun s => ⟨[(0, .isl 12 (slA l)), (2, .loc 0 1 0 0), (3, .loc 1 1 0 0), (4, .int .i64 s.1)], [(1, .var (R.ty 33) s.2.row), (0, .var (R.ty 33) [.int .i64 0, .int .i64 0, .int .i64 0, .int .i64 0, .int .i64 0, .int .i64 0, .int .i64 0, .int .i64 0, .int .i64 0, .int .i64 0, .int .i64 0, .int .i64 0])], 2⟩) (fun s => l.length - s.1) ((1, z)) ?_ ?_
      · exact ⟨⟨Nat.le_refl _, h1⟩, hi z (List.mem_of_getElem? hz), then4_one hz⟩
      · rintro ⟨k, f⟩ ⟨⟨h2, h3⟩, h4, h5⟩
        dsimp only at h2 h3 h4 h5 ⊢
        refine sh ?_
        refine cS (fun h6 => ?_) (fun h6 => ?_)
        · obtain ⟨g, hg⟩ : ∃ g, l[k]? = some g := ⟨_, List.getElem?_eq_getElem (by omega)⟩
          have ig := hi g (List.mem_of_getElem? hg)
          refine sh ?_
          refine ILoop.one 100 ?_
          refine sh ?_
          refine acnd_t (by decide) ?_
          refine sh ?_
          refine eget_map hg ?_
          refine sh ?_
          refine ICall.pure h.n232.o232.hb (rturn4_c h.n232 ig (h4.cl 0)) rfl ?_
          refine sh ?_
          refine ILoop.one 100 ?_
          refine sh ?_
          refine acnd_t (by decide) ?_
          refine sh ?_
          refine eget_map hg ?_
          refine sh ?_
          refine ICall.pure h.n232.o232.hb (rturn4_c h.n232 ig (h4.cl 1)) rfl ?_
          refine sh ?_
          refine ILoop.one 100 ?_
          refine sh ?_
          refine acnd_t (by decide) ?_
          refine sh ?_
          refine eget_map hg ?_
          refine sh ?_
          refine ICall.pure h.n232.o232.hb (rturn4_c h.n232 ig (h4.cl 2)) rfl ?_
          refine sh ?_
          refine ILoop.one 100 ?_
          refine sh ?_
          refine acnd_f (by decide) ?_
          refine sh ?_
          refine eget_map hg ?_
          refine sh ?_
          refine ICall.pure h.n234.o234.hb (rapply4_c h.n234 ig h4.t) rfl ?_
          refine sh ?_
          refine cM true [] ((raxes4_c h.n228 [turn4 g (f.cl 0), turn4 g (f.cl 1), turn4 g (f.cl 2), apply4 g f.t] (by simp)).mc h.n228.o228.hb) ?_
          repeat ((intro _u; clear _u); first | refine eK ?_ | refine eP ?_)
          refine sh ?_
          refine nXa ((k + 1, comp4 f g)) ?_ ?_
          · exact ⟨by omega, comp_in f g, by rw [then4_succ hg (by omega), h5]⟩
          · omega
        · rw [List.take_of_length_le (by omega)] at h5
          rw [h5]
          refine sh ?_
          exact rT
end Go.UM

/- The statements of chapter 04. -/


namespace Go.UM
open Go.AM
set_option maxRecDepth 4000

theorem works04_c {R : Env} (h : N229 R) : R.Pc 229 [] (.bool true) :=
  h.o229.enter 100 rfl fun X bb hfit hp => by
    have c1 := size4_c h.n225 [8589934592] (by simp)
    refine sh ?_
    refine ICall.lend rfl h.n225.o225.hb c1 ?_ rfl ?_
    · all_goals repeat' (first | exact True.intro | refine And.intro ?_ ?_ | (intro _u; clear _u) | (with_reducible first | refine eM ?_ ?_ | refine eF ?_ ?_ ?_ | refine eN ?_ | refine eL ?_ ?_ ?_ | refine eA ?_ ?_ | refine IWk.mk ⟨_, hp, rfl⟩ ?_ ?_) | refine IWk.mk ⟨_, hp, rfl⟩ ?_ ?_)
      all_goals first | with_reducible rfl | omega | exact Or.inl (by decide) | (simp; done) | rfl | skip
    refine sh ?_
    refine ICall.pure h.n223.o223.hb (move4_c h.n223 ⟨4294967296, 0, 0⟩) rfl ?_
    have i1 : (size4 [8589934592]).I := by refine ⟨?_, ?_, ?_, ?_, ?_, ?_, ?_, ?_, ?_, z3_in⟩ <;> exact ⟨by decide, by decide⟩
    have i2 : (move4 ⟨4294967296, 0, 0⟩).I := by refine ⟨?_, ?_, ?_, ?_, ?_, ?_, ?_, ?_, ?_, ⟨?_, ?_, ?_⟩⟩ <;> exact ⟨by decide, by decide⟩
    have c2 := then4_c h.n238 [size4 [8589934592], move4 ⟨4294967296, 0, 0⟩] (by simp) (by intro a ha; simp at ha; rcases ha with rfl | rfl <;> assumption)
    refine sh ?_
    refine ICall.lend rfl h.n238.o238.hb c2 ?_ rfl ?_
    · all_goals repeat' (first | exact True.intro | refine And.intro ?_ ?_ | (intro _u; clear _u) | (with_reducible first | refine eM ?_ ?_ | refine eF ?_ ?_ ?_ | refine eN ?_ | refine eL ?_ ?_ ?_ | refine eA ?_ ?_ | refine IWk.mk ⟨_, hp, rfl⟩ ?_ ?_) | refine IWk.mk ⟨_, hp, rfl⟩ ?_ ?_)
      all_goals first | with_reducible rfl | omega | exact Or.inl (by decide) | (simp; done) | rfl | skip
    have i3 : (then4 [size4 [8589934592], move4 ⟨4294967296, 0, 0⟩]).I := comp_in _ _
    have c3 := place4_c h.n241 (p := ⟨3, 4, 5⟩) i3 ⟨⟨by decide, by decide⟩, ⟨by decide, by decide⟩, ⟨by decide, by decide⟩⟩
    have e : place4 (then4 [size4 [8589934592], move4 ⟨4294967296, 0, 0⟩]) ⟨3, 4, 5⟩ = (⟨7, 8, 10⟩, 0) := by rfl
    rw [e] at c3
    refine sh ?_
    refine ICall.pure h.n241.o241.hb c3 rfl ?_
    refine sh ?_
    refine acnd_t (by rfl) ?_
    refine sh ?_
    exact rT

theorem makes_law {R : Env} (h : N220 R) (k : List Int) (l : List T3) (v : T3) : R.Pc 220 [.isl 1 (slcK .i64 k), .isl 3 (slc3 l), .agg (t3 v)] (.bool true) :=
  h.o220.enter 100 rfl fun X bb hfit hp => by
    refine sh ?_
    refine asub_eq (by exact capK .i64 k 6) ?_
    refine sh ?_
    refine asub_eq (by exact slc3_take _ _ ▸ congrArg slc3 (take_cap l 6)) ?_
    have hk : (k.take (Int.toNat 6)).length ≤ 1000 := by simp; omega
    have hl : (l.take (Int.toNat 6)).length ≤ 1000 := by simp; omega
    generalize k.take (Int.toNat 6) = k at *
    generalize l.take (Int.toNat 6) = l at *
    refine sh ?_
    refine ICall.pure h.n221.o221.hb (same4_c h.n221) rfl ?_
    refine sh ?_
    refine ICall.pure h.n222.o222.hb (rsame4_c h.n222) rfl ?_
    refine sh ?_
    refine acnd_t (by simp) ?_
    refine sh ?_
    refine ICall.pure h.n223.o223.hb (move4_c h.n223 v) rfl ?_
    refine sh ?_
    refine ICall.pure h.n224.o224.hb (rmove4_c h.n224 v) rfl ?_
    refine sh ?_
    refine acnd_t (by simp) ?_
    refine sh ?_
    refine ICall.pure h.n225.o225.hb (size4_c h.n225 k hk) rfl ?_
    refine sh ?_
    refine ICall.pure h.n226.o226.hb (rsize4_c h.n226 k hk) rfl ?_
    refine sh ?_
    refine acnd_t (by simp) ?_
    refine sh ?_
    refine ICall.pure h.n227.o227.hb (axes4_c h.n227 l hl) rfl ?_
    refine sh ?_
    refine ICall.pure h.n228.o228.hb (raxes4_c h.n228 l hl) rfl ?_
    refine sh ?_
    refine acnd_t (by simp) ?_
    refine sh ?_
    refine ICall.pure h.n229.o229.hb (works04_c h.n229) rfl ?_
    refine sh ?_
    exact rT

theorem applies_law {R : Env} (h : N230 R) {a : Af} {v : T3} (ha : a.I) (hv : v.I) : R.Pc 230 [.agg a.row, .agg (t3 v)] (.bool true) :=
  h.o230.enter 100 rfl fun X bb hfit hp => by
    refine sh ?_
    refine ICall.pure h.n231.o231.hb (turn4_c h.n231 ha hv) rfl ?_
    refine sh ?_
    refine ICall.pure h.n232.o232.hb (rturn4_c h.n232 ha hv) rfl ?_
    refine sh ?_
    refine acnd_t (by simp) ?_
    refine sh ?_
    refine ICall.pure h.n233.o233.hb (apply4_c h.n233 ha hv) rfl ?_
    refine sh ?_
    refine ICall.pure h.n234.o234.hb (rapply4_c h.n234 ha hv) rfl ?_
    refine sh ?_
    refine acnd_t (by simp) ?_
    refine sh ?_
    refine ICall.pure h.n235.o235.hb (check4_c h.n235 ha) rfl ?_
    refine sh ?_
    refine ICall.pure h.n236.o236.hb (rcheck4_c h.n236 ha) rfl ?_
    refine sh ?_
    refine acnd_t (by simp) ?_
    refine sh ?_
    refine ICall.pure h.n229.o229.hb (works04_c h.n229) rfl ?_
    refine sh ?_
    exact rT

theorem then_law {R : Env} (h : N237 R) (l : List Af) (hi : ∀ a ∈ l, a.I) : R.Pc 237 [.isl 12 (slA l)] (.bool true) :=
  h.o237.enter 100 rfl fun X bb hfit hp => by
    refine sh ?_
    refine asub_eq (by exact capA l 5) ?_
    have hl : (l.take (Int.toNat 5)).length ≤ 1000 := by simp; omega
    have hi : ∀ a ∈ l.take (Int.toNat 5), a.I := fun a ha => hi a (List.mem_of_mem_take ha)
    generalize l.take (Int.toNat 5) = l at *
    refine sh ?_
    refine ICall.pure h.n238.o238.hb (then4_c h.n238 l hl hi) rfl ?_
    refine sh ?_
    refine ICall.pure h.n239.o239.hb (rthen4_c h.n239 l hl hi) rfl ?_
    refine sh ?_
    refine acnd_t (by simp) ?_
    refine sh ?_
    refine ICall.pure h.n229.o229.hb (works04_c h.n229) rfl ?_
    refine sh ?_
    exact rT

theorem places_law {R : Env} (h : N240 R) {a : Af} {p v : T3} (ha : a.I) (hp' : p.I) (hv : v.I) : R.Pc 240 [.agg a.row, .agg (t3 p), .agg (t3 v)] (.bool true) :=
  h.o240.enter 100 rfl fun X bb hfit hp => by
    refine sh ?_
    refine ICall.pure h.n241.o241.hb (place4_c h.n241 ha hp') rfl ?_
    refine sh ?_
    refine ICall.pure h.n242.o242.hb (rplace4_c h.n242 ha hp') rfl ?_
    refine sh ?_
    refine ICall.pure h.n243.o243.hb (snap4_c h.n243 hv) rfl ?_
    refine sh ?_
    refine ICall.pure h.n244.o244.hb (rsnap4_c h.n244 hv) rfl ?_
    refine sh ?_
    refine acnd_t (by simp) ?_
    refine sh ?_
    refine acnd_t (by simp) ?_
    refine sh ?_
    refine acnd_t (by simp) ?_
    refine sh ?_
    refine acnd_t (by simp) ?_
    refine sh ?_
    refine ICall.pure h.n229.o229.hb (works04_c h.n229) rfl ?_
    refine sh ?_
    exact rT

/-! ### What changes nothing, what moves -/
theorem dot_x {v : T3} (hv : v.I) : dot ax0 v = v.a ∧ dot ax1 v = v.b ∧ dot ax2 v = v.c ∧ dot v ax0 = v.a ∧ dot v ax1 = v.b ∧ dot v ax2 = v.c := by
  obtain ⟨ha, hb, hc⟩ := hv
  have z0 : tadd 0 0 = 0 := rfl
  simp only [dot, ax0, ax1, ax2, tmul1 ha, tmul1 hb, tmul1 hc, tmul_1 ha, tmul_1 hb, tmul_1 hc, tmul0, tmul_0, tadd0 ha, tadd0 hb, tadd0 hc, tadd_0 ha, tadd_0 hb, tadd_0 hc, z0, and_self]
theorem turn_same {v : T3} (hv : v.I) (t : T3) : turn4 (move4 t) v = v := by
  obtain ⟨a, b, c, _⟩ := dot_x hv
  unfold turn4
  rw [show (move4 t).rw 0 = ax0 from rfl, show (move4 t).rw 1 = ax1 from rfl, show (move4 t).rw 2 = ax2 from rfl, a, b, c]
theorem same_move : same4 = move4 z3 := rfl
theorem vadd_0 {x : T3} (h : x.I) : vadd x z3 = x := by simp only [vadd, z3, tadd_0 h.1, tadd_0 h.2.1, tadd_0 h.2.2]
theorem apply_same {v : T3} (hv : v.I) : apply4 same4 v = v := by
  unfold apply4
  rw [same_move, turn_same hv]
  exact vadd_0 hv
theorem dot_0 (v : T3) : dot v z3 = 0 := by simp only [dot, z3, tmul_0]; rfl
theorem comp_l {a : Af} (ha : a.I) : comp4 same4 a = a := by
  obtain ⟨_, _, _, x0, x1, x2⟩ := dot_x (ha.rw 0)
  obtain ⟨_, _, _, y0, y1, y2⟩ := dot_x (ha.rw 1)
  obtain ⟨_, _, _, w0, w1, w2⟩ := dot_x (ha.rw 2)
  unfold comp4
  rw [show same4.cl 0 = ax0 from rfl, show same4.cl 1 = ax1 from rfl, show same4.cl 2 = ax2 from rfl, show same4.t = z3 from rfl]
  have e0 : turn4 a ax0 = a.cl 0 := by unfold turn4; rw [x0, y0, w0]; rfl
  have e1 : turn4 a ax1 = a.cl 1 := by unfold turn4; rw [x1, y1, w1]; rfl
  have e2 : turn4 a ax2 = a.cl 2 := by unfold turn4; rw [x2, y2, w2]; rfl
  have e3 : apply4 a z3 = a.t := by
    unfold apply4 turn4
    rw [dot_0, dot_0, dot_0]
    exact vadd0 ha.t
  rw [e0, e1, e2, e3]; rfl
theorem comp_r {a : Af} (ha : a.I) : comp4 a same4 = a := by
  unfold comp4
  rw [same_move, turn_same (ha.cl 0), turn_same (ha.cl 1), turn_same (ha.cl 2), ← same_move, apply_same ha.t]; rfl
theorem one_in : I64 4294967296 := ⟨by decide, by decide⟩
theorem zero_in : I64 0 := ⟨by decide, by decide⟩
theorem move_in {v : T3} (hv : v.I) : (move4 v).I := ⟨one_in, zero_in, zero_in, zero_in, one_in, zero_in, zero_in, zero_in, one_in, hv⟩

theorem same_law {R : Env} (h : N245 R) {a : Af} {v : T3} (ha : a.I) (hv : v.I) : R.Pc 245 [.agg a.row, .agg (t3 v)] (.bool true) :=
  h.o245.enter 100 rfl fun X bb hfit hp => by
    refine sh ?_
    refine ICall.pure h.n221.o221.hb (same4_c h.n221) rfl ?_
    have c1 := apply4_c h.n233 same_in hv
    rw [apply_same hv] at c1
    refine sh ?_
    refine ICall.pure h.n233.o233.hb c1 rfl ?_
    refine sh ?_
    refine acnd_f (by simp) ?_
    refine sh ?_
    refine ICall.pure h.n221.o221.hb (same4_c h.n221) rfl ?_
    have c2 := then4_c h.n238 [same4, a] (by simp) (by intro x hx; simp at hx; rcases hx with rfl | rfl; exact same_in; exact ha)
    rw [show then4 [same4, a] = comp4 same4 a from rfl, comp_l ha] at c2
    refine sh ?_
    refine cM true [] (c2.mc h.n238.o238.hb) ?_
    repeat ((intro _u; clear _u); first | refine eK ?_ | refine eP ?_)
    refine sh ?_
    refine acnd_f (by simp) ?_
    refine sh ?_
    refine ICall.pure h.n221.o221.hb (same4_c h.n221) rfl ?_
    have c3 := then4_c h.n238 [a, same4] (by simp) (by intro x hx; simp at hx; rcases hx with rfl | rfl; exact ha; exact same_in)
    rw [show then4 [a, same4] = comp4 a same4 from rfl, comp_r ha] at c3
    refine sh ?_
    refine cM true [] (c3.mc h.n238.o238.hb) ?_
    repeat ((intro _u; clear _u); first | refine eK ?_ | refine eP ?_)
    refine sh ?_
    refine acnd_f (by simp) ?_
    refine sh ?_
    refine ICall.pure h.n238.o238.hb (then4_nil h.n238) rfl ?_
    refine sh ?_
    refine ICall.pure h.n221.o221.hb (same4_c h.n221) rfl ?_
    refine sh ?_
    refine acnd_f (by simp) ?_
    refine sh ?_
    refine ICall.pure h.n223.o223.hb (move4_c h.n223 a.t) rfl ?_
    have c4 := apply4_c h.n233 (move_in ha.t) hv
    rw [show apply4 (move4 a.t) v = vadd v a.t by unfold apply4; rw [turn_same hv]; rfl] at c4
    refine sh ?_
    refine ICall.pure h.n233.o233.hb c4 rfl ?_
    have c5 := vadd_c h.n246 [v, a.t] (by simp) (by intro x hx; simp at hx; rcases hx with rfl | rfl; exact hv; exact ha.t)
    rw [show [v, a.t].foldl vadd z3 = vadd v a.t by simp [vadd0 hv]] at c5
    refine sh ?_
    refine cM true [] (c5.mc h.n246.o246.hb) ?_
    repeat ((intro _u; clear _u); first | refine eK ?_ | refine eP ?_)
    refine sh ?_
    refine acnd_t (by simp) ?_
    refine sh ?_
    refine ICall.pure h.n223.o223.hb (move4_c h.n223 a.t) rfl ?_
    have c6 := turn4_c h.n231 (move_in ha.t) hv
    rw [turn_same hv] at c6
    refine sh ?_
    refine ICall.pure h.n231.o231.hb c6 rfl ?_
    refine sh ?_
    refine acnd_t (by simp) ?_
    refine sh ?_
    refine ICall.pure h.n229.o229.hb (works04_c h.n229) rfl ?_
    refine sh ?_
    exact rT

/-! ### Whole numbers -/
theorem tmul_whole {m q : Int} (h : -8388608 ≤ m * q ∧ m * q ≤ 8388608) : tmul (m * 4294967296) (q * 4294967296) = m * q * 4294967296 := by
  unfold tmul
  have e : m * 4294967296 * (q * 4294967296) = m * q * 4294967296 * 4294967296 := by
    rw [Int.mul_assoc m, Int.mul_left_comm 4294967296 q, ← Int.mul_assoc m, Int.mul_assoc (m * q)]
  rw [e, Int.mul_ediv_cancel _ (by decide), sat_id (i64_iff.2 (by omega))]
theorem of_whole {n : Int} (h : -1073741824 ≤ n ∧ n ≤ 1073741824) : sat (n * 4294967296) = n * 4294967296 := sat_id (i64_iff.2 (by omega))
theorem tadd_whole {a b : Int} (h : -1073741824 ≤ a + b ∧ a + b ≤ 1073741824) : tadd (a * 4294967296) (b * 4294967296) = (a + b) * 4294967296 := by
  unfold tadd
  rw [← Int.add_mul, sat_id (i64_iff.2 (by omega))]
theorem rnd_whole (n : Int) : rnd (n * 4294967296) = n := by unfold rnd; omega
def i8 (x : Int) : Prop := -128 ≤ x ∧ x ≤ 127
theorem mul8 {a b : Int} (ha : i8 a) (hb : i8 b) : -16384 ≤ a * b ∧ a * b ≤ 16384 := by
  unfold i8 at ha hb
  rcases Int.le_total 0 a with h1 | h1 <;> rcases Int.le_total 0 b with h2 | h2
  · have k1 := Int.mul_nonneg h1 h2
    have k2 := Int.mul_le_mul (show a ≤ 127 by omega) (show b ≤ 127 by omega) h2 (by omega)
    omega
  · have k1 := Int.mul_nonneg h1 (show 0 ≤ -b by omega)
    have k2 := Int.mul_le_mul (show a ≤ 127 by omega) (show -b ≤ 128 by omega) (by omega) (by omega)
    rw [Int.mul_neg] at k1 k2
    omega
  · have k1 := Int.mul_nonneg (show 0 ≤ -a by omega) h2
    have k2 := Int.mul_le_mul (show -a ≤ 128 by omega) (show b ≤ 127 by omega) h2 (by omega)
    rw [Int.neg_mul] at k1 k2
    omega
  · have k1 := Int.mul_nonneg (show 0 ≤ -a by omega) (show 0 ≤ -b by omega)
    have k2 := Int.mul_le_mul (show -a ≤ 128 by omega) (show -b ≤ 128 by omega) (by omega) (by omega)
    rw [Int.neg_mul_neg] at k1 k2
    omega
theorem dot_whole {a b c p q r : Int} (ha : i8 a) (hb : i8 b) (hc : i8 c) (hp : i8 p) (hq : i8 q) (hr : i8 r) :
    dot ⟨a * 4294967296, b * 4294967296, c * 4294967296⟩ ⟨p * 4294967296, q * 4294967296, r * 4294967296⟩ = (a * p + b * q + c * r) * 4294967296 := by
  have k1 := mul8 ha hp
  have k2 := mul8 hb hq
  have k3 := mul8 hc hr
  unfold dot
  dsimp only
  rw [tmul_whole (by omega), tmul_whole (by omega), tmul_whole (by omega), tadd_whole (by omega), tadd_whole (by omega)]

structure M9 where
  (m0 m1 m2 m3 m4 m5 m6 m7 m8 : Int)
structure M9.Ok (m : M9) : Prop where
  m0 : i8 m.m0
  m1 : i8 m.m1
  m2 : i8 m.m2
  m3 : i8 m.m3
  m4 : i8 m.m4
  m5 : i8 m.m5
  m6 : i8 m.m6
  m7 : i8 m.m7
  m8 : i8 m.m8
def M9.af (m : M9) (t : T3) : Af := ⟨m.m0 * 4294967296, m.m1 * 4294967296, m.m2 * 4294967296, m.m3 * 4294967296, m.m4 * 4294967296, m.m5 * 4294967296, m.m6 * 4294967296, m.m7 * 4294967296, m.m8 * 4294967296, ⟨t.a * 4294967296, t.b * 4294967296, t.c * 4294967296⟩⟩
def M9.want (m : M9) (t q : T3) : T3 := ⟨m.m0 * q.a + m.m1 * q.b + m.m2 * q.c + t.a, m.m3 * q.a + m.m4 * q.b + m.m5 * q.c + t.b, m.m6 * q.a + m.m7 * q.b + m.m8 * q.c + t.c⟩
def i16 (x : Int) : Prop := -32768 ≤ x ∧ x ≤ 32767
theorem place_whole {m : M9} {t q : T3} (hm : m.Ok) (ht : i16 t.a ∧ i16 t.b ∧ i16 t.c) (hq : i8 q.a ∧ i8 q.b ∧ i8 q.c) :
    place4 (m.af t) q = if (offG (m.want t q).a || offG (m.want t q).b || offG (m.want t q).c) = true then (z3, 8) else (m.want t q, 0) := by
  obtain ⟨q0, q1, q2⟩ := hq
  obtain ⟨t0, t1, t2⟩ := ht
  have a0 := mul8 hm.m0 q0; have a1 := mul8 hm.m1 q1; have a2 := mul8 hm.m2 q2
  have b0 := mul8 hm.m3 q0; have b1 := mul8 hm.m4 q1; have b2 := mul8 hm.m5 q2
  have c0 := mul8 hm.m6 q0; have c1 := mul8 hm.m7 q1; have c2 := mul8 hm.m8 q2
  have w : ∀ x, i8 x → off40 (x * 4294967296) = false := fun x hx => by unfold i8 at hx; simp [off40]; omega
  have hchk : chk4 (m.af t) = 0 := by
    unfold chk4
    rw [if_neg (by simp only [ms, M9.af, List.any_cons, List.any_nil, w _ hm.m0, w _ hm.m1, w _ hm.m2, w _ hm.m3, w _ hm.m4, w _ hm.m5, w _ hm.m6, w _ hm.m7, w _ hm.m8]; simp)]
    rw [if_neg]
    unfold i16 at t0 t1 t2
    have s : ∀ x : Int, (-32768 ≤ x ∧ x ≤ 32767) → sizeI (x * 4294967296) ≤ 140737488355328 := fun x hx => by unfold sizeI sat; split <;> (try split) <;> (try split) <;> omega
    have s0 := s _ t0; have s1 := s _ t1; have s2 := s _ t2
    simp only [mostT, M9.af]
    omega
  have hvof : vof q = ⟨q.a * 4294967296, q.b * 4294967296, q.c * 4294967296⟩ := by
    unfold i8 at q0 q1 q2
    unfold vof
    rw [of_whole (by omega), of_whole (by omega), of_whole (by omega)]
  have hap : apply4 (m.af t) (vof q) = ⟨(m.want t q).a * 4294967296, (m.want t q).b * 4294967296, (m.want t q).c * 4294967296⟩ := by
    unfold i16 at t0 t1 t2
    rw [hvof]
    unfold apply4 turn4 vadd
    simp only [Af.rw, M9.af, M9.want]
    rw [dot_whole hm.m0 hm.m1 hm.m2 q0 q1 q2, dot_whole hm.m3 hm.m4 hm.m5 q0 q1 q2, dot_whole hm.m6 hm.m7 hm.m8 q0 q1 q2]
    rw [tadd_whole (by omega), tadd_whole (by omega), tadd_whole (by omega)]
  unfold place4
  rw [if_neg (by simpa using hchk), hap]
  unfold snap4 rnd3
  simp only [rnd_whole]
theorem wr_i64_8 {x : Int} (h : i8 x) : inI .i64 x := by unfold i8 at h; simp only [inI]; omega
end Go.UM

/- The statements of chapter 04, part 2. Printed by gen/aff4.py. -/

namespace Go.UM
open Go.AM
set_option maxRecDepth 4000

def i8row (m : M9) : List AV := [.int .i8 m.m0, .int .i8 m.m1, .int .i8 m.m2, .int .i8 m.m3, .int .i8 m.m4, .int .i8 m.m5, .int .i8 m.m6, .int .i8 m.m7, .int .i8 m.m8]
theorem i64_8 {x : Int} (h : i8 x) : I64 x := by unfold i8 at h; rw [i64_iff]; omega
theorem of8 {x : Int} (h : i8 x) : sat (x * 4294967296) = x * 4294967296 := by unfold i8 at h; exact of_whole (by omega)
set_option maxHeartbeats 1000000 in
theorem whole_law {R : Env} (h : N247 R) (m : M9) (t q : T3) (hm : m.Ok) (ht : i16 t.a ∧ i16 t.b ∧ i16 t.c) (hq : i8 q.a ∧ i8 q.b ∧ i8 q.c) :
    R.Pc 247 [.agg (i8row m), .agg [.int .i16 t.a, .int .i16 t.b, .int .i16 t.c], .agg [.int .i8 q.a, .int .i8 q.b, .int .i8 q.c]] (.bool true) :=
  h.o247.enter 200 rfl fun X bb hfit hp => by
    have hpl := place_whole hm ht hq
    obtain ⟨q0, q1, q2⟩ := hq
    obtain ⟨t0, t1, t2⟩ := ht
    have a0 := mul8 hm.m0 q0; have a1 := mul8 hm.m1 q1; have a2 := mul8 hm.m2 q2
    have b0 := mul8 hm.m3 q0; have b1 := mul8 hm.m4 q1; have b2 := mul8 hm.m5 q2
    have c0 := mul8 hm.m6 q0; have c1 := mul8 hm.m7 q1; have c2 := mul8 hm.m8 q2
    have k0 := hm.m0; have k1 := hm.m1; have k2 := hm.m2; have k3 := hm.m3; have k4 := hm.m4; have k5 := hm.m5; have k6 := hm.m6; have k7 := hm.m7; have k8 := hm.m8
    have r0 := q0; have r1 := q1; have r2 := q2
    unfold i8 at k0 k1 k2 k3 k4 k5 k6 k7 k8 r0 r1 r2
    unfold i16 at t0 t1 t2
    refine sh ?_
    refine ILoop.one 100 ?_
    refine sh ?_
    refine acnd_t (by decide) ?_
    refine sh ?_
    refine ICall.pure h.n248.o248.hb (fof_c h.n248 (i64_8 hm.m0)) rfl ?_
    rw [of8 hm.m0]
    refine sh ?_
    refine ILoop.one 100 ?_
    refine sh ?_
    refine acnd_t (by decide) ?_
    refine sh ?_
    refine ICall.pure h.n248.o248.hb (fof_c h.n248 (i64_8 hm.m1)) rfl ?_
    rw [of8 hm.m1]
    refine sh ?_
    refine ILoop.one 100 ?_
    refine sh ?_
    refine acnd_t (by decide) ?_
    refine sh ?_
    refine ICall.pure h.n248.o248.hb (fof_c h.n248 (i64_8 hm.m2)) rfl ?_
    rw [of8 hm.m2]
    refine sh ?_
    refine ILoop.one 100 ?_
    refine sh ?_
    refine acnd_t (by decide) ?_
    refine sh ?_
    refine ICall.pure h.n248.o248.hb (fof_c h.n248 (i64_8 hm.m3)) rfl ?_
    rw [of8 hm.m3]
    refine sh ?_
    refine ILoop.one 100 ?_
    refine sh ?_
    refine acnd_t (by decide) ?_
    refine sh ?_
    refine ICall.pure h.n248.o248.hb (fof_c h.n248 (i64_8 hm.m4)) rfl ?_
    rw [of8 hm.m4]
    refine sh ?_
    refine ILoop.one 100 ?_
    refine sh ?_
    refine acnd_t (by decide) ?_
    refine sh ?_
    refine ICall.pure h.n248.o248.hb (fof_c h.n248 (i64_8 hm.m5)) rfl ?_
    rw [of8 hm.m5]
    refine sh ?_
    refine ILoop.one 100 ?_
    refine sh ?_
    refine acnd_t (by decide) ?_
    refine sh ?_
    refine ICall.pure h.n248.o248.hb (fof_c h.n248 (i64_8 hm.m6)) rfl ?_
    rw [of8 hm.m6]
    refine sh ?_
    refine ILoop.one 100 ?_
    refine sh ?_
    refine acnd_t (by decide) ?_
    refine sh ?_
    refine ICall.pure h.n248.o248.hb (fof_c h.n248 (i64_8 hm.m7)) rfl ?_
    rw [of8 hm.m7]
    refine sh ?_
    refine ILoop.one 100 ?_
    refine sh ?_
    refine acnd_t (by decide) ?_
    refine sh ?_
    refine ICall.pure h.n248.o248.hb (fof_c h.n248 (i64_8 hm.m8)) rfl ?_
    rw [of8 hm.m8]
    refine sh ?_
    refine ILoop.one 100 ?_
    refine sh ?_
    refine acnd_f (by decide) ?_
    have cv := vofp_c h.n249 (p := t) ⟨i64_iff.2 (by omega), i64_iff.2 (by omega), i64_iff.2 (by omega)⟩
    rw [show vof t = ⟨t.a * 4294967296, t.b * 4294967296, t.c * 4294967296⟩ by unfold vof; rw [of_whole (by omega), of_whole (by omega), of_whole (by omega)]] at cv
    refine sh ?_
    refine ICall.pure h.n249.o249.hb cv rfl ?_
    have ia : (m.af t).I := by
      refine ⟨?_, ?_, ?_, ?_, ?_, ?_, ?_, ?_, ?_, ⟨?_, ?_, ?_⟩⟩
      all_goals (rw [i64_iff]; simp only [M9.af]; omega)
    have cp := place4_c h.n241 (a := m.af t) (p := q) ia ⟨i64_8 q0, i64_8 q1, i64_8 q2⟩
    by_cases hf : (offG (m.want t q).a || offG (m.want t q).b || offG (m.want t q).c) = true
    · rw [if_pos hf] at hpl
      rw [hpl] at cp
      simp [offG] at hf
      simp only [M9.want] at hf
      refine sh ?_
      refine ICall.pure h.n241.o241.hb cp rfl ?_
      refine sh ?_
      refine ILoop.one 100 ?_
      refine sh ?_
      refine acnd_t (by decide) ?_
      refine sh ?_
      refine cS (fun o0 => ?_) (fun o0 => ?_)
      · refine sh ?_
        refine ILoop.one 100 ?_
        refine sh ?_
        refine acnd_t (by decide) ?_
        refine sh ?_
        refine ILoop.one 100 ?_
        refine sh ?_
        refine acnd_t (by decide) ?_
        refine sh ?_
        refine ILoop.one 100 ?_
        refine sh ?_
        refine acnd_f (by decide) ?_
        refine sh ?_
        refine acnd_t (by rfl) ?_
        refine sh ?_
        refine acnd_t (by rfl) ?_
        refine sh ?_
        refine ICall.pure h.n229.o229.hb (works04_c h.n229) rfl ?_
        refine sh ?_
        exact rT
      · refine sh ?_
        refine ILoop.one 100 ?_
        refine sh ?_
        refine acnd_t (by decide) ?_
        refine sh ?_
        refine cS (fun p0 => ?_) (fun p0 => ?_)
        · refine sh ?_
          refine ILoop.one 100 ?_
          refine sh ?_
          refine acnd_t (by decide) ?_
          refine sh ?_
          refine ILoop.one 100 ?_
          refine sh ?_
          refine acnd_f (by decide) ?_
          refine sh ?_
          refine acnd_t (by rfl) ?_
          refine sh ?_
          refine acnd_t (by rfl) ?_
          refine sh ?_
          refine ICall.pure h.n229.o229.hb (works04_c h.n229) rfl ?_
          refine sh ?_
          exact rT
        · refine sh ?_
          refine cS (fun o1 => ?_) (fun o1 => ?_)
          · refine sh ?_
            refine ILoop.one 100 ?_
            refine sh ?_
            refine acnd_t (by decide) ?_
            refine sh ?_
            refine ILoop.one 100 ?_
            refine sh ?_
            refine acnd_f (by decide) ?_
            refine sh ?_
            refine acnd_t (by rfl) ?_
            refine sh ?_
            refine acnd_t (by rfl) ?_
            refine sh ?_
            refine ICall.pure h.n229.o229.hb (works04_c h.n229) rfl ?_
            refine sh ?_
            exact rT
          · refine sh ?_
            refine ILoop.one 100 ?_
            refine sh ?_
            refine acnd_t (by decide) ?_
            refine sh ?_
            refine cS (fun p1 => ?_) (fun p1 => ?_)
            · refine sh ?_
              refine ILoop.one 100 ?_
              refine sh ?_
              refine acnd_f (by decide) ?_
              refine sh ?_
              refine acnd_t (by rfl) ?_
              refine sh ?_
              refine acnd_t (by rfl) ?_
              refine sh ?_
              refine ICall.pure h.n229.o229.hb (works04_c h.n229) rfl ?_
              refine sh ?_
              exact rT
            · refine sh ?_
              refine cS (fun o2 => ?_) (fun o2 => ?_)
              · refine sh ?_
                refine ILoop.one 100 ?_
                refine sh ?_
                refine acnd_f (by decide) ?_
                refine sh ?_
                refine acnd_t (by rfl) ?_
                refine sh ?_
                refine acnd_t (by rfl) ?_
                refine sh ?_
                refine ICall.pure h.n229.o229.hb (works04_c h.n229) rfl ?_
                refine sh ?_
                exact rT
              · refine sh ?_
                refine ILoop.one 100 ?_
                refine sh ?_
                refine acnd_f (by decide) ?_
                refine sh ?_
                refine cS (fun p2 => ?_) (fun p2 => ?_)
                · refine sh ?_
                  refine acnd_t (by rfl) ?_
                  refine sh ?_
                  refine acnd_t (by rfl) ?_
                  refine sh ?_
                  refine ICall.pure h.n229.o229.hb (works04_c h.n229) rfl ?_
                  refine sh ?_
                  exact rT
                · exfalso
                  omega
    · rw [if_neg hf] at hpl
      rw [hpl] at cp
      simp [offG] at hf
      simp only [M9.want] at hf
      refine sh ?_
      refine ICall.pure h.n241.o241.hb cp rfl ?_
      refine sh ?_
      refine ILoop.one 100 ?_
      refine sh ?_
      refine acnd_t (by decide) ?_
      refine sh ?_
      refine acnd_f (by (simp; omega)) ?_
      refine sh ?_
      refine ILoop.one 100 ?_
      refine sh ?_
      refine acnd_t (by decide) ?_
      refine sh ?_
      refine acnd_f (by (simp; omega)) ?_
      refine sh ?_
      refine acnd_f (by (simp; omega)) ?_
      refine sh ?_
      refine ILoop.one 100 ?_
      refine sh ?_
      refine acnd_t (by decide) ?_
      refine sh ?_
      refine acnd_f (by (simp; omega)) ?_
      refine sh ?_
      refine acnd_f (by (simp; omega)) ?_
      refine sh ?_
      refine ILoop.one 100 ?_
      refine sh ?_
      refine acnd_f (by decide) ?_
      refine sh ?_
      refine acnd_f (by (simp; omega)) ?_
      refine sh ?_
      refine acnd_t (by rfl) ?_
      refine sh ?_
      refine acnd_t (by (simp [M9.want])) ?_
      refine sh ?_
      refine ICall.pure h.n229.o229.hb (works04_c h.n229) rfl ?_
      refine sh ?_
      exact rT

/-! ### Places of the grid -/
def onG (p : T3) : Prop := (-65536 ≤ p.a ∧ p.a ≤ 65536) ∧ (-65536 ≤ p.b ∧ p.b ≤ 65536) ∧ (-65536 ≤ p.c ∧ p.c ≤ 65536)
theorem snap_on {v : T3} (h : (snap4 v).2 = 0) : onG (snap4 v).1 := by
  unfold snap4 at h ⊢
  split at h
  · cases h
  · rename_i hn
    rw [if_neg hn]
    simp only [offG, Bool.or_eq_true, decide_eq_true_eq, not_or] at hn
    unfold onG rnd3
    dsimp only
    omega
theorem place_on {a : Af} {p : T3} (h : (place4 a p).2 = 0) : onG (place4 a p).1 := by
  unfold place4 at h ⊢
  split at h
  · rename_i hc; exact (hc h).elim
  · rename_i hc
    rw [if_neg hc]
    exact snap_on h
theorem snap_of {q : T3} (h : onG q) : snap4 (vof q) = (q, 0) := by
  obtain ⟨h0, h1, h2⟩ := h
  unfold vof snap4 rnd3
  dsimp only
  rw [of_whole (by omega), of_whole (by omega), of_whole (by omega), rnd_whole, rnd_whole, rnd_whole, if_neg (by simp [offG]; omega)]
theorem snap_off {q : T3} (hq : q.I) (h : ¬ onG q) : snap4 (vof q) = (z3, 8) := by
  have k : ∀ x, I64 x → ¬ (-65536 ≤ x ∧ x ≤ 65536) → offG (rnd (sat (x * 4294967296))) = true := fun x hx hn => by
    rw [i64_iff] at hx
    unfold offG rnd sat
    simp only [Bool.or_eq_true, decide_eq_true_eq]
    split
    · omega
    · split <;> omega
  unfold snap4
  rw [if_pos]
  by_cases h0 : -65536 ≤ q.a ∧ q.a ≤ 65536
  · by_cases h1 : -65536 ≤ q.b ∧ q.b ≤ 65536
    · have h2 : ¬ (-65536 ≤ q.c ∧ q.c ≤ 65536) := fun h2 => h ⟨h0, h1, h2⟩
      simp only [vof, k _ hq.2.2 h2, Bool.or_true]
    · simp only [vof, k _ hq.2.1 h1, Bool.or_true, Bool.true_or]
  · simp only [vof, k _ hq.1 h0, Bool.true_or]
theorem chk_same : chk4 same4 = 0 := by rfl
theorem place_same (p : T3) : place4 same4 p = snap4 (vof p) := by
  unfold place4
  rw [if_neg (by rw [chk_same]; simp), apply_same (vof_in p)]
theorem i64_on {p : T3} (h : onG p) : p.I := by
  obtain ⟨h0, h1, h2⟩ := h
  exact ⟨i64_iff.2 (by omega), i64_iff.2 (by omega), i64_iff.2 (by omega)⟩

theorem grid_law {R : Env} (h : N250 R) {a : Af} {p : T3} (ha : a.I) (hp' : p.I) : R.Pc 250 [.agg a.row, .agg (t3 p)] (.bool true) :=
  h.o250.enter 100 rfl fun X bb hfit hp => by
    refine sh ?_
    refine ICall.pure h.n241.o241.hb (place4_c h.n241 ha hp') rfl ?_
    by_cases he : (place4 a p).2 = 0
    · have hon := place_on he
      generalize place4 a p = r at *
      obtain ⟨q, e⟩ := r
      dsimp only at he hon ⊢
      subst he
      refine sh ?_
      refine acnd_t (by rfl) ?_
      refine sh ?_
      refine ICall.pure h.n249.o249.hb (vofp_c h.n249 (i64_on hon)) rfl ?_
      have c2 := snap4_c h.n243 (vof_in q)
      rw [snap_of hon] at c2
      refine sh ?_
      refine ICall.pure h.n243.o243.hb c2 rfl ?_
      unfold onG at hon
      refine sh ?_
      refine acnd_f (by rfl) ?_
      refine sh ?_
      refine acnd_f (by simp) ?_
      refine sh ?_
      refine acnd_f (by (simp; omega)) ?_
      refine sh ?_
      refine acnd_f (by (simp; omega)) ?_
      refine sh ?_
      refine ICall.pure h.n221.o221.hb (same4_c h.n221) rfl ?_
      have cs := place4_c h.n241 (a := same4) (p := p) same_in hp'
      rw [place_same] at cs
      by_cases ho : onG p
      · rw [snap_of ho] at cs
        refine sh ?_
        refine ICall.pure h.n241.o241.hb cs rfl ?_
        unfold onG at ho
        refine sh ?_
        refine acnd_t (by (simp; omega)) ?_
        refine sh ?_
        rw [show (decide (min (min p.a p.b) p.c ≥ -65536)) = true by simp; omega]
        refine acnd_t rfl ?_
        refine sh ?_
        refine acnd_t (by simp) ?_
        refine sh ?_
        refine ICall.pure h.n229.o229.hb (works04_c h.n229) rfl ?_
        refine sh ?_
        exact rT
      · rw [snap_off hp' ho] at cs
        refine sh ?_
        refine ICall.pure h.n241.o241.hb cs rfl ?_
        unfold onG at ho
        refine sh ?_
        refine cS (fun s1 => ?_) (fun s1 => ?_)
        · refine sh ?_
          rw [show (decide (min (min p.a p.b) p.c ≥ -65536)) = false by simp; omega]
          refine acnd_t rfl ?_
          refine sh ?_
          refine ICall.pure h.n229.o229.hb (works04_c h.n229) rfl ?_
          refine sh ?_
          exact rT
        · refine sh ?_
          refine acnd_t (by rfl) ?_
          refine sh ?_
          refine ICall.pure h.n229.o229.hb (works04_c h.n229) rfl ?_
          refine sh ?_
          exact rT
    · refine sh ?_
      refine acnd_f (by simpa using he) ?_
      refine sh ?_
      refine ICall.pure h.n221.o221.hb (same4_c h.n221) rfl ?_
      have cs := place4_c h.n241 (a := same4) (p := p) same_in hp'
      rw [place_same] at cs
      by_cases ho : onG p
      · rw [snap_of ho] at cs
        refine sh ?_
        refine ICall.pure h.n241.o241.hb cs rfl ?_
        unfold onG at ho
        refine sh ?_
        refine acnd_t (by (simp; omega)) ?_
        refine sh ?_
        rw [show (decide (min (min p.a p.b) p.c ≥ -65536)) = true by simp; omega]
        refine acnd_t rfl ?_
        refine sh ?_
        refine acnd_t (by simp) ?_
        refine sh ?_
        refine ICall.pure h.n229.o229.hb (works04_c h.n229) rfl ?_
        refine sh ?_
        exact rT
      · rw [snap_off hp' ho] at cs
        refine sh ?_
        refine ICall.pure h.n241.o241.hb cs rfl ?_
        unfold onG at ho
        refine sh ?_
        refine cS (fun s1 => ?_) (fun s1 => ?_)
        · refine sh ?_
          rw [show (decide (min (min p.a p.b) p.c ≥ -65536)) = false by simp; omega]
          refine acnd_t rfl ?_
          refine sh ?_
          refine ICall.pure h.n229.o229.hb (works04_c h.n229) rfl ?_
          refine sh ?_
          exact rT
        · refine sh ?_
          refine acnd_t (by rfl) ?_
          refine sh ?_
          refine ICall.pure h.n229.o229.hb (works04_c h.n229) rfl ?_
          refine sh ?_
          exact rT
end Go.UM

/- What comes in, opened. -/


namespace Go.UM
open Go.AM

theorem open8 {T : TT} {n e : Nat} {es : List (List AV)} (hT : T.d e = .int .u8) (h : ∀ r ∈ es, cty T (n + 1) e r) : ∃ l : List UInt8, es = slc8 l := by
  obtain ⟨l, rfl, _⟩ := rows_map (f := fun c : UInt8 => [AV.int .u8 c.toNat]) (p := fun _ => True) (es := es) fun r hr => by
    have h1 := h r hr
    simp only [cty, hT] at h1
    obtain ⟨x, rfl, hx⟩ := h1
    have hx := wf_in hx
    simp only [inI] at hx
    refine ⟨u8 x, ?_, trivial⟩
    rw [← wr_u8, wr_in (k := .u8) hx]
  exact ⟨l, rfl⟩

theorem openK {T : TT} {n e : Nat} {k : IntKind} {es : List (List AV)} (hT : T.d e = .int k) (h : ∀ r ∈ es, cty T (n + 1) e r) : ∃ l : List Int, es = slcK k l ∧ ∀ x ∈ l, inI k x := by
  obtain ⟨l, rfl, hl⟩ := rows_map (f := fun c : Int => [AV.int k c]) (p := fun c => inI k c) (es := es) fun r hr => by
    have h1 := h r hr
    simp only [cty, hT] at h1
    obtain ⟨x, rfl, hx⟩ := h1
    exact ⟨x, rfl, wf_in hx⟩
  exact ⟨l, rfl, hl⟩
end Go.UM
