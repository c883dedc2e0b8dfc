/- Of the reckoning machine, and what is proved with it: texts joined by program. -/
import Derived.Test.YtfcclkehihjcbaaU1
import Derived.Test.YtfcclkehihjcbaaK2
import Derived.Test.YtfcclkehihjcbaaU0
set_option linter.all false

namespace Go.UM
open Go.AM
set_option maxRecDepth 4000
theorem T3.bad_a {y : T3} (h : y.a < 0 ∨ 255 < y.a) : y.good = false := by rw [Bool.eq_false_iff, ne_eq, T3.good_iff]; omega
theorem T3.bad_b {y : T3} (h : y.b < 0 ∨ 255 < y.b) : y.good = false := by rw [Bool.eq_false_iff, ne_eq, T3.good_iff]; omega
theorem T3.bad_c {y : T3} (h : y.c < 0 ∨ 255 < y.c) : y.good = false := by rw [Bool.eq_false_iff, ne_eq, T3.good_iff]; omega
theorem rtchk_c {R : Env} (h : N85 R) (x : Tex) (hl : x.t.length ≤ 1073741824) : R.Pc 85 [.agg x.row] (.int .i64 (tchk x)) :=
  h.o85.enter 200 rfl fun X bb hfit hp => by
    generalize hq : tchk x = q
    by_cases hin : x.side ∈ sides
    · have h2 := tchk_in hin
      have hsq : x.side * x.side ≤ 256 ∧ 0 ≤ x.side * x.side := by
        rcases h2 with h | h | h | h | h <;> rw [h] <;> decide
      refine sh ?_
      refine cS (fun h1 => ?_) (fun h1 => ?_)
      · refine sh ?_
        refine cS (fun h3 => ?_) (fun h3 => ?_)
        · refine sh ?_
          refine cS (fun h4 => ?_) (fun h4 => ?_)
          · refine sh ?_
            refine cS (fun h5 => ?_) (fun h5 => ?_)
            · refine sh ?_
              refine acnd_f (by (simp; omega)) ?_
              refine sh ?_
              refine cS (fun h6 => ?_) (fun h6 => ?_)
              · rw [tchk, if_pos (.inr h6)] at hq
                subst hq
                refine sh ?_
                exact rT
              · refine sh ?_
                refine lPa 200 (fun i : Nat => i ≤ x.t.length ∧ (x.t.take i).all T3.good = true) (fun i => ⟨[(1, .loc 0 1 0 0), (3, .int .i64 i)], [(0, .var (R.ty 12) x.row)], 1⟩) (fun i => x.t.length - i) (0) ?_ ?_
                · exact ⟨Nat.zero_le _, rfl⟩
                · intro i hi
                  dsimp only
                  refine sh ?_
                  refine cS (fun h7 => ?_) (fun h7 => ?_)
                  · obtain ⟨y, hy⟩ : ∃ u, x.t[i]? = some u := ⟨_, List.getElem?_eq_getElem (by omega)⟩
                    have hym := List.mem_of_getElem? hy
                    have hyg := T3.good_iff y
                    refine sh ?_
                    refine ILoop.one 100 ?_
                    refine sh ?_
                    refine acnd_t (by decide) ?_
                    refine sh ?_
                    refine eget_map hy ?_
                    refine sh ?_
                    refine cS (fun g1 => ?_) (fun g1 => ?_)
                    · rw [tchk_bad hym (T3.bad_a (.inl g1))] at hq
                      subst hq
                      refine sh ?_
                      exact rT
                    · refine sh ?_
                      refine eget_map hy ?_
                      refine sh ?_
                      refine cS (fun g2 => ?_) (fun g2 => ?_)
                      · rw [tchk_bad hym (T3.bad_a (.inr g2))] at hq
                        subst hq
                        refine sh ?_
                        exact rT
                      · refine sh ?_
                        refine ILoop.one 100 ?_
                        refine sh ?_
                        refine acnd_t (by decide) ?_
                        refine sh ?_
                        refine eget_map hy ?_
                        refine sh ?_
                        refine cS (fun g3 => ?_) (fun g3 => ?_)
                        · rw [tchk_bad hym (T3.bad_b (.inl g3))] at hq
                          subst hq
                          refine sh ?_
                          exact rT
                        · refine sh ?_
                          refine eget_map hy ?_
                          refine sh ?_
                          refine cS (fun g4 => ?_) (fun g4 => ?_)
                          · rw [tchk_bad hym (T3.bad_b (.inr g4))] at hq
                            subst hq
                            refine sh ?_
                            exact rT
                          · refine sh ?_
                            refine ILoop.one 100 ?_
                            refine sh ?_
                            refine acnd_t (by decide) ?_
                            refine sh ?_
                            refine eget_map hy ?_
                            refine sh ?_
                            refine cS (fun g5 => ?_) (fun g5 => ?_)
                            · rw [tchk_bad hym (T3.bad_c (.inl g5))] at hq
                              subst hq
                              refine sh ?_
                              exact rT
                            · refine sh ?_
                              refine eget_map hy ?_
                              refine sh ?_
                              refine cS (fun g6 => ?_) (fun g6 => ?_)
                              · rw [tchk_bad hym (T3.bad_c (.inr g6))] at hq
                                subst hq
                                refine sh ?_
                                exact rT
                              · refine sh ?_
                                refine ILoop.one 100 ?_
                                refine sh ?_
                                refine acnd_f (by decide) ?_
                                refine sh ?_
                                refine nXa (i + 1) ?_ ?_
                                · refine ⟨by omega, ?_⟩
                                  rw [all_take_succ hy, hi.2, Bool.true_and, hyg]
                                  omega
                                · omega
                  · have hz : ¬ (x.side ∉ sides ∨ (x.t.length : Int) ≠ x.side * x.side) := by simp [hin, h6]
                    rw [tchk, if_neg hz, if_pos] at hq
                    · subst hq
                      refine sh ?_
                      exact rT
                    · have := hi.2
                      rwa [List.take_of_length_le (by omega)] at this
            · refine sh ?_
              refine cS (fun h6 => ?_) (fun h6 => ?_)
              · rw [tchk, if_pos (.inr h6)] at hq
                subst hq
                refine sh ?_
                exact rT
              · refine sh ?_
                refine lPa 200 (fun i : Nat => i ≤ x.t.length ∧ (x.t.take i).all T3.good = true) (fun i => ⟨[(1, .loc 0 1 0 0), (3, .int .i64 i)], [(0, .var (R.ty 12) x.row)], 1⟩) (fun i => x.t.length - i) (0) ?_ ?_
                · exact ⟨Nat.zero_le _, rfl⟩
                · intro i hi
                  dsimp only
                  refine sh ?_
                  refine cS (fun h7 => ?_) (fun h7 => ?_)
                  · obtain ⟨y, hy⟩ : ∃ u, x.t[i]? = some u := ⟨_, List.getElem?_eq_getElem (by omega)⟩
                    have hym := List.mem_of_getElem? hy
                    have hyg := T3.good_iff y
                    refine sh ?_
                    refine ILoop.one 100 ?_
                    refine sh ?_
                    refine acnd_t (by decide) ?_
                    refine sh ?_
                    refine eget_map hy ?_
                    refine sh ?_
                    refine cS (fun g1 => ?_) (fun g1 => ?_)
                    · rw [tchk_bad hym (T3.bad_a (.inl g1))] at hq
                      subst hq
                      refine sh ?_
                      exact rT
                    · refine sh ?_
                      refine eget_map hy ?_
                      refine sh ?_
                      refine cS (fun g2 => ?_) (fun g2 => ?_)
                      · rw [tchk_bad hym (T3.bad_a (.inr g2))] at hq
                        subst hq
                        refine sh ?_
                        exact rT
                      · refine sh ?_
                        refine ILoop.one 100 ?_
                        refine sh ?_
                        refine acnd_t (by decide) ?_
                        refine sh ?_
                        refine eget_map hy ?_
                        refine sh ?_
                        refine cS (fun g3 => ?_) (fun g3 => ?_)
                        · rw [tchk_bad hym (T3.bad_b (.inl g3))] at hq
                          subst hq
                          refine sh ?_
                          exact rT
                        · refine sh ?_
                          refine eget_map hy ?_
                          refine sh ?_
                          refine cS (fun g4 => ?_) (fun g4 => ?_)
                          · rw [tchk_bad hym (T3.bad_b (.inr g4))] at hq
                            subst hq
                            refine sh ?_
                            exact rT
                          · refine sh ?_
                            refine ILoop.one 100 ?_
                            refine sh ?_
                            refine acnd_t (by decide) ?_
                            refine sh ?_
                            refine eget_map hy ?_
                            refine sh ?_
                            refine cS (fun g5 => ?_) (fun g5 => ?_)
                            · rw [tchk_bad hym (T3.bad_c (.inl g5))] at hq
                              subst hq
                              refine sh ?_
                              exact rT
                            · refine sh ?_
                              refine eget_map hy ?_
                              refine sh ?_
                              refine cS (fun g6 => ?_) (fun g6 => ?_)
                              · rw [tchk_bad hym (T3.bad_c (.inr g6))] at hq
                                subst hq
                                refine sh ?_
                                exact rT
                              · refine sh ?_
                                refine ILoop.one 100 ?_
                                refine sh ?_
                                refine acnd_f (by decide) ?_
                                refine sh ?_
                                refine nXa (i + 1) ?_ ?_
                                · refine ⟨by omega, ?_⟩
                                  rw [all_take_succ hy, hi.2, Bool.true_and, hyg]
                                  omega
                                · omega
                  · have hz : ¬ (x.side ∉ sides ∨ (x.t.length : Int) ≠ x.side * x.side) := by simp [hin, h6]
                    rw [tchk, if_neg hz, if_pos] at hq
                    · subst hq
                      refine sh ?_
                      exact rT
                    · have := hi.2
                      rwa [List.take_of_length_le (by omega)] at this
          · refine sh ?_
            refine cS (fun h6 => ?_) (fun h6 => ?_)
            · rw [tchk, if_pos (.inr h6)] at hq
              subst hq
              refine sh ?_
              exact rT
            · refine sh ?_
              refine lPa 200 (fun i : Nat => i ≤ x.t.length ∧ (x.t.take i).all T3.good = true) (fun i => ⟨[(1, .loc 0 1 0 0), (3, .int .i64 i)], [(0, .var (R.ty 12) x.row)], 1⟩) (fun i => x.t.length - i) (0) ?_ ?_
              · exact ⟨Nat.zero_le _, rfl⟩
              · intro i hi
                dsimp only
                refine sh ?_
                refine cS (fun h7 => ?_) (fun h7 => ?_)
                · obtain ⟨y, hy⟩ : ∃ u, x.t[i]? = some u := ⟨_, List.getElem?_eq_getElem (by omega)⟩
                  have hym := List.mem_of_getElem? hy
                  have hyg := T3.good_iff y
                  refine sh ?_
                  refine ILoop.one 100 ?_
                  refine sh ?_
                  refine acnd_t (by decide) ?_
                  refine sh ?_
                  refine eget_map hy ?_
                  refine sh ?_
                  refine cS (fun g1 => ?_) (fun g1 => ?_)
                  · rw [tchk_bad hym (T3.bad_a (.inl g1))] at hq
                    subst hq
                    refine sh ?_
                    exact rT
                  · refine sh ?_
                    refine eget_map hy ?_
                    refine sh ?_
                    refine cS (fun g2 => ?_) (fun g2 => ?_)
                    · rw [tchk_bad hym (T3.bad_a (.inr g2))] at hq
                      subst hq
                      refine sh ?_
                      exact rT
                    · refine sh ?_
                      refine ILoop.one 100 ?_
                      refine sh ?_
                      refine acnd_t (by decide) ?_
                      refine sh ?_
                      refine eget_map hy ?_
                      refine sh ?_
                      refine cS (fun g3 => ?_) (fun g3 => ?_)
                      · rw [tchk_bad hym (T3.bad_b (.inl g3))] at hq
                        subst hq
                        refine sh ?_
                        exact rT
                      · refine sh ?_
                        refine eget_map hy ?_
                        refine sh ?_
                        refine cS (fun g4 => ?_) (fun g4 => ?_)
                        · rw [tchk_bad hym (T3.bad_b (.inr g4))] at hq
                          subst hq
                          refine sh ?_
                          exact rT
                        · refine sh ?_
                          refine ILoop.one 100 ?_
                          refine sh ?_
                          refine acnd_t (by decide) ?_
                          refine sh ?_
                          refine eget_map hy ?_
                          refine sh ?_
                          refine cS (fun g5 => ?_) (fun g5 => ?_)
                          · rw [tchk_bad hym (T3.bad_c (.inl g5))] at hq
                            subst hq
                            refine sh ?_
                            exact rT
                          · refine sh ?_
                            refine eget_map hy ?_
                            refine sh ?_
                            refine cS (fun g6 => ?_) (fun g6 => ?_)
                            · rw [tchk_bad hym (T3.bad_c (.inr g6))] at hq
                              subst hq
                              refine sh ?_
                              exact rT
                            · refine sh ?_
                              refine ILoop.one 100 ?_
                              refine sh ?_
                              refine acnd_f (by decide) ?_
                              refine sh ?_
                              refine nXa (i + 1) ?_ ?_
                              · refine ⟨by omega, ?_⟩
                                rw [all_take_succ hy, hi.2, Bool.true_and, hyg]
                                omega
                              · omega
                · have hz : ¬ (x.side ∉ sides ∨ (x.t.length : Int) ≠ x.side * x.side) := by simp [hin, h6]
                  rw [tchk, if_neg hz, if_pos] at hq
                  · subst hq
                    refine sh ?_
                    exact rT
                  · have := hi.2
                    rwa [List.take_of_length_le (by omega)] at this
        · refine sh ?_
          refine cS (fun h6 => ?_) (fun h6 => ?_)
          · rw [tchk, if_pos (.inr h6)] at hq
            subst hq
            refine sh ?_
            exact rT
          · refine sh ?_
            refine lPa 200 (fun i : Nat => i ≤ x.t.length ∧ (x.t.take i).all T3.good = true) (fun i => ⟨[(1, .loc 0 1 0 0), (3, .int .i64 i)], [(0, .var (R.ty 12) x.row)], 1⟩) (fun i => x.t.length - i) (0) ?_ ?_
            · exact ⟨Nat.zero_le _, rfl⟩
            · intro i hi
              dsimp only
              refine sh ?_
              refine cS (fun h7 => ?_) (fun h7 => ?_)
              · obtain ⟨y, hy⟩ : ∃ u, x.t[i]? = some u := ⟨_, List.getElem?_eq_getElem (by omega)⟩
                have hym := List.mem_of_getElem? hy
                have hyg := T3.good_iff y
                refine sh ?_
                refine ILoop.one 100 ?_
                refine sh ?_
                refine acnd_t (by decide) ?_
                refine sh ?_
                refine eget_map hy ?_
                refine sh ?_
                refine cS (fun g1 => ?_) (fun g1 => ?_)
                · rw [tchk_bad hym (T3.bad_a (.inl g1))] at hq
                  subst hq
                  refine sh ?_
                  exact rT
                · refine sh ?_
                  refine eget_map hy ?_
                  refine sh ?_
                  refine cS (fun g2 => ?_) (fun g2 => ?_)
                  · rw [tchk_bad hym (T3.bad_a (.inr g2))] at hq
                    subst hq
                    refine sh ?_
                    exact rT
                  · refine sh ?_
                    refine ILoop.one 100 ?_
                    refine sh ?_
                    refine acnd_t (by decide) ?_
                    refine sh ?_
                    refine eget_map hy ?_
                    refine sh ?_
                    refine cS (fun g3 => ?_) (fun g3 => ?_)
                    · rw [tchk_bad hym (T3.bad_b (.inl g3))] at hq
                      subst hq
                      refine sh ?_
                      exact rT
                    · refine sh ?_
                      refine eget_map hy ?_
                      refine sh ?_
                      refine cS (fun g4 => ?_) (fun g4 => ?_)
                      · rw [tchk_bad hym (T3.bad_b (.inr g4))] at hq
                        subst hq
                        refine sh ?_
                        exact rT
                      · refine sh ?_
                        refine ILoop.one 100 ?_
                        refine sh ?_
                        refine acnd_t (by decide) ?_
                        refine sh ?_
                        refine eget_map hy ?_
                        refine sh ?_
                        refine cS (fun g5 => ?_) (fun g5 => ?_)
                        · rw [tchk_bad hym (T3.bad_c (.inl g5))] at hq
                          subst hq
                          refine sh ?_
                          exact rT
                        · refine sh ?_
                          refine eget_map hy ?_
                          refine sh ?_
                          refine cS (fun g6 => ?_) (fun g6 => ?_)
                          · rw [tchk_bad hym (T3.bad_c (.inr g6))] at hq
                            subst hq
                            refine sh ?_
                            exact rT
                          · refine sh ?_
                            refine ILoop.one 100 ?_
                            refine sh ?_
                            refine acnd_f (by decide) ?_
                            refine sh ?_
                            refine nXa (i + 1) ?_ ?_
                            · refine ⟨by omega, ?_⟩
                              rw [all_take_succ hy, hi.2, Bool.true_and, hyg]
                              omega
                            · omega
              · have hz : ¬ (x.side ∉ sides ∨ (x.t.length : Int) ≠ x.side * x.side) := by simp [hin, h6]
                rw [tchk, if_neg hz, if_pos] at hq
                · subst hq
                  refine sh ?_
                  exact rT
                · have := hi.2
                  rwa [List.take_of_length_le (by omega)] at this
      · refine sh ?_
        refine cS (fun h6 => ?_) (fun h6 => ?_)
        · rw [tchk, if_pos (.inr h6)] at hq
          subst hq
          refine sh ?_
          exact rT
        · refine sh ?_
          refine lPa 200 (fun i : Nat => i ≤ x.t.length ∧ (x.t.take i).all T3.good = true) (fun i => ⟨[(1, .loc 0 1 0 0), (3, .int .i64 i)], [(0, .var (R.ty 12) x.row)], 1⟩) (fun i => x.t.length - i) (0) ?_ ?_
          · exact ⟨Nat.zero_le _, rfl⟩
          · intro i hi
            dsimp only
            refine sh ?_
            refine cS (fun h7 => ?_) (fun h7 => ?_)
            · obtain ⟨y, hy⟩ : ∃ u, x.t[i]? = some u := ⟨_, List.getElem?_eq_getElem (by omega)⟩
              have hym := List.mem_of_getElem? hy
              have hyg := T3.good_iff y
              refine sh ?_
              refine ILoop.one 100 ?_
              refine sh ?_
              refine acnd_t (by decide) ?_
              refine sh ?_
              refine eget_map hy ?_
              refine sh ?_
              refine cS (fun g1 => ?_) (fun g1 => ?_)
              · rw [tchk_bad hym (T3.bad_a (.inl g1))] at hq
                subst hq
                refine sh ?_
                exact rT
              · refine sh ?_
                refine eget_map hy ?_
                refine sh ?_
                refine cS (fun g2 => ?_) (fun g2 => ?_)
                · rw [tchk_bad hym (T3.bad_a (.inr g2))] at hq
                  subst hq
                  refine sh ?_
                  exact rT
                · refine sh ?_
                  refine ILoop.one 100 ?_
                  refine sh ?_
                  refine acnd_t (by decide) ?_
                  refine sh ?_
                  refine eget_map hy ?_
                  refine sh ?_
                  refine cS (fun g3 => ?_) (fun g3 => ?_)
                  · rw [tchk_bad hym (T3.bad_b (.inl g3))] at hq
                    subst hq
                    refine sh ?_
                    exact rT
                  · refine sh ?_
                    refine eget_map hy ?_
                    refine sh ?_
                    refine cS (fun g4 => ?_) (fun g4 => ?_)
                    · rw [tchk_bad hym (T3.bad_b (.inr g4))] at hq
                      subst hq
                      refine sh ?_
                      exact rT
                    · refine sh ?_
                      refine ILoop.one 100 ?_
                      refine sh ?_
                      refine acnd_t (by decide) ?_
                      refine sh ?_
                      refine eget_map hy ?_
                      refine sh ?_
                      refine cS (fun g5 => ?_) (fun g5 => ?_)
                      · rw [tchk_bad hym (T3.bad_c (.inl g5))] at hq
                        subst hq
                        refine sh ?_
                        exact rT
                      · refine sh ?_
                        refine eget_map hy ?_
                        refine sh ?_
                        refine cS (fun g6 => ?_) (fun g6 => ?_)
                        · rw [tchk_bad hym (T3.bad_c (.inr g6))] at hq
                          subst hq
                          refine sh ?_
                          exact rT
                        · refine sh ?_
                          refine ILoop.one 100 ?_
                          refine sh ?_
                          refine acnd_f (by decide) ?_
                          refine sh ?_
                          refine nXa (i + 1) ?_ ?_
                          · refine ⟨by omega, ?_⟩
                            rw [all_take_succ hy, hi.2, Bool.true_and, hyg]
                            omega
                          · omega
            · have hz : ¬ (x.side ∉ sides ∨ (x.t.length : Int) ≠ x.side * x.side) := by simp [hin, h6]
              rw [tchk, if_neg hz, if_pos] at hq
              · subst hq
                refine sh ?_
                exact rT
              · have := hi.2
                rwa [List.take_of_length_le (by omega)] at this
    · have hout : ¬ x.side = 1 ∧ ¬ x.side = 2 ∧ ¬ x.side = 4 ∧ ¬ x.side = 8 ∧ ¬ x.side = 16 := by simpa [sides] using hin
      refine sh ?_
      refine acnd_t (by simpa using hout.1) ?_
      refine sh ?_
      refine acnd_t (by simpa using hout.2.1) ?_
      refine sh ?_
      refine acnd_t (by simpa using hout.2.2.1) ?_
      refine sh ?_
      refine acnd_t (by simpa using hout.2.2.2.1) ?_
      refine sh ?_
      refine acnd_t (by simpa using hout.2.2.2.2) ?_
      rw [tchk, if_pos (.inl hin)] at hq
      subst hq
      refine sh ?_
      exact rT
theorem rtencode_c {R : Env} (h : N83 R) (t : Tex) (hl : t.t.length ≤ 1073741824) : R.Pc 83 [.agg t.row] (.tup [.isl 1 (slc8 (tencs t).1), .int .i64 (tencs t).2]) :=
  h.o83.enter 200 rfl fun X bb hfit hp => by
    refine sh ?_
    refine ICall.pure h.n85.o85.hb (rtchk_c h.n85 t hl) rfl ?_
    generalize hq : tencs t = q
    refine sh ?_
    refine cS (fun h1 => ?_) (fun h1 => ?_)
    · rw [tencs, if_pos h1] at hq
      subst hq
      refine sh ?_
      exact rT
    · have ok := tchk_ok h1
      rw [tencs, if_neg (by simpa using h1)] at hq
      subst hq
      have hs := tchk_in ok.s
      have htl : t.t.length ≤ 256 := by
        have := ok.l
        rcases hs with h | h | h | h | h <;> rw [h] at this <;> omega
      refine sh ?_
      refine ILoop.inv 200 (fun i : Nat => i ≤ t.t.length) (fun i => ⟨[(1, .loc 0 1 0 0), (5, .osl 1 (u8 t.side :: texs (t.t.take i)).length), (6, .int .i64 i)], [(1, .arr (R.ty 4) 1 (slc8 (u8 t.side :: texs (t.t.take i)))), (0, .var (R.ty 12) t.row)], 2⟩) (fun i => t.t.length - i) (0) ?_ ⟨⟨_, hp, rfl⟩, ?_, ?_⟩ ?_
      · exact Nat.zero_le _
      · all_goals repeat' (first | exact True.intro | refine And.intro ?_ ?_ | (intro _u; clear _u) | (with_reducible first | refine eM ?_ ?_ | refine eF ?_ ?_ ?_ | refine eN ?_ | refine eL ?_ ?_ ?_ | refine eA ?_ ?_ | refine IWk.mk ⟨_, hp, rfl⟩ ?_ ?_) | refine IWk.mk ⟨_, hp, rfl⟩ ?_ ?_)
        all_goals first | with_reducible rfl | omega | exact Or.inl (by decide) | (simp; done) | rfl | skip
      · all_goals repeat' (first | exact True.intro | refine And.intro ?_ ?_ | (intro _u; clear _u) | (with_reducible first | refine eM ?_ ?_ | refine eF ?_ ?_ ?_ | refine eN ?_ | refine eL ?_ ?_ ?_ | refine eA ?_ ?_ | refine IWk.mk ⟨_, hp, rfl⟩ ?_ ?_) | refine IWk.mk ⟨_, hp, rfl⟩ ?_ ?_)
        all_goals first | with_reducible rfl | omega | exact Or.inl (by decide) | (simp; done) | rfl | skip
        simp [slc8, texs, u8_in (n := t.side) (by omega)]
      · intro i hi
        dsimp only
        refine sh ?_
        refine cS (fun h2 => ?_) (fun h2 => ?_)
        · obtain ⟨y, hy⟩ : ∃ u, t.t[i]? = some u := ⟨_, List.getElem?_eq_getElem (by omega)⟩
          have hlen := texs_len (t.t.take i)
          simp only [List.length_take] at hlen
          refine sh ?_
          refine ILoop.one 100 ?_
          refine sh ?_
          refine acnd_t (by decide) ?_
          refine sh ?_
          refine eget_map hy ?_
          refine sh ?_
          refine iwr_any ?_
          refine sh ?_
          refine ILoop.one 100 ?_
          refine sh ?_
          refine acnd_t (by decide) ?_
          refine sh ?_
          refine eget_map hy ?_
          refine sh ?_
          refine iwr_any ?_
          refine sh ?_
          refine ILoop.one 100 ?_
          refine sh ?_
          refine acnd_t (by decide) ?_
          refine sh ?_
          refine eget_map hy ?_
          refine sh ?_
          refine iwr_any ?_
          refine sh ?_
          refine ILoop.one 100 ?_
          refine sh ?_
          refine acnd_f (by decide) ?_
          refine sh ?_
          refine nX (i + 1) ?_ ?_ ⟨_, hp, rfl⟩ ?_ ?_
          · omega
          · omega
          · all_goals repeat' (first | exact True.intro | refine And.intro ?_ ?_ | (intro _u; clear _u) | (with_reducible first | refine eM ?_ ?_ | refine eF ?_ ?_ ?_ | refine eN ?_ | refine eL ?_ ?_ ?_ | refine eA ?_ ?_ | refine IWk.mk ⟨_, hp, rfl⟩ ?_ ?_) | refine IWk.mk ⟨_, hp, rfl⟩ ?_ ?_)
            all_goals first | with_reducible rfl | omega | exact Or.inl (by decide) | (simp; done) | rfl | skip
            rw [texs_succ hy]; simp
          · all_goals repeat' (first | exact True.intro | refine And.intro ?_ ?_ | (intro _u; clear _u) | (with_reducible first | refine eM ?_ ?_ | refine eF ?_ ?_ ?_ | refine eN ?_ | refine eL ?_ ?_ ?_ | refine eA ?_ ?_ | refine IWk.mk ⟨_, hp, rfl⟩ ?_ ?_) | refine IWk.mk ⟨_, hp, rfl⟩ ?_ ?_)
            all_goals first | with_reducible rfl | omega | exact Or.inl (by decide) | (simp; done) | rfl | skip
            rw [texs_succ hy]; simp [slc8, wr_u8]
        · rw [List.take_of_length_le (by omega)]
          refine sh ?_
          exact rT
end Go.UM

namespace Go.UM
open Go.AM
set_option maxRecDepth 4000
structure As where
  k : Int
  m : Ms
  x : Tex
  mt : Mat
  li : Lig
def As.row (a : As) : List AV := [.int .i64 a.k, .isl 3 (slc3 a.m.v), .isl 2 (slc2 a.m.uv), .isl 3 (slc3 a.m.t), .int .i64 a.x.side, .isl 3 (slc3 a.x.t),
  .int .i64 a.mt.k, .int .i64 a.mt.c.a, .int .i64 a.mt.c.b, .int .i64 a.mt.c.c, .int .i64 a.mt.r,
  .int .i64 a.li.k, .int .i64 a.li.c.a, .int .i64 a.li.c.b, .int .i64 a.li.c.c, .int .i64 a.li.p.a, .int .i64 a.li.p.b, .int .i64 a.li.p.c, .int .i64 a.li.u.a, .int .i64 a.li.u.b, .int .i64 a.li.u.c, .int .i64 a.li.v.a, .int .i64 a.li.v.b, .int .i64 a.li.v.c]
def matb (m : Mat) : List UInt8 := [u8 m.k] ++ enc 2 m.c.a ++ enc 2 m.c.b ++ enc 2 m.c.c ++ enc 2 m.r
def ligb (l : Lig) : List UInt8 := [u8 l.k] ++ (enc 4 l.c.a ++ enc 4 l.c.b ++ enc 4 l.c.c) ++ encP l.p ++ encP l.u ++ encP l.v
def own (a : As) : Int := if a.k = 1 then mchk a.m else if a.k = 2 then tchk a.x else if a.k = 3 then matk a.mt else if a.k = 4 then ligk a.li else 12
def abytes (a : As) : List UInt8 := if a.k = 1 then (menc a.m).1 else if a.k = 2 then (tencs a.x).1 else if a.k = 3 then matb a.mt else ligb a.li
theorem off3_in {p : T3} (h : off3 p = false) : -4096 ≤ p.a ∧ p.a ≤ 4096 ∧ -4096 ≤ p.b ∧ p.b ≤ 4096 ∧ -4096 ≤ p.c ∧ p.c ≤ 4096 := by simpa [off3] using h
structure Lig.May (l : Lig) : Prop where
  k : 0 ≤ l.k ∧ l.k ≤ 2
  c : 0 ≤ l.c.a ∧ l.c.a ≤ 1048576 ∧ 0 ≤ l.c.b ∧ l.c.b ≤ 1048576 ∧ 0 ≤ l.c.c ∧ l.c.c ≤ 1048576
  p : -4096 ≤ l.p.a ∧ l.p.a ≤ 4096 ∧ -4096 ≤ l.p.b ∧ l.p.b ≤ 4096 ∧ -4096 ≤ l.p.c ∧ l.p.c ≤ 4096
  u : -4096 ≤ l.u.a ∧ l.u.a ≤ 4096 ∧ -4096 ≤ l.u.b ∧ l.u.b ≤ 4096 ∧ -4096 ≤ l.u.c ∧ l.u.c ≤ 4096
  v : -4096 ≤ l.v.a ∧ l.v.a ≤ 4096 ∧ -4096 ≤ l.v.b ∧ l.v.b ≤ 4096 ∧ -4096 ≤ l.v.c ∧ l.v.c ≤ 4096
theorem ligk_may {l : Lig} (h : ligk l = 0) : l.May := by
  unfold ligk at h
  split at h
  · cases h
  · split at h
    · cases h
    · rename_i h1 h2
      simp only [not_or, Bool.not_eq_true] at h2
      exact ⟨by omega, by omega, off3_in h2.1, off3_in h2.2.1, off3_in h2.2.2⟩
theorem matk_may {m : Mat} (h : matk m = 0) : 0 ≤ m.k ∧ m.k ≤ 4 ∧ 0 ≤ m.r ∧ m.r ≤ 65535 ∧ 0 ≤ m.c.a ∧ m.c.a ≤ 65535 ∧ 0 ≤ m.c.b ∧ m.c.b ≤ 65535 ∧ 0 ≤ m.c.c ∧ m.c.c ≤ 65535 := by
  unfold matk at h
  split at h
  · cases h
  · omega
theorem put1_c {R : Env} (h : N54 R) (b : List UInt8) (x : Int) (hl : b.length ≤ 1000) (hx : 0 ≤ x ∧ x ≤ 65535) :
    R.Mc 54 [.isl 1 (slc8 b), .int .i64 2, .isl 1 (slcK .u64 [x])] [] (.tup [.osl 0 (b ++ enc 2 x).length, .int .i64 0]) [(0, .arr (R.ty 4) 1 (slc8 (b ++ enc 2 x)))] 1 := by
  have c := put_c h b 2 [x] (by simp; omega) (by simp; omega)
  rw [puts_in (by decide) (by decide) (by simp; omega)] at c
  simpa using c
theorem put3_c {R : Env} (h : N54 R) (b : List UInt8) (x y z : Int) (hl : b.length ≤ 1000) (hx : 0 ≤ x ∧ x ≤ 1048576 ∧ 0 ≤ y ∧ y ≤ 1048576 ∧ 0 ≤ z ∧ z ≤ 1048576) :
    R.Mc 54 [.isl 1 (slc8 b), .int .i64 4, .isl 1 (slcK .u64 [x, y, z])] [] (.tup [.osl 0 (b ++ (enc 4 x ++ enc 4 y ++ enc 4 z)).length, .int .i64 0]) [(0, .arr (R.ty 4) 1 (slc8 (b ++ (enc 4 x ++ enc 4 y ++ enc 4 z))))] 1 := by
  have c := put_c h b 4 [x, y, z] (by simp; omega) (by simp; omega)
  rw [puts_in (by decide) (by decide) (by simp; omega)] at c
  simpa using c
theorem sgn3_c {R : Env} (h : N71 R) (b : List UInt8) (p : T3) (hl : b.length ≤ 1000) (ok : -4096 ≤ p.a ∧ p.a ≤ 4096 ∧ -4096 ≤ p.b ∧ p.b ≤ 4096 ∧ -4096 ≤ p.c ∧ p.c ≤ 4096) :
    R.Mc 71 [.isl 1 (slc8 b), .int .i64 2, .isl 1 (slcK .i64 [p.a, p.b, p.c])] [] (.tup [.osl 0 (b ++ encP p).length, .int .i64 0]) [(0, .arr (R.ty 4) 1 (slc8 (b ++ encP p)))] 1 := by
  have c := signed_c h b 2 [p.a, p.b, p.c] (by simp; omega) (by simp [inI]; omega)
  rwa [signs_pt ok] at c
def Mat.four (m : Mat) : List Int := [m.c.a, m.c.b, m.c.c, m.r]
def Lig.three (l : Lig) : List T3 := [l.p, l.u, l.v]
@[simp] theorem four_length (m : Mat) : m.four.length = 4 := rfl
@[simp] theorem three_length (l : Lig) : l.three.length = 3 := rfl
theorem len_e2 : ∀ l : List Int, (l.flatMap (enc 2)).length = 2 * l.length
  | [] => rfl
  | x :: r => by have := len_e2 r; simp at this ⊢; omega
@[simp] theorem encP_length (p : T3) : (encP p).length = 6 := by simp [encP]
theorem encode_c {R : Env} (h : N311 R) (a : As) (hl : a.x.t.length ≤ 1073741824) (ok : own a = 0) : R.Pc 311 [.agg a.row] (.isl 1 (slc8 (abytes a))) :=
  h.o311.enter 200 rfl fun X bb hfit hp => by
    generalize hq : abytes a = q
    unfold own at ok
    refine sh ?_
    refine cS (fun h1 => ?_) (fun h1 => ?_)
    · rw [abytes, if_pos h1] at hq
      subst hq
      refine sh ?_
      refine ICall.pure h.n196.o196.hb (mencode_c h.n196 a.m) rfl ?_
      refine sh ?_
      exact rT
    · rw [if_neg h1] at ok
      refine sh ?_
      refine cS (fun h2 => ?_) (fun h2 => ?_)
      · rw [abytes, if_neg h1, if_pos h2] at hq
        subst hq
        refine sh ?_
        refine ICall.pure h.n82.o82.hb (tencode_c h.n82 a.x hl) rfl ?_
        refine sh ?_
        exact rT
      · rw [if_neg h2] at ok
        refine sh ?_
        refine cS (fun h3 => ?_) (fun h3 => ?_)
        · rw [abytes, if_neg h1, if_neg h2, if_pos h3] at hq
          subst hq
          rw [if_pos h3] at ok
          have may := matk_may ok
          have w8 : ((u8 a.mt.k).toNat : Int) = a.mt.k := u8_in (by omega)
          refine sh ?_
          refine ILoop.inv 100 (fun i : Nat => i ≤ 4) (fun i => ⟨[(8, .osl 2 ([u8 a.mt.k] ++ (a.mt.four.take i).flatMap (enc 2)).length), (55, .isl 1 (slcK .i64 a.mt.four)), (56, .int .i64 4), (57, .int .i64 i)], [(2, .arr (R.ty 4) 1 (slc8 ([u8 a.mt.k] ++ (a.mt.four.take i).flatMap (enc 2))))], 3⟩) (fun i => 4 - i) (0) ?_ ⟨⟨_, hp, rfl⟩, ?_, ?_⟩ ?_
          · exact Nat.zero_le _
          · all_goals repeat' (first | exact True.intro | refine And.intro ?_ ?_ | (intro _u; clear _u) | (with_reducible first | refine eM ?_ ?_ | refine eF ?_ ?_ ?_ | refine eN ?_ | refine eL ?_ ?_ ?_ | refine eA ?_ ?_ | refine IWk.mk ⟨_, hp, rfl⟩ ?_ ?_) | refine IWk.mk ⟨_, hp, rfl⟩ ?_ ?_)
            all_goals first | with_reducible rfl | omega | exact Or.inl (by decide) | (simp; done) | rfl | skip
          · all_goals repeat' (first | exact True.intro | refine And.intro ?_ ?_ | (intro _u; clear _u) | (with_reducible first | refine eM ?_ ?_ | refine eF ?_ ?_ ?_ | refine eN ?_ | refine eL ?_ ?_ ?_ | refine eA ?_ ?_ | refine IWk.mk ⟨_, hp, rfl⟩ ?_ ?_) | refine IWk.mk ⟨_, hp, rfl⟩ ?_ ?_)
            all_goals first | with_reducible rfl | omega | exact Or.inl (by decide) | (simp; done) | rfl | skip
            simp [slc8, w8]
          · intro i hi
            dsimp only
            refine sh ?_
            refine cS (fun h4 => ?_) (fun h4 => ?_)
            · obtain ⟨x, hx⟩ : ∃ u_, a.mt.four[i]? = some u_ := ⟨_, List.getElem?_eq_getElem (by first | omega | (simp <;> omega))⟩
              refine sh ?_
              refine eget_map hx ?_
              have hxx : 0 ≤ x ∧ x ≤ 65535 := by
                have := List.mem_of_getElem? hx
                simp only [Mat.four, List.mem_cons, List.not_mem_nil, or_false] at this
                rcases this with e | e | e | e <;> subst e <;> omega
              refine sh ?_
              refine cM true [] (put1_c h.n54 ([u8 a.mt.k] ++ (a.mt.four.take i).flatMap (enc 2)) x (by simp only [List.length_append, len_e2, List.length_take]; simp; omega) hxx) ?_
              repeat ((intro _u; clear _u); first | refine eK ?_ | refine eP ?_)
              refine sh ?_
              refine nRm [0, 1, 4] (i + 1) ?_ ?_ ?_
              · omega
              · omega
              · all_goals repeat' (first | exact True.intro | refine And.intro ?_ ?_ | (intro _u; clear _u) | (with_reducible first | refine eM ?_ ?_ | refine eF ?_ ?_ ?_ | refine eN ?_ | refine eL ?_ ?_ ?_ | refine eA ?_ ?_ | refine IWk.mk ⟨_, hp, rfl⟩ ?_ ?_) | refine IWk.mk ⟨_, hp, rfl⟩ ?_ ?_)
                all_goals first | with_reducible rfl | omega | exact Or.inl (by decide) | (simp; done) | rfl | skip
                rw [flat_succ hx]; simp
                rw [flat_succ hx]; simp
            · rw [show a.mt.four.take i = a.mt.four from List.take_of_length_le (by simp; omega)]
              refine sh ?_
              exact rT
        · rw [abytes, if_neg h1, if_neg h2, if_neg h3] at hq
          subst hq
          have h4 : a.k = 4 := by
            by_cases h4 : a.k = 4
            · exact h4
            · rw [if_neg h3, if_neg h4] at ok; cases ok
          rw [if_neg h3, if_pos h4] at ok
          have may := ligk_may ok
          have mk := may.k
          have mc := may.c
          have w8 : ((u8 a.li.k).toNat : Int) = a.li.k := u8_in (by omega)
          have c1 := put3_c h.n54 [u8 a.li.k] a.li.c.a a.li.c.b a.li.c.c (by simp) mc
          rw [show slc8 [u8 a.li.k] = [[.int .u8 a.li.k]] by simp [slc8, w8]] at c1
          refine sh ?_
          refine cM true [] (c1) ?_
          repeat ((intro _u; clear _u); first | refine eK ?_ | refine eP ?_)
          refine sh ?_
          refine lPa 100 (fun i : Nat => i ≤ 3) (fun i => ⟨[(12, .osl 4 ([u8 a.li.k] ++ (enc 4 a.li.c.a ++ enc 4 a.li.c.b ++ enc 4 a.li.c.c) ++ (a.li.three.take i).flatMap encP).length), (100, .isl 3 (slc3 a.li.three)), (101, .int .i64 3), (102, .int .i64 i)], [(4, .arr (R.ty 4) 1 (slc8 ([u8 a.li.k] ++ (enc 4 a.li.c.a ++ enc 4 a.li.c.b ++ enc 4 a.li.c.c) ++ (a.li.three.take i).flatMap encP)))], 5⟩) (fun i => 3 - i) (0) ?_ ?_
          · exact Nat.zero_le _
          · intro i hi
            dsimp only
            refine sh ?_
            refine cS (fun h5 => ?_) (fun h5 => ?_)
            · obtain ⟨x, hx⟩ : ∃ u_, a.li.three[i]? = some u_ := ⟨_, List.getElem?_eq_getElem (by first | omega | (simp <;> omega))⟩
              refine sh ?_
              refine eget_map hx ?_
              have hxx : -4096 ≤ x.a ∧ x.a ≤ 4096 ∧ -4096 ≤ x.b ∧ x.b ≤ 4096 ∧ -4096 ≤ x.c ∧ x.c ≤ 4096 := by
                have := List.mem_of_getElem? hx
                simp only [Lig.three, List.mem_cons, List.not_mem_nil, or_false] at this
                rcases this with e | e | e <;> subst e
                · exact may.p
                · exact may.u
                · exact may.v
              refine sh ?_
              refine cM true [] (sgn3_c h.n71 ([u8 a.li.k] ++ (enc 4 a.li.c.a ++ enc 4 a.li.c.b ++ enc 4 a.li.c.c) ++ (a.li.three.take i).flatMap encP) x (by simp only [List.length_append, len_P, List.length_take]; simp; omega) hxx) ?_
              repeat ((intro _u; clear _u); first | refine eK ?_ | refine eP ?_)
              refine sh ?_
              refine nRm [0, 1, 2, 3, 7] (i + 1) ?_ ?_ ?_
              · omega
              · omega
              · all_goals repeat' (first | exact True.intro | refine And.intro ?_ ?_ | (intro _u; clear _u) | (with_reducible first | refine eM ?_ ?_ | refine eF ?_ ?_ ?_ | refine eN ?_ | refine eL ?_ ?_ ?_ | refine eA ?_ ?_ | refine IWk.mk ⟨_, hp, rfl⟩ ?_ ?_) | refine IWk.mk ⟨_, hp, rfl⟩ ?_ ?_)
                all_goals first | with_reducible rfl | omega | exact Or.inl (by decide) | (simp; done) | rfl | skip
                rw [flat_succ hx]; simp
                rw [flat_succ hx]; simp
            · rw [show a.li.three.take i = a.li.three from List.take_of_length_le (by simp; omega)]
              refine sh ?_
              exact rT
theorem rput1_c {R : Env} (h : N55 R) (b : List UInt8) (x : Int) (hl : b.length ≤ 1000) (hx : 0 ≤ x ∧ x ≤ 1048576) :
    R.Mc 55 [.isl 1 (slc8 b), .int .i64 4, .isl 1 (slcK .u64 [x])] [] (.tup [.osl 0 (b ++ enc 4 x).length, .int .i64 0]) [(0, .arr (R.ty 4) 1 (slc8 (b ++ enc 4 x)))] 1 := by
  have c := rput_c h b 4 [x] (by simp; omega) (by simp; omega)
  rw [puts_in (by decide) (by decide) (by simp; omega)] at c
  simpa using c
theorem enc2_eq {v : Int} (hv : 0 ≤ v ∧ v ≤ 65535) : enc 2 v = [u8 (v % 256), u8 (v / 256)] := by
  unfold enc
  simp [List.range_succ, u8_mod]
theorem bytes_c {R : Env} (h : N314 R) (a : As) (hl : a.x.t.length ≤ 1073741824) (ok : own a = 0) : R.Pc 314 [.agg a.row] (.isl 1 (slc8 (abytes a))) :=
  h.o314.enter 200 rfl fun X bb hfit hp => by
    generalize hq : abytes a = q
    unfold own at ok
    refine sh ?_
    refine cS (fun h1 => ?_) (fun h1 => ?_)
    · rw [abytes, if_pos h1] at hq
      subst hq
      refine sh ?_
      refine ICall.pure h.n197.o197.hb (rmencode_c h.n197 a.m) rfl ?_
      refine sh ?_
      exact rT
    · rw [if_neg h1] at ok
      refine sh ?_
      refine cS (fun h2 => ?_) (fun h2 => ?_)
      · rw [abytes, if_neg h1, if_pos h2] at hq
        subst hq
        refine sh ?_
        refine ICall.pure h.n83.o83.hb (rtencode_c h.n83 a.x hl) rfl ?_
        refine sh ?_
        exact rT
      · rw [if_neg h2] at ok
        refine sh ?_
        refine cS (fun h3 => ?_) (fun h3 => ?_)
        · rw [abytes, if_neg h1, if_neg h2, if_pos h3] at hq
          subst hq
          rw [if_pos h3] at ok
          have may := matk_may ok
          have w8 : ((u8 a.mt.k).toNat : Int) = a.mt.k := u8_in (by omega)
          refine sh ?_
          refine ILoop.inv 100 (fun i : Nat => i ≤ 4) (fun i => ⟨[(8, .osl 2 ([u8 a.mt.k] ++ (a.mt.four.take i).flatMap (enc 2)).length), (9, .isl 1 (slcK .i64 a.mt.four)), (10, .int .i64 i)], [(2, .arr (R.ty 4) 1 (slc8 ([u8 a.mt.k] ++ (a.mt.four.take i).flatMap (enc 2))))], 3⟩) (fun i => 4 - i) (0) ?_ ⟨⟨_, hp, rfl⟩, ?_, ?_⟩ ?_
          · exact Nat.zero_le _
          · all_goals repeat' (first | exact True.intro | refine And.intro ?_ ?_ | (intro _u; clear _u) | (with_reducible first | refine eM ?_ ?_ | refine eF ?_ ?_ ?_ | refine eN ?_ | refine eL ?_ ?_ ?_ | refine eA ?_ ?_ | refine IWk.mk ⟨_, hp, rfl⟩ ?_ ?_) | refine IWk.mk ⟨_, hp, rfl⟩ ?_ ?_)
            all_goals first | with_reducible rfl | omega | exact Or.inl (by decide) | (simp; done) | rfl | skip
          · all_goals repeat' (first | exact True.intro | refine And.intro ?_ ?_ | (intro _u; clear _u) | (with_reducible first | refine eM ?_ ?_ | refine eF ?_ ?_ ?_ | refine eN ?_ | refine eL ?_ ?_ ?_ | refine eA ?_ ?_ | refine IWk.mk ⟨_, hp, rfl⟩ ?_ ?_) | refine IWk.mk ⟨_, hp, rfl⟩ ?_ ?_)
            all_goals first | with_reducible rfl | omega | exact Or.inl (by decide) | (simp; done) | rfl | skip
            simp [slc8, w8]
          · intro i hi
            dsimp only
            refine sh ?_
            refine cS (fun h4 => ?_) (fun h4 => ?_)
            · obtain ⟨x, hx⟩ : ∃ u, a.mt.four[i]? = some u := ⟨_, List.getElem?_eq_getElem (by simp; omega)⟩
              have hxx : 0 ≤ x ∧ x ≤ 65535 := by
                have := List.mem_of_getElem? hx
                simp only [Mat.four, List.mem_cons, List.not_mem_nil, or_false] at this
                rcases this with e | e | e | e <;> subst e <;> omega
              refine sh ?_
              refine eget_map hx ?_
              refine sh ?_
              rw [Int.tmod_eq_emod_of_nonneg (by omega)]
              refine wI ?_
              refine sh ?_
              refine eget_map hx ?_
              refine sh ?_
              rw [Int.tdiv_eq_ediv_of_nonneg (by omega)]
              refine wI ?_
              refine sh ?_
              refine nD ?_ (by simp only [slc8_length, List.length_append, len_e2, List.length_take]; simp; omega)
              refine sh ?_
              refine nX (i + 1) ?_ ?_ ⟨_, hp, rfl⟩ ?_ ?_
              · omega
              · omega
              · all_goals repeat' (first | exact True.intro | refine And.intro ?_ ?_ | (intro _u; clear _u) | (with_reducible first | refine eM ?_ ?_ | refine eF ?_ ?_ ?_ | refine eN ?_ | refine eL ?_ ?_ ?_ | refine eA ?_ ?_ | refine IWk.mk ⟨_, hp, rfl⟩ ?_ ?_) | refine IWk.mk ⟨_, hp, rfl⟩ ?_ ?_)
                all_goals first | with_reducible rfl | omega | exact Or.inl (by decide) | (simp; done) | rfl | skip
                rw [flat_succ hx, enc2_eq hxx]; simp
              · all_goals repeat' (first | exact True.intro | refine And.intro ?_ ?_ | (intro _u; clear _u) | (with_reducible first | refine eM ?_ ?_ | refine eF ?_ ?_ ?_ | refine eN ?_ | refine eL ?_ ?_ ?_ | refine eA ?_ ?_ | refine IWk.mk ⟨_, hp, rfl⟩ ?_ ?_) | refine IWk.mk ⟨_, hp, rfl⟩ ?_ ?_)
                all_goals first | with_reducible rfl | omega | exact Or.inl (by decide) | (simp; done) | rfl | skip
                rw [flat_succ hx, enc2_eq hxx]; simp [slc8]
                refine ⟨(u8_in ?_).symm, (u8_in ?_).symm⟩ <;> omega
            · rw [show a.mt.four.take i = a.mt.four from List.take_of_length_le (by simp; omega)]
              refine sh ?_
              exact rT
        · rw [abytes, if_neg h1, if_neg h2, if_neg h3] at hq
          subst hq
          have h4 : a.k = 4 := by
            by_cases h4 : a.k = 4
            · exact h4
            · rw [if_neg h3, if_neg h4] at ok; cases ok
          rw [if_neg h3, if_pos h4] at ok
          have may := ligk_may ok
          have mk := may.k
          have mc := may.c
          have w8 : ((u8 a.li.k).toNat : Int) = a.li.k := u8_in (by omega)
          have c1 := rput1_c h.n55 [u8 a.li.k] a.li.c.a (by simp) (by omega)
          rw [show slc8 [u8 a.li.k] = [[.int .u8 a.li.k]] by simp [slc8, w8]] at c1
          refine sh ?_
          refine ILoop.one 100 ?_
          refine sh ?_
          refine acnd_t (by decide) ?_
          refine sh ?_
          refine cM true [] (c1) ?_
          repeat ((intro _u; clear _u); first | refine eK ?_ | refine eP ?_)
          refine sh ?_
          refine ILoop.one 100 ?_
          refine sh ?_
          refine acnd_t (by decide) ?_
          refine sh ?_
          refine cM true [] (rput1_c h.n55 ([u8 a.li.k] ++ enc 4 a.li.c.a) a.li.c.b (by simp) (by omega)) ?_
          repeat ((intro _u; clear _u); first | refine eK ?_ | refine eP ?_)
          refine sh ?_
          refine ILoop.one 100 ?_
          refine sh ?_
          refine acnd_t (by decide) ?_
          refine sh ?_
          refine cM true [] (rput1_c h.n55 ([u8 a.li.k] ++ enc 4 a.li.c.a ++ enc 4 a.li.c.b) a.li.c.c (by simp) (by omega)) ?_
          repeat ((intro _u; clear _u); first | refine eK ?_ | refine eP ?_)
          refine sh ?_
          refine ILoop.one 100 ?_
          refine sh ?_
          refine acnd_f (by decide) ?_
          refine sh ?_
          refine cM true [] (rpoint_c h.n212 ([u8 a.li.k] ++ enc 4 a.li.c.a ++ enc 4 a.li.c.b ++ enc 4 a.li.c.c) a.li.p (by simp) may.p) ?_
          repeat ((intro _u; clear _u); first | refine eK ?_ | refine eP ?_)
          refine sh ?_
          refine cM true [] (rpoint_c h.n212 ([u8 a.li.k] ++ enc 4 a.li.c.a ++ enc 4 a.li.c.b ++ enc 4 a.li.c.c ++ encP a.li.p) a.li.u (by simp) may.u) ?_
          repeat ((intro _u; clear _u); first | refine eK ?_ | refine eP ?_)
          refine sh ?_
          refine cM true [] (rpoint_c h.n212 ([u8 a.li.k] ++ enc 4 a.li.c.a ++ enc 4 a.li.c.b ++ enc 4 a.li.c.c ++ encP a.li.p ++ encP a.li.u) a.li.v (by simp) may.v) ?_
          repeat ((intro _u; clear _u); first | refine eK ?_ | refine eP ?_)
          refine sh ?_
          exact rT
end Go.UM

namespace Go.UM
open Go.AM
set_option maxRecDepth 4000
deriving instance DecidableEq for T3
deriving instance DecidableEq for Mat
deriving instance DecidableEq for Lig
theorem T3.eq_iff {x y : T3} : (x.a == y.a && (x.b == y.b && x.c == y.c)) = true ↔ x = y := by
  cases x; cases y; simp
theorem T3.ne_iff {x y : T3} : (x.a == y.a && (x.b == y.b && x.c == y.c)) = false ↔ x ≠ y := by
  rw [← Bool.not_eq_true, T3.eq_iff]
theorem P2.eq_iff {x y : Int × Int} : (x.1 == y.1 && x.2 == y.2) = true ↔ x = y := by
  cases x; cases y; simp
theorem P2.ne_iff {x y : Int × Int} : (x.1 == y.1 && x.2 == y.2) = false ↔ x ≠ y := by
  rw [← Bool.not_eq_true, P2.eq_iff]
theorem ne_at {α : Type} {l l' : List α} {i : Nat} {x y : α} (h : l[i]? = some x) (h' : l'[i]? = some y) (hn : x ≠ y) : l ≠ l' := by
  intro e; subst e; rw [h] at h'; exact hn (Option.some.inj h')
theorem take_eq_succ {α : Type} {l l' : List α} {i : Nat} {x : α} (h : l[i]? = some x) (h' : l'[i]? = some x) (e : l.take i = l'.take i) : l.take (i + 1) = l'.take (i + 1) := by
  rw [take_succ_get h, take_succ_get h', e]
theorem eq_of_take {α : Type} {l l' : List α} {i : Nat} (h : l.take i = l'.take i) (hi : l.length ≤ i) (e : l.length = l'.length) : l = l' := by
  rwa [List.take_of_length_le hi, List.take_of_length_le (by omega)] at h
theorem alk315_c {R : Env} (h : N315 R) (l l' : List T3) (hl : l.length ≤ 1073741824) : R.Pc 315 [.isl 3 (slc3 l), .isl 3 (slc3 l')] (.bool (decide (l = l'))) :=
  h.o315.enter 100 rfl fun X bb hfit hp => by
    refine sh ?_
    refine cS (fun h1 => ?_) (fun h1 => ?_)
    · refine sh ?_
      refine rT ?_
      all_goals repeat' (first | exact True.intro | refine And.intro ?_ ?_ | (intro _u; clear _u) | (with_reducible first | refine eM ?_ ?_ | refine eF ?_ ?_ ?_ | refine eN ?_ | refine eL ?_ ?_ ?_ | refine eA ?_ ?_ | refine IWk.mk ⟨_, hp, rfl⟩ ?_ ?_) | refine IWk.mk ⟨_, hp, rfl⟩ ?_ ?_)
      all_goals first | with_reducible rfl | omega | exact Or.inl (by decide) | (simp; done) | rfl | skip
      refine (decide_eq_false ?_).symm
      exact fun e => h1 (by simp [e])
    · refine sh ?_
      refine lPa 100 (fun i : Nat => i ≤ l.length ∧ l.take i = l'.take i) (fun i => ⟨[(0, .isl 3 (slc3 l)), (1, .isl 3 (slc3 l')), (12, .int .i64 l.length), (13, .int .i64 i)], [], 0⟩) (fun i => l.length - i) (0) ?_ ?_
      · exact ⟨Nat.zero_le _, rfl⟩
      · intro i hi
        dsimp only
        refine sh ?_
        refine cS (fun h2 => ?_) (fun h2 => ?_)
        · obtain ⟨x, hx⟩ : ∃ u, l[i]? = some u := ⟨_, List.getElem?_eq_getElem (by omega)⟩
          obtain ⟨y, hy⟩ : ∃ u, l'[i]? = some u := ⟨_, List.getElem?_eq_getElem (by omega)⟩
          refine sh ?_
          refine eget_map hx ?_
          refine sh ?_
          refine eget_map hy ?_
          refine sh ?_
          refine cS (fun h3 => ?_) (fun h3 => ?_)
          · refine sh ?_
            refine rT ?_
            all_goals repeat' (first | exact True.intro | refine And.intro ?_ ?_ | (intro _u; clear _u) | (with_reducible first | refine eM ?_ ?_ | refine eF ?_ ?_ ?_ | refine eN ?_ | refine eL ?_ ?_ ?_ | refine eA ?_ ?_ | refine IWk.mk ⟨_, hp, rfl⟩ ?_ ?_) | refine IWk.mk ⟨_, hp, rfl⟩ ?_ ?_)
            all_goals first | with_reducible rfl | omega | exact Or.inl (by decide) | (simp; done) | rfl | skip
            refine (decide_eq_false ?_).symm
            exact ne_at hx hy (T3.ne_iff.1 h3)
          · have e := T3.eq_iff.1 h3
            subst e
            refine sh ?_
            refine nXa (i + 1) ?_ ?_
            · exact ⟨by omega, take_eq_succ hx hy hi.2⟩
            · omega
        · refine sh ?_
          refine rT ?_
          all_goals repeat' (first | exact True.intro | refine And.intro ?_ ?_ | (intro _u; clear _u) | (with_reducible first | refine eM ?_ ?_ | refine eF ?_ ?_ ?_ | refine eN ?_ | refine eL ?_ ?_ ?_ | refine eA ?_ ?_ | refine IWk.mk ⟨_, hp, rfl⟩ ?_ ?_) | refine IWk.mk ⟨_, hp, rfl⟩ ?_ ?_)
          all_goals first | with_reducible rfl | omega | exact Or.inl (by decide) | (simp; done) | rfl | skip
          refine (decide_eq_true ?_).symm
          exact eq_of_take hi.2 (by omega) (by omega)
theorem alk317_c {R : Env} (h : N317 R) (l l' : List T3) (hl : l.length ≤ 1073741824) : R.Pc 317 [.isl 3 (slc3 l), .isl 3 (slc3 l')] (.bool (decide (l = l'))) :=
  h.o317.enter 100 rfl fun X bb hfit hp => by
    refine sh ?_
    refine cS (fun h1 => ?_) (fun h1 => ?_)
    · refine sh ?_
      refine rT ?_
      all_goals repeat' (first | exact True.intro | refine And.intro ?_ ?_ | (intro _u; clear _u) | (with_reducible first | refine eM ?_ ?_ | refine eF ?_ ?_ ?_ | refine eN ?_ | refine eL ?_ ?_ ?_ | refine eA ?_ ?_ | refine IWk.mk ⟨_, hp, rfl⟩ ?_ ?_) | refine IWk.mk ⟨_, hp, rfl⟩ ?_ ?_)
      all_goals first | with_reducible rfl | omega | exact Or.inl (by decide) | (simp; done) | rfl | skip
      refine (decide_eq_false ?_).symm
      exact fun e => h1 (by simp [e])
    · refine sh ?_
      refine lPa 100 (fun i : Nat => i ≤ l.length ∧ l.take i = l'.take i) (fun i => ⟨[(0, .isl 3 (slc3 l)), (1, .isl 3 (slc3 l')), (12, .int .i64 l.length), (13, .int .i64 i)], [], 0⟩) (fun i => l.length - i) (0) ?_ ?_
      · exact ⟨Nat.zero_le _, rfl⟩
      · intro i hi
        dsimp only
        refine sh ?_
        refine cS (fun h2 => ?_) (fun h2 => ?_)
        · obtain ⟨x, hx⟩ : ∃ u, l[i]? = some u := ⟨_, List.getElem?_eq_getElem (by omega)⟩
          obtain ⟨y, hy⟩ : ∃ u, l'[i]? = some u := ⟨_, List.getElem?_eq_getElem (by omega)⟩
          refine sh ?_
          refine eget_map hx ?_
          refine sh ?_
          refine eget_map hy ?_
          refine sh ?_
          refine cS (fun h3 => ?_) (fun h3 => ?_)
          · refine sh ?_
            refine rT ?_
            all_goals repeat' (first | exact True.intro | refine And.intro ?_ ?_ | (intro _u; clear _u) | (with_reducible first | refine eM ?_ ?_ | refine eF ?_ ?_ ?_ | refine eN ?_ | refine eL ?_ ?_ ?_ | refine eA ?_ ?_ | refine IWk.mk ⟨_, hp, rfl⟩ ?_ ?_) | refine IWk.mk ⟨_, hp, rfl⟩ ?_ ?_)
            all_goals first | with_reducible rfl | omega | exact Or.inl (by decide) | (simp; done) | rfl | skip
            refine (decide_eq_false ?_).symm
            exact ne_at hx hy (T3.ne_iff.1 h3)
          · have e := T3.eq_iff.1 h3
            subst e
            refine sh ?_
            refine nXa (i + 1) ?_ ?_
            · exact ⟨by omega, take_eq_succ hx hy hi.2⟩
            · omega
        · refine sh ?_
          refine rT ?_
          all_goals repeat' (first | exact True.intro | refine And.intro ?_ ?_ | (intro _u; clear _u) | (with_reducible first | refine eM ?_ ?_ | refine eF ?_ ?_ ?_ | refine eN ?_ | refine eL ?_ ?_ ?_ | refine eA ?_ ?_ | refine IWk.mk ⟨_, hp, rfl⟩ ?_ ?_) | refine IWk.mk ⟨_, hp, rfl⟩ ?_ ?_)
          all_goals first | with_reducible rfl | omega | exact Or.inl (by decide) | (simp; done) | rfl | skip
          refine (decide_eq_true ?_).symm
          exact eq_of_take hi.2 (by omega) (by omega)
theorem alk316_c {R : Env} (h : N316 R) (l l' : List (Int × Int)) (hl : l.length ≤ 1073741824) : R.Pc 316 [.isl 2 (slc2 l), .isl 2 (slc2 l')] (.bool (decide (l = l'))) :=
  h.o316.enter 100 rfl fun X bb hfit hp => by
    refine sh ?_
    refine cS (fun h1 => ?_) (fun h1 => ?_)
    · refine sh ?_
      refine rT ?_
      all_goals repeat' (first | exact True.intro | refine And.intro ?_ ?_ | (intro _u; clear _u) | (with_reducible first | refine eM ?_ ?_ | refine eF ?_ ?_ ?_ | refine eN ?_ | refine eL ?_ ?_ ?_ | refine eA ?_ ?_ | refine IWk.mk ⟨_, hp, rfl⟩ ?_ ?_) | refine IWk.mk ⟨_, hp, rfl⟩ ?_ ?_)
      all_goals first | with_reducible rfl | omega | exact Or.inl (by decide) | (simp; done) | rfl | skip
      refine (decide_eq_false ?_).symm
      exact fun e => h1 (by simp [e])
    · refine sh ?_
      refine lPa 100 (fun i : Nat => i ≤ l.length ∧ l.take i = l'.take i) (fun i => ⟨[(0, .isl 2 (slc2 l)), (1, .isl 2 (slc2 l')), (12, .int .i64 l.length), (13, .int .i64 i)], [], 0⟩) (fun i => l.length - i) (0) ?_ ?_
      · exact ⟨Nat.zero_le _, rfl⟩
      · intro i hi
        dsimp only
        refine sh ?_
        refine cS (fun h2 => ?_) (fun h2 => ?_)
        · obtain ⟨x, hx⟩ : ∃ u, l[i]? = some u := ⟨_, List.getElem?_eq_getElem (by omega)⟩
          obtain ⟨y, hy⟩ : ∃ u, l'[i]? = some u := ⟨_, List.getElem?_eq_getElem (by omega)⟩
          refine sh ?_
          refine eget_map hx ?_
          refine sh ?_
          refine eget_map hy ?_
          refine sh ?_
          refine cS (fun h3 => ?_) (fun h3 => ?_)
          · refine sh ?_
            refine rT ?_
            all_goals repeat' (first | exact True.intro | refine And.intro ?_ ?_ | (intro _u; clear _u) | (with_reducible first | refine eM ?_ ?_ | refine eF ?_ ?_ ?_ | refine eN ?_ | refine eL ?_ ?_ ?_ | refine eA ?_ ?_ | refine IWk.mk ⟨_, hp, rfl⟩ ?_ ?_) | refine IWk.mk ⟨_, hp, rfl⟩ ?_ ?_)
            all_goals first | with_reducible rfl | omega | exact Or.inl (by decide) | (simp; done) | rfl | skip
            refine (decide_eq_false ?_).symm
            exact ne_at hx hy (P2.ne_iff.1 h3)
          · have e := P2.eq_iff.1 h3
            subst e
            refine sh ?_
            refine nXa (i + 1) ?_ ?_
            · exact ⟨by omega, take_eq_succ hx hy hi.2⟩
            · omega
        · refine sh ?_
          refine rT ?_
          all_goals repeat' (first | exact True.intro | refine And.intro ?_ ?_ | (intro _u; clear _u) | (with_reducible first | refine eM ?_ ?_ | refine eF ?_ ?_ ?_ | refine eN ?_ | refine eL ?_ ?_ ?_ | refine eA ?_ ?_ | refine IWk.mk ⟨_, hp, rfl⟩ ?_ ?_) | refine IWk.mk ⟨_, hp, rfl⟩ ?_ ?_)
          all_goals first | with_reducible rfl | omega | exact Or.inl (by decide) | (simp; done) | rfl | skip
          refine (decide_eq_true ?_).symm
          exact eq_of_take hi.2 (by omega) (by omega)
theorem Mat.eq_iff {x y : Mat} : (x.k == y.k && (x.c.a == y.c.a && (x.c.b == y.c.b && (x.c.c == y.c.c && x.r == y.r)))) = true ↔ x = y := by
  obtain ⟨_, ⟨_, _, _⟩, _⟩ := x; obtain ⟨_, ⟨_, _, _⟩, _⟩ := y; simp [and_assoc]
theorem Mat.ne_iff {x y : Mat} : (x.k == y.k && (x.c.a == y.c.a && (x.c.b == y.c.b && (x.c.c == y.c.c && x.r == y.r)))) = false ↔ x ≠ y := by
  rw [← Bool.not_eq_true, Mat.eq_iff]
theorem Lig.eq_iff {x y : Lig} : (x.k == y.k && (x.c.a == y.c.a && (x.c.b == y.c.b && (x.c.c == y.c.c && (x.p.a == y.p.a && (x.p.b == y.p.b && (x.p.c == y.p.c && (x.u.a == y.u.a && (x.u.b == y.u.b && (x.u.c == y.u.c && (x.v.a == y.v.a && (x.v.b == y.v.b && x.v.c == y.v.c)))))))))))) = true ↔ x = y := by
  obtain ⟨_, ⟨_, _, _⟩, ⟨_, _, _⟩, ⟨_, _, _⟩, ⟨_, _, _⟩⟩ := x; obtain ⟨_, ⟨_, _, _⟩, ⟨_, _, _⟩, ⟨_, _, _⟩, ⟨_, _, _⟩⟩ := y; simp [and_assoc]
theorem Lig.ne_iff {x y : Lig} : (x.k == y.k && (x.c.a == y.c.a && (x.c.b == y.c.b && (x.c.c == y.c.c && (x.p.a == y.p.a && (x.p.b == y.p.b && (x.p.c == y.p.c && (x.u.a == y.u.a && (x.u.b == y.u.b && (x.u.c == y.u.c && (x.v.a == y.v.a && (x.v.b == y.v.b && x.v.c == y.v.c)))))))))))) = false ↔ x ≠ y := by
  rw [← Bool.not_eq_true, Lig.eq_iff]
structure As.Few (a : As) : Prop where
  v : a.m.v.length ≤ 1000
  uv : a.m.uv.length ≤ 1000
  t : a.m.t.length ≤ 1000
  x : a.x.t.length ≤ 1000
def asame (a b : As) : Bool := decide (a.k = b.k ∧ a.mt = b.mt ∧ a.li = b.li ∧ a.x.side = b.x.side ∧ a.m.v = b.m.v ∧ a.m.uv = b.m.uv ∧ a.m.t = b.m.t ∧ a.x.t = b.x.t)
theorem same_c {R : Env} (h : N298 R) (a b : As) (f : a.Few) : R.Pc 298 [.agg a.row, .agg b.row] (.bool (asame a b)) :=
  h.o298.enter 100 rfl fun X bb hfit hp => by
    refine sh ?_
    refine cS (fun h1 => ?_) (fun h1 => ?_)
    · refine sh ?_
      refine rT ?_
      all_goals repeat' (first | exact True.intro | refine And.intro ?_ ?_ | (intro _u; clear _u) | (with_reducible first | refine eM ?_ ?_ | refine eF ?_ ?_ ?_ | refine eN ?_ | refine eL ?_ ?_ ?_ | refine eA ?_ ?_ | refine IWk.mk ⟨_, hp, rfl⟩ ?_ ?_) | refine IWk.mk ⟨_, hp, rfl⟩ ?_ ?_)
      all_goals first | with_reducible rfl | omega | exact Or.inl (by decide) | (simp; done) | rfl | skip
      exact (decide_eq_false fun e => h1 e.1).symm
    · refine sh ?_
      refine cS (fun h2 => ?_) (fun h2 => ?_)
      · refine sh ?_
        refine rT ?_
        all_goals repeat' (first | exact True.intro | refine And.intro ?_ ?_ | (intro _u; clear _u) | (with_reducible first | refine eM ?_ ?_ | refine eF ?_ ?_ ?_ | refine eN ?_ | refine eL ?_ ?_ ?_ | refine eA ?_ ?_ | refine IWk.mk ⟨_, hp, rfl⟩ ?_ ?_) | refine IWk.mk ⟨_, hp, rfl⟩ ?_ ?_)
        all_goals first | with_reducible rfl | omega | exact Or.inl (by decide) | (simp; done) | rfl | skip
        exact (decide_eq_false fun e => Mat.ne_iff.1 h2 e.2.1).symm
      · refine sh ?_
        refine cS (fun h3 => ?_) (fun h3 => ?_)
        · refine sh ?_
          refine rT ?_
          all_goals repeat' (first | exact True.intro | refine And.intro ?_ ?_ | (intro _u; clear _u) | (with_reducible first | refine eM ?_ ?_ | refine eF ?_ ?_ ?_ | refine eN ?_ | refine eL ?_ ?_ ?_ | refine eA ?_ ?_ | refine IWk.mk ⟨_, hp, rfl⟩ ?_ ?_) | refine IWk.mk ⟨_, hp, rfl⟩ ?_ ?_)
          all_goals first | with_reducible rfl | omega | exact Or.inl (by decide) | (simp; done) | rfl | skip
          exact (decide_eq_false fun e => Lig.ne_iff.1 h3 e.2.2.1).symm
        · refine sh ?_
          refine cS (fun h4 => ?_) (fun h4 => ?_)
          · refine sh ?_
            refine rT ?_
            all_goals repeat' (first | exact True.intro | refine And.intro ?_ ?_ | (intro _u; clear _u) | (with_reducible first | refine eM ?_ ?_ | refine eF ?_ ?_ ?_ | refine eN ?_ | refine eL ?_ ?_ ?_ | refine eA ?_ ?_ | refine IWk.mk ⟨_, hp, rfl⟩ ?_ ?_) | refine IWk.mk ⟨_, hp, rfl⟩ ?_ ?_)
            all_goals first | with_reducible rfl | omega | exact Or.inl (by decide) | (simp; done) | rfl | skip
            exact (decide_eq_false fun e => h4 e.2.2.2.1).symm
          · refine sh ?_
            refine ICall.pure h.n315.o315.hb (alk315_c h.n315 a.m.v b.m.v (by have := f.v; omega)) rfl ?_
            refine sh ?_
            refine cS (fun h5 => ?_) (fun h5 => ?_)
            · refine sh ?_
              refine ICall.pure h.n316.o316.hb (alk316_c h.n316 a.m.uv b.m.uv (by have := f.uv; omega)) rfl ?_
              refine sh ?_
              refine cS (fun h6 => ?_) (fun h6 => ?_)
              · refine sh ?_
                refine ICall.pure h.n317.o317.hb (alk317_c h.n317 a.m.t b.m.t (by have := f.t; omega)) rfl ?_
                refine sh ?_
                refine cS (fun h7 => ?_) (fun h7 => ?_)
                · refine sh ?_
                  refine ICall.pure h.n317.o317.hb (alk317_c h.n317 a.x.t b.x.t (by have := f.x; omega)) rfl ?_
                  refine sh ?_
                  refine rT ?_
                  all_goals repeat' (first | exact True.intro | refine And.intro ?_ ?_ | (intro _u; clear _u) | (with_reducible first | refine eM ?_ ?_ | refine eF ?_ ?_ ?_ | refine eN ?_ | refine eL ?_ ?_ ?_ | refine eA ?_ ?_ | refine IWk.mk ⟨_, hp, rfl⟩ ?_ ?_) | refine IWk.mk ⟨_, hp, rfl⟩ ?_ ?_)
                  all_goals first | with_reducible rfl | omega | exact Or.inl (by decide) | (simp; done) | rfl | skip
                  simp [asame, h1, Mat.eq_iff.1 h2, Lig.eq_iff.1 h3, h4, h5, h6, h7]
                · refine sh ?_
                  refine rT ?_
                  all_goals repeat' (first | exact True.intro | refine And.intro ?_ ?_ | (intro _u; clear _u) | (with_reducible first | refine eM ?_ ?_ | refine eF ?_ ?_ ?_ | refine eN ?_ | refine eL ?_ ?_ ?_ | refine eA ?_ ?_ | refine IWk.mk ⟨_, hp, rfl⟩ ?_ ?_) | refine IWk.mk ⟨_, hp, rfl⟩ ?_ ?_)
                  all_goals first | with_reducible rfl | omega | exact Or.inl (by decide) | (simp; done) | rfl | skip
                  exact (decide_eq_false fun e => h7 e.2.2.2.2.2.2.1).symm
              · refine sh ?_
                refine rT ?_
                all_goals repeat' (first | exact True.intro | refine And.intro ?_ ?_ | (intro _u; clear _u) | (with_reducible first | refine eM ?_ ?_ | refine eF ?_ ?_ ?_ | refine eN ?_ | refine eL ?_ ?_ ?_ | refine eA ?_ ?_ | refine IWk.mk ⟨_, hp, rfl⟩ ?_ ?_) | refine IWk.mk ⟨_, hp, rfl⟩ ?_ ?_)
                all_goals first | with_reducible rfl | omega | exact Or.inl (by decide) | (simp; done) | rfl | skip
                exact (decide_eq_false fun e => h6 e.2.2.2.2.2.1).symm
            · refine sh ?_
              refine rT ?_
              all_goals repeat' (first | exact True.intro | refine And.intro ?_ ?_ | (intro _u; clear _u) | (with_reducible first | refine eM ?_ ?_ | refine eF ?_ ?_ ?_ | refine eN ?_ | refine eL ?_ ?_ ?_ | refine eA ?_ ?_ | refine IWk.mk ⟨_, hp, rfl⟩ ?_ ?_) | refine IWk.mk ⟨_, hp, rfl⟩ ?_ ?_)
              all_goals first | with_reducible rfl | omega | exact Or.inl (by decide) | (simp; done) | rfl | skip
              exact (decide_eq_false fun e => h5 e.2.2.2.2.1).symm
theorem rsame13_c {R : Env} (h : N204 R) (m n : Ms) (l1 : m.v.length ≤ 1000) (l2 : m.uv.length ≤ 1000) (l3 : m.t.length ≤ 1000) : R.Pc 204 [.agg m.row, .agg n.row] (.bool (decide (m.v = n.v ∧ m.uv = n.uv ∧ m.t = n.t))) :=
  h.o204.enter 100 rfl fun X bb hfit hp => by
    refine sh ?_
    refine cS (fun h1 => ?_) (fun h1 => ?_)
    · refine sh ?_
      refine rT ?_
      all_goals repeat' (first | exact True.intro | refine And.intro ?_ ?_ | (intro _u; clear _u) | (with_reducible first | refine eM ?_ ?_ | refine eF ?_ ?_ ?_ | refine eN ?_ | refine eL ?_ ?_ ?_ | refine eA ?_ ?_ | refine IWk.mk ⟨_, hp, rfl⟩ ?_ ?_) | refine IWk.mk ⟨_, hp, rfl⟩ ?_ ?_)
      all_goals first | with_reducible rfl | omega | exact Or.inl (by decide) | (simp; done) | rfl | skip
      exact (decide_eq_false fun e => h1 (by rw [e.1])).symm
    · refine sh ?_
      refine cS (fun h2 => ?_) (fun h2 => ?_)
      · refine sh ?_
        refine rT ?_
        all_goals repeat' (first | exact True.intro | refine And.intro ?_ ?_ | (intro _u; clear _u) | (with_reducible first | refine eM ?_ ?_ | refine eF ?_ ?_ ?_ | refine eN ?_ | refine eL ?_ ?_ ?_ | refine eA ?_ ?_ | refine IWk.mk ⟨_, hp, rfl⟩ ?_ ?_) | refine IWk.mk ⟨_, hp, rfl⟩ ?_ ?_)
        all_goals first | with_reducible rfl | omega | exact Or.inl (by decide) | (simp; done) | rfl | skip
        exact (decide_eq_false fun e => h2 (by rw [e.2.1])).symm
      · refine sh ?_
        refine cS (fun h3 => ?_) (fun h3 => ?_)
        · refine sh ?_
          refine rT ?_
          all_goals repeat' (first | exact True.intro | refine And.intro ?_ ?_ | (intro _u; clear _u) | (with_reducible first | refine eM ?_ ?_ | refine eF ?_ ?_ ?_ | refine eN ?_ | refine eL ?_ ?_ ?_ | refine eA ?_ ?_ | refine IWk.mk ⟨_, hp, rfl⟩ ?_ ?_) | refine IWk.mk ⟨_, hp, rfl⟩ ?_ ?_)
          all_goals first | with_reducible rfl | omega | exact Or.inl (by decide) | (simp; done) | rfl | skip
          exact (decide_eq_false fun e => h3 (by rw [e.2.2])).symm
        · refine sh ?_
          refine lPa 100 (fun i : Nat => i ≤ m.v.length ∧ m.v.take i = n.v.take i) (fun i => ⟨[(2, .loc 0 1 0 0), (3, .loc 1 1 0 0), (5, .int .i64 i)], [(1, .var (R.ty 25) n.row), (0, .var (R.ty 25) m.row)], 2⟩) (fun i => m.v.length - i) (0) ?_ ?_
          · exact ⟨Nat.zero_le _, rfl⟩
          · intro i hi
            dsimp only
            refine sh ?_
            refine cS (fun g1 => ?_) (fun g1 => ?_)
            · obtain ⟨x, hx⟩ : ∃ u, m.v[i]? = some u := ⟨_, List.getElem?_eq_getElem (by omega)⟩
              obtain ⟨y, hy⟩ : ∃ u, n.v[i]? = some u := ⟨_, List.getElem?_eq_getElem (by omega)⟩
              refine sh ?_
              refine eget_map hx ?_
              refine sh ?_
              refine eget_map hy ?_
              refine sh ?_
              refine cS (fun g2 => ?_) (fun g2 => ?_)
              · refine sh ?_
                refine rT ?_
                all_goals repeat' (first | exact True.intro | refine And.intro ?_ ?_ | (intro _u; clear _u) | (with_reducible first | refine eM ?_ ?_ | refine eF ?_ ?_ ?_ | refine eN ?_ | refine eL ?_ ?_ ?_ | refine eA ?_ ?_ | refine IWk.mk ⟨_, hp, rfl⟩ ?_ ?_) | refine IWk.mk ⟨_, hp, rfl⟩ ?_ ?_)
                all_goals first | with_reducible rfl | omega | exact Or.inl (by decide) | (simp; done) | rfl | skip
                exact (decide_eq_false fun e => ne_at hx hy (T3.ne_iff.1 g2) e.1).symm
              · have e := T3.eq_iff.1 g2
                subst e
                refine sh ?_
                refine nXa (i + 1) ?_ ?_
                · exact ⟨by omega, take_eq_succ hx hy hi.2⟩
                · omega
            · have ev := eq_of_take hi.2 (by omega) (by omega)
              refine sh ?_
              refine lPa 100 (fun i : Nat => i ≤ m.uv.length ∧ m.uv.take i = n.uv.take i) (fun i => ⟨[(2, .loc 0 1 0 0), (3, .loc 1 1 0 0), (6, .int .i64 i)], [(1, .var (R.ty 25) n.row), (0, .var (R.ty 25) m.row)], 2⟩) (fun i => m.uv.length - i) (0) ?_ ?_
              · exact ⟨Nat.zero_le _, rfl⟩
              · intro i hi
                dsimp only
                refine sh ?_
                refine cS (fun g3 => ?_) (fun g3 => ?_)
                · obtain ⟨x, hx⟩ : ∃ u, m.uv[i]? = some u := ⟨_, List.getElem?_eq_getElem (by omega)⟩
                  obtain ⟨y, hy⟩ : ∃ u, n.uv[i]? = some u := ⟨_, List.getElem?_eq_getElem (by omega)⟩
                  refine sh ?_
                  refine eget_map hx ?_
                  refine sh ?_
                  refine eget_map hy ?_
                  refine sh ?_
                  refine cS (fun g4 => ?_) (fun g4 => ?_)
                  · refine sh ?_
                    refine rT ?_
                    all_goals repeat' (first | exact True.intro | refine And.intro ?_ ?_ | (intro _u; clear _u) | (with_reducible first | refine eM ?_ ?_ | refine eF ?_ ?_ ?_ | refine eN ?_ | refine eL ?_ ?_ ?_ | refine eA ?_ ?_ | refine IWk.mk ⟨_, hp, rfl⟩ ?_ ?_) | refine IWk.mk ⟨_, hp, rfl⟩ ?_ ?_)
                    all_goals first | with_reducible rfl | omega | exact Or.inl (by decide) | (simp; done) | rfl | skip
                    exact (decide_eq_false fun e => ne_at hx hy (P2.ne_iff.1 g4) e.2.1).symm
                  · have e := P2.eq_iff.1 g4
                    subst e
                    refine sh ?_
                    refine nXa (i + 1) ?_ ?_
                    · exact ⟨by omega, take_eq_succ hx hy hi.2⟩
                    · omega
                · have eu := eq_of_take hi.2 (by omega) (by omega)
                  refine sh ?_
                  refine lPa 100 (fun i : Nat => i ≤ m.t.length ∧ m.t.take i = n.t.take i) (fun i => ⟨[(2, .loc 0 1 0 0), (3, .loc 1 1 0 0), (7, .int .i64 i)], [(1, .var (R.ty 25) n.row), (0, .var (R.ty 25) m.row)], 2⟩) (fun i => m.t.length - i) (0) ?_ ?_
                  · exact ⟨Nat.zero_le _, rfl⟩
                  · intro i hi
                    dsimp only
                    refine sh ?_
                    refine cS (fun g5 => ?_) (fun g5 => ?_)
                    · obtain ⟨x, hx⟩ : ∃ u, m.t[i]? = some u := ⟨_, List.getElem?_eq_getElem (by omega)⟩
                      obtain ⟨y, hy⟩ : ∃ u, n.t[i]? = some u := ⟨_, List.getElem?_eq_getElem (by omega)⟩
                      refine sh ?_
                      refine eget_map hx ?_
                      refine sh ?_
                      refine eget_map hy ?_
                      refine sh ?_
                      refine cS (fun g6 => ?_) (fun g6 => ?_)
                      · refine sh ?_
                        refine rT ?_
                        all_goals repeat' (first | exact True.intro | refine And.intro ?_ ?_ | (intro _u; clear _u) | (with_reducible first | refine eM ?_ ?_ | refine eF ?_ ?_ ?_ | refine eN ?_ | refine eL ?_ ?_ ?_ | refine eA ?_ ?_ | refine IWk.mk ⟨_, hp, rfl⟩ ?_ ?_) | refine IWk.mk ⟨_, hp, rfl⟩ ?_ ?_)
                        all_goals first | with_reducible rfl | omega | exact Or.inl (by decide) | (simp; done) | rfl | skip
                        exact (decide_eq_false fun e => ne_at hx hy (T3.ne_iff.1 g6) e.2.2).symm
                      · have e := T3.eq_iff.1 g6
                        subst e
                        refine sh ?_
                        refine nXa (i + 1) ?_ ?_
                        · exact ⟨by omega, take_eq_succ hx hy hi.2⟩
                        · omega
                    · have et := eq_of_take hi.2 (by omega) (by omega)
                      refine sh ?_
                      refine rT ?_
                      all_goals repeat' (first | exact True.intro | refine And.intro ?_ ?_ | (intro _u; clear _u) | (with_reducible first | refine eM ?_ ?_ | refine eF ?_ ?_ ?_ | refine eN ?_ | refine eL ?_ ?_ ?_ | refine eA ?_ ?_ | refine IWk.mk ⟨_, hp, rfl⟩ ?_ ?_) | refine IWk.mk ⟨_, hp, rfl⟩ ?_ ?_)
                      all_goals first | with_reducible rfl | omega | exact Or.inl (by decide) | (simp; done) | rfl | skip
                      exact (decide_eq_true ⟨ev, eu, et⟩).symm
theorem rsame14_c {R : Env} (h : N89 R) (t u : Tex) (hl : t.t.length ≤ 1000) : R.Pc 89 [.agg t.row, .agg u.row] (.bool (decide (t.side = u.side ∧ t.t = u.t))) :=
  h.o89.enter 200 rfl fun X bb hfit hp => by
    refine sh ?_
    refine cS (fun h1 => ?_) (fun h1 => ?_)
    · refine sh ?_
      refine rT ?_
      all_goals repeat' (first | exact True.intro | refine And.intro ?_ ?_ | (intro _u; clear _u) | (with_reducible first | refine eM ?_ ?_ | refine eF ?_ ?_ ?_ | refine eN ?_ | refine eL ?_ ?_ ?_ | refine eA ?_ ?_ | refine IWk.mk ⟨_, hp, rfl⟩ ?_ ?_) | refine IWk.mk ⟨_, hp, rfl⟩ ?_ ?_)
      all_goals first | with_reducible rfl | omega | exact Or.inl (by decide) | (simp; done) | rfl | skip
      exact (decide_eq_false fun e => h1 e.1).symm
    · refine sh ?_
      refine cS (fun h2 => ?_) (fun h2 => ?_)
      · refine sh ?_
        refine rT ?_
        all_goals repeat' (first | exact True.intro | refine And.intro ?_ ?_ | (intro _u; clear _u) | (with_reducible first | refine eM ?_ ?_ | refine eF ?_ ?_ ?_ | refine eN ?_ | refine eL ?_ ?_ ?_ | refine eA ?_ ?_ | refine IWk.mk ⟨_, hp, rfl⟩ ?_ ?_) | refine IWk.mk ⟨_, hp, rfl⟩ ?_ ?_)
        all_goals first | with_reducible rfl | omega | exact Or.inl (by decide) | (simp; done) | rfl | skip
        exact (decide_eq_false fun e => h2 (by rw [e.2])).symm
      · refine sh ?_
        refine lPa 100 (fun i : Nat => i ≤ t.t.length ∧ t.t.take i = u.t.take i) (fun i => ⟨[(2, .loc 0 1 0 0), (3, .loc 1 1 0 0), (5, .int .i64 i)], [(0, .var (R.ty 12) t.row), (1, .var (R.ty 12) u.row)], 2⟩) (fun i => t.t.length - i) (0) ?_ ?_
        · exact ⟨Nat.zero_le _, rfl⟩
        · intro i hi
          dsimp only
          refine sh ?_
          refine cS (fun g1 => ?_) (fun g1 => ?_)
          · obtain ⟨x, hx⟩ : ∃ v, t.t[i]? = some v := ⟨_, List.getElem?_eq_getElem (by omega)⟩
            obtain ⟨y, hy⟩ : ∃ v, u.t[i]? = some v := ⟨_, List.getElem?_eq_getElem (by omega)⟩
            refine sh ?_
            refine eget_map hx ?_
            refine sh ?_
            refine eget_map hy ?_
            refine sh ?_
            refine cS (fun g2 => ?_) (fun g2 => ?_)
            · refine sh ?_
              refine rT ?_
              all_goals repeat' (first | exact True.intro | refine And.intro ?_ ?_ | (intro _u; clear _u) | (with_reducible first | refine eM ?_ ?_ | refine eF ?_ ?_ ?_ | refine eN ?_ | refine eL ?_ ?_ ?_ | refine eA ?_ ?_ | refine IWk.mk ⟨_, hp, rfl⟩ ?_ ?_) | refine IWk.mk ⟨_, hp, rfl⟩ ?_ ?_)
              all_goals first | with_reducible rfl | omega | exact Or.inl (by decide) | (simp; done) | rfl | skip
              exact (decide_eq_false fun e => ne_at hx hy (T3.ne_iff.1 g2) e.2).symm
            · have e := T3.eq_iff.1 g2
              subst e
              refine sh ?_
              refine nXa (i + 1) ?_ ?_
              · exact ⟨by omega, take_eq_succ hx hy hi.2⟩
              · omega
          · have et := eq_of_take hi.2 (by omega) (by omega)
            refine sh ?_
            refine rT ?_
            all_goals repeat' (first | exact True.intro | refine And.intro ?_ ?_ | (intro _u; clear _u) | (with_reducible first | refine eM ?_ ?_ | refine eF ?_ ?_ ?_ | refine eN ?_ | refine eL ?_ ?_ ?_ | refine eA ?_ ?_ | refine IWk.mk ⟨_, hp, rfl⟩ ?_ ?_) | refine IWk.mk ⟨_, hp, rfl⟩ ?_ ?_)
            all_goals first | with_reducible rfl | omega | exact Or.inl (by decide) | (simp; done) | rfl | skip
            exact (decide_eq_true ⟨h1, et⟩).symm
theorem rsame_c {R : Env} (h : N299 R) (a b : As) (f : a.Few) : R.Pc 299 [.agg a.row, .agg b.row] (.bool (asame a b)) :=
  h.o299.enter 200 rfl fun X bb hfit hp => by
    refine sh ?_
    refine cS (fun h1 => ?_) (fun h1 => ?_)
    · refine sh ?_
      refine ICall.pure h.n204.o204.hb (rsame13_c h.n204 a.m b.m f.v f.uv f.t) rfl ?_
      refine sh ?_
      refine cS (fun h2 => ?_) (fun h2 => ?_)
      · refine sh ?_
        refine ICall.pure h.n89.o89.hb (rsame14_c h.n89 a.x b.x f.x) rfl ?_
        refine sh ?_
        refine cS (fun h3 => ?_) (fun h3 => ?_)
        · refine sh ?_
          refine cS (fun h4 => ?_) (fun h4 => ?_)
          · refine sh ?_
            refine rT ?_
            all_goals repeat' (first | exact True.intro | refine And.intro ?_ ?_ | (intro _u; clear _u) | (with_reducible first | refine eM ?_ ?_ | refine eF ?_ ?_ ?_ | refine eN ?_ | refine eL ?_ ?_ ?_ | refine eA ?_ ?_ | refine IWk.mk ⟨_, hp, rfl⟩ ?_ ?_) | refine IWk.mk ⟨_, hp, rfl⟩ ?_ ?_)
            all_goals first | with_reducible rfl | omega | exact Or.inl (by decide) | (simp; done) | rfl | skip
            rw [Bool.eq_iff_iff, Lig.eq_iff]; simp [asame, h1, Mat.eq_iff.1 h4, h2, h3]
          · refine sh ?_
            refine rT ?_
            all_goals repeat' (first | exact True.intro | refine And.intro ?_ ?_ | (intro _u; clear _u) | (with_reducible first | refine eM ?_ ?_ | refine eF ?_ ?_ ?_ | refine eN ?_ | refine eL ?_ ?_ ?_ | refine eA ?_ ?_ | refine IWk.mk ⟨_, hp, rfl⟩ ?_ ?_) | refine IWk.mk ⟨_, hp, rfl⟩ ?_ ?_)
            all_goals first | with_reducible rfl | omega | exact Or.inl (by decide) | (simp; done) | rfl | skip
            exact (decide_eq_false fun e => Mat.ne_iff.1 h4 e.2.1).symm
        · refine sh ?_
          refine rT ?_
          all_goals repeat' (first | exact True.intro | refine And.intro ?_ ?_ | (intro _u; clear _u) | (with_reducible first | refine eM ?_ ?_ | refine eF ?_ ?_ ?_ | refine eN ?_ | refine eL ?_ ?_ ?_ | refine eA ?_ ?_ | refine IWk.mk ⟨_, hp, rfl⟩ ?_ ?_) | refine IWk.mk ⟨_, hp, rfl⟩ ?_ ?_)
          all_goals first | with_reducible rfl | omega | exact Or.inl (by decide) | (simp; done) | rfl | skip
          exact (decide_eq_false fun e => h3 ⟨e.2.2.2.1, e.2.2.2.2.2.2.2⟩).symm
      · refine sh ?_
        refine rT ?_
        all_goals repeat' (first | exact True.intro | refine And.intro ?_ ?_ | (intro _u; clear _u) | (with_reducible first | refine eM ?_ ?_ | refine eF ?_ ?_ ?_ | refine eN ?_ | refine eL ?_ ?_ ?_ | refine eA ?_ ?_ | refine IWk.mk ⟨_, hp, rfl⟩ ?_ ?_) | refine IWk.mk ⟨_, hp, rfl⟩ ?_ ?_)
        all_goals first | with_reducible rfl | omega | exact Or.inl (by decide) | (simp; done) | rfl | skip
        exact (decide_eq_false fun e => h2 ⟨e.2.2.2.2.1, e.2.2.2.2.2.1, e.2.2.2.2.2.2.1⟩).symm
    · refine sh ?_
      refine rT ?_
      all_goals repeat' (first | exact True.intro | refine And.intro ?_ ?_ | (intro _u; clear _u) | (with_reducible first | refine eM ?_ ?_ | refine eF ?_ ?_ ?_ | refine eN ?_ | refine eL ?_ ?_ ?_ | refine eA ?_ ?_ | refine IWk.mk ⟨_, hp, rfl⟩ ?_ ?_) | refine IWk.mk ⟨_, hp, rfl⟩ ?_ ?_)
      all_goals first | with_reducible rfl | omega | exact Or.inl (by decide) | (simp; done) | rfl | skip
      exact (decide_eq_false fun e => h1 e.1).symm
end Go.UM

namespace Go.UM
open Go.AM
structure Mf where
  (id kind label m0 m1 m2 m3 m4 m5 m6 m7 first last size chunks : Int)
def Mf.row (m : Mf) : List AV := [.int .u64 m.id, .int .i64 m.kind, .int .u32 m.label, .int .u8 m.m0, .int .u8 m.m1, .int .u8 m.m2, .int .u8 m.m3, .int .u8 m.m4, .int .u8 m.m5, .int .u8 m.m6, .int .u8 m.m7,
  .int .u32 m.first, .int .u32 m.last, .int .i64 m.size, .int .i64 m.chunks]
def Mf.mask (m : Mf) : Nat → Int
  | 0 => m.m0 | 1 => m.m1 | 2 => m.m2 | 3 => m.m3 | 4 => m.m4 | 5 => m.m5 | 6 => m.m6 | 7 => m.m7 | _ => 0
theorem vix_masks {m : Mf} {i : Nat} {K : AV → Prop} (hi : i < 8) (k : K (.int .u8 (m.mask i))) : VIx false 8 1 [.int .u8 m.m0, .int .u8 m.m1, .int .u8 m.m2, .int .u8 m.m3, .int .u8 m.m4, .int .u8 m.m5, .int .u8 m.m6, .int .u8 m.m7] (i : Int) K := by
  refine ⟨⟨by omega, by omega⟩, ?_⟩
  obtain h | h | h | h | h | h | h | h : i = 0 ∨ i = 1 ∨ i = 2 ∨ i = 3 ∨ i = 4 ∨ i = 5 ∨ i = 6 ∨ i = 7 := by omega
  all_goals subst h; exact k
structure Mf.Ok (m : Mf) : Prop where
  id : inI .u64 m.id
  kind : inI .i64 m.kind
  label : inI .u32 m.label
  mask : ∀ i, 0 ≤ m.mask i ∧ m.mask i ≤ 255
  first : inI .u32 m.first
  last : inI .u32 m.last
  size : inI .i64 m.size
  chunks : inI .i64 m.chunks
end Go.UM

namespace Go.UM
open Go.AM
set_option maxRecDepth 4000
def cap (k : Int) : Int := if k = 1 then 2048 else if k = 2 then 1024 else if k = 3 ∨ k = 4 then 64 else 0
theorem cap_c {R : Env} (h : N37 R) (k : Int) : R.Pc 37 [.int .i64 k] (.int .i64 (cap k)) :=
  h.o37.enter 60 rfl fun X b hfit hp => by
    refine sh ?_
    refine cS (fun h1 => ?_) (fun h1 => ?_)
    · refine sh ?_
      refine rT ?_
      all_goals repeat' (first | exact True.intro | refine And.intro ?_ ?_ | (intro _u; clear _u) | (with_reducible first | refine eM ?_ ?_ | refine eF ?_ ?_ ?_ | refine eN ?_ | refine eL ?_ ?_ ?_ | refine eA ?_ ?_ | refine IWk.mk ⟨_, hp, rfl⟩ ?_ ?_) | refine IWk.mk ⟨_, hp, rfl⟩ ?_ ?_)
      all_goals first | with_reducible rfl | omega | exact Or.inl (by decide) | (simp; done) | rfl | skip
      simp [cap]; omega
    · refine sh ?_
      refine cS (fun h2 => ?_) (fun h2 => ?_)
      · refine sh ?_
        refine rT ?_
        all_goals repeat' (first | exact True.intro | refine And.intro ?_ ?_ | (intro _u; clear _u) | (with_reducible first | refine eM ?_ ?_ | refine eF ?_ ?_ ?_ | refine eN ?_ | refine eL ?_ ?_ ?_ | refine eA ?_ ?_ | refine IWk.mk ⟨_, hp, rfl⟩ ?_ ?_) | refine IWk.mk ⟨_, hp, rfl⟩ ?_ ?_)
        all_goals first | with_reducible rfl | omega | exact Or.inl (by decide) | (simp; done) | rfl | skip
        simp [cap]; omega
      · refine st ?_
        obtain h3 | h3 | h3 | h3 | h3 : k = 0 ∨ k = 1 ∨ k = 2 ∨ k = 3 ∨ k = 4 := by omega
        all_goals subst h3
        · refine sh ?_
          exact rT
        · refine sh ?_
          exact rT
        · refine sh ?_
          exact rT
        · refine sh ?_
          exact rT
        · refine sh ?_
          exact rT
theorem rcap_c {R : Env} (h : N38 R) (k : Int) : R.Pc 38 [.int .i64 k] (.int .i64 (cap k)) :=
  h.o38.enter 60 rfl fun X b hfit hp => by
    refine sh ?_
    refine cS (fun h1 => ?_) (fun h1 => ?_)
    · refine sh ?_
      refine rT ?_
      all_goals repeat' (first | exact True.intro | refine And.intro ?_ ?_ | (intro _u; clear _u) | (with_reducible first | refine eM ?_ ?_ | refine eF ?_ ?_ ?_ | refine eN ?_ | refine eL ?_ ?_ ?_ | refine eA ?_ ?_ | refine IWk.mk ⟨_, hp, rfl⟩ ?_ ?_) | refine IWk.mk ⟨_, hp, rfl⟩ ?_ ?_)
      all_goals first | with_reducible rfl | omega | exact Or.inl (by decide) | (simp; done) | rfl | skip
      simp [cap, h1]
    · refine sh ?_
      refine cS (fun h2 => ?_) (fun h2 => ?_)
      · refine sh ?_
        refine rT ?_
        all_goals repeat' (first | exact True.intro | refine And.intro ?_ ?_ | (intro _u; clear _u) | (with_reducible first | refine eM ?_ ?_ | refine eF ?_ ?_ ?_ | refine eN ?_ | refine eL ?_ ?_ ?_ | refine eA ?_ ?_ | refine IWk.mk ⟨_, hp, rfl⟩ ?_ ?_) | refine IWk.mk ⟨_, hp, rfl⟩ ?_ ?_)
        all_goals first | with_reducible rfl | omega | exact Or.inl (by decide) | (simp; done) | rfl | skip
        simp [cap, h1, h2]
      · refine sh ?_
        refine cS (fun h3 => ?_) (fun h3 => ?_)
        · refine sh ?_
          refine rT ?_
          all_goals repeat' (first | exact True.intro | refine And.intro ?_ ?_ | (intro _u; clear _u) | (with_reducible first | refine eM ?_ ?_ | refine eF ?_ ?_ ?_ | refine eN ?_ | refine eL ?_ ?_ ?_ | refine eA ?_ ?_ | refine IWk.mk ⟨_, hp, rfl⟩ ?_ ?_) | refine IWk.mk ⟨_, hp, rfl⟩ ?_ ?_)
          all_goals first | with_reducible rfl | omega | exact Or.inl (by decide) | (simp; done) | rfl | skip
          simp [cap, h3]
        · refine sh ?_
          refine cS (fun h4 => ?_) (fun h4 => ?_)
          · refine sh ?_
            refine rT ?_
            all_goals repeat' (first | exact True.intro | refine And.intro ?_ ?_ | (intro _u; clear _u) | (with_reducible first | refine eM ?_ ?_ | refine eF ?_ ?_ ?_ | refine eN ?_ | refine eL ?_ ?_ ?_ | refine eA ?_ ?_ | refine IWk.mk ⟨_, hp, rfl⟩ ?_ ?_) | refine IWk.mk ⟨_, hp, rfl⟩ ?_ ?_)
            all_goals first | with_reducible rfl | omega | exact Or.inl (by decide) | (simp; done) | rfl | skip
            simp [cap, h4]
          · refine sh ?_
            refine rT ?_
            all_goals repeat' (first | exact True.intro | refine And.intro ?_ ?_ | (intro _u; clear _u) | (with_reducible first | refine eM ?_ ?_ | refine eF ?_ ?_ ?_ | refine eN ?_ | refine eL ?_ ?_ ?_ | refine eA ?_ ?_ | refine IWk.mk ⟨_, hp, rfl⟩ ?_ ?_) | refine IWk.mk ⟨_, hp, rfl⟩ ?_ ?_)
            all_goals first | with_reducible rfl | omega | exact Or.inl (by decide) | (simp; done) | rfl | skip
            simp [cap, h1, h2, h3, h4]
end Go.UM

namespace Go.UM
open Go.AM
set_option maxRecDepth 4000
def zMs0 : Ms := ⟨[], [], []⟩
def zTx : Tex := ⟨0, []⟩
def zMat : Mat := ⟨0, z3, 0⟩
def zLig : Lig := ⟨0, z3, z3, z3, z3⟩
def As.zero (k : Int) : As := ⟨k, zMs0, zTx, zMat, zLig⟩
theorem zfew (k : Int) : (As.zero k).Few := by refine ⟨?_, ?_, ?_, ?_⟩ <;> simp [As.zero, zMs0, zTx]
def As.bare (a : As) : As := if a.k = 1 then { a with m := zMs0 } else if a.k = 2 then { a with x := zTx } else if a.k = 3 then { a with mt := zMat } else if a.k = 4 then { a with li := zLig } else a
def achk (a : As) : Int := if own a ≠ 0 then own a else if asame a.bare (As.zero a.k) = false then 5 else if cap a.k < (abytes a).length then 9 else 0
def aenc (a : As) : List UInt8 × Int := if achk a ≠ 0 then ([], achk a) else (abytes a, 0)
theorem own_c {R : Env} (h : N309 R) (a : As) (f : a.Few) : R.Pc 309 [.agg a.row] (.int .i64 (own a)) :=
  h.o309.enter 100 rfl fun X bb hfit hp => by
    unfold own
    refine sh ?_
    refine cS (fun h1 => ?_) (fun h1 => ?_)
    · rw [if_pos h1]
      refine sh ?_
      refine ICall.pure h.n193.o193.hb (mcheck_c h.n193 a.m) rfl ?_
      refine sh ?_
      exact rT
    · rw [if_neg h1]
      refine sh ?_
      refine cS (fun h2 => ?_) (fun h2 => ?_)
      · rw [if_pos h2]
        refine sh ?_
        refine ICall.pure h.n84.o84.hb (tchk_c h.n84 a.x (by have := f.x; omega)) rfl ?_
        refine sh ?_
        exact rT
      · rw [if_neg h2]
        refine sh ?_
        refine cS (fun h3 => ?_) (fun h3 => ?_)
        · rw [if_pos h3]
          refine sh ?_
          refine ICall.pure h.n290.o290.hb (matk_c h.n290 a.mt) rfl ?_
          refine sh ?_
          exact rT
        · rw [if_neg h3]
          refine sh ?_
          refine cS (fun h4 => ?_) (fun h4 => ?_)
          · rw [if_pos h4]
            refine sh ?_
            refine ICall.pure h.n292.o292.hb (ligk_c h.n292 a.li) rfl ?_
            refine sh ?_
            exact rT
          · rw [if_neg h4]
            refine sh ?_
            exact rT
theorem bare_c {R : Env} (h : N310 R) (a : As) : R.Pc 310 [.agg a.row] (.agg a.bare.row) :=
  h.o310.enter 100 rfl fun X bb hfit hp => by
    unfold As.bare
    refine sh ?_
    refine cS (fun h1 => ?_) (fun h1 => ?_)
    · rw [if_pos h1]
      refine sh ?_
      exact rT
    · rw [if_neg h1]
      refine sh ?_
      refine cS (fun h2 => ?_) (fun h2 => ?_)
      · rw [if_pos h2]
        refine sh ?_
        exact rT
      · rw [if_neg h2]
        refine sh ?_
        refine cS (fun h3 => ?_) (fun h3 => ?_)
        · rw [if_pos h3]
          refine sh ?_
          exact rT
        · rw [if_neg h3]
          refine sh ?_
          refine cS (fun h4 => ?_) (fun h4 => ?_)
          · rw [if_pos h4]
            refine sh ?_
            exact rT
          · rw [if_neg h4]
            refine sh ?_
            exact rT
theorem As.Few.bare {a : As} (f : a.Few) : a.bare.Few := by
  unfold As.bare
  obtain ⟨f1, f2, f3, f4⟩ := f
  split
  · exact ⟨by simp [zMs0], by simp [zMs0], by simp [zMs0], f4⟩
  · split
    · exact ⟨f1, f2, f3, by simp [zTx]⟩
    · split
      · exact ⟨f1, f2, f3, f4⟩
      · split <;> exact ⟨f1, f2, f3, f4⟩
theorem acheck_c {R : Env} (h : N294 R) (a : As) (f : a.Few) : R.Pc 294 [.agg a.row] (.int .i64 (achk a)) :=
  h.o294.enter 100 rfl fun X bb hfit hp => by
    refine sh ?_
    refine ICall.pure h.n309.o309.hb (own_c h.n309 a f) rfl ?_
    generalize hq : achk a = q
    refine sh ?_
    refine cS (fun h1 => ?_) (fun h1 => ?_)
    · rw [achk, if_pos h1] at hq
      subst hq
      refine sh ?_
      exact rT
    · rw [achk, if_neg (by simpa using h1)] at hq
      have ok := h1
      refine sh ?_
      refine cM false [] ((bare_c h.n310 a).mc h.n310.o310.hb) ?_
      repeat ((intro _u; clear _u); first | refine eK ?_ | refine eP ?_)
      refine sh ?_
      refine cM false [] ((same_c h.n298 a.bare (As.zero a.k) f.bare).mc h.n298.o298.hb) ?_
      repeat ((intro _u; clear _u); first | refine eK ?_ | refine eP ?_)
      refine sh ?_
      refine cS (fun h2 => ?_) (fun h2 => ?_)
      · rw [if_pos (by simpa using h2)] at hq
        subst hq
        refine sh ?_
        exact rT
      · rw [if_neg (by simpa using h2)] at hq
        refine sh ?_
        refine ICall.pure h.n311.o311.hb (encode_c h.n311 a (by have := f.x; omega) ok) rfl ?_
        refine sh ?_
        refine ICall.pure h.n37.o37.hb (cap_c h.n37 a.k) rfl ?_
        refine sh ?_
        refine cS (fun h3 => ?_) (fun h3 => ?_)
        · rw [if_pos h3] at hq
          subst hq
          refine sh ?_
          exact rT
        · rw [if_neg (by omega)] at hq
          subst hq
          refine sh ?_
          exact rT
theorem aencode_c {R : Env} (h : N301 R) (a : As) (f : a.Few) : R.Pc 301 [.agg a.row] (.tup [.isl 1 (slc8 (aenc a).1), .int .i64 (aenc a).2]) :=
  h.o301.enter 100 rfl fun X bb hfit hp => by
    refine sh ?_
    refine ICall.pure h.n294.o294.hb (acheck_c h.n294 a f) rfl ?_
    generalize hq : aenc a = q
    refine sh ?_
    refine cS (fun h1 => ?_) (fun h1 => ?_)
    · rw [aenc, if_pos h1] at hq
      subst hq
      refine sh ?_
      exact rT
    · rw [aenc, if_neg (by simpa using h1)] at hq
      subst hq
      have ok : own a = 0 := by
        by_cases e : own a = 0
        · exact e
        · rw [achk, if_pos e] at h1; exact absurd h1 e
      refine sh ?_
      refine ICall.pure h.n311.o311.hb (encode_c h.n311 a (by have := f.x; omega) ok) rfl ?_
      refine sh ?_
      exact rT
def meshN (m : Ms) : Bool := decide (0 < m.v.length + m.uv.length + m.t.length)
def texN (x : Tex) : Bool := decide (x.side ≠ 0 ∨ 0 < x.t.length)
theorem meshN_c {R : Env} (h : N313 R) (m : Ms) (h1 : m.v.length ≤ 1000) (h2 : m.uv.length ≤ 1000) (h3 : m.t.length ≤ 1000) : R.Pc 313 [.agg m.row] (.bool (meshN m)) :=
  h.o313.enter 60 rfl fun X bb hfit hp => by
    refine sh ?_
    refine rT ?_
    all_goals repeat' (first | exact True.intro | refine And.intro ?_ ?_ | (intro _u; clear _u) | (with_reducible first | refine eM ?_ ?_ | refine eF ?_ ?_ ?_ | refine eN ?_ | refine eL ?_ ?_ ?_ | refine eA ?_ ?_ | refine IWk.mk ⟨_, hp, rfl⟩ ?_ ?_) | refine IWk.mk ⟨_, hp, rfl⟩ ?_ ?_)
    all_goals first | with_reducible rfl | omega | exact Or.inl (by decide) | (simp; done) | rfl | skip
    rw [Bool.eq_iff_iff]; simp only [meshN, decide_eq_true_eq]; omega
theorem texN_c {R : Env} (h : N312 R) (x : Tex) : R.Pc 312 [.agg x.row] (.bool (texN x)) :=
  h.o312.enter 60 rfl fun X bb hfit hp => by
    refine sh ?_
    refine cS (fun h1 => ?_) (fun h1 => ?_)
    · refine sh ?_
      refine rT ?_
      all_goals repeat' (first | exact True.intro | refine And.intro ?_ ?_ | (intro _u; clear _u) | (with_reducible first | refine eM ?_ ?_ | refine eF ?_ ?_ ?_ | refine eN ?_ | refine eL ?_ ?_ ?_ | refine eA ?_ ?_ | refine IWk.mk ⟨_, hp, rfl⟩ ?_ ?_) | refine IWk.mk ⟨_, hp, rfl⟩ ?_ ?_)
      all_goals first | with_reducible rfl | omega | exact Or.inl (by decide) | (simp; done) | rfl | skip
      simp [texN, h1]
    · refine sh ?_
      refine rT ?_
      all_goals repeat' (first | exact True.intro | refine And.intro ?_ ?_ | (intro _u; clear _u) | (with_reducible first | refine eM ?_ ?_ | refine eF ?_ ?_ ?_ | refine eN ?_ | refine eL ?_ ?_ ?_ | refine eA ?_ ?_ | refine IWk.mk ⟨_, hp, rfl⟩ ?_ ?_) | refine IWk.mk ⟨_, hp, rfl⟩ ?_ ?_)
      all_goals first | with_reducible rfl | omega | exact Or.inl (by decide) | (simp; done) | rfl | skip
      simp [texN, h1]
theorem meshN_no {m : Ms} : meshN m = false ↔ m.v = [] ∧ m.uv = [] ∧ m.t = [] := by
  simp only [meshN, decide_eq_false_iff_not, ← List.length_eq_zero_iff]; omega
theorem texN_no {x : Tex} : texN x = false ↔ x.side = 0 ∧ x.t = [] := by
  simp only [texN, decide_eq_false_iff_not, ← List.length_eq_zero_iff]; omega
theorem bare1 {a : As} (h : a.k = 1) : asame a.bare (As.zero a.k) = decide (texN a.x = false ∧ a.mt = zMat ∧ a.li = zLig) := by
  rw [asame, As.bare, if_pos h, Bool.eq_iff_iff, decide_eq_true_eq, decide_eq_true_eq, texN_no]
  exact ⟨fun ⟨_, e2, e3, e4, _, _, _, e8⟩ => ⟨⟨e4, e8⟩, e2, e3⟩, fun ⟨⟨e4, e8⟩, e2, e3⟩ => ⟨rfl, e2, e3, e4, rfl, rfl, rfl, e8⟩⟩
theorem bare2 {a : As} (h : a.k = 2) : asame a.bare (As.zero a.k) = decide (meshN a.m = false ∧ a.mt = zMat ∧ a.li = zLig) := by
  rw [asame, As.bare, if_neg (by omega), if_pos h, Bool.eq_iff_iff, decide_eq_true_eq, decide_eq_true_eq, meshN_no]
  exact ⟨fun ⟨_, e2, e3, _, e5, e6, e7, _⟩ => ⟨⟨e5, e6, e7⟩, e2, e3⟩, fun ⟨⟨e5, e6, e7⟩, e2, e3⟩ => ⟨rfl, e2, e3, rfl, e5, e6, e7, rfl⟩⟩
theorem bare3 {a : As} (h : a.k = 3) : asame a.bare (As.zero a.k) = decide (meshN a.m = false ∧ texN a.x = false ∧ a.li = zLig) := by
  rw [asame, As.bare, if_neg (by omega), if_neg (by omega), if_pos h, Bool.eq_iff_iff, decide_eq_true_eq, decide_eq_true_eq, meshN_no, texN_no]
  exact ⟨fun ⟨_, _, e3, e4, e5, e6, e7, e8⟩ => ⟨⟨e5, e6, e7⟩, ⟨e4, e8⟩, e3⟩, fun ⟨⟨e5, e6, e7⟩, ⟨e4, e8⟩, e3⟩ => ⟨rfl, rfl, e3, e4, e5, e6, e7, e8⟩⟩
theorem bare4 {a : As} (h : a.k = 4) : asame a.bare (As.zero a.k) = decide (meshN a.m = false ∧ texN a.x = false ∧ a.mt = zMat) := by
  rw [asame, As.bare, if_neg (by omega), if_neg (by omega), if_neg (by omega), if_pos h, Bool.eq_iff_iff, decide_eq_true_eq, decide_eq_true_eq, meshN_no, texN_no]
  exact ⟨fun ⟨_, e2, _, e4, e5, e6, e7, e8⟩ => ⟨⟨e5, e6, e7⟩, ⟨e4, e8⟩, e2⟩, fun ⟨⟨e5, e6, e7⟩, ⟨e4, e8⟩, e2⟩ => ⟨rfl, e2, rfl, e4, e5, e6, e7, e8⟩⟩
theorem rcheck_c {R : Env} (h : N295 R) (a : As) (f : a.Few) : R.Pc 295 [.agg a.row] (.int .i64 (achk a)) :=
  h.o295.enter 100 rfl fun X bb hfit hp => by
    generalize hq : achk a = q
    refine sh ?_
    refine cS (fun h1 => ?_) (fun h1 => ?_)
    · have ow : own a = mchk a.m := by simp [own, h1]
      refine sh ?_
      refine ICall.pure h.n198.o198.hb (rcheck13_c h.n198 a.m) rfl ?_
      refine sh ?_
      refine ICall.pure h.n312.o312.hb (texN_c h.n312 a.x) rfl ?_
      refine sh ?_
      refine cS (fun t1 => ?_) (fun t1 => ?_)
      · have hz : asame a.bare (As.zero a.k) = false := by simp [bare1 h1, t1]
        refine sh ?_
        refine cS (fun c1 => ?_) (fun c1 => ?_)
        · rw [achk, ow, if_pos c1] at hq
          subst hq
          refine sh ?_
          exact rT
        · rw [achk, ow, if_neg (by simpa using c1), if_pos hz] at hq
          subst hq
          refine sh ?_
          exact rT
      · refine sh ?_
        refine cS (fun t2 => ?_) (fun t2 => ?_)
        · have hz : asame a.bare (As.zero a.k) = false := by simp [bare1 h1, Mat.ne_iff (y := zMat) |>.1 t2]
          refine sh ?_
          refine cS (fun c1 => ?_) (fun c1 => ?_)
          · rw [achk, ow, if_pos c1] at hq
            subst hq
            refine sh ?_
            exact rT
          · rw [achk, ow, if_neg (by simpa using c1), if_pos hz] at hq
            subst hq
            refine sh ?_
            exact rT
        · have z1 := @Lig.ne_iff a.li zLig
          have z2 := @Lig.eq_iff a.li zLig
          have hz : a.li ≠ zLig → asame a.bare (As.zero a.k) = false := fun c => by simp [bare1 h1, c]
          have hn : a.li = zLig → asame a.bare (As.zero a.k) = true := fun c => by simp [bare1 h1, t1, Mat.eq_iff (y := zMat) |>.1 t2, c]
          refine sh ?_
          refine cS (fun c1 => ?_) (fun c1 => ?_)
          · rw [achk, ow, if_pos c1] at hq
            subst hq
            refine sh ?_
            exact rT
          · have ok : own a = 0 := ow.trans c1
            rw [achk, ow, if_neg (by simpa using c1)] at hq
            refine sh ?_
            refine cS (fun c2 => ?_) (fun c2 => ?_)
            · rw [if_pos (hz (z1.1 c2))] at hq
              subst hq
              refine sh ?_
              exact rT
            · rw [if_neg (by simpa using hn (z2.1 c2))] at hq
              refine sh ?_
              refine ICall.pure h.n314.o314.hb (bytes_c h.n314 a (by have := f.x; omega) ok) rfl ?_
              refine sh ?_
              refine ICall.pure h.n38.o38.hb (rcap_c h.n38 a.k) rfl ?_
              refine sh ?_
              refine cS (fun c3 => ?_) (fun c3 => ?_)
              · rw [if_pos c3] at hq
                subst hq
                refine sh ?_
                exact rT
              · rw [if_neg (by omega)] at hq
                subst hq
                refine sh ?_
                exact rT
    · refine sh ?_
      refine cS (fun h2 => ?_) (fun h2 => ?_)
      · have ow : own a = tchk a.x := by simp [own, h2]
        refine sh ?_
        refine ICall.pure h.n85.o85.hb (rtchk_c h.n85 a.x (by have := f.x; omega)) rfl ?_
        refine sh ?_
        refine ICall.pure h.n313.o313.hb (meshN_c h.n313 a.m f.v f.uv f.t) rfl ?_
        refine sh ?_
        refine cS (fun t1 => ?_) (fun t1 => ?_)
        · have hz : asame a.bare (As.zero a.k) = false := by simp [bare2 h2, t1]
          refine sh ?_
          refine cS (fun c1 => ?_) (fun c1 => ?_)
          · rw [achk, ow, if_pos c1] at hq
            subst hq
            refine sh ?_
            exact rT
          · rw [achk, ow, if_neg (by simpa using c1), if_pos hz] at hq
            subst hq
            refine sh ?_
            exact rT
        · refine sh ?_
          refine cS (fun t2 => ?_) (fun t2 => ?_)
          · have hz : asame a.bare (As.zero a.k) = false := by simp [bare2 h2, Mat.ne_iff (y := zMat) |>.1 t2]
            refine sh ?_
            refine cS (fun c1 => ?_) (fun c1 => ?_)
            · rw [achk, ow, if_pos c1] at hq
              subst hq
              refine sh ?_
              exact rT
            · rw [achk, ow, if_neg (by simpa using c1), if_pos hz] at hq
              subst hq
              refine sh ?_
              exact rT
          · have z1 := @Lig.ne_iff a.li zLig
            have z2 := @Lig.eq_iff a.li zLig
            have hz : a.li ≠ zLig → asame a.bare (As.zero a.k) = false := fun c => by simp [bare2 h2, c]
            have hn : a.li = zLig → asame a.bare (As.zero a.k) = true := fun c => by simp [bare2 h2, t1, Mat.eq_iff (y := zMat) |>.1 t2, c]
            refine sh ?_
            refine cS (fun c1 => ?_) (fun c1 => ?_)
            · rw [achk, ow, if_pos c1] at hq
              subst hq
              refine sh ?_
              exact rT
            · have ok : own a = 0 := ow.trans c1
              rw [achk, ow, if_neg (by simpa using c1)] at hq
              refine sh ?_
              refine cS (fun c2 => ?_) (fun c2 => ?_)
              · rw [if_pos (hz (z1.1 c2))] at hq
                subst hq
                refine sh ?_
                exact rT
              · rw [if_neg (by simpa using hn (z2.1 c2))] at hq
                refine sh ?_
                refine ICall.pure h.n314.o314.hb (bytes_c h.n314 a (by have := f.x; omega) ok) rfl ?_
                refine sh ?_
                refine ICall.pure h.n38.o38.hb (rcap_c h.n38 a.k) rfl ?_
                refine sh ?_
                refine cS (fun c3 => ?_) (fun c3 => ?_)
                · rw [if_pos c3] at hq
                  subst hq
                  refine sh ?_
                  exact rT
                · rw [if_neg (by omega)] at hq
                  subst hq
                  refine sh ?_
                  exact rT
      · refine sh ?_
        refine cS (fun h3 => ?_) (fun h3 => ?_)
        · have ow : own a = matk a.mt := by simp [own, h3]
          refine sh ?_
          refine ICall.pure h.n291.o291.hb (rmatk_c h.n291 a.mt) rfl ?_
          refine sh ?_
          refine ICall.pure h.n313.o313.hb (meshN_c h.n313 a.m f.v f.uv f.t) rfl ?_
          refine sh ?_
          refine cS (fun t1 => ?_) (fun t1 => ?_)
          · have hz : asame a.bare (As.zero a.k) = false := by simp [bare3 h3, t1]
            refine sh ?_
            refine cS (fun c1 => ?_) (fun c1 => ?_)
            · rw [achk, ow, if_pos c1] at hq
              subst hq
              refine sh ?_
              exact rT
            · rw [achk, ow, if_neg (by simpa using c1), if_pos hz] at hq
              subst hq
              refine sh ?_
              exact rT
          · refine sh ?_
            refine ICall.pure h.n312.o312.hb (texN_c h.n312 a.x) rfl ?_
            refine sh ?_
            refine cS (fun t2 => ?_) (fun t2 => ?_)
            · have hz : asame a.bare (As.zero a.k) = false := by simp [bare3 h3, t2]
              refine sh ?_
              refine cS (fun c1 => ?_) (fun c1 => ?_)
              · rw [achk, ow, if_pos c1] at hq
                subst hq
                refine sh ?_
                exact rT
              · rw [achk, ow, if_neg (by simpa using c1), if_pos hz] at hq
                subst hq
                refine sh ?_
                exact rT
            · have z1 := @Lig.ne_iff a.li zLig
              have z2 := @Lig.eq_iff a.li zLig
              have hz : a.li ≠ zLig → asame a.bare (As.zero a.k) = false := fun c => by simp [bare3 h3, c]
              have hn : a.li = zLig → asame a.bare (As.zero a.k) = true := fun c => by simp [bare3 h3, t1, t2, c]
              refine sh ?_
              refine cS (fun c1 => ?_) (fun c1 => ?_)
              · rw [achk, ow, if_pos c1] at hq
                subst hq
                refine sh ?_
                exact rT
              · have ok : own a = 0 := ow.trans c1
                rw [achk, ow, if_neg (by simpa using c1)] at hq
                refine sh ?_
                refine cS (fun c2 => ?_) (fun c2 => ?_)
                · rw [if_pos (hz (z1.1 c2))] at hq
                  subst hq
                  refine sh ?_
                  exact rT
                · rw [if_neg (by simpa using hn (z2.1 c2))] at hq
                  refine sh ?_
                  refine ICall.pure h.n314.o314.hb (bytes_c h.n314 a (by have := f.x; omega) ok) rfl ?_
                  refine sh ?_
                  refine ICall.pure h.n38.o38.hb (rcap_c h.n38 a.k) rfl ?_
                  refine sh ?_
                  refine cS (fun c3 => ?_) (fun c3 => ?_)
                  · rw [if_pos c3] at hq
                    subst hq
                    refine sh ?_
                    exact rT
                  · rw [if_neg (by omega)] at hq
                    subst hq
                    refine sh ?_
                    exact rT
        · refine sh ?_
          refine cS (fun h4 => ?_) (fun h4 => ?_)
          · have ow : own a = ligk a.li := by simp [own, h4]
            refine sh ?_
            refine ICall.pure h.n293.o293.hb (rligk_c h.n293 a.li) rfl ?_
            refine sh ?_
            refine ICall.pure h.n313.o313.hb (meshN_c h.n313 a.m f.v f.uv f.t) rfl ?_
            refine sh ?_
            refine cS (fun t1 => ?_) (fun t1 => ?_)
            · have hz : asame a.bare (As.zero a.k) = false := by simp [bare4 h4, t1]
              refine sh ?_
              refine cS (fun c1 => ?_) (fun c1 => ?_)
              · rw [achk, ow, if_pos c1] at hq
                subst hq
                refine sh ?_
                exact rT
              · rw [achk, ow, if_neg (by simpa using c1), if_pos hz] at hq
                subst hq
                refine sh ?_
                exact rT
            · refine sh ?_
              refine ICall.pure h.n312.o312.hb (texN_c h.n312 a.x) rfl ?_
              refine sh ?_
              refine cS (fun t2 => ?_) (fun t2 => ?_)
              · have hz : asame a.bare (As.zero a.k) = false := by simp [bare4 h4, t2]
                refine sh ?_
                refine cS (fun c1 => ?_) (fun c1 => ?_)
                · rw [achk, ow, if_pos c1] at hq
                  subst hq
                  refine sh ?_
                  exact rT
                · rw [achk, ow, if_neg (by simpa using c1), if_pos hz] at hq
                  subst hq
                  refine sh ?_
                  exact rT
              · have z1 := @Mat.ne_iff a.mt zMat
                have z2 := @Mat.eq_iff a.mt zMat
                have hz : a.mt ≠ zMat → asame a.bare (As.zero a.k) = false := fun c => by simp [bare4 h4, c]
                have hn : a.mt = zMat → asame a.bare (As.zero a.k) = true := fun c => by simp [bare4 h4, t1, t2, c]
                refine sh ?_
                refine cS (fun c1 => ?_) (fun c1 => ?_)
                · rw [achk, ow, if_pos c1] at hq
                  subst hq
                  refine sh ?_
                  exact rT
                · have ok : own a = 0 := ow.trans c1
                  rw [achk, ow, if_neg (by simpa using c1)] at hq
                  refine sh ?_
                  refine cS (fun c2 => ?_) (fun c2 => ?_)
                  · rw [if_pos (hz (z1.1 c2))] at hq
                    subst hq
                    refine sh ?_
                    exact rT
                  · rw [if_neg (by simpa using hn (z2.1 c2))] at hq
                    refine sh ?_
                    refine ICall.pure h.n314.o314.hb (bytes_c h.n314 a (by have := f.x; omega) ok) rfl ?_
                    refine sh ?_
                    refine ICall.pure h.n38.o38.hb (rcap_c h.n38 a.k) rfl ?_
                    refine sh ?_
                    refine cS (fun c3 => ?_) (fun c3 => ?_)
                    · rw [if_pos c3] at hq
                      subst hq
                      refine sh ?_
                      exact rT
                    · rw [if_neg (by omega)] at hq
                      subst hq
                      refine sh ?_
                      exact rT
          · rw [achk, own, if_neg h1, if_neg h2, if_neg h3, if_neg h4, if_pos (by decide)] at hq
            subst hq
            refine sh ?_
            refine acnd_t (by decide) ?_
            refine sh ?_
            exact rT
theorem rencode_c {R : Env} (h : N302 R) (a : As) (f : a.Few) : R.Pc 302 [.agg a.row] (.tup [.isl 1 (slc8 (aenc a).1), .int .i64 (aenc a).2]) :=
  h.o302.enter 100 rfl fun X bb hfit hp => by
    refine sh ?_
    refine ICall.pure h.n295.o295.hb (rcheck_c h.n295 a f) rfl ?_
    generalize hq : aenc a = q
    refine sh ?_
    refine cS (fun h1 => ?_) (fun h1 => ?_)
    · rw [aenc, if_pos h1] at hq
      subst hq
      refine sh ?_
      exact rT
    · rw [aenc, if_neg (by simpa using h1)] at hq
      subst hq
      have ok : own a = 0 := by
        by_cases e : own a = 0
        · exact e
        · rw [achk, if_pos e] at h1; exact absurd h1 e
      refine sh ?_
      refine ICall.pure h.n314.o314.hb (bytes_c h.n314 a (by have := f.x; omega) ok) rfl ?_
      refine sh ?_
      exact rT
end Go.UM

namespace Go.UM
open Go.AM
set_option maxRecDepth 4000
theorem eq8_c {R : Env} (h : N47 R) (a b : List UInt8) : R.Pc 47 [.isl 1 (slc8 a), .isl 1 (slc8 b)] (.bool (a == b)) :=
  h.o47.enter 60 rfl fun X bb hfit hp => by
    refine sh ?_
    exact rT
end Go.UM

namespace Go.UM
open Go.AM
set_option maxRecDepth 4000
def As.few (a : As) : As := ⟨a.k, a.m.few, ⟨a.x.side, a.x.t.take 260⟩, a.mt, a.li⟩
theorem As.few_few (a : As) : a.few.Few := by
  refine ⟨?_, ?_, ?_, ?_⟩ <;> (simp only [As.few, Ms.few, List.length_take]; omega)
theorem few15_c {R : Env} (h : N289 R) (a : As) : R.Pc 289 [.agg a.row] (.agg a.few.row) :=
  h.o289.enter 100 rfl fun X bb hfit hp => by
    refine sh ?_
    refine ICall.pure h.n191.o191.hb (few13_c h.n191 a.m) rfl ?_
    refine sh ?_
    refine asub_eq (by exact cap3 _ _) ?_
    refine sh ?_
    exact rT
theorem asame_self (a : As) : asame a a = true := by simp [asame]
def wMat : As := ⟨3, zMs0, zTx, ⟨0, z3, 258⟩, zLig⟩
theorem aenc_wMat : aenc wMat = ([0, 0, 0, 0, 0, 0, 0, 2, 1], 0) := by decide
theorem aenc_wLig : aenc (As.zero 4) = (List.replicate 31 0, 0) := by decide
theorem works15_c {R : Env} (h : N296 R) : R.Pc 296 [] (.bool true) :=
  h.o296.enter 100 rfl fun X bb hfit hp => by
    have c1 : R.Pc 301 [.agg wMat.row] (.tup [.isl 1 (slc8 [0, 0, 0, 0, 0, 0, 0, 2, 1]), .int .i64 0]) := by
      have c := aencode_c h.n301 wMat (by refine ⟨?_, ?_, ?_, ?_⟩ <;> simp [wMat, zMs0, zTx])
      rwa [aenc_wMat] at c
    have c2 : R.Pc 301 [.agg (As.zero 4).row] (.tup [.isl 1 (slc8 (List.replicate 31 0)), .int .i64 0]) := by
      have c := aencode_c h.n301 (As.zero 4) (zfew 4)
      rwa [aenc_wLig] at c
    refine sh ?_
    refine cM false [] (c1.mc h.n301.o301.hb) ?_
    repeat ((intro _u; clear _u); first | refine eK ?_ | refine eP ?_)
    refine sh ?_
    refine cM false [] (c2.mc h.n301.o301.hb) ?_
    repeat ((intro _u; clear _u); first | refine eK ?_ | refine eP ?_)
    refine sh ?_
    refine acnd_t (by decide) ?_
    refine sh ?_
    refine acnd_t (by decide) ?_
    refine sh ?_
    refine eget_map (show ([0, 0, 0, 0, 0, 0, 0, 2, 1] : List UInt8)[7]? = some 2 from rfl) ?_
    refine sh ?_
    refine acnd_t (by decide) ?_
    refine sh ?_
    refine eget_map (show ([0, 0, 0, 0, 0, 0, 0, 2, 1] : List UInt8)[8]? = some 1 from rfl) ?_
    refine sh ?_
    refine acnd_t (by decide) ?_
    refine sh ?_
    refine acnd_t (by decide) ?_
    refine sh ?_
    exact rT
theorem checks15_c {R : Env} (h : N288 R) (a : As) : R.Pc 288 [.agg a.row] (.bool true) :=
  h.o288.enter 100 rfl fun X bb hfit hp => by
    refine sh ?_
    refine ICall.pure h.n289.o289.hb (few15_c h.n289 a) rfl ?_
    have f := a.few_few
    refine sh ?_
    refine ICall.pure h.n290.o290.hb (matk_c h.n290 a.few.mt) rfl ?_
    refine sh ?_
    refine ICall.pure h.n291.o291.hb (rmatk_c h.n291 a.few.mt) rfl ?_
    refine sh ?_
    refine acnd_t (by simp) ?_
    refine sh ?_
    refine ICall.pure h.n292.o292.hb (ligk_c h.n292 a.few.li) rfl ?_
    refine sh ?_
    refine ICall.pure h.n293.o293.hb (rligk_c h.n293 a.few.li) rfl ?_
    refine sh ?_
    refine acnd_t (by simp) ?_
    refine sh ?_
    refine ICall.pure h.n294.o294.hb (acheck_c h.n294 a.few f) rfl ?_
    refine sh ?_
    refine ICall.pure h.n295.o295.hb (rcheck_c h.n295 a.few f) rfl ?_
    refine sh ?_
    refine acnd_t (by simp) ?_
    refine sh ?_
    refine ICall.pure h.n296.o296.hb (works15_c h.n296) rfl ?_
    refine sh ?_
    exact rT
theorem encodes15_c {R : Env} (h : N300 R) (a : As) : R.Pc 300 [.agg a.row] (.bool true) :=
  h.o300.enter 100 rfl fun X bb hfit hp => by
    refine sh ?_
    refine ICall.pure h.n289.o289.hb (few15_c h.n289 a) rfl ?_
    have f := a.few_few
    refine sh ?_
    refine ICall.pure h.n301.o301.hb (aencode_c h.n301 a.few f) rfl ?_
    refine sh ?_
    refine ICall.pure h.n302.o302.hb (rencode_c h.n302 a.few f) rfl ?_
    refine sh ?_
    refine ICall.pure h.n47.o47.hb (eq8_c h.n47 (aenc a.few).1 (aenc a.few).1) rfl ?_
    refine sh ?_
    refine acnd_t (by simp) ?_
    refine sh ?_
    refine acnd_t (by simp) ?_
    refine sh ?_
    refine ICall.pure h.n296.o296.hb (works15_c h.n296) rfl ?_
    refine sh ?_
    exact rT
theorem sames15_c {R : Env} (h : N297 R) (a b : As) : R.Pc 297 [.agg a.row, .agg b.row] (.bool true) :=
  h.o297.enter 100 rfl fun X bb hfit hp => by
    refine sh ?_
    refine ICall.pure h.n289.o289.hb (few15_c h.n289 a) rfl ?_
    refine sh ?_
    refine ICall.pure h.n289.o289.hb (few15_c h.n289 b) rfl ?_
    have f := a.few_few
    refine sh ?_
    refine ICall.pure h.n298.o298.hb (same_c h.n298 a.few b.few f) rfl ?_
    refine sh ?_
    refine ICall.pure h.n299.o299.hb (rsame_c h.n299 a.few b.few f) rfl ?_
    refine sh ?_
    refine acnd_t (by simp) ?_
    have c := same_c h.n298 a.few a.few f
    rw [asame_self] at c
    refine sh ?_
    refine ICall.pure h.n298.o298.hb c rfl ?_
    refine sh ?_
    refine ICall.pure h.n296.o296.hb (works15_c h.n296) rfl ?_
    refine sh ?_
    exact rT
end Go.UM

namespace Go.UM
open Go.AM
theorem open8 {T : TT} {n e : Nat} {es : List (List AV)} (hT : T.d e = .int .u8) (h : ∀ r ∈ es, cty T (n + 1) e r) : ∃ l : List UInt8, es = slc8 l := by
  obtain ⟨l, rfl, _⟩ := rows_map (f := fun c : UInt8 => [AV.int .u8 c.toNat]) (p := fun _ => True) (es := es) fun r hr => by
    have h1 := h r hr
    simp only [cty, hT] at h1
    obtain ⟨x, rfl, hx⟩ := h1
    have hx := wf_in hx
    simp only [inI] at hx
    refine ⟨u8 x, ?_, trivial⟩
    rw [← wr_u8, wr_in (k := .u8) hx]
  exact ⟨l, rfl⟩
theorem openK {T : TT} {n e : Nat} {k : IntKind} {es : List (List AV)} (hT : T.d e = .int k) (h : ∀ r ∈ es, cty T (n + 1) e r) : ∃ l : List Int, es = slcK k l ∧ ∀ x ∈ l, inI k x := by
  obtain ⟨l, rfl, hl⟩ := rows_map (f := fun c : Int => [AV.int k c]) (p := fun c => inI k c) (es := es) fun r hr => by
    have h1 := h r hr
    simp only [cty, hT] at h1
    obtain ⟨x, rfl, hx⟩ := h1
    exact ⟨x, rfl, wf_in hx⟩
  exact ⟨l, rfl, hl⟩
end Go.UM

namespace Go.UM
open Go.AM
set_option maxRecDepth 4000
def f3 (r : Rd) : T3 × Rd := (⟨(r.int 2).1, ((r.int 2).2.int 2).1, (((r.int 2).2.int 2).2.int 2).1⟩, (((r.int 2).2.int 2).2.int 2).2)
def f2 (r : Rd) : (Int × Int) × Rd := (((r.num 2).1, ((r.num 2).2.num 2).1), ((r.num 2).2.num 2).2)
def ft (r : Rd) : T3 × Rd := (⟨(r.num 1).1, ((r.num 1).2.num 1).1, (((r.num 1).2.num 1).2.num 1).1⟩, (((r.num 1).2.num 1).2.num 1).2)
theorem uint13_c {R : Env} (h : N214 R) (r : Rd) (w : Int) (h1 : 1 ≤ w) (h2 : w ≤ 7) : R.Mc 214 [.agg [.loc 0 1 0 0], .int .i64 w] (rdM R r) (.int .i64 (r.num w).1) (rdM R (r.num w).2) 1 :=
  h.o214.enterM 60 1 rfl rfl rfl fun X bb hfit hp => by
    refine sh ?_
    refine cM false [0] (num_c h.n57 r w) ?_
    repeat ((intro _u; clear _u); first | refine eK ?_ | refine eP ?_)
    have hlt := num_lt r h1 (show w ≤ 8 by omega)
    have hp : (256 : Nat) ^ w.toNat ≤ 256 ^ 7 := Nat.pow_le_pow_right (by decide) (by omega)
    have : ((r.num w).1 : Int) < 9223372036854775808 := by omega
    refine sh ?_
    exact rM [0]
theorem point13_c {R : Env} (h : N215 R) (r : Rd) : R.Mc 215 [.agg [.loc 0 1 0 0]] (rdM R r) (.agg (t3 (f3 r).1)) (rdM R (f3 r).2) 1 :=
  h.o215.enterM 60 1 rfl rfl rfl fun X bb hfit hp => by
    refine sh ?_
    refine cM false [0] (int_c h.n76 r 2) ?_
    repeat ((intro _u; clear _u); first | refine eK ?_ | refine eP ?_)
    refine sh ?_
    refine cM false [0] (int_c h.n76 (r.int 2).2 2) ?_
    repeat ((intro _u; clear _u); first | refine eK ?_ | refine eP ?_)
    refine sh ?_
    refine cM false [0] (int_c h.n76 ((r.int 2).2.int 2).2 2) ?_
    repeat ((intro _u; clear _u); first | refine eK ?_ | refine eP ?_)
    refine sh ?_
    exact rM [0]
theorem rread13_c {R : Env} (h : N216 R) (B : List UInt8) (r : Rd) (ok : RdOk B r) : R.Mc 216 [.loc 0 1 0 0] (rrdM R B r) (.agg (t3 (f3 r).1)) (rrdM R B (f3 r).2) 1 :=
  h.o216.enterM 60 1 rfl rfl rfl fun X bb hfit hp => by
    refine sh ?_
    refine cM false [0] (rint_c h.n77 B r ok 2) ?_
    repeat ((intro _u; clear _u); first | refine eK ?_ | refine eP ?_)
    refine sh ?_
    refine cM false [0] (rint_c h.n77 B (r.int 2).2 (ok.int 2) 2) ?_
    repeat ((intro _u; clear _u); first | refine eK ?_ | refine eP ?_)
    refine sh ?_
    refine cM false [0] (rint_c h.n77 B ((r.int 2).2.int 2).2 ((ok.int 2).int 2) 2) ?_
    repeat ((intro _u; clear _u); first | refine eK ?_ | refine eP ?_)
    refine sh ?_
    exact rM [0]
theorem RdOk.f3 {B : List UInt8} {r : Rd} (h : RdOk B r) : RdOk B (f3 r).2 := ((h.int 2).int 2).int 2
theorem RdOk.f2 {B : List UInt8} {r : Rd} (h : RdOk B r) : RdOk B (f2 r).2 := (h.num 2).num 2
theorem RdOk.ft {B : List UInt8} {r : Rd} (h : RdOk B r) : RdOk B (ft r).2 := ((h.num 1).num 1).num 1
theorem RdOk.rdN {B : List UInt8} {α : Type} {f : Rd → α × Rd} (hf : ∀ r, RdOk B r → RdOk B (f r).2) (n : Nat) : ∀ {r : Rd}, RdOk B r → RdOk B (rdN f n r).2 := by
  induction n with
  | zero => exact fun h => h
  | succ n ih => exact fun h => hf _ (ih h)
def zMs : Ms := ⟨[], [], []⟩
def mq (nv nt : Nat) (r : Rd) : Ms × Rd := (⟨(rdN f3 nv r).1, (rdN f2 nv (rdN f3 nv r).2).1, (rdN ft nt (rdN f2 nv (rdN f3 nv r).2).2).1⟩, (rdN ft nt (rdN f2 nv (rdN f3 nv r).2).2).2)
def mfin (q : Ms × Rd) : Ms × Int := if q.2.fin ≠ 0 then (zMs, q.2.fin) else if mchk q.1 ≠ 0 then (zMs, mchk q.1) else (q.1, 0)
def mdecd (b : List UInt8) : Ms × Int := mfin (mq ((⟨b, 0, true⟩ : Rd).num 1).1 (((⟨b, 0, true⟩ : Rd).num 1).2.num 1).1 (((⟨b, 0, true⟩ : Rd).num 1).2.num 1).2)
theorem mchk_v {u : List (Int × Int)} {t : List T3} : mchk ⟨[], u, t⟩ = if 64 < t.length then 3 else 5 := by
  unfold mchk
  by_cases h : 64 < t.length
  · rw [if_pos (.inr h), if_pos h]
  · rw [if_neg (by simp; omega), if_neg h, if_pos (.inl rfl)]
theorem mchk_t {v : List T3} {u : List (Int × Int)} : mchk ⟨v, u, []⟩ = if 64 < v.length then 3 else 5 := by
  unfold mchk
  by_cases h : 64 < v.length
  · rw [if_pos (.inl h), if_pos h]
  · rw [if_neg (by simp; omega), if_neg h, if_pos (.inr (.inl rfl))]
theorem mcheck_n {R : Env} (h : N193 R) : R.Pc 193 [.agg [.nils, .nils, .nils]] (.int .i64 5) :=
  h.o193.enter 60 rfl fun X bb hfit hp => by
    refine sh ?_
    refine acnd_f (by decide) ?_
    refine sh ?_
    refine acnd_f (by decide) ?_
    refine sh ?_
    refine acnd_t (by decide) ?_
    refine sh ?_
    exact rT
theorem mcheck_t {R : Env} (h : N193 R) (t : List T3) : R.Pc 193 [.agg [.nils, .nils, .isl 3 (slc3 t)]] (.int .i64 (if 64 < t.length then 3 else 5)) :=
  h.o193.enter 60 rfl fun X bb hfit hp => by
    refine sh ?_
    refine acnd_f (by decide) ?_
    refine sh ?_
    refine cS (fun h1 => ?_) (fun h1 => ?_)
    · rw [if_pos (by omega)]
      refine sh ?_
      exact rT
    · rw [if_neg (by omega)]
      refine sh ?_
      refine acnd_t (by decide) ?_
      refine sh ?_
      exact rT
theorem mcheck_v {R : Env} (h : N193 R) (v : List T3) (u : List (Int × Int)) (hv : 1 ≤ v.length) : R.Pc 193 [.agg [.isl 3 (slc3 v), .isl 2 (slc2 u), .nils]] (.int .i64 (if 64 < v.length then 3 else 5)) :=
  h.o193.enter 60 rfl fun X bb hfit hp => by
    refine sh ?_
    refine cS (fun h1 => ?_) (fun h1 => ?_)
    · rw [if_pos (by omega)]
      refine sh ?_
      exact rT
    · rw [if_neg (by omega)]
      refine sh ?_
      refine acnd_f (by decide) ?_
      refine sh ?_
      refine acnd_f (by first | (rw [beq_eq_false_iff_ne]; omega) | (simp; omega)) ?_
      refine sh ?_
      refine acnd_t (by decide) ?_
      refine sh ?_
      exact rT
theorem rcheck13_n {R : Env} (h : N198 R) : R.Pc 198 [.agg [.nils, .nils, .nils]] (.int .i64 5) :=
  h.o198.enter 60 rfl fun X bb hfit hp => by
    refine sh ?_
    refine acnd_f (by decide) ?_
    refine sh ?_
    refine acnd_f (by decide) ?_
    refine sh ?_
    refine acnd_t (by decide) ?_
    refine sh ?_
    exact rT
theorem rcheck13_t {R : Env} (h : N198 R) (t : List T3) : R.Pc 198 [.agg [.nils, .nils, .isl 3 (slc3 t)]] (.int .i64 (if 64 < t.length then 3 else 5)) :=
  h.o198.enter 60 rfl fun X bb hfit hp => by
    refine sh ?_
    refine acnd_f (by decide) ?_
    refine sh ?_
    refine cS (fun h1 => ?_) (fun h1 => ?_)
    · rw [if_pos (by omega)]
      refine sh ?_
      exact rT
    · rw [if_neg (by omega)]
      refine sh ?_
      refine acnd_t (by decide) ?_
      refine sh ?_
      exact rT
theorem rcheck13_v {R : Env} (h : N198 R) (v : List T3) (u : List (Int × Int)) (hv : 1 ≤ v.length) : R.Pc 198 [.agg [.isl 3 (slc3 v), .isl 2 (slc2 u), .nils]] (.int .i64 (if 64 < v.length then 3 else 5)) :=
  h.o198.enter 60 rfl fun X bb hfit hp => by
    refine sh ?_
    refine cS (fun h1 => ?_) (fun h1 => ?_)
    · rw [if_pos (by omega)]
      refine sh ?_
      exact rT
    · rw [if_neg (by omega)]
      refine sh ?_
      refine acnd_f (by decide) ?_
      refine sh ?_
      refine acnd_f (by first | (rw [beq_eq_false_iff_ne]; omega) | (simp; omega)) ?_
      refine sh ?_
      refine acnd_t (by decide) ?_
      refine sh ?_
      exact rT
set_option maxHeartbeats 1000000 in
theorem mdecode13_c {R : Env} (h : N202 R) (b : List UInt8) (hb : b.length ≤ 1073741824) : R.Pc 202 [.isl 1 (slc8 b)] (.tup [.agg (mdecd b).1.row, .int .i64 (mdecd b).2]) :=
  h.o202.enter 100 rfl fun X bb hfit hp => by
    refine sh ?_
    refine cM false [] (new_c h.n56 b hb) ?_
    repeat ((intro _u; clear _u); first | refine eK ?_ | refine eP ?_)
    have c1 := uint13_c h.n214 ⟨b, 0, true⟩ 1 (by omega) (by omega)
    unfold mdecd
    have la : ((⟨b, 0, true⟩ : Rd).num 1).1 < 256 := num_lt _ (by omega) (by omega)
    generalize (⟨b, 0, true⟩ : Rd).num 1 = a at c1 la ⊢
    refine sh ?_
    refine cM false [1] (c1) ?_
    repeat ((intro _u; clear _u); first | refine eK ?_ | refine eP ?_)
    have c2 := uint13_c h.n214 a.2 1 (by omega) (by omega)
    have lc : (a.2.num 1).1 < 256 := num_lt _ (by omega) (by omega)
    generalize a.2.num 1 = c at c2 lc ⊢
    refine sh ?_
    refine cM false [1] (c2) ?_
    repeat ((intro _u; clear _u); first | refine eK ?_ | refine eP ?_)
    obtain ⟨nv, ra⟩ := a
    obtain ⟨nt, r2⟩ := c
    dsimp only at la lc c1 c2 ⊢
    obtain ⟨v, hv⟩ : ∃ v, rdN f3 nv r2 = v := ⟨_, rfl⟩
    obtain ⟨u, hu⟩ : ∃ u, rdN f2 nv v.2 = u := ⟨_, rfl⟩
    obtain ⟨t, ht⟩ : ∃ t, rdN ft nt u.2 = t := ⟨_, rfl⟩
    have hq : mq nv nt r2 = (⟨v.1, u.1, t.1⟩, t.2) := by unfold mq; rw [hv, hu, ht]
    rw [hq]
    clear hq c1 c2
    by_cases h0 : nv = 0
    · subst h0
      obtain rfl : v = ([], r2) := hv.symm
      obtain rfl : u = ([], r2) := hu.symm
      refine sh ?_
      refine ILoop.one 100 ?_
      refine sh ?_
      refine acnd_f (by simp) ?_
      refine sh ?_
      refine ILoop.one 100 ?_
      refine sh ?_
      refine acnd_f (by simp) ?_
      by_cases hn : nt = 0
      · subst hn
        obtain rfl : t = ([], r2) := ht.symm
        refine sh ?_
        refine ILoop.one 100 ?_
        refine sh ?_
        refine acnd_f (by simp) ?_
        refine sh ?_
        refine cM false [1] (end_c h.n60 r2) ?_
        repeat ((intro _u; clear _u); first | refine eK ?_ | refine eP ?_)
        refine sh ?_
        refine cS (fun h9 => ?_) (fun h9 => ?_)
        · rw [mfin, if_pos h9]
          refine sh ?_
          exact rT
        · rw [mfin, if_neg (fun hh => hh h9)]
          refine sh ?_
          refine ICall.pure h.n193.o193.hb (mcheck_n h.n193) rfl ?_
          have hc : mchk (⟨[], [], []⟩ : Ms) = 5 := by rw [mchk_v]; rfl
          have hne : mchk (⟨[], [], []⟩ : Ms) ≠ 0 := by rw [hc]; decide
          rw [if_pos hne, hc]
          refine sh ?_
          refine acnd_t (by decide) ?_
          refine sh ?_
          exact rT
      · refine sh ?_
        refine ILoop.one 100 ?_
        refine sh ?_
        refine acnd_t (by (simp; omega)) ?_
        have l0 : ((r2).num 1).1 < 256 := num_lt _ (by omega) (by omega)
        refine sh ?_
        refine cM false [1] (uint13_c h.n214 (r2) 1 (by omega) (by omega)) ?_
        repeat ((intro _u; clear _u); first | refine eK ?_ | refine eP ?_)
        have l1 : (((r2).num 1).2.num 1).1 < 256 := num_lt _ (by omega) (by omega)
        refine sh ?_
        refine cM false [1] (uint13_c h.n214 ((r2).num 1).2 1 (by omega) (by omega)) ?_
        repeat ((intro _u; clear _u); first | refine eK ?_ | refine eP ?_)
        have l2 : ((((r2).num 1).2.num 1).2.num 1).1 < 256 := num_lt _ (by omega) (by omega)
        refine sh ?_
        refine cM false [1] (uint13_c h.n214 (((r2).num 1).2.num 1).2 1 (by omega) (by omega)) ?_
        repeat ((intro _u; clear _u); first | refine eK ?_ | refine eP ?_)
        refine sh ?_
        refine lPa 100 (fun k : Nat => 1 ≤ k ∧ k ≤ nt) (fun k => ⟨[(2, .loc 0 1 0 0), (4, .loc 2 1 0 0), (7, .loc 3 1 0 0), (42, .int .i64 nt), (43, .int .i64 k)], [(0, .var (R.ty 25) [.nils, .nils, .nils]), (1, .var (R.ty 9) (Rd.row (rdN ft k r2).2)), (2, .var (R.ty 30) [.loc 1 1 0 0]), (3, .var (R.ty 25) [.nils, .nils, .osl 5 k]), (5, .arr (R.ty 13) 3 (slc3 (rdN ft k r2).1))], 6⟩) (fun k => nt - k) (1) ?_ ?_
        · exact ⟨Nat.le_refl _, by omega⟩
        · intro k hk
          dsimp only
          obtain ⟨hk1, hk2⟩ := hk
          have hl := rdN_len ft k r2
          have hS : rdN ft (k + 1) r2 = ((rdN ft k r2).1 ++ [(ft (rdN ft k r2).2).1], (ft (rdN ft k r2).2).2) := rfl
          refine sh ?_
          refine cS (fun hlt => ?_) (fun hlt => ?_)
          · generalize hs : rdN ft k r2 = s at hl hS ⊢
            have l0 : ((s.2).num 1).1 < 256 := num_lt _ (by omega) (by omega)
            refine sh ?_
            refine cM false [1] (uint13_c h.n214 (s.2) 1 (by omega) (by omega)) ?_
            repeat ((intro _u; clear _u); first | refine eK ?_ | refine eP ?_)
            have l1 : (((s.2).num 1).2.num 1).1 < 256 := num_lt _ (by omega) (by omega)
            refine sh ?_
            refine cM false [1] (uint13_c h.n214 ((s.2).num 1).2 1 (by omega) (by omega)) ?_
            repeat ((intro _u; clear _u); first | refine eK ?_ | refine eP ?_)
            have l2 : ((((s.2).num 1).2.num 1).2.num 1).1 < 256 := num_lt _ (by omega) (by omega)
            refine sh ?_
            refine cM false [1] (uint13_c h.n214 (((s.2).num 1).2.num 1).2 1 (by omega) (by omega)) ?_
            repeat ((intro _u; clear _u); first | refine eK ?_ | refine eP ?_)
            refine sh ?_
            refine nX (k + 1) ?_ ?_ ⟨_, hp, rfl⟩ ?_ ?_
            · omega
            · omega
            · all_goals repeat' (first | exact True.intro | refine And.intro ?_ ?_ | (intro _u; clear _u) | (with_reducible first | refine eM ?_ ?_ | refine eF ?_ ?_ ?_ | refine eN ?_ | refine eL ?_ ?_ ?_ | refine eA ?_ ?_ | refine IWk.mk ⟨_, hp, rfl⟩ ?_ ?_) | refine IWk.mk ⟨_, hp, rfl⟩ ?_ ?_)
              all_goals first | with_reducible rfl | omega | exact Or.inl (by decide) | (simp; done) | rfl | skip
            · all_goals repeat' (first | exact True.intro | refine And.intro ?_ ?_ | (intro _u; clear _u) | (with_reducible first | refine eM ?_ ?_ | refine eF ?_ ?_ ?_ | refine eN ?_ | refine eL ?_ ?_ ?_ | refine eA ?_ ?_ | refine IWk.mk ⟨_, hp, rfl⟩ ?_ ?_) | refine IWk.mk ⟨_, hp, rfl⟩ ?_ ?_)
              all_goals first | with_reducible rfl | omega | exact Or.inl (by decide) | (simp; done) | rfl | skip
              all_goals first | (simp [hl]; done) | (rw [hS]; done) | (rw [hS]; rfl) | (rw [hS]; simp [slc3]; done) | (rw [hS]; simp [slc3]; rfl)
          · have hkn : k = nt := by omega
            rw [hkn, ht] at hl ⊢
            have hzt : (slc3 t.1).length = nt := by simp [hl]
            refine sh ?_
            refine cM false [1] (end_c h.n60 t.2) ?_
            repeat ((intro _u; clear _u); first | refine eK ?_ | refine eP ?_)
            refine sh ?_
            refine cS (fun h9 => ?_) (fun h9 => ?_)
            · rw [mfin, if_pos h9]
              refine sh ?_
              exact rT
            · rw [mfin, if_neg (fun hh => hh h9)]
              refine sh ?_
              refine ICall.let [5] rfl hp rfl ?_
              repeat ((intro _u; clear _u); first | refine eZ ?_ | refine eZ ?_ (by simp; omega) | refine FrzC.drop ?_)
              refine sh ?_
              refine ICall.pure h.n193.o193.hb (mcheck_t h.n193 t.1) rfl ?_
              have hc : mchk (⟨[], [], t.1⟩ : Ms) = if 64 < t.1.length then 3 else 5 := mchk_v
              have hne : mchk (⟨[], [], t.1⟩ : Ms) ≠ 0 := by rw [hc]; split <;> decide
              rw [if_pos hne, hc]
              refine sh ?_
              refine acnd_t (by (split <;> decide)) ?_
              refine sh ?_
              exact rT
    · refine sh ?_
      refine ILoop.one 100 ?_
      refine sh ?_
      refine acnd_t (by (simp; omega)) ?_
      refine sh ?_
      refine cM false [1] (point13_c h.n215 r2) ?_
      repeat ((intro _u; clear _u); first | refine eK ?_ | refine eP ?_)
      refine sh ?_
      refine lPa 100 (fun k : Nat => 1 ≤ k ∧ k ≤ nv) (fun k => ⟨[(2, .loc 0 1 0 0), (4, .loc 2 1 0 0), (5, .int .i64 nv), (6, .int .i64 nt), (7, .loc 3 1 0 0), (17, .int .i64 nv), (18, .int .i64 k)], [(0, .var (R.ty 25) [.nils, .nils, .nils]), (1, .var (R.ty 9) (Rd.row (rdN f3 k r2).2)), (2, .var (R.ty 30) [.loc 1 1 0 0]), (3, .var (R.ty 25) [.osl 5 k, .nils, .nils]), (5, .arr (R.ty 26) 3 (slc3 (rdN f3 k r2).1))], 6⟩) (fun k => nv - k) (1) ?_ ?_
      · exact ⟨Nat.le_refl _, by omega⟩
      · intro k hk
        dsimp only
        obtain ⟨hk1, hk2⟩ := hk
        have hl := rdN_len f3 k r2
        have hS : rdN f3 (k + 1) r2 = ((rdN f3 k r2).1 ++ [(f3 (rdN f3 k r2).2).1], (f3 (rdN f3 k r2).2).2) := rfl
        refine sh ?_
        refine cS (fun hlt => ?_) (fun hlt => ?_)
        · generalize hs : rdN f3 k r2 = s at hl hS ⊢
          refine sh ?_
          refine cM false [1] (point13_c h.n215 s.2) ?_
          repeat ((intro _u; clear _u); first | refine eK ?_ | refine eP ?_)
          refine sh ?_
          refine nX (k + 1) ?_ ?_ ⟨_, hp, rfl⟩ ?_ ?_
          · omega
          · omega
          · all_goals repeat' (first | exact True.intro | refine And.intro ?_ ?_ | (intro _u; clear _u) | (with_reducible first | refine eM ?_ ?_ | refine eF ?_ ?_ ?_ | refine eN ?_ | refine eL ?_ ?_ ?_ | refine eA ?_ ?_ | refine IWk.mk ⟨_, hp, rfl⟩ ?_ ?_) | refine IWk.mk ⟨_, hp, rfl⟩ ?_ ?_)
            all_goals first | with_reducible rfl | omega | exact Or.inl (by decide) | (simp; done) | rfl | skip
          · all_goals repeat' (first | exact True.intro | refine And.intro ?_ ?_ | (intro _u; clear _u) | (with_reducible first | refine eM ?_ ?_ | refine eF ?_ ?_ ?_ | refine eN ?_ | refine eL ?_ ?_ ?_ | refine eA ?_ ?_ | refine IWk.mk ⟨_, hp, rfl⟩ ?_ ?_) | refine IWk.mk ⟨_, hp, rfl⟩ ?_ ?_)
            all_goals first | with_reducible rfl | omega | exact Or.inl (by decide) | (simp; done) | rfl | skip
            all_goals first | (simp [hl]; done) | (rw [hS]; done) | (rw [hS]; rfl) | (rw [hS]; simp [slc3]; done) | (rw [hS]; simp [slc3]; rfl)
        · have hkn : k = nv := by omega
          rw [hkn, hv] at hl ⊢
          have hzv : (slc3 v.1).length = nv := by simp [hl]
          have hvl := hl
          refine sh ?_
          refine ILoop.one 100 ?_
          refine sh ?_
          refine acnd_t (by (simp; omega)) ?_
          have l0 : ((v.2).num 2).1 < 65536 := num_lt _ (by omega) (by omega)
          refine sh ?_
          refine cM false [1] (uint13_c h.n214 (v.2) 2 (by omega) (by omega)) ?_
          repeat ((intro _u; clear _u); first | refine eK ?_ | refine eP ?_)
          have l1 : (((v.2).num 2).2.num 2).1 < 65536 := num_lt _ (by omega) (by omega)
          refine sh ?_
          refine cM false [1] (uint13_c h.n214 ((v.2).num 2).2 2 (by omega) (by omega)) ?_
          repeat ((intro _u; clear _u); first | refine eK ?_ | refine eP ?_)
          refine sh ?_
          refine lPa 100 (fun k : Nat => 1 ≤ k ∧ k ≤ nv) (fun k => ⟨[(2, .loc 0 1 0 0), (4, .loc 2 1 0 0), (6, .int .i64 nt), (7, .loc 3 1 0 0), (28, .int .i64 nv), (29, .int .i64 k)], [(0, .var (R.ty 25) [.nils, .nils, .nils]), (1, .var (R.ty 9) (Rd.row (rdN f2 k v.2).2)), (2, .var (R.ty 30) [.loc 1 1 0 0]), (3, .var (R.ty 25) [.osl 5 nv, .osl 7 k, .nils]), (5, .arr (R.ty 26) 3 (slc3 v.1)), (7, .arr (R.ty 18) 2 (slc2 (rdN f2 k v.2).1))], 8⟩) (fun k => nv - k) (1) ?_ ?_
          · exact ⟨Nat.le_refl _, by omega⟩
          · intro k hk
            dsimp only
            obtain ⟨hk1, hk2⟩ := hk
            have hl := rdN_len f2 k v.2
            have hS : rdN f2 (k + 1) v.2 = ((rdN f2 k v.2).1 ++ [(f2 (rdN f2 k v.2).2).1], (f2 (rdN f2 k v.2).2).2) := rfl
            refine sh ?_
            refine cS (fun hlt => ?_) (fun hlt => ?_)
            · generalize hs : rdN f2 k v.2 = s at hl hS ⊢
              have l0 : ((s.2).num 2).1 < 65536 := num_lt _ (by omega) (by omega)
              refine sh ?_
              refine cM false [1] (uint13_c h.n214 (s.2) 2 (by omega) (by omega)) ?_
              repeat ((intro _u; clear _u); first | refine eK ?_ | refine eP ?_)
              have l1 : (((s.2).num 2).2.num 2).1 < 65536 := num_lt _ (by omega) (by omega)
              refine sh ?_
              refine cM false [1] (uint13_c h.n214 ((s.2).num 2).2 2 (by omega) (by omega)) ?_
              repeat ((intro _u; clear _u); first | refine eK ?_ | refine eP ?_)
              refine sh ?_
              refine nX (k + 1) ?_ ?_ ⟨_, hp, rfl⟩ ?_ ?_
              · omega
              · omega
              · all_goals repeat' (first | exact True.intro | refine And.intro ?_ ?_ | (intro _u; clear _u) | (with_reducible first | refine eM ?_ ?_ | refine eF ?_ ?_ ?_ | refine eN ?_ | refine eL ?_ ?_ ?_ | refine eA ?_ ?_ | refine IWk.mk ⟨_, hp, rfl⟩ ?_ ?_) | refine IWk.mk ⟨_, hp, rfl⟩ ?_ ?_)
                all_goals first | with_reducible rfl | omega | exact Or.inl (by decide) | (simp; done) | rfl | skip
              · all_goals repeat' (first | exact True.intro | refine And.intro ?_ ?_ | (intro _u; clear _u) | (with_reducible first | refine eM ?_ ?_ | refine eF ?_ ?_ ?_ | refine eN ?_ | refine eL ?_ ?_ ?_ | refine eA ?_ ?_ | refine IWk.mk ⟨_, hp, rfl⟩ ?_ ?_) | refine IWk.mk ⟨_, hp, rfl⟩ ?_ ?_)
                all_goals first | with_reducible rfl | omega | exact Or.inl (by decide) | (simp; done) | rfl | skip
                all_goals first | (simp [hl]; done) | (rw [hS]; done) | (rw [hS]; rfl) | (rw [hS]; simp [slc2]; done) | (rw [hS]; simp [slc2]; rfl)
            · have hkn : k = nv := by omega
              rw [hkn, hu] at hl ⊢
              have hzu : (slc2 u.1).length = nv := by simp [hl]
              have hul := hl
              by_cases hn : nt = 0
              · subst hn
                obtain rfl : t = ([], u.2) := ht.symm
                refine sh ?_
                refine ILoop.one 100 ?_
                refine sh ?_
                refine acnd_f (by simp) ?_
                refine sh ?_
                refine cM false [1] (end_c h.n60 u.2) ?_
                repeat ((intro _u; clear _u); first | refine eK ?_ | refine eP ?_)
                refine sh ?_
                refine cS (fun h9 => ?_) (fun h9 => ?_)
                · rw [mfin, if_pos h9]
                  refine sh ?_
                  exact rT
                · rw [mfin, if_neg (fun hh => hh h9)]
                  refine sh ?_
                  refine ICall.let [5, 7] rfl hp rfl ?_
                  repeat ((intro _u; clear _u); first | refine eZ ?_ | refine eZ ?_ (by simp; omega) | refine FrzC.drop ?_)
                  refine sh ?_
                  refine ICall.pure h.n193.o193.hb (mcheck_v h.n193 v.1 u.1 (by omega)) rfl ?_
                  have hc : mchk (⟨v.1, u.1, []⟩ : Ms) = if 64 < v.1.length then 3 else 5 := mchk_t
                  have hne : mchk (⟨v.1, u.1, []⟩ : Ms) ≠ 0 := by rw [hc]; split <;> decide
                  rw [if_pos hne, hc]
                  refine sh ?_
                  refine acnd_t (by (split <;> decide)) ?_
                  refine sh ?_
                  exact rT
              · refine sh ?_
                refine ILoop.one 100 ?_
                refine sh ?_
                refine acnd_t (by (simp; omega)) ?_
                have l0 : ((u.2).num 1).1 < 256 := num_lt _ (by omega) (by omega)
                refine sh ?_
                refine cM false [1] (uint13_c h.n214 (u.2) 1 (by omega) (by omega)) ?_
                repeat ((intro _u; clear _u); first | refine eK ?_ | refine eP ?_)
                have l1 : (((u.2).num 1).2.num 1).1 < 256 := num_lt _ (by omega) (by omega)
                refine sh ?_
                refine cM false [1] (uint13_c h.n214 ((u.2).num 1).2 1 (by omega) (by omega)) ?_
                repeat ((intro _u; clear _u); first | refine eK ?_ | refine eP ?_)
                have l2 : ((((u.2).num 1).2.num 1).2.num 1).1 < 256 := num_lt _ (by omega) (by omega)
                refine sh ?_
                refine cM false [1] (uint13_c h.n214 (((u.2).num 1).2.num 1).2 1 (by omega) (by omega)) ?_
                repeat ((intro _u; clear _u); first | refine eK ?_ | refine eP ?_)
                refine sh ?_
                refine lPa 100 (fun k : Nat => 1 ≤ k ∧ k ≤ nt) (fun k => ⟨[(2, .loc 0 1 0 0), (4, .loc 2 1 0 0), (7, .loc 3 1 0 0), (42, .int .i64 nt), (43, .int .i64 k)], [(0, .var (R.ty 25) [.nils, .nils, .nils]), (1, .var (R.ty 9) (Rd.row (rdN ft k u.2).2)), (2, .var (R.ty 30) [.loc 1 1 0 0]), (3, .var (R.ty 25) [.osl 5 nv, .osl 7 nv, .osl 9 k]), (5, .arr (R.ty 26) 3 (slc3 v.1)), (7, .arr (R.ty 18) 2 (slc2 u.1)), (9, .arr (R.ty 13) 3 (slc3 (rdN ft k u.2).1))], 10⟩) (fun k => nt - k) (1) ?_ ?_
                · exact ⟨Nat.le_refl _, by omega⟩
                · intro k hk
                  dsimp only
                  obtain ⟨hk1, hk2⟩ := hk
                  have hl := rdN_len ft k u.2
                  have hS : rdN ft (k + 1) u.2 = ((rdN ft k u.2).1 ++ [(ft (rdN ft k u.2).2).1], (ft (rdN ft k u.2).2).2) := rfl
                  refine sh ?_
                  refine cS (fun hlt => ?_) (fun hlt => ?_)
                  · generalize hs : rdN ft k u.2 = s at hl hS ⊢
                    have l0 : ((s.2).num 1).1 < 256 := num_lt _ (by omega) (by omega)
                    refine sh ?_
                    refine cM false [1] (uint13_c h.n214 (s.2) 1 (by omega) (by omega)) ?_
                    repeat ((intro _u; clear _u); first | refine eK ?_ | refine eP ?_)
                    have l1 : (((s.2).num 1).2.num 1).1 < 256 := num_lt _ (by omega) (by omega)
                    refine sh ?_
                    refine cM false [1] (uint13_c h.n214 ((s.2).num 1).2 1 (by omega) (by omega)) ?_
                    repeat ((intro _u; clear _u); first | refine eK ?_ | refine eP ?_)
                    have l2 : ((((s.2).num 1).2.num 1).2.num 1).1 < 256 := num_lt _ (by omega) (by omega)
                    refine sh ?_
                    refine cM false [1] (uint13_c h.n214 (((s.2).num 1).2.num 1).2 1 (by omega) (by omega)) ?_
                    repeat ((intro _u; clear _u); first | refine eK ?_ | refine eP ?_)
                    refine sh ?_
                    refine nX (k + 1) ?_ ?_ ⟨_, hp, rfl⟩ ?_ ?_
                    · omega
                    · omega
                    · all_goals repeat' (first | exact True.intro | refine And.intro ?_ ?_ | (intro _u; clear _u) | (with_reducible first | refine eM ?_ ?_ | refine eF ?_ ?_ ?_ | refine eN ?_ | refine eL ?_ ?_ ?_ | refine eA ?_ ?_ | refine IWk.mk ⟨_, hp, rfl⟩ ?_ ?_) | refine IWk.mk ⟨_, hp, rfl⟩ ?_ ?_)
                      all_goals first | with_reducible rfl | omega | exact Or.inl (by decide) | (simp; done) | rfl | skip
                    · all_goals repeat' (first | exact True.intro | refine And.intro ?_ ?_ | (intro _u; clear _u) | (with_reducible first | refine eM ?_ ?_ | refine eF ?_ ?_ ?_ | refine eN ?_ | refine eL ?_ ?_ ?_ | refine eA ?_ ?_ | refine IWk.mk ⟨_, hp, rfl⟩ ?_ ?_) | refine IWk.mk ⟨_, hp, rfl⟩ ?_ ?_)
                      all_goals first | with_reducible rfl | omega | exact Or.inl (by decide) | (simp; done) | rfl | skip
                      all_goals first | (simp [hl]; done) | (rw [hS]; done) | (rw [hS]; rfl) | (rw [hS]; simp [slc3]; done) | (rw [hS]; simp [slc3]; rfl)
                  · have hkn : k = nt := by omega
                    rw [hkn, ht] at hl ⊢
                    have hzt : (slc3 t.1).length = nt := by simp [hl]
                    refine sh ?_
                    refine cM false [1] (end_c h.n60 t.2) ?_
                    repeat ((intro _u; clear _u); first | refine eK ?_ | refine eP ?_)
                    refine sh ?_
                    refine cS (fun h9 => ?_) (fun h9 => ?_)
                    · rw [mfin, if_pos h9]
                      refine sh ?_
                      exact rT
                    · rw [mfin, if_neg (fun hh => hh h9)]
                      refine sh ?_
                      refine ICall.let [5, 7, 9] rfl hp rfl ?_
                      repeat ((intro _u; clear _u); first | refine eZ ?_ | refine eZ ?_ (by simp; omega) | refine FrzC.drop ?_)
                      refine sh ?_
                      refine ICall.pure h.n193.o193.hb (mcheck_c h.n193 ⟨v.1, u.1, t.1⟩) rfl ?_
                      refine sh ?_
                      refine cS (fun h10 => ?_) (fun h10 => ?_)
                      · rw [if_pos h10]
                        refine sh ?_
                        exact rT
                      · rw [if_neg (fun hh => hh h10)]
                        refine sh ?_
                        exact rT
set_option maxHeartbeats 1000000 in
theorem rmdecode13_c {R : Env} (h : N203 R) (b : List UInt8) (hb : b.length ≤ 1073741824) : R.Pc 203 [.isl 1 (slc8 b)] (.tup [.agg (mdecd b).1.row, .int .i64 (mdecd b).2]) :=
  h.o203.enter 100 rfl fun X bb hfit hp => by
    have ok0 : RdOk b ⟨b, 0, true⟩ := .new hb
    have hb0 : (b.length : Int) - b.length = 0 := by omega
    have c1 := rnum_c h.n61 b ⟨b, 0, true⟩ ok0 1
    have oka := ok0.num 1
    unfold mdecd
    have la : ((⟨b, 0, true⟩ : Rd).num 1).1 < 256 := num_lt _ (by omega) (by omega)
    generalize (⟨b, 0, true⟩ : Rd).num 1 = a at c1 la oka ⊢
    refine sh ?_
    refine cM false [1] (c1) ?_
    repeat ((intro _u; clear _u); first | refine eK ?_ | refine eP ?_)
    have c2 := rnum_c h.n61 b a.2 oka 1
    have ok2 := oka.num 1
    have lc : (a.2.num 1).1 < 256 := num_lt _ (by omega) (by omega)
    generalize a.2.num 1 = c at c2 lc ok2 ⊢
    refine sh ?_
    refine cM false [1] (c2) ?_
    repeat ((intro _u; clear _u); first | refine eK ?_ | refine eP ?_)
    obtain ⟨nv, ra⟩ := a
    obtain ⟨nt, r2⟩ := c
    dsimp only at la lc c1 c2 ok2 ⊢
    obtain ⟨v, hv⟩ : ∃ v, rdN f3 nv r2 = v := ⟨_, rfl⟩
    obtain ⟨u, hu⟩ : ∃ u, rdN f2 nv v.2 = u := ⟨_, rfl⟩
    obtain ⟨t, ht⟩ : ∃ t, rdN ft nt u.2 = t := ⟨_, rfl⟩
    have hq : mq nv nt r2 = (⟨v.1, u.1, t.1⟩, t.2) := by unfold mq; rw [hv, hu, ht]
    rw [hq]
    clear hq c1 c2
    by_cases h0 : nv = 0
    · subst h0
      obtain rfl : v = ([], r2) := hv.symm
      obtain rfl : u = ([], r2) := hu.symm
      have oku : RdOk b r2 := ok2
      refine sh ?_
      refine ILoop.one 100 ?_
      refine sh ?_
      refine acnd_f (by simp) ?_
      refine sh ?_
      refine ILoop.one 100 ?_
      refine sh ?_
      refine acnd_f (by simp) ?_
      by_cases hn : nt = 0
      · subst hn
        obtain rfl : t = ([], r2) := ht.symm
        have okt : RdOk b r2 := ok2
        refine sh ?_
        refine ILoop.one 100 ?_
        refine sh ?_
        refine acnd_f (by simp) ?_
        refine sh ?_
        refine cM false [1] (rend_c h.n69 b r2 okt) ?_
        repeat ((intro _u; clear _u); first | refine eK ?_ | refine eP ?_)
        refine sh ?_
        refine cS (fun h9 => ?_) (fun h9 => ?_)
        · rw [mfin, if_pos h9]
          refine sh ?_
          exact rT
        · rw [mfin, if_neg (fun hh => hh h9)]
          refine sh ?_
          refine ICall.pure h.n198.o198.hb (rcheck13_n h.n198) rfl ?_
          have hc : mchk (⟨[], [], []⟩ : Ms) = 5 := by rw [mchk_v]; rfl
          have hne : mchk (⟨[], [], []⟩ : Ms) ≠ 0 := by rw [hc]; decide
          rw [if_pos hne, hc]
          refine sh ?_
          refine acnd_t (by decide) ?_
          refine sh ?_
          exact rT
      · refine sh ?_
        refine ILoop.one 100 ?_
        refine sh ?_
        refine acnd_t (by (simp; omega)) ?_
        have l0 : ((r2).num 1).1 < 256 := num_lt _ (by omega) (by omega)
        refine sh ?_
        refine cM false [1] (rnum_c h.n61 b (r2) oku 1) ?_
        repeat ((intro _u; clear _u); first | refine eK ?_ | refine eP ?_)
        have l1 : (((r2).num 1).2.num 1).1 < 256 := num_lt _ (by omega) (by omega)
        refine sh ?_
        refine cM false [1] (rnum_c h.n61 b ((r2).num 1).2 (oku.num 1) 1) ?_
        repeat ((intro _u; clear _u); first | refine eK ?_ | refine eP ?_)
        have l2 : ((((r2).num 1).2.num 1).2.num 1).1 < 256 := num_lt _ (by omega) (by omega)
        refine sh ?_
        refine cM false [1] (rnum_c h.n61 b (((r2).num 1).2.num 1).2 ((oku.num 1).num 1) 1) ?_
        repeat ((intro _u; clear _u); first | refine eK ?_ | refine eP ?_)
        refine sh ?_
        refine lPa 100 (fun k : Nat => 1 ≤ k ∧ k ≤ nt) (fun k => ⟨[(2, .loc 0 1 0 0), (4, .loc 1 1 0 0), (6, .int .i64 nt), (7, .loc 2 1 0 0), (12, .int .i64 k)], [(0, .var (R.ty 25) [.nils, .nils, .nils]), (1, .var (R.ty 8) [.isl 1 (slc8 b), .int .i64 (b.length - ((rdN ft k r2).2).l.length), .int .i64 ((rdN ft k r2).2).e]), (2, .var (R.ty 25) [.nils, .nils, .osl 4 k]), (4, .arr (R.ty 13) 3 (slc3 (rdN ft k r2).1))], 5⟩) (fun k => nt - k) (1) ?_ ?_
        · exact ⟨Nat.le_refl _, by omega⟩
        · intro k hk
          dsimp only
          obtain ⟨hk1, hk2⟩ := hk
          have hl := rdN_len ft k r2
          have hS : rdN ft (k + 1) r2 = ((rdN ft k r2).1 ++ [(ft (rdN ft k r2).2).1], (ft (rdN ft k r2).2).2) := rfl
          have oks := RdOk.rdN (f := ft) (fun _ => RdOk.ft) k oku
          refine sh ?_
          refine cS (fun hlt => ?_) (fun hlt => ?_)
          · generalize hs : rdN ft k r2 = s at hl hS oks ⊢
            have l0 : ((s.2).num 1).1 < 256 := num_lt _ (by omega) (by omega)
            refine sh ?_
            refine cM false [1] (rnum_c h.n61 b (s.2) oks 1) ?_
            repeat ((intro _u; clear _u); first | refine eK ?_ | refine eP ?_)
            have l1 : (((s.2).num 1).2.num 1).1 < 256 := num_lt _ (by omega) (by omega)
            refine sh ?_
            refine cM false [1] (rnum_c h.n61 b ((s.2).num 1).2 (oks.num 1) 1) ?_
            repeat ((intro _u; clear _u); first | refine eK ?_ | refine eP ?_)
            have l2 : ((((s.2).num 1).2.num 1).2.num 1).1 < 256 := num_lt _ (by omega) (by omega)
            refine sh ?_
            refine cM false [1] (rnum_c h.n61 b (((s.2).num 1).2.num 1).2 ((oks.num 1).num 1) 1) ?_
            repeat ((intro _u; clear _u); first | refine eK ?_ | refine eP ?_)
            refine sh ?_
            refine nX (k + 1) ?_ ?_ ⟨_, hp, rfl⟩ ?_ ?_
            · omega
            · omega
            · all_goals repeat' (first | exact True.intro | refine And.intro ?_ ?_ | (intro _u; clear _u) | (with_reducible first | refine eM ?_ ?_ | refine eF ?_ ?_ ?_ | refine eN ?_ | refine eL ?_ ?_ ?_ | refine eA ?_ ?_ | refine IWk.mk ⟨_, hp, rfl⟩ ?_ ?_) | refine IWk.mk ⟨_, hp, rfl⟩ ?_ ?_)
              all_goals first | with_reducible rfl | omega | exact Or.inl (by decide) | (simp; done) | rfl | skip
            · all_goals repeat' (first | exact True.intro | refine And.intro ?_ ?_ | (intro _u; clear _u) | (with_reducible first | refine eM ?_ ?_ | refine eF ?_ ?_ ?_ | refine eN ?_ | refine eL ?_ ?_ ?_ | refine eA ?_ ?_ | refine IWk.mk ⟨_, hp, rfl⟩ ?_ ?_) | refine IWk.mk ⟨_, hp, rfl⟩ ?_ ?_)
              all_goals first | with_reducible rfl | omega | exact Or.inl (by decide) | (simp; done) | rfl | skip
              all_goals first | (simp [hl]; done) | (rw [hS]; done) | (rw [hS]; rfl) | (rw [hS]; simp [slc3]; done) | (rw [hS]; simp [slc3]; rfl)
          · have hkn : k = nt := by omega
            rw [hkn, ht] at hl oks ⊢
            have hzt : (slc3 t.1).length = nt := by simp [hl]
            have okt := oks
            refine sh ?_
            refine cM false [1] (rend_c h.n69 b t.2 okt) ?_
            repeat ((intro _u; clear _u); first | refine eK ?_ | refine eP ?_)
            refine sh ?_
            refine cS (fun h9 => ?_) (fun h9 => ?_)
            · rw [mfin, if_pos h9]
              refine sh ?_
              exact rT
            · rw [mfin, if_neg (fun hh => hh h9)]
              refine sh ?_
              refine ICall.let [4] rfl hp rfl ?_
              repeat ((intro _u; clear _u); first | refine eZ ?_ | refine eZ ?_ (by simp; omega) | refine FrzC.drop ?_)
              refine sh ?_
              refine ICall.pure h.n198.o198.hb (rcheck13_t h.n198 t.1) rfl ?_
              have hc : mchk (⟨[], [], t.1⟩ : Ms) = if 64 < t.1.length then 3 else 5 := mchk_v
              have hne : mchk (⟨[], [], t.1⟩ : Ms) ≠ 0 := by rw [hc]; split <;> decide
              rw [if_pos hne, hc]
              refine sh ?_
              refine acnd_t (by (split <;> decide)) ?_
              refine sh ?_
              exact rT
    · refine sh ?_
      refine ILoop.one 100 ?_
      refine sh ?_
      refine acnd_t (by (simp; omega)) ?_
      refine sh ?_
      refine cM false [1] (rread13_c h.n216 b r2 ok2) ?_
      repeat ((intro _u; clear _u); first | refine eK ?_ | refine eP ?_)
      refine sh ?_
      refine lPa 100 (fun k : Nat => 1 ≤ k ∧ k ≤ nv) (fun k => ⟨[(2, .loc 0 1 0 0), (4, .loc 1 1 0 0), (5, .int .i64 nv), (6, .int .i64 nt), (7, .loc 2 1 0 0), (8, .int .i64 k)], [(0, .var (R.ty 25) [.nils, .nils, .nils]), (1, .var (R.ty 8) [.isl 1 (slc8 b), .int .i64 (b.length - ((rdN f3 k r2).2).l.length), .int .i64 ((rdN f3 k r2).2).e]), (2, .var (R.ty 25) [.osl 4 k, .nils, .nils]), (4, .arr (R.ty 26) 3 (slc3 (rdN f3 k r2).1))], 5⟩) (fun k => nv - k) (1) ?_ ?_
      · exact ⟨Nat.le_refl _, by omega⟩
      · intro k hk
        dsimp only
        obtain ⟨hk1, hk2⟩ := hk
        have hl := rdN_len f3 k r2
        have hS : rdN f3 (k + 1) r2 = ((rdN f3 k r2).1 ++ [(f3 (rdN f3 k r2).2).1], (f3 (rdN f3 k r2).2).2) := rfl
        have oks := RdOk.rdN (f := f3) (fun _ => RdOk.f3) k ok2
        refine sh ?_
        refine cS (fun hlt => ?_) (fun hlt => ?_)
        · generalize hs : rdN f3 k r2 = s at hl hS oks ⊢
          refine sh ?_
          refine cM false [1] (rread13_c h.n216 b s.2 oks) ?_
          repeat ((intro _u; clear _u); first | refine eK ?_ | refine eP ?_)
          refine sh ?_
          refine nX (k + 1) ?_ ?_ ⟨_, hp, rfl⟩ ?_ ?_
          · omega
          · omega
          · all_goals repeat' (first | exact True.intro | refine And.intro ?_ ?_ | (intro _u; clear _u) | (with_reducible first | refine eM ?_ ?_ | refine eF ?_ ?_ ?_ | refine eN ?_ | refine eL ?_ ?_ ?_ | refine eA ?_ ?_ | refine IWk.mk ⟨_, hp, rfl⟩ ?_ ?_) | refine IWk.mk ⟨_, hp, rfl⟩ ?_ ?_)
            all_goals first | with_reducible rfl | omega | exact Or.inl (by decide) | (simp; done) | rfl | skip
          · all_goals repeat' (first | exact True.intro | refine And.intro ?_ ?_ | (intro _u; clear _u) | (with_reducible first | refine eM ?_ ?_ | refine eF ?_ ?_ ?_ | refine eN ?_ | refine eL ?_ ?_ ?_ | refine eA ?_ ?_ | refine IWk.mk ⟨_, hp, rfl⟩ ?_ ?_) | refine IWk.mk ⟨_, hp, rfl⟩ ?_ ?_)
            all_goals first | with_reducible rfl | omega | exact Or.inl (by decide) | (simp; done) | rfl | skip
            all_goals first | (simp [hl]; done) | (rw [hS]; done) | (rw [hS]; rfl) | (rw [hS]; simp [slc3]; done) | (rw [hS]; simp [slc3]; rfl)
        · have hkn : k = nv := by omega
          rw [hkn, hv] at hl oks ⊢
          have hzv : (slc3 v.1).length = nv := by simp [hl]
          have okv := oks
          have hvl := hl
          refine sh ?_
          refine ILoop.one 100 ?_
          refine sh ?_
          refine acnd_t (by (simp; omega)) ?_
          have l0 : ((v.2).num 2).1 < 65536 := num_lt _ (by omega) (by omega)
          refine sh ?_
          refine cM false [1] (rnum_c h.n61 b (v.2) okv 2) ?_
          repeat ((intro _u; clear _u); first | refine eK ?_ | refine eP ?_)
          have l1 : (((v.2).num 2).2.num 2).1 < 65536 := num_lt _ (by omega) (by omega)
          refine sh ?_
          refine cM false [1] (rnum_c h.n61 b ((v.2).num 2).2 (okv.num 2) 2) ?_
          repeat ((intro _u; clear _u); first | refine eK ?_ | refine eP ?_)
          refine sh ?_
          refine lPa 100 (fun k : Nat => 1 ≤ k ∧ k ≤ nv) (fun k => ⟨[(2, .loc 0 1 0 0), (4, .loc 1 1 0 0), (5, .int .i64 nv), (6, .int .i64 nt), (7, .loc 2 1 0 0), (9, .int .i64 k)], [(0, .var (R.ty 25) [.nils, .nils, .nils]), (1, .var (R.ty 8) [.isl 1 (slc8 b), .int .i64 (b.length - ((rdN f2 k v.2).2).l.length), .int .i64 ((rdN f2 k v.2).2).e]), (2, .var (R.ty 25) [.osl 4 nv, .osl 6 k, .nils]), (4, .arr (R.ty 26) 3 (slc3 v.1)), (6, .arr (R.ty 18) 2 (slc2 (rdN f2 k v.2).1))], 7⟩) (fun k => nv - k) (1) ?_ ?_
          · exact ⟨Nat.le_refl _, by omega⟩
          · intro k hk
            dsimp only
            obtain ⟨hk1, hk2⟩ := hk
            have hl := rdN_len f2 k v.2
            have hS : rdN f2 (k + 1) v.2 = ((rdN f2 k v.2).1 ++ [(f2 (rdN f2 k v.2).2).1], (f2 (rdN f2 k v.2).2).2) := rfl
            have oks := RdOk.rdN (f := f2) (fun _ => RdOk.f2) k okv
            refine sh ?_
            refine cS (fun hlt => ?_) (fun hlt => ?_)
            · generalize hs : rdN f2 k v.2 = s at hl hS oks ⊢
              have l0 : ((s.2).num 2).1 < 65536 := num_lt _ (by omega) (by omega)
              refine sh ?_
              refine cM false [1] (rnum_c h.n61 b (s.2) oks 2) ?_
              repeat ((intro _u; clear _u); first | refine eK ?_ | refine eP ?_)
              have l1 : (((s.2).num 2).2.num 2).1 < 65536 := num_lt _ (by omega) (by omega)
              refine sh ?_
              refine cM false [1] (rnum_c h.n61 b ((s.2).num 2).2 (oks.num 2) 2) ?_
              repeat ((intro _u; clear _u); first | refine eK ?_ | refine eP ?_)
              refine sh ?_
              refine nX (k + 1) ?_ ?_ ⟨_, hp, rfl⟩ ?_ ?_
              · omega
              · omega
              · all_goals repeat' (first | exact True.intro | refine And.intro ?_ ?_ | (intro _u; clear _u) | (with_reducible first | refine eM ?_ ?_ | refine eF ?_ ?_ ?_ | refine eN ?_ | refine eL ?_ ?_ ?_ | refine eA ?_ ?_ | refine IWk.mk ⟨_, hp, rfl⟩ ?_ ?_) | refine IWk.mk ⟨_, hp, rfl⟩ ?_ ?_)
                all_goals first | with_reducible rfl | omega | exact Or.inl (by decide) | (simp; done) | rfl | skip
              · all_goals repeat' (first | exact True.intro | refine And.intro ?_ ?_ | (intro _u; clear _u) | (with_reducible first | refine eM ?_ ?_ | refine eF ?_ ?_ ?_ | refine eN ?_ | refine eL ?_ ?_ ?_ | refine eA ?_ ?_ | refine IWk.mk ⟨_, hp, rfl⟩ ?_ ?_) | refine IWk.mk ⟨_, hp, rfl⟩ ?_ ?_)
                all_goals first | with_reducible rfl | omega | exact Or.inl (by decide) | (simp; done) | rfl | skip
                all_goals first | (simp [hl]; done) | (rw [hS]; done) | (rw [hS]; rfl) | (rw [hS]; simp [slc2]; done) | (rw [hS]; simp [slc2]; rfl)
            · have hkn : k = nv := by omega
              rw [hkn, hu] at hl oks ⊢
              have hzu : (slc2 u.1).length = nv := by simp [hl]
              have oku := oks
              have hul := hl
              by_cases hn : nt = 0
              · subst hn
                obtain rfl : t = ([], u.2) := ht.symm
                have okt : RdOk b u.2 := oku
                refine sh ?_
                refine ILoop.one 100 ?_
                refine sh ?_
                refine acnd_f (by simp) ?_
                refine sh ?_
                refine cM false [1] (rend_c h.n69 b u.2 okt) ?_
                repeat ((intro _u; clear _u); first | refine eK ?_ | refine eP ?_)
                refine sh ?_
                refine cS (fun h9 => ?_) (fun h9 => ?_)
                · rw [mfin, if_pos h9]
                  refine sh ?_
                  exact rT
                · rw [mfin, if_neg (fun hh => hh h9)]
                  refine sh ?_
                  refine ICall.let [4, 6] rfl hp rfl ?_
                  repeat ((intro _u; clear _u); first | refine eZ ?_ | refine eZ ?_ (by simp; omega) | refine FrzC.drop ?_)
                  refine sh ?_
                  refine ICall.pure h.n198.o198.hb (rcheck13_v h.n198 v.1 u.1 (by omega)) rfl ?_
                  have hc : mchk (⟨v.1, u.1, []⟩ : Ms) = if 64 < v.1.length then 3 else 5 := mchk_t
                  have hne : mchk (⟨v.1, u.1, []⟩ : Ms) ≠ 0 := by rw [hc]; split <;> decide
                  rw [if_pos hne, hc]
                  refine sh ?_
                  refine acnd_t (by (split <;> decide)) ?_
                  refine sh ?_
                  exact rT
              · refine sh ?_
                refine ILoop.one 100 ?_
                refine sh ?_
                refine acnd_t (by (simp; omega)) ?_
                have l0 : ((u.2).num 1).1 < 256 := num_lt _ (by omega) (by omega)
                refine sh ?_
                refine cM false [1] (rnum_c h.n61 b (u.2) oku 1) ?_
                repeat ((intro _u; clear _u); first | refine eK ?_ | refine eP ?_)
                have l1 : (((u.2).num 1).2.num 1).1 < 256 := num_lt _ (by omega) (by omega)
                refine sh ?_
                refine cM false [1] (rnum_c h.n61 b ((u.2).num 1).2 (oku.num 1) 1) ?_
                repeat ((intro _u; clear _u); first | refine eK ?_ | refine eP ?_)
                have l2 : ((((u.2).num 1).2.num 1).2.num 1).1 < 256 := num_lt _ (by omega) (by omega)
                refine sh ?_
                refine cM false [1] (rnum_c h.n61 b (((u.2).num 1).2.num 1).2 ((oku.num 1).num 1) 1) ?_
                repeat ((intro _u; clear _u); first | refine eK ?_ | refine eP ?_)
                refine sh ?_
                refine lPa 100 (fun k : Nat => 1 ≤ k ∧ k ≤ nt) (fun k => ⟨[(2, .loc 0 1 0 0), (4, .loc 1 1 0 0), (6, .int .i64 nt), (7, .loc 2 1 0 0), (12, .int .i64 k)], [(0, .var (R.ty 25) [.nils, .nils, .nils]), (1, .var (R.ty 8) [.isl 1 (slc8 b), .int .i64 (b.length - ((rdN ft k u.2).2).l.length), .int .i64 ((rdN ft k u.2).2).e]), (2, .var (R.ty 25) [.osl 4 nv, .osl 6 nv, .osl 8 k]), (4, .arr (R.ty 26) 3 (slc3 v.1)), (6, .arr (R.ty 18) 2 (slc2 u.1)), (8, .arr (R.ty 13) 3 (slc3 (rdN ft k u.2).1))], 9⟩) (fun k => nt - k) (1) ?_ ?_
                · exact ⟨Nat.le_refl _, by omega⟩
                · intro k hk
                  dsimp only
                  obtain ⟨hk1, hk2⟩ := hk
                  have hl := rdN_len ft k u.2
                  have hS : rdN ft (k + 1) u.2 = ((rdN ft k u.2).1 ++ [(ft (rdN ft k u.2).2).1], (ft (rdN ft k u.2).2).2) := rfl
                  have oks := RdOk.rdN (f := ft) (fun _ => RdOk.ft) k oku
                  refine sh ?_
                  refine cS (fun hlt => ?_) (fun hlt => ?_)
                  · generalize hs : rdN ft k u.2 = s at hl hS oks ⊢
                    have l0 : ((s.2).num 1).1 < 256 := num_lt _ (by omega) (by omega)
                    refine sh ?_
                    refine cM false [1] (rnum_c h.n61 b (s.2) oks 1) ?_
                    repeat ((intro _u; clear _u); first | refine eK ?_ | refine eP ?_)
                    have l1 : (((s.2).num 1).2.num 1).1 < 256 := num_lt _ (by omega) (by omega)
                    refine sh ?_
                    refine cM false [1] (rnum_c h.n61 b ((s.2).num 1).2 (oks.num 1) 1) ?_
                    repeat ((intro _u; clear _u); first | refine eK ?_ | refine eP ?_)
                    have l2 : ((((s.2).num 1).2.num 1).2.num 1).1 < 256 := num_lt _ (by omega) (by omega)
                    refine sh ?_
                    refine cM false [1] (rnum_c h.n61 b (((s.2).num 1).2.num 1).2 ((oks.num 1).num 1) 1) ?_
                    repeat ((intro _u; clear _u); first | refine eK ?_ | refine eP ?_)
                    refine sh ?_
                    refine nX (k + 1) ?_ ?_ ⟨_, hp, rfl⟩ ?_ ?_
                    · omega
                    · omega
                    · all_goals repeat' (first | exact True.intro | refine And.intro ?_ ?_ | (intro _u; clear _u) | (with_reducible first | refine eM ?_ ?_ | refine eF ?_ ?_ ?_ | refine eN ?_ | refine eL ?_ ?_ ?_ | refine eA ?_ ?_ | refine IWk.mk ⟨_, hp, rfl⟩ ?_ ?_) | refine IWk.mk ⟨_, hp, rfl⟩ ?_ ?_)
                      all_goals first | with_reducible rfl | omega | exact Or.inl (by decide) | (simp; done) | rfl | skip
                    · all_goals repeat' (first | exact True.intro | refine And.intro ?_ ?_ | (intro _u; clear _u) | (with_reducible first | refine eM ?_ ?_ | refine eF ?_ ?_ ?_ | refine eN ?_ | refine eL ?_ ?_ ?_ | refine eA ?_ ?_ | refine IWk.mk ⟨_, hp, rfl⟩ ?_ ?_) | refine IWk.mk ⟨_, hp, rfl⟩ ?_ ?_)
                      all_goals first | with_reducible rfl | omega | exact Or.inl (by decide) | (simp; done) | rfl | skip
                      all_goals first | (simp [hl]; done) | (rw [hS]; done) | (rw [hS]; rfl) | (rw [hS]; simp [slc3]; done) | (rw [hS]; simp [slc3]; rfl)
                  · have hkn : k = nt := by omega
                    rw [hkn, ht] at hl oks ⊢
                    have hzt : (slc3 t.1).length = nt := by simp [hl]
                    have okt := oks
                    refine sh ?_
                    refine cM false [1] (rend_c h.n69 b t.2 okt) ?_
                    repeat ((intro _u; clear _u); first | refine eK ?_ | refine eP ?_)
                    refine sh ?_
                    refine cS (fun h9 => ?_) (fun h9 => ?_)
                    · rw [mfin, if_pos h9]
                      refine sh ?_
                      exact rT
                    · rw [mfin, if_neg (fun hh => hh h9)]
                      refine sh ?_
                      refine ICall.let [4, 6, 8] rfl hp rfl ?_
                      repeat ((intro _u; clear _u); first | refine eZ ?_ | refine eZ ?_ (by simp; omega) | refine FrzC.drop ?_)
                      refine sh ?_
                      refine ICall.pure h.n198.o198.hb (rcheck13_c h.n198 ⟨v.1, u.1, t.1⟩) rfl ?_
                      refine sh ?_
                      refine cS (fun h10 => ?_) (fun h10 => ?_)
                      · rw [if_pos h10]
                        refine sh ?_
                        exact rT
                      · rw [if_neg (fun hh => hh h10)]
                        refine sh ?_
                        exact rT
end Go.UM

namespace Go.UM
open Go.AM
set_option maxRecDepth 4000
def tri : List UInt8 → List T3
  | a :: b :: c :: r => ⟨a.toNat, b.toNat, c.toNat⟩ :: tri r
  | _ => []
def zTex : Tex := ⟨0, []⟩
def tdec (b : List UInt8) : Tex × Int := match b with
  | [] => (zTex, 4)
  | s :: rest => if rest.length < 3 * (s.toNat * s.toNat) then (zTex, 4) else if 3 * (s.toNat * s.toNat) < rest.length then (zTex, 5) else
    if tchk ⟨s.toNat, tri rest⟩ ≠ 0 then (zTex, tchk ⟨s.toNat, tri rest⟩) else (⟨s.toNat, tri rest⟩, 0)
theorem num_cons (c : UInt8) (l : List UInt8) : (⟨c :: l, 0, true⟩ : Rd).num 1 = (c.toNat, ⟨l, 0, true⟩) := by
  unfold Rd.num
  rw [if_neg (by decide)]
  unfold Rd.take
  rw [if_neg (by simp), if_neg (by decide), if_neg (by simp; omega)]
  simp [le]
theorem num_none1 : (⟨[], 0, true⟩ : Rd).num 1 = (0, ⟨[], 4, true⟩) := rfl
theorem take3 (a b c : UInt8) (l : List UInt8) : (⟨a :: b :: c :: l, 0, true⟩ : Rd).take 3 = ([a, b, c], ⟨l, 0, true⟩) := by
  unfold Rd.take
  rw [if_neg (by simp), if_neg (by decide), if_neg (by simp; omega)]
  rfl
theorem take3_short {l : List UInt8} (h : l.length < 3) : (⟨l, 0, true⟩ : Rd).take 3 = ([], ⟨l, 4, true⟩) := by
  unfold Rd.take
  rw [if_neg (by simp), if_neg (by decide), if_pos (by dsimp only; omega)]
theorem three_of {l : List UInt8} (h : ¬ l.length < 3) : ∃ a b c r, l = a :: b :: c :: r := by
  match l, h with
  | a :: b :: c :: r, _ => exact ⟨a, b, c, r, rfl⟩
  | [], h => simp at h
  | [_], h => simp at h
  | [_, _], h => simp at h
theorem tdecode_c {R : Env} (h : N97 R) (b : List UInt8) (hb : b.length ≤ 1000) : R.Pc 97 [.isl 1 (slc8 b)] (.tup [.agg (tdec b).1.row, .int .i64 (tdec b).2]) :=
  h.o97.enter 200 rfl fun X bb hfit hp => by
    refine sh ?_
    refine cM false [] (new_c h.n56 b (by omega)) ?_
    repeat ((intro _u; clear _u); first | refine eK ?_ | refine eP ?_)
    cases b with
    | nil =>
      have c1 := num_c h.n57 ⟨[], 0, true⟩ 1
      rw [num_none1] at c1
      refine sh ?_
      refine cM false [1] (c1) ?_
      repeat ((intro _u; clear _u); first | refine eK ?_ | refine eP ?_)
      refine sh ?_
      refine ILoop.one 100 ?_
      refine sh ?_
      refine acnd_f (by decide) ?_
      refine sh ?_
      refine cM false [1] (end_c h.n60 ⟨[], 4, true⟩) ?_
      repeat ((intro _u; clear _u); first | refine eK ?_ | refine eP ?_)
      refine sh ?_
      refine acnd_t (by decide) ?_
      refine sh ?_
      exact rT
    | cons s rest =>
      have c1 := num_c h.n57 ⟨s :: rest, 0, true⟩ 1
      rw [num_cons] at c1
      refine sh ?_
      refine cM false [1] (c1) ?_
      repeat ((intro _u; clear _u); first | refine eK ?_ | refine eP ?_)
      have hs := s.toNat_lt
      have hss : s.toNat * s.toNat ≤ 255 * 255 := Nat.mul_le_mul (by omega) (by omega)
      have hsi : (s.toNat : Int) * s.toNat = ((s.toNat * s.toNat : Nat) : Int) := by rw [Int.natCast_mul]
      generalize hq : tdec (s :: rest) = q
      rw [tdec] at hq
      have hbl : rest.length ≤ 1000 := by simp at hb; omega
      refine sh ?_
      refine lPa 200 (fun st : List T3 × List UInt8 => st.1.length ≤ s.toNat * s.toNat ∧ tri rest = st.1 ++ tri st.2 ∧ rest.length = 3 * st.1.length + st.2.length) (fun st => ⟨[(2, .loc 0 1 0 0), (4, .loc 1 1 0 0), (5, .loc 2 1 0 0), (19, .int .i64 (s.toNat * s.toNat : Nat)), (20, .int .i64 st.1.length)], [(3, .arr (R.ty 13) 3 (slc3 st.1)), (2, .var (R.ty 12) [.int .i64 s.toNat, .osl 3 st.1.length]), (1, .var (R.ty 9) (Rd.row ⟨st.2, 0, true⟩)), (0, .var (R.ty 12) [.int .i64 0, .nils])], 4⟩) (fun st => s.toNat * s.toNat - st.1.length) (([], rest)) ?_ ?_
      · exact ⟨Nat.zero_le _, rfl, by simp⟩
      · rintro ⟨ts, l⟩ ⟨h1, h2, h3⟩
        dsimp only at h1 h2 h3 ⊢
        refine sh ?_
        refine cS (fun h4 => ?_) (fun h4 => ?_)
        · by_cases hl3 : l.length < 3
          · have c2 := take_c h.n59 ⟨l, 0, true⟩ 3
            rw [take3_short hl3] at c2
            refine sh ?_
            refine cM false [1] (c2) ?_
            repeat ((intro _u; clear _u); first | refine eK ?_ | refine eP ?_)
            refine sh ?_
            refine acnd_t (by rfl) ?_
            refine sh ?_
            refine cM false [1] (end_c h.n60 ⟨l, 4, true⟩) ?_
            repeat ((intro _u; clear _u); first | refine eK ?_ | refine eP ?_)
            refine sh ?_
            refine acnd_t (by rfl) ?_
            rw [if_pos (by omega)] at hq
            subst hq
            refine sh ?_
            exact rT
          · obtain ⟨a, b, c, r, rfl⟩ := three_of hl3
            have c2 := take_c h.n59 ⟨a :: b :: c :: r, 0, true⟩ 3
            rw [take3] at c2
            refine sh ?_
            refine cM false [1] (c2) ?_
            repeat ((intro _u; clear _u); first | refine eK ?_ | refine eP ?_)
            refine sh ?_
            refine acnd_f (by rfl) ?_
            refine sh ?_
            refine eget_map (show ([a, b, c] : List UInt8)[0]? = some a from rfl) ?_
            refine sh ?_
            refine wI ?_ (by have := a.toNat_lt; simp only [inI]; omega)
            refine sh ?_
            refine eget_map (show ([a, b, c] : List UInt8)[1]? = some b from rfl) ?_
            refine sh ?_
            refine wI ?_ (by have := b.toNat_lt; simp only [inI]; omega)
            refine sh ?_
            refine eget_map (show ([a, b, c] : List UInt8)[2]? = some c from rfl) ?_
            refine sh ?_
            refine wI ?_ (by have := c.toNat_lt; simp only [inI]; omega)
            simp only [List.length_cons] at h3
            refine sh ?_
            refine nX ((ts ++ [⟨a.toNat, b.toNat, c.toNat⟩], r)) ?_ ?_ ⟨_, hp, rfl⟩ ?_ ?_
            · refine ⟨by simp; omega, by rw [h2]; simp [tri], by simp; omega⟩
            · simp; omega
            · all_goals repeat' (first | exact True.intro | refine And.intro ?_ ?_ | (intro _u; clear _u) | (with_reducible first | refine eM ?_ ?_ | refine eF ?_ ?_ ?_ | refine eN ?_ | refine eL ?_ ?_ ?_ | refine eA ?_ ?_ | refine IWk.mk ⟨_, hp, rfl⟩ ?_ ?_) | refine IWk.mk ⟨_, hp, rfl⟩ ?_ ?_)
              all_goals first | with_reducible rfl | omega | exact Or.inl (by decide) | (simp; done) | rfl | skip
            · all_goals repeat' (first | exact True.intro | refine And.intro ?_ ?_ | (intro _u; clear _u) | (with_reducible first | refine eM ?_ ?_ | refine eF ?_ ?_ ?_ | refine eN ?_ | refine eL ?_ ?_ ?_ | refine eA ?_ ?_ | refine IWk.mk ⟨_, hp, rfl⟩ ?_ ?_) | refine IWk.mk ⟨_, hp, rfl⟩ ?_ ?_)
              all_goals first | with_reducible rfl | omega | exact Or.inl (by decide) | (simp; done) | rfl | skip
              simp [slc3, t3]
        · have h4 : ts.length = s.toNat * s.toNat := by omega
          cases l with
          | cons c r =>
            simp only [List.length_cons] at h3
            refine sh ?_
            refine cM false [1] (end_c h.n60 ⟨c :: r, 0, true⟩) ?_
            repeat ((intro _u; clear _u); first | refine eK ?_ | refine eP ?_)
            rw [if_neg (by omega), if_pos (by omega)] at hq
            subst hq
            refine sh ?_
            refine acnd_t (by rfl) ?_
            refine sh ?_
            exact rT
          | nil =>
            simp only [List.length_nil, tri, List.append_nil] at h2 h3
            refine sh ?_
            refine cM false [1] (end_c h.n60 ⟨[], 0, true⟩) ?_
            repeat ((intro _u; clear _u); first | refine eK ?_ | refine eP ?_)
            rw [if_neg (by omega), if_neg (by omega), h2] at hq
            refine sh ?_
            refine acnd_f (by rfl) ?_
            refine sh ?_
            refine cM true [] ((tchk_c h.n84 ⟨s.toNat, ts⟩ (by show ts.length ≤ _; omega)).mc h.n84.o84.hb) ?_
            repeat ((intro _u; clear _u); first | refine eK ?_ | refine eP ?_)
            refine sh ?_
            refine cS (fun h5 => ?_) (fun h5 => ?_)
            · rw [if_pos (by simpa using h5)] at hq
              subst hq
              refine sh ?_
              exact rT
            · rw [if_neg (by simpa using h5)] at hq
              subst hq
              refine sh ?_
              exact rT
theorem num_short {r : Rd} (h : r.e ≠ 0) (w : Int) : r.num w = (0, r) := by
  unfold Rd.num Rd.take
  rw [if_pos (.inr h)]
  rfl
theorem num_any (r : Rd) (hm : r.made = true) : (∃ c l, r = ⟨c :: l, 0, true⟩ ∧ r.num 1 = (c.toNat, ⟨l, 0, true⟩)) ∨ ((r.e ≠ 0 ∨ r.l = []) ∧ (r.num 1).1 = 0 ∧ (r.num 1).2.e ≠ 0 ∧ (r.e = 0 → (r.num 1).2.e = 4) ∧ (r.e = 4 → (r.num 1).2.e = 4)) := by
  obtain ⟨l, e, m⟩ := r
  simp only at hm
  subst hm
  by_cases he : e = 0
  · subst he
    cases l with
    | nil => exact .inr ⟨.inr rfl, rfl, by decide, fun _ => rfl, fun h => by simp at h⟩
    | cons c l => exact .inl ⟨c, l, rfl, num_cons c l⟩
  · right
    rw [num_short he]
    exact ⟨.inl he, rfl, he, fun h => (he h).elim, fun h => h⟩
theorem rtdecode_c {R : Env} (h : N98 R) (b : List UInt8) (hb : b.length ≤ 1000) : R.Pc 98 [.isl 1 (slc8 b)] (.tup [.agg (tdec b).1.row, .int .i64 (tdec b).2]) :=
  h.o98.enter 200 rfl fun X bb hfit hp => by
    have ok0 : RdOk b ⟨b, 0, true⟩ := RdOk.new (by omega)
    have c0 := rnum_c h.n61 b ⟨b, 0, true⟩ ok0 1
    cases b with
    | nil =>
      rw [num_none1] at c0
      refine sh ?_
      refine cM false [1] (c0) ?_
      repeat ((intro _u; clear _u); first | refine eK ?_ | refine eP ?_)
      refine sh ?_
      refine ILoop.one 100 ?_
      refine sh ?_
      refine acnd_f (by decide) ?_
      have c9 := rend_c h.n69 [] ⟨[], 4, true⟩ ⟨by decide, rfl, rfl⟩
      refine sh ?_
      refine cM false [1] (c9) ?_
      repeat ((intro _u; clear _u); first | refine eK ?_ | refine eP ?_)
      refine sh ?_
      refine acnd_t (by decide) ?_
      refine sh ?_
      exact rT
    | cons s rest =>
      rw [num_cons] at c0
      refine sh ?_
      refine cM false [1] (c0) ?_
      repeat ((intro _u; clear _u); first | refine eK ?_ | refine eP ?_)
      have hs := s.toNat_lt
      have hss : s.toNat * s.toNat ≤ 255 * 255 := Nat.mul_le_mul (by omega) (by omega)
      have hsi : (s.toNat : Int) * s.toNat = ((s.toNat * s.toNat : Nat) : Int) := by rw [Int.natCast_mul]
      generalize hq : tdec (s :: rest) = q
      rw [tdec] at hq
      have hbl : rest.length ≤ 1000 := by simp at hb; omega
      refine sh ?_
      refine lPa 200 (fun st : List T3 × Rd => RdOk (s :: rest) st.2 ∧ st.1.length ≤ s.toNat * s.toNat ∧ ((st.2.e = 0 ∧ tri rest = st.1 ++ tri st.2.l ∧ rest.length = 3 * st.1.length + st.2.l.length) ∨ (st.2.e = 4 ∧ rest.length < 3 * (s.toNat * s.toNat)))) (fun st => ⟨[(2, .loc 0 1 0 0), (4, .loc 1 1 0 0), (5, .loc 2 1 0 0), (6, .int .i64 st.1.length)], [(3, .arr (R.ty 13) 3 (slc3 st.1)), (2, .var (R.ty 12) [.int .i64 s.toNat, .osl 3 st.1.length]), (1, .var (R.ty 8) [.isl 1 (slc8 (s :: rest)), .int .i64 ((s :: rest).length - st.2.l.length), .int .i64 st.2.e]), (0, .var (R.ty 12) [.int .i64 0, .nils])], 4⟩) (fun st => s.toNat * s.toNat - st.1.length) (([], ⟨rest, 0, true⟩)) ?_ ?_
      · exact ⟨⟨ok0.m, by simp, rfl⟩, Nat.zero_le _, .inl ⟨rfl, rfl, by simp⟩⟩
      · rintro ⟨ts, r⟩ ⟨ok, h1, h2⟩
        dsimp only at ok h1 h2 ⊢
        refine sh ?_
        refine cS (fun h4 => ?_) (fun h4 => ?_)
        · refine sh ?_
          refine cS (fun h5 => ?_) (fun h5 => ?_)
          · obtain ⟨_, g2, h3⟩ := h2.resolve_right (by omega)
            obtain ⟨l, e, m⟩ := r
            have hm := ok.made
            dsimp only at g2 h3 h5 hm
            subst h5
            subst hm
            have ok1 := ok.num 1
            have ok2 := ok1.num 1
            have ok3 := ok2.num 1
            refine sh ?_
            refine cM false [1] (rnum_c h.n61 _ _ ok 1) ?_
            repeat ((intro _u; clear _u); first | refine eK ?_ | refine eP ?_)
            refine sh ?_
            refine iwr_any ?_
            refine sh ?_
            refine cM false [1] (rnum_c h.n61 _ _ ok1 1) ?_
            repeat ((intro _u; clear _u); first | refine eK ?_ | refine eP ?_)
            refine sh ?_
            refine iwr_any ?_
            refine sh ?_
            refine cM false [1] (rnum_c h.n61 _ _ ok2 1) ?_
            repeat ((intro _u; clear _u); first | refine eK ?_ | refine eP ?_)
            refine sh ?_
            refine iwr_any ?_
            have hcase : (((((⟨l, 0, true⟩ : Rd).num 1).2.num 1).2.num 1).2.e = 4 ∧ l.length < 3) ∨ (∃ a b c r', l = a :: b :: c :: r' ∧ ((⟨l, 0, true⟩ : Rd).num 1).1 = a.toNat ∧ (((⟨l, 0, true⟩ : Rd).num 1).2.num 1).1 = b.toNat ∧ ((((⟨l, 0, true⟩ : Rd).num 1).2.num 1).2.num 1) = (c.toNat, ⟨r', 0, true⟩)) := by
              match l with
              | [] => exact .inl ⟨rfl, by decide⟩
              | [a] => refine .inl ⟨?_, by simp⟩; rw [num_cons]; rfl
              | [a, b] => refine .inl ⟨?_, by simp⟩; rw [num_cons, num_cons]; rfl
              | a :: b :: c :: r' => refine .inr ⟨a, b, c, r', rfl, ?_, ?_, ?_⟩ <;> rw [num_cons] <;> simp only [num_cons]
            generalize hq1 : (⟨l, 0, true⟩ : Rd).num 1 = q1 at ok1 ok2 ok3 hcase ⊢
            generalize hq2 : q1.2.num 1 = q2 at ok2 ok3 hcase ⊢
            generalize hq3 : q2.2.num 1 = q3 at ok3 hcase ⊢
            refine sh ?_
            refine nX ((ts ++ [⟨wr .i64 q1.1, wr .i64 q2.1, wr .i64 q3.1⟩], q3.2)) ?_ ?_ ⟨_, hp, rfl⟩ ?_ ?_
            · refine ⟨ok3, by simp; omega, ?_⟩
              rcases hcase with ⟨k1, k2⟩ | ⟨a, b, c, r', rfl, k1, k2, k3⟩
              · exact .inr ⟨k1, by omega⟩
              · left
                rw [k1, k2, k3, wr_nat_i64 (by have := a.toNat_lt; omega), wr_nat_i64 (by have := b.toNat_lt; omega), wr_nat_i64 (by have := c.toNat_lt; omega)]
                simp only [List.length_cons] at h3
                refine ⟨rfl, by rw [g2]; simp [tri], by simp; omega⟩
            · simp; omega
            · all_goals repeat' (first | exact True.intro | refine And.intro ?_ ?_ | (intro _u; clear _u) | (with_reducible first | refine eM ?_ ?_ | refine eF ?_ ?_ ?_ | refine eN ?_ | refine eL ?_ ?_ ?_ | refine eA ?_ ?_ | refine IWk.mk ⟨_, hp, rfl⟩ ?_ ?_) | refine IWk.mk ⟨_, hp, rfl⟩ ?_ ?_)
              all_goals first | with_reducible rfl | omega | exact Or.inl (by decide) | (simp; done) | rfl | skip
            · all_goals repeat' (first | exact True.intro | refine And.intro ?_ ?_ | (intro _u; clear _u) | (with_reducible first | refine eM ?_ ?_ | refine eF ?_ ?_ ?_ | refine eN ?_ | refine eL ?_ ?_ ?_ | refine eA ?_ ?_ | refine IWk.mk ⟨_, hp, rfl⟩ ?_ ?_) | refine IWk.mk ⟨_, hp, rfl⟩ ?_ ?_)
              all_goals first | with_reducible rfl | omega | exact Or.inl (by decide) | (simp; done) | rfl | skip
              simp [slc3, t3]
          · obtain ⟨he, hlt⟩ := h2.resolve_left (by omega)
            have hf : r.fin = 4 := by simp [Rd.fin, Rd.err, ok.made, he]
            have c9 := rend_c h.n69 _ _ ok
            rw [hf] at c9
            refine sh ?_
            refine cM false [1] (c9) ?_
            repeat ((intro _u; clear _u); first | refine eK ?_ | refine eP ?_)
            refine sh ?_
            refine acnd_t (by decide) ?_
            rw [if_pos hlt] at hq
            subst hq
            refine sh ?_
            exact rT
        · rcases h2 with ⟨he, h2, h3⟩ | ⟨he, hlt⟩
          · have h4 : ts.length = s.toNat * s.toNat := by omega
            have hf : r.fin = if 0 < r.l.length then 5 else 0 := by simp [Rd.fin, Rd.err, ok.made, he]
            have c9 := rend_c h.n69 _ _ ok
            rw [hf] at c9
            by_cases hl : 0 < r.l.length
            · rw [if_pos hl] at c9
              rw [if_neg (by omega), if_pos (by omega)] at hq
              subst hq
              refine sh ?_
              refine cM false [1] (c9) ?_
              repeat ((intro _u; clear _u); first | refine eK ?_ | refine eP ?_)
              refine sh ?_
              refine acnd_t (by decide) ?_
              refine sh ?_
              exact rT
            · rw [if_neg hl] at c9
              have hl0 : r.l = [] := List.eq_nil_of_length_eq_zero (by omega)
              have htl : tri r.l = [] := by rw [hl0]; rfl
              rw [htl, List.append_nil] at h2
              rw [if_neg (by omega), if_neg (by omega), h2] at hq
              refine sh ?_
              refine cM false [1] (c9) ?_
              repeat ((intro _u; clear _u); first | refine eK ?_ | refine eP ?_)
              refine sh ?_
              refine acnd_f (by decide) ?_
              refine sh ?_
              refine cM true [] ((rtchk_c h.n85 ⟨s.toNat, ts⟩ (by show ts.length ≤ _; omega)).mc h.n85.o85.hb) ?_
              repeat ((intro _u; clear _u); first | refine eK ?_ | refine eP ?_)
              refine sh ?_
              refine cS (fun h5 => ?_) (fun h5 => ?_)
              · rw [if_pos (by simpa using h5)] at hq
                subst hq
                refine sh ?_
                exact rT
              · rw [if_neg (by simpa using h5)] at hq
                subst hq
                refine sh ?_
                exact rT
          · have hf : r.fin = 4 := by simp [Rd.fin, Rd.err, ok.made, he]
            have c9 := rend_c h.n69 _ _ ok
            rw [hf] at c9
            refine sh ?_
            refine cM false [1] (c9) ?_
            repeat ((intro _u; clear _u); first | refine eK ?_ | refine eP ?_)
            refine sh ?_
            refine acnd_t (by decide) ?_
            rw [if_pos hlt] at hq
            subst hq
            refine sh ?_
            exact rT
theorem same14_c {R : Env} (h : N89 R) (t : Tex) (hl : t.t.length ≤ 1073741824) : R.Pc 89 [.agg t.row, .agg t.row] (.bool true) :=
  h.o89.enter 200 rfl fun X bb hfit hp => by
    refine sh ?_
    refine acnd_f (by simp) ?_
    refine sh ?_
    refine acnd_f (by simp) ?_
    refine sh ?_
    refine lPa 100 (fun i : Nat => i ≤ t.t.length) (fun i => ⟨[(2, .loc 0 1 0 0), (3, .loc 1 1 0 0), (5, .int .i64 i)], [(0, .var (R.ty 12) t.row), (1, .var (R.ty 12) t.row)], 2⟩) (fun i => t.t.length - i) (0) ?_ ?_
    · exact Nat.zero_le _
    · intro i hi
      dsimp only
      refine sh ?_
      refine cS (fun h1 => ?_) (fun h1 => ?_)
      · obtain ⟨y, hy⟩ : ∃ u, t.t[i]? = some u := ⟨_, List.getElem?_eq_getElem (by omega)⟩
        refine sh ?_
        refine eget_map hy ?_
        refine sh ?_
        refine eget_map hy ?_
        refine sh ?_
        refine acnd_f (by simp) ?_
        refine sh ?_
        refine nXa (i + 1) ?_ ?_
        · omega
        · omega
      · refine sh ?_
        exact rT
theorem tri_texs : ∀ {l : List T3}, l.all T3.good = true → tri (texs l) = l
  | [], _ => rfl
  | x :: r, h => by
    simp only [List.all_cons, Bool.and_eq_true] at h
    obtain ⟨h1, h2⟩ := h
    have h1 := (T3.good_iff x).1 h1
    have := tri_texs h2
    simp only [texs, List.flatMap_cons, List.cons_append, List.nil_append] at this ⊢
    simp only [tri, this, u8_in h1.1, u8_in h1.2.1, u8_in h1.2.2]
theorem texs_tri : ∀ {l : List UInt8} {k : Nat}, l.length = 3 * k → texs (tri l) = l
  | [], _, _ => rfl
  | [_], _, h => by simp at h; omega
  | [_, _], _, h => by simp at h; omega
  | a :: b :: c :: r, k, h => by
    have := texs_tri (l := r) (k := k - 1) (by simp at h; omega)
    simp only [texs] at this
    simp only [tri, texs, List.flatMap_cons, this, u8_toNat, List.cons_append, List.nil_append]
theorem tdec_tencs {t : Tex} (ok : TexOk t) : tdec (u8 t.side :: texs t.t) = (t, 0) := by
  have hs := tchk_in ok.s
  have e : ((u8 t.side).toNat : Int) = t.side := u8_in (by omega)
  have hl := ok.l
  have hn : (u8 t.side).toNat * (u8 t.side).toNat = t.t.length := by
    have : (((u8 t.side).toNat * (u8 t.side).toNat : Nat) : Int) = t.t.length := by rw [Int.natCast_mul, e, hl]
    omega
  unfold tdec
  dsimp only
  rw [hn, if_neg (by rw [texs_len]; omega), if_neg (by rw [texs_len]; omega), tri_texs ok.g, e, if_neg]
  simp [ok.chk]
theorem tencs_tdec {b : List UInt8} {u : Tex} (h : tdec b = (u, 0)) : tencs u = (b, 0) := by
  unfold tdec at h
  split at h
  · simp at h
  · rename_i s rest
    split at h
    · simp at h
    · split at h
      · simp at h
      · split at h
        · rename_i h1
          exact absurd (congrArg Prod.snd h) h1
        · rename_i h1 h2 h3
          have hu : u = ⟨s.toNat, tri rest⟩ := (congrArg Prod.fst h).symm
          subst hu
          have h3 : tchk ⟨s.toNat, tri rest⟩ = 0 := by simpa using h3
          unfold tencs
          rw [if_neg (by simp [h3])]
          dsimp only
          rw [u8_toNat, texs_tri (k := s.toNat * s.toNat) (by omega)]
theorem tdec_bad {b : List UInt8} (h : (tdec b).2 ≠ 0) : (tdec b).1 = zTex := by
  unfold tdec at h ⊢
  split
  · rfl
  · rename_i s rest
    dsimp only at h ⊢
    split
    · rfl
    · rename_i c1
      split
      · rfl
      · rename_i c2
        split
        · rfl
        · rename_i c3
          rw [if_neg c1, if_neg c2, if_neg c3] at h
          exact absurd rfl h
end Go.UM

namespace Go.UM
open Go.AM
set_option maxRecDepth 4000
def fw (w : Int) (r : Rd) : T3 × Rd := (⟨(r.num w).1, ((r.num w).2.num w).1, (((r.num w).2.num w).2.num w).1⟩, (((r.num w).2.num w).2.num w).2)
theorem RdOk.fw {B : List UInt8} {r : Rd} (h : RdOk B r) (w : Int) : RdOk B (fw w r).2 := ((h.num w).num w).num w
theorem uint15_c {R : Env} (h : N318 R) (r : Rd) (w : Int) (h1 : 1 ≤ w) (h2 : w ≤ 7) : R.Mc 318 [.agg [.loc 0 1 0 0], .int .i64 w] (rdM R r) (.int .i64 (r.num w).1) (rdM R (r.num w).2) 1 :=
  h.o318.enterM 60 1 rfl rfl rfl fun X bb hfit hp => by
    refine sh ?_
    refine cM false [0] (num_c h.n57 r w) ?_
    repeat ((intro _u; clear _u); first | refine eK ?_ | refine eP ?_)
    have hlt := num_lt r h1 (show w ≤ 8 by omega)
    have hp : (256 : Nat) ^ w.toNat ≤ 256 ^ 7 := Nat.pow_le_pow_right (by decide) (by omega)
    have : ((r.num w).1 : Int) < 9223372036854775808 := by omega
    refine sh ?_
    exact rM [0]
theorem three15_c {R : Env} (h : N319 R) (r : Rd) (w : Int) (h1 : 1 ≤ w) (h2 : w ≤ 7) : R.Mc 319 [.agg [.loc 0 1 0 0], .int .i64 w] (rdM R r) (.agg (t3 (fw w r).1)) (rdM R (fw w r).2) 1 :=
  h.o319.enterM 60 1 rfl rfl rfl fun X bb hfit hp => by
    refine sh ?_
    refine cM false [0] (uint15_c h.n318 r w h1 h2) ?_
    repeat ((intro _u; clear _u); first | refine eK ?_ | refine eP ?_)
    refine sh ?_
    refine cM false [0] (uint15_c h.n318 (r.num w).2 w h1 h2) ?_
    repeat ((intro _u; clear _u); first | refine eK ?_ | refine eP ?_)
    refine sh ?_
    refine cM false [0] (uint15_c h.n318 ((r.num w).2.num w).2 w h1 h2) ?_
    repeat ((intro _u; clear _u); first | refine eK ?_ | refine eP ?_)
    refine sh ?_
    exact rM [0]
theorem point15_c {R : Env} (h : N320 R) (r : Rd) : R.Mc 320 [.agg [.loc 0 1 0 0]] (rdM R r) (.agg (t3 (f3 r).1)) (rdM R (f3 r).2) 1 :=
  h.o320.enterM 60 1 rfl rfl rfl fun X bb hfit hp => by
    refine sh ?_
    refine cM false [0] (int_c h.n76 r 2) ?_
    repeat ((intro _u; clear _u); first | refine eK ?_ | refine eP ?_)
    refine sh ?_
    refine cM false [0] (int_c h.n76 (r.int 2).2 2) ?_
    repeat ((intro _u; clear _u); first | refine eK ?_ | refine eP ?_)
    refine sh ?_
    refine cM false [0] (int_c h.n76 ((r.int 2).2.int 2).2 2) ?_
    repeat ((intro _u; clear _u); first | refine eK ?_ | refine eP ?_)
    refine sh ?_
    exact rM [0]
theorem rthree15_c {R : Env} (h : N321 R) (B : List UInt8) (r : Rd) (ok : RdOk B r) (w : Int) (h1 : 1 ≤ w) (h2 : w ≤ 7) : R.Mc 321 [.loc 0 1 0 0, .int .i64 w] (rrdM R B r) (.agg (t3 (fw w r).1)) (rrdM R B (fw w r).2) 1 :=
  h.o321.enterM 60 1 rfl rfl rfl fun X bb hfit hp => by
    have hp : (256 : Nat) ^ w.toNat ≤ 256 ^ 7 := Nat.pow_le_pow_right (by decide) (by omega)
    have l1 := num_lt r h1 (show w ≤ 8 by omega)
    have l2 := num_lt (r.num w).2 h1 (show w ≤ 8 by omega)
    have l3 := num_lt ((r.num w).2.num w).2 h1 (show w ≤ 8 by omega)
    have k1 : ((r.num w).1 : Int) < 9223372036854775808 := by omega
    have k2 : (((r.num w).2.num w).1 : Int) < 9223372036854775808 := by omega
    have k3 : ((((r.num w).2.num w).2.num w).1 : Int) < 9223372036854775808 := by omega
    refine sh ?_
    refine cM false [0] (rnum_c h.n61 B r ok w) ?_
    repeat ((intro _u; clear _u); first | refine eK ?_ | refine eP ?_)
    refine sh ?_
    refine cM false [0] (rnum_c h.n61 B (r.num w).2 (ok.num w) w) ?_
    repeat ((intro _u; clear _u); first | refine eK ?_ | refine eP ?_)
    refine sh ?_
    refine cM false [0] (rnum_c h.n61 B ((r.num w).2.num w).2 ((ok.num w).num w) w) ?_
    repeat ((intro _u; clear _u); first | refine eK ?_ | refine eP ?_)
    refine sh ?_
    exact rM [0]
def matd (r : Rd) : Mat × Rd := (⟨(r.num 1).1, (fw 2 (r.num 1).2).1, ((fw 2 (r.num 1).2).2.num 2).1⟩, ((fw 2 (r.num 1).2).2.num 2).2)
def ligd (r : Rd) : Lig × Rd := (⟨(r.num 1).1, (fw 4 (r.num 1).2).1, (f3 (fw 4 (r.num 1).2).2).1, (f3 (f3 (fw 4 (r.num 1).2).2).2).1, (f3 (f3 (f3 (fw 4 (r.num 1).2).2).2).2).1⟩, (f3 (f3 (f3 (fw 4 (r.num 1).2).2).2).2).2)
def apart (k : Int) (b : List UInt8) : As × Int :=
  if k = 1 then ({ As.zero k with m := (mdecd b).1 }, (mdecd b).2)
  else if k = 2 then ({ As.zero k with x := (tdec b).1 }, (tdec b).2)
  else if k = 3 then ({ As.zero k with mt := (matd ⟨b, 0, true⟩).1 }, (matd ⟨b, 0, true⟩).2.fin)
  else if k = 4 then ({ As.zero k with li := (ligd ⟨b, 0, true⟩).1 }, (ligd ⟨b, 0, true⟩).2.fin)
  else (As.zero k, 0)
def adec (k : Int) (b : List UInt8) : As × Int :=
  if (apart k b).2 ≠ 0 then (As.zero 0, (apart k b).2) else if achk (apart k b).1 ≠ 0 then (As.zero 0, achk (apart k b).1) else ((apart k b).1, 0)
theorem mdecd_may {b : List UInt8} (h : (mdecd b).2 = 0) : (mdecd b).1.May := by
  unfold mdecd at h ⊢
  generalize mq ((⟨b, 0, true⟩ : Rd).num 1).1 (((⟨b, 0, true⟩ : Rd).num 1).2.num 1).1 (((⟨b, 0, true⟩ : Rd).num 1).2.num 1).2 = q at h ⊢
  unfold mfin at h ⊢
  split at h
  · rename_i h1; exact absurd h h1
  · rename_i h1
    split at h
    · rename_i h2; exact absurd h h2
    · rename_i h2
      rw [if_neg h1, if_neg h2]
      exact mchk_may (by simpa using h2)
theorem tdec_ok {b : List UInt8} (h : (tdec b).2 = 0) : tchk (tdec b).1 = 0 := by
  unfold tdec at h ⊢
  split at h
  · cases h
  · split at h
    · cases h
    · split at h
      · cases h
      · split at h
        · rename_i h1; exact absurd h h1
        · rename_i h1 h2 h3
          rw [if_neg h1, if_neg h2, if_neg h3]
          simpa using h3
theorem tchk_len {x : Tex} (h : tchk x = 0) : x.t.length ≤ 256 := by
  have ok := tchk_ok h
  have hs := tchk_in ok.s
  have := ok.l
  rcases hs with h | h | h | h | h <;> rw [h] at this <;> omega
theorem apart_few {k : Int} {b : List UInt8} (h : (apart k b).2 = 0) : (apart k b).1.Few := by
  unfold apart at h ⊢
  split
  · rename_i h1
    rw [if_pos h1] at h
    have may := mdecd_may h
    have h1 := may.v
    have h2 := may.t
    have h3 := may.uv
    exact ⟨by dsimp only; omega, by dsimp only; omega, by dsimp only; omega, by simp [As.zero, zTx]⟩
  · rename_i h1
    rw [if_neg h1] at h
    split
    · rename_i h2
      rw [if_pos h2] at h
      have := tchk_len (tdec_ok h)
      exact ⟨by simp [As.zero, zMs0], by simp [As.zero, zMs0], by simp [As.zero, zMs0], by dsimp only; omega⟩
    · split
      · exact ⟨(zfew k).v, (zfew k).uv, (zfew k).t, (zfew k).x⟩
      · split <;> exact ⟨(zfew k).v, (zfew k).uv, (zfew k).t, (zfew k).x⟩
theorem adecode_c {R : Env} (h : N304 R) (k : Int) (b : List UInt8) (hb : b.length ≤ 1073741824) (ht : k = 2 → b.length ≤ 1000) : R.Pc 304 [.int .i64 k, .isl 1 (slc8 b)] (.tup [.agg (adec k b).1.row, .int .i64 (adec k b).2]) :=
  h.o304.enter 200 rfl fun X bb hfit hp => by
    refine sh ?_
    refine cM false [] (new_c h.n56 b hb) ?_
    repeat ((intro _u; clear _u); first | refine eK ?_ | refine eP ?_)
    generalize hq : adec k b = q
    refine sh ?_
    refine cS (fun h1 => ?_) (fun h1 => ?_)
    · have hap : apart k b = ({ As.zero k with m := (mdecd b).1 }, (mdecd b).2) := by rw [apart, if_pos h1]
      rw [adec, hap] at hq
      refine sh ?_
      refine ICall.pure h.n202.o202.hb (mdecode13_c h.n202 b hb) rfl ?_
      refine sh ?_
      refine cS (fun e1 => ?_) (fun e1 => ?_)
      · rw [if_pos e1] at hq
        subst hq
        refine sh ?_
        exact rT
      · rw [if_neg (by simpa using e1)] at hq
        have f := apart_few (k := k) (b := b) (by rw [hap]; exact e1)
        rw [hap] at f
        refine sh ?_
        refine cM false [] ((acheck_c h.n294 _ f).mc h.n294.o294.hb) ?_
        repeat ((intro _u; clear _u); first | refine eK ?_ | refine eP ?_)
        refine sh ?_
        refine cS (fun e2 => ?_) (fun e2 => ?_)
        · rw [if_pos e2] at hq
          subst hq
          refine sh ?_
          exact rT
        · rw [if_neg (by simpa using e2)] at hq
          subst hq
          refine sh ?_
          exact rT
    · refine sh ?_
      refine cS (fun h2 => ?_) (fun h2 => ?_)
      · have hap : apart k b = ({ As.zero k with x := (tdec b).1 }, (tdec b).2) := by rw [apart, if_neg h1, if_pos h2]
        rw [adec, hap] at hq
        refine sh ?_
        refine ICall.pure h.n97.o97.hb (tdecode_c h.n97 b (ht h2)) rfl ?_
        refine sh ?_
        refine cS (fun e1 => ?_) (fun e1 => ?_)
        · rw [if_pos e1] at hq
          subst hq
          refine sh ?_
          exact rT
        · rw [if_neg (by simpa using e1)] at hq
          have f := apart_few (k := k) (b := b) (by rw [hap]; exact e1)
          rw [hap] at f
          refine sh ?_
          refine cM false [] ((acheck_c h.n294 _ f).mc h.n294.o294.hb) ?_
          repeat ((intro _u; clear _u); first | refine eK ?_ | refine eP ?_)
          refine sh ?_
          refine cS (fun e2 => ?_) (fun e2 => ?_)
          · rw [if_pos e2] at hq
            subst hq
            refine sh ?_
            exact rT
          · rw [if_neg (by simpa using e2)] at hq
            subst hq
            refine sh ?_
            exact rT
      · refine sh ?_
        refine cS (fun h3 => ?_) (fun h3 => ?_)
        · have hap : apart k b = ({ As.zero k with mt := (matd ⟨b, 0, true⟩).1 }, (matd ⟨b, 0, true⟩).2.fin) := by rw [apart, if_neg h1, if_neg h2, if_pos h3]
          rw [adec, hap] at hq
          refine sh ?_
          refine cM false [2] (uint15_c h.n318 ⟨b, 0, true⟩ 1 (by omega) (by omega)) ?_
          repeat ((intro _u; clear _u); first | refine eK ?_ | refine eP ?_)
          refine sh ?_
          refine cM false [2] (three15_c h.n319 ((⟨b, 0, true⟩ : Rd).num 1).2 2 (by omega) (by omega)) ?_
          repeat ((intro _u; clear _u); first | refine eK ?_ | refine eP ?_)
          refine sh ?_
          refine cM false [2] (uint15_c h.n318 (fw 2 ((⟨b, 0, true⟩ : Rd).num 1).2).2 2 (by omega) (by omega)) ?_
          repeat ((intro _u; clear _u); first | refine eK ?_ | refine eP ?_)
          refine sh ?_
          refine cM false [2] (end_c h.n60 (matd ⟨b, 0, true⟩).2) ?_
          repeat ((intro _u; clear _u); first | refine eK ?_ | refine eP ?_)
          refine sh ?_
          refine cS (fun e1 => ?_) (fun e1 => ?_)
          · rw [if_pos e1] at hq
            subst hq
            refine sh ?_
            exact rT
          · rw [if_neg (by simpa using e1)] at hq
            have f := apart_few (k := k) (b := b) (by rw [hap]; exact e1)
            rw [hap] at f
            refine sh ?_
            refine cM false [] ((acheck_c h.n294 _ f).mc h.n294.o294.hb) ?_
            repeat ((intro _u; clear _u); first | refine eK ?_ | refine eP ?_)
            refine sh ?_
            refine cS (fun e2 => ?_) (fun e2 => ?_)
            · rw [if_pos e2] at hq
              subst hq
              refine sh ?_
              exact rT
            · rw [if_neg (by simpa using e2)] at hq
              subst hq
              refine sh ?_
              exact rT
        · refine sh ?_
          refine cS (fun h4 => ?_) (fun h4 => ?_)
          · have hap : apart k b = ({ As.zero k with li := (ligd ⟨b, 0, true⟩).1 }, (ligd ⟨b, 0, true⟩).2.fin) := by rw [apart, if_neg h1, if_neg h2, if_neg h3, if_pos h4]
            rw [adec, hap] at hq
            refine sh ?_
            refine cM false [2] (uint15_c h.n318 ⟨b, 0, true⟩ 1 (by omega) (by omega)) ?_
            repeat ((intro _u; clear _u); first | refine eK ?_ | refine eP ?_)
            refine sh ?_
            refine cM false [2] (three15_c h.n319 ((⟨b, 0, true⟩ : Rd).num 1).2 4 (by omega) (by omega)) ?_
            repeat ((intro _u; clear _u); first | refine eK ?_ | refine eP ?_)
            refine sh ?_
            refine cM false [2] (point15_c h.n320 (fw 4 ((⟨b, 0, true⟩ : Rd).num 1).2).2) ?_
            repeat ((intro _u; clear _u); first | refine eK ?_ | refine eP ?_)
            refine sh ?_
            refine cM false [2] (point15_c h.n320 (f3 (fw 4 ((⟨b, 0, true⟩ : Rd).num 1).2).2).2) ?_
            repeat ((intro _u; clear _u); first | refine eK ?_ | refine eP ?_)
            refine sh ?_
            refine cM false [2] (point15_c h.n320 (f3 (f3 (fw 4 ((⟨b, 0, true⟩ : Rd).num 1).2).2).2).2) ?_
            repeat ((intro _u; clear _u); first | refine eK ?_ | refine eP ?_)
            refine sh ?_
            refine cM false [2] (end_c h.n60 (ligd ⟨b, 0, true⟩).2) ?_
            repeat ((intro _u; clear _u); first | refine eK ?_ | refine eP ?_)
            refine sh ?_
            refine cS (fun e1 => ?_) (fun e1 => ?_)
            · rw [if_pos e1] at hq
              subst hq
              refine sh ?_
              exact rT
            · rw [if_neg (by simpa using e1)] at hq
              have f := apart_few (k := k) (b := b) (by rw [hap]; exact e1)
              rw [hap] at f
              refine sh ?_
              refine cM false [] ((acheck_c h.n294 _ f).mc h.n294.o294.hb) ?_
              repeat ((intro _u; clear _u); first | refine eK ?_ | refine eP ?_)
              refine sh ?_
              refine cS (fun e2 => ?_) (fun e2 => ?_)
              · rw [if_pos e2] at hq
                subst hq
                refine sh ?_
                exact rT
              · rw [if_neg (by simpa using e2)] at hq
                subst hq
                refine sh ?_
                exact rT
          · have hap : apart k b = (As.zero k, 0) := by rw [apart, if_neg h1, if_neg h2, if_neg h3, if_neg h4]
            rw [adec, hap] at hq
            have e12 : achk (As.zero k) = 12 := by rw [achk, own]; simp [As.zero, h1, h2, h3, h4]
            have c := acheck_c h.n294 (As.zero k) (zfew k)
            rw [if_neg (by simp), if_pos (by simp [e12])] at hq
            dsimp only at hq
            rw [e12] at hq c
            subst hq
            refine sh ?_
            refine acnd_f (by decide) ?_
            refine sh ?_
            refine cM false [] (c.mc h.n294.o294.hb) ?_
            repeat ((intro _u; clear _u); first | refine eK ?_ | refine eP ?_)
            refine sh ?_
            refine acnd_t (by decide) ?_
            refine sh ?_
            exact rT
theorem radecode_c {R : Env} (h : N305 R) (k : Int) (b : List UInt8) (hb : b.length ≤ 1073741824) (ht : k = 2 → b.length ≤ 1000) : R.Pc 305 [.int .i64 k, .isl 1 (slc8 b)] (.tup [.agg (adec k b).1.row, .int .i64 (adec k b).2]) :=
  h.o305.enter 200 rfl fun X bb hfit hp => by
    have ok0 : RdOk b ⟨b, 0, true⟩ := .new hb
    have hb0 : (b.length : Int) - b.length = 0 := by omega
    generalize hq : adec k b = q
    have la : ((⟨b, 0, true⟩ : Rd).num 1).1 < 256 := num_lt _ (by omega) (by omega)
    refine sh ?_
    refine cS (fun h1 => ?_) (fun h1 => ?_)
    · have hap : apart k b = ({ As.zero k with m := (mdecd b).1 }, (mdecd b).2) := by rw [apart, if_pos h1]
      rw [adec, hap] at hq
      refine sh ?_
      refine ICall.pure h.n203.o203.hb (rmdecode13_c h.n203 b hb) rfl ?_
      refine sh ?_
      refine cS (fun e1 => ?_) (fun e1 => ?_)
      · rw [if_pos e1] at hq
        subst hq
        refine sh ?_
        exact rT
      · rw [if_neg (by simpa using e1)] at hq
        have f := apart_few (k := k) (b := b) (by rw [hap]; exact e1)
        rw [hap] at f
        refine sh ?_
        refine cM false [] ((rcheck_c h.n295 _ f).mc h.n295.o295.hb) ?_
        repeat ((intro _u; clear _u); first | refine eK ?_ | refine eP ?_)
        refine sh ?_
        refine cS (fun e2 => ?_) (fun e2 => ?_)
        · rw [if_pos e2] at hq
          subst hq
          refine sh ?_
          exact rT
        · rw [if_neg (by simpa using e2)] at hq
          subst hq
          refine sh ?_
          exact rT
    · refine sh ?_
      refine cS (fun h2 => ?_) (fun h2 => ?_)
      · have hap : apart k b = ({ As.zero k with x := (tdec b).1 }, (tdec b).2) := by rw [apart, if_neg h1, if_pos h2]
        rw [adec, hap] at hq
        refine sh ?_
        refine ICall.pure h.n98.o98.hb (rtdecode_c h.n98 b (ht h2)) rfl ?_
        refine sh ?_
        refine cS (fun e1 => ?_) (fun e1 => ?_)
        · rw [if_pos e1] at hq
          subst hq
          refine sh ?_
          exact rT
        · rw [if_neg (by simpa using e1)] at hq
          have f := apart_few (k := k) (b := b) (by rw [hap]; exact e1)
          rw [hap] at f
          refine sh ?_
          refine cM false [] ((rcheck_c h.n295 _ f).mc h.n295.o295.hb) ?_
          repeat ((intro _u; clear _u); first | refine eK ?_ | refine eP ?_)
          refine sh ?_
          refine cS (fun e2 => ?_) (fun e2 => ?_)
          · rw [if_pos e2] at hq
            subst hq
            refine sh ?_
            exact rT
          · rw [if_neg (by simpa using e2)] at hq
            subst hq
            refine sh ?_
            exact rT
      · refine sh ?_
        refine cS (fun h3 => ?_) (fun h3 => ?_)
        · have hap : apart k b = ({ As.zero k with mt := (matd ⟨b, 0, true⟩).1 }, (matd ⟨b, 0, true⟩).2.fin) := by rw [apart, if_neg h1, if_neg h2, if_pos h3]
          rw [adec, hap] at hq
          have lb : ((fw 2 ((⟨b, 0, true⟩ : Rd).num 1).2).2.num 2).1 < 65536 := num_lt _ (by omega) (by omega)
          refine sh ?_
          refine cM false [2] (rnum_c h.n61 b ⟨b, 0, true⟩ ok0 1) ?_
          repeat ((intro _u; clear _u); first | refine eK ?_ | refine eP ?_)
          refine sh ?_
          refine cM false [2] (rthree15_c h.n321 b ((⟨b, 0, true⟩ : Rd).num 1).2 (ok0.num 1) 2 (by omega) (by omega)) ?_
          repeat ((intro _u; clear _u); first | refine eK ?_ | refine eP ?_)
          refine sh ?_
          refine cM false [2] (rnum_c h.n61 b (fw 2 ((⟨b, 0, true⟩ : Rd).num 1).2).2 ((ok0.num 1).fw 2) 2) ?_
          repeat ((intro _u; clear _u); first | refine eK ?_ | refine eP ?_)
          refine sh ?_
          refine cM false [2] (rend_c h.n69 b (matd ⟨b, 0, true⟩).2 (((ok0.num 1).fw 2).num 2)) ?_
          repeat ((intro _u; clear _u); first | refine eK ?_ | refine eP ?_)
          refine sh ?_
          refine cS (fun e1 => ?_) (fun e1 => ?_)
          · rw [if_pos e1] at hq
            subst hq
            refine sh ?_
            exact rT
          · rw [if_neg (by simpa using e1)] at hq
            have f := apart_few (k := k) (b := b) (by rw [hap]; exact e1)
            rw [hap] at f
            refine sh ?_
            refine cM false [] ((rcheck_c h.n295 _ f).mc h.n295.o295.hb) ?_
            repeat ((intro _u; clear _u); first | refine eK ?_ | refine eP ?_)
            refine sh ?_
            refine cS (fun e2 => ?_) (fun e2 => ?_)
            · rw [if_pos e2] at hq
              subst hq
              refine sh ?_
              exact rT
            · rw [if_neg (by simpa using e2)] at hq
              subst hq
              refine sh ?_
              exact rT
        · refine sh ?_
          refine cS (fun h4 => ?_) (fun h4 => ?_)
          · have hap : apart k b = ({ As.zero k with li := (ligd ⟨b, 0, true⟩).1 }, (ligd ⟨b, 0, true⟩).2.fin) := by rw [apart, if_neg h1, if_neg h2, if_neg h3, if_pos h4]
            rw [adec, hap] at hq
            refine sh ?_
            refine cM false [2] (rnum_c h.n61 b ⟨b, 0, true⟩ ok0 1) ?_
            repeat ((intro _u; clear _u); first | refine eK ?_ | refine eP ?_)
            refine sh ?_
            refine cM false [2] (rthree15_c h.n321 b ((⟨b, 0, true⟩ : Rd).num 1).2 (ok0.num 1) 4 (by omega) (by omega)) ?_
            repeat ((intro _u; clear _u); first | refine eK ?_ | refine eP ?_)
            refine sh ?_
            refine cM false [2] (rread13_c h.n216 b (fw 4 ((⟨b, 0, true⟩ : Rd).num 1).2).2 ((ok0.num 1).fw 4)) ?_
            repeat ((intro _u; clear _u); first | refine eK ?_ | refine eP ?_)
            refine sh ?_
            refine cM false [2] (rread13_c h.n216 b (f3 (fw 4 ((⟨b, 0, true⟩ : Rd).num 1).2).2).2 ((ok0.num 1).fw 4).f3) ?_
            repeat ((intro _u; clear _u); first | refine eK ?_ | refine eP ?_)
            refine sh ?_
            refine cM false [2] (rread13_c h.n216 b (f3 (f3 (fw 4 ((⟨b, 0, true⟩ : Rd).num 1).2).2).2).2 ((ok0.num 1).fw 4).f3.f3) ?_
            repeat ((intro _u; clear _u); first | refine eK ?_ | refine eP ?_)
            refine sh ?_
            refine cM false [2] (rend_c h.n69 b (ligd ⟨b, 0, true⟩).2 ((ok0.num 1).fw 4).f3.f3.f3) ?_
            repeat ((intro _u; clear _u); first | refine eK ?_ | refine eP ?_)
            refine sh ?_
            refine cS (fun e1 => ?_) (fun e1 => ?_)
            · rw [if_pos e1] at hq
              subst hq
              refine sh ?_
              exact rT
            · rw [if_neg (by simpa using e1)] at hq
              have f := apart_few (k := k) (b := b) (by rw [hap]; exact e1)
              rw [hap] at f
              refine sh ?_
              refine cM false [] ((rcheck_c h.n295 _ f).mc h.n295.o295.hb) ?_
              repeat ((intro _u; clear _u); first | refine eK ?_ | refine eP ?_)
              refine sh ?_
              refine cS (fun e2 => ?_) (fun e2 => ?_)
              · rw [if_pos e2] at hq
                subst hq
                refine sh ?_
                exact rT
              · rw [if_neg (by simpa using e2)] at hq
                subst hq
                refine sh ?_
                exact rT
          · have hap : apart k b = (As.zero k, 0) := by rw [apart, if_neg h1, if_neg h2, if_neg h3, if_neg h4]
            rw [adec, hap] at hq
            have e12 : achk (As.zero k) = 12 := by rw [achk, own]; simp [As.zero, h1, h2, h3, h4]
            have c := rcheck_c h.n295 (As.zero k) (zfew k)
            rw [if_neg (by simp), if_pos (by simp [e12])] at hq
            dsimp only at hq
            rw [e12] at hq c
            subst hq
            refine sh ?_
            refine acnd_f (by decide) ?_
            refine sh ?_
            refine cM false [] (c.mc h.n295.o295.hb) ?_
            repeat ((intro _u; clear _u); first | refine eK ?_ | refine eP ?_)
            refine sh ?_
            refine acnd_t (by decide) ?_
            refine sh ?_
            exact rT
end Go.UM

namespace Go.UM
open Go.AM
set_option maxRecDepth 4000
theorem f3_fits : Fits f3 encP (fun p => (-32768 ≤ p.a ∧ p.a < 32768) ∧ (-32768 ≤ p.b ∧ p.b < 32768) ∧ (-32768 ≤ p.c ∧ p.c < 32768)) := by
  have i2 := int_fits (w := 2) (by omega) (by omega)
  have e : f3 = fun r => ((fun x : (Int × Int) × Int => (⟨x.1.1, x.1.2, x.2⟩ : T3)) ((((((r.int 2).1, ((r.int 2).2.int 2).1), (((r.int 2).2.int 2).2.int 2).1), (((r.int 2).2.int 2).2.int 2).2) : ((Int × Int) × Int) × Rd)).1, (((r.int 2).2.int 2).2.int 2).2) := rfl
  rw [e]
  refine ((i2.seq i2).seq i2).as (fun x : (Int × Int) × Int => (⟨x.1.1, x.1.2, x.2⟩ : T3)) (fun p : T3 => ((p.a, p.b), p.c)) _ _ (fun x hx => ?_) (fun x hx => ?_) (fun y hy => ?_)
  · simp [encP]
  · have e2 : ((256 : Int) ^ (2 : Int).toNat / 2) = 32768 := by decide
    simp only [e2] at hx ⊢
    omega
  · have e2 : ((256 : Int) ^ (2 : Int).toNat / 2) = 32768 := by decide
    simp only [e2]
    exact ⟨by simp [encP], by omega, by first | rfl | trivial⟩
theorem f2_fits : Fits f2 enc2 (fun x => (0 ≤ x.1 ∧ x.1 < 65536) ∧ (0 ≤ x.2 ∧ x.2 < 65536)) := by
  have i2 := num_fits (w := 2) (by omega) (by omega)
  have e : f2 = fun r => ((fun x : Nat × Nat => ((x.1 : Int), (x.2 : Int))) (((((r.num 2).1, ((r.num 2).2.num 2).1), ((r.num 2).2.num 2).2) : (Nat × Nat) × Rd)).1, ((r.num 2).2.num 2).2) := rfl
  rw [e]
  refine (i2.seq i2).as (fun x : Nat × Nat => ((x.1 : Int), (x.2 : Int))) (fun p : Int × Int => (p.1.toNat, p.2.toNat)) _ _ (fun x hx => ?_) (fun x hx => ?_) (fun y hy => ?_)
  · simp [enc2]
  · have e2 : (256 ^ (2 : Int).toNat : Nat) = 65536 := by decide
    simp only [e2] at hx ⊢
    omega
  · have e2 : (256 ^ (2 : Int).toNat : Nat) = 65536 := by decide
    simp only [e2]
    have h1 : ((y.1.toNat : Nat) : Int) = y.1 := by omega
    have h2 : ((y.2.toNat : Nat) : Int) = y.2 := by omega
    exact ⟨by simp [enc2, h1, h2], by omega, by rw [h1, h2]⟩
theorem enc_1 (x : Int) : enc 1 x = [u8 x] := by simp [enc, List.range_succ]
theorem ft_fits : Fits ft encT (fun p => (0 ≤ p.a ∧ p.a < 256) ∧ (0 ≤ p.b ∧ p.b < 256) ∧ (0 ≤ p.c ∧ p.c < 256)) := by
  have i2 := num_fits (w := 1) (by omega) (by omega)
  have e : ft = fun r => ((fun x : (Nat × Nat) × Nat => (⟨x.1.1, x.1.2, x.2⟩ : T3)) ((((((r.num 1).1, ((r.num 1).2.num 1).1), (((r.num 1).2.num 1).2.num 1).1), (((r.num 1).2.num 1).2.num 1).2) : ((Nat × Nat) × Nat) × Rd)).1, (((r.num 1).2.num 1).2.num 1).2) := rfl
  rw [e]
  have e1 : ∀ x : Int, enc (1 : Int).toNat x = [u8 x] := enc_1
  refine ((i2.seq i2).seq i2).as (fun x : (Nat × Nat) × Nat => (⟨x.1.1, x.1.2, x.2⟩ : T3)) (fun p : T3 => ((p.a.toNat, p.b.toNat), p.c.toNat)) _ _ (fun x hx => ?_) (fun x hx => ?_) (fun y hy => ?_)
  · simp only [e1]; simp [encT]
  · have e2 : (256 ^ (1 : Int).toNat : Nat) = 256 := by decide
    simp only [e2] at hx ⊢
    omega
  · have e2 : (256 ^ (1 : Int).toNat : Nat) = 256 := by decide
    simp only [e2]
    have h1 : ((y.a.toNat : Nat) : Int) = y.a := by omega
    have h2 : ((y.b.toNat : Nat) : Int) = y.b := by omega
    have h3 : ((y.c.toNat : Nat) : Int) = y.c := by omega
    refine ⟨by simp only [e1, h1, h2, h3]; simp [encT], by omega, ?_⟩
    rw [h1, h2, h3]
theorem mdecd_len (b : List UInt8) : (mdecd b).1.v.length ≤ 1000 ∧ (mdecd b).1.uv.length ≤ 1000 ∧ (mdecd b).1.t.length ≤ 1000 := by
  unfold mdecd mfin
  have la : ((⟨b, 0, true⟩ : Rd).num 1).1 < 256 := num_lt _ (by omega) (by omega)
  generalize (⟨b, 0, true⟩ : Rd).num 1 = a at la ⊢
  have lc : (a.2.num 1).1 < 256 := num_lt _ (by omega) (by omega)
  generalize a.2.num 1 = c at lc ⊢
  split
  · simp [zMs]
  · split
    · simp [zMs]
    · unfold mq
      simp only [rdN_len]
      omega
theorem mdecd_there {m : Ms} (h : mchk m = 0) : mdecd (mbytes m) = (m, 0) := by
  have may := mchk_may h
  have mv := may.v
  have mt := may.t
  have w8 : (u8 m.v.length).toNat = m.v.length := by have := u8_in (n := m.v.length) (by omega); omega
  have t8 : (u8 m.t.length).toNat = m.t.length := by have := u8_in (n := m.t.length) (by omega); omega
  have e : mbytes m = u8 m.v.length :: u8 m.t.length :: (m.v.flatMap encP ++ (m.uv.flatMap enc2 ++ (m.t.flatMap encT ++ []))) := by simp [mbytes]
  rw [e]
  unfold mdecd
  rw [num1]
  dsimp only
  rw [num1]
  dsimp only
  rw [w8, t8]
  have h1 := (rdN_fits f3_fits m.v.length).there m.v (m.uv.flatMap enc2 ++ (m.t.flatMap encT ++ [])) ⟨rfl, fun p hp => by have := may.pv p hp; omega⟩
  have h2 := (rdN_fits f2_fits m.v.length).there m.uv (m.t.flatMap encT ++ []) ⟨may.uv, fun p hp => by have := may.pu p hp; omega⟩
  have h3 := (rdN_fits ft_fits m.t.length).there m.t [] ⟨rfl, fun p hp => by have := may.pt p hp; omega⟩
  try dsimp only at h1 h2 h3
  unfold mq
  rw [h1]
  dsimp only
  rw [h2]
  dsimp only
  rw [h3]
  unfold mfin
  rw [if_neg (by simp [Rd.fin, Rd.err]), if_neg (by simpa using h)]
theorem fin_zero {r : Rd} (h : r.fin = 0) : r.e = 0 ∧ r.l = [] := by
  unfold Rd.fin at h
  split at h
  · rename_i h1; exact (h1 h).elim
  · rename_i h1
    split at h
    · cases h
    · rename_i h2
      unfold Rd.err at h1
      split at h1
      · exact (h1 (by decide)).elim
      · exact ⟨by omega, List.eq_nil_of_length_eq_zero (by omega)⟩
theorem mdecd_back {b : List UInt8} (h : (mdecd b).2 = 0) : menc (mdecd b).1 = (b, 0) := by
  have e : mdecd b = mfin (mq ((⟨b, 0, true⟩ : Rd).num 1).1 (((⟨b, 0, true⟩ : Rd).num 1).2.num 1).1 (((⟨b, 0, true⟩ : Rd).num 1).2.num 1).2) := rfl
  have n1 := num_fits (w := 1) (by omega) (by omega)
  have m0 := n1.made ⟨b, 0, true⟩ rfl
  have k0 := n1.back ⟨b, 0, true⟩ rfl
  have la : ((⟨b, 0, true⟩ : Rd).num 1).1 < 256 := num_lt _ (by omega) (by omega)
  try dsimp only at m0 k0
  generalize (⟨b, 0, true⟩ : Rd).num 1 = a at e m0 k0 la
  have m1 := n1.made a.2 m0
  have k1 := n1.back a.2 m0
  have lc : (a.2.num 1).1 < 256 := num_lt _ (by omega) (by omega)
  try dsimp only at m1 k1
  generalize a.2.num 1 = c at e m1 k1 lc
  have m2 := (rdN_fits f3_fits a.1).made c.2 m1
  have k2 := (rdN_fits f3_fits a.1).back c.2 m1
  have l2 := rdN_len f3 a.1 c.2
  try dsimp only at k2
  have hq : mq a.1 c.1 c.2 = (⟨(rdN f3 a.1 c.2).1, (rdN f2 a.1 (rdN f3 a.1 c.2).2).1, (rdN ft c.1 (rdN f2 a.1 (rdN f3 a.1 c.2).2).2).1⟩, (rdN ft c.1 (rdN f2 a.1 (rdN f3 a.1 c.2).2).2).2) := rfl
  generalize rdN f3 a.1 c.2 = v at m2 k2 l2 hq
  have m3 := (rdN_fits f2_fits a.1).made v.2 m2
  have k3 := (rdN_fits f2_fits a.1).back v.2 m2
  try dsimp only at k3
  generalize rdN f2 a.1 v.2 = u at m3 k3 hq
  have k4 := (rdN_fits ft_fits c.1).back u.2 m3
  have l4 := rdN_len ft c.1 u.2
  try dsimp only at k4
  generalize rdN ft c.1 u.2 = t at k4 l4 hq
  rw [hq] at e
  rw [e] at h ⊢
  unfold mfin at h ⊢
  by_cases h1 : t.2.fin = 0
  · rw [if_neg (fun hh => hh h1)] at h ⊢
    by_cases h2 : mchk (⟨v.1, u.1, t.1⟩ : Ms) = 0
    · rw [if_neg (fun hh => hh h2)] at h ⊢
      obtain ⟨f1, f2⟩ := fin_zero h1
      obtain ⟨g4, e4⟩ := k4 f1
      obtain ⟨g3, e3⟩ := k3 g4
      obtain ⟨g2, e2⟩ := k2 g3
      obtain ⟨g1, e1⟩ := k1 g2
      obtain ⟨g0, e0⟩ := k0 g1
      rw [menc, if_neg (by simpa using h2)]
      congr 1
      have q1 : ∀ x : Int, enc (1 : Int).toNat x = [u8 x] := enc_1
      rw [e0, e1, e2, e3, e4, f2, q1, q1]
      simp [mbytes, l2, l4]
    · rw [if_pos h2] at h
      exact (h2 h).elim
  · rw [if_pos h1] at h
    exact (h1 h).elim
theorem mdecd_bad {b : List UInt8} (h : (mdecd b).2 ≠ 0) : mdecd b = (zMs, (mdecd b).2) := by
  unfold mdecd mfin at h ⊢
  split
  · rfl
  · split
    · rfl
    · rename_i h1 h2
      rw [if_neg h1, if_neg h2] at h
      exact (h rfl).elim
end Go.UM

namespace Go.UM
open Go.AM
set_option maxRecDepth 4000
def encW (w : Nat) (p : T3) : List UInt8 := enc w p.a ++ enc w p.b ++ enc w p.c
theorem fw_fits {w : Int} (h1 : 1 ≤ w) (h2 : w ≤ 8) : Fits (fw w) (encW w.toNat) (fun p => (0 ≤ p.a ∧ p.a < 256 ^ w.toNat) ∧ (0 ≤ p.b ∧ p.b < 256 ^ w.toNat) ∧ (0 ≤ p.c ∧ p.c < 256 ^ w.toNat)) := by
  have n := num_fits h1 h2
  have e : fw w = fun r => ((fun x : (Nat × Nat) × Nat => (⟨x.1.1, x.1.2, x.2⟩ : T3)) ((((((r.num w).1, ((r.num w).2.num w).1), (((r.num w).2.num w).2.num w).1), (((r.num w).2.num w).2.num w).2) : ((Nat × Nat) × Nat) × Rd)).1, (((r.num w).2.num w).2.num w).2) := rfl
  have e2 : ((256 ^ w.toNat : Nat) : Int) = 256 ^ w.toNat := by rw [Int.natCast_pow]; rfl
  rw [e]
  refine ((n.seq n).seq n).as (fun x : (Nat × Nat) × Nat => (⟨x.1.1, x.1.2, x.2⟩ : T3)) (fun p : T3 => ((p.a.toNat, p.b.toNat), p.c.toNat)) _ _ (fun x hx => ?_) (fun x hx => ?_) (fun y hy => ?_)
  · simp [encW]
  · rw [← e2]
    generalize 256 ^ w.toNat = P at hx
    dsimp only at hx ⊢
    omega
  · rw [← e2] at hy
    generalize 256 ^ w.toNat = P at hy
    have h1 : ((y.a.toNat : Nat) : Int) = y.a := by omega
    have h2 : ((y.b.toNat : Nat) : Int) = y.b := by omega
    have h3 : ((y.c.toNat : Nat) : Int) = y.c := by omega
    refine ⟨by simp only [h1, h2, h3]; simp [encW], by dsimp only; omega, ?_⟩
    rw [h1, h2, h3]
theorem matd_fits : Fits matd matb (fun m => (0 ≤ m.k ∧ m.k < 256) ∧ ((0 ≤ m.c.a ∧ m.c.a < 65536) ∧ (0 ≤ m.c.b ∧ m.c.b < 65536) ∧ (0 ≤ m.c.c ∧ m.c.c < 65536)) ∧ (0 ≤ m.r ∧ m.r < 65536)) := by
  have n1 := num_fits (w := 1) (by omega) (by omega)
  have n2 := num_fits (w := 2) (by omega) (by omega)
  have f2 := fw_fits (w := 2) (by omega) (by omega)
  have e1 : ∀ x : Int, enc (1 : Int).toNat x = [u8 x] := enc_1
  have g1 : (256 ^ (1 : Int).toNat : Nat) = 256 := by decide
  have g2 : (256 ^ (2 : Int).toNat : Nat) = 65536 := by decide
  have g3 : (256 ^ (2 : Int).toNat : Int) = 65536 := by decide
  refine ((n1.seq f2).seq n2).as (fun x : (Nat × T3) × Nat => (⟨x.1.1, x.1.2, x.2⟩ : Mat)) (fun m : Mat => ((m.k.toNat, m.c), m.r.toNat)) _ _ (fun x hx => ?_) (fun x hx => ?_) (fun y hy => ?_)
  · simp only [e1]; simp [matb, encW]
  · simp only [g1, g2, g3] at hx ⊢
    omega
  · simp only [g1, g2, g3] at hy ⊢
    have h1 : ((y.k.toNat : Nat) : Int) = y.k := by omega
    have h2 : ((y.r.toNat : Nat) : Int) = y.r := by omega
    refine ⟨by simp only [e1, h1, h2]; simp [matb, encW], by omega, ?_⟩
    rw [h1, h2]
theorem ligd_fits : Fits ligd ligb (fun l => (0 ≤ l.k ∧ l.k < 256) ∧ ((0 ≤ l.c.a ∧ l.c.a < 4294967296) ∧ (0 ≤ l.c.b ∧ l.c.b < 4294967296) ∧ (0 ≤ l.c.c ∧ l.c.c < 4294967296))
    ∧ ((-32768 ≤ l.p.a ∧ l.p.a < 32768) ∧ (-32768 ≤ l.p.b ∧ l.p.b < 32768) ∧ (-32768 ≤ l.p.c ∧ l.p.c < 32768)) ∧ ((-32768 ≤ l.u.a ∧ l.u.a < 32768) ∧ (-32768 ≤ l.u.b ∧ l.u.b < 32768) ∧ (-32768 ≤ l.u.c ∧ l.u.c < 32768))
    ∧ ((-32768 ≤ l.v.a ∧ l.v.a < 32768) ∧ (-32768 ≤ l.v.b ∧ l.v.b < 32768) ∧ (-32768 ≤ l.v.c ∧ l.v.c < 32768))) := by
  have n1 := num_fits (w := 1) (by omega) (by omega)
  have f4 := fw_fits (w := 4) (by omega) (by omega)
  have e1 : ∀ x : Int, enc (1 : Int).toNat x = [u8 x] := enc_1
  have g1 : (256 ^ (1 : Int).toNat : Nat) = 256 := by decide
  have g3 : (256 ^ (4 : Int).toNat : Int) = 4294967296 := by decide
  refine ((((n1.seq f4).seq f3_fits).seq f3_fits).seq f3_fits).as (fun x : (((Nat × T3) × T3) × T3) × T3 => (⟨x.1.1.1.1, x.1.1.1.2, x.1.1.2, x.1.2, x.2⟩ : Lig)) (fun l : Lig => ((((l.k.toNat, l.c), l.p), l.u), l.v)) _ _ (fun x hx => ?_) (fun x hx => ?_) (fun y hy => ?_)
  · simp only [e1]; simp [ligb, encW]
  · simp only [g1, g3] at hx ⊢
    omega
  · simp only [g1, g3] at hy ⊢
    have h1 : ((y.k.toNat : Nat) : Int) = y.k := by omega
    refine ⟨by simp only [e1, h1]; simp [ligb, encW], by omega, ?_⟩
    rw [h1]
theorem asame_eq {a b : As} (h : asame a b = true) : a = b := by
  simp only [asame, decide_eq_true_eq] at h
  obtain ⟨ak, ⟨_, _, _⟩, ⟨_, _⟩, am, al⟩ := a
  obtain ⟨bk, ⟨_, _, _⟩, ⟨_, _⟩, bm, bl⟩ := b
  dsimp only at h
  obtain ⟨rfl, rfl, rfl, rfl, rfl, rfl, rfl, rfl⟩ := h
  rfl
theorem achk_zero {a : As} (h : achk a = 0) : own a = 0 ∧ a.bare = As.zero a.k ∧ (abytes a).length ≤ cap a.k := by
  unfold achk at h
  split at h
  · rename_i h1; exact absurd h h1
  · rename_i h1
    split at h
    · cases h
    · rename_i h2
      split at h
      · cases h
      · rename_i h3
        exact ⟨by simpa using h1, asame_eq (by simpa using h2), by omega⟩
theorem fin_there {r : Rd} (h : r = ⟨[], 0, true⟩) : r.fin = 0 := by subst h; rfl
theorem apart_there {a : As} (h : achk a = 0) : apart a.k (abytes a) = (a, 0) := by
  obtain ⟨ow, hb, _⟩ := achk_zero h
  unfold own at ow
  unfold abytes apart
  unfold As.bare at hb
  by_cases h1 : a.k = 1
  · rw [if_pos h1] at ow hb
    rw [if_pos h1, if_pos h1, menc, if_neg (by simpa using ow), mdecd_there ow, ← hb]
  · rw [if_neg h1] at ow hb
    rw [if_neg h1, if_neg h1]
    by_cases h2 : a.k = 2
    · rw [if_pos h2] at ow hb
      rw [if_pos h2, if_pos h2, tencs, if_neg (by simpa using ow), tdec_tencs (tchk_ok ow), ← hb]
    · rw [if_neg h2] at ow hb
      rw [if_neg h2, if_neg h2]
      by_cases h3 : a.k = 3
      · rw [if_pos h3] at ow hb
        rw [if_pos h3, if_pos h3]
        have may := matk_may ow
        have t := matd_fits.there a.mt [] (by omega)
        rw [List.append_nil] at t
        rw [t, ← hb]
        rfl
      · rw [if_neg h3] at ow hb
        rw [if_neg h3, if_neg h3]
        by_cases h4 : a.k = 4
        · rw [if_pos h4] at ow hb
          rw [if_pos h4]
          have may := ligk_may ow
          have m1 := may.k
          have m2 := may.c
          have m3 := may.p
          have m4 := may.u
          have m5 := may.v
          have t := ligd_fits.there a.li [] (by omega)
          rw [List.append_nil] at t
          rw [t, ← hb]
          rfl
        · rw [if_neg h4] at ow; cases ow
theorem adec_there {a : As} (h : achk a = 0) : adec a.k (abytes a) = (a, 0) := by
  rw [adec, apart_there h, if_neg (by simp), if_neg (by simpa using h)]
theorem apart_k (k : Int) (b : List UInt8) : (apart k b).1.k = k := by
  unfold apart
  split
  · rfl
  · split
    · rfl
    · split
      · rfl
      · split <;> rfl
theorem abytes_k {a : As} (k : Int) (h : a.k = k) : abytes a = if k = 1 then (menc a.m).1 else if k = 2 then (tencs a.x).1 else if k = 3 then matb a.mt else ligb a.li := by rw [abytes, h]
theorem apart_back {k : Int} {b : List UInt8} (h : (apart k b).2 = 0) (h' : achk (apart k b).1 = 0) : abytes (apart k b).1 = b := by
  obtain ⟨ow, _, _⟩ := achk_zero h'
  rw [abytes_k k (apart_k k b)]
  unfold own at ow
  rw [apart_k] at ow
  unfold apart at h ow ⊢
  by_cases h1 : k = 1
  · simp only [if_pos h1] at h ⊢
    rw [mdecd_back h]
  · simp only [if_neg h1] at h ow ⊢
    by_cases h2 : k = 2
    · simp only [if_pos h2] at h ⊢
      have e : tdec b = ((tdec b).1, 0) := by rw [← h]
      rw [tencs_tdec e]
    · simp only [if_neg h2] at h ow ⊢
      by_cases h3 : k = 3
      · simp only [if_pos h3] at h ⊢
        obtain ⟨f1, f2⟩ := fin_zero h
        have := (matd_fits.back ⟨b, 0, true⟩ rfl f1).2
        rw [f2, List.append_nil] at this
        exact this.symm
      · simp only [if_neg h3] at h ow ⊢
        by_cases h4 : k = 4
        · simp only [if_pos h4] at h ⊢
          obtain ⟨f1, f2⟩ := fin_zero h
          have := (ligd_fits.back ⟨b, 0, true⟩ rfl f1).2
          rw [f2, List.append_nil] at this
          exact this.symm
        · simp only [if_neg h4] at ow; cases ow
theorem adec_back {k : Int} {b : List UInt8} (h : (adec k b).2 = 0) : aenc (adec k b).1 = (b, 0) ∧ (adec k b).1.k = k := by
  unfold adec at h ⊢
  split at h
  · rename_i h1; exact absurd h h1
  · rename_i h1
    split at h
    · rename_i h2; exact absurd h h2
    · rename_i h2
      rw [if_neg h1, if_neg h2]
      have e1 : (apart k b).2 = 0 := by simpa using h1
      have e2 : achk (apart k b).1 = 0 := by simpa using h2
      exact ⟨by rw [aenc, if_neg h2, apart_back e1 e2], apart_k k b⟩
theorem adec_bad {k : Int} {b : List UInt8} (h : (adec k b).2 ≠ 0) : (adec k b).1 = As.zero 0 := by
  unfold adec at h ⊢
  split
  · rfl
  · split
    · rfl
    · rename_i h1 h2
      rw [if_neg h1, if_neg h2] at h
      exact absurd rfl h
theorem adec_few {k : Int} {b : List UInt8} : (adec k b).1.Few := by
  unfold adec
  split
  · exact zfew 0
  · split
    · exact zfew 0
    · rename_i h1 h2
      exact apart_few (by simpa using h1)
theorem abytes_ne {a : As} (h : achk a = 0) : (abytes a).length ≠ 0 := by
  obtain ⟨ow, _, _⟩ := achk_zero h
  unfold own at ow
  unfold abytes
  by_cases h1 : a.k = 1
  · rw [if_pos h1] at ow ⊢
    rw [menc, if_neg (by simpa using ow)]
    simp [mbytes]
  · rw [if_neg h1] at ow ⊢
    by_cases h2 : a.k = 2
    · rw [if_pos h2] at ow ⊢
      rw [tencs, if_neg (by simpa using ow)]
      simp
    · rw [if_neg h2] at ow ⊢
      by_cases h3 : a.k = 3
      · rw [if_pos h3]; simp [matb]
      · rw [if_neg h3]; simp [ligb]
theorem tex_short {a : As} (h : achk a = 0) (h2 : a.k = 2) : (abytes a).length ≤ 1000 := by
  obtain ⟨ow, _, _⟩ := achk_zero h
  unfold own at ow
  rw [if_neg (by omega), if_pos h2] at ow
  have := tchk_len ow
  rw [abytes, if_neg (by omega), if_pos h2, tencs, if_neg (by simpa using ow)]
  simp only [List.length_cons, texs_len]
  omega
theorem cap_le (k : Int) : cap k ≤ 2048 := by unfold cap; split <;> (try split) <;> (try split) <;> omega
end Go.UM

namespace Go.UM
open Go.AM
set_option maxRecDepth 4000
theorem decodes15_c {R : Env} (h : N303 R) (k : Int) (b : List UInt8) : R.Pc 303 [.int .i64 k, .isl 1 (slc8 b)] (.bool true) :=
  h.o303.enter 100 rfl fun X bb hfit hp => by
    refine sh ?_
    refine asub_eq (by exact cap8 b 900) ?_
    have hb : (b.take (Int.toNat 900)).length ≤ 1000 := by simp; omega
    generalize b.take (Int.toNat 900) = b at hb ⊢
    refine sh ?_
    refine ICall.pure h.n304.o304.hb (adecode_c h.n304 k b (by omega) (fun _ => hb)) rfl ?_
    refine sh ?_
    refine ICall.pure h.n305.o305.hb (radecode_c h.n305 k b (by omega) (fun _ => hb)) rfl ?_
    have c := rsame_c h.n299 (adec k b).1 (adec k b).1 adec_few
    rw [asame_self] at c
    refine sh ?_
    refine ICall.pure h.n299.o299.hb c rfl ?_
    refine sh ?_
    refine acnd_t (by simp) ?_
    refine sh ?_
    refine ICall.pure h.n296.o296.hb (works15_c h.n296) rfl ?_
    refine sh ?_
    exact rT
theorem back15_c {R : Env} (h : N306 R) (a : As) (k : Int) (b : List UInt8) : R.Pc 306 [.agg a.row, .int .i64 k, .isl 1 (slc8 b)] (.bool true) :=
  h.o306.enter 200 rfl fun X bb hfit hp => by
    refine sh ?_
    refine ICall.pure h.n289.o289.hb (few15_c h.n289 a) rfl ?_
    have f := a.few_few
    generalize a.few = a at f ⊢
    refine sh ?_
    refine asub_eq (by exact cap8 b 900) ?_
    have hb : (b.take (Int.toNat 900)).length ≤ 1000 := by simp; omega
    generalize b.take (Int.toNat 900) = b at hb ⊢
    by_cases hc : achk a = 0
    · have c1 := aencode_c h.n301 a f
      rw [aenc, if_neg (by simpa using hc)] at c1
      have hz := achk_zero hc
      have hcl := cap_le a.k
      have hne := abytes_ne hc
      refine sh ?_
      refine ICall.pure h.n301.o301.hb c1 rfl ?_
      refine sh ?_
      refine acnd_t (by rfl) ?_
      have c2 := adecode_c h.n304 a.k (abytes a) (by omega) (tex_short hc)
      rw [adec_there hc] at c2
      refine sh ?_
      refine ICall.pure h.n304.o304.hb c2 rfl ?_
      refine sh ?_
      refine acnd_f (by rfl) ?_
      have c := same_c h.n298 a a f
      rw [asame_self] at c
      refine sh ?_
      refine ICall.pure h.n298.o298.hb c rfl ?_
      refine sh ?_
      refine ICall.pure h.n37.o37.hb (cap_c h.n37 a.k) rfl ?_
      refine sh ?_
      refine acnd_f (by simp; omega) ?_
      refine sh ?_
      refine acnd_f (by simpa using hne) ?_
      refine sh ?_
      refine ICall.pure h.n304.o304.hb (adecode_c h.n304 k b (by omega) (fun _ => hb)) rfl ?_
      refine sh ?_
      refine cS (fun h1 => ?_) (fun h1 => ?_)
      · have hz := adec_bad h1
        have c := same_c h.n298 (As.zero 0) (As.zero 0) (zfew 0)
        rw [asame_self] at c
        rw [hz]
        refine sh ?_
        refine cM false [] (c.mc h.n298.o298.hb) ?_
        repeat ((intro _u; clear _u); first | refine eK ?_ | refine eP ?_)
        refine sh ?_
        refine ICall.pure h.n296.o296.hb (works15_c h.n296) rfl ?_
        refine sh ?_
        exact rT
      · have hk := adec_back (by simpa using h1)
        have f := adec_few (k := k) (b := b)
        have c := aencode_c h.n301 _ f
        rw [hk.1] at c
        refine sh ?_
        refine ICall.pure h.n301.o301.hb c rfl ?_
        refine sh ?_
        refine acnd_t (by rfl) ?_
        refine sh ?_
        refine ICall.pure h.n47.o47.hb (eq8_c h.n47 b b) rfl ?_
        refine sh ?_
        refine acnd_t (by simp) ?_
        refine sh ?_
        refine acnd_t (by simpa using hk.2) ?_
        refine sh ?_
        refine ICall.pure h.n296.o296.hb (works15_c h.n296) rfl ?_
        refine sh ?_
        exact rT
    · have c1 := aencode_c h.n301 a f
      rw [aenc, if_pos (by simpa using hc)] at c1
      refine sh ?_
      refine ICall.pure h.n301.o301.hb c1 rfl ?_
      refine sh ?_
      refine acnd_f (by simpa using hc) ?_
      refine sh ?_
      refine ICall.pure h.n304.o304.hb (adecode_c h.n304 k b (by omega) (fun _ => hb)) rfl ?_
      refine sh ?_
      refine cS (fun h1 => ?_) (fun h1 => ?_)
      · have hz := adec_bad h1
        have c := same_c h.n298 (As.zero 0) (As.zero 0) (zfew 0)
        rw [asame_self] at c
        rw [hz]
        refine sh ?_
        refine cM false [] (c.mc h.n298.o298.hb) ?_
        repeat ((intro _u; clear _u); first | refine eK ?_ | refine eP ?_)
        refine sh ?_
        refine ICall.pure h.n296.o296.hb (works15_c h.n296) rfl ?_
        refine sh ?_
        exact rT
      · have hk := adec_back (by simpa using h1)
        have f := adec_few (k := k) (b := b)
        have c := aencode_c h.n301 _ f
        rw [hk.1] at c
        refine sh ?_
        refine ICall.pure h.n301.o301.hb c rfl ?_
        refine sh ?_
        refine acnd_t (by rfl) ?_
        refine sh ?_
        refine ICall.pure h.n47.o47.hb (eq8_c h.n47 b b) rfl ?_
        refine sh ?_
        refine acnd_t (by simp) ?_
        refine sh ?_
        refine acnd_t (by simpa using hk.2) ?_
        refine sh ?_
        refine ICall.pure h.n296.o296.hb (works15_c h.n296) rfl ?_
        refine sh ?_
        exact rT
end Go.UM
