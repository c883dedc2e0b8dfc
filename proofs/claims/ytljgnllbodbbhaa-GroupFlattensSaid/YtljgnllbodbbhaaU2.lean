/- Of the reckoning machine, and what is proved with it: texts joined by program. -/
import Derived.Test.YtljgnllbodbbhaaU1
import Derived.Test.YtljgnllbodbbhaaK3
import Derived.Test.YtljgnllbodbbhaaU0
set_option linter.all false

namespace Go.UM
open Go.AM
set_option maxRecDepth 4000
def atF (rows : List Rw) (h : Int) (m : Nat) : Int := match (rows.drop m).findIdx? fun r => r.h == h with
  | some i => m + i
  | none => -1
theorem atF_end {rows : List Rw} {h : Int} : atF rows h rows.length = -1 := by simp [atF]
theorem atF_step {rows : List Rw} {h : Int} {m : Nat} {x : Rw} (hx : rows[m]? = some x) : atF rows h m = if x.h = h then (m : Int) else atF rows h (m + 1) := by
  unfold atF
  rw [drop_at hx, List.findIdx?_cons]
  by_cases e : x.h = h
  · simp [e]
  · have : (x.h == h) = false := by simpa using e
    simp only [this, Bool.false_eq_true, if_false, e]
    cases (rows.drop (m + 1)).findIdx? fun r => r.h == h with
    | none => rfl
    | some i => simp; omega
theorem atF_none {rows : List Rw} {h : Int} (hn : findR rows h = none) : atF rows h 0 = -1 := by
  unfold findR at hn
  unfold atF
  rw [List.drop_zero]
  cases he : rows.findIdx? fun r => r.h == h with
  | none => rfl
  | some i =>
    obtain ⟨h1, h2, _⟩ := List.findIdx?_eq_some_iff_getElem.1 he
    rw [List.find?_eq_none] at hn
    exact (hn _ (List.getElem_mem h1) h2).elim
theorem atF_some {rows : List Rw} {h : Int} {r : Rw} (hs : findR rows h = some r) : ∃ i : Nat, atF rows h 0 = i ∧ rows[i]? = some r := by
  have hs0 := hs
  unfold atF
  rw [List.drop_zero]
  cases he : rows.findIdx? fun r => r.h == h with
  | none =>
    rw [List.findIdx?_eq_none_iff] at he
    unfold findR at hs
    have h1 := List.find?_some hs
    have h2 := he r (List.mem_of_find?_eq_some hs)
    rw [h1] at h2; simp at h2
  | some i =>
    obtain ⟨h1, h2, h3⟩ := List.findIdx?_eq_some_iff_getElem.1 he
    refine ⟨i, by simp, ?_⟩
    have := findR_some (rows := rows) (h := h) (k := i) (List.getElem?_eq_getElem h1) (by simpa using h2) (fun j r' hj hr' => by
      obtain ⟨h4, rfl⟩ := List.getElem?_eq_some_iff.1 hr'
      simpa using h3 j hj)
    rw [hs0] at this
    rw [List.getElem?_eq_getElem h1, ← this]
theorem tri4_at {a : Af} {m : Ms} {t : T3} {c : Nat} (hc : c < 3) : (tri4 a m t)[c]? = some (pt4 a m ([t.a, t.b, t.c].getD c 0)) := by
  obtain h | h | h : c = 0 ∨ c = 1 ∨ c = 2 := by omega
  all_goals subst h; rfl
theorem sameIn_c {R : Env} (h : N343 R) (l : List In) (hl : l.length ≤ 1000) : R.Pc 343 [.isl 16 (sIn l), .isl 16 (sIn l)] (.bool true) :=
  h.o343.enter 100 rfl fun X bb hfit hp => by
    refine sh ?_
    refine acnd_f (by simp) ?_
    refine sh ?_
    refine lPa 100 (fun i : Nat => i ≤ l.length) (fun i => ⟨[(0, .isl 16 (sIn l)), (1, .isl 16 (sIn l)), (5, .int .i64 i)], [], 0⟩) (fun i => l.length - i) (0) ?_ ?_
    · omega
    · intro i hi
      dsimp only
      refine sh ?_
      refine cS (fun h1 => ?_) (fun h1 => ?_)
      · obtain ⟨x, hx⟩ : ∃ u_, l[i]? = some u_ := ⟨_, List.getElem?_eq_getElem (by first | omega | (simp <;> omega))⟩
        refine sh ?_
        refine eget_map hx ?_
        refine sh ?_
        refine eget_map hx ?_
        refine sh ?_
        refine acnd_f (by simp) ?_
        refine sh ?_
        refine nXa (i + 1) ?_ ?_
        · omega
        · omega
      · refine sh ?_
        exact rT
theorem pt4_get {a : Af} {m : Ms} {t : T3} {c : Nat} (hm : m.May) (ht : t ∈ m.t) (hc : c < 3) : ∃ v, m.v[([t.a, t.b, t.c].getD c 0).toNat]? = some v ∧ (place4 a v).1 = pt4 a m ([t.a, t.b, t.c].getD c 0) ∧ 0 ≤ [t.a, t.b, t.c].getD c 0 ∧ [t.a, t.b, t.c].getD c 0 < m.v.length := by
  have hb := hm.pt t ht
  have h : 0 ≤ [t.a, t.b, t.c].getD c 0 ∧ [t.a, t.b, t.c].getD c 0 < m.v.length := by
    obtain h | h | h : c = 0 ∨ c = 1 ∨ c = 2 := by omega
    all_goals subst h; simp; omega
  refine ⟨m.v[([t.a, t.b, t.c].getD c 0).toNat]'(by omega), List.getElem?_eq_getElem _, ?_, h⟩
  unfold pt4
  rw [List.getD_eq_getElem?_getD (l := m.v), List.getElem?_eq_getElem (by omega), Option.getD_some]
theorem Ms.May.pI {m : Ms} (hm : m.May) {v : T3} (hv : v ∈ m.v) : v.I := by
  have hb := hm.pv v hv
  exact ⟨by rw [i64_iff]; omega, by rw [i64_iff]; omega, by rw [i64_iff]; omega⟩
theorem pv1 {k : In} {rows : List Rw} (h : findR rows k.mesh = none) : places4 k rows = ([], 11) := by unfold places4; rw [h]
theorem pv2 {k : In} {rows : List Rw} {r : Rw} (h : findR rows k.mesh = some r) (h1 : r.a.k ≠ 1) : places4 k rows = ([], 12) := by unfold places4; rw [h]; simp only; rw [if_pos h1]
theorem pv3 {k : In} {rows : List Rw} {r : Rw} (h : findR rows k.mesh = some r) (h1 : r.a.k = 1) (h2 : mchk r.a.m ≠ 0) : places4 k rows = ([], mchk r.a.m) := by unfold places4; rw [h]; simp only; rw [if_neg (by simpa using h1), if_pos h2]
theorem pv4 {k : In} {rows : List Rw} {r : Rw} (h : findR rows k.mesh = some r) (h1 : r.a.k = 1) (h2 : mchk r.a.m = 0) (h3 : perr k.t r.a.m.v ≠ 0) : places4 k rows = ([], perr k.t r.a.m.v) := by
  unfold places4; rw [h]; simp only; rw [if_neg (by simpa using h1), if_neg (by simpa using h2), if_pos h3]
theorem pv5 {k : In} {rows : List Rw} {r : Rw} (h : findR rows k.mesh = some r) (h1 : r.a.k = 1) (h2 : mchk r.a.m = 0) (h3 : perr k.t r.a.m.v = 0) : places4 k rows = (r.a.m.t.flatMap (tri4 k.t r.a.m), 0) := by
  unfold places4; rw [h]; simp only; rw [if_neg (by simpa using h1), if_neg (by simpa using h2), if_neg (by simpa using h3)]
theorem rgbox_c {R : Env} (h : N342 R) (l : List Gr) (hl : l.length ≤ 900) (hi : ∀ g ∈ l, g.t.I) (rows : List Rw) (hr : rows.length ≤ 1000) :
    R.Pc 342 [.isl 16 (slG l), .isl 40 (slR rows)] (.tup [.agg (t3 (box4 l rows).1.1), .agg (t3 (box4 l rows).1.2), .int .i64 (box4 l rows).2]) :=
  h.o342.enter 400 rfl fun X bb hfit hp => by
    generalize hq : box4 l rows = q
    unfold box4 at hq
    refine sh ?_
    refine ICall.pure h.n340.o340.hb (rgflatten_c h.n340 l hl hi) rfl ?_
    refine sh ?_
    refine cS (fun h1 => ?_) (fun h1 => ?_)
    · rw [if_pos h1] at hq
      subst hq
      refine sh ?_
      exact rT
    · rw [if_neg (by simpa using h1)] at hq
      have hfl := flat_len l
      have hfi := flat_I hi
      generalize (flat4 l).1 = A at *
      refine sh ?_
      refine lPa 300 (fun s : Nat × List T3 => (s.1 ≤ A.length ∧ s.2.length ≤ 192 * s.1) ∧ boxF rows (A.drop s.1) s.2 = q) (fun s => ⟨[(1, .isl 40 (slR rows)), (4, .loc 0 1 0 0), (5, .loc 1 1 0 0), (7, .isl 16 (sIn A)), (9, .osl 2 s.2.length), (10, .int .i64 s.1)], [(2, .arr (R.ty 26) 3 (slc3 s.2)), (1, .var (R.ty 26) (t3 z3)), (0, .var (R.ty 26) (t3 z3))], 3⟩) (fun s => A.length - s.1) ((0, [])) ?_ ?_
      · exact ⟨⟨by omega, by simp⟩, by simpa using hq⟩
      · rintro ⟨k, acc⟩ ⟨h2, h3⟩
        dsimp only at h2 h3 ⊢
        refine sh ?_
        refine cS (fun h4 => ?_) (fun h4 => ?_)
        · obtain ⟨x, hx⟩ : ∃ u_, A[k]? = some u_ := ⟨_, List.getElem?_eq_getElem (by omega)⟩
          have hxi := hfi x (List.mem_of_getElem? hx)
          rw [drop_at hx, boxF] at h3
          refine sh ?_
          refine ILoop.inv 100 (fun m : Nat => m ≤ rows.length) (fun m => ⟨[(1, .isl 40 (slR rows)), (4, .loc 0 1 0 0), (5, .loc 1 1 0 0), (7, .isl 16 (sIn A)), (9, .osl 2 acc.length), (10, .int .i64 k), (11, .int .i64 (atF rows x.mesh m)), (12, .int .i64 ((m : Int) - 1))], [(2, .arr (R.ty 26) 3 (slc3 acc)), (1, .var (R.ty 26) (t3 z3)), (0, .var (R.ty 26) (t3 z3))], 3⟩) (fun m => m) (rows.length) ?_ ⟨⟨_, hp, rfl⟩, ?_, ?_⟩ ?_
          · omega
          · all_goals repeat' (first | exact True.intro | refine And.intro ?_ ?_ | (intro _u; clear _u) | (with_reducible first | refine eM ?_ ?_ | refine eF ?_ ?_ ?_ | refine eN ?_ | refine eL ?_ ?_ ?_ | refine eA ?_ ?_ | refine IWk.mk ⟨_, hp, rfl⟩ ?_ ?_) | refine IWk.mk ⟨_, hp, rfl⟩ ?_ ?_)
            all_goals first | with_reducible rfl | omega | exact Or.inl (by decide) | (simp; done) | rfl | skip
            rw [atF_end]
          · all_goals repeat' (first | exact True.intro | refine And.intro ?_ ?_ | (intro _u; clear _u) | (with_reducible first | refine eM ?_ ?_ | refine eF ?_ ?_ ?_ | refine eN ?_ | refine eL ?_ ?_ ?_ | refine eA ?_ ?_ | refine IWk.mk ⟨_, hp, rfl⟩ ?_ ?_) | refine IWk.mk ⟨_, hp, rfl⟩ ?_ ?_)
            all_goals first | with_reducible rfl | omega | exact Or.inl (by decide) | (simp; done) | rfl | skip
          · intro m hm
            dsimp only
            refine sh ?_
            refine cS (fun h5 => ?_) (fun h5 => ?_)
            · obtain ⟨n, rfl⟩ : ∃ n, m = n + 1 := ⟨m - 1, by omega⟩
              obtain ⟨y, hy⟩ : ∃ u_, rows[n]? = some u_ := ⟨_, List.getElem?_eq_getElem (by omega)⟩
              have hy' : rows[(((n + 1 : Nat) : Int) - 1).toNat]? = some y := by rw [show (((n + 1 : Nat) : Int) - 1).toNat = n by omega]; exact hy
              refine sh ?_
              refine eget_map hy' ?_
              refine sh ?_
              refine eget_map hx ?_
              have e := atF_step (h := x.mesh) hy
              refine sh ?_
              refine cS (fun h6 => ?_) (fun h6 => ?_)
              · refine sh ?_
                refine nX (n) ?_ ?_ ⟨_, hp, rfl⟩ ?_ ?_
                · omega
                · omega
                · all_goals repeat' (first | exact True.intro | refine And.intro ?_ ?_ | (intro _u; clear _u) | (with_reducible first | refine eM ?_ ?_ | refine eF ?_ ?_ ?_ | refine eN ?_ | refine eL ?_ ?_ ?_ | refine eA ?_ ?_ | refine IWk.mk ⟨_, hp, rfl⟩ ?_ ?_) | refine IWk.mk ⟨_, hp, rfl⟩ ?_ ?_)
                  all_goals first | with_reducible rfl | omega | exact Or.inl (by decide) | (simp; done) | rfl | skip
                  all_goals first | (rw [e, if_pos h6]; done) | omega
                · all_goals repeat' (first | exact True.intro | refine And.intro ?_ ?_ | (intro _u; clear _u) | (with_reducible first | refine eM ?_ ?_ | refine eF ?_ ?_ ?_ | refine eN ?_ | refine eL ?_ ?_ ?_ | refine eA ?_ ?_ | refine IWk.mk ⟨_, hp, rfl⟩ ?_ ?_) | refine IWk.mk ⟨_, hp, rfl⟩ ?_ ?_)
                  all_goals first | with_reducible rfl | omega | exact Or.inl (by decide) | (simp; done) | rfl | skip
              · refine sh ?_
                refine nX (n) ?_ ?_ ⟨_, hp, rfl⟩ ?_ ?_
                · omega
                · omega
                · all_goals repeat' (first | exact True.intro | refine And.intro ?_ ?_ | (intro _u; clear _u) | (with_reducible first | refine eM ?_ ?_ | refine eF ?_ ?_ ?_ | refine eN ?_ | refine eL ?_ ?_ ?_ | refine eA ?_ ?_ | refine IWk.mk ⟨_, hp, rfl⟩ ?_ ?_) | refine IWk.mk ⟨_, hp, rfl⟩ ?_ ?_)
                  all_goals first | with_reducible rfl | omega | exact Or.inl (by decide) | (simp; done) | rfl | skip
                  all_goals first | (rw [e, if_neg h6]; done) | omega
                · all_goals repeat' (first | exact True.intro | refine And.intro ?_ ?_ | (intro _u; clear _u) | (with_reducible first | refine eM ?_ ?_ | refine eF ?_ ?_ ?_ | refine eN ?_ | refine eL ?_ ?_ ?_ | refine eA ?_ ?_ | refine IWk.mk ⟨_, hp, rfl⟩ ?_ ?_) | refine IWk.mk ⟨_, hp, rfl⟩ ?_ ?_)
                  all_goals first | with_reducible rfl | omega | exact Or.inl (by decide) | (simp; done) | rfl | skip
            · rw [show m = 0 by omega]
              cases hf : findR rows x.mesh with
              | none =>
                rw [atF_none hf]
                rw [pv1 hf, if_pos (by decide)] at h3
                subst h3
                refine sh ?_
                refine acnd_t (by rfl) ?_
                refine sh ?_
                exact rT
              | some r =>
                obtain ⟨i, e1, e2⟩ := atF_some hf
                rw [e1]
                have hil := (List.getElem?_eq_some_iff.1 e2).1
                refine sh ?_
                refine acnd_f (by simp) ?_
                refine sh ?_
                refine eget_map e2 ?_
                refine sh ?_
                refine cS (fun g1 => ?_) (fun g1 => ?_)
                · rw [pv2 hf g1, if_pos (by decide)] at h3
                  subst h3
                  refine sh ?_
                  exact rT
                · skip
                  refine sh ?_
                  refine eget_map e2 ?_
                  refine sh ?_
                  refine ICall.pure h.n198.o198.hb (rcheck13_c h.n198 r.a.m) rfl ?_
                  refine sh ?_
                  refine cS (fun g2 => ?_) (fun g2 => ?_)
                  · rw [pv3 hf g1 g2, if_pos g2] at h3
                    subst h3
                    refine sh ?_
                    exact rT
                  · have hm := mchk_may g2
                    have hv := hm.v
                    have ht := hm.t
                    refine sh ?_
                    refine lPa 100 (fun n : Nat => n ≤ r.a.m.v.length ∧ ∀ (j : Nat) (u : T3), j < n → r.a.m.v[j]? = some u → (place4 x.t u).2 = 0) (fun n => ⟨[(1, .isl 40 (slR rows)), (4, .loc 0 1 0 0), (5, .loc 1 1 0 0), (7, .isl 16 (sIn A)), (9, .osl 2 acc.length), (10, .int .i64 k), (13, .loc 3 1 0 0), (15, .int .i64 n)], [(3, .var (R.ty 25) r.a.m.row), (2, .arr (R.ty 26) 3 (slc3 acc)), (1, .var (R.ty 26) (t3 z3)), (0, .var (R.ty 26) (t3 z3))], 4⟩) (fun n => r.a.m.v.length - n) (0) ?_ ?_
                    · exact ⟨by omega, fun j u hj => by omega⟩
                    · rintro n ⟨b1, b2⟩
                      dsimp only at b1 b2 ⊢
                      refine sh ?_
                      refine cS (fun b3 => ?_) (fun b3 => ?_)
                      · obtain ⟨v, hv_⟩ : ∃ u_, r.a.m.v[n]? = some u_ := ⟨_, List.getElem?_eq_getElem (by omega)⟩
                        refine sh ?_
                        refine eget_map hx ?_
                        refine sh ?_
                        refine eget_map hv_ ?_
                        refine sh ?_
                        refine ICall.pure h.n242.o242.hb (rplace4_c h.n242 hxi (p := v) (hm.pI (List.mem_of_getElem? hv_))) rfl ?_
                        have ep := perr_take hv_ b2
                        refine sh ?_
                        refine cS (fun b4 => ?_) (fun b4 => ?_)
                        · rw [if_pos b4] at ep
                          rw [pv4 hf g1 g2 (by rw [ep]; exact b4), ep, if_pos b4] at h3
                          subst h3
                          refine sh ?_
                          exact rT
                        · refine sh ?_
                          refine nXa (n + 1) ?_ ?_
                          · refine ⟨by omega, fun j u hj hu => ?_⟩
                            by_cases e : j = n
                            · subst e
                              rw [hv_] at hu
                              cases hu
                              exact b4
                            · exact b2 j u (by omega) hu
                          · omega
                      · have hz : perr x.t r.a.m.v = 0 := perr_zero fun j u hu => b2 j u (by have := (List.getElem?_eq_some_iff.1 hu).1; omega) hu
                        rw [pv5 hf g1 g2 hz, if_neg (by simp)] at h3
                        refine sh ?_
                        refine ILoop.inv 200 (fun i : Nat => i ≤ r.a.m.t.length) (fun i => ⟨[(1, .isl 40 (slR rows)), (4, .loc 0 1 0 0), (5, .loc 1 1 0 0), (7, .isl 16 (sIn A)), (9, .osl 2 (acc ++ (r.a.m.t.take i).flatMap (tri4 x.t r.a.m)).length), (10, .int .i64 k), (13, .loc 3 1 0 0), (18, .int .i64 i)], [(3, .var (R.ty 25) r.a.m.row), (2, .arr (R.ty 26) 3 (slc3 (acc ++ (r.a.m.t.take i).flatMap (tri4 x.t r.a.m)))), (1, .var (R.ty 26) (t3 z3)), (0, .var (R.ty 26) (t3 z3))], 4⟩) (fun i => r.a.m.t.length - i) (0) ?_ ⟨⟨_, hp, rfl⟩, ?_, ?_⟩ ?_
                        · omega
                        · all_goals repeat' (first | exact True.intro | refine And.intro ?_ ?_ | (intro _u; clear _u) | (with_reducible first | refine eM ?_ ?_ | refine eF ?_ ?_ ?_ | refine eN ?_ | refine eL ?_ ?_ ?_ | refine eA ?_ ?_ | refine IWk.mk ⟨_, hp, rfl⟩ ?_ ?_) | refine IWk.mk ⟨_, hp, rfl⟩ ?_ ?_)
                          all_goals first | with_reducible rfl | omega | exact Or.inl (by decide) | (simp; done) | rfl | skip
                        · all_goals repeat' (first | exact True.intro | refine And.intro ?_ ?_ | (intro _u; clear _u) | (with_reducible first | refine eM ?_ ?_ | refine eF ?_ ?_ ?_ | refine eN ?_ | refine eL ?_ ?_ ?_ | refine eA ?_ ?_ | refine IWk.mk ⟨_, hp, rfl⟩ ?_ ?_) | refine IWk.mk ⟨_, hp, rfl⟩ ?_ ?_)
                          all_goals first | with_reducible rfl | omega | exact Or.inl (by decide) | (simp; done) | rfl | skip
                          all_goals simp
                        · intro i b5
                          dsimp only
                          refine sh ?_
                          refine cS (fun b6 => ?_) (fun b6 => ?_)
                          · obtain ⟨t, ht_⟩ : ∃ u_, r.a.m.t[i]? = some u_ := ⟨_, List.getElem?_eq_getElem (by omega)⟩
                            have htm := List.mem_of_getElem? ht_
                            have htl := tri4_len x.t r.a.m (r.a.m.t.take i)
                            rw [List.length_take] at htl
                            have es := take_succ_get ht_
                            generalize hB : acc ++ (r.a.m.t.take i).flatMap (tri4 x.t r.a.m) = B
                            have hBl : B.length ≤ 192 * k + 192 := by rw [← hB, List.length_append]; omega
                            have hB2 : acc ++ (r.a.m.t.take (i + 1)).flatMap (tri4 x.t r.a.m) = B ++ tri4 x.t r.a.m t := by rw [es, List.flatMap_append, ← List.append_assoc, hB]; simp
                            refine sh ?_
                            refine lPa 100 (fun c : Nat => c ≤ 3) (fun c => ⟨[(1, .isl 40 (slR rows)), (4, .loc 0 1 0 0), (5, .loc 1 1 0 0), (7, .isl 16 (sIn A)), (9, .osl 2 (B ++ (tri4 x.t r.a.m t).take c).length), (10, .int .i64 k), (13, .loc 3 1 0 0), (18, .int .i64 i), (19, .int .i64 c)], [(3, .var (R.ty 25) r.a.m.row), (2, .arr (R.ty 26) 3 (slc3 (B ++ (tri4 x.t r.a.m t).take c))), (1, .var (R.ty 26) (t3 z3)), (0, .var (R.ty 26) (t3 z3))], 4⟩) (fun c => 3 - c) (0) ?_ ?_
                            · omega
                            · intro c b7
                              dsimp only
                              refine sh ?_
                              refine cS (fun b8 => ?_) (fun b8 => ?_)
                              · obtain ⟨v, p1, p2, p3, p4⟩ := pt4_get (a := x.t) (c := c) hm htm (by omega)
                                have p5 := tri4_at (a := x.t) (m := r.a.m) (t := t) (c := c) (by omega)
                                have p6 := take_succ_get p5
                                have p7 : (B ++ (tri4 x.t r.a.m t).take c).length ≤ 192 * k + 195 := by rw [List.length_append, List.length_take]; simp [tri4]; omega
                                obtain hc | hc | hc : c = 0 ∨ c = 1 ∨ c = 2 := by omega
                                · subst hc
                                  have pb := hm.pt t htm
                                  refine sh ?_
                                  refine eget_map hx ?_
                                  refine sh ?_
                                  refine eget_map ht_ ?_
                                  refine sh ?_
                                  refine eget_map p1 ?_
                                  refine sh ?_
                                  refine ICall.pure h.n242.o242.hb (rplace4_c h.n242 hxi (p := v) (hm.pI (List.mem_of_getElem? p1))) rfl ?_
                                  refine sh ?_
                                  refine nX (1) ?_ ?_ ⟨_, hp, rfl⟩ ?_ ?_
                                  · omega
                                  · omega
                                  · all_goals repeat' (first | exact True.intro | refine And.intro ?_ ?_ | (intro _u; clear _u) | (with_reducible first | refine eM ?_ ?_ | refine eF ?_ ?_ ?_ | refine eN ?_ | refine eL ?_ ?_ ?_ | refine eA ?_ ?_ | refine IWk.mk ⟨_, hp, rfl⟩ ?_ ?_) | refine IWk.mk ⟨_, hp, rfl⟩ ?_ ?_)
                                    all_goals first | with_reducible rfl | omega | exact Or.inl (by decide) | (simp; done) | rfl | skip
                                    all_goals rw [p6]; simp
                                  · all_goals repeat' (first | exact True.intro | refine And.intro ?_ ?_ | (intro _u; clear _u) | (with_reducible first | refine eM ?_ ?_ | refine eF ?_ ?_ ?_ | refine eN ?_ | refine eL ?_ ?_ ?_ | refine eA ?_ ?_ | refine IWk.mk ⟨_, hp, rfl⟩ ?_ ?_) | refine IWk.mk ⟨_, hp, rfl⟩ ?_ ?_)
                                    all_goals first | with_reducible rfl | omega | exact Or.inl (by decide) | (simp; done) | rfl | skip
                                    all_goals (rw [p6, ← p2]; simp [slc3, t3])
                                · subst hc
                                  have pb := hm.pt t htm
                                  refine sh ?_
                                  refine eget_map hx ?_
                                  refine sh ?_
                                  refine eget_map ht_ ?_
                                  refine sh ?_
                                  refine eget_map p1 ?_
                                  refine sh ?_
                                  refine ICall.pure h.n242.o242.hb (rplace4_c h.n242 hxi (p := v) (hm.pI (List.mem_of_getElem? p1))) rfl ?_
                                  refine sh ?_
                                  refine nX (2) ?_ ?_ ⟨_, hp, rfl⟩ ?_ ?_
                                  · omega
                                  · omega
                                  · all_goals repeat' (first | exact True.intro | refine And.intro ?_ ?_ | (intro _u; clear _u) | (with_reducible first | refine eM ?_ ?_ | refine eF ?_ ?_ ?_ | refine eN ?_ | refine eL ?_ ?_ ?_ | refine eA ?_ ?_ | refine IWk.mk ⟨_, hp, rfl⟩ ?_ ?_) | refine IWk.mk ⟨_, hp, rfl⟩ ?_ ?_)
                                    all_goals first | with_reducible rfl | omega | exact Or.inl (by decide) | (simp; done) | rfl | skip
                                    all_goals rw [p6]; simp
                                  · all_goals repeat' (first | exact True.intro | refine And.intro ?_ ?_ | (intro _u; clear _u) | (with_reducible first | refine eM ?_ ?_ | refine eF ?_ ?_ ?_ | refine eN ?_ | refine eL ?_ ?_ ?_ | refine eA ?_ ?_ | refine IWk.mk ⟨_, hp, rfl⟩ ?_ ?_) | refine IWk.mk ⟨_, hp, rfl⟩ ?_ ?_)
                                    all_goals first | with_reducible rfl | omega | exact Or.inl (by decide) | (simp; done) | rfl | skip
                                    all_goals (rw [p6, ← p2]; simp [slc3, t3])
                                · subst hc
                                  have pb := hm.pt t htm
                                  refine sh ?_
                                  refine eget_map hx ?_
                                  refine sh ?_
                                  refine eget_map ht_ ?_
                                  refine sh ?_
                                  refine eget_map p1 ?_
                                  refine sh ?_
                                  refine ICall.pure h.n242.o242.hb (rplace4_c h.n242 hxi (p := v) (hm.pI (List.mem_of_getElem? p1))) rfl ?_
                                  refine sh ?_
                                  refine nX (3) ?_ ?_ ⟨_, hp, rfl⟩ ?_ ?_
                                  · omega
                                  · omega
                                  · all_goals repeat' (first | exact True.intro | refine And.intro ?_ ?_ | (intro _u; clear _u) | (with_reducible first | refine eM ?_ ?_ | refine eF ?_ ?_ ?_ | refine eN ?_ | refine eL ?_ ?_ ?_ | refine eA ?_ ?_ | refine IWk.mk ⟨_, hp, rfl⟩ ?_ ?_) | refine IWk.mk ⟨_, hp, rfl⟩ ?_ ?_)
                                    all_goals first | with_reducible rfl | omega | exact Or.inl (by decide) | (simp; done) | rfl | skip
                                    all_goals rw [p6]; simp
                                  · all_goals repeat' (first | exact True.intro | refine And.intro ?_ ?_ | (intro _u; clear _u) | (with_reducible first | refine eM ?_ ?_ | refine eF ?_ ?_ ?_ | refine eN ?_ | refine eL ?_ ?_ ?_ | refine eA ?_ ?_ | refine IWk.mk ⟨_, hp, rfl⟩ ?_ ?_) | refine IWk.mk ⟨_, hp, rfl⟩ ?_ ?_)
                                    all_goals first | with_reducible rfl | omega | exact Or.inl (by decide) | (simp; done) | rfl | skip
                                    all_goals (rw [p6, ← p2]; simp [slc3, t3])
                              · have hc3 : c = 3 := by omega
                                subst hc3
                                have e3 : (tri4 x.t r.a.m t).take 3 = tri4 x.t r.a.m t := rfl
                                rw [e3, ← hB2]
                                refine sh ?_
                                refine nXa (i + 1) ?_ ?_
                                · omega
                                · omega
                          · rw [show i = r.a.m.t.length by omega, List.take_length]
                            have htl := tri4_len x.t r.a.m r.a.m.t
                            refine sh ?_
                            refine nXa ((k + 1, acc ++ r.a.m.t.flatMap (tri4 x.t r.a.m))) ?_ ?_
                            · exact ⟨by simp only [List.length_append]; omega, h3⟩
                            · dsimp only; omega
        · rw [List.drop_of_length_le (by omega), boxF] at h3
          subst h3
          refine sh ?_
          refine cM true [] ((rbox20_c h.n354 acc (by omega)).mc h.n354.o354.hb) ?_
          repeat ((intro _u; clear _u); first | refine eK ?_ | refine eP ?_)
          refine sh ?_
          exact rT
end Go.UM

namespace Go.UM
open Go.AM
set_option maxRecDepth 4000
def i8 (x : Int) : Prop := -128 ≤ x ∧ x ≤ 127
structure M9 where
  (m0 m1 m2 m3 m4 m5 m6 m7 m8 : Int)
def M9.want (m : M9) (t q : T3) : T3 := ⟨m.m0 * q.a + m.m1 * q.b + m.m2 * q.c + t.a, m.m3 * q.a + m.m4 * q.b + m.m5 * q.c + t.b, m.m6 * q.a + m.m7 * q.b + m.m8 * q.c + t.c⟩
def i16 (x : Int) : Prop := -32768 ≤ x ∧ x ≤ 32767
end Go.UM

namespace Go.UM
open Go.AM
set_option maxRecDepth 4000
end Go.UM

namespace Go.UM
open Go.AM
set_option maxRecDepth 4000
end Go.UM

namespace Go.UM
open Go.AM
set_option maxRecDepth 4000
def fewR (r : Rw) : Rw := ⟨r.h, r.f, ⟨r.a.k, r.a.m.few, r.a.x, r.a.mt, r.a.li⟩⟩
theorem flattens41_c {R : Env} (h : N339 R) (l : List Gr) (hi : ∀ g ∈ l, g.t.I) (rows : List Rw) : R.Pc 339 [.isl 16 (slG l), .isl 40 (slR rows)] (.bool true) :=
  h.o339.enter 300 rfl fun X bb hfit hp => by
    refine sh ?_
    refine ICall.pure h.n326.o326.hb (gfew_c h.n326 l) rfl ?_
    have hl : (l.take 30).length ≤ 30 := by simp; omega
    have hi : ∀ g ∈ l.take 30, g.t.I := fun g hg => hi g (List.mem_of_mem_take hg)
    generalize l.take 30 = l at *
    refine sh ?_
    refine lPa 200 (fun k : Nat => k ≤ rows.length ∧ k ≤ 6) (fun k => ⟨[(0, .isl 16 (slG l)), (1, .isl 40 (slR rows)), (5, .osl 0 k), (6, .int .i64 k)], [(0, .arr (R.ty 45) 40 (slR ((rows.take k).map fewR)))], 1⟩) (fun k => rows.length - k) (0) ?_ ?_
    · exact ⟨by omega, by omega⟩
    · rintro k ⟨h1, h2⟩
      dsimp only at h1 h2 ⊢
      by_cases h3 : k < rows.length ∧ k < 6
      · refine sh ?_
        refine acnd_t (by (simp; omega)) ?_
        refine sh ?_
        refine acnd_t (by (simp; omega)) ?_
        obtain ⟨r, hr⟩ : ∃ u_, rows[k]? = some u_ := ⟨_, List.getElem?_eq_getElem (by first | omega | (simp <;> omega))⟩
        refine sh ?_
        refine eget_map hr ?_
        refine sh ?_
        refine ICall.pure h.n191.o191.hb (few13_c h.n191 r.a.m) rfl ?_
        refine sh ?_
        refine nX (k + 1) ?_ ?_ ⟨_, hp, rfl⟩ ?_ ?_
        · omega
        · omega
        · all_goals repeat' (first | exact True.intro | refine And.intro ?_ ?_ | (intro _u; clear _u) | (with_reducible first | refine eM ?_ ?_ | refine eF ?_ ?_ ?_ | refine eN ?_ | refine eL ?_ ?_ ?_ | refine eA ?_ ?_ | refine IWk.mk ⟨_, hp, rfl⟩ ?_ ?_) | refine IWk.mk ⟨_, hp, rfl⟩ ?_ ?_)
          all_goals first | with_reducible rfl | omega | exact Or.inl (by decide) | (simp; done) | rfl | skip
          simp; omega
        · all_goals repeat' (first | exact True.intro | refine And.intro ?_ ?_ | (intro _u; clear _u) | (with_reducible first | refine eM ?_ ?_ | refine eF ?_ ?_ ?_ | refine eN ?_ | refine eL ?_ ?_ ?_ | refine eA ?_ ?_ | refine IWk.mk ⟨_, hp, rfl⟩ ?_ ?_) | refine IWk.mk ⟨_, hp, rfl⟩ ?_ ?_)
          all_goals first | with_reducible rfl | omega | exact Or.inl (by decide) | (simp; done) | rfl | skip
          rw [take_succ_get hr]
          simp [slR, Rw.row, fewR]
      · by_cases h4 : k < rows.length
        · refine sh ?_
          refine acnd_t (by simpa using h4) ?_
          refine sh ?_
          refine acnd_f (by (simp; omega)) ?_
          refine sh ?_
          refine ICall.let [0] rfl hp rfl ?_
          repeat ((intro _u; clear _u); first | refine eZ ?_ | refine eZ ?_ (by simp; omega) | refine FrzC.drop ?_)
          generalize hq : (rows.take k).map fewR = q
          have hql : q.length ≤ 1000 := by rw [← hq]; simp; omega
          have hfl := flat_len l
          refine sh ?_
          refine ICall.pure h.n327.o327.hb (gflatten_c h.n327 l (by omega) hi) rfl ?_
          refine sh ?_
          refine ICall.pure h.n340.o340.hb (rgflatten_c h.n340 l (by omega) hi) rfl ?_
          refine sh ?_
          refine ICall.pure h.n341.o341.hb (gbox_c h.n341 l (by omega) hi q hql) rfl ?_
          refine sh ?_
          refine ICall.pure h.n342.o342.hb (rgbox_c h.n342 l (by omega) hi q hql) rfl ?_
          refine sh ?_
          refine ICall.pure h.n343.o343.hb (sameIn_c h.n343 (flat4 l).1 (by omega)) rfl ?_
          refine sh ?_
          refine acnd_t (by simp) ?_
          refine sh ?_
          refine acnd_t (by simp) ?_
          refine sh ?_
          refine acnd_t (by simp) ?_
          refine sh ?_
          refine acnd_t (by simp) ?_
          refine sh ?_
          refine ICall.pure h.n328.o328.hb (works41_c h.n328) rfl ?_
          refine sh ?_
          exact rT
        · refine sh ?_
          refine acnd_f (by simpa using h4) ?_
          refine sh ?_
          refine ICall.let [0] rfl hp rfl ?_
          repeat ((intro _u; clear _u); first | refine eZ ?_ | refine eZ ?_ (by simp; omega) | refine FrzC.drop ?_)
          generalize hq : (rows.take k).map fewR = q
          have hql : q.length ≤ 1000 := by rw [← hq]; simp; omega
          have hfl := flat_len l
          refine sh ?_
          refine ICall.pure h.n327.o327.hb (gflatten_c h.n327 l (by omega) hi) rfl ?_
          refine sh ?_
          refine ICall.pure h.n340.o340.hb (rgflatten_c h.n340 l (by omega) hi) rfl ?_
          refine sh ?_
          refine ICall.pure h.n341.o341.hb (gbox_c h.n341 l (by omega) hi q hql) rfl ?_
          refine sh ?_
          refine ICall.pure h.n342.o342.hb (rgbox_c h.n342 l (by omega) hi q hql) rfl ?_
          refine sh ?_
          refine ICall.pure h.n343.o343.hb (sameIn_c h.n343 (flat4 l).1 (by omega)) rfl ?_
          refine sh ?_
          refine acnd_t (by simp) ?_
          refine sh ?_
          refine acnd_t (by simp) ?_
          refine sh ?_
          refine acnd_t (by simp) ?_
          refine sh ?_
          refine acnd_t (by simp) ?_
          refine sh ?_
          refine ICall.pure h.n328.o328.hb (works41_c h.n328) rfl ?_
          refine sh ?_
          exact rT
end Go.UM

namespace Go.UM
open Go.AM
end Go.UM
