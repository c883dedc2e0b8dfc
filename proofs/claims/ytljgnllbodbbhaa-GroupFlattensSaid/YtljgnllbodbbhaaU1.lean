/- Of the reckoning machine, and what is proved with it: texts joined by program. -/
import Derived.Test.YtljgnllbodbbhaaU0
import Derived.Test.YtljgnllbodbbhaaK3
set_option linter.all false

namespace Go.UM
open Go.AM
set_option maxRecDepth 4000
theorem sgn_abs (a b : Int) : sgn (decide (a < 0) != decide (b < 0)) (absI a * absI b) = a * b := by
  rw [mul_abs a b]; unfold sgn
  cases (decide (a < 0) != decide (b < 0)) <;> simp
theorem abs_prod {a b : Int} (ha : I64 a) (hb : I64 b) : 0 ≤ absI a * absI b ∧ absI a * absI b ≤ 85070591730234615865843651857942052864 := by
  have := abs_mul_le (absI_in ha) (absI_in hb)
  omega
theorem abs_u64 {a : Int} (ha : I64 a) : U64 (absI a) := by have := absI_in ha; rw [u64_iff]; omega
theorem mul_c {R : Env} (h : N264 R) {a b : Int} (ha : I64 a) (hb : I64 b) : R.Pc 264 [.int .i64 a, .int .i64 b] (.agg (wrow (a * b))) :=
  h.o264.enter 60 rfl fun X bb hfit hp => by
    refine sh ?_
    refine ICall.pure h.n275.o275.hb (size_c h.n275 ha) rfl ?_
    refine sh ?_
    refine ICall.pure h.n275.o275.hb (size_c h.n275 hb) rfl ?_
    refine sh ?_
    refine ICall.pure h.n276.o276.hb (mul64_c h.n276 (abs_u64 ha) (abs_u64 hb)) rfl ?_
    have c := wsigned_c h.n277 (abs_prod ha hb) (decide (a < 0) != decide (b < 0))
    rw [sgn_abs] at c
    refine sh ?_
    refine ICall.pure h.n277.o277.hb c rfl ?_
    refine sh ?_
    exact rT
theorem int_y {R : Env} (h : N274 R) {v : Int} (hv : I64 v) : R.Pc 274 [.agg (wrow v)] (.tup [.int .i64 v, .bool true]) :=
  h.o274.enter 60 rfl fun X bb hfit hp => by
    rw [i64_iff] at hv
    have h2 := wlo_in v
    refine sh ?_
    refine iwr_eq (m := v) (by rw [wr_i64]; unfold wlo; omega) ?_
    refine sh ?_
    refine acnd_f (by (rw [shr63 .i64 (by decide)]; simp; unfold whi; omega)) ?_
    refine sh ?_
    exact rT
theorem int_n {R : Env} (h : N274 R) {v : Int} (hv : W126 v) (hn : ¬ I64 v) : R.Pc 274 [.agg (wrow v)] (.tup [.int .i64 0, .bool false]) :=
  h.o274.enter 60 rfl fun X bb hfit hp => by
    have h1 := whi_in hv
    have h2 := wlo_in v
    rw [i64_iff] at hn
    refine sh ?_
    refine iwr_any ?_
    refine sh ?_
    refine acnd_t (by (rw [shr63 .i64 (by decide), wr_i64]; simp; unfold whi wlo; omega)) ?_
    refine sh ?_
    exact rT
theorem near_c {R : Env} (h : N265 R) {v : Int} (hv : W126 v) : R.Pc 265 [.agg (wrow v)] (.int .i64 (sat v)) :=
  h.o265.enter 60 rfl fun X bb hfit hp => by
    by_cases hi : I64 v
    · refine sh ?_
      refine ICall.pure h.n274.o274.hb (int_y h.n274 hi) rfl ?_
      refine sh ?_
      refine rT ?_
      all_goals repeat' (first | exact True.intro | refine And.intro ?_ ?_ | (intro _u; clear _u) | (with_reducible first | refine eM ?_ ?_ | refine eF ?_ ?_ ?_ | refine eN ?_ | refine eL ?_ ?_ ?_ | refine eA ?_ ?_ | refine IWk.mk ⟨_, hp, rfl⟩ ?_ ?_) | refine IWk.mk ⟨_, hp, rfl⟩ ?_ ?_)
      all_goals first | with_reducible rfl | omega | exact Or.inl (by decide) | (simp; done) | rfl | skip
      all_goals exact (sat_id hi).symm
    · have hi2 := hi
      rw [i64_iff] at hi2
      refine sh ?_
      refine ICall.pure h.n274.o274.hb (int_n h.n274 hv hi) rfl ?_
      refine sh ?_
      refine cS (fun h1 => ?_) (fun h1 => ?_)
      · have h2 : v < 0 := by unfold whi at h1; omega
        refine sh ?_
        refine rT ?_
        all_goals repeat' (first | exact True.intro | refine And.intro ?_ ?_ | (intro _u; clear _u) | (with_reducible first | refine eM ?_ ?_ | refine eF ?_ ?_ ?_ | refine eN ?_ | refine eL ?_ ?_ ?_ | refine eA ?_ ?_ | refine IWk.mk ⟨_, hp, rfl⟩ ?_ ?_) | refine IWk.mk ⟨_, hp, rfl⟩ ?_ ?_)
        all_goals first | with_reducible rfl | omega | exact Or.inl (by decide) | (simp; done) | rfl | skip
        all_goals (unfold sat; rw [if_neg (by omega), if_pos (by omega)])
      · have h2 : 0 ≤ v := by unfold whi at h1; omega
        refine sh ?_
        refine rT ?_
        all_goals repeat' (first | exact True.intro | refine And.intro ?_ ?_ | (intro _u; clear _u) | (with_reducible first | refine eM ?_ ?_ | refine eF ?_ ?_ ?_ | refine eN ?_ | refine eL ?_ ?_ ?_ | refine eA ?_ ?_ | refine IWk.mk ⟨_, hp, rfl⟩ ?_ ?_) | refine IWk.mk ⟨_, hp, rfl⟩ ?_ ?_)
        all_goals first | with_reducible rfl | omega | exact Or.inl (by decide) | (simp; done) | rfl | skip
        all_goals (unfold sat; rw [if_pos (by omega)])
theorem or_shift' {hi lo : Int} (hh : 0 ≤ hi ∧ hi ≤ 4294967295) (hl : 0 ≤ lo ∧ lo ≤ 4294967295) : bit2 .or .u64 lo (hi * 4294967296) = hi * 4294967296 + lo := by
  rw [← or_shift hh hl, or_u64 ⟨by omega, by omega⟩ ⟨by omega, by omega⟩, or_u64 ⟨by omega, by omega⟩ ⟨by omega, by omega⟩, Nat.or_comm]
theorem shr_c {R : Env} (h : N285 R) {v : Int} (hv : W126 v) : R.Pc 285 [.agg (wrow v), .int .i64 32] (.agg (wrow (v / 4294967296))) :=
  h.o285.enter 60 rfl fun X bb hfit hp => by
    have h1 := whi_in hv
    have h2 := wlo_in v
    refine sh ?_
    refine acnd_f (by decide) ?_
    refine sh ?_
    refine acnd_f (by decide) ?_
    have e1 : shrI .i64 (whi v) (max 32 0) = whi (v / 4294967296) := by rw [show max (32 : Int) 0 = 32 from rfl, shr32 .i64 (by decide)]; unfold whi; omega
    have e2 : bit2 .or .u64 (shrI .u64 (wlo v) (max 32 0)) (shlI .u64 (wr .u64 (whi v)) (64 - max 32 0)) = wlo (v / 4294967296) := by
      rw [show max (32 : Int) 0 = 32 from rfl, shr32 .u64 (by decide)]
      have e : shlI .u64 (wr .u64 (whi v)) (64 - 32) = (whi v % 4294967296) * 4294967296 := by
        rw [show (64 - 32 : Int) = 32 from rfl, shl32, wr_u64]; omega
      rw [e, or_shift' (by omega) (by omega)]
      unfold whi wlo; omega
    refine sh ?_
    refine iwr_any ?_
    refine sh ?_
    refine rT ?_
    all_goals repeat' (first | exact True.intro | refine And.intro ?_ ?_ | (intro _u; clear _u) | (with_reducible first | refine eM ?_ ?_ | refine eF ?_ ?_ ?_ | refine eN ?_ | refine eL ?_ ?_ ?_ | refine eA ?_ ?_ | refine IWk.mk ⟨_, hp, rfl⟩ ?_ ?_) | refine IWk.mk ⟨_, hp, rfl⟩ ?_ ?_)
    all_goals first | with_reducible rfl | omega | exact Or.inl (by decide) | (simp; done) | rfl | skip
    all_goals first | exact e1 | exact e2
def sums (s : Int) (l : List Int) : Int := l.foldl tadd s
theorem fadd_c {R : Env} (h : N267 R) (l : List Int) (hl : l.length ≤ 1000) (hi : ∀ x ∈ l, I64 x) : R.Pc 267 [.isl 1 (slcK .i64 l)] (.int .i64 (sums 0 l)) :=
  h.o267.enter 100 rfl fun X bb hfit hp => by
    refine sh ?_
    refine lPa 100 (fun s : Nat × Int => s.1 ≤ l.length ∧ I64 s.2 ∧ sums 0 (l.take s.1) = s.2) (fun s => ⟨[(3, .int .i64 s.2), (7, .isl 1 (slcK .i64 l)), (8, .int .i64 l.length), (9, .int .i64 s.1)], [], 0⟩) (fun s => l.length - s.1) ((0, 0)) ?_ ?_
    · exact ⟨Nat.zero_le _, ⟨by decide, by decide⟩, rfl⟩
    · rintro ⟨k, s⟩ ⟨h1, h2, h3⟩
      dsimp only at h1 h2 h3 ⊢
      refine sh ?_
      refine cS (fun h4 => ?_) (fun h4 => ?_)
      · obtain ⟨x, hx⟩ : ∃ u_, l[k]? = some u_ := ⟨_, List.getElem?_eq_getElem (by first | omega | (simp <;> omega))⟩
        refine sh ?_
        refine eget_map hx ?_
        have ix := hi x (List.mem_of_getElem? hx)
        have hnx : sums 0 (l.take (k + 1)) = tadd s x := by rw [take_succ_get hx, sums, List.foldl_append]; unfold sums at h3; rw [h3]; rfl
        rw [i64_iff] at h2 ix
        refine sh ?_
        refine iwr_any ?_
        refine sh ?_
        refine cS (fun a1 => ?_) (fun a1 => ?_)
        · refine sh ?_
          refine cS (fun a2 => ?_) (fun a2 => ?_)
          · refine sh ?_
            refine cS (fun a3 => ?_) (fun a3 => ?_)
            · refine sh ?_
              refine nX ((k + 1, tadd s x)) ?_ ?_ ⟨_, hp, rfl⟩ ?_ ?_
              · exact ⟨by omega, tadd_in s x, hnx⟩
              · omega
              · all_goals repeat' (first | exact True.intro | refine And.intro ?_ ?_ | (intro _u; clear _u) | (with_reducible first | refine eM ?_ ?_ | refine eF ?_ ?_ ?_ | refine eN ?_ | refine eL ?_ ?_ ?_ | refine eA ?_ ?_ | refine IWk.mk ⟨_, hp, rfl⟩ ?_ ?_) | refine IWk.mk ⟨_, hp, rfl⟩ ?_ ?_)
                all_goals first | with_reducible rfl | omega | exact Or.inl (by decide) | (simp; done) | rfl | skip
                all_goals (unfold tadd sat; simp only [wr_i64] at *; split <;> first | omega | (split <;> omega))
              · all_goals repeat' (first | exact True.intro | refine And.intro ?_ ?_ | (intro _u; clear _u) | (with_reducible first | refine eM ?_ ?_ | refine eF ?_ ?_ ?_ | refine eN ?_ | refine eL ?_ ?_ ?_ | refine eA ?_ ?_ | refine IWk.mk ⟨_, hp, rfl⟩ ?_ ?_) | refine IWk.mk ⟨_, hp, rfl⟩ ?_ ?_)
                all_goals first | with_reducible rfl | omega | exact Or.inl (by decide) | (simp; done) | rfl | skip
            · refine sh ?_
              refine acnd_f (by (simp; omega)) ?_
              refine sh ?_
              refine nX ((k + 1, tadd s x)) ?_ ?_ ⟨_, hp, rfl⟩ ?_ ?_
              · exact ⟨by omega, tadd_in s x, hnx⟩
              · omega
              · all_goals repeat' (first | exact True.intro | refine And.intro ?_ ?_ | (intro _u; clear _u) | (with_reducible first | refine eM ?_ ?_ | refine eF ?_ ?_ ?_ | refine eN ?_ | refine eL ?_ ?_ ?_ | refine eA ?_ ?_ | refine IWk.mk ⟨_, hp, rfl⟩ ?_ ?_) | refine IWk.mk ⟨_, hp, rfl⟩ ?_ ?_)
                all_goals first | with_reducible rfl | omega | exact Or.inl (by decide) | (simp; done) | rfl | skip
                all_goals (unfold tadd sat; simp only [wr_i64] at *; split <;> first | omega | (split <;> omega))
              · all_goals repeat' (first | exact True.intro | refine And.intro ?_ ?_ | (intro _u; clear _u) | (with_reducible first | refine eM ?_ ?_ | refine eF ?_ ?_ ?_ | refine eN ?_ | refine eL ?_ ?_ ?_ | refine eA ?_ ?_ | refine IWk.mk ⟨_, hp, rfl⟩ ?_ ?_) | refine IWk.mk ⟨_, hp, rfl⟩ ?_ ?_)
                all_goals first | with_reducible rfl | omega | exact Or.inl (by decide) | (simp; done) | rfl | skip
          · refine sh ?_
            refine acnd_f (by (simp; omega)) ?_
            refine sh ?_
            refine nX ((k + 1, tadd s x)) ?_ ?_ ⟨_, hp, rfl⟩ ?_ ?_
            · exact ⟨by omega, tadd_in s x, hnx⟩
            · omega
            · all_goals repeat' (first | exact True.intro | refine And.intro ?_ ?_ | (intro _u; clear _u) | (with_reducible first | refine eM ?_ ?_ | refine eF ?_ ?_ ?_ | refine eN ?_ | refine eL ?_ ?_ ?_ | refine eA ?_ ?_ | refine IWk.mk ⟨_, hp, rfl⟩ ?_ ?_) | refine IWk.mk ⟨_, hp, rfl⟩ ?_ ?_)
              all_goals first | with_reducible rfl | omega | exact Or.inl (by decide) | (simp; done) | rfl | skip
              all_goals (unfold tadd sat; simp only [wr_i64] at *; split <;> first | omega | (split <;> omega))
            · all_goals repeat' (first | exact True.intro | refine And.intro ?_ ?_ | (intro _u; clear _u) | (with_reducible first | refine eM ?_ ?_ | refine eF ?_ ?_ ?_ | refine eN ?_ | refine eL ?_ ?_ ?_ | refine eA ?_ ?_ | refine IWk.mk ⟨_, hp, rfl⟩ ?_ ?_) | refine IWk.mk ⟨_, hp, rfl⟩ ?_ ?_)
              all_goals first | with_reducible rfl | omega | exact Or.inl (by decide) | (simp; done) | rfl | skip
        · refine sh ?_
          refine cS (fun b1 => ?_) (fun b1 => ?_)
          · refine sh ?_
            refine cS (fun b2 => ?_) (fun b2 => ?_)
            · refine sh ?_
              refine cS (fun b3 => ?_) (fun b3 => ?_)
              · refine sh ?_
                refine nX ((k + 1, tadd s x)) ?_ ?_ ⟨_, hp, rfl⟩ ?_ ?_
                · exact ⟨by omega, tadd_in s x, hnx⟩
                · omega
                · all_goals repeat' (first | exact True.intro | refine And.intro ?_ ?_ | (intro _u; clear _u) | (with_reducible first | refine eM ?_ ?_ | refine eF ?_ ?_ ?_ | refine eN ?_ | refine eL ?_ ?_ ?_ | refine eA ?_ ?_ | refine IWk.mk ⟨_, hp, rfl⟩ ?_ ?_) | refine IWk.mk ⟨_, hp, rfl⟩ ?_ ?_)
                  all_goals first | with_reducible rfl | omega | exact Or.inl (by decide) | (simp; done) | rfl | skip
                  all_goals (unfold tadd sat; simp only [wr_i64] at *; split <;> first | omega | (split <;> omega))
                · all_goals repeat' (first | exact True.intro | refine And.intro ?_ ?_ | (intro _u; clear _u) | (with_reducible first | refine eM ?_ ?_ | refine eF ?_ ?_ ?_ | refine eN ?_ | refine eL ?_ ?_ ?_ | refine eA ?_ ?_ | refine IWk.mk ⟨_, hp, rfl⟩ ?_ ?_) | refine IWk.mk ⟨_, hp, rfl⟩ ?_ ?_)
                  all_goals first | with_reducible rfl | omega | exact Or.inl (by decide) | (simp; done) | rfl | skip
              · refine sh ?_
                refine nX ((k + 1, tadd s x)) ?_ ?_ ⟨_, hp, rfl⟩ ?_ ?_
                · exact ⟨by omega, tadd_in s x, hnx⟩
                · omega
                · all_goals repeat' (first | exact True.intro | refine And.intro ?_ ?_ | (intro _u; clear _u) | (with_reducible first | refine eM ?_ ?_ | refine eF ?_ ?_ ?_ | refine eN ?_ | refine eL ?_ ?_ ?_ | refine eA ?_ ?_ | refine IWk.mk ⟨_, hp, rfl⟩ ?_ ?_) | refine IWk.mk ⟨_, hp, rfl⟩ ?_ ?_)
                  all_goals first | with_reducible rfl | omega | exact Or.inl (by decide) | (simp; done) | rfl | skip
                  all_goals (unfold tadd sat; simp only [wr_i64] at *; split <;> first | omega | (split <;> omega))
                · all_goals repeat' (first | exact True.intro | refine And.intro ?_ ?_ | (intro _u; clear _u) | (with_reducible first | refine eM ?_ ?_ | refine eF ?_ ?_ ?_ | refine eN ?_ | refine eL ?_ ?_ ?_ | refine eA ?_ ?_ | refine IWk.mk ⟨_, hp, rfl⟩ ?_ ?_) | refine IWk.mk ⟨_, hp, rfl⟩ ?_ ?_)
                  all_goals first | with_reducible rfl | omega | exact Or.inl (by decide) | (simp; done) | rfl | skip
            · refine sh ?_
              refine nX ((k + 1, tadd s x)) ?_ ?_ ⟨_, hp, rfl⟩ ?_ ?_
              · exact ⟨by omega, tadd_in s x, hnx⟩
              · omega
              · all_goals repeat' (first | exact True.intro | refine And.intro ?_ ?_ | (intro _u; clear _u) | (with_reducible first | refine eM ?_ ?_ | refine eF ?_ ?_ ?_ | refine eN ?_ | refine eL ?_ ?_ ?_ | refine eA ?_ ?_ | refine IWk.mk ⟨_, hp, rfl⟩ ?_ ?_) | refine IWk.mk ⟨_, hp, rfl⟩ ?_ ?_)
                all_goals first | with_reducible rfl | omega | exact Or.inl (by decide) | (simp; done) | rfl | skip
                all_goals (unfold tadd sat; simp only [wr_i64] at *; split <;> first | omega | (split <;> omega))
              · all_goals repeat' (first | exact True.intro | refine And.intro ?_ ?_ | (intro _u; clear _u) | (with_reducible first | refine eM ?_ ?_ | refine eF ?_ ?_ ?_ | refine eN ?_ | refine eL ?_ ?_ ?_ | refine eA ?_ ?_ | refine IWk.mk ⟨_, hp, rfl⟩ ?_ ?_) | refine IWk.mk ⟨_, hp, rfl⟩ ?_ ?_)
                all_goals first | with_reducible rfl | omega | exact Or.inl (by decide) | (simp; done) | rfl | skip
          · refine sh ?_
            refine nX ((k + 1, tadd s x)) ?_ ?_ ⟨_, hp, rfl⟩ ?_ ?_
            · exact ⟨by omega, tadd_in s x, hnx⟩
            · omega
            · all_goals repeat' (first | exact True.intro | refine And.intro ?_ ?_ | (intro _u; clear _u) | (with_reducible first | refine eM ?_ ?_ | refine eF ?_ ?_ ?_ | refine eN ?_ | refine eL ?_ ?_ ?_ | refine eA ?_ ?_ | refine IWk.mk ⟨_, hp, rfl⟩ ?_ ?_) | refine IWk.mk ⟨_, hp, rfl⟩ ?_ ?_)
              all_goals first | with_reducible rfl | omega | exact Or.inl (by decide) | (simp; done) | rfl | skip
              all_goals (unfold tadd sat; simp only [wr_i64] at *; split <;> first | omega | (split <;> omega))
            · all_goals repeat' (first | exact True.intro | refine And.intro ?_ ?_ | (intro _u; clear _u) | (with_reducible first | refine eM ?_ ?_ | refine eF ?_ ?_ ?_ | refine eN ?_ | refine eL ?_ ?_ ?_ | refine eA ?_ ?_ | refine IWk.mk ⟨_, hp, rfl⟩ ?_ ?_) | refine IWk.mk ⟨_, hp, rfl⟩ ?_ ?_)
              all_goals first | with_reducible rfl | omega | exact Or.inl (by decide) | (simp; done) | rfl | skip
      · rw [List.take_of_length_le (by omega)] at h3
        refine sh ?_
        refine rT ?_
        all_goals repeat' (first | exact True.intro | refine And.intro ?_ ?_ | (intro _u; clear _u) | (with_reducible first | refine eM ?_ ?_ | refine eF ?_ ?_ ?_ | refine eN ?_ | refine eL ?_ ?_ ?_ | refine eA ?_ ?_ | refine IWk.mk ⟨_, hp, rfl⟩ ?_ ?_) | refine IWk.mk ⟨_, hp, rfl⟩ ?_ ?_)
        all_goals first | with_reducible rfl | omega | exact Or.inl (by decide) | (simp; done) | rfl | skip
        all_goals exact h3.symm
theorem fmul_c {R : Env} (h : N284 R) {a b : Int} (ha : I64 a) (hb : I64 b) : R.Pc 284 [.isl 1 (slcK .i64 [a, b])] (.int .i64 (tmul a b)) :=
  h.o284.enter 100 rfl fun X bb hfit hp => by
    have hP := prod_in ha hb
    refine sh ?_
    refine ILoop.one 100 ?_
    refine sh ?_
    refine acnd_t (by simp) ?_
    refine sh ?_
    refine eget_map (show ([a, b] : List Int)[0]? = some a from rfl) ?_
    refine sh ?_
    refine acnd_t (by decide) ?_
    refine sh ?_
    refine ILoop.one 100 ?_
    refine sh ?_
    refine acnd_t (by simp) ?_
    refine sh ?_
    refine eget_map (show ([a, b] : List Int)[1]? = some b from rfl) ?_
    refine sh ?_
    refine acnd_f (by decide) ?_
    refine sh ?_
    refine ICall.pure h.n264.o264.hb (mul_c h.n264 ha hb) rfl ?_
    refine sh ?_
    refine ICall.pure h.n285.o285.hb (shr_c h.n285 hP) rfl ?_
    refine sh ?_
    refine ICall.pure h.n265.o265.hb (near_c h.n265 (v := a * b / 4294967296) (by omega)) rfl ?_
    refine sh ?_
    refine ILoop.one 100 ?_
    refine sh ?_
    refine acnd_f (by simp) ?_
    refine sh ?_
    exact rT
def tsub (a b : Int) : Int := sat (a - b)
theorem fsub_c {R : Env} (h : N281 R) {a b : Int} (ha : I64 a) (hb : I64 b) : R.Pc 281 [.int .i64 a, .int .i64 b] (.int .i64 (tsub a b)) :=
  h.o281.enter 100 rfl fun X bb hfit hp => by
    rw [i64_iff] at ha hb
    refine sh ?_
    refine iwr_any ?_
    refine sh ?_
    refine cS (fun a1 => ?_) (fun a1 => ?_)
    · refine sh ?_
      refine cS (fun a2 => ?_) (fun a2 => ?_)
      · refine sh ?_
        refine cS (fun a3 => ?_) (fun a3 => ?_)
        · refine sh ?_
          refine rT ?_
          all_goals repeat' (first | exact True.intro | refine And.intro ?_ ?_ | (intro _u; clear _u) | (with_reducible first | refine eM ?_ ?_ | refine eF ?_ ?_ ?_ | refine eN ?_ | refine eL ?_ ?_ ?_ | refine eA ?_ ?_ | refine IWk.mk ⟨_, hp, rfl⟩ ?_ ?_) | refine IWk.mk ⟨_, hp, rfl⟩ ?_ ?_)
          all_goals first | with_reducible rfl | omega | exact Or.inl (by decide) | (simp; done) | rfl | skip
          all_goals (unfold tsub sat; simp only [wr_i64] at *; split <;> first | omega | (split <;> omega))
        · refine sh ?_
          refine acnd_f (by (simp; omega)) ?_
          refine sh ?_
          refine rT ?_
          all_goals repeat' (first | exact True.intro | refine And.intro ?_ ?_ | (intro _u; clear _u) | (with_reducible first | refine eM ?_ ?_ | refine eF ?_ ?_ ?_ | refine eN ?_ | refine eL ?_ ?_ ?_ | refine eA ?_ ?_ | refine IWk.mk ⟨_, hp, rfl⟩ ?_ ?_) | refine IWk.mk ⟨_, hp, rfl⟩ ?_ ?_)
          all_goals first | with_reducible rfl | omega | exact Or.inl (by decide) | (simp; done) | rfl | skip
          all_goals (unfold tsub sat; simp only [wr_i64] at *; split <;> first | omega | (split <;> omega))
      · refine sh ?_
        refine acnd_f (by (simp; omega)) ?_
        refine sh ?_
        refine rT ?_
        all_goals repeat' (first | exact True.intro | refine And.intro ?_ ?_ | (intro _u; clear _u) | (with_reducible first | refine eM ?_ ?_ | refine eF ?_ ?_ ?_ | refine eN ?_ | refine eL ?_ ?_ ?_ | refine eA ?_ ?_ | refine IWk.mk ⟨_, hp, rfl⟩ ?_ ?_) | refine IWk.mk ⟨_, hp, rfl⟩ ?_ ?_)
        all_goals first | with_reducible rfl | omega | exact Or.inl (by decide) | (simp; done) | rfl | skip
        all_goals (unfold tsub sat; simp only [wr_i64] at *; split <;> first | omega | (split <;> omega))
    · refine sh ?_
      refine cS (fun b1 => ?_) (fun b1 => ?_)
      · refine sh ?_
        refine cS (fun b2 => ?_) (fun b2 => ?_)
        · refine sh ?_
          refine cS (fun b3 => ?_) (fun b3 => ?_)
          · refine sh ?_
            refine rT ?_
            all_goals repeat' (first | exact True.intro | refine And.intro ?_ ?_ | (intro _u; clear _u) | (with_reducible first | refine eM ?_ ?_ | refine eF ?_ ?_ ?_ | refine eN ?_ | refine eL ?_ ?_ ?_ | refine eA ?_ ?_ | refine IWk.mk ⟨_, hp, rfl⟩ ?_ ?_) | refine IWk.mk ⟨_, hp, rfl⟩ ?_ ?_)
            all_goals first | with_reducible rfl | omega | exact Or.inl (by decide) | (simp; done) | rfl | skip
            all_goals (unfold tsub sat; simp only [wr_i64] at *; split <;> first | omega | (split <;> omega))
          · refine sh ?_
            refine rT ?_
            all_goals repeat' (first | exact True.intro | refine And.intro ?_ ?_ | (intro _u; clear _u) | (with_reducible first | refine eM ?_ ?_ | refine eF ?_ ?_ ?_ | refine eN ?_ | refine eL ?_ ?_ ?_ | refine eA ?_ ?_ | refine IWk.mk ⟨_, hp, rfl⟩ ?_ ?_) | refine IWk.mk ⟨_, hp, rfl⟩ ?_ ?_)
            all_goals first | with_reducible rfl | omega | exact Or.inl (by decide) | (simp; done) | rfl | skip
            all_goals (unfold tsub sat; simp only [wr_i64] at *; split <;> first | omega | (split <;> omega))
        · refine sh ?_
          refine rT ?_
          all_goals repeat' (first | exact True.intro | refine And.intro ?_ ?_ | (intro _u; clear _u) | (with_reducible first | refine eM ?_ ?_ | refine eF ?_ ?_ ?_ | refine eN ?_ | refine eL ?_ ?_ ?_ | refine eA ?_ ?_ | refine IWk.mk ⟨_, hp, rfl⟩ ?_ ?_) | refine IWk.mk ⟨_, hp, rfl⟩ ?_ ?_)
          all_goals first | with_reducible rfl | omega | exact Or.inl (by decide) | (simp; done) | rfl | skip
          all_goals (unfold tsub sat; simp only [wr_i64] at *; split <;> first | omega | (split <;> omega))
      · refine sh ?_
        refine rT ?_
        all_goals repeat' (first | exact True.intro | refine And.intro ?_ ?_ | (intro _u; clear _u) | (with_reducible first | refine eM ?_ ?_ | refine eF ?_ ?_ ?_ | refine eN ?_ | refine eL ?_ ?_ ?_ | refine eA ?_ ?_ | refine IWk.mk ⟨_, hp, rfl⟩ ?_ ?_) | refine IWk.mk ⟨_, hp, rfl⟩ ?_ ?_)
        all_goals first | with_reducible rfl | omega | exact Or.inl (by decide) | (simp; done) | rfl | skip
        all_goals (unfold tsub sat; simp only [wr_i64] at *; split <;> first | omega | (split <;> omega))
theorem fneg_c {R : Env} (h : N270 R) {a : Int} (ha : I64 a) : R.Pc 270 [.int .i64 a] (.int .i64 (sat (-a))) :=
  h.o270.enter 100 rfl fun X bb hfit hp => by
    refine sh ?_
    refine ICall.pure h.n281.o281.hb (fsub_c h.n281 (a := 0) ⟨by decide, by decide⟩ ha) rfl ?_
    refine sh ?_
    refine rT ?_
    all_goals repeat' (first | exact True.intro | refine And.intro ?_ ?_ | (intro _u; clear _u) | (with_reducible first | refine eM ?_ ?_ | refine eF ?_ ?_ ?_ | refine eN ?_ | refine eL ?_ ?_ ?_ | refine eA ?_ ?_ | refine IWk.mk ⟨_, hp, rfl⟩ ?_ ?_) | refine IWk.mk ⟨_, hp, rfl⟩ ?_ ?_)
    all_goals first | with_reducible rfl | omega | exact Or.inl (by decide) | (simp; done) | rfl | skip
    all_goals (unfold tsub; rw [Int.zero_sub])
theorem fabs_c {R : Env} (h : N255 R) {a : Int} (ha : I64 a) : R.Pc 255 [.int .i64 a] (.int .i64 (sizeI a)) :=
  h.o255.enter 100 rfl fun X bb hfit hp => by
    refine sh ?_
    refine ICall.pure h.n270.o270.hb (fneg_c h.n270 ha) rfl ?_
    rw [i64_iff] at ha
    refine sh ?_
    refine rT ?_
    all_goals repeat' (first | exact True.intro | refine And.intro ?_ ?_ | (intro _u; clear _u) | (with_reducible first | refine eM ?_ ?_ | refine eF ?_ ?_ ?_ | refine eN ?_ | refine eL ?_ ?_ ?_ | refine eA ?_ ?_ | refine IWk.mk ⟨_, hp, rfl⟩ ?_ ?_) | refine IWk.mk ⟨_, hp, rfl⟩ ?_ ?_)
    all_goals first | with_reducible rfl | omega | exact Or.inl (by decide) | (simp; done) | rfl | skip
    all_goals (unfold sizeI sat; split <;> split <;> first | omega | (split <;> omega))
theorem fof_c {R : Env} (h : N248 R) {n : Int} (hn : I64 n) : R.Pc 248 [.int .i64 n] (.int .i64 (sat (n * 4294967296))) :=
  h.o248.enter 100 rfl fun X bb hfit hp => by
    have h1 : I64 4294967296 := ⟨by decide, by decide⟩
    refine sh ?_
    refine ICall.pure h.n264.o264.hb (mul_c h.n264 hn h1) rfl ?_
    refine sh ?_
    refine ICall.pure h.n265.o265.hb (near_c h.n265 (prod_in hn h1)) rfl ?_
    refine sh ?_
    exact rT
theorem and_one {x : Int} (h : I64 x) : bit2 .and .i64 x 1 = x % 2 := by
  show wr .i64 (((BitVec.ofInt 64 x &&& BitVec.ofInt 64 1 : BitVec 64).toNat : Nat) : Int) = _
  rw [i64_iff] at h
  have e : (BitVec.ofInt 64 x &&& BitVec.ofInt 64 1 : BitVec 64).toNat = (x % 2).toNat := by
    rw [BitVec.toNat_and, BitVec.toNat_ofInt, BitVec.toNat_ofInt]
    have : ((1 : Int) % ((2 ^ 64 : Nat) : Int)).toNat = 2 ^ 1 - 1 := rfl
    rw [this, Nat.and_two_pow_sub_one_eq_mod]
    omega
  rw [e, wr_i64]; omega
theorem fround_c {R : Env} (h : N260 R) {x : Int} (hx : I64 x) : R.Pc 260 [.int .i64 x] (.int .i64 (rnd x)) :=
  h.o260.enter 100 rfl fun X bb hfit hp => by
    have hx2 := hx
    rw [i64_iff] at hx2
    have e1 : bit2 .and .i64 (shrI .i64 x 31) 1 = x / 2147483648 % 2 := by
      rw [shr31 .i64 (by decide), and_one (by rw [i64_iff]; omega)]
    refine sh ?_
    rw [e1, shr32 .i64 (by decide)]
    refine iwr_in (by simp only [inI]; omega) ?_
    refine sh ?_
    refine rT ?_
    all_goals repeat' (first | exact True.intro | refine And.intro ?_ ?_ | (intro _u; clear _u) | (with_reducible first | refine eM ?_ ?_ | refine eF ?_ ?_ ?_ | refine eN ?_ | refine eL ?_ ?_ ?_ | refine eA ?_ ?_ | refine IWk.mk ⟨_, hp, rfl⟩ ?_ ?_) | refine IWk.mk ⟨_, hp, rfl⟩ ?_ ?_)
    all_goals first | with_reducible rfl | omega | exact Or.inl (by decide) | (simp; done) | rfl | skip
    all_goals (unfold rnd; omega)
end Go.UM

namespace Go.UM
open Go.AM
set_option maxRecDepth 4000
theorem addf_c {R : Env} (h : N263 R) {a b : Int} (ha : I64 a) (hb : I64 b) : R.Pc 263 [.int .i64 a, .int .i64 b] (.int .i64 (tadd a b)) :=
  h.o263.enter 60 rfl fun X bb hfit hp => by
    have c := fadd_c h.n267 [a, b] (by simp) (by intro x hx; simp at hx; rcases hx with rfl | rfl <;> assumption)
    rw [show sums 0 [a, b] = tadd a b by unfold sums; simp [tadd0 ha]] at c
    refine sh ?_
    refine ICall.lend rfl h.n267.o267.hb c ?_ rfl ?_
    · all_goals repeat' (first | exact True.intro | refine And.intro ?_ ?_ | (intro _u; clear _u) | (with_reducible first | refine eM ?_ ?_ | refine eF ?_ ?_ ?_ | refine eN ?_ | refine eL ?_ ?_ ?_ | refine eA ?_ ?_ | refine IWk.mk ⟨_, hp, rfl⟩ ?_ ?_) | refine IWk.mk ⟨_, hp, rfl⟩ ?_ ?_)
      all_goals first | with_reducible rfl | omega | exact Or.inl (by decide) | (simp; done) | rfl | skip
    refine sh ?_
    exact rT
theorem mulf_c {R : Env} (h : N278 R) {a b : Int} (ha : I64 a) (hb : I64 b) : R.Pc 278 [.int .i64 a, .int .i64 b] (.int .i64 (tmul a b)) :=
  h.o278.enter 60 rfl fun X bb hfit hp => by
    refine sh ?_
    refine ICall.lend rfl h.n284.o284.hb (fmul_c h.n284 ha hb) ?_ rfl ?_
    · all_goals repeat' (first | exact True.intro | refine And.intro ?_ ?_ | (intro _u; clear _u) | (with_reducible first | refine eM ?_ ?_ | refine eF ?_ ?_ ?_ | refine eN ?_ | refine eL ?_ ?_ ?_ | refine eA ?_ ?_ | refine IWk.mk ⟨_, hp, rfl⟩ ?_ ?_) | refine IWk.mk ⟨_, hp, rfl⟩ ?_ ?_)
      all_goals first | with_reducible rfl | omega | exact Or.inl (by decide) | (simp; done) | rfl | skip
    refine sh ?_
    exact rT
theorem each_add {R : Env} (h : N262 R) (hf : N263 R) {a b : T3} (ha : a.I) (hb : b.I) : R.Pc 262 [.agg (t3 a), .agg (t3 b), .clo (R.ft 263) []] (.agg (t3 (vadd a b))) :=
  h.o262.enter 60 rfl fun X bb hfit hp => by
    refine sh ?_
    refine ICall.pure hf.o263.hb (addf_c hf ha.1 hb.1) rfl ?_
    refine sh ?_
    refine ICall.pure hf.o263.hb (addf_c hf ha.2.1 hb.2.1) rfl ?_
    refine sh ?_
    refine ICall.pure hf.o263.hb (addf_c hf ha.2.2 hb.2.2) rfl ?_
    refine sh ?_
    exact rT
theorem each_mul {R : Env} (h : N262 R) (hf : N278 R) {a b : T3} (ha : a.I) (hb : b.I) : R.Pc 262 [.agg (t3 a), .agg (t3 b), .clo (R.ft 278) []] (.agg (t3 (vmul a b))) :=
  h.o262.enter 60 rfl fun X bb hfit hp => by
    refine sh ?_
    refine ICall.pure hf.o278.hb (mulf_c hf ha.1 hb.1) rfl ?_
    refine sh ?_
    refine ICall.pure hf.o278.hb (mulf_c hf ha.2.1 hb.2.1) rfl ?_
    refine sh ?_
    refine ICall.pure hf.o278.hb (mulf_c hf ha.2.2 hb.2.2) rfl ?_
    refine sh ?_
    exact rT
theorem vadd_c {R : Env} (h : N246 R) (l : List T3) (hl : l.length ≤ 1000) (hi : ∀ x ∈ l, x.I) : R.Pc 246 [.isl 3 (slc3 l)] (.agg (t3 (l.foldl vadd z3))) :=
  h.o246.enter 100 rfl fun X bb hfit hp => by
    refine sh ?_
    refine lPa 100 (fun s : Nat × T3 => s.1 ≤ l.length ∧ s.2.I ∧ (l.take s.1).foldl vadd z3 = s.2) (fun s => ⟨[(2, .loc 0 1 0 0), (3, .loc 1 1 0 0), (6, .isl 3 (slc3 l)), (7, .int .i64 l.length), (8, .int .i64 s.1)], [(1, .var (R.ty 31) (t3 s.2)), (0, .var (R.ty 31) [.int .i64 0, .int .i64 0, .int .i64 0])], 2⟩) (fun s => l.length - s.1) ((0, z3)) ?_ ?_
    · exact ⟨Nat.zero_le _, z3_in, rfl⟩
    · rintro ⟨k, s⟩ ⟨h1, h2, h3⟩
      dsimp only at h1 h2 h3 ⊢
      refine sh ?_
      refine cS (fun h4 => ?_) (fun h4 => ?_)
      · obtain ⟨x, hx⟩ : ∃ u_, l[k]? = some u_ := ⟨_, List.getElem?_eq_getElem (by first | omega | (simp <;> omega))⟩
        refine sh ?_
        refine eget_map hx ?_
        have ix := hi x (List.mem_of_getElem? hx)
        refine sh ?_
        refine ICall.pure h.n262.o262.hb (each_add h.n262 h.n263 h2 ix) rfl ?_
        refine sh ?_
        refine nXa ((k + 1, vadd s x)) ?_ ?_
        · exact ⟨by omega, vadd_in s x, by rw [take_succ_get hx, List.foldl_append, h3]; rfl⟩
        · omega
      · rw [List.take_of_length_le (by omega)] at h3
        rw [h3]
        refine sh ?_
        exact rT
theorem vtimes_c {R : Env} (h : N266 R) (l : List T3) (hl : l.length ≤ 1000) (hi : ∀ x ∈ l, x.I) : R.Pc 266 [.isl 3 (slc3 l)] (.agg (t3 (l.foldl vmul one3))) :=
  h.o266.enter 100 rfl fun X bb hfit hp => by
    refine sh ?_
    refine lPa 100 (fun s : Nat × T3 => s.1 ≤ l.length ∧ s.2.I ∧ (l.take s.1).foldl vmul one3 = s.2) (fun s => ⟨[(2, .loc 0 1 0 0), (3, .loc 1 1 0 0), (7, .isl 3 (slc3 l)), (8, .int .i64 l.length), (9, .int .i64 s.1)], [(1, .var (R.ty 31) (t3 s.2)), (0, .var (R.ty 31) [.int .i64 0, .int .i64 0, .int .i64 0])], 2⟩) (fun s => l.length - s.1) ((0, one3)) ?_ ?_
    · exact ⟨Nat.zero_le _, one3_in, rfl⟩
    · rintro ⟨k, s⟩ ⟨h1, h2, h3⟩
      dsimp only at h1 h2 h3 ⊢
      refine sh ?_
      refine cS (fun h4 => ?_) (fun h4 => ?_)
      · obtain ⟨x, hx⟩ : ∃ u_, l[k]? = some u_ := ⟨_, List.getElem?_eq_getElem (by first | omega | (simp <;> omega))⟩
        refine sh ?_
        refine eget_map hx ?_
        have ix := hi x (List.mem_of_getElem? hx)
        refine sh ?_
        refine ICall.pure h.n262.o262.hb (each_mul h.n262 h.n278 h2 ix) rfl ?_
        refine sh ?_
        refine nXa ((k + 1, vmul s x)) ?_ ?_
        · exact ⟨by omega, vmul_in s x, by rw [take_succ_get hx, List.foldl_append, h3]; rfl⟩
        · omega
      · rw [List.take_of_length_le (by omega)] at h3
        rw [h3]
        refine sh ?_
        exact rT
theorem dot_c {R : Env} (h : N252 R) {a b : T3} (ha : a.I) (hb : b.I) : R.Pc 252 [.agg (t3 a), .agg (t3 b)] (.int .i64 (dot a b)) :=
  h.o252.enter 100 rfl fun X bb hfit hp => by
    have c1 := vtimes_c h.n266 [a, b] (by simp) (by intro x hx; simp at hx; rcases hx with rfl | rfl <;> assumption)
    rw [show [a, b].foldl vmul one3 = vmul a b by simp [vmul1 ha]] at c1
    refine sh ?_
    refine ICall.lend rfl h.n266.o266.hb c1 ?_ rfl ?_
    · all_goals repeat' (first | exact True.intro | refine And.intro ?_ ?_ | (intro _u; clear _u) | (with_reducible first | refine eM ?_ ?_ | refine eF ?_ ?_ ?_ | refine eN ?_ | refine eL ?_ ?_ ?_ | refine eA ?_ ?_ | refine IWk.mk ⟨_, hp, rfl⟩ ?_ ?_) | refine IWk.mk ⟨_, hp, rfl⟩ ?_ ?_)
      all_goals first | with_reducible rfl | omega | exact Or.inl (by decide) | (simp; done) | rfl | skip
    have i1 := vmul_in a b
    generalize hv : vmul a b = v at *
    have c2 := fadd_c h.n267 [v.a, v.b, v.c] (by simp) (by intro x hx; simp at hx; rcases hx with rfl | rfl | rfl; exact i1.1; exact i1.2.1; exact i1.2.2)
    rw [show sums 0 [v.a, v.b, v.c] = dot a b by unfold sums dot; simp only [List.foldl_cons, List.foldl_nil]; rw [tadd0 i1.1, ← hv]; rfl] at c2
    refine sh ?_
    refine ICall.lend rfl h.n267.o267.hb c2 ?_ rfl ?_
    · all_goals repeat' (first | exact True.intro | refine And.intro ?_ ?_ | (intro _u; clear _u) | (with_reducible first | refine eM ?_ ?_ | refine eF ?_ ?_ ?_ | refine eN ?_ | refine eL ?_ ?_ ?_ | refine eA ?_ ?_ | refine IWk.mk ⟨_, hp, rfl⟩ ?_ ?_) | refine IWk.mk ⟨_, hp, rfl⟩ ?_ ?_)
      all_goals first | with_reducible rfl | omega | exact Or.inl (by decide) | (simp; done) | rfl | skip
    refine sh ?_
    exact rT
theorem vofp_c {R : Env} (h : N249 R) {p : T3} (hp' : p.I) : R.Pc 249 [.agg (t3 p)] (.agg (t3 (vof p))) :=
  h.o249.enter 100 rfl fun X bb hfit hp => by
    refine sh ?_
    refine ICall.pure h.n248.o248.hb (fof_c h.n248 hp'.1) rfl ?_
    refine sh ?_
    refine ICall.pure h.n248.o248.hb (fof_c h.n248 hp'.2.1) rfl ?_
    refine sh ?_
    refine ICall.pure h.n248.o248.hb (fof_c h.n248 hp'.2.2) rfl ?_
    refine sh ?_
    exact rT
theorem vmost_c {R : Env} (h : N256 R) {p : T3} (hp' : p.I) : R.Pc 256 [.agg (t3 p)] (.int .i64 (mostT p)) :=
  h.o256.enter 100 rfl fun X bb hfit hp => by
    refine sh ?_
    refine ICall.pure h.n255.o255.hb (fabs_c h.n255 hp'.1) rfl ?_
    refine sh ?_
    refine ICall.pure h.n255.o255.hb (fabs_c h.n255 hp'.2.1) rfl ?_
    refine sh ?_
    refine ICall.pure h.n255.o255.hb (fabs_c h.n255 hp'.2.2) rfl ?_
    refine sh ?_
    exact rT
theorem rsize_c {R : Env} (h : N279 R) {x : Int} (hx : I64 x) : R.Pc 279 [.int .i64 x] (.int .u64 (absI x)) :=
  h.o279.enter 100 rfl fun X bb hfit hp => by
    rw [i64_iff] at hx
    unfold absI
    refine sh ?_
    refine cS (fun h1 => ?_) (fun h1 => ?_)
    · refine sh ?_
      refine rT ?_
      all_goals repeat' (first | exact True.intro | refine And.intro ?_ ?_ | (intro _u; clear _u) | (with_reducible first | refine eM ?_ ?_ | refine eF ?_ ?_ ?_ | refine eN ?_ | refine eL ?_ ?_ ?_ | refine eA ?_ ?_ | refine IWk.mk ⟨_, hp, rfl⟩ ?_ ?_) | refine IWk.mk ⟨_, hp, rfl⟩ ?_ ?_)
      all_goals first | with_reducible rfl | omega | exact Or.inl (by decide) | (simp; done) | rfl | skip
      all_goals omega
    · refine sh ?_
      refine rT ?_
      all_goals repeat' (first | exact True.intro | refine And.intro ?_ ?_ | (intro _u; clear _u) | (with_reducible first | refine eM ?_ ?_ | refine eF ?_ ?_ ?_ | refine eN ?_ | refine eL ?_ ?_ ?_ | refine eA ?_ ?_ | refine IWk.mk ⟨_, hp, rfl⟩ ?_ ?_) | refine IWk.mk ⟨_, hp, rfl⟩ ?_ ?_)
      all_goals first | with_reducible rfl | omega | exact Or.inl (by decide) | (simp; done) | rfl | skip
      all_goals omega
def rnear (s : Int) (below big : Bool) : Int := if below = true then (if big = true ∨ 9223372036854775808 ≤ s then -9223372036854775808 else -s) else (if big = true ∨ 9223372036854775808 ≤ s then 9223372036854775807 else s)
theorem rnear_c2 {R : Env} (h : N280 R) {s : Int} (hs : U64 s) (below big : Bool) : R.Pc 280 [.int .u64 s, .bool below, .bool big] (.int .i64 (rnear s below big)) :=
  h.o280.enter 100 rfl fun X bb hfit hp => by
    rw [u64_iff] at hs
    unfold rnear
    cases below with
    | true =>
      cases big with
      | true =>
        refine sh ?_
        exact rT
      | false =>
        refine sh ?_
        refine cS (fun h1 => ?_) (fun h1 => ?_)
        · refine sh ?_
          refine rT ?_
          all_goals repeat' (first | exact True.intro | refine And.intro ?_ ?_ | (intro _u; clear _u) | (with_reducible first | refine eM ?_ ?_ | refine eF ?_ ?_ ?_ | refine eN ?_ | refine eL ?_ ?_ ?_ | refine eA ?_ ?_ | refine IWk.mk ⟨_, hp, rfl⟩ ?_ ?_) | refine IWk.mk ⟨_, hp, rfl⟩ ?_ ?_)
          all_goals first | with_reducible rfl | omega | exact Or.inl (by decide) | (simp; done) | rfl | skip
          all_goals (simp; omega)
        · refine sh ?_
          refine rT ?_
          all_goals repeat' (first | exact True.intro | refine And.intro ?_ ?_ | (intro _u; clear _u) | (with_reducible first | refine eM ?_ ?_ | refine eF ?_ ?_ ?_ | refine eN ?_ | refine eL ?_ ?_ ?_ | refine eA ?_ ?_ | refine IWk.mk ⟨_, hp, rfl⟩ ?_ ?_) | refine IWk.mk ⟨_, hp, rfl⟩ ?_ ?_)
          all_goals first | with_reducible rfl | omega | exact Or.inl (by decide) | (simp; done) | rfl | skip
          all_goals (simp; omega)
    | false =>
      cases big with
      | true =>
        refine sh ?_
        exact rT
      | false =>
        refine sh ?_
        refine cS (fun h1 => ?_) (fun h1 => ?_)
        · refine sh ?_
          refine rT ?_
          all_goals repeat' (first | exact True.intro | refine And.intro ?_ ?_ | (intro _u; clear _u) | (with_reducible first | refine eM ?_ ?_ | refine eF ?_ ?_ ?_ | refine eN ?_ | refine eL ?_ ?_ ?_ | refine eA ?_ ?_ | refine IWk.mk ⟨_, hp, rfl⟩ ?_ ?_) | refine IWk.mk ⟨_, hp, rfl⟩ ?_ ?_)
          all_goals first | with_reducible rfl | omega | exact Or.inl (by decide) | (simp; done) | rfl | skip
          all_goals (simp; omega)
        · refine sh ?_
          refine rT ?_
          all_goals repeat' (first | exact True.intro | refine And.intro ?_ ?_ | (intro _u; clear _u) | (with_reducible first | refine eM ?_ ?_ | refine eF ?_ ?_ ?_ | refine eN ?_ | refine eL ?_ ?_ ?_ | refine eA ?_ ?_ | refine IWk.mk ⟨_, hp, rfl⟩ ?_ ?_) | refine IWk.mk ⟨_, hp, rfl⟩ ?_ ?_)
          all_goals first | with_reducible rfl | omega | exact Or.inl (by decide) | (simp; done) | rfl | skip
          all_goals (simp; omega)
theorem same_sign {a b : Int} (h : (decide (a < 0) == decide (b < 0)) = true) : (a < 0 ∧ b < 0) ∨ (0 ≤ a ∧ 0 ≤ b) := by
  by_cases ha : a < 0 <;> by_cases hb : b < 0
  · exact .inl ⟨ha, hb⟩
  · simp [ha, hb] at h
  · simp [ha, hb] at h
  · exact .inr ⟨by omega, by omega⟩
theorem rtwo_e {a b : Int} (ha : I64 a) (hb : I64 b) (h : (a < 0 ∧ b < 0) ∨ (0 ≤ a ∧ 0 ≤ b)) : rnear (wr .u64 (absI a + absI b)) (decide (a < 0)) (decide (wr .u64 (absI a + absI b) < absI a)) = sat (a + b) := by
  rw [i64_iff] at ha hb
  rcases h with ⟨h1, h2⟩ | ⟨h1, h2⟩
  · have e1 : absI a = -a := if_pos h1
    have e2 : absI b = -b := if_pos h2
    rw [e1, e2, wr_u64, decide_eq_true h1]
    unfold rnear sat
    simp only [if_true, decide_eq_true_eq]
    repeat' split
    all_goals omega
  · have e1 : absI a = a := if_neg (show ¬ a < 0 by omega)
    have e2 : absI b = b := if_neg (show ¬ b < 0 by omega)
    rw [e1, e2, wr_u64, decide_eq_false (show ¬ a < 0 by omega)]
    unfold rnear sat
    simp only [Bool.false_eq_true, if_false, decide_eq_true_eq]
    repeat' split
    all_goals omega
theorem rtwo_c {R : Env} (h : N269 R) {a b : Int} (ha : I64 a) (hb : I64 b) : R.Pc 269 [.int .i64 a, .int .i64 b] (.int .i64 (tadd a b)) :=
  h.o269.enter 100 rfl fun X bb hfit hp => by
    refine sh ?_
    refine ICall.pure h.n279.o279.hb (rsize_c h.n279 ha) rfl ?_
    refine sh ?_
    refine ICall.pure h.n279.o279.hb (rsize_c h.n279 hb) rfl ?_
    have u1 := absI_in ha
    have u2 := absI_in hb
    refine sh ?_
    refine cS (fun h1 => ?_) (fun h1 => ?_)
    · have e := rtwo_e ha hb (same_sign h1)
      refine sh ?_
      refine iwr_any ?_
      refine sh ?_
      refine iwr_any ?_
      refine sh ?_
      refine ICall.pure h.n280.o280.hb (rnear_c2 h.n280 (wr_inI .u64 _) _ _) rfl ?_
      rw [e]
      refine sh ?_
      exact rT
    · rw [i64_iff] at ha hb
      have h2 : -9223372036854775808 ≤ a + b ∧ a + b ≤ 9223372036854775807 := by
        by_cases q1 : a < 0 <;> by_cases q2 : b < 0
        · simp [q1, q2] at h1
        · omega
        · omega
        · simp [q1, q2] at h1
      refine sh ?_
      refine rT ?_
      all_goals repeat' (first | exact True.intro | refine And.intro ?_ ?_ | (intro _u; clear _u) | (with_reducible first | refine eM ?_ ?_ | refine eF ?_ ?_ ?_ | refine eN ?_ | refine eL ?_ ?_ ?_ | refine eA ?_ ?_ | refine IWk.mk ⟨_, hp, rfl⟩ ?_ ?_) | refine IWk.mk ⟨_, hp, rfl⟩ ?_ ?_)
      all_goals first | with_reducible rfl | omega | exact Or.inl (by decide) | (simp; done) | rfl | skip
      all_goals exact (sat_id (i64_iff.2 h2)).symm
theorem rsub0_c {R : Env} (h : N282 R) {b : Int} (hb : I64 b) : R.Pc 282 [.int .i64 0, .int .i64 b] (.int .i64 (sat (-b))) :=
  h.o282.enter 100 rfl fun X bb hfit hp => by
    have h0 : I64 0 := ⟨by decide, by decide⟩
    refine sh ?_
    refine ICall.pure h.n279.o279.hb (rsize_c h.n279 h0) rfl ?_
    refine sh ?_
    refine ICall.pure h.n279.o279.hb (rsize_c h.n279 hb) rfl ?_
    have u2 := absI_in hb
    rw [i64_iff] at hb
    refine sh ?_
    refine cS (fun h1 => ?_) (fun h1 => ?_)
    · have hneg : b < 0 := by
        by_cases q : b < 0
        · exact q
        · simp [q] at h1
      have e : rnear (wr .u64 (absI 0 + absI b)) (decide ((0 : Int) < 0)) (decide (wr .u64 (absI 0 + absI b) < absI 0)) = sat (-b) := by
        have e1 : absI 0 = 0 := rfl
        have e2 : absI b = -b := if_pos hneg
        rw [e1, e2, wr_u64, decide_eq_false (show ¬ (0 : Int) < 0 by omega)]
        unfold rnear sat
        simp only [Bool.false_eq_true, if_false, decide_eq_true_eq]
        repeat' split
        all_goals omega
      refine sh ?_
      refine iwr_any ?_
      refine sh ?_
      refine iwr_any ?_
      refine sh ?_
      refine ICall.pure h.n280.o280.hb (rnear_c2 h.n280 (wr_inI .u64 _) _ _) rfl ?_
      rw [e]
      refine sh ?_
      exact rT
    · have hpos : ¬ b < 0 := by
        intro q
        simp [q] at h1
      refine sh ?_
      refine rT ?_
      all_goals repeat' (first | exact True.intro | refine And.intro ?_ ?_ | (intro _u; clear _u) | (with_reducible first | refine eM ?_ ?_ | refine eF ?_ ?_ ?_ | refine eN ?_ | refine eL ?_ ?_ ?_ | refine eA ?_ ?_ | refine IWk.mk ⟨_, hp, rfl⟩ ?_ ?_) | refine IWk.mk ⟨_, hp, rfl⟩ ?_ ?_)
      all_goals first | with_reducible rfl | omega | exact Or.inl (by decide) | (simp; done) | rfl | skip
      all_goals (unfold sat; rw [if_neg (by omega), if_neg (by omega)]; omega)
theorem rtimes_e {a b : Int} (ha : I64 a) (hb : I64 b) {s : Int} {big : Bool} (below : Bool) (hbl : a * b = if below = true then -(absI a * absI b) else absI a * absI b)
    (hs : s = (absI a * absI b / 4294967296 + (if below = true ∧ 0 < absI a * absI b % 4294967296 then 1 else 0)) % 18446744073709551616)
    (hbig : big = decide (18446744073709551616 ≤ absI a * absI b / 4294967296 + (if below = true ∧ 0 < absI a * absI b % 4294967296 then 1 else 0))) : rnear s below big = tmul a b := by
  have hP := abs_prod ha hb
  unfold tmul
  rw [hbl]
  generalize absI a * absI b = P at *
  subst hs hbig
  unfold rnear sat
  cases below with
  | true =>
    simp only [decide_eq_true_eq, true_and, if_true]
    repeat' split
    all_goals omega
  | false =>
    simp only [decide_eq_true_eq, Bool.false_eq_true, false_and, if_false]
    repeat' split
    all_goals omega
theorem rtimes_c {R : Env} (h : N268 R) {a b : Int} (ha : I64 a) (hb : I64 b) : R.Pc 268 [.int .i64 a, .int .i64 b] (.int .i64 (tmul a b)) :=
  h.o268.enter 100 rfl fun X bb hfit hp => by
    refine sh ?_
    refine ICall.pure h.n279.o279.hb (rsize_c h.n279 ha) rfl ?_
    refine sh ?_
    refine ICall.pure h.n279.o279.hb (rsize_c h.n279 hb) rfl ?_
    refine sh ?_
    refine ICall.pure h.n276.o276.hb (mul64_c h.n276 (abs_u64 ha) (abs_u64 hb)) rfl ?_
    have hP := abs_prod ha hb
    have hbl := mul_abs a b
    have hE := fun s big => rtimes_e (s := s) (big := big) ha hb (decide (a < 0) != decide (b < 0)) hbl
    have e1 : bit2 .or .u64 (shlI .u64 (whi (absI a * absI b)) 32) (shrI .u64 (wlo (absI a * absI b)) 32) = absI a * absI b / 4294967296 % 18446744073709551616 := by
      generalize absI a * absI b = P at *
      have e : shlI .u64 (whi P) 32 = (whi P % 4294967296) * 4294967296 := by rw [shl32]; omega
      have h2 := wlo_in P
      rw [e, shr32 .u64 (by decide), or_shift (by omega) (by omega)]
      unfold whi wlo; omega
    have e2 : bit2 .and .u64 (wlo (absI a * absI b)) 4294967295 = absI a * absI b % 4294967296 := by
      rw [and_low (wlo_in _)]; unfold wlo; omega
    generalize hbe : (decide (a < 0) != decide (b < 0)) = below at *
    cases below with
    | false =>
      refine sh ?_
      rw [hbe]
      refine acnd_f rfl ?_
      refine sh ?_
      rw [e1]
      clear e1
      refine ICall.pure h.n280.o280.hb (rnear_c2 h.n280 ⟨by omega, by omega⟩ _ _) rfl ?_
      rw [hE _ _ (by simp) (by simp only [Bool.false_eq_true, false_and, if_false]; congr 1; unfold whi; apply propext; constructor <;> intro <;> omega)]
      refine sh ?_
      exact rT
    | true =>
      refine sh ?_
      rw [hbe]
      refine acnd_t rfl ?_
      refine sh ?_
      rw [e2]
      refine cS (fun g => ?_) (fun g => ?_)
      · refine sh ?_
        rw [e1]
        clear e1 e2
        refine iwr_any ?_
        refine sh ?_
        refine cS (fun g2 => ?_) (fun g2 => ?_)
        · refine sh ?_
          refine ICall.pure h.n280.o280.hb (rnear_c2 h.n280 (wr_inI .u64 _) _ _) rfl ?_
          rw [hE _ _ (by simp only [true_and]; rw [if_pos g, wr_u64]; omega) (by simp only [true_and]; rw [if_pos g]; symm; rw [decide_eq_true_eq]; unfold whi at g2; omega)]
          refine sh ?_
          exact rT
        · refine sh ?_
          refine ICall.pure h.n280.o280.hb (rnear_c2 h.n280 (wr_inI .u64 _) _ _) rfl ?_
          rw [hE _ _ (by simp only [true_and]; rw [if_pos g, wr_u64]; omega) (by simp only [true_and]; rw [if_pos g, wr_u64, Bool.eq_iff_iff]; simp only [beq_iff_eq, decide_eq_true_eq]; unfold whi at g2; omega)]
          refine sh ?_
          exact rT
      · refine sh ?_
        rw [e1]
        clear e1 e2
        refine ICall.pure h.n280.o280.hb (rnear_c2 h.n280 ⟨by omega, by omega⟩ _ _) rfl ?_
        rw [hE _ _ (by simp only [true_and]; rw [if_neg (by omega)]; simp) (by simp only [true_and]; rw [if_neg (by omega)]; congr 1; unfold whi; apply propext; constructor <;> intro <;> omega)]
        refine sh ?_
        exact rT
theorem rof_c {R : Env} (h : N272 R) {n : Int} (hn : I64 n) : R.Pc 272 [.int .i64 n] (.int .i64 (sat (n * 4294967296))) :=
  h.o272.enter 100 rfl fun X bb hfit hp => by
    refine sh ?_
    refine ICall.pure h.n279.o279.hb (rsize_c h.n279 hn) rfl ?_
    have u1 := absI_in hn
    refine sh ?_
    rw [shl32]
    refine ICall.pure h.n280.o280.hb (rnear_c2 h.n280 ⟨by omega, by omega⟩ _ _) rfl ?_
    have e : rnear (absI n * 4294967296 % 18446744073709551616) (decide (n < 0)) (decide (absI n ≥ 4294967296)) = sat (n * 4294967296) := by
      rw [i64_iff] at hn
      by_cases h1 : n < 0
      · have e1 : absI n = -n := if_pos h1
        rw [e1, decide_eq_true h1]
        unfold rnear sat
        simp only [if_true, decide_eq_true_eq]
        repeat' split
        all_goals omega
      · have e1 : absI n = n := if_neg h1
        rw [e1, decide_eq_false h1]
        unfold rnear sat
        simp only [Bool.false_eq_true, if_false, decide_eq_true_eq]
        repeat' split
        all_goals omega
    rw [e]
    refine sh ?_
    exact rT
theorem rfloor_c {R : Env} (h : N273 R) {x : Int} (hx : I64 x) : R.Pc 273 [.int .i64 x] (.int .i64 (x / 4294967296)) :=
  h.o273.enter 100 rfl fun X bb hfit hp => by
    refine sh ?_
    refine ICall.pure h.n279.o279.hb (rsize_c h.n279 hx) rfl ?_
    have u1 := absI_in hx
    have hand : bit2 .and .u64 (absI x) 4294967295 = absI x % 4294967296 := and_low (abs_u64 hx)
    have hshr : shrI .u64 (absI x) 32 = absI x / 4294967296 := shr32 .u64 (by decide)
    have hx2 := hx
    rw [i64_iff] at hx2
    refine sh ?_
    refine cS (fun h1 => ?_) (fun h1 => ?_)
    · have e1 : absI x = x := if_neg (show ¬ x < 0 by omega)
      refine sh ?_
      refine rT ?_
      all_goals repeat' (first | exact True.intro | refine And.intro ?_ ?_ | (intro _u; clear _u) | (with_reducible first | refine eM ?_ ?_ | refine eF ?_ ?_ ?_ | refine eN ?_ | refine eL ?_ ?_ ?_ | refine eA ?_ ?_ | refine IWk.mk ⟨_, hp, rfl⟩ ?_ ?_) | refine IWk.mk ⟨_, hp, rfl⟩ ?_ ?_)
      all_goals first | with_reducible rfl | omega | exact Or.inl (by decide) | (simp; done) | rfl | skip
      all_goals omega
    · have e1 : absI x = -x := if_pos h1
      refine sh ?_
      rw [hand]
      refine cS (fun g => ?_) (fun g => ?_)
      · refine sh ?_
        refine rT ?_
        all_goals repeat' (first | exact True.intro | refine And.intro ?_ ?_ | (intro _u; clear _u) | (with_reducible first | refine eM ?_ ?_ | refine eF ?_ ?_ ?_ | refine eN ?_ | refine eL ?_ ?_ ?_ | refine eA ?_ ?_ | refine IWk.mk ⟨_, hp, rfl⟩ ?_ ?_) | refine IWk.mk ⟨_, hp, rfl⟩ ?_ ?_)
        all_goals first | with_reducible rfl | omega | exact Or.inl (by decide) | (simp; done) | rfl | skip
        all_goals omega
      · refine sh ?_
        refine rT ?_
        all_goals repeat' (first | exact True.intro | refine And.intro ?_ ?_ | (intro _u; clear _u) | (with_reducible first | refine eM ?_ ?_ | refine eF ?_ ?_ ?_ | refine eN ?_ | refine eL ?_ ?_ ?_ | refine eA ?_ ?_ | refine IWk.mk ⟨_, hp, rfl⟩ ?_ ?_) | refine IWk.mk ⟨_, hp, rfl⟩ ?_ ?_)
        all_goals first | with_reducible rfl | omega | exact Or.inl (by decide) | (simp; done) | rfl | skip
        all_goals omega
theorem rround_c {R : Env} (h : N261 R) {x : Int} (hx : I64 x) : R.Pc 261 [.int .i64 x] (.int .i64 (rnd x)) :=
  h.o261.enter 100 rfl fun X bb hfit hp => by
    have hx2 := hx
    rw [i64_iff] at hx2
    refine sh ?_
    refine cS (fun h1 => ?_) (fun h1 => ?_)
    · refine sh ?_
      refine rT ?_
      all_goals repeat' (first | exact True.intro | refine And.intro ?_ ?_ | (intro _u; clear _u) | (with_reducible first | refine eM ?_ ?_ | refine eF ?_ ?_ ?_ | refine eN ?_ | refine eL ?_ ?_ ?_ | refine eA ?_ ?_ | refine IWk.mk ⟨_, hp, rfl⟩ ?_ ?_) | refine IWk.mk ⟨_, hp, rfl⟩ ?_ ?_)
      all_goals first | with_reducible rfl | omega | exact Or.inl (by decide) | (simp; done) | rfl | skip
      all_goals (unfold rnd; omega)
    · refine sh ?_
      refine ICall.pure h.n273.o273.hb (rfloor_c h.n273 (x := x + 2147483648) ⟨by omega, by omega⟩) rfl ?_
      refine sh ?_
      exact rT
theorem rdot_c {R : Env} (h : N253 R) {a b : T3} (ha : a.I) (hb : b.I) : R.Pc 253 [.agg (t3 a), .agg (t3 b)] (.int .i64 (dot a b)) :=
  h.o253.enter 100 rfl fun X bb hfit hp => by
    refine sh ?_
    refine ICall.pure h.n268.o268.hb (rtimes_c h.n268 ha.1 hb.1) rfl ?_
    refine sh ?_
    refine ICall.pure h.n269.o269.hb (rtwo_c h.n269 (a := 0) ⟨by decide, by decide⟩ (tmul_in a.a b.a)) rfl ?_
    rw [tadd0 (tmul_in a.a b.a)]
    refine sh ?_
    refine ICall.pure h.n268.o268.hb (rtimes_c h.n268 ha.2.1 hb.2.1) rfl ?_
    refine sh ?_
    refine ICall.pure h.n269.o269.hb (rtwo_c h.n269 (tmul_in a.a b.a) (tmul_in a.b b.b)) rfl ?_
    refine sh ?_
    refine ICall.pure h.n268.o268.hb (rtimes_c h.n268 ha.2.2 hb.2.2) rfl ?_
    refine sh ?_
    refine ICall.pure h.n269.o269.hb (rtwo_c h.n269 (tadd_in _ _) (tmul_in a.c b.c)) rfl ?_
    refine sh ?_
    exact rT
theorem rvtwo_c {R : Env} (h : N254 R) {a b : T3} (ha : a.I) (hb : b.I) : R.Pc 254 [.agg (t3 a), .agg (t3 b)] (.agg (t3 (vadd a b))) :=
  h.o254.enter 100 rfl fun X bb hfit hp => by
    refine sh ?_
    refine ICall.pure h.n269.o269.hb (rtwo_c h.n269 ha.1 hb.1) rfl ?_
    refine sh ?_
    refine ICall.pure h.n269.o269.hb (rtwo_c h.n269 ha.2.1 hb.2.1) rfl ?_
    refine sh ?_
    refine ICall.pure h.n269.o269.hb (rtwo_c h.n269 ha.2.2 hb.2.2) rfl ?_
    refine sh ?_
    exact rT
theorem rvof_c {R : Env} (h : N259 R) {p : T3} (hp' : p.I) : R.Pc 259 [.agg (t3 p)] (.agg (t3 (vof p))) :=
  h.o259.enter 100 rfl fun X bb hfit hp => by
    refine sh ?_
    refine ICall.pure h.n272.o272.hb (rof_c h.n272 hp'.1) rfl ?_
    refine sh ?_
    refine ICall.pure h.n272.o272.hb (rof_c h.n272 hp'.2.1) rfl ?_
    refine sh ?_
    refine ICall.pure h.n272.o272.hb (rof_c h.n272 hp'.2.2) rfl ?_
    refine sh ?_
    exact rT
theorem rsizeI_c {R : Env} (h : N271 R) {x : Int} (hx : I64 x) : R.Pc 271 [.int .i64 x] (.int .i64 (sizeI x)) :=
  h.o271.enter 100 rfl fun X bb hfit hp => by
    refine sh ?_
    refine cS (fun h1 => ?_) (fun h1 => ?_)
    · refine sh ?_
      refine ICall.pure h.n282.o282.hb (rsub0_c h.n282 hx) rfl ?_
      refine sh ?_
      refine rT ?_
      all_goals repeat' (first | exact True.intro | refine And.intro ?_ ?_ | (intro _u; clear _u) | (with_reducible first | refine eM ?_ ?_ | refine eF ?_ ?_ ?_ | refine eN ?_ | refine eL ?_ ?_ ?_ | refine eA ?_ ?_ | refine IWk.mk ⟨_, hp, rfl⟩ ?_ ?_) | refine IWk.mk ⟨_, hp, rfl⟩ ?_ ?_)
      all_goals first | with_reducible rfl | omega | exact Or.inl (by decide) | (simp; done) | rfl | skip
      all_goals (unfold sizeI; rw [if_pos h1])
    · refine sh ?_
      refine rT ?_
      all_goals repeat' (first | exact True.intro | refine And.intro ?_ ?_ | (intro _u; clear _u) | (with_reducible first | refine eM ?_ ?_ | refine eF ?_ ?_ ?_ | refine eN ?_ | refine eL ?_ ?_ ?_ | refine eA ?_ ?_ | refine IWk.mk ⟨_, hp, rfl⟩ ?_ ?_) | refine IWk.mk ⟨_, hp, rfl⟩ ?_ ?_)
      all_goals first | with_reducible rfl | omega | exact Or.inl (by decide) | (simp; done) | rfl | skip
      all_goals (unfold sizeI; rw [if_neg (by omega)])
theorem rmost_c {R : Env} (h : N257 R) {p : T3} (hp' : p.I) : R.Pc 257 [.agg (t3 p)] (.int .i64 (mostT p)) :=
  h.o257.enter 100 rfl fun X bb hfit hp => by
    unfold mostT
    refine sh ?_
    refine ICall.pure h.n271.o271.hb (rsizeI_c h.n271 hp'.1) rfl ?_
    refine sh ?_
    refine ICall.pure h.n271.o271.hb (rsizeI_c h.n271 hp'.2.1) rfl ?_
    refine sh ?_
    refine cS (fun h1 => ?_) (fun h1 => ?_)
    · refine sh ?_
      refine ICall.pure h.n271.o271.hb (rsizeI_c h.n271 hp'.2.1) rfl ?_
      refine sh ?_
      refine ICall.pure h.n271.o271.hb (rsizeI_c h.n271 hp'.2.2) rfl ?_
      refine sh ?_
      refine cS (fun h2 => ?_) (fun h2 => ?_)
      · refine sh ?_
        refine ICall.pure h.n271.o271.hb (rsizeI_c h.n271 hp'.2.2) rfl ?_
        refine sh ?_
        refine rT ?_
        all_goals repeat' (first | exact True.intro | refine And.intro ?_ ?_ | (intro _u; clear _u) | (with_reducible first | refine eM ?_ ?_ | refine eF ?_ ?_ ?_ | refine eN ?_ | refine eL ?_ ?_ ?_ | refine eA ?_ ?_ | refine IWk.mk ⟨_, hp, rfl⟩ ?_ ?_) | refine IWk.mk ⟨_, hp, rfl⟩ ?_ ?_)
        all_goals first | with_reducible rfl | omega | exact Or.inl (by decide) | (simp; done) | rfl | skip
        all_goals omega
      · refine sh ?_
        refine rT ?_
        all_goals repeat' (first | exact True.intro | refine And.intro ?_ ?_ | (intro _u; clear _u) | (with_reducible first | refine eM ?_ ?_ | refine eF ?_ ?_ ?_ | refine eN ?_ | refine eL ?_ ?_ ?_ | refine eA ?_ ?_ | refine IWk.mk ⟨_, hp, rfl⟩ ?_ ?_) | refine IWk.mk ⟨_, hp, rfl⟩ ?_ ?_)
        all_goals first | with_reducible rfl | omega | exact Or.inl (by decide) | (simp; done) | rfl | skip
        all_goals omega
    · refine sh ?_
      refine ICall.pure h.n271.o271.hb (rsizeI_c h.n271 hp'.2.2) rfl ?_
      refine sh ?_
      refine cS (fun h2 => ?_) (fun h2 => ?_)
      · refine sh ?_
        refine ICall.pure h.n271.o271.hb (rsizeI_c h.n271 hp'.2.2) rfl ?_
        refine sh ?_
        refine rT ?_
        all_goals repeat' (first | exact True.intro | refine And.intro ?_ ?_ | (intro _u; clear _u) | (with_reducible first | refine eM ?_ ?_ | refine eF ?_ ?_ ?_ | refine eN ?_ | refine eL ?_ ?_ ?_ | refine eA ?_ ?_ | refine IWk.mk ⟨_, hp, rfl⟩ ?_ ?_) | refine IWk.mk ⟨_, hp, rfl⟩ ?_ ?_)
        all_goals first | with_reducible rfl | omega | exact Or.inl (by decide) | (simp; done) | rfl | skip
        all_goals omega
      · refine sh ?_
        refine rT ?_
        all_goals repeat' (first | exact True.intro | refine And.intro ?_ ?_ | (intro _u; clear _u) | (with_reducible first | refine eM ?_ ?_ | refine eF ?_ ?_ ?_ | refine eN ?_ | refine eL ?_ ?_ ?_ | refine eA ?_ ?_ | refine IWk.mk ⟨_, hp, rfl⟩ ?_ ?_) | refine IWk.mk ⟨_, hp, rfl⟩ ?_ ?_)
        all_goals first | with_reducible rfl | omega | exact Or.inl (by decide) | (simp; done) | rfl | skip
        all_goals omega
end Go.UM

namespace Go.UM
open Go.AM
set_option maxRecDepth 4000
@[simp] theorem nm_t3 (x : T3) : AV.namesL (t3 x) = [] := by simp [t3]
@[simp] theorem fl_t3 (x : T3) : AV.flatL (t3 x) = true := by simp [t3]
@[simp] theorem nm_af (a : Af) : AV.namesL a.row = [] := by simp [Af.row]
@[simp] theorem fl_af (a : Af) : AV.flatL a.row = true := by simp [Af.row]
theorem same4_c {R : Env} (h : N221 R) : R.Pc 221 [] (.agg same4.row) :=
  h.o221.enter 60 rfl fun X bb hfit hp => by
    refine sh ?_
    exact rT
theorem rsame4_c {R : Env} (h : N222 R) : R.Pc 222 [] (.agg same4.row) :=
  h.o222.enter 60 rfl fun X bb hfit hp => by
    refine sh ?_
    exact rT
theorem move4_c {R : Env} (h : N223 R) (v : T3) : R.Pc 223 [.agg (t3 v)] (.agg (move4 v).row) :=
  h.o223.enter 60 rfl fun X bb hfit hp => by
    refine sh ?_
    refine ICall.pure h.n221.o221.hb (same4_c h.n221) rfl ?_
    refine sh ?_
    exact rT
theorem row4_c {R : Env} (h : N251 R) (a : Af) (i : Nat) (hi : i < 3) : R.Pc 251 [.agg a.mrow, .int .i64 i] (.agg (t3 (a.rw i))) := by
  match i, hi with
  | 0, _ =>
    exact h.o251.enter 60 rfl fun X bb hfit hp => by
      refine sh ?_
      exact rT
  | 1, _ =>
    exact h.o251.enter 60 rfl fun X bb hfit hp => by
      refine sh ?_
      exact rT
  | 2, _ =>
    exact h.o251.enter 60 rfl fun X bb hfit hp => by
      refine sh ?_
      exact rT
theorem col4_c {R : Env} (h : N258 R) (a : Af) (i : Nat) (hi : i < 3) : R.Pc 258 [.agg a.mrow, .int .i64 i] (.agg (t3 (a.cl i))) := by
  match i, hi with
  | 0, _ =>
    exact h.o258.enter 60 rfl fun X bb hfit hp => by
      refine sh ?_
      exact rT
  | 1, _ =>
    exact h.o258.enter 60 rfl fun X bb hfit hp => by
      refine sh ?_
      exact rT
  | 2, _ =>
    exact h.o258.enter 60 rfl fun X bb hfit hp => by
      refine sh ?_
      exact rT
theorem turn4_c {R : Env} (h : N231 R) {a : Af} {v : T3} (ha : a.I) (hv : v.I) : R.Pc 231 [.agg a.row, .agg (t3 v)] (.agg (t3 (turn4 a v))) :=
  h.o231.enter 60 rfl fun X bb hfit hp => by
    refine sh ?_
    refine ICall.pure h.n251.o251.hb (row4_c h.n251 a 0 (by omega)) rfl ?_
    refine sh ?_
    refine ICall.pure h.n252.o252.hb (dot_c h.n252 (ha.rw 0) hv) rfl ?_
    refine sh ?_
    refine ICall.pure h.n251.o251.hb (row4_c h.n251 a 1 (by omega)) rfl ?_
    refine sh ?_
    refine ICall.pure h.n252.o252.hb (dot_c h.n252 (ha.rw 1) hv) rfl ?_
    refine sh ?_
    refine ICall.pure h.n251.o251.hb (row4_c h.n251 a 2 (by omega)) rfl ?_
    refine sh ?_
    refine ICall.pure h.n252.o252.hb (dot_c h.n252 (ha.rw 2) hv) rfl ?_
    refine sh ?_
    exact rT
theorem apply4_c {R : Env} (h : N233 R) {a : Af} {v : T3} (ha : a.I) (hv : v.I) : R.Pc 233 [.agg a.row, .agg (t3 v)] (.agg (t3 (apply4 a v))) :=
  h.o233.enter 60 rfl fun X bb hfit hp => by
    refine sh ?_
    refine ICall.pure h.n231.o231.hb (turn4_c h.n231 ha hv) rfl ?_
    have i1 := turn_in a v
    have c1 := vadd_c h.n246 [turn4 a v, a.t] (by simp) (by intro x hx; simp at hx; rcases hx with rfl | rfl; exact i1; exact ha.t)
    rw [show [turn4 a v, a.t].foldl vadd z3 = apply4 a v by simp [vadd0 i1, apply4]] at c1
    refine sh ?_
    refine cM true [] (c1.mc h.n246.o246.hb) ?_
    repeat ((intro _u; clear _u); first | refine eK ?_ | refine eP ?_)
    refine sh ?_
    exact rT
theorem rturn4_c {R : Env} (h : N232 R) {a : Af} {v : T3} (ha : a.I) (hv : v.I) : R.Pc 232 [.agg a.row, .agg (t3 v)] (.agg (t3 (turn4 a v))) :=
  h.o232.enter 60 rfl fun X bb hfit hp => by
    refine sh ?_
    refine ILoop.one 100 ?_
    refine sh ?_
    refine acnd_t (by decide) ?_
    refine sh ?_
    refine ICall.pure h.n253.o253.hb (rdot_c h.n253 (ha.rw 0) hv) rfl ?_
    refine sh ?_
    refine ILoop.one 100 ?_
    refine sh ?_
    refine acnd_t (by decide) ?_
    refine sh ?_
    refine ICall.pure h.n253.o253.hb (rdot_c h.n253 (ha.rw 1) hv) rfl ?_
    refine sh ?_
    refine ILoop.one 100 ?_
    refine sh ?_
    refine acnd_t (by decide) ?_
    refine sh ?_
    refine ICall.pure h.n253.o253.hb (rdot_c h.n253 (ha.rw 2) hv) rfl ?_
    refine sh ?_
    refine ILoop.one 100 ?_
    refine sh ?_
    refine acnd_f (by decide) ?_
    refine sh ?_
    refine aelt_lit rfl ?_
    refine sh ?_
    refine aelt_lit rfl ?_
    refine sh ?_
    refine aelt_lit rfl ?_
    refine sh ?_
    exact rT
theorem rapply4_c {R : Env} (h : N234 R) {a : Af} {v : T3} (ha : a.I) (hv : v.I) : R.Pc 234 [.agg a.row, .agg (t3 v)] (.agg (t3 (apply4 a v))) :=
  h.o234.enter 60 rfl fun X bb hfit hp => by
    refine sh ?_
    refine ICall.pure h.n232.o232.hb (rturn4_c h.n232 ha hv) rfl ?_
    refine sh ?_
    refine ICall.pure h.n254.o254.hb (rvtwo_c h.n254 (turn_in a v) ha.t) rfl ?_
    refine sh ?_
    exact rT
theorem off40_e {x : Int} (hx : I64 x) : off40 x = decide (1099511627776 < sizeI x) := by
  rw [i64_iff] at hx
  unfold off40 sizeI sat
  rw [Bool.eq_iff_iff]
  simp only [Bool.or_eq_true, decide_eq_true_eq]
  repeat' split
  all_goals omega
theorem chk4_yes {a : Af} {x : Int} (hx : x ∈ ms a) (h : off40 x = true) : chk4 a = 2 := by
  unfold chk4
  rw [if_pos (List.any_eq_true.2 ⟨x, hx, h⟩)]
theorem check4_c {R : Env} (h : N235 R) {a : Af} (ha : a.I) : R.Pc 235 [.agg a.row] (.int .i64 (chk4 a)) :=
  h.o235.enter 100 rfl fun X bb hfit hp => by
    refine sh ?_
    refine ILoop.one 100 ?_
    refine sh ?_
    refine acnd_t (by decide) ?_
    refine sh ?_
    refine ICall.pure h.n255.o255.hb (fabs_c h.n255 ha.m0) rfl ?_
    refine sh ?_
    refine cS (fun o0 => ?_) (fun o0 => ?_)
    · rw [chk4_yes (x := a.m0) (by simp [ms]) (by rw [off40_e ha.m0]; simpa using o0)]
      refine sh ?_
      exact rT
    · skip
      refine sh ?_
      refine ILoop.one 100 ?_
      refine sh ?_
      refine acnd_t (by decide) ?_
      refine sh ?_
      refine ICall.pure h.n255.o255.hb (fabs_c h.n255 ha.m1) rfl ?_
      refine sh ?_
      refine cS (fun o1 => ?_) (fun o1 => ?_)
      · rw [chk4_yes (x := a.m1) (by simp [ms]) (by rw [off40_e ha.m1]; simpa using o1)]
        refine sh ?_
        exact rT
      · skip
        refine sh ?_
        refine ILoop.one 100 ?_
        refine sh ?_
        refine acnd_t (by decide) ?_
        refine sh ?_
        refine ICall.pure h.n255.o255.hb (fabs_c h.n255 ha.m2) rfl ?_
        refine sh ?_
        refine cS (fun o2 => ?_) (fun o2 => ?_)
        · rw [chk4_yes (x := a.m2) (by simp [ms]) (by rw [off40_e ha.m2]; simpa using o2)]
          refine sh ?_
          exact rT
        · skip
          refine sh ?_
          refine ILoop.one 100 ?_
          refine sh ?_
          refine acnd_t (by decide) ?_
          refine sh ?_
          refine ICall.pure h.n255.o255.hb (fabs_c h.n255 ha.m3) rfl ?_
          refine sh ?_
          refine cS (fun o3 => ?_) (fun o3 => ?_)
          · rw [chk4_yes (x := a.m3) (by simp [ms]) (by rw [off40_e ha.m3]; simpa using o3)]
            refine sh ?_
            exact rT
          · skip
            refine sh ?_
            refine ILoop.one 100 ?_
            refine sh ?_
            refine acnd_t (by decide) ?_
            refine sh ?_
            refine ICall.pure h.n255.o255.hb (fabs_c h.n255 ha.m4) rfl ?_
            refine sh ?_
            refine cS (fun o4 => ?_) (fun o4 => ?_)
            · rw [chk4_yes (x := a.m4) (by simp [ms]) (by rw [off40_e ha.m4]; simpa using o4)]
              refine sh ?_
              exact rT
            · skip
              refine sh ?_
              refine ILoop.one 100 ?_
              refine sh ?_
              refine acnd_t (by decide) ?_
              refine sh ?_
              refine ICall.pure h.n255.o255.hb (fabs_c h.n255 ha.m5) rfl ?_
              refine sh ?_
              refine cS (fun o5 => ?_) (fun o5 => ?_)
              · rw [chk4_yes (x := a.m5) (by simp [ms]) (by rw [off40_e ha.m5]; simpa using o5)]
                refine sh ?_
                exact rT
              · skip
                refine sh ?_
                refine ILoop.one 100 ?_
                refine sh ?_
                refine acnd_t (by decide) ?_
                refine sh ?_
                refine ICall.pure h.n255.o255.hb (fabs_c h.n255 ha.m6) rfl ?_
                refine sh ?_
                refine cS (fun o6 => ?_) (fun o6 => ?_)
                · rw [chk4_yes (x := a.m6) (by simp [ms]) (by rw [off40_e ha.m6]; simpa using o6)]
                  refine sh ?_
                  exact rT
                · skip
                  refine sh ?_
                  refine ILoop.one 100 ?_
                  refine sh ?_
                  refine acnd_t (by decide) ?_
                  refine sh ?_
                  refine ICall.pure h.n255.o255.hb (fabs_c h.n255 ha.m7) rfl ?_
                  refine sh ?_
                  refine cS (fun o7 => ?_) (fun o7 => ?_)
                  · rw [chk4_yes (x := a.m7) (by simp [ms]) (by rw [off40_e ha.m7]; simpa using o7)]
                    refine sh ?_
                    exact rT
                  · skip
                    refine sh ?_
                    refine ILoop.one 100 ?_
                    refine sh ?_
                    refine acnd_t (by decide) ?_
                    refine sh ?_
                    refine ICall.pure h.n255.o255.hb (fabs_c h.n255 ha.m8) rfl ?_
                    refine sh ?_
                    refine cS (fun o8 => ?_) (fun o8 => ?_)
                    · rw [chk4_yes (x := a.m8) (by simp [ms]) (by rw [off40_e ha.m8]; simpa using o8)]
                      refine sh ?_
                      exact rT
                    · skip
                      refine sh ?_
                      refine ILoop.one 100 ?_
                      refine sh ?_
                      refine acnd_f (by decide) ?_
                      have hno : (ms a).any off40 = false := by
                        simp only [ms, List.any_cons, List.any_nil, (off40_e ha.m0).trans (decide_eq_false (by omega)), (off40_e ha.m1).trans (decide_eq_false (by omega)), (off40_e ha.m2).trans (decide_eq_false (by omega)), (off40_e ha.m3).trans (decide_eq_false (by omega)), (off40_e ha.m4).trans (decide_eq_false (by omega)), (off40_e ha.m5).trans (decide_eq_false (by omega)), (off40_e ha.m6).trans (decide_eq_false (by omega)), (off40_e ha.m7).trans (decide_eq_false (by omega)), (off40_e ha.m8).trans (decide_eq_false (by omega))]
                        rfl
                      unfold chk4
                      rw [if_neg (by rw [hno]; simp)]
                      refine sh ?_
                      refine ICall.pure h.n256.o256.hb (vmost_c h.n256 ha.t) rfl ?_
                      refine sh ?_
                      refine cS (fun w => ?_) (fun w => ?_)
                      · rw [if_pos (by omega)]
                        refine sh ?_
                        exact rT
                      · rw [if_neg (by omega)]
                        refine sh ?_
                        exact rT
theorem rcheck4_c {R : Env} (h : N236 R) {a : Af} (ha : a.I) : R.Pc 236 [.agg a.row] (.int .i64 (chk4 a)) :=
  h.o236.enter 100 rfl fun X bb hfit hp => by
    refine sh ?_
    refine ILoop.one 100 ?_
    refine sh ?_
    refine acnd_t (by decide) ?_
    refine sh ?_
    refine cS (fun o0 => ?_) (fun o0 => ?_)
    · rw [chk4_yes (x := a.m0) (by simp [ms]) (by simp [off40]; omega)]
      refine sh ?_
      exact rT
    · refine sh ?_
      refine cS (fun q0 => ?_) (fun q0 => ?_)
      · rw [chk4_yes (x := a.m0) (by simp [ms]) (by simp [off40]; omega)]
        refine sh ?_
        exact rT
      · skip
        refine sh ?_
        refine ILoop.one 100 ?_
        refine sh ?_
        refine acnd_t (by decide) ?_
        refine sh ?_
        refine cS (fun o1 => ?_) (fun o1 => ?_)
        · rw [chk4_yes (x := a.m1) (by simp [ms]) (by simp [off40]; omega)]
          refine sh ?_
          exact rT
        · refine sh ?_
          refine cS (fun q1 => ?_) (fun q1 => ?_)
          · rw [chk4_yes (x := a.m1) (by simp [ms]) (by simp [off40]; omega)]
            refine sh ?_
            exact rT
          · skip
            refine sh ?_
            refine ILoop.one 100 ?_
            refine sh ?_
            refine acnd_t (by decide) ?_
            refine sh ?_
            refine cS (fun o2 => ?_) (fun o2 => ?_)
            · rw [chk4_yes (x := a.m2) (by simp [ms]) (by simp [off40]; omega)]
              refine sh ?_
              exact rT
            · refine sh ?_
              refine cS (fun q2 => ?_) (fun q2 => ?_)
              · rw [chk4_yes (x := a.m2) (by simp [ms]) (by simp [off40]; omega)]
                refine sh ?_
                exact rT
              · skip
                refine sh ?_
                refine ILoop.one 100 ?_
                refine sh ?_
                refine acnd_t (by decide) ?_
                refine sh ?_
                refine cS (fun o3 => ?_) (fun o3 => ?_)
                · rw [chk4_yes (x := a.m3) (by simp [ms]) (by simp [off40]; omega)]
                  refine sh ?_
                  exact rT
                · refine sh ?_
                  refine cS (fun q3 => ?_) (fun q3 => ?_)
                  · rw [chk4_yes (x := a.m3) (by simp [ms]) (by simp [off40]; omega)]
                    refine sh ?_
                    exact rT
                  · skip
                    refine sh ?_
                    refine ILoop.one 100 ?_
                    refine sh ?_
                    refine acnd_t (by decide) ?_
                    refine sh ?_
                    refine cS (fun o4 => ?_) (fun o4 => ?_)
                    · rw [chk4_yes (x := a.m4) (by simp [ms]) (by simp [off40]; omega)]
                      refine sh ?_
                      exact rT
                    · refine sh ?_
                      refine cS (fun q4 => ?_) (fun q4 => ?_)
                      · rw [chk4_yes (x := a.m4) (by simp [ms]) (by simp [off40]; omega)]
                        refine sh ?_
                        exact rT
                      · skip
                        refine sh ?_
                        refine ILoop.one 100 ?_
                        refine sh ?_
                        refine acnd_t (by decide) ?_
                        refine sh ?_
                        refine cS (fun o5 => ?_) (fun o5 => ?_)
                        · rw [chk4_yes (x := a.m5) (by simp [ms]) (by simp [off40]; omega)]
                          refine sh ?_
                          exact rT
                        · refine sh ?_
                          refine cS (fun q5 => ?_) (fun q5 => ?_)
                          · rw [chk4_yes (x := a.m5) (by simp [ms]) (by simp [off40]; omega)]
                            refine sh ?_
                            exact rT
                          · skip
                            refine sh ?_
                            refine ILoop.one 100 ?_
                            refine sh ?_
                            refine acnd_t (by decide) ?_
                            refine sh ?_
                            refine cS (fun o6 => ?_) (fun o6 => ?_)
                            · rw [chk4_yes (x := a.m6) (by simp [ms]) (by simp [off40]; omega)]
                              refine sh ?_
                              exact rT
                            · refine sh ?_
                              refine cS (fun q6 => ?_) (fun q6 => ?_)
                              · rw [chk4_yes (x := a.m6) (by simp [ms]) (by simp [off40]; omega)]
                                refine sh ?_
                                exact rT
                              · skip
                                refine sh ?_
                                refine ILoop.one 100 ?_
                                refine sh ?_
                                refine acnd_t (by decide) ?_
                                refine sh ?_
                                refine cS (fun o7 => ?_) (fun o7 => ?_)
                                · rw [chk4_yes (x := a.m7) (by simp [ms]) (by simp [off40]; omega)]
                                  refine sh ?_
                                  exact rT
                                · refine sh ?_
                                  refine cS (fun q7 => ?_) (fun q7 => ?_)
                                  · rw [chk4_yes (x := a.m7) (by simp [ms]) (by simp [off40]; omega)]
                                    refine sh ?_
                                    exact rT
                                  · skip
                                    refine sh ?_
                                    refine ILoop.one 100 ?_
                                    refine sh ?_
                                    refine acnd_t (by decide) ?_
                                    refine sh ?_
                                    refine cS (fun o8 => ?_) (fun o8 => ?_)
                                    · rw [chk4_yes (x := a.m8) (by simp [ms]) (by simp [off40]; omega)]
                                      refine sh ?_
                                      exact rT
                                    · refine sh ?_
                                      refine cS (fun q8 => ?_) (fun q8 => ?_)
                                      · rw [chk4_yes (x := a.m8) (by simp [ms]) (by simp [off40]; omega)]
                                        refine sh ?_
                                        exact rT
                                      · skip
                                        refine sh ?_
                                        refine ILoop.one 100 ?_
                                        refine sh ?_
                                        refine acnd_f (by decide) ?_
                                        have hno : (ms a).any off40 = false := by
                                          simp only [ms, List.any_cons, List.any_nil, (show off40 a.m0 = false by simp [off40]; omega), (show off40 a.m1 = false by simp [off40]; omega), (show off40 a.m2 = false by simp [off40]; omega), (show off40 a.m3 = false by simp [off40]; omega), (show off40 a.m4 = false by simp [off40]; omega), (show off40 a.m5 = false by simp [off40]; omega), (show off40 a.m6 = false by simp [off40]; omega), (show off40 a.m7 = false by simp [off40]; omega), (show off40 a.m8 = false by simp [off40]; omega)]
                                          rfl
                                        unfold chk4
                                        rw [if_neg (by rw [hno]; simp)]
                                        refine sh ?_
                                        refine ICall.pure h.n257.o257.hb (rmost_c h.n257 ha.t) rfl ?_
                                        refine sh ?_
                                        refine cS (fun w => ?_) (fun w => ?_)
                                        · rw [if_pos (by omega)]
                                          refine sh ?_
                                          exact rT
                                        · rw [if_neg (by omega)]
                                          refine sh ?_
                                          exact rT
theorem snap4_c {R : Env} (h : N243 R) {v : T3} (hv : v.I) : R.Pc 243 [.agg (t3 v)] (.tup [.agg (t3 (snap4 v).1), .int .i64 (snap4 v).2]) :=
  h.o243.enter 100 rfl fun X bb hfit hp => by
    refine sh ?_
    refine ICall.pure h.n260.o260.hb (fround_c h.n260 hv.1) rfl ?_
    refine sh ?_
    refine ICall.pure h.n260.o260.hb (fround_c h.n260 hv.2.1) rfl ?_
    refine sh ?_
    refine ICall.pure h.n260.o260.hb (fround_c h.n260 hv.2.2) rfl ?_
    generalize hq : snap4 v = q
    unfold snap4 rnd3 at hq
    generalize rnd v.a = x at *
    generalize rnd v.b = y at *
    generalize rnd v.c = z at *
    unfold offG at hq
    refine sh ?_
    refine cS (fun h1 => ?_) (fun h1 => ?_)
    · rw [if_pos (by simp; omega)] at hq
      subst hq
      refine sh ?_
      exact rT
    · refine sh ?_
      refine cS (fun h2 => ?_) (fun h2 => ?_)
      · rw [if_pos (by simp; omega)] at hq
        subst hq
        refine sh ?_
        exact rT
      · rw [if_neg (by simp; omega)] at hq
        subst hq
        refine sh ?_
        exact rT
theorem rsnap4_c {R : Env} (h : N244 R) {v : T3} (hv : v.I) : R.Pc 244 [.agg (t3 v)] (.tup [.agg (t3 (snap4 v).1), .int .i64 (snap4 v).2]) :=
  h.o244.enter 100 rfl fun X bb hfit hp => by
    refine sh ?_
    refine ICall.pure h.n261.o261.hb (rround_c h.n261 hv.1) rfl ?_
    refine sh ?_
    refine ICall.pure h.n261.o261.hb (rround_c h.n261 hv.2.1) rfl ?_
    refine sh ?_
    refine ICall.pure h.n261.o261.hb (rround_c h.n261 hv.2.2) rfl ?_
    generalize hq : snap4 v = q
    unfold snap4 rnd3 at hq
    generalize rnd v.a = x at *
    generalize rnd v.b = y at *
    generalize rnd v.c = z at *
    unfold offG at hq
    by_cases ho : (65536 < x ∨ x < -65536) ∨ (65536 < y ∨ y < -65536) ∨ (65536 < z ∨ z < -65536)
    · rw [if_pos (by simp; omega)] at hq
      subst hq
      refine sh ?_
      refine cS (fun h1 => ?_) (fun h1 => ?_)
      · refine sh ?_
        exact rT
      · refine sh ?_
        refine cS (fun h2 => ?_) (fun h2 => ?_)
        · refine sh ?_
          exact rT
        · refine sh ?_
          refine cS (fun h3 => ?_) (fun h3 => ?_)
          · refine sh ?_
            exact rT
          · refine sh ?_
            refine cS (fun h4 => ?_) (fun h4 => ?_)
            · refine sh ?_
              exact rT
            · refine sh ?_
              refine cS (fun h5 => ?_) (fun h5 => ?_)
              · refine sh ?_
                exact rT
              · refine sh ?_
                refine acnd_t (by (simp; omega)) ?_
                refine sh ?_
                exact rT
    · rw [if_neg (by simp; omega)] at hq
      subst hq
      refine sh ?_
      refine acnd_f (by (simp; omega)) ?_
      refine sh ?_
      refine acnd_f (by (simp; omega)) ?_
      refine sh ?_
      refine acnd_f (by (simp; omega)) ?_
      refine sh ?_
      refine acnd_f (by (simp; omega)) ?_
      refine sh ?_
      refine acnd_f (by (simp; omega)) ?_
      refine sh ?_
      refine acnd_f (by (simp; omega)) ?_
      refine sh ?_
      exact rT
theorem place4_c {R : Env} (h : N241 R) {a : Af} {p : T3} (ha : a.I) (hp' : p.I) : R.Pc 241 [.agg a.row, .agg (t3 p)] (.tup [.agg (t3 (place4 a p).1), .int .i64 (place4 a p).2]) :=
  h.o241.enter 100 rfl fun X bb hfit hp => by
    refine sh ?_
    refine ICall.pure h.n235.o235.hb (check4_c h.n235 ha) rfl ?_
    generalize hq : place4 a p = q
    unfold place4 at hq
    by_cases hc : chk4 a = 0
    · rw [if_neg (by simpa using hc)] at hq
      refine sh ?_
      refine acnd_f (by simpa using hc) ?_
      refine sh ?_
      refine ICall.pure h.n249.o249.hb (vofp_c h.n249 hp') rfl ?_
      refine sh ?_
      refine ICall.pure h.n233.o233.hb (apply4_c h.n233 ha (vof_in p)) rfl ?_
      refine sh ?_
      refine ICall.pure h.n243.o243.hb (snap4_c h.n243 (apply_in a (vof p))) rfl ?_
      subst hq
      refine sh ?_
      exact rT
    · rw [if_pos (by simpa using hc)] at hq
      refine sh ?_
      refine acnd_t (by simpa using hc) ?_
      subst hq
      refine sh ?_
      exact rT
theorem rplace4_c {R : Env} (h : N242 R) {a : Af} {p : T3} (ha : a.I) (hp' : p.I) : R.Pc 242 [.agg a.row, .agg (t3 p)] (.tup [.agg (t3 (place4 a p).1), .int .i64 (place4 a p).2]) :=
  h.o242.enter 100 rfl fun X bb hfit hp => by
    refine sh ?_
    refine ICall.pure h.n236.o236.hb (rcheck4_c h.n236 ha) rfl ?_
    generalize hq : place4 a p = q
    unfold place4 at hq
    by_cases hc : chk4 a = 0
    · rw [if_neg (by simpa using hc)] at hq
      refine sh ?_
      refine acnd_f (by simpa using hc) ?_
      refine sh ?_
      refine ICall.pure h.n259.o259.hb (rvof_c h.n259 hp') rfl ?_
      refine sh ?_
      refine ICall.pure h.n234.o234.hb (rapply4_c h.n234 ha (vof_in p)) rfl ?_
      refine sh ?_
      refine ICall.pure h.n244.o244.hb (rsnap4_c h.n244 (apply_in a (vof p))) rfl ?_
      subst hq
      refine sh ?_
      exact rT
    · rw [if_pos (by simpa using hc)] at hq
      refine sh ?_
      refine acnd_t (by simpa using hc) ?_
      subst hq
      refine sh ?_
      exact rT
end Go.UM

namespace Go.UM
open Go.AM
set_option maxRecDepth 4000
def slA (l : List Af) : List (List AV) := l.map Af.row
@[simp] theorem slA_length (l : List Af) : (slA l).length = l.length := by simp [slA]
@[simp] theorem slA_NmL (l : List Af) : NmL (slA l) := by simp [slA]
@[simp] theorem slA_FlL (l : List Af) : FlL (slA l) := by simp [slA]
instance {l : List Af} : LenOf (slA l) l.length := ⟨slA_length l⟩
theorem axes4_c {R : Env} (h : N227 R) (l : List T3) (hl : l.length ≤ 1000) : R.Pc 227 [.isl 3 (slc3 l)] (.agg (axes4 l).row) :=
  h.o227.enter 100 rfl fun X bb hfit hp => by
    refine sh ?_
    refine ICall.pure h.n221.o221.hb (same4_c h.n221) rfl ?_
    match l, hl with
    | [], _ =>
      refine sh ?_
      refine ILoop.one 100 ?_
      refine sh ?_
      refine acnd_f (by simp) ?_
      refine sh ?_
      refine acnd_f (by simp) ?_
      refine sh ?_
      exact rT
    | [x], _ =>
      refine sh ?_
      refine ILoop.one 100 ?_
      refine sh ?_
      refine acnd_t (by simp) ?_
      refine sh ?_
      refine eget_map (show ([x] : List T3)[0]? = some x from rfl) ?_
      refine sh ?_
      refine acnd_t (by decide) ?_
      refine sh ?_
      refine ILoop.one 100 ?_
      refine sh ?_
      refine acnd_f (by simp) ?_
      refine sh ?_
      refine acnd_f (by simp) ?_
      refine sh ?_
      exact rT
    | [x, y], _ =>
      refine sh ?_
      refine ILoop.one 100 ?_
      refine sh ?_
      refine acnd_t (by simp) ?_
      refine sh ?_
      refine eget_map (show ([x, y] : List T3)[0]? = some x from rfl) ?_
      refine sh ?_
      refine acnd_t (by decide) ?_
      refine sh ?_
      refine ILoop.one 100 ?_
      refine sh ?_
      refine acnd_t (by simp) ?_
      refine sh ?_
      refine eget_map (show ([x, y] : List T3)[1]? = some y from rfl) ?_
      refine sh ?_
      refine acnd_t (by decide) ?_
      refine sh ?_
      refine ILoop.one 100 ?_
      refine sh ?_
      refine acnd_f (by simp) ?_
      refine sh ?_
      refine acnd_f (by simp) ?_
      refine sh ?_
      exact rT
    | [x, y, z], _ =>
      refine sh ?_
      refine ILoop.one 100 ?_
      refine sh ?_
      refine acnd_t (by simp) ?_
      refine sh ?_
      refine eget_map (show ([x, y, z] : List T3)[0]? = some x from rfl) ?_
      refine sh ?_
      refine acnd_t (by decide) ?_
      refine sh ?_
      refine ILoop.one 100 ?_
      refine sh ?_
      refine acnd_t (by simp) ?_
      refine sh ?_
      refine eget_map (show ([x, y, z] : List T3)[1]? = some y from rfl) ?_
      refine sh ?_
      refine acnd_t (by decide) ?_
      refine sh ?_
      refine ILoop.one 100 ?_
      refine sh ?_
      refine acnd_t (by simp) ?_
      refine sh ?_
      refine eget_map (show ([x, y, z] : List T3)[2]? = some z from rfl) ?_
      refine sh ?_
      refine acnd_t (by decide) ?_
      refine sh ?_
      refine ILoop.one 100 ?_
      refine sh ?_
      refine acnd_f (by simp) ?_
      refine sh ?_
      refine acnd_f (by simp) ?_
      refine sh ?_
      exact rT
    | x :: y :: z :: t :: r, hl =>
      simp only [List.length_cons] at hl
      refine sh ?_
      refine ILoop.one 100 ?_
      refine sh ?_
      refine acnd_t (by (simp; omega)) ?_
      refine sh ?_
      refine eget_map (show (x :: y :: z :: t :: r : List T3)[0]? = some x from rfl) ?_
      refine sh ?_
      refine acnd_t (by decide) ?_
      refine sh ?_
      refine ILoop.one 100 ?_
      refine sh ?_
      refine acnd_t (by (simp; omega)) ?_
      refine sh ?_
      refine eget_map (show (x :: y :: z :: t :: r : List T3)[1]? = some y from rfl) ?_
      refine sh ?_
      refine acnd_t (by decide) ?_
      refine sh ?_
      refine ILoop.one 100 ?_
      refine sh ?_
      refine acnd_t (by (simp; omega)) ?_
      refine sh ?_
      refine eget_map (show (x :: y :: z :: t :: r : List T3)[2]? = some z from rfl) ?_
      refine sh ?_
      refine acnd_t (by decide) ?_
      refine sh ?_
      refine lPa 100 (fun k : Nat => 3 ≤ k ∧ k ≤ r.length + 4) (fun k => ⟨[(0, .isl 3 (slc3 (x :: y :: z :: t :: r))), (2, .loc 0 1 0 0), (3, .loc 1 1 0 0), (7, .isl 3 (slc3 (x :: y :: z :: t :: r))), (8, .int .i64 (r.length + 4 : Nat)), (9, .int .i64 k)], [(1, .var (R.ty 33) (cols x y z z3).row), (0, .var (R.ty 33) [.int .i64 0, .int .i64 0, .int .i64 0, .int .i64 0, .int .i64 0, .int .i64 0, .int .i64 0, .int .i64 0, .int .i64 0, .int .i64 0, .int .i64 0, .int .i64 0])], 2⟩) (fun k => r.length + 4 - k) (3) ?_ ?_
      · omega
      · intro k hk
        dsimp only
        refine sh ?_
        refine cS (fun h4 => ?_) (fun h4 => ?_)
        · obtain ⟨u, hu⟩ : ∃ u, (x :: y :: z :: t :: r : List T3)[k]? = some u := ⟨_, List.getElem?_eq_getElem (by simp; omega)⟩
          refine sh ?_
          refine eget_map hu ?_
          refine sh ?_
          refine acnd_f (by (simp; omega)) ?_
          refine sh ?_
          refine nXa (k + 1) ?_ ?_
          · omega
          · omega
        · refine sh ?_
          refine acnd_t (by (simp; omega)) ?_
          refine sh ?_
          refine eget_map (show (x :: y :: z :: t :: r : List T3)[3]? = some t from rfl) ?_
          refine sh ?_
          exact rT
theorem raxes4_c {R : Env} (h : N228 R) (l : List T3) (hl : l.length ≤ 1000) : R.Pc 228 [.isl 3 (slc3 l)] (.agg (axes4 l).row) :=
  h.o228.enter 100 rfl fun X bb hfit hp => by
    refine sh ?_
    refine ICall.pure h.n222.o222.hb (rsame4_c h.n222) rfl ?_
    match l, hl with
    | [], _ =>
      refine sh ?_
      refine ILoop.one 100 ?_
      refine sh ?_
      refine acnd_f (by simp) ?_
      refine sh ?_
      refine acnd_f (by simp) ?_
      refine sh ?_
      exact rT
    | [x], _ =>
      refine sh ?_
      refine ILoop.one 100 ?_
      refine sh ?_
      refine acnd_t (by simp) ?_
      refine sh ?_
      refine acnd_t (by decide) ?_
      refine sh ?_
      refine eget_map (show ([x] : List T3)[0]? = some x from rfl) ?_
      refine sh ?_
      refine eget_map (show ([x] : List T3)[0]? = some x from rfl) ?_
      refine sh ?_
      refine eget_map (show ([x] : List T3)[0]? = some x from rfl) ?_
      refine sh ?_
      refine ILoop.one 100 ?_
      refine sh ?_
      refine acnd_f (by simp) ?_
      refine sh ?_
      refine acnd_f (by simp) ?_
      refine sh ?_
      exact rT
    | [x, y], _ =>
      refine sh ?_
      refine ILoop.one 100 ?_
      refine sh ?_
      refine acnd_t (by simp) ?_
      refine sh ?_
      refine acnd_t (by decide) ?_
      refine sh ?_
      refine eget_map (show ([x, y] : List T3)[0]? = some x from rfl) ?_
      refine sh ?_
      refine eget_map (show ([x, y] : List T3)[0]? = some x from rfl) ?_
      refine sh ?_
      refine eget_map (show ([x, y] : List T3)[0]? = some x from rfl) ?_
      refine sh ?_
      refine ILoop.one 100 ?_
      refine sh ?_
      refine acnd_t (by simp) ?_
      refine sh ?_
      refine acnd_t (by decide) ?_
      refine sh ?_
      refine eget_map (show ([x, y] : List T3)[1]? = some y from rfl) ?_
      refine sh ?_
      refine eget_map (show ([x, y] : List T3)[1]? = some y from rfl) ?_
      refine sh ?_
      refine eget_map (show ([x, y] : List T3)[1]? = some y from rfl) ?_
      refine sh ?_
      refine ILoop.one 100 ?_
      refine sh ?_
      refine acnd_f (by simp) ?_
      refine sh ?_
      refine acnd_f (by simp) ?_
      refine sh ?_
      exact rT
    | [x, y, z], _ =>
      refine sh ?_
      refine ILoop.one 100 ?_
      refine sh ?_
      refine acnd_t (by simp) ?_
      refine sh ?_
      refine acnd_t (by decide) ?_
      refine sh ?_
      refine eget_map (show ([x, y, z] : List T3)[0]? = some x from rfl) ?_
      refine sh ?_
      refine eget_map (show ([x, y, z] : List T3)[0]? = some x from rfl) ?_
      refine sh ?_
      refine eget_map (show ([x, y, z] : List T3)[0]? = some x from rfl) ?_
      refine sh ?_
      refine ILoop.one 100 ?_
      refine sh ?_
      refine acnd_t (by simp) ?_
      refine sh ?_
      refine acnd_t (by decide) ?_
      refine sh ?_
      refine eget_map (show ([x, y, z] : List T3)[1]? = some y from rfl) ?_
      refine sh ?_
      refine eget_map (show ([x, y, z] : List T3)[1]? = some y from rfl) ?_
      refine sh ?_
      refine eget_map (show ([x, y, z] : List T3)[1]? = some y from rfl) ?_
      refine sh ?_
      refine ILoop.one 100 ?_
      refine sh ?_
      refine acnd_t (by simp) ?_
      refine sh ?_
      refine acnd_t (by decide) ?_
      refine sh ?_
      refine eget_map (show ([x, y, z] : List T3)[2]? = some z from rfl) ?_
      refine sh ?_
      refine eget_map (show ([x, y, z] : List T3)[2]? = some z from rfl) ?_
      refine sh ?_
      refine eget_map (show ([x, y, z] : List T3)[2]? = some z from rfl) ?_
      refine sh ?_
      refine ILoop.one 100 ?_
      refine sh ?_
      refine acnd_f (by simp) ?_
      refine sh ?_
      refine acnd_f (by simp) ?_
      refine sh ?_
      exact rT
    | x :: y :: z :: t :: r, hl =>
      simp only [List.length_cons] at hl
      refine sh ?_
      refine ILoop.one 100 ?_
      refine sh ?_
      refine acnd_t (by (simp; omega)) ?_
      refine sh ?_
      refine acnd_t (by decide) ?_
      refine sh ?_
      refine eget_map (show (x :: y :: z :: t :: r : List T3)[0]? = some x from rfl) ?_
      refine sh ?_
      refine eget_map (show (x :: y :: z :: t :: r : List T3)[0]? = some x from rfl) ?_
      refine sh ?_
      refine eget_map (show (x :: y :: z :: t :: r : List T3)[0]? = some x from rfl) ?_
      refine sh ?_
      refine ILoop.one 100 ?_
      refine sh ?_
      refine acnd_t (by (simp; omega)) ?_
      refine sh ?_
      refine acnd_t (by decide) ?_
      refine sh ?_
      refine eget_map (show (x :: y :: z :: t :: r : List T3)[1]? = some y from rfl) ?_
      refine sh ?_
      refine eget_map (show (x :: y :: z :: t :: r : List T3)[1]? = some y from rfl) ?_
      refine sh ?_
      refine eget_map (show (x :: y :: z :: t :: r : List T3)[1]? = some y from rfl) ?_
      refine sh ?_
      refine ILoop.one 100 ?_
      refine sh ?_
      refine acnd_t (by (simp; omega)) ?_
      refine sh ?_
      refine acnd_t (by decide) ?_
      refine sh ?_
      refine eget_map (show (x :: y :: z :: t :: r : List T3)[2]? = some z from rfl) ?_
      refine sh ?_
      refine eget_map (show (x :: y :: z :: t :: r : List T3)[2]? = some z from rfl) ?_
      refine sh ?_
      refine eget_map (show (x :: y :: z :: t :: r : List T3)[2]? = some z from rfl) ?_
      refine sh ?_
      refine ILoop.one 100 ?_
      refine sh ?_
      refine acnd_t (by (simp; omega)) ?_
      refine sh ?_
      refine acnd_f (by decide) ?_
      refine sh ?_
      refine acnd_t (by (simp; omega)) ?_
      refine sh ?_
      refine eget_map (show (x :: y :: z :: t :: r : List T3)[3]? = some t from rfl) ?_
      refine sh ?_
      exact rT
theorem then4_succ {l : List Af} {k : Nat} {g : Af} (h : l[k]? = some g) (hk : 1 ≤ k) : then4 (l.take (k + 1)) = comp4 (then4 (l.take k)) g := by
  match l, k, h, hk with
  | f :: r, m + 1, h, _ =>
    have h : r[m]? = some g := by simpa using h
    rw [List.take_succ_cons, List.take_succ_cons, take_succ_get h]
    simp [then4, List.foldl_append]
theorem then4_one {l : List Af} {g : Af} (h : l[0]? = some g) : then4 (l.take 1) = g := by
  match l, h with
  | f :: r, h =>
    have h : f = g := by simpa using h
    simp [then4, h]
theorem then4_c {R : Env} (h : N238 R) (l : List Af) (hl : l.length ≤ 1000) (hi : ∀ a ∈ l, a.I) : R.Pc 238 [.isl 12 (slA l)] (.agg (then4 l).row) :=
  h.o238.enter 100 rfl fun X bb hfit hp => by
    refine sh ?_
    refine ICall.pure h.n221.o221.hb (same4_c h.n221) rfl ?_
    refine sh ?_
    refine lPa 100 (fun s : Nat × Af => s.1 ≤ l.length ∧ s.2.I ∧ then4 (l.take s.1) = s.2) (fun s => ⟨[(2, .loc 0 1 0 0), (3, .loc 1 1 0 0), (7, .isl 12 (slA l)), (8, .int .i64 l.length), (9, .int .i64 s.1)], [(1, .var (R.ty 33) s.2.row), (0, .var (R.ty 33) [.int .i64 0, .int .i64 0, .int .i64 0, .int .i64 0, .int .i64 0, .int .i64 0, .int .i64 0, .int .i64 0, .int .i64 0, .int .i64 0, .int .i64 0, .int .i64 0])], 2⟩) (fun s => l.length - s.1) ((0, same4)) ?_ ?_
    · exact ⟨Nat.zero_le _, same_in, rfl⟩
    · rintro ⟨k, f⟩ ⟨h1, h2, h3⟩
      dsimp only at h1 h2 h3 ⊢
      refine sh ?_
      refine cS (fun h4 => ?_) (fun h4 => ?_)
      · obtain ⟨g, hg⟩ : ∃ u_, l[k]? = some u_ := ⟨_, List.getElem?_eq_getElem (by first | omega | (simp <;> omega))⟩
        refine sh ?_
        refine eget_map hg ?_
        have ig := hi g (List.mem_of_getElem? hg)
        by_cases h0 : k = 0
        · subst h0
          refine sh ?_
          refine acnd_t (by rfl) ?_
          refine sh ?_
          refine nXa ((1, g)) ?_ ?_
          · exact ⟨by omega, ig, then4_one hg⟩
          · omega
        · refine sh ?_
          refine acnd_f (by (simp; omega)) ?_
          refine sh ?_
          refine ICall.pure h.n258.o258.hb (col4_c h.n258 f 0 (by omega)) rfl ?_
          refine sh ?_
          refine ICall.pure h.n231.o231.hb (turn4_c h.n231 ig (h2.cl 0)) rfl ?_
          refine sh ?_
          refine ICall.pure h.n258.o258.hb (col4_c h.n258 f 1 (by omega)) rfl ?_
          refine sh ?_
          refine ICall.pure h.n231.o231.hb (turn4_c h.n231 ig (h2.cl 1)) rfl ?_
          refine sh ?_
          refine ICall.pure h.n258.o258.hb (col4_c h.n258 f 2 (by omega)) rfl ?_
          refine sh ?_
          refine ICall.pure h.n231.o231.hb (turn4_c h.n231 ig (h2.cl 2)) rfl ?_
          refine sh ?_
          refine ICall.pure h.n233.o233.hb (apply4_c h.n233 ig h2.t) rfl ?_
          refine sh ?_
          refine cM true [] ((axes4_c h.n227 [turn4 g (f.cl 0), turn4 g (f.cl 1), turn4 g (f.cl 2), apply4 g f.t] (by simp)).mc h.n227.o227.hb) ?_
          repeat ((intro _u; clear _u); first | refine eK ?_ | refine eP ?_)
          refine sh ?_
          refine nXa ((k + 1, comp4 f g)) ?_ ?_
          · exact ⟨by omega, comp_in f g, by rw [then4_succ hg (by omega), h3]⟩
          · omega
      · rw [List.take_of_length_le (by omega)] at h3
        rw [h3]
        refine sh ?_
        exact rT
theorem rthen4_c {R : Env} (h : N239 R) (l : List Af) (hl : l.length ≤ 1000) (hi : ∀ a ∈ l, a.I) : R.Pc 239 [.isl 12 (slA l)] (.agg (then4 l).row) :=
  h.o239.enter 100 rfl fun X bb hfit hp => by
    by_cases h0 : l = []
    · subst h0
      refine sh ?_
      refine acnd_t (by simp) ?_
      refine sh ?_
      refine ICall.pure h.n222.o222.hb (rsame4_c h.n222) rfl ?_
      refine sh ?_
      exact rT
    · have h1 : 1 ≤ l.length := Nat.one_le_iff_ne_zero.2 fun e => h0 (List.eq_nil_of_length_eq_zero e)
      refine sh ?_
      refine acnd_f (by (simp; omega)) ?_
      obtain ⟨z, hz⟩ : ∃ u_, l[0]? = some u_ := ⟨_, List.getElem?_eq_getElem (by first | omega | (simp <;> omega))⟩
      refine sh ?_
      refine eget_map hz ?_
      refine sh ?_
      refine lPa 100 (fun s : Nat × Af => (1 ≤ s.1 ∧ s.1 ≤ l.length) ∧ s.2.I ∧ then4 (l.take s.1) = s.2) (fun s => ⟨[(0, .isl 12 (slA l)), (2, .loc 0 1 0 0), (3, .loc 1 1 0 0), (4, .int .i64 s.1)], [(1, .var (R.ty 33) s.2.row), (0, .var (R.ty 33) [.int .i64 0, .int .i64 0, .int .i64 0, .int .i64 0, .int .i64 0, .int .i64 0, .int .i64 0, .int .i64 0, .int .i64 0, .int .i64 0, .int .i64 0, .int .i64 0])], 2⟩) (fun s => l.length - s.1) ((1, z)) ?_ ?_
      · exact ⟨⟨Nat.le_refl _, h1⟩, hi z (List.mem_of_getElem? hz), then4_one hz⟩
      · rintro ⟨k, f⟩ ⟨⟨h2, h3⟩, h4, h5⟩
        dsimp only at h2 h3 h4 h5 ⊢
        refine sh ?_
        refine cS (fun h6 => ?_) (fun h6 => ?_)
        · obtain ⟨g, hg⟩ : ∃ g, l[k]? = some g := ⟨_, List.getElem?_eq_getElem (by omega)⟩
          have ig := hi g (List.mem_of_getElem? hg)
          refine sh ?_
          refine ILoop.one 100 ?_
          refine sh ?_
          refine acnd_t (by decide) ?_
          refine sh ?_
          refine eget_map hg ?_
          refine sh ?_
          refine ICall.pure h.n232.o232.hb (rturn4_c h.n232 ig (h4.cl 0)) rfl ?_
          refine sh ?_
          refine ILoop.one 100 ?_
          refine sh ?_
          refine acnd_t (by decide) ?_
          refine sh ?_
          refine eget_map hg ?_
          refine sh ?_
          refine ICall.pure h.n232.o232.hb (rturn4_c h.n232 ig (h4.cl 1)) rfl ?_
          refine sh ?_
          refine ILoop.one 100 ?_
          refine sh ?_
          refine acnd_t (by decide) ?_
          refine sh ?_
          refine eget_map hg ?_
          refine sh ?_
          refine ICall.pure h.n232.o232.hb (rturn4_c h.n232 ig (h4.cl 2)) rfl ?_
          refine sh ?_
          refine ILoop.one 100 ?_
          refine sh ?_
          refine acnd_f (by decide) ?_
          refine sh ?_
          refine eget_map hg ?_
          refine sh ?_
          refine ICall.pure h.n234.o234.hb (rapply4_c h.n234 ig h4.t) rfl ?_
          refine sh ?_
          refine cM true [] ((raxes4_c h.n228 [turn4 g (f.cl 0), turn4 g (f.cl 1), turn4 g (f.cl 2), apply4 g f.t] (by simp)).mc h.n228.o228.hb) ?_
          repeat ((intro _u; clear _u); first | refine eK ?_ | refine eP ?_)
          refine sh ?_
          refine nXa ((k + 1, comp4 f g)) ?_ ?_
          · exact ⟨by omega, comp_in f g, by rw [then4_succ hg (by omega), h5]⟩
          · omega
        · rw [List.take_of_length_le (by omega)] at h5
          rw [h5]
          refine sh ?_
          exact rT
end Go.UM

namespace Go.UM
open Go.AM
set_option maxRecDepth 4000
structure Gr where
  par : Int
  t : Af
  mesh : Int
  mat : Int
  tex : Int
def Gr.row (g : Gr) : List AV := [.int .i64 g.par, .int .i64 g.t.m0, .int .i64 g.t.m1, .int .i64 g.t.m2, .int .i64 g.t.m3, .int .i64 g.t.m4, .int .i64 g.t.m5, .int .i64 g.t.m6, .int .i64 g.t.m7, .int .i64 g.t.m8, .int .i64 g.t.t.a, .int .i64 g.t.t.b, .int .i64 g.t.t.c, .int .i64 g.mesh, .int .i64 g.mat, .int .i64 g.tex]
def slG (l : List Gr) : List (List AV) := l.map Gr.row
@[simp] theorem slG_length (l : List Gr) : (slG l).length = l.length := by simp [slG]
@[simp] theorem slG_append (a b : List Gr) : slG (a ++ b) = slG a ++ slG b := by simp [slG]
@[simp] theorem slG_NmL (l : List Gr) : NmL (slG l) := by simp [slG, Gr.row]
@[simp] theorem slG_FlL (l : List Gr) : FlL (slG l) := by simp [slG, Gr.row]
instance {l : List Gr} : LenOf (slG l) l.length := ⟨slG_length l⟩
theorem slG_take (l : List Gr) (k : Nat) : (slG l).take k = slG (l.take k) := by simp [slG, List.map_take]
theorem capG (b : List Gr) (m : Int) : (slG b).take (min (b.length : Int) m).toNat = slG (b.take m.toNat) := by rw [slG_take, take_cap]
def hbad (g : Gr) (h : Int) : Bool := decide (h < 0) || decide (65536 < h) || (g.mesh == 0 && h != 0)
def gown (g : Gr) (i : Nat) : Int := if g.par < -1 ∨ (i : Int) ≤ g.par then 5 else if [g.mesh, g.mat, g.tex].any (hbad g) = true then 5 else 0
def dstep (ds : List Int) (g : Gr) : Int := if 0 ≤ g.par then 1 + ds.getD g.par.toNat 0 else 1
def gdep (l : List Gr) : List Int := l.foldl (fun ds g => ds ++ [dstep ds g]) []
def gerr (ds : List Int) (g : Gr) : Int := if gown g ds.length ≠ 0 then gown g ds.length else if 16 < dstep ds g then 3 else chk4 g.t
def gfst : List Int → List Gr → Int
  | _, [] => 0
  | ds, g :: r => if gerr ds g ≠ 0 then gerr ds g else gfst (ds ++ [dstep ds g]) r
def gchk (l : List Gr) : Int := if 256 < l.length then 3 else gfst [] l
theorem gdep_snoc {l : List Gr} {k : Nat} {g : Gr} (h : l[k]? = some g) : gdep (l.take (k + 1)) = gdep (l.take k) ++ [dstep (gdep (l.take k)) g] := by
  rw [take_succ_get h]; simp [gdep, List.foldl_append]
@[simp] theorem gdep_len (l : List Gr) : (gdep l).length = l.length := by
  have : ∀ (l : List Gr) (ds : List Int), (l.foldl (fun ds g => ds ++ [dstep ds g]) ds).length = ds.length + l.length := by
    intro l
    induction l with
    | nil => intro ds; rfl
    | cons g r ih => intro ds; rw [List.foldl_cons, ih]; simp; omega
  simpa [gdep] using this l []
theorem gdep_take {l : List Gr} {j k : Nat} (h : j < k) (hk : k ≤ l.length) : (gdep (l.take k)).getD j 0 = (gdep l).getD j 0 := by
  have pre : ∀ (r : List Gr) (ds : List Int), ∃ x, r.foldl (fun ds g => ds ++ [dstep ds g]) ds = ds ++ x := by
    intro r
    induction r with
    | nil => intro ds; exact ⟨[], by simp⟩
    | cons g r ih => intro ds; obtain ⟨x, hx⟩ := ih (ds ++ [dstep ds g]); exact ⟨[dstep ds g] ++ x, by rw [List.foldl_cons, hx]; simp⟩
  have e : gdep l = (l.drop k).foldl (fun ds g => ds ++ [dstep ds g]) (gdep (l.take k)) := by
    conv => lhs; rw [← List.take_append_drop k l]
    simp only [gdep, List.foldl_append]
  obtain ⟨x, hx⟩ := pre (l.drop k) (gdep (l.take k))
  rw [e, hx]
  have hl : (gdep (l.take k)).length = k := by rw [gdep_len, List.length_take]; omega
  rw [List.getD_eq_getElem?_getD, List.getD_eq_getElem?_getD, List.getElem?_append_left (by omega)]
theorem drop_at {α : Type} {l : List α} {k : Nat} {x : α} (h : l[k]? = some x) : l.drop k = x :: l.drop (k + 1) := by
  obtain ⟨h1, h2⟩ := List.getElem?_eq_some_iff.1 h
  rw [List.drop_eq_getElem_cons h1, h2]
theorem gfst_nil (ds : List Int) : gfst ds [] = 0 := rfl
def Ahead (l : List Gr) : Prop := ∀ (j : Nat) (g : Gr), l[j]? = some g → -1 ≤ g.par ∧ g.par < j
theorem gown0 {g : Gr} {i : Nat} (h : gown g i = 0) : -1 ≤ g.par ∧ g.par < i := by
  unfold gown at h
  split at h
  · simp at h
  · omega
theorem gerr0 {ds : List Int} {g : Gr} (h : gerr ds g = 0) : gown g ds.length = 0 ∧ dstep ds g ≤ 16 ∧ chk4 g.t = 0 := by
  unfold gerr at h
  split at h
  · rename_i hn; exact absurd h hn
  · rename_i hn
    have hn : gown g ds.length = 0 := Classical.not_not.1 hn
    split at h
    · simp at h
    · exact ⟨hn, by omega, h⟩
theorem gfst_drop {l : List Gr} : ∀ {k : Nat}, k ≤ l.length → gfst (gdep (l.take k)) (l.drop k) = 0 → ∀ (j : Nat) (g : Gr), k ≤ j → l[j]? = some g → gerr (gdep (l.take j)) g = 0 := by
  intro k hk h j g hj hg
  have hlt : j < l.length := (List.getElem?_eq_some_iff.1 hg).1
  generalize hm : l.length - k = m
  induction m generalizing k with
  | zero => omega
  | succ m ih =>
    have hkl : k < l.length := by omega
    have hx := List.getElem?_eq_getElem hkl
    rw [drop_at hx, gfst] at h
    split at h
    · rename_i hn; exact absurd h hn
    · rename_i hn
      by_cases e : k = j
      · subst e
        rw [hx] at hg
        cases hg
        exact Classical.not_not.1 hn
      · refine ih (k := k + 1) (by omega) ?_ (by omega) (by omega)
        rw [gdep_snoc hx]; exact h
theorem gchk_all {l : List Gr} (h : gchk l = 0) : l.length ≤ 256 ∧ ∀ (j : Nat) (g : Gr), l[j]? = some g → gerr (gdep (l.take j)) g = 0 := by
  unfold gchk at h
  split at h
  · simp at h
  · refine ⟨by omega, fun j g hg => gfst_drop (k := 0) (Nat.zero_le _) (by simpa [gdep] using h) j g (Nat.zero_le _) hg⟩
theorem gchk_ahead {l : List Gr} (h : gchk l = 0) : Ahead l := fun j g hg => by
  have hlt : j < l.length := (List.getElem?_eq_some_iff.1 hg).1
  have := gown0 (gerr0 ((gchk_all h).2 j g hg)).1
  rwa [gdep_len, List.length_take, Nat.min_eq_left (Nat.le_of_lt hlt)] at this
theorem dstep_le {ds : List Int} {g : Gr} (h : ∀ d ∈ ds, 1 ≤ d ∧ d ≤ 16) : 1 ≤ dstep ds g ∧ dstep ds g ≤ 17 := by
  unfold dstep
  split
  · rw [List.getD_eq_getElem?_getD]
    cases hg : ds[g.par.toNat]? with
    | none => simp
    | some d =>
      have := h d (List.mem_of_getElem? hg)
      simp only [Option.getD_some]; omega
  · omega
def gds (l : List Gr) : List Int := if gchk l = 0 then gdep l else []
def wayN (l : List Gr) : Nat → List Af
  | 0 => []
  | k + 1 => match l[k]? with
    | some g => g.t :: wayN l (min k (g.par + 1).toNat)
    | none => []
termination_by n => n
theorem wayN_succ {l : List Gr} {k : Nat} {g : Gr} (h : l[k]? = some g) (hp : g.par < k) : wayN l (k + 1) = g.t :: wayN l (g.par + 1).toNat := by
  rw [wayN]
  simp only [h]
  rw [Nat.min_eq_right (by omega)]
theorem wayN_zero (l : List Gr) : wayN l 0 = [] := by rw [wayN]
theorem wayN_len (l : List Gr) : ∀ n, (wayN l n).length ≤ n := by
  intro n
  induction n using Nat.strongRecOn with
  | ind n ih =>
    cases n with
    | zero => rw [wayN]; simp
    | succ k =>
      rw [wayN]
      split
      · rename_i g hg
        have := ih (min k (g.par + 1).toNat) (by omega)
        simp only [List.length_cons]; omega
      · simp
theorem wayN_I {l : List Gr} (hl : ∀ g ∈ l, g.t.I) : ∀ n, ∀ a ∈ wayN l n, a.I := by
  intro n
  induction n using Nat.strongRecOn with
  | ind n ih =>
    cases n with
    | zero => rw [wayN]; intro a ha; simp at ha
    | succ k =>
      rw [wayN]
      split
      · rename_i g hg
        intro a ha
        rcases List.mem_cons.1 ha with rfl | ha
        · exact hl g (List.mem_of_getElem? hg)
        · exact ih _ (by omega) a ha
      · intro a ha; simp at ha
def gworld (l : List Gr) (i : Int) : Af := then4 (wayN l (i + 1).toNat)
end Go.UM

namespace Go.UM
open Go.AM
set_option maxRecDepth 4000
theorem gfew_c {R : Env} (h : N326 R) (l : List Gr) : R.Pc 326 [.isl 16 (slG l)] (.isl 16 (slG (l.take 30))) :=
  h.o326.enter 100 rfl fun X bb hfit hp => by
    refine sh ?_
    refine asub_eq (by exact capG l 30) ?_
    refine sh ?_
    exact rT
theorem gown_c {R : Env} (h : N359 R) (g : Gr) (i : Nat) : R.Pc 359 [.agg g.row, .int .i64 i] (.int .i64 (gown g i)) :=
  h.o359.enter 100 rfl fun X bb hfit hp => by
    generalize hq : gown g i = q
    unfold gown at hq
    refine sh ?_
    refine cS (fun h1 => ?_) (fun h1 => ?_)
    · rw [if_pos (.inl h1)] at hq
      subst hq
      refine sh ?_
      exact rT
    · refine sh ?_
      refine cS (fun h2 => ?_) (fun h2 => ?_)
      · rw [if_pos (.inr h2)] at hq
        subst hq
        refine sh ?_
        exact rT
      · rw [if_neg (by omega)] at hq
        refine sh ?_
        refine lPa 100 (fun k : Nat => k ≤ 3 ∧ ([g.mesh, g.mat, g.tex].take k).any (hbad g) = false) (fun k => ⟨[(2, .loc 0 1 0 0), (24, .osl 1 3), (25, .int .i64 3), (26, .int .i64 k)], [(1, .arr (R.ty 10) 1 (slcK .i64 [g.mesh, g.mat, g.tex])), (0, .var (R.ty 43) g.row)], 2⟩) (fun k => 3 - k) (0) ?_ ?_
        · exact ⟨by omega, rfl⟩
        · rintro k ⟨h3, h4⟩
          dsimp only at h3 h4 ⊢
          refine sh ?_
          refine cS (fun h5 => ?_) (fun h5 => ?_)
          · obtain ⟨x, hx⟩ : ∃ x, [g.mesh, g.mat, g.tex][k]? = some x := ⟨_, List.getElem?_eq_getElem (by simp; omega)⟩
            refine sh ?_
            refine aelt_map (by simp) hx ?_
            have hb : hbad g x = (decide (x < 0) || decide (65536 < x) || (g.mesh == 0 && x != 0)) := rfl
            have fin : hbad g x = true → q = 5 := fun e => by
              rw [if_pos (List.any_eq_true.2 ⟨x, List.mem_of_getElem? hx, e⟩)] at hq; exact hq.symm
            have go : hbad g x = false → ([g.mesh, g.mat, g.tex].take (k + 1)).any (hbad g) = false := fun e => by
              rw [take_succ_get hx, List.any_append, h4]; simp [e]
            have h5' : k < 3 := by omega
            refine sh ?_
            refine cS (fun g1 => ?_) (fun g1 => ?_)
            · rw [fin (by rw [hb]; simp; omega)]
              refine sh ?_
              exact rT
            · refine sh ?_
              refine cS (fun g2 => ?_) (fun g2 => ?_)
              · rw [fin (by rw [hb]; simp; omega)]
                refine sh ?_
                exact rT
              · refine sh ?_
                refine cS (fun g3 => ?_) (fun g3 => ?_)
                · refine sh ?_
                  refine cS (fun g4 => ?_) (fun g4 => ?_)
                  · rw [fin (by rw [hb, g3]; simp; omega)]
                    refine sh ?_
                    exact rT
                  · refine sh ?_
                    refine nXa (k + 1) ?_ ?_
                    · exact ⟨by omega, go (by rw [hb, g4]; simp)⟩
                    · omega
                · refine sh ?_
                  refine nXa (k + 1) ?_ ?_
                  · exact ⟨by omega, go (by rw [hb]; simp; omega)⟩
                  · omega
          · rw [show k = 3 by omega] at h4
            rw [if_neg (by rw [List.take_of_length_le (by simp)] at h4; rw [h4]; simp)] at hq
            subst hq
            refine sh ?_
            exact rT
end Go.UM

namespace Go.UM
open Go.AM
set_option maxRecDepth 4000
theorem gerr_at {l : List Gr} {k : Nat} {g : Gr} (hg : l[k]? = some g) : gerr (gdep (l.take k)) g = if gown g k ≠ 0 then gown g k else if 16 < dstep (gdep (l.take k)) g then 3 else chk4 g.t := by
  have hlt : k < l.length := (List.getElem?_eq_some_iff.1 hg).1
  unfold gerr
  rw [gdep_len, List.length_take, Nat.min_eq_left (Nat.le_of_lt hlt)]
theorem gfst_at {l : List Gr} {k : Nat} {g : Gr} (hg : l[k]? = some g) : gfst (gdep (l.take k)) (l.drop k) = if gerr (gdep (l.take k)) g ≠ 0 then gerr (gdep (l.take k)) g else gfst (gdep (l.take (k + 1))) (l.drop (k + 1)) := by
  rw [drop_at hg, gfst, gdep_snoc hg]
theorem gdep_mem {l : List Gr} {k : Nat} {g : Gr} (hg : l[k]? = some g) (h : ∀ d ∈ gdep (l.take k), 1 ≤ d ∧ d ≤ 16) (h16 : ¬ 16 < dstep (gdep (l.take k)) g) : ∀ d ∈ gdep (l.take (k + 1)), 1 ≤ d ∧ d ≤ 16 := by
  intro d hd
  rw [gdep_snoc hg] at hd
  rcases List.mem_append.1 hd with hd | hd
  · exact h d hd
  · have := dstep_le (g := g) h
    simp at hd
    omega
theorem depths_c {R : Env} (h : N350 R) (l : List Gr) (hl : l.length ≤ 1000) (hi : ∀ g ∈ l, g.t.I) : R.Pc 350 [.isl 16 (slG l)] (.tup [.isl 1 (slcK .i64 (gds l)), .int .i64 (gchk l)]) :=
  h.o350.enter 200 rfl fun X bb hfit hp => by
    generalize hq : gchk l = q
    generalize hqd : gds l = qd
    unfold gds at hqd
    rw [hq] at hqd
    have fin : ∀ {e : Int}, q = e → e ≠ 0 → AV.tup [.isl 1 (slcK .i64 qd), .int .i64 q] = .tup [.isl 1 [], .int .i64 e] := by
      rintro e rfl hne
      rw [← hqd, if_neg hne]; rfl
    unfold gchk at hq
    refine sh ?_
    refine cS (fun h0 => ?_) (fun h0 => ?_)
    · rw [if_pos (by omega)] at hq
      rw [fin hq.symm (by decide)]
      refine sh ?_
      exact rT
    · rw [if_neg (by omega)] at hq
      refine sh ?_
      refine lPa 200 (fun k : Nat => k ≤ l.length ∧ (∀ d ∈ gdep (l.take k), 1 ≤ d ∧ d ≤ 16) ∧ gfst (gdep (l.take k)) (l.drop k) = q) (fun k => ⟨[(4, .osl 0 k), (13, .isl 16 (slG l)), (14, .int .i64 l.length), (15, .int .i64 k)], [(0, .arr (R.ty 10) 1 (slcK .i64 (gdep (l.take k))))], 1⟩) (fun k => l.length - k) (0) ?_ ?_
      · exact ⟨by omega, by intro d hd; simp [gdep] at hd, by simpa [gdep] using hq⟩
      · rintro k ⟨h1, h2, h3⟩
        dsimp only at h1 h2 h3 ⊢
        have hlen : (gdep (l.take k)).length = k := by rw [gdep_len, List.length_take]; omega
        refine sh ?_
        refine cS (fun h4 => ?_) (fun h4 => ?_)
        · obtain ⟨g, hg⟩ : ∃ u_, l[k]? = some u_ := ⟨_, List.getElem?_eq_getElem (by first | omega | (simp <;> omega))⟩
          refine sh ?_
          refine eget_map hg ?_
          have e2 := gerr_at hg
          rw [gfst_at hg] at h3
          refine sh ?_
          refine ICall.pure h.n359.o359.hb (gown_c h.n359 g k) rfl ?_
          refine sh ?_
          refine cS (fun c0 => ?_) (fun c0 => ?_)
          · rw [if_pos c0] at e2
            rw [e2, if_pos c0] at h3
            rw [fin h3.symm c0]
            refine sh ?_
            exact rT
          · have hpar := gown0 c0
            refine sh ?_
            refine cS (fun c2 => ?_) (fun c2 => ?_)
            · obtain ⟨d0, hd0⟩ : ∃ d0, (gdep (l.take k))[g.par.toNat]? = some d0 := ⟨_, List.getElem?_eq_getElem (by omega)⟩
              have hd : dstep (gdep (l.take k)) g = 1 + d0 := by unfold dstep; rw [if_pos c2, List.getD_eq_getElem?_getD, hd0]; rfl
              have hr := h2 d0 (List.mem_of_getElem? hd0)
              refine sh ?_
              refine aelt_map (by simp [hlen]) hd0 ?_
              refine sh ?_
              refine cS (fun c3 => ?_) (fun c3 => ?_)
              · rw [if_neg (by simpa using c0), if_pos (by rw [hd]; omega)] at e2
                rw [e2, if_pos (by decide)] at h3
                rw [fin h3.symm (by decide)]
                refine sh ?_
                exact rT
              · refine sh ?_
                refine ICall.pure h.n235.o235.hb (check4_c h.n235 (hi g (List.mem_of_getElem? hg))) rfl ?_
                refine sh ?_
                refine cS (fun c1 => ?_) (fun c1 => ?_)
                · rw [if_neg (by simpa using c0), if_neg (by rw [hd]; omega)] at e2
                  rw [e2, if_pos c1] at h3
                  rw [fin h3.symm c1]
                  refine sh ?_
                  exact rT
                · rw [if_neg (by simpa using c0), if_neg (by rw [hd]; omega), c1] at e2
                  rw [e2, if_neg (by simp)] at h3
                  refine sh ?_
                  refine nX (k + 1) ?_ ?_ ⟨_, hp, rfl⟩ ?_ ?_
                  · exact ⟨by omega, gdep_mem hg h2 (by rw [hd]; omega), h3⟩
                  · omega
                  · all_goals repeat' (first | exact True.intro | refine And.intro ?_ ?_ | (intro _u; clear _u) | (with_reducible first | refine eM ?_ ?_ | refine eF ?_ ?_ ?_ | refine eN ?_ | refine eL ?_ ?_ ?_ | refine eA ?_ ?_ | refine IWk.mk ⟨_, hp, rfl⟩ ?_ ?_) | refine IWk.mk ⟨_, hp, rfl⟩ ?_ ?_)
                    all_goals first | with_reducible rfl | omega | exact Or.inl (by decide) | (simp; done) | rfl | skip
                    simp; omega
                  · all_goals repeat' (first | exact True.intro | refine And.intro ?_ ?_ | (intro _u; clear _u) | (with_reducible first | refine eM ?_ ?_ | refine eF ?_ ?_ ?_ | refine eN ?_ | refine eL ?_ ?_ ?_ | refine eA ?_ ?_ | refine IWk.mk ⟨_, hp, rfl⟩ ?_ ?_) | refine IWk.mk ⟨_, hp, rfl⟩ ?_ ?_)
                    all_goals first | with_reducible rfl | omega | exact Or.inl (by decide) | (simp; done) | rfl | skip
                    rw [gdep_snoc hg, hd, slcK_append]
                    rfl
            · have hd : dstep (gdep (l.take k)) g = 1 := by unfold dstep; rw [if_neg (by omega)]
              refine sh ?_
              refine acnd_f (by decide) ?_
              refine sh ?_
              refine ICall.pure h.n235.o235.hb (check4_c h.n235 (hi g (List.mem_of_getElem? hg))) rfl ?_
              refine sh ?_
              refine cS (fun c1 => ?_) (fun c1 => ?_)
              · rw [if_neg (by simpa using c0), if_neg (by rw [hd]; omega)] at e2
                rw [e2, if_pos c1] at h3
                rw [fin h3.symm c1]
                refine sh ?_
                exact rT
              · rw [if_neg (by simpa using c0), if_neg (by rw [hd]; omega), c1] at e2
                rw [e2, if_neg (by simp)] at h3
                refine sh ?_
                refine nX (k + 1) ?_ ?_ ⟨_, hp, rfl⟩ ?_ ?_
                · exact ⟨by omega, gdep_mem hg h2 (by rw [hd]; omega), h3⟩
                · omega
                · all_goals repeat' (first | exact True.intro | refine And.intro ?_ ?_ | (intro _u; clear _u) | (with_reducible first | refine eM ?_ ?_ | refine eF ?_ ?_ ?_ | refine eN ?_ | refine eL ?_ ?_ ?_ | refine eA ?_ ?_ | refine IWk.mk ⟨_, hp, rfl⟩ ?_ ?_) | refine IWk.mk ⟨_, hp, rfl⟩ ?_ ?_)
                  all_goals first | with_reducible rfl | omega | exact Or.inl (by decide) | (simp; done) | rfl | skip
                  simp; omega
                · all_goals repeat' (first | exact True.intro | refine And.intro ?_ ?_ | (intro _u; clear _u) | (with_reducible first | refine eM ?_ ?_ | refine eF ?_ ?_ ?_ | refine eN ?_ | refine eL ?_ ?_ ?_ | refine eA ?_ ?_ | refine IWk.mk ⟨_, hp, rfl⟩ ?_ ?_) | refine IWk.mk ⟨_, hp, rfl⟩ ?_ ?_)
                  all_goals first | with_reducible rfl | omega | exact Or.inl (by decide) | (simp; done) | rfl | skip
                  rw [gdep_snoc hg, hd, slcK_append]
                  rfl
        · rw [show k = l.length by omega] at h3 ⊢
          rw [List.drop_length, gfst_nil] at h3
          subst h3
          rw [if_pos rfl] at hqd
          subst hqd
          rw [List.take_length]
          refine sh ?_
          exact rT
end Go.UM

namespace Go.UM
open Go.AM
set_option maxRecDepth 4000
theorem gcheck_c {R : Env} (h : N330 R) (l : List Gr) (hl : l.length ≤ 1000) (hi : ∀ g ∈ l, g.t.I) : R.Pc 330 [.isl 16 (slG l)] (.int .i64 (gchk l)) :=
  h.o330.enter 100 rfl fun X bb hfit hp => by
    refine sh ?_
    refine ICall.pure h.n350.o350.hb (depths_c h.n350 l hl hi) rfl ?_
    refine sh ?_
    exact rT
def hofr (x : Int) : Bool := decide (x < 0) || decide (65536 < x)
theorem handle_c {R : Env} (h : N351 R) (x : Int) : R.Pc 351 [.int .i64 x] (.bool (!hofr x)) :=
  h.o351.enter 100 rfl fun X bb hfit hp => by
    refine sh ?_
    refine cS (fun h1 => ?_) (fun h1 => ?_)
    · have e : (!hofr x) = decide (x ≤ 65536) := by
        unfold hofr
        rw [Bool.eq_iff_iff]
        simp
        omega
      rw [e]
      refine sh ?_
      exact rT
    · have e : (!hofr x) = false := by
        unfold hofr
        simp [h1]
      rw [e]
      refine sh ?_
      exact rT
theorem gown_alt (g : Gr) (i : Nat) : gown g i = if g.par < -1 ∨ (i : Int) ≤ g.par then 5 else if (hofr g.mesh || hofr g.mat || hofr g.tex || (g.mesh == 0 && (g.mat != 0 || g.tex != 0))) = true then 5 else 0 := by
  have e : [g.mesh, g.mat, g.tex].any (hbad g) = (hofr g.mesh || hofr g.mat || hofr g.tex || (g.mesh == 0 && (g.mat != 0 || g.tex != 0))) := by
    simp only [List.any_cons, List.any_nil, hbad, hofr, Bool.or_false]
    by_cases h0 : g.mesh = 0
    · simp only [h0, beq_self_eq_true, Bool.true_and]
      generalize (decide (g.mat < 0) || decide (65536 < g.mat)) = a
      generalize (decide (g.tex < 0) || decide (65536 < g.tex)) = b
      generalize (g.mat != 0) = c
      generalize (g.tex != 0) = d
      cases a <;> cases b <;> cases c <;> cases d <;> rfl
    · have : (g.mesh == 0) = false := by simpa using h0
      simp only [this, Bool.false_and, Bool.or_false]
      generalize (decide (g.mat < 0) || decide (65536 < g.mat)) = a
      generalize (decide (g.tex < 0) || decide (65536 < g.tex)) = b
      generalize (decide (g.mesh < 0) || decide (65536 < g.mesh)) = c
      cases a <;> cases b <;> cases c <;> rfl
  unfold gown
  rw [e]
theorem gdep_at {l : List Gr} {i : Nat} {g : Gr} (hg : l[i]? = some g) (hp : g.par < i) : (gdep l).getD i 0 = if 0 ≤ g.par then 1 + (gdep l).getD g.par.toNat 0 else 1 := by
  have hlt : i < l.length := (List.getElem?_eq_some_iff.1 hg).1
  rw [← gdep_take (k := i + 1) (by omega) (by omega), gdep_snoc hg]
  have hl : (gdep (l.take i)).length = i := by rw [gdep_len, List.length_take]; omega
  rw [List.getD_eq_getElem?_getD, List.getElem?_append_right (by omega), hl, Nat.sub_self]
  simp only [List.getElem?_cons_zero, Option.getD_some, dstep]
  split
  · rw [gdep_take (k := i) (by omega) (by omega)]
  · rfl
theorem gdep_step {l : List Gr} {i : Nat} {g : Gr} (hg : l[i]? = some g) : (gdep l).getD i 0 = dstep (gdep (l.take i)) g := by
  have hlt : i < l.length := (List.getElem?_eq_some_iff.1 hg).1
  rw [← gdep_take (k := i + 1) (by omega) (by omega), gdep_snoc hg]
  have hl : (gdep (l.take i)).length = i := by rw [gdep_len, List.length_take]; omega
  rw [List.getD_eq_getElem?_getD, List.getElem?_append_right (by omega), hl, Nat.sub_self]
  rfl
theorem gdep_bd {l : List Gr} : ∀ (i : Nat), i < l.length → (∀ (j : Nat) (g : Gr), j ≤ i → l[j]? = some g → -1 ≤ g.par ∧ g.par < j) → 1 ≤ (gdep l).getD i 0 ∧ (gdep l).getD i 0 ≤ i + 1 := by
  intro i
  induction i using Nat.strongRecOn with
  | ind i ih =>
    intro hi hA
    have hg := List.getElem?_eq_getElem hi
    have hp := hA i _ (Nat.le_refl _) hg
    rw [gdep_at hg hp.2]
    split
    · have := ih l[i].par.toNat (by omega) (by omega) (fun j g hj hg => hA j g (by omega) hg)
      omega
    · omega
theorem rdepth_c {R : Env} (h : N336 R) (l : List Gr) (hl : l.length ≤ 1000) : ∀ (i : Nat), i < l.length → (∀ (j : Nat) (g : Gr), j ≤ i → l[j]? = some g → -1 ≤ g.par ∧ g.par < j) → R.Pc 336 [.isl 16 (slG l), .int .i64 i] (.int .i64 ((gdep l).getD i 0)) := by
  intro i
  induction i using Nat.strongRecOn with
  | ind i ih =>
    intro hi hA
    obtain ⟨g, hg⟩ : ∃ g, l[i]? = some g := ⟨_, List.getElem?_eq_getElem hi⟩
    have hp := hA i _ (Nat.le_refl _) hg
    have e := gdep_at hg hp.2
    refine h.o336.enter 100 rfl fun X bb hfit hp' => ?_
    refine sh ?_
    refine eget_map hg ?_
    refine sh ?_
    refine cS (fun h1 => ?_) (fun h1 => ?_)
    · rw [if_neg (by omega)] at e
      rw [e]
      refine sh ?_
      exact rT
    · rw [if_pos (by omega)] at e
      refine sh ?_
      refine eget_map hg ?_
      have hb := gdep_bd (l := l) g.par.toNat (by omega) (fun j g hj hg => hA j g (by omega) hg)
      have c := ih g.par.toNat (by omega) (by omega) (fun j g hj hg => hA j g (by omega) hg)
      rw [Int.toNat_of_nonneg h1] at c
      refine sh ?_
      refine ICall.pure h.o336.hb c rfl ?_
      rw [e]
      refine sh ?_
      exact rT
theorem rgcheck_c {R : Env} (h : N334 R) (l : List Gr) (hl : l.length ≤ 1000) (hi : ∀ g ∈ l, g.t.I) : R.Pc 334 [.isl 16 (slG l)] (.int .i64 (gchk l)) :=
  h.o334.enter 200 rfl fun X bb hfit hp => by
    generalize hq : gchk l = q
    unfold gchk at hq
    refine sh ?_
    refine cS (fun h0 => ?_) (fun h0 => ?_)
    · rw [if_pos (by omega)] at hq
      subst hq
      refine sh ?_
      exact rT
    · rw [if_neg (by omega)] at hq
      refine sh ?_
      refine lPa 200 (fun k : Nat => k ≤ l.length ∧ (∀ (j : Nat) (g : Gr), j < k → l[j]? = some g → gerr (gdep (l.take j)) g = 0) ∧ gfst (gdep (l.take k)) (l.drop k) = q) (fun k => ⟨[(0, .isl 16 (slG l)), (3, .int .i64 k)], [], 0⟩) (fun k => l.length - k) (0) ?_ ?_
      · exact ⟨by omega, by intro j g hj; omega, by simpa [gdep] using hq⟩
      · rintro k ⟨h1, h2, h3⟩
        dsimp only at h1 h2 h3 ⊢
        refine sh ?_
        refine cS (fun h4 => ?_) (fun h4 => ?_)
        · obtain ⟨g, hg⟩ : ∃ u_, l[k]? = some u_ := ⟨_, List.getElem?_eq_getElem (by first | omega | (simp <;> omega))⟩
          refine sh ?_
          refine eget_map hg ?_
          have e2 := gerr_at hg
          rw [gfst_at hg] at h3
          have bad : gown g k = 5 → q = 5 := fun e => by
            rw [e, if_pos (by decide)] at e2
            rw [e2, if_pos (by decide)] at h3
            exact h3.symm
          have eo := gown_alt g k
          refine sh ?_
          refine cS (fun c1 => ?_) (fun c1 => ?_)
          · rw [bad (by rw [eo, if_pos (.inl c1)])]
            refine sh ?_
            exact rT
          · refine sh ?_
            refine cS (fun c2 => ?_) (fun c2 => ?_)
            · rw [bad (by rw [eo, if_pos (.inr c2)])]
              refine sh ?_
              exact rT
            · rw [if_neg (by omega)] at eo
              refine sh ?_
              refine ICall.pure h.n351.o351.hb (handle_c h.n351 g.mesh) rfl ?_
              refine sh ?_
              refine cS (fun c3 => ?_) (fun c3 => ?_)
              · rw [bad (by rw [eo, c3]; rfl)]
                refine sh ?_
                exact rT
              · refine sh ?_
                refine ICall.pure h.n351.o351.hb (handle_c h.n351 g.mat) rfl ?_
                refine sh ?_
                refine cS (fun c4 => ?_) (fun c4 => ?_)
                · rw [bad (by rw [eo, c3, c4]; rfl)]
                  refine sh ?_
                  exact rT
                · refine sh ?_
                  refine ICall.pure h.n351.o351.hb (handle_c h.n351 g.tex) rfl ?_
                  refine sh ?_
                  refine cS (fun c5 => ?_) (fun c5 => ?_)
                  · rw [bad (by rw [eo, c3, c4, c5]; rfl)]
                    refine sh ?_
                    exact rT
                  · rw [c3, c4, c5] at eo
                    simp only [Bool.false_or] at eo
                    refine sh ?_
                    refine cS (fun c6 => ?_) (fun c6 => ?_)
                    · refine sh ?_
                      refine cS (fun c7 => ?_) (fun c7 => ?_)
                      · rw [bad (by rw [eo]; simp [c6, c7])]
                        refine sh ?_
                        exact rT
                      · refine sh ?_
                        refine cS (fun c8 => ?_) (fun c8 => ?_)
                        · rw [bad (by rw [eo]; simp [c6, c8])]
                          refine sh ?_
                          exact rT
                        · have c0 : gown g k = 0 := by rw [eo]; simp [c7, c8]
                          have hA : ∀ (j : Nat) (g : Gr), j ≤ k → l[j]? = some g → -1 ≤ g.par ∧ g.par < j := by
                            intro j g' hj hg'
                            by_cases e : j = k
                            · subst e
                              rw [hg] at hg'
                              cases hg'
                              exact gown0 c0
                            · have := gown0 (gerr0 (h2 j g' (by omega) hg')).1
                              rwa [gdep_len, List.length_take, Nat.min_eq_left (by omega)] at this
                          refine sh ?_
                          refine ICall.pure h.n336.o336.hb (rdepth_c h.n336 l hl k (by omega) hA) rfl ?_
                          rw [gdep_step hg]
                          refine sh ?_
                          refine cS (fun d1 => ?_) (fun d1 => ?_)
                          · rw [if_neg (by simpa using c0), if_pos (by omega)] at e2
                            rw [e2, if_pos (by decide)] at h3
                            subst h3
                            refine sh ?_
                            exact rT
                          · rw [if_neg (by simpa using c0), if_neg (by omega)] at e2
                            refine sh ?_
                            refine ICall.pure h.n236.o236.hb (rcheck4_c h.n236 (hi g (List.mem_of_getElem? hg))) rfl ?_
                            refine sh ?_
                            refine cS (fun d2 => ?_) (fun d2 => ?_)
                            · rw [e2, if_pos d2] at h3
                              subst h3
                              refine sh ?_
                              exact rT
                            · rw [e2, if_neg (by simpa using d2)] at h3
                              refine sh ?_
                              refine nXa (k + 1) ?_ ?_
                              · refine ⟨by omega, fun j g' hj hg' => ?_, h3⟩
                                by_cases e : j = k
                                · subst e
                                  rw [hg] at hg'
                                  cases hg'
                                  rw [e2]; exact d2
                                · exact h2 j g' (by omega) hg'
                              · omega
                    · have c0 : gown g k = 0 := by rw [eo]; simp [c6]
                      have hA : ∀ (j : Nat) (g : Gr), j ≤ k → l[j]? = some g → -1 ≤ g.par ∧ g.par < j := by
                        intro j g' hj hg'
                        by_cases e : j = k
                        · subst e
                          rw [hg] at hg'
                          cases hg'
                          exact gown0 c0
                        · have := gown0 (gerr0 (h2 j g' (by omega) hg')).1
                          rwa [gdep_len, List.length_take, Nat.min_eq_left (by omega)] at this
                      refine sh ?_
                      refine ICall.pure h.n336.o336.hb (rdepth_c h.n336 l hl k (by omega) hA) rfl ?_
                      rw [gdep_step hg]
                      refine sh ?_
                      refine cS (fun d1 => ?_) (fun d1 => ?_)
                      · rw [if_neg (by simpa using c0), if_pos (by omega)] at e2
                        rw [e2, if_pos (by decide)] at h3
                        subst h3
                        refine sh ?_
                        exact rT
                      · rw [if_neg (by simpa using c0), if_neg (by omega)] at e2
                        refine sh ?_
                        refine ICall.pure h.n236.o236.hb (rcheck4_c h.n236 (hi g (List.mem_of_getElem? hg))) rfl ?_
                        refine sh ?_
                        refine cS (fun d2 => ?_) (fun d2 => ?_)
                        · rw [e2, if_pos d2] at h3
                          subst h3
                          refine sh ?_
                          exact rT
                        · rw [e2, if_neg (by simpa using d2)] at h3
                          refine sh ?_
                          refine nXa (k + 1) ?_ ?_
                          · refine ⟨by omega, fun j g' hj hg' => ?_, h3⟩
                            by_cases e : j = k
                            · subst e
                              rw [hg] at hg'
                              cases hg'
                              rw [e2]; exact d2
                            · exact h2 j g' (by omega) hg'
                          · omega
        · rw [show k = l.length by omega] at h3
          rw [List.drop_length, gfst_nil] at h3
          subst h3
          refine sh ?_
          exact rT
end Go.UM

namespace Go.UM
open Go.AM
set_option maxRecDepth 4000
def z4 : Af := ⟨0, 0, 0, 0, 0, 0, 0, 0, 0, z3⟩
theorem gworld_c {R : Env} (h : N348 R) (l : List Gr) (hl : l.length ≤ 900) (hi : ∀ g ∈ l, g.t.I) (hA : Ahead l) (i : Int) (h0 : -1 ≤ i) (h1 : i < l.length) : R.Pc 348 [.isl 16 (slG l), .int .i64 i] (.agg (gworld l i).row) :=
  h.o348.enter 100 rfl fun X bb hfit hp => by
    generalize hW : wayN l (i + 1).toNat = W
    have hWl : W.length ≤ 901 := by have := wayN_len l (i + 1).toNat; rw [hW] at this; omega
    have hWi : ∀ a ∈ W, a.I := by rw [← hW]; exact wayN_I hi _
    refine sh ?_
    refine lPa 100 (fun s : Int × List Af => (-1 ≤ s.1 ∧ s.1 < l.length ∧ s.1 ≤ i) ∧ s.2 ++ wayN l (s.1 + 1).toNat = W) (fun s => ⟨[(0, .isl 16 (slG l)), (1, .int .i64 s.1), (4, .loc 0 1 0 0), (5, .osl 1 s.2.length)], [(1, .arr (R.ty 33) 12 (slA s.2)), (0, .var (R.ty 33) z4.row)], 2⟩) (fun s => (s.1 + 1).toNat) ((i, [])) ?_ ?_
    · exact ⟨⟨h0, h1, by simp⟩, by rw [← hW]; rfl⟩
    · rintro ⟨k, w⟩ ⟨h2, h3⟩
      dsimp only at h2 h3 ⊢
      have hwl : w.length ≤ 1000 := by
        have := congrArg List.length h3
        rw [List.length_append] at this
        omega
      refine sh ?_
      refine cS (fun h4 => ?_) (fun h4 => ?_)
      · obtain ⟨g, hg⟩ : ∃ g, l[k.toNat]? = some g := ⟨_, List.getElem?_eq_getElem (by omega)⟩
        have hpar := hA _ g hg
        refine sh ?_
        refine eget_map hg ?_
        refine sh ?_
        refine eget_map hg ?_
        refine sh ?_
        refine nX ((g.par, w ++ [g.t])) ?_ ?_ ⟨_, hp, rfl⟩ ?_ ?_
        · refine ⟨by dsimp only; omega, ?_⟩
          rw [show (k + 1).toNat = k.toNat + 1 by omega, wayN_succ hg (by omega)] at h3
          dsimp only
          rw [← h3]; simp
        · dsimp only; omega
        · all_goals repeat' (first | exact True.intro | refine And.intro ?_ ?_ | (intro _u; clear _u) | (with_reducible first | refine eM ?_ ?_ | refine eF ?_ ?_ ?_ | refine eN ?_ | refine eL ?_ ?_ ?_ | refine eA ?_ ?_ | refine IWk.mk ⟨_, hp, rfl⟩ ?_ ?_) | refine IWk.mk ⟨_, hp, rfl⟩ ?_ ?_)
          all_goals first | with_reducible rfl | omega | exact Or.inl (by decide) | (simp; done) | rfl | skip
        · all_goals repeat' (first | exact True.intro | refine And.intro ?_ ?_ | (intro _u; clear _u) | (with_reducible first | refine eM ?_ ?_ | refine eF ?_ ?_ ?_ | refine eN ?_ | refine eL ?_ ?_ ?_ | refine eA ?_ ?_ | refine IWk.mk ⟨_, hp, rfl⟩ ?_ ?_) | refine IWk.mk ⟨_, hp, rfl⟩ ?_ ?_)
          all_goals first | with_reducible rfl | omega | exact Or.inl (by decide) | (simp; done) | rfl | skip
          simp [slA, Af.row]
      · rw [show (k + 1).toNat = 0 by omega, wayN_zero, List.append_nil] at h3
        subst h3
        refine sh ?_
        refine cM true [] ((then4_c h.n238 w hwl hWi).mc h.n238.o238.hb) ?_
        repeat ((intro _u; clear _u); first | refine eK ?_ | refine eP ?_)
        unfold gworld
        rw [hW]
        refine sh ?_
        exact rT
theorem rgworld_c {R : Env} (h : N337 R) (l : List Gr) (hl : l.length ≤ 900) (hi : ∀ g ∈ l, g.t.I) (hA : Ahead l) (i : Int) (h0 : -1 ≤ i) (h1 : i < l.length) : R.Pc 337 [.isl 16 (slG l), .int .i64 i] (.agg (gworld l i).row) :=
  h.o337.enter 100 rfl fun X bb hfit hp => by
    generalize hW : wayN l (i + 1).toNat = W
    have hWl : W.length ≤ 901 := by have := wayN_len l (i + 1).toNat; rw [hW] at this; omega
    have hWi : ∀ a ∈ W, a.I := by rw [← hW]; exact wayN_I hi _
    refine sh ?_
    refine lPa 100 (fun s : Int × List Af => (-1 ≤ s.1 ∧ s.1 < l.length ∧ s.1 ≤ i) ∧ s.2 ++ wayN l (s.1 + 1).toNat = W) (fun s => ⟨[(0, .isl 16 (slG l)), (1, .int .i64 s.1), (4, .loc 0 1 0 0), (5, .osl 1 s.2.length)], [(1, .arr (R.ty 33) 12 (slA s.2)), (0, .var (R.ty 33) z4.row)], 2⟩) (fun s => (s.1 + 1).toNat) ((i, [])) ?_ ?_
    · exact ⟨⟨h0, h1, by simp⟩, by rw [← hW]; rfl⟩
    · rintro ⟨k, w⟩ ⟨h2, h3⟩
      dsimp only at h2 h3 ⊢
      have hwl : w.length ≤ 1000 := by
        have := congrArg List.length h3
        rw [List.length_append] at this
        omega
      refine sh ?_
      refine cS (fun h4 => ?_) (fun h4 => ?_)
      · obtain ⟨g, hg⟩ : ∃ g, l[k.toNat]? = some g := ⟨_, List.getElem?_eq_getElem (by omega)⟩
        have hpar := hA _ g hg
        refine sh ?_
        refine eget_map hg ?_
        refine sh ?_
        refine eget_map hg ?_
        refine sh ?_
        refine nX ((g.par, w ++ [g.t])) ?_ ?_ ⟨_, hp, rfl⟩ ?_ ?_
        · refine ⟨by dsimp only; omega, ?_⟩
          rw [show (k + 1).toNat = k.toNat + 1 by omega, wayN_succ hg (by omega)] at h3
          dsimp only
          rw [← h3]; simp
        · dsimp only; omega
        · all_goals repeat' (first | exact True.intro | refine And.intro ?_ ?_ | (intro _u; clear _u) | (with_reducible first | refine eM ?_ ?_ | refine eF ?_ ?_ ?_ | refine eN ?_ | refine eL ?_ ?_ ?_ | refine eA ?_ ?_ | refine IWk.mk ⟨_, hp, rfl⟩ ?_ ?_) | refine IWk.mk ⟨_, hp, rfl⟩ ?_ ?_)
          all_goals first | with_reducible rfl | omega | exact Or.inl (by decide) | (simp; done) | rfl | skip
        · all_goals repeat' (first | exact True.intro | refine And.intro ?_ ?_ | (intro _u; clear _u) | (with_reducible first | refine eM ?_ ?_ | refine eF ?_ ?_ ?_ | refine eN ?_ | refine eL ?_ ?_ ?_ | refine eA ?_ ?_ | refine IWk.mk ⟨_, hp, rfl⟩ ?_ ?_) | refine IWk.mk ⟨_, hp, rfl⟩ ?_ ?_)
          all_goals first | with_reducible rfl | omega | exact Or.inl (by decide) | (simp; done) | rfl | skip
          simp [slA, Af.row]
      · rw [show (k + 1).toNat = 0 by omega, wayN_zero, List.append_nil] at h3
        subst h3
        refine sh ?_
        refine cM true [] ((rthen4_c h.n239 w hwl hWi).mc h.n239.o239.hb) ?_
        repeat ((intro _u; clear _u); first | refine eK ?_ | refine eP ?_)
        unfold gworld
        rw [hW]
        refine sh ?_
        exact rT
end Go.UM

namespace Go.UM
open Go.AM
set_option maxRecDepth 4000
structure In where
  mesh : Int
  mat : Int
  tex : Int
  n : Int
  t : Af
def In.row (x : In) : List AV := [.int .i64 x.mesh, .int .i64 x.mat, .int .i64 x.tex, .int .i64 x.n, .int .i64 x.t.m0, .int .i64 x.t.m1, .int .i64 x.t.m2, .int .i64 x.t.m3, .int .i64 x.t.m4, .int .i64 x.t.m5, .int .i64 x.t.m6, .int .i64 x.t.m7, .int .i64 x.t.m8, .int .i64 x.t.t.a, .int .i64 x.t.t.b, .int .i64 x.t.t.c]
def sIn (l : List In) : List (List AV) := l.map In.row
@[simp] theorem sIn_length (l : List In) : (sIn l).length = l.length := by simp [sIn]
@[simp] theorem sIn_append (a b : List In) : sIn (a ++ b) = sIn a ++ sIn b := by simp [sIn]
@[simp] theorem sIn_NmL (l : List In) : NmL (sIn l) := by simp [sIn, In.row]
@[simp] theorem sIn_FlL (l : List In) : FlL (sIn l) := by simp [sIn, In.row]
instance {l : List In} : LenOf (sIn l) l.length := ⟨sIn_length l⟩
def keyG (g : Gr) : T3 := ⟨g.mesh, g.mat, g.tex⟩
def hitK (g : Gr) (k : T3) : Bool := (g.mesh == k.a) && ((g.mat == k.b) && ((g.tex == k.c) && true))
theorem hitK_eq {g : Gr} {k : T3} : hitK g k = true ↔ k = keyG g := by
  unfold hitK keyG
  obtain ⟨a, b, c⟩ := k
  simp only [Bool.and_eq_true, beq_iff_eq, and_true, T3.mk.injEq]
  exact ⟨fun ⟨h1, h2, h3⟩ => ⟨h1.symm, h2.symm, h3.symm⟩, fun ⟨h1, h2, h3⟩ => ⟨h1.symm, h2.symm, h3.symm⟩⟩
theorem hitK_ne {g : Gr} {k : T3} : hitK g k = false ↔ k ≠ keyG g := by rw [← Bool.not_eq_true, ne_eq, hitK_eq]
def cntK (l : List Gr) (k : T3) : Nat := l.countP fun g => hitK g k
def kadd (ks : List T3) (g : Gr) : List T3 := if g.mesh = 0 then ks else if ks.any (hitK g) = true then ks else ks ++ [keyG g]
def keysK (l : List Gr) : List T3 := l.foldl kadd []
def mrow (l : List Gr) (k : T3) : List AV := [.int .i64 k.a, .int .i64 k.b, .int .i64 k.c, .int .i64 (cntK l k)]
def mes (l : List Gr) : List (List AV) := (keysK l).map (mrow l)
theorem keysK_snoc (l : List Gr) (g : Gr) : keysK (l ++ [g]) = kadd (keysK l) g := by simp [keysK, List.foldl_append]
theorem cntK_snoc (l : List Gr) (g : Gr) (k : T3) : cntK (l ++ [g]) k = cntK l k + if hitK g k = true then 1 else 0 := by
  simp only [cntK, List.countP_append, List.countP_cons, List.countP_nil, Nat.zero_add]
theorem cntK_le (l : List Gr) (k : T3) : cntK l k ≤ l.length := List.countP_le_length
theorem keysK_all (l : List Gr) : (∀ g ∈ l, g.mesh ≠ 0 → keyG g ∈ keysK l) ∧ (keysK l).Nodup ∧ (keysK l).length ≤ l.length ∧ ∀ k ∈ keysK l, k.a ≠ 0 := by
  have : ∀ (n : Nat) (l : List Gr), l.length = n → (∀ g ∈ l, g.mesh ≠ 0 → keyG g ∈ keysK l) ∧ (keysK l).Nodup ∧ (keysK l).length ≤ l.length ∧ ∀ k ∈ keysK l, k.a ≠ 0 := by
    intro n
    induction n with
    | zero =>
      intro l hl
      have : l = [] := List.eq_nil_of_length_eq_zero hl
      subst this
      exact ⟨by simp, by simp [keysK], by simp [keysK], by simp [keysK]⟩
    | succ n ih =>
      intro l hl
      obtain ⟨r, g, rfl⟩ : ∃ r g, l = r ++ [g] := ⟨l.dropLast, l.getLast (by intro e; subst e; simp at hl), (List.dropLast_concat_getLast _).symm⟩
      obtain ⟨i1, i2, i3, i4⟩ := ih r (by simpa using hl)
      rw [keysK_snoc]
      unfold kadd
      by_cases h0 : g.mesh = 0
      · rw [if_pos h0]
        refine ⟨fun g' hg' hm => ?_, i2, by simp; omega, i4⟩
        rcases List.mem_append.1 hg' with h | h
        · exact i1 g' h hm
        · simp at h; subst h; exact (hm h0).elim
      · rw [if_neg h0]
        by_cases ha : (keysK r).any (hitK g) = true
        · rw [if_pos ha]
          refine ⟨fun g' hg' hm => ?_, i2, by simp; omega, i4⟩
          rcases List.mem_append.1 hg' with h | h
          · exact i1 g' h hm
          · simp at h; subst h
            obtain ⟨k, hk, hh⟩ := List.any_eq_true.1 ha
            rw [← hitK_eq.1 hh]; exact hk
        · rw [if_neg ha]
          have hno : keyG g ∉ keysK r := fun hk => ha (List.any_eq_true.2 ⟨_, hk, hitK_eq.2 rfl⟩)
          refine ⟨fun g' hg' hm => ?_, ?_, by simp; omega, fun k hk => ?_⟩
          · rcases List.mem_append.1 hg' with h | h
            · exact List.mem_append_left _ (i1 g' h hm)
            · simp at h; subst h; simp
          · rw [List.nodup_append]
            refine ⟨i2, by simp, fun a ha b hb => ?_⟩
            simp at hb; subst hb
            exact fun e => hno (e ▸ ha)
          · rcases List.mem_append.1 hk with h | h
            · exact i4 k h
            · simp at h; subst h; exact h0
  exact this _ l rfl
theorem cntK_zero {l : List Gr} {g : Gr} (h0 : g.mesh ≠ 0) (h : (keysK l).any (hitK g) = false) : cntK l (keyG g) = 0 := by
  unfold cntK
  rw [List.countP_eq_zero]
  intro g' hg' hh
  have e : keyG g = keyG g' := hitK_eq.1 hh
  have hm : g'.mesh ≠ 0 := by
    have : (keyG g).a = (keyG g').a := by rw [e]
    intro h'; exact h0 (this.trans h')
  have hk := (keysK_all l).1 g' hg' hm
  have : (keysK l).any (hitK g) = true := List.any_eq_true.2 ⟨_, hk, hitK_eq.2 e.symm⟩
  rw [h] at this; simp at this
theorem mes_g64 (l : List Gr) : ∀ r ∈ mes l, g64 r = true := by
  intro r hr
  obtain ⟨k, _, rfl⟩ := List.mem_map.1 hr
  rfl
@[simp] theorem mes_NmL (l : List Gr) : NmL (mes l) := by simp [mes, mrow]
theorem mfind_no {g : Gr} {f : T3 → Int} : ∀ {ks : List T3}, ks.any (hitK g) = false → mfind [.int .i64 g.mesh, .int .i64 g.mat, .int .i64 g.tex] (ks.map fun k => [.int .i64 k.a, .int .i64 k.b, .int .i64 k.c, .int .i64 (f k)]) = none
  | [], _ => rfl
  | k :: ks, h => by
    simp only [List.any_cons, Bool.or_eq_false_iff] at h
    have e : kvB [.int .i64 g.mesh, .int .i64 g.mat, .int .i64 g.tex] [.int .i64 k.a, .int .i64 k.b, .int .i64 k.c, .int .i64 (f k)] = hitK g k := rfl
    simp only [List.map_cons, mfind, e, h.1, Bool.false_eq_true, if_false, mfind_no h.2, Option.map_none]
theorem mfind_yes {g : Gr} {f : T3 → Int} : ∀ {ks : List T3}, ks.any (hitK g) = true → ∃ i, ks[i]? = some (keyG g) ∧ mfind [.int .i64 g.mesh, .int .i64 g.mat, .int .i64 g.tex] (ks.map fun k => [.int .i64 k.a, .int .i64 k.b, .int .i64 k.c, .int .i64 (f k)]) = some (i, [.int .i64 (f (keyG g))])
  | [], h => by simp at h
  | k :: ks, h => by
    have e : kvB [.int .i64 g.mesh, .int .i64 g.mat, .int .i64 g.tex] [.int .i64 k.a, .int .i64 k.b, .int .i64 k.c, .int .i64 (f k)] = hitK g k := rfl
    by_cases hk : hitK g k = true
    · have := hitK_eq.1 hk
      subst this
      exact ⟨0, rfl, by simp only [List.map_cons, mfind, e, hk, if_true]; rfl⟩
    · simp only [List.any_cons, Bool.or_eq_true, hk, Bool.false_eq_true, false_or] at h
      obtain ⟨i, h1, h2⟩ := mfind_yes (f := f) h
      exact ⟨i + 1, by simpa using h1, by simp only [List.map_cons, mfind, e, if_neg hk, h2, Option.map_some]⟩
theorem cnt_at {l : List Gr} {g : Gr} (h0 : g.mesh ≠ 0) : cntV (mfind [.int .i64 g.mesh, .int .i64 g.mat, .int .i64 g.tex] (mes l)) = .int .i64 (cntK l (keyG g)) := by
  by_cases h : (keysK l).any (hitK g) = true
  · obtain ⟨i, _, h2⟩ := mfind_yes (f := fun k => (cntK l k : Int)) h
    show cntV (mfind _ ((keysK l).map (mrow l))) = _
    have e : (keysK l).map (mrow l) = (keysK l).map fun k => [.int .i64 k.a, .int .i64 k.b, .int .i64 k.c, .int .i64 ((cntK l k : Nat) : Int)] := rfl
    rw [e, h2]; rfl
  · have h : (keysK l).any (hitK g) = false := by simpa using h
    have e : (keysK l).map (mrow l) = (keysK l).map fun k => [.int .i64 k.a, .int .i64 k.b, .int .i64 k.c, .int .i64 ((cntK l k : Nat) : Int)] := rfl
    show cntV (mfind _ ((keysK l).map (mrow l))) = _
    rw [e, mfind_no h, cntK_zero h0 h]; rfl
theorem mrow_other {l : List Gr} {g : Gr} {k : T3} (h : k ≠ keyG g) : mrow (l ++ [g]) k = mrow l k := by
  have : hitK g k = false := hitK_ne.2 h
  simp only [mrow, cntK_snoc, this, Bool.false_eq_true, if_false, Nat.add_zero]
theorem mrow_this {l : List Gr} {g : Gr} : mrow (l ++ [g]) (keyG g) = [.int .i64 g.mesh, .int .i64 g.mat, .int .i64 g.tex, .int .i64 ((cntK l (keyG g) : Int) + 1)] := by
  have : hitK g (keyG g) = true := hitK_eq.2 rfl
  simp only [mrow, cntK_snoc, this, if_true]
  simp [keyG]
theorem mes_yes {l : List Gr} {g : Gr} {i : Nat} (h0 : g.mesh ≠ 0) (h : (keysK l)[i]? = some (keyG g)) : mes (l ++ [g]) = (mes l).set i [.int .i64 g.mesh, .int .i64 g.mat, .int .i64 g.tex, .int .i64 ((cntK l (keyG g) : Int) + 1)] := by
  have ha : (keysK l).any (hitK g) = true := List.any_eq_true.2 ⟨_, List.mem_of_getElem? h, hitK_eq.2 rfl⟩
  have hk : keysK (l ++ [g]) = keysK l := by rw [keysK_snoc, kadd, if_neg h0, if_pos ha]
  unfold mes
  rw [hk, ← mrow_this]
  apply List.ext_getElem?
  intro j
  by_cases e : i = j
  · subst e
    have hlt := (List.getElem?_eq_some_iff.1 h).1
    rw [List.getElem?_set_self (by simpa using hlt), List.getElem?_map, h]; rfl
  · rw [List.getElem?_set_ne e, List.getElem?_map, List.getElem?_map]
    cases hj : (keysK l)[j]? with
    | none => rfl
    | some k =>
      have hne : k ≠ keyG g := by
        intro ek
        have hn := (keysK_all l).2.1
        have h1 := List.getElem?_eq_some_iff.1 h
        have h2 := List.getElem?_eq_some_iff.1 hj
        obtain ⟨h1a, h1b⟩ := h1
        obtain ⟨h2a, h2b⟩ := h2
        have hp := List.pairwise_iff_getElem.1 hn
        rcases Nat.lt_or_gt_of_ne e with hlt | hlt
        · exact hp i j h1a h2a hlt (by rw [h1b, h2b, ek])
        · exact hp j i h2a h1a hlt (by rw [h1b, h2b, ek])
      simp only [Option.map_some, mrow_other hne]
theorem mes_no {l : List Gr} {g : Gr} (h0 : g.mesh ≠ 0) (h : (keysK l).any (hitK g) = false) : mes (l ++ [g]) = mes l ++ [[.int .i64 g.mesh, .int .i64 g.mat, .int .i64 g.tex, .int .i64 ((cntK l (keyG g) : Int) + 1)]] := by
  have hk : keysK (l ++ [g]) = keysK l ++ [keyG g] := by rw [keysK_snoc, kadd, if_neg h0, if_neg (by rw [h]; simp)]
  unfold mes
  rw [hk, ← mrow_this, List.map_append]
  congr 1
  refine List.map_congr_left fun k hk => mrow_other fun e => ?_
  have : (keysK l).any (hitK g) = true := List.any_eq_true.2 ⟨k, hk, hitK_eq.2 e⟩
  rw [h] at this; simp at this
theorem mes_skip {l : List Gr} {g : Gr} (h0 : g.mesh = 0) : mes (l ++ [g]) = mes l := by
  have hk : keysK (l ++ [g]) = keysK l := by rw [keysK_snoc, kadd, if_pos h0]
  unfold mes
  rw [hk]
  refine List.map_congr_left fun k hk => mrow_other fun e => ?_
  have := (keysK_all l).2.2.2 k hk
  rw [e] at this
  exact this h0
theorem mes_len (l : List Gr) : (mes l).length ≤ l.length := by
  unfold mes
  rw [List.length_map]
  exact (keysK_all l).2.2.1
theorem then4_in {l : List Af} (h : ∀ a ∈ l, a.I) : (then4 l).I := by
  cases l with
  | nil => exact same_in
  | cons f r =>
    have : ∀ (r : List Af) (s : Af), s.I → (r.foldl comp4 s).I := by
      intro r
      induction r with
      | nil => exact fun s hs => hs
      | cons g r ih => exact fun s _ => ih _ (comp_in _ _)
    exact this r f (h f (by simp))
theorem gworld_in {l : List Gr} (hi : ∀ g ∈ l, g.t.I) (i : Int) : (gworld l i).I := then4_in (wayN_I hi _)
def flF (l : List Gr) : Nat → List Gr → List In → List In × Int
  | _, [], acc => (acc, 0)
  | i, g :: r, acc => if g.mesh = 0 then flF l (i + 1) r acc else if chk4 (gworld l i) ≠ 0 then ([], chk4 (gworld l i)) else flF l (i + 1) r (acc ++ [⟨g.mesh, g.mat, g.tex, cntK (l.take i) (keyG g), gworld l i⟩])
def flat4 (l : List Gr) : List In × Int := if gchk l ≠ 0 then ([], gchk l) else flF l 0 l []
end Go.UM

namespace Go.UM
open Go.AM
set_option maxRecDepth 4000
theorem afv {kc : List AV} {es : List (List AV)} {K : AV → Prop} {c : AV} (g : ∀ r ∈ es, g64 r = true) (e : cntV (mfind kc es) = c) (k : K c) : AFv kc es K := ⟨g, by rw [e]; exact k⟩
theorem afg {kc : List AV} {es : List (List AV)} {K : Option (Nat × List AV) → Prop} {q : Option (Nat × List AV)} (g : ∀ r ∈ es, g64 r = true) (e : mfind kc es = q) (k : K q) : AFg kc es K := ⟨g, by rw [e]; exact k⟩
theorem aen {es : List (List AV)} {j : Int} {K : Nat → List AV → Prop} (i : Nat) (r : List AV) (h1 : j = i) (h2 : es[i]? = some r) (k : K i r) : AEn es j K := ⟨⟨i, r, h1, h2, k⟩⟩
theorem gflatten_c {R : Env} (h : N327 R) (l : List Gr) (hl : l.length ≤ 900) (hi : ∀ g ∈ l, g.t.I) : R.Pc 327 [.isl 16 (slG l)] (.tup [.isl 16 (sIn (flat4 l).1), .int .i64 (flat4 l).2]) :=
  h.o327.enter 200 rfl fun X bb hfit hp => by
    generalize hq : flat4 l = q
    unfold flat4 at hq
    refine sh ?_
    refine ICall.pure h.n330.o330.hb (gcheck_c h.n330 l (by omega) hi) rfl ?_
    refine sh ?_
    refine cS (fun h1 => ?_) (fun h1 => ?_)
    · rw [if_pos h1] at hq
      subst hq
      refine sh ?_
      exact rT
    · rw [if_neg (by simpa using h1)] at hq
      have hA := gchk_ahead h1
      refine sh ?_
      refine lPa 200 (fun s : Nat × List In => (s.1 ≤ l.length ∧ s.2.length ≤ s.1) ∧ flF l s.1 (l.drop s.1) s.2 = q) (fun s => ⟨[(0, .isl 16 (slG l)), (5, .omap 0), (6, .osl 1 s.2.length), (18, .isl 16 (slG l)), (19, .int .i64 l.length), (20, .int .i64 s.1)], [(1, .arr (R.ty 44) 16 (sIn s.2)), (0, .map 3 true false true 4 (mes (l.take s.1)))], 2⟩) (fun s => l.length - s.1) ((0, [])) ?_ ?_
      · exact ⟨⟨by omega, by simp⟩, by simpa using hq⟩
      · rintro ⟨k, acc⟩ ⟨h2, h3⟩
        dsimp only at h2 h3 ⊢
        refine sh ?_
        refine cS (fun h4 => ?_) (fun h4 => ?_)
        · obtain ⟨g, hg⟩ : ∃ u_, l[k]? = some u_ := ⟨_, List.getElem?_eq_getElem (by first | omega | (simp <;> omega))⟩
          refine sh ?_
          refine eget_map hg ?_
          rw [drop_at hg, flF] at h3
          have hsn := take_succ_get hg
          refine sh ?_
          refine cS (fun h5 => ?_) (fun h5 => ?_)
          · rw [if_pos h5] at h3
            refine sh ?_
            refine nX ((k + 1, acc)) ?_ ?_ ⟨_, hp, rfl⟩ ?_ ?_
            · exact ⟨by dsimp only; omega, h3⟩
            · dsimp only; omega
            · all_goals repeat' (first | exact True.intro | refine And.intro ?_ ?_ | (intro _u; clear _u) | (with_reducible first | refine eM ?_ ?_ | refine eF ?_ ?_ ?_ | refine eN ?_ | refine eL ?_ ?_ ?_ | refine eA ?_ ?_ | refine IWk.mk ⟨_, hp, rfl⟩ ?_ ?_) | refine IWk.mk ⟨_, hp, rfl⟩ ?_ ?_)
              all_goals first | with_reducible rfl | omega | exact Or.inl (by decide) | (simp; done) | rfl | skip
            · all_goals repeat' (first | exact True.intro | refine And.intro ?_ ?_ | (intro _u; clear _u) | (with_reducible first | refine eM ?_ ?_ | refine eF ?_ ?_ ?_ | refine eN ?_ | refine eL ?_ ?_ ?_ | refine eA ?_ ?_ | refine IWk.mk ⟨_, hp, rfl⟩ ?_ ?_) | refine IWk.mk ⟨_, hp, rfl⟩ ?_ ?_)
              all_goals first | with_reducible rfl | omega | exact Or.inl (by decide) | (simp; done) | rfl | skip
              rw [hsn, mes_skip h5]
          · rw [if_neg h5] at h3
            refine sh ?_
            refine ICall.pure h.n348.o348.hb (gworld_c h.n348 l hl hi hA k (by omega) (by omega)) rfl ?_
            refine sh ?_
            refine ICall.pure h.n235.o235.hb (check4_c h.n235 (gworld_in hi k)) rfl ?_
            refine sh ?_
            refine cS (fun h6 => ?_) (fun h6 => ?_)
            · rw [if_pos h6] at h3
              subst h3
              refine sh ?_
              exact rT
            · rw [if_neg (by simpa using h6)] at h3
              refine sh ?_
              refine afv (mes_g64 _) (cnt_at h5) ?_
              refine sh ?_
              refine afv (mes_g64 _) (cnt_at h5) ?_
              have hcl := cntK_le (l.take k) (keyG g)
              rw [List.length_take] at hcl
              have hml := mes_len (l.take k)
              rw [List.length_take] at hml
              by_cases ha : (keysK (l.take k)).any (hitK g) = true
              · obtain ⟨i, hi1, hi2⟩ := mfind_yes (f := fun x => ((cntK (l.take k) x : Nat) : Int)) ha
                refine sh ?_
                refine afg (mes_g64 _) hi2 ?_
                refine sh ?_
                refine aen i (mrow (l.take k) (keyG g)) rfl (by rw [mes, List.getElem?_map, hi1]; rfl) ?_
                refine sh ?_
                refine nX ((k + 1, acc ++ [⟨g.mesh, g.mat, g.tex, cntK (l.take k) (keyG g), gworld l k⟩])) ?_ ?_ ⟨_, hp, rfl⟩ ?_ ?_
                · exact ⟨by simp; omega, h3⟩
                · dsimp only; omega
                · all_goals repeat' (first | exact True.intro | refine And.intro ?_ ?_ | (intro _u; clear _u) | (with_reducible first | refine eM ?_ ?_ | refine eF ?_ ?_ ?_ | refine eN ?_ | refine eL ?_ ?_ ?_ | refine eA ?_ ?_ | refine IWk.mk ⟨_, hp, rfl⟩ ?_ ?_) | refine IWk.mk ⟨_, hp, rfl⟩ ?_ ?_)
                  all_goals first | with_reducible rfl | omega | exact Or.inl (by decide) | (simp; done) | rfl | skip
                · all_goals repeat' (first | exact True.intro | refine And.intro ?_ ?_ | (intro _u; clear _u) | (with_reducible first | refine eM ?_ ?_ | refine eF ?_ ?_ ?_ | refine eN ?_ | refine eL ?_ ?_ ?_ | refine eA ?_ ?_ | refine IWk.mk ⟨_, hp, rfl⟩ ?_ ?_) | refine IWk.mk ⟨_, hp, rfl⟩ ?_ ?_)
                  all_goals first | with_reducible rfl | omega | exact Or.inl (by decide) | (simp; done) | rfl | skip
                  · simp [In.row, sIn]
                  · rw [hsn, mes_yes h5 hi1]; rfl
                  · exact .inr (NmL_set (mes_NmL _) rfl)
              · have ha : (keysK (l.take k)).any (hitK g) = false := by simpa using ha
                refine sh ?_
                refine afg (mes_g64 _) (mfind_no (f := fun x => ((cntK (l.take k) x : Nat) : Int)) ha) ?_
                refine sh ?_
                refine aen (mes (l.take k)).length [.int .i64 g.mesh, .int .i64 g.mat, .int .i64 g.tex, .int .i64 0] rfl (by rw [List.getElem?_append_right (Nat.le_refl _), Nat.sub_self]; rfl) ?_
                refine sh ?_
                refine nX ((k + 1, acc ++ [⟨g.mesh, g.mat, g.tex, cntK (l.take k) (keyG g), gworld l k⟩])) ?_ ?_ ⟨_, hp, rfl⟩ ?_ ?_
                · exact ⟨by simp; omega, h3⟩
                · dsimp only; omega
                · all_goals repeat' (first | exact True.intro | refine And.intro ?_ ?_ | (intro _u; clear _u) | (with_reducible first | refine eM ?_ ?_ | refine eF ?_ ?_ ?_ | refine eN ?_ | refine eL ?_ ?_ ?_ | refine eA ?_ ?_ | refine IWk.mk ⟨_, hp, rfl⟩ ?_ ?_) | refine IWk.mk ⟨_, hp, rfl⟩ ?_ ?_)
                  all_goals first | with_reducible rfl | omega | exact Or.inl (by decide) | (simp; done) | rfl | skip
                · all_goals repeat' (first | exact True.intro | refine And.intro ?_ ?_ | (intro _u; clear _u) | (with_reducible first | refine eM ?_ ?_ | refine eF ?_ ?_ ?_ | refine eN ?_ | refine eL ?_ ?_ ?_ | refine eA ?_ ?_ | refine IWk.mk ⟨_, hp, rfl⟩ ?_ ?_) | refine IWk.mk ⟨_, hp, rfl⟩ ?_ ?_)
                  all_goals first | with_reducible rfl | omega | exact Or.inl (by decide) | (simp; done) | rfl | skip
                  · simp [In.row, sIn]
                  · rw [hsn, mes_no h5 ha]; simp
        · rw [show k = l.length by omega, List.drop_length, flF] at h3
          subst h3
          refine sh ?_
          exact rT
end Go.UM

namespace Go.UM
open Go.AM
set_option maxRecDepth 4000
theorem cntK_take {l : List Gr} {j : Nat} {x : Gr} (hx : l[j]? = some x) (k : T3) : cntK (l.take (j + 1)) k = cntK (l.take j) k + if hitK x k = true then 1 else 0 := by
  rw [take_succ_get hx, cntK_snoc]
theorem rgflatten_c {R : Env} (h : N340 R) (l : List Gr) (hl : l.length ≤ 900) (hi : ∀ g ∈ l, g.t.I) : R.Pc 340 [.isl 16 (slG l)] (.tup [.isl 16 (sIn (flat4 l).1), .int .i64 (flat4 l).2]) :=
  h.o340.enter 300 rfl fun X bb hfit hp => by
    generalize hq : flat4 l = q
    unfold flat4 at hq
    refine sh ?_
    refine ICall.pure h.n334.o334.hb (rgcheck_c h.n334 l (by omega) hi) rfl ?_
    refine sh ?_
    refine cS (fun h1 => ?_) (fun h1 => ?_)
    · rw [if_pos h1] at hq
      subst hq
      refine sh ?_
      exact rT
    · rw [if_neg (by simpa using h1)] at hq
      have hA := gchk_ahead h1
      refine sh ?_
      refine lPa 250 (fun s : Nat × List In => (s.1 ≤ l.length ∧ s.2.length ≤ s.1) ∧ flF l s.1 (l.drop s.1) s.2 = q) (fun s => ⟨[(0, .isl 16 (slG l)), (5, .osl 0 s.2.length), (6, .int .i64 s.1)], [(0, .arr (R.ty 44) 16 (sIn s.2))], 1⟩) (fun s => l.length - s.1) ((0, [])) ?_ ?_
      · exact ⟨⟨by omega, by simp⟩, by simpa using hq⟩
      · rintro ⟨k, acc⟩ ⟨h2, h3⟩
        dsimp only at h2 h3 ⊢
        refine sh ?_
        refine cS (fun h4 => ?_) (fun h4 => ?_)
        · obtain ⟨g, hg⟩ : ∃ u_, l[k]? = some u_ := ⟨_, List.getElem?_eq_getElem (by first | omega | (simp <;> omega))⟩
          refine sh ?_
          refine eget_map hg ?_
          rw [drop_at hg, flF] at h3
          refine sh ?_
          refine cS (fun h5 => ?_) (fun h5 => ?_)
          · rw [if_pos h5] at h3
            refine sh ?_
            refine nXa ((k + 1, acc)) ?_ ?_
            · exact ⟨by dsimp only; omega, h3⟩
            · dsimp only; omega
          · rw [if_neg h5] at h3
            refine sh ?_
            refine ICall.pure h.n337.o337.hb (rgworld_c h.n337 l hl hi hA k (by omega) (by omega)) rfl ?_
            refine sh ?_
            refine ICall.pure h.n236.o236.hb (rcheck4_c h.n236 (gworld_in hi k)) rfl ?_
            refine sh ?_
            refine cS (fun h6 => ?_) (fun h6 => ?_)
            · rw [if_pos h6] at h3
              subst h3
              refine sh ?_
              exact rT
            · rw [if_neg (by simpa using h6)] at h3
              refine sh ?_
              refine lPa 100 (fun j : Nat => j ≤ k) (fun j => ⟨[(0, .isl 16 (slG l)), (5, .osl 0 acc.length), (6, .int .i64 k), (7, .loc 1 1 0 0), (8, .loc 2 1 0 0), (10, .int .i64 (cntK (l.take j) (keyG g))), (11, .int .i64 j)], [(2, .var (R.ty 33) (gworld l k).row), (1, .var (R.ty 43) g.row), (0, .arr (R.ty 44) 16 (sIn acc))], 3⟩) (fun j => k - j) (0) ?_ ?_
              · omega
              · intro j h7
                dsimp only
                refine sh ?_
                refine cS (fun h8 => ?_) (fun h8 => ?_)
                · obtain ⟨x, hx⟩ : ∃ u_, l[j]? = some u_ := ⟨_, List.getElem?_eq_getElem (by first | omega | (simp <;> omega))⟩
                  refine sh ?_
                  refine eget_map hx ?_
                  have e := cntK_take hx (keyG g)
                  have hcl := cntK_le (l.take j) (keyG g)
                  rw [List.length_take] at hcl
                  refine sh ?_
                  refine cS (fun c1 => ?_) (fun c1 => ?_)
                  · refine sh ?_
                    refine eget_map hx ?_
                    refine sh ?_
                    refine cS (fun c2 => ?_) (fun c2 => ?_)
                    · refine sh ?_
                      refine eget_map hx ?_
                      refine sh ?_
                      refine cS (fun c3 => ?_) (fun c3 => ?_)
                      · refine sh ?_
                        refine nX (j + 1) ?_ ?_ ⟨_, hp, rfl⟩ ?_ ?_
                        · omega
                        · omega
                        · all_goals repeat' (first | exact True.intro | refine And.intro ?_ ?_ | (intro _u; clear _u) | (with_reducible first | refine eM ?_ ?_ | refine eF ?_ ?_ ?_ | refine eN ?_ | refine eL ?_ ?_ ?_ | refine eA ?_ ?_ | refine IWk.mk ⟨_, hp, rfl⟩ ?_ ?_) | refine IWk.mk ⟨_, hp, rfl⟩ ?_ ?_)
                          all_goals first | with_reducible rfl | omega | exact Or.inl (by decide) | (simp; done) | rfl | skip
                          rw [e, if_pos (by simp [hitK, keyG, c1, c2, c3])]; simp
                        · all_goals repeat' (first | exact True.intro | refine And.intro ?_ ?_ | (intro _u; clear _u) | (with_reducible first | refine eM ?_ ?_ | refine eF ?_ ?_ ?_ | refine eN ?_ | refine eL ?_ ?_ ?_ | refine eA ?_ ?_ | refine IWk.mk ⟨_, hp, rfl⟩ ?_ ?_) | refine IWk.mk ⟨_, hp, rfl⟩ ?_ ?_)
                          all_goals first | with_reducible rfl | omega | exact Or.inl (by decide) | (simp; done) | rfl | skip
                      · refine sh ?_
                        refine nX (j + 1) ?_ ?_ ⟨_, hp, rfl⟩ ?_ ?_
                        · omega
                        · omega
                        · all_goals repeat' (first | exact True.intro | refine And.intro ?_ ?_ | (intro _u; clear _u) | (with_reducible first | refine eM ?_ ?_ | refine eF ?_ ?_ ?_ | refine eN ?_ | refine eL ?_ ?_ ?_ | refine eA ?_ ?_ | refine IWk.mk ⟨_, hp, rfl⟩ ?_ ?_) | refine IWk.mk ⟨_, hp, rfl⟩ ?_ ?_)
                          all_goals first | with_reducible rfl | omega | exact Or.inl (by decide) | (simp; done) | rfl | skip
                          rw [e, if_neg (by simp [hitK, keyG, c3])]; simp
                        · all_goals repeat' (first | exact True.intro | refine And.intro ?_ ?_ | (intro _u; clear _u) | (with_reducible first | refine eM ?_ ?_ | refine eF ?_ ?_ ?_ | refine eN ?_ | refine eL ?_ ?_ ?_ | refine eA ?_ ?_ | refine IWk.mk ⟨_, hp, rfl⟩ ?_ ?_) | refine IWk.mk ⟨_, hp, rfl⟩ ?_ ?_)
                          all_goals first | with_reducible rfl | omega | exact Or.inl (by decide) | (simp; done) | rfl | skip
                    · refine sh ?_
                      refine nX (j + 1) ?_ ?_ ⟨_, hp, rfl⟩ ?_ ?_
                      · omega
                      · omega
                      · all_goals repeat' (first | exact True.intro | refine And.intro ?_ ?_ | (intro _u; clear _u) | (with_reducible first | refine eM ?_ ?_ | refine eF ?_ ?_ ?_ | refine eN ?_ | refine eL ?_ ?_ ?_ | refine eA ?_ ?_ | refine IWk.mk ⟨_, hp, rfl⟩ ?_ ?_) | refine IWk.mk ⟨_, hp, rfl⟩ ?_ ?_)
                        all_goals first | with_reducible rfl | omega | exact Or.inl (by decide) | (simp; done) | rfl | skip
                        rw [e, if_neg (by simp [hitK, keyG, c2])]; simp
                      · all_goals repeat' (first | exact True.intro | refine And.intro ?_ ?_ | (intro _u; clear _u) | (with_reducible first | refine eM ?_ ?_ | refine eF ?_ ?_ ?_ | refine eN ?_ | refine eL ?_ ?_ ?_ | refine eA ?_ ?_ | refine IWk.mk ⟨_, hp, rfl⟩ ?_ ?_) | refine IWk.mk ⟨_, hp, rfl⟩ ?_ ?_)
                        all_goals first | with_reducible rfl | omega | exact Or.inl (by decide) | (simp; done) | rfl | skip
                  · refine sh ?_
                    refine nX (j + 1) ?_ ?_ ⟨_, hp, rfl⟩ ?_ ?_
                    · omega
                    · omega
                    · all_goals repeat' (first | exact True.intro | refine And.intro ?_ ?_ | (intro _u; clear _u) | (with_reducible first | refine eM ?_ ?_ | refine eF ?_ ?_ ?_ | refine eN ?_ | refine eL ?_ ?_ ?_ | refine eA ?_ ?_ | refine IWk.mk ⟨_, hp, rfl⟩ ?_ ?_) | refine IWk.mk ⟨_, hp, rfl⟩ ?_ ?_)
                      all_goals first | with_reducible rfl | omega | exact Or.inl (by decide) | (simp; done) | rfl | skip
                      rw [e, if_neg (by simp [hitK, keyG, c1])]; simp
                    · all_goals repeat' (first | exact True.intro | refine And.intro ?_ ?_ | (intro _u; clear _u) | (with_reducible first | refine eM ?_ ?_ | refine eF ?_ ?_ ?_ | refine eN ?_ | refine eL ?_ ?_ ?_ | refine eA ?_ ?_ | refine IWk.mk ⟨_, hp, rfl⟩ ?_ ?_) | refine IWk.mk ⟨_, hp, rfl⟩ ?_ ?_)
                      all_goals first | with_reducible rfl | omega | exact Or.inl (by decide) | (simp; done) | rfl | skip
                · rw [show j = k by omega]
                  refine sh ?_
                  refine nX ((k + 1, acc ++ [⟨g.mesh, g.mat, g.tex, cntK (l.take k) (keyG g), gworld l k⟩])) ?_ ?_ ⟨_, hp, rfl⟩ ?_ ?_
                  · exact ⟨by simp; omega, h3⟩
                  · dsimp only; omega
                  · all_goals repeat' (first | exact True.intro | refine And.intro ?_ ?_ | (intro _u; clear _u) | (with_reducible first | refine eM ?_ ?_ | refine eF ?_ ?_ ?_ | refine eN ?_ | refine eL ?_ ?_ ?_ | refine eA ?_ ?_ | refine IWk.mk ⟨_, hp, rfl⟩ ?_ ?_) | refine IWk.mk ⟨_, hp, rfl⟩ ?_ ?_)
                    all_goals first | with_reducible rfl | omega | exact Or.inl (by decide) | (simp; done) | rfl | skip
                  · all_goals repeat' (first | exact True.intro | refine And.intro ?_ ?_ | (intro _u; clear _u) | (with_reducible first | refine eM ?_ ?_ | refine eF ?_ ?_ ?_ | refine eN ?_ | refine eL ?_ ?_ ?_ | refine eA ?_ ?_ | refine IWk.mk ⟨_, hp, rfl⟩ ?_ ?_) | refine IWk.mk ⟨_, hp, rfl⟩ ?_ ?_)
                    all_goals first | with_reducible rfl | omega | exact Or.inl (by decide) | (simp; done) | rfl | skip
                    simp [In.row, sIn]
        · rw [show k = l.length by omega, List.drop_length, flF] at h3
          subst h3
          refine sh ?_
          exact rT
def atG (x y z : Int) : Af := move4 (vof ⟨x, y, z⟩)
theorem at41_c {R : Env} (h : N349 R) {x y z : Int} (hx : (⟨x, y, z⟩ : T3).I) : R.Pc 349 [.int .i64 x, .int .i64 y, .int .i64 z] (.agg (atG x y z).row) :=
  h.o349.enter 100 rfl fun X bb hfit hp => by
    refine sh ?_
    refine ICall.pure h.n249.o249.hb (vofp_c h.n249 hx) rfl ?_
    refine sh ?_
    refine ICall.pure h.n223.o223.hb (move4_c h.n223 (vof ⟨x, y, z⟩)) rfl ?_
    refine sh ?_
    exact rT
def exG : List Gr := [⟨-1, atG 10 0 0, 0, 0, 0⟩, ⟨0, atG 1 2 3, 5, 6, 0⟩]
theorem exG_flat : flat4 exG = ([⟨5, 6, 0, 0, atG 11 2 3⟩], 0) := by
  have w : gworld exG 1 = atG 11 2 3 := by
    unfold gworld
    rw [show ((1 : Int) + 1).toNat = 1 + 1 from rfl, wayN_succ (l := exG) (k := 1) (g := ⟨0, atG 1 2 3, 5, 6, 0⟩) rfl (by decide), show ((0 : Int) + 1).toNat = 0 + 1 from rfl,
      wayN_succ (l := exG) (k := 0) (g := ⟨-1, atG 10 0 0, 0, 0, 0⟩) rfl (by decide), show ((-1 : Int) + 1).toNat = 0 from rfl, wayN_zero]
    rfl
  have hc : gchk exG = 0 := by decide
  unfold flat4
  rw [hc, if_neg (by simp)]
  show flF exG 0 exG [] = _
  have e1 : flF exG 0 exG [] = flF exG 1 [⟨0, atG 1 2 3, 5, 6, 0⟩] [] := by
    conv => lhs; unfold exG
    rw [flF, if_pos rfl]; rfl
  rw [e1, flF, if_neg (by decide)]
  rw [show ((1 : Nat) : Int) = 1 from rfl, w, if_neg (by decide), flF]
  rfl
theorem works41_c {R : Env} (h : N328 R) : R.Pc 328 [] (.bool true) :=
  h.o328.enter 100 rfl fun X bb hfit hp => by
    refine sh ?_
    refine ICall.pure h.n349.o349.hb (at41_c h.n349 (x := 10) (y := 0) (z := 0) ⟨⟨by decide, by decide⟩, ⟨by decide, by decide⟩, ⟨by decide, by decide⟩⟩) rfl ?_
    refine sh ?_
    refine ICall.pure h.n349.o349.hb (at41_c h.n349 (x := 1) (y := 2) (z := 3) ⟨⟨by decide, by decide⟩, ⟨by decide, by decide⟩, ⟨by decide, by decide⟩⟩) rfl ?_
    have c := gflatten_c h.n327 exG (by decide) (by
      intro g hg
      simp only [exG, List.mem_cons, List.not_mem_nil, or_false] at hg
      have ia : ∀ x y z, (atG x y z).I := fun x y z => by
        refine ⟨?_, ?_, ?_, ?_, ?_, ?_, ?_, ?_, ?_, vof_in _⟩ <;> (simp only [atG, move4, i64_iff]; omega)
      rcases hg with rfl | rfl <;> exact ia _ _ _)
    rw [exG_flat] at c
    refine sh ?_
    refine ICall.let [0] rfl hp rfl ?_
    repeat ((intro _u; clear _u); first | refine eZ ?_ | refine eZ ?_ (by simp; omega) | refine FrzC.drop ?_)
    refine sh ?_
    refine ICall.pure h.n327.o327.hb c rfl ?_
    refine sh ?_
    refine acnd_t (by rfl) ?_
    refine sh ?_
    refine acnd_t (by rfl) ?_
    refine sh ?_
    refine eget_map (show ([⟨5, 6, 0, 0, atG 11 2 3⟩] : List In)[0]? = some _ from rfl) ?_
    refine sh ?_
    refine ICall.pure h.n349.o349.hb (at41_c h.n349 (x := 11) (y := 2) (z := 3) ⟨⟨by decide, by decide⟩, ⟨by decide, by decide⟩, ⟨by decide, by decide⟩⟩) rfl ?_
    refine sh ?_
    exact rT
end Go.UM

namespace Go.UM
open Go.AM
end Go.UM

namespace Go.UM
open Go.AM
end Go.UM

namespace Go.UM
open Go.AM
end Go.UM

namespace Go.UM
open Go.AM
set_option maxRecDepth 4000
def p2 (x : Int × Int) : List AV := [.int .i64 x.1, .int .i64 x.2]
def slc2 (l : List (Int × Int)) : List (List AV) := l.map p2
@[simp] theorem slc2_nil : slc2 [] = [] := rfl
@[simp] theorem slc2_length (l : List (Int × Int)) : (slc2 l).length = l.length := by simp [slc2]
@[simp] theorem slc2_append (a b : List (Int × Int)) : slc2 (a ++ b) = slc2 a ++ slc2 b := by simp [slc2]
@[simp] theorem slc2_NmL (l : List (Int × Int)) : NmL (slc2 l) := by simp [slc2, p2]
@[simp] theorem slc2_FlL (l : List (Int × Int)) : FlL (slc2 l) := by simp [slc2, p2]
theorem slc2_take (l : List (Int × Int)) (k : Nat) : (slc2 l).take k = slc2 (l.take k) := by simp [slc2, List.map_take]
instance {l : List (Int × Int)} : LenOf (slc2 l) l.length := ⟨slc2_length l⟩
structure Ms where
  v : List T3
  uv : List (Int × Int)
  t : List T3
def Ms.row (m : Ms) : List AV := [.isl 3 (slc3 m.v), .isl 2 (slc2 m.uv), .isl 3 (slc3 m.t)]
def off3 (p : T3) : Bool := !(decide (-4096 ≤ p.a ∧ p.a ≤ 4096 ∧ -4096 ≤ p.b ∧ p.b ≤ 4096 ∧ -4096 ≤ p.c ∧ p.c ≤ 4096))
def bad2 (x : Int × Int) : Bool := !(decide (0 ≤ x.1 ∧ x.1 ≤ 65535 ∧ 0 ≤ x.2 ∧ x.2 ≤ 65535))
def badT (n : Nat) (t : T3) : Bool := !(decide (0 ≤ t.a ∧ t.a < n ∧ 0 ≤ t.b ∧ t.b < n ∧ 0 ≤ t.c ∧ t.c < n ∧ t.a ≠ t.b ∧ t.b ≠ t.c ∧ t.c ≠ t.a))
def mchk (m : Ms) : Int :=
  if 64 < m.v.length ∨ 64 < m.t.length then 3
  else if m.v.length = 0 ∨ m.t.length = 0 ∨ m.uv.length ≠ m.v.length then 5
  else if m.v.any off3 = true then 8
  else if m.uv.any bad2 = true ∨ m.t.any (badT m.v.length) = true then 5 else 0
def fidx {α : Type} (l : List α) (p : α → Bool) : Int := if l.any p = true then (l.findIdx p : Int) else -1
theorem fidx_at {α : Type} {p : α → Bool} {x : α} : ∀ {l : List α} {i : Nat}, l[i]? = some x → p x = true → (l.take i).any p = false → l.findIdx p = i
  | [], _, h, _, _ => by simp at h
  | a :: r, 0, h, hp, _ => by simp at h; subst h; simp [List.findIdx_cons, hp]
  | a :: r, i + 1, h, hp, hn => by
    simp only [List.take_succ_cons, List.any_cons, Bool.or_eq_false_iff] at hn
    rw [List.findIdx_cons, hn.1, fidx_at (l := r) (i := i) (by simpa using h) hp hn.2]
    rfl
theorem any_at {α : Type} {p : α → Bool} {l : List α} {i : Nat} {x : α} (h : l[i]? = some x) (hp : p x = true) : l.any p = true := List.any_eq_true.2 ⟨x, List.mem_of_getElem? h, hp⟩
theorem any_take_succ' {α : Type} {l : List α} {k : Nat} {x : α} {p : α → Bool} (h : l[k]? = some x) : (l.take (k + 1)).any p = ((l.take k).any p || p x) := by
  rw [take_succ_get h]; simp
theorem fidx_ge {α : Type} {l : List α} {p : α → Bool} : decide (fidx l p ≥ 0) = l.any p := by
  unfold fidx
  split
  · rename_i h; rw [h]; simp
  · rename_i h; simp at h ⊢; exact h
theorem idx217_c {R : Env} (h : N217 R) (g : Nat) (hb : HasBody R.P (R.ft g)) (l : List T3) (p : T3 → Bool) (hc : ∀ x ∈ l, R.Pc g [.agg (t3 x)] (.bool (p x))) (hl : l.length ≤ 1073741824) : R.Pc 217 [.isl 3 (slc3 l), R.cl g []] (.int .i64 (fidx l p)) :=
  h.o217.enter 100 rfl fun X bb hfit hp => by
    refine sh ?_
    refine lPa 100 (fun i : Nat => i ≤ l.length ∧ (l.take i).any p = false) (fun i => ⟨[(0, .isl 3 (slc3 l)), (1, R.cl g []), (7, .int .i64 l.length), (8, .int .i64 i)], [], 0⟩) (fun i => l.length - i) (0) ?_ ?_
    · exact ⟨Nat.zero_le _, by simp⟩
    · intro i hi
      dsimp only
      refine sh ?_
      refine cS (fun h1 => ?_) (fun h1 => ?_)
      · obtain ⟨x, hx⟩ : ∃ u_, l[i]? = some u_ := ⟨_, List.getElem?_eq_getElem (by first | omega | (simp <;> omega))⟩
        refine sh ?_
        refine eget_map hx ?_
        refine sh ?_
        refine ICall.pure hb (hc x (List.mem_of_getElem? hx)) rfl ?_
        refine sh ?_
        refine cS (fun h2 => ?_) (fun h2 => ?_)
        · refine sh ?_
          refine rT ?_
          all_goals repeat' (first | exact True.intro | refine And.intro ?_ ?_ | (intro _u; clear _u) | (with_reducible first | refine eM ?_ ?_ | refine eF ?_ ?_ ?_ | refine eN ?_ | refine eL ?_ ?_ ?_ | refine eA ?_ ?_ | refine IWk.mk ⟨_, hp, rfl⟩ ?_ ?_) | refine IWk.mk ⟨_, hp, rfl⟩ ?_ ?_)
          all_goals first | with_reducible rfl | omega | exact Or.inl (by decide) | (simp; done) | rfl | skip
          unfold fidx
          rw [if_pos (any_at hx h2), fidx_at hx h2 hi.2]
        · refine sh ?_
          refine nXa (i + 1) ?_ ?_
          · refine ⟨by omega, ?_⟩
            rw [any_take_succ' hx, hi.2, h2]; rfl
          · omega
      · refine sh ?_
        refine rT ?_
        all_goals repeat' (first | exact True.intro | refine And.intro ?_ ?_ | (intro _u; clear _u) | (with_reducible first | refine eM ?_ ?_ | refine eF ?_ ?_ ?_ | refine eN ?_ | refine eL ?_ ?_ ?_ | refine eA ?_ ?_ | refine IWk.mk ⟨_, hp, rfl⟩ ?_ ?_) | refine IWk.mk ⟨_, hp, rfl⟩ ?_ ?_)
        all_goals first | with_reducible rfl | omega | exact Or.inl (by decide) | (simp; done) | rfl | skip
        unfold fidx
        have h3 := hi.2
        rw [List.take_of_length_le (by omega)] at h3
        rw [if_neg (by simp [h3])]
theorem cont209_c {R : Env} (h : N209 R) (g : Nat) (hb : HasBody R.P (R.ft g)) (l : List T3) (p : T3 → Bool) (hc : ∀ x ∈ l, R.Pc g [.agg (t3 x)] (.bool (p x))) (hl : l.length ≤ 1073741824) : R.Pc 209 [.isl 3 (slc3 l), R.cl g []] (.bool (l.any p)) :=
  h.o209.enter 100 rfl fun X bb hfit hp => by
    refine sh ?_
    refine ICall.pure h.n217.o217.hb (idx217_c h.n217 g hb l p hc hl) rfl ?_
    refine sh ?_
    refine rT ?_
    all_goals repeat' (first | exact True.intro | refine And.intro ?_ ?_ | (intro _u; clear _u) | (with_reducible first | refine eM ?_ ?_ | refine eF ?_ ?_ ?_ | refine eN ?_ | refine eL ?_ ?_ ?_ | refine eA ?_ ?_ | refine IWk.mk ⟨_, hp, rfl⟩ ?_ ?_) | refine IWk.mk ⟨_, hp, rfl⟩ ?_ ?_)
    all_goals first | with_reducible rfl | omega | exact Or.inl (by decide) | (simp; done) | rfl | skip
    exact fidx_ge
theorem idx218_c {R : Env} (h : N218 R) (g : Nat) (hb : HasBody R.P (R.ft g)) (l : List (Int × Int)) (p : Int × Int → Bool) (hc : ∀ x ∈ l, R.Pc g [.agg (p2 x)] (.bool (p x))) (hl : l.length ≤ 1073741824) : R.Pc 218 [.isl 2 (slc2 l), R.cl g []] (.int .i64 (fidx l p)) :=
  h.o218.enter 100 rfl fun X bb hfit hp => by
    refine sh ?_
    refine lPa 100 (fun i : Nat => i ≤ l.length ∧ (l.take i).any p = false) (fun i => ⟨[(0, .isl 2 (slc2 l)), (1, R.cl g []), (7, .int .i64 l.length), (8, .int .i64 i)], [], 0⟩) (fun i => l.length - i) (0) ?_ ?_
    · exact ⟨Nat.zero_le _, by simp⟩
    · intro i hi
      dsimp only
      refine sh ?_
      refine cS (fun h1 => ?_) (fun h1 => ?_)
      · obtain ⟨x, hx⟩ : ∃ u_, l[i]? = some u_ := ⟨_, List.getElem?_eq_getElem (by first | omega | (simp <;> omega))⟩
        refine sh ?_
        refine eget_map hx ?_
        refine sh ?_
        refine ICall.pure hb (hc x (List.mem_of_getElem? hx)) rfl ?_
        refine sh ?_
        refine cS (fun h2 => ?_) (fun h2 => ?_)
        · refine sh ?_
          refine rT ?_
          all_goals repeat' (first | exact True.intro | refine And.intro ?_ ?_ | (intro _u; clear _u) | (with_reducible first | refine eM ?_ ?_ | refine eF ?_ ?_ ?_ | refine eN ?_ | refine eL ?_ ?_ ?_ | refine eA ?_ ?_ | refine IWk.mk ⟨_, hp, rfl⟩ ?_ ?_) | refine IWk.mk ⟨_, hp, rfl⟩ ?_ ?_)
          all_goals first | with_reducible rfl | omega | exact Or.inl (by decide) | (simp; done) | rfl | skip
          unfold fidx
          rw [if_pos (any_at hx h2), fidx_at hx h2 hi.2]
        · refine sh ?_
          refine nXa (i + 1) ?_ ?_
          · refine ⟨by omega, ?_⟩
            rw [any_take_succ' hx, hi.2, h2]; rfl
          · omega
      · refine sh ?_
        refine rT ?_
        all_goals repeat' (first | exact True.intro | refine And.intro ?_ ?_ | (intro _u; clear _u) | (with_reducible first | refine eM ?_ ?_ | refine eF ?_ ?_ ?_ | refine eN ?_ | refine eL ?_ ?_ ?_ | refine eA ?_ ?_ | refine IWk.mk ⟨_, hp, rfl⟩ ?_ ?_) | refine IWk.mk ⟨_, hp, rfl⟩ ?_ ?_)
        all_goals first | with_reducible rfl | omega | exact Or.inl (by decide) | (simp; done) | rfl | skip
        unfold fidx
        have h3 := hi.2
        rw [List.take_of_length_le (by omega)] at h3
        rw [if_neg (by simp [h3])]
theorem cont210_c {R : Env} (h : N210 R) (g : Nat) (hb : HasBody R.P (R.ft g)) (l : List (Int × Int)) (p : Int × Int → Bool) (hc : ∀ x ∈ l, R.Pc g [.agg (p2 x)] (.bool (p x))) (hl : l.length ≤ 1073741824) : R.Pc 210 [.isl 2 (slc2 l), R.cl g []] (.bool (l.any p)) :=
  h.o210.enter 100 rfl fun X bb hfit hp => by
    refine sh ?_
    refine ICall.pure h.n218.o218.hb (idx218_c h.n218 g hb l p hc hl) rfl ?_
    refine sh ?_
    refine rT ?_
    all_goals repeat' (first | exact True.intro | refine And.intro ?_ ?_ | (intro _u; clear _u) | (with_reducible first | refine eM ?_ ?_ | refine eF ?_ ?_ ?_ | refine eN ?_ | refine eL ?_ ?_ ?_ | refine eA ?_ ?_ | refine IWk.mk ⟨_, hp, rfl⟩ ?_ ?_) | refine IWk.mk ⟨_, hp, rfl⟩ ?_ ?_)
    all_goals first | with_reducible rfl | omega | exact Or.inl (by decide) | (simp; done) | rfl | skip
    exact fidx_ge
def msM (R : Env) (m : Ms) : IMem := [(0, .var (R.ty 25) m.row)]
theorem idx219_c {R : Env} (h : N219 R) (g : Nat) (l : List T3) (p : T3 → Bool) (m : Ms) (hc : ∀ x ∈ l, R.Mc g [.agg (t3 x), .loc 0 1 0 0] (msM R m) (.bool (p x)) (msM R m) 1) (hl : l.length ≤ 1073741824) :
    R.Mc 219 [.isl 3 (slc3 l), R.cl g [.loc 0 1 0 0]] (msM R m) (.int .i64 (fidx l p)) (msM R m) 1 :=
  h.o219.enterM 100 1 rfl rfl rfl fun X bb hfit hp => by
    refine sh ?_
    refine lPa 100 (fun i : Nat => i ≤ l.length ∧ (l.take i).any p = false) (fun i => ⟨[(0, .isl 3 (slc3 l)), (1, R.cl g [.loc 0 1 0 0]), (7, .int .i64 l.length), (8, .int .i64 i)], msM R m, 1⟩) (fun i => l.length - i) (0) ?_ ?_
    · exact ⟨Nat.zero_le _, by simp⟩
    · intro i hi
      dsimp only
      refine sh ?_
      refine cS (fun h1 => ?_) (fun h1 => ?_)
      · obtain ⟨x, hx⟩ : ∃ u_, l[i]? = some u_ := ⟨_, List.getElem?_eq_getElem (by first | omega | (simp <;> omega))⟩
        refine sh ?_
        refine eget_map hx ?_
        refine sh ?_
        refine cM false [0] (hc x (List.mem_of_getElem? hx)) ?_
        repeat ((intro _u; clear _u); first | refine eK ?_ | refine eP ?_)
        refine sh ?_
        refine cS (fun h2 => ?_) (fun h2 => ?_)
        · refine sh ?_
          refine rM [0] ?_
          all_goals repeat' (first | exact True.intro | refine And.intro ?_ ?_ | (intro _u; clear _u) | (with_reducible first | refine eM ?_ ?_ | refine eF ?_ ?_ ?_ | refine eN ?_ | refine eL ?_ ?_ ?_ | refine eA ?_ ?_ | refine IWk.mk ⟨_, hp, rfl⟩ ?_ ?_) | refine IWk.mk ⟨_, hp, rfl⟩ ?_ ?_)
          all_goals first | with_reducible rfl | omega | exact Or.inl (by decide) | (simp; done) | rfl | skip
          unfold fidx
          rw [if_pos (any_at hx h2), fidx_at hx h2 hi.2]
        · refine sh ?_
          refine nXa (i + 1) ?_ ?_
          · refine ⟨by omega, ?_⟩
            rw [any_take_succ' hx, hi.2, h2]; rfl
          · omega
      · refine sh ?_
        refine rM [0] ?_
        all_goals repeat' (first | exact True.intro | refine And.intro ?_ ?_ | (intro _u; clear _u) | (with_reducible first | refine eM ?_ ?_ | refine eF ?_ ?_ ?_ | refine eN ?_ | refine eL ?_ ?_ ?_ | refine eA ?_ ?_ | refine IWk.mk ⟨_, hp, rfl⟩ ?_ ?_) | refine IWk.mk ⟨_, hp, rfl⟩ ?_ ?_)
        all_goals first | with_reducible rfl | omega | exact Or.inl (by decide) | (simp; done) | rfl | skip
        unfold fidx
        have h3 := hi.2
        rw [List.take_of_length_le (by omega)] at h3
        rw [if_neg (by simp [h3])]
theorem cont211_c {R : Env} (h : N211 R) (g : Nat) (l : List T3) (p : T3 → Bool) (m : Ms) (hc : ∀ x ∈ l, R.Mc g [.agg (t3 x), .loc 0 1 0 0] (msM R m) (.bool (p x)) (msM R m) 1) (hl : l.length ≤ 1073741824) :
    R.Mc 211 [.isl 3 (slc3 l), R.cl g [.loc 0 1 0 0]] (msM R m) (.bool (l.any p)) (msM R m) 1 :=
  h.o211.enterM 100 1 rfl rfl rfl fun X bb hfit hp => by
    refine sh ?_
    refine cM false [0] (idx219_c h.n219 g l p m hc hl) ?_
    repeat ((intro _u; clear _u); first | refine eK ?_ | refine eP ?_)
    refine sh ?_
    refine rM [0] ?_
    all_goals repeat' (first | exact True.intro | refine And.intro ?_ ?_ | (intro _u; clear _u) | (with_reducible first | refine eM ?_ ?_ | refine eF ?_ ?_ ?_ | refine eN ?_ | refine eL ?_ ?_ ?_ | refine eA ?_ ?_ | refine IWk.mk ⟨_, hp, rfl⟩ ?_ ?_) | refine IWk.mk ⟨_, hp, rfl⟩ ?_ ?_)
    all_goals first | with_reducible rfl | omega | exact Or.inl (by decide) | (simp; done) | rfl | skip
    exact fidx_ge
theorem off_c {R : Env} (h : N206 R) (p : T3) : R.Pc 206 [.agg (t3 p)] (.bool (off3 p)) :=
  h.o206.enter 60 rfl fun X bb hfit hp => by
    unfold off3
    refine sh ?_
    refine cS (fun h1 => ?_) (fun h1 => ?_)
    · refine sh ?_
      refine rT ?_
      all_goals repeat' (first | exact True.intro | refine And.intro ?_ ?_ | (intro _u; clear _u) | (with_reducible first | refine eM ?_ ?_ | refine eF ?_ ?_ ?_ | refine eN ?_ | refine eL ?_ ?_ ?_ | refine eA ?_ ?_ | refine IWk.mk ⟨_, hp, rfl⟩ ?_ ?_) | refine IWk.mk ⟨_, hp, rfl⟩ ?_ ?_)
      all_goals first | with_reducible rfl | omega | exact Or.inl (by decide) | (simp; done) | rfl | skip
      simp; omega
    · refine sh ?_
      refine rT ?_
      all_goals repeat' (first | exact True.intro | refine And.intro ?_ ?_ | (intro _u; clear _u) | (with_reducible first | refine eM ?_ ?_ | refine eF ?_ ?_ ?_ | refine eN ?_ | refine eL ?_ ?_ ?_ | refine eA ?_ ?_ | refine IWk.mk ⟨_, hp, rfl⟩ ?_ ?_) | refine IWk.mk ⟨_, hp, rfl⟩ ?_ ?_)
      all_goals first | with_reducible rfl | omega | exact Or.inl (by decide) | (simp; done) | rfl | skip
      rw [Bool.eq_iff_iff]; simp only [Bool.not_eq_true', decide_eq_true_eq, decide_eq_false_iff_not]; omega
theorem pair_c {R : Env} (h : N207 R) (p : Int × Int) : R.Pc 207 [.agg (p2 p)] (.bool (bad2 p)) :=
  h.o207.enter 60 rfl fun X bb hfit hp => by
    unfold bad2
    refine sh ?_
    refine cS (fun h1 => ?_) (fun h1 => ?_)
    · refine sh ?_
      refine rT ?_
      all_goals repeat' (first | exact True.intro | refine And.intro ?_ ?_ | (intro _u; clear _u) | (with_reducible first | refine eM ?_ ?_ | refine eF ?_ ?_ ?_ | refine eN ?_ | refine eL ?_ ?_ ?_ | refine eA ?_ ?_ | refine IWk.mk ⟨_, hp, rfl⟩ ?_ ?_) | refine IWk.mk ⟨_, hp, rfl⟩ ?_ ?_)
      all_goals first | with_reducible rfl | omega | exact Or.inl (by decide) | (simp; done) | rfl | skip
      simp; omega
    · refine sh ?_
      refine rT ?_
      all_goals repeat' (first | exact True.intro | refine And.intro ?_ ?_ | (intro _u; clear _u) | (with_reducible first | refine eM ?_ ?_ | refine eF ?_ ?_ ?_ | refine eN ?_ | refine eL ?_ ?_ ?_ | refine eA ?_ ?_ | refine IWk.mk ⟨_, hp, rfl⟩ ?_ ?_) | refine IWk.mk ⟨_, hp, rfl⟩ ?_ ?_)
      all_goals first | with_reducible rfl | omega | exact Or.inl (by decide) | (simp; done) | rfl | skip
      rw [Bool.eq_iff_iff]; simp only [Bool.not_eq_true', decide_eq_true_eq, decide_eq_false_iff_not]; omega
theorem tri_c {R : Env} (h : N208 R) (m : Ms) (p : T3) : R.Mc 208 [.agg (t3 p), .loc 0 1 0 0] (msM R m) (.bool (badT m.v.length p)) (msM R m) 1 :=
  h.o208.enterM 60 1 rfl rfl rfl fun X bb hfit hp => by
    unfold badT
    refine sh ?_
    refine cS (fun h1 => ?_) (fun h1 => ?_)
    · refine sh ?_
      refine rM [0] ?_
      all_goals repeat' (first | exact True.intro | refine And.intro ?_ ?_ | (intro _u; clear _u) | (with_reducible first | refine eM ?_ ?_ | refine eF ?_ ?_ ?_ | refine eN ?_ | refine eL ?_ ?_ ?_ | refine eA ?_ ?_ | refine IWk.mk ⟨_, hp, rfl⟩ ?_ ?_) | refine IWk.mk ⟨_, hp, rfl⟩ ?_ ?_)
      all_goals first | with_reducible rfl | omega | exact Or.inl (by decide) | (simp; done) | rfl | skip
      simp; omega
    · refine sh ?_
      refine cS (fun h2 => ?_) (fun h2 => ?_)
      · refine sh ?_
        refine rM [0] ?_
        all_goals repeat' (first | exact True.intro | refine And.intro ?_ ?_ | (intro _u; clear _u) | (with_reducible first | refine eM ?_ ?_ | refine eF ?_ ?_ ?_ | refine eN ?_ | refine eL ?_ ?_ ?_ | refine eA ?_ ?_ | refine IWk.mk ⟨_, hp, rfl⟩ ?_ ?_) | refine IWk.mk ⟨_, hp, rfl⟩ ?_ ?_)
        all_goals first | with_reducible rfl | omega | exact Or.inl (by decide) | (simp; done) | rfl | skip
        simp; omega
      · refine sh ?_
        refine cS (fun h3 => ?_) (fun h3 => ?_)
        · refine sh ?_
          refine rM [0] ?_
          all_goals repeat' (first | exact True.intro | refine And.intro ?_ ?_ | (intro _u; clear _u) | (with_reducible first | refine eM ?_ ?_ | refine eF ?_ ?_ ?_ | refine eN ?_ | refine eL ?_ ?_ ?_ | refine eA ?_ ?_ | refine IWk.mk ⟨_, hp, rfl⟩ ?_ ?_) | refine IWk.mk ⟨_, hp, rfl⟩ ?_ ?_)
          all_goals first | with_reducible rfl | omega | exact Or.inl (by decide) | (simp; done) | rfl | skip
          simp; omega
        · refine sh ?_
          refine cS (fun h4 => ?_) (fun h4 => ?_)
          · refine sh ?_
            refine rM [0] ?_
            all_goals repeat' (first | exact True.intro | refine And.intro ?_ ?_ | (intro _u; clear _u) | (with_reducible first | refine eM ?_ ?_ | refine eF ?_ ?_ ?_ | refine eN ?_ | refine eL ?_ ?_ ?_ | refine eA ?_ ?_ | refine IWk.mk ⟨_, hp, rfl⟩ ?_ ?_) | refine IWk.mk ⟨_, hp, rfl⟩ ?_ ?_)
            all_goals first | with_reducible rfl | omega | exact Or.inl (by decide) | (simp; done) | rfl | skip
            simp; omega
          · refine sh ?_
            refine rM [0] ?_
            all_goals repeat' (first | exact True.intro | refine And.intro ?_ ?_ | (intro _u; clear _u) | (with_reducible first | refine eM ?_ ?_ | refine eF ?_ ?_ ?_ | refine eN ?_ | refine eL ?_ ?_ ?_ | refine eA ?_ ?_ | refine IWk.mk ⟨_, hp, rfl⟩ ?_ ?_) | refine IWk.mk ⟨_, hp, rfl⟩ ?_ ?_)
            all_goals first | with_reducible rfl | omega | exact Or.inl (by decide) | (simp; done) | rfl | skip
            rw [Bool.eq_iff_iff]; simp only [Bool.not_eq_true', decide_eq_true_eq, decide_eq_false_iff_not, beq_iff_eq]; omega
theorem mcheck_c {R : Env} (h : N193 R) (m : Ms) : R.Pc 193 [.agg m.row] (.int .i64 (mchk m)) :=
  h.o193.enter 100 rfl fun X bb hfit hp => by
    unfold mchk
    refine sh ?_
    refine cS (fun h1 => ?_) (fun h1 => ?_)
    · rw [if_pos (.inl (by omega))]
      refine sh ?_
      exact rT
    · refine sh ?_
      refine cS (fun h2 => ?_) (fun h2 => ?_)
      · rw [if_pos (.inr (by omega))]
        refine sh ?_
        exact rT
      · rw [if_neg (by omega)]
        refine sh ?_
        refine cS (fun h3 => ?_) (fun h3 => ?_)
        · rw [if_pos (.inl (by omega))]
          refine sh ?_
          exact rT
        · refine sh ?_
          refine cS (fun h4 => ?_) (fun h4 => ?_)
          · rw [if_pos (.inr (.inl (by omega)))]
            refine sh ?_
            exact rT
          · refine sh ?_
            refine cS (fun h5 => ?_) (fun h5 => ?_)
            · rw [if_pos (.inr (.inr (by omega)))]
              refine sh ?_
              exact rT
            · rw [if_neg (by omega)]
              refine sh ?_
              refine ICall.pure h.n209.o209.hb (cont209_c h.n209 206 h.n206.o206.hb m.v off3 (fun x _ => off_c h.n206 x) (by omega)) rfl ?_
              refine sh ?_
              refine cS (fun h6 => ?_) (fun h6 => ?_)
              · rw [if_pos h6]
                refine sh ?_
                exact rT
              · rw [if_neg (by rw [h6]; decide)]
                refine sh ?_
                refine ICall.pure h.n210.o210.hb (cont210_c h.n210 207 h.n207.o207.hb m.uv bad2 (fun x _ => pair_c h.n207 x) (by omega)) rfl ?_
                refine sh ?_
                refine cS (fun h7 => ?_) (fun h7 => ?_)
                · rw [if_pos (.inl h7)]
                  refine sh ?_
                  exact rT
                · refine sh ?_
                  refine cM false [0] (cont211_c h.n211 208 m.t (badT m.v.length) m (fun x _ => tri_c h.n208 m x) (by omega)) ?_
                  repeat ((intro _u; clear _u); first | refine eK ?_ | refine eP ?_)
                  refine sh ?_
                  refine cS (fun h8 => ?_) (fun h8 => ?_)
                  · rw [if_pos (.inr h8)]
                    refine sh ?_
                    exact rT
                  · rw [if_neg (by rw [h7, h8]; decide)]
                    refine sh ?_
                    exact rT
end Go.UM

namespace Go.UM
open Go.AM
set_option maxRecDepth 4000
def enc (w : Nat) (x : Int) : List UInt8 := (List.range w).map fun i => u8 (x / 256 ^ i)
@[simp] theorem enc_zero (x : Int) : enc 0 x = [] := rfl
@[simp] theorem enc_length (w : Nat) (x : Int) : (enc w x).length = w := by simp [enc]
end Go.UM

namespace Go.UM
open Go.AM
set_option maxRecDepth 4000
structure Rd where
  l : List UInt8
  e : Int
  made : Bool
def Rd.row (r : Rd) : List AV := [.isl 1 (slc8 r.l), .int .i64 r.e, .bool r.made]
def Rd.off (r : Rd) : Bool := !r.made || decide (r.e ≠ 0)
def Rd.take (r : Rd) (n : Int) : List UInt8 × Rd :=
  if r.made = false ∨ r.e ≠ 0 then ([], r) else if n < 0 then ([], { r with e := 2 }) else if (r.l.length : Int) < n then ([], { r with e := 4 }) else (r.l.take n.toNat, { r with l := r.l.drop n.toNat })
def Rd.num (r : Rd) (w : Int) : Nat × Rd := let t := r.take (if w < 1 ∨ 8 < w then -1 else w); (le t.1, t.2)
def sx (w : Int) (n : Nat) : Int := if 2 * n < 256 ^ w.toNat then n else n - 256 ^ w.toNat
def Rd.int (r : Rd) (w : Int) : Int × Rd := (if w < 1 ∨ 8 < w then 0 else sx w (r.num w).1, (r.num w).2)
def Rd.err (r : Rd) : Int := if r.made = false then 1 else r.e
def Rd.fin (r : Rd) : Int := if r.err ≠ 0 then r.err else if 0 < r.l.length then 5 else 0
end Go.UM

namespace Go.UM
open Go.AM
set_option maxRecDepth 4000
structure RdOk (B : List UInt8) (r : Rd) : Prop where
  m : B.length ≤ 1073741824
  s : r.l = B.drop (B.length - r.l.length)
  made : r.made = true
theorem RdOk.len {B : List UInt8} {r : Rd} (h : RdOk B r) : r.l.length ≤ B.length := by rw [h.s]; simp
theorem RdOk.take {B : List UInt8} {r : Rd} (h : RdOk B r) (n : Int) : RdOk B (r.take n).2 := by
  unfold Rd.take
  split
  · exact h
  · split
    · exact ⟨h.m, h.s, h.made⟩
    · split
      · exact ⟨h.m, h.s, h.made⟩
      · refine ⟨h.m, ?_, h.made⟩
        have h1 := h.s
        have h2 := h.len
        simp only [List.length_drop]
        conv => lhs; rw [h1]
        rw [List.drop_drop]
        congr 1
        omega
theorem RdOk.num {B : List UInt8} {r : Rd} (h : RdOk B r) (w : Int) : RdOk B (r.num w).2 := h.take _
theorem RdOk.int {B : List UInt8} {r : Rd} (h : RdOk B r) (w : Int) : RdOk B (r.int w).2 := h.num w
theorem RdOk.err {B : List UInt8} {r : Rd} (h : RdOk B r) (e : Int) : RdOk B { r with e := e } := ⟨h.m, h.s, h.made⟩
theorem RdOk.new {B : List UInt8} (h : B.length ≤ 1073741824) : RdOk B ⟨B, 0, true⟩ := ⟨h, by simp, rfl⟩
end Go.UM

namespace Go.UM
open Go.AM
set_option maxRecDepth 4000
structure Fits {α : Type} (f : Rd → α × Rd) (g : α → List UInt8) (ok : α → Prop) : Prop where
  made : ∀ r : Rd, r.made = true → (f r).2.made = true
  good : ∀ r : Rd, ok (f r).1
  back : ∀ r : Rd, r.made = true → (f r).2.e = 0 → r.e = 0 ∧ r.l = g (f r).1 ++ (f r).2.l
  there : ∀ (x : α) (l : List UInt8), ok x → f ⟨g x ++ l, 0, true⟩ = (x, ⟨l, 0, true⟩)
theorem Fits.seq {α β : Type} {f : Rd → α × Rd} {g : α → List UInt8} {ok : α → Prop} {f' : Rd → β × Rd} {g' : β → List UInt8} {ok' : β → Prop} (h : Fits f g ok) (h' : Fits f' g' ok') :
    Fits (fun r => (((f r).1, (f' (f r).2).1), (f' (f r).2).2)) (fun x : α × β => g x.1 ++ g' x.2) (fun x => ok x.1 ∧ ok' x.2) := by
  refine ⟨fun r hm => h'.made _ (h.made r hm), fun r => ⟨h.good r, h'.good _⟩, fun r hm he => ?_, fun x l hx => ?_⟩
  · have h1 := h'.back _ (h.made r hm) he
    have h2 := h.back r hm h1.1
    exact ⟨h2.1, by rw [h2.2, h1.2, List.append_assoc]⟩
  · rw [List.append_assoc, h.there x.1 _ hx.1]
    rw [h'.there x.2 l hx.2]
theorem Fits.as {α β : Type} {f : Rd → α × Rd} {g : α → List UInt8} {ok : α → Prop} (h : Fits f g ok) (to : α → β) (of : β → α) (g' : β → List UInt8) (ok' : β → Prop)
    (h1 : ∀ x, ok x → g' (to x) = g x) (h2 : ∀ x, ok x → ok' (to x)) (h3 : ∀ y, ok' y → g' y = g (of y) ∧ ok (of y) ∧ to (of y) = y) : Fits (fun r => (to (f r).1, (f r).2)) g' ok' := by
  refine ⟨h.made, fun r => h2 _ (h.good r), fun r hm he => ?_, fun y l hy => ?_⟩
  · have := h.back r hm he
    exact ⟨this.1, by rw [this.2, h1 _ (h.good r)]⟩
  · have h4 := h3 y hy
    rw [h4.1, h.there _ _ h4.2.1, h4.2.2]
end Go.UM

namespace Go.UM
open Go.AM
set_option maxRecDepth 4000
theorem cap3 (b : List T3) (m : Int) : (slc3 b).take (min (b.length : Int) m).toNat = slc3 (b.take m.toNat) := by rw [slc3_take, take_cap]
theorem cap2 (b : List (Int × Int)) (m : Int) : (slc2 b).take (min (b.length : Int) m).toNat = slc2 (b.take m.toNat) := by rw [slc2_take, take_cap]
structure Ms.May (m : Ms) : Prop where
  v : 1 ≤ m.v.length ∧ m.v.length ≤ 64
  t : 1 ≤ m.t.length ∧ m.t.length ≤ 64
  uv : m.uv.length = m.v.length
  pv : ∀ p ∈ m.v, -4096 ≤ p.a ∧ p.a ≤ 4096 ∧ -4096 ≤ p.b ∧ p.b ≤ 4096 ∧ -4096 ≤ p.c ∧ p.c ≤ 4096
  pu : ∀ x ∈ m.uv, 0 ≤ x.1 ∧ x.1 ≤ 65535 ∧ 0 ≤ x.2 ∧ x.2 ≤ 65535
  pt : ∀ t ∈ m.t, 0 ≤ t.a ∧ t.a < m.v.length ∧ 0 ≤ t.b ∧ t.b < m.v.length ∧ 0 ≤ t.c ∧ t.c < m.v.length ∧ t.a ≠ t.b ∧ t.b ≠ t.c ∧ t.c ≠ t.a
theorem mchk_may {m : Ms} (h : mchk m = 0) : m.May := by
  unfold mchk at h
  split at h
  · cases h
  · split at h
    · cases h
    · split at h
      · cases h
      · split at h
        · cases h
        · rename_i h1 h2 h3 h4
          simp only [not_or, Bool.not_eq_true, List.any_eq_false] at h3 h4
          refine ⟨by omega, by omega, by omega, fun p hp => ?_, fun p hp => ?_, fun p hp => ?_⟩
          · have := h3 p hp; simpa [off3] using this
          · have := h4.1 p hp; simpa [bad2] using this
          · have := h4.2 p hp; simpa [badT] using this
theorem Ms.May.chk {m : Ms} (h : m.May) : mchk m = 0 := by
  unfold mchk
  have h1 := h.v
  have h2 := h.t
  have h3 := h.uv
  rw [if_neg (by omega), if_neg (by omega), if_neg, if_neg]
  · simp only [not_or, Bool.not_eq_true, List.any_eq_false]
    exact ⟨fun p hp => by have := h.pu p hp; simpa [bad2] using this, fun p hp => by have := h.pt p hp; simpa [badT] using this⟩
  · simp only [Bool.not_eq_true, List.any_eq_false]
    exact fun p hp => by have := h.pv p hp; simpa [off3] using this
def Ms.few (m : Ms) : Ms := ⟨m.v.take 70, m.uv.take 70, m.t.take 70⟩
theorem few13_c {R : Env} (h : N191 R) (m : Ms) : R.Pc 191 [.agg m.row] (.agg m.few.row) :=
  h.o191.enter 100 rfl fun X bb hfit hp => by
    refine sh ?_
    refine asub_eq (by exact cap3 _ _) ?_
    refine sh ?_
    refine asub_eq (by exact cap2 _ _) ?_
    refine sh ?_
    refine asub_eq (by exact cap3 _ _) ?_
    refine sh ?_
    exact rT
end Go.UM

namespace Go.UM
open Go.AM
set_option maxRecDepth 4000
theorem roff_c {R : Env} (h : N213 R) (p : T3) : R.Pc 213 [.agg (t3 p), .int .i64 4096] (.bool (off3 p)) :=
  h.o213.enter 60 rfl fun X bb hfit hp => by
    unfold off3
    refine sh ?_
    refine cS (fun h1 => ?_) (fun h1 => ?_)
    · refine sh ?_
      refine rT ?_
      all_goals repeat' (first | exact True.intro | refine And.intro ?_ ?_ | (intro _u; clear _u) | (with_reducible first | refine eM ?_ ?_ | refine eF ?_ ?_ ?_ | refine eN ?_ | refine eL ?_ ?_ ?_ | refine eA ?_ ?_ | refine IWk.mk ⟨_, hp, rfl⟩ ?_ ?_) | refine IWk.mk ⟨_, hp, rfl⟩ ?_ ?_)
      all_goals first | with_reducible rfl | omega | exact Or.inl (by decide) | (simp; done) | rfl | skip
      simp; omega
    · refine sh ?_
      refine cS (fun h2 => ?_) (fun h2 => ?_)
      · refine sh ?_
        refine rT ?_
        all_goals repeat' (first | exact True.intro | refine And.intro ?_ ?_ | (intro _u; clear _u) | (with_reducible first | refine eM ?_ ?_ | refine eF ?_ ?_ ?_ | refine eN ?_ | refine eL ?_ ?_ ?_ | refine eA ?_ ?_ | refine IWk.mk ⟨_, hp, rfl⟩ ?_ ?_) | refine IWk.mk ⟨_, hp, rfl⟩ ?_ ?_)
        all_goals first | with_reducible rfl | omega | exact Or.inl (by decide) | (simp; done) | rfl | skip
        simp; omega
      · refine sh ?_
        refine cS (fun h3 => ?_) (fun h3 => ?_)
        · refine sh ?_
          refine rT ?_
          all_goals repeat' (first | exact True.intro | refine And.intro ?_ ?_ | (intro _u; clear _u) | (with_reducible first | refine eM ?_ ?_ | refine eF ?_ ?_ ?_ | refine eN ?_ | refine eL ?_ ?_ ?_ | refine eA ?_ ?_ | refine IWk.mk ⟨_, hp, rfl⟩ ?_ ?_) | refine IWk.mk ⟨_, hp, rfl⟩ ?_ ?_)
          all_goals first | with_reducible rfl | omega | exact Or.inl (by decide) | (simp; done) | rfl | skip
          simp; omega
        · refine sh ?_
          refine cS (fun h4 => ?_) (fun h4 => ?_)
          · refine sh ?_
            refine rT ?_
            all_goals repeat' (first | exact True.intro | refine And.intro ?_ ?_ | (intro _u; clear _u) | (with_reducible first | refine eM ?_ ?_ | refine eF ?_ ?_ ?_ | refine eN ?_ | refine eL ?_ ?_ ?_ | refine eA ?_ ?_ | refine IWk.mk ⟨_, hp, rfl⟩ ?_ ?_) | refine IWk.mk ⟨_, hp, rfl⟩ ?_ ?_)
            all_goals first | with_reducible rfl | omega | exact Or.inl (by decide) | (simp; done) | rfl | skip
            simp; omega
          · refine sh ?_
            refine cS (fun h5 => ?_) (fun h5 => ?_)
            · refine sh ?_
              refine rT ?_
              all_goals repeat' (first | exact True.intro | refine And.intro ?_ ?_ | (intro _u; clear _u) | (with_reducible first | refine eM ?_ ?_ | refine eF ?_ ?_ ?_ | refine eN ?_ | refine eL ?_ ?_ ?_ | refine eA ?_ ?_ | refine IWk.mk ⟨_, hp, rfl⟩ ?_ ?_) | refine IWk.mk ⟨_, hp, rfl⟩ ?_ ?_)
              all_goals first | with_reducible rfl | omega | exact Or.inl (by decide) | (simp; done) | rfl | skip
              simp; omega
            · refine sh ?_
              refine rT ?_
              all_goals repeat' (first | exact True.intro | refine And.intro ?_ ?_ | (intro _u; clear _u) | (with_reducible first | refine eM ?_ ?_ | refine eF ?_ ?_ ?_ | refine eN ?_ | refine eL ?_ ?_ ?_ | refine eA ?_ ?_ | refine IWk.mk ⟨_, hp, rfl⟩ ?_ ?_) | refine IWk.mk ⟨_, hp, rfl⟩ ?_ ?_)
              all_goals first | with_reducible rfl | omega | exact Or.inl (by decide) | (simp; done) | rfl | skip
              rw [Bool.eq_iff_iff]; simp only [decide_eq_true_eq, Bool.not_eq_true', decide_eq_false_iff_not]; omega
theorem rcheck13_c {R : Env} (h : N198 R) (m : Ms) : R.Pc 198 [.agg m.row] (.int .i64 (mchk m)) :=
  h.o198.enter 100 rfl fun X bb hfit hp => by
    generalize hq : mchk m = q
    refine sh ?_
    refine cS (fun h1 => ?_) (fun h1 => ?_)
    · rw [mchk, if_pos (.inl (by omega))] at hq
      subst hq
      refine sh ?_
      exact rT
    · refine sh ?_
      refine cS (fun h2 => ?_) (fun h2 => ?_)
      · rw [mchk, if_pos (.inr (by omega))] at hq
        subst hq
        refine sh ?_
        exact rT
      · have g1 : ¬ (64 < m.v.length ∨ 64 < m.t.length) := by omega
        refine sh ?_
        refine cS (fun h3 => ?_) (fun h3 => ?_)
        · rw [mchk, if_neg g1, if_pos (.inl (by omega))] at hq
          subst hq
          refine sh ?_
          exact rT
        · refine sh ?_
          refine cS (fun h4 => ?_) (fun h4 => ?_)
          · rw [mchk, if_neg g1, if_pos (.inr (.inl (by omega)))] at hq
            subst hq
            refine sh ?_
            exact rT
          · refine sh ?_
            refine cS (fun h5 => ?_) (fun h5 => ?_)
            · rw [mchk, if_neg g1, if_pos (.inr (.inr (by omega)))] at hq
              subst hq
              refine sh ?_
              exact rT
            · rw [mchk, if_neg g1, if_neg (by omega)] at hq
              refine sh ?_
              refine lPa 100 (fun k : Nat => k ≤ m.v.length ∧ (m.v.take k).any off3 = false) (fun k => ⟨[(1, .loc 0 1 0 0), (3, .int .i64 k)], [(0, .var (R.ty 25) m.row)], 1⟩) (fun k => m.v.length - k) (0) ?_ ?_
              · exact ⟨Nat.zero_le _, by simp⟩
              · intro k hk
                dsimp only
                refine sh ?_
                refine cS (fun h6 => ?_) (fun h6 => ?_)
                · obtain ⟨x, hx⟩ : ∃ u_, m.v[k]? = some u_ := ⟨_, List.getElem?_eq_getElem (by first | omega | (simp <;> omega))⟩
                  refine sh ?_
                  refine eget_map hx ?_
                  refine sh ?_
                  refine ICall.pure h.n213.o213.hb (roff_c h.n213 x) rfl ?_
                  refine sh ?_
                  refine cS (fun h7 => ?_) (fun h7 => ?_)
                  · rw [if_pos (any_at hx h7)] at hq
                    subst hq
                    refine sh ?_
                    exact rT
                  · refine sh ?_
                    refine nXa (k + 1) ?_ ?_
                    · refine ⟨by omega, ?_⟩
                      rw [any_take_succ' hx, hk.2, h7]; rfl
                    · omega
                · have hv := hk.2
                  rw [List.take_of_length_le (by omega)] at hv
                  rw [if_neg (by rw [hv]; decide)] at hq
                  refine sh ?_
                  refine lPa 100 (fun k : Nat => k ≤ m.uv.length ∧ (m.uv.take k).any bad2 = false) (fun k => ⟨[(1, .loc 0 1 0 0), (4, .int .i64 k)], [(0, .var (R.ty 25) m.row)], 1⟩) (fun k => m.uv.length - k) (0) ?_ ?_
                  · exact ⟨Nat.zero_le _, by simp⟩
                  · intro k hk
                    dsimp only
                    refine sh ?_
                    refine cS (fun h7 => ?_) (fun h7 => ?_)
                    · obtain ⟨x, hx⟩ : ∃ u, m.uv[k]? = some u := ⟨_, List.getElem?_eq_getElem (by omega)⟩
                      refine sh ?_
                      refine ILoop.one 100 ?_
                      refine sh ?_
                      refine acnd_t (by decide) ?_
                      refine sh ?_
                      refine eget_map hx ?_
                      refine sh ?_
                      refine cS (fun a1 => ?_) (fun a1 => ?_)
                      · rw [if_pos (.inl (any_at hx (by simp [bad2]; omega)))] at hq
                        subst hq
                        refine sh ?_
                        exact rT
                      · refine sh ?_
                        refine eget_map hx ?_
                        refine sh ?_
                        refine cS (fun a2 => ?_) (fun a2 => ?_)
                        · rw [if_pos (.inl (any_at hx (by simp [bad2]; omega)))] at hq
                          subst hq
                          refine sh ?_
                          exact rT
                        · refine sh ?_
                          refine ILoop.one 100 ?_
                          refine sh ?_
                          refine acnd_t (by decide) ?_
                          refine sh ?_
                          refine eget_map hx ?_
                          refine sh ?_
                          refine cS (fun a3 => ?_) (fun a3 => ?_)
                          · rw [if_pos (.inl (any_at hx (by simp [bad2]; omega)))] at hq
                            subst hq
                            refine sh ?_
                            exact rT
                          · refine sh ?_
                            refine eget_map hx ?_
                            refine sh ?_
                            refine cS (fun a4 => ?_) (fun a4 => ?_)
                            · rw [if_pos (.inl (any_at hx (by simp [bad2]; omega)))] at hq
                              subst hq
                              refine sh ?_
                              exact rT
                            · refine sh ?_
                              refine ILoop.one 100 ?_
                              refine sh ?_
                              refine acnd_f (by decide) ?_
                              refine sh ?_
                              refine nXa (k + 1) ?_ ?_
                              · refine ⟨by omega, ?_⟩
                                rw [any_take_succ' hx, hk.2]
                                simp [bad2]; omega
                              · omega
                    · have hu := hk.2
                      rw [List.take_of_length_le (by omega)] at hu
                      refine sh ?_
                      refine lPa 100 (fun k : Nat => k ≤ m.t.length ∧ (m.t.take k).any (badT m.v.length) = false) (fun k => ⟨[(1, .loc 0 1 0 0), (6, .int .i64 k)], [(0, .var (R.ty 25) m.row)], 1⟩) (fun k => m.t.length - k) (0) ?_ ?_
                      · exact ⟨Nat.zero_le _, by simp⟩
                      · intro k hk
                        dsimp only
                        refine sh ?_
                        refine cS (fun h8 => ?_) (fun h8 => ?_)
                        · obtain ⟨t, ht⟩ : ∃ u, m.t[k]? = some u := ⟨_, List.getElem?_eq_getElem (by omega)⟩
                          refine sh ?_
                          refine ILoop.one 100 ?_
                          refine sh ?_
                          refine acnd_t (by decide) ?_
                          refine sh ?_
                          refine eget_map ht ?_
                          refine sh ?_
                          refine cS (fun a1 => ?_) (fun a1 => ?_)
                          · rw [if_pos (.inr (any_at ht (by simp [badT]; omega)))] at hq
                            subst hq
                            refine sh ?_
                            exact rT
                          · refine sh ?_
                            refine eget_map ht ?_
                            refine sh ?_
                            refine cS (fun a2 => ?_) (fun a2 => ?_)
                            · rw [if_pos (.inr (any_at ht (by simp [badT]; omega)))] at hq
                              subst hq
                              refine sh ?_
                              exact rT
                            · refine sh ?_
                              refine eget_map ht ?_
                              refine sh ?_
                              refine eget_map ht ?_
                              refine sh ?_
                              refine cS (fun a3 => ?_) (fun a3 => ?_)
                              · rw [if_pos (.inr (any_at ht (by simp [badT]; omega)))] at hq
                                subst hq
                                refine sh ?_
                                exact rT
                              · refine sh ?_
                                refine ILoop.one 100 ?_
                                refine sh ?_
                                refine acnd_t (by decide) ?_
                                refine sh ?_
                                refine eget_map ht ?_
                                refine sh ?_
                                refine cS (fun a4 => ?_) (fun a4 => ?_)
                                · rw [if_pos (.inr (any_at ht (by simp [badT]; omega)))] at hq
                                  subst hq
                                  refine sh ?_
                                  exact rT
                                · refine sh ?_
                                  refine eget_map ht ?_
                                  refine sh ?_
                                  refine cS (fun a5 => ?_) (fun a5 => ?_)
                                  · rw [if_pos (.inr (any_at ht (by simp [badT]; omega)))] at hq
                                    subst hq
                                    refine sh ?_
                                    exact rT
                                  · refine sh ?_
                                    refine eget_map ht ?_
                                    refine sh ?_
                                    refine eget_map ht ?_
                                    refine sh ?_
                                    refine cS (fun a6 => ?_) (fun a6 => ?_)
                                    · rw [if_pos (.inr (any_at ht (by simp [badT]; omega)))] at hq
                                      subst hq
                                      refine sh ?_
                                      exact rT
                                    · refine sh ?_
                                      refine ILoop.one 100 ?_
                                      refine sh ?_
                                      refine acnd_t (by decide) ?_
                                      refine sh ?_
                                      refine eget_map ht ?_
                                      refine sh ?_
                                      refine cS (fun a7 => ?_) (fun a7 => ?_)
                                      · rw [if_pos (.inr (any_at ht (by simp [badT]; omega)))] at hq
                                        subst hq
                                        refine sh ?_
                                        exact rT
                                      · refine sh ?_
                                        refine eget_map ht ?_
                                        refine sh ?_
                                        refine cS (fun a8 => ?_) (fun a8 => ?_)
                                        · rw [if_pos (.inr (any_at ht (by simp [badT]; omega)))] at hq
                                          subst hq
                                          refine sh ?_
                                          exact rT
                                        · refine sh ?_
                                          refine eget_map ht ?_
                                          refine sh ?_
                                          refine eget_map ht ?_
                                          refine sh ?_
                                          refine cS (fun a9 => ?_) (fun a9 => ?_)
                                          · rw [if_pos (.inr (any_at ht (by simp [badT]; omega)))] at hq
                                            subst hq
                                            refine sh ?_
                                            exact rT
                                          · refine sh ?_
                                            refine ILoop.one 100 ?_
                                            refine sh ?_
                                            refine acnd_f (by decide) ?_
                                            refine sh ?_
                                            refine nXa (k + 1) ?_ ?_
                                            · refine ⟨by omega, ?_⟩
                                              rw [any_take_succ' ht, hk.2]
                                              simp [badT]; omega
                                            · omega
                        · have hw := hk.2
                          rw [List.take_of_length_le (by omega)] at hw
                          rw [if_neg (by rw [hu, hw]; decide)] at hq
                          subst hq
                          refine sh ?_
                          exact rT
end Go.UM

namespace Go.UM
open Go.AM
set_option maxRecDepth 4000
structure Mat where
  k : Int
  c : T3
  r : Int
def Mat.row (m : Mat) : List AV := [.int .i64 m.k, .int .i64 m.c.a, .int .i64 m.c.b, .int .i64 m.c.c, .int .i64 m.r]
structure Lig where
  k : Int
  c : T3
  p : T3
  u : T3
  v : T3
def Lig.row (l : Lig) : List AV := [.int .i64 l.k, .int .i64 l.c.a, .int .i64 l.c.b, .int .i64 l.c.c, .int .i64 l.p.a, .int .i64 l.p.b, .int .i64 l.p.c, .int .i64 l.u.a, .int .i64 l.u.b, .int .i64 l.u.c, .int .i64 l.v.a, .int .i64 l.v.b, .int .i64 l.v.c]
def matk (m : Mat) : Int := if m.k < 0 ∨ 4 < m.k ∨ m.r < 0 ∨ 65535 < m.r ∨ m.c.a < 0 ∨ 65535 < m.c.a ∨ m.c.b < 0 ∨ 65535 < m.c.b ∨ m.c.c < 0 ∨ 65535 < m.c.c then 5 else 0
def z3b (p : T3) : Bool := p.a == 0 && (p.b == 0 && p.c == 0)
def ligk (l : Lig) : Int := if l.k < 0 ∨ 2 < l.k ∨ l.c.a < 0 ∨ 1048576 < l.c.a ∨ l.c.b < 0 ∨ 1048576 < l.c.b ∨ l.c.c < 0 ∨ 1048576 < l.c.c then 5
  else if off3 l.p = true ∨ off3 l.u = true ∨ off3 l.v = true then 8
  else if l.k = 2 ∧ z3b l.p = false ∨ l.k ≠ 1 ∧ (z3b l.u = false ∨ z3b l.v = false) then 5 else 0
end Go.UM

namespace Go.UM
open Go.AM
set_option maxRecDepth 4000
end Go.UM

namespace Go.UM
open Go.AM
set_option maxRecDepth 4000
structure Tex where
  side : Int
  t : List T3
def Tex.row (x : Tex) : List AV := [.int .i64 x.side, .isl 3 (slc3 x.t)]
def T3.good (x : T3) : Bool := decide (0 ≤ x.a) && decide (0 ≤ x.b) && decide (0 ≤ x.c) && decide (x.a ≤ 255) && decide (x.b ≤ 255) && decide (x.c ≤ 255)
def sides : List Int := [1, 2, 4, 8, 16]
def tchk (x : Tex) : Int := if x.side ∉ sides ∨ (x.t.length : Int) ≠ x.side * x.side then 5 else if x.t.all T3.good = true then 0 else 5
theorem tchk_in {x : Tex} (h : x.side ∈ sides) : x.side = 1 ∨ x.side = 2 ∨ x.side = 4 ∨ x.side = 8 ∨ x.side = 16 := by
  simpa [sides] using h
end Go.UM

namespace Go.UM
open Go.AM
set_option maxRecDepth 4000
structure TexOk (t : Tex) : Prop where
  s : t.side ∈ sides
  l : (t.t.length : Int) = t.side * t.side
  g : t.t.all T3.good = true
theorem TexOk.chk {t : Tex} (h : TexOk t) : tchk t = 0 := by
  unfold tchk
  rw [if_neg (by simp [h.s, h.l]), if_pos h.g]
def Tex.ix (t : Tex) (x y : Int) : Nat := (y % t.side * t.side + x % t.side).toNat
def Tex.at (t : Tex) (x y : Int) : T3 := t.t.getD (t.ix x y) ⟨0, 0, 0⟩
theorem TexOk.ix {t : Tex} (h : TexOk t) (x y : Int) : 0 ≤ y % t.side ∧ y % t.side < t.side ∧ 0 ≤ x % t.side ∧ x % t.side < t.side ∧ t.side ≤ 16 ∧ 1 ≤ t.side ∧ 0 ≤ y % t.side * t.side ∧ y % t.side * t.side + x % t.side < t.side * t.side ∧ t.side * t.side ≤ 256 := by
  have hs := tchk_in h.s
  have h1 : 1 ≤ t.side ∧ t.side ≤ 16 := by omega
  have h2 := Int.emod_nonneg y (show t.side ≠ 0 by omega)
  have h3 := Int.emod_lt_of_pos y (show 0 < t.side by omega)
  have h4 := Int.emod_nonneg x (show t.side ≠ 0 by omega)
  have h5 := Int.emod_lt_of_pos x (show 0 < t.side by omega)
  have h6 : y % t.side * t.side ≤ (t.side - 1) * t.side := Int.mul_le_mul_of_nonneg_right (by omega) (by omega)
  have h7 : 0 ≤ y % t.side * t.side := Int.mul_nonneg h2 (by omega)
  have h8 : t.side * t.side ≤ 16 * 16 := Int.mul_le_mul h1.2 h1.2 (by omega) (by decide)
  rw [Int.sub_mul] at h6
  exact ⟨h2, h3, h4, h5, h1.2, h1.1, h7, by omega, by omega⟩
def avg (a b c d : T3) : T3 := ⟨(a.a + b.a + c.a + d.a + 2) / 4, (a.b + b.b + c.b + d.b + 2) / 4, (a.c + b.c + c.c + d.c + 2) / 4⟩
def Tex.next (t : Tex) (s i : Int) : T3 := avg (t.at (2 * (i % s)) (2 * (i / s))) (t.at (2 * (i % s) + 1) (2 * (i / s))) (t.at (2 * (i % s)) (2 * (i / s) + 1)) (t.at (2 * (i % s) + 1) (2 * (i / s) + 1))
end Go.UM

namespace Go.UM
open Go.AM
set_option maxRecDepth 4000
end Go.UM

namespace Go.UM
open Go.AM
set_option maxRecDepth 4000
structure As where
  k : Int
  m : Ms
  x : Tex
  mt : Mat
  li : Lig
def As.row (a : As) : List AV := [.int .i64 a.k, .isl 3 (slc3 a.m.v), .isl 2 (slc2 a.m.uv), .isl 3 (slc3 a.m.t), .int .i64 a.x.side, .isl 3 (slc3 a.x.t),
  .int .i64 a.mt.k, .int .i64 a.mt.c.a, .int .i64 a.mt.c.b, .int .i64 a.mt.c.c, .int .i64 a.mt.r,
  .int .i64 a.li.k, .int .i64 a.li.c.a, .int .i64 a.li.c.b, .int .i64 a.li.c.c, .int .i64 a.li.p.a, .int .i64 a.li.p.b, .int .i64 a.li.p.c, .int .i64 a.li.u.a, .int .i64 a.li.u.b, .int .i64 a.li.u.c, .int .i64 a.li.v.a, .int .i64 a.li.v.b, .int .i64 a.li.v.c]
def own (a : As) : Int := if a.k = 1 then mchk a.m else if a.k = 2 then tchk a.x else if a.k = 3 then matk a.mt else if a.k = 4 then ligk a.li else 12
structure Lig.May (l : Lig) : Prop where
  k : 0 ≤ l.k ∧ l.k ≤ 2
  c : 0 ≤ l.c.a ∧ l.c.a ≤ 1048576 ∧ 0 ≤ l.c.b ∧ l.c.b ≤ 1048576 ∧ 0 ≤ l.c.c ∧ l.c.c ≤ 1048576
  p : -4096 ≤ l.p.a ∧ l.p.a ≤ 4096 ∧ -4096 ≤ l.p.b ∧ l.p.b ≤ 4096 ∧ -4096 ≤ l.p.c ∧ l.p.c ≤ 4096
  u : -4096 ≤ l.u.a ∧ l.u.a ≤ 4096 ∧ -4096 ≤ l.u.b ∧ l.u.b ≤ 4096 ∧ -4096 ≤ l.u.c ∧ l.u.c ≤ 4096
  v : -4096 ≤ l.v.a ∧ l.v.a ≤ 4096 ∧ -4096 ≤ l.v.b ∧ l.v.b ≤ 4096 ∧ -4096 ≤ l.v.c ∧ l.v.c ≤ 4096
def Lig.three (l : Lig) : List T3 := [l.p, l.u, l.v]
@[simp] theorem three_length (l : Lig) : l.three.length = 3 := rfl
end Go.UM

namespace Go.UM
open Go.AM
structure Mf where
  (id kind label m0 m1 m2 m3 m4 m5 m6 m7 first last size chunks : Int)
def Mf.row (m : Mf) : List AV := [.int .u64 m.id, .int .i64 m.kind, .int .u32 m.label, .int .u8 m.m0, .int .u8 m.m1, .int .u8 m.m2, .int .u8 m.m3, .int .u8 m.m4, .int .u8 m.m5, .int .u8 m.m6, .int .u8 m.m7,
  .int .u32 m.first, .int .u32 m.last, .int .i64 m.size, .int .i64 m.chunks]
end Go.UM

namespace Go.UM
open Go.AM
set_option maxRecDepth 4000
structure Rw where
  h : Int
  f : Mf
  a : As
def Rw.row (r : Rw) : List AV := [.int .i64 r.h, .int .u64 r.f.id, .int .i64 r.f.kind, .int .u32 r.f.label, .int .u8 r.f.m0, .int .u8 r.f.m1, .int .u8 r.f.m2, .int .u8 r.f.m3, .int .u8 r.f.m4, .int .u8 r.f.m5, .int .u8 r.f.m6, .int .u8 r.f.m7,
  .int .u32 r.f.first, .int .u32 r.f.last, .int .i64 r.f.size, .int .i64 r.f.chunks, .int .i64 r.a.k, .isl 3 (slc3 r.a.m.v), .isl 2 (slc2 r.a.m.uv), .isl 3 (slc3 r.a.m.t), .int .i64 r.a.x.side, .isl 3 (slc3 r.a.x.t),
  .int .i64 r.a.mt.k, .int .i64 r.a.mt.c.a, .int .i64 r.a.mt.c.b, .int .i64 r.a.mt.c.c, .int .i64 r.a.mt.r,
  .int .i64 r.a.li.k, .int .i64 r.a.li.c.a, .int .i64 r.a.li.c.b, .int .i64 r.a.li.c.c, .int .i64 r.a.li.p.a, .int .i64 r.a.li.p.b, .int .i64 r.a.li.p.c, .int .i64 r.a.li.u.a, .int .i64 r.a.li.u.b, .int .i64 r.a.li.u.c, .int .i64 r.a.li.v.a, .int .i64 r.a.li.v.b, .int .i64 r.a.li.v.c]
def zRw : Rw := ⟨0, ⟨0, 0, 0, 0, 0, 0, 0, 0, 0, 0, 0, 0, 0, 0, 0⟩, ⟨0, ⟨[], [], []⟩, ⟨0, []⟩, ⟨0, z3, 0⟩, ⟨0, z3, z3, z3, z3⟩⟩⟩
def slR (l : List Rw) : List (List AV) := l.map Rw.row
@[simp] theorem slR_length (l : List Rw) : (slR l).length = l.length := by simp [slR]
@[simp] theorem slR_append (a b : List Rw) : slR (a ++ b) = slR a ++ slR b := by simp [slR]
@[simp] theorem slR_NmL (l : List Rw) : NmL (slR l) := by simp [slR, Rw.row]
instance {l : List Rw} : LenOf (slR l) l.length := ⟨slR_length l⟩
def min3 (p q : T3) : T3 := ⟨min p.a q.a, min p.b q.b, min p.c q.c⟩
def max3 (p q : T3) : T3 := ⟨max p.a q.a, max p.b q.b, max p.c q.c⟩
def bxL : List T3 → T3
  | [] => z3
  | p :: r => r.foldl min3 p
def bxH : List T3 → T3
  | [] => z3
  | p :: r => r.foldl max3 p
theorem bx_succ {l : List T3} {k : Nat} {x : T3} (h : l[k]? = some x) (hk : k ≠ 0) : bxL (l.take (k + 1)) = min3 (bxL (l.take k)) x ∧ bxH (l.take (k + 1)) = max3 (bxH (l.take k)) x := by
  rw [take_succ_get h]
  cases l with
  | nil => simp at h
  | cons p r =>
    cases k with
    | zero => exact (hk rfl).elim
    | succ k => simp [bxL, bxH, List.foldl_append]
theorem bx_one {l : List T3} {x : T3} (h : l[0]? = some x) : bxL (l.take 1) = x ∧ bxH (l.take 1) = x := by
  cases l with
  | nil => simp at h
  | cons p r => simp at h; subst h; simp [bxL, bxH]
theorem tbox_c {R : Env} (h : N353 R) (l : List T3) (hl : l.length ≤ 1000000) : R.Pc 353 [.isl 3 (slc3 l)] (.tup [.agg (t3 (bxL l)), .agg (t3 (bxH l))]) :=
  h.o353.enter 200 rfl fun X bb hfit hp => by
    refine sh ?_
    refine lPa 100 (fun k : Nat => k ≤ l.length) (fun k => ⟨[(2, .loc 0 1 0 0), (3, .loc 1 1 0 0), (6, .isl 3 (slc3 l)), (7, .int .i64 l.length), (8, .int .i64 k)], [(1, .var (R.ty 26) (t3 (bxH (l.take k)))), (0, .var (R.ty 26) (t3 (bxL (l.take k))))], 2⟩) (fun k => l.length - k) (0) ?_ ?_
    · omega
    · intro k hk
      dsimp only
      refine sh ?_
      refine cS (fun h1 => ?_) (fun h1 => ?_)
      · obtain ⟨x, hx⟩ : ∃ u_, l[k]? = some u_ := ⟨_, List.getElem?_eq_getElem (by first | omega | (simp <;> omega))⟩
        refine sh ?_
        refine eget_map hx ?_
        by_cases h0 : k = 0
        · subst h0
          obtain ⟨e1, e2⟩ := bx_one hx
          refine sh ?_
          refine acnd_t (by rfl) ?_
          refine sh ?_
          refine nX (1) ?_ ?_ ⟨_, hp, rfl⟩ ?_ ?_
          · omega
          · omega
          · all_goals repeat' (first | exact True.intro | refine And.intro ?_ ?_ | (intro _u; clear _u) | (with_reducible first | refine eM ?_ ?_ | refine eF ?_ ?_ ?_ | refine eN ?_ | refine eL ?_ ?_ ?_ | refine eA ?_ ?_ | refine IWk.mk ⟨_, hp, rfl⟩ ?_ ?_) | refine IWk.mk ⟨_, hp, rfl⟩ ?_ ?_)
            all_goals first | with_reducible rfl | omega | exact Or.inl (by decide) | (simp; done) | rfl | skip
          · all_goals repeat' (first | exact True.intro | refine And.intro ?_ ?_ | (intro _u; clear _u) | (with_reducible first | refine eM ?_ ?_ | refine eF ?_ ?_ ?_ | refine eN ?_ | refine eL ?_ ?_ ?_ | refine eA ?_ ?_ | refine IWk.mk ⟨_, hp, rfl⟩ ?_ ?_) | refine IWk.mk ⟨_, hp, rfl⟩ ?_ ?_)
            all_goals first | with_reducible rfl | omega | exact Or.inl (by decide) | (simp; done) | rfl | skip
            all_goals first | (rw [e1]; simp; done) | (rw [e2]; simp; done)
        · refine sh ?_
          refine acnd_f (by (simp; omega)) ?_
          obtain ⟨e1, e2⟩ := bx_succ hx h0
          refine sh ?_
          refine nX (k + 1) ?_ ?_ ⟨_, hp, rfl⟩ ?_ ?_
          · omega
          · omega
          · all_goals repeat' (first | exact True.intro | refine And.intro ?_ ?_ | (intro _u; clear _u) | (with_reducible first | refine eM ?_ ?_ | refine eF ?_ ?_ ?_ | refine eN ?_ | refine eL ?_ ?_ ?_ | refine eA ?_ ?_ | refine IWk.mk ⟨_, hp, rfl⟩ ?_ ?_) | refine IWk.mk ⟨_, hp, rfl⟩ ?_ ?_)
            all_goals first | with_reducible rfl | omega | exact Or.inl (by decide) | (simp; done) | rfl | skip
          · all_goals repeat' (first | exact True.intro | refine And.intro ?_ ?_ | (intro _u; clear _u) | (with_reducible first | refine eM ?_ ?_ | refine eF ?_ ?_ ?_ | refine eN ?_ | refine eL ?_ ?_ ?_ | refine eA ?_ ?_ | refine IWk.mk ⟨_, hp, rfl⟩ ?_ ?_) | refine IWk.mk ⟨_, hp, rfl⟩ ?_ ?_)
            all_goals first | with_reducible rfl | omega | exact Or.inl (by decide) | (simp; done) | rfl | skip
            all_goals first | (rw [e1]; rfl) | (rw [e2]; rfl)
      · rw [List.take_of_length_le (by omega)]
        refine sh ?_
        exact rT
theorem rbox20_c {R : Env} (h : N354 R) (l : List T3) (hl : l.length ≤ 1000000) : R.Pc 354 [.isl 3 (slc3 l)] (.tup [.agg (t3 (bxL l)), .agg (t3 (bxH l))]) :=
  h.o354.enter 200 rfl fun X bb hfit hp => by
    by_cases hn : l = []
    · subst hn
      refine sh ?_
      refine acnd_t (by rfl) ?_
      refine sh ?_
      exact rT
    · have h1 : 1 ≤ l.length := Nat.one_le_iff_ne_zero.2 fun e => hn (List.eq_nil_of_length_eq_zero e)
      refine sh ?_
      refine acnd_f (by (simp; omega)) ?_
      obtain ⟨z, hz⟩ : ∃ u_, l[0]? = some u_ := ⟨_, List.getElem?_eq_getElem (by first | omega | (simp <;> omega))⟩
      refine sh ?_
      refine eget_map hz ?_
      obtain ⟨e1, e2⟩ := bx_one hz
      refine sh ?_
      refine eget_map hz ?_
      refine sh ?_
      refine ILoop.inv 100 (fun k : Nat => 1 ≤ k ∧ k ≤ l.length) (fun k => ⟨[(0, .isl 3 (slc3 l)), (2, .loc 0 1 0 0), (3, .loc 1 1 0 0), (4, .loc 2 1 0 0), (5, .loc 3 1 0 0), (6, .int .i64 k)], [(3, .var (R.ty 26) (t3 (bxH (l.take k)))), (2, .var (R.ty 26) (t3 (bxL (l.take k)))), (1, .var (R.ty 26) (t3 z3)), (0, .var (R.ty 26) (t3 z3))], 4⟩) (fun k => l.length - k) (1) ?_ ⟨⟨_, hp, rfl⟩, ?_, ?_⟩ ?_
      · omega
      · all_goals repeat' (first | exact True.intro | refine And.intro ?_ ?_ | (intro _u; clear _u) | (with_reducible first | refine eM ?_ ?_ | refine eF ?_ ?_ ?_ | refine eN ?_ | refine eL ?_ ?_ ?_ | refine eA ?_ ?_ | refine IWk.mk ⟨_, hp, rfl⟩ ?_ ?_) | refine IWk.mk ⟨_, hp, rfl⟩ ?_ ?_)
        all_goals first | with_reducible rfl | omega | exact Or.inl (by decide) | (simp; done) | rfl | skip
      · all_goals repeat' (first | exact True.intro | refine And.intro ?_ ?_ | (intro _u; clear _u) | (with_reducible first | refine eM ?_ ?_ | refine eF ?_ ?_ ?_ | refine eN ?_ | refine eL ?_ ?_ ?_ | refine eA ?_ ?_ | refine IWk.mk ⟨_, hp, rfl⟩ ?_ ?_) | refine IWk.mk ⟨_, hp, rfl⟩ ?_ ?_)
        all_goals first | with_reducible rfl | omega | exact Or.inl (by decide) | (simp; done) | rfl | skip
        all_goals first | (rw [e1]; done) | (rw [e2]; done) | (rw [e1]; rfl) | (rw [e2]; rfl)
      · intro k hk
        dsimp only
        refine sh ?_
        refine cS (fun h2 => ?_) (fun h2 => ?_)
        · obtain ⟨x, hx⟩ : ∃ u_, l[k]? = some u_ := ⟨_, List.getElem?_eq_getElem (by first | omega | (simp <;> omega))⟩
          refine sh ?_
          refine eget_map hx ?_
          refine sh ?_
          refine eget_map hx ?_
          refine sh ?_
          refine eget_map hx ?_
          refine sh ?_
          refine eget_map hx ?_
          refine sh ?_
          refine eget_map hx ?_
          refine sh ?_
          refine eget_map hx ?_
          obtain ⟨e3, e4⟩ := bx_succ hx (by omega)
          refine sh ?_
          refine nX (k + 1) ?_ ?_ ⟨_, hp, rfl⟩ ?_ ?_
          · omega
          · omega
          · all_goals repeat' (first | exact True.intro | refine And.intro ?_ ?_ | (intro _u; clear _u) | (with_reducible first | refine eM ?_ ?_ | refine eF ?_ ?_ ?_ | refine eN ?_ | refine eL ?_ ?_ ?_ | refine eA ?_ ?_ | refine IWk.mk ⟨_, hp, rfl⟩ ?_ ?_) | refine IWk.mk ⟨_, hp, rfl⟩ ?_ ?_)
            all_goals first | with_reducible rfl | omega | exact Or.inl (by decide) | (simp; done) | rfl | skip
          · all_goals repeat' (first | exact True.intro | refine And.intro ?_ ?_ | (intro _u; clear _u) | (with_reducible first | refine eM ?_ ?_ | refine eF ?_ ?_ ?_ | refine eN ?_ | refine eL ?_ ?_ ?_ | refine eA ?_ ?_ | refine IWk.mk ⟨_, hp, rfl⟩ ?_ ?_) | refine IWk.mk ⟨_, hp, rfl⟩ ?_ ?_)
            all_goals first | with_reducible rfl | omega | exact Or.inl (by decide) | (simp; done) | rfl | skip
            all_goals first | (rw [e3]; rfl) | (rw [e4]; rfl)
        · rw [List.take_of_length_le (by omega)]
          refine sh ?_
          exact rT
def findR (rows : List Rw) (h : Int) : Option Rw := rows.find? fun r => r.h == h
def perr (a : Af) : List T3 → Int
  | [] => 0
  | v :: r => if (place4 a v).2 ≠ 0 then (place4 a v).2 else perr a r
def pt4 (a : Af) (m : Ms) (i : Int) : T3 := (place4 a (m.v.getD i.toNat z3)).1
def tri4 (a : Af) (m : Ms) (t : T3) : List T3 := [pt4 a m t.a, pt4 a m t.b, pt4 a m t.c]
def places4 (k : In) (rows : List Rw) : List T3 × Int := match findR rows k.mesh with
  | none => ([], 11)
  | some r => if r.a.k ≠ 1 then ([], 12) else if mchk r.a.m ≠ 0 then ([], mchk r.a.m) else if perr k.t r.a.m.v ≠ 0 then ([], perr k.t r.a.m.v) else (r.a.m.t.flatMap (tri4 k.t r.a.m), 0)
def boxF (rows : List Rw) : List In → List T3 → (T3 × T3) × Int
  | [], acc => ((bxL acc, bxH acc), 0)
  | k :: r, acc => if (places4 k rows).2 ≠ 0 then ((z3, z3), (places4 k rows).2) else boxF rows r (acc ++ (places4 k rows).1)
def box4 (l : List Gr) (rows : List Rw) : (T3 × T3) × Int := if (flat4 l).2 ≠ 0 then ((z3, z3), (flat4 l).2) else boxF rows (flat4 l).1 []
theorem tri4_len (a : Af) (m : Ms) (l : List T3) : (l.flatMap (tri4 a m)).length = 3 * l.length := by
  induction l with
  | nil => rfl
  | cons t r ih => rw [List.flatMap_cons, List.length_append, ih]; simp [tri4]; omega
end Go.UM

namespace Go.UM
open Go.AM
set_option maxRecDepth 4000
theorem flF_I {l : List Gr} (hi : ∀ g ∈ l, g.t.I) : ∀ {r : List Gr} {i : Nat} {acc : List In}, (∀ x ∈ acc, x.t.I) → ∀ x ∈ (flF l i r acc).1, x.t.I
  | [], i, acc, h => h
  | g :: r, i, acc, h => by
    rw [flF]
    split
    · exact flF_I hi h
    · split
      · intro x hx; simp at hx
      · refine flF_I hi fun x hx => ?_
        rcases List.mem_append.1 hx with hx | hx
        · exact h x hx
        · simp at hx; subst hx; exact gworld_in hi _
theorem flat_I {l : List Gr} (hi : ∀ g ∈ l, g.t.I) : ∀ x ∈ (flat4 l).1, x.t.I := by
  unfold flat4
  split
  · intro x hx; simp at hx
  · exact flF_I hi (fun x hx => by simp at hx)
theorem flF_len {l : List Gr} : ∀ {r : List Gr} {i : Nat} {acc : List In}, (flF l i r acc).1.length ≤ acc.length + r.length
  | [], i, acc => by simp [flF]
  | g :: r, i, acc => by
    rw [flF]
    split
    · have := flF_len (l := l) (r := r) (i := i + 1) (acc := acc); simp only [List.length_cons]; omega
    · split
      · simp
      · have := flF_len (l := l) (r := r) (i := i + 1) (acc := acc ++ [⟨g.mesh, g.mat, g.tex, cntK (l.take i) (keyG g), gworld l i⟩])
        simp only [List.length_append, List.length_cons, List.length_nil] at this ⊢; omega
theorem flat_len (l : List Gr) : (flat4 l).1.length ≤ l.length := by
  unfold flat4
  split
  · simp
  · have := flF_len (l := l) (r := l) (i := 0) (acc := []); simpa using this
end Go.UM

namespace Go.UM
open Go.AM
set_option maxRecDepth 4000
theorem findR_none {rows : List Rw} {h : Int} (k : Nat) (hk : rows.length ≤ k) (hn : ∀ (j : Nat) (r : Rw), j < k → rows[j]? = some r → r.h ≠ h) : findR rows h = none := by
  unfold findR
  rw [List.find?_eq_none]
  intro r hr
  obtain ⟨j, hj, rfl⟩ := List.getElem_of_mem hr
  simpa using hn j _ (by omega) (List.getElem?_eq_getElem hj)
theorem findR_some {rows : List Rw} {h : Int} : ∀ {k : Nat} {x : Rw}, rows[k]? = some x → x.h = h → (∀ (j : Nat) (r : Rw), j < k → rows[j]? = some r → r.h ≠ h) → findR rows h = some x := by
  induction rows with
  | nil => intro k x hx; simp at hx
  | cons r rs ih =>
    intro k x hx e hn
    unfold findR
    rw [List.find?_cons]
    cases k with
    | zero =>
      simp at hx
      subst hx
      simp [e]
    | succ k =>
      have h0 : (r.h == h) = false := by simpa using hn 0 r (by omega) rfl
      rw [h0]
      exact ih (k := k) (by simpa using hx) e (fun j r' hj hr' => hn (j + 1) r' (by omega) (by simpa using hr'))
def findV (rows : List Rw) (h : Int) : AV := match findR rows h with
  | some r => .tup [.agg r.row, .bool true]
  | none => .tup [.agg zRw.row, .bool false]
def memP (R : Env) (k : In) (rows : List Rw) : IMem := [(0, .var (R.ty 48) [.isl 40 (slR rows)]), (1, .var (R.ty 44) k.row)]
theorem find360_c {R : Env} (h : N360 R) (k : In) (rows : List Rw) (hl : rows.length ≤ 1000) : R.Mc 360 [.loc 0 1 0 0, .loc 1 1 0 0] (memP R k rows) (findV rows k.mesh) (memP R k rows) 2 :=
  h.o360.enterM 200 2 rfl rfl rfl fun X bb hfit hp => by
    generalize hq : findV rows k.mesh = q
    unfold findV at hq
    refine sh ?_
    refine lPa 150 (fun j : Nat => j ≤ rows.length ∧ ∀ (i : Nat) (r : Rw), i < j → rows[i]? = some r → r.h ≠ k.mesh) (fun j => ⟨[(1, .loc 1 1 0 0), (2, .loc 2 1 0 0), (6, .isl 40 (slR rows)), (7, .int .i64 rows.length), (8, .int .i64 j)], [(2, .var (R.ty 45) zRw.row), (1, .var (R.ty 44) k.row), (0, .var (R.ty 48) [.isl 40 (slR rows)])], 3⟩) (fun j => rows.length - j) (0) ?_ ?_
    · exact ⟨by omega, fun i r hi => by omega⟩
    · rintro j ⟨h1, h2⟩
      dsimp only
      refine sh ?_
      refine cS (fun h3 => ?_) (fun h3 => ?_)
      · obtain ⟨x, hx⟩ : ∃ u_, rows[j]? = some u_ := ⟨_, List.getElem?_eq_getElem (by first | omega | (simp <;> omega))⟩
        refine sh ?_
        refine eget_map hx ?_
        refine sh ?_
        refine cS (fun h4 => ?_) (fun h4 => ?_)
        · rw [findR_some hx h4 h2] at hq
          subst hq
          refine sh ?_
          exact rM [0, 1]
        · refine sh ?_
          refine nXa (j + 1) ?_ ?_
          · refine ⟨by omega, fun i r hi hr => ?_⟩
            by_cases e : i = j
            · subst e
              rw [hx] at hr
              cases hr
              exact h4
            · exact h2 i r (by omega) hr
          · omega
      · rw [findR_none j (by omega) h2] at hq
        subst hq
        refine sh ?_
        exact rM [0, 1]
theorem perr_take {a : Af} : ∀ {l : List T3} {k : Nat} {v : T3}, l[k]? = some v → (∀ (j : Nat) (u : T3), j < k → l[j]? = some u → (place4 a u).2 = 0) → perr a l = if (place4 a v).2 ≠ 0 then (place4 a v).2 else perr a (l.drop (k + 1)) := by
  intro l
  induction l with
  | nil => intro k v h; simp at h
  | cons u r ih =>
    intro k v h hn
    cases k with
    | zero => simp at h; subst h; rfl
    | succ k =>
      have h0 := hn 0 u (by omega) rfl
      rw [perr, if_neg (by simpa using h0)]
      exact ih (by simpa using h) (fun j w hj hw => hn (j + 1) w (by omega) (by simpa using hw))
theorem perr_zero {a : Af} {l : List T3} (h : ∀ (j : Nat) (u : T3), l[j]? = some u → (place4 a u).2 = 0) : perr a l = 0 := by
  induction l with
  | nil => rfl
  | cons u r ih =>
    rw [perr, if_neg (by simpa using h 0 u rfl)]
    exact ih fun j w hw => h (j + 1) w (by simpa using hw)
def putP (a : Af) (l : List T3) (k : Nat) : List T3 := (l.take k).map (fun v => (place4 a v).1) ++ List.replicate (l.length - k) z3
theorem putP_len {a : Af} {l : List T3} {k : Nat} (hk : k ≤ l.length) : (putP a l k).length = l.length := by simp [putP]; omega
@[simp] theorem putP_len' (a : Af) (l : List T3) : (putP a l l.length).length = l.length := by simp [putP]
theorem putP_set {a : Af} {l : List T3} {k : Nat} {v : T3} (h : l[k]? = some v) : putP a l (k + 1) = (putP a l k).set k (place4 a v).1 := by
  have hlt := (List.getElem?_eq_some_iff.1 h).1
  unfold putP
  rw [take_succ_get h, show l.length - k = (l.length - (k + 1)) + 1 by omega, List.replicate_succ, List.set_append_right _ _ (by simp; omega)]
  simp [Nat.min_eq_left (Nat.le_of_lt hlt)]
theorem putP_at {a : Af} {l : List T3} {i : Nat} (hi : i < l.length) : (putP a l l.length)[i]? = some (place4 a (l.getD i z3)).1 := by
  unfold putP
  rw [List.take_length, List.getElem?_append_left (by simpa using hi), List.getElem?_map, List.getD_eq_getElem?_getD, List.getElem?_eq_getElem hi]
  rfl
theorem slc3_set (l : List T3) (n : Nat) (x : T3) : (slc3 l).set n (t3 x) = slc3 (l.set n x) := by simp [slc3, List.map_set]
theorem gplaces_c {R : Env} (h : N352 R) (k : In) (hk : k.t.I) (rows : List Rw) (hl : rows.length ≤ 1000) : R.Pc 352 [.agg k.row, .isl 40 (slR rows)] (.tup [.isl 3 (slc3 (places4 k rows).1), .int .i64 (places4 k rows).2]) :=
  h.o352.enter 300 rfl fun X bb hfit hp => by
    generalize hq : places4 k rows = q
    unfold places4 at hq
    have c0 := find360_c h.n360 k rows hl
    unfold findV at c0
    cases hf : findR rows k.mesh with
    | none =>
      rw [hf] at c0 hq
      simp only at c0 hq
      refine sh ?_
      refine cM false [1, 0] (c0) ?_
      repeat ((intro _u; clear _u); first | refine eK ?_ | refine eP ?_)
      subst hq
      refine sh ?_
      exact rT
    | some r =>
      rw [hf] at c0 hq
      simp only at c0 hq
      refine sh ?_
      refine cM false [1, 0] (c0) ?_
      repeat ((intro _u; clear _u); first | refine eK ?_ | refine eP ?_)
      refine sh ?_
      refine cS (fun h1 => ?_) (fun h1 => ?_)
      · rw [if_pos h1] at hq
        subst hq
        refine sh ?_
        exact rT
      · rw [if_neg (by simpa using h1)] at hq
        refine sh ?_
        refine ICall.pure h.n193.o193.hb (mcheck_c h.n193 r.a.m) rfl ?_
        refine sh ?_
        refine cS (fun h2 => ?_) (fun h2 => ?_)
        · rw [if_pos h2] at hq
          subst hq
          refine sh ?_
          exact rT
        · rw [if_neg (by simpa using h2)] at hq
          have hm := mchk_may h2
          have hv := hm.v
          refine sh ?_
          refine amk_n r.a.m.v.length rfl rfl (by omega) ?_
          refine sh ?_
          refine ILoop.inv 200 (fun n : Nat => n ≤ r.a.m.v.length ∧ ∀ (j : Nat) (u : T3), j < n → r.a.m.v[j]? = some u → (place4 k.t u).2 = 0) (fun n => ⟨[(2, .loc 0 1 0 0), (9, .loc 3 1 0 0), (11, .osl 4 r.a.m.v.length), (46, .isl 3 (slc3 r.a.m.v)), (47, .int .i64 r.a.m.v.length), (48, .int .i64 n)], [(4, .arr (R.ty 26) 3 (slc3 (putP k.t r.a.m.v n))), (3, .var (R.ty 25) r.a.m.row), (0, .var (R.ty 44) k.row)], 5⟩) (fun n => r.a.m.v.length - n) (0) ?_ ⟨⟨_, hp, rfl⟩, ?_, ?_⟩ ?_
          · exact ⟨by omega, fun j u hj => by omega⟩
          · all_goals repeat' (first | exact True.intro | refine And.intro ?_ ?_ | (intro _u; clear _u) | (with_reducible first | refine eM ?_ ?_ | refine eF ?_ ?_ ?_ | refine eN ?_ | refine eL ?_ ?_ ?_ | refine eA ?_ ?_ | refine IWk.mk ⟨_, hp, rfl⟩ ?_ ?_) | refine IWk.mk ⟨_, hp, rfl⟩ ?_ ?_)
            all_goals first | with_reducible rfl | omega | exact Or.inl (by decide) | (simp; done) | rfl | skip
          · all_goals repeat' (first | exact True.intro | refine And.intro ?_ ?_ | (intro _u; clear _u) | (with_reducible first | refine eM ?_ ?_ | refine eF ?_ ?_ ?_ | refine eN ?_ | refine eL ?_ ?_ ?_ | refine eA ?_ ?_ | refine IWk.mk ⟨_, hp, rfl⟩ ?_ ?_) | refine IWk.mk ⟨_, hp, rfl⟩ ?_ ?_)
            all_goals first | with_reducible rfl | omega | exact Or.inl (by decide) | (simp; done) | rfl | skip
            simp [putP, slc3, t3, z3]
          · rintro n ⟨h3, h4⟩
            dsimp only at h3 h4 ⊢
            refine sh ?_
            refine cS (fun h5 => ?_) (fun h5 => ?_)
            · obtain ⟨v, hv_⟩ : ∃ u_, r.a.m.v[n]? = some u_ := ⟨_, List.getElem?_eq_getElem (by omega)⟩
              refine sh ?_
              refine eget_map hv_ ?_
              have hb := hm.pv v (List.mem_of_getElem? hv_)
              refine sh ?_
              refine ICall.pure h.n241.o241.hb (place4_c h.n241 hk (p := v) ⟨by rw [i64_iff]; omega, by rw [i64_iff]; omega, by rw [i64_iff]; omega⟩) rfl ?_
              refine sh ?_
              refine cS (fun h6 => ?_) (fun h6 => ?_)
              · have e := perr_take hv_ h4
                rw [if_pos h6] at e
                rw [e, if_pos h6] at hq
                subst hq
                refine sh ?_
                exact rT
              · have hpl := putP_len (a := k.t) h3
                obtain ⟨u0, hu0⟩ : ∃ u0, (putP k.t r.a.m.v n)[n]? = some u0 := ⟨_, List.getElem?_eq_getElem (by omega)⟩
                refine sh ?_
                refine aelt_map ((slc3_length _).trans hpl) hu0 ?_
                refine sh ?_
                refine nX (n + 1) ?_ ?_ ⟨_, hp, rfl⟩ ?_ ?_
                · refine ⟨by omega, fun j u hj hu => ?_⟩
                  by_cases e : j = n
                  · subst e
                    rw [hv_] at hu
                    cases hu
                    exact h6
                  · exact h4 j u (by omega) hu
                · omega
                · all_goals repeat' (first | exact True.intro | refine And.intro ?_ ?_ | (intro _u; clear _u) | (with_reducible first | refine eM ?_ ?_ | refine eF ?_ ?_ ?_ | refine eN ?_ | refine eL ?_ ?_ ?_ | refine eA ?_ ?_ | refine IWk.mk ⟨_, hp, rfl⟩ ?_ ?_) | refine IWk.mk ⟨_, hp, rfl⟩ ?_ ?_)
                  all_goals first | with_reducible rfl | omega | exact Or.inl (by decide) | (simp; done) | rfl | skip
                · all_goals repeat' (first | exact True.intro | refine And.intro ?_ ?_ | (intro _u; clear _u) | (with_reducible first | refine eM ?_ ?_ | refine eF ?_ ?_ ?_ | refine eN ?_ | refine eL ?_ ?_ ?_ | refine eA ?_ ?_ | refine IWk.mk ⟨_, hp, rfl⟩ ?_ ?_) | refine IWk.mk ⟨_, hp, rfl⟩ ?_ ?_)
                  all_goals first | with_reducible rfl | omega | exact Or.inl (by decide) | (simp; done) | rfl | skip
                  · rw [putP_set hv_, ← slc3_set]; rfl
                  · exact .inr (NmL_set (slc3_NmL _) rfl)
            · have hn : n = r.a.m.v.length := by omega
              subst hn
              have hz : perr k.t r.a.m.v = 0 := perr_zero fun j u hu => h4 j u (List.getElem?_eq_some_iff.1 hu).1 hu
              rw [if_neg (by simpa using hz)] at hq
              subst hq
              have ht := hm.t
              refine sh ?_
              refine lPa 100 (fun i : Nat => i ≤ r.a.m.t.length) (fun i => ⟨[(11, .osl 4 r.a.m.v.length), (16, .osl 5 ((r.a.m.t.take i).flatMap (tri4 k.t r.a.m)).length), (69, .isl 3 (slc3 r.a.m.t)), (70, .int .i64 r.a.m.t.length), (71, .int .i64 i)], [(5, .arr (R.ty 26) 3 (slc3 ((r.a.m.t.take i).flatMap (tri4 k.t r.a.m)))), (4, .arr (R.ty 26) 3 (slc3 (putP k.t r.a.m.v r.a.m.v.length)))], 6⟩) (fun i => r.a.m.t.length - i) (0) ?_ ?_
              · omega
              · intro i h7
                dsimp only
                refine sh ?_
                refine cS (fun h8 => ?_) (fun h8 => ?_)
                · obtain ⟨t, ht_⟩ : ∃ u_, r.a.m.t[i]? = some u_ := ⟨_, List.getElem?_eq_getElem (by omega)⟩
                  refine sh ?_
                  refine eget_map ht_ ?_
                  have hb := hm.pt t (List.mem_of_getElem? ht_)
                  have htl := tri4_len k.t r.a.m (r.a.m.t.take i)
                  rw [List.length_take] at htl
                  refine sh ?_
                  refine aelt_map (by simp) (putP_at (i := t.a.toNat) (by omega)) ?_
                  refine sh ?_
                  refine aelt_map (by simp) (putP_at (i := t.b.toNat) (by omega)) ?_
                  refine sh ?_
                  refine aelt_map (by simp) (putP_at (i := t.c.toNat) (by omega)) ?_
                  refine sh ?_
                  refine ⟨by simp only [slc3_length, List.length_cons, List.length_nil]; omega, ?_⟩
                  refine sh ?_
                  refine nX (i + 1) ?_ ?_ ⟨_, hp, rfl⟩ ?_ ?_
                  · omega
                  · omega
                  · all_goals repeat' (first | exact True.intro | refine And.intro ?_ ?_ | (intro _u; clear _u) | (with_reducible first | refine eM ?_ ?_ | refine eF ?_ ?_ ?_ | refine eN ?_ | refine eL ?_ ?_ ?_ | refine eA ?_ ?_ | refine IWk.mk ⟨_, hp, rfl⟩ ?_ ?_) | refine IWk.mk ⟨_, hp, rfl⟩ ?_ ?_)
                    all_goals first | with_reducible rfl | omega | exact Or.inl (by decide) | (simp; done) | rfl | skip
                    rw [tri4_len, List.length_append, slc3_length, htl, List.length_take]
                    simp only [List.length_cons, List.length_nil]
                    omega
                  · all_goals repeat' (first | exact True.intro | refine And.intro ?_ ?_ | (intro _u; clear _u) | (with_reducible first | refine eM ?_ ?_ | refine eF ?_ ?_ ?_ | refine eN ?_ | refine eL ?_ ?_ ?_ | refine eA ?_ ?_ | refine IWk.mk ⟨_, hp, rfl⟩ ?_ ?_) | refine IWk.mk ⟨_, hp, rfl⟩ ?_ ?_)
                    all_goals first | with_reducible rfl | omega | exact Or.inl (by decide) | (simp; done) | rfl | skip
                    rw [take_succ_get ht_, List.flatMap_append, slc3_append]
                    simp [slc3, tri4, pt4, t3]
                · rw [show i = r.a.m.t.length by omega, List.take_length]
                  refine sh ?_
                  exact rT
theorem places4_len (k : In) (rows : List Rw) : (places4 k rows).1.length ≤ 192 := by
  unfold places4
  split
  · simp
  · split
    · simp
    · split
      · simp
      · rename_i h2
        split
        · simp
        · have := (mchk_may (Classical.not_not.1 h2)).t
          simp only [tri4_len]; omega
theorem gbox_c {R : Env} (h : N341 R) (l : List Gr) (hl : l.length ≤ 900) (hi : ∀ g ∈ l, g.t.I) (rows : List Rw) (hr : rows.length ≤ 1000) :
    R.Pc 341 [.isl 16 (slG l), .isl 40 (slR rows)] (.tup [.agg (t3 (box4 l rows).1.1), .agg (t3 (box4 l rows).1.2), .int .i64 (box4 l rows).2]) :=
  h.o341.enter 300 rfl fun X bb hfit hp => by
    generalize hq : box4 l rows = q
    unfold box4 at hq
    refine sh ?_
    refine ICall.pure h.n327.o327.hb (gflatten_c h.n327 l hl hi) rfl ?_
    refine sh ?_
    refine cS (fun h1 => ?_) (fun h1 => ?_)
    · rw [if_pos h1] at hq
      subst hq
      refine sh ?_
      exact rT
    · rw [if_neg (by simpa using h1)] at hq
      have hfl := flat_len l
      have hfi := flat_I hi
      generalize (flat4 l).1 = A at *
      refine sh ?_
      refine lPa 200 (fun s : Nat × List T3 => (s.1 ≤ A.length ∧ s.2.length ≤ 192 * s.1) ∧ boxF rows (A.drop s.1) s.2 = q) (fun s => ⟨[(1, .isl 40 (slR rows)), (4, .loc 0 1 0 0), (5, .loc 1 1 0 0), (8, .osl 2 s.2.length), (23, .isl 16 (sIn A)), (24, .int .i64 A.length), (25, .int .i64 s.1)], [(2, .arr (R.ty 26) 3 (slc3 s.2)), (1, .var (R.ty 26) (t3 z3)), (0, .var (R.ty 26) (t3 z3))], 3⟩) (fun s => A.length - s.1) ((0, [])) ?_ ?_
      · exact ⟨⟨by omega, by simp⟩, by simpa using hq⟩
      · rintro ⟨k, acc⟩ ⟨h2, h3⟩
        dsimp only at h2 h3 ⊢
        refine sh ?_
        refine cS (fun h4 => ?_) (fun h4 => ?_)
        · obtain ⟨x, hx⟩ : ∃ u_, A[k]? = some u_ := ⟨_, List.getElem?_eq_getElem (by first | omega | (simp <;> omega))⟩
          refine sh ?_
          refine eget_map hx ?_
          rw [drop_at hx, boxF] at h3
          refine sh ?_
          refine ICall.pure h.n352.o352.hb (gplaces_c h.n352 x (hfi x (List.mem_of_getElem? hx)) rows hr) rfl ?_
          refine sh ?_
          refine cS (fun h5 => ?_) (fun h5 => ?_)
          · rw [if_pos h5] at h3
            subst h3
            refine sh ?_
            exact rT
          · rw [if_neg (by simpa using h5)] at h3
            have hpl := places4_len x rows
            refine sh ?_
            refine nXa ((k + 1, acc ++ (places4 x rows).1)) ?_ ?_
            · exact ⟨by simp; omega, h3⟩
            · dsimp only; omega
        · rw [List.drop_of_length_le (by omega), boxF] at h3
          subst h3
          refine sh ?_
          refine cM true [] ((tbox_c h.n353 acc (by omega)).mc h.n353.o353.hb) ?_
          repeat ((intro _u; clear _u); first | refine eK ?_ | refine eP ?_)
          refine sh ?_
          exact rT
end Go.UM
