/- Of the reckoning machine, and what is proved with it: texts joined by program. -/
import Derived.Test.YtefnfebodlkldaaU1
import Derived.Test.YtefnfebodlkldaaK2
import Derived.Test.YtefnfebodlkldaaU0
set_option linter.all false

/- The statements of chapter 13. -/


namespace Go.UM
open Go.AM
set_option maxRecDepth 4000

def W13 : Ms := ⟨[⟨0, 0, 0⟩, ⟨5, 0, 0⟩, ⟨0, 7, 0⟩], [(0, 0), (0, 0), (0, 0)], [⟨0, 1, 2⟩]⟩
theorem W13_len : (menc W13).1.length = 35 := by decide +kernel
theorem W13_e : (menc W13).2 = 0 := by decide +kernel
theorem W13_bx : bx W13 = (z3, ⟨5, 7, 0⟩, 0) := by
  have : mchk W13 = 0 := by decide +kernel
  rw [bx, if_neg (by omega)]; rfl
theorem works13_c {R : Env} (h : N194 R) : R.Pc 194 [] (.bool true) :=
  h.o194.enter 100 rfl fun X bb hfit hp => by
    repeat ((intro _u; clear _u); first | with_reducible first | refine cT ?_ | refine cF ?_ | refine cA ?_ | refine cB ?_ | refine aLn ?_ | refine cK ?_ | refine aS8 ?_ | refine wI ?_ | refine nD ?_ | refine aX rfl ?_ | refine vL rfl ?_)
    intro _u; clear _u
    refine ICall.let [0, 1, 2] rfl hp rfl ?_
    repeat ((intro _u; clear _u); first | refine eZ ?_ | refine FrzC.drop ?_)
    repeat ((intro _u; clear _u); first | with_reducible first | refine cT ?_ | refine cF ?_ | refine cA ?_ | refine cB ?_ | refine aLn ?_ | refine cK ?_ | refine aS8 ?_ | refine wI ?_ | refine nD ?_ | refine aX rfl ?_ | refine vL rfl ?_)
    intro _u; clear _u
    refine ICall.pure h.n196.o196.hb (mencode_c h.n196 W13) rfl ?_
    have c2 := box_c h.n192 W13
    rw [W13_bx] at c2
    repeat ((intro _u; clear _u); first | with_reducible first | refine cT ?_ | refine cF ?_ | refine cA ?_ | refine cB ?_ | refine aLn ?_ | refine cK ?_ | refine aS8 ?_ | refine wI ?_ | refine nD ?_ | refine aX rfl ?_ | refine vL rfl ?_)
    intro _u; clear _u
    refine ICall.pure h.n192.o192.hb c2 rfl ?_
    repeat ((intro _u; clear _u); first | with_reducible first | refine cT ?_ | refine cF ?_ | refine cA ?_ | refine cB ?_ | refine aLn ?_ | refine cK ?_ | refine aS8 ?_ | refine wI ?_ | refine nD ?_ | refine aX rfl ?_ | refine vL rfl ?_)
    intro _u; clear _u
    refine acnd_t (by simp [W13_e]) ?_
    repeat ((intro _u; clear _u); first | with_reducible first | refine cT ?_ | refine cF ?_ | refine cA ?_ | refine cB ?_ | refine aLn ?_ | refine cK ?_ | refine aS8 ?_ | refine wI ?_ | refine nD ?_ | refine aX rfl ?_ | refine vL rfl ?_)
    intro _u; clear _u
    refine acnd_t (by simp [W13_len]) ?_
    repeat ((intro _u; clear _u); first | with_reducible first | refine cT ?_ | refine cF ?_ | refine cA ?_ | refine cB ?_ | refine aLn ?_ | refine cK ?_ | refine aS8 ?_ | refine wI ?_ | refine nD ?_ | refine aX rfl ?_ | refine vL rfl ?_)
    intro _u; clear _u
    refine acnd_t (by decide) ?_
    repeat ((intro _u; clear _u); first | with_reducible first | refine cT ?_ | refine cF ?_ | refine cA ?_ | refine cB ?_ | refine aLn ?_ | refine cK ?_ | refine aS8 ?_ | refine wI ?_ | refine nD ?_ | refine aX rfl ?_ | refine vL rfl ?_)
    intro _u; clear _u
    exact rT

theorem mencodes_law {R : Env} (h : N195 R) (m : Ms) : R.Pc 195 [.agg m.row] (.bool true) :=
  h.o195.enter 100 rfl fun X bb hfit hp => by
    repeat ((intro _u; clear _u); first | with_reducible first | refine cT ?_ | refine cF ?_ | refine cA ?_ | refine cB ?_ | refine aLn ?_ | refine cK ?_ | refine aS8 ?_ | refine wI ?_ | refine nD ?_ | refine aX rfl ?_ | refine vL rfl ?_)
    intro _u; clear _u
    refine ICall.pure h.n191.o191.hb (few13_c h.n191 m) rfl ?_
    generalize m.few = m
    repeat ((intro _u; clear _u); first | with_reducible first | refine cT ?_ | refine cF ?_ | refine cA ?_ | refine cB ?_ | refine aLn ?_ | refine cK ?_ | refine aS8 ?_ | refine wI ?_ | refine nD ?_ | refine aX rfl ?_ | refine vL rfl ?_)
    intro _u; clear _u
    refine ICall.pure h.n196.o196.hb (mencode_c h.n196 m) rfl ?_
    repeat ((intro _u; clear _u); first | with_reducible first | refine cT ?_ | refine cF ?_ | refine cA ?_ | refine cB ?_ | refine aLn ?_ | refine cK ?_ | refine aS8 ?_ | refine wI ?_ | refine nD ?_ | refine aX rfl ?_ | refine vL rfl ?_)
    intro _u; clear _u
    refine ICall.pure h.n197.o197.hb (rmencode_c h.n197 m) rfl ?_
    repeat ((intro _u; clear _u); first | with_reducible first | refine cT ?_ | refine cF ?_ | refine cA ?_ | refine cB ?_ | refine aLn ?_ | refine cK ?_ | refine aS8 ?_ | refine wI ?_ | refine nD ?_ | refine aX rfl ?_ | refine vL rfl ?_)
    intro _u; clear _u
    refine ICall.pure h.n193.o193.hb (mcheck_c h.n193 m) rfl ?_
    repeat ((intro _u; clear _u); first | with_reducible first | refine cT ?_ | refine cF ?_ | refine cA ?_ | refine cB ?_ | refine aLn ?_ | refine cK ?_ | refine aS8 ?_ | refine wI ?_ | refine nD ?_ | refine aX rfl ?_ | refine vL rfl ?_)
    intro _u; clear _u
    refine ICall.pure h.n198.o198.hb (rcheck13_c h.n198 m) rfl ?_
    repeat ((intro _u; clear _u); first | with_reducible first | refine cT ?_ | refine cF ?_ | refine cA ?_ | refine cB ?_ | refine aLn ?_ | refine cK ?_ | refine aS8 ?_ | refine wI ?_ | refine nD ?_ | refine aX rfl ?_ | refine vL rfl ?_)
    intro _u; clear _u
    refine acnd_t (by simp) ?_
    repeat ((intro _u; clear _u); first | with_reducible first | refine cT ?_ | refine cF ?_ | refine cA ?_ | refine cB ?_ | refine aLn ?_ | refine cK ?_ | refine aS8 ?_ | refine wI ?_ | refine nD ?_ | refine aX rfl ?_ | refine vL rfl ?_)
    intro _u; clear _u
    refine ICall.pure h.n47.o47.hb (eq8_c h.n47 (menc m).1 (menc m).1) rfl ?_
    repeat ((intro _u; clear _u); first | with_reducible first | refine cT ?_ | refine cF ?_ | refine cA ?_ | refine cB ?_ | refine aLn ?_ | refine cK ?_ | refine aS8 ?_ | refine wI ?_ | refine nD ?_ | refine aX rfl ?_ | refine vL rfl ?_)
    intro _u; clear _u
    refine acnd_t (by simp) ?_
    repeat ((intro _u; clear _u); first | with_reducible first | refine cT ?_ | refine cF ?_ | refine cA ?_ | refine cB ?_ | refine aLn ?_ | refine cK ?_ | refine aS8 ?_ | refine wI ?_ | refine nD ?_ | refine aX rfl ?_ | refine vL rfl ?_)
    intro _u; clear _u
    refine acnd_t (by simp) ?_
    repeat ((intro _u; clear _u); first | with_reducible first | refine cT ?_ | refine cF ?_ | refine cA ?_ | refine cB ?_ | refine aLn ?_ | refine cK ?_ | refine aS8 ?_ | refine wI ?_ | refine nD ?_ | refine aX rfl ?_ | refine vL rfl ?_)
    intro _u; clear _u
    refine ICall.pure h.n194.o194.hb (works13_c h.n194) rfl ?_
    repeat ((intro _u; clear _u); first | with_reducible first | refine cT ?_ | refine cF ?_ | refine cA ?_ | refine cB ?_ | refine aLn ?_ | refine cK ?_ | refine aS8 ?_ | refine wI ?_ | refine nD ?_ | refine aX rfl ?_ | refine vL rfl ?_)
    intro _u; clear _u
    exact rT

theorem mcorners_law {R : Env} (h : N199 R) (m : Ms) (k : Int) : R.Pc 199 [.agg m.row, .int .i64 k] (.bool true) :=
  h.o199.enter 100 rfl fun X bb hfit hp => by
    repeat ((intro _u; clear _u); first | with_reducible first | refine cT ?_ | refine cF ?_ | refine cA ?_ | refine cB ?_ | refine aLn ?_ | refine cK ?_ | refine aS8 ?_ | refine wI ?_ | refine nD ?_ | refine aX rfl ?_ | refine vL rfl ?_)
    intro _u; clear _u
    refine ICall.pure h.n191.o191.hb (few13_c h.n191 m) rfl ?_
    generalize m.few = m
    have c1 := corners_c h.n200 m k
    by_cases hc : mchk m = 0
    · rw [corn, if_neg (by omega)] at c1
      have may := mchk_may hc
      have mu := may.uv
      by_cases hk : k < 0 ∨ (m.t.length : Int) ≤ k
      · rw [if_pos hk] at c1
        repeat ((intro _u; clear _u); first | with_reducible first | refine cT ?_ | refine cF ?_ | refine cA ?_ | refine cB ?_ | refine aLn ?_ | refine cK ?_ | refine aS8 ?_ | refine wI ?_ | refine nD ?_ | refine aX rfl ?_ | refine vL rfl ?_)
        intro _u; clear _u
        refine ICall.pure h.n200.o200.hb c1 rfl ?_
        repeat ((intro _u; clear _u); first | with_reducible first | refine cT ?_ | refine cF ?_ | refine cA ?_ | refine cB ?_ | refine aLn ?_ | refine cK ?_ | refine aS8 ?_ | refine wI ?_ | refine nD ?_ | refine aX rfl ?_ | refine vL rfl ?_)
        intro _u; clear _u
        refine ICall.pure h.n198.o198.hb (rcheck13_c h.n198 m) rfl ?_
        repeat ((intro _u; clear _u); first | with_reducible first | refine cT ?_ | refine cF ?_ | refine cA ?_ | refine cB ?_ | refine aLn ?_ | refine cK ?_ | refine aS8 ?_ | refine wI ?_ | refine nD ?_ | refine aX rfl ?_ | refine vL rfl ?_)
        intro _u; clear _u
        refine acnd_f (by simpa using hc) ?_
        repeat ((intro _u; clear _u); first | with_reducible first | refine cT ?_ | refine cF ?_ | refine cA ?_ | refine cB ?_ | refine aLn ?_ | refine cK ?_ | refine aS8 ?_ | refine wI ?_ | refine nD ?_ | refine aX rfl ?_ | refine vL rfl ?_)
        intro _u; clear _u
        refine cS (fun h1 => ?_) (fun h1 => ?_)
        · repeat ((intro _u; clear _u); first | with_reducible first | refine cT ?_ | refine cF ?_ | refine cA ?_ | refine cB ?_ | refine aLn ?_ | refine cK ?_ | refine aS8 ?_ | refine wI ?_ | refine nD ?_ | refine aX rfl ?_ | refine vL rfl ?_)
          intro _u; clear _u
          refine acnd_t (by decide) ?_
          repeat ((intro _u; clear _u); first | with_reducible first | refine cT ?_ | refine cF ?_ | refine cA ?_ | refine cB ?_ | refine aLn ?_ | refine cK ?_ | refine aS8 ?_ | refine wI ?_ | refine nD ?_ | refine aX rfl ?_ | refine vL rfl ?_)
          intro _u; clear _u
          refine acnd_t (by decide) ?_
          repeat ((intro _u; clear _u); first | with_reducible first | refine cT ?_ | refine cF ?_ | refine cA ?_ | refine cB ?_ | refine aLn ?_ | refine cK ?_ | refine aS8 ?_ | refine wI ?_ | refine nD ?_ | refine aX rfl ?_ | refine vL rfl ?_)
          intro _u; clear _u
          refine ICall.pure h.n194.o194.hb (works13_c h.n194) rfl ?_
          repeat ((intro _u; clear _u); first | with_reducible first | refine cT ?_ | refine cF ?_ | refine cA ?_ | refine cB ?_ | refine aLn ?_ | refine cK ?_ | refine aS8 ?_ | refine wI ?_ | refine nD ?_ | refine aX rfl ?_ | refine vL rfl ?_)
          intro _u; clear _u
          exact rT
        · repeat ((intro _u; clear _u); first | with_reducible first | refine cT ?_ | refine cF ?_ | refine cA ?_ | refine cB ?_ | refine aLn ?_ | refine cK ?_ | refine aS8 ?_ | refine wI ?_ | refine nD ?_ | refine aX rfl ?_ | refine vL rfl ?_)
          intro _u; clear _u
          refine acnd_t (by simp; omega) ?_
          repeat ((intro _u; clear _u); first | with_reducible first | refine cT ?_ | refine cF ?_ | refine cA ?_ | refine cB ?_ | refine aLn ?_ | refine cK ?_ | refine aS8 ?_ | refine wI ?_ | refine nD ?_ | refine aX rfl ?_ | refine vL rfl ?_)
          intro _u; clear _u
          refine acnd_t (by decide) ?_
          repeat ((intro _u; clear _u); first | with_reducible first | refine cT ?_ | refine cF ?_ | refine cA ?_ | refine cB ?_ | refine aLn ?_ | refine cK ?_ | refine aS8 ?_ | refine wI ?_ | refine nD ?_ | refine aX rfl ?_ | refine vL rfl ?_)
          intro _u; clear _u
          refine acnd_t (by decide) ?_
          repeat ((intro _u; clear _u); first | with_reducible first | refine cT ?_ | refine cF ?_ | refine cA ?_ | refine cB ?_ | refine aLn ?_ | refine cK ?_ | refine aS8 ?_ | refine wI ?_ | refine nD ?_ | refine aX rfl ?_ | refine vL rfl ?_)
          intro _u; clear _u
          refine ICall.pure h.n194.o194.hb (works13_c h.n194) rfl ?_
          repeat ((intro _u; clear _u); first | with_reducible first | refine cT ?_ | refine cF ?_ | refine cA ?_ | refine cB ?_ | refine aLn ?_ | refine cK ?_ | refine aS8 ?_ | refine wI ?_ | refine nD ?_ | refine aX rfl ?_ | refine vL rfl ?_)
          intro _u; clear _u
          exact rT
      · rw [if_neg hk] at c1
        obtain ⟨t, ht⟩ : ∃ u, m.t[k.toNat]? = some u := ⟨_, List.getElem?_eq_getElem (by omega)⟩
        have hg : m.t.getD k.toNat z3 = t := by rw [List.getD_eq_getElem?_getD, ht]; rfl
        rw [hg] at c1
        have hpt := may.pt t (List.mem_of_getElem? ht)
        repeat ((intro _u; clear _u); first | with_reducible first | refine cT ?_ | refine cF ?_ | refine cA ?_ | refine cB ?_ | refine aLn ?_ | refine cK ?_ | refine aS8 ?_ | refine wI ?_ | refine nD ?_ | refine aX rfl ?_ | refine vL rfl ?_)
        intro _u; clear _u
        refine ICall.pure h.n200.o200.hb c1 rfl ?_
        repeat ((intro _u; clear _u); first | with_reducible first | refine cT ?_ | refine cF ?_ | refine cA ?_ | refine cB ?_ | refine aLn ?_ | refine cK ?_ | refine aS8 ?_ | refine wI ?_ | refine nD ?_ | refine aX rfl ?_ | refine vL rfl ?_)
        intro _u; clear _u
        refine ICall.pure h.n198.o198.hb (rcheck13_c h.n198 m) rfl ?_
        repeat ((intro _u; clear _u); first | with_reducible first | refine cT ?_ | refine cF ?_ | refine cA ?_ | refine cB ?_ | refine aLn ?_ | refine cK ?_ | refine aS8 ?_ | refine wI ?_ | refine nD ?_ | refine aX rfl ?_ | refine vL rfl ?_)
        intro _u; clear _u
        refine acnd_f (by simpa using hc) ?_
        repeat ((intro _u; clear _u); first | with_reducible first | refine cT ?_ | refine cF ?_ | refine cA ?_ | refine cB ?_ | refine aLn ?_ | refine cK ?_ | refine aS8 ?_ | refine wI ?_ | refine nD ?_ | refine aX rfl ?_ | refine vL rfl ?_)
        intro _u; clear _u
        refine acnd_f (by simp; omega) ?_
        repeat ((intro _u; clear _u); first | with_reducible first | refine cT ?_ | refine cF ?_ | refine cA ?_ | refine cB ?_ | refine aLn ?_ | refine cK ?_ | refine aS8 ?_ | refine wI ?_ | refine nD ?_ | refine aX rfl ?_ | refine vL rfl ?_)
        intro _u; clear _u
        refine acnd_f (by simp; omega) ?_
        repeat ((intro _u; clear _u); first | with_reducible first | refine cT ?_ | refine cF ?_ | refine cA ?_ | refine cB ?_ | refine aLn ?_ | refine cK ?_ | refine aS8 ?_ | refine wI ?_ | refine nD ?_ | refine aX rfl ?_ | refine vL rfl ?_)
        intro _u; clear _u
        refine eget_map ht ?_
        repeat ((intro _u; clear _u); first | with_reducible first | refine cT ?_ | refine cF ?_ | refine cA ?_ | refine cB ?_ | refine aLn ?_ | refine cK ?_ | refine aS8 ?_ | refine wI ?_ | refine nD ?_ | refine aX rfl ?_ | refine vL rfl ?_)
        intro _u; clear _u
        refine ILoop.one 100 ?_
        repeat ((intro _u; clear _u); first | with_reducible first | refine cT ?_ | refine cF ?_ | refine cA ?_ | refine cB ?_ | refine aLn ?_ | refine cK ?_ | refine aS8 ?_ | refine wI ?_ | refine nD ?_ | refine aX rfl ?_ | refine vL rfl ?_)
        intro _u; clear _u
        refine acnd_t (by decide) ?_
        repeat ((intro _u; clear _u); first | with_reducible first | refine cT ?_ | refine cF ?_ | refine cA ?_ | refine cB ?_ | refine aLn ?_ | refine cK ?_ | refine aS8 ?_ | refine wI ?_ | refine nD ?_ | refine aX rfl ?_ | refine vL rfl ?_)
        intro _u; clear _u
        refine eget_map (may.get (i := t.a) (by omega)) ?_
        repeat ((intro _u; clear _u); first | with_reducible first | refine cT ?_ | refine cF ?_ | refine cA ?_ | refine cB ?_ | refine aLn ?_ | refine cK ?_ | refine aS8 ?_ | refine wI ?_ | refine nD ?_ | refine aX rfl ?_ | refine vL rfl ?_)
        intro _u; clear _u
        refine acnd_f (by simp) ?_
        repeat ((intro _u; clear _u); first | with_reducible first | refine cT ?_ | refine cF ?_ | refine cA ?_ | refine cB ?_ | refine aLn ?_ | refine cK ?_ | refine aS8 ?_ | refine wI ?_ | refine nD ?_ | refine aX rfl ?_ | refine vL rfl ?_)
        intro _u; clear _u
        refine eget_map (may.getu (i := t.a) (by omega)) ?_
        repeat ((intro _u; clear _u); first | with_reducible first | refine cT ?_ | refine cF ?_ | refine cA ?_ | refine cB ?_ | refine aLn ?_ | refine cK ?_ | refine aS8 ?_ | refine wI ?_ | refine nD ?_ | refine aX rfl ?_ | refine vL rfl ?_)
        intro _u; clear _u
        refine acnd_f (by simp) ?_
        repeat ((intro _u; clear _u); first | with_reducible first | refine cT ?_ | refine cF ?_ | refine cA ?_ | refine cB ?_ | refine aLn ?_ | refine cK ?_ | refine aS8 ?_ | refine wI ?_ | refine nD ?_ | refine aX rfl ?_ | refine vL rfl ?_)
        intro _u; clear _u
        refine ILoop.one 100 ?_
        repeat ((intro _u; clear _u); first | with_reducible first | refine cT ?_ | refine cF ?_ | refine cA ?_ | refine cB ?_ | refine aLn ?_ | refine cK ?_ | refine aS8 ?_ | refine wI ?_ | refine nD ?_ | refine aX rfl ?_ | refine vL rfl ?_)
        intro _u; clear _u
        refine acnd_t (by decide) ?_
        repeat ((intro _u; clear _u); first | with_reducible first | refine cT ?_ | refine cF ?_ | refine cA ?_ | refine cB ?_ | refine aLn ?_ | refine cK ?_ | refine aS8 ?_ | refine wI ?_ | refine nD ?_ | refine aX rfl ?_ | refine vL rfl ?_)
        intro _u; clear _u
        refine eget_map (may.get (i := t.b) (by omega)) ?_
        repeat ((intro _u; clear _u); first | with_reducible first | refine cT ?_ | refine cF ?_ | refine cA ?_ | refine cB ?_ | refine aLn ?_ | refine cK ?_ | refine aS8 ?_ | refine wI ?_ | refine nD ?_ | refine aX rfl ?_ | refine vL rfl ?_)
        intro _u; clear _u
        refine acnd_f (by simp) ?_
        repeat ((intro _u; clear _u); first | with_reducible first | refine cT ?_ | refine cF ?_ | refine cA ?_ | refine cB ?_ | refine aLn ?_ | refine cK ?_ | refine aS8 ?_ | refine wI ?_ | refine nD ?_ | refine aX rfl ?_ | refine vL rfl ?_)
        intro _u; clear _u
        refine eget_map (may.getu (i := t.b) (by omega)) ?_
        repeat ((intro _u; clear _u); first | with_reducible first | refine cT ?_ | refine cF ?_ | refine cA ?_ | refine cB ?_ | refine aLn ?_ | refine cK ?_ | refine aS8 ?_ | refine wI ?_ | refine nD ?_ | refine aX rfl ?_ | refine vL rfl ?_)
        intro _u; clear _u
        refine acnd_f (by simp) ?_
        repeat ((intro _u; clear _u); first | with_reducible first | refine cT ?_ | refine cF ?_ | refine cA ?_ | refine cB ?_ | refine aLn ?_ | refine cK ?_ | refine aS8 ?_ | refine wI ?_ | refine nD ?_ | refine aX rfl ?_ | refine vL rfl ?_)
        intro _u; clear _u
        refine ILoop.one 100 ?_
        repeat ((intro _u; clear _u); first | with_reducible first | refine cT ?_ | refine cF ?_ | refine cA ?_ | refine cB ?_ | refine aLn ?_ | refine cK ?_ | refine aS8 ?_ | refine wI ?_ | refine nD ?_ | refine aX rfl ?_ | refine vL rfl ?_)
        intro _u; clear _u
        refine acnd_t (by decide) ?_
        repeat ((intro _u; clear _u); first | with_reducible first | refine cT ?_ | refine cF ?_ | refine cA ?_ | refine cB ?_ | refine aLn ?_ | refine cK ?_ | refine aS8 ?_ | refine wI ?_ | refine nD ?_ | refine aX rfl ?_ | refine vL rfl ?_)
        intro _u; clear _u
        refine eget_map (may.get (i := t.c) (by omega)) ?_
        repeat ((intro _u; clear _u); first | with_reducible first | refine cT ?_ | refine cF ?_ | refine cA ?_ | refine cB ?_ | refine aLn ?_ | refine cK ?_ | refine aS8 ?_ | refine wI ?_ | refine nD ?_ | refine aX rfl ?_ | refine vL rfl ?_)
        intro _u; clear _u
        refine acnd_f (by simp) ?_
        repeat ((intro _u; clear _u); first | with_reducible first | refine cT ?_ | refine cF ?_ | refine cA ?_ | refine cB ?_ | refine aLn ?_ | refine cK ?_ | refine aS8 ?_ | refine wI ?_ | refine nD ?_ | refine aX rfl ?_ | refine vL rfl ?_)
        intro _u; clear _u
        refine eget_map (may.getu (i := t.c) (by omega)) ?_
        repeat ((intro _u; clear _u); first | with_reducible first | refine cT ?_ | refine cF ?_ | refine cA ?_ | refine cB ?_ | refine aLn ?_ | refine cK ?_ | refine aS8 ?_ | refine wI ?_ | refine nD ?_ | refine aX rfl ?_ | refine vL rfl ?_)
        intro _u; clear _u
        refine acnd_f (by simp) ?_
        repeat ((intro _u; clear _u); first | with_reducible first | refine cT ?_ | refine cF ?_ | refine cA ?_ | refine cB ?_ | refine aLn ?_ | refine cK ?_ | refine aS8 ?_ | refine wI ?_ | refine nD ?_ | refine aX rfl ?_ | refine vL rfl ?_)
        intro _u; clear _u
        refine ILoop.one 100 ?_
        repeat ((intro _u; clear _u); first | with_reducible first | refine cT ?_ | refine cF ?_ | refine cA ?_ | refine cB ?_ | refine aLn ?_ | refine cK ?_ | refine aS8 ?_ | refine wI ?_ | refine nD ?_ | refine aX rfl ?_ | refine vL rfl ?_)
        intro _u; clear _u
        refine acnd_f (by decide) ?_
        repeat ((intro _u; clear _u); first | with_reducible first | refine cT ?_ | refine cF ?_ | refine cA ?_ | refine cB ?_ | refine aLn ?_ | refine cK ?_ | refine aS8 ?_ | refine wI ?_ | refine nD ?_ | refine aX rfl ?_ | refine vL rfl ?_)
        intro _u; clear _u
        refine acnd_t (by rfl) ?_
        repeat ((intro _u; clear _u); first | with_reducible first | refine cT ?_ | refine cF ?_ | refine cA ?_ | refine cB ?_ | refine aLn ?_ | refine cK ?_ | refine aS8 ?_ | refine wI ?_ | refine nD ?_ | refine aX rfl ?_ | refine vL rfl ?_)
        intro _u; clear _u
        refine ICall.pure h.n194.o194.hb (works13_c h.n194) rfl ?_
        repeat ((intro _u; clear _u); first | with_reducible first | refine cT ?_ | refine cF ?_ | refine cA ?_ | refine cB ?_ | refine aLn ?_ | refine cK ?_ | refine aS8 ?_ | refine wI ?_ | refine nD ?_ | refine aX rfl ?_ | refine vL rfl ?_)
        intro _u; clear _u
        exact rT
    · rw [corn, if_pos hc] at c1
      repeat ((intro _u; clear _u); first | with_reducible first | refine cT ?_ | refine cF ?_ | refine cA ?_ | refine cB ?_ | refine aLn ?_ | refine cK ?_ | refine aS8 ?_ | refine wI ?_ | refine nD ?_ | refine aX rfl ?_ | refine vL rfl ?_)
      intro _u; clear _u
      refine ICall.pure h.n200.o200.hb c1 rfl ?_
      repeat ((intro _u; clear _u); first | with_reducible first | refine cT ?_ | refine cF ?_ | refine cA ?_ | refine cB ?_ | refine aLn ?_ | refine cK ?_ | refine aS8 ?_ | refine wI ?_ | refine nD ?_ | refine aX rfl ?_ | refine vL rfl ?_)
      intro _u; clear _u
      refine ICall.pure h.n198.o198.hb (rcheck13_c h.n198 m) rfl ?_
      repeat ((intro _u; clear _u); first | with_reducible first | refine cT ?_ | refine cF ?_ | refine cA ?_ | refine cB ?_ | refine aLn ?_ | refine cK ?_ | refine aS8 ?_ | refine wI ?_ | refine nD ?_ | refine aX rfl ?_ | refine vL rfl ?_)
      intro _u; clear _u
      refine acnd_t (by simpa using hc) ?_
      repeat ((intro _u; clear _u); first | with_reducible first | refine cT ?_ | refine cF ?_ | refine cA ?_ | refine cB ?_ | refine aLn ?_ | refine cK ?_ | refine aS8 ?_ | refine wI ?_ | refine nD ?_ | refine aX rfl ?_ | refine vL rfl ?_)
      intro _u; clear _u
      refine acnd_t (by simp) ?_
      repeat ((intro _u; clear _u); first | with_reducible first | refine cT ?_ | refine cF ?_ | refine cA ?_ | refine cB ?_ | refine aLn ?_ | refine cK ?_ | refine aS8 ?_ | refine wI ?_ | refine nD ?_ | refine aX rfl ?_ | refine vL rfl ?_)
      intro _u; clear _u
      refine ICall.pure h.n194.o194.hb (works13_c h.n194) rfl ?_
      repeat ((intro _u; clear _u); first | with_reducible first | refine cT ?_ | refine cF ?_ | refine cA ?_ | refine cB ?_ | refine aLn ?_ | refine cK ?_ | refine aS8 ?_ | refine wI ?_ | refine nD ?_ | refine aX rfl ?_ | refine vL rfl ?_)
      intro _u; clear _u
      exact rT

def met (f : T3 → Int) (v : Int) (l : List T3) : Bool := l.any fun p => f p == v
theorem met_app (f : T3 → Int) (v : Int) (l r : List T3) : met f v (l ++ r) = (met f v l || met f v r) := by simp [met]
def Ms.mets (m : Ms) (k : Nat) : List AV := [.bool (met T3.a (m.lo m.t.length).a (m.cs k)), .bool (met T3.b (m.lo m.t.length).b (m.cs k)), .bool (met T3.c (m.lo m.t.length).c (m.cs k)),
  .bool (met T3.a (m.hi m.t.length).a (m.cs k)), .bool (met T3.b (m.hi m.t.length).b (m.cs k)), .bool (met T3.c (m.hi m.t.length).c (m.cs k))]
theorem Ms.f1_mem {m : Ms} (h : 1 ≤ m.t.length) : m.f1 ∈ m.cs m.t.length := by
  obtain ⟨t, ht⟩ : ∃ u, m.t[0]? = some u := ⟨_, List.getElem?_eq_getElem (by omega)⟩
  unfold Ms.cs Ms.f1
  rw [List.take_length, List.getD_eq_getElem?_getD, ht]
  exact List.mem_flatMap.2 ⟨t, List.mem_of_getElem? ht, by simp [Ms.tcs]⟩
theorem met_lo {f : T3 → Int} {l : List T3} {x : T3} (h : x ∈ l) : met f (mn f (f x) l) l = true := by
  unfold met
  rw [List.any_eq_true]
  rcases mn_met f l (f x) with e | ⟨p, hp, e⟩
  · exact ⟨x, h, by simp [e]⟩
  · exact ⟨p, hp, by simp [e]⟩
theorem met_hi {f : T3 → Int} {l : List T3} {x : T3} (h : x ∈ l) : met f (mx f (f x) l) l = true := by
  unfold met
  rw [List.any_eq_true]
  rcases mx_met f l (f x) with e | ⟨p, hp, e⟩
  · exact ⟨x, h, by simp [e]⟩
  · exact ⟨p, hp, by simp [e]⟩
theorem Ms.mets_all {m : Ms} (h : 1 ≤ m.t.length) : m.mets m.t.length = List.replicate 6 (.bool true) := by
  have hm := m.f1_mem h
  unfold Ms.mets Ms.lo Ms.hi
  dsimp only
  rw [met_lo (f := T3.a) hm, met_lo (f := T3.b) hm, met_lo (f := T3.c) hm, met_hi (f := T3.a) hm, met_hi (f := T3.b) hm, met_hi (f := T3.c) hm]
  rfl
theorem Ms.in_box {m : Ms} {k : Nat} {t : T3} (h : m.t[k]? = some t) {p : T3} (hp : p ∈ m.tcs t) : (m.lo m.t.length).a ≤ p.a ∧ (m.lo m.t.length).b ≤ p.b ∧ (m.lo m.t.length).c ≤ p.c ∧ p.a ≤ (m.hi m.t.length).a ∧ p.b ≤ (m.hi m.t.length).b ∧ p.c ≤ (m.hi m.t.length).c := by
  have hm : p ∈ m.cs m.t.length := by
    unfold Ms.cs
    rw [List.take_length]
    exact List.mem_flatMap.2 ⟨t, List.mem_of_getElem? h, hp⟩
  exact ⟨(mn_le _ _ _).2 p hm, (mn_le _ _ _).2 p hm, (mn_le _ _ _).2 p hm, (mx_le _ _ _).2 p hm, (mx_le _ _ _).2 p hm, (mx_le _ _ _).2 p hm⟩

def bJ (n j : Nat) (L : List T3) (p : T3) : List T3 := bif Nat.ble n j then L ++ [p] else L
def metJ (lo hi : T3) (L : List T3) (p : T3) (j : Nat) : List AV := [.bool (met T3.a lo.a (bJ 1 j L p)), .bool (met T3.b lo.b (bJ 2 j L p)), .bool (met T3.c lo.c (bJ 3 j L p)),
  .bool (met T3.a hi.a (bJ 4 j L p)), .bool (met T3.b hi.b (bJ 5 j L p)), .bool (met T3.c hi.c (bJ 6 j L p))]
theorem met_t {f : T3 → Int} {v : Int} {L : List T3} {p : T3} (h : met f v L = true) : true = met f v (L ++ [p]) := by rw [met_app, h]; rfl
theorem met_f {f : T3 → Int} {v : Int} {L : List T3} {p : T3} (h : met f v L = false) : (f p == v) = met f v (L ++ [p]) := by rw [met_app, h]; simp [met]

set_option maxHeartbeats 1000000 in
theorem mbox_law {R : Env} (h : N190 R) (m : Ms) : R.Pc 190 [.agg m.row] (.bool true) :=
  h.o190.enter 100 rfl fun X bb hfit hp => by
    repeat ((intro _u; clear _u); first | with_reducible first | refine cT ?_ | refine cF ?_ | refine cA ?_ | refine cB ?_ | refine aLn ?_ | refine cK ?_ | refine aS8 ?_ | refine wI ?_ | refine nD ?_ | refine aX rfl ?_ | refine vL rfl ?_)
    intro _u; clear _u
    refine ICall.pure h.n191.o191.hb (few13_c h.n191 m) rfl ?_
    generalize m.few = m
    have c1 := box_c h.n192 m
    by_cases hc : mchk m = 0
    · rw [bx, if_neg (by omega)] at c1
      repeat ((intro _u; clear _u); first | with_reducible first | refine cT ?_ | refine cF ?_ | refine cA ?_ | refine cB ?_ | refine aLn ?_ | refine cK ?_ | refine aS8 ?_ | refine wI ?_ | refine nD ?_ | refine aX rfl ?_ | refine vL rfl ?_)
      intro _u; clear _u
      refine ICall.pure h.n192.o192.hb c1 rfl ?_
      have may := mchk_may hc
      have mt := may.t
      repeat ((intro _u; clear _u); first | with_reducible first | refine cT ?_ | refine cF ?_ | refine cA ?_ | refine cB ?_ | refine aLn ?_ | refine cK ?_ | refine aS8 ?_ | refine wI ?_ | refine nD ?_ | refine aX rfl ?_ | refine vL rfl ?_)
      intro _u; clear _u
      refine acnd_f (by rfl) ?_
      repeat ((intro _u; clear _u); first | with_reducible first | refine cT ?_ | refine cF ?_ | refine cA ?_ | refine cB ?_ | refine aLn ?_ | refine cK ?_ | refine aS8 ?_ | refine wI ?_ | refine nD ?_ | refine aX rfl ?_ | refine vL rfl ?_)
      intro _u; clear _u
      refine lPa 100 (fun k : Nat => k ≤ m.t.length) (fun k => ⟨[(1, .loc 0 1 0 0), (3, .loc 1 1 0 0), (4, .loc 2 1 0 0), (6, .loc 3 1 0 0), (43, .isl 3 (slc3 m.t)), (44, .int .i64 m.t.length), (45, .int .i64 k)], [(3, .var (R.ty 27) (m.mets k)), (2, .var (R.ty 26) (t3 (m.hi m.t.length))), (1, .var (R.ty 26) (t3 (m.lo m.t.length))), (0, .var (R.ty 25) m.row)], 4⟩) (fun k => m.t.length - k) (0) ?_ ?_
      · exact Nat.zero_le _
      · intro k hk
        dsimp only
        repeat ((intro _u; clear _u); first | with_reducible first | refine cT ?_ | refine cF ?_ | refine cA ?_ | refine cB ?_ | refine aLn ?_ | refine cK ?_ | refine aS8 ?_ | refine wI ?_ | refine nD ?_ | refine aX rfl ?_ | refine vL rfl ?_)
        intro _u; clear _u
        refine cS (fun h2 => ?_) (fun h2 => ?_)
        · obtain ⟨t, ht⟩ : ∃ u_, m.t[k]? = some u_ := ⟨_, List.getElem?_eq_getElem (by first | omega | (simp <;> omega))⟩
          repeat ((intro _u; clear _u); first | with_reducible first | refine cT ?_ | refine cF ?_ | refine cA ?_ | refine cB ?_ | refine aLn ?_ | refine cK ?_ | refine aS8 ?_ | refine wI ?_ | refine nD ?_ | refine aX rfl ?_ | refine vL rfl ?_)
          intro _u; clear _u
          refine eget_map ht ?_
          have hpt := may.pt t (List.mem_of_getElem? ht)
          have i1 := m.in_box ht (p := m.pt t.a) (by simp [Ms.tcs])
          have i2 := m.in_box ht (p := m.pt t.b) (by simp [Ms.tcs])
          have i3 := m.in_box ht (p := m.pt t.c) (by simp [Ms.tcs])
          repeat ((intro _u; clear _u); first | with_reducible first | refine cT ?_ | refine cF ?_ | refine cA ?_ | refine cB ?_ | refine aLn ?_ | refine cK ?_ | refine aS8 ?_ | refine wI ?_ | refine nD ?_ | refine aX rfl ?_ | refine vL rfl ?_)
          intro _u; clear _u
          refine ILoop.one 100 ?_
          repeat ((intro _u; clear _u); first | with_reducible first | refine cT ?_ | refine cF ?_ | refine cA ?_ | refine cB ?_ | refine aLn ?_ | refine cK ?_ | refine aS8 ?_ | refine wI ?_ | refine nD ?_ | refine aX rfl ?_ | refine vL rfl ?_)
          intro _u; clear _u
          refine acnd_t (by decide) ?_
          repeat ((intro _u; clear _u); first | with_reducible first | refine cT ?_ | refine cF ?_ | refine cA ?_ | refine cB ?_ | refine aLn ?_ | refine cK ?_ | refine aS8 ?_ | refine wI ?_ | refine nD ?_ | refine aX rfl ?_ | refine vL rfl ?_)
          intro _u; clear _u
          refine eget_map (may.get (i := t.a) (by omega)) ?_
          repeat ((intro _u; clear _u); first | with_reducible first | refine cT ?_ | refine cF ?_ | refine cA ?_ | refine cB ?_ | refine aLn ?_ | refine cK ?_ | refine aS8 ?_ | refine wI ?_ | refine nD ?_ | refine aX rfl ?_ | refine vL rfl ?_)
          intro _u; clear _u
          refine acnd_f (by simp; omega) ?_
          repeat ((intro _u; clear _u); first | with_reducible first | refine cT ?_ | refine cF ?_ | refine cA ?_ | refine cB ?_ | refine aLn ?_ | refine cK ?_ | refine aS8 ?_ | refine wI ?_ | refine nD ?_ | refine aX rfl ?_ | refine vL rfl ?_)
          intro _u; clear _u
          refine acnd_f (by simp; omega) ?_
          repeat ((intro _u; clear _u); first | with_reducible first | refine cT ?_ | refine cF ?_ | refine cA ?_ | refine cB ?_ | refine aLn ?_ | refine cK ?_ | refine aS8 ?_ | refine wI ?_ | refine nD ?_ | refine aX rfl ?_ | refine vL rfl ?_)
          intro _u; clear _u
          refine acnd_f (by simp; omega) ?_
          repeat ((intro _u; clear _u); first | with_reducible first | refine cT ?_ | refine cF ?_ | refine cA ?_ | refine cB ?_ | refine aLn ?_ | refine cK ?_ | refine aS8 ?_ | refine wI ?_ | refine nD ?_ | refine aX rfl ?_ | refine vL rfl ?_)
          intro _u; clear _u
          refine acnd_f (by simp; omega) ?_
          repeat ((intro _u; clear _u); first | with_reducible first | refine cT ?_ | refine cF ?_ | refine cA ?_ | refine cB ?_ | refine aLn ?_ | refine cK ?_ | refine aS8 ?_ | refine wI ?_ | refine nD ?_ | refine aX rfl ?_ | refine vL rfl ?_)
          intro _u; clear _u
          refine acnd_f (by simp; omega) ?_
          repeat ((intro _u; clear _u); first | with_reducible first | refine cT ?_ | refine cF ?_ | refine cA ?_ | refine cB ?_ | refine aLn ?_ | refine cK ?_ | refine aS8 ?_ | refine wI ?_ | refine nD ?_ | refine aX rfl ?_ | refine vL rfl ?_)
          intro _u; clear _u
          refine acnd_f (by simp; omega) ?_
          repeat ((intro _u; clear _u); first | with_reducible first | refine cT ?_ | refine cF ?_ | refine cA ?_ | refine cB ?_ | refine aLn ?_ | refine cK ?_ | refine aS8 ?_ | refine wI ?_ | refine nD ?_ | refine aX rfl ?_ | refine vL rfl ?_)
          intro _u; clear _u
          refine lPa 100 (fun j : Nat => j ≤ 6) (fun j => ⟨[(1, .loc 0 1 0 0), (3, .loc 1 1 0 0), (4, .loc 2 1 0 0), (6, .loc 3 1 0 0), (43, .isl 3 (slc3 m.t)), (44, .int .i64 m.t.length), (45, .int .i64 k), (49, .agg (t3 t)), (50, .int .i64 0), (128, .agg [.bool ((m.pt t.a).a == (m.lo m.t.length).a), .bool ((m.pt t.a).b == (m.lo m.t.length).b), .bool ((m.pt t.a).c == (m.lo m.t.length).c), .bool ((m.pt t.a).a == (m.hi m.t.length).a), .bool ((m.pt t.a).b == (m.hi m.t.length).b), .bool ((m.pt t.a).c == (m.hi m.t.length).c)]), (129, .int .i64 j)], [(3, .var (R.ty 27) (metJ (m.lo m.t.length) (m.hi m.t.length) (m.cs k) (m.pt t.a) j)), (2, .var (R.ty 26) (t3 (m.hi m.t.length))), (1, .var (R.ty 26) (t3 (m.lo m.t.length))), (0, .var (R.ty 25) m.row)], 6⟩) (fun j => 6 - j) (0) ?_ ?_
          · exact Nat.zero_le _
          · intro j hj
            dsimp only
            by_cases hj6 : j = 6
            · subst hj6
              repeat ((intro _u; clear _u); first | with_reducible first | refine cT ?_ | refine cF ?_ | refine cA ?_ | refine cB ?_ | refine aLn ?_ | refine cK ?_ | refine aS8 ?_ | refine wI ?_ | refine nD ?_ | refine aX rfl ?_ | refine vL rfl ?_)
              intro _u; clear _u
              refine acnd_f (by decide) ?_
              repeat ((intro _u; clear _u); first | with_reducible first | refine cT ?_ | refine cF ?_ | refine cA ?_ | refine cB ?_ | refine aLn ?_ | refine cK ?_ | refine aS8 ?_ | refine wI ?_ | refine nD ?_ | refine aX rfl ?_ | refine vL rfl ?_)
              intro _u; clear _u
              refine ILoop.one 100 ?_
              repeat ((intro _u; clear _u); first | with_reducible first | refine cT ?_ | refine cF ?_ | refine cA ?_ | refine cB ?_ | refine aLn ?_ | refine cK ?_ | refine aS8 ?_ | refine wI ?_ | refine nD ?_ | refine aX rfl ?_ | refine vL rfl ?_)
              intro _u; clear _u
              refine acnd_t (by decide) ?_
              repeat ((intro _u; clear _u); first | with_reducible first | refine cT ?_ | refine cF ?_ | refine cA ?_ | refine cB ?_ | refine aLn ?_ | refine cK ?_ | refine aS8 ?_ | refine wI ?_ | refine nD ?_ | refine aX rfl ?_ | refine vL rfl ?_)
              intro _u; clear _u
              refine eget_map (may.get (i := t.b) (by omega)) ?_
              repeat ((intro _u; clear _u); first | with_reducible first | refine cT ?_ | refine cF ?_ | refine cA ?_ | refine cB ?_ | refine aLn ?_ | refine cK ?_ | refine aS8 ?_ | refine wI ?_ | refine nD ?_ | refine aX rfl ?_ | refine vL rfl ?_)
              intro _u; clear _u
              refine acnd_f (by simp; omega) ?_
              repeat ((intro _u; clear _u); first | with_reducible first | refine cT ?_ | refine cF ?_ | refine cA ?_ | refine cB ?_ | refine aLn ?_ | refine cK ?_ | refine aS8 ?_ | refine wI ?_ | refine nD ?_ | refine aX rfl ?_ | refine vL rfl ?_)
              intro _u; clear _u
              refine acnd_f (by simp; omega) ?_
              repeat ((intro _u; clear _u); first | with_reducible first | refine cT ?_ | refine cF ?_ | refine cA ?_ | refine cB ?_ | refine aLn ?_ | refine cK ?_ | refine aS8 ?_ | refine wI ?_ | refine nD ?_ | refine aX rfl ?_ | refine vL rfl ?_)
              intro _u; clear _u
              refine acnd_f (by simp; omega) ?_
              repeat ((intro _u; clear _u); first | with_reducible first | refine cT ?_ | refine cF ?_ | refine cA ?_ | refine cB ?_ | refine aLn ?_ | refine cK ?_ | refine aS8 ?_ | refine wI ?_ | refine nD ?_ | refine aX rfl ?_ | refine vL rfl ?_)
              intro _u; clear _u
              refine acnd_f (by simp; omega) ?_
              repeat ((intro _u; clear _u); first | with_reducible first | refine cT ?_ | refine cF ?_ | refine cA ?_ | refine cB ?_ | refine aLn ?_ | refine cK ?_ | refine aS8 ?_ | refine wI ?_ | refine nD ?_ | refine aX rfl ?_ | refine vL rfl ?_)
              intro _u; clear _u
              refine acnd_f (by simp; omega) ?_
              repeat ((intro _u; clear _u); first | with_reducible first | refine cT ?_ | refine cF ?_ | refine cA ?_ | refine cB ?_ | refine aLn ?_ | refine cK ?_ | refine aS8 ?_ | refine wI ?_ | refine nD ?_ | refine aX rfl ?_ | refine vL rfl ?_)
              intro _u; clear _u
              refine acnd_f (by simp; omega) ?_
              repeat ((intro _u; clear _u); first | with_reducible first | refine cT ?_ | refine cF ?_ | refine cA ?_ | refine cB ?_ | refine aLn ?_ | refine cK ?_ | refine aS8 ?_ | refine wI ?_ | refine nD ?_ | refine aX rfl ?_ | refine vL rfl ?_)
              intro _u; clear _u
              refine lPa 100 (fun j : Nat => j ≤ 6) (fun j => ⟨[(1, .loc 0 1 0 0), (3, .loc 1 1 0 0), (4, .loc 2 1 0 0), (6, .loc 3 1 0 0), (43, .isl 3 (slc3 m.t)), (44, .int .i64 m.t.length), (45, .int .i64 k), (49, .agg (t3 t)), (50, .int .i64 1), (128, .agg [.bool ((m.pt t.b).a == (m.lo m.t.length).a), .bool ((m.pt t.b).b == (m.lo m.t.length).b), .bool ((m.pt t.b).c == (m.lo m.t.length).c), .bool ((m.pt t.b).a == (m.hi m.t.length).a), .bool ((m.pt t.b).b == (m.hi m.t.length).b), .bool ((m.pt t.b).c == (m.hi m.t.length).c)]), (129, .int .i64 j)], [(3, .var (R.ty 27) (metJ (m.lo m.t.length) (m.hi m.t.length) (m.cs k ++ [m.pt t.a]) (m.pt t.b) j)), (2, .var (R.ty 26) (t3 (m.hi m.t.length))), (1, .var (R.ty 26) (t3 (m.lo m.t.length))), (0, .var (R.ty 25) m.row)], 7⟩) (fun j => 6 - j) (0) ?_ ?_
              · exact Nat.zero_le _
              · intro j hj
                dsimp only
                by_cases hj6 : j = 6
                · subst hj6
                  repeat ((intro _u; clear _u); first | with_reducible first | refine cT ?_ | refine cF ?_ | refine cA ?_ | refine cB ?_ | refine aLn ?_ | refine cK ?_ | refine aS8 ?_ | refine wI ?_ | refine nD ?_ | refine aX rfl ?_ | refine vL rfl ?_)
                  intro _u; clear _u
                  refine acnd_f (by decide) ?_
                  repeat ((intro _u; clear _u); first | with_reducible first | refine cT ?_ | refine cF ?_ | refine cA ?_ | refine cB ?_ | refine aLn ?_ | refine cK ?_ | refine aS8 ?_ | refine wI ?_ | refine nD ?_ | refine aX rfl ?_ | refine vL rfl ?_)
                  intro _u; clear _u
                  refine ILoop.one 100 ?_
                  repeat ((intro _u; clear _u); first | with_reducible first | refine cT ?_ | refine cF ?_ | refine cA ?_ | refine cB ?_ | refine aLn ?_ | refine cK ?_ | refine aS8 ?_ | refine wI ?_ | refine nD ?_ | refine aX rfl ?_ | refine vL rfl ?_)
                  intro _u; clear _u
                  refine acnd_t (by decide) ?_
                  repeat ((intro _u; clear _u); first | with_reducible first | refine cT ?_ | refine cF ?_ | refine cA ?_ | refine cB ?_ | refine aLn ?_ | refine cK ?_ | refine aS8 ?_ | refine wI ?_ | refine nD ?_ | refine aX rfl ?_ | refine vL rfl ?_)
                  intro _u; clear _u
                  refine eget_map (may.get (i := t.c) (by omega)) ?_
                  repeat ((intro _u; clear _u); first | with_reducible first | refine cT ?_ | refine cF ?_ | refine cA ?_ | refine cB ?_ | refine aLn ?_ | refine cK ?_ | refine aS8 ?_ | refine wI ?_ | refine nD ?_ | refine aX rfl ?_ | refine vL rfl ?_)
                  intro _u; clear _u
                  refine acnd_f (by simp; omega) ?_
                  repeat ((intro _u; clear _u); first | with_reducible first | refine cT ?_ | refine cF ?_ | refine cA ?_ | refine cB ?_ | refine aLn ?_ | refine cK ?_ | refine aS8 ?_ | refine wI ?_ | refine nD ?_ | refine aX rfl ?_ | refine vL rfl ?_)
                  intro _u; clear _u
                  refine acnd_f (by simp; omega) ?_
                  repeat ((intro _u; clear _u); first | with_reducible first | refine cT ?_ | refine cF ?_ | refine cA ?_ | refine cB ?_ | refine aLn ?_ | refine cK ?_ | refine aS8 ?_ | refine wI ?_ | refine nD ?_ | refine aX rfl ?_ | refine vL rfl ?_)
                  intro _u; clear _u
                  refine acnd_f (by simp; omega) ?_
                  repeat ((intro _u; clear _u); first | with_reducible first | refine cT ?_ | refine cF ?_ | refine cA ?_ | refine cB ?_ | refine aLn ?_ | refine cK ?_ | refine aS8 ?_ | refine wI ?_ | refine nD ?_ | refine aX rfl ?_ | refine vL rfl ?_)
                  intro _u; clear _u
                  refine acnd_f (by simp; omega) ?_
                  repeat ((intro _u; clear _u); first | with_reducible first | refine cT ?_ | refine cF ?_ | refine cA ?_ | refine cB ?_ | refine aLn ?_ | refine cK ?_ | refine aS8 ?_ | refine wI ?_ | refine nD ?_ | refine aX rfl ?_ | refine vL rfl ?_)
                  intro _u; clear _u
                  refine acnd_f (by simp; omega) ?_
                  repeat ((intro _u; clear _u); first | with_reducible first | refine cT ?_ | refine cF ?_ | refine cA ?_ | refine cB ?_ | refine aLn ?_ | refine cK ?_ | refine aS8 ?_ | refine wI ?_ | refine nD ?_ | refine aX rfl ?_ | refine vL rfl ?_)
                  intro _u; clear _u
                  refine acnd_f (by simp; omega) ?_
                  repeat ((intro _u; clear _u); first | with_reducible first | refine cT ?_ | refine cF ?_ | refine cA ?_ | refine cB ?_ | refine aLn ?_ | refine cK ?_ | refine aS8 ?_ | refine wI ?_ | refine nD ?_ | refine aX rfl ?_ | refine vL rfl ?_)
                  intro _u; clear _u
                  refine lPa 100 (fun j : Nat => j ≤ 6) (fun j => ⟨[(1, .loc 0 1 0 0), (3, .loc 1 1 0 0), (4, .loc 2 1 0 0), (6, .loc 3 1 0 0), (43, .isl 3 (slc3 m.t)), (44, .int .i64 m.t.length), (45, .int .i64 k), (49, .agg (t3 t)), (50, .int .i64 2), (128, .agg [.bool ((m.pt t.c).a == (m.lo m.t.length).a), .bool ((m.pt t.c).b == (m.lo m.t.length).b), .bool ((m.pt t.c).c == (m.lo m.t.length).c), .bool ((m.pt t.c).a == (m.hi m.t.length).a), .bool ((m.pt t.c).b == (m.hi m.t.length).b), .bool ((m.pt t.c).c == (m.hi m.t.length).c)]), (129, .int .i64 j)], [(3, .var (R.ty 27) (metJ (m.lo m.t.length) (m.hi m.t.length) (m.cs k ++ [m.pt t.a] ++ [m.pt t.b]) (m.pt t.c) j)), (2, .var (R.ty 26) (t3 (m.hi m.t.length))), (1, .var (R.ty 26) (t3 (m.lo m.t.length))), (0, .var (R.ty 25) m.row)], 8⟩) (fun j => 6 - j) (0) ?_ ?_
                  · exact Nat.zero_le _
                  · intro j hj
                    dsimp only
                    by_cases hj6 : j = 6
                    · subst hj6
                      repeat ((intro _u; clear _u); first | with_reducible first | refine cT ?_ | refine cF ?_ | refine cA ?_ | refine cB ?_ | refine aLn ?_ | refine cK ?_ | refine aS8 ?_ | refine wI ?_ | refine nD ?_ | refine aX rfl ?_ | refine vL rfl ?_)
                      intro _u; clear _u
                      refine acnd_f (by decide) ?_
                      repeat ((intro _u; clear _u); first | with_reducible first | refine cT ?_ | refine cF ?_ | refine cA ?_ | refine cB ?_ | refine aLn ?_ | refine cK ?_ | refine aS8 ?_ | refine wI ?_ | refine nD ?_ | refine aX rfl ?_ | refine vL rfl ?_)
                      intro _u; clear _u
                      refine ILoop.one 100 ?_
                      repeat ((intro _u; clear _u); first | with_reducible first | refine cT ?_ | refine cF ?_ | refine cA ?_ | refine cB ?_ | refine aLn ?_ | refine cK ?_ | refine aS8 ?_ | refine wI ?_ | refine nD ?_ | refine aX rfl ?_ | refine vL rfl ?_)
                      intro _u; clear _u
                      refine acnd_f (by decide) ?_
                      repeat ((intro _u; clear _u); first | with_reducible first | refine cT ?_ | refine cF ?_ | refine cA ?_ | refine cB ?_ | refine aLn ?_ | refine cK ?_ | refine aS8 ?_ | refine wI ?_ | refine nD ?_ | refine aX rfl ?_ | refine vL rfl ?_)
                      intro _u; clear _u
                      refine nX (k + 1) ?_ ?_ ⟨_, hp, rfl⟩ ?_ ?_
                      · omega
                      · omega
                      · all_goals repeat' (first | exact True.intro | refine And.intro ?_ ?_ | (intro _u; clear _u) | (with_reducible first | refine eM ?_ ?_ | refine eF ?_ ?_ ?_ | refine eN ?_ | refine eL ?_ ?_ ?_ | refine eA ?_ ?_ | refine IWk.mk ⟨_, hp, rfl⟩ ?_ ?_) | refine IWk.mk ⟨_, hp, rfl⟩ ?_ ?_)
                        all_goals first | with_reducible rfl | omega | exact Or.inl (by decide) | (simp; done) | rfl | skip
                      · all_goals repeat' (first | exact True.intro | refine And.intro ?_ ?_ | (intro _u; clear _u) | (with_reducible first | refine eM ?_ ?_ | refine eF ?_ ?_ ?_ | refine eN ?_ | refine eL ?_ ?_ ?_ | refine eA ?_ ?_ | refine IWk.mk ⟨_, hp, rfl⟩ ?_ ?_) | refine IWk.mk ⟨_, hp, rfl⟩ ?_ ?_)
                        all_goals first | with_reducible rfl | omega | exact Or.inl (by decide) | (simp; done) | rfl | skip
                        all_goals (rw [Ms.cs_succ ht]; simp [bJ, Ms.tcs]; rfl)
                    · obtain rfl | rfl | rfl | rfl | rfl | rfl : j = 0 ∨ j = 1 ∨ j = 2 ∨ j = 3 ∨ j = 4 ∨ j = 5 := by omega
                      · repeat ((intro _u; clear _u); first | with_reducible first | refine cT ?_ | refine cF ?_ | refine cA ?_ | refine cB ?_ | refine aLn ?_ | refine cK ?_ | refine aS8 ?_ | refine wI ?_ | refine nD ?_ | refine aX rfl ?_ | refine vL rfl ?_)
                        intro _u; clear _u
                        refine acnd_t (by decide) ?_
                        repeat ((intro _u; clear _u); first | with_reducible first | refine cT ?_ | refine cF ?_ | refine cA ?_ | refine cB ?_ | refine aLn ?_ | refine cK ?_ | refine aS8 ?_ | refine wI ?_ | refine nD ?_ | refine aX rfl ?_ | refine vL rfl ?_)
                        intro _u; clear _u
                        refine cS (fun hm => ?_) (fun hm => ?_)
                        · repeat ((intro _u; clear _u); first | with_reducible first | refine cT ?_ | refine cF ?_ | refine cA ?_ | refine cB ?_ | refine aLn ?_ | refine cK ?_ | refine aS8 ?_ | refine wI ?_ | refine nD ?_ | refine aX rfl ?_ | refine vL rfl ?_)
                          intro _u; clear _u
                          refine nX (1) ?_ ?_ ⟨_, hp, rfl⟩ ?_ ?_
                          · omega
                          · omega
                          · all_goals repeat' (first | exact True.intro | refine And.intro ?_ ?_ | (intro _u; clear _u) | (with_reducible first | refine eM ?_ ?_ | refine eF ?_ ?_ ?_ | refine eN ?_ | refine eL ?_ ?_ ?_ | refine eA ?_ ?_ | refine IWk.mk ⟨_, hp, rfl⟩ ?_ ?_) | refine IWk.mk ⟨_, hp, rfl⟩ ?_ ?_)
                            all_goals first | with_reducible rfl | omega | exact Or.inl (by decide) | (simp; done) | rfl | skip
                          · all_goals repeat' (first | exact True.intro | refine And.intro ?_ ?_ | (intro _u; clear _u) | (with_reducible first | refine eM ?_ ?_ | refine eF ?_ ?_ ?_ | refine eN ?_ | refine eL ?_ ?_ ?_ | refine eA ?_ ?_ | refine IWk.mk ⟨_, hp, rfl⟩ ?_ ?_) | refine IWk.mk ⟨_, hp, rfl⟩ ?_ ?_)
                            all_goals first | with_reducible rfl | omega | exact Or.inl (by decide) | (simp; done) | rfl | skip
                            exact met_t hm
                        · repeat ((intro _u; clear _u); first | with_reducible first | refine cT ?_ | refine cF ?_ | refine cA ?_ | refine cB ?_ | refine aLn ?_ | refine cK ?_ | refine aS8 ?_ | refine wI ?_ | refine nD ?_ | refine aX rfl ?_ | refine vL rfl ?_)
                          intro _u; clear _u
                          refine nX (1) ?_ ?_ ⟨_, hp, rfl⟩ ?_ ?_
                          · omega
                          · omega
                          · all_goals repeat' (first | exact True.intro | refine And.intro ?_ ?_ | (intro _u; clear _u) | (with_reducible first | refine eM ?_ ?_ | refine eF ?_ ?_ ?_ | refine eN ?_ | refine eL ?_ ?_ ?_ | refine eA ?_ ?_ | refine IWk.mk ⟨_, hp, rfl⟩ ?_ ?_) | refine IWk.mk ⟨_, hp, rfl⟩ ?_ ?_)
                            all_goals first | with_reducible rfl | omega | exact Or.inl (by decide) | (simp; done) | rfl | skip
                          · all_goals repeat' (first | exact True.intro | refine And.intro ?_ ?_ | (intro _u; clear _u) | (with_reducible first | refine eM ?_ ?_ | refine eF ?_ ?_ ?_ | refine eN ?_ | refine eL ?_ ?_ ?_ | refine eA ?_ ?_ | refine IWk.mk ⟨_, hp, rfl⟩ ?_ ?_) | refine IWk.mk ⟨_, hp, rfl⟩ ?_ ?_)
                            all_goals first | with_reducible rfl | omega | exact Or.inl (by decide) | (simp; done) | rfl | skip
                            exact met_f hm
                      · repeat ((intro _u; clear _u); first | with_reducible first | refine cT ?_ | refine cF ?_ | refine cA ?_ | refine cB ?_ | refine aLn ?_ | refine cK ?_ | refine aS8 ?_ | refine wI ?_ | refine nD ?_ | refine aX rfl ?_ | refine vL rfl ?_)
                        intro _u; clear _u
                        refine acnd_t (by decide) ?_
                        repeat ((intro _u; clear _u); first | with_reducible first | refine cT ?_ | refine cF ?_ | refine cA ?_ | refine cB ?_ | refine aLn ?_ | refine cK ?_ | refine aS8 ?_ | refine wI ?_ | refine nD ?_ | refine aX rfl ?_ | refine vL rfl ?_)
                        intro _u; clear _u
                        refine cS (fun hm => ?_) (fun hm => ?_)
                        · repeat ((intro _u; clear _u); first | with_reducible first | refine cT ?_ | refine cF ?_ | refine cA ?_ | refine cB ?_ | refine aLn ?_ | refine cK ?_ | refine aS8 ?_ | refine wI ?_ | refine nD ?_ | refine aX rfl ?_ | refine vL rfl ?_)
                          intro _u; clear _u
                          refine nX (2) ?_ ?_ ⟨_, hp, rfl⟩ ?_ ?_
                          · omega
                          · omega
                          · all_goals repeat' (first | exact True.intro | refine And.intro ?_ ?_ | (intro _u; clear _u) | (with_reducible first | refine eM ?_ ?_ | refine eF ?_ ?_ ?_ | refine eN ?_ | refine eL ?_ ?_ ?_ | refine eA ?_ ?_ | refine IWk.mk ⟨_, hp, rfl⟩ ?_ ?_) | refine IWk.mk ⟨_, hp, rfl⟩ ?_ ?_)
                            all_goals first | with_reducible rfl | omega | exact Or.inl (by decide) | (simp; done) | rfl | skip
                          · all_goals repeat' (first | exact True.intro | refine And.intro ?_ ?_ | (intro _u; clear _u) | (with_reducible first | refine eM ?_ ?_ | refine eF ?_ ?_ ?_ | refine eN ?_ | refine eL ?_ ?_ ?_ | refine eA ?_ ?_ | refine IWk.mk ⟨_, hp, rfl⟩ ?_ ?_) | refine IWk.mk ⟨_, hp, rfl⟩ ?_ ?_)
                            all_goals first | with_reducible rfl | omega | exact Or.inl (by decide) | (simp; done) | rfl | skip
                            exact met_t hm
                        · repeat ((intro _u; clear _u); first | with_reducible first | refine cT ?_ | refine cF ?_ | refine cA ?_ | refine cB ?_ | refine aLn ?_ | refine cK ?_ | refine aS8 ?_ | refine wI ?_ | refine nD ?_ | refine aX rfl ?_ | refine vL rfl ?_)
                          intro _u; clear _u
                          refine nX (2) ?_ ?_ ⟨_, hp, rfl⟩ ?_ ?_
                          · omega
                          · omega
                          · all_goals repeat' (first | exact True.intro | refine And.intro ?_ ?_ | (intro _u; clear _u) | (with_reducible first | refine eM ?_ ?_ | refine eF ?_ ?_ ?_ | refine eN ?_ | refine eL ?_ ?_ ?_ | refine eA ?_ ?_ | refine IWk.mk ⟨_, hp, rfl⟩ ?_ ?_) | refine IWk.mk ⟨_, hp, rfl⟩ ?_ ?_)
                            all_goals first | with_reducible rfl | omega | exact Or.inl (by decide) | (simp; done) | rfl | skip
                          · all_goals repeat' (first | exact True.intro | refine And.intro ?_ ?_ | (intro _u; clear _u) | (with_reducible first | refine eM ?_ ?_ | refine eF ?_ ?_ ?_ | refine eN ?_ | refine eL ?_ ?_ ?_ | refine eA ?_ ?_ | refine IWk.mk ⟨_, hp, rfl⟩ ?_ ?_) | refine IWk.mk ⟨_, hp, rfl⟩ ?_ ?_)
                            all_goals first | with_reducible rfl | omega | exact Or.inl (by decide) | (simp; done) | rfl | skip
                            exact met_f hm
                      · repeat ((intro _u; clear _u); first | with_reducible first | refine cT ?_ | refine cF ?_ | refine cA ?_ | refine cB ?_ | refine aLn ?_ | refine cK ?_ | refine aS8 ?_ | refine wI ?_ | refine nD ?_ | refine aX rfl ?_ | refine vL rfl ?_)
                        intro _u; clear _u
                        refine acnd_t (by decide) ?_
                        repeat ((intro _u; clear _u); first | with_reducible first | refine cT ?_ | refine cF ?_ | refine cA ?_ | refine cB ?_ | refine aLn ?_ | refine cK ?_ | refine aS8 ?_ | refine wI ?_ | refine nD ?_ | refine aX rfl ?_ | refine vL rfl ?_)
                        intro _u; clear _u
                        refine cS (fun hm => ?_) (fun hm => ?_)
                        · repeat ((intro _u; clear _u); first | with_reducible first | refine cT ?_ | refine cF ?_ | refine cA ?_ | refine cB ?_ | refine aLn ?_ | refine cK ?_ | refine aS8 ?_ | refine wI ?_ | refine nD ?_ | refine aX rfl ?_ | refine vL rfl ?_)
                          intro _u; clear _u
                          refine nX (3) ?_ ?_ ⟨_, hp, rfl⟩ ?_ ?_
                          · omega
                          · omega
                          · all_goals repeat' (first | exact True.intro | refine And.intro ?_ ?_ | (intro _u; clear _u) | (with_reducible first | refine eM ?_ ?_ | refine eF ?_ ?_ ?_ | refine eN ?_ | refine eL ?_ ?_ ?_ | refine eA ?_ ?_ | refine IWk.mk ⟨_, hp, rfl⟩ ?_ ?_) | refine IWk.mk ⟨_, hp, rfl⟩ ?_ ?_)
                            all_goals first | with_reducible rfl | omega | exact Or.inl (by decide) | (simp; done) | rfl | skip
                          · all_goals repeat' (first | exact True.intro | refine And.intro ?_ ?_ | (intro _u; clear _u) | (with_reducible first | refine eM ?_ ?_ | refine eF ?_ ?_ ?_ | refine eN ?_ | refine eL ?_ ?_ ?_ | refine eA ?_ ?_ | refine IWk.mk ⟨_, hp, rfl⟩ ?_ ?_) | refine IWk.mk ⟨_, hp, rfl⟩ ?_ ?_)
                            all_goals first | with_reducible rfl | omega | exact Or.inl (by decide) | (simp; done) | rfl | skip
                            exact met_t hm
                        · repeat ((intro _u; clear _u); first | with_reducible first | refine cT ?_ | refine cF ?_ | refine cA ?_ | refine cB ?_ | refine aLn ?_ | refine cK ?_ | refine aS8 ?_ | refine wI ?_ | refine nD ?_ | refine aX rfl ?_ | refine vL rfl ?_)
                          intro _u; clear _u
                          refine nX (3) ?_ ?_ ⟨_, hp, rfl⟩ ?_ ?_
                          · omega
                          · omega
                          · all_goals repeat' (first | exact True.intro | refine And.intro ?_ ?_ | (intro _u; clear _u) | (with_reducible first | refine eM ?_ ?_ | refine eF ?_ ?_ ?_ | refine eN ?_ | refine eL ?_ ?_ ?_ | refine eA ?_ ?_ | refine IWk.mk ⟨_, hp, rfl⟩ ?_ ?_) | refine IWk.mk ⟨_, hp, rfl⟩ ?_ ?_)
                            all_goals first | with_reducible rfl | omega | exact Or.inl (by decide) | (simp; done) | rfl | skip
                          · all_goals repeat' (first | exact True.intro | refine And.intro ?_ ?_ | (intro _u; clear _u) | (with_reducible first | refine eM ?_ ?_ | refine eF ?_ ?_ ?_ | refine eN ?_ | refine eL ?_ ?_ ?_ | refine eA ?_ ?_ | refine IWk.mk ⟨_, hp, rfl⟩ ?_ ?_) | refine IWk.mk ⟨_, hp, rfl⟩ ?_ ?_)
                            all_goals first | with_reducible rfl | omega | exact Or.inl (by decide) | (simp; done) | rfl | skip
                            exact met_f hm
                      · repeat ((intro _u; clear _u); first | with_reducible first | refine cT ?_ | refine cF ?_ | refine cA ?_ | refine cB ?_ | refine aLn ?_ | refine cK ?_ | refine aS8 ?_ | refine wI ?_ | refine nD ?_ | refine aX rfl ?_ | refine vL rfl ?_)
                        intro _u; clear _u
                        refine acnd_t (by decide) ?_
                        repeat ((intro _u; clear _u); first | with_reducible first | refine cT ?_ | refine cF ?_ | refine cA ?_ | refine cB ?_ | refine aLn ?_ | refine cK ?_ | refine aS8 ?_ | refine wI ?_ | refine nD ?_ | refine aX rfl ?_ | refine vL rfl ?_)
                        intro _u; clear _u
                        refine cS (fun hm => ?_) (fun hm => ?_)
                        · repeat ((intro _u; clear _u); first | with_reducible first | refine cT ?_ | refine cF ?_ | refine cA ?_ | refine cB ?_ | refine aLn ?_ | refine cK ?_ | refine aS8 ?_ | refine wI ?_ | refine nD ?_ | refine aX rfl ?_ | refine vL rfl ?_)
                          intro _u; clear _u
                          refine nX (4) ?_ ?_ ⟨_, hp, rfl⟩ ?_ ?_
                          · omega
                          · omega
                          · all_goals repeat' (first | exact True.intro | refine And.intro ?_ ?_ | (intro _u; clear _u) | (with_reducible first | refine eM ?_ ?_ | refine eF ?_ ?_ ?_ | refine eN ?_ | refine eL ?_ ?_ ?_ | refine eA ?_ ?_ | refine IWk.mk ⟨_, hp, rfl⟩ ?_ ?_) | refine IWk.mk ⟨_, hp, rfl⟩ ?_ ?_)
                            all_goals first | with_reducible rfl | omega | exact Or.inl (by decide) | (simp; done) | rfl | skip
                          · all_goals repeat' (first | exact True.intro | refine And.intro ?_ ?_ | (intro _u; clear _u) | (with_reducible first | refine eM ?_ ?_ | refine eF ?_ ?_ ?_ | refine eN ?_ | refine eL ?_ ?_ ?_ | refine eA ?_ ?_ | refine IWk.mk ⟨_, hp, rfl⟩ ?_ ?_) | refine IWk.mk ⟨_, hp, rfl⟩ ?_ ?_)
                            all_goals first | with_reducible rfl | omega | exact Or.inl (by decide) | (simp; done) | rfl | skip
                            exact met_t hm
                        · repeat ((intro _u; clear _u); first | with_reducible first | refine cT ?_ | refine cF ?_ | refine cA ?_ | refine cB ?_ | refine aLn ?_ | refine cK ?_ | refine aS8 ?_ | refine wI ?_ | refine nD ?_ | refine aX rfl ?_ | refine vL rfl ?_)
                          intro _u; clear _u
                          refine nX (4) ?_ ?_ ⟨_, hp, rfl⟩ ?_ ?_
                          · omega
                          · omega
                          · all_goals repeat' (first | exact True.intro | refine And.intro ?_ ?_ | (intro _u; clear _u) | (with_reducible first | refine eM ?_ ?_ | refine eF ?_ ?_ ?_ | refine eN ?_ | refine eL ?_ ?_ ?_ | refine eA ?_ ?_ | refine IWk.mk ⟨_, hp, rfl⟩ ?_ ?_) | refine IWk.mk ⟨_, hp, rfl⟩ ?_ ?_)
                            all_goals first | with_reducible rfl | omega | exact Or.inl (by decide) | (simp; done) | rfl | skip
                          · all_goals repeat' (first | exact True.intro | refine And.intro ?_ ?_ | (intro _u; clear _u) | (with_reducible first | refine eM ?_ ?_ | refine eF ?_ ?_ ?_ | refine eN ?_ | refine eL ?_ ?_ ?_ | refine eA ?_ ?_ | refine IWk.mk ⟨_, hp, rfl⟩ ?_ ?_) | refine IWk.mk ⟨_, hp, rfl⟩ ?_ ?_)
                            all_goals first | with_reducible rfl | omega | exact Or.inl (by decide) | (simp; done) | rfl | skip
                            exact met_f hm
                      · repeat ((intro _u; clear _u); first | with_reducible first | refine cT ?_ | refine cF ?_ | refine cA ?_ | refine cB ?_ | refine aLn ?_ | refine cK ?_ | refine aS8 ?_ | refine wI ?_ | refine nD ?_ | refine aX rfl ?_ | refine vL rfl ?_)
                        intro _u; clear _u
                        refine acnd_t (by decide) ?_
                        repeat ((intro _u; clear _u); first | with_reducible first | refine cT ?_ | refine cF ?_ | refine cA ?_ | refine cB ?_ | refine aLn ?_ | refine cK ?_ | refine aS8 ?_ | refine wI ?_ | refine nD ?_ | refine aX rfl ?_ | refine vL rfl ?_)
                        intro _u; clear _u
                        refine cS (fun hm => ?_) (fun hm => ?_)
                        · repeat ((intro _u; clear _u); first | with_reducible first | refine cT ?_ | refine cF ?_ | refine cA ?_ | refine cB ?_ | refine aLn ?_ | refine cK ?_ | refine aS8 ?_ | refine wI ?_ | refine nD ?_ | refine aX rfl ?_ | refine vL rfl ?_)
                          intro _u; clear _u
                          refine nX (5) ?_ ?_ ⟨_, hp, rfl⟩ ?_ ?_
                          · omega
                          · omega
                          · all_goals repeat' (first | exact True.intro | refine And.intro ?_ ?_ | (intro _u; clear _u) | (with_reducible first | refine eM ?_ ?_ | refine eF ?_ ?_ ?_ | refine eN ?_ | refine eL ?_ ?_ ?_ | refine eA ?_ ?_ | refine IWk.mk ⟨_, hp, rfl⟩ ?_ ?_) | refine IWk.mk ⟨_, hp, rfl⟩ ?_ ?_)
                            all_goals first | with_reducible rfl | omega | exact Or.inl (by decide) | (simp; done) | rfl | skip
                          · all_goals repeat' (first | exact True.intro | refine And.intro ?_ ?_ | (intro _u; clear _u) | (with_reducible first | refine eM ?_ ?_ | refine eF ?_ ?_ ?_ | refine eN ?_ | refine eL ?_ ?_ ?_ | refine eA ?_ ?_ | refine IWk.mk ⟨_, hp, rfl⟩ ?_ ?_) | refine IWk.mk ⟨_, hp, rfl⟩ ?_ ?_)
                            all_goals first | with_reducible rfl | omega | exact Or.inl (by decide) | (simp; done) | rfl | skip
                            exact met_t hm
                        · repeat ((intro _u; clear _u); first | with_reducible first | refine cT ?_ | refine cF ?_ | refine cA ?_ | refine cB ?_ | refine aLn ?_ | refine cK ?_ | refine aS8 ?_ | refine wI ?_ | refine nD ?_ | refine aX rfl ?_ | refine vL rfl ?_)
                          intro _u; clear _u
                          refine nX (5) ?_ ?_ ⟨_, hp, rfl⟩ ?_ ?_
                          · omega
                          · omega
                          · all_goals repeat' (first | exact True.intro | refine And.intro ?_ ?_ | (intro _u; clear _u) | (with_reducible first | refine eM ?_ ?_ | refine eF ?_ ?_ ?_ | refine eN ?_ | refine eL ?_ ?_ ?_ | refine eA ?_ ?_ | refine IWk.mk ⟨_, hp, rfl⟩ ?_ ?_) | refine IWk.mk ⟨_, hp, rfl⟩ ?_ ?_)
                            all_goals first | with_reducible rfl | omega | exact Or.inl (by decide) | (simp; done) | rfl | skip
                          · all_goals repeat' (first | exact True.intro | refine And.intro ?_ ?_ | (intro _u; clear _u) | (with_reducible first | refine eM ?_ ?_ | refine eF ?_ ?_ ?_ | refine eN ?_ | refine eL ?_ ?_ ?_ | refine eA ?_ ?_ | refine IWk.mk ⟨_, hp, rfl⟩ ?_ ?_) | refine IWk.mk ⟨_, hp, rfl⟩ ?_ ?_)
                            all_goals first | with_reducible rfl | omega | exact Or.inl (by decide) | (simp; done) | rfl | skip
                            exact met_f hm
                      · repeat ((intro _u; clear _u); first | with_reducible first | refine cT ?_ | refine cF ?_ | refine cA ?_ | refine cB ?_ | refine aLn ?_ | refine cK ?_ | refine aS8 ?_ | refine wI ?_ | refine nD ?_ | refine aX rfl ?_ | refine vL rfl ?_)
                        intro _u; clear _u
                        refine acnd_t (by decide) ?_
                        repeat ((intro _u; clear _u); first | with_reducible first | refine cT ?_ | refine cF ?_ | refine cA ?_ | refine cB ?_ | refine aLn ?_ | refine cK ?_ | refine aS8 ?_ | refine wI ?_ | refine nD ?_ | refine aX rfl ?_ | refine vL rfl ?_)
                        intro _u; clear _u
                        refine cS (fun hm => ?_) (fun hm => ?_)
                        · repeat ((intro _u; clear _u); first | with_reducible first | refine cT ?_ | refine cF ?_ | refine cA ?_ | refine cB ?_ | refine aLn ?_ | refine cK ?_ | refine aS8 ?_ | refine wI ?_ | refine nD ?_ | refine aX rfl ?_ | refine vL rfl ?_)
                          intro _u; clear _u
                          refine nX (6) ?_ ?_ ⟨_, hp, rfl⟩ ?_ ?_
                          · omega
                          · omega
                          · all_goals repeat' (first | exact True.intro | refine And.intro ?_ ?_ | (intro _u; clear _u) | (with_reducible first | refine eM ?_ ?_ | refine eF ?_ ?_ ?_ | refine eN ?_ | refine eL ?_ ?_ ?_ | refine eA ?_ ?_ | refine IWk.mk ⟨_, hp, rfl⟩ ?_ ?_) | refine IWk.mk ⟨_, hp, rfl⟩ ?_ ?_)
                            all_goals first | with_reducible rfl | omega | exact Or.inl (by decide) | (simp; done) | rfl | skip
                          · all_goals repeat' (first | exact True.intro | refine And.intro ?_ ?_ | (intro _u; clear _u) | (with_reducible first | refine eM ?_ ?_ | refine eF ?_ ?_ ?_ | refine eN ?_ | refine eL ?_ ?_ ?_ | refine eA ?_ ?_ | refine IWk.mk ⟨_, hp, rfl⟩ ?_ ?_) | refine IWk.mk ⟨_, hp, rfl⟩ ?_ ?_)
                            all_goals first | with_reducible rfl | omega | exact Or.inl (by decide) | (simp; done) | rfl | skip
                            exact met_t hm
                        · repeat ((intro _u; clear _u); first | with_reducible first | refine cT ?_ | refine cF ?_ | refine cA ?_ | refine cB ?_ | refine aLn ?_ | refine cK ?_ | refine aS8 ?_ | refine wI ?_ | refine nD ?_ | refine aX rfl ?_ | refine vL rfl ?_)
                          intro _u; clear _u
                          refine nX (6) ?_ ?_ ⟨_, hp, rfl⟩ ?_ ?_
                          · omega
                          · omega
                          · all_goals repeat' (first | exact True.intro | refine And.intro ?_ ?_ | (intro _u; clear _u) | (with_reducible first | refine eM ?_ ?_ | refine eF ?_ ?_ ?_ | refine eN ?_ | refine eL ?_ ?_ ?_ | refine eA ?_ ?_ | refine IWk.mk ⟨_, hp, rfl⟩ ?_ ?_) | refine IWk.mk ⟨_, hp, rfl⟩ ?_ ?_)
                            all_goals first | with_reducible rfl | omega | exact Or.inl (by decide) | (simp; done) | rfl | skip
                          · all_goals repeat' (first | exact True.intro | refine And.intro ?_ ?_ | (intro _u; clear _u) | (with_reducible first | refine eM ?_ ?_ | refine eF ?_ ?_ ?_ | refine eN ?_ | refine eL ?_ ?_ ?_ | refine eA ?_ ?_ | refine IWk.mk ⟨_, hp, rfl⟩ ?_ ?_) | refine IWk.mk ⟨_, hp, rfl⟩ ?_ ?_)
                            all_goals first | with_reducible rfl | omega | exact Or.inl (by decide) | (simp; done) | rfl | skip
                            exact met_f hm
                · obtain rfl | rfl | rfl | rfl | rfl | rfl : j = 0 ∨ j = 1 ∨ j = 2 ∨ j = 3 ∨ j = 4 ∨ j = 5 := by omega
                  · repeat ((intro _u; clear _u); first | with_reducible first | refine cT ?_ | refine cF ?_ | refine cA ?_ | refine cB ?_ | refine aLn ?_ | refine cK ?_ | refine aS8 ?_ | refine wI ?_ | refine nD ?_ | refine aX rfl ?_ | refine vL rfl ?_)
                    intro _u; clear _u
                    refine acnd_t (by decide) ?_
                    repeat ((intro _u; clear _u); first | with_reducible first | refine cT ?_ | refine cF ?_ | refine cA ?_ | refine cB ?_ | refine aLn ?_ | refine cK ?_ | refine aS8 ?_ | refine wI ?_ | refine nD ?_ | refine aX rfl ?_ | refine vL rfl ?_)
                    intro _u; clear _u
                    refine cS (fun hm => ?_) (fun hm => ?_)
                    · repeat ((intro _u; clear _u); first | with_reducible first | refine cT ?_ | refine cF ?_ | refine cA ?_ | refine cB ?_ | refine aLn ?_ | refine cK ?_ | refine aS8 ?_ | refine wI ?_ | refine nD ?_ | refine aX rfl ?_ | refine vL rfl ?_)
                      intro _u; clear _u
                      refine nX (1) ?_ ?_ ⟨_, hp, rfl⟩ ?_ ?_
                      · omega
                      · omega
                      · all_goals repeat' (first | exact True.intro | refine And.intro ?_ ?_ | (intro _u; clear _u) | (with_reducible first | refine eM ?_ ?_ | refine eF ?_ ?_ ?_ | refine eN ?_ | refine eL ?_ ?_ ?_ | refine eA ?_ ?_ | refine IWk.mk ⟨_, hp, rfl⟩ ?_ ?_) | refine IWk.mk ⟨_, hp, rfl⟩ ?_ ?_)
                        all_goals first | with_reducible rfl | omega | exact Or.inl (by decide) | (simp; done) | rfl | skip
                      · all_goals repeat' (first | exact True.intro | refine And.intro ?_ ?_ | (intro _u; clear _u) | (with_reducible first | refine eM ?_ ?_ | refine eF ?_ ?_ ?_ | refine eN ?_ | refine eL ?_ ?_ ?_ | refine eA ?_ ?_ | refine IWk.mk ⟨_, hp, rfl⟩ ?_ ?_) | refine IWk.mk ⟨_, hp, rfl⟩ ?_ ?_)
                        all_goals first | with_reducible rfl | omega | exact Or.inl (by decide) | (simp; done) | rfl | skip
                        exact met_t hm
                    · repeat ((intro _u; clear _u); first | with_reducible first | refine cT ?_ | refine cF ?_ | refine cA ?_ | refine cB ?_ | refine aLn ?_ | refine cK ?_ | refine aS8 ?_ | refine wI ?_ | refine nD ?_ | refine aX rfl ?_ | refine vL rfl ?_)
                      intro _u; clear _u
                      refine nX (1) ?_ ?_ ⟨_, hp, rfl⟩ ?_ ?_
                      · omega
                      · omega
                      · all_goals repeat' (first | exact True.intro | refine And.intro ?_ ?_ | (intro _u; clear _u) | (with_reducible first | refine eM ?_ ?_ | refine eF ?_ ?_ ?_ | refine eN ?_ | refine eL ?_ ?_ ?_ | refine eA ?_ ?_ | refine IWk.mk ⟨_, hp, rfl⟩ ?_ ?_) | refine IWk.mk ⟨_, hp, rfl⟩ ?_ ?_)
                        all_goals first | with_reducible rfl | omega | exact Or.inl (by decide) | (simp; done) | rfl | skip
                      · all_goals repeat' (first | exact True.intro | refine And.intro ?_ ?_ | (intro _u; clear _u) | (with_reducible first | refine eM ?_ ?_ | refine eF ?_ ?_ ?_ | refine eN ?_ | refine eL ?_ ?_ ?_ | refine eA ?_ ?_ | refine IWk.mk ⟨_, hp, rfl⟩ ?_ ?_) | refine IWk.mk ⟨_, hp, rfl⟩ ?_ ?_)
                        all_goals first | with_reducible rfl | omega | exact Or.inl (by decide) | (simp; done) | rfl | skip
                        exact met_f hm
                  · repeat ((intro _u; clear _u); first | with_reducible first | refine cT ?_ | refine cF ?_ | refine cA ?_ | refine cB ?_ | refine aLn ?_ | refine cK ?_ | refine aS8 ?_ | refine wI ?_ | refine nD ?_ | refine aX rfl ?_ | refine vL rfl ?_)
                    intro _u; clear _u
                    refine acnd_t (by decide) ?_
                    repeat ((intro _u; clear _u); first | with_reducible first | refine cT ?_ | refine cF ?_ | refine cA ?_ | refine cB ?_ | refine aLn ?_ | refine cK ?_ | refine aS8 ?_ | refine wI ?_ | refine nD ?_ | refine aX rfl ?_ | refine vL rfl ?_)
                    intro _u; clear _u
                    refine cS (fun hm => ?_) (fun hm => ?_)
                    · repeat ((intro _u; clear _u); first | with_reducible first | refine cT ?_ | refine cF ?_ | refine cA ?_ | refine cB ?_ | refine aLn ?_ | refine cK ?_ | refine aS8 ?_ | refine wI ?_ | refine nD ?_ | refine aX rfl ?_ | refine vL rfl ?_)
                      intro _u; clear _u
                      refine nX (2) ?_ ?_ ⟨_, hp, rfl⟩ ?_ ?_
                      · omega
                      · omega
                      · all_goals repeat' (first | exact True.intro | refine And.intro ?_ ?_ | (intro _u; clear _u) | (with_reducible first | refine eM ?_ ?_ | refine eF ?_ ?_ ?_ | refine eN ?_ | refine eL ?_ ?_ ?_ | refine eA ?_ ?_ | refine IWk.mk ⟨_, hp, rfl⟩ ?_ ?_) | refine IWk.mk ⟨_, hp, rfl⟩ ?_ ?_)
                        all_goals first | with_reducible rfl | omega | exact Or.inl (by decide) | (simp; done) | rfl | skip
                      · all_goals repeat' (first | exact True.intro | refine And.intro ?_ ?_ | (intro _u; clear _u) | (with_reducible first | refine eM ?_ ?_ | refine eF ?_ ?_ ?_ | refine eN ?_ | refine eL ?_ ?_ ?_ | refine eA ?_ ?_ | refine IWk.mk ⟨_, hp, rfl⟩ ?_ ?_) | refine IWk.mk ⟨_, hp, rfl⟩ ?_ ?_)
                        all_goals first | with_reducible rfl | omega | exact Or.inl (by decide) | (simp; done) | rfl | skip
                        exact met_t hm
                    · repeat ((intro _u; clear _u); first | with_reducible first | refine cT ?_ | refine cF ?_ | refine cA ?_ | refine cB ?_ | refine aLn ?_ | refine cK ?_ | refine aS8 ?_ | refine wI ?_ | refine nD ?_ | refine aX rfl ?_ | refine vL rfl ?_)
                      intro _u; clear _u
                      refine nX (2) ?_ ?_ ⟨_, hp, rfl⟩ ?_ ?_
                      · omega
                      · omega
                      · all_goals repeat' (first | exact True.intro | refine And.intro ?_ ?_ | (intro _u; clear _u) | (with_reducible first | refine eM ?_ ?_ | refine eF ?_ ?_ ?_ | refine eN ?_ | refine eL ?_ ?_ ?_ | refine eA ?_ ?_ | refine IWk.mk ⟨_, hp, rfl⟩ ?_ ?_) | refine IWk.mk ⟨_, hp, rfl⟩ ?_ ?_)
                        all_goals first | with_reducible rfl | omega | exact Or.inl (by decide) | (simp; done) | rfl | skip
                      · all_goals repeat' (first | exact True.intro | refine And.intro ?_ ?_ | (intro _u; clear _u) | (with_reducible first | refine eM ?_ ?_ | refine eF ?_ ?_ ?_ | refine eN ?_ | refine eL ?_ ?_ ?_ | refine eA ?_ ?_ | refine IWk.mk ⟨_, hp, rfl⟩ ?_ ?_) | refine IWk.mk ⟨_, hp, rfl⟩ ?_ ?_)
                        all_goals first | with_reducible rfl | omega | exact Or.inl (by decide) | (simp; done) | rfl | skip
                        exact met_f hm
                  · repeat ((intro _u; clear _u); first | with_reducible first | refine cT ?_ | refine cF ?_ | refine cA ?_ | refine cB ?_ | refine aLn ?_ | refine cK ?_ | refine aS8 ?_ | refine wI ?_ | refine nD ?_ | refine aX rfl ?_ | refine vL rfl ?_)
                    intro _u; clear _u
                    refine acnd_t (by decide) ?_
                    repeat ((intro _u; clear _u); first | with_reducible first | refine cT ?_ | refine cF ?_ | refine cA ?_ | refine cB ?_ | refine aLn ?_ | refine cK ?_ | refine aS8 ?_ | refine wI ?_ | refine nD ?_ | refine aX rfl ?_ | refine vL rfl ?_)
                    intro _u; clear _u
                    refine cS (fun hm => ?_) (fun hm => ?_)
                    · repeat ((intro _u; clear _u); first | with_reducible first | refine cT ?_ | refine cF ?_ | refine cA ?_ | refine cB ?_ | refine aLn ?_ | refine cK ?_ | refine aS8 ?_ | refine wI ?_ | refine nD ?_ | refine aX rfl ?_ | refine vL rfl ?_)
                      intro _u; clear _u
                      refine nX (3) ?_ ?_ ⟨_, hp, rfl⟩ ?_ ?_
                      · omega
                      · omega
                      · all_goals repeat' (first | exact True.intro | refine And.intro ?_ ?_ | (intro _u; clear _u) | (with_reducible first | refine eM ?_ ?_ | refine eF ?_ ?_ ?_ | refine eN ?_ | refine eL ?_ ?_ ?_ | refine eA ?_ ?_ | refine IWk.mk ⟨_, hp, rfl⟩ ?_ ?_) | refine IWk.mk ⟨_, hp, rfl⟩ ?_ ?_)
                        all_goals first | with_reducible rfl | omega | exact Or.inl (by decide) | (simp; done) | rfl | skip
                      · all_goals repeat' (first | exact True.intro | refine And.intro ?_ ?_ | (intro _u; clear _u) | (with_reducible first | refine eM ?_ ?_ | refine eF ?_ ?_ ?_ | refine eN ?_ | refine eL ?_ ?_ ?_ | refine eA ?_ ?_ | refine IWk.mk ⟨_, hp, rfl⟩ ?_ ?_) | refine IWk.mk ⟨_, hp, rfl⟩ ?_ ?_)
                        all_goals first | with_reducible rfl | omega | exact Or.inl (by decide) | (simp; done) | rfl | skip
                        exact met_t hm
                    · repeat ((intro _u; clear _u); first | with_reducible first | refine cT ?_ | refine cF ?_ | refine cA ?_ | refine cB ?_ | refine aLn ?_ | refine cK ?_ | refine aS8 ?_ | refine wI ?_ | refine nD ?_ | refine aX rfl ?_ | refine vL rfl ?_)
                      intro _u; clear _u
                      refine nX (3) ?_ ?_ ⟨_, hp, rfl⟩ ?_ ?_
                      · omega
                      · omega
                      · all_goals repeat' (first | exact True.intro | refine And.intro ?_ ?_ | (intro _u; clear _u) | (with_reducible first | refine eM ?_ ?_ | refine eF ?_ ?_ ?_ | refine eN ?_ | refine eL ?_ ?_ ?_ | refine eA ?_ ?_ | refine IWk.mk ⟨_, hp, rfl⟩ ?_ ?_) | refine IWk.mk ⟨_, hp, rfl⟩ ?_ ?_)
                        all_goals first | with_reducible rfl | omega | exact Or.inl (by decide) | (simp; done) | rfl | skip
                      · all_goals repeat' (first | exact True.intro | refine And.intro ?_ ?_ | (intro _u; clear _u) | (with_reducible first | refine eM ?_ ?_ | refine eF ?_ ?_ ?_ | refine eN ?_ | refine eL ?_ ?_ ?_ | refine eA ?_ ?_ | refine IWk.mk ⟨_, hp, rfl⟩ ?_ ?_) | refine IWk.mk ⟨_, hp, rfl⟩ ?_ ?_)
                        all_goals first | with_reducible rfl | omega | exact Or.inl (by decide) | (simp; done) | rfl | skip
                        exact met_f hm
                  · repeat ((intro _u; clear _u); first | with_reducible first | refine cT ?_ | refine cF ?_ | refine cA ?_ | refine cB ?_ | refine aLn ?_ | refine cK ?_ | refine aS8 ?_ | refine wI ?_ | refine nD ?_ | refine aX rfl ?_ | refine vL rfl ?_)
                    intro _u; clear _u
                    refine acnd_t (by decide) ?_
                    repeat ((intro _u; clear _u); first | with_reducible first | refine cT ?_ | refine cF ?_ | refine cA ?_ | refine cB ?_ | refine aLn ?_ | refine cK ?_ | refine aS8 ?_ | refine wI ?_ | refine nD ?_ | refine aX rfl ?_ | refine vL rfl ?_)
                    intro _u; clear _u
                    refine cS (fun hm => ?_) (fun hm => ?_)
                    · repeat ((intro _u; clear _u); first | with_reducible first | refine cT ?_ | refine cF ?_ | refine cA ?_ | refine cB ?_ | refine aLn ?_ | refine cK ?_ | refine aS8 ?_ | refine wI ?_ | refine nD ?_ | refine aX rfl ?_ | refine vL rfl ?_)
                      intro _u; clear _u
                      refine nX (4) ?_ ?_ ⟨_, hp, rfl⟩ ?_ ?_
                      · omega
                      · omega
                      · all_goals repeat' (first | exact True.intro | refine And.intro ?_ ?_ | (intro _u; clear _u) | (with_reducible first | refine eM ?_ ?_ | refine eF ?_ ?_ ?_ | refine eN ?_ | refine eL ?_ ?_ ?_ | refine eA ?_ ?_ | refine IWk.mk ⟨_, hp, rfl⟩ ?_ ?_) | refine IWk.mk ⟨_, hp, rfl⟩ ?_ ?_)
                        all_goals first | with_reducible rfl | omega | exact Or.inl (by decide) | (simp; done) | rfl | skip
                      · all_goals repeat' (first | exact True.intro | refine And.intro ?_ ?_ | (intro _u; clear _u) | (with_reducible first | refine eM ?_ ?_ | refine eF ?_ ?_ ?_ | refine eN ?_ | refine eL ?_ ?_ ?_ | refine eA ?_ ?_ | refine IWk.mk ⟨_, hp, rfl⟩ ?_ ?_) | refine IWk.mk ⟨_, hp, rfl⟩ ?_ ?_)
                        all_goals first | with_reducible rfl | omega | exact Or.inl (by decide) | (simp; done) | rfl | skip
                        exact met_t hm
                    · repeat ((intro _u; clear _u); first | with_reducible first | refine cT ?_ | refine cF ?_ | refine cA ?_ | refine cB ?_ | refine aLn ?_ | refine cK ?_ | refine aS8 ?_ | refine wI ?_ | refine nD ?_ | refine aX rfl ?_ | refine vL rfl ?_)
                      intro _u; clear _u
                      refine nX (4) ?_ ?_ ⟨_, hp, rfl⟩ ?_ ?_
                      · omega
                      · omega
                      · all_goals repeat' (first | exact True.intro | refine And.intro ?_ ?_ | (intro _u; clear _u) | (with_reducible first | refine eM ?_ ?_ | refine eF ?_ ?_ ?_ | refine eN ?_ | refine eL ?_ ?_ ?_ | refine eA ?_ ?_ | refine IWk.mk ⟨_, hp, rfl⟩ ?_ ?_) | refine IWk.mk ⟨_, hp, rfl⟩ ?_ ?_)
                        all_goals first | with_reducible rfl | omega | exact Or.inl (by decide) | (simp; done) | rfl | skip
                      · all_goals repeat' (first | exact True.intro | refine And.intro ?_ ?_ | (intro _u; clear _u) | (with_reducible first | refine eM ?_ ?_ | refine eF ?_ ?_ ?_ | refine eN ?_ | refine eL ?_ ?_ ?_ | refine eA ?_ ?_ | refine IWk.mk ⟨_, hp, rfl⟩ ?_ ?_) | refine IWk.mk ⟨_, hp, rfl⟩ ?_ ?_)
                        all_goals first | with_reducible rfl | omega | exact Or.inl (by decide) | (simp; done) | rfl | skip
                        exact met_f hm
                  · repeat ((intro _u; clear _u); first | with_reducible first | refine cT ?_ | refine cF ?_ | refine cA ?_ | refine cB ?_ | refine aLn ?_ | refine cK ?_ | refine aS8 ?_ | refine wI ?_ | refine nD ?_ | refine aX rfl ?_ | refine vL rfl ?_)
                    intro _u; clear _u
                    refine acnd_t (by decide) ?_
                    repeat ((intro _u; clear _u); first | with_reducible first | refine cT ?_ | refine cF ?_ | refine cA ?_ | refine cB ?_ | refine aLn ?_ | refine cK ?_ | refine aS8 ?_ | refine wI ?_ | refine nD ?_ | refine aX rfl ?_ | refine vL rfl ?_)
                    intro _u; clear _u
                    refine cS (fun hm => ?_) (fun hm => ?_)
                    · repeat ((intro _u; clear _u); first | with_reducible first | refine cT ?_ | refine cF ?_ | refine cA ?_ | refine cB ?_ | refine aLn ?_ | refine cK ?_ | refine aS8 ?_ | refine wI ?_ | refine nD ?_ | refine aX rfl ?_ | refine vL rfl ?_)
                      intro _u; clear _u
                      refine nX (5) ?_ ?_ ⟨_, hp, rfl⟩ ?_ ?_
                      · omega
                      · omega
                      · all_goals repeat' (first | exact True.intro | refine And.intro ?_ ?_ | (intro _u; clear _u) | (with_reducible first | refine eM ?_ ?_ | refine eF ?_ ?_ ?_ | refine eN ?_ | refine eL ?_ ?_ ?_ | refine eA ?_ ?_ | refine IWk.mk ⟨_, hp, rfl⟩ ?_ ?_) | refine IWk.mk ⟨_, hp, rfl⟩ ?_ ?_)
                        all_goals first | with_reducible rfl | omega | exact Or.inl (by decide) | (simp; done) | rfl | skip
                      · all_goals repeat' (first | exact True.intro | refine And.intro ?_ ?_ | (intro _u; clear _u) | (with_reducible first | refine eM ?_ ?_ | refine eF ?_ ?_ ?_ | refine eN ?_ | refine eL ?_ ?_ ?_ | refine eA ?_ ?_ | refine IWk.mk ⟨_, hp, rfl⟩ ?_ ?_) | refine IWk.mk ⟨_, hp, rfl⟩ ?_ ?_)
                        all_goals first | with_reducible rfl | omega | exact Or.inl (by decide) | (simp; done) | rfl | skip
                        exact met_t hm
                    · repeat ((intro _u; clear _u); first | with_reducible first | refine cT ?_ | refine cF ?_ | refine cA ?_ | refine cB ?_ | refine aLn ?_ | refine cK ?_ | refine aS8 ?_ | refine wI ?_ | refine nD ?_ | refine aX rfl ?_ | refine vL rfl ?_)
                      intro _u; clear _u
                      refine nX (5) ?_ ?_ ⟨_, hp, rfl⟩ ?_ ?_
                      · omega
                      · omega
                      · all_goals repeat' (first | exact True.intro | refine And.intro ?_ ?_ | (intro _u; clear _u) | (with_reducible first | refine eM ?_ ?_ | refine eF ?_ ?_ ?_ | refine eN ?_ | refine eL ?_ ?_ ?_ | refine eA ?_ ?_ | refine IWk.mk ⟨_, hp, rfl⟩ ?_ ?_) | refine IWk.mk ⟨_, hp, rfl⟩ ?_ ?_)
                        all_goals first | with_reducible rfl | omega | exact Or.inl (by decide) | (simp; done) | rfl | skip
                      · all_goals repeat' (first | exact True.intro | refine And.intro ?_ ?_ | (intro _u; clear _u) | (with_reducible first | refine eM ?_ ?_ | refine eF ?_ ?_ ?_ | refine eN ?_ | refine eL ?_ ?_ ?_ | refine eA ?_ ?_ | refine IWk.mk ⟨_, hp, rfl⟩ ?_ ?_) | refine IWk.mk ⟨_, hp, rfl⟩ ?_ ?_)
                        all_goals first | with_reducible rfl | omega | exact Or.inl (by decide) | (simp; done) | rfl | skip
                        exact met_f hm
                  · repeat ((intro _u; clear _u); first | with_reducible first | refine cT ?_ | refine cF ?_ | refine cA ?_ | refine cB ?_ | refine aLn ?_ | refine cK ?_ | refine aS8 ?_ | refine wI ?_ | refine nD ?_ | refine aX rfl ?_ | refine vL rfl ?_)
                    intro _u; clear _u
                    refine acnd_t (by decide) ?_
                    repeat ((intro _u; clear _u); first | with_reducible first | refine cT ?_ | refine cF ?_ | refine cA ?_ | refine cB ?_ | refine aLn ?_ | refine cK ?_ | refine aS8 ?_ | refine wI ?_ | refine nD ?_ | refine aX rfl ?_ | refine vL rfl ?_)
                    intro _u; clear _u
                    refine cS (fun hm => ?_) (fun hm => ?_)
                    · repeat ((intro _u; clear _u); first | with_reducible first | refine cT ?_ | refine cF ?_ | refine cA ?_ | refine cB ?_ | refine aLn ?_ | refine cK ?_ | refine aS8 ?_ | refine wI ?_ | refine nD ?_ | refine aX rfl ?_ | refine vL rfl ?_)
                      intro _u; clear _u
                      refine nX (6) ?_ ?_ ⟨_, hp, rfl⟩ ?_ ?_
                      · omega
                      · omega
                      · all_goals repeat' (first | exact True.intro | refine And.intro ?_ ?_ | (intro _u; clear _u) | (with_reducible first | refine eM ?_ ?_ | refine eF ?_ ?_ ?_ | refine eN ?_ | refine eL ?_ ?_ ?_ | refine eA ?_ ?_ | refine IWk.mk ⟨_, hp, rfl⟩ ?_ ?_) | refine IWk.mk ⟨_, hp, rfl⟩ ?_ ?_)
                        all_goals first | with_reducible rfl | omega | exact Or.inl (by decide) | (simp; done) | rfl | skip
                      · all_goals repeat' (first | exact True.intro | refine And.intro ?_ ?_ | (intro _u; clear _u) | (with_reducible first | refine eM ?_ ?_ | refine eF ?_ ?_ ?_ | refine eN ?_ | refine eL ?_ ?_ ?_ | refine eA ?_ ?_ | refine IWk.mk ⟨_, hp, rfl⟩ ?_ ?_) | refine IWk.mk ⟨_, hp, rfl⟩ ?_ ?_)
                        all_goals first | with_reducible rfl | omega | exact Or.inl (by decide) | (simp; done) | rfl | skip
                        exact met_t hm
                    · repeat ((intro _u; clear _u); first | with_reducible first | refine cT ?_ | refine cF ?_ | refine cA ?_ | refine cB ?_ | refine aLn ?_ | refine cK ?_ | refine aS8 ?_ | refine wI ?_ | refine nD ?_ | refine aX rfl ?_ | refine vL rfl ?_)
                      intro _u; clear _u
                      refine nX (6) ?_ ?_ ⟨_, hp, rfl⟩ ?_ ?_
                      · omega
                      · omega
                      · all_goals repeat' (first | exact True.intro | refine And.intro ?_ ?_ | (intro _u; clear _u) | (with_reducible first | refine eM ?_ ?_ | refine eF ?_ ?_ ?_ | refine eN ?_ | refine eL ?_ ?_ ?_ | refine eA ?_ ?_ | refine IWk.mk ⟨_, hp, rfl⟩ ?_ ?_) | refine IWk.mk ⟨_, hp, rfl⟩ ?_ ?_)
                        all_goals first | with_reducible rfl | omega | exact Or.inl (by decide) | (simp; done) | rfl | skip
                      · all_goals repeat' (first | exact True.intro | refine And.intro ?_ ?_ | (intro _u; clear _u) | (with_reducible first | refine eM ?_ ?_ | refine eF ?_ ?_ ?_ | refine eN ?_ | refine eL ?_ ?_ ?_ | refine eA ?_ ?_ | refine IWk.mk ⟨_, hp, rfl⟩ ?_ ?_) | refine IWk.mk ⟨_, hp, rfl⟩ ?_ ?_)
                        all_goals first | with_reducible rfl | omega | exact Or.inl (by decide) | (simp; done) | rfl | skip
                        exact met_f hm
            · obtain rfl | rfl | rfl | rfl | rfl | rfl : j = 0 ∨ j = 1 ∨ j = 2 ∨ j = 3 ∨ j = 4 ∨ j = 5 := by omega
              · repeat ((intro _u; clear _u); first | with_reducible first | refine cT ?_ | refine cF ?_ | refine cA ?_ | refine cB ?_ | refine aLn ?_ | refine cK ?_ | refine aS8 ?_ | refine wI ?_ | refine nD ?_ | refine aX rfl ?_ | refine vL rfl ?_)
                intro _u; clear _u
                refine acnd_t (by decide) ?_
                repeat ((intro _u; clear _u); first | with_reducible first | refine cT ?_ | refine cF ?_ | refine cA ?_ | refine cB ?_ | refine aLn ?_ | refine cK ?_ | refine aS8 ?_ | refine wI ?_ | refine nD ?_ | refine aX rfl ?_ | refine vL rfl ?_)
                intro _u; clear _u
                refine cS (fun hm => ?_) (fun hm => ?_)
                · repeat ((intro _u; clear _u); first | with_reducible first | refine cT ?_ | refine cF ?_ | refine cA ?_ | refine cB ?_ | refine aLn ?_ | refine cK ?_ | refine aS8 ?_ | refine wI ?_ | refine nD ?_ | refine aX rfl ?_ | refine vL rfl ?_)
                  intro _u; clear _u
                  refine nX (1) ?_ ?_ ⟨_, hp, rfl⟩ ?_ ?_
                  · omega
                  · omega
                  · all_goals repeat' (first | exact True.intro | refine And.intro ?_ ?_ | (intro _u; clear _u) | (with_reducible first | refine eM ?_ ?_ | refine eF ?_ ?_ ?_ | refine eN ?_ | refine eL ?_ ?_ ?_ | refine eA ?_ ?_ | refine IWk.mk ⟨_, hp, rfl⟩ ?_ ?_) | refine IWk.mk ⟨_, hp, rfl⟩ ?_ ?_)
                    all_goals first | with_reducible rfl | omega | exact Or.inl (by decide) | (simp; done) | rfl | skip
                  · all_goals repeat' (first | exact True.intro | refine And.intro ?_ ?_ | (intro _u; clear _u) | (with_reducible first | refine eM ?_ ?_ | refine eF ?_ ?_ ?_ | refine eN ?_ | refine eL ?_ ?_ ?_ | refine eA ?_ ?_ | refine IWk.mk ⟨_, hp, rfl⟩ ?_ ?_) | refine IWk.mk ⟨_, hp, rfl⟩ ?_ ?_)
                    all_goals first | with_reducible rfl | omega | exact Or.inl (by decide) | (simp; done) | rfl | skip
                    exact met_t hm
                · repeat ((intro _u; clear _u); first | with_reducible first | refine cT ?_ | refine cF ?_ | refine cA ?_ | refine cB ?_ | refine aLn ?_ | refine cK ?_ | refine aS8 ?_ | refine wI ?_ | refine nD ?_ | refine aX rfl ?_ | refine vL rfl ?_)
                  intro _u; clear _u
                  refine nX (1) ?_ ?_ ⟨_, hp, rfl⟩ ?_ ?_
                  · omega
                  · omega
                  · all_goals repeat' (first | exact True.intro | refine And.intro ?_ ?_ | (intro _u; clear _u) | (with_reducible first | refine eM ?_ ?_ | refine eF ?_ ?_ ?_ | refine eN ?_ | refine eL ?_ ?_ ?_ | refine eA ?_ ?_ | refine IWk.mk ⟨_, hp, rfl⟩ ?_ ?_) | refine IWk.mk ⟨_, hp, rfl⟩ ?_ ?_)
                    all_goals first | with_reducible rfl | omega | exact Or.inl (by decide) | (simp; done) | rfl | skip
                  · all_goals repeat' (first | exact True.intro | refine And.intro ?_ ?_ | (intro _u; clear _u) | (with_reducible first | refine eM ?_ ?_ | refine eF ?_ ?_ ?_ | refine eN ?_ | refine eL ?_ ?_ ?_ | refine eA ?_ ?_ | refine IWk.mk ⟨_, hp, rfl⟩ ?_ ?_) | refine IWk.mk ⟨_, hp, rfl⟩ ?_ ?_)
                    all_goals first | with_reducible rfl | omega | exact Or.inl (by decide) | (simp; done) | rfl | skip
                    exact met_f hm
              · repeat ((intro _u; clear _u); first | with_reducible first | refine cT ?_ | refine cF ?_ | refine cA ?_ | refine cB ?_ | refine aLn ?_ | refine cK ?_ | refine aS8 ?_ | refine wI ?_ | refine nD ?_ | refine aX rfl ?_ | refine vL rfl ?_)
                intro _u; clear _u
                refine acnd_t (by decide) ?_
                repeat ((intro _u; clear _u); first | with_reducible first | refine cT ?_ | refine cF ?_ | refine cA ?_ | refine cB ?_ | refine aLn ?_ | refine cK ?_ | refine aS8 ?_ | refine wI ?_ | refine nD ?_ | refine aX rfl ?_ | refine vL rfl ?_)
                intro _u; clear _u
                refine cS (fun hm => ?_) (fun hm => ?_)
                · repeat ((intro _u; clear _u); first | with_reducible first | refine cT ?_ | refine cF ?_ | refine cA ?_ | refine cB ?_ | refine aLn ?_ | refine cK ?_ | refine aS8 ?_ | refine wI ?_ | refine nD ?_ | refine aX rfl ?_ | refine vL rfl ?_)
                  intro _u; clear _u
                  refine nX (2) ?_ ?_ ⟨_, hp, rfl⟩ ?_ ?_
                  · omega
                  · omega
                  · all_goals repeat' (first | exact True.intro | refine And.intro ?_ ?_ | (intro _u; clear _u) | (with_reducible first | refine eM ?_ ?_ | refine eF ?_ ?_ ?_ | refine eN ?_ | refine eL ?_ ?_ ?_ | refine eA ?_ ?_ | refine IWk.mk ⟨_, hp, rfl⟩ ?_ ?_) | refine IWk.mk ⟨_, hp, rfl⟩ ?_ ?_)
                    all_goals first | with_reducible rfl | omega | exact Or.inl (by decide) | (simp; done) | rfl | skip
                  · all_goals repeat' (first | exact True.intro | refine And.intro ?_ ?_ | (intro _u; clear _u) | (with_reducible first | refine eM ?_ ?_ | refine eF ?_ ?_ ?_ | refine eN ?_ | refine eL ?_ ?_ ?_ | refine eA ?_ ?_ | refine IWk.mk ⟨_, hp, rfl⟩ ?_ ?_) | refine IWk.mk ⟨_, hp, rfl⟩ ?_ ?_)
                    all_goals first | with_reducible rfl | omega | exact Or.inl (by decide) | (simp; done) | rfl | skip
                    exact met_t hm
                · repeat ((intro _u; clear _u); first | with_reducible first | refine cT ?_ | refine cF ?_ | refine cA ?_ | refine cB ?_ | refine aLn ?_ | refine cK ?_ | refine aS8 ?_ | refine wI ?_ | refine nD ?_ | refine aX rfl ?_ | refine vL rfl ?_)
                  intro _u; clear _u
                  refine nX (2) ?_ ?_ ⟨_, hp, rfl⟩ ?_ ?_
                  · omega
                  · omega
                  · all_goals repeat' (first | exact True.intro | refine And.intro ?_ ?_ | (intro _u; clear _u) | (with_reducible first | refine eM ?_ ?_ | refine eF ?_ ?_ ?_ | refine eN ?_ | refine eL ?_ ?_ ?_ | refine eA ?_ ?_ | refine IWk.mk ⟨_, hp, rfl⟩ ?_ ?_) | refine IWk.mk ⟨_, hp, rfl⟩ ?_ ?_)
                    all_goals first | with_reducible rfl | omega | exact Or.inl (by decide) | (simp; done) | rfl | skip
                  · all_goals repeat' (first | exact True.intro | refine And.intro ?_ ?_ | (intro _u; clear _u) | (with_reducible first | refine eM ?_ ?_ | refine eF ?_ ?_ ?_ | refine eN ?_ | refine eL ?_ ?_ ?_ | refine eA ?_ ?_ | refine IWk.mk ⟨_, hp, rfl⟩ ?_ ?_) | refine IWk.mk ⟨_, hp, rfl⟩ ?_ ?_)
                    all_goals first | with_reducible rfl | omega | exact Or.inl (by decide) | (simp; done) | rfl | skip
                    exact met_f hm
              · repeat ((intro _u; clear _u); first | with_reducible first | refine cT ?_ | refine cF ?_ | refine cA ?_ | refine cB ?_ | refine aLn ?_ | refine cK ?_ | refine aS8 ?_ | refine wI ?_ | refine nD ?_ | refine aX rfl ?_ | refine vL rfl ?_)
                intro _u; clear _u
                refine acnd_t (by decide) ?_
                repeat ((intro _u; clear _u); first | with_reducible first | refine cT ?_ | refine cF ?_ | refine cA ?_ | refine cB ?_ | refine aLn ?_ | refine cK ?_ | refine aS8 ?_ | refine wI ?_ | refine nD ?_ | refine aX rfl ?_ | refine vL rfl ?_)
                intro _u; clear _u
                refine cS (fun hm => ?_) (fun hm => ?_)
                · repeat ((intro _u; clear _u); first | with_reducible first | refine cT ?_ | refine cF ?_ | refine cA ?_ | refine cB ?_ | refine aLn ?_ | refine cK ?_ | refine aS8 ?_ | refine wI ?_ | refine nD ?_ | refine aX rfl ?_ | refine vL rfl ?_)
                  intro _u; clear _u
                  refine nX (3) ?_ ?_ ⟨_, hp, rfl⟩ ?_ ?_
                  · omega
                  · omega
                  · all_goals repeat' (first | exact True.intro | refine And.intro ?_ ?_ | (intro _u; clear _u) | (with_reducible first | refine eM ?_ ?_ | refine eF ?_ ?_ ?_ | refine eN ?_ | refine eL ?_ ?_ ?_ | refine eA ?_ ?_ | refine IWk.mk ⟨_, hp, rfl⟩ ?_ ?_) | refine IWk.mk ⟨_, hp, rfl⟩ ?_ ?_)
                    all_goals first | with_reducible rfl | omega | exact Or.inl (by decide) | (simp; done) | rfl | skip
                  · all_goals repeat' (first | exact True.intro | refine And.intro ?_ ?_ | (intro _u; clear _u) | (with_reducible first | refine eM ?_ ?_ | refine eF ?_ ?_ ?_ | refine eN ?_ | refine eL ?_ ?_ ?_ | refine eA ?_ ?_ | refine IWk.mk ⟨_, hp, rfl⟩ ?_ ?_) | refine IWk.mk ⟨_, hp, rfl⟩ ?_ ?_)
                    all_goals first | with_reducible rfl | omega | exact Or.inl (by decide) | (simp; done) | rfl | skip
                    exact met_t hm
                · repeat ((intro _u; clear _u); first | with_reducible first | refine cT ?_ | refine cF ?_ | refine cA ?_ | refine cB ?_ | refine aLn ?_ | refine cK ?_ | refine aS8 ?_ | refine wI ?_ | refine nD ?_ | refine aX rfl ?_ | refine vL rfl ?_)
                  intro _u; clear _u
                  refine nX (3) ?_ ?_ ⟨_, hp, rfl⟩ ?_ ?_
                  · omega
                  · omega
                  · all_goals repeat' (first | exact True.intro | refine And.intro ?_ ?_ | (intro _u; clear _u) | (with_reducible first | refine eM ?_ ?_ | refine eF ?_ ?_ ?_ | refine eN ?_ | refine eL ?_ ?_ ?_ | refine eA ?_ ?_ | refine IWk.mk ⟨_, hp, rfl⟩ ?_ ?_) | refine IWk.mk ⟨_, hp, rfl⟩ ?_ ?_)
                    all_goals first | with_reducible rfl | omega | exact Or.inl (by decide) | (simp; done) | rfl | skip
                  · all_goals repeat' (first | exact True.intro | refine And.intro ?_ ?_ | (intro _u; clear _u) | (with_reducible first | refine eM ?_ ?_ | refine eF ?_ ?_ ?_ | refine eN ?_ | refine eL ?_ ?_ ?_ | refine eA ?_ ?_ | refine IWk.mk ⟨_, hp, rfl⟩ ?_ ?_) | refine IWk.mk ⟨_, hp, rfl⟩ ?_ ?_)
                    all_goals first | with_reducible rfl | omega | exact Or.inl (by decide) | (simp; done) | rfl | skip
                    exact met_f hm
              · repeat ((intro _u; clear _u); first | with_reducible first | refine cT ?_ | refine cF ?_ | refine cA ?_ | refine cB ?_ | refine aLn ?_ | refine cK ?_ | refine aS8 ?_ | refine wI ?_ | refine nD ?_ | refine aX rfl ?_ | refine vL rfl ?_)
                intro _u; clear _u
                refine acnd_t (by decide) ?_
                repeat ((intro _u; clear _u); first | with_reducible first | refine cT ?_ | refine cF ?_ | refine cA ?_ | refine cB ?_ | refine aLn ?_ | refine cK ?_ | refine aS8 ?_ | refine wI ?_ | refine nD ?_ | refine aX rfl ?_ | refine vL rfl ?_)
                intro _u; clear _u
                refine cS (fun hm => ?_) (fun hm => ?_)
                · repeat ((intro _u; clear _u); first | with_reducible first | refine cT ?_ | refine cF ?_ | refine cA ?_ | refine cB ?_ | refine aLn ?_ | refine cK ?_ | refine aS8 ?_ | refine wI ?_ | refine nD ?_ | refine aX rfl ?_ | refine vL rfl ?_)
                  intro _u; clear _u
                  refine nX (4) ?_ ?_ ⟨_, hp, rfl⟩ ?_ ?_
                  · omega
                  · omega
                  · all_goals repeat' (first | exact True.intro | refine And.intro ?_ ?_ | (intro _u; clear _u) | (with_reducible first | refine eM ?_ ?_ | refine eF ?_ ?_ ?_ | refine eN ?_ | refine eL ?_ ?_ ?_ | refine eA ?_ ?_ | refine IWk.mk ⟨_, hp, rfl⟩ ?_ ?_) | refine IWk.mk ⟨_, hp, rfl⟩ ?_ ?_)
                    all_goals first | with_reducible rfl | omega | exact Or.inl (by decide) | (simp; done) | rfl | skip
                  · all_goals repeat' (first | exact True.intro | refine And.intro ?_ ?_ | (intro _u; clear _u) | (with_reducible first | refine eM ?_ ?_ | refine eF ?_ ?_ ?_ | refine eN ?_ | refine eL ?_ ?_ ?_ | refine eA ?_ ?_ | refine IWk.mk ⟨_, hp, rfl⟩ ?_ ?_) | refine IWk.mk ⟨_, hp, rfl⟩ ?_ ?_)
                    all_goals first | with_reducible rfl | omega | exact Or.inl (by decide) | (simp; done) | rfl | skip
                    exact met_t hm
                · repeat ((intro _u; clear _u); first | with_reducible first | refine cT ?_ | refine cF ?_ | refine cA ?_ | refine cB ?_ | refine aLn ?_ | refine cK ?_ | refine aS8 ?_ | refine wI ?_ | refine nD ?_ | refine aX rfl ?_ | refine vL rfl ?_)
                  intro _u; clear _u
                  refine nX (4) ?_ ?_ ⟨_, hp, rfl⟩ ?_ ?_
                  · omega
                  · omega
                  · all_goals repeat' (first | exact True.intro | refine And.intro ?_ ?_ | (intro _u; clear _u) | (with_reducible first | refine eM ?_ ?_ | refine eF ?_ ?_ ?_ | refine eN ?_ | refine eL ?_ ?_ ?_ | refine eA ?_ ?_ | refine IWk.mk ⟨_, hp, rfl⟩ ?_ ?_) | refine IWk.mk ⟨_, hp, rfl⟩ ?_ ?_)
                    all_goals first | with_reducible rfl | omega | exact Or.inl (by decide) | (simp; done) | rfl | skip
                  · all_goals repeat' (first | exact True.intro | refine And.intro ?_ ?_ | (intro _u; clear _u) | (with_reducible first | refine eM ?_ ?_ | refine eF ?_ ?_ ?_ | refine eN ?_ | refine eL ?_ ?_ ?_ | refine eA ?_ ?_ | refine IWk.mk ⟨_, hp, rfl⟩ ?_ ?_) | refine IWk.mk ⟨_, hp, rfl⟩ ?_ ?_)
                    all_goals first | with_reducible rfl | omega | exact Or.inl (by decide) | (simp; done) | rfl | skip
                    exact met_f hm
              · repeat ((intro _u; clear _u); first | with_reducible first | refine cT ?_ | refine cF ?_ | refine cA ?_ | refine cB ?_ | refine aLn ?_ | refine cK ?_ | refine aS8 ?_ | refine wI ?_ | refine nD ?_ | refine aX rfl ?_ | refine vL rfl ?_)
                intro _u; clear _u
                refine acnd_t (by decide) ?_
                repeat ((intro _u; clear _u); first | with_reducible first | refine cT ?_ | refine cF ?_ | refine cA ?_ | refine cB ?_ | refine aLn ?_ | refine cK ?_ | refine aS8 ?_ | refine wI ?_ | refine nD ?_ | refine aX rfl ?_ | refine vL rfl ?_)
                intro _u; clear _u
                refine cS (fun hm => ?_) (fun hm => ?_)
                · repeat ((intro _u; clear _u); first | with_reducible first | refine cT ?_ | refine cF ?_ | refine cA ?_ | refine cB ?_ | refine aLn ?_ | refine cK ?_ | refine aS8 ?_ | refine wI ?_ | refine nD ?_ | refine aX rfl ?_ | refine vL rfl ?_)
                  intro _u; clear _u
                  refine nX (5) ?_ ?_ ⟨_, hp, rfl⟩ ?_ ?_
                  · omega
                  · omega
                  · all_goals repeat' (first | exact True.intro | refine And.intro ?_ ?_ | (intro _u; clear _u) | (with_reducible first | refine eM ?_ ?_ | refine eF ?_ ?_ ?_ | refine eN ?_ | refine eL ?_ ?_ ?_ | refine eA ?_ ?_ | refine IWk.mk ⟨_, hp, rfl⟩ ?_ ?_) | refine IWk.mk ⟨_, hp, rfl⟩ ?_ ?_)
                    all_goals first | with_reducible rfl | omega | exact Or.inl (by decide) | (simp; done) | rfl | skip
                  · all_goals repeat' (first | exact True.intro | refine And.intro ?_ ?_ | (intro _u; clear _u) | (with_reducible first | refine eM ?_ ?_ | refine eF ?_ ?_ ?_ | refine eN ?_ | refine eL ?_ ?_ ?_ | refine eA ?_ ?_ | refine IWk.mk ⟨_, hp, rfl⟩ ?_ ?_) | refine IWk.mk ⟨_, hp, rfl⟩ ?_ ?_)
                    all_goals first | with_reducible rfl | omega | exact Or.inl (by decide) | (simp; done) | rfl | skip
                    exact met_t hm
                · repeat ((intro _u; clear _u); first | with_reducible first | refine cT ?_ | refine cF ?_ | refine cA ?_ | refine cB ?_ | refine aLn ?_ | refine cK ?_ | refine aS8 ?_ | refine wI ?_ | refine nD ?_ | refine aX rfl ?_ | refine vL rfl ?_)
                  intro _u; clear _u
                  refine nX (5) ?_ ?_ ⟨_, hp, rfl⟩ ?_ ?_
                  · omega
                  · omega
                  · all_goals repeat' (first | exact True.intro | refine And.intro ?_ ?_ | (intro _u; clear _u) | (with_reducible first | refine eM ?_ ?_ | refine eF ?_ ?_ ?_ | refine eN ?_ | refine eL ?_ ?_ ?_ | refine eA ?_ ?_ | refine IWk.mk ⟨_, hp, rfl⟩ ?_ ?_) | refine IWk.mk ⟨_, hp, rfl⟩ ?_ ?_)
                    all_goals first | with_reducible rfl | omega | exact Or.inl (by decide) | (simp; done) | rfl | skip
                  · all_goals repeat' (first | exact True.intro | refine And.intro ?_ ?_ | (intro _u; clear _u) | (with_reducible first | refine eM ?_ ?_ | refine eF ?_ ?_ ?_ | refine eN ?_ | refine eL ?_ ?_ ?_ | refine eA ?_ ?_ | refine IWk.mk ⟨_, hp, rfl⟩ ?_ ?_) | refine IWk.mk ⟨_, hp, rfl⟩ ?_ ?_)
                    all_goals first | with_reducible rfl | omega | exact Or.inl (by decide) | (simp; done) | rfl | skip
                    exact met_f hm
              · repeat ((intro _u; clear _u); first | with_reducible first | refine cT ?_ | refine cF ?_ | refine cA ?_ | refine cB ?_ | refine aLn ?_ | refine cK ?_ | refine aS8 ?_ | refine wI ?_ | refine nD ?_ | refine aX rfl ?_ | refine vL rfl ?_)
                intro _u; clear _u
                refine acnd_t (by decide) ?_
                repeat ((intro _u; clear _u); first | with_reducible first | refine cT ?_ | refine cF ?_ | refine cA ?_ | refine cB ?_ | refine aLn ?_ | refine cK ?_ | refine aS8 ?_ | refine wI ?_ | refine nD ?_ | refine aX rfl ?_ | refine vL rfl ?_)
                intro _u; clear _u
                refine cS (fun hm => ?_) (fun hm => ?_)
                · repeat ((intro _u; clear _u); first | with_reducible first | refine cT ?_ | refine cF ?_ | refine cA ?_ | refine cB ?_ | refine aLn ?_ | refine cK ?_ | refine aS8 ?_ | refine wI ?_ | refine nD ?_ | refine aX rfl ?_ | refine vL rfl ?_)
                  intro _u; clear _u
                  refine nX (6) ?_ ?_ ⟨_, hp, rfl⟩ ?_ ?_
                  · omega
                  · omega
                  · all_goals repeat' (first | exact True.intro | refine And.intro ?_ ?_ | (intro _u; clear _u) | (with_reducible first | refine eM ?_ ?_ | refine eF ?_ ?_ ?_ | refine eN ?_ | refine eL ?_ ?_ ?_ | refine eA ?_ ?_ | refine IWk.mk ⟨_, hp, rfl⟩ ?_ ?_) | refine IWk.mk ⟨_, hp, rfl⟩ ?_ ?_)
                    all_goals first | with_reducible rfl | omega | exact Or.inl (by decide) | (simp; done) | rfl | skip
                  · all_goals repeat' (first | exact True.intro | refine And.intro ?_ ?_ | (intro _u; clear _u) | (with_reducible first | refine eM ?_ ?_ | refine eF ?_ ?_ ?_ | refine eN ?_ | refine eL ?_ ?_ ?_ | refine eA ?_ ?_ | refine IWk.mk ⟨_, hp, rfl⟩ ?_ ?_) | refine IWk.mk ⟨_, hp, rfl⟩ ?_ ?_)
                    all_goals first | with_reducible rfl | omega | exact Or.inl (by decide) | (simp; done) | rfl | skip
                    exact met_t hm
                · repeat ((intro _u; clear _u); first | with_reducible first | refine cT ?_ | refine cF ?_ | refine cA ?_ | refine cB ?_ | refine aLn ?_ | refine cK ?_ | refine aS8 ?_ | refine wI ?_ | refine nD ?_ | refine aX rfl ?_ | refine vL rfl ?_)
                  intro _u; clear _u
                  refine nX (6) ?_ ?_ ⟨_, hp, rfl⟩ ?_ ?_
                  · omega
                  · omega
                  · all_goals repeat' (first | exact True.intro | refine And.intro ?_ ?_ | (intro _u; clear _u) | (with_reducible first | refine eM ?_ ?_ | refine eF ?_ ?_ ?_ | refine eN ?_ | refine eL ?_ ?_ ?_ | refine eA ?_ ?_ | refine IWk.mk ⟨_, hp, rfl⟩ ?_ ?_) | refine IWk.mk ⟨_, hp, rfl⟩ ?_ ?_)
                    all_goals first | with_reducible rfl | omega | exact Or.inl (by decide) | (simp; done) | rfl | skip
                  · all_goals repeat' (first | exact True.intro | refine And.intro ?_ ?_ | (intro _u; clear _u) | (with_reducible first | refine eM ?_ ?_ | refine eF ?_ ?_ ?_ | refine eN ?_ | refine eL ?_ ?_ ?_ | refine eA ?_ ?_ | refine IWk.mk ⟨_, hp, rfl⟩ ?_ ?_) | refine IWk.mk ⟨_, hp, rfl⟩ ?_ ?_)
                    all_goals first | with_reducible rfl | omega | exact Or.inl (by decide) | (simp; done) | rfl | skip
                    exact met_f hm
        · have hk2 : k = m.t.length := by omega
          subst hk2
          rw [Ms.mets_all mt.1]
          repeat ((intro _u; clear _u); first | with_reducible first | refine cT ?_ | refine cF ?_ | refine cA ?_ | refine cB ?_ | refine aLn ?_ | refine cK ?_ | refine aS8 ?_ | refine wI ?_ | refine nD ?_ | refine aX rfl ?_ | refine vL rfl ?_)
          intro _u; clear _u
          refine acnd_t (by rfl) ?_
          repeat ((intro _u; clear _u); first | with_reducible first | refine cT ?_ | refine cF ?_ | refine cA ?_ | refine cB ?_ | refine aLn ?_ | refine cK ?_ | refine aS8 ?_ | refine wI ?_ | refine nD ?_ | refine aX rfl ?_ | refine vL rfl ?_)
          intro _u; clear _u
          refine ICall.pure h.n194.o194.hb (works13_c h.n194) rfl ?_
          repeat ((intro _u; clear _u); first | with_reducible first | refine cT ?_ | refine cF ?_ | refine cA ?_ | refine cB ?_ | refine aLn ?_ | refine cK ?_ | refine aS8 ?_ | refine wI ?_ | refine nD ?_ | refine aX rfl ?_ | refine vL rfl ?_)
          intro _u; clear _u
          exact rT
    · rw [bx, if_pos hc] at c1
      repeat ((intro _u; clear _u); first | with_reducible first | refine cT ?_ | refine cF ?_ | refine cA ?_ | refine cB ?_ | refine aLn ?_ | refine cK ?_ | refine aS8 ?_ | refine wI ?_ | refine nD ?_ | refine aX rfl ?_ | refine vL rfl ?_)
      intro _u; clear _u
      refine ICall.pure h.n192.o192.hb c1 rfl ?_
      repeat ((intro _u; clear _u); first | with_reducible first | refine cT ?_ | refine cF ?_ | refine cA ?_ | refine cB ?_ | refine aLn ?_ | refine cK ?_ | refine aS8 ?_ | refine wI ?_ | refine nD ?_ | refine aX rfl ?_ | refine vL rfl ?_)
      intro _u; clear _u
      refine acnd_t (by simpa using hc) ?_
      repeat ((intro _u; clear _u); first | with_reducible first | refine cT ?_ | refine cF ?_ | refine cA ?_ | refine cB ?_ | refine aLn ?_ | refine cK ?_ | refine aS8 ?_ | refine wI ?_ | refine nD ?_ | refine aX rfl ?_ | refine vL rfl ?_)
      intro _u; clear _u
      refine ICall.pure h.n193.o193.hb (mcheck_c h.n193 m) rfl ?_
      repeat ((intro _u; clear _u); first | with_reducible first | refine cT ?_ | refine cF ?_ | refine cA ?_ | refine cB ?_ | refine aLn ?_ | refine cK ?_ | refine aS8 ?_ | refine wI ?_ | refine nD ?_ | refine aX rfl ?_ | refine vL rfl ?_)
      intro _u; clear _u
      refine acnd_t (by simp) ?_
      repeat ((intro _u; clear _u); first | with_reducible first | refine cT ?_ | refine cF ?_ | refine cA ?_ | refine cB ?_ | refine aLn ?_ | refine cK ?_ | refine aS8 ?_ | refine wI ?_ | refine nD ?_ | refine aX rfl ?_ | refine vL rfl ?_)
      intro _u; clear _u
      refine acnd_t (by rfl) ?_
      repeat ((intro _u; clear _u); first | with_reducible first | refine cT ?_ | refine cF ?_ | refine cA ?_ | refine cB ?_ | refine aLn ?_ | refine cK ?_ | refine aS8 ?_ | refine wI ?_ | refine nD ?_ | refine aX rfl ?_ | refine vL rfl ?_)
      intro _u; clear _u
      refine acnd_t (by rfl) ?_
      repeat ((intro _u; clear _u); first | with_reducible first | refine cT ?_ | refine cF ?_ | refine cA ?_ | refine cB ?_ | refine aLn ?_ | refine cK ?_ | refine aS8 ?_ | refine wI ?_ | refine nD ?_ | refine aX rfl ?_ | refine vL rfl ?_)
      intro _u; clear _u
      refine ICall.pure h.n194.o194.hb (works13_c h.n194) rfl ?_
      repeat ((intro _u; clear _u); first | with_reducible first | refine cT ?_ | refine cF ?_ | refine cA ?_ | refine cB ?_ | refine aLn ?_ | refine cK ?_ | refine aS8 ?_ | refine wI ?_ | refine nD ?_ | refine aX rfl ?_ | refine vL rfl ?_)
      intro _u; clear _u
      exact rT
end Go.UM

/- What comes in, opened. -/


namespace Go.UM
open Go.AM

theorem open8 {T : TT} {n e : Nat} {es : List (List AV)} (hT : T.d e = .int .u8) (h : ∀ r ∈ es, cty T (n + 1) e r) : ∃ l : List UInt8, es = slc8 l := by
  obtain ⟨l, rfl, _⟩ := rows_map (f := fun c : UInt8 => [AV.int .u8 c.toNat]) (p := fun _ => True) (es := es) fun r hr => by
    have h1 := h r hr
    simp only [cty, hT] at h1
    obtain ⟨x, rfl, hx⟩ := h1
    have hx := wf_in hx
    simp only [inI] at hx
    refine ⟨u8 x, ?_, trivial⟩
    rw [← wr_u8, wr_in (k := .u8) hx]
  exact ⟨l, rfl⟩

theorem openK {T : TT} {n e : Nat} {k : IntKind} {es : List (List AV)} (hT : T.d e = .int k) (h : ∀ r ∈ es, cty T (n + 1) e r) : ∃ l : List Int, es = slcK k l ∧ ∀ x ∈ l, inI k x := by
  obtain ⟨l, rfl, hl⟩ := rows_map (f := fun c : Int => [AV.int k c]) (p := fun c => inI k c) (es := es) fun r hr => by
    have h1 := h r hr
    simp only [cty, hT] at h1
    obtain ⟨x, rfl, hx⟩ := h1
    exact ⟨x, rfl, wf_in hx⟩
  exact ⟨l, rfl, hl⟩
end Go.UM
