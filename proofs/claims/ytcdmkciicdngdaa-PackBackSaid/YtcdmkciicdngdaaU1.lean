/- Of the reckoning machine, and what is proved with it: texts joined by program. -/
import Derived.Test.YtcdmkciicdngdaaU0
set_option linter.all false

/- The document's pack (umbraref39), and deltas made whole. -/




namespace Go.UM
open Go.AM
set_option maxRecDepth 4000

theorem pchk_2 {p : Pl} (h : ¬ (1 ≤ p.w ∧ p.w ≤ 64) ∨ ¬ (1 ≤ p.h ∧ p.h ≤ 64) ∨ ¬ (1 ≤ p.deep ∧ p.deep ≤ 4)) : pchk p = 2 := by unfold pchk; rw [if_pos h]
theorem pchk_n {p : Pl} (h : ¬ (¬ (1 ≤ p.w ∧ p.w ≤ 64) ∨ ¬ (1 ≤ p.h ∧ p.h ≤ 64) ∨ ¬ (1 ≤ p.deep ∧ p.deep ≤ 4))) (h2 : named p.name = false ∨ (p.data.length : Int) ≠ p.w * p.h * p.deep) : pchk p = 5 := by unfold pchk; rw [if_neg h, if_pos h2]
def px (x : Int) : Bool := decide (0 ≤ x) && decide (x ≤ 65535)
theorem pchk_d {p : Pl} (h : ¬ (¬ (1 ≤ p.w ∧ p.w ≤ 64) ∨ ¬ (1 ≤ p.h ∧ p.h ≤ 64) ∨ ¬ (1 ≤ p.deep ∧ p.deep ≤ 4))) (h2 : ¬ (named p.name = false ∨ (p.data.length : Int) ≠ p.w * p.h * p.deep)) : pchk p = if p.data.all px = false then 5 else 0 := by unfold pchk; rw [if_neg h, if_neg h2]; rfl


theorem rpcheck_c {R : Env} (h : N162 R) (p : Pl) (hs : p.name.length ≤ 1073741824) : R.Pc 162 [.agg p.row] (.int .i64 (pchk p)) :=
  h.o162.enter 100 rfl fun X bb hfit hp => by
    generalize hq : pchk p = q
    repeat ((intro _u; clear _u); first | with_reducible first | refine cT ?_ | refine cF ?_ | refine cA ?_ | refine cB ?_ | refine aLn ?_ | refine cK ?_ | refine aS8 ?_ | refine wI ?_ | refine nD ?_ | refine aX rfl ?_ | refine vL rfl ?_)
    intro _u; clear _u
    refine cS (fun h1 => ?_) (fun h1 => ?_)
    · rw [pchk_2 (by omega)] at hq
      subst hq
      repeat ((intro _u; clear _u); first | with_reducible first | refine cT ?_ | refine cF ?_ | refine cA ?_ | refine cB ?_ | refine aLn ?_ | refine cK ?_ | refine aS8 ?_ | refine wI ?_ | refine nD ?_ | refine aX rfl ?_ | refine vL rfl ?_)
      intro _u; clear _u
      exact rT
    · repeat ((intro _u; clear _u); first | with_reducible first | refine cT ?_ | refine cF ?_ | refine cA ?_ | refine cB ?_ | refine aLn ?_ | refine cK ?_ | refine aS8 ?_ | refine wI ?_ | refine nD ?_ | refine aX rfl ?_ | refine vL rfl ?_)
      intro _u; clear _u
      refine cS (fun h2 => ?_) (fun h2 => ?_)
      · rw [pchk_2 (by omega)] at hq
        subst hq
        repeat ((intro _u; clear _u); first | with_reducible first | refine cT ?_ | refine cF ?_ | refine cA ?_ | refine cB ?_ | refine aLn ?_ | refine cK ?_ | refine aS8 ?_ | refine wI ?_ | refine nD ?_ | refine aX rfl ?_ | refine vL rfl ?_)
        intro _u; clear _u
        exact rT
      · repeat ((intro _u; clear _u); first | with_reducible first | refine cT ?_ | refine cF ?_ | refine cA ?_ | refine cB ?_ | refine aLn ?_ | refine cK ?_ | refine aS8 ?_ | refine wI ?_ | refine nD ?_ | refine aX rfl ?_ | refine vL rfl ?_)
        intro _u; clear _u
        refine cS (fun h3 => ?_) (fun h3 => ?_)
        · rw [pchk_2 (by omega)] at hq
          subst hq
          repeat ((intro _u; clear _u); first | with_reducible first | refine cT ?_ | refine cF ?_ | refine cA ?_ | refine cB ?_ | refine aLn ?_ | refine cK ?_ | refine aS8 ?_ | refine wI ?_ | refine nD ?_ | refine aX rfl ?_ | refine vL rfl ?_)
          intro _u; clear _u
          exact rT
        · repeat ((intro _u; clear _u); first | with_reducible first | refine cT ?_ | refine cF ?_ | refine cA ?_ | refine cB ?_ | refine aLn ?_ | refine cK ?_ | refine aS8 ?_ | refine wI ?_ | refine nD ?_ | refine aX rfl ?_ | refine vL rfl ?_)
          intro _u; clear _u
          refine cS (fun h4 => ?_) (fun h4 => ?_)
          · rw [pchk_2 (by omega)] at hq
            subst hq
            repeat ((intro _u; clear _u); first | with_reducible first | refine cT ?_ | refine cF ?_ | refine cA ?_ | refine cB ?_ | refine aLn ?_ | refine cK ?_ | refine aS8 ?_ | refine wI ?_ | refine nD ?_ | refine aX rfl ?_ | refine vL rfl ?_)
            intro _u; clear _u
            exact rT
          · repeat ((intro _u; clear _u); first | with_reducible first | refine cT ?_ | refine cF ?_ | refine cA ?_ | refine cB ?_ | refine aLn ?_ | refine cK ?_ | refine aS8 ?_ | refine wI ?_ | refine nD ?_ | refine aX rfl ?_ | refine vL rfl ?_)
            intro _u; clear _u
            refine cS (fun h5 => ?_) (fun h5 => ?_)
            · rw [pchk_2 (by omega)] at hq
              subst hq
              repeat ((intro _u; clear _u); first | with_reducible first | refine cT ?_ | refine cF ?_ | refine cA ?_ | refine cB ?_ | refine aLn ?_ | refine cK ?_ | refine aS8 ?_ | refine wI ?_ | refine nD ?_ | refine aX rfl ?_ | refine vL rfl ?_)
              intro _u; clear _u
              exact rT
            · repeat ((intro _u; clear _u); first | with_reducible first | refine cT ?_ | refine cF ?_ | refine cA ?_ | refine cB ?_ | refine aLn ?_ | refine cK ?_ | refine aS8 ?_ | refine wI ?_ | refine nD ?_ | refine aX rfl ?_ | refine vL rfl ?_)
              intro _u; clear _u
              refine cS (fun h6 => ?_) (fun h6 => ?_)
              · rw [pchk_2 (by omega)] at hq
                subst hq
                repeat ((intro _u; clear _u); first | with_reducible first | refine cT ?_ | refine cF ?_ | refine cA ?_ | refine cB ?_ | refine aLn ?_ | refine cK ?_ | refine aS8 ?_ | refine wI ?_ | refine nD ?_ | refine aX rfl ?_ | refine vL rfl ?_)
                intro _u; clear _u
                exact rT
              · have hin : ¬ (¬ (1 ≤ p.w ∧ p.w ≤ 64) ∨ ¬ (1 ≤ p.h ∧ p.h ≤ 64) ∨ ¬ (1 ≤ p.deep ∧ p.deep ≤ 4)) := by omega
                have b1 : 0 ≤ p.w * p.h ∧ p.w * p.h ≤ 4096 := ⟨Int.mul_nonneg (by omega) (by omega), by have := Int.mul_le_mul h2 h4 (by omega) (by omega); omega⟩
                have b2 : 0 ≤ p.w * p.h * p.deep ∧ p.w * p.h * p.deep ≤ 16384 := ⟨Int.mul_nonneg b1.1 (by omega), by have := Int.mul_le_mul b1.2 h6 (by omega) (by omega); omega⟩
                have hnl : ¬ (1 ≤ (p.name.length : Int) ∧ (p.name.length : Int) ≤ 16) → named p.name = false := fun hh => by
                  simp [named]; omega
                repeat ((intro _u; clear _u); first | with_reducible first | refine cT ?_ | refine cF ?_ | refine cA ?_ | refine cB ?_ | refine aLn ?_ | refine cK ?_ | refine aS8 ?_ | refine wI ?_ | refine nD ?_ | refine aX rfl ?_ | refine vL rfl ?_)
                intro _u; clear _u
                refine cS (fun h7 => ?_) (fun h7 => ?_)
                · rw [pchk_n hin (.inl (hnl (by omega)))] at hq
                  subst hq
                  repeat ((intro _u; clear _u); first | with_reducible first | refine cT ?_ | refine cF ?_ | refine cA ?_ | refine cB ?_ | refine aLn ?_ | refine cK ?_ | refine aS8 ?_ | refine wI ?_ | refine nD ?_ | refine aX rfl ?_ | refine vL rfl ?_)
                  intro _u; clear _u
                  exact rT
                · repeat ((intro _u; clear _u); first | with_reducible first | refine cT ?_ | refine cF ?_ | refine cA ?_ | refine cB ?_ | refine aLn ?_ | refine cK ?_ | refine aS8 ?_ | refine wI ?_ | refine nD ?_ | refine aX rfl ?_ | refine vL rfl ?_)
                  intro _u; clear _u
                  refine cS (fun h8 => ?_) (fun h8 => ?_)
                  · rw [pchk_n hin (.inl (hnl (by omega)))] at hq
                    subst hq
                    repeat ((intro _u; clear _u); first | with_reducible first | refine cT ?_ | refine cF ?_ | refine cA ?_ | refine cB ?_ | refine aLn ?_ | refine cK ?_ | refine aS8 ?_ | refine wI ?_ | refine nD ?_ | refine aX rfl ?_ | refine vL rfl ?_)
                    intro _u; clear _u
                    exact rT
                  · repeat ((intro _u; clear _u); first | with_reducible first | refine cT ?_ | refine cF ?_ | refine cA ?_ | refine cB ?_ | refine aLn ?_ | refine cK ?_ | refine aS8 ?_ | refine wI ?_ | refine nD ?_ | refine aX rfl ?_ | refine vL rfl ?_)
                    intro _u; clear _u
                    refine cS (fun h9 => ?_) (fun h9 => ?_)
                    · rw [pchk_n hin (.inr h9)] at hq
                      subst hq
                      repeat ((intro _u; clear _u); first | with_reducible first | refine cT ?_ | refine cF ?_ | refine cA ?_ | refine cB ?_ | refine aLn ?_ | refine cK ?_ | refine aS8 ?_ | refine wI ?_ | refine nD ?_ | refine aX rfl ?_ | refine vL rfl ?_)
                      intro _u; clear _u
                      exact rT
                    · repeat ((intro _u; clear _u); first | with_reducible first | refine cT ?_ | refine cF ?_ | refine cA ?_ | refine cB ?_ | refine aLn ?_ | refine cK ?_ | refine aS8 ?_ | refine wI ?_ | refine nD ?_ | refine aX rfl ?_ | refine vL rfl ?_)
                      intro _u; clear _u
                      refine lPa 100 (fun k : Nat => k ≤ p.name.length ∧ (p.name.take k).all upper = true) (fun k => ⟨[(1, .loc 0 1 0 0), (3, .int .i64 k)], [(0, .var (R.ty 20) p.row)], 1⟩) (fun k => p.name.length - k) (0) ?_ ?_
                      · exact ⟨Nat.zero_le _, by simp⟩
                      · intro k hk
                        dsimp only
                        repeat ((intro _u; clear _u); first | with_reducible first | refine cT ?_ | refine cF ?_ | refine cA ?_ | refine cB ?_ | refine aLn ?_ | refine cK ?_ | refine aS8 ?_ | refine wI ?_ | refine nD ?_ | refine aX rfl ?_ | refine vL rfl ?_)
                        intro _u; clear _u
                        refine cS (fun ha => ?_) (fun ha => ?_)
                        · obtain ⟨x, hx⟩ : ∃ u, p.name[k]? = some u := ⟨_, List.getElem?_eq_getElem (by omega)⟩
                          have hgx : p.name.getD ((k : Int)).toNat 0 = x := by simp [List.getD_eq_getElem?_getD, hx]
                          have hx8 := x.toNat_lt
                          repeat ((intro _u; clear _u); first | with_reducible first | refine cT ?_ | refine cF ?_ | refine cA ?_ | refine cB ?_ | refine aLn ?_ | refine cK ?_ | refine aS8 ?_ | refine wI ?_ | refine nD ?_ | refine aX rfl ?_ | refine vL rfl ?_)
                          rw [hgx]
                          repeat ((intro _u; clear _u); first | with_reducible first | refine cT ?_ | refine cF ?_ | refine cA ?_ | refine cB ?_ | refine aLn ?_ | refine cK ?_ | refine aS8 ?_ | refine wI ?_ | refine nD ?_ | refine aX rfl ?_ | refine vL rfl ?_)
                          intro _u; clear _u
                          refine cS (fun hb => ?_) (fun hb => ?_)
                          · have hno : upper x = false := by simp [upper]; omega
                            rw [pchk_n hin (.inl (by simp [named, all_bad hx hno]))] at hq
                            subst hq
                            repeat ((intro _u; clear _u); first | with_reducible first | refine cT ?_ | refine cF ?_ | refine cA ?_ | refine cB ?_ | refine aLn ?_ | refine cK ?_ | refine aS8 ?_ | refine wI ?_ | refine nD ?_ | refine aX rfl ?_ | refine vL rfl ?_)
                            intro _u; clear _u
                            exact rT
                          · repeat ((intro _u; clear _u); first | with_reducible first | refine cT ?_ | refine cF ?_ | refine cA ?_ | refine cB ?_ | refine aLn ?_ | refine cK ?_ | refine aS8 ?_ | refine wI ?_ | refine nD ?_ | refine aX rfl ?_ | refine vL rfl ?_)
                            rw [hgx]
                            repeat ((intro _u; clear _u); first | with_reducible first | refine cT ?_ | refine cF ?_ | refine cA ?_ | refine cB ?_ | refine aLn ?_ | refine cK ?_ | refine aS8 ?_ | refine wI ?_ | refine nD ?_ | refine aX rfl ?_ | refine vL rfl ?_)
                            intro _u; clear _u
                            refine cS (fun hc => ?_) (fun hc => ?_)
                            · have hno : upper x = false := by simp [upper]; omega
                              rw [pchk_n hin (.inl (by simp [named, all_bad hx hno]))] at hq
                              subst hq
                              repeat ((intro _u; clear _u); first | with_reducible first | refine cT ?_ | refine cF ?_ | refine cA ?_ | refine cB ?_ | refine aLn ?_ | refine cK ?_ | refine aS8 ?_ | refine wI ?_ | refine nD ?_ | refine aX rfl ?_ | refine vL rfl ?_)
                              intro _u; clear _u
                              exact rT
                            · repeat ((intro _u; clear _u); first | with_reducible first | refine cT ?_ | refine cF ?_ | refine cA ?_ | refine cB ?_ | refine aLn ?_ | refine cK ?_ | refine aS8 ?_ | refine wI ?_ | refine nD ?_ | refine aX rfl ?_ | refine vL rfl ?_)
                              intro _u; clear _u
                              refine nXa (k + 1) ?_ ?_
                              · refine ⟨by omega, ?_⟩
                                have hyes : upper x = true := by simp [upper]; omega
                                rw [all_take_succ hx, hk.2, hyes]; rfl
                              · omega
                        · have hk2 := hk.2
                          rw [List.take_of_length_le (by omega)] at hk2
                          have hnm : named p.name = true := by simp [named, hk2]; omega
                          rw [pchk_d hin (by rw [hnm]; simp; exact h9)] at hq
                          repeat ((intro _u; clear _u); first | with_reducible first | refine cT ?_ | refine cF ?_ | refine cA ?_ | refine cB ?_ | refine aLn ?_ | refine cK ?_ | refine aS8 ?_ | refine wI ?_ | refine nD ?_ | refine aX rfl ?_ | refine vL rfl ?_)
                          intro _u; clear _u
                          refine lPa 100 (fun k : Nat => k ≤ p.data.length ∧ (p.data.take k).all px = true) (fun k => ⟨[(1, .loc 0 1 0 0), (4, .int .i64 k)], [(0, .var (R.ty 20) p.row)], 1⟩) (fun k => p.data.length - k) (0) ?_ ?_
                          · exact ⟨Nat.zero_le _, by simp⟩
                          · intro k hk
                            dsimp only
                            repeat ((intro _u; clear _u); first | with_reducible first | refine cT ?_ | refine cF ?_ | refine cA ?_ | refine cB ?_ | refine aLn ?_ | refine cK ?_ | refine aS8 ?_ | refine wI ?_ | refine nD ?_ | refine aX rfl ?_ | refine vL rfl ?_)
                            intro _u; clear _u
                            refine cS (fun hb => ?_) (fun hb => ?_)
                            · obtain ⟨x, hx⟩ : ∃ u_, p.data[k]? = some u_ := ⟨_, List.getElem?_eq_getElem (by first | omega | (simp <;> omega))⟩
                              repeat ((intro _u; clear _u); first | with_reducible first | refine cT ?_ | refine cF ?_ | refine cA ?_ | refine cB ?_ | refine aLn ?_ | refine cK ?_ | refine aS8 ?_ | refine wI ?_ | refine nD ?_ | refine aX rfl ?_ | refine vL rfl ?_)
                              intro _u; clear _u
                              refine eget_map hx ?_
                              repeat ((intro _u; clear _u); first | with_reducible first | refine cT ?_ | refine cF ?_ | refine cA ?_ | refine cB ?_ | refine aLn ?_ | refine cK ?_ | refine aS8 ?_ | refine wI ?_ | refine nD ?_ | refine aX rfl ?_ | refine vL rfl ?_)
                              intro _u; clear _u
                              refine cS (fun hc => ?_) (fun hc => ?_)
                              · rw [if_pos (all_bad hx (by simp [px]; omega))] at hq
                                subst hq
                                repeat ((intro _u; clear _u); first | with_reducible first | refine cT ?_ | refine cF ?_ | refine cA ?_ | refine cB ?_ | refine aLn ?_ | refine cK ?_ | refine aS8 ?_ | refine wI ?_ | refine nD ?_ | refine aX rfl ?_ | refine vL rfl ?_)
                                intro _u; clear _u
                                exact rT
                              · repeat ((intro _u; clear _u); first | with_reducible first | refine cT ?_ | refine cF ?_ | refine cA ?_ | refine cB ?_ | refine aLn ?_ | refine cK ?_ | refine aS8 ?_ | refine wI ?_ | refine nD ?_ | refine aX rfl ?_ | refine vL rfl ?_)
                                intro _u; clear _u
                                refine eget_map hx ?_
                                repeat ((intro _u; clear _u); first | with_reducible first | refine cT ?_ | refine cF ?_ | refine cA ?_ | refine cB ?_ | refine aLn ?_ | refine cK ?_ | refine aS8 ?_ | refine wI ?_ | refine nD ?_ | refine aX rfl ?_ | refine vL rfl ?_)
                                intro _u; clear _u
                                refine cS (fun hd => ?_) (fun hd => ?_)
                                · rw [if_pos (all_bad hx (by simp [px]; omega))] at hq
                                  subst hq
                                  repeat ((intro _u; clear _u); first | with_reducible first | refine cT ?_ | refine cF ?_ | refine cA ?_ | refine cB ?_ | refine aLn ?_ | refine cK ?_ | refine aS8 ?_ | refine wI ?_ | refine nD ?_ | refine aX rfl ?_ | refine vL rfl ?_)
                                  intro _u; clear _u
                                  exact rT
                                · repeat ((intro _u; clear _u); first | with_reducible first | refine cT ?_ | refine cF ?_ | refine cA ?_ | refine cB ?_ | refine aLn ?_ | refine cK ?_ | refine aS8 ?_ | refine wI ?_ | refine nD ?_ | refine aX rfl ?_ | refine vL rfl ?_)
                                  intro _u; clear _u
                                  refine nXa (k + 1) ?_ ?_
                                  · refine ⟨by omega, ?_⟩
                                    have hyes : px x = true := by simp [px]; omega
                                    rw [all_take_succ hx, hk.2, hyes]; rfl
                                  · omega
                            · have hk3 := hk.2
                              rw [List.take_of_length_le (by omega)] at hk3
                              rw [if_neg (by rw [hk3]; decide)] at hq
                              subst hq
                              repeat ((intro _u; clear _u); first | with_reducible first | refine cT ?_ | refine cF ?_ | refine cA ?_ | refine cB ?_ | refine aLn ?_ | refine cK ?_ | refine aS8 ?_ | refine wI ?_ | refine nD ?_ | refine aX rfl ?_ | refine vL rfl ?_)
                              intro _u; clear _u
                              exact rT

theorem modulo_c {R : Env} (h : N184 R) (n : Int) : R.Pc 184 [.int .i64 n] (.int .i64 (n % 65536)) :=
  h.o184.enter 60 rfl fun X bb hfit hp => by
    have e1 : (n.tmod 65536 = n % 65536) ∨ (n.tmod 65536 = n % 65536 - 65536 ∧ n % 65536 ≠ 0) := by
      have e2 := Int.tmod_eq_emod (a := n) (b := 65536)
      split at e2
      · left; omega
      · rename_i hh
        have : n % 65536 ≠ 0 := fun h0 => hh (.inr (Int.dvd_of_emod_eq_zero h0))
        right; omega
    repeat ((intro _u; clear _u); first | with_reducible first | refine cT ?_ | refine cF ?_ | refine cA ?_ | refine cB ?_ | refine aLn ?_ | refine cK ?_ | refine aS8 ?_ | refine wI ?_ | refine nD ?_ | refine aX rfl ?_ | refine vL rfl ?_)
    generalize n.tmod 65536 = r at e1 ⊢
    repeat ((intro _u; clear _u); first | with_reducible first | refine cT ?_ | refine cF ?_ | refine cA ?_ | refine cB ?_ | refine aLn ?_ | refine cK ?_ | refine aS8 ?_ | refine wI ?_ | refine nD ?_ | refine aX rfl ?_ | refine vL rfl ?_)
    intro _u; clear _u
    refine cS (fun h1 => ?_) (fun h1 => ?_)
    · repeat ((intro _u; clear _u); first | with_reducible first | refine cT ?_ | refine cF ?_ | refine cA ?_ | refine cB ?_ | refine aLn ?_ | refine cK ?_ | refine aS8 ?_ | refine wI ?_ | refine nD ?_ | refine aX rfl ?_ | refine vL rfl ?_)
      intro _u; clear _u
      exact rT
    · repeat ((intro _u; clear _u); first | with_reducible first | refine cT ?_ | refine cF ?_ | refine cA ?_ | refine cB ?_ | refine aLn ?_ | refine cK ?_ | refine aS8 ?_ | refine wI ?_ | refine nD ?_ | refine aX rfl ?_ | refine vL rfl ?_)
      intro _u; clear _u
      exact rT

def rat (p : Pl) (d : List Int) (x y k : Int) : Int := if x < 0 ∨ y < 0 then 0 else atp d ((y * p.w + x) * p.deep + k)
theorem at39_c {R : Env} (h : N189 R) (p : Pl) (d : List Int) (x y k : Int) (hx : -1 ≤ x) (hy : -1 ≤ y) (hw : 1 ≤ p.w ∧ p.w ≤ 64) (hd : 1 ≤ p.deep ∧ p.deep ≤ 4) (hk : 0 ≤ k) (hi : 0 ≤ x → 0 ≤ y → (y * p.w + x) * p.deep + k < d.length) (hl : d.length ≤ 16384) :
    R.Pc 189 [.agg p.row, .isl 1 (slcK .i64 d), .int .i64 x, .int .i64 y, .int .i64 k] (.int .i64 (rat p d x y k)) :=
  h.o189.enter 60 rfl fun X bb hfit hp => by
    unfold rat
    repeat ((intro _u; clear _u); first | with_reducible first | refine cT ?_ | refine cF ?_ | refine cA ?_ | refine cB ?_ | refine aLn ?_ | refine cK ?_ | refine aS8 ?_ | refine wI ?_ | refine nD ?_ | refine aX rfl ?_ | refine vL rfl ?_)
    intro _u; clear _u
    refine cS (fun h1 => ?_) (fun h1 => ?_)
    · rw [if_pos (.inl h1)]
      repeat ((intro _u; clear _u); first | with_reducible first | refine cT ?_ | refine cF ?_ | refine cA ?_ | refine cB ?_ | refine aLn ?_ | refine cK ?_ | refine aS8 ?_ | refine wI ?_ | refine nD ?_ | refine aX rfl ?_ | refine vL rfl ?_)
      intro _u; clear _u
      exact rT
    · repeat ((intro _u; clear _u); first | with_reducible first | refine cT ?_ | refine cF ?_ | refine cA ?_ | refine cB ?_ | refine aLn ?_ | refine cK ?_ | refine aS8 ?_ | refine wI ?_ | refine nD ?_ | refine aX rfl ?_ | refine vL rfl ?_)
      intro _u; clear _u
      refine cS (fun h2 => ?_) (fun h2 => ?_)
      · rw [if_pos (.inr h2)]
        repeat ((intro _u; clear _u); first | with_reducible first | refine cT ?_ | refine cF ?_ | refine cA ?_ | refine cB ?_ | refine aLn ?_ | refine cK ?_ | refine aS8 ?_ | refine wI ?_ | refine nD ?_ | refine aX rfl ?_ | refine vL rfl ?_)
        intro _u; clear _u
        exact rT
      · rw [if_neg (by omega)]
        have b1 : 0 ≤ y * p.w := Int.mul_nonneg h2 (by omega)
        have b2 : 0 ≤ (y * p.w + x) * p.deep := Int.mul_nonneg (by omega) (by omega)
        have b3 := hi h1 h2
        have b4 : (y * p.w + x) * 1 ≤ (y * p.w + x) * p.deep := Int.mul_le_mul_of_nonneg_left hd.1 (by omega)
        obtain ⟨z, hz⟩ : ∃ u_, d[((y*p.w+x)*p.deep+k).toNat]? = some u_ := ⟨_, List.getElem?_eq_getElem (by first | omega | (simp <;> omega))⟩
        repeat ((intro _u; clear _u); first | with_reducible first | refine cT ?_ | refine cF ?_ | refine cA ?_ | refine cB ?_ | refine aLn ?_ | refine cK ?_ | refine aS8 ?_ | refine wI ?_ | refine nD ?_ | refine aX rfl ?_ | refine vL rfl ?_)
        intro _u; clear _u
        refine eget_map hz ?_
        repeat ((intro _u; clear _u); first | with_reducible first | refine cT ?_ | refine cF ?_ | refine cA ?_ | refine cB ?_ | refine aLn ?_ | refine cK ?_ | refine aS8 ?_ | refine wI ?_ | refine nD ?_ | refine aX rfl ?_ | refine vL rfl ?_)
        intro _u; clear _u
        refine rT ?_
        all_goals repeat' (first | exact True.intro | refine And.intro ?_ ?_ | (intro _u; clear _u) | (with_reducible first | refine eM ?_ ?_ | refine eF ?_ ?_ ?_ | refine eN ?_ | refine eL ?_ ?_ ?_ | refine eA ?_ ?_ | refine IWk.mk ⟨_, hp, rfl⟩ ?_ ?_) | refine IWk.mk ⟨_, hp, rfl⟩ ?_ ?_)
        all_goals first | with_reducible rfl | omega | exact Or.inl (by decide) | (simp; done) | rfl | skip
        rw [atp_get hz]

theorem ex_split {W D i : Int} (hW : 1 ≤ W) (hD : 1 ≤ D) (hi : 0 ≤ i) :
    (i / D / W * W + i / D % W) * D + i % D = i ∧ i % (W * D) = i / D % W * D + i % D ∧ 0 ≤ i % D ∧ i % D < D ∧ 0 ≤ i / D % W ∧ i / D % W < W ∧ 0 ≤ i / D / W ∧ i = (W * D) * (i / D / W) + i % (W * D) := by
  have h1 := Int.mul_ediv_add_emod i D
  have h2 := Int.mul_ediv_add_emod (i / D) W
  have h3 := Int.emod_nonneg i (show D ≠ 0 by omega)
  have h4 := Int.emod_lt_of_pos i (show 0 < D by omega)
  have h5 := Int.emod_nonneg (i / D) (show W ≠ 0 by omega)
  have h6 := Int.emod_lt_of_pos (i / D) (show 0 < W by omega)
  have h7 : 0 ≤ i / D := Int.ediv_nonneg hi (by omega)
  have h8 : 0 ≤ i / D / W := Int.ediv_nonneg h7 (by omega)
  have e1 : i / D / W * W + i / D % W = i / D := by rw [Int.mul_comm]; exact h2
  have e2 : i / D * D + i % D = i := by rw [Int.mul_comm]; exact h1
  have e3 : i = (i / D % W * D + i % D) + (W * D) * (i / D / W) := by
    conv => lhs; rw [← e2, ← e1]
    rw [Int.add_mul, Int.mul_comm (i / D / W) W, Int.mul_assoc, Int.mul_assoc, Int.mul_comm (i / D / W) D]
    omega
  have h9 : i / D % W * D ≤ (W - 1) * D := Int.mul_le_mul_of_nonneg_right (by omega) (by omega)
  have h10 : 0 ≤ i / D % W * D := Int.mul_nonneg h5 (by omega)
  rw [Int.sub_mul] at h9
  have e4 : i % (W * D) = i / D % W * D + i % D := by
    conv => lhs; rw [e3, Int.add_mul_emod_self_left]
    exact Int.emod_eq_of_lt (by omega) (by omega)
  refine ⟨by rw [e1]; exact e2, e4, h3, h4, h5, h6, h8, ?_⟩
  rw [e4]; omega

theorem rexp_c {R : Env} (h : N183 R) (p : Pl) (hw : 1 ≤ p.w ∧ p.w ≤ 64) (hd : 1 ≤ p.deep ∧ p.deep ≤ 4) (d : List Int) (hd0 : ∀ x ∈ d, 0 ≤ x ∧ x ≤ 65535) (i : Nat) (hi : i ≤ d.length) (hl : d.length ≤ 16384) :
    R.Pc 183 [.agg p.row, .isl 1 (slcK .i64 d), .int .i64 i] (.int .i64 (exv p d i)) :=
  h.o183.enter 100 rfl fun X bb hfit hp => by
    obtain ⟨s1, s2, s3, s4, s5, s6, s7, s8⟩ := ex_split (W := p.w) (D := p.deep) (i := i) hw.1 hd.1 (by omega)
    have s9 : 0 ≤ (i : Int) / p.deep := Int.ediv_nonneg (by omega) (by omega)
    have sa : (i : Int) / p.deep ≤ i := Int.ediv_le_self _ (by omega)
    have sb : (i : Int) / p.deep / p.w ≤ i / p.deep := Int.ediv_le_self _ s9
    repeat ((intro _u; clear _u); first | with_reducible first | refine cT ?_ | refine cF ?_ | refine cA ?_ | refine cB ?_ | refine aLn ?_ | refine cK ?_ | refine aS8 ?_ | refine wI ?_ | refine nD ?_ | refine aX rfl ?_ | refine vL rfl ?_)
    intro _u; clear _u
    rw [Int.tdiv_eq_ediv_of_nonneg (by omega)]
    refine wI ?_
    repeat ((intro _u; clear _u); first | with_reducible first | refine cT ?_ | refine cF ?_ | refine cA ?_ | refine cB ?_ | refine aLn ?_ | refine cK ?_ | refine aS8 ?_ | refine wI ?_ | refine nD ?_ | refine aX rfl ?_ | refine vL rfl ?_)
    intro _u; clear _u
    rw [Int.tdiv_eq_ediv_of_nonneg (by omega)]
    refine wI ?_
    repeat ((intro _u; clear _u); first | with_reducible first | refine cT ?_ | refine cF ?_ | refine cA ?_ | refine cB ?_ | refine aLn ?_ | refine cK ?_ | refine aS8 ?_ | refine wI ?_ | refine nD ?_ | refine aX rfl ?_ | refine vL rfl ?_)
    intro _u; clear _u
    rw [Int.tdiv_eq_ediv_of_nonneg (by omega)]
    refine wI ?_
    repeat ((intro _u; clear _u); first | with_reducible first | refine cT ?_ | refine cF ?_ | refine cA ?_ | refine cB ?_ | refine aLn ?_ | refine cK ?_ | refine aS8 ?_ | refine wI ?_ | refine nD ?_ | refine aX rfl ?_ | refine vL rfl ?_)
    rw [Int.tmod_eq_emod_of_nonneg (a := (i : Int)) (by omega), Int.tmod_eq_emod_of_nonneg (a := (i : Int) / p.deep) s9]
    unfold exv
    generalize (i : Int) / p.deep / p.w = y at *
    generalize (i : Int) / p.deep % p.w = x at *
    generalize (i : Int) % p.deep = k at *
    have a1 : (y * p.w + (x - 1)) * p.deep + k = i - p.deep := by
      have : (y * p.w + (x - 1)) * p.deep = (y * p.w + x) * p.deep - p.deep := by rw [show y * p.w + (x - 1) = (y * p.w + x) - 1 by omega, Int.sub_mul]; omega
      omega
    have a2 : ((y - 1) * p.w + x) * p.deep + k = i - p.w * p.deep := by
      have : ((y - 1) * p.w + x) * p.deep = (y * p.w + x) * p.deep - p.w * p.deep := by rw [show (y - 1) * p.w + x = (y * p.w + x) - p.w by rw [Int.sub_mul]; omega, Int.sub_mul]
      omega
    have a3 : ((y - 1) * p.w + (x - 1)) * p.deep + k = i - p.w * p.deep - p.deep := by
      have : ((y - 1) * p.w + (x - 1)) * p.deep = ((y - 1) * p.w + x) * p.deep - p.deep := by rw [show (y - 1) * p.w + (x - 1) = ((y - 1) * p.w + x) - 1 by omega, Int.sub_mul]; omega
      omega
    have wd1 : 1 * p.deep ≤ p.w * p.deep := Int.mul_le_mul_of_nonneg_right hw.1 (by omega)
    have x1 : p.deep ≤ (i : Int) % (p.w * p.deep) ↔ 1 ≤ x := by
      constructor
      · intro hh
        rcases Int.lt_or_le x 1 with h0 | h0
        · have : x = 0 := by omega
          subst this
          omega
        · exact h0
      · intro hh
        have : 1 * p.deep ≤ x * p.deep := Int.mul_le_mul_of_nonneg_right hh (by omega)
        omega
    have m1 := Int.emod_lt_of_pos (i : Int) (show 0 < p.w * p.deep by omega)
    have m2 := Int.emod_nonneg (i : Int) (show p.w * p.deep ≠ 0 by omega)
    have y1 : p.w * p.deep ≤ (i : Int) ↔ 1 ≤ y := by
      constructor
      · intro hh
        rcases Int.lt_or_le y 1 with h0 | h0
        · have : y = 0 := by omega
          subst this
          omega
        · exact h0
      · intro hh
        have : p.w * p.deep * 1 ≤ p.w * p.deep * y := Int.mul_le_mul_of_nonneg_left hh (by omega)
        omega
    have q1 := atp_in hd0 ((i : Int) - p.deep)
    have q2 := atp_in hd0 ((i : Int) - p.w * p.deep)
    have q3 := atp_in hd0 ((i : Int) - p.w * p.deep - p.deep)
    by_cases hx : x = 0
    · repeat ((intro _u; clear _u); first | with_reducible first | refine cT ?_ | refine cF ?_ | refine cA ?_ | refine cB ?_ | refine aLn ?_ | refine cK ?_ | refine aS8 ?_ | refine wI ?_ | refine nD ?_ | refine aX rfl ?_ | refine vL rfl ?_)
      intro _u; clear _u
      refine acnd_t (by simpa using hx) ?_
      by_cases hy : y = 0
      · repeat ((intro _u; clear _u); first | with_reducible first | refine cT ?_ | refine cF ?_ | refine cA ?_ | refine cB ?_ | refine aLn ?_ | refine cK ?_ | refine aS8 ?_ | refine wI ?_ | refine nD ?_ | refine aX rfl ?_ | refine vL rfl ?_)
        intro _u; clear _u
        refine acnd_t (by simpa using hy) ?_
        rw [if_neg (by omega), if_neg (by omega), if_neg (by omega)]
        repeat ((intro _u; clear _u); first | with_reducible first | refine cT ?_ | refine cF ?_ | refine cA ?_ | refine cB ?_ | refine aLn ?_ | refine cK ?_ | refine aS8 ?_ | refine wI ?_ | refine nD ?_ | refine aX rfl ?_ | refine vL rfl ?_)
        intro _u; clear _u
        exact rT
      · repeat ((intro _u; clear _u); first | with_reducible first | refine cT ?_ | refine cF ?_ | refine cA ?_ | refine cB ?_ | refine aLn ?_ | refine cK ?_ | refine aS8 ?_ | refine wI ?_ | refine nD ?_ | refine aX rfl ?_ | refine vL rfl ?_)
        intro _u; clear _u
        refine acnd_f (by simpa using hy) ?_
        repeat ((intro _u; clear _u); first | with_reducible first | refine cT ?_ | refine cF ?_ | refine cA ?_ | refine cB ?_ | refine aLn ?_ | refine cK ?_ | refine aS8 ?_ | refine wI ?_ | refine nD ?_ | refine aX rfl ?_ | refine vL rfl ?_)
        intro _u; clear _u
        refine acnd_f (by simpa using hy) ?_
        repeat ((intro _u; clear _u); first | with_reducible first | refine cT ?_ | refine cF ?_ | refine cA ?_ | refine cB ?_ | refine aLn ?_ | refine cK ?_ | refine aS8 ?_ | refine wI ?_ | refine nD ?_ | refine aX rfl ?_ | refine vL rfl ?_)
        intro _u; clear _u
        refine acnd_t (by simpa using hx) ?_
        rw [if_neg (by omega), if_neg (by omega), if_pos (by omega)]
        have c1 := at39_c h.n189 p d x (y - 1) k (by omega) (by omega) hw hd s3 (fun _ _ => by rw [a2]; omega) hl
        rw [rat, if_neg (by omega), a2] at c1
        repeat ((intro _u; clear _u); first | with_reducible first | refine cT ?_ | refine cF ?_ | refine cA ?_ | refine cB ?_ | refine aLn ?_ | refine cK ?_ | refine aS8 ?_ | refine wI ?_ | refine nD ?_ | refine aX rfl ?_ | refine vL rfl ?_)
        intro _u; clear _u
        refine ICall.pure h.n189.o189.hb c1 rfl ?_
        repeat ((intro _u; clear _u); first | with_reducible first | refine cT ?_ | refine cF ?_ | refine cA ?_ | refine cB ?_ | refine aLn ?_ | refine cK ?_ | refine aS8 ?_ | refine wI ?_ | refine nD ?_ | refine aX rfl ?_ | refine vL rfl ?_)
        intro _u; clear _u
        exact rT
    · repeat ((intro _u; clear _u); first | with_reducible first | refine cT ?_ | refine cF ?_ | refine cA ?_ | refine cB ?_ | refine aLn ?_ | refine cK ?_ | refine aS8 ?_ | refine wI ?_ | refine nD ?_ | refine aX rfl ?_ | refine vL rfl ?_)
      intro _u; clear _u
      refine acnd_f (by simpa using hx) ?_
      by_cases hy : y = 0
      · repeat ((intro _u; clear _u); first | with_reducible first | refine cT ?_ | refine cF ?_ | refine cA ?_ | refine cB ?_ | refine aLn ?_ | refine cK ?_ | refine aS8 ?_ | refine wI ?_ | refine nD ?_ | refine aX rfl ?_ | refine vL rfl ?_)
        intro _u; clear _u
        refine acnd_t (by simpa using hy) ?_
        rw [if_neg (by omega), if_pos (by omega)]
        have c1 := at39_c h.n189 p d (x - 1) y k (by omega) (by omega) hw hd s3 (fun _ _ => by rw [a1]; omega) hl
        rw [rat, if_neg (by omega), a1] at c1
        repeat ((intro _u; clear _u); first | with_reducible first | refine cT ?_ | refine cF ?_ | refine cA ?_ | refine cB ?_ | refine aLn ?_ | refine cK ?_ | refine aS8 ?_ | refine wI ?_ | refine nD ?_ | refine aX rfl ?_ | refine vL rfl ?_)
        intro _u; clear _u
        refine ICall.pure h.n189.o189.hb c1 rfl ?_
        repeat ((intro _u; clear _u); first | with_reducible first | refine cT ?_ | refine cF ?_ | refine cA ?_ | refine cB ?_ | refine aLn ?_ | refine cK ?_ | refine aS8 ?_ | refine wI ?_ | refine nD ?_ | refine aX rfl ?_ | refine vL rfl ?_)
        intro _u; clear _u
        exact rT
      · repeat ((intro _u; clear _u); first | with_reducible first | refine cT ?_ | refine cF ?_ | refine cA ?_ | refine cB ?_ | refine aLn ?_ | refine cK ?_ | refine aS8 ?_ | refine wI ?_ | refine nD ?_ | refine aX rfl ?_ | refine vL rfl ?_)
        intro _u; clear _u
        refine acnd_f (by simpa using hy) ?_
        repeat ((intro _u; clear _u); first | with_reducible first | refine cT ?_ | refine cF ?_ | refine cA ?_ | refine cB ?_ | refine aLn ?_ | refine cK ?_ | refine aS8 ?_ | refine wI ?_ | refine nD ?_ | refine aX rfl ?_ | refine vL rfl ?_)
        intro _u; clear _u
        refine acnd_f (by simpa using hx) ?_
        rw [if_pos (by omega)]
        have c1 := at39_c h.n189 p d (x - 1) y k (by omega) (by omega) hw hd s3 (fun _ _ => by rw [a1]; omega) hl
        rw [rat, if_neg (by omega), a1] at c1
        repeat ((intro _u; clear _u); first | with_reducible first | refine cT ?_ | refine cF ?_ | refine cA ?_ | refine cB ?_ | refine aLn ?_ | refine cK ?_ | refine aS8 ?_ | refine wI ?_ | refine nD ?_ | refine aX rfl ?_ | refine vL rfl ?_)
        intro _u; clear _u
        refine ICall.pure h.n189.o189.hb c1 rfl ?_
        have c2 := at39_c h.n189 p d x (y - 1) k (by omega) (by omega) hw hd s3 (fun _ _ => by rw [a2]; omega) hl
        rw [rat, if_neg (by omega), a2] at c2
        repeat ((intro _u; clear _u); first | with_reducible first | refine cT ?_ | refine cF ?_ | refine cA ?_ | refine cB ?_ | refine aLn ?_ | refine cK ?_ | refine aS8 ?_ | refine wI ?_ | refine nD ?_ | refine aX rfl ?_ | refine vL rfl ?_)
        intro _u; clear _u
        refine ICall.pure h.n189.o189.hb c2 rfl ?_
        have c3 := at39_c h.n189 p d (x - 1) (y - 1) k (by omega) (by omega) hw hd s3 (fun _ _ => by rw [a3]; omega) hl
        rw [rat, if_neg (by omega), a3] at c3
        repeat ((intro _u; clear _u); first | with_reducible first | refine cT ?_ | refine cF ?_ | refine cA ?_ | refine cB ?_ | refine aLn ?_ | refine cK ?_ | refine aS8 ?_ | refine wI ?_ | refine nD ?_ | refine aX rfl ?_ | refine vL rfl ?_)
        intro _u; clear _u
        refine ICall.pure h.n189.o189.hb c3 rfl ?_
        repeat ((intro _u; clear _u); first | with_reducible first | refine cT ?_ | refine cF ?_ | refine cA ?_ | refine cB ?_ | refine aLn ?_ | refine cK ?_ | refine aS8 ?_ | refine wI ?_ | refine nD ?_ | refine aX rfl ?_ | refine vL rfl ?_)
        intro _u; clear _u
        exact rT

theorem rdeltas_c {R : Env} (h : N172 R) (p : Pl) (hs : p.name.length ≤ 1073741824) : R.Pc 172 [.agg p.row] (.tup [.isl 1 (slcK .i64 (deltas p).1), .int .i64 (deltas p).2]) :=
  h.o172.enter 100 rfl fun X bb hfit hp => by
    repeat ((intro _u; clear _u); first | with_reducible first | refine cT ?_ | refine cF ?_ | refine cA ?_ | refine cB ?_ | refine aLn ?_ | refine cK ?_ | refine aS8 ?_ | refine wI ?_ | refine nD ?_ | refine aX rfl ?_ | refine vL rfl ?_)
    intro _u; clear _u
    refine ICall.pure h.n162.o162.hb (rpcheck_c h.n162 p hs) rfl ?_
    repeat ((intro _u; clear _u); first | with_reducible first | refine cT ?_ | refine cF ?_ | refine cA ?_ | refine cB ?_ | refine aLn ?_ | refine cK ?_ | refine aS8 ?_ | refine wI ?_ | refine nD ?_ | refine aX rfl ?_ | refine vL rfl ?_)
    intro _u; clear _u
    refine cS (fun h1 => ?_) (fun h1 => ?_)
    · rw [deltas, if_neg h1]
      repeat ((intro _u; clear _u); first | with_reducible first | refine cT ?_ | refine cF ?_ | refine cA ?_ | refine cB ?_ | refine aLn ?_ | refine cK ?_ | refine aS8 ?_ | refine wI ?_ | refine nD ?_ | refine aX rfl ?_ | refine vL rfl ?_)
      intro _u; clear _u
      exact rT
    · have hc : pchk p = 0 := by omega
      rw [deltas, if_pos hc]
      have may := pchk_may hc
      have hfew := may.few
      repeat ((intro _u; clear _u); first | with_reducible first | refine cT ?_ | refine cF ?_ | refine cA ?_ | refine cB ?_ | refine aLn ?_ | refine cK ?_ | refine aS8 ?_ | refine wI ?_ | refine nD ?_ | refine aX rfl ?_ | refine vL rfl ?_)
      intro _u; clear _u
      refine lPa 100 (fun k : Nat => k ≤ p.data.length) (fun k => ⟨[(1, .loc 0 1 0 0), (5, .osl 1 ((dlt p).take k).length), (6, .int .i64 k)], [(1, .arr (R.ty 10) 1 (slcK .i64 ((dlt p).take k))), (0, .var (R.ty 20) p.row)], 2⟩) (fun k => p.data.length - k) (0) ?_ ?_
      · exact Nat.zero_le _
      · intro k hk
        dsimp only
        repeat ((intro _u; clear _u); first | with_reducible first | refine cT ?_ | refine cF ?_ | refine cA ?_ | refine cB ?_ | refine aLn ?_ | refine cK ?_ | refine aS8 ?_ | refine wI ?_ | refine nD ?_ | refine aX rfl ?_ | refine vL rfl ?_)
        intro _u; clear _u
        refine cS (fun h2 => ?_) (fun h2 => ?_)
        · have hdk : (dlt p)[k]? = some (dl1 p k) := by
            rw [dlt, List.getElem?_map, List.getElem?_range (by omega)]; rfl
          obtain ⟨x, hx⟩ : ∃ u_, p.data[k]? = some u_ := ⟨_, List.getElem?_eq_getElem (by first | omega | (simp <;> omega))⟩
          repeat ((intro _u; clear _u); first | with_reducible first | refine cT ?_ | refine cF ?_ | refine cA ?_ | refine cB ?_ | refine aLn ?_ | refine cK ?_ | refine aS8 ?_ | refine wI ?_ | refine nD ?_ | refine aX rfl ?_ | refine vL rfl ?_)
          intro _u; clear _u
          refine eget_map hx ?_
          repeat ((intro _u; clear _u); first | with_reducible first | refine cT ?_ | refine cF ?_ | refine cA ?_ | refine cB ?_ | refine aLn ?_ | refine cK ?_ | refine aS8 ?_ | refine wI ?_ | refine nD ?_ | refine aX rfl ?_ | refine vL rfl ?_)
          intro _u; clear _u
          refine ICall.pure h.n183.o183.hb (rexp_c h.n183 p may.w may.deep p.data may.data k hk (by omega)) rfl ?_
          have x1 := may.data x (List.mem_of_getElem? hx)
          have e1 := exv_in may.data (p := p) (k : Int)
          have e2 : dl1 p k = (x - exv p p.data k + 32768) % 65536 - 32768 := by rw [dl1, atp_get (k := (k : Int)) hx]
          repeat ((intro _u; clear _u); first | with_reducible first | refine cT ?_ | refine cF ?_ | refine cA ?_ | refine cB ?_ | refine aLn ?_ | refine cK ?_ | refine aS8 ?_ | refine wI ?_ | refine nD ?_ | refine aX rfl ?_ | refine vL rfl ?_)
          intro _u; clear _u
          refine ICall.pure h.n184.o184.hb (modulo_c h.n184 (x - exv p p.data k)) rfl ?_
          repeat ((intro _u; clear _u); first | with_reducible first | refine cT ?_ | refine cF ?_ | refine cA ?_ | refine cB ?_ | refine aLn ?_ | refine cK ?_ | refine aS8 ?_ | refine wI ?_ | refine nD ?_ | refine aX rfl ?_ | refine vL rfl ?_)
          intro _u; clear _u
          refine cS (fun h3 => ?_) (fun h3 => ?_)
          · repeat ((intro _u; clear _u); first | with_reducible first | refine cT ?_ | refine cF ?_ | refine cA ?_ | refine cB ?_ | refine aLn ?_ | refine cK ?_ | refine aS8 ?_ | refine wI ?_ | refine nD ?_ | refine aX rfl ?_ | refine vL rfl ?_)
            intro _u; clear _u
            refine nX (k + 1) ?_ ?_ ⟨_, hp, rfl⟩ ?_ ?_
            · omega
            · omega
            · all_goals repeat' (first | exact True.intro | refine And.intro ?_ ?_ | (intro _u; clear _u) | (with_reducible first | refine eM ?_ ?_ | refine eF ?_ ?_ ?_ | refine eN ?_ | refine eL ?_ ?_ ?_ | refine eA ?_ ?_ | refine IWk.mk ⟨_, hp, rfl⟩ ?_ ?_) | refine IWk.mk ⟨_, hp, rfl⟩ ?_ ?_)
              all_goals first | with_reducible rfl | omega | exact Or.inl (by decide) | (simp; done) | rfl | skip
              rw [take_succ_get hdk]; simp
            · all_goals repeat' (first | exact True.intro | refine And.intro ?_ ?_ | (intro _u; clear _u) | (with_reducible first | refine eM ?_ ?_ | refine eF ?_ ?_ ?_ | refine eN ?_ | refine eL ?_ ?_ ?_ | refine eA ?_ ?_ | refine IWk.mk ⟨_, hp, rfl⟩ ?_ ?_) | refine IWk.mk ⟨_, hp, rfl⟩ ?_ ?_)
              all_goals first | with_reducible rfl | omega | exact Or.inl (by decide) | (simp; done) | rfl | skip
              rw [take_succ_get hdk]; simp [slcK]; omega
          · repeat ((intro _u; clear _u); first | with_reducible first | refine cT ?_ | refine cF ?_ | refine cA ?_ | refine cB ?_ | refine aLn ?_ | refine cK ?_ | refine aS8 ?_ | refine wI ?_ | refine nD ?_ | refine aX rfl ?_ | refine vL rfl ?_)
            intro _u; clear _u
            refine nX (k + 1) ?_ ?_ ⟨_, hp, rfl⟩ ?_ ?_
            · omega
            · omega
            · all_goals repeat' (first | exact True.intro | refine And.intro ?_ ?_ | (intro _u; clear _u) | (with_reducible first | refine eM ?_ ?_ | refine eF ?_ ?_ ?_ | refine eN ?_ | refine eL ?_ ?_ ?_ | refine eA ?_ ?_ | refine IWk.mk ⟨_, hp, rfl⟩ ?_ ?_) | refine IWk.mk ⟨_, hp, rfl⟩ ?_ ?_)
              all_goals first | with_reducible rfl | omega | exact Or.inl (by decide) | (simp; done) | rfl | skip
              rw [take_succ_get hdk]; simp
            · all_goals repeat' (first | exact True.intro | refine And.intro ?_ ?_ | (intro _u; clear _u) | (with_reducible first | refine eM ?_ ?_ | refine eF ?_ ?_ ?_ | refine eN ?_ | refine eL ?_ ?_ ?_ | refine eA ?_ ?_ | refine IWk.mk ⟨_, hp, rfl⟩ ?_ ?_) | refine IWk.mk ⟨_, hp, rfl⟩ ?_ ?_)
              all_goals first | with_reducible rfl | omega | exact Or.inl (by decide) | (simp; done) | rfl | skip
              rw [take_succ_get hdk]; simp [slcK]; omega
        · rw [List.take_of_length_le (by simp; omega)]
          repeat ((intro _u; clear _u); first | with_reducible first | refine cT ?_ | refine cF ?_ | refine cA ?_ | refine cB ?_ | refine aLn ?_ | refine cK ?_ | refine aS8 ?_ | refine wI ?_ | refine nD ?_ | refine aX rfl ?_ | refine vL rfl ?_)
          intro _u; clear _u
          exact rT

/-! ### Deltas made whole -/
def zPl : Pl := ⟨0, 0, 0, [], []⟩
def wacc (p : Pl) (ds : List Int) : List Int := ds.foldl (fun acc d => acc ++ [(exv p acc (acc.length : Nat) + d) % 65536]) []
theorem wacc_succ {p : Pl} {ds : List Int} {k : Nat} {x : Int} (h : ds[k]? = some x) : wacc p (ds.take (k + 1)) = wacc p (ds.take k) ++ [(exv p (wacc p (ds.take k)) ((wacc p (ds.take k)).length : Nat) + x) % 65536] := by
  unfold wacc
  rw [take_succ_get h, List.foldl_append]; rfl
theorem wacc_len (p : Pl) : ∀ ds : List Int, (wacc p ds).length = ds.length := by
  have : ∀ (ds acc : List Int), (ds.foldl (fun acc d => acc ++ [(exv p acc (acc.length : Nat) + d) % 65536]) acc).length = acc.length + ds.length := by
    intro ds
    induction ds with
    | nil => simp
    | cons x r ih => intro acc; rw [List.foldl_cons, ih]; simp; omega
  intro ds
  unfold wacc
  rw [this]; simp
theorem wacc_in (p : Pl) : ∀ ds : List Int, ∀ x ∈ wacc p ds, 0 ≤ x ∧ x ≤ 65535 := by
  have : ∀ (ds acc : List Int), (∀ x ∈ acc, 0 ≤ x ∧ x ≤ 65535) → ∀ x ∈ ds.foldl (fun acc d => acc ++ [(exv p acc (acc.length : Nat) + d) % 65536]) acc, 0 ≤ x ∧ x ≤ 65535 := by
    intro ds
    induction ds with
    | nil => intro acc h; exact h
    | cons x r ih =>
      intro acc h
      rw [List.foldl_cons]
      refine ih _ fun y hy => ?_
      simp only [List.mem_append, List.mem_singleton] at hy
      rcases hy with hy | hy
      · exact h y hy
      · rw [hy]; omega
  intro ds
  exact this ds [] (fun x hx => by cases hx)

def bad16 (x : Int) : Bool := decide (x < -32768) || decide (32768 ≤ x)
def dimBad (p : Pl) : Prop := ¬ (1 ≤ p.w ∧ p.w ≤ 64) ∨ ¬ (1 ≤ p.h ∧ p.h ≤ 64) ∨ ¬ (1 ≤ p.deep ∧ p.deep ≤ 4)
instance (p : Pl) : Decidable (dimBad p) := by unfold dimBad; infer_instance
def whole (p : Pl) (ds : List Int) : Pl × Int :=
  if dimBad p ∨ (ds.length : Int) ≠ p.w * p.h * p.deep ∨ ds.any bad16 = true then (zPl, 5)
  else if pchk ⟨p.w, p.h, p.deep, p.name, wacc p ds⟩ = 0 then (⟨p.w, p.h, p.deep, p.name, wacc p ds⟩, 0) else (zPl, pchk ⟨p.w, p.h, p.deep, p.name, wacc p ds⟩)
theorem whole_d {p : Pl} {ds : List Int} (h : dimBad p) : whole p ds = (zPl, 5) := by rw [whole, if_pos (.inl h)]
theorem whole_l {p : Pl} {ds : List Int} (h : (ds.length : Int) ≠ p.w * p.h * p.deep) : whole p ds = (zPl, 5) := by rw [whole, if_pos (.inr (.inl h))]
theorem whole_b {p : Pl} {ds : List Int} {k : Nat} {x : Int} (h : ds[k]? = some x) (hx : bad16 x = true) : whole p ds = (zPl, 5) := by
  rw [whole, if_pos (.inr (.inr (List.any_eq_true.2 ⟨x, List.mem_of_getElem? h, hx⟩)))]
theorem any_take_succ2 {α : Type} {l : List α} {k : Nat} {x : α} {p : α → Bool} (h : l[k]? = some x) : (l.take (k + 1)).any p = ((l.take k).any p || p x) := by
  rw [take_succ_get h]; simp

def wM (R : Env) (p : Pl) (es : List Int) : IMem := [(5, .arr (R.ty 10) 1 (slcK .i64 es)), (3, .var (R.ty 10) [.int .i64 (p.w * p.deep)]), (2, .var (R.ty 20) p.row), (1, .var (R.ty 20) [.int .i64 0, .int .i64 0, .int .i64 0, .str [], .nils]), (0, .var (R.ty 20) [.int .i64 p.w, .int .i64 p.h, .int .i64 p.deep, .str p.name, .osl 5 es.length])]

def exL (R : Env) (p : Pl) (d : List Int) : IMem := [(0, .var (R.ty 20) p.row), (1, .var (R.ty 10) [.int .i64 (p.w * p.deep)]), (2, .arr (R.ty 10) 1 (slcK .i64 d))]
theorem exL_c {R : Env} (h : N188 R) (p : Pl) (hw : 1 ≤ p.w ∧ p.w ≤ 64) (hd : 1 ≤ p.deep ∧ p.deep ≤ 4) (d : List Int) (hd0 : ∀ x ∈ d, 0 ≤ x ∧ x ≤ 65535) (i : Nat) (hi : i ≤ d.length) (hl : d.length ≤ 16384) :
    R.Mc 188 [.osl 2 d.length, .int .i64 i, .loc 1 1 0 0, .loc 0 1 0 0] (exL R p d) (.int .i64 (exv p d i)) (exL R p d) 3 :=
  h.o188.enterM 60 3 rfl rfl rfl fun X bb hfit hp => by
    have b0 : 0 < p.w * p.deep := Int.mul_pos (by omega) (by omega)
    have b1 : p.w * p.deep ≤ 256 := by have := Int.mul_le_mul hw.2 hd.2 (by omega) (by omega); omega
    have b2 : (i : Int).tmod (p.w * p.deep) = (i : Int) % (p.w * p.deep) := Int.tmod_eq_emod_of_nonneg (by omega)
    have b3 := Int.emod_nonneg (i : Int) (show p.w * p.deep ≠ 0 by omega)
    have b4 := mod_le (i : Int) b0 (by omega)
    unfold exv
    repeat ((intro _u; clear _u); first | with_reducible first | refine cT ?_ | refine cF ?_ | refine cA ?_ | refine cB ?_ | refine aLn ?_ | refine cK ?_ | refine aS8 ?_ | refine wI ?_ | refine nD ?_ | refine aX rfl ?_ | refine vL rfl ?_)
    intro _u; clear _u
    refine cS (fun h1 => ?_) (fun h1 => ?_)
    · rw [b2] at h1
      repeat ((intro _u; clear _u); first | with_reducible first | refine cT ?_ | refine cF ?_ | refine cA ?_ | refine cB ?_ | refine aLn ?_ | refine cK ?_ | refine aS8 ?_ | refine wI ?_ | refine nD ?_ | refine aX rfl ?_ | refine vL rfl ?_)
      intro _u; clear _u
      refine cS (fun h2 => ?_) (fun h2 => ?_)
      · rw [if_pos ⟨h1, h2⟩]
        have b5 := b4.2 h2
        obtain ⟨x, hx⟩ : ∃ u_, d[((i:Int)-p.deep).toNat]? = some u_ := ⟨_, List.getElem?_eq_getElem (by first | omega | (simp <;> omega))⟩
        repeat ((intro _u; clear _u); first | with_reducible first | refine cT ?_ | refine cF ?_ | refine cA ?_ | refine cB ?_ | refine aLn ?_ | refine cK ?_ | refine aS8 ?_ | refine wI ?_ | refine nD ?_ | refine aX rfl ?_ | refine vL rfl ?_)
        intro _u; clear _u
        refine aelt_map (by simp) hx ?_
        have x1 := hd0 x (List.mem_of_getElem? hx)
        obtain ⟨y, hy⟩ : ∃ u_, d[((i:Int)-p.w*p.deep).toNat]? = some u_ := ⟨_, List.getElem?_eq_getElem (by first | omega | (simp <;> omega))⟩
        repeat ((intro _u; clear _u); first | with_reducible first | refine cT ?_ | refine cF ?_ | refine cA ?_ | refine cB ?_ | refine aLn ?_ | refine cK ?_ | refine aS8 ?_ | refine wI ?_ | refine nD ?_ | refine aX rfl ?_ | refine vL rfl ?_)
        intro _u; clear _u
        refine aelt_map (by simp) hy ?_
        have y1 := hd0 y (List.mem_of_getElem? hy)
        obtain ⟨z, hz⟩ : ∃ u_, d[((i:Int)-p.w*p.deep-p.deep).toNat]? = some u_ := ⟨_, List.getElem?_eq_getElem (by first | omega | (simp <;> omega))⟩
        repeat ((intro _u; clear _u); first | with_reducible first | refine cT ?_ | refine cF ?_ | refine cA ?_ | refine cB ?_ | refine aLn ?_ | refine cK ?_ | refine aS8 ?_ | refine wI ?_ | refine nD ?_ | refine aX rfl ?_ | refine vL rfl ?_)
        intro _u; clear _u
        refine aelt_map (by simp) hz ?_
        have z1 := hd0 z (List.mem_of_getElem? hz)
        rw [atp_get hx, atp_get hy, atp_get hz]
        repeat ((intro _u; clear _u); first | with_reducible first | refine cT ?_ | refine cF ?_ | refine cA ?_ | refine cB ?_ | refine aLn ?_ | refine cK ?_ | refine aS8 ?_ | refine wI ?_ | refine nD ?_ | refine aX rfl ?_ | refine vL rfl ?_)
        intro _u; clear _u
        exact rM [0, 1, 2]
      · rw [if_neg (by omega), if_pos h1]
        repeat ((intro _u; clear _u); first | with_reducible first | refine cT ?_ | refine cF ?_ | refine cA ?_ | refine cB ?_ | refine aLn ?_ | refine cK ?_ | refine aS8 ?_ | refine wI ?_ | refine nD ?_ | refine aX rfl ?_ | refine vL rfl ?_)
        intro _u; clear _u
        refine acnd_t (by rw [b2]; simpa using h1) ?_
        obtain ⟨x, hx⟩ : ∃ u_, d[((i:Int)-p.deep).toNat]? = some u_ := ⟨_, List.getElem?_eq_getElem (by first | omega | (simp <;> omega))⟩
        repeat ((intro _u; clear _u); first | with_reducible first | refine cT ?_ | refine cF ?_ | refine cA ?_ | refine cB ?_ | refine aLn ?_ | refine cK ?_ | refine aS8 ?_ | refine wI ?_ | refine nD ?_ | refine aX rfl ?_ | refine vL rfl ?_)
        intro _u; clear _u
        refine aelt_map (by simp) hx ?_
        rw [atp_get hx]
        repeat ((intro _u; clear _u); first | with_reducible first | refine cT ?_ | refine cF ?_ | refine cA ?_ | refine cB ?_ | refine aLn ?_ | refine cK ?_ | refine aS8 ?_ | refine wI ?_ | refine nD ?_ | refine aX rfl ?_ | refine vL rfl ?_)
        intro _u; clear _u
        exact rM [0, 1, 2]
    · rw [b2] at h1
      repeat ((intro _u; clear _u); first | with_reducible first | refine cT ?_ | refine cF ?_ | refine cA ?_ | refine cB ?_ | refine aLn ?_ | refine cK ?_ | refine aS8 ?_ | refine wI ?_ | refine nD ?_ | refine aX rfl ?_ | refine vL rfl ?_)
      intro _u; clear _u
      refine acnd_f (by rw [b2]; simpa using h1) ?_
      repeat ((intro _u; clear _u); first | with_reducible first | refine cT ?_ | refine cF ?_ | refine cA ?_ | refine cB ?_ | refine aLn ?_ | refine cK ?_ | refine aS8 ?_ | refine wI ?_ | refine nD ?_ | refine aX rfl ?_ | refine vL rfl ?_)
      intro _u; clear _u
      refine cS (fun h2 => ?_) (fun h2 => ?_)
      · rw [if_neg (by omega), if_neg (by omega), if_pos h2]
        obtain ⟨y, hy⟩ : ∃ u_, d[((i:Int)-p.w*p.deep).toNat]? = some u_ := ⟨_, List.getElem?_eq_getElem (by first | omega | (simp <;> omega))⟩
        repeat ((intro _u; clear _u); first | with_reducible first | refine cT ?_ | refine cF ?_ | refine cA ?_ | refine cB ?_ | refine aLn ?_ | refine cK ?_ | refine aS8 ?_ | refine wI ?_ | refine nD ?_ | refine aX rfl ?_ | refine vL rfl ?_)
        intro _u; clear _u
        refine aelt_map (by simp) hy ?_
        rw [atp_get hy]
        repeat ((intro _u; clear _u); first | with_reducible first | refine cT ?_ | refine cF ?_ | refine cA ?_ | refine cB ?_ | refine aLn ?_ | refine cK ?_ | refine aS8 ?_ | refine wI ?_ | refine nD ?_ | refine aX rfl ?_ | refine vL rfl ?_)
        intro _u; clear _u
        exact rM [0, 1, 2]
      · rw [if_neg (by omega), if_neg (by omega), if_neg (by omega)]
        repeat ((intro _u; clear _u); first | with_reducible first | refine cT ?_ | refine cF ?_ | refine cA ?_ | refine cB ?_ | refine aLn ?_ | refine cK ?_ | refine aS8 ?_ | refine wI ?_ | refine nD ?_ | refine aX rfl ?_ | refine vL rfl ?_)
        intro _u; clear _u
        exact rM [0, 1, 2]


theorem whole_c {R : Env} (h : N173 R) (p : Pl) (ds : List Int) (hs : p.name.length ≤ 1073741824) (hl : ds.length ≤ 1073741824) : R.Pc 173 [.agg p.row, .isl 1 (slcK .i64 ds)] (.tup [.agg (whole p ds).1.row, .int .i64 (whole p ds).2]) :=
  h.o173.enter 100 rfl fun X bb hfit hp => by
    generalize hq : whole p ds = q
    by_cases hb : dimBad p
    · rw [whole_d hb] at hq
      unfold dimBad at hb
      repeat ((intro _u; clear _u); first | with_reducible first | refine cT ?_ | refine cF ?_ | refine cA ?_ | refine cB ?_ | refine aLn ?_ | refine cK ?_ | refine aS8 ?_ | refine wI ?_ | refine nD ?_ | refine aX rfl ?_ | refine vL rfl ?_)
      intro _u; clear _u
      refine cS (fun h1 => ?_) (fun h1 => ?_)
      · subst hq
        repeat ((intro _u; clear _u); first | with_reducible first | refine cT ?_ | refine cF ?_ | refine cA ?_ | refine cB ?_ | refine aLn ?_ | refine cK ?_ | refine aS8 ?_ | refine wI ?_ | refine nD ?_ | refine aX rfl ?_ | refine vL rfl ?_)
        intro _u; clear _u
        exact rT
      · repeat ((intro _u; clear _u); first | with_reducible first | refine cT ?_ | refine cF ?_ | refine cA ?_ | refine cB ?_ | refine aLn ?_ | refine cK ?_ | refine aS8 ?_ | refine wI ?_ | refine nD ?_ | refine aX rfl ?_ | refine vL rfl ?_)
        intro _u; clear _u
        refine cS (fun h2 => ?_) (fun h2 => ?_)
        · subst hq
          repeat ((intro _u; clear _u); first | with_reducible first | refine cT ?_ | refine cF ?_ | refine cA ?_ | refine cB ?_ | refine aLn ?_ | refine cK ?_ | refine aS8 ?_ | refine wI ?_ | refine nD ?_ | refine aX rfl ?_ | refine vL rfl ?_)
          intro _u; clear _u
          exact rT
        · repeat ((intro _u; clear _u); first | with_reducible first | refine cT ?_ | refine cF ?_ | refine cA ?_ | refine cB ?_ | refine aLn ?_ | refine cK ?_ | refine aS8 ?_ | refine wI ?_ | refine nD ?_ | refine aX rfl ?_ | refine vL rfl ?_)
          intro _u; clear _u
          refine cS (fun h3 => ?_) (fun h3 => ?_)
          · subst hq
            repeat ((intro _u; clear _u); first | with_reducible first | refine cT ?_ | refine cF ?_ | refine cA ?_ | refine cB ?_ | refine aLn ?_ | refine cK ?_ | refine aS8 ?_ | refine wI ?_ | refine nD ?_ | refine aX rfl ?_ | refine vL rfl ?_)
            intro _u; clear _u
            exact rT
          · repeat ((intro _u; clear _u); first | with_reducible first | refine cT ?_ | refine cF ?_ | refine cA ?_ | refine cB ?_ | refine aLn ?_ | refine cK ?_ | refine aS8 ?_ | refine wI ?_ | refine nD ?_ | refine aX rfl ?_ | refine vL rfl ?_)
            intro _u; clear _u
            refine cS (fun h4 => ?_) (fun h4 => ?_)
            · subst hq
              repeat ((intro _u; clear _u); first | with_reducible first | refine cT ?_ | refine cF ?_ | refine cA ?_ | refine cB ?_ | refine aLn ?_ | refine cK ?_ | refine aS8 ?_ | refine wI ?_ | refine nD ?_ | refine aX rfl ?_ | refine vL rfl ?_)
              intro _u; clear _u
              exact rT
            · repeat ((intro _u; clear _u); first | with_reducible first | refine cT ?_ | refine cF ?_ | refine cA ?_ | refine cB ?_ | refine aLn ?_ | refine cK ?_ | refine aS8 ?_ | refine wI ?_ | refine nD ?_ | refine aX rfl ?_ | refine vL rfl ?_)
              intro _u; clear _u
              refine cS (fun h5 => ?_) (fun h5 => ?_)
              · subst hq
                repeat ((intro _u; clear _u); first | with_reducible first | refine cT ?_ | refine cF ?_ | refine cA ?_ | refine cB ?_ | refine aLn ?_ | refine cK ?_ | refine aS8 ?_ | refine wI ?_ | refine nD ?_ | refine aX rfl ?_ | refine vL rfl ?_)
                intro _u; clear _u
                exact rT
              · repeat ((intro _u; clear _u); first | with_reducible first | refine cT ?_ | refine cF ?_ | refine cA ?_ | refine cB ?_ | refine aLn ?_ | refine cK ?_ | refine aS8 ?_ | refine wI ?_ | refine nD ?_ | refine aX rfl ?_ | refine vL rfl ?_)
                intro _u; clear _u
                refine acnd_t (by (simp; omega)) ?_
                subst hq
                repeat ((intro _u; clear _u); first | with_reducible first | refine cT ?_ | refine cF ?_ | refine cA ?_ | refine cB ?_ | refine aLn ?_ | refine cK ?_ | refine aS8 ?_ | refine wI ?_ | refine nD ?_ | refine aX rfl ?_ | refine vL rfl ?_)
                intro _u; clear _u
                exact rT
    · have hb' := hb
      unfold dimBad at hb'
      repeat ((intro _u; clear _u); first | with_reducible first | refine cT ?_ | refine cF ?_ | refine cA ?_ | refine cB ?_ | refine aLn ?_ | refine cK ?_ | refine aS8 ?_ | refine wI ?_ | refine nD ?_ | refine aX rfl ?_ | refine vL rfl ?_)
      intro _u; clear _u
      refine acnd_f (by simp; omega) ?_
      repeat ((intro _u; clear _u); first | with_reducible first | refine cT ?_ | refine cF ?_ | refine cA ?_ | refine cB ?_ | refine aLn ?_ | refine cK ?_ | refine aS8 ?_ | refine wI ?_ | refine nD ?_ | refine aX rfl ?_ | refine vL rfl ?_)
      intro _u; clear _u
      refine acnd_f (by simp; omega) ?_
      repeat ((intro _u; clear _u); first | with_reducible first | refine cT ?_ | refine cF ?_ | refine cA ?_ | refine cB ?_ | refine aLn ?_ | refine cK ?_ | refine aS8 ?_ | refine wI ?_ | refine nD ?_ | refine aX rfl ?_ | refine vL rfl ?_)
      intro _u; clear _u
      refine acnd_f (by simp; omega) ?_
      repeat ((intro _u; clear _u); first | with_reducible first | refine cT ?_ | refine cF ?_ | refine cA ?_ | refine cB ?_ | refine aLn ?_ | refine cK ?_ | refine aS8 ?_ | refine wI ?_ | refine nD ?_ | refine aX rfl ?_ | refine vL rfl ?_)
      intro _u; clear _u
      refine acnd_f (by simp; omega) ?_
      repeat ((intro _u; clear _u); first | with_reducible first | refine cT ?_ | refine cF ?_ | refine cA ?_ | refine cB ?_ | refine aLn ?_ | refine cK ?_ | refine aS8 ?_ | refine wI ?_ | refine nD ?_ | refine aX rfl ?_ | refine vL rfl ?_)
      intro _u; clear _u
      refine acnd_f (by simp; omega) ?_
      repeat ((intro _u; clear _u); first | with_reducible first | refine cT ?_ | refine cF ?_ | refine cA ?_ | refine cB ?_ | refine aLn ?_ | refine cK ?_ | refine aS8 ?_ | refine wI ?_ | refine nD ?_ | refine aX rfl ?_ | refine vL rfl ?_)
      intro _u; clear _u
      refine acnd_f (by simp; omega) ?_
      have b1 : 1 ≤ p.w * p.h ∧ p.w * p.h ≤ 4096 := ⟨by have := Int.mul_le_mul (show 1 ≤ p.w by omega) (show 1 ≤ p.h by omega) (by omega) (by omega); omega, by have := Int.mul_le_mul (show p.w ≤ 64 by omega) (show p.h ≤ 64 by omega) (by omega) (by omega); omega⟩
      have b2 : 1 ≤ p.w * p.h * p.deep ∧ p.w * p.h * p.deep ≤ 16384 := ⟨by have := Int.mul_le_mul b1.1 (show 1 ≤ p.deep by omega) (by omega) (by omega); omega, by have := Int.mul_le_mul b1.2 (show p.deep ≤ 4 by omega) (by omega) (by omega); omega⟩
      have hw : 1 ≤ p.w ∧ p.w ≤ 64 := by omega
      have hd : 1 ≤ p.deep ∧ p.deep ≤ 4 := by omega
      repeat ((intro _u; clear _u); first | with_reducible first | refine cT ?_ | refine cF ?_ | refine cA ?_ | refine cB ?_ | refine aLn ?_ | refine cK ?_ | refine aS8 ?_ | refine wI ?_ | refine nD ?_ | refine aX rfl ?_ | refine vL rfl ?_)
      intro _u; clear _u
      refine cS (fun h2 => ?_) (fun h2 => ?_)
      · rw [whole_l h2] at hq
        subst hq
        repeat ((intro _u; clear _u); first | with_reducible first | refine cT ?_ | refine cF ?_ | refine cA ?_ | refine cB ?_ | refine aLn ?_ | refine cK ?_ | refine aS8 ?_ | refine wI ?_ | refine nD ?_ | refine aX rfl ?_ | refine vL rfl ?_)
        intro _u; clear _u
        exact rT
      · repeat ((intro _u; clear _u); first | with_reducible first | refine cT ?_ | refine cF ?_ | refine cA ?_ | refine cB ?_ | refine aLn ?_ | refine cK ?_ | refine aS8 ?_ | refine wI ?_ | refine nD ?_ | refine aX rfl ?_ | refine vL rfl ?_)
        intro _u; clear _u
        refine cM false [] (expected_c h.n182 p hw hd) ?_
        repeat ((intro _u; clear _u); first | refine eK ?_ | refine eP ?_)
        repeat ((intro _u; clear _u); first | with_reducible first | refine cT ?_ | refine cF ?_ | refine cA ?_ | refine cB ?_ | refine aLn ?_ | refine cK ?_ | refine aS8 ?_ | refine wI ?_ | refine nD ?_ | refine aX rfl ?_ | refine vL rfl ?_)
        intro _u; clear _u
        refine ILoop.one 100 ?_
        repeat ((intro _u; clear _u); first | with_reducible first | refine cT ?_ | refine cF ?_ | refine cA ?_ | refine cB ?_ | refine aLn ?_ | refine cK ?_ | refine aS8 ?_ | refine wI ?_ | refine nD ?_ | refine aX rfl ?_ | refine vL rfl ?_)
        intro _u; clear _u
        refine acnd_t (by simp; omega) ?_
        obtain ⟨x, hx⟩ : ∃ u_, ds[0]? = some u_ := ⟨_, List.getElem?_eq_getElem (by first | omega | (simp <;> omega))⟩
        repeat ((intro _u; clear _u); first | with_reducible first | refine cT ?_ | refine cF ?_ | refine cA ?_ | refine cB ?_ | refine aLn ?_ | refine cK ?_ | refine aS8 ?_ | refine wI ?_ | refine nD ?_ | refine aX rfl ?_ | refine vL rfl ?_)
        intro _u; clear _u
        refine eget_map hx ?_
        repeat ((intro _u; clear _u); first | with_reducible first | refine cT ?_ | refine cF ?_ | refine cA ?_ | refine cB ?_ | refine aLn ?_ | refine cK ?_ | refine aS8 ?_ | refine wI ?_ | refine nD ?_ | refine aX rfl ?_ | refine vL rfl ?_)
        intro _u; clear _u
        refine cS (fun h3 => ?_) (fun h3 => ?_)
        · rw [whole_b hx (by simp [bad16]; omega)] at hq
          subst hq
          repeat ((intro _u; clear _u); first | with_reducible first | refine cT ?_ | refine cF ?_ | refine cA ?_ | refine cB ?_ | refine aLn ?_ | refine cK ?_ | refine aS8 ?_ | refine wI ?_ | refine nD ?_ | refine aX rfl ?_ | refine vL rfl ?_)
          intro _u; clear _u
          exact rT
        · repeat ((intro _u; clear _u); first | with_reducible first | refine cT ?_ | refine cF ?_ | refine cA ?_ | refine cB ?_ | refine aLn ?_ | refine cK ?_ | refine aS8 ?_ | refine wI ?_ | refine nD ?_ | refine aX rfl ?_ | refine vL rfl ?_)
          intro _u; clear _u
          refine cS (fun h4 => ?_) (fun h4 => ?_)
          · rw [whole_b hx (by simp [bad16]; omega)] at hq
            subst hq
            repeat ((intro _u; clear _u); first | with_reducible first | refine cT ?_ | refine cF ?_ | refine cA ?_ | refine cB ?_ | refine aLn ?_ | refine cK ?_ | refine aS8 ?_ | refine wI ?_ | refine nD ?_ | refine aX rfl ?_ | refine vL rfl ?_)
            intro _u; clear _u
            exact rT
          · repeat ((intro _u; clear _u); first | with_reducible first | refine cT ?_ | refine cF ?_ | refine cA ?_ | refine cB ?_ | refine aLn ?_ | refine cK ?_ | refine aS8 ?_ | refine wI ?_ | refine nD ?_ | refine aX rfl ?_ | refine vL rfl ?_)
            intro _u; clear _u
            refine cM false [2, 3] (ex_c h.n182.n188 p hw hd [] (fun x hx => by cases hx) 0 (by simp) (by simp)) ?_
            repeat ((intro _u; clear _u); first | refine eK ?_ | refine eP ?_)
            have e0 : exv p [] (0 : Nat) = 0 := by
              unfold exv; repeat' split
              all_goals first | rfl | simp [atp]
            rw [e0]
            have e2 : bit2 .and .i64 (0 + x) 65535 = (0 + x) % 65536 := and_low 16 (by decide) (by simp only [inI]; omega)
            repeat ((intro _u; clear _u); first | with_reducible first | refine cT ?_ | refine cF ?_ | refine cA ?_ | refine cB ?_ | refine aLn ?_ | refine cK ?_ | refine aS8 ?_ | refine wI ?_ | refine nD ?_ | refine aX rfl ?_ | refine vL rfl ?_)
            rw [e2]
            have w1 : wacc p (ds.take 1) = [(0 + x) % 65536] := by
              rw [wacc_succ (k := 0) hx]
              show [] ++ [(exv p [] (0 : Nat) + x) % 65536] = _
              rw [e0]; rfl
            repeat ((intro _u; clear _u); first | with_reducible first | refine cT ?_ | refine cF ?_ | refine cA ?_ | refine cB ?_ | refine aLn ?_ | refine cK ?_ | refine aS8 ?_ | refine wI ?_ | refine nD ?_ | refine aX rfl ?_ | refine vL rfl ?_)
            intro _u; clear _u
            refine ILoop.inv 100 (fun k : Nat => 1 ≤ k ∧ k ≤ ds.length ∧ (ds.take k).any bad16 = false) (fun k => ⟨[(2, .loc 0 1 0 0), (4, .loc 1 1 0 0), (6, R.cl 188 [.loc 3 1 0 0, .loc 2 1 0 0]), (54, .isl 1 (slcK .i64 ds)), (55, .int .i64 ds.length), (56, .int .i64 k)], wM R p (wacc p (ds.take k)), 6⟩) (fun k => ds.length - k) (1) ?_ ⟨⟨_, hp, rfl⟩, ?_, ?_⟩ ?_
            · exact ⟨by omega, by omega, by rw [any_take_succ2 hx]; simp [bad16]; omega⟩
            · all_goals repeat' (first | exact True.intro | refine And.intro ?_ ?_ | (intro _u; clear _u) | (with_reducible first | refine eM ?_ ?_ | refine eF ?_ ?_ ?_ | refine eN ?_ | refine eL ?_ ?_ ?_ | refine eA ?_ ?_ | refine IWk.mk ⟨_, hp, rfl⟩ ?_ ?_) | refine IWk.mk ⟨_, hp, rfl⟩ ?_ ?_)
              all_goals first | with_reducible rfl | omega | exact Or.inl (by decide) | (simp; done) | rfl | skip
            · all_goals repeat' (first | exact True.intro | refine And.intro ?_ ?_ | (intro _u; clear _u) | (with_reducible first | refine eM ?_ ?_ | refine eF ?_ ?_ ?_ | refine eN ?_ | refine eL ?_ ?_ ?_ | refine eA ?_ ?_ | refine IWk.mk ⟨_, hp, rfl⟩ ?_ ?_) | refine IWk.mk ⟨_, hp, rfl⟩ ?_ ?_)
              all_goals first | with_reducible rfl | omega | exact Or.inl (by decide) | (simp; done) | rfl | skip
              all_goals (rw [w1]; rfl)
            · intro k hk
              dsimp only
              obtain ⟨hk1, hk2, hk3⟩ := hk
              have wl := wacc_len p (ds.take k)
              have wi := wacc_in p (ds.take k)
              rw [List.length_take, Nat.min_eq_left hk2] at wl
              repeat ((intro _u; clear _u); first | with_reducible first | refine cT ?_ | refine cF ?_ | refine cA ?_ | refine cB ?_ | refine aLn ?_ | refine cK ?_ | refine aS8 ?_ | refine wI ?_ | refine nD ?_ | refine aX rfl ?_ | refine vL rfl ?_)
              intro _u; clear _u
              refine cS (fun h5 => ?_) (fun h5 => ?_)
              · obtain ⟨y, hy⟩ : ∃ u_, ds[k]? = some u_ := ⟨_, List.getElem?_eq_getElem (by first | omega | (simp <;> omega))⟩
                repeat ((intro _u; clear _u); first | with_reducible first | refine cT ?_ | refine cF ?_ | refine cA ?_ | refine cB ?_ | refine aLn ?_ | refine cK ?_ | refine aS8 ?_ | refine wI ?_ | refine nD ?_ | refine aX rfl ?_ | refine vL rfl ?_)
                intro _u; clear _u
                refine eget_map hy ?_
                have hws := wacc_succ (p := p) hy
                rw [wl] at hws
                generalize wacc p (ds.take k) = es at wl wi hws ⊢
                repeat ((intro _u; clear _u); first | with_reducible first | refine cT ?_ | refine cF ?_ | refine cA ?_ | refine cB ?_ | refine aLn ?_ | refine cK ?_ | refine aS8 ?_ | refine wI ?_ | refine nD ?_ | refine aX rfl ?_ | refine vL rfl ?_)
                intro _u; clear _u
                refine cS (fun h6 => ?_) (fun h6 => ?_)
                · rw [whole_b hy (by simp [bad16]; omega)] at hq
                  subst hq
                  repeat ((intro _u; clear _u); first | with_reducible first | refine cT ?_ | refine cF ?_ | refine cA ?_ | refine cB ?_ | refine aLn ?_ | refine cK ?_ | refine aS8 ?_ | refine wI ?_ | refine nD ?_ | refine aX rfl ?_ | refine vL rfl ?_)
                  intro _u; clear _u
                  exact rT
                · repeat ((intro _u; clear _u); first | with_reducible first | refine cT ?_ | refine cF ?_ | refine cA ?_ | refine cB ?_ | refine aLn ?_ | refine cK ?_ | refine aS8 ?_ | refine wI ?_ | refine nD ?_ | refine aX rfl ?_ | refine vL rfl ?_)
                  intro _u; clear _u
                  refine cS (fun h7 => ?_) (fun h7 => ?_)
                  · rw [whole_b hy (by simp [bad16]; omega)] at hq
                    subst hq
                    repeat ((intro _u; clear _u); first | with_reducible first | refine cT ?_ | refine cF ?_ | refine cA ?_ | refine cB ?_ | refine aLn ?_ | refine cK ?_ | refine aS8 ?_ | refine wI ?_ | refine nD ?_ | refine aX rfl ?_ | refine vL rfl ?_)
                    intro _u; clear _u
                    exact rT
                  · repeat ((intro _u; clear _u); first | with_reducible first | refine cT ?_ | refine cF ?_ | refine cA ?_ | refine cB ?_ | refine aLn ?_ | refine cK ?_ | refine aS8 ?_ | refine wI ?_ | refine nD ?_ | refine aX rfl ?_ | refine vL rfl ?_)
                    intro _u; clear _u
                    refine cM false [2, 3, 5] (exL_c h.n182.n188 p hw hd es wi k (by omega) (by omega)) ?_
                    repeat ((intro _u; clear _u); first | refine eK ?_ | refine eP ?_)
                    have e3 := exv_in wi (p := p) (k : Int)
                    have e4 : bit2 .and .i64 (exv p es k + y) 65535 = (exv p es k + y) % 65536 := and_low 16 (by decide) (by simp only [inI]; omega)
                    repeat ((intro _u; clear _u); first | with_reducible first | refine cT ?_ | refine cF ?_ | refine cA ?_ | refine cB ?_ | refine aLn ?_ | refine cK ?_ | refine aS8 ?_ | refine wI ?_ | refine nD ?_ | refine aX rfl ?_ | refine vL rfl ?_)
                    rw [e4]
                    repeat ((intro _u; clear _u); first | with_reducible first | refine cT ?_ | refine cF ?_ | refine cA ?_ | refine cB ?_ | refine aLn ?_ | refine cK ?_ | refine aS8 ?_ | refine wI ?_ | refine nD ?_ | refine aX rfl ?_ | refine vL rfl ?_)
                    intro _u; clear _u
                    refine nX (k + 1) ?_ ?_ ⟨_, hp, rfl⟩ ?_ ?_
                    · exact ⟨by omega, by omega, by rw [any_take_succ2 hy, hk3]; simp [bad16]; omega⟩
                    · omega
                    · all_goals repeat' (first | exact True.intro | refine And.intro ?_ ?_ | (intro _u; clear _u) | (with_reducible first | refine eM ?_ ?_ | refine eF ?_ ?_ ?_ | refine eN ?_ | refine eL ?_ ?_ ?_ | refine eA ?_ ?_ | refine IWk.mk ⟨_, hp, rfl⟩ ?_ ?_) | refine IWk.mk ⟨_, hp, rfl⟩ ?_ ?_)
                      all_goals first | with_reducible rfl | omega | exact Or.inl (by decide) | (simp; done) | rfl | skip
                    · all_goals repeat' (first | exact True.intro | refine And.intro ?_ ?_ | (intro _u; clear _u) | (with_reducible first | refine eM ?_ ?_ | refine eF ?_ ?_ ?_ | refine eN ?_ | refine eL ?_ ?_ ?_ | refine eA ?_ ?_ | refine IWk.mk ⟨_, hp, rfl⟩ ?_ ?_) | refine IWk.mk ⟨_, hp, rfl⟩ ?_ ?_)
                      all_goals first | with_reducible rfl | omega | exact Or.inl (by decide) | (simp; done) | rfl | skip
                      all_goals (rw [hws]; simp [slcK])
              · have hkl : k = ds.length := by omega
                subst hkl
                rw [List.take_length] at wl wi hk3 ⊢
                rw [whole, if_neg (by rw [hk3]; simp; exact ⟨hb, by omega⟩)] at hq
                repeat ((intro _u; clear _u); first | with_reducible first | refine cT ?_ | refine cF ?_ | refine cA ?_ | refine cB ?_ | refine aLn ?_ | refine cK ?_ | refine aS8 ?_ | refine wI ?_ | refine nD ?_ | refine aX rfl ?_ | refine vL rfl ?_)
                intro _u; clear _u
                refine ICall.let [5] rfl hp rfl ?_
                repeat ((intro _u; clear _u); first | refine eZ ?_ | refine FrzC.drop ?_)
                repeat ((intro _u; clear _u); first | with_reducible first | refine cT ?_ | refine cF ?_ | refine cA ?_ | refine cB ?_ | refine aLn ?_ | refine cK ?_ | refine aS8 ?_ | refine wI ?_ | refine nD ?_ | refine aX rfl ?_ | refine vL rfl ?_)
                intro _u; clear _u
                refine ICall.pure h.n153.o153.hb (pcheck_c h.n153 ⟨p.w, p.h, p.deep, p.name, wacc p ds⟩ hs) rfl ?_
                repeat ((intro _u; clear _u); first | with_reducible first | refine cT ?_ | refine cF ?_ | refine cA ?_ | refine cB ?_ | refine aLn ?_ | refine cK ?_ | refine aS8 ?_ | refine wI ?_ | refine nD ?_ | refine aX rfl ?_ | refine vL rfl ?_)
                intro _u; clear _u
                refine cS (fun h6 => ?_) (fun h6 => ?_)
                · rw [if_neg h6] at hq
                  subst hq
                  repeat ((intro _u; clear _u); first | with_reducible first | refine cT ?_ | refine cF ?_ | refine cA ?_ | refine cB ?_ | refine aLn ?_ | refine cK ?_ | refine aS8 ?_ | refine wI ?_ | refine nD ?_ | refine aX rfl ?_ | refine vL rfl ?_)
                  intro _u; clear _u
                  exact rT
                · rw [if_pos h6] at hq
                  subst hq
                  repeat ((intro _u; clear _u); first | with_reducible first | refine cT ?_ | refine cF ?_ | refine cA ?_ | refine cB ?_ | refine aLn ?_ | refine cK ?_ | refine aS8 ?_ | refine wI ?_ | refine nD ?_ | refine aX rfl ?_ | refine vL rfl ?_)
                  intro _u; clear _u
                  exact rT
end Go.UM

/- Package pack, part 4: short numbers read; what was packed, unpacked (plain). -/


namespace Go.UM
open Go.AM
set_option maxRecDepth 4000

/-- A short number that is read: the number, and how many bytes; (0, 0): the bytes end. -/
def numr : Nat → Nat → List UInt8 → Nat × Nat
  | _, _, [] => (0, 0)
  | i, acc, x :: r => if x.toNat < 128 then (acc + (if i < 4 then x.toNat % 128 * 128 ^ i else 0), i + 1) else numr (i + 1) (acc + (if i < 4 then x.toNat % 128 * 128 ^ i else 0)) r

theorem a7 (x : UInt8) : bit2 .and .u8 (x.toNat : Int) 127 = ((x.toNat % 128 : Nat) : Int) := by
  have e : bit2 .and .u8 (x.toNat : Int) 127 = wr .u8 ((BitVec.ofInt 8 (x.toNat : Int) &&& BitVec.ofInt 8 127).toNat : Int) := rfl
  have h := x.toNat_lt
  rw [e, BitVec.toNat_and, ofInt_toNat (by omega) (by omega), ofInt_toNat (by omega) (by omega)]
  rw [show (127 : Int).toNat = 2 ^ 7 - 1 from rfl, Nat.and_two_pow_sub_one_eq_mod, Int.toNat_natCast, wr_nat_u8 (by omega)]
theorem s7 {v i : Nat} (hv : v < 128) (hi : i < 4) : shlI .i64 (v : Int) (7 * (i : Int)) = ((128 ^ i * v : Nat) : Int) := by
  obtain rfl | rfl | rfl | rfl : i = 0 ∨ i = 1 ∨ i = 2 ∨ i = 3 := by omega
  all_goals (simp only [shlI, IntKind.wrap, IntKind.bits, IntKind.signed]; simp; omega)
theorem o7 {a v i : Nat} (ha : a < 128 ^ i) (hv : v < 128) (hi : i < 4) : bit2 .or .i64 (a : Int) ((128 ^ i * v : Nat) : Int) = ((a + v * 128 ^ i : Nat) : Int) := by
  have hp : (128 : Nat) ^ i ≤ 128 ^ 3 := Nat.pow_le_pow_right (by decide) (by omega)
  have h1 : 128 ^ i * v ≤ 128 ^ 3 * 127 := Nat.mul_le_mul hp (by omega)
  rw [or_i64 ⟨by omega, by omega⟩ ⟨by omega, by omega⟩, Int.toNat_natCast, Int.toNat_natCast]
  have h2 : (128 : Nat) ^ i = 2 ^ (7 * i) := by rw [Nat.pow_mul]
  rw [h2] at ha ⊢
  rw [Nat.or_comm, ← Nat.two_pow_add_eq_or_of_lt ha v, Nat.mul_comm v, Nat.add_comm]
theorem numr_lt : ∀ (b : List UInt8) (i acc : Nat), acc < 268435456 → (i < 4 → acc < 128 ^ i) → (numr i acc b).1 < 268435456
  | [], _, _, _, _ => by simp [numr]
  | x :: r, i, acc, h1, h2 => by
    have h3 : (acc + (if i < 4 then x.toNat % 128 * 128 ^ i else 0)) < 268435456 ∧ (i + 1 < 4 → (acc + (if i < 4 then x.toNat % 128 * 128 ^ i else 0)) < 128 ^ (i + 1)) := by
      by_cases hi : i < 4
      · rw [if_pos hi]
        have := h2 hi
        have hm : x.toNat % 128 * 128 ^ i ≤ 127 * 128 ^ i := Nat.mul_le_mul_right _ (by omega)
        have hp : (128 : Nat) ^ (i + 1) ≤ 128 ^ 4 := Nat.pow_le_pow_right (by decide) (by omega)
        have e : (128 : Nat) ^ (i + 1) = 128 ^ i * 128 := Nat.pow_succ ..
        exact ⟨by omega, fun _ => by omega⟩
      · rw [if_neg hi]
        exact ⟨by omega, fun h => by omega⟩
    rw [numr]
    split
    · exact h3.1
    · exact numr_lt r (i + 1) _ h3.1 h3.2

theorem number_c {R : Env} (h : N185 R) (b : List UInt8) (hb : b.length ≤ 1000) : R.Pc 185 [.isl 1 (slc8 b)] (.tup [.int .i64 (numr 0 0 b).1, .int .i64 (numr 0 0 b).2]) :=
  h.o185.enter 100 rfl fun X bb hfit hp => by
    generalize hq : numr 0 0 b = q
    repeat ((intro _u; clear _u); first | with_reducible first | refine cT ?_ | refine cF ?_ | refine cA ?_ | refine cB ?_ | refine aLn ?_ | refine cK ?_ | refine aS8 ?_ | refine wI ?_ | refine nD ?_ | refine aX rfl ?_ | refine vL rfl ?_)
    intro _u; clear _u
    refine lPa 100 (fun s : Nat × Nat => s.1 ≤ b.length ∧ s.2 < 268435456 ∧ (s.1 < 4 → s.2 < 128 ^ s.1) ∧ numr s.1 s.2 (b.drop s.1) = q) (fun s => ⟨[(2, .int .i64 s.2), (6, .isl 1 (slc8 b)), (7, .int .i64 b.length), (8, .int .i64 s.1)], [], 0⟩) (fun s => b.length - s.1) ((0, 0)) ?_ ?_
    · exact ⟨Nat.zero_le _, by decide, fun _ => by decide, by simpa using hq⟩
    · rintro ⟨i, a⟩ ⟨h1, h2, h3, h4⟩
      dsimp only at h1 h2 h3 h4 ⊢
      repeat ((intro _u; clear _u); first | with_reducible first | refine cT ?_ | refine cF ?_ | refine cA ?_ | refine cB ?_ | refine aLn ?_ | refine cK ?_ | refine aS8 ?_ | refine wI ?_ | refine nD ?_ | refine aX rfl ?_ | refine vL rfl ?_)
      intro _u; clear _u
      refine cS (fun g1 => ?_) (fun g1 => ?_)
      · obtain ⟨x, hx⟩ : ∃ u_, b[i]? = some u_ := ⟨_, List.getElem?_eq_getElem (by first | omega | (simp <;> omega))⟩
        repeat ((intro _u; clear _u); first | with_reducible first | refine cT ?_ | refine cF ?_ | refine cA ?_ | refine cB ?_ | refine aLn ?_ | refine cK ?_ | refine aS8 ?_ | refine wI ?_ | refine nD ?_ | refine aX rfl ?_ | refine vL rfl ?_)
        intro _u; clear _u
        refine eget_map hx ?_
        rw [drop_got hx, numr] at h4
        have hx8 := x.toNat_lt
        repeat ((intro _u; clear _u); first | with_reducible first | refine cT ?_ | refine cF ?_ | refine cA ?_ | refine cB ?_ | refine aLn ?_ | refine cK ?_ | refine aS8 ?_ | refine wI ?_ | refine nD ?_ | refine aX rfl ?_ | refine vL rfl ?_)
        intro _u; clear _u
        refine cS (fun g2 => ?_) (fun g2 => ?_)
        · have ha := h3 (by omega)
          have hp : (128 : Nat) ^ (i + 1) ≤ 128 ^ 4 := Nat.pow_le_pow_right (by decide) (by omega)
          have e : (128 : Nat) ^ (i + 1) = 128 ^ i * 128 := Nat.pow_succ ..
          have hm : x.toNat % 128 * 128 ^ i ≤ 127 * 128 ^ i := Nat.mul_le_mul_right _ (by omega)
          rw [if_pos (show i < 4 by omega)] at h4
          repeat ((intro _u; clear _u); first | with_reducible first | refine cT ?_ | refine cF ?_ | refine cA ?_ | refine cB ?_ | refine aLn ?_ | refine cK ?_ | refine aS8 ?_ | refine wI ?_ | refine nD ?_ | refine aX rfl ?_ | refine vL rfl ?_)
          intro _u; clear _u
          rw [a7]
          refine wI ?_
          repeat ((intro _u; clear _u); first | with_reducible first | refine cT ?_ | refine cF ?_ | refine cA ?_ | refine cB ?_ | refine aLn ?_ | refine cK ?_ | refine aS8 ?_ | refine wI ?_ | refine nD ?_ | refine aX rfl ?_ | refine vL rfl ?_)
          rw [s7 (by omega) (by omega)]
          repeat ((intro _u; clear _u); first | with_reducible first | refine cT ?_ | refine cF ?_ | refine cA ?_ | refine cB ?_ | refine aLn ?_ | refine cK ?_ | refine aS8 ?_ | refine wI ?_ | refine nD ?_ | refine aX rfl ?_ | refine vL rfl ?_)
          intro _u; clear _u
          rw [o7 ha (by omega) (by omega)]
          refine cS (fun g3 => ?_) (fun g3 => ?_)
          · rw [if_pos (by omega)] at h4
            rw [← h4]
            repeat ((intro _u; clear _u); first | with_reducible first | refine cT ?_ | refine cF ?_ | refine cA ?_ | refine cB ?_ | refine aLn ?_ | refine cK ?_ | refine aS8 ?_ | refine wI ?_ | refine nD ?_ | refine aX rfl ?_ | refine vL rfl ?_)
            intro _u; clear _u
            exact rT
          · rw [if_neg (by omega)] at h4
            repeat ((intro _u; clear _u); first | with_reducible first | refine cT ?_ | refine cF ?_ | refine cA ?_ | refine cB ?_ | refine aLn ?_ | refine cK ?_ | refine aS8 ?_ | refine wI ?_ | refine nD ?_ | refine aX rfl ?_ | refine vL rfl ?_)
            intro _u; clear _u
            refine nXa ((i + 1, a + x.toNat % 128 * 128 ^ i)) ?_ ?_
            · exact ⟨by dsimp only; omega, by dsimp only; omega, fun _ => by dsimp only; omega, h4⟩
            · dsimp only; omega
        · rw [if_neg (show ¬ i < 4 by omega), Nat.add_zero] at h4
          repeat ((intro _u; clear _u); first | with_reducible first | refine cT ?_ | refine cF ?_ | refine cA ?_ | refine cB ?_ | refine aLn ?_ | refine cK ?_ | refine aS8 ?_ | refine wI ?_ | refine nD ?_ | refine aX rfl ?_ | refine vL rfl ?_)
          intro _u; clear _u
          refine cS (fun g3 => ?_) (fun g3 => ?_)
          · rw [if_pos (by omega)] at h4
            rw [← h4]
            repeat ((intro _u; clear _u); first | with_reducible first | refine cT ?_ | refine cF ?_ | refine cA ?_ | refine cB ?_ | refine aLn ?_ | refine cK ?_ | refine aS8 ?_ | refine wI ?_ | refine nD ?_ | refine aX rfl ?_ | refine vL rfl ?_)
            intro _u; clear _u
            exact rT
          · rw [if_neg (by omega)] at h4
            repeat ((intro _u; clear _u); first | with_reducible first | refine cT ?_ | refine cF ?_ | refine cA ?_ | refine cB ?_ | refine aLn ?_ | refine cK ?_ | refine aS8 ?_ | refine wI ?_ | refine nD ?_ | refine aX rfl ?_ | refine vL rfl ?_)
            intro _u; clear _u
            refine nXa ((i + 1, a)) ?_ ?_
            · exact ⟨by dsimp only; omega, h2, fun h => by dsimp only at h; omega, h4⟩
            · dsimp only; omega
      · rw [List.drop_of_length_le (by omega), numr] at h4
        rw [← h4]
        repeat ((intro _u; clear _u); first | with_reducible first | refine cT ?_ | refine cF ?_ | refine cA ?_ | refine cB ?_ | refine aLn ?_ | refine cK ?_ | refine aS8 ?_ | refine wI ?_ | refine nD ?_ | refine aX rfl ?_ | refine vL rfl ?_)
        intro _u; clear _u
        exact rT

/-! ### There and back -/
theorem hib_toNat (n : Nat) : (hib n).toNat = n % 128 + 128 := by
  have h := hib_val n
  have e : wr .u8 (n : Int) = ((n % 256 : Nat) : Int) := by
    rw [wr_u8, u8]
    simp
    omega
  have e2 : bit2 .or .u8 (wr .u8 (n : Int)) 128 = wr .u8 ((BitVec.ofInt 8 (wr .u8 (n : Int)) ||| BitVec.ofInt 8 128).toNat : Int) := rfl
  rw [e2, e, BitVec.toNat_or, ofInt_toNat (by omega) (by omega), ofInt_toNat (by omega) (by omega), Int.toNat_natCast] at h
  have key : ∀ m : Fin 256, (m.val ||| 128) = m.val % 128 + 128 := by decide
  have k := key ⟨n % 256, by omega⟩
  dsimp only at k
  rw [show (128 : Int).toNat = 128 from rfl, k, wr_nat_u8 (by omega)] at h
  omega
theorem u8_nat {n : Nat} (h : n < 256) : (u8 (n : Int)).toNat = n := by
  have := u8_in (n := (n : Int)) (by omega)
  omega

theorem numr_short : ∀ (n i acc : Nat) (rest : List UInt8), i < 4 → n < 128 ^ (4 - i) → numr i acc (short n ++ rest) = (acc + n * 128 ^ i, i + (short n).length) := by
  intro n
  induction n using Nat.strongRecOn with
  | ind n ih =>
    intro i acc rest hi hn
    by_cases hs : n < 128
    · rw [short_small hs]
      simp only [List.cons_append, List.nil_append, numr, u8_nat (show n < 256 by omega)]
      rw [if_pos hs, if_pos hi, Nat.mod_eq_of_lt hs]
      rfl
    · rw [short_big (by omega)]
      simp only [List.cons_append, numr, hib_toNat]
      rw [if_neg (by omega), if_pos hi]
      have hi3 : i < 3 := by
        rcases Nat.lt_or_ge i 3 with h | h
        · exact h
        · have : i = 3 := by omega
          subst this
          omega
      have e : 4 - i = (4 - (i + 1)) + 1 := by omega
      rw [e, Nat.pow_succ] at hn
      rw [ih (n / 128) (by omega) (i + 1) _ rest (by omega) (by omega)]
      have e3 : (128 : Nat) ^ (i + 1) = 128 ^ i * 128 := Nat.pow_succ ..
      have e4 : n * 128 ^ i = (n % 128) * 128 ^ i + (n / 128) * 128 ^ (i + 1) := by
        conv => lhs; rw [← Nat.mod_add_div n 128]
        rw [Nat.add_mul, e3]
        congr 1
        rw [Nat.mul_comm 128 (n / 128), Nat.mul_assoc, Nat.mul_comm 128]
      have e5 : (n % 128 + 128) % 128 = n % 128 := by omega
      rw [e5]
      congr 1
      · omega
      · simp; omega
theorem number_short {n : Nat} (h : n < 268435456) (rest : List UInt8) : numr 0 0 (short n ++ rest) = (n, (short n).length) := by
  rw [numr_short n 0 0 rest (by omega) (by simpa using h)]
  simp

/-- The numbers in bytes, as many as wanted; none: the bytes end. -/
def unl (want : Nat) : Nat → List UInt8 → List Int → Option (List Int)
  | 0, _, l => if want ≤ l.length then some l else none
  | f + 1, rest, l =>
    if want ≤ l.length then some l
    else if (numr 0 0 rest).2 = 0 then none
    else if (numr 0 0 rest).1 ≠ 0 then unl want f (rest.drop (numr 0 0 rest).2) (l ++ [zag (numr 0 0 rest).1])
    else if (numr 0 0 (rest.drop (numr 0 0 rest).2)).2 = 0 then none
    else if want - l.length ≤ (numr 0 0 (rest.drop (numr 0 0 rest).2)).1 then some (l ++ List.replicate (want - l.length) 0)
    else unl want f ((rest.drop (numr 0 0 rest).2).drop (numr 0 0 (rest.drop (numr 0 0 rest).2)).2) (l ++ List.replicate ((numr 0 0 (rest.drop (numr 0 0 rest).2)).1 + 1) 0)

theorem zag_zig {x : Int} (h : -32768 ≤ x ∧ x ≤ 32767) : zag (zig x) = x := by
  rw [zig_val h]; unfold zag; split <;> split <;> omega
theorem zrun_le (l : List Int) : zrun l ≤ l.length := by
  unfold zrun
  exact (List.takeWhile_prefix _).length_le
theorem zrun_split : ∀ l : List Int, l = List.replicate (zrun l) 0 ++ l.drop (zrun l)
  | [] => rfl
  | x :: r => by
    by_cases h : x = 0
    · have e : zrun (x :: r) = zrun r + 1 := by simp [zrun, List.takeWhile_cons, h]
      rw [e, List.replicate_succ, List.drop_succ_cons, List.cons_append, ← zrun_split r, h]
    · have e : zrun (x :: r) = 0 := by simp [zrun, List.takeWhile_cons, h]
      rw [e]; rfl

theorem unl_pk : ∀ (k : Nat) (ds : List Int) (f : Nat) (l : List Int) (want : Nat), ds.length = k → k ≤ f → want = l.length + k → k ≤ 16384 → (∀ x ∈ ds, -32768 ≤ x ∧ x ≤ 32767) → unl want f (pk ds) l = some (l ++ ds) := by
  intro k
  induction k using Nat.strongRecOn with
  | ind k ih =>
    intro ds f l want hk hf hw hm hd
    match ds, hk with
    | [], hk =>
      have : k = 0 := hk.symm
      subst this
      cases f with
      | zero => rw [unl, if_pos (by omega)]; simp
      | succ f => rw [unl, if_pos (by omega)]; simp
    | x :: r, hk =>
      have hk' : k = r.length + 1 := hk.symm
      cases f with
      | zero => omega
      | succ f =>
        have hx := hd x (by simp)
        have hr : ∀ y ∈ r, -32768 ≤ y ∧ y ≤ 32767 := fun y hy => hd y (by simp [hy])
        rw [unl, if_neg (by omega)]
        by_cases h0 : x = 0
        · subst h0
          have hz := zrun_le r
          rw [pk, if_pos rfl]
          have n1 : numr 0 0 (0 :: (short (zrun r) ++ pk (r.drop (zrun r)))) = (0, 1) := by
            have := number_short (n := 0) (by decide) (short (zrun r) ++ pk (r.drop (zrun r)))
            rwa [short_small (by decide)] at this
          rw [n1]
          dsimp only
          rw [if_neg (by decide), if_neg (by simp), List.drop_succ_cons, List.drop_zero, number_short (by omega)]
          dsimp only
          have sp := short_pos (zrun r)
          rw [if_neg (by omega), if_neg (by omega), List.drop_left]
          rw [ih (r.length - zrun r) (by omega) (r.drop (zrun r)) f _ want (by simp) (by omega) (by simp; omega) (by omega) (fun y hy => hr y (List.mem_of_mem_drop hy))]
          congr 1
          rw [List.append_assoc]
          congr 1
          conv => rhs; rw [zrun_split r]
          rw [List.replicate_succ]; rfl
        · rw [pk, if_neg h0]
          have hzv := zig_val hx
          have hz0 : 0 < zig x ∧ zig x ≤ 131072 := by rw [hzv]; split <;> omega
          rw [number_short (by omega)]
          dsimp only
          have sp := short_pos (zig x).toNat
          rw [if_neg (by omega), if_pos (by omega), List.drop_left]
          rw [show (((zig x).toNat : Nat) : Int) = zig x by omega, zag_zig hx]
          rw [ih r.length (by omega) r f (l ++ [x]) want rfl (by omega) (by simp; omega) (by omega) hr]
          simp

theorem short_le3 {n : Nat} (h : n < 2097152) : (short n).length ≤ 3 := by
  by_cases h1 : n < 128
  · rw [short_small h1]; simp
  · rw [short_big (by omega)]
    by_cases h2 : n / 128 < 128
    · rw [short_small h2]; simp
    · rw [short_big (by omega), short_small (n := n / 128 / 128) (by omega)]; simp
theorem pk_len : ∀ (k : Nat) (ds : List Int), ds.length = k → k ≤ 16384 → (∀ x ∈ ds, -32768 ≤ x ∧ x ≤ 32767) → (pk ds).length ≤ 4 * k := by
  intro k
  induction k using Nat.strongRecOn with
  | ind k ih =>
    intro ds hk hm hd
    match ds, hk with
    | [], hk => rw [pk]; simp
    | x :: r, hk =>
      have hk' : k = r.length + 1 := hk.symm
      have hx := hd x (by simp)
      have hr : ∀ y ∈ r, -32768 ≤ y ∧ y ≤ 32767 := fun y hy => hd y (by simp [hy])
      rw [pk]
      split
      · have hz := zrun_le r
        have := ih (r.length - zrun r) (by omega) (r.drop (zrun r)) (by simp) (by omega) (fun y hy => hr y (List.mem_of_mem_drop hy))
        have s3 := short_le3 (n := zrun r) (by omega)
        simp only [List.length_cons, List.length_append]
        omega
      · have hzv := zig_val hx
        have hz0 : 0 ≤ zig x ∧ zig x ≤ 131072 := by rw [hzv]; split <;> omega
        have := ih r.length (by omega) r rfl (by omega) hr
        have s3 := short_le3 (n := (zig x).toNat) (by omega)
        simp only [List.length_append]
        omega
theorem packed_len (p : Pl) : (packed p).1.length ≤ 100000 := by
  unfold packed
  split
  · rename_i h
    have may := pchk_may h
    have hf := may.few
    have hnl : p.name.length ≤ 16 := by
      have := may.name
      simp [named] at this
      omega
    have := pk_len (dlt p).length (dlt p) rfl (by simpa using hf) (dlt_in p)
    simp [hdr] at this ⊢
    omega
  · simp

/-! ### Deltas made whole again -/
theorem atp_take {d : List Int} {k : Nat} {j : Int} (h : j.toNat < k) : atp (d.take k) j = atp d j := by
  unfold atp
  rw [List.getD_eq_getElem?_getD, List.getD_eq_getElem?_getD, List.getElem?_take, if_pos h]
theorem exv_take {p : Pl} (hw : 1 ≤ p.w ∧ p.w ≤ 64) (hd : 1 ≤ p.deep ∧ p.deep ≤ 4) (d : List Int) (k : Nat) : exv p (d.take k) (k : Int) = exv p d k := by
  have b0 : 0 < p.w * p.deep := Int.mul_pos (by omega) (by omega)
  have b4 := mod_le (k : Int) b0 (by omega)
  unfold exv
  split
  · rename_i h
    have := b4.2 h.2
    rw [atp_take (by omega), atp_take (by omega), atp_take (by omega)]
  · split
    · rename_i h
      rw [atp_take (by omega)]
    · split
      · rw [atp_take (by omega)]
      · rfl
theorem wacc_dlt {p : Pl} (may : p.May) (q : Pl) (hw : q.w = p.w) (hd : q.deep = p.deep) : ∀ k, k ≤ p.data.length → wacc q ((dlt p).take k) = p.data.take k := by
  have he : ∀ d i, exv q d i = exv p d i := fun d i => by unfold exv; rw [hw, hd]
  intro k
  induction k with
  | zero => intro _; rfl
  | succ k ih =>
    intro hk
    have hdk : (dlt p)[k]? = some (dl1 p k) := by
      rw [dlt, List.getElem?_map, List.getElem?_range (by omega)]; rfl
    obtain ⟨x, hx⟩ : ∃ u, p.data[k]? = some u := ⟨_, List.getElem?_eq_getElem (by omega)⟩
    have hxr := may.data x (List.mem_of_getElem? hx)
    rw [wacc_succ hdk, ih (by omega), take_succ_get hx]
    congr 2
    have e1 : (p.data.take k).length = k := by simp; omega
    rw [e1, he, exv_take may.w may.deep, dl1, atp_get (k := (k : Int)) hx]
    omega
theorem whole_dlt {p : Pl} (h : pchk p = 0) (q : Pl) (hw : q.w = p.w) (hh : q.h = p.h) (hd : q.deep = p.deep) (hn : q.name = p.name) : whole q (dlt p) = (p, 0) := by
  have may := pchk_may h
  have e := wacc_dlt may q hw hd p.data.length (Nat.le_refl _)
  rw [List.take_of_length_le (by simp), List.take_of_length_le (Nat.le_refl _)] at e
  have hb : (dlt p).any bad16 = false := by
    rw [List.any_eq_false]
    intro x hx
    have := dlt_in p x hx
    simp [bad16]; omega
  have nd : ¬ dimBad q := by
    unfold dimBad
    rw [hw, hh, hd]
    have := may.w
    have := may.h
    have := may.deep
    omega
  rw [whole, if_neg (by rw [hb, hw, hh, hd, dlt_len]; simp; exact ⟨nd, may.len⟩), e, hw, hh, hd, hn]
  rw [if_pos (by exact h)]

/-! ### Bytes unpacked -/
def fin39 (b : List UInt8) (p : Pl) (l : List Int) : Pl × Int :=
  if (whole p l).2 ≠ 0 then (zPl, 5) else if (packed (whole p l).1).1 ≠ b then (zPl, 5) else ((whole p l).1, 0)
def unp (b : List UInt8) : Pl × Int :=
  if b.length < 4 ∨ b.length < 4 + (b.getD 3 0).toNat then (zPl, 4)
  else if 64 < (b.getD 0 0).toNat ∨ 64 < (b.getD 1 0).toNat ∨ 4 < (b.getD 2 0).toNat then (zPl, 5)
  else match unl ((b.getD 0 0).toNat * (b.getD 1 0).toNat * (b.getD 2 0).toNat) 16385 (b.drop (4 + (b.getD 3 0).toNat)) [] with
    | none => (zPl, 4)
    | some l => fin39 b ⟨(b.getD 0 0).toNat, (b.getD 1 0).toNat, (b.getD 2 0).toNat, (b.take (4 + (b.getD 3 0).toNat)).drop 4, []⟩ l
theorem unp_good {b : List UInt8} (h : (unp b).2 = 0) : packed (unp b).1 = (b, 0) := by
  have key : ∀ p l, (fin39 b p l).2 = 0 → packed (fin39 b p l).1 = (b, 0) := by
    intro p l
    unfold fin39
    split
    · intro h; cases h
    · split
      · intro h; cases h
      · rename_i h1 h2
        intro _
        simp only [Decidable.not_not] at h1 h2
        show packed (whole p l).1 = (b, 0)
        have h3 : pchk (whole p l).1 = 0 := by
          unfold whole at h1 ⊢
          split at h1
          · cases h1
          · rename_i h4
            rw [if_neg h4]
            split at h1
            · rename_i h5
              rw [if_pos h5]; exact h5
            · rename_i h5
              exact (h5 h1).elim
        have h4 : packed (whole p l).1 = ((packed (whole p l).1).1, 0) := by
          unfold packed
          rw [if_pos h3]
        rw [h4, h2]
  unfold unp at h ⊢
  split at h
  · cases h
  · rename_i h1
    rw [if_neg h1]
    split at h
    · cases h
    · rename_i h2
      rw [if_neg h2]
      split at h
      · cases h
      · rename_i l hl
        exact key _ l h
theorem unp_bad {b : List UInt8} (h : (unp b).2 ≠ 0) : (unp b).1 = zPl := by
  have key : ∀ p l, (fin39 b p l).2 ≠ 0 → (fin39 b p l).1 = zPl := by
    intro p l
    unfold fin39
    split
    · intro _; rfl
    · split
      · intro _; rfl
      · intro h; exact (h rfl).elim
  unfold unp at h ⊢
  split at h
  · rename_i h1; rw [if_pos h1]
  · rename_i h1
    rw [if_neg h1]
    split at h
    · rename_i h2; rw [if_pos h2]
    · rename_i h2
      rw [if_neg h2]
      split at h
      · rfl
      · rename_i l hl
        exact key _ l h
theorem unp_packed {p : Pl} (h : pchk p = 0) : unp (packed p).1 = (p, 0) := by
  have may := pchk_may h
  have mw := may.w
  have mh := may.h
  have md := may.deep
  have hf := may.few
  have ml := may.len
  have hnl : p.name.length ≤ 16 := by
    have := may.name
    simp [named] at this
    omega
  have e : (packed p).1 = u8 p.w :: u8 p.h :: u8 p.deep :: u8 p.name.length :: (p.name ++ pk (dlt p)) := by
    rw [packed, if_pos h]; simp [hdr]
  have w8 : ((u8 p.w).toNat : Int) = p.w := u8_in (by omega)
  have h8 : ((u8 p.h).toNat : Int) = p.h := u8_in (by omega)
  have d8 : ((u8 p.deep).toNat : Int) = p.deep := u8_in (by omega)
  have n8 : (u8 p.name.length).toNat = p.name.length := u8_nat (by omega)
  rw [e]
  unfold unp
  simp only [List.getD_cons_zero, List.getD_cons_succ, n8]
  rw [if_neg (by simp; omega), if_neg (by omega)]
  have hd : (u8 p.w :: u8 p.h :: u8 p.deep :: u8 p.name.length :: (p.name ++ pk (dlt p))).drop (4 + p.name.length) = pk (dlt p) := by
    rw [Nat.add_comm]; simp
  have ht : ((u8 p.w :: u8 p.h :: u8 p.deep :: u8 p.name.length :: (p.name ++ pk (dlt p))).take (4 + p.name.length)).drop 4 = p.name := by
    rw [Nat.add_comm]; simp
  rw [hd, ht]
  have hwant : (u8 p.w).toNat * (u8 p.h).toNat * (u8 p.deep).toNat = (dlt p).length := by
    have : (((u8 p.w).toNat * (u8 p.h).toNat * (u8 p.deep).toNat : Nat) : Int) = p.w * p.h * p.deep := by
      rw [Int.natCast_mul, Int.natCast_mul, w8, h8, d8]
    rw [dlt_len]; omega
  rw [hwant, unl_pk (dlt p).length (dlt p) 16385 [] (dlt p).length rfl (by rw [dlt_len]; omega) (by simp) (by rw [dlt_len]; omega) (dlt_in p)]
  dsimp only
  rw [fin39, List.nil_append, whole_dlt h (⟨(u8 p.w).toNat, (u8 p.h).toNat, (u8 p.deep).toNat, p.name, []⟩ : Pl) w8 h8 d8 rfl]
  rw [if_neg (fun hh => hh rfl), if_neg (by rw [e]; simp)]
end Go.UM

/- What the library's functions hand back. -/


namespace Go.UM
open Go.AM
set_option maxRecDepth 4000

/-- bytes.Equal. -/
theorem eq8_c {R : Env} (h : N47 R) (a b : List UInt8) : R.Pc 47 [.isl 1 (slc8 a), .isl 1 (slc8 b)] (.bool (a == b)) :=
  h.o47.enter 60 rfl fun X bb hfit hp => by
    repeat ((intro _u; clear _u); first | with_reducible first | refine cT ?_ | refine cF ?_ | refine cA ?_ | refine cB ?_ | refine aLn ?_ | refine cK ?_ | refine aS8 ?_ | refine wI ?_ | refine nD ?_ | refine aX rfl ?_ | refine vL rfl ?_)
    intro _u; clear _u
    exact rT
end Go.UM

/- Package pack, part 5: Whole of a plane whose numbers are nil; finish; Unpack. Printed by gen/pack5.py. -/


namespace Go.UM
open Go.AM
set_option maxRecDepth 4000

def Pl.nrow (p : Pl) : List AV := [.int .i64 p.w, .int .i64 p.h, .int .i64 p.deep, .str p.name, .nils]
def exMN (R : Env) (p : Pl) : IMem := [(0, .var (R.ty 20) p.nrow), (1, .var (R.ty 10) [.int .i64 (p.w * p.deep)])]
theorem expectedN_c {R : Env} (h : N182 R) (p : Pl) (hw : 1 ≤ p.w ∧ p.w ≤ 64) (hd : 1 ≤ p.deep ∧ p.deep ≤ 4) : R.Mc 182 [.agg p.nrow] [] (R.cl 188 [.loc 1 1 0 0, .loc 0 1 0 0]) (exMN R p) 2 :=
  h.o182.enterM 60 0 rfl rfl rfl fun X bb hfit hp => by
    have b1 : 0 ≤ p.w * p.deep ∧ p.w * p.deep ≤ 256 := ⟨Int.mul_nonneg (by omega) (by omega), by have := Int.mul_le_mul hw.2 hd.2 (by omega) (by omega); omega⟩
    repeat ((intro _u; clear _u); first | with_reducible first | refine cT ?_ | refine cF ?_ | refine cA ?_ | refine cB ?_ | refine aLn ?_ | refine cK ?_ | refine aS8 ?_ | refine wI ?_ | refine nD ?_ | refine aX rfl ?_ | refine vL rfl ?_)
    intro _u; clear _u
    exact rM [0, 1]

theorem exN_c {R : Env} (h : N188 R) (p : Pl) (hw : 1 ≤ p.w ∧ p.w ≤ 64) (hd : 1 ≤ p.deep ∧ p.deep ≤ 4) (d : List Int) (hd0 : ∀ x ∈ d, 0 ≤ x ∧ x ≤ 65535) (i : Nat) (hi : i ≤ d.length) (hl : d.length ≤ 16384) :
    R.Mc 188 [.isl 1 (slcK .i64 d), .int .i64 i, .loc 1 1 0 0, .loc 0 1 0 0] (exMN R p) (.int .i64 (exv p d i)) (exMN R p) 2 :=
  h.o188.enterM 60 2 rfl rfl rfl fun X bb hfit hp => by
    have b0 : 0 < p.w * p.deep := Int.mul_pos (by omega) (by omega)
    have b1 : p.w * p.deep ≤ 256 := by have := Int.mul_le_mul hw.2 hd.2 (by omega) (by omega); omega
    have b2 : (i : Int).tmod (p.w * p.deep) = (i : Int) % (p.w * p.deep) := Int.tmod_eq_emod_of_nonneg (by omega)
    have b3 := Int.emod_nonneg (i : Int) (show p.w * p.deep ≠ 0 by omega)
    have b4 := mod_le (i : Int) b0 (by omega)
    unfold exv
    repeat ((intro _u; clear _u); first | with_reducible first | refine cT ?_ | refine cF ?_ | refine cA ?_ | refine cB ?_ | refine aLn ?_ | refine cK ?_ | refine aS8 ?_ | refine wI ?_ | refine nD ?_ | refine aX rfl ?_ | refine vL rfl ?_)
    intro _u; clear _u
    refine cS (fun h1 => ?_) (fun h1 => ?_)
    · rw [b2] at h1
      repeat ((intro _u; clear _u); first | with_reducible first | refine cT ?_ | refine cF ?_ | refine cA ?_ | refine cB ?_ | refine aLn ?_ | refine cK ?_ | refine aS8 ?_ | refine wI ?_ | refine nD ?_ | refine aX rfl ?_ | refine vL rfl ?_)
      intro _u; clear _u
      refine cS (fun h2 => ?_) (fun h2 => ?_)
      · rw [if_pos ⟨h1, h2⟩]
        have b5 := b4.2 h2
        obtain ⟨x, hx⟩ : ∃ u_, d[((i:Int)-p.deep).toNat]? = some u_ := ⟨_, List.getElem?_eq_getElem (by first | omega | (simp <;> omega))⟩
        repeat ((intro _u; clear _u); first | with_reducible first | refine cT ?_ | refine cF ?_ | refine cA ?_ | refine cB ?_ | refine aLn ?_ | refine cK ?_ | refine aS8 ?_ | refine wI ?_ | refine nD ?_ | refine aX rfl ?_ | refine vL rfl ?_)
        intro _u; clear _u
        refine eget_map hx ?_
        have x1 := hd0 x (List.mem_of_getElem? hx)
        obtain ⟨y, hy⟩ : ∃ u_, d[((i:Int)-p.w*p.deep).toNat]? = some u_ := ⟨_, List.getElem?_eq_getElem (by first | omega | (simp <;> omega))⟩
        repeat ((intro _u; clear _u); first | with_reducible first | refine cT ?_ | refine cF ?_ | refine cA ?_ | refine cB ?_ | refine aLn ?_ | refine cK ?_ | refine aS8 ?_ | refine wI ?_ | refine nD ?_ | refine aX rfl ?_ | refine vL rfl ?_)
        intro _u; clear _u
        refine eget_map hy ?_
        have y1 := hd0 y (List.mem_of_getElem? hy)
        obtain ⟨z, hz⟩ : ∃ u_, d[((i:Int)-p.w*p.deep-p.deep).toNat]? = some u_ := ⟨_, List.getElem?_eq_getElem (by first | omega | (simp <;> omega))⟩
        repeat ((intro _u; clear _u); first | with_reducible first | refine cT ?_ | refine cF ?_ | refine cA ?_ | refine cB ?_ | refine aLn ?_ | refine cK ?_ | refine aS8 ?_ | refine wI ?_ | refine nD ?_ | refine aX rfl ?_ | refine vL rfl ?_)
        intro _u; clear _u
        refine eget_map hz ?_
        have z1 := hd0 z (List.mem_of_getElem? hz)
        rw [atp_get hx, atp_get hy, atp_get hz]
        repeat ((intro _u; clear _u); first | with_reducible first | refine cT ?_ | refine cF ?_ | refine cA ?_ | refine cB ?_ | refine aLn ?_ | refine cK ?_ | refine aS8 ?_ | refine wI ?_ | refine nD ?_ | refine aX rfl ?_ | refine vL rfl ?_)
        intro _u; clear _u
        exact rM [0, 1]
      · rw [if_neg (by omega), if_pos h1]
        repeat ((intro _u; clear _u); first | with_reducible first | refine cT ?_ | refine cF ?_ | refine cA ?_ | refine cB ?_ | refine aLn ?_ | refine cK ?_ | refine aS8 ?_ | refine wI ?_ | refine nD ?_ | refine aX rfl ?_ | refine vL rfl ?_)
        intro _u; clear _u
        refine acnd_t (by rw [b2]; simpa using h1) ?_
        obtain ⟨x, hx⟩ : ∃ u_, d[((i:Int)-p.deep).toNat]? = some u_ := ⟨_, List.getElem?_eq_getElem (by first | omega | (simp <;> omega))⟩
        repeat ((intro _u; clear _u); first | with_reducible first | refine cT ?_ | refine cF ?_ | refine cA ?_ | refine cB ?_ | refine aLn ?_ | refine cK ?_ | refine aS8 ?_ | refine wI ?_ | refine nD ?_ | refine aX rfl ?_ | refine vL rfl ?_)
        intro _u; clear _u
        refine eget_map hx ?_
        rw [atp_get hx]
        repeat ((intro _u; clear _u); first | with_reducible first | refine cT ?_ | refine cF ?_ | refine cA ?_ | refine cB ?_ | refine aLn ?_ | refine cK ?_ | refine aS8 ?_ | refine wI ?_ | refine nD ?_ | refine aX rfl ?_ | refine vL rfl ?_)
        intro _u; clear _u
        exact rM [0, 1]
    · rw [b2] at h1
      repeat ((intro _u; clear _u); first | with_reducible first | refine cT ?_ | refine cF ?_ | refine cA ?_ | refine cB ?_ | refine aLn ?_ | refine cK ?_ | refine aS8 ?_ | refine wI ?_ | refine nD ?_ | refine aX rfl ?_ | refine vL rfl ?_)
      intro _u; clear _u
      refine acnd_f (by rw [b2]; simpa using h1) ?_
      repeat ((intro _u; clear _u); first | with_reducible first | refine cT ?_ | refine cF ?_ | refine cA ?_ | refine cB ?_ | refine aLn ?_ | refine cK ?_ | refine aS8 ?_ | refine wI ?_ | refine nD ?_ | refine aX rfl ?_ | refine vL rfl ?_)
      intro _u; clear _u
      refine cS (fun h2 => ?_) (fun h2 => ?_)
      · rw [if_neg (by omega), if_neg (by omega), if_pos h2]
        obtain ⟨y, hy⟩ : ∃ u_, d[((i:Int)-p.w*p.deep).toNat]? = some u_ := ⟨_, List.getElem?_eq_getElem (by first | omega | (simp <;> omega))⟩
        repeat ((intro _u; clear _u); first | with_reducible first | refine cT ?_ | refine cF ?_ | refine cA ?_ | refine cB ?_ | refine aLn ?_ | refine cK ?_ | refine aS8 ?_ | refine wI ?_ | refine nD ?_ | refine aX rfl ?_ | refine vL rfl ?_)
        intro _u; clear _u
        refine eget_map hy ?_
        rw [atp_get hy]
        repeat ((intro _u; clear _u); first | with_reducible first | refine cT ?_ | refine cF ?_ | refine cA ?_ | refine cB ?_ | refine aLn ?_ | refine cK ?_ | refine aS8 ?_ | refine wI ?_ | refine nD ?_ | refine aX rfl ?_ | refine vL rfl ?_)
        intro _u; clear _u
        exact rM [0, 1]
      · rw [if_neg (by omega), if_neg (by omega), if_neg (by omega)]
        repeat ((intro _u; clear _u); first | with_reducible first | refine cT ?_ | refine cF ?_ | refine cA ?_ | refine cB ?_ | refine aLn ?_ | refine cK ?_ | refine aS8 ?_ | refine wI ?_ | refine nD ?_ | refine aX rfl ?_ | refine vL rfl ?_)
        intro _u; clear _u
        exact rM [0, 1]

def wMN (R : Env) (p : Pl) (es : List Int) : IMem := [(5, .arr (R.ty 10) 1 (slcK .i64 es)), (3, .var (R.ty 10) [.int .i64 (p.w * p.deep)]), (2, .var (R.ty 20) p.nrow), (1, .var (R.ty 20) [.int .i64 0, .int .i64 0, .int .i64 0, .str [], .nils]), (0, .var (R.ty 20) [.int .i64 p.w, .int .i64 p.h, .int .i64 p.deep, .str p.name, .osl 5 es.length])]

def exLN (R : Env) (p : Pl) (d : List Int) : IMem := [(0, .var (R.ty 20) p.nrow), (1, .var (R.ty 10) [.int .i64 (p.w * p.deep)]), (2, .arr (R.ty 10) 1 (slcK .i64 d))]
theorem exLN_c {R : Env} (h : N188 R) (p : Pl) (hw : 1 ≤ p.w ∧ p.w ≤ 64) (hd : 1 ≤ p.deep ∧ p.deep ≤ 4) (d : List Int) (hd0 : ∀ x ∈ d, 0 ≤ x ∧ x ≤ 65535) (i : Nat) (hi : i ≤ d.length) (hl : d.length ≤ 16384) :
    R.Mc 188 [.osl 2 d.length, .int .i64 i, .loc 1 1 0 0, .loc 0 1 0 0] (exLN R p d) (.int .i64 (exv p d i)) (exLN R p d) 3 :=
  h.o188.enterM 60 3 rfl rfl rfl fun X bb hfit hp => by
    have b0 : 0 < p.w * p.deep := Int.mul_pos (by omega) (by omega)
    have b1 : p.w * p.deep ≤ 256 := by have := Int.mul_le_mul hw.2 hd.2 (by omega) (by omega); omega
    have b2 : (i : Int).tmod (p.w * p.deep) = (i : Int) % (p.w * p.deep) := Int.tmod_eq_emod_of_nonneg (by omega)
    have b3 := Int.emod_nonneg (i : Int) (show p.w * p.deep ≠ 0 by omega)
    have b4 := mod_le (i : Int) b0 (by omega)
    unfold exv
    repeat ((intro _u; clear _u); first | with_reducible first | refine cT ?_ | refine cF ?_ | refine cA ?_ | refine cB ?_ | refine aLn ?_ | refine cK ?_ | refine aS8 ?_ | refine wI ?_ | refine nD ?_ | refine aX rfl ?_ | refine vL rfl ?_)
    intro _u; clear _u
    refine cS (fun h1 => ?_) (fun h1 => ?_)
    · rw [b2] at h1
      repeat ((intro _u; clear _u); first | with_reducible first | refine cT ?_ | refine cF ?_ | refine cA ?_ | refine cB ?_ | refine aLn ?_ | refine cK ?_ | refine aS8 ?_ | refine wI ?_ | refine nD ?_ | refine aX rfl ?_ | refine vL rfl ?_)
      intro _u; clear _u
      refine cS (fun h2 => ?_) (fun h2 => ?_)
      · rw [if_pos ⟨h1, h2⟩]
        have b5 := b4.2 h2
        obtain ⟨x, hx⟩ : ∃ u_, d[((i:Int)-p.deep).toNat]? = some u_ := ⟨_, List.getElem?_eq_getElem (by first | omega | (simp <;> omega))⟩
        repeat ((intro _u; clear _u); first | with_reducible first | refine cT ?_ | refine cF ?_ | refine cA ?_ | refine cB ?_ | refine aLn ?_ | refine cK ?_ | refine aS8 ?_ | refine wI ?_ | refine nD ?_ | refine aX rfl ?_ | refine vL rfl ?_)
        intro _u; clear _u
        refine aelt_map (by simp) hx ?_
        have x1 := hd0 x (List.mem_of_getElem? hx)
        obtain ⟨y, hy⟩ : ∃ u_, d[((i:Int)-p.w*p.deep).toNat]? = some u_ := ⟨_, List.getElem?_eq_getElem (by first | omega | (simp <;> omega))⟩
        repeat ((intro _u; clear _u); first | with_reducible first | refine cT ?_ | refine cF ?_ | refine cA ?_ | refine cB ?_ | refine aLn ?_ | refine cK ?_ | refine aS8 ?_ | refine wI ?_ | refine nD ?_ | refine aX rfl ?_ | refine vL rfl ?_)
        intro _u; clear _u
        refine aelt_map (by simp) hy ?_
        have y1 := hd0 y (List.mem_of_getElem? hy)
        obtain ⟨z, hz⟩ : ∃ u_, d[((i:Int)-p.w*p.deep-p.deep).toNat]? = some u_ := ⟨_, List.getElem?_eq_getElem (by first | omega | (simp <;> omega))⟩
        repeat ((intro _u; clear _u); first | with_reducible first | refine cT ?_ | refine cF ?_ | refine cA ?_ | refine cB ?_ | refine aLn ?_ | refine cK ?_ | refine aS8 ?_ | refine wI ?_ | refine nD ?_ | refine aX rfl ?_ | refine vL rfl ?_)
        intro _u; clear _u
        refine aelt_map (by simp) hz ?_
        have z1 := hd0 z (List.mem_of_getElem? hz)
        rw [atp_get hx, atp_get hy, atp_get hz]
        repeat ((intro _u; clear _u); first | with_reducible first | refine cT ?_ | refine cF ?_ | refine cA ?_ | refine cB ?_ | refine aLn ?_ | refine cK ?_ | refine aS8 ?_ | refine wI ?_ | refine nD ?_ | refine aX rfl ?_ | refine vL rfl ?_)
        intro _u; clear _u
        exact rM [0, 1, 2]
      · rw [if_neg (by omega), if_pos h1]
        repeat ((intro _u; clear _u); first | with_reducible first | refine cT ?_ | refine cF ?_ | refine cA ?_ | refine cB ?_ | refine aLn ?_ | refine cK ?_ | refine aS8 ?_ | refine wI ?_ | refine nD ?_ | refine aX rfl ?_ | refine vL rfl ?_)
        intro _u; clear _u
        refine acnd_t (by rw [b2]; simpa using h1) ?_
        obtain ⟨x, hx⟩ : ∃ u_, d[((i:Int)-p.deep).toNat]? = some u_ := ⟨_, List.getElem?_eq_getElem (by first | omega | (simp <;> omega))⟩
        repeat ((intro _u; clear _u); first | with_reducible first | refine cT ?_ | refine cF ?_ | refine cA ?_ | refine cB ?_ | refine aLn ?_ | refine cK ?_ | refine aS8 ?_ | refine wI ?_ | refine nD ?_ | refine aX rfl ?_ | refine vL rfl ?_)
        intro _u; clear _u
        refine aelt_map (by simp) hx ?_
        rw [atp_get hx]
        repeat ((intro _u; clear _u); first | with_reducible first | refine cT ?_ | refine cF ?_ | refine cA ?_ | refine cB ?_ | refine aLn ?_ | refine cK ?_ | refine aS8 ?_ | refine wI ?_ | refine nD ?_ | refine aX rfl ?_ | refine vL rfl ?_)
        intro _u; clear _u
        exact rM [0, 1, 2]
    · rw [b2] at h1
      repeat ((intro _u; clear _u); first | with_reducible first | refine cT ?_ | refine cF ?_ | refine cA ?_ | refine cB ?_ | refine aLn ?_ | refine cK ?_ | refine aS8 ?_ | refine wI ?_ | refine nD ?_ | refine aX rfl ?_ | refine vL rfl ?_)
      intro _u; clear _u
      refine acnd_f (by rw [b2]; simpa using h1) ?_
      repeat ((intro _u; clear _u); first | with_reducible first | refine cT ?_ | refine cF ?_ | refine cA ?_ | refine cB ?_ | refine aLn ?_ | refine cK ?_ | refine aS8 ?_ | refine wI ?_ | refine nD ?_ | refine aX rfl ?_ | refine vL rfl ?_)
      intro _u; clear _u
      refine cS (fun h2 => ?_) (fun h2 => ?_)
      · rw [if_neg (by omega), if_neg (by omega), if_pos h2]
        obtain ⟨y, hy⟩ : ∃ u_, d[((i:Int)-p.w*p.deep).toNat]? = some u_ := ⟨_, List.getElem?_eq_getElem (by first | omega | (simp <;> omega))⟩
        repeat ((intro _u; clear _u); first | with_reducible first | refine cT ?_ | refine cF ?_ | refine cA ?_ | refine cB ?_ | refine aLn ?_ | refine cK ?_ | refine aS8 ?_ | refine wI ?_ | refine nD ?_ | refine aX rfl ?_ | refine vL rfl ?_)
        intro _u; clear _u
        refine aelt_map (by simp) hy ?_
        rw [atp_get hy]
        repeat ((intro _u; clear _u); first | with_reducible first | refine cT ?_ | refine cF ?_ | refine cA ?_ | refine cB ?_ | refine aLn ?_ | refine cK ?_ | refine aS8 ?_ | refine wI ?_ | refine nD ?_ | refine aX rfl ?_ | refine vL rfl ?_)
        intro _u; clear _u
        exact rM [0, 1, 2]
      · rw [if_neg (by omega), if_neg (by omega), if_neg (by omega)]
        repeat ((intro _u; clear _u); first | with_reducible first | refine cT ?_ | refine cF ?_ | refine cA ?_ | refine cB ?_ | refine aLn ?_ | refine cK ?_ | refine aS8 ?_ | refine wI ?_ | refine nD ?_ | refine aX rfl ?_ | refine vL rfl ?_)
        intro _u; clear _u
        exact rM [0, 1, 2]


theorem wholeN_c {R : Env} (h : N173 R) (p : Pl) (ds : List Int) (hs : p.name.length ≤ 1073741824) (hl : ds.length ≤ 1073741824) : R.Pc 173 [.agg p.nrow, .isl 1 (slcK .i64 ds)] (.tup [.agg (whole p ds).1.row, .int .i64 (whole p ds).2]) :=
  h.o173.enter 100 rfl fun X bb hfit hp => by
    generalize hq : whole p ds = q
    by_cases hb : dimBad p
    · rw [whole_d hb] at hq
      unfold dimBad at hb
      repeat ((intro _u; clear _u); first | with_reducible first | refine cT ?_ | refine cF ?_ | refine cA ?_ | refine cB ?_ | refine aLn ?_ | refine cK ?_ | refine aS8 ?_ | refine wI ?_ | refine nD ?_ | refine aX rfl ?_ | refine vL rfl ?_)
      intro _u; clear _u
      refine cS (fun h1 => ?_) (fun h1 => ?_)
      · subst hq
        repeat ((intro _u; clear _u); first | with_reducible first | refine cT ?_ | refine cF ?_ | refine cA ?_ | refine cB ?_ | refine aLn ?_ | refine cK ?_ | refine aS8 ?_ | refine wI ?_ | refine nD ?_ | refine aX rfl ?_ | refine vL rfl ?_)
        intro _u; clear _u
        exact rT
      · repeat ((intro _u; clear _u); first | with_reducible first | refine cT ?_ | refine cF ?_ | refine cA ?_ | refine cB ?_ | refine aLn ?_ | refine cK ?_ | refine aS8 ?_ | refine wI ?_ | refine nD ?_ | refine aX rfl ?_ | refine vL rfl ?_)
        intro _u; clear _u
        refine cS (fun h2 => ?_) (fun h2 => ?_)
        · subst hq
          repeat ((intro _u; clear _u); first | with_reducible first | refine cT ?_ | refine cF ?_ | refine cA ?_ | refine cB ?_ | refine aLn ?_ | refine cK ?_ | refine aS8 ?_ | refine wI ?_ | refine nD ?_ | refine aX rfl ?_ | refine vL rfl ?_)
          intro _u; clear _u
          exact rT
        · repeat ((intro _u; clear _u); first | with_reducible first | refine cT ?_ | refine cF ?_ | refine cA ?_ | refine cB ?_ | refine aLn ?_ | refine cK ?_ | refine aS8 ?_ | refine wI ?_ | refine nD ?_ | refine aX rfl ?_ | refine vL rfl ?_)
          intro _u; clear _u
          refine cS (fun h3 => ?_) (fun h3 => ?_)
          · subst hq
            repeat ((intro _u; clear _u); first | with_reducible first | refine cT ?_ | refine cF ?_ | refine cA ?_ | refine cB ?_ | refine aLn ?_ | refine cK ?_ | refine aS8 ?_ | refine wI ?_ | refine nD ?_ | refine aX rfl ?_ | refine vL rfl ?_)
            intro _u; clear _u
            exact rT
          · repeat ((intro _u; clear _u); first | with_reducible first | refine cT ?_ | refine cF ?_ | refine cA ?_ | refine cB ?_ | refine aLn ?_ | refine cK ?_ | refine aS8 ?_ | refine wI ?_ | refine nD ?_ | refine aX rfl ?_ | refine vL rfl ?_)
            intro _u; clear _u
            refine cS (fun h4 => ?_) (fun h4 => ?_)
            · subst hq
              repeat ((intro _u; clear _u); first | with_reducible first | refine cT ?_ | refine cF ?_ | refine cA ?_ | refine cB ?_ | refine aLn ?_ | refine cK ?_ | refine aS8 ?_ | refine wI ?_ | refine nD ?_ | refine aX rfl ?_ | refine vL rfl ?_)
              intro _u; clear _u
              exact rT
            · repeat ((intro _u; clear _u); first | with_reducible first | refine cT ?_ | refine cF ?_ | refine cA ?_ | refine cB ?_ | refine aLn ?_ | refine cK ?_ | refine aS8 ?_ | refine wI ?_ | refine nD ?_ | refine aX rfl ?_ | refine vL rfl ?_)
              intro _u; clear _u
              refine cS (fun h5 => ?_) (fun h5 => ?_)
              · subst hq
                repeat ((intro _u; clear _u); first | with_reducible first | refine cT ?_ | refine cF ?_ | refine cA ?_ | refine cB ?_ | refine aLn ?_ | refine cK ?_ | refine aS8 ?_ | refine wI ?_ | refine nD ?_ | refine aX rfl ?_ | refine vL rfl ?_)
                intro _u; clear _u
                exact rT
              · repeat ((intro _u; clear _u); first | with_reducible first | refine cT ?_ | refine cF ?_ | refine cA ?_ | refine cB ?_ | refine aLn ?_ | refine cK ?_ | refine aS8 ?_ | refine wI ?_ | refine nD ?_ | refine aX rfl ?_ | refine vL rfl ?_)
                intro _u; clear _u
                refine acnd_t (by (simp; omega)) ?_
                subst hq
                repeat ((intro _u; clear _u); first | with_reducible first | refine cT ?_ | refine cF ?_ | refine cA ?_ | refine cB ?_ | refine aLn ?_ | refine cK ?_ | refine aS8 ?_ | refine wI ?_ | refine nD ?_ | refine aX rfl ?_ | refine vL rfl ?_)
                intro _u; clear _u
                exact rT
    · have hb' := hb
      unfold dimBad at hb'
      repeat ((intro _u; clear _u); first | with_reducible first | refine cT ?_ | refine cF ?_ | refine cA ?_ | refine cB ?_ | refine aLn ?_ | refine cK ?_ | refine aS8 ?_ | refine wI ?_ | refine nD ?_ | refine aX rfl ?_ | refine vL rfl ?_)
      intro _u; clear _u
      refine acnd_f (by simp; omega) ?_
      repeat ((intro _u; clear _u); first | with_reducible first | refine cT ?_ | refine cF ?_ | refine cA ?_ | refine cB ?_ | refine aLn ?_ | refine cK ?_ | refine aS8 ?_ | refine wI ?_ | refine nD ?_ | refine aX rfl ?_ | refine vL rfl ?_)
      intro _u; clear _u
      refine acnd_f (by simp; omega) ?_
      repeat ((intro _u; clear _u); first | with_reducible first | refine cT ?_ | refine cF ?_ | refine cA ?_ | refine cB ?_ | refine aLn ?_ | refine cK ?_ | refine aS8 ?_ | refine wI ?_ | refine nD ?_ | refine aX rfl ?_ | refine vL rfl ?_)
      intro _u; clear _u
      refine acnd_f (by simp; omega) ?_
      repeat ((intro _u; clear _u); first | with_reducible first | refine cT ?_ | refine cF ?_ | refine cA ?_ | refine cB ?_ | refine aLn ?_ | refine cK ?_ | refine aS8 ?_ | refine wI ?_ | refine nD ?_ | refine aX rfl ?_ | refine vL rfl ?_)
      intro _u; clear _u
      refine acnd_f (by simp; omega) ?_
      repeat ((intro _u; clear _u); first | with_reducible first | refine cT ?_ | refine cF ?_ | refine cA ?_ | refine cB ?_ | refine aLn ?_ | refine cK ?_ | refine aS8 ?_ | refine wI ?_ | refine nD ?_ | refine aX rfl ?_ | refine vL rfl ?_)
      intro _u; clear _u
      refine acnd_f (by simp; omega) ?_
      repeat ((intro _u; clear _u); first | with_reducible first | refine cT ?_ | refine cF ?_ | refine cA ?_ | refine cB ?_ | refine aLn ?_ | refine cK ?_ | refine aS8 ?_ | refine wI ?_ | refine nD ?_ | refine aX rfl ?_ | refine vL rfl ?_)
      intro _u; clear _u
      refine acnd_f (by simp; omega) ?_
      have b1 : 1 ≤ p.w * p.h ∧ p.w * p.h ≤ 4096 := ⟨by have := Int.mul_le_mul (show 1 ≤ p.w by omega) (show 1 ≤ p.h by omega) (by omega) (by omega); omega, by have := Int.mul_le_mul (show p.w ≤ 64 by omega) (show p.h ≤ 64 by omega) (by omega) (by omega); omega⟩
      have b2 : 1 ≤ p.w * p.h * p.deep ∧ p.w * p.h * p.deep ≤ 16384 := ⟨by have := Int.mul_le_mul b1.1 (show 1 ≤ p.deep by omega) (by omega) (by omega); omega, by have := Int.mul_le_mul b1.2 (show p.deep ≤ 4 by omega) (by omega) (by omega); omega⟩
      have hw : 1 ≤ p.w ∧ p.w ≤ 64 := by omega
      have hd : 1 ≤ p.deep ∧ p.deep ≤ 4 := by omega
      repeat ((intro _u; clear _u); first | with_reducible first | refine cT ?_ | refine cF ?_ | refine cA ?_ | refine cB ?_ | refine aLn ?_ | refine cK ?_ | refine aS8 ?_ | refine wI ?_ | refine nD ?_ | refine aX rfl ?_ | refine vL rfl ?_)
      intro _u; clear _u
      refine cS (fun h2 => ?_) (fun h2 => ?_)
      · rw [whole_l h2] at hq
        subst hq
        repeat ((intro _u; clear _u); first | with_reducible first | refine cT ?_ | refine cF ?_ | refine cA ?_ | refine cB ?_ | refine aLn ?_ | refine cK ?_ | refine aS8 ?_ | refine wI ?_ | refine nD ?_ | refine aX rfl ?_ | refine vL rfl ?_)
        intro _u; clear _u
        exact rT
      · repeat ((intro _u; clear _u); first | with_reducible first | refine cT ?_ | refine cF ?_ | refine cA ?_ | refine cB ?_ | refine aLn ?_ | refine cK ?_ | refine aS8 ?_ | refine wI ?_ | refine nD ?_ | refine aX rfl ?_ | refine vL rfl ?_)
        intro _u; clear _u
        refine cM false [] (expectedN_c h.n182 p hw hd) ?_
        repeat ((intro _u; clear _u); first | refine eK ?_ | refine eP ?_)
        repeat ((intro _u; clear _u); first | with_reducible first | refine cT ?_ | refine cF ?_ | refine cA ?_ | refine cB ?_ | refine aLn ?_ | refine cK ?_ | refine aS8 ?_ | refine wI ?_ | refine nD ?_ | refine aX rfl ?_ | refine vL rfl ?_)
        intro _u; clear _u
        refine ILoop.one 100 ?_
        repeat ((intro _u; clear _u); first | with_reducible first | refine cT ?_ | refine cF ?_ | refine cA ?_ | refine cB ?_ | refine aLn ?_ | refine cK ?_ | refine aS8 ?_ | refine wI ?_ | refine nD ?_ | refine aX rfl ?_ | refine vL rfl ?_)
        intro _u; clear _u
        refine acnd_t (by simp; omega) ?_
        obtain ⟨x, hx⟩ : ∃ u_, ds[0]? = some u_ := ⟨_, List.getElem?_eq_getElem (by first | omega | (simp <;> omega))⟩
        repeat ((intro _u; clear _u); first | with_reducible first | refine cT ?_ | refine cF ?_ | refine cA ?_ | refine cB ?_ | refine aLn ?_ | refine cK ?_ | refine aS8 ?_ | refine wI ?_ | refine nD ?_ | refine aX rfl ?_ | refine vL rfl ?_)
        intro _u; clear _u
        refine eget_map hx ?_
        repeat ((intro _u; clear _u); first | with_reducible first | refine cT ?_ | refine cF ?_ | refine cA ?_ | refine cB ?_ | refine aLn ?_ | refine cK ?_ | refine aS8 ?_ | refine wI ?_ | refine nD ?_ | refine aX rfl ?_ | refine vL rfl ?_)
        intro _u; clear _u
        refine cS (fun h3 => ?_) (fun h3 => ?_)
        · rw [whole_b hx (by simp [bad16]; omega)] at hq
          subst hq
          repeat ((intro _u; clear _u); first | with_reducible first | refine cT ?_ | refine cF ?_ | refine cA ?_ | refine cB ?_ | refine aLn ?_ | refine cK ?_ | refine aS8 ?_ | refine wI ?_ | refine nD ?_ | refine aX rfl ?_ | refine vL rfl ?_)
          intro _u; clear _u
          exact rT
        · repeat ((intro _u; clear _u); first | with_reducible first | refine cT ?_ | refine cF ?_ | refine cA ?_ | refine cB ?_ | refine aLn ?_ | refine cK ?_ | refine aS8 ?_ | refine wI ?_ | refine nD ?_ | refine aX rfl ?_ | refine vL rfl ?_)
          intro _u; clear _u
          refine cS (fun h4 => ?_) (fun h4 => ?_)
          · rw [whole_b hx (by simp [bad16]; omega)] at hq
            subst hq
            repeat ((intro _u; clear _u); first | with_reducible first | refine cT ?_ | refine cF ?_ | refine cA ?_ | refine cB ?_ | refine aLn ?_ | refine cK ?_ | refine aS8 ?_ | refine wI ?_ | refine nD ?_ | refine aX rfl ?_ | refine vL rfl ?_)
            intro _u; clear _u
            exact rT
          · repeat ((intro _u; clear _u); first | with_reducible first | refine cT ?_ | refine cF ?_ | refine cA ?_ | refine cB ?_ | refine aLn ?_ | refine cK ?_ | refine aS8 ?_ | refine wI ?_ | refine nD ?_ | refine aX rfl ?_ | refine vL rfl ?_)
            intro _u; clear _u
            refine cM false [2, 3] (exN_c h.n182.n188 p hw hd [] (fun x hx => by cases hx) 0 (by simp) (by simp)) ?_
            repeat ((intro _u; clear _u); first | refine eK ?_ | refine eP ?_)
            have e0 : exv p [] (0 : Nat) = 0 := by
              unfold exv; repeat' split
              all_goals first | rfl | simp [atp]
            rw [e0]
            have e2 : bit2 .and .i64 (0 + x) 65535 = (0 + x) % 65536 := and_low 16 (by decide) (by simp only [inI]; omega)
            repeat ((intro _u; clear _u); first | with_reducible first | refine cT ?_ | refine cF ?_ | refine cA ?_ | refine cB ?_ | refine aLn ?_ | refine cK ?_ | refine aS8 ?_ | refine wI ?_ | refine nD ?_ | refine aX rfl ?_ | refine vL rfl ?_)
            rw [e2]
            have w1 : wacc p (ds.take 1) = [(0 + x) % 65536] := by
              rw [wacc_succ (k := 0) hx]
              show [] ++ [(exv p [] (0 : Nat) + x) % 65536] = _
              rw [e0]; rfl
            repeat ((intro _u; clear _u); first | with_reducible first | refine cT ?_ | refine cF ?_ | refine cA ?_ | refine cB ?_ | refine aLn ?_ | refine cK ?_ | refine aS8 ?_ | refine wI ?_ | refine nD ?_ | refine aX rfl ?_ | refine vL rfl ?_)
            intro _u; clear _u
            refine ILoop.inv 100 (fun k : Nat => 1 ≤ k ∧ k ≤ ds.length ∧ (ds.take k).any bad16 = false) (fun k => ⟨[(2, .loc 0 1 0 0), (4, .loc 1 1 0 0), (6, R.cl 188 [.loc 3 1 0 0, .loc 2 1 0 0]), (54, .isl 1 (slcK .i64 ds)), (55, .int .i64 ds.length), (56, .int .i64 k)], wMN R p (wacc p (ds.take k)), 6⟩) (fun k => ds.length - k) (1) ?_ ⟨⟨_, hp, rfl⟩, ?_, ?_⟩ ?_
            · exact ⟨by omega, by omega, by rw [any_take_succ2 hx]; simp [bad16]; omega⟩
            · all_goals repeat' (first | exact True.intro | refine And.intro ?_ ?_ | (intro _u; clear _u) | (with_reducible first | refine eM ?_ ?_ | refine eF ?_ ?_ ?_ | refine eN ?_ | refine eL ?_ ?_ ?_ | refine eA ?_ ?_ | refine IWk.mk ⟨_, hp, rfl⟩ ?_ ?_) | refine IWk.mk ⟨_, hp, rfl⟩ ?_ ?_)
              all_goals first | with_reducible rfl | omega | exact Or.inl (by decide) | (simp; done) | rfl | skip
            · all_goals repeat' (first | exact True.intro | refine And.intro ?_ ?_ | (intro _u; clear _u) | (with_reducible first | refine eM ?_ ?_ | refine eF ?_ ?_ ?_ | refine eN ?_ | refine eL ?_ ?_ ?_ | refine eA ?_ ?_ | refine IWk.mk ⟨_, hp, rfl⟩ ?_ ?_) | refine IWk.mk ⟨_, hp, rfl⟩ ?_ ?_)
              all_goals first | with_reducible rfl | omega | exact Or.inl (by decide) | (simp; done) | rfl | skip
              all_goals (rw [w1]; rfl)
            · intro k hk
              dsimp only
              obtain ⟨hk1, hk2, hk3⟩ := hk
              have wl := wacc_len p (ds.take k)
              have wi := wacc_in p (ds.take k)
              rw [List.length_take, Nat.min_eq_left hk2] at wl
              repeat ((intro _u; clear _u); first | with_reducible first | refine cT ?_ | refine cF ?_ | refine cA ?_ | refine cB ?_ | refine aLn ?_ | refine cK ?_ | refine aS8 ?_ | refine wI ?_ | refine nD ?_ | refine aX rfl ?_ | refine vL rfl ?_)
              intro _u; clear _u
              refine cS (fun h5 => ?_) (fun h5 => ?_)
              · obtain ⟨y, hy⟩ : ∃ u_, ds[k]? = some u_ := ⟨_, List.getElem?_eq_getElem (by first | omega | (simp <;> omega))⟩
                repeat ((intro _u; clear _u); first | with_reducible first | refine cT ?_ | refine cF ?_ | refine cA ?_ | refine cB ?_ | refine aLn ?_ | refine cK ?_ | refine aS8 ?_ | refine wI ?_ | refine nD ?_ | refine aX rfl ?_ | refine vL rfl ?_)
                intro _u; clear _u
                refine eget_map hy ?_
                have hws := wacc_succ (p := p) hy
                rw [wl] at hws
                generalize wacc p (ds.take k) = es at wl wi hws ⊢
                repeat ((intro _u; clear _u); first | with_reducible first | refine cT ?_ | refine cF ?_ | refine cA ?_ | refine cB ?_ | refine aLn ?_ | refine cK ?_ | refine aS8 ?_ | refine wI ?_ | refine nD ?_ | refine aX rfl ?_ | refine vL rfl ?_)
                intro _u; clear _u
                refine cS (fun h6 => ?_) (fun h6 => ?_)
                · rw [whole_b hy (by simp [bad16]; omega)] at hq
                  subst hq
                  repeat ((intro _u; clear _u); first | with_reducible first | refine cT ?_ | refine cF ?_ | refine cA ?_ | refine cB ?_ | refine aLn ?_ | refine cK ?_ | refine aS8 ?_ | refine wI ?_ | refine nD ?_ | refine aX rfl ?_ | refine vL rfl ?_)
                  intro _u; clear _u
                  exact rT
                · repeat ((intro _u; clear _u); first | with_reducible first | refine cT ?_ | refine cF ?_ | refine cA ?_ | refine cB ?_ | refine aLn ?_ | refine cK ?_ | refine aS8 ?_ | refine wI ?_ | refine nD ?_ | refine aX rfl ?_ | refine vL rfl ?_)
                  intro _u; clear _u
                  refine cS (fun h7 => ?_) (fun h7 => ?_)
                  · rw [whole_b hy (by simp [bad16]; omega)] at hq
                    subst hq
                    repeat ((intro _u; clear _u); first | with_reducible first | refine cT ?_ | refine cF ?_ | refine cA ?_ | refine cB ?_ | refine aLn ?_ | refine cK ?_ | refine aS8 ?_ | refine wI ?_ | refine nD ?_ | refine aX rfl ?_ | refine vL rfl ?_)
                    intro _u; clear _u
                    exact rT
                  · repeat ((intro _u; clear _u); first | with_reducible first | refine cT ?_ | refine cF ?_ | refine cA ?_ | refine cB ?_ | refine aLn ?_ | refine cK ?_ | refine aS8 ?_ | refine wI ?_ | refine nD ?_ | refine aX rfl ?_ | refine vL rfl ?_)
                    intro _u; clear _u
                    refine cM false [2, 3, 5] (exLN_c h.n182.n188 p hw hd es wi k (by omega) (by omega)) ?_
                    repeat ((intro _u; clear _u); first | refine eK ?_ | refine eP ?_)
                    have e3 := exv_in wi (p := p) (k : Int)
                    have e4 : bit2 .and .i64 (exv p es k + y) 65535 = (exv p es k + y) % 65536 := and_low 16 (by decide) (by simp only [inI]; omega)
                    repeat ((intro _u; clear _u); first | with_reducible first | refine cT ?_ | refine cF ?_ | refine cA ?_ | refine cB ?_ | refine aLn ?_ | refine cK ?_ | refine aS8 ?_ | refine wI ?_ | refine nD ?_ | refine aX rfl ?_ | refine vL rfl ?_)
                    rw [e4]
                    repeat ((intro _u; clear _u); first | with_reducible first | refine cT ?_ | refine cF ?_ | refine cA ?_ | refine cB ?_ | refine aLn ?_ | refine cK ?_ | refine aS8 ?_ | refine wI ?_ | refine nD ?_ | refine aX rfl ?_ | refine vL rfl ?_)
                    intro _u; clear _u
                    refine nX (k + 1) ?_ ?_ ⟨_, hp, rfl⟩ ?_ ?_
                    · exact ⟨by omega, by omega, by rw [any_take_succ2 hy, hk3]; simp [bad16]; omega⟩
                    · omega
                    · all_goals repeat' (first | exact True.intro | refine And.intro ?_ ?_ | (intro _u; clear _u) | (with_reducible first | refine eM ?_ ?_ | refine eF ?_ ?_ ?_ | refine eN ?_ | refine eL ?_ ?_ ?_ | refine eA ?_ ?_ | refine IWk.mk ⟨_, hp, rfl⟩ ?_ ?_) | refine IWk.mk ⟨_, hp, rfl⟩ ?_ ?_)
                      all_goals first | with_reducible rfl | omega | exact Or.inl (by decide) | (simp; done) | rfl | skip
                    · all_goals repeat' (first | exact True.intro | refine And.intro ?_ ?_ | (intro _u; clear _u) | (with_reducible first | refine eM ?_ ?_ | refine eF ?_ ?_ ?_ | refine eN ?_ | refine eL ?_ ?_ ?_ | refine eA ?_ ?_ | refine IWk.mk ⟨_, hp, rfl⟩ ?_ ?_) | refine IWk.mk ⟨_, hp, rfl⟩ ?_ ?_)
                      all_goals first | with_reducible rfl | omega | exact Or.inl (by decide) | (simp; done) | rfl | skip
                      all_goals (rw [hws]; simp [slcK])
              · have hkl : k = ds.length := by omega
                subst hkl
                rw [List.take_length] at wl wi hk3 ⊢
                rw [whole, if_neg (by rw [hk3]; simp; exact ⟨hb, by omega⟩)] at hq
                repeat ((intro _u; clear _u); first | with_reducible first | refine cT ?_ | refine cF ?_ | refine cA ?_ | refine cB ?_ | refine aLn ?_ | refine cK ?_ | refine aS8 ?_ | refine wI ?_ | refine nD ?_ | refine aX rfl ?_ | refine vL rfl ?_)
                intro _u; clear _u
                refine ICall.let [5] rfl hp rfl ?_
                repeat ((intro _u; clear _u); first | refine eZ ?_ | refine FrzC.drop ?_)
                repeat ((intro _u; clear _u); first | with_reducible first | refine cT ?_ | refine cF ?_ | refine cA ?_ | refine cB ?_ | refine aLn ?_ | refine cK ?_ | refine aS8 ?_ | refine wI ?_ | refine nD ?_ | refine aX rfl ?_ | refine vL rfl ?_)
                intro _u; clear _u
                refine ICall.pure h.n153.o153.hb (pcheck_c h.n153 ⟨p.w, p.h, p.deep, p.name, wacc p ds⟩ hs) rfl ?_
                repeat ((intro _u; clear _u); first | with_reducible first | refine cT ?_ | refine cF ?_ | refine cA ?_ | refine cB ?_ | refine aLn ?_ | refine cK ?_ | refine aS8 ?_ | refine wI ?_ | refine nD ?_ | refine aX rfl ?_ | refine vL rfl ?_)
                intro _u; clear _u
                refine cS (fun h6 => ?_) (fun h6 => ?_)
                · rw [if_neg h6] at hq
                  subst hq
                  repeat ((intro _u; clear _u); first | with_reducible first | refine cT ?_ | refine cF ?_ | refine cA ?_ | refine cB ?_ | refine aLn ?_ | refine cK ?_ | refine aS8 ?_ | refine wI ?_ | refine nD ?_ | refine aX rfl ?_ | refine vL rfl ?_)
                  intro _u; clear _u
                  exact rT
                · rw [if_pos h6] at hq
                  subst hq
                  repeat ((intro _u; clear _u); first | with_reducible first | refine cT ?_ | refine cF ?_ | refine cA ?_ | refine cB ?_ | refine aLn ?_ | refine cK ?_ | refine aS8 ?_ | refine wI ?_ | refine nD ?_ | refine aX rfl ?_ | refine vL rfl ?_)
                  intro _u; clear _u
                  exact rT

def wML (R : Env) (p : Pl) (ds es : List Int) : IMem := [(6, .arr (R.ty 10) 1 (slcK .i64 es)), (4, .var (R.ty 10) [.int .i64 (p.w * p.deep)]), (3, .var (R.ty 20) p.nrow), (2, .var (R.ty 20) [.int .i64 0, .int .i64 0, .int .i64 0, .str [], .nils]), (1, .var (R.ty 20) [.int .i64 p.w, .int .i64 p.h, .int .i64 p.deep, .str p.name, .osl 6 es.length]), (0, .arr (R.ty 10) 1 (slcK .i64 ds))]
theorem wholeL_c {R : Env} (h : N173 R) (p : Pl) (ds : List Int) (hs : p.name.length ≤ 1073741824) (hl : ds.length ≤ 1073741824) : R.Mc 173 [.agg p.nrow, .osl 0 ds.length] [(0, .arr (R.ty 10) 1 (slcK .i64 ds))] (.tup [.agg (whole p ds).1.row, .int .i64 (whole p ds).2]) [(0, .arr (R.ty 10) 1 (slcK .i64 ds))] 1 :=
  h.o173.enterM 100 1 rfl rfl rfl fun X bb hfit hp => by
    generalize hq : whole p ds = q
    by_cases hb : dimBad p
    · rw [whole_d hb] at hq
      unfold dimBad at hb
      repeat ((intro _u; clear _u); first | with_reducible first | refine cT ?_ | refine cF ?_ | refine cA ?_ | refine cB ?_ | refine aLn ?_ | refine cK ?_ | refine aS8 ?_ | refine wI ?_ | refine nD ?_ | refine aX rfl ?_ | refine vL rfl ?_)
      intro _u; clear _u
      refine cS (fun h1 => ?_) (fun h1 => ?_)
      · subst hq
        repeat ((intro _u; clear _u); first | with_reducible first | refine cT ?_ | refine cF ?_ | refine cA ?_ | refine cB ?_ | refine aLn ?_ | refine cK ?_ | refine aS8 ?_ | refine wI ?_ | refine nD ?_ | refine aX rfl ?_ | refine vL rfl ?_)
        intro _u; clear _u
        exact rM [0]
      · repeat ((intro _u; clear _u); first | with_reducible first | refine cT ?_ | refine cF ?_ | refine cA ?_ | refine cB ?_ | refine aLn ?_ | refine cK ?_ | refine aS8 ?_ | refine wI ?_ | refine nD ?_ | refine aX rfl ?_ | refine vL rfl ?_)
        intro _u; clear _u
        refine cS (fun h2 => ?_) (fun h2 => ?_)
        · subst hq
          repeat ((intro _u; clear _u); first | with_reducible first | refine cT ?_ | refine cF ?_ | refine cA ?_ | refine cB ?_ | refine aLn ?_ | refine cK ?_ | refine aS8 ?_ | refine wI ?_ | refine nD ?_ | refine aX rfl ?_ | refine vL rfl ?_)
          intro _u; clear _u
          exact rM [0]
        · repeat ((intro _u; clear _u); first | with_reducible first | refine cT ?_ | refine cF ?_ | refine cA ?_ | refine cB ?_ | refine aLn ?_ | refine cK ?_ | refine aS8 ?_ | refine wI ?_ | refine nD ?_ | refine aX rfl ?_ | refine vL rfl ?_)
          intro _u; clear _u
          refine cS (fun h3 => ?_) (fun h3 => ?_)
          · subst hq
            repeat ((intro _u; clear _u); first | with_reducible first | refine cT ?_ | refine cF ?_ | refine cA ?_ | refine cB ?_ | refine aLn ?_ | refine cK ?_ | refine aS8 ?_ | refine wI ?_ | refine nD ?_ | refine aX rfl ?_ | refine vL rfl ?_)
            intro _u; clear _u
            exact rM [0]
          · repeat ((intro _u; clear _u); first | with_reducible first | refine cT ?_ | refine cF ?_ | refine cA ?_ | refine cB ?_ | refine aLn ?_ | refine cK ?_ | refine aS8 ?_ | refine wI ?_ | refine nD ?_ | refine aX rfl ?_ | refine vL rfl ?_)
            intro _u; clear _u
            refine cS (fun h4 => ?_) (fun h4 => ?_)
            · subst hq
              repeat ((intro _u; clear _u); first | with_reducible first | refine cT ?_ | refine cF ?_ | refine cA ?_ | refine cB ?_ | refine aLn ?_ | refine cK ?_ | refine aS8 ?_ | refine wI ?_ | refine nD ?_ | refine aX rfl ?_ | refine vL rfl ?_)
              intro _u; clear _u
              exact rM [0]
            · repeat ((intro _u; clear _u); first | with_reducible first | refine cT ?_ | refine cF ?_ | refine cA ?_ | refine cB ?_ | refine aLn ?_ | refine cK ?_ | refine aS8 ?_ | refine wI ?_ | refine nD ?_ | refine aX rfl ?_ | refine vL rfl ?_)
              intro _u; clear _u
              refine cS (fun h5 => ?_) (fun h5 => ?_)
              · subst hq
                repeat ((intro _u; clear _u); first | with_reducible first | refine cT ?_ | refine cF ?_ | refine cA ?_ | refine cB ?_ | refine aLn ?_ | refine cK ?_ | refine aS8 ?_ | refine wI ?_ | refine nD ?_ | refine aX rfl ?_ | refine vL rfl ?_)
                intro _u; clear _u
                exact rM [0]
              · repeat ((intro _u; clear _u); first | with_reducible first | refine cT ?_ | refine cF ?_ | refine cA ?_ | refine cB ?_ | refine aLn ?_ | refine cK ?_ | refine aS8 ?_ | refine wI ?_ | refine nD ?_ | refine aX rfl ?_ | refine vL rfl ?_)
                intro _u; clear _u
                refine acnd_t (by (simp; omega)) ?_
                subst hq
                repeat ((intro _u; clear _u); first | with_reducible first | refine cT ?_ | refine cF ?_ | refine cA ?_ | refine cB ?_ | refine aLn ?_ | refine cK ?_ | refine aS8 ?_ | refine wI ?_ | refine nD ?_ | refine aX rfl ?_ | refine vL rfl ?_)
                intro _u; clear _u
                exact rM [0]
    · have hb' := hb
      unfold dimBad at hb'
      repeat ((intro _u; clear _u); first | with_reducible first | refine cT ?_ | refine cF ?_ | refine cA ?_ | refine cB ?_ | refine aLn ?_ | refine cK ?_ | refine aS8 ?_ | refine wI ?_ | refine nD ?_ | refine aX rfl ?_ | refine vL rfl ?_)
      intro _u; clear _u
      refine acnd_f (by simp; omega) ?_
      repeat ((intro _u; clear _u); first | with_reducible first | refine cT ?_ | refine cF ?_ | refine cA ?_ | refine cB ?_ | refine aLn ?_ | refine cK ?_ | refine aS8 ?_ | refine wI ?_ | refine nD ?_ | refine aX rfl ?_ | refine vL rfl ?_)
      intro _u; clear _u
      refine acnd_f (by simp; omega) ?_
      repeat ((intro _u; clear _u); first | with_reducible first | refine cT ?_ | refine cF ?_ | refine cA ?_ | refine cB ?_ | refine aLn ?_ | refine cK ?_ | refine aS8 ?_ | refine wI ?_ | refine nD ?_ | refine aX rfl ?_ | refine vL rfl ?_)
      intro _u; clear _u
      refine acnd_f (by simp; omega) ?_
      repeat ((intro _u; clear _u); first | with_reducible first | refine cT ?_ | refine cF ?_ | refine cA ?_ | refine cB ?_ | refine aLn ?_ | refine cK ?_ | refine aS8 ?_ | refine wI ?_ | refine nD ?_ | refine aX rfl ?_ | refine vL rfl ?_)
      intro _u; clear _u
      refine acnd_f (by simp; omega) ?_
      repeat ((intro _u; clear _u); first | with_reducible first | refine cT ?_ | refine cF ?_ | refine cA ?_ | refine cB ?_ | refine aLn ?_ | refine cK ?_ | refine aS8 ?_ | refine wI ?_ | refine nD ?_ | refine aX rfl ?_ | refine vL rfl ?_)
      intro _u; clear _u
      refine acnd_f (by simp; omega) ?_
      repeat ((intro _u; clear _u); first | with_reducible first | refine cT ?_ | refine cF ?_ | refine cA ?_ | refine cB ?_ | refine aLn ?_ | refine cK ?_ | refine aS8 ?_ | refine wI ?_ | refine nD ?_ | refine aX rfl ?_ | refine vL rfl ?_)
      intro _u; clear _u
      refine acnd_f (by simp; omega) ?_
      have b1 : 1 ≤ p.w * p.h ∧ p.w * p.h ≤ 4096 := ⟨by have := Int.mul_le_mul (show 1 ≤ p.w by omega) (show 1 ≤ p.h by omega) (by omega) (by omega); omega, by have := Int.mul_le_mul (show p.w ≤ 64 by omega) (show p.h ≤ 64 by omega) (by omega) (by omega); omega⟩
      have b2 : 1 ≤ p.w * p.h * p.deep ∧ p.w * p.h * p.deep ≤ 16384 := ⟨by have := Int.mul_le_mul b1.1 (show 1 ≤ p.deep by omega) (by omega) (by omega); omega, by have := Int.mul_le_mul b1.2 (show p.deep ≤ 4 by omega) (by omega) (by omega); omega⟩
      have hw : 1 ≤ p.w ∧ p.w ≤ 64 := by omega
      have hd : 1 ≤ p.deep ∧ p.deep ≤ 4 := by omega
      repeat ((intro _u; clear _u); first | with_reducible first | refine cT ?_ | refine cF ?_ | refine cA ?_ | refine cB ?_ | refine aLn ?_ | refine cK ?_ | refine aS8 ?_ | refine wI ?_ | refine nD ?_ | refine aX rfl ?_ | refine vL rfl ?_)
      intro _u; clear _u
      refine cS (fun h2 => ?_) (fun h2 => ?_)
      · rw [whole_l h2] at hq
        subst hq
        repeat ((intro _u; clear _u); first | with_reducible first | refine cT ?_ | refine cF ?_ | refine cA ?_ | refine cB ?_ | refine aLn ?_ | refine cK ?_ | refine aS8 ?_ | refine wI ?_ | refine nD ?_ | refine aX rfl ?_ | refine vL rfl ?_)
        intro _u; clear _u
        exact rM [0]
      · repeat ((intro _u; clear _u); first | with_reducible first | refine cT ?_ | refine cF ?_ | refine cA ?_ | refine cB ?_ | refine aLn ?_ | refine cK ?_ | refine aS8 ?_ | refine wI ?_ | refine nD ?_ | refine aX rfl ?_ | refine vL rfl ?_)
        intro _u; clear _u
        refine cM false [] (expectedN_c h.n182 p hw hd) ?_
        repeat ((intro _u; clear _u); first | refine eK ?_ | refine eP ?_)
        repeat ((intro _u; clear _u); first | with_reducible first | refine cT ?_ | refine cF ?_ | refine cA ?_ | refine cB ?_ | refine aLn ?_ | refine cK ?_ | refine aS8 ?_ | refine wI ?_ | refine nD ?_ | refine aX rfl ?_ | refine vL rfl ?_)
        intro _u; clear _u
        refine ILoop.one 100 ?_
        repeat ((intro _u; clear _u); first | with_reducible first | refine cT ?_ | refine cF ?_ | refine cA ?_ | refine cB ?_ | refine aLn ?_ | refine cK ?_ | refine aS8 ?_ | refine wI ?_ | refine nD ?_ | refine aX rfl ?_ | refine vL rfl ?_)
        intro _u; clear _u
        refine acnd_t (by simp; omega) ?_
        obtain ⟨x, hx⟩ : ∃ u_, ds[0]? = some u_ := ⟨_, List.getElem?_eq_getElem (by first | omega | (simp <;> omega))⟩
        repeat ((intro _u; clear _u); first | with_reducible first | refine cT ?_ | refine cF ?_ | refine cA ?_ | refine cB ?_ | refine aLn ?_ | refine cK ?_ | refine aS8 ?_ | refine wI ?_ | refine nD ?_ | refine aX rfl ?_ | refine vL rfl ?_)
        intro _u; clear _u
        refine aelt_map (by simp) hx ?_
        repeat ((intro _u; clear _u); first | with_reducible first | refine cT ?_ | refine cF ?_ | refine cA ?_ | refine cB ?_ | refine aLn ?_ | refine cK ?_ | refine aS8 ?_ | refine wI ?_ | refine nD ?_ | refine aX rfl ?_ | refine vL rfl ?_)
        intro _u; clear _u
        refine cS (fun h3 => ?_) (fun h3 => ?_)
        · rw [whole_b hx (by simp [bad16]; omega)] at hq
          subst hq
          repeat ((intro _u; clear _u); first | with_reducible first | refine cT ?_ | refine cF ?_ | refine cA ?_ | refine cB ?_ | refine aLn ?_ | refine cK ?_ | refine aS8 ?_ | refine wI ?_ | refine nD ?_ | refine aX rfl ?_ | refine vL rfl ?_)
          intro _u; clear _u
          exact rM [0]
        · repeat ((intro _u; clear _u); first | with_reducible first | refine cT ?_ | refine cF ?_ | refine cA ?_ | refine cB ?_ | refine aLn ?_ | refine cK ?_ | refine aS8 ?_ | refine wI ?_ | refine nD ?_ | refine aX rfl ?_ | refine vL rfl ?_)
          intro _u; clear _u
          refine cS (fun h4 => ?_) (fun h4 => ?_)
          · rw [whole_b hx (by simp [bad16]; omega)] at hq
            subst hq
            repeat ((intro _u; clear _u); first | with_reducible first | refine cT ?_ | refine cF ?_ | refine cA ?_ | refine cB ?_ | refine aLn ?_ | refine cK ?_ | refine aS8 ?_ | refine wI ?_ | refine nD ?_ | refine aX rfl ?_ | refine vL rfl ?_)
            intro _u; clear _u
            exact rM [0]
          · repeat ((intro _u; clear _u); first | with_reducible first | refine cT ?_ | refine cF ?_ | refine cA ?_ | refine cB ?_ | refine aLn ?_ | refine cK ?_ | refine aS8 ?_ | refine wI ?_ | refine nD ?_ | refine aX rfl ?_ | refine vL rfl ?_)
            intro _u; clear _u
            refine cM false [3, 4] (exN_c h.n182.n188 p hw hd [] (fun x hx => by cases hx) 0 (by simp) (by simp)) ?_
            repeat ((intro _u; clear _u); first | refine eK ?_ | refine eP ?_)
            have e0 : exv p [] (0 : Nat) = 0 := by
              unfold exv; repeat' split
              all_goals first | rfl | simp [atp]
            rw [e0]
            have e2 : bit2 .and .i64 (0 + x) 65535 = (0 + x) % 65536 := and_low 16 (by decide) (by simp only [inI]; omega)
            repeat ((intro _u; clear _u); first | with_reducible first | refine cT ?_ | refine cF ?_ | refine cA ?_ | refine cB ?_ | refine aLn ?_ | refine cK ?_ | refine aS8 ?_ | refine wI ?_ | refine nD ?_ | refine aX rfl ?_ | refine vL rfl ?_)
            rw [e2]
            have w1 : wacc p (ds.take 1) = [(0 + x) % 65536] := by
              rw [wacc_succ (k := 0) hx]
              show [] ++ [(exv p [] (0 : Nat) + x) % 65536] = _
              rw [e0]; rfl
            repeat ((intro _u; clear _u); first | with_reducible first | refine cT ?_ | refine cF ?_ | refine cA ?_ | refine cB ?_ | refine aLn ?_ | refine cK ?_ | refine aS8 ?_ | refine wI ?_ | refine nD ?_ | refine aX rfl ?_ | refine vL rfl ?_)
            intro _u; clear _u
            refine ILoop.inv 100 (fun k : Nat => 1 ≤ k ∧ k ≤ ds.length ∧ (ds.take k).any bad16 = false) (fun k => ⟨[(2, .loc 1 1 0 0), (4, .loc 2 1 0 0), (6, R.cl 188 [.loc 4 1 0 0, .loc 3 1 0 0]), (54, .osl 0 ds.length), (55, .int .i64 ds.length), (56, .int .i64 k)], wML R p ds (wacc p (ds.take k)), 7⟩) (fun k => ds.length - k) (1) ?_ ⟨⟨_, hp, rfl⟩, ?_, ?_⟩ ?_
            · exact ⟨by omega, by omega, by rw [any_take_succ2 hx]; simp [bad16]; omega⟩
            · all_goals repeat' (first | exact True.intro | refine And.intro ?_ ?_ | (intro _u; clear _u) | (with_reducible first | refine eM ?_ ?_ | refine eF ?_ ?_ ?_ | refine eN ?_ | refine eL ?_ ?_ ?_ | refine eA ?_ ?_ | refine IWk.mk ⟨_, hp, rfl⟩ ?_ ?_) | refine IWk.mk ⟨_, hp, rfl⟩ ?_ ?_)
              all_goals first | with_reducible rfl | omega | exact Or.inl (by decide) | (simp; done) | rfl | skip
            · all_goals repeat' (first | exact True.intro | refine And.intro ?_ ?_ | (intro _u; clear _u) | (with_reducible first | refine eM ?_ ?_ | refine eF ?_ ?_ ?_ | refine eN ?_ | refine eL ?_ ?_ ?_ | refine eA ?_ ?_ | refine IWk.mk ⟨_, hp, rfl⟩ ?_ ?_) | refine IWk.mk ⟨_, hp, rfl⟩ ?_ ?_)
              all_goals first | with_reducible rfl | omega | exact Or.inl (by decide) | (simp; done) | rfl | skip
              all_goals (rw [w1]; rfl)
            · intro k hk
              dsimp only
              obtain ⟨hk1, hk2, hk3⟩ := hk
              have wl := wacc_len p (ds.take k)
              have wi := wacc_in p (ds.take k)
              rw [List.length_take, Nat.min_eq_left hk2] at wl
              repeat ((intro _u; clear _u); first | with_reducible first | refine cT ?_ | refine cF ?_ | refine cA ?_ | refine cB ?_ | refine aLn ?_ | refine cK ?_ | refine aS8 ?_ | refine wI ?_ | refine nD ?_ | refine aX rfl ?_ | refine vL rfl ?_)
              intro _u; clear _u
              refine cS (fun h5 => ?_) (fun h5 => ?_)
              · obtain ⟨y, hy⟩ : ∃ u_, ds[k]? = some u_ := ⟨_, List.getElem?_eq_getElem (by first | omega | (simp <;> omega))⟩
                repeat ((intro _u; clear _u); first | with_reducible first | refine cT ?_ | refine cF ?_ | refine cA ?_ | refine cB ?_ | refine aLn ?_ | refine cK ?_ | refine aS8 ?_ | refine wI ?_ | refine nD ?_ | refine aX rfl ?_ | refine vL rfl ?_)
                intro _u; clear _u
                refine aelt_map (by simp) hy ?_
                have hws := wacc_succ (p := p) hy
                rw [wl] at hws
                generalize wacc p (ds.take k) = es at wl wi hws ⊢
                repeat ((intro _u; clear _u); first | with_reducible first | refine cT ?_ | refine cF ?_ | refine cA ?_ | refine cB ?_ | refine aLn ?_ | refine cK ?_ | refine aS8 ?_ | refine wI ?_ | refine nD ?_ | refine aX rfl ?_ | refine vL rfl ?_)
                intro _u; clear _u
                refine cS (fun h6 => ?_) (fun h6 => ?_)
                · rw [whole_b hy (by simp [bad16]; omega)] at hq
                  subst hq
                  repeat ((intro _u; clear _u); first | with_reducible first | refine cT ?_ | refine cF ?_ | refine cA ?_ | refine cB ?_ | refine aLn ?_ | refine cK ?_ | refine aS8 ?_ | refine wI ?_ | refine nD ?_ | refine aX rfl ?_ | refine vL rfl ?_)
                  intro _u; clear _u
                  exact rM [0]
                · repeat ((intro _u; clear _u); first | with_reducible first | refine cT ?_ | refine cF ?_ | refine cA ?_ | refine cB ?_ | refine aLn ?_ | refine cK ?_ | refine aS8 ?_ | refine wI ?_ | refine nD ?_ | refine aX rfl ?_ | refine vL rfl ?_)
                  intro _u; clear _u
                  refine cS (fun h7 => ?_) (fun h7 => ?_)
                  · rw [whole_b hy (by simp [bad16]; omega)] at hq
                    subst hq
                    repeat ((intro _u; clear _u); first | with_reducible first | refine cT ?_ | refine cF ?_ | refine cA ?_ | refine cB ?_ | refine aLn ?_ | refine cK ?_ | refine aS8 ?_ | refine wI ?_ | refine nD ?_ | refine aX rfl ?_ | refine vL rfl ?_)
                    intro _u; clear _u
                    exact rM [0]
                  · repeat ((intro _u; clear _u); first | with_reducible first | refine cT ?_ | refine cF ?_ | refine cA ?_ | refine cB ?_ | refine aLn ?_ | refine cK ?_ | refine aS8 ?_ | refine wI ?_ | refine nD ?_ | refine aX rfl ?_ | refine vL rfl ?_)
                    intro _u; clear _u
                    refine cM false [3, 4, 6] (exLN_c h.n182.n188 p hw hd es wi k (by omega) (by omega)) ?_
                    repeat ((intro _u; clear _u); first | refine eK ?_ | refine eP ?_)
                    have e3 := exv_in wi (p := p) (k : Int)
                    have e4 : bit2 .and .i64 (exv p es k + y) 65535 = (exv p es k + y) % 65536 := and_low 16 (by decide) (by simp only [inI]; omega)
                    repeat ((intro _u; clear _u); first | with_reducible first | refine cT ?_ | refine cF ?_ | refine cA ?_ | refine cB ?_ | refine aLn ?_ | refine cK ?_ | refine aS8 ?_ | refine wI ?_ | refine nD ?_ | refine aX rfl ?_ | refine vL rfl ?_)
                    rw [e4]
                    repeat ((intro _u; clear _u); first | with_reducible first | refine cT ?_ | refine cF ?_ | refine cA ?_ | refine cB ?_ | refine aLn ?_ | refine cK ?_ | refine aS8 ?_ | refine wI ?_ | refine nD ?_ | refine aX rfl ?_ | refine vL rfl ?_)
                    intro _u; clear _u
                    refine nX (k + 1) ?_ ?_ ⟨_, hp, rfl⟩ ?_ ?_
                    · exact ⟨by omega, by omega, by rw [any_take_succ2 hy, hk3]; simp [bad16]; omega⟩
                    · omega
                    · all_goals repeat' (first | exact True.intro | refine And.intro ?_ ?_ | (intro _u; clear _u) | (with_reducible first | refine eM ?_ ?_ | refine eF ?_ ?_ ?_ | refine eN ?_ | refine eL ?_ ?_ ?_ | refine eA ?_ ?_ | refine IWk.mk ⟨_, hp, rfl⟩ ?_ ?_) | refine IWk.mk ⟨_, hp, rfl⟩ ?_ ?_)
                      all_goals first | with_reducible rfl | omega | exact Or.inl (by decide) | (simp; done) | rfl | skip
                    · all_goals repeat' (first | exact True.intro | refine And.intro ?_ ?_ | (intro _u; clear _u) | (with_reducible first | refine eM ?_ ?_ | refine eF ?_ ?_ ?_ | refine eN ?_ | refine eL ?_ ?_ ?_ | refine eA ?_ ?_ | refine IWk.mk ⟨_, hp, rfl⟩ ?_ ?_) | refine IWk.mk ⟨_, hp, rfl⟩ ?_ ?_)
                      all_goals first | with_reducible rfl | omega | exact Or.inl (by decide) | (simp; done) | rfl | skip
                      all_goals (rw [hws]; simp [slcK])
              · have hkl : k = ds.length := by omega
                subst hkl
                rw [List.take_length] at wl wi hk3 ⊢
                rw [whole, if_neg (by rw [hk3]; simp; exact ⟨hb, by omega⟩)] at hq
                repeat ((intro _u; clear _u); first | with_reducible first | refine cT ?_ | refine cF ?_ | refine cA ?_ | refine cB ?_ | refine aLn ?_ | refine cK ?_ | refine aS8 ?_ | refine wI ?_ | refine nD ?_ | refine aX rfl ?_ | refine vL rfl ?_)
                intro _u; clear _u
                refine ICall.let [6] rfl hp rfl ?_
                repeat ((intro _u; clear _u); first | refine eZ ?_ | refine FrzC.drop ?_)
                repeat ((intro _u; clear _u); first | with_reducible first | refine cT ?_ | refine cF ?_ | refine cA ?_ | refine cB ?_ | refine aLn ?_ | refine cK ?_ | refine aS8 ?_ | refine wI ?_ | refine nD ?_ | refine aX rfl ?_ | refine vL rfl ?_)
                intro _u; clear _u
                refine ICall.pure h.n153.o153.hb (pcheck_c h.n153 ⟨p.w, p.h, p.deep, p.name, wacc p ds⟩ hs) rfl ?_
                repeat ((intro _u; clear _u); first | with_reducible first | refine cT ?_ | refine cF ?_ | refine cA ?_ | refine cB ?_ | refine aLn ?_ | refine cK ?_ | refine aS8 ?_ | refine wI ?_ | refine nD ?_ | refine aX rfl ?_ | refine vL rfl ?_)
                intro _u; clear _u
                refine cS (fun h6 => ?_) (fun h6 => ?_)
                · rw [if_neg h6] at hq
                  subst hq
                  repeat ((intro _u; clear _u); first | with_reducible first | refine cT ?_ | refine cF ?_ | refine cA ?_ | refine cB ?_ | refine aLn ?_ | refine cK ?_ | refine aS8 ?_ | refine wI ?_ | refine nD ?_ | refine aX rfl ?_ | refine vL rfl ?_)
                  intro _u; clear _u
                  exact rM [0]
                · rw [if_pos h6] at hq
                  subst hq
                  repeat ((intro _u; clear _u); first | with_reducible first | refine cT ?_ | refine cF ?_ | refine cA ?_ | refine cB ?_ | refine aLn ?_ | refine cK ?_ | refine aS8 ?_ | refine wI ?_ | refine nD ?_ | refine aX rfl ?_ | refine vL rfl ?_)
                  intro _u; clear _u
                  exact rM [0]

theorem whole_lens (p : Pl) (ds : List Int) (hs : p.name.length ≤ 1073741824) : (whole p ds).1.name.length ≤ 1073741824 := by
  unfold whole
  split
  · simp [zPl]
  · split
    · exact hs
    · simp [zPl]
theorem finish_c {R : Env} (h : N186 R) (b : List UInt8) (p : Pl) (l : List Int) (hs : p.name.length ≤ 1073741824) (hl : l.length ≤ 1073741824) :
    R.Pc 186 [.isl 1 (slc8 b), .agg p.nrow, .isl 1 (slcK .i64 l)] (.tup [.agg (fin39 b p l).1.row, .int .i64 (fin39 b p l).2]) :=
  h.o186.enter 100 rfl fun X bb hfit hp => by
    repeat ((intro _u; clear _u); first | with_reducible first | refine cT ?_ | refine cF ?_ | refine cA ?_ | refine cB ?_ | refine aLn ?_ | refine cK ?_ | refine aS8 ?_ | refine wI ?_ | refine nD ?_ | refine aX rfl ?_ | refine vL rfl ?_)
    intro _u; clear _u
    refine ICall.pure h.n173.o173.hb (wholeN_c h.n173 p l hs hl) rfl ?_
    unfold fin39
    repeat ((intro _u; clear _u); first | with_reducible first | refine cT ?_ | refine cF ?_ | refine cA ?_ | refine cB ?_ | refine aLn ?_ | refine cK ?_ | refine aS8 ?_ | refine wI ?_ | refine nD ?_ | refine aX rfl ?_ | refine vL rfl ?_)
    intro _u; clear _u
    refine cS (fun h1 => ?_) (fun h1 => ?_)
    · rw [if_pos h1]
      repeat ((intro _u; clear _u); first | with_reducible first | refine cT ?_ | refine cF ?_ | refine cA ?_ | refine cB ?_ | refine aLn ?_ | refine cK ?_ | refine aS8 ?_ | refine wI ?_ | refine nD ?_ | refine aX rfl ?_ | refine vL rfl ?_)
      intro _u; clear _u
      exact rT
    · rw [if_neg (fun hh => hh h1)]
      have hws := whole_lens p l hs
      repeat ((intro _u; clear _u); first | with_reducible first | refine cT ?_ | refine cF ?_ | refine cA ?_ | refine cB ?_ | refine aLn ?_ | refine cK ?_ | refine aS8 ?_ | refine wI ?_ | refine nD ?_ | refine aX rfl ?_ | refine vL rfl ?_)
      intro _u; clear _u
      refine ICall.pure h.n164.o164.hb (pack_c h.n164 (whole p l).1 hws (by have := packed_len (whole p l).1; omega)) rfl ?_
      repeat ((intro _u; clear _u); first | with_reducible first | refine cT ?_ | refine cF ?_ | refine cA ?_ | refine cB ?_ | refine aLn ?_ | refine cK ?_ | refine aS8 ?_ | refine wI ?_ | refine nD ?_ | refine aX rfl ?_ | refine vL rfl ?_)
      intro _u; clear _u
      refine ICall.pure h.n47.o47.hb (eq8_c h.n47 (packed (whole p l).1).1 b) rfl ?_
      repeat ((intro _u; clear _u); first | with_reducible first | refine cT ?_ | refine cF ?_ | refine cA ?_ | refine cB ?_ | refine aLn ?_ | refine cK ?_ | refine aS8 ?_ | refine wI ?_ | refine nD ?_ | refine aX rfl ?_ | refine vL rfl ?_)
      intro _u; clear _u
      refine cS (fun h2 => ?_) (fun h2 => ?_)
      · rw [if_pos h2]
        repeat ((intro _u; clear _u); first | with_reducible first | refine cT ?_ | refine cF ?_ | refine cA ?_ | refine cB ?_ | refine aLn ?_ | refine cK ?_ | refine aS8 ?_ | refine wI ?_ | refine nD ?_ | refine aX rfl ?_ | refine vL rfl ?_)
        intro _u; clear _u
        exact rT
      · rw [if_neg (by simpa using h2)]
        repeat ((intro _u; clear _u); first | with_reducible first | refine cT ?_ | refine cF ?_ | refine cA ?_ | refine cB ?_ | refine aLn ?_ | refine cK ?_ | refine aS8 ?_ | refine wI ?_ | refine nD ?_ | refine aX rfl ?_ | refine vL rfl ?_)
        intro _u; clear _u
        exact rT

theorem finishL_c {R : Env} (h : N186 R) (b : List UInt8) (p : Pl) (l : List Int) (hs : p.name.length ≤ 1073741824) (hl : l.length ≤ 1073741824) :
    R.Mc 186 [.isl 1 (slc8 b), .agg p.nrow, .osl 0 l.length] [(0, .arr (R.ty 10) 1 (slcK .i64 l))] (.tup [.agg (fin39 b p l).1.row, .int .i64 (fin39 b p l).2]) [(0, .arr (R.ty 10) 1 (slcK .i64 l))] 1 :=
  h.o186.enterM 100 1 rfl rfl rfl fun X bb hfit hp => by
    repeat ((intro _u; clear _u); first | with_reducible first | refine cT ?_ | refine cF ?_ | refine cA ?_ | refine cB ?_ | refine aLn ?_ | refine cK ?_ | refine aS8 ?_ | refine wI ?_ | refine nD ?_ | refine aX rfl ?_ | refine vL rfl ?_)
    intro _u; clear _u
    refine cM false [0] (wholeL_c h.n173 p l hs hl) ?_
    repeat ((intro _u; clear _u); first | refine eK ?_ | refine eP ?_)
    unfold fin39
    repeat ((intro _u; clear _u); first | with_reducible first | refine cT ?_ | refine cF ?_ | refine cA ?_ | refine cB ?_ | refine aLn ?_ | refine cK ?_ | refine aS8 ?_ | refine wI ?_ | refine nD ?_ | refine aX rfl ?_ | refine vL rfl ?_)
    intro _u; clear _u
    refine cS (fun h1 => ?_) (fun h1 => ?_)
    · rw [if_pos h1]
      repeat ((intro _u; clear _u); first | with_reducible first | refine cT ?_ | refine cF ?_ | refine cA ?_ | refine cB ?_ | refine aLn ?_ | refine cK ?_ | refine aS8 ?_ | refine wI ?_ | refine nD ?_ | refine aX rfl ?_ | refine vL rfl ?_)
      intro _u; clear _u
      exact rM [0]
    · rw [if_neg (fun hh => hh h1)]
      have hws := whole_lens p l hs
      repeat ((intro _u; clear _u); first | with_reducible first | refine cT ?_ | refine cF ?_ | refine cA ?_ | refine cB ?_ | refine aLn ?_ | refine cK ?_ | refine aS8 ?_ | refine wI ?_ | refine nD ?_ | refine aX rfl ?_ | refine vL rfl ?_)
      intro _u; clear _u
      refine ICall.pure h.n164.o164.hb (pack_c h.n164 (whole p l).1 hws (by have := packed_len (whole p l).1; omega)) rfl ?_
      repeat ((intro _u; clear _u); first | with_reducible first | refine cT ?_ | refine cF ?_ | refine cA ?_ | refine cB ?_ | refine aLn ?_ | refine cK ?_ | refine aS8 ?_ | refine wI ?_ | refine nD ?_ | refine aX rfl ?_ | refine vL rfl ?_)
      intro _u; clear _u
      refine ICall.pure h.n47.o47.hb (eq8_c h.n47 (packed (whole p l).1).1 b) rfl ?_
      repeat ((intro _u; clear _u); first | with_reducible first | refine cT ?_ | refine cF ?_ | refine cA ?_ | refine cB ?_ | refine aLn ?_ | refine cK ?_ | refine aS8 ?_ | refine wI ?_ | refine nD ?_ | refine aX rfl ?_ | refine vL rfl ?_)
      intro _u; clear _u
      refine cS (fun h2 => ?_) (fun h2 => ?_)
      · rw [if_pos h2]
        repeat ((intro _u; clear _u); first | with_reducible first | refine cT ?_ | refine cF ?_ | refine cA ?_ | refine cB ?_ | refine aLn ?_ | refine cK ?_ | refine aS8 ?_ | refine wI ?_ | refine nD ?_ | refine aX rfl ?_ | refine vL rfl ?_)
        intro _u; clear _u
        exact rM [0]
      · rw [if_neg (by simpa using h2)]
        repeat ((intro _u; clear _u); first | with_reducible first | refine cT ?_ | refine cF ?_ | refine cA ?_ | refine cB ?_ | refine aLn ?_ | refine cK ?_ | refine aS8 ?_ | refine wI ?_ | refine nD ?_ | refine aX rfl ?_ | refine vL rfl ?_)
        intro _u; clear _u
        exact rM [0]

theorem whole_z {R : Env} (h : N173 R) (p : Pl) (hb : dimBad p) : R.Pc 173 [.agg p.nrow, .nils] (.tup [.agg zPl.row, .int .i64 5]) :=
  h.o173.enter 100 rfl fun X bb hfit hp => by
    unfold dimBad at hb
    repeat ((intro _u; clear _u); first | with_reducible first | refine cT ?_ | refine cF ?_ | refine cA ?_ | refine cB ?_ | refine aLn ?_ | refine cK ?_ | refine aS8 ?_ | refine wI ?_ | refine nD ?_ | refine aX rfl ?_ | refine vL rfl ?_)
    intro _u; clear _u
    refine cS (fun h1 => ?_) (fun h1 => ?_)
    · repeat ((intro _u; clear _u); first | with_reducible first | refine cT ?_ | refine cF ?_ | refine cA ?_ | refine cB ?_ | refine aLn ?_ | refine cK ?_ | refine aS8 ?_ | refine wI ?_ | refine nD ?_ | refine aX rfl ?_ | refine vL rfl ?_)
      intro _u; clear _u
      exact rT
    · repeat ((intro _u; clear _u); first | with_reducible first | refine cT ?_ | refine cF ?_ | refine cA ?_ | refine cB ?_ | refine aLn ?_ | refine cK ?_ | refine aS8 ?_ | refine wI ?_ | refine nD ?_ | refine aX rfl ?_ | refine vL rfl ?_)
      intro _u; clear _u
      refine cS (fun h2 => ?_) (fun h2 => ?_)
      · repeat ((intro _u; clear _u); first | with_reducible first | refine cT ?_ | refine cF ?_ | refine cA ?_ | refine cB ?_ | refine aLn ?_ | refine cK ?_ | refine aS8 ?_ | refine wI ?_ | refine nD ?_ | refine aX rfl ?_ | refine vL rfl ?_)
        intro _u; clear _u
        exact rT
      · repeat ((intro _u; clear _u); first | with_reducible first | refine cT ?_ | refine cF ?_ | refine cA ?_ | refine cB ?_ | refine aLn ?_ | refine cK ?_ | refine aS8 ?_ | refine wI ?_ | refine nD ?_ | refine aX rfl ?_ | refine vL rfl ?_)
        intro _u; clear _u
        refine cS (fun h3 => ?_) (fun h3 => ?_)
        · repeat ((intro _u; clear _u); first | with_reducible first | refine cT ?_ | refine cF ?_ | refine cA ?_ | refine cB ?_ | refine aLn ?_ | refine cK ?_ | refine aS8 ?_ | refine wI ?_ | refine nD ?_ | refine aX rfl ?_ | refine vL rfl ?_)
          intro _u; clear _u
          exact rT
        · repeat ((intro _u; clear _u); first | with_reducible first | refine cT ?_ | refine cF ?_ | refine cA ?_ | refine cB ?_ | refine aLn ?_ | refine cK ?_ | refine aS8 ?_ | refine wI ?_ | refine nD ?_ | refine aX rfl ?_ | refine vL rfl ?_)
          intro _u; clear _u
          refine cS (fun h4 => ?_) (fun h4 => ?_)
          · repeat ((intro _u; clear _u); first | with_reducible first | refine cT ?_ | refine cF ?_ | refine cA ?_ | refine cB ?_ | refine aLn ?_ | refine cK ?_ | refine aS8 ?_ | refine wI ?_ | refine nD ?_ | refine aX rfl ?_ | refine vL rfl ?_)
            intro _u; clear _u
            exact rT
          · repeat ((intro _u; clear _u); first | with_reducible first | refine cT ?_ | refine cF ?_ | refine cA ?_ | refine cB ?_ | refine aLn ?_ | refine cK ?_ | refine aS8 ?_ | refine wI ?_ | refine nD ?_ | refine aX rfl ?_ | refine vL rfl ?_)
            intro _u; clear _u
            refine cS (fun h5 => ?_) (fun h5 => ?_)
            · repeat ((intro _u; clear _u); first | with_reducible first | refine cT ?_ | refine cF ?_ | refine cA ?_ | refine cB ?_ | refine aLn ?_ | refine cK ?_ | refine aS8 ?_ | refine wI ?_ | refine nD ?_ | refine aX rfl ?_ | refine vL rfl ?_)
              intro _u; clear _u
              exact rT
            · repeat ((intro _u; clear _u); first | with_reducible first | refine cT ?_ | refine cF ?_ | refine cA ?_ | refine cB ?_ | refine aLn ?_ | refine cK ?_ | refine aS8 ?_ | refine wI ?_ | refine nD ?_ | refine aX rfl ?_ | refine vL rfl ?_)
              intro _u; clear _u
              refine acnd_t (by (simp; omega)) ?_
              repeat ((intro _u; clear _u); first | with_reducible first | refine cT ?_ | refine cF ?_ | refine cA ?_ | refine cB ?_ | refine aLn ?_ | refine cK ?_ | refine aS8 ?_ | refine wI ?_ | refine nD ?_ | refine aX rfl ?_ | refine vL rfl ?_)
              intro _u; clear _u
              exact rT
theorem finish_z {R : Env} (h : N186 R) (b : List UInt8) (p : Pl) (hb : dimBad p) : R.Pc 186 [.isl 1 (slc8 b), .agg p.nrow, .nils] (.tup [.agg zPl.row, .int .i64 5]) :=
  h.o186.enter 100 rfl fun X bb hfit hp => by
    repeat ((intro _u; clear _u); first | with_reducible first | refine cT ?_ | refine cF ?_ | refine cA ?_ | refine cB ?_ | refine aLn ?_ | refine cK ?_ | refine aS8 ?_ | refine wI ?_ | refine nD ?_ | refine aX rfl ?_ | refine vL rfl ?_)
    intro _u; clear _u
    refine ICall.pure h.n173.o173.hb (whole_z h.n173 p hb) rfl ?_
    repeat ((intro _u; clear _u); first | with_reducible first | refine cT ?_ | refine cF ?_ | refine cA ?_ | refine cB ?_ | refine aLn ?_ | refine cK ?_ | refine aS8 ?_ | refine wI ?_ | refine nD ?_ | refine aX rfl ?_ | refine vL rfl ?_)
    intro _u; clear _u
    refine acnd_t (by decide) ?_
    repeat ((intro _u; clear _u); first | with_reducible first | refine cT ?_ | refine cF ?_ | refine cA ?_ | refine cB ?_ | refine aLn ?_ | refine cK ?_ | refine aS8 ?_ | refine wI ?_ | refine nD ?_ | refine aX rfl ?_ | refine vL rfl ?_)
    intro _u; clear _u
    exact rT


theorem numr_size : ∀ (b : List UInt8) (i acc : Nat), (numr i acc b).2 ≤ i + b.length
  | [], _, _ => by simp [numr]
  | x :: r, i, acc => by
    rw [numr]
    split
    · simp only [List.length_cons]; omega
    · have := numr_size r (i + 1) (acc + (if i < 4 then x.toNat % 128 * 128 ^ i else 0))
      simp only [List.length_cons]; omega
theorem unl_done {W f : Nat} {rest : List UInt8} {l : List Int} (h : W ≤ l.length) : unl W f rest l = some l := by
  cases f <;> rw [unl, if_pos h]

set_option maxHeartbeats 1000000 in
theorem unpack_c {R : Env} (h : N179 R) (b : List UInt8) (hb : b.length ≤ 1000) : R.Pc 179 [.isl 1 (slc8 b)] (.tup [.agg (unp b).1.row, .int .i64 (unp b).2]) :=
  h.o179.enter 100 rfl fun X bb hfit hp => by
    generalize hq : unp b = q
    unfold unp at hq
    repeat ((intro _u; clear _u); first | with_reducible first | refine cT ?_ | refine cF ?_ | refine cA ?_ | refine cB ?_ | refine aLn ?_ | refine cK ?_ | refine aS8 ?_ | refine wI ?_ | refine nD ?_ | refine aX rfl ?_ | refine vL rfl ?_)
    intro _u; clear _u
    refine cS (fun h1 => ?_) (fun h1 => ?_)
    · rw [if_pos (.inl (by omega))] at hq
      subst hq
      repeat ((intro _u; clear _u); first | with_reducible first | refine cT ?_ | refine cF ?_ | refine cA ?_ | refine cB ?_ | refine aLn ?_ | refine cK ?_ | refine aS8 ?_ | refine wI ?_ | refine nD ?_ | refine aX rfl ?_ | refine vL rfl ?_)
      intro _u; clear _u
      exact rT
    · obtain ⟨x0, h0⟩ : ∃ u, b[0]? = some u := ⟨_, List.getElem?_eq_getElem (by omega)⟩
      obtain ⟨x1, hx1⟩ : ∃ u, b[1]? = some u := ⟨_, List.getElem?_eq_getElem (by omega)⟩
      obtain ⟨x2, hx2⟩ : ∃ u, b[2]? = some u := ⟨_, List.getElem?_eq_getElem (by omega)⟩
      obtain ⟨x3, hx3⟩ : ∃ u, b[3]? = some u := ⟨_, List.getElem?_eq_getElem (by omega)⟩
      rw [List.getD_eq_getElem?_getD, List.getD_eq_getElem?_getD, List.getD_eq_getElem?_getD, List.getD_eq_getElem?_getD, h0, hx1, hx2, hx3] at hq
      simp only [Option.getD_some] at hq
      have l0 := x0.toNat_lt
      have l1 := x1.toNat_lt
      have l2 := x2.toNat_lt
      have l3 := x3.toNat_lt
      repeat ((intro _u; clear _u); first | with_reducible first | refine cT ?_ | refine cF ?_ | refine cA ?_ | refine cB ?_ | refine aLn ?_ | refine cK ?_ | refine aS8 ?_ | refine wI ?_ | refine nD ?_ | refine aX rfl ?_ | refine vL rfl ?_)
      intro _u; clear _u
      refine eget_map hx3 ?_
      repeat ((intro _u; clear _u); first | with_reducible first | refine cT ?_ | refine cF ?_ | refine cA ?_ | refine cB ?_ | refine aLn ?_ | refine cK ?_ | refine aS8 ?_ | refine wI ?_ | refine nD ?_ | refine aX rfl ?_ | refine vL rfl ?_)
      intro _u; clear _u
      refine cS (fun h2 => ?_) (fun h2 => ?_)
      · rw [if_pos (.inr (by omega))] at hq
        subst hq
        repeat ((intro _u; clear _u); first | with_reducible first | refine cT ?_ | refine cF ?_ | refine cA ?_ | refine cB ?_ | refine aLn ?_ | refine cK ?_ | refine aS8 ?_ | refine wI ?_ | refine nD ?_ | refine aX rfl ?_ | refine vL rfl ?_)
        intro _u; clear _u
        exact rT
      · rw [if_neg (by omega)] at hq
        have m0 : (0 : Int) ≤ (x0.toNat : Int) * x1.toNat ∧ (x0.toNat : Int) * x1.toNat ≤ 255 * 255 := ⟨Int.mul_nonneg (by omega) (by omega), Int.mul_le_mul (by omega) (by omega) (by omega) (by omega)⟩
        have m1 : (0 : Int) ≤ (x0.toNat : Int) * x1.toNat * x2.toNat ∧ (x0.toNat : Int) * x1.toNat * x2.toNat ≤ 255 * 255 * 255 := ⟨Int.mul_nonneg m0.1 (by omega), Int.mul_le_mul m0.2 (by omega) (by omega) (by omega)⟩
        repeat ((intro _u; clear _u); first | with_reducible first | refine cT ?_ | refine cF ?_ | refine cA ?_ | refine cB ?_ | refine aLn ?_ | refine cK ?_ | refine aS8 ?_ | refine wI ?_ | refine nD ?_ | refine aX rfl ?_ | refine vL rfl ?_)
        intro _u; clear _u
        refine eget_map h0 ?_
        repeat ((intro _u; clear _u); first | with_reducible first | refine cT ?_ | refine cF ?_ | refine cA ?_ | refine cB ?_ | refine aLn ?_ | refine cK ?_ | refine aS8 ?_ | refine wI ?_ | refine nD ?_ | refine aX rfl ?_ | refine vL rfl ?_)
        intro _u; clear _u
        refine eget_map hx1 ?_
        repeat ((intro _u; clear _u); first | with_reducible first | refine cT ?_ | refine cF ?_ | refine cA ?_ | refine cB ?_ | refine aLn ?_ | refine cK ?_ | refine aS8 ?_ | refine wI ?_ | refine nD ?_ | refine aX rfl ?_ | refine vL rfl ?_)
        intro _u; clear _u
        refine eget_map hx2 ?_
        repeat ((intro _u; clear _u); first | with_reducible first | refine cT ?_ | refine cF ?_ | refine cA ?_ | refine cB ?_ | refine aLn ?_ | refine cK ?_ | refine aS8 ?_ | refine wI ?_ | refine nD ?_ | refine aX rfl ?_ | refine vL rfl ?_)
        intro _u; clear _u
        refine eget_map hx3 ?_
        repeat ((intro _u; clear _u); first | with_reducible first | refine cT ?_ | refine cF ?_ | refine cA ?_ | refine cB ?_ | refine aLn ?_ | refine cK ?_ | refine aS8 ?_ | refine wI ?_ | refine nD ?_ | refine aX rfl ?_ | refine vL rfl ?_)
        intro _u; clear _u
        refine asub_eq (by rw [slc8_take, slc8_drop, show ((4 : Int) + (x3.toNat : Int)).toNat = 4 + x3.toNat by omega]) ?_
        repeat ((intro _u; clear _u); first | with_reducible first | refine cT ?_ | refine cF ?_ | refine cA ?_ | refine cB ?_ | refine aLn ?_ | refine cK ?_ | refine aS8 ?_ | refine wI ?_ | refine nD ?_ | refine aX rfl ?_ | refine vL rfl ?_)
        intro _u; clear _u
        refine eget_map hx3 ?_
        repeat ((intro _u; clear _u); first | with_reducible first | refine cT ?_ | refine cF ?_ | refine cA ?_ | refine cB ?_ | refine aLn ?_ | refine cK ?_ | refine aS8 ?_ | refine wI ?_ | refine nD ?_ | refine aX rfl ?_ | refine vL rfl ?_)
        intro _u; clear _u
        refine asub_eq (by rw [slc8_drop, show ((4 : Int) + (x3.toNat : Int)).toNat = 4 + x3.toNat by omega]) ?_
        have hPs : ((b.take (4 + x3.toNat)).drop 4).length ≤ 1073741824 := by simp; omega
        have hrl : (b.drop (4 + x3.toNat)).length ≤ 1000 := by simp; omega
        repeat ((intro _u; clear _u); first | with_reducible first | refine cT ?_ | refine cF ?_ | refine cA ?_ | refine cB ?_ | refine aLn ?_ | refine cK ?_ | refine aS8 ?_ | refine wI ?_ | refine nD ?_ | refine aX rfl ?_ | refine vL rfl ?_)
        intro _u; clear _u
        refine cS (fun h3 => ?_) (fun h3 => ?_)
        · rw [if_pos (by omega)] at hq
          subst hq
          repeat ((intro _u; clear _u); first | with_reducible first | refine cT ?_ | refine cF ?_ | refine cA ?_ | refine cB ?_ | refine aLn ?_ | refine cK ?_ | refine aS8 ?_ | refine wI ?_ | refine nD ?_ | refine aX rfl ?_ | refine vL rfl ?_)
          intro _u; clear _u
          exact rT
        · repeat ((intro _u; clear _u); first | with_reducible first | refine cT ?_ | refine cF ?_ | refine cA ?_ | refine cB ?_ | refine aLn ?_ | refine cK ?_ | refine aS8 ?_ | refine wI ?_ | refine nD ?_ | refine aX rfl ?_ | refine vL rfl ?_)
          intro _u; clear _u
          refine cS (fun h4 => ?_) (fun h4 => ?_)
          · rw [if_pos (by omega)] at hq
            subst hq
            repeat ((intro _u; clear _u); first | with_reducible first | refine cT ?_ | refine cF ?_ | refine cA ?_ | refine cB ?_ | refine aLn ?_ | refine cK ?_ | refine aS8 ?_ | refine wI ?_ | refine nD ?_ | refine aX rfl ?_ | refine vL rfl ?_)
            intro _u; clear _u
            exact rT
          · repeat ((intro _u; clear _u); first | with_reducible first | refine cT ?_ | refine cF ?_ | refine cA ?_ | refine cB ?_ | refine aLn ?_ | refine cK ?_ | refine aS8 ?_ | refine wI ?_ | refine nD ?_ | refine aX rfl ?_ | refine vL rfl ?_)
            intro _u; clear _u
            refine cS (fun h5 => ?_) (fun h5 => ?_)
            · rw [if_pos (by omega)] at hq
              subst hq
              repeat ((intro _u; clear _u); first | with_reducible first | refine cT ?_ | refine cF ?_ | refine cA ?_ | refine cB ?_ | refine aLn ?_ | refine cK ?_ | refine aS8 ?_ | refine wI ?_ | refine nD ?_ | refine aX rfl ?_ | refine vL rfl ?_)
              intro _u; clear _u
              exact rT
            · rw [if_neg (by omega)] at hq
              have hWi : (x0.toNat : Int) * x1.toNat * x2.toNat = ((x0.toNat * x1.toNat * x2.toNat : Nat) : Int) := by rw [Int.natCast_mul, Int.natCast_mul]
              rw [hWi]
              have b1 : x0.toNat * x1.toNat ≤ 64 * 64 := Nat.mul_le_mul (by omega) (by omega)
              have hW : x0.toNat * x1.toNat * x2.toNat ≤ 64 * 64 * 4 := Nat.mul_le_mul b1 (by omega)
              generalize hWe : x0.toNat * x1.toNat * x2.toNat = W at hW hq ⊢
              generalize b.drop (4 + x3.toNat) = rest at hrl hq ⊢
              generalize ho : unl W 16385 rest [] = o at hq
              repeat ((intro _u; clear _u); first | with_reducible first | refine cT ?_ | refine cF ?_ | refine cA ?_ | refine cB ?_ | refine aLn ?_ | refine cK ?_ | refine aS8 ?_ | refine wI ?_ | refine nD ?_ | refine aX rfl ?_ | refine vL rfl ?_)
              intro _u; clear _u
              refine ILoop.one 100 ?_
              by_cases hw0 : W = 0
              · repeat ((intro _u; clear _u); first | with_reducible first | refine cT ?_ | refine cF ?_ | refine cA ?_ | refine cB ?_ | refine aLn ?_ | refine cK ?_ | refine aS8 ?_ | refine wI ?_ | refine nD ?_ | refine aX rfl ?_ | refine vL rfl ?_)
                intro _u; clear _u
                refine acnd_f (by simp; omega) ?_
                have ho2 := unl_done (W := W) (f := 16385) (rest := rest) (l := []) (by omega)
                rw [ho2] at ho
                rw [← ho] at hq
                have hdb : dimBad (⟨x0.toNat, x1.toNat, x2.toNat, (b.take (4 + x3.toNat)).drop 4, []⟩ : Pl) := by
                  unfold dimBad
                  rcases Nat.eq_zero_or_pos x0.toNat with e | e
                  · left; show ¬ (1 ≤ (x0.toNat : Int) ∧ _); omega
                  · rcases Nat.eq_zero_or_pos x1.toNat with e1 | e1
                    · right; left; show ¬ (1 ≤ (x1.toNat : Int) ∧ _); omega
                    · rcases Nat.eq_zero_or_pos x2.toNat with e2 | e2
                      · right; right; show ¬ (1 ≤ (x2.toNat : Int) ∧ _); omega
                      · have := Nat.mul_pos (Nat.mul_pos e e1) e2
                        omega
                have hfz : fin39 b (⟨x0.toNat, x1.toNat, x2.toNat, (b.take (4 + x3.toNat)).drop 4, []⟩ : Pl) [] = (zPl, 5) := by rw [fin39, whole_d hdb]; rfl
                simp only [hfz] at hq
                repeat ((intro _u; clear _u); first | with_reducible first | refine cT ?_ | refine cF ?_ | refine cA ?_ | refine cB ?_ | refine aLn ?_ | refine cK ?_ | refine aS8 ?_ | refine wI ?_ | refine nD ?_ | refine aX rfl ?_ | refine vL rfl ?_)
                intro _u; clear _u
                refine ICall.pure h.n186.o186.hb (finish_z h.n186 b (⟨x0.toNat, x1.toNat, x2.toNat, (b.take (4 + x3.toNat)).drop 4, []⟩ : Pl) hdb) rfl ?_
                subst hq
                repeat ((intro _u; clear _u); first | with_reducible first | refine cT ?_ | refine cF ?_ | refine cA ?_ | refine cB ?_ | refine aLn ?_ | refine cK ?_ | refine aS8 ?_ | refine wI ?_ | refine nD ?_ | refine aX rfl ?_ | refine vL rfl ?_)
                intro _u; clear _u
                exact rT
              · repeat ((intro _u; clear _u); first | with_reducible first | refine cT ?_ | refine cF ?_ | refine cA ?_ | refine cB ?_ | refine aLn ?_ | refine cK ?_ | refine aS8 ?_ | refine wI ?_ | refine nD ?_ | refine aX rfl ?_ | refine vL rfl ?_)
                intro _u; clear _u
                refine acnd_t (by simp; omega) ?_
                rw [unl, if_neg (by simp; omega)] at ho
                have nl := numr_lt rest 0 0 (by decide) (fun _ => by decide)
                have ns := numr_size rest 0 0
                repeat ((intro _u; clear _u); first | with_reducible first | refine cT ?_ | refine cF ?_ | refine cA ?_ | refine cB ?_ | refine aLn ?_ | refine cK ?_ | refine aS8 ?_ | refine wI ?_ | refine nD ?_ | refine aX rfl ?_ | refine vL rfl ?_)
                intro _u; clear _u
                refine ICall.pure h.n185.o185.hb (number_c h.n185 rest hrl) rfl ?_
                repeat ((intro _u; clear _u); first | with_reducible first | refine cT ?_ | refine cF ?_ | refine cA ?_ | refine cB ?_ | refine aLn ?_ | refine cK ?_ | refine aS8 ?_ | refine wI ?_ | refine nD ?_ | refine aX rfl ?_ | refine vL rfl ?_)
                intro _u; clear _u
                refine cS (fun g2 => ?_) (fun g2 => ?_)
                · rw [if_pos (by omega)] at ho
                  rw [← ho] at hq
                  subst hq
                  repeat ((intro _u; clear _u); first | with_reducible first | refine cT ?_ | refine cF ?_ | refine cA ?_ | refine cB ?_ | refine aLn ?_ | refine cK ?_ | refine aS8 ?_ | refine wI ?_ | refine nD ?_ | refine aX rfl ?_ | refine vL rfl ?_)
                  intro _u; clear _u
                  exact rT
                · rw [if_neg (by omega)] at ho
                  repeat ((intro _u; clear _u); first | with_reducible first | refine cT ?_ | refine cF ?_ | refine cA ?_ | refine cB ?_ | refine aLn ?_ | refine cK ?_ | refine aS8 ?_ | refine wI ?_ | refine nD ?_ | refine aX rfl ?_ | refine vL rfl ?_)
                  intro _u; clear _u
                  refine asub_eq (by exact slc8_drop _ _) ?_
                  rw [Int.toNat_natCast]
                  repeat ((intro _u; clear _u); first | with_reducible first | refine cT ?_ | refine cF ?_ | refine cA ?_ | refine cB ?_ | refine aLn ?_ | refine cK ?_ | refine aS8 ?_ | refine wI ?_ | refine nD ?_ | refine aX rfl ?_ | refine vL rfl ?_)
                  intro _u; clear _u
                  refine cS (fun g3 => ?_) (fun g3 => ?_)
                  · rw [if_pos (by omega)] at ho
                    repeat ((intro _u; clear _u); first | with_reducible first | refine cT ?_ | refine cF ?_ | refine cA ?_ | refine cB ?_ | refine aLn ?_ | refine cK ?_ | refine aS8 ?_ | refine wI ?_ | refine nD ?_ | refine aX rfl ?_ | refine vL rfl ?_)
                    intro _u; clear _u
                    refine ICall.pure h.n169.o169.hb (zag_c h.n169 (numr 0 0 rest).1 (by simp only [inI]; omega)) rfl ?_
                    repeat ((intro _u; clear _u); first | with_reducible first | refine cT ?_ | refine cF ?_ | refine cA ?_ | refine cB ?_ | refine aLn ?_ | refine cK ?_ | refine aS8 ?_ | refine wI ?_ | refine nD ?_ | refine aX rfl ?_ | refine vL rfl ?_)
                    intro _u; clear _u
                    refine ILoop.inv 100 (fun s : Nat × List UInt8 × List Int => s.2.1.length ≤ 1000 ∧ 16385 ≤ s.1 + s.2.2.length ∧ s.2.2.length ≤ 16384 ∧ unl W s.1 s.2.1 s.2.2 = o) (fun s => ⟨[(0, .isl 1 (slc8 b)), (2, .loc 0 1 0 0), (4, .loc 1 1 0 0), (5, .isl 1 (slc8 s.2.1)), (6, .int .i64 W), (7, .osl 3 s.2.2.length)], [(3, .arr (R.ty 10) 1 (slcK .i64 s.2.2)), (1, .var (R.ty 20) (⟨x0.toNat, x1.toNat, x2.toNat, (b.take (4 + x3.toNat)).drop 4, []⟩ : Pl).nrow), (0, .var (R.ty 20) [.int .i64 0, .int .i64 0, .int .i64 0, .str [], .nils])], 4⟩) (fun s => s.1) ((16384, rest.drop (numr 0 0 rest).2, [zag (numr 0 0 rest).1])) ?_ ⟨⟨_, hp, rfl⟩, ?_, ?_⟩ ?_
                    · exact ⟨by simp; omega, by simp, by simp, ho⟩
                    · all_goals repeat' (first | exact True.intro | refine And.intro ?_ ?_ | (intro _u; clear _u) | (with_reducible first | refine eM ?_ ?_ | refine eF ?_ ?_ ?_ | refine eN ?_ | refine eL ?_ ?_ ?_ | refine eA ?_ ?_ | refine IWk.mk ⟨_, hp, rfl⟩ ?_ ?_) | refine IWk.mk ⟨_, hp, rfl⟩ ?_ ?_)
                      all_goals first | with_reducible rfl | omega | exact Or.inl (by decide) | (simp; done) | rfl | skip
                    · all_goals repeat' (first | exact True.intro | refine And.intro ?_ ?_ | (intro _u; clear _u) | (with_reducible first | refine eM ?_ ?_ | refine eF ?_ ?_ ?_ | refine eN ?_ | refine eL ?_ ?_ ?_ | refine eA ?_ ?_ | refine IWk.mk ⟨_, hp, rfl⟩ ?_ ?_) | refine IWk.mk ⟨_, hp, rfl⟩ ?_ ?_)
                      all_goals first | with_reducible rfl | omega | exact Or.inl (by decide) | (simp; done) | rfl | skip
                      all_goals (simp [slcK]; done)
                    · rintro ⟨f, rest, l⟩ ⟨hv1, hv2, hv3, hv4⟩
                      dsimp only at hv1 hv2 hv3 hv4 ⊢
                      repeat ((intro _u; clear _u); first | with_reducible first | refine cT ?_ | refine cF ?_ | refine cA ?_ | refine cB ?_ | refine aLn ?_ | refine cK ?_ | refine aS8 ?_ | refine wI ?_ | refine nD ?_ | refine aX rfl ?_ | refine vL rfl ?_)
                      intro _u; clear _u
                      refine cS (fun g1 => ?_) (fun g1 => ?_)
                      · obtain ⟨f, rfl⟩ : ∃ g, f = g + 1 := ⟨f - 1, by omega⟩
                        rw [unl, if_neg (by omega)] at hv4
                        have nl := numr_lt rest 0 0 (by decide) (fun _ => by decide)
                        have ns := numr_size rest 0 0
                        repeat ((intro _u; clear _u); first | with_reducible first | refine cT ?_ | refine cF ?_ | refine cA ?_ | refine cB ?_ | refine aLn ?_ | refine cK ?_ | refine aS8 ?_ | refine wI ?_ | refine nD ?_ | refine aX rfl ?_ | refine vL rfl ?_)
                        intro _u; clear _u
                        refine ICall.pure h.n185.o185.hb (number_c h.n185 rest hv1) rfl ?_
                        repeat ((intro _u; clear _u); first | with_reducible first | refine cT ?_ | refine cF ?_ | refine cA ?_ | refine cB ?_ | refine aLn ?_ | refine cK ?_ | refine aS8 ?_ | refine wI ?_ | refine nD ?_ | refine aX rfl ?_ | refine vL rfl ?_)
                        intro _u; clear _u
                        refine cS (fun g2 => ?_) (fun g2 => ?_)
                        · rw [if_pos (by omega)] at hv4
                          rw [← hv4] at hq
                          subst hq
                          repeat ((intro _u; clear _u); first | with_reducible first | refine cT ?_ | refine cF ?_ | refine cA ?_ | refine cB ?_ | refine aLn ?_ | refine cK ?_ | refine aS8 ?_ | refine wI ?_ | refine nD ?_ | refine aX rfl ?_ | refine vL rfl ?_)
                          intro _u; clear _u
                          exact rT
                        · rw [if_neg (by omega)] at hv4
                          repeat ((intro _u; clear _u); first | with_reducible first | refine cT ?_ | refine cF ?_ | refine cA ?_ | refine cB ?_ | refine aLn ?_ | refine cK ?_ | refine aS8 ?_ | refine wI ?_ | refine nD ?_ | refine aX rfl ?_ | refine vL rfl ?_)
                          intro _u; clear _u
                          refine asub_eq (by exact slc8_drop _ _) ?_
                          rw [Int.toNat_natCast]
                          repeat ((intro _u; clear _u); first | with_reducible first | refine cT ?_ | refine cF ?_ | refine cA ?_ | refine cB ?_ | refine aLn ?_ | refine cK ?_ | refine aS8 ?_ | refine wI ?_ | refine nD ?_ | refine aX rfl ?_ | refine vL rfl ?_)
                          intro _u; clear _u
                          refine cS (fun g3 => ?_) (fun g3 => ?_)
                          · rw [if_pos (by omega)] at hv4
                            repeat ((intro _u; clear _u); first | with_reducible first | refine cT ?_ | refine cF ?_ | refine cA ?_ | refine cB ?_ | refine aLn ?_ | refine cK ?_ | refine aS8 ?_ | refine wI ?_ | refine nD ?_ | refine aX rfl ?_ | refine vL rfl ?_)
                            intro _u; clear _u
                            refine ICall.pure h.n169.o169.hb (zag_c h.n169 (numr 0 0 rest).1 (by simp only [inI]; omega)) rfl ?_
                            repeat ((intro _u; clear _u); first | with_reducible first | refine cT ?_ | refine cF ?_ | refine cA ?_ | refine cB ?_ | refine aLn ?_ | refine cK ?_ | refine aS8 ?_ | refine wI ?_ | refine nD ?_ | refine aX rfl ?_ | refine vL rfl ?_)
                            intro _u; clear _u
                            refine nX ((f, rest.drop (numr 0 0 rest).2, l ++ [zag (numr 0 0 rest).1])) ?_ ?_ ⟨_, hp, rfl⟩ ?_ ?_
                            · exact ⟨by simp; omega, by simp; omega, by simp; omega, hv4⟩
                            · dsimp only; omega
                            · all_goals repeat' (first | exact True.intro | refine And.intro ?_ ?_ | (intro _u; clear _u) | (with_reducible first | refine eM ?_ ?_ | refine eF ?_ ?_ ?_ | refine eN ?_ | refine eL ?_ ?_ ?_ | refine eA ?_ ?_ | refine IWk.mk ⟨_, hp, rfl⟩ ?_ ?_) | refine IWk.mk ⟨_, hp, rfl⟩ ?_ ?_)
                              all_goals first | with_reducible rfl | omega | exact Or.inl (by decide) | (simp; done) | rfl | skip
                            · all_goals repeat' (first | exact True.intro | refine And.intro ?_ ?_ | (intro _u; clear _u) | (with_reducible first | refine eM ?_ ?_ | refine eF ?_ ?_ ?_ | refine eN ?_ | refine eL ?_ ?_ ?_ | refine eA ?_ ?_ | refine IWk.mk ⟨_, hp, rfl⟩ ?_ ?_) | refine IWk.mk ⟨_, hp, rfl⟩ ?_ ?_)
                              all_goals first | with_reducible rfl | omega | exact Or.inl (by decide) | (simp; done) | rfl | skip
                              simp [slcK]
                          · rw [if_neg (by omega)] at hv4
                            have hr2 : (rest.drop (numr 0 0 rest).2).length ≤ 1000 := by simp; omega
                            have hr3 := numr_size (rest.drop (numr 0 0 rest).2) 0 0
                            have nl2 := numr_lt (rest.drop (numr 0 0 rest).2) 0 0 (by decide) (fun _ => by decide)
                            generalize rest.drop (numr 0 0 rest).2 = rest2 at hr2 hr3 nl2 hv4 ⊢
                            repeat ((intro _u; clear _u); first | with_reducible first | refine cT ?_ | refine cF ?_ | refine cA ?_ | refine cB ?_ | refine aLn ?_ | refine cK ?_ | refine aS8 ?_ | refine wI ?_ | refine nD ?_ | refine aX rfl ?_ | refine vL rfl ?_)
                            intro _u; clear _u
                            refine ICall.pure h.n185.o185.hb (number_c h.n185 rest2 hr2) rfl ?_
                            repeat ((intro _u; clear _u); first | with_reducible first | refine cT ?_ | refine cF ?_ | refine cA ?_ | refine cB ?_ | refine aLn ?_ | refine cK ?_ | refine aS8 ?_ | refine wI ?_ | refine nD ?_ | refine aX rfl ?_ | refine vL rfl ?_)
                            intro _u; clear _u
                            refine cS (fun g4 => ?_) (fun g4 => ?_)
                            · rw [if_pos (by omega)] at hv4
                              rw [← hv4] at hq
                              subst hq
                              repeat ((intro _u; clear _u); first | with_reducible first | refine cT ?_ | refine cF ?_ | refine cA ?_ | refine cB ?_ | refine aLn ?_ | refine cK ?_ | refine aS8 ?_ | refine wI ?_ | refine nD ?_ | refine aX rfl ?_ | refine vL rfl ?_)
                              intro _u; clear _u
                              exact rT
                            · rw [if_neg (by omega)] at hv4
                              repeat ((intro _u; clear _u); first | with_reducible first | refine cT ?_ | refine cF ?_ | refine cA ?_ | refine cB ?_ | refine aLn ?_ | refine cK ?_ | refine aS8 ?_ | refine wI ?_ | refine nD ?_ | refine aX rfl ?_ | refine vL rfl ?_)
                              intro _u; clear _u
                              refine asub_eq (by exact slc8_drop _ _) ?_
                              rw [Int.toNat_natCast]
                              repeat ((intro _u; clear _u); first | with_reducible first | refine cT ?_ | refine cF ?_ | refine cA ?_ | refine cB ?_ | refine aLn ?_ | refine cK ?_ | refine aS8 ?_ | refine wI ?_ | refine nD ?_ | refine aX rfl ?_ | refine vL rfl ?_)
                              intro _u; clear _u
                              refine cS (fun g5 => ?_) (fun g5 => ?_)
                              · rw [if_pos (by omega)] at hv4
                                repeat ((intro _u; clear _u); first | with_reducible first | refine cT ?_ | refine cF ?_ | refine cA ?_ | refine cB ?_ | refine aLn ?_ | refine cK ?_ | refine aS8 ?_ | refine wI ?_ | refine nD ?_ | refine aX rfl ?_ | refine vL rfl ?_)
                                intro _u; clear _u
                                refine amk_n (W - l.length) (by omega) (by omega) (by omega) ?_
                                have c9 := finishL_c h.n186 b (⟨x0.toNat, x1.toNat, x2.toNat, (b.take (4 + x3.toNat)).drop 4, []⟩ : Pl) (l ++ List.replicate (W - l.length) 0) hPs (by simp; omega)
                                rw [show slcK .i64 (l ++ List.replicate (W - l.length) 0) = slcK .i64 l ++ List.replicate (W - l.length) [.int .i64 0] by simp [slcK]] at c9
                                repeat ((intro _u; clear _u); first | with_reducible first | refine cT ?_ | refine cF ?_ | refine cA ?_ | refine cB ?_ | refine aLn ?_ | refine cK ?_ | refine aS8 ?_ | refine wI ?_ | refine nD ?_ | refine aX rfl ?_ | refine vL rfl ?_)
                                intro _u; clear _u
                                refine cM false [3] (c9) ?_
                                repeat ((intro _u; clear _u); first | refine eK ?_ | refine eP ?_)
                                rw [← hv4] at hq
                                subst hq
                                repeat ((intro _u; clear _u); first | with_reducible first | refine cT ?_ | refine cF ?_ | refine cA ?_ | refine cB ?_ | refine aLn ?_ | refine cK ?_ | refine aS8 ?_ | refine wI ?_ | refine nD ?_ | refine aX rfl ?_ | refine vL rfl ?_)
                                intro _u; clear _u
                                exact rT
                              · rw [if_neg (by omega)] at hv4
                                repeat ((intro _u; clear _u); first | with_reducible first | refine cT ?_ | refine cF ?_ | refine cA ?_ | refine cB ?_ | refine aLn ?_ | refine cK ?_ | refine aS8 ?_ | refine wI ?_ | refine nD ?_ | refine aX rfl ?_ | refine vL rfl ?_)
                                intro _u; clear _u
                                refine amk_n ((numr 0 0 rest2).1 + 1) (by omega) (by omega) (by omega) ?_
                                repeat ((intro _u; clear _u); first | with_reducible first | refine cT ?_ | refine cF ?_ | refine cA ?_ | refine cB ?_ | refine aLn ?_ | refine cK ?_ | refine aS8 ?_ | refine wI ?_ | refine nD ?_ | refine aX rfl ?_ | refine vL rfl ?_)
                                intro _u; clear _u
                                refine nX ((f, rest2.drop (numr 0 0 rest2).2, l ++ List.replicate ((numr 0 0 rest2).1 + 1) 0)) ?_ ?_ ⟨_, hp, rfl⟩ ?_ ?_
                                · exact ⟨by simp; omega, by simp; omega, by simp; omega, hv4⟩
                                · dsimp only; omega
                                · all_goals repeat' (first | exact True.intro | refine And.intro ?_ ?_ | (intro _u; clear _u) | (with_reducible first | refine eM ?_ ?_ | refine eF ?_ ?_ ?_ | refine eN ?_ | refine eL ?_ ?_ ?_ | refine eA ?_ ?_ | refine IWk.mk ⟨_, hp, rfl⟩ ?_ ?_) | refine IWk.mk ⟨_, hp, rfl⟩ ?_ ?_)
                                  all_goals first | with_reducible rfl | omega | exact Or.inl (by decide) | (simp; done) | rfl | skip
                                  all_goals (simp; done)
                                · all_goals repeat' (first | exact True.intro | refine And.intro ?_ ?_ | (intro _u; clear _u) | (with_reducible first | refine eM ?_ ?_ | refine eF ?_ ?_ ?_ | refine eN ?_ | refine eL ?_ ?_ ?_ | refine eA ?_ ?_ | refine IWk.mk ⟨_, hp, rfl⟩ ?_ ?_) | refine IWk.mk ⟨_, hp, rfl⟩ ?_ ?_)
                                  all_goals first | with_reducible rfl | omega | exact Or.inl (by decide) | (simp; done) | rfl | skip
                                  all_goals (simp [slcK]; done)
                      · have hv5 := unl_done (f := f) (rest := rest) (show W ≤ l.length by omega)
                        rw [hv5] at hv4
                        rw [← hv4] at hq
                        subst hq
                        repeat ((intro _u; clear _u); first | with_reducible first | refine cT ?_ | refine cF ?_ | refine cA ?_ | refine cB ?_ | refine aLn ?_ | refine cK ?_ | refine aS8 ?_ | refine wI ?_ | refine nD ?_ | refine aX rfl ?_ | refine vL rfl ?_)
                        intro _u; clear _u
                        refine ICall.let [3] rfl hp rfl ?_
                        repeat ((intro _u; clear _u); first | refine eZ ?_ | refine FrzC.drop ?_)
                        repeat ((intro _u; clear _u); first | with_reducible first | refine cT ?_ | refine cF ?_ | refine cA ?_ | refine cB ?_ | refine aLn ?_ | refine cK ?_ | refine aS8 ?_ | refine wI ?_ | refine nD ?_ | refine aX rfl ?_ | refine vL rfl ?_)
                        intro _u; clear _u
                        refine ICall.pure h.n186.o186.hb (finish_c h.n186 b (⟨x0.toNat, x1.toNat, x2.toNat, (b.take (4 + x3.toNat)).drop 4, []⟩ : Pl) l hPs (by omega)) rfl ?_
                        repeat ((intro _u; clear _u); first | with_reducible first | refine cT ?_ | refine cF ?_ | refine cA ?_ | refine cB ?_ | refine aLn ?_ | refine cK ?_ | refine aS8 ?_ | refine wI ?_ | refine nD ?_ | refine aX rfl ?_ | refine vL rfl ?_)
                        intro _u; clear _u
                        exact rT
                  · rw [if_neg (by omega)] at ho
                    have hr2 : (rest.drop (numr 0 0 rest).2).length ≤ 1000 := by simp; omega
                    have hr3 := numr_size (rest.drop (numr 0 0 rest).2) 0 0
                    have nl2 := numr_lt (rest.drop (numr 0 0 rest).2) 0 0 (by decide) (fun _ => by decide)
                    generalize rest.drop (numr 0 0 rest).2 = rest2 at hr2 hr3 nl2 ho ⊢
                    repeat ((intro _u; clear _u); first | with_reducible first | refine cT ?_ | refine cF ?_ | refine cA ?_ | refine cB ?_ | refine aLn ?_ | refine cK ?_ | refine aS8 ?_ | refine wI ?_ | refine nD ?_ | refine aX rfl ?_ | refine vL rfl ?_)
                    intro _u; clear _u
                    refine ICall.pure h.n185.o185.hb (number_c h.n185 rest2 hr2) rfl ?_
                    repeat ((intro _u; clear _u); first | with_reducible first | refine cT ?_ | refine cF ?_ | refine cA ?_ | refine cB ?_ | refine aLn ?_ | refine cK ?_ | refine aS8 ?_ | refine wI ?_ | refine nD ?_ | refine aX rfl ?_ | refine vL rfl ?_)
                    intro _u; clear _u
                    refine cS (fun g4 => ?_) (fun g4 => ?_)
                    · rw [if_pos (by omega)] at ho
                      rw [← ho] at hq
                      subst hq
                      repeat ((intro _u; clear _u); first | with_reducible first | refine cT ?_ | refine cF ?_ | refine cA ?_ | refine cB ?_ | refine aLn ?_ | refine cK ?_ | refine aS8 ?_ | refine wI ?_ | refine nD ?_ | refine aX rfl ?_ | refine vL rfl ?_)
                      intro _u; clear _u
                      exact rT
                    · rw [if_neg (by omega)] at ho
                      repeat ((intro _u; clear _u); first | with_reducible first | refine cT ?_ | refine cF ?_ | refine cA ?_ | refine cB ?_ | refine aLn ?_ | refine cK ?_ | refine aS8 ?_ | refine wI ?_ | refine nD ?_ | refine aX rfl ?_ | refine vL rfl ?_)
                      intro _u; clear _u
                      refine asub_eq (by exact slc8_drop _ _) ?_
                      rw [Int.toNat_natCast]
                      repeat ((intro _u; clear _u); first | with_reducible first | refine cT ?_ | refine cF ?_ | refine cA ?_ | refine cB ?_ | refine aLn ?_ | refine cK ?_ | refine aS8 ?_ | refine wI ?_ | refine nD ?_ | refine aX rfl ?_ | refine vL rfl ?_)
                      intro _u; clear _u
                      refine cS (fun g5 => ?_) (fun g5 => ?_)
                      · rw [if_pos (by simp; omega)] at ho
                        repeat ((intro _u; clear _u); first | with_reducible first | refine cT ?_ | refine cF ?_ | refine cA ?_ | refine cB ?_ | refine aLn ?_ | refine cK ?_ | refine aS8 ?_ | refine wI ?_ | refine nD ?_ | refine aX rfl ?_ | refine vL rfl ?_)
                        intro _u; clear _u
                        refine amk_n W (by omega) (by omega) (by omega) ?_
                        have c9 := finishL_c h.n186 b (⟨x0.toNat, x1.toNat, x2.toNat, (b.take (4 + x3.toNat)).drop 4, []⟩ : Pl) (List.replicate W 0) hPs (by simp; omega)
                        rw [show slcK .i64 (List.replicate W 0) = List.replicate W [.int .i64 0] by simp [slcK]] at c9
                        repeat ((intro _u; clear _u); first | with_reducible first | refine cT ?_ | refine cF ?_ | refine cA ?_ | refine cB ?_ | refine aLn ?_ | refine cK ?_ | refine aS8 ?_ | refine wI ?_ | refine nD ?_ | refine aX rfl ?_ | refine vL rfl ?_)
                        intro _u; clear _u
                        refine cM false [2] (c9) ?_
                        repeat ((intro _u; clear _u); first | refine eK ?_ | refine eP ?_)
                        rw [← ho] at hq
                        subst hq
                        repeat ((intro _u; clear _u); first | with_reducible first | refine cT ?_ | refine cF ?_ | refine cA ?_ | refine cB ?_ | refine aLn ?_ | refine cK ?_ | refine aS8 ?_ | refine wI ?_ | refine nD ?_ | refine aX rfl ?_ | refine vL rfl ?_)
                        intro _u; clear _u
                        exact rT
                      · rw [if_neg (by simp; omega)] at ho
                        repeat ((intro _u; clear _u); first | with_reducible first | refine cT ?_ | refine cF ?_ | refine cA ?_ | refine cB ?_ | refine aLn ?_ | refine cK ?_ | refine aS8 ?_ | refine wI ?_ | refine nD ?_ | refine aX rfl ?_ | refine vL rfl ?_)
                        intro _u; clear _u
                        refine amk_n ((numr 0 0 rest2).1 + 1) (by omega) (by omega) (by omega) ?_
                        repeat ((intro _u; clear _u); first | with_reducible first | refine cT ?_ | refine cF ?_ | refine cA ?_ | refine cB ?_ | refine aLn ?_ | refine cK ?_ | refine aS8 ?_ | refine wI ?_ | refine nD ?_ | refine aX rfl ?_ | refine vL rfl ?_)
                        intro _u; clear _u
                        refine ILoop.inv 100 (fun s : Nat × List UInt8 × List Int => s.2.1.length ≤ 1000 ∧ 16385 ≤ s.1 + s.2.2.length ∧ s.2.2.length ≤ 16384 ∧ unl W s.1 s.2.1 s.2.2 = o) (fun s => ⟨[(0, .isl 1 (slc8 b)), (2, .loc 0 1 0 0), (4, .loc 1 1 0 0), (5, .isl 1 (slc8 s.2.1)), (6, .int .i64 W), (7, .osl 2 s.2.2.length)], [(2, .arr (R.ty 10) 1 (slcK .i64 s.2.2)), (1, .var (R.ty 20) (⟨x0.toNat, x1.toNat, x2.toNat, (b.take (4 + x3.toNat)).drop 4, []⟩ : Pl).nrow), (0, .var (R.ty 20) [.int .i64 0, .int .i64 0, .int .i64 0, .str [], .nils])], 3⟩) (fun s => s.1) ((16384, rest2.drop (numr 0 0 rest2).2, List.replicate ((numr 0 0 rest2).1 + 1) 0)) ?_ ⟨⟨_, hp, rfl⟩, ?_, ?_⟩ ?_
                        · exact ⟨by simp; omega, by simp; omega, by simp; omega, by simpa using ho⟩
                        · all_goals repeat' (first | exact True.intro | refine And.intro ?_ ?_ | (intro _u; clear _u) | (with_reducible first | refine eM ?_ ?_ | refine eF ?_ ?_ ?_ | refine eN ?_ | refine eL ?_ ?_ ?_ | refine eA ?_ ?_ | refine IWk.mk ⟨_, hp, rfl⟩ ?_ ?_) | refine IWk.mk ⟨_, hp, rfl⟩ ?_ ?_)
                          all_goals first | with_reducible rfl | omega | exact Or.inl (by decide) | (simp; done) | rfl | skip
                        · all_goals repeat' (first | exact True.intro | refine And.intro ?_ ?_ | (intro _u; clear _u) | (with_reducible first | refine eM ?_ ?_ | refine eF ?_ ?_ ?_ | refine eN ?_ | refine eL ?_ ?_ ?_ | refine eA ?_ ?_ | refine IWk.mk ⟨_, hp, rfl⟩ ?_ ?_) | refine IWk.mk ⟨_, hp, rfl⟩ ?_ ?_)
                          all_goals first | with_reducible rfl | omega | exact Or.inl (by decide) | (simp; done) | rfl | skip
                          all_goals (simp [slcK]; done)
                        · rintro ⟨f, rest, l⟩ ⟨hv1, hv2, hv3, hv4⟩
                          dsimp only at hv1 hv2 hv3 hv4 ⊢
                          repeat ((intro _u; clear _u); first | with_reducible first | refine cT ?_ | refine cF ?_ | refine cA ?_ | refine cB ?_ | refine aLn ?_ | refine cK ?_ | refine aS8 ?_ | refine wI ?_ | refine nD ?_ | refine aX rfl ?_ | refine vL rfl ?_)
                          intro _u; clear _u
                          refine cS (fun g1 => ?_) (fun g1 => ?_)
                          · obtain ⟨f, rfl⟩ : ∃ g, f = g + 1 := ⟨f - 1, by omega⟩
                            rw [unl, if_neg (by omega)] at hv4
                            have nl := numr_lt rest 0 0 (by decide) (fun _ => by decide)
                            have ns := numr_size rest 0 0
                            repeat ((intro _u; clear _u); first | with_reducible first | refine cT ?_ | refine cF ?_ | refine cA ?_ | refine cB ?_ | refine aLn ?_ | refine cK ?_ | refine aS8 ?_ | refine wI ?_ | refine nD ?_ | refine aX rfl ?_ | refine vL rfl ?_)
                            intro _u; clear _u
                            refine ICall.pure h.n185.o185.hb (number_c h.n185 rest hv1) rfl ?_
                            repeat ((intro _u; clear _u); first | with_reducible first | refine cT ?_ | refine cF ?_ | refine cA ?_ | refine cB ?_ | refine aLn ?_ | refine cK ?_ | refine aS8 ?_ | refine wI ?_ | refine nD ?_ | refine aX rfl ?_ | refine vL rfl ?_)
                            intro _u; clear _u
                            refine cS (fun g2 => ?_) (fun g2 => ?_)
                            · rw [if_pos (by omega)] at hv4
                              rw [← hv4] at hq
                              subst hq
                              repeat ((intro _u; clear _u); first | with_reducible first | refine cT ?_ | refine cF ?_ | refine cA ?_ | refine cB ?_ | refine aLn ?_ | refine cK ?_ | refine aS8 ?_ | refine wI ?_ | refine nD ?_ | refine aX rfl ?_ | refine vL rfl ?_)
                              intro _u; clear _u
                              exact rT
                            · rw [if_neg (by omega)] at hv4
                              repeat ((intro _u; clear _u); first | with_reducible first | refine cT ?_ | refine cF ?_ | refine cA ?_ | refine cB ?_ | refine aLn ?_ | refine cK ?_ | refine aS8 ?_ | refine wI ?_ | refine nD ?_ | refine aX rfl ?_ | refine vL rfl ?_)
                              intro _u; clear _u
                              refine asub_eq (by exact slc8_drop _ _) ?_
                              rw [Int.toNat_natCast]
                              repeat ((intro _u; clear _u); first | with_reducible first | refine cT ?_ | refine cF ?_ | refine cA ?_ | refine cB ?_ | refine aLn ?_ | refine cK ?_ | refine aS8 ?_ | refine wI ?_ | refine nD ?_ | refine aX rfl ?_ | refine vL rfl ?_)
                              intro _u; clear _u
                              refine cS (fun g3 => ?_) (fun g3 => ?_)
                              · rw [if_pos (by omega)] at hv4
                                repeat ((intro _u; clear _u); first | with_reducible first | refine cT ?_ | refine cF ?_ | refine cA ?_ | refine cB ?_ | refine aLn ?_ | refine cK ?_ | refine aS8 ?_ | refine wI ?_ | refine nD ?_ | refine aX rfl ?_ | refine vL rfl ?_)
                                intro _u; clear _u
                                refine ICall.pure h.n169.o169.hb (zag_c h.n169 (numr 0 0 rest).1 (by simp only [inI]; omega)) rfl ?_
                                repeat ((intro _u; clear _u); first | with_reducible first | refine cT ?_ | refine cF ?_ | refine cA ?_ | refine cB ?_ | refine aLn ?_ | refine cK ?_ | refine aS8 ?_ | refine wI ?_ | refine nD ?_ | refine aX rfl ?_ | refine vL rfl ?_)
                                intro _u; clear _u
                                refine nX ((f, rest.drop (numr 0 0 rest).2, l ++ [zag (numr 0 0 rest).1])) ?_ ?_ ⟨_, hp, rfl⟩ ?_ ?_
                                · exact ⟨by simp; omega, by simp; omega, by simp; omega, hv4⟩
                                · dsimp only; omega
                                · all_goals repeat' (first | exact True.intro | refine And.intro ?_ ?_ | (intro _u; clear _u) | (with_reducible first | refine eM ?_ ?_ | refine eF ?_ ?_ ?_ | refine eN ?_ | refine eL ?_ ?_ ?_ | refine eA ?_ ?_ | refine IWk.mk ⟨_, hp, rfl⟩ ?_ ?_) | refine IWk.mk ⟨_, hp, rfl⟩ ?_ ?_)
                                  all_goals first | with_reducible rfl | omega | exact Or.inl (by decide) | (simp; done) | rfl | skip
                                · all_goals repeat' (first | exact True.intro | refine And.intro ?_ ?_ | (intro _u; clear _u) | (with_reducible first | refine eM ?_ ?_ | refine eF ?_ ?_ ?_ | refine eN ?_ | refine eL ?_ ?_ ?_ | refine eA ?_ ?_ | refine IWk.mk ⟨_, hp, rfl⟩ ?_ ?_) | refine IWk.mk ⟨_, hp, rfl⟩ ?_ ?_)
                                  all_goals first | with_reducible rfl | omega | exact Or.inl (by decide) | (simp; done) | rfl | skip
                                  simp [slcK]
                              · rw [if_neg (by omega)] at hv4
                                have hr2 : (rest.drop (numr 0 0 rest).2).length ≤ 1000 := by simp; omega
                                have hr3 := numr_size (rest.drop (numr 0 0 rest).2) 0 0
                                have nl2 := numr_lt (rest.drop (numr 0 0 rest).2) 0 0 (by decide) (fun _ => by decide)
                                generalize rest.drop (numr 0 0 rest).2 = rest2 at hr2 hr3 nl2 hv4 ⊢
                                repeat ((intro _u; clear _u); first | with_reducible first | refine cT ?_ | refine cF ?_ | refine cA ?_ | refine cB ?_ | refine aLn ?_ | refine cK ?_ | refine aS8 ?_ | refine wI ?_ | refine nD ?_ | refine aX rfl ?_ | refine vL rfl ?_)
                                intro _u; clear _u
                                refine ICall.pure h.n185.o185.hb (number_c h.n185 rest2 hr2) rfl ?_
                                repeat ((intro _u; clear _u); first | with_reducible first | refine cT ?_ | refine cF ?_ | refine cA ?_ | refine cB ?_ | refine aLn ?_ | refine cK ?_ | refine aS8 ?_ | refine wI ?_ | refine nD ?_ | refine aX rfl ?_ | refine vL rfl ?_)
                                intro _u; clear _u
                                refine cS (fun g4 => ?_) (fun g4 => ?_)
                                · rw [if_pos (by omega)] at hv4
                                  rw [← hv4] at hq
                                  subst hq
                                  repeat ((intro _u; clear _u); first | with_reducible first | refine cT ?_ | refine cF ?_ | refine cA ?_ | refine cB ?_ | refine aLn ?_ | refine cK ?_ | refine aS8 ?_ | refine wI ?_ | refine nD ?_ | refine aX rfl ?_ | refine vL rfl ?_)
                                  intro _u; clear _u
                                  exact rT
                                · rw [if_neg (by omega)] at hv4
                                  repeat ((intro _u; clear _u); first | with_reducible first | refine cT ?_ | refine cF ?_ | refine cA ?_ | refine cB ?_ | refine aLn ?_ | refine cK ?_ | refine aS8 ?_ | refine wI ?_ | refine nD ?_ | refine aX rfl ?_ | refine vL rfl ?_)
                                  intro _u; clear _u
                                  refine asub_eq (by exact slc8_drop _ _) ?_
                                  rw [Int.toNat_natCast]
                                  repeat ((intro _u; clear _u); first | with_reducible first | refine cT ?_ | refine cF ?_ | refine cA ?_ | refine cB ?_ | refine aLn ?_ | refine cK ?_ | refine aS8 ?_ | refine wI ?_ | refine nD ?_ | refine aX rfl ?_ | refine vL rfl ?_)
                                  intro _u; clear _u
                                  refine cS (fun g5 => ?_) (fun g5 => ?_)
                                  · rw [if_pos (by omega)] at hv4
                                    repeat ((intro _u; clear _u); first | with_reducible first | refine cT ?_ | refine cF ?_ | refine cA ?_ | refine cB ?_ | refine aLn ?_ | refine cK ?_ | refine aS8 ?_ | refine wI ?_ | refine nD ?_ | refine aX rfl ?_ | refine vL rfl ?_)
                                    intro _u; clear _u
                                    refine amk_n (W - l.length) (by omega) (by omega) (by omega) ?_
                                    have c9 := finishL_c h.n186 b (⟨x0.toNat, x1.toNat, x2.toNat, (b.take (4 + x3.toNat)).drop 4, []⟩ : Pl) (l ++ List.replicate (W - l.length) 0) hPs (by simp; omega)
                                    rw [show slcK .i64 (l ++ List.replicate (W - l.length) 0) = slcK .i64 l ++ List.replicate (W - l.length) [.int .i64 0] by simp [slcK]] at c9
                                    repeat ((intro _u; clear _u); first | with_reducible first | refine cT ?_ | refine cF ?_ | refine cA ?_ | refine cB ?_ | refine aLn ?_ | refine cK ?_ | refine aS8 ?_ | refine wI ?_ | refine nD ?_ | refine aX rfl ?_ | refine vL rfl ?_)
                                    intro _u; clear _u
                                    refine cM false [2] (c9) ?_
                                    repeat ((intro _u; clear _u); first | refine eK ?_ | refine eP ?_)
                                    rw [← hv4] at hq
                                    subst hq
                                    repeat ((intro _u; clear _u); first | with_reducible first | refine cT ?_ | refine cF ?_ | refine cA ?_ | refine cB ?_ | refine aLn ?_ | refine cK ?_ | refine aS8 ?_ | refine wI ?_ | refine nD ?_ | refine aX rfl ?_ | refine vL rfl ?_)
                                    intro _u; clear _u
                                    exact rT
                                  · rw [if_neg (by omega)] at hv4
                                    repeat ((intro _u; clear _u); first | with_reducible first | refine cT ?_ | refine cF ?_ | refine cA ?_ | refine cB ?_ | refine aLn ?_ | refine cK ?_ | refine aS8 ?_ | refine wI ?_ | refine nD ?_ | refine aX rfl ?_ | refine vL rfl ?_)
                                    intro _u; clear _u
                                    refine amk_n ((numr 0 0 rest2).1 + 1) (by omega) (by omega) (by omega) ?_
                                    repeat ((intro _u; clear _u); first | with_reducible first | refine cT ?_ | refine cF ?_ | refine cA ?_ | refine cB ?_ | refine aLn ?_ | refine cK ?_ | refine aS8 ?_ | refine wI ?_ | refine nD ?_ | refine aX rfl ?_ | refine vL rfl ?_)
                                    intro _u; clear _u
                                    refine nX ((f, rest2.drop (numr 0 0 rest2).2, l ++ List.replicate ((numr 0 0 rest2).1 + 1) 0)) ?_ ?_ ⟨_, hp, rfl⟩ ?_ ?_
                                    · exact ⟨by simp; omega, by simp; omega, by simp; omega, hv4⟩
                                    · dsimp only; omega
                                    · all_goals repeat' (first | exact True.intro | refine And.intro ?_ ?_ | (intro _u; clear _u) | (with_reducible first | refine eM ?_ ?_ | refine eF ?_ ?_ ?_ | refine eN ?_ | refine eL ?_ ?_ ?_ | refine eA ?_ ?_ | refine IWk.mk ⟨_, hp, rfl⟩ ?_ ?_) | refine IWk.mk ⟨_, hp, rfl⟩ ?_ ?_)
                                      all_goals first | with_reducible rfl | omega | exact Or.inl (by decide) | (simp; done) | rfl | skip
                                      all_goals (simp; done)
                                    · all_goals repeat' (first | exact True.intro | refine And.intro ?_ ?_ | (intro _u; clear _u) | (with_reducible first | refine eM ?_ ?_ | refine eF ?_ ?_ ?_ | refine eN ?_ | refine eL ?_ ?_ ?_ | refine eA ?_ ?_ | refine IWk.mk ⟨_, hp, rfl⟩ ?_ ?_) | refine IWk.mk ⟨_, hp, rfl⟩ ?_ ?_)
                                      all_goals first | with_reducible rfl | omega | exact Or.inl (by decide) | (simp; done) | rfl | skip
                                      all_goals (simp [slcK]; done)
                          · have hv5 := unl_done (f := f) (rest := rest) (show W ≤ l.length by omega)
                            rw [hv5] at hv4
                            rw [← hv4] at hq
                            subst hq
                            repeat ((intro _u; clear _u); first | with_reducible first | refine cT ?_ | refine cF ?_ | refine cA ?_ | refine cB ?_ | refine aLn ?_ | refine cK ?_ | refine aS8 ?_ | refine wI ?_ | refine nD ?_ | refine aX rfl ?_ | refine vL rfl ?_)
                            intro _u; clear _u
                            refine ICall.let [2] rfl hp rfl ?_
                            repeat ((intro _u; clear _u); first | refine eZ ?_ | refine FrzC.drop ?_)
                            repeat ((intro _u; clear _u); first | with_reducible first | refine cT ?_ | refine cF ?_ | refine cA ?_ | refine cB ?_ | refine aLn ?_ | refine cK ?_ | refine aS8 ?_ | refine wI ?_ | refine nD ?_ | refine aX rfl ?_ | refine vL rfl ?_)
                            intro _u; clear _u
                            refine ICall.pure h.n186.o186.hb (finish_c h.n186 b (⟨x0.toNat, x1.toNat, x2.toNat, (b.take (4 + x3.toNat)).drop 4, []⟩ : Pl) l hPs (by omega)) rfl ?_
                            repeat ((intro _u; clear _u); first | with_reducible first | refine cT ?_ | refine cF ?_ | refine cA ?_ | refine cB ?_ | refine aLn ?_ | refine cK ?_ | refine aS8 ?_ | refine wI ?_ | refine nD ?_ | refine aX rfl ?_ | refine vL rfl ?_)
                            intro _u; clear _u
                            exact rT
end Go.UM

/- The statements of chapter 39. -/



namespace Go.UM
open Go.AM
set_option maxRecDepth 4000

def P10 : Pl := ⟨10, 10, 1, [65], List.replicate 100 3⟩
theorem packed10 : packed P10 = ([10, 10, 1, 1, 65, 6, 0, 98], 0) := by
  have h1 : pchk P10 = 0 := by decide +kernel
  have h2 : dlt P10 = 3 :: 0 :: List.replicate 98 0 := by decide +kernel
  have h3 : zrun (List.replicate 98 0) = 98 := by decide +kernel
  rw [packed, if_pos h1, h2, pk, if_neg (by decide), pk, if_pos rfl, h3, show (List.replicate 98 (0 : Int)).drop 98 = [] by decide +kernel, pk, short_small (n := 98) (by decide), show (zig 3).toNat = 6 by decide +kernel, short_small (n := 6) (by decide)]
  rfl

theorem works39_c {R : Env} (h : N166 R) : R.Pc 166 [] (.bool true) :=
  h.o166.enter 100 rfl fun X bb hfit hp => by
    repeat ((intro _u; clear _u); first | with_reducible first | refine cT ?_ | refine cF ?_ | refine cA ?_ | refine cB ?_ | refine aLn ?_ | refine cK ?_ | refine aS8 ?_ | refine wI ?_ | refine nD ?_ | refine aX rfl ?_ | refine vL rfl ?_)
    intro _u; clear _u
    refine ILoop.one 100 ?_
    repeat ((intro _u; clear _u); first | with_reducible first | refine cT ?_ | refine cF ?_ | refine cA ?_ | refine cB ?_ | refine aLn ?_ | refine cK ?_ | refine aS8 ?_ | refine wI ?_ | refine nD ?_ | refine aX rfl ?_ | refine vL rfl ?_)
    intro _u; clear _u
    refine acnd_t (by decide) ?_
    repeat ((intro _u; clear _u); first | with_reducible first | refine cT ?_ | refine cF ?_ | refine cA ?_ | refine cB ?_ | refine aLn ?_ | refine cK ?_ | refine aS8 ?_ | refine wI ?_ | refine nD ?_ | refine aX rfl ?_ | refine vL rfl ?_)
    intro _u; clear _u
    refine lPa 100 (fun k : Nat => 1 ≤ k ∧ k ≤ 100) (fun k => ⟨[(1, .loc 0 1 0 0), (5, .int .i64 k)], [(2, .arr (R.ty 10) 1 (slcK .i64 (List.replicate k 3))), (0, .var (R.ty 20) [.int .i64 10, .int .i64 10, .int .i64 1, .str [65], .osl 2 k])], 3⟩) (fun k => 100 - k) (1) ?_ ?_
    · exact ⟨by omega, by omega⟩
    · intro k hk
      dsimp only
      repeat ((intro _u; clear _u); first | with_reducible first | refine cT ?_ | refine cF ?_ | refine cA ?_ | refine cB ?_ | refine aLn ?_ | refine cK ?_ | refine aS8 ?_ | refine wI ?_ | refine nD ?_ | refine aX rfl ?_ | refine vL rfl ?_)
      intro _u; clear _u
      refine cS (fun h1 => ?_) (fun h1 => ?_)
      · repeat ((intro _u; clear _u); first | with_reducible first | refine cT ?_ | refine cF ?_ | refine cA ?_ | refine cB ?_ | refine aLn ?_ | refine cK ?_ | refine aS8 ?_ | refine wI ?_ | refine nD ?_ | refine aX rfl ?_ | refine vL rfl ?_)
        intro _u; clear _u
        refine nX (k + 1) ?_ ?_ ⟨_, hp, rfl⟩ ?_ ?_
        · omega
        · omega
        · all_goals repeat' (first | exact True.intro | refine And.intro ?_ ?_ | (intro _u; clear _u) | (with_reducible first | refine eM ?_ ?_ | refine eF ?_ ?_ ?_ | refine eN ?_ | refine eL ?_ ?_ ?_ | refine eA ?_ ?_ | refine IWk.mk ⟨_, hp, rfl⟩ ?_ ?_) | refine IWk.mk ⟨_, hp, rfl⟩ ?_ ?_)
          all_goals first | with_reducible rfl | omega | exact Or.inl (by decide) | (simp; done) | rfl | skip
        · all_goals repeat' (first | exact True.intro | refine And.intro ?_ ?_ | (intro _u; clear _u) | (with_reducible first | refine eM ?_ ?_ | refine eF ?_ ?_ ?_ | refine eN ?_ | refine eL ?_ ?_ ?_ | refine eA ?_ ?_ | refine IWk.mk ⟨_, hp, rfl⟩ ?_ ?_) | refine IWk.mk ⟨_, hp, rfl⟩ ?_ ?_)
          all_goals first | with_reducible rfl | omega | exact Or.inl (by decide) | (simp; done) | rfl | skip
          simp [slcK, List.replicate_succ']
      · obtain rfl : k = 100 := by omega
        repeat ((intro _u; clear _u); first | with_reducible first | refine cT ?_ | refine cF ?_ | refine cA ?_ | refine cB ?_ | refine aLn ?_ | refine cK ?_ | refine aS8 ?_ | refine wI ?_ | refine nD ?_ | refine aX rfl ?_ | refine vL rfl ?_)
        intro _u; clear _u
        refine ICall.let [2] rfl hp rfl ?_
        repeat ((intro _u; clear _u); first | refine eZ ?_ | refine FrzC.drop ?_)
        have c1 := pack_c h.n164 P10 (by decide) (by rw [packed10]; decide)
        rw [packed10] at c1
        repeat ((intro _u; clear _u); first | with_reducible first | refine cT ?_ | refine cF ?_ | refine cA ?_ | refine cB ?_ | refine aLn ?_ | refine cK ?_ | refine aS8 ?_ | refine wI ?_ | refine nD ?_ | refine aX rfl ?_ | refine vL rfl ?_)
        intro _u; clear _u
        refine ICall.pure h.n164.o164.hb c1 rfl ?_
        repeat ((intro _u; clear _u); first | with_reducible first | refine cT ?_ | refine cF ?_ | refine cA ?_ | refine cB ?_ | refine aLn ?_ | refine cK ?_ | refine aS8 ?_ | refine wI ?_ | refine nD ?_ | refine aX rfl ?_ | refine vL rfl ?_)
        intro _u; clear _u
        refine acnd_t (by rfl) ?_
        repeat ((intro _u; clear _u); first | with_reducible first | refine cT ?_ | refine cF ?_ | refine cA ?_ | refine cB ?_ | refine aLn ?_ | refine cK ?_ | refine aS8 ?_ | refine wI ?_ | refine nD ?_ | refine aX rfl ?_ | refine vL rfl ?_)
        intro _u; clear _u
        refine cM true [] ((eq8_c h.n47 [10, 10, 1, 1, 65, 6, 0, 98] [10, 10, 1, 1, 65, 6, 0, 98]).mc h.n47.o47.hb) ?_
        repeat ((intro _u; clear _u); first | refine eK ?_ | refine eP ?_)
        repeat ((intro _u; clear _u); first | with_reducible first | refine cT ?_ | refine cF ?_ | refine cA ?_ | refine cB ?_ | refine aLn ?_ | refine cK ?_ | refine aS8 ?_ | refine wI ?_ | refine nD ?_ | refine aX rfl ?_ | refine vL rfl ?_)
        intro _u; clear _u
        exact rT

theorem zig_small {x : Int} (h : -2147483648 ≤ x ∧ x ≤ 2147483647) : zig x = if x < 0 then -2 * x - 1 else 2 * x := by
  unfold zig
  split
  · rw [show wr .i64 (-2 * x) = -2 * x from wr_in (k := .i64) (by simp only [inI]; omega), wr_in (k := .i64) (by simp only [inI]; omega)]
  · rw [wr_in (k := .i64) (by simp only [inI]; omega)]

theorem zag_law {R : Env} (h : N167 R) (k : Int) (hk : inI .i32 k) : R.Pc 167 [.int .i32 k] (.bool true) :=
  h.o167.enter 100 rfl fun X bb hfit hp => by
    simp only [inI] at hk
    have z1 := zig_small hk
    have z2 : zag (zig k) = k := by
      rw [z1]; unfold zag; split <;> split <;> omega
    have z3 : 0 ≤ zig k ∧ zig k ≤ 4294967296 := by rw [z1]; split <;> omega
    have c2 := zag_c h.n169 (zig k) (by simp only [inI]; omega)
    rw [z2] at c2
    repeat ((intro _u; clear _u); first | with_reducible first | refine cT ?_ | refine cF ?_ | refine cA ?_ | refine cB ?_ | refine aLn ?_ | refine cK ?_ | refine aS8 ?_ | refine wI ?_ | refine nD ?_ | refine aX rfl ?_ | refine vL rfl ?_)
    intro _u; clear _u
    refine ICall.pure h.n168.o168.hb (zig_c h.n168 k) rfl ?_
    repeat ((intro _u; clear _u); first | with_reducible first | refine cT ?_ | refine cF ?_ | refine cA ?_ | refine cB ?_ | refine aLn ?_ | refine cK ?_ | refine aS8 ?_ | refine wI ?_ | refine nD ?_ | refine aX rfl ?_ | refine vL rfl ?_)
    intro _u; clear _u
    refine ICall.pure h.n169.o169.hb c2 rfl ?_
    repeat ((intro _u; clear _u); first | with_reducible first | refine cT ?_ | refine cF ?_ | refine cA ?_ | refine cB ?_ | refine aLn ?_ | refine cK ?_ | refine aS8 ?_ | refine wI ?_ | refine nD ?_ | refine aX rfl ?_ | refine vL rfl ?_)
    intro _u; clear _u
    refine acnd_f (by simp) ?_
    repeat ((intro _u; clear _u); first | with_reducible first | refine cT ?_ | refine cF ?_ | refine cA ?_ | refine cB ?_ | refine aLn ?_ | refine cK ?_ | refine aS8 ?_ | refine wI ?_ | refine nD ?_ | refine aX rfl ?_ | refine vL rfl ?_)
    intro _u; clear _u
    refine ICall.pure h.n168.o168.hb (zig_c h.n168 k) rfl ?_
    repeat ((intro _u; clear _u); first | with_reducible first | refine cT ?_ | refine cF ?_ | refine cA ?_ | refine cB ?_ | refine aLn ?_ | refine cK ?_ | refine aS8 ?_ | refine wI ?_ | refine nD ?_ | refine aX rfl ?_ | refine vL rfl ?_)
    intro _u; clear _u
    refine acnd_f (by simp; omega) ?_
    repeat ((intro _u; clear _u); first | with_reducible first | refine cT ?_ | refine cF ?_ | refine cA ?_ | refine cB ?_ | refine aLn ?_ | refine cK ?_ | refine aS8 ?_ | refine wI ?_ | refine nD ?_ | refine aX rfl ?_ | refine vL rfl ?_)
    intro _u; clear _u
    refine cS (fun h1 => ?_) (fun h1 => ?_)
    · repeat ((intro _u; clear _u); first | with_reducible first | refine cT ?_ | refine cF ?_ | refine cA ?_ | refine cB ?_ | refine aLn ?_ | refine cK ?_ | refine aS8 ?_ | refine wI ?_ | refine nD ?_ | refine aX rfl ?_ | refine vL rfl ?_)
      intro _u; clear _u
      refine ICall.pure h.n166.o166.hb (works39_c h.n166) rfl ?_
      repeat ((intro _u; clear _u); first | with_reducible first | refine cT ?_ | refine cF ?_ | refine cA ?_ | refine cB ?_ | refine aLn ?_ | refine cK ?_ | refine aS8 ?_ | refine wI ?_ | refine nD ?_ | refine aX rfl ?_ | refine vL rfl ?_)
      intro _u; clear _u
      exact rT
    · have z4 : zag k = k / 2 ∨ zag k = -(k / 2) - 1 := by unfold zag; split <;> (try split) <;> omega
      have z5 := zig_small (x := zag k) (by omega)
      have z6 : zig (zag k) = k := by
        rw [z5]; unfold zag; repeat' split
        all_goals omega
      have c3 := zig_c h.n168 (zag k)
      rw [z6] at c3
      repeat ((intro _u; clear _u); first | with_reducible first | refine cT ?_ | refine cF ?_ | refine cA ?_ | refine cB ?_ | refine aLn ?_ | refine cK ?_ | refine aS8 ?_ | refine wI ?_ | refine nD ?_ | refine aX rfl ?_ | refine vL rfl ?_)
      intro _u; clear _u
      refine ICall.pure h.n169.o169.hb (zag_c h.n169 k (by simp only [inI]; omega)) rfl ?_
      repeat ((intro _u; clear _u); first | with_reducible first | refine cT ?_ | refine cF ?_ | refine cA ?_ | refine cB ?_ | refine aLn ?_ | refine cK ?_ | refine aS8 ?_ | refine wI ?_ | refine nD ?_ | refine aX rfl ?_ | refine vL rfl ?_)
      intro _u; clear _u
      refine ICall.pure h.n168.o168.hb c3 rfl ?_
      repeat ((intro _u; clear _u); first | with_reducible first | refine cT ?_ | refine cF ?_ | refine cA ?_ | refine cB ?_ | refine aLn ?_ | refine cK ?_ | refine aS8 ?_ | refine wI ?_ | refine nD ?_ | refine aX rfl ?_ | refine vL rfl ?_)
      intro _u; clear _u
      refine acnd_t (by simp) ?_
      repeat ((intro _u; clear _u); first | with_reducible first | refine cT ?_ | refine cF ?_ | refine cA ?_ | refine cB ?_ | refine aLn ?_ | refine cK ?_ | refine aS8 ?_ | refine wI ?_ | refine nD ?_ | refine aX rfl ?_ | refine vL rfl ?_)
      intro _u; clear _u
      refine ICall.pure h.n166.o166.hb (works39_c h.n166) rfl ?_
      repeat ((intro _u; clear _u); first | with_reducible first | refine cT ?_ | refine cF ?_ | refine cA ?_ | refine cB ?_ | refine aLn ?_ | refine cK ?_ | refine aS8 ?_ | refine wI ?_ | refine nD ?_ | refine aX rfl ?_ | refine vL rfl ?_)
      intro _u; clear _u
      exact rT
end Go.UM

/- The statements of chapter 39, part 4: PackDeltas. -/


namespace Go.UM
open Go.AM
set_option maxRecDepth 4000


theorem rexp_n {R : Env} (h : N183 R) (a w d : Int) (nm : List UInt8) (hw : 1 ≤ w ∧ w ≤ 64) (hd : 1 ≤ d ∧ d ≤ 4) : R.Pc 183 [.agg [.int .i64 w, .int .i64 a, .int .i64 d, .str nm, .nils], .nils, .int .i64 0] (.int .i64 0) :=
  h.o183.enter 100 rfl fun X bb hfit hp => by
    repeat ((intro _u; clear _u); first | with_reducible first | refine cT ?_ | refine cF ?_ | refine cA ?_ | refine cB ?_ | refine aLn ?_ | refine cK ?_ | refine aS8 ?_ | refine wI ?_ | refine nD ?_ | refine aX rfl ?_ | refine vL rfl ?_)
    intro _u; clear _u
    rw [Int.zero_tdiv]
    refine wI ?_
    repeat ((intro _u; clear _u); first | with_reducible first | refine cT ?_ | refine cF ?_ | refine cA ?_ | refine cB ?_ | refine aLn ?_ | refine cK ?_ | refine aS8 ?_ | refine wI ?_ | refine nD ?_ | refine aX rfl ?_ | refine vL rfl ?_)
    intro _u; clear _u
    rw [Int.zero_tdiv]
    refine wI ?_
    repeat ((intro _u; clear _u); first | with_reducible first | refine cT ?_ | refine cF ?_ | refine cA ?_ | refine cB ?_ | refine aLn ?_ | refine cK ?_ | refine aS8 ?_ | refine wI ?_ | refine nD ?_ | refine aX rfl ?_ | refine vL rfl ?_)
    intro _u; clear _u
    rw [Int.zero_tdiv]
    refine wI ?_
    repeat ((intro _u; clear _u); first | with_reducible first | refine cT ?_ | refine cF ?_ | refine cA ?_ | refine cB ?_ | refine aLn ?_ | refine cK ?_ | refine aS8 ?_ | refine wI ?_ | refine nD ?_ | refine aX rfl ?_ | refine vL rfl ?_)
    rw [Int.zero_tmod, Int.zero_tmod]
    repeat ((intro _u; clear _u); first | with_reducible first | refine cT ?_ | refine cF ?_ | refine cA ?_ | refine cB ?_ | refine aLn ?_ | refine cK ?_ | refine aS8 ?_ | refine wI ?_ | refine nD ?_ | refine aX rfl ?_ | refine vL rfl ?_)
    intro _u; clear _u
    refine acnd_t (by decide) ?_
    repeat ((intro _u; clear _u); first | with_reducible first | refine cT ?_ | refine cF ?_ | refine cA ?_ | refine cB ?_ | refine aLn ?_ | refine cK ?_ | refine aS8 ?_ | refine wI ?_ | refine nD ?_ | refine aX rfl ?_ | refine vL rfl ?_)
    intro _u; clear _u
    refine acnd_t (by decide) ?_
    repeat ((intro _u; clear _u); first | with_reducible first | refine cT ?_ | refine cF ?_ | refine cA ?_ | refine cB ?_ | refine aLn ?_ | refine cK ?_ | refine aS8 ?_ | refine wI ?_ | refine nD ?_ | refine aX rfl ?_ | refine vL rfl ?_)
    intro _u; clear _u
    exact rT

theorem rwhole_c {R : Env} (h : N174 R) (p : Pl) (ds : List Int) (hs : p.name.length ≤ 1073741824) (hl : ds.length ≤ 1073741824) : R.Pc 174 [.agg p.row, .isl 1 (slcK .i64 ds)] (.tup [.agg (whole p ds).1.row, .int .i64 (whole p ds).2]) :=
  h.o174.enter 100 rfl fun X bb hfit hp => by
    generalize hq : whole p ds = q
    by_cases hb : dimBad p
    · rw [whole_d hb] at hq
      unfold dimBad at hb
      repeat ((intro _u; clear _u); first | with_reducible first | refine cT ?_ | refine cF ?_ | refine cA ?_ | refine cB ?_ | refine aLn ?_ | refine cK ?_ | refine aS8 ?_ | refine wI ?_ | refine nD ?_ | refine aX rfl ?_ | refine vL rfl ?_)
      intro _u; clear _u
      refine cS (fun h1 => ?_) (fun h1 => ?_)
      · subst hq
        repeat ((intro _u; clear _u); first | with_reducible first | refine cT ?_ | refine cF ?_ | refine cA ?_ | refine cB ?_ | refine aLn ?_ | refine cK ?_ | refine aS8 ?_ | refine wI ?_ | refine nD ?_ | refine aX rfl ?_ | refine vL rfl ?_)
        intro _u; clear _u
        exact rT
      · repeat ((intro _u; clear _u); first | with_reducible first | refine cT ?_ | refine cF ?_ | refine cA ?_ | refine cB ?_ | refine aLn ?_ | refine cK ?_ | refine aS8 ?_ | refine wI ?_ | refine nD ?_ | refine aX rfl ?_ | refine vL rfl ?_)
        intro _u; clear _u
        refine cS (fun h2 => ?_) (fun h2 => ?_)
        · subst hq
          repeat ((intro _u; clear _u); first | with_reducible first | refine cT ?_ | refine cF ?_ | refine cA ?_ | refine cB ?_ | refine aLn ?_ | refine cK ?_ | refine aS8 ?_ | refine wI ?_ | refine nD ?_ | refine aX rfl ?_ | refine vL rfl ?_)
          intro _u; clear _u
          exact rT
        · repeat ((intro _u; clear _u); first | with_reducible first | refine cT ?_ | refine cF ?_ | refine cA ?_ | refine cB ?_ | refine aLn ?_ | refine cK ?_ | refine aS8 ?_ | refine wI ?_ | refine nD ?_ | refine aX rfl ?_ | refine vL rfl ?_)
          intro _u; clear _u
          refine cS (fun h3 => ?_) (fun h3 => ?_)
          · subst hq
            repeat ((intro _u; clear _u); first | with_reducible first | refine cT ?_ | refine cF ?_ | refine cA ?_ | refine cB ?_ | refine aLn ?_ | refine cK ?_ | refine aS8 ?_ | refine wI ?_ | refine nD ?_ | refine aX rfl ?_ | refine vL rfl ?_)
            intro _u; clear _u
            exact rT
          · repeat ((intro _u; clear _u); first | with_reducible first | refine cT ?_ | refine cF ?_ | refine cA ?_ | refine cB ?_ | refine aLn ?_ | refine cK ?_ | refine aS8 ?_ | refine wI ?_ | refine nD ?_ | refine aX rfl ?_ | refine vL rfl ?_)
            intro _u; clear _u
            refine cS (fun h4 => ?_) (fun h4 => ?_)
            · subst hq
              repeat ((intro _u; clear _u); first | with_reducible first | refine cT ?_ | refine cF ?_ | refine cA ?_ | refine cB ?_ | refine aLn ?_ | refine cK ?_ | refine aS8 ?_ | refine wI ?_ | refine nD ?_ | refine aX rfl ?_ | refine vL rfl ?_)
              intro _u; clear _u
              exact rT
            · repeat ((intro _u; clear _u); first | with_reducible first | refine cT ?_ | refine cF ?_ | refine cA ?_ | refine cB ?_ | refine aLn ?_ | refine cK ?_ | refine aS8 ?_ | refine wI ?_ | refine nD ?_ | refine aX rfl ?_ | refine vL rfl ?_)
              intro _u; clear _u
              refine cS (fun h5 => ?_) (fun h5 => ?_)
              · subst hq
                repeat ((intro _u; clear _u); first | with_reducible first | refine cT ?_ | refine cF ?_ | refine cA ?_ | refine cB ?_ | refine aLn ?_ | refine cK ?_ | refine aS8 ?_ | refine wI ?_ | refine nD ?_ | refine aX rfl ?_ | refine vL rfl ?_)
                intro _u; clear _u
                exact rT
              · repeat ((intro _u; clear _u); first | with_reducible first | refine cT ?_ | refine cF ?_ | refine cA ?_ | refine cB ?_ | refine aLn ?_ | refine cK ?_ | refine aS8 ?_ | refine wI ?_ | refine nD ?_ | refine aX rfl ?_ | refine vL rfl ?_)
                intro _u; clear _u
                refine acnd_t (by (simp; omega)) ?_
                subst hq
                repeat ((intro _u; clear _u); first | with_reducible first | refine cT ?_ | refine cF ?_ | refine cA ?_ | refine cB ?_ | refine aLn ?_ | refine cK ?_ | refine aS8 ?_ | refine wI ?_ | refine nD ?_ | refine aX rfl ?_ | refine vL rfl ?_)
                intro _u; clear _u
                exact rT
    · have hb' := hb
      unfold dimBad at hb'
      repeat ((intro _u; clear _u); first | with_reducible first | refine cT ?_ | refine cF ?_ | refine cA ?_ | refine cB ?_ | refine aLn ?_ | refine cK ?_ | refine aS8 ?_ | refine wI ?_ | refine nD ?_ | refine aX rfl ?_ | refine vL rfl ?_)
      intro _u; clear _u
      refine acnd_f (by simp; omega) ?_
      repeat ((intro _u; clear _u); first | with_reducible first | refine cT ?_ | refine cF ?_ | refine cA ?_ | refine cB ?_ | refine aLn ?_ | refine cK ?_ | refine aS8 ?_ | refine wI ?_ | refine nD ?_ | refine aX rfl ?_ | refine vL rfl ?_)
      intro _u; clear _u
      refine acnd_f (by simp; omega) ?_
      repeat ((intro _u; clear _u); first | with_reducible first | refine cT ?_ | refine cF ?_ | refine cA ?_ | refine cB ?_ | refine aLn ?_ | refine cK ?_ | refine aS8 ?_ | refine wI ?_ | refine nD ?_ | refine aX rfl ?_ | refine vL rfl ?_)
      intro _u; clear _u
      refine acnd_f (by simp; omega) ?_
      repeat ((intro _u; clear _u); first | with_reducible first | refine cT ?_ | refine cF ?_ | refine cA ?_ | refine cB ?_ | refine aLn ?_ | refine cK ?_ | refine aS8 ?_ | refine wI ?_ | refine nD ?_ | refine aX rfl ?_ | refine vL rfl ?_)
      intro _u; clear _u
      refine acnd_f (by simp; omega) ?_
      repeat ((intro _u; clear _u); first | with_reducible first | refine cT ?_ | refine cF ?_ | refine cA ?_ | refine cB ?_ | refine aLn ?_ | refine cK ?_ | refine aS8 ?_ | refine wI ?_ | refine nD ?_ | refine aX rfl ?_ | refine vL rfl ?_)
      intro _u; clear _u
      refine acnd_f (by simp; omega) ?_
      repeat ((intro _u; clear _u); first | with_reducible first | refine cT ?_ | refine cF ?_ | refine cA ?_ | refine cB ?_ | refine aLn ?_ | refine cK ?_ | refine aS8 ?_ | refine wI ?_ | refine nD ?_ | refine aX rfl ?_ | refine vL rfl ?_)
      intro _u; clear _u
      refine acnd_f (by simp; omega) ?_
      have b1 : 1 ≤ p.w * p.h ∧ p.w * p.h ≤ 4096 := ⟨by have := Int.mul_le_mul (show 1 ≤ p.w by omega) (show 1 ≤ p.h by omega) (by omega) (by omega); omega, by have := Int.mul_le_mul (show p.w ≤ 64 by omega) (show p.h ≤ 64 by omega) (by omega) (by omega); omega⟩
      have b2 : 1 ≤ p.w * p.h * p.deep ∧ p.w * p.h * p.deep ≤ 16384 := ⟨by have := Int.mul_le_mul b1.1 (show 1 ≤ p.deep by omega) (by omega) (by omega); omega, by have := Int.mul_le_mul b1.2 (show p.deep ≤ 4 by omega) (by omega) (by omega); omega⟩
      have hw : 1 ≤ p.w ∧ p.w ≤ 64 := by omega
      have hd : 1 ≤ p.deep ∧ p.deep ≤ 4 := by omega
      repeat ((intro _u; clear _u); first | with_reducible first | refine cT ?_ | refine cF ?_ | refine cA ?_ | refine cB ?_ | refine aLn ?_ | refine cK ?_ | refine aS8 ?_ | refine wI ?_ | refine nD ?_ | refine aX rfl ?_ | refine vL rfl ?_)
      intro _u; clear _u
      refine cS (fun h2 => ?_) (fun h2 => ?_)
      · rw [whole_l h2] at hq
        subst hq
        repeat ((intro _u; clear _u); first | with_reducible first | refine cT ?_ | refine cF ?_ | refine cA ?_ | refine cB ?_ | refine aLn ?_ | refine cK ?_ | refine aS8 ?_ | refine wI ?_ | refine nD ?_ | refine aX rfl ?_ | refine vL rfl ?_)
        intro _u; clear _u
        exact rT
      · repeat ((intro _u; clear _u); first | with_reducible first | refine cT ?_ | refine cF ?_ | refine cA ?_ | refine cB ?_ | refine aLn ?_ | refine cK ?_ | refine aS8 ?_ | refine wI ?_ | refine nD ?_ | refine aX rfl ?_ | refine vL rfl ?_)
        intro _u; clear _u
        refine ILoop.one 100 ?_
        repeat ((intro _u; clear _u); first | with_reducible first | refine cT ?_ | refine cF ?_ | refine cA ?_ | refine cB ?_ | refine aLn ?_ | refine cK ?_ | refine aS8 ?_ | refine wI ?_ | refine nD ?_ | refine aX rfl ?_ | refine vL rfl ?_)
        intro _u; clear _u
        refine acnd_t (by simp; omega) ?_
        obtain ⟨x, hx⟩ : ∃ u_, ds[0]? = some u_ := ⟨_, List.getElem?_eq_getElem (by first | omega | (simp <;> omega))⟩
        repeat ((intro _u; clear _u); first | with_reducible first | refine cT ?_ | refine cF ?_ | refine cA ?_ | refine cB ?_ | refine aLn ?_ | refine cK ?_ | refine aS8 ?_ | refine wI ?_ | refine nD ?_ | refine aX rfl ?_ | refine vL rfl ?_)
        intro _u; clear _u
        refine eget_map hx ?_
        repeat ((intro _u; clear _u); first | with_reducible first | refine cT ?_ | refine cF ?_ | refine cA ?_ | refine cB ?_ | refine aLn ?_ | refine cK ?_ | refine aS8 ?_ | refine wI ?_ | refine nD ?_ | refine aX rfl ?_ | refine vL rfl ?_)
        intro _u; clear _u
        refine cS (fun h3 => ?_) (fun h3 => ?_)
        · rw [whole_b hx (by simp [bad16]; omega)] at hq
          subst hq
          repeat ((intro _u; clear _u); first | with_reducible first | refine cT ?_ | refine cF ?_ | refine cA ?_ | refine cB ?_ | refine aLn ?_ | refine cK ?_ | refine aS8 ?_ | refine wI ?_ | refine nD ?_ | refine aX rfl ?_ | refine vL rfl ?_)
          intro _u; clear _u
          exact rT
        · repeat ((intro _u; clear _u); first | with_reducible first | refine cT ?_ | refine cF ?_ | refine cA ?_ | refine cB ?_ | refine aLn ?_ | refine cK ?_ | refine aS8 ?_ | refine wI ?_ | refine nD ?_ | refine aX rfl ?_ | refine vL rfl ?_)
          intro _u; clear _u
          refine eget_map hx ?_
          repeat ((intro _u; clear _u); first | with_reducible first | refine cT ?_ | refine cF ?_ | refine cA ?_ | refine cB ?_ | refine aLn ?_ | refine cK ?_ | refine aS8 ?_ | refine wI ?_ | refine nD ?_ | refine aX rfl ?_ | refine vL rfl ?_)
          intro _u; clear _u
          refine cS (fun h4 => ?_) (fun h4 => ?_)
          · rw [whole_b hx (by simp [bad16]; omega)] at hq
            subst hq
            repeat ((intro _u; clear _u); first | with_reducible first | refine cT ?_ | refine cF ?_ | refine cA ?_ | refine cB ?_ | refine aLn ?_ | refine cK ?_ | refine aS8 ?_ | refine wI ?_ | refine nD ?_ | refine aX rfl ?_ | refine vL rfl ?_)
            intro _u; clear _u
            exact rT
          · have c1 := rexp_n h.n183 p.h p.w p.deep p.name hw hd
            have e0 : exv p [] (0 : Nat) = 0 := by
              unfold exv; repeat' split
              all_goals first | rfl | simp [atp]
            repeat ((intro _u; clear _u); first | with_reducible first | refine cT ?_ | refine cF ?_ | refine cA ?_ | refine cB ?_ | refine aLn ?_ | refine cK ?_ | refine aS8 ?_ | refine wI ?_ | refine nD ?_ | refine aX rfl ?_ | refine vL rfl ?_)
            intro _u; clear _u
            refine ICall.pure h.n183.o183.hb c1 rfl ?_
            repeat ((intro _u; clear _u); first | with_reducible first | refine cT ?_ | refine cF ?_ | refine cA ?_ | refine cB ?_ | refine aLn ?_ | refine cK ?_ | refine aS8 ?_ | refine wI ?_ | refine nD ?_ | refine aX rfl ?_ | refine vL rfl ?_)
            intro _u; clear _u
            refine eget_map hx ?_
            repeat ((intro _u; clear _u); first | with_reducible first | refine cT ?_ | refine cF ?_ | refine cA ?_ | refine cB ?_ | refine aLn ?_ | refine cK ?_ | refine aS8 ?_ | refine wI ?_ | refine nD ?_ | refine aX rfl ?_ | refine vL rfl ?_)
            intro _u; clear _u
            refine ICall.pure h.n184.o184.hb (modulo_c h.n184 (0 + x)) rfl ?_
            have w1 : wacc p (ds.take 1) = [(0 + x) % 65536] := by
              rw [wacc_succ (k := 0) hx]
              show [] ++ [(exv p [] (0 : Nat) + x) % 65536] = _
              rw [e0]; rfl
            repeat ((intro _u; clear _u); first | with_reducible first | refine cT ?_ | refine cF ?_ | refine cA ?_ | refine cB ?_ | refine aLn ?_ | refine cK ?_ | refine aS8 ?_ | refine wI ?_ | refine nD ?_ | refine aX rfl ?_ | refine vL rfl ?_)
            intro _u; clear _u
            refine ILoop.inv 100 (fun k : Nat => 1 ≤ k ∧ k ≤ ds.length ∧ (ds.take k).any bad16 = false) (fun k => ⟨[(1, .isl 1 (slcK .i64 ds)), (4, .loc 1 1 0 0), (6, .loc 2 1 0 0), (7, .int .i64 k)], [(4, .arr (R.ty 10) 1 (slcK .i64 (wacc p (ds.take k)))), (1, .var (R.ty 20) [.int .i64 0, .int .i64 0, .int .i64 0, .str [], .nils]), (2, .var (R.ty 20) [.int .i64 p.w, .int .i64 p.h, .int .i64 p.deep, .str p.name, .osl 4 (wacc p (ds.take k)).length])], 5⟩) (fun k => ds.length - k) (1) ?_ ⟨⟨_, hp, rfl⟩, ?_, ?_⟩ ?_
            · exact ⟨by omega, by omega, by rw [any_take_succ2 hx]; simp [bad16]; omega⟩
            · all_goals repeat' (first | exact True.intro | refine And.intro ?_ ?_ | (intro _u; clear _u) | (with_reducible first | refine eM ?_ ?_ | refine eF ?_ ?_ ?_ | refine eN ?_ | refine eL ?_ ?_ ?_ | refine eA ?_ ?_ | refine IWk.mk ⟨_, hp, rfl⟩ ?_ ?_) | refine IWk.mk ⟨_, hp, rfl⟩ ?_ ?_)
              all_goals first | with_reducible rfl | omega | exact Or.inl (by decide) | (simp; done) | rfl | skip
            · all_goals repeat' (first | exact True.intro | refine And.intro ?_ ?_ | (intro _u; clear _u) | (with_reducible first | refine eM ?_ ?_ | refine eF ?_ ?_ ?_ | refine eN ?_ | refine eL ?_ ?_ ?_ | refine eA ?_ ?_ | refine IWk.mk ⟨_, hp, rfl⟩ ?_ ?_) | refine IWk.mk ⟨_, hp, rfl⟩ ?_ ?_)
              all_goals first | with_reducible rfl | omega | exact Or.inl (by decide) | (simp; done) | rfl | skip
              all_goals (rw [w1]; rfl)
            · intro k hk
              dsimp only
              obtain ⟨hk1, hk2, hk3⟩ := hk
              have wl := wacc_len p (ds.take k)
              have wi := wacc_in p (ds.take k)
              rw [List.length_take, Nat.min_eq_left hk2] at wl
              repeat ((intro _u; clear _u); first | with_reducible first | refine cT ?_ | refine cF ?_ | refine cA ?_ | refine cB ?_ | refine aLn ?_ | refine cK ?_ | refine aS8 ?_ | refine wI ?_ | refine nD ?_ | refine aX rfl ?_ | refine vL rfl ?_)
              intro _u; clear _u
              refine cS (fun h5 => ?_) (fun h5 => ?_)
              · obtain ⟨y, hy⟩ : ∃ u_, ds[k]? = some u_ := ⟨_, List.getElem?_eq_getElem (by first | omega | (simp <;> omega))⟩
                repeat ((intro _u; clear _u); first | with_reducible first | refine cT ?_ | refine cF ?_ | refine cA ?_ | refine cB ?_ | refine aLn ?_ | refine cK ?_ | refine aS8 ?_ | refine wI ?_ | refine nD ?_ | refine aX rfl ?_ | refine vL rfl ?_)
                intro _u; clear _u
                refine eget_map hy ?_
                have hws := wacc_succ (p := p) hy
                rw [wl] at hws
                generalize wacc p (ds.take k) = es at wl wi hws ⊢
                repeat ((intro _u; clear _u); first | with_reducible first | refine cT ?_ | refine cF ?_ | refine cA ?_ | refine cB ?_ | refine aLn ?_ | refine cK ?_ | refine aS8 ?_ | refine wI ?_ | refine nD ?_ | refine aX rfl ?_ | refine vL rfl ?_)
                intro _u; clear _u
                refine cS (fun h6 => ?_) (fun h6 => ?_)
                · rw [whole_b hy (by simp [bad16]; omega)] at hq
                  subst hq
                  repeat ((intro _u; clear _u); first | with_reducible first | refine cT ?_ | refine cF ?_ | refine cA ?_ | refine cB ?_ | refine aLn ?_ | refine cK ?_ | refine aS8 ?_ | refine wI ?_ | refine nD ?_ | refine aX rfl ?_ | refine vL rfl ?_)
                  intro _u; clear _u
                  exact rT
                · repeat ((intro _u; clear _u); first | with_reducible first | refine cT ?_ | refine cF ?_ | refine cA ?_ | refine cB ?_ | refine aLn ?_ | refine cK ?_ | refine aS8 ?_ | refine wI ?_ | refine nD ?_ | refine aX rfl ?_ | refine vL rfl ?_)
                  intro _u; clear _u
                  refine eget_map hy ?_
                  repeat ((intro _u; clear _u); first | with_reducible first | refine cT ?_ | refine cF ?_ | refine cA ?_ | refine cB ?_ | refine aLn ?_ | refine cK ?_ | refine aS8 ?_ | refine wI ?_ | refine nD ?_ | refine aX rfl ?_ | refine vL rfl ?_)
                  intro _u; clear _u
                  refine cS (fun h7 => ?_) (fun h7 => ?_)
                  · rw [whole_b hy (by simp [bad16]; omega)] at hq
                    subst hq
                    repeat ((intro _u; clear _u); first | with_reducible first | refine cT ?_ | refine cF ?_ | refine cA ?_ | refine cB ?_ | refine aLn ?_ | refine cK ?_ | refine aS8 ?_ | refine wI ?_ | refine nD ?_ | refine aX rfl ?_ | refine vL rfl ?_)
                    intro _u; clear _u
                    exact rT
                  · have c1 : R.Pc 183 [.agg (Pl.row ⟨p.w, p.h, p.deep, p.name, es⟩), .isl 1 (slcK .i64 es), .int .i64 k] (.int .i64 (exv p es k)) := rexp_c h.n183 ⟨p.w, p.h, p.deep, p.name, es⟩ hw hd es wi k (by omega) (by omega)
                    repeat ((intro _u; clear _u); first | with_reducible first | refine cT ?_ | refine cF ?_ | refine cA ?_ | refine cB ?_ | refine aLn ?_ | refine cK ?_ | refine aS8 ?_ | refine wI ?_ | refine nD ?_ | refine aX rfl ?_ | refine vL rfl ?_)
                    intro _u; clear _u
                    refine cM true [] (c1.mc h.n183.o183.hb) ?_
                    repeat ((intro _u; clear _u); first | refine eK ?_ | refine eP ?_)
                    have e3 := exv_in wi (p := p) (k : Int)
                    repeat ((intro _u; clear _u); first | with_reducible first | refine cT ?_ | refine cF ?_ | refine cA ?_ | refine cB ?_ | refine aLn ?_ | refine cK ?_ | refine aS8 ?_ | refine wI ?_ | refine nD ?_ | refine aX rfl ?_ | refine vL rfl ?_)
                    intro _u; clear _u
                    refine eget_map hy ?_
                    repeat ((intro _u; clear _u); first | with_reducible first | refine cT ?_ | refine cF ?_ | refine cA ?_ | refine cB ?_ | refine aLn ?_ | refine cK ?_ | refine aS8 ?_ | refine wI ?_ | refine nD ?_ | refine aX rfl ?_ | refine vL rfl ?_)
                    intro _u; clear _u
                    refine ICall.pure h.n184.o184.hb (modulo_c h.n184 (exv p es k + y)) rfl ?_
                    repeat ((intro _u; clear _u); first | with_reducible first | refine cT ?_ | refine cF ?_ | refine cA ?_ | refine cB ?_ | refine aLn ?_ | refine cK ?_ | refine aS8 ?_ | refine wI ?_ | refine nD ?_ | refine aX rfl ?_ | refine vL rfl ?_)
                    intro _u; clear _u
                    refine nX (k + 1) ?_ ?_ ⟨_, hp, rfl⟩ ?_ ?_
                    · exact ⟨by omega, by omega, by rw [any_take_succ2 hy, hk3]; simp [bad16]; omega⟩
                    · omega
                    · all_goals repeat' (first | exact True.intro | refine And.intro ?_ ?_ | (intro _u; clear _u) | (with_reducible first | refine eM ?_ ?_ | refine eF ?_ ?_ ?_ | refine eN ?_ | refine eL ?_ ?_ ?_ | refine eA ?_ ?_ | refine IWk.mk ⟨_, hp, rfl⟩ ?_ ?_) | refine IWk.mk ⟨_, hp, rfl⟩ ?_ ?_)
                      all_goals first | with_reducible rfl | omega | exact Or.inl (by decide) | (simp; done) | rfl | skip
                    · all_goals repeat' (first | exact True.intro | refine And.intro ?_ ?_ | (intro _u; clear _u) | (with_reducible first | refine eM ?_ ?_ | refine eF ?_ ?_ ?_ | refine eN ?_ | refine eL ?_ ?_ ?_ | refine eA ?_ ?_ | refine IWk.mk ⟨_, hp, rfl⟩ ?_ ?_) | refine IWk.mk ⟨_, hp, rfl⟩ ?_ ?_)
                      all_goals first | with_reducible rfl | omega | exact Or.inl (by decide) | (simp; done) | rfl | skip
                      all_goals (rw [hws]; simp [slcK])
              · have hkl : k = ds.length := by omega
                subst hkl
                rw [List.take_length] at wl wi hk3 ⊢
                rw [whole, if_neg (by rw [hk3]; simp; exact ⟨hb, by omega⟩)] at hq
                repeat ((intro _u; clear _u); first | with_reducible first | refine cT ?_ | refine cF ?_ | refine cA ?_ | refine cB ?_ | refine aLn ?_ | refine cK ?_ | refine aS8 ?_ | refine wI ?_ | refine nD ?_ | refine aX rfl ?_ | refine vL rfl ?_)
                intro _u; clear _u
                refine ICall.let [4] rfl hp rfl ?_
                repeat ((intro _u; clear _u); first | refine eZ ?_ | refine FrzC.drop ?_)
                repeat ((intro _u; clear _u); first | with_reducible first | refine cT ?_ | refine cF ?_ | refine cA ?_ | refine cB ?_ | refine aLn ?_ | refine cK ?_ | refine aS8 ?_ | refine wI ?_ | refine nD ?_ | refine aX rfl ?_ | refine vL rfl ?_)
                intro _u; clear _u
                refine ICall.pure h.n162.o162.hb (rpcheck_c h.n162 ⟨p.w, p.h, p.deep, p.name, wacc p ds⟩ hs) rfl ?_
                repeat ((intro _u; clear _u); first | with_reducible first | refine cT ?_ | refine cF ?_ | refine cA ?_ | refine cB ?_ | refine aLn ?_ | refine cK ?_ | refine aS8 ?_ | refine wI ?_ | refine nD ?_ | refine aX rfl ?_ | refine vL rfl ?_)
                intro _u; clear _u
                refine cS (fun h6 => ?_) (fun h6 => ?_)
                · rw [if_neg h6] at hq
                  subst hq
                  repeat ((intro _u; clear _u); first | with_reducible first | refine cT ?_ | refine cF ?_ | refine cA ?_ | refine cB ?_ | refine aLn ?_ | refine cK ?_ | refine aS8 ?_ | refine wI ?_ | refine nD ?_ | refine aX rfl ?_ | refine vL rfl ?_)
                  intro _u; clear _u
                  exact rT
                · rw [if_pos h6] at hq
                  subst hq
                  repeat ((intro _u; clear _u); first | with_reducible first | refine cT ?_ | refine cF ?_ | refine cA ?_ | refine cB ?_ | refine aLn ?_ | refine cK ?_ | refine aS8 ?_ | refine wI ?_ | refine nD ?_ | refine aX rfl ?_ | refine vL rfl ?_)
                  intro _u; clear _u
                  exact rT

theorem ints_c {R : Env} (h : N145 R) (l : List Int) (hl : l.length ≤ 1073741824) : R.Pc 145 [.isl 1 (slcK .i64 l), .isl 1 (slcK .i64 l)] (.bool true) :=
  h.o145.enter 100 rfl fun X bb hfit hp => by
    repeat ((intro _u; clear _u); first | with_reducible first | refine cT ?_ | refine cF ?_ | refine cA ?_ | refine cB ?_ | refine aLn ?_ | refine cK ?_ | refine aS8 ?_ | refine wI ?_ | refine nD ?_ | refine aX rfl ?_ | refine vL rfl ?_)
    intro _u; clear _u
    refine acnd_f (by simp) ?_
    repeat ((intro _u; clear _u); first | with_reducible first | refine cT ?_ | refine cF ?_ | refine cA ?_ | refine cB ?_ | refine aLn ?_ | refine cK ?_ | refine aS8 ?_ | refine wI ?_ | refine nD ?_ | refine aX rfl ?_ | refine vL rfl ?_)
    intro _u; clear _u
    refine lPa 100 (fun i : Nat => i ≤ l.length) (fun i => ⟨[(0, .isl 1 (slcK .i64 l)), (1, .isl 1 (slcK .i64 l)), (5, .int .i64 i)], [], 0⟩) (fun i => l.length - i) (0) ?_ ?_
    · exact Nat.zero_le _
    · intro i hi
      dsimp only
      repeat ((intro _u; clear _u); first | with_reducible first | refine cT ?_ | refine cF ?_ | refine cA ?_ | refine cB ?_ | refine aLn ?_ | refine cK ?_ | refine aS8 ?_ | refine wI ?_ | refine nD ?_ | refine aX rfl ?_ | refine vL rfl ?_)
      intro _u; clear _u
      refine cS (fun h1 => ?_) (fun h1 => ?_)
      · obtain ⟨x, hx⟩ : ∃ u_, l[i]? = some u_ := ⟨_, List.getElem?_eq_getElem (by first | omega | (simp <;> omega))⟩
        repeat ((intro _u; clear _u); first | with_reducible first | refine cT ?_ | refine cF ?_ | refine cA ?_ | refine cB ?_ | refine aLn ?_ | refine cK ?_ | refine aS8 ?_ | refine wI ?_ | refine nD ?_ | refine aX rfl ?_ | refine vL rfl ?_)
        intro _u; clear _u
        refine eget_map hx ?_
        repeat ((intro _u; clear _u); first | with_reducible first | refine cT ?_ | refine cF ?_ | refine cA ?_ | refine cB ?_ | refine aLn ?_ | refine cK ?_ | refine aS8 ?_ | refine wI ?_ | refine nD ?_ | refine aX rfl ?_ | refine vL rfl ?_)
        intro _u; clear _u
        refine eget_map hx ?_
        repeat ((intro _u; clear _u); first | with_reducible first | refine cT ?_ | refine cF ?_ | refine cA ?_ | refine cB ?_ | refine aLn ?_ | refine cK ?_ | refine aS8 ?_ | refine wI ?_ | refine nD ?_ | refine aX rfl ?_ | refine vL rfl ?_)
        intro _u; clear _u
        refine acnd_f (by simp) ?_
        repeat ((intro _u; clear _u); first | with_reducible first | refine cT ?_ | refine cF ?_ | refine cA ?_ | refine cB ?_ | refine aLn ?_ | refine cK ?_ | refine aS8 ?_ | refine wI ?_ | refine nD ?_ | refine aX rfl ?_ | refine vL rfl ?_)
        intro _u; clear _u
        refine nXa (i + 1) ?_ ?_
        · omega
        · omega
      · repeat ((intro _u; clear _u); first | with_reducible first | refine cT ?_ | refine cF ?_ | refine cA ?_ | refine cB ?_ | refine aLn ?_ | refine cK ?_ | refine aS8 ?_ | refine wI ?_ | refine nD ?_ | refine aX rfl ?_ | refine vL rfl ?_)
        intro _u; clear _u
        exact rT
theorem same30_c {R : Env} (h : N175 R) (p : Pl) (hl : p.data.length ≤ 1073741824) : R.Pc 175 [.agg p.row, .agg p.row] (.bool true) :=
  h.o175.enter 100 rfl fun X bb hfit hp => by
    repeat ((intro _u; clear _u); first | with_reducible first | refine cT ?_ | refine cF ?_ | refine cA ?_ | refine cB ?_ | refine aLn ?_ | refine cK ?_ | refine aS8 ?_ | refine wI ?_ | refine nD ?_ | refine aX rfl ?_ | refine vL rfl ?_)
    intro _u; clear _u
    refine acnd_t (by simp) ?_
    repeat ((intro _u; clear _u); first | with_reducible first | refine cT ?_ | refine cF ?_ | refine cA ?_ | refine cB ?_ | refine aLn ?_ | refine cK ?_ | refine aS8 ?_ | refine wI ?_ | refine nD ?_ | refine aX rfl ?_ | refine vL rfl ?_)
    intro _u; clear _u
    refine acnd_t (by simp) ?_
    repeat ((intro _u; clear _u); first | with_reducible first | refine cT ?_ | refine cF ?_ | refine cA ?_ | refine cB ?_ | refine aLn ?_ | refine cK ?_ | refine aS8 ?_ | refine wI ?_ | refine nD ?_ | refine aX rfl ?_ | refine vL rfl ?_)
    intro _u; clear _u
    refine acnd_t (by simp) ?_
    repeat ((intro _u; clear _u); first | with_reducible first | refine cT ?_ | refine cF ?_ | refine cA ?_ | refine cB ?_ | refine aLn ?_ | refine cK ?_ | refine aS8 ?_ | refine wI ?_ | refine nD ?_ | refine aX rfl ?_ | refine vL rfl ?_)
    intro _u; clear _u
    refine acnd_t (by simp) ?_
    repeat ((intro _u; clear _u); first | with_reducible first | refine cT ?_ | refine cF ?_ | refine cA ?_ | refine cB ?_ | refine aLn ?_ | refine cK ?_ | refine aS8 ?_ | refine wI ?_ | refine nD ?_ | refine aX rfl ?_ | refine vL rfl ?_)
    intro _u; clear _u
    refine ICall.pure h.n145.o145.hb (ints_c h.n145 p.data hl) rfl ?_
    repeat ((intro _u; clear _u); first | with_reducible first | refine cT ?_ | refine cF ?_ | refine cA ?_ | refine cB ?_ | refine aLn ?_ | refine cK ?_ | refine aS8 ?_ | refine wI ?_ | refine nD ?_ | refine aX rfl ?_ | refine vL rfl ?_)
    intro _u; clear _u
    exact rT

theorem rzig_c {R : Env} (h : N176 R) (n : Int) : R.Pc 176 [.int .i64 n] (.int .i64 (zig n)) :=
  h.o176.enter 60 rfl fun X bb hfit hp => by
    unfold zig
    repeat ((intro _u; clear _u); first | with_reducible first | refine cT ?_ | refine cF ?_ | refine cA ?_ | refine cB ?_ | refine aLn ?_ | refine cK ?_ | refine aS8 ?_ | refine wI ?_ | refine nD ?_ | refine aX rfl ?_ | refine vL rfl ?_)
    intro _u; clear _u
    refine cS (fun h1 => ?_) (fun h1 => ?_)
    · rw [if_neg (by omega)]
      repeat ((intro _u; clear _u); first | with_reducible first | refine cT ?_ | refine cF ?_ | refine cA ?_ | refine cB ?_ | refine aLn ?_ | refine cK ?_ | refine aS8 ?_ | refine wI ?_ | refine nD ?_ | refine aX rfl ?_ | refine vL rfl ?_)
      intro _u; clear _u
      refine iwr_any ?_
      repeat ((intro _u; clear _u); first | with_reducible first | refine cT ?_ | refine cF ?_ | refine cA ?_ | refine cB ?_ | refine aLn ?_ | refine cK ?_ | refine aS8 ?_ | refine wI ?_ | refine nD ?_ | refine aX rfl ?_ | refine vL rfl ?_)
      intro _u; clear _u
      refine rT ?_
      all_goals repeat' (first | exact True.intro | refine And.intro ?_ ?_ | (intro _u; clear _u) | (with_reducible first | refine eM ?_ ?_ | refine eF ?_ ?_ ?_ | refine eN ?_ | refine eL ?_ ?_ ?_ | refine eA ?_ ?_ | refine IWk.mk ⟨_, hp, rfl⟩ ?_ ?_) | refine IWk.mk ⟨_, hp, rfl⟩ ?_ ?_)
      all_goals first | with_reducible rfl | omega | exact Or.inl (by decide) | (simp; done) | rfl | skip
      rw [show n + n = 2 * n by omega]
    · rw [if_pos (by omega)]
      repeat ((intro _u; clear _u); first | with_reducible first | refine cT ?_ | refine cF ?_ | refine cA ?_ | refine cB ?_ | refine aLn ?_ | refine cK ?_ | refine aS8 ?_ | refine wI ?_ | refine nD ?_ | refine aX rfl ?_ | refine vL rfl ?_)
      intro _u; clear _u
      refine iwr_any ?_
      repeat ((intro _u; clear _u); first | with_reducible first | refine cT ?_ | refine cF ?_ | refine cA ?_ | refine cB ?_ | refine aLn ?_ | refine cK ?_ | refine aS8 ?_ | refine wI ?_ | refine nD ?_ | refine aX rfl ?_ | refine vL rfl ?_)
      intro _u; clear _u
      refine iwr_any ?_
      repeat ((intro _u; clear _u); first | with_reducible first | refine cT ?_ | refine cF ?_ | refine cA ?_ | refine cB ?_ | refine aLn ?_ | refine cK ?_ | refine aS8 ?_ | refine wI ?_ | refine nD ?_ | refine aX rfl ?_ | refine vL rfl ?_)
      intro _u; clear _u
      refine iwr_any ?_
      repeat ((intro _u; clear _u); first | with_reducible first | refine cT ?_ | refine cF ?_ | refine cA ?_ | refine cB ?_ | refine aLn ?_ | refine cK ?_ | refine aS8 ?_ | refine wI ?_ | refine nD ?_ | refine aX rfl ?_ | refine vL rfl ?_)
      intro _u; clear _u
      refine rT ?_
      all_goals repeat' (first | exact True.intro | refine And.intro ?_ ?_ | (intro _u; clear _u) | (with_reducible first | refine eM ?_ ?_ | refine eF ?_ ?_ ?_ | refine eN ?_ | refine eL ?_ ?_ ?_ | refine eA ?_ ?_ | refine IWk.mk ⟨_, hp, rfl⟩ ?_ ?_) | refine IWk.mk ⟨_, hp, rfl⟩ ?_ ?_)
      all_goals first | with_reducible rfl | omega | exact Or.inl (by decide) | (simp; done) | rfl | skip
      simp only [wr, IntKind.wrap, IntKind.bits, IntKind.signed]
      simp
      omega
theorem rzag_c {R : Env} (h : N177 R) (n : Int) (hn : inI .i64 n) : R.Pc 177 [.int .i64 n] (.int .i64 (zag n)) :=
  h.o177.enter 60 rfl fun X bb hfit hp => by
    simp only [inI] at hn
    unfold zag
    repeat ((intro _u; clear _u); first | with_reducible first | refine cT ?_ | refine cF ?_ | refine cA ?_ | refine cB ?_ | refine aLn ?_ | refine cK ?_ | refine aS8 ?_ | refine wI ?_ | refine nD ?_ | refine aX rfl ?_ | refine vL rfl ?_)
    intro _u; clear _u
    refine cS (fun h1 => ?_) (fun h1 => ?_)
    · rw [if_pos h1]
      repeat ((intro _u; clear _u); first | with_reducible first | refine cT ?_ | refine cF ?_ | refine cA ?_ | refine cB ?_ | refine aLn ?_ | refine cK ?_ | refine aS8 ?_ | refine wI ?_ | refine nD ?_ | refine aX rfl ?_ | refine vL rfl ?_)
      intro _u; clear _u
      exact rT
    · rw [if_neg (by omega)]
      have e1 : n.tmod 2 = n % 2 := Int.tmod_eq_emod_of_nonneg (by omega)
      have e2 : n.tdiv 2 = n / 2 := Int.tdiv_eq_ediv_of_nonneg (by omega)
      repeat ((intro _u; clear _u); first | with_reducible first | refine cT ?_ | refine cF ?_ | refine cA ?_ | refine cB ?_ | refine aLn ?_ | refine cK ?_ | refine aS8 ?_ | refine wI ?_ | refine nD ?_ | refine aX rfl ?_ | refine vL rfl ?_)
      rw [e1]
      repeat ((intro _u; clear _u); first | with_reducible first | refine cT ?_ | refine cF ?_ | refine cA ?_ | refine cB ?_ | refine aLn ?_ | refine cK ?_ | refine aS8 ?_ | refine wI ?_ | refine nD ?_ | refine aX rfl ?_ | refine vL rfl ?_)
      intro _u; clear _u
      refine cS (fun h2 => ?_) (fun h2 => ?_)
      · rw [if_neg (by omega)]
        repeat ((intro _u; clear _u); first | with_reducible first | refine cT ?_ | refine cF ?_ | refine cA ?_ | refine cB ?_ | refine aLn ?_ | refine cK ?_ | refine aS8 ?_ | refine wI ?_ | refine nD ?_ | refine aX rfl ?_ | refine vL rfl ?_)
        rw [e2]
        repeat ((intro _u; clear _u); first | with_reducible first | refine cT ?_ | refine cF ?_ | refine cA ?_ | refine cB ?_ | refine aLn ?_ | refine cK ?_ | refine aS8 ?_ | refine wI ?_ | refine nD ?_ | refine aX rfl ?_ | refine vL rfl ?_)
        intro _u; clear _u
        exact rT
      · rw [if_pos (by omega)]
        repeat ((intro _u; clear _u); first | with_reducible first | refine cT ?_ | refine cF ?_ | refine cA ?_ | refine cB ?_ | refine aLn ?_ | refine cK ?_ | refine aS8 ?_ | refine wI ?_ | refine nD ?_ | refine aX rfl ?_ | refine vL rfl ?_)
        rw [e2]
        repeat ((intro _u; clear _u); first | with_reducible first | refine cT ?_ | refine cF ?_ | refine cA ?_ | refine cB ?_ | refine aLn ?_ | refine cK ?_ | refine aS8 ?_ | refine wI ?_ | refine nD ?_ | refine aX rfl ?_ | refine vL rfl ?_)
        intro _u; clear _u
        exact rT

def Pl.few (p : Pl) : Pl := ⟨p.w, p.h, p.deep, p.name.take 20, p.data.take 150⟩
theorem few39_c {R : Env} (h : N171 R) (p : Pl) : R.Pc 171 [.agg p.row] (.agg p.few.row) :=
  h.o171.enter 100 rfl fun X bb hfit hp => by
    repeat ((intro _u; clear _u); first | with_reducible first | refine cT ?_ | refine cF ?_ | refine cA ?_ | refine cB ?_ | refine aLn ?_ | refine cK ?_ | refine aS8 ?_ | refine wI ?_ | refine nD ?_ | refine aX rfl ?_ | refine vL rfl ?_)
    intro _u; clear _u
    refine asub_eq (by exact capK .i64 _ _) ?_
    repeat ((intro _u; clear _u); first | with_reducible first | refine cT ?_ | refine cF ?_ | refine cA ?_ | refine cB ?_ | refine aLn ?_ | refine cK ?_ | refine aS8 ?_ | refine wI ?_ | refine nD ?_ | refine aX rfl ?_ | refine vL rfl ?_)
    intro _u; clear _u
    refine asub_eq (by exact take_cap _ _) ?_
    repeat ((intro _u; clear _u); first | with_reducible first | refine cT ?_ | refine cF ?_ | refine cA ?_ | refine cB ?_ | refine aLn ?_ | refine cK ?_ | refine aS8 ?_ | refine wI ?_ | refine nD ?_ | refine aX rfl ?_ | refine vL rfl ?_)
    intro _u; clear _u
    exact rT

theorem pdeltas_law {R : Env} (h : N170 R) (p : Pl) (ds : List Int) (n : Int) (hn : inI .i64 n) : R.Pc 170 [.agg p.row, .isl 1 (slcK .i64 ds), .int .i64 n] (.bool true) :=
  h.o170.enter 100 rfl fun X bb hfit hp => by
    repeat ((intro _u; clear _u); first | with_reducible first | refine cT ?_ | refine cF ?_ | refine cA ?_ | refine cB ?_ | refine aLn ?_ | refine cK ?_ | refine aS8 ?_ | refine wI ?_ | refine nD ?_ | refine aX rfl ?_ | refine vL rfl ?_)
    intro _u; clear _u
    refine ICall.pure h.n171.o171.hb (few39_c h.n171 p) rfl ?_
    have hs : p.few.name.length ≤ 1073741824 := by simp [Pl.few]; omega
    have hd : p.few.data.length ≤ 150 := by simp [Pl.few]; omega
    generalize p.few = p at hs hd ⊢
    repeat ((intro _u; clear _u); first | with_reducible first | refine cT ?_ | refine cF ?_ | refine cA ?_ | refine cB ?_ | refine aLn ?_ | refine cK ?_ | refine aS8 ?_ | refine wI ?_ | refine nD ?_ | refine aX rfl ?_ | refine vL rfl ?_)
    intro _u; clear _u
    refine asub_eq (by exact capK .i64 _ _) ?_
    have hl : (ds.take (Int.toNat 150)).length ≤ 150 := by simp; omega
    generalize ds.take (Int.toNat 150) = ds at hl ⊢
    repeat ((intro _u; clear _u); first | with_reducible first | refine cT ?_ | refine cF ?_ | refine cA ?_ | refine cB ?_ | refine aLn ?_ | refine cK ?_ | refine aS8 ?_ | refine wI ?_ | refine nD ?_ | refine aX rfl ?_ | refine vL rfl ?_)
    intro _u; clear _u
    refine ICall.pure h.n165.o165.hb (deltas_c h.n165 p hs) rfl ?_
    repeat ((intro _u; clear _u); first | with_reducible first | refine cT ?_ | refine cF ?_ | refine cA ?_ | refine cB ?_ | refine aLn ?_ | refine cK ?_ | refine aS8 ?_ | refine wI ?_ | refine nD ?_ | refine aX rfl ?_ | refine vL rfl ?_)
    intro _u; clear _u
    refine ICall.pure h.n172.o172.hb (rdeltas_c h.n172 p hs) rfl ?_
    repeat ((intro _u; clear _u); first | with_reducible first | refine cT ?_ | refine cF ?_ | refine cA ?_ | refine cB ?_ | refine aLn ?_ | refine cK ?_ | refine aS8 ?_ | refine wI ?_ | refine nD ?_ | refine aX rfl ?_ | refine vL rfl ?_)
    intro _u; clear _u
    refine ICall.pure h.n173.o173.hb (whole_c h.n173 p ds hs (by omega)) rfl ?_
    repeat ((intro _u; clear _u); first | with_reducible first | refine cT ?_ | refine cF ?_ | refine cA ?_ | refine cB ?_ | refine aLn ?_ | refine cK ?_ | refine aS8 ?_ | refine wI ?_ | refine nD ?_ | refine aX rfl ?_ | refine vL rfl ?_)
    intro _u; clear _u
    refine ICall.pure h.n174.o174.hb (rwhole_c h.n174 p ds hs (by omega)) rfl ?_
    have hdl : (deltas p).1.length ≤ 1073741824 := by unfold deltas; split <;> simp; omega
    have hwl : (whole p ds).1.data.length ≤ 1073741824 := by
      unfold whole
      split
      · simp [zPl]
      · split
        · show (wacc p ds).length ≤ _
          rw [wacc_len]; omega
        · simp [zPl]
    repeat ((intro _u; clear _u); first | with_reducible first | refine cT ?_ | refine cF ?_ | refine cA ?_ | refine cB ?_ | refine aLn ?_ | refine cK ?_ | refine aS8 ?_ | refine wI ?_ | refine nD ?_ | refine aX rfl ?_ | refine vL rfl ?_)
    intro _u; clear _u
    refine ICall.pure h.n145.o145.hb (ints_c h.n145 (deltas p).1 hdl) rfl ?_
    repeat ((intro _u; clear _u); first | with_reducible first | refine cT ?_ | refine cF ?_ | refine cA ?_ | refine cB ?_ | refine aLn ?_ | refine cK ?_ | refine aS8 ?_ | refine wI ?_ | refine nD ?_ | refine aX rfl ?_ | refine vL rfl ?_)
    intro _u; clear _u
    refine acnd_t (by simp) ?_
    repeat ((intro _u; clear _u); first | with_reducible first | refine cT ?_ | refine cF ?_ | refine cA ?_ | refine cB ?_ | refine aLn ?_ | refine cK ?_ | refine aS8 ?_ | refine wI ?_ | refine nD ?_ | refine aX rfl ?_ | refine vL rfl ?_)
    intro _u; clear _u
    refine ICall.pure h.n175.o175.hb (same30_c h.n175 (whole p ds).1 hwl) rfl ?_
    repeat ((intro _u; clear _u); first | with_reducible first | refine cT ?_ | refine cF ?_ | refine cA ?_ | refine cB ?_ | refine aLn ?_ | refine cK ?_ | refine aS8 ?_ | refine wI ?_ | refine nD ?_ | refine aX rfl ?_ | refine vL rfl ?_)
    intro _u; clear _u
    refine acnd_t (by simp) ?_
    repeat ((intro _u; clear _u); first | with_reducible first | refine cT ?_ | refine cF ?_ | refine cA ?_ | refine cB ?_ | refine aLn ?_ | refine cK ?_ | refine aS8 ?_ | refine wI ?_ | refine nD ?_ | refine aX rfl ?_ | refine vL rfl ?_)
    intro _u; clear _u
    refine ICall.pure h.n168.o168.hb (zig_c h.n168 n) rfl ?_
    repeat ((intro _u; clear _u); first | with_reducible first | refine cT ?_ | refine cF ?_ | refine cA ?_ | refine cB ?_ | refine aLn ?_ | refine cK ?_ | refine aS8 ?_ | refine wI ?_ | refine nD ?_ | refine aX rfl ?_ | refine vL rfl ?_)
    intro _u; clear _u
    refine ICall.pure h.n176.o176.hb (rzig_c h.n176 n) rfl ?_
    repeat ((intro _u; clear _u); first | with_reducible first | refine cT ?_ | refine cF ?_ | refine cA ?_ | refine cB ?_ | refine aLn ?_ | refine cK ?_ | refine aS8 ?_ | refine wI ?_ | refine nD ?_ | refine aX rfl ?_ | refine vL rfl ?_)
    intro _u; clear _u
    refine acnd_t (by simp) ?_
    repeat ((intro _u; clear _u); first | with_reducible first | refine cT ?_ | refine cF ?_ | refine cA ?_ | refine cB ?_ | refine aLn ?_ | refine cK ?_ | refine aS8 ?_ | refine wI ?_ | refine nD ?_ | refine aX rfl ?_ | refine vL rfl ?_)
    intro _u; clear _u
    refine ICall.pure h.n169.o169.hb (zag_c h.n169 n hn) rfl ?_
    repeat ((intro _u; clear _u); first | with_reducible first | refine cT ?_ | refine cF ?_ | refine cA ?_ | refine cB ?_ | refine aLn ?_ | refine cK ?_ | refine aS8 ?_ | refine wI ?_ | refine nD ?_ | refine aX rfl ?_ | refine vL rfl ?_)
    intro _u; clear _u
    refine ICall.pure h.n177.o177.hb (rzag_c h.n177 n hn) rfl ?_
    repeat ((intro _u; clear _u); first | with_reducible first | refine cT ?_ | refine cF ?_ | refine cA ?_ | refine cB ?_ | refine aLn ?_ | refine cK ?_ | refine aS8 ?_ | refine wI ?_ | refine nD ?_ | refine aX rfl ?_ | refine vL rfl ?_)
    intro _u; clear _u
    refine acnd_t (by simp) ?_
    repeat ((intro _u; clear _u); first | with_reducible first | refine cT ?_ | refine cF ?_ | refine cA ?_ | refine cB ?_ | refine aLn ?_ | refine cK ?_ | refine aS8 ?_ | refine wI ?_ | refine nD ?_ | refine aX rfl ?_ | refine vL rfl ?_)
    intro _u; clear _u
    refine ICall.pure h.n166.o166.hb (works39_c h.n166) rfl ?_
    repeat ((intro _u; clear _u); first | with_reducible first | refine cT ?_ | refine cF ?_ | refine cA ?_ | refine cB ?_ | refine aLn ?_ | refine cK ?_ | refine aS8 ?_ | refine wI ?_ | refine nD ?_ | refine aX rfl ?_ | refine vL rfl ?_)
    intro _u; clear _u
    exact rT
end Go.UM
