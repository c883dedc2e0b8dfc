/- Of the reckoning machine, and what is proved with it: texts joined by program. -/
import Derived.Test.YtalgmieplcamcaaU0
import Derived.Test.YtalgmieplcamcaaK2
set_option linter.all false

/- The document's codec (umbraref11): what each function hands back. -/


namespace Go.UM
open Go.AM
set_option maxRecDepth 4000

theorem pow_le8 {w : Int} (h : w ≤ 8) : (256 : Int) ^ w.toNat ≤ 18446744073709551616 := by
  have : (256 : Nat) ^ w.toNat ≤ 256 ^ 8 := Nat.pow_le_pow_right (by decide) (by omega)
  have h2 : ((256 : Int) ^ w.toNat) = ((256 ^ w.toNat : Nat) : Int) := by rw [Int.natCast_pow]; rfl
  omega
theorem pow_ge1 (n : Nat) : (1 : Int) ≤ 256 ^ n := Int.pow_pos (by decide)

theorem most_c {R : Env} (h : N63 R) (w : Int) (hw : w ≤ 8) : R.Pc 63 [.int .i64 w] (.int .u64 (256 ^ w.toNat - 1)) :=
  h.o63.enter 100 rfl fun X bb hfit hp => by
    repeat ((intro _u; clear _u); first | with_reducible first | refine cT ?_ | refine cF ?_ | refine cA ?_ | refine cB ?_ | refine aLn ?_ | refine cK ?_ | refine aS8 ?_ | refine wI ?_ | refine nD ?_ | refine aX rfl ?_ | refine vL rfl ?_)
    intro _u; clear _u
    refine lPa 100 (fun i : Nat => i ≤ w.toNat) (fun i => ⟨[(0, .int .i64 w), (3, .int .u64 (256 ^ i - 1)), (4, .int .i64 i)], [], 0⟩) (fun i => w.toNat - i) (0) ?_ ?_
    · exact Nat.zero_le _
    · intro i hi
      dsimp only
      repeat ((intro _u; clear _u); first | with_reducible first | refine cT ?_ | refine cF ?_ | refine cA ?_ | refine cB ?_ | refine aLn ?_ | refine cK ?_ | refine aS8 ?_ | refine wI ?_ | refine nD ?_ | refine aX rfl ?_ | refine vL rfl ?_)
      intro _u; clear _u
      refine cS (fun h1 => ?_) (fun h1 => ?_)
      · have hp8 : (256 : Int) ^ (i + 1) ≤ 18446744073709551616 := by
          have := pow_le8 (w := (i + 1 : Nat)) (by omega)
          simpa using this
        rw [Int.pow_succ] at hp8
        have hp1 := pow_ge1 i
        repeat ((intro _u; clear _u); first | with_reducible first | refine cT ?_ | refine cF ?_ | refine cA ?_ | refine cB ?_ | refine aLn ?_ | refine cK ?_ | refine aS8 ?_ | refine wI ?_ | refine nD ?_ | refine aX rfl ?_ | refine vL rfl ?_)
        intro _u; clear _u
        refine nXa (i + 1) ?_ ?_
        · omega
        · omega
      · repeat ((intro _u; clear _u); first | with_reducible first | refine cT ?_ | refine cF ?_ | refine cA ?_ | refine cB ?_ | refine aLn ?_ | refine cK ?_ | refine aS8 ?_ | refine wI ?_ | refine nD ?_ | refine aX rfl ?_ | refine vL rfl ?_)
        intro _u; clear _u
        refine rT ?_
        all_goals repeat' (first | exact True.intro | refine And.intro ?_ ?_ | (intro _u; clear _u) | (with_reducible first | refine eM ?_ ?_ | refine eF ?_ ?_ ?_ | refine eN ?_ | refine eL ?_ ?_ ?_ | refine eA ?_ ?_ | refine IWk.mk ⟨_, hp, rfl⟩ ?_ ?_) | refine IWk.mk ⟨_, hp, rfl⟩ ?_ ?_)
        all_goals first | with_reducible rfl | omega | exact Or.inl (by decide) | (simp; done) | rfl | skip
        rw [show i = w.toNat by omega]


theorem rput_c {R : Env} (h : N55 R) (b : List UInt8) (w : Int) (n : List Int) (hl : b.length + 8 * n.length ≤ 1073741824) (hn : ∀ x ∈ n, 0 ≤ x ∧ x ≤ 18446744073709551615) :
    R.Mc 55 [.isl 1 (slc8 b), .int .i64 w, .isl 1 (slcK .u64 n)] [] (.tup [.osl 0 (puts b w n).1.length, .int .i64 (puts b w n).2]) [(0, .arr (R.ty 4) 1 (slc8 (puts b w n).1))] 1 :=
  h.o55.enterM 100 0 rfl rfl rfl fun X bb hfit hp => by
    generalize hq : puts b w n = q
    repeat ((intro _u; clear _u); first | with_reducible first | refine cT ?_ | refine cF ?_ | refine cA ?_ | refine cB ?_ | refine aLn ?_ | refine cK ?_ | refine aS8 ?_ | refine wI ?_ | refine nD ?_ | refine aX rfl ?_ | refine vL rfl ?_)
    intro _u; clear _u
    refine cS (fun h1 => ?_) (fun h1 => ?_)
    · rw [puts, if_pos (.inl h1)] at hq
      subst hq
      repeat ((intro _u; clear _u); first | with_reducible first | refine cT ?_ | refine cF ?_ | refine cA ?_ | refine cB ?_ | refine aLn ?_ | refine cK ?_ | refine aS8 ?_ | refine wI ?_ | refine nD ?_ | refine aX rfl ?_ | refine vL rfl ?_)
      intro _u; clear _u
      exact rM [50]
    · repeat ((intro _u; clear _u); first | with_reducible first | refine cT ?_ | refine cF ?_ | refine cA ?_ | refine cB ?_ | refine aLn ?_ | refine cK ?_ | refine aS8 ?_ | refine wI ?_ | refine nD ?_ | refine aX rfl ?_ | refine vL rfl ?_)
      intro _u; clear _u
      refine cS (fun h2 => ?_) (fun h2 => ?_)
      · rw [puts, if_pos (.inr h2)] at hq
        subst hq
        repeat ((intro _u; clear _u); first | with_reducible first | refine cT ?_ | refine cF ?_ | refine cA ?_ | refine cB ?_ | refine aLn ?_ | refine cK ?_ | refine aS8 ?_ | refine wI ?_ | refine nD ?_ | refine aX rfl ?_ | refine vL rfl ?_)
        intro _u; clear _u
        exact rM [50]
      · repeat ((intro _u; clear _u); first | with_reducible first | refine cT ?_ | refine cF ?_ | refine cA ?_ | refine cB ?_ | refine aLn ?_ | refine cK ?_ | refine aS8 ?_ | refine wI ?_ | refine nD ?_ | refine aX rfl ?_ | refine vL rfl ?_)
        intro _u; clear _u
        refine lPa 100 (fun k : Nat => k ≤ n.length ∧ (n.take k).any (fun x => decide (256 ^ w.toNat ≤ x)) = false) (fun k => ⟨[(1, .int .i64 w), (2, .isl 1 (slcK .u64 n)), (8, .osl 0 (b ++ (n.take k).flatMap (enc w.toNat)).length), (9, .int .i64 k)], [(0, .arr (R.ty 4) 1 (slc8 (b ++ (n.take k).flatMap (enc w.toNat))))], 1⟩) (fun k => n.length - k) (0) ?_ ?_
        · exact ⟨Nat.zero_le _, by simp⟩
        · intro k hk
          dsimp only
          repeat ((intro _u; clear _u); first | with_reducible first | refine cT ?_ | refine cF ?_ | refine cA ?_ | refine cB ?_ | refine aLn ?_ | refine cK ?_ | refine aS8 ?_ | refine wI ?_ | refine nD ?_ | refine aX rfl ?_ | refine vL rfl ?_)
          intro _u; clear _u
          refine cS (fun h3 => ?_) (fun h3 => ?_)
          · obtain ⟨x, hx⟩ : ∃ u_, n[k]? = some u_ := ⟨_, List.getElem?_eq_getElem (by first | omega | (simp <;> omega))⟩
            repeat ((intro _u; clear _u); first | with_reducible first | refine cT ?_ | refine cF ?_ | refine cA ?_ | refine cB ?_ | refine aLn ?_ | refine cK ?_ | refine aS8 ?_ | refine wI ?_ | refine nD ?_ | refine aX rfl ?_ | refine vL rfl ?_)
            intro _u; clear _u
            refine eget_map hx ?_
            have hxk := hx
            have hx := hn x (List.mem_of_getElem? hxk)
            repeat ((intro _u; clear _u); first | with_reducible first | refine cT ?_ | refine cF ?_ | refine cA ?_ | refine cB ?_ | refine aLn ?_ | refine cK ?_ | refine aS8 ?_ | refine wI ?_ | refine nD ?_ | refine aX rfl ?_ | refine vL rfl ?_)
            intro _u; clear _u
            refine ICall.pure h.n63.o63.hb (most_c h.n63 w h2) rfl ?_
            repeat ((intro _u; clear _u); first | with_reducible first | refine cT ?_ | refine cF ?_ | refine cA ?_ | refine cB ?_ | refine aLn ?_ | refine cK ?_ | refine aS8 ?_ | refine wI ?_ | refine nD ?_ | refine aX rfl ?_ | refine vL rfl ?_)
            intro _u; clear _u
            refine cS (fun h5 => ?_) (fun h5 => ?_)
            · rw [puts_bad (by omega) (by omega) (List.mem_of_getElem? hxk) (by omega)] at hq
              subst hq
              repeat ((intro _u; clear _u); first | with_reducible first | refine cT ?_ | refine cF ?_ | refine cA ?_ | refine cB ?_ | refine aLn ?_ | refine cK ?_ | refine aS8 ?_ | refine wI ?_ | refine nD ?_ | refine aX rfl ?_ | refine vL rfl ?_)
              intro _u; clear _u
              exact rM [50]
            · have hnb : ¬ 256 ^ w.toNat ≤ x := by omega
              repeat ((intro _u; clear _u); first | with_reducible first | refine cT ?_ | refine cF ?_ | refine cA ?_ | refine cB ?_ | refine aLn ?_ | refine cK ?_ | refine aS8 ?_ | refine wI ?_ | refine nD ?_ | refine aX rfl ?_ | refine vL rfl ?_)
              intro _u; clear _u
              refine eget_map hxk ?_
              repeat ((intro _u; clear _u); first | with_reducible first | refine cT ?_ | refine cF ?_ | refine cA ?_ | refine cB ?_ | refine aLn ?_ | refine cK ?_ | refine aS8 ?_ | refine wI ?_ | refine nD ?_ | refine aX rfl ?_ | refine vL rfl ?_)
              intro _u; clear _u
              refine lPa 100 (fun i : Nat => (i : Int) ≤ w) (fun i => ⟨[(1, .int .i64 w), (2, .isl 1 (slcK .u64 n)), (8, .osl 0 (b ++ (n.take k).flatMap (enc w.toNat) ++ enc i x).length), (9, .int .i64 k), (10, .int .u64 (x / 256 ^ i)), (11, .int .i64 i)], [(0, .arr (R.ty 4) 1 (slc8 (b ++ (n.take k).flatMap (enc w.toNat) ++ enc i x)))], 1⟩) (fun i => w.toNat - i) (0) ?_ ?_
              · show (0 : Int) ≤ w
                omega
              · intro i hi
                dsimp only
                repeat ((intro _u; clear _u); first | with_reducible first | refine cT ?_ | refine cF ?_ | refine cA ?_ | refine cB ?_ | refine aLn ?_ | refine cK ?_ | refine aS8 ?_ | refine wI ?_ | refine nD ?_ | refine aX rfl ?_ | refine vL rfl ?_)
                intro _u; clear _u
                refine cS (fun h6 => ?_) (fun h6 => ?_)
                · repeat ((intro _u; clear _u); first | with_reducible first | refine cT ?_ | refine cF ?_ | refine cA ?_ | refine cB ?_ | refine aLn ?_ | refine cK ?_ | refine aS8 ?_ | refine wI ?_ | refine nD ?_ | refine aX rfl ?_ | refine vL rfl ?_)
                  intro _u; clear _u
                  refine iwr_any ?_
                  repeat ((intro _u; clear _u); first | with_reducible first | refine cT ?_ | refine cF ?_ | refine cA ?_ | refine cB ?_ | refine aLn ?_ | refine cK ?_ | refine aS8 ?_ | refine wI ?_ | refine nD ?_ | refine aX rfl ?_ | refine vL rfl ?_)
                  intro _u; clear _u
                  refine ⟨by rw [slc8_length]; exact put_room hl h2 h1 h3 h6, ?_⟩
                  have hxi : 0 ≤ x / 256 ^ i := Int.ediv_nonneg hx.1 (by have := pow_ge1 i; omega)
                  have hxl : x / 256 ^ i ≤ x := Int.ediv_le_self _ hx.1
                  repeat ((intro _u; clear _u); first | with_reducible first | refine cT ?_ | refine cF ?_ | refine cA ?_ | refine cB ?_ | refine aLn ?_ | refine cK ?_ | refine aS8 ?_ | refine wI ?_ | refine nD ?_ | refine aX rfl ?_ | refine vL rfl ?_)
                  intro _u; clear _u
                  rw [Int.tdiv_eq_ediv_of_nonneg hxi]
                  refine iwr_in (by simp only [inI]; omega) ?_
                  repeat ((intro _u; clear _u); first | with_reducible first | refine cT ?_ | refine cF ?_ | refine cA ?_ | refine cB ?_ | refine aLn ?_ | refine cK ?_ | refine aS8 ?_ | refine wI ?_ | refine nD ?_ | refine aX rfl ?_ | refine vL rfl ?_)
                  intro _u; clear _u
                  refine nX (i + 1) ?_ ?_ ⟨_, hp, rfl⟩ ?_ ?_
                  · omega
                  · omega
                  · all_goals repeat' (first | exact True.intro | refine And.intro ?_ ?_ | (intro _u; clear _u) | (with_reducible first | refine eM ?_ ?_ | refine eF ?_ ?_ ?_ | refine eN ?_ | refine eL ?_ ?_ ?_ | refine eA ?_ ?_ | refine IWk.mk ⟨_, hp, rfl⟩ ?_ ?_) | refine IWk.mk ⟨_, hp, rfl⟩ ?_ ?_)
                    all_goals first | with_reducible rfl | omega | exact Or.inl (by decide) | (simp; done) | rfl | skip
                    rw [Int.pow_succ, Int.ediv_ediv_of_nonneg (by have := pow_ge1 i; omega)]
                  · all_goals repeat' (first | exact True.intro | refine And.intro ?_ ?_ | (intro _u; clear _u) | (with_reducible first | refine eM ?_ ?_ | refine eF ?_ ?_ ?_ | refine eN ?_ | refine eL ?_ ?_ ?_ | refine eA ?_ ?_ | refine IWk.mk ⟨_, hp, rfl⟩ ?_ ?_) | refine IWk.mk ⟨_, hp, rfl⟩ ?_ ?_)
                    all_goals first | with_reducible rfl | omega | exact Or.inl (by decide) | (simp; done) | rfl | skip
                    simp [enc_succ, u8_tmod hxi]
                · repeat ((intro _u; clear _u); first | with_reducible first | refine cT ?_ | refine cF ?_ | refine cA ?_ | refine cB ?_ | refine aLn ?_ | refine cK ?_ | refine aS8 ?_ | refine wI ?_ | refine nD ?_ | refine aX rfl ?_ | refine vL rfl ?_)
                  intro _u; clear _u
                  refine nX (k + 1) ?_ ?_ ⟨_, hp, rfl⟩ ?_ ?_
                  · refine ⟨by omega, ?_⟩
                    rw [any_take_succ hxk, hk.2, decide_eq_false hnb]; rfl
                  · omega
                  · all_goals repeat' (first | exact True.intro | refine And.intro ?_ ?_ | (intro _u; clear _u) | (with_reducible first | refine eM ?_ ?_ | refine eF ?_ ?_ ?_ | refine eN ?_ | refine eL ?_ ?_ ?_ | refine eA ?_ ?_ | refine IWk.mk ⟨_, hp, rfl⟩ ?_ ?_) | refine IWk.mk ⟨_, hp, rfl⟩ ?_ ?_)
                    all_goals first | with_reducible rfl | omega | exact Or.inl (by decide) | (simp; done) | rfl | skip
                    rw [take_succ_get hxk, show i = w.toNat by omega]; simp
                  · all_goals repeat' (first | exact True.intro | refine And.intro ?_ ?_ | (intro _u; clear _u) | (with_reducible first | refine eM ?_ ?_ | refine eF ?_ ?_ ?_ | refine eN ?_ | refine eL ?_ ?_ ?_ | refine eA ?_ ?_ | refine IWk.mk ⟨_, hp, rfl⟩ ?_ ?_) | refine IWk.mk ⟨_, hp, rfl⟩ ?_ ?_)
                    all_goals first | with_reducible rfl | omega | exact Or.inl (by decide) | (simp; done) | rfl | skip
                    rw [take_succ_get hxk, show i = w.toNat by omega]; simp
          · have hkn : n.take k = n := List.take_of_length_le (by omega)
            rw [hkn] at hk ⊢
            rw [puts_ok (by omega) (by omega) hk.2] at hq
            subst hq
            repeat ((intro _u; clear _u); first | with_reducible first | refine cT ?_ | refine cF ?_ | refine cA ?_ | refine cB ?_ | refine aLn ?_ | refine cK ?_ | refine aS8 ?_ | refine wI ?_ | refine nD ?_ | refine aX rfl ?_ | refine vL rfl ?_)
            intro _u; clear _u
            exact rM [0]
theorem half_eq {w : Int} (h1 : 1 ≤ w) (h2 : w ≤ 8) : (256 ^ w.toNat - 1 : Int) / 2 = 256 ^ w.toNat / 2 - 1 := by
  obtain h | h | h | h | h | h | h | h : w = 1 ∨ w = 2 ∨ w = 3 ∨ w = 4 ∨ w = 5 ∨ w = 6 ∨ w = 7 ∨ w = 8 := by omega
  all_goals (subst h; decide)
theorem half_le {w : Int} (h1 : 1 ≤ w) (h2 : w ≤ 8) : (256 ^ w.toNat : Int) / 2 ≤ 9223372036854775808 ∧ (128 : Int) ≤ 256 ^ w.toNat / 2 ∧ (256 ^ w.toNat : Int) = 2 * (256 ^ w.toNat / 2) := by
  obtain h | h | h | h | h | h | h | h : w = 1 ∨ w = 2 ∨ w = 3 ∨ w = 4 ∨ w = 5 ∨ w = 6 ∨ w = 7 ∨ w = 8 := by omega
  all_goals (subst h; decide)

theorem rsigned_c {R : Env} (h : N72 R) (b : List UInt8) (w : Int) (n : List Int) (hl : b.length + 8 * n.length ≤ 1073741824) (hn : ∀ x ∈ n, inI .i64 x) :
    R.Mc 72 [.isl 1 (slc8 b), .int .i64 w, .isl 1 (slcK .i64 n)] [] (.tup [.osl 0 (signs b w n).1.length, .int .i64 (signs b w n).2]) [(0, .arr (R.ty 4) 1 (slc8 (signs b w n).1))] 1 :=
  h.o72.enterM 100 0 rfl rfl rfl fun X bb hfit hp => by
    generalize hq : signs b w n = q
    repeat ((intro _u; clear _u); first | with_reducible first | refine cT ?_ | refine cF ?_ | refine cA ?_ | refine cB ?_ | refine aLn ?_ | refine cK ?_ | refine aS8 ?_ | refine wI ?_ | refine nD ?_ | refine aX rfl ?_ | refine vL rfl ?_)
    intro _u; clear _u
    refine cS (fun h1 => ?_) (fun h1 => ?_)
    · rw [signs, if_pos (.inl h1)] at hq
      subst hq
      repeat ((intro _u; clear _u); first | with_reducible first | refine cT ?_ | refine cF ?_ | refine cA ?_ | refine cB ?_ | refine aLn ?_ | refine cK ?_ | refine aS8 ?_ | refine wI ?_ | refine nD ?_ | refine aX rfl ?_ | refine vL rfl ?_)
      intro _u; clear _u
      exact rM [50]
    · repeat ((intro _u; clear _u); first | with_reducible first | refine cT ?_ | refine cF ?_ | refine cA ?_ | refine cB ?_ | refine aLn ?_ | refine cK ?_ | refine aS8 ?_ | refine wI ?_ | refine nD ?_ | refine aX rfl ?_ | refine vL rfl ?_)
      intro _u; clear _u
      refine cS (fun h2 => ?_) (fun h2 => ?_)
      · rw [signs, if_pos (.inr h2)] at hq
        subst hq
        repeat ((intro _u; clear _u); first | with_reducible first | refine cT ?_ | refine cF ?_ | refine cA ?_ | refine cB ?_ | refine aLn ?_ | refine cK ?_ | refine aS8 ?_ | refine wI ?_ | refine nD ?_ | refine aX rfl ?_ | refine vL rfl ?_)
        intro _u; clear _u
        exact rM [50]
      · repeat ((intro _u; clear _u); first | with_reducible first | refine cT ?_ | refine cF ?_ | refine cA ?_ | refine cB ?_ | refine aLn ?_ | refine cK ?_ | refine aS8 ?_ | refine wI ?_ | refine nD ?_ | refine aX rfl ?_ | refine vL rfl ?_)
        intro _u; clear _u
        refine ICall.pure h.n63.o63.hb (most_c h.n63 w h2) rfl ?_
        have hh := half_le h1 h2
        repeat ((intro _u; clear _u); first | with_reducible first | refine cT ?_ | refine cF ?_ | refine cA ?_ | refine cB ?_ | refine aLn ?_ | refine cK ?_ | refine aS8 ?_ | refine wI ?_ | refine nD ?_ | refine aX rfl ?_ | refine vL rfl ?_)
        intro _u; clear _u
        rw [Int.tdiv_eq_ediv_of_nonneg (by omega), half_eq h1 h2]
        refine iwr_in (by simp only [inI]; omega) ?_
        repeat ((intro _u; clear _u); first | with_reducible first | refine cT ?_ | refine cF ?_ | refine cA ?_ | refine cB ?_ | refine aLn ?_ | refine cK ?_ | refine aS8 ?_ | refine wI ?_ | refine nD ?_ | refine aX rfl ?_ | refine vL rfl ?_)
        intro _u; clear _u
        refine lPa 100 (fun k : Nat => k ≤ n.length ∧ (n.take k).any (fun x => decide (x < -(256 ^ w.toNat / 2)) || decide (256 ^ w.toNat / 2 ≤ x)) = false) (fun k => ⟨[(0, .isl 1 (slc8 b)), (1, .int .i64 w), (2, .isl 1 (slcK .i64 n)), (8, .int .i64 (256 ^ w.toNat / 2 - 1)), (9, .osl 0 ((n.take k).map fun x => x % 256 ^ w.toNat).length), (10, .int .i64 k)], [(0, .arr (R.ty 6) 1 (slcK .u64 ((n.take k).map fun x => x % 256 ^ w.toNat)))], 1⟩) (fun k => n.length - k) (0) ?_ ?_
        · exact ⟨Nat.zero_le _, by simp⟩
        · intro k hk
          dsimp only
          repeat ((intro _u; clear _u); first | with_reducible first | refine cT ?_ | refine cF ?_ | refine cA ?_ | refine cB ?_ | refine aLn ?_ | refine cK ?_ | refine aS8 ?_ | refine wI ?_ | refine nD ?_ | refine aX rfl ?_ | refine vL rfl ?_)
          intro _u; clear _u
          refine cS (fun h3 => ?_) (fun h3 => ?_)
          · obtain ⟨x, hx⟩ : ∃ u_, n[k]? = some u_ := ⟨_, List.getElem?_eq_getElem (by first | omega | (simp <;> omega))⟩
            repeat ((intro _u; clear _u); first | with_reducible first | refine cT ?_ | refine cF ?_ | refine cA ?_ | refine cB ?_ | refine aLn ?_ | refine cK ?_ | refine aS8 ?_ | refine wI ?_ | refine nD ?_ | refine aX rfl ?_ | refine vL rfl ?_)
            intro _u; clear _u
            refine eget_map hx ?_
            have hxk := hx
            have hx := hn x (List.mem_of_getElem? hxk)
            simp only [inI] at hx
            repeat ((intro _u; clear _u); first | with_reducible first | refine cT ?_ | refine cF ?_ | refine cA ?_ | refine cB ?_ | refine aLn ?_ | refine cK ?_ | refine aS8 ?_ | refine wI ?_ | refine nD ?_ | refine aX rfl ?_ | refine vL rfl ?_)
            intro _u; clear _u
            refine cS (fun h4 => ?_) (fun h4 => ?_)
            · rw [signs_bad (by omega) (by omega) (List.mem_of_getElem? hxk) (by omega)] at hq
              subst hq
              repeat ((intro _u; clear _u); first | with_reducible first | refine cT ?_ | refine cF ?_ | refine cA ?_ | refine cB ?_ | refine aLn ?_ | refine cK ?_ | refine aS8 ?_ | refine wI ?_ | refine nD ?_ | refine aX rfl ?_ | refine vL rfl ?_)
              intro _u; clear _u
              exact rM [50]
            · repeat ((intro _u; clear _u); first | with_reducible first | refine cT ?_ | refine cF ?_ | refine cA ?_ | refine cB ?_ | refine aLn ?_ | refine cK ?_ | refine aS8 ?_ | refine wI ?_ | refine nD ?_ | refine aX rfl ?_ | refine vL rfl ?_)
              intro _u; clear _u
              refine eget_map hxk ?_
              repeat ((intro _u; clear _u); first | with_reducible first | refine cT ?_ | refine cF ?_ | refine cA ?_ | refine cB ?_ | refine aLn ?_ | refine cK ?_ | refine aS8 ?_ | refine wI ?_ | refine nD ?_ | refine aX rfl ?_ | refine vL rfl ?_)
              intro _u; clear _u
              refine cS (fun h5 => ?_) (fun h5 => ?_)
              · rw [signs_bad (by omega) (by omega) (List.mem_of_getElem? hxk) (by omega)] at hq
                subst hq
                repeat ((intro _u; clear _u); first | with_reducible first | refine cT ?_ | refine cF ?_ | refine cA ?_ | refine cB ?_ | refine aLn ?_ | refine cK ?_ | refine aS8 ?_ | refine wI ?_ | refine nD ?_ | refine aX rfl ?_ | refine vL rfl ?_)
                intro _u; clear _u
                exact rM [50]
              · have hok : (n.take (k + 1)).any (fun x => decide (x < -(256 ^ w.toNat / 2)) || decide (256 ^ w.toNat / 2 ≤ x)) = false := by
                  rw [any_take_succ hxk, hk.2]
                  simp only [Bool.false_or, Bool.or_eq_false_iff, decide_eq_false_iff_not]
                  omega
                repeat ((intro _u; clear _u); first | with_reducible first | refine cT ?_ | refine cF ?_ | refine cA ?_ | refine cB ?_ | refine aLn ?_ | refine cK ?_ | refine aS8 ?_ | refine wI ?_ | refine nD ?_ | refine aX rfl ?_ | refine vL rfl ?_)
                intro _u; clear _u
                refine eget_map hxk ?_
                repeat ((intro _u; clear _u); first | with_reducible first | refine cT ?_ | refine cF ?_ | refine cA ?_ | refine cB ?_ | refine aLn ?_ | refine cK ?_ | refine aS8 ?_ | refine wI ?_ | refine nD ?_ | refine aX rfl ?_ | refine vL rfl ?_)
                intro _u; clear _u
                refine iwr_any ?_
                repeat ((intro _u; clear _u); first | with_reducible first | refine cT ?_ | refine cF ?_ | refine cA ?_ | refine cB ?_ | refine aLn ?_ | refine cK ?_ | refine aS8 ?_ | refine wI ?_ | refine nD ?_ | refine aX rfl ?_ | refine vL rfl ?_)
                intro _u; clear _u
                refine eget_map hxk ?_
                repeat ((intro _u; clear _u); first | with_reducible first | refine cT ?_ | refine cF ?_ | refine cA ?_ | refine cB ?_ | refine aLn ?_ | refine cK ?_ | refine aS8 ?_ | refine wI ?_ | refine nD ?_ | refine aX rfl ?_ | refine vL rfl ?_)
                intro _u; clear _u
                refine cS (fun h6 => ?_) (fun h6 => ?_)
                · repeat ((intro _u; clear _u); first | with_reducible first | refine cT ?_ | refine cF ?_ | refine cA ?_ | refine cB ?_ | refine aLn ?_ | refine cK ?_ | refine aS8 ?_ | refine wI ?_ | refine nD ?_ | refine aX rfl ?_ | refine vL rfl ?_)
                  intro _u; clear _u
                  refine ICall.pure h.n63.o63.hb (most_c h.n63 w h2) rfl ?_
                  repeat ((intro _u; clear _u); first | with_reducible first | refine cT ?_ | refine cF ?_ | refine cA ?_ | refine cB ?_ | refine aLn ?_ | refine cK ?_ | refine aS8 ?_ | refine wI ?_ | refine nD ?_ | refine aX rfl ?_ | refine vL rfl ?_)
                  intro _u; clear _u
                  refine eget_map hxk ?_
                  have hv : x % 256 ^ w.toNat = 256 ^ w.toNat - 1 - (0 - (x + 1)) := by
                    rw [← Int.add_emod_right, Int.emod_eq_of_lt (by omega) (by omega)]
                    omega
                  repeat ((intro _u; clear _u); first | with_reducible first | refine cT ?_ | refine cF ?_ | refine cA ?_ | refine cB ?_ | refine aLn ?_ | refine cK ?_ | refine aS8 ?_ | refine wI ?_ | refine nD ?_ | refine aX rfl ?_ | refine vL rfl ?_)
                  intro _u; clear _u
                  refine nX (k + 1) ?_ ?_ ⟨_, hp, rfl⟩ ?_ ?_
                  · exact ⟨by omega, hok⟩
                  · omega
                  · all_goals repeat' (first | exact True.intro | refine And.intro ?_ ?_ | (intro _u; clear _u) | (with_reducible first | refine eM ?_ ?_ | refine eF ?_ ?_ ?_ | refine eN ?_ | refine eL ?_ ?_ ?_ | refine eA ?_ ?_ | refine IWk.mk ⟨_, hp, rfl⟩ ?_ ?_) | refine IWk.mk ⟨_, hp, rfl⟩ ?_ ?_)
                    all_goals first | with_reducible rfl | omega | exact Or.inl (by decide) | (simp; done) | rfl | skip
                    rw [take_succ_get hxk]; simp
                  · all_goals repeat' (first | exact True.intro | refine And.intro ?_ ?_ | (intro _u; clear _u) | (with_reducible first | refine eM ?_ ?_ | refine eF ?_ ?_ ?_ | refine eN ?_ | refine eL ?_ ?_ ?_ | refine eA ?_ ?_ | refine IWk.mk ⟨_, hp, rfl⟩ ?_ ?_) | refine IWk.mk ⟨_, hp, rfl⟩ ?_ ?_)
                    all_goals first | with_reducible rfl | omega | exact Or.inl (by decide) | (simp; done) | rfl | skip
                    rw [take_succ_get hxk]; simp [slcK, hv]
                · have hv : x % 256 ^ w.toNat = wr .u64 x := by
                    rw [Int.emod_eq_of_lt (by omega) (by omega), wr_in (k := .u64) ⟨by omega, by omega⟩]
                  repeat ((intro _u; clear _u); first | with_reducible first | refine cT ?_ | refine cF ?_ | refine cA ?_ | refine cB ?_ | refine aLn ?_ | refine cK ?_ | refine aS8 ?_ | refine wI ?_ | refine nD ?_ | refine aX rfl ?_ | refine vL rfl ?_)
                  intro _u; clear _u
                  refine nX (k + 1) ?_ ?_ ⟨_, hp, rfl⟩ ?_ ?_
                  · exact ⟨by omega, hok⟩
                  · omega
                  · all_goals repeat' (first | exact True.intro | refine And.intro ?_ ?_ | (intro _u; clear _u) | (with_reducible first | refine eM ?_ ?_ | refine eF ?_ ?_ ?_ | refine eN ?_ | refine eL ?_ ?_ ?_ | refine eA ?_ ?_ | refine IWk.mk ⟨_, hp, rfl⟩ ?_ ?_) | refine IWk.mk ⟨_, hp, rfl⟩ ?_ ?_)
                    all_goals first | with_reducible rfl | omega | exact Or.inl (by decide) | (simp; done) | rfl | skip
                    rw [take_succ_get hxk]; simp
                  · all_goals repeat' (first | exact True.intro | refine And.intro ?_ ?_ | (intro _u; clear _u) | (with_reducible first | refine eM ?_ ?_ | refine eF ?_ ?_ ?_ | refine eN ?_ | refine eL ?_ ?_ ?_ | refine eA ?_ ?_ | refine IWk.mk ⟨_, hp, rfl⟩ ?_ ?_) | refine IWk.mk ⟨_, hp, rfl⟩ ?_ ?_)
                    all_goals first | with_reducible rfl | omega | exact Or.inl (by decide) | (simp; done) | rfl | skip
                    rw [take_succ_get hxk]; simp [slcK, hv]
          · have hkn : n.take k = n := List.take_of_length_le (by omega)
            rw [hkn] at hk ⊢
            rw [signs_ok (by omega) (by omega) hk.2] at hq
            subst hq
            repeat ((intro _u; clear _u); first | with_reducible first | refine cT ?_ | refine cF ?_ | refine cA ?_ | refine cB ?_ | refine aLn ?_ | refine cK ?_ | refine aS8 ?_ | refine wI ?_ | refine nD ?_ | refine aX rfl ?_ | refine vL rfl ?_)
            intro _u; clear _u
            refine cM true [] (rput_c h.n55 b w (n.map fun x => x % 256 ^ w.toNat) (by simpa using hl) (puts_mod (b := b) (by omega) h2)) ?_
            repeat ((intro _u; clear _u); first | refine eK ?_ | refine eP ?_)
            repeat ((intro _u; clear _u); first | with_reducible first | refine cT ?_ | refine cF ?_ | refine cA ?_ | refine cB ?_ | refine aLn ?_ | refine cK ?_ | refine aS8 ?_ | refine wI ?_ | refine nD ?_ | refine aX rfl ?_ | refine vL rfl ?_)
            intro _u; clear _u
            exact rM [1]
/-! ### The reader: the bytes B, and what is left of them -/
def rrdM (R : Env) (B : List UInt8) (r : Rd) : IMem := [(0, .var (R.ty 8) [.isl 1 (slc8 B), .int .i64 (B.length - r.l.length), .int .i64 r.e])]

theorem rslice {B l : List UInt8} {n : Int} (hB : l = B.drop (B.length - l.length)) (hl : l.length ≤ B.length) (hn : 0 ≤ n) :
    ((slc8 B).take ((B.length : Int) - l.length + n).toNat).drop ((B.length : Int) - l.length + n - n).toNat = slc8 (l.take n.toNat) := by
  rw [slc8_take, slc8_drop, List.drop_take, show ((B.length : Int) - l.length + n - n).toNat = B.length - l.length by omega, ← hB]
  congr 2
  omega

theorem rtake_c {R : Env} (h : N66 R) (B : List UInt8) (r : Rd) (hBm : B.length ≤ 1073741824) (hB : r.l = B.drop (B.length - r.l.length)) (hm : r.made = true) (n : Int) :
    R.Mc 66 [.loc 0 1 0 0, .int .i64 n] (rrdM R B r) (.isl 1 (slc8 (r.take n).1)) (rrdM R B (r.take n).2) 1 :=
  h.o66.enterM 100 1 rfl rfl rfl fun X bb hfit hp => by
    have hBl : r.l.length ≤ B.length := by rw [hB]; simp
    generalize hq : r.take n = q
    repeat ((intro _u; clear _u); first | with_reducible first | refine cT ?_ | refine cF ?_ | refine cA ?_ | refine cB ?_ | refine aLn ?_ | refine cK ?_ | refine aS8 ?_ | refine wI ?_ | refine nD ?_ | refine aX rfl ?_ | refine vL rfl ?_)
    intro _u; clear _u
    refine cS (fun h1 => ?_) (fun h1 => ?_)
    · repeat ((intro _u; clear _u); first | with_reducible first | refine cT ?_ | refine cF ?_ | refine cA ?_ | refine cB ?_ | refine aLn ?_ | refine cK ?_ | refine aS8 ?_ | refine wI ?_ | refine nD ?_ | refine aX rfl ?_ | refine vL rfl ?_)
      intro _u; clear _u
      refine cS (fun h2 => ?_) (fun h2 => ?_)
      · rw [Rd.take, if_neg (by simp [hm, h1]), if_pos h2] at hq
        subst hq
        repeat ((intro _u; clear _u); first | with_reducible first | refine cT ?_ | refine cF ?_ | refine cA ?_ | refine cB ?_ | refine aLn ?_ | refine cK ?_ | refine aS8 ?_ | refine wI ?_ | refine nD ?_ | refine aX rfl ?_ | refine vL rfl ?_)
        intro _u; clear _u
        refine acnd_f (by decide) ?_
        repeat ((intro _u; clear _u); first | with_reducible first | refine cT ?_ | refine cF ?_ | refine cA ?_ | refine cB ?_ | refine aLn ?_ | refine cK ?_ | refine aS8 ?_ | refine wI ?_ | refine nD ?_ | refine aX rfl ?_ | refine vL rfl ?_)
        intro _u; clear _u
        refine acnd_t (by decide) ?_
        repeat ((intro _u; clear _u); first | with_reducible first | refine cT ?_ | refine cF ?_ | refine cA ?_ | refine cB ?_ | refine aLn ?_ | refine cK ?_ | refine aS8 ?_ | refine wI ?_ | refine nD ?_ | refine aX rfl ?_ | refine vL rfl ?_)
        intro _u; clear _u
        exact rM [0]
      · repeat ((intro _u; clear _u); first | with_reducible first | refine cT ?_ | refine cF ?_ | refine cA ?_ | refine cB ?_ | refine aLn ?_ | refine cK ?_ | refine aS8 ?_ | refine wI ?_ | refine nD ?_ | refine aX rfl ?_ | refine vL rfl ?_)
        intro _u; clear _u
        refine acnd_t (by simp [h1]) ?_
        repeat ((intro _u; clear _u); first | with_reducible first | refine cT ?_ | refine cF ?_ | refine cA ?_ | refine cB ?_ | refine aLn ?_ | refine cK ?_ | refine aS8 ?_ | refine wI ?_ | refine nD ?_ | refine aX rfl ?_ | refine vL rfl ?_)
        intro _u; clear _u
        refine cS (fun h3 => ?_) (fun h3 => ?_)
        · rw [Rd.take, if_neg (by simp [hm, h1]), if_neg (by omega), if_pos (by omega)] at hq
          subst hq
          repeat ((intro _u; clear _u); first | with_reducible first | refine cT ?_ | refine cF ?_ | refine cA ?_ | refine cB ?_ | refine aLn ?_ | refine cK ?_ | refine aS8 ?_ | refine wI ?_ | refine nD ?_ | refine aX rfl ?_ | refine vL rfl ?_)
          intro _u; clear _u
          refine acnd_t (by decide) ?_
          repeat ((intro _u; clear _u); first | with_reducible first | refine cT ?_ | refine cF ?_ | refine cA ?_ | refine cB ?_ | refine aLn ?_ | refine cK ?_ | refine aS8 ?_ | refine wI ?_ | refine nD ?_ | refine aX rfl ?_ | refine vL rfl ?_)
          intro _u; clear _u
          exact rM [0]
        · rw [Rd.take, if_neg (by simp [hm, h1]), if_neg (by omega), if_neg (by omega)] at hq
          subst hq
          repeat ((intro _u; clear _u); first | with_reducible first | refine cT ?_ | refine cF ?_ | refine cA ?_ | refine cB ?_ | refine aLn ?_ | refine cK ?_ | refine aS8 ?_ | refine wI ?_ | refine nD ?_ | refine aX rfl ?_ | refine vL rfl ?_)
          intro _u; clear _u
          refine acnd_f (by simp [h1]) ?_
          repeat ((intro _u; clear _u); first | with_reducible first | refine cT ?_ | refine cF ?_ | refine cA ?_ | refine cB ?_ | refine aLn ?_ | refine cK ?_ | refine aS8 ?_ | refine wI ?_ | refine nD ?_ | refine aX rfl ?_ | refine vL rfl ?_)
          intro _u; clear _u
          refine asub_eq (by exact rslice hB hBl (by omega)) ?_
          repeat ((intro _u; clear _u); first | with_reducible first | refine cT ?_ | refine cF ?_ | refine cA ?_ | refine cB ?_ | refine aLn ?_ | refine cK ?_ | refine aS8 ?_ | refine wI ?_ | refine nD ?_ | refine aX rfl ?_ | refine vL rfl ?_)
          intro _u; clear _u
          refine rM [0] ?_
          all_goals repeat' (first | exact True.intro | refine And.intro ?_ ?_ | (intro _u; clear _u) | (with_reducible first | refine eM ?_ ?_ | refine eF ?_ ?_ ?_ | refine eN ?_ | refine eL ?_ ?_ ?_ | refine eA ?_ ?_ | refine IWk.mk ⟨_, hp, rfl⟩ ?_ ?_) | refine IWk.mk ⟨_, hp, rfl⟩ ?_ ?_)
          all_goals first | with_reducible rfl | omega | exact Or.inl (by decide) | (simp; done) | rfl | skip
          simp; omega
    · rw [Rd.take, if_pos (.inr (by simpa using h1))] at hq
      subst hq
      repeat ((intro _u; clear _u); first | with_reducible first | refine cT ?_ | refine cF ?_ | refine cA ?_ | refine cB ?_ | refine aLn ?_ | refine cK ?_ | refine aS8 ?_ | refine wI ?_ | refine nD ?_ | refine aX rfl ?_ | refine vL rfl ?_)
      intro _u; clear _u
      refine acnd_f (by simpa using h1) ?_
      repeat ((intro _u; clear _u); first | with_reducible first | refine cT ?_ | refine cF ?_ | refine cA ?_ | refine cB ?_ | refine aLn ?_ | refine cK ?_ | refine aS8 ?_ | refine wI ?_ | refine nD ?_ | refine aX rfl ?_ | refine vL rfl ?_)
      intro _u; clear _u
      refine acnd_t (by simpa using h1) ?_
      repeat ((intro _u; clear _u); first | with_reducible first | refine cT ?_ | refine cF ?_ | refine cA ?_ | refine cB ?_ | refine aLn ?_ | refine cK ?_ | refine aS8 ?_ | refine wI ?_ | refine nD ?_ | refine aX rfl ?_ | refine vL rfl ?_)
      intro _u; clear _u
      exact rM [0]
structure RdOk (B : List UInt8) (r : Rd) : Prop where
  m : B.length ≤ 1073741824
  s : r.l = B.drop (B.length - r.l.length)
  made : r.made = true
theorem RdOk.len {B : List UInt8} {r : Rd} (h : RdOk B r) : r.l.length ≤ B.length := by rw [h.s]; simp
theorem RdOk.take {B : List UInt8} {r : Rd} (h : RdOk B r) (n : Int) : RdOk B (r.take n).2 := by
  unfold Rd.take
  split
  · exact h
  · split
    · exact ⟨h.m, h.s, h.made⟩
    · split
      · exact ⟨h.m, h.s, h.made⟩
      · refine ⟨h.m, ?_, h.made⟩
        have h1 := h.s
        have h2 := h.len
        simp only [List.length_drop]
        conv => lhs; rw [h1]
        rw [List.drop_drop]
        congr 1
        omega
theorem RdOk.num {B : List UInt8} {r : Rd} (h : RdOk B r) (w : Int) : RdOk B (r.num w).2 := h.take _
theorem RdOk.int {B : List UInt8} {r : Rd} (h : RdOk B r) (w : Int) : RdOk B (r.int w).2 := h.num w
theorem RdOk.err {B : List UInt8} {r : Rd} (h : RdOk B r) (e : Int) : RdOk B { r with e := e } := ⟨h.m, h.s, h.made⟩
theorem RdOk.new {B : List UInt8} (h : B.length ≤ 1073741824) : RdOk B ⟨B, 0, true⟩ := ⟨h, by simp, rfl⟩

theorem le_drop {l : List UInt8} {j : Nat} {c : UInt8} (h : l[j]? = some c) : le (l.drop j) = le (l.drop (j + 1)) * 256 + c.toNat := by
  obtain ⟨hj, rfl⟩ := List.getElem?_eq_some_iff.1 h
  rw [List.drop_eq_getElem_cons hj]
  simp only [le]
  omega


theorem rnum_c {R : Env} (h : N61 R) (B : List UInt8) (r : Rd) (ok : RdOk B r) (w : Int) : R.Mc 61 [.loc 0 1 0 0, .int .i64 w] (rrdM R B r) (.int .u64 (r.num w).1) (rrdM R B (r.num w).2) 1 :=
  h.o61.enterM 100 1 rfl rfl rfl fun X bb hfit hp => by
    have e1 : w < 1 ∨ 8 < w → r.num w = (le (r.take (-1)).1, (r.take (-1)).2) := fun hw => by unfold Rd.num; rw [if_pos hw]
    have e2 : ¬ (w < 1 ∨ 8 < w) → r.num w = (le (r.take w).1, (r.take w).2) := fun hw => by unfold Rd.num; rw [if_neg hw]
    generalize hq : r.num w = q at e1 e2 ⊢
    repeat ((intro _u; clear _u); first | with_reducible first | refine cT ?_ | refine cF ?_ | refine cA ?_ | refine cB ?_ | refine aLn ?_ | refine cK ?_ | refine aS8 ?_ | refine wI ?_ | refine nD ?_ | refine aX rfl ?_ | refine vL rfl ?_)
    intro _u; clear _u
    refine cS (fun h1 => ?_) (fun h1 => ?_)
    · have bad : w < 1 ∨ 8 < w → q = (le (({ r with e := 2 } : Rd).take (max w 0)).1, (({ r with e := 2 } : Rd).take (max w 0)).2) := fun hw => by
        rw [e1 hw]
        simp [Rd.take, ok.made, h1]
      repeat ((intro _u; clear _u); first | with_reducible first | refine cT ?_ | refine cF ?_ | refine cA ?_ | refine cB ?_ | refine aLn ?_ | refine cK ?_ | refine aS8 ?_ | refine wI ?_ | refine nD ?_ | refine aX rfl ?_ | refine vL rfl ?_)
      intro _u; clear _u
      refine cS (fun h2 => ?_) (fun h2 => ?_)
      · rw [bad (.inl h2)]
        repeat ((intro _u; clear _u); first | with_reducible first | refine cT ?_ | refine cF ?_ | refine cA ?_ | refine cB ?_ | refine aLn ?_ | refine cK ?_ | refine aS8 ?_ | refine wI ?_ | refine nD ?_ | refine aX rfl ?_ | refine vL rfl ?_)
        intro _u; clear _u
        refine cM false [0] (rtake_c h.n66 B { r with e := 2 } ok.m ok.s ok.made (max w 0)) ?_
        repeat ((intro _u; clear _u); first | refine eK ?_ | refine eP ?_)
        have hlen : (({ r with e := 2 } : Rd).take (max w 0)).1.length ≤ 8 := by simp [Rd.take]
        generalize ({ r with e := 2 } : Rd).take (max w 0) = t at hlen ⊢
        repeat ((intro _u; clear _u); first | with_reducible first | refine cT ?_ | refine cF ?_ | refine cA ?_ | refine cB ?_ | refine aLn ?_ | refine cK ?_ | refine aS8 ?_ | refine wI ?_ | refine nD ?_ | refine aX rfl ?_ | refine vL rfl ?_)
        intro _u; clear _u
        refine ILoop.inv 100 (fun j : Nat => j ≤ t.1.length) (fun j => ⟨[(5, .isl 1 (slc8 t.1)), (6, .int .u64 (le (t.1.drop j))), (7, .int .i64 (j - 1))], rrdM R B t.2, 1⟩) (fun j => j) (t.1.length) ?_ ⟨⟨_, hp, rfl⟩, ?_, ?_⟩ ?_
        · exact Nat.le_refl _
        · all_goals repeat' (first | exact True.intro | refine And.intro ?_ ?_ | (intro _u; clear _u) | (with_reducible first | refine eM ?_ ?_ | refine eF ?_ ?_ ?_ | refine eN ?_ | refine eL ?_ ?_ ?_ | refine eA ?_ ?_ | refine IWk.mk ⟨_, hp, rfl⟩ ?_ ?_) | refine IWk.mk ⟨_, hp, rfl⟩ ?_ ?_)
          all_goals first | with_reducible rfl | omega | exact Or.inl (by decide) | (simp; done) | rfl | skip
          simp [le]
        · all_goals repeat' (first | exact True.intro | refine And.intro ?_ ?_ | (intro _u; clear _u) | (with_reducible first | refine eM ?_ ?_ | refine eF ?_ ?_ ?_ | refine eN ?_ | refine eL ?_ ?_ ?_ | refine eA ?_ ?_ | refine IWk.mk ⟨_, hp, rfl⟩ ?_ ?_) | refine IWk.mk ⟨_, hp, rfl⟩ ?_ ?_)
          all_goals first | with_reducible rfl | omega | exact Or.inl (by decide) | (simp; done) | rfl | skip
        · intro j hj
          dsimp only
          repeat ((intro _u; clear _u); first | with_reducible first | refine cT ?_ | refine cF ?_ | refine cA ?_ | refine cB ?_ | refine aLn ?_ | refine cK ?_ | refine aS8 ?_ | refine wI ?_ | refine nD ?_ | refine aX rfl ?_ | refine vL rfl ?_)
          intro _u; clear _u
          refine cS (fun h5 => ?_) (fun h5 => ?_)
          · obtain ⟨x, hx⟩ : ∃ x, t.1[j - 1]? = some x := ⟨_, List.getElem?_eq_getElem (by omega)⟩
            have hle := le_lt (t.1.drop j)
            have hdl := le_drop hx
            rw [show j - 1 + 1 = j by omega] at hdl
            have hx8 := x.toNat_lt
            have hpw : 256 ^ (t.1.drop j).length * 256 ≤ 256 ^ 8 := by
              rw [← Nat.pow_succ]
              exact Nat.pow_le_pow_right (by decide) (by simp; omega)
            repeat ((intro _u; clear _u); first | with_reducible first | refine cT ?_ | refine cF ?_ | refine cA ?_ | refine cB ?_ | refine aLn ?_ | refine cK ?_ | refine aS8 ?_ | refine wI ?_ | refine nD ?_ | refine aX rfl ?_ | refine vL rfl ?_)
            intro _u; clear _u
            refine eget_map (i := _) (by rw [show ((j : Int) - 1).toNat = j - 1 by omega]; exact hx) ?_
            repeat ((intro _u; clear _u); first | with_reducible first | refine cT ?_ | refine cF ?_ | refine cA ?_ | refine cB ?_ | refine aLn ?_ | refine cK ?_ | refine aS8 ?_ | refine wI ?_ | refine nD ?_ | refine aX rfl ?_ | refine vL rfl ?_)
            intro _u; clear _u
            refine nXa (j - 1) ?_ ?_
            · omega
            · omega
          · have hj0 : j = 0 := by omega
            subst hj0
            repeat ((intro _u; clear _u); first | with_reducible first | refine cT ?_ | refine cF ?_ | refine cA ?_ | refine cB ?_ | refine aLn ?_ | refine cK ?_ | refine aS8 ?_ | refine wI ?_ | refine nD ?_ | refine aX rfl ?_ | refine vL rfl ?_)
            intro _u; clear _u
            exact rM [0]
      · repeat ((intro _u; clear _u); first | with_reducible first | refine cT ?_ | refine cF ?_ | refine cA ?_ | refine cB ?_ | refine aLn ?_ | refine cK ?_ | refine aS8 ?_ | refine wI ?_ | refine nD ?_ | refine aX rfl ?_ | refine vL rfl ?_)
        intro _u; clear _u
        refine cS (fun h3 => ?_) (fun h3 => ?_)
        · rw [bad (.inr h3)]
          repeat ((intro _u; clear _u); first | with_reducible first | refine cT ?_ | refine cF ?_ | refine cA ?_ | refine cB ?_ | refine aLn ?_ | refine cK ?_ | refine aS8 ?_ | refine wI ?_ | refine nD ?_ | refine aX rfl ?_ | refine vL rfl ?_)
          intro _u; clear _u
          refine cM false [0] (rtake_c h.n66 B { r with e := 2 } ok.m ok.s ok.made (max w 0)) ?_
          repeat ((intro _u; clear _u); first | refine eK ?_ | refine eP ?_)
          have hlen : (({ r with e := 2 } : Rd).take (max w 0)).1.length ≤ 8 := by simp [Rd.take]
          generalize ({ r with e := 2 } : Rd).take (max w 0) = t at hlen ⊢
          repeat ((intro _u; clear _u); first | with_reducible first | refine cT ?_ | refine cF ?_ | refine cA ?_ | refine cB ?_ | refine aLn ?_ | refine cK ?_ | refine aS8 ?_ | refine wI ?_ | refine nD ?_ | refine aX rfl ?_ | refine vL rfl ?_)
          intro _u; clear _u
          refine ILoop.inv 100 (fun j : Nat => j ≤ t.1.length) (fun j => ⟨[(5, .isl 1 (slc8 t.1)), (6, .int .u64 (le (t.1.drop j))), (7, .int .i64 (j - 1))], rrdM R B t.2, 1⟩) (fun j => j) (t.1.length) ?_ ⟨⟨_, hp, rfl⟩, ?_, ?_⟩ ?_
          · exact Nat.le_refl _
          · all_goals repeat' (first | exact True.intro | refine And.intro ?_ ?_ | (intro _u; clear _u) | (with_reducible first | refine eM ?_ ?_ | refine eF ?_ ?_ ?_ | refine eN ?_ | refine eL ?_ ?_ ?_ | refine eA ?_ ?_ | refine IWk.mk ⟨_, hp, rfl⟩ ?_ ?_) | refine IWk.mk ⟨_, hp, rfl⟩ ?_ ?_)
            all_goals first | with_reducible rfl | omega | exact Or.inl (by decide) | (simp; done) | rfl | skip
            simp [le]
          · all_goals repeat' (first | exact True.intro | refine And.intro ?_ ?_ | (intro _u; clear _u) | (with_reducible first | refine eM ?_ ?_ | refine eF ?_ ?_ ?_ | refine eN ?_ | refine eL ?_ ?_ ?_ | refine eA ?_ ?_ | refine IWk.mk ⟨_, hp, rfl⟩ ?_ ?_) | refine IWk.mk ⟨_, hp, rfl⟩ ?_ ?_)
            all_goals first | with_reducible rfl | omega | exact Or.inl (by decide) | (simp; done) | rfl | skip
          · intro j hj
            dsimp only
            repeat ((intro _u; clear _u); first | with_reducible first | refine cT ?_ | refine cF ?_ | refine cA ?_ | refine cB ?_ | refine aLn ?_ | refine cK ?_ | refine aS8 ?_ | refine wI ?_ | refine nD ?_ | refine aX rfl ?_ | refine vL rfl ?_)
            intro _u; clear _u
            refine cS (fun h5 => ?_) (fun h5 => ?_)
            · obtain ⟨x, hx⟩ : ∃ x, t.1[j - 1]? = some x := ⟨_, List.getElem?_eq_getElem (by omega)⟩
              have hle := le_lt (t.1.drop j)
              have hdl := le_drop hx
              rw [show j - 1 + 1 = j by omega] at hdl
              have hx8 := x.toNat_lt
              have hpw : 256 ^ (t.1.drop j).length * 256 ≤ 256 ^ 8 := by
                rw [← Nat.pow_succ]
                exact Nat.pow_le_pow_right (by decide) (by simp; omega)
              repeat ((intro _u; clear _u); first | with_reducible first | refine cT ?_ | refine cF ?_ | refine cA ?_ | refine cB ?_ | refine aLn ?_ | refine cK ?_ | refine aS8 ?_ | refine wI ?_ | refine nD ?_ | refine aX rfl ?_ | refine vL rfl ?_)
              intro _u; clear _u
              refine eget_map (i := _) (by rw [show ((j : Int) - 1).toNat = j - 1 by omega]; exact hx) ?_
              repeat ((intro _u; clear _u); first | with_reducible first | refine cT ?_ | refine cF ?_ | refine cA ?_ | refine cB ?_ | refine aLn ?_ | refine cK ?_ | refine aS8 ?_ | refine wI ?_ | refine nD ?_ | refine aX rfl ?_ | refine vL rfl ?_)
              intro _u; clear _u
              refine nXa (j - 1) ?_ ?_
              · omega
              · omega
            · have hj0 : j = 0 := by omega
              subst hj0
              repeat ((intro _u; clear _u); first | with_reducible first | refine cT ?_ | refine cF ?_ | refine cA ?_ | refine cB ?_ | refine aLn ?_ | refine cK ?_ | refine aS8 ?_ | refine wI ?_ | refine nD ?_ | refine aX rfl ?_ | refine vL rfl ?_)
              intro _u; clear _u
              exact rM [0]
        · rw [e2 (by omega)]
          repeat ((intro _u; clear _u); first | with_reducible first | refine cT ?_ | refine cF ?_ | refine cA ?_ | refine cB ?_ | refine aLn ?_ | refine cK ?_ | refine aS8 ?_ | refine wI ?_ | refine nD ?_ | refine aX rfl ?_ | refine vL rfl ?_)
          intro _u; clear _u
          refine cM false [0] (rtake_c h.n66 B r ok.m ok.s ok.made w) ?_
          repeat ((intro _u; clear _u); first | refine eK ?_ | refine eP ?_)
          have hlen := take_len r w h3
          generalize r.take w = t at hlen ⊢
          repeat ((intro _u; clear _u); first | with_reducible first | refine cT ?_ | refine cF ?_ | refine cA ?_ | refine cB ?_ | refine aLn ?_ | refine cK ?_ | refine aS8 ?_ | refine wI ?_ | refine nD ?_ | refine aX rfl ?_ | refine vL rfl ?_)
          intro _u; clear _u
          refine ILoop.inv 100 (fun j : Nat => j ≤ t.1.length) (fun j => ⟨[(5, .isl 1 (slc8 t.1)), (6, .int .u64 (le (t.1.drop j))), (7, .int .i64 (j - 1))], rrdM R B t.2, 1⟩) (fun j => j) (t.1.length) ?_ ⟨⟨_, hp, rfl⟩, ?_, ?_⟩ ?_
          · exact Nat.le_refl _
          · all_goals repeat' (first | exact True.intro | refine And.intro ?_ ?_ | (intro _u; clear _u) | (with_reducible first | refine eM ?_ ?_ | refine eF ?_ ?_ ?_ | refine eN ?_ | refine eL ?_ ?_ ?_ | refine eA ?_ ?_ | refine IWk.mk ⟨_, hp, rfl⟩ ?_ ?_) | refine IWk.mk ⟨_, hp, rfl⟩ ?_ ?_)
            all_goals first | with_reducible rfl | omega | exact Or.inl (by decide) | (simp; done) | rfl | skip
            simp [le]
          · all_goals repeat' (first | exact True.intro | refine And.intro ?_ ?_ | (intro _u; clear _u) | (with_reducible first | refine eM ?_ ?_ | refine eF ?_ ?_ ?_ | refine eN ?_ | refine eL ?_ ?_ ?_ | refine eA ?_ ?_ | refine IWk.mk ⟨_, hp, rfl⟩ ?_ ?_) | refine IWk.mk ⟨_, hp, rfl⟩ ?_ ?_)
            all_goals first | with_reducible rfl | omega | exact Or.inl (by decide) | (simp; done) | rfl | skip
          · intro j hj
            dsimp only
            repeat ((intro _u; clear _u); first | with_reducible first | refine cT ?_ | refine cF ?_ | refine cA ?_ | refine cB ?_ | refine aLn ?_ | refine cK ?_ | refine aS8 ?_ | refine wI ?_ | refine nD ?_ | refine aX rfl ?_ | refine vL rfl ?_)
            intro _u; clear _u
            refine cS (fun h5 => ?_) (fun h5 => ?_)
            · obtain ⟨x, hx⟩ : ∃ x, t.1[j - 1]? = some x := ⟨_, List.getElem?_eq_getElem (by omega)⟩
              have hle := le_lt (t.1.drop j)
              have hdl := le_drop hx
              rw [show j - 1 + 1 = j by omega] at hdl
              have hx8 := x.toNat_lt
              have hpw : 256 ^ (t.1.drop j).length * 256 ≤ 256 ^ 8 := by
                rw [← Nat.pow_succ]
                exact Nat.pow_le_pow_right (by decide) (by simp; omega)
              repeat ((intro _u; clear _u); first | with_reducible first | refine cT ?_ | refine cF ?_ | refine cA ?_ | refine cB ?_ | refine aLn ?_ | refine cK ?_ | refine aS8 ?_ | refine wI ?_ | refine nD ?_ | refine aX rfl ?_ | refine vL rfl ?_)
              intro _u; clear _u
              refine eget_map (i := _) (by rw [show ((j : Int) - 1).toNat = j - 1 by omega]; exact hx) ?_
              repeat ((intro _u; clear _u); first | with_reducible first | refine cT ?_ | refine cF ?_ | refine cA ?_ | refine cB ?_ | refine aLn ?_ | refine cK ?_ | refine aS8 ?_ | refine wI ?_ | refine nD ?_ | refine aX rfl ?_ | refine vL rfl ?_)
              intro _u; clear _u
              refine nXa (j - 1) ?_ ?_
              · omega
              · omega
            · have hj0 : j = 0 := by omega
              subst hj0
              repeat ((intro _u; clear _u); first | with_reducible first | refine cT ?_ | refine cF ?_ | refine cA ?_ | refine cB ?_ | refine aLn ?_ | refine cK ?_ | refine aS8 ?_ | refine wI ?_ | refine nD ?_ | refine aX rfl ?_ | refine vL rfl ?_)
              intro _u; clear _u
              exact rM [0]
    · have bad : q = (le (r.take (max w 0)).1, (r.take (max w 0)).2) := by
        by_cases hw : w < 1 ∨ 8 < w
        · rw [e1 hw]; simp [Rd.take, h1]
        · rw [e2 hw]; simp [Rd.take, h1]
      rw [bad]
      repeat ((intro _u; clear _u); first | with_reducible first | refine cT ?_ | refine cF ?_ | refine cA ?_ | refine cB ?_ | refine aLn ?_ | refine cK ?_ | refine aS8 ?_ | refine wI ?_ | refine nD ?_ | refine aX rfl ?_ | refine vL rfl ?_)
      intro _u; clear _u
      refine cM false [0] (rtake_c h.n66 B r ok.m ok.s ok.made (max w 0)) ?_
      repeat ((intro _u; clear _u); first | refine eK ?_ | refine eP ?_)
      have hlen : (r.take (max w 0)).1.length ≤ 8 := by simp [Rd.take, h1]
      generalize r.take (max w 0) = t at hlen ⊢
      repeat ((intro _u; clear _u); first | with_reducible first | refine cT ?_ | refine cF ?_ | refine cA ?_ | refine cB ?_ | refine aLn ?_ | refine cK ?_ | refine aS8 ?_ | refine wI ?_ | refine nD ?_ | refine aX rfl ?_ | refine vL rfl ?_)
      intro _u; clear _u
      refine ILoop.inv 100 (fun j : Nat => j ≤ t.1.length) (fun j => ⟨[(5, .isl 1 (slc8 t.1)), (6, .int .u64 (le (t.1.drop j))), (7, .int .i64 (j - 1))], rrdM R B t.2, 1⟩) (fun j => j) (t.1.length) ?_ ⟨⟨_, hp, rfl⟩, ?_, ?_⟩ ?_
      · exact Nat.le_refl _
      · all_goals repeat' (first | exact True.intro | refine And.intro ?_ ?_ | (intro _u; clear _u) | (with_reducible first | refine eM ?_ ?_ | refine eF ?_ ?_ ?_ | refine eN ?_ | refine eL ?_ ?_ ?_ | refine eA ?_ ?_ | refine IWk.mk ⟨_, hp, rfl⟩ ?_ ?_) | refine IWk.mk ⟨_, hp, rfl⟩ ?_ ?_)
        all_goals first | with_reducible rfl | omega | exact Or.inl (by decide) | (simp; done) | rfl | skip
        simp [le]
      · all_goals repeat' (first | exact True.intro | refine And.intro ?_ ?_ | (intro _u; clear _u) | (with_reducible first | refine eM ?_ ?_ | refine eF ?_ ?_ ?_ | refine eN ?_ | refine eL ?_ ?_ ?_ | refine eA ?_ ?_ | refine IWk.mk ⟨_, hp, rfl⟩ ?_ ?_) | refine IWk.mk ⟨_, hp, rfl⟩ ?_ ?_)
        all_goals first | with_reducible rfl | omega | exact Or.inl (by decide) | (simp; done) | rfl | skip
      · intro j hj
        dsimp only
        repeat ((intro _u; clear _u); first | with_reducible first | refine cT ?_ | refine cF ?_ | refine cA ?_ | refine cB ?_ | refine aLn ?_ | refine cK ?_ | refine aS8 ?_ | refine wI ?_ | refine nD ?_ | refine aX rfl ?_ | refine vL rfl ?_)
        intro _u; clear _u
        refine cS (fun h5 => ?_) (fun h5 => ?_)
        · obtain ⟨x, hx⟩ : ∃ x, t.1[j - 1]? = some x := ⟨_, List.getElem?_eq_getElem (by omega)⟩
          have hle := le_lt (t.1.drop j)
          have hdl := le_drop hx
          rw [show j - 1 + 1 = j by omega] at hdl
          have hx8 := x.toNat_lt
          have hpw : 256 ^ (t.1.drop j).length * 256 ≤ 256 ^ 8 := by
            rw [← Nat.pow_succ]
            exact Nat.pow_le_pow_right (by decide) (by simp; omega)
          repeat ((intro _u; clear _u); first | with_reducible first | refine cT ?_ | refine cF ?_ | refine cA ?_ | refine cB ?_ | refine aLn ?_ | refine cK ?_ | refine aS8 ?_ | refine wI ?_ | refine nD ?_ | refine aX rfl ?_ | refine vL rfl ?_)
          intro _u; clear _u
          refine eget_map (i := _) (by rw [show ((j : Int) - 1).toNat = j - 1 by omega]; exact hx) ?_
          repeat ((intro _u; clear _u); first | with_reducible first | refine cT ?_ | refine cF ?_ | refine cA ?_ | refine cB ?_ | refine aLn ?_ | refine cK ?_ | refine aS8 ?_ | refine wI ?_ | refine nD ?_ | refine aX rfl ?_ | refine vL rfl ?_)
          intro _u; clear _u
          refine nXa (j - 1) ?_ ?_
          · omega
          · omega
        · have hj0 : j = 0 := by omega
          subst hj0
          repeat ((intro _u; clear _u); first | with_reducible first | refine cT ?_ | refine cF ?_ | refine cA ?_ | refine cB ?_ | refine aLn ?_ | refine cK ?_ | refine aS8 ?_ | refine wI ?_ | refine nD ?_ | refine aX rfl ?_ | refine vL rfl ?_)
          intro _u; clear _u
          exact rM [0]
theorem rend_c {R : Env} (h : N69 R) (B : List UInt8) (r : Rd) (ok : RdOk B r) : R.Mc 69 [.loc 0 1 0 0] (rrdM R B r) (.int .i64 r.fin) (rrdM R B r) 1 :=
  h.o69.enterM 60 1 rfl rfl rfl fun X bb hfit hp => by
    have h1 := ok.made
    have h2 := ok.len
    have h3 := ok.m
    have h5 : r.err = r.e := by simp [Rd.err, h1]
    unfold Rd.fin
    rw [h5]
    repeat ((intro _u; clear _u); first | with_reducible first | refine cT ?_ | refine cF ?_ | refine cA ?_ | refine cB ?_ | refine aLn ?_ | refine cK ?_ | refine aS8 ?_ | refine wI ?_ | refine nD ?_ | refine aX rfl ?_ | refine vL rfl ?_)
    intro _u; clear _u
    refine cS (fun h4 => ?_) (fun h4 => ?_)
    · rw [if_neg (by simpa using h4)]
      repeat ((intro _u; clear _u); first | with_reducible first | refine cT ?_ | refine cF ?_ | refine cA ?_ | refine cB ?_ | refine aLn ?_ | refine cK ?_ | refine aS8 ?_ | refine wI ?_ | refine nD ?_ | refine aX rfl ?_ | refine vL rfl ?_)
      intro _u; clear _u
      refine cS (fun h6 => ?_) (fun h6 => ?_)
      · rw [if_pos (by omega)]
        repeat ((intro _u; clear _u); first | with_reducible first | refine cT ?_ | refine cF ?_ | refine cA ?_ | refine cB ?_ | refine aLn ?_ | refine cK ?_ | refine aS8 ?_ | refine wI ?_ | refine nD ?_ | refine aX rfl ?_ | refine vL rfl ?_)
        intro _u; clear _u
        exact rM [0]
      · rw [if_neg (by omega)]
        repeat ((intro _u; clear _u); first | with_reducible first | refine cT ?_ | refine cF ?_ | refine cA ?_ | refine cB ?_ | refine aLn ?_ | refine cK ?_ | refine aS8 ?_ | refine wI ?_ | refine nD ?_ | refine aX rfl ?_ | refine vL rfl ?_)
        intro _u; clear _u
        exact rM [0]
    · rw [if_pos (by simpa using h4)]
      repeat ((intro _u; clear _u); first | with_reducible first | refine cT ?_ | refine cF ?_ | refine cA ?_ | refine cB ?_ | refine aLn ?_ | refine cK ?_ | refine aS8 ?_ | refine wI ?_ | refine nD ?_ | refine aX rfl ?_ | refine vL rfl ?_)
      intro _u; clear _u
      exact rM [0]

theorem num_err {r : Rd} {w : Int} (h : (r.num w).2.e ≠ 0) : (r.num w).1 = 0 := by
  unfold Rd.num Rd.take at h ⊢
  dsimp only at h ⊢
  generalize (if w < 1 ∨ 8 < w then (-1 : Int) else w) = v at h ⊢
  by_cases c1 : r.made = false ∨ r.e ≠ 0
  · rw [if_pos c1]; rfl
  · rw [if_neg c1] at h ⊢
    by_cases c2 : v < 0
    · rw [if_pos c2]; rfl
    · rw [if_neg c2] at h ⊢
      by_cases c3 : (r.l.length : Int) < v
      · rw [if_pos c3]; rfl
      · rw [if_neg c3] at h
        exact (c1 (.inr h)).elim
theorem num_bad {r : Rd} {w : Int} (hw : w < 1 ∨ 8 < w) (hm : r.made = true) : (r.num w).2.e ≠ 0 := by
  unfold Rd.num
  rw [if_pos hw]
  unfold Rd.take
  split
  · rename_i h
    rcases h with h | h
    · rw [hm] at h; exact absurd h (by decide)
    · exact h
  · simp
  all_goals simp

theorem rint_c {R : Env} (h : N77 R) (B : List UInt8) (r : Rd) (ok : RdOk B r) (w : Int) : R.Mc 77 [.loc 0 1 0 0, .int .i64 w] (rrdM R B r) (.int .i64 (r.int w).1) (rrdM R B (r.int w).2) 1 :=
  h.o77.enterM 100 1 rfl rfl rfl fun X bb hfit hp => by
    repeat ((intro _u; clear _u); first | with_reducible first | refine cT ?_ | refine cF ?_ | refine cA ?_ | refine cB ?_ | refine aLn ?_ | refine cK ?_ | refine aS8 ?_ | refine wI ?_ | refine nD ?_ | refine aX rfl ?_ | refine vL rfl ?_)
    intro _u; clear _u
    refine cM false [0] (rnum_c h.n61 B r ok w) ?_
    repeat ((intro _u; clear _u); first | refine eK ?_ | refine eP ?_)
    unfold Rd.int
    repeat ((intro _u; clear _u); first | with_reducible first | refine cT ?_ | refine cF ?_ | refine cA ?_ | refine cB ?_ | refine aLn ?_ | refine cK ?_ | refine aS8 ?_ | refine wI ?_ | refine nD ?_ | refine aX rfl ?_ | refine vL rfl ?_)
    intro _u; clear _u
    refine cS (fun h1 => ?_) (fun h1 => ?_)
    · have h2 : (r.num w).1 = 0 := num_err (by simpa using h1)
      by_cases hw : w < 1 ∨ 8 < w
      · rw [if_pos hw]
        repeat ((intro _u; clear _u); first | with_reducible first | refine cT ?_ | refine cF ?_ | refine cA ?_ | refine cB ?_ | refine aLn ?_ | refine cK ?_ | refine aS8 ?_ | refine wI ?_ | refine nD ?_ | refine aX rfl ?_ | refine vL rfl ?_)
        intro _u; clear _u
        exact rM [0]
      · rw [if_neg hw, h2]
        repeat ((intro _u; clear _u); first | with_reducible first | refine cT ?_ | refine cF ?_ | refine cA ?_ | refine cB ?_ | refine aLn ?_ | refine cK ?_ | refine aS8 ?_ | refine wI ?_ | refine nD ?_ | refine aX rfl ?_ | refine vL rfl ?_)
        intro _u; clear _u
        refine rM [0] ?_
        all_goals repeat' (first | exact True.intro | refine And.intro ?_ ?_ | (intro _u; clear _u) | (with_reducible first | refine eM ?_ ?_ | refine eF ?_ ?_ ?_ | refine eN ?_ | refine eL ?_ ?_ ?_ | refine eA ?_ ?_ | refine IWk.mk ⟨_, hp, rfl⟩ ?_ ?_) | refine IWk.mk ⟨_, hp, rfl⟩ ?_ ?_)
        all_goals first | with_reducible rfl | omega | exact Or.inl (by decide) | (simp; done) | rfl | skip
        simp [sx]
    · have hw : ¬ (w < 1 ∨ 8 < w) := fun hw => num_bad hw ok.made (by simpa using h1)
      rw [if_neg hw]
      repeat ((intro _u; clear _u); first | with_reducible first | refine cT ?_ | refine cF ?_ | refine cA ?_ | refine cB ?_ | refine aLn ?_ | refine cK ?_ | refine aS8 ?_ | refine wI ?_ | refine nD ?_ | refine aX rfl ?_ | refine vL rfl ?_)
      intro _u; clear _u
      refine ICall.pure h.n63.o63.hb (most_c h.n63 w (by omega)) rfl ?_
      have hh := half_le (w := w) (by omega) (by omega)
      have hlt := num_lt r (w := w) (by omega) (by omega)
      have e : ((256 : Int) ^ w.toNat) = ((256 ^ w.toNat : Nat) : Int) := by rw [Int.natCast_pow]; rfl
      have hlt' : ((r.num w).1 : Int) < 256 ^ w.toNat := by rw [e]; exact Int.ofNat_lt.2 hlt
      repeat ((intro _u; clear _u); first | with_reducible first | refine cT ?_ | refine cF ?_ | refine cA ?_ | refine cB ?_ | refine aLn ?_ | refine cK ?_ | refine aS8 ?_ | refine wI ?_ | refine nD ?_ | refine aX rfl ?_ | refine vL rfl ?_)
      intro _u; clear _u
      rw [Int.tdiv_eq_ediv_of_nonneg (by omega), half_eq (by omega) (by omega)]
      refine iwr_in (by simp only [inI]; omega) ?_
      repeat ((intro _u; clear _u); first | with_reducible first | refine cT ?_ | refine cF ?_ | refine cA ?_ | refine cB ?_ | refine aLn ?_ | refine cK ?_ | refine aS8 ?_ | refine wI ?_ | refine nD ?_ | refine aX rfl ?_ | refine vL rfl ?_)
      intro _u; clear _u
      refine cS (fun h3 => ?_) (fun h3 => ?_)
      · repeat ((intro _u; clear _u); first | with_reducible first | refine cT ?_ | refine cF ?_ | refine cA ?_ | refine cB ?_ | refine aLn ?_ | refine cK ?_ | refine aS8 ?_ | refine wI ?_ | refine nD ?_ | refine aX rfl ?_ | refine vL rfl ?_)
        intro _u; clear _u
        refine ICall.pure h.n63.o63.hb (most_c h.n63 w (by omega)) rfl ?_
        repeat ((intro _u; clear _u); first | with_reducible first | refine cT ?_ | refine cF ?_ | refine cA ?_ | refine cB ?_ | refine aLn ?_ | refine cK ?_ | refine aS8 ?_ | refine wI ?_ | refine nD ?_ | refine aX rfl ?_ | refine vL rfl ?_)
        intro _u; clear _u
        refine rM [0] ?_
        all_goals repeat' (first | exact True.intro | refine And.intro ?_ ?_ | (intro _u; clear _u) | (with_reducible first | refine eM ?_ ?_ | refine eF ?_ ?_ ?_ | refine eN ?_ | refine eL ?_ ?_ ?_ | refine eA ?_ ?_ | refine IWk.mk ⟨_, hp, rfl⟩ ?_ ?_) | refine IWk.mk ⟨_, hp, rfl⟩ ?_ ?_)
        all_goals first | with_reducible rfl | omega | exact Or.inl (by decide) | (simp; done) | rfl | skip
        unfold sx
        rw [e] at hh h3 ⊢
        generalize 256 ^ w.toNat = P at hh h3 ⊢
        rw [if_neg (by omega)]
        omega
      · repeat ((intro _u; clear _u); first | with_reducible first | refine cT ?_ | refine cF ?_ | refine cA ?_ | refine cB ?_ | refine aLn ?_ | refine cK ?_ | refine aS8 ?_ | refine wI ?_ | refine nD ?_ | refine aX rfl ?_ | refine vL rfl ?_)
        intro _u; clear _u
        refine rM [0] ?_
        all_goals repeat' (first | exact True.intro | refine And.intro ?_ ?_ | (intro _u; clear _u) | (with_reducible first | refine eM ?_ ?_ | refine eF ?_ ?_ ?_ | refine eN ?_ | refine eL ?_ ?_ ?_ | refine eA ?_ ?_ | refine IWk.mk ⟨_, hp, rfl⟩ ?_ ?_) | refine IWk.mk ⟨_, hp, rfl⟩ ?_ ?_)
        all_goals first | with_reducible rfl | omega | exact Or.inl (by decide) | (simp; done) | rfl | skip
        unfold sx
        rw [e] at hh h3 ⊢
        generalize 256 ^ w.toNat = P at hh h3 ⊢
        rw [if_pos (by omega)]
end Go.UM

/- Reading: what a reader tells of bytes that were written, and of bytes that it took whole. -/

namespace Go.UM
open Go.AM
set_option maxRecDepth 4000

theorem u8_val (v : Int) : ((u8 v).toNat : Int) = v % 256 := by
  rw [← wr_u8]
  simp only [wr, IntKind.wrap, IntKind.bits, IntKind.signed]
  simp

theorem emod_step {x P : Int} (hP : 0 < P) : x % P + P * (x / P % 256) = x % (P * 256) := by
  have h1 : P * (x / P) + x % P = x := Int.mul_ediv_add_emod x P
  have h2 : 256 * (x / P / 256) + x / P % 256 = x / P := Int.mul_ediv_add_emod (x / P) 256
  have h3 := Int.emod_nonneg x (Int.ne_of_gt hP)
  have h4 := Int.emod_lt_of_pos x hP
  have h5 : 0 ≤ x / P % 256 := Int.emod_nonneg _ (by decide)
  have h6 : x / P % 256 < 256 := Int.emod_lt_of_pos _ (by decide)
  have e : x = (x % P + P * (x / P % 256)) + (P * 256) * (x / P / 256) := by
    have : P * (256 * (x / P / 256) + x / P % 256) + x % P = x := by rw [h2]; exact h1
    rw [Int.mul_add, ← Int.mul_assoc] at this
    omega
  have hb : 0 ≤ P * (x / P % 256) := Int.mul_nonneg (Int.le_of_lt hP) h5
  have hc : P * (x / P % 256) ≤ P * 255 := Int.mul_le_mul_of_nonneg_left (by omega) (Int.le_of_lt hP)
  rw [show x % (P * 256) = ((x % P + P * (x / P % 256)) + (P * 256) * (x / P / 256)) % (P * 256) from congrArg (· % (P * 256)) e, Int.add_mul_emod_self_left]
  exact (Int.emod_eq_of_lt (a := x % P + P * (x / P % 256)) (by omega) (by omega)).symm

theorem le_enc (x : Int) : ∀ w : Nat, ((le (enc w x) : Nat) : Int) = x % 256 ^ w
  | 0 => by simp [le, Int.emod_one]
  | w + 1 => by
    have hp : (0 : Int) < 256 ^ w := by have := pow_ge1 w; omega
    rw [enc_succ, le_snoc, enc_length, Int.natCast_add, Int.natCast_mul, le_enc x w, u8_val, Int.natCast_pow, Int.pow_succ]
    exact emod_step hp

theorem num_enc {w x : Int} {rest : List UInt8} (h1 : 1 ≤ w) (h2 : w ≤ 8) (hx : 0 ≤ x ∧ x < 256 ^ w.toNat) : (⟨enc w.toNat x ++ rest, 0, true⟩ : Rd).num w = (x.toNat, ⟨rest, 0, true⟩) := by
  unfold Rd.num
  rw [if_neg (by omega)]
  unfold Rd.take
  rw [if_neg (by simp), if_neg (by omega), if_neg (by simp; omega)]
  have e1 : (enc w.toNat x ++ rest).take w.toNat = enc w.toNat x := List.take_left' (by simp)
  have e2 : (enc w.toNat x ++ rest).drop w.toNat = rest := List.drop_left' (by simp)
  simp only [e1, e2]
  have h3 := le_enc x w.toNat
  rw [Int.emod_eq_of_lt hx.1 hx.2] at h3
  congr 1
  omega

theorem sx_mod {w x : Int} (h1 : 1 ≤ w) (h2 : w ≤ 8) (hx : ¬ (x < -(256 ^ w.toNat / 2) ∨ 256 ^ w.toNat / 2 ≤ x)) : sx w (x % 256 ^ w.toNat).toNat = x := by
  have hh := half_le h1 h2
  have e : ((256 : Int) ^ w.toNat) = ((256 ^ w.toNat : Nat) : Int) := by rw [Int.natCast_pow]; rfl
  unfold sx
  rw [e] at hh hx ⊢
  generalize 256 ^ w.toNat = P at hh hx ⊢
  by_cases h : 0 ≤ x
  · rw [Int.emod_eq_of_lt h (by omega), if_pos (by omega)]
    omega
  · have : x % (P : Int) = x + P := by
      rw [← Int.add_emod_right, Int.emod_eq_of_lt (by omega) (by omega)]
    rw [this, if_neg (by omega)]
    omega
theorem take_short {r : Rd} {w : Int} (hm : r.made = true) (he : r.e = 0) (h1 : 1 ≤ w) (h2 : w ≤ 8) : (r.num w).2.made = true ∧ ((w ≤ r.l.length ∧ (r.num w).2.e = 0 ∧ ((r.num w).2.l.length : Int) = r.l.length - w) ∨ (r.l.length < w ∧ (r.num w).2.e = 4)) := by
  unfold Rd.num
  rw [if_neg (by omega)]
  unfold Rd.take
  rw [if_neg (by simp [hm, he]), if_neg (by omega)]
  by_cases h : (r.l.length : Int) < w
  · rw [if_pos h]
    exact ⟨hm, .inr ⟨h, rfl⟩⟩
  · rw [if_neg h]
    refine ⟨hm, .inl ⟨by omega, he, ?_⟩⟩
    simp; omega

theorem drop_get {α : Type} {l : List α} {k : Nat} {x : α} (h : l[k]? = some x) : l.drop k = x :: l.drop (k + 1) := by
  obtain ⟨hk, rfl⟩ := List.getElem?_eq_some_iff.1 h
  exact List.drop_eq_getElem_cons hk

theorem puts_in {b : List UInt8} {w : Int} {n : List Int} (h1 : 1 ≤ w) (h2 : w ≤ 8) (h : ∀ x ∈ n, 0 ≤ x ∧ x < 256 ^ w.toNat) : puts b w n = (b ++ n.flatMap (enc w.toNat), 0) :=
  puts_ok h1 h2 (by
    rw [List.any_eq_false]
    intro x hx
    have := h x hx
    simp; omega)

theorem num_take {r : Rd} {w : Int} (h1 : 1 ≤ w) (h2 : w ≤ 8) : r.num w = (le (r.take w).1, (r.take w).2) := by
  unfold Rd.num; rw [if_neg (by omega)]
theorem num_ok {l : List UInt8} {w : Int} (h1 : 1 ≤ w) (h2 : w ≤ 8) (hl : w ≤ l.length) : (⟨l, 0, true⟩ : Rd).num w = (le (l.take w.toNat), ⟨l.drop w.toNat, 0, true⟩) := by
  rw [num_take h1 h2]
  unfold Rd.take
  rw [if_neg (by simp), if_neg (by omega), if_neg (by simpa using hl)]
theorem num1 (c : UInt8) (l : List UInt8) : (⟨c :: l, 0, true⟩ : Rd).num 1 = (c.toNat, ⟨l, 0, true⟩) := by
  rw [num_ok (by omega) (by omega) (by simp; omega)]
  simp [le]
theorem enc_cons (w : Nat) (c : UInt8) (L : Nat) : enc (w + 1) ((c.toNat + 256 * L : Nat) : Int) = c :: enc w L := by
  unfold enc
  rw [List.range_succ_eq_map, List.map_cons, List.map_map]
  congr 1
  · have hc := c.toNat_lt
    have : ((c.toNat + 256 * L : Nat) : Int) / 256 ^ 0 = ((c.toNat + 256 * L : Nat) : Int) := by simp
    rw [this, ← u8_mod, show ((c.toNat + 256 * L : Nat) : Int) % 256 = c.toNat by omega, u8_toNat]
  · apply List.map_congr_left
    intro i _
    simp only [Function.comp_def, Nat.succ_eq_add_one]
    rw [Int.pow_succ', ← Int.ediv_ediv_of_nonneg (show (0 : Int) ≤ 256 by decide), show ((c.toNat + 256 * L : Nat) : Int) / 256 = L by have := c.toNat_lt; omega]
theorem enc_le : ∀ (l : List UInt8), enc l.length (le l) = l
  | [] => rfl
  | c :: l => by
    have : le (c :: l) = c.toNat + 256 * le l := rfl
    rw [this, List.length_cons, enc_cons, enc_le l]
theorem enc_le' {p : List UInt8} {w : Nat} (hp : p.length = w) : enc w (le p) = p := by rw [← hp]; exact enc_le p

/-- A reading and a writing that fit. -/
structure Fits {α : Type} (f : Rd → α × Rd) (g : α → List UInt8) (ok : α → Prop) : Prop where
  made : ∀ r : Rd, r.made = true → (f r).2.made = true
  good : ∀ r : Rd, ok (f r).1
  back : ∀ r : Rd, r.made = true → (f r).2.e = 0 → r.e = 0 ∧ r.l = g (f r).1 ++ (f r).2.l
  there : ∀ (x : α) (l : List UInt8), ok x → f ⟨g x ++ l, 0, true⟩ = (x, ⟨l, 0, true⟩)

theorem num_fits {w : Int} (h1 : 1 ≤ w) (h2 : w ≤ 8) : Fits (fun r => r.num w) (fun x : Nat => enc w.toNat x) (fun x => x < 256 ^ w.toNat) := by
  refine ⟨fun r hm => ?_, fun r => num_lt r h1 h2, fun r hm he => ?_, fun x l hx => ?_⟩
  · rw [num_take h1 h2]
    unfold Rd.take
    split
    · exact hm
    · split
      · exact hm
      · split <;> exact hm
  · rw [num_take h1 h2] at he ⊢
    unfold Rd.take at he ⊢
    split at he
    · rename_i hh; rcases hh with hh | hh
      · rw [hm] at hh; cases hh
      · exact (hh he).elim
    · rename_i hh
      split at he
      · cases he
      · split at he
        · cases he
        · rename_i h3 h4
          rw [if_neg hh, if_neg h3, if_neg h4]
          simp only [hm, not_or, Decidable.not_not] at hh
          refine ⟨hh.2, ?_⟩
          dsimp only
          rw [enc_le' (by simp; omega), List.take_append_drop]
  · have e : ((256 ^ w.toNat : Nat) : Int) = 256 ^ w.toNat := by rw [Int.natCast_pow]; rfl
    have := num_enc (w := w) (x := (x : Int)) (rest := l) h1 h2 ⟨by omega, by rw [← e]; exact Int.ofNat_lt.2 hx⟩
    simpa using this

/-- The reading of some, one behind the other. -/
def rdN {α : Type} (f : Rd → α × Rd) : Nat → Rd → List α × Rd
  | 0, r => ([], r)
  | n + 1, r => ((rdN f n r).1 ++ [(f (rdN f n r).2).1], (f (rdN f n r).2).2)
theorem rdN_len {α : Type} (f : Rd → α × Rd) (n : Nat) (r : Rd) : (rdN f n r).1.length = n := by
  induction n with
  | zero => rfl
  | succ n ih => simp [rdN, ih]
theorem rdN_cons {α : Type} (f : Rd → α × Rd) (n : Nat) (r : Rd) : rdN f (n + 1) r = ((f r).1 :: (rdN f n (f r).2).1, (rdN f n (f r).2).2) := by
  induction n with
  | zero => rfl
  | succ n ih =>
    have e : rdN f (n + 1 + 1) r = ((rdN f (n + 1) r).1 ++ [(f (rdN f (n + 1) r).2).1], (f (rdN f (n + 1) r).2).2) := rfl
    rw [e, ih]
    rfl

/-- The writing of some. -/
theorem rdN_fits {α : Type} {f : Rd → α × Rd} {g : α → List UInt8} {ok : α → Prop} (h : Fits f g ok) (n : Nat) :
    Fits (rdN f n) (fun l => l.flatMap g) (fun l => l.length = n ∧ ∀ x ∈ l, ok x) := by
  induction n with
  | zero =>
    refine ⟨fun r hm => hm, fun r => ⟨rfl, fun x hx => by simp [rdN] at hx⟩, fun r hm he => ⟨he, by simp [rdN]⟩, fun l b hl => ?_⟩
    have : l = [] := List.eq_nil_of_length_eq_zero hl.1
    subst this
    rfl
  | succ n ih =>
    refine ⟨fun r hm => h.made _ (ih.made r hm), fun r => ⟨rdN_len f _ r, fun x hx => ?_⟩, fun r hm he => ?_, fun l b hl => ?_⟩
    · rw [rdN] at hx
      simp only [List.mem_append, List.mem_singleton] at hx
      rcases hx with hx | hx
      · exact (ih.good r).2 x hx
      · rw [hx]; exact h.good _
    · have h1 := h.back _ (ih.made r hm) he
      have h2 := ih.back r hm h1.1
      refine ⟨h2.1, ?_⟩
      rw [h2.2, h1.2]
      simp [rdN]
    · match l, hl with
      | [], hl => simp at hl
      | x :: l, hl =>
        rw [rdN_cons]
        have := h.there x (l.flatMap g ++ b) (hl.2 x (by simp))
        rw [List.flatMap_cons, List.append_assoc, this]
        dsimp only
        rw [ih.there l b ⟨by simpa using hl.1, fun y hy => hl.2 y (by simp [hy])⟩]

/-- A reading behind another one. -/
theorem Fits.seq {α β : Type} {f : Rd → α × Rd} {g : α → List UInt8} {ok : α → Prop} {f' : Rd → β × Rd} {g' : β → List UInt8} {ok' : β → Prop} (h : Fits f g ok) (h' : Fits f' g' ok') :
    Fits (fun r => (((f r).1, (f' (f r).2).1), (f' (f r).2).2)) (fun x : α × β => g x.1 ++ g' x.2) (fun x => ok x.1 ∧ ok' x.2) := by
  refine ⟨fun r hm => h'.made _ (h.made r hm), fun r => ⟨h.good r, h'.good _⟩, fun r hm he => ?_, fun x l hx => ?_⟩
  · have h1 := h'.back _ (h.made r hm) he
    have h2 := h.back r hm h1.1
    exact ⟨h2.1, by rw [h2.2, h1.2, List.append_assoc]⟩
  · rw [List.append_assoc, h.there x.1 _ hx.1]
    rw [h'.there x.2 l hx.2]
/-- The same, told otherwise. -/
theorem Fits.as {α β : Type} {f : Rd → α × Rd} {g : α → List UInt8} {ok : α → Prop} (h : Fits f g ok) (to : α → β) (of : β → α) (g' : β → List UInt8) (ok' : β → Prop)
    (h1 : ∀ x, ok x → g' (to x) = g x) (h2 : ∀ x, ok x → ok' (to x)) (h3 : ∀ y, ok' y → g' y = g (of y) ∧ ok (of y) ∧ to (of y) = y) : Fits (fun r => (to (f r).1, (f r).2)) g' ok' := by
  refine ⟨h.made, fun r => h2 _ (h.good r), fun r hm he => ?_, fun y l hy => ?_⟩
  · have := h.back r hm he
    exact ⟨this.1, by rw [this.2, h1 _ (h.good r)]⟩
  · have h4 := h3 y hy
    rw [h4.1, h.there _ _ h4.2.1, h4.2.2]

/-- A number that may be below 0. -/
theorem int_fits {w : Int} (h1 : 1 ≤ w) (h2 : w ≤ 7) : Fits (fun r => r.int w) (fun x : Int => enc w.toNat (x % 256 ^ w.toNat)) (fun x => -(256 ^ w.toNat / 2) ≤ x ∧ x < 256 ^ w.toNat / 2) := by
  have e : (fun r : Rd => r.int w) = fun r => (sx w (r.num w).1, (r.num w).2) := by
    funext r
    unfold Rd.int
    rw [if_neg (by omega)]
  rw [e]
  have e2 : ((256 ^ w.toNat : Nat) : Int) = 256 ^ w.toNat := by rw [Int.natCast_pow]; rfl
  have hev : (256 ^ w.toNat : Int) = 2 * (256 ^ w.toNat / 2) ∧ (128 : Int) ≤ 256 ^ w.toNat / 2 := by
    obtain h | h | h | h | h | h | h : w = 1 ∨ w = 2 ∨ w = 3 ∨ w = 4 ∨ w = 5 ∨ w = 6 ∨ w = 7 := by omega
    all_goals (subst h; decide)
  refine (num_fits h1 (by omega)).as (sx w) (fun x => (x % 256 ^ w.toNat).toNat) _ _ (fun x hx => ?_) (fun x hx => ?_) (fun y hy => ?_)
  · unfold sx
    rw [← e2] at hev ⊢
    generalize 256 ^ w.toNat = P at hx hev ⊢
    split
    · rw [Int.emod_eq_of_lt (by omega) (by omega)]
    · rw [Int.sub_emod_right, Int.emod_eq_of_lt (by omega) (by omega)]
  · unfold sx
    rw [← e2] at hev ⊢
    generalize 256 ^ w.toNat = P at hx hev ⊢
    split <;> omega
  · unfold sx
    rw [← e2] at hev hy ⊢
    generalize 256 ^ w.toNat = P at hev hy ⊢
    have h3 := Int.emod_nonneg y (show (P : Int) ≠ 0 by omega)
    have h4 := Int.emod_lt_of_pos y (show (0 : Int) < P by omega)
    refine ⟨by rw [Int.toNat_of_nonneg h3], by omega, ?_⟩
    by_cases hn : 0 ≤ y
    · rw [Int.emod_eq_of_lt hn (by omega), if_pos (by omega)]
      omega
    · have : y % P = y + P := by rw [← Int.add_emod_right, Int.emod_eq_of_lt (by omega) (by omega)]
      rw [this, if_neg (by omega)]
      omega
end Go.UM

/- Package manifest, part 2: a manifest's bytes, and the document's. -/



namespace Go.UM
open Go.AM
set_option maxRecDepth 4000

theorem put1 {b : List UInt8} {w x : Int} (h1 : 1 ≤ w) (h2 : w ≤ 8) (hx : 0 ≤ x ∧ x < 256 ^ w.toNat) : puts b w [x] = (b ++ enc w.toNat x, 0) := by
  rw [puts_in h1 h2 (by simpa using hx)]; simp
theorem put3 {b : List UInt8} {w x y z : Int} (h1 : 1 ≤ w) (h2 : w ≤ 8) (hx : 0 ≤ x ∧ x < 256 ^ w.toNat) (hy : 0 ≤ y ∧ y < 256 ^ w.toNat) (hz : 0 ≤ z ∧ z < 256 ^ w.toNat) : puts b w [x, y, z] = (b ++ enc w.toNat x ++ enc w.toNat y ++ enc w.toNat z, 0) := by
  rw [puts_in h1 h2 (by simpa using ⟨hx, hy, hz⟩)]; simp
theorem enc_len (w : Nat) (x : Int) : (enc w x).length = w := by simp [enc]

def Mf.masks (m : Mf) : List UInt8 := [u8 m.m0, u8 m.m1, u8 m.m2, u8 m.m3, u8 m.m4, u8 m.m5, u8 m.m6, u8 m.m7]
def Mf.head (m : Mf) : List UInt8 := enc 8 m.id ++ enc 1 m.kind ++ enc 4 m.label
def Mf.tail (m : Mf) : List UInt8 := enc 4 m.first ++ (enc 4 m.last ++ (enc 4 m.size ++ enc 2 m.chunks))
def Mf.enc (m : Mf) : List UInt8 := m.head ++ m.masks ++ m.tail
def mencs (m : Mf) : List UInt8 × Int := if chk m = 0 then (m.enc, 0) else ([], chk m)
theorem Mf.enc_len (m : Mf) : m.enc.length = 35 := by simp [Mf.enc, Mf.head, Mf.masks, Mf.tail, UM.enc_len]

/-- What may be. -/
structure Mf.May (m : Mf) : Prop where
  kind : 1 ≤ m.kind ∧ m.kind ≤ 4
  mask : ∀ i, i < 8 → m.mask i ≤ 15
  span : m.first ≤ m.last
  size : 1 ≤ m.size ∧ m.size ≤ 2048
  chunks : m.chunks = chn m.size
theorem chk_may {m : Mf} (h : chk m = 0) : m.May := by
  unfold chk at h
  split at h
  · cases h
  · rename_i h1
    split at h
    · cases h
    · rename_i h2
      split at h
      · cases h
      · rename_i h3
        split at h
        · cases h
        · rename_i h4
          split at h
          · cases h
          · rename_i h5
            refine ⟨?_, ?_, by omega, ?_, by simpa using h5⟩
            · unfold cap at h1
              repeat' split at h1
              all_goals omega
            · intro i hi
              rcases Int.lt_or_le 15 (m.mask i) with h6 | h6
              · exact absurd (Mf.high_t hi h6) h2
              · exact h6
            · unfold cap at h4 h1
              repeat' split at h4
              all_goals omega
theorem Mf.May.chunk {m : Mf} (h : m.May) : 0 ≤ m.chunks ∧ m.chunks ≤ 8 := by
  rw [h.chunks]; have := h.size; unfold chn; omega

theorem masks_app {m : Mf} (ok : m.Ok) (b : List UInt8) : slc8 b ++ [[AV.int .u8 m.m0], [AV.int .u8 m.m1], [AV.int .u8 m.m2], [AV.int .u8 m.m3], [AV.int .u8 m.m4], [AV.int .u8 m.m5], [AV.int .u8 m.m6], [AV.int .u8 m.m7]] = slc8 (b ++ m.masks) := by
  have h := ok.mask
  have h0 : ((u8 m.m0).toNat : Int) = m.m0 := u8_in (h 0)
  have h1 : ((u8 m.m1).toNat : Int) = m.m1 := u8_in (h 1)
  have h2 : ((u8 m.m2).toNat : Int) = m.m2 := u8_in (h 2)
  have h3 : ((u8 m.m3).toNat : Int) = m.m3 := u8_in (h 3)
  have h4 : ((u8 m.m4).toNat : Int) = m.m4 := u8_in (h 4)
  have h5 : ((u8 m.m5).toNat : Int) = m.m5 := u8_in (h 5)
  have h6 : ((u8 m.m6).toNat : Int) = m.m6 := u8_in (h 6)
  have h7 : ((u8 m.m7).toNat : Int) = m.m7 := u8_in (h 7)
  rw [slc8_append]
  simp only [Mf.masks, slc8, List.map_cons, List.map_nil, h0, h1, h2, h3, h4, h5, h6, h7]

theorem mencode_c {R : Env} (h : N45 R) (m : Mf) (ok : m.Ok) : R.Pc 45 [.agg m.row] (.tup [.isl 1 (slc8 (mencs m).1), .int .i64 (mencs m).2]) :=
  h.o45.enter 100 rfl fun X bb hfit hp => by
    repeat ((intro _u; clear _u); first | with_reducible first | refine cT ?_ | refine cF ?_ | refine cA ?_ | refine cB ?_ | refine aLn ?_ | refine cK ?_ | refine aS8 ?_ | refine wI ?_ | refine nD ?_ | refine aX rfl ?_ | refine vL rfl ?_)
    intro _u; clear _u
    refine ICall.pure h.n41.o41.hb (chk_c h.n41 m ok.size) rfl ?_
    repeat ((intro _u; clear _u); first | with_reducible first | refine cT ?_ | refine cF ?_ | refine cA ?_ | refine cB ?_ | refine aLn ?_ | refine cK ?_ | refine aS8 ?_ | refine wI ?_ | refine nD ?_ | refine aX rfl ?_ | refine vL rfl ?_)
    intro _u; clear _u
    refine cS (fun h1 => ?_) (fun h1 => ?_)
    · rw [mencs, if_neg h1]
      repeat ((intro _u; clear _u); first | with_reducible first | refine cT ?_ | refine cF ?_ | refine cA ?_ | refine cB ?_ | refine aLn ?_ | refine cK ?_ | refine aS8 ?_ | refine wI ?_ | refine nD ?_ | refine aX rfl ?_ | refine vL rfl ?_)
      intro _u; clear _u
      exact rT
    · have hc : chk m = 0 := by omega
      rw [mencs, if_pos hc]
      have may := chk_may hc
      have mk := may.kind
      have mc := may.chunk
      have ms := may.size
      have okid := ok.id
      have okl := ok.label
      have okf := ok.first
      have oka := ok.last
      simp only [inI] at okid okl okf oka
      have c1 := put_c h.n54 [] 8 [m.id] (by simp) (by simpa using by omega)
      rw [put1 (by omega) (by omega) (by simpa using by omega)] at c1
      repeat ((intro _u; clear _u); first | with_reducible first | refine cT ?_ | refine cF ?_ | refine cA ?_ | refine cB ?_ | refine aLn ?_ | refine cK ?_ | refine aS8 ?_ | refine wI ?_ | refine nD ?_ | refine aX rfl ?_ | refine vL rfl ?_)
      intro _u; clear _u
      refine cM true [] (c1) ?_
      repeat ((intro _u; clear _u); first | refine eK ?_ | refine eP ?_)
      have c2 := put_c h.n54 ([] ++ UM.enc (Int.toNat 8) m.id) 1 [m.kind] (by simp [enc_len]) (by simpa using by omega)
      rw [put1 (by omega) (by omega) (by simpa using by omega)] at c2
      repeat ((intro _u; clear _u); first | with_reducible first | refine cT ?_ | refine cF ?_ | refine cA ?_ | refine cB ?_ | refine aLn ?_ | refine cK ?_ | refine aS8 ?_ | refine wI ?_ | refine nD ?_ | refine aX rfl ?_ | refine vL rfl ?_)
      intro _u; clear _u
      refine cM true [] (c2) ?_
      repeat ((intro _u; clear _u); first | refine eK ?_ | refine eP ?_)
      have c3 := put_c h.n54 ([] ++ UM.enc (Int.toNat 8) m.id ++ UM.enc (Int.toNat 1) m.kind) 4 [m.label] (by simp [enc_len]) (by simpa using by omega)
      rw [put1 (by omega) (by omega) (by simpa using by omega)] at c3
      repeat ((intro _u; clear _u); first | with_reducible first | refine cT ?_ | refine cF ?_ | refine cA ?_ | refine cB ?_ | refine aLn ?_ | refine cK ?_ | refine aS8 ?_ | refine wI ?_ | refine nD ?_ | refine aX rfl ?_ | refine vL rfl ?_)
      intro _u; clear _u
      refine cM true [] (c3) ?_
      repeat ((intro _u; clear _u); first | refine eK ?_ | refine eP ?_)
      repeat ((intro _u; clear _u); first | with_reducible first | refine cT ?_ | refine cF ?_ | refine cA ?_ | refine cB ?_ | refine aLn ?_ | refine cK ?_ | refine aS8 ?_ | refine wI ?_ | refine nD ?_ | refine aX rfl ?_ | refine vL rfl ?_)
      rw [masks_app ok]
      have c4 := put_c h.n54 ([] ++ UM.enc (Int.toNat 8) m.id ++ UM.enc (Int.toNat 1) m.kind ++ UM.enc (Int.toNat 4) m.label ++ m.masks) 4 [m.first, m.last, m.size] (by simp [enc_len, Mf.masks]) (by simpa using by omega)
      rw [put3 (by omega) (by omega) (by simpa using by omega) (by simpa using by omega) (by simpa using by omega)] at c4
      repeat ((intro _u; clear _u); first | with_reducible first | refine cT ?_ | refine cF ?_ | refine cA ?_ | refine cB ?_ | refine aLn ?_ | refine cK ?_ | refine aS8 ?_ | refine wI ?_ | refine nD ?_ | refine aX rfl ?_ | refine vL rfl ?_)
      intro _u; clear _u
      refine cM true [] (c4) ?_
      repeat ((intro _u; clear _u); first | refine eK ?_ | refine eP ?_)
      have c5 := put_c h.n54 ([] ++ UM.enc (Int.toNat 8) m.id ++ UM.enc (Int.toNat 1) m.kind ++ UM.enc (Int.toNat 4) m.label ++ m.masks ++ UM.enc (Int.toNat 4) m.first ++ UM.enc (Int.toNat 4) m.last ++ UM.enc (Int.toNat 4) m.size) 2 [m.chunks] (by simp [enc_len, Mf.masks]) (by simpa using by omega)
      rw [put1 (by omega) (by omega) (by simpa using by omega)] at c5
      repeat ((intro _u; clear _u); first | with_reducible first | refine cT ?_ | refine cF ?_ | refine cA ?_ | refine cB ?_ | refine aLn ?_ | refine cK ?_ | refine aS8 ?_ | refine wI ?_ | refine nD ?_ | refine aX rfl ?_ | refine vL rfl ?_)
      intro _u; clear _u
      refine cM true [] (c5) ?_
      repeat ((intro _u; clear _u); first | refine eK ?_ | refine eP ?_)
      repeat ((intro _u; clear _u); first | with_reducible first | refine cT ?_ | refine cF ?_ | refine cA ?_ | refine cB ?_ | refine aLn ?_ | refine cK ?_ | refine aS8 ?_ | refine wI ?_ | refine nD ?_ | refine aX rfl ?_ | refine vL rfl ?_)
      intro _u; clear _u
      exact rT

theorem masks_app' {m : Mf} (ok : m.Ok) (b : List UInt8) : slc8 b ++ [[AV.int .u8 m.m0]] ++ [[AV.int .u8 m.m1]] ++ [[AV.int .u8 m.m2]] ++ [[AV.int .u8 m.m3]] ++ [[AV.int .u8 m.m4]] ++ [[AV.int .u8 m.m5]] ++ [[AV.int .u8 m.m6]] ++ [[AV.int .u8 m.m7]] = slc8 (b ++ m.masks) := by
  rw [← masks_app ok]; simp only [List.append_assoc, List.cons_append, List.nil_append]


theorem rmencode_c {R : Env} (h : N46 R) (m : Mf) (ok : m.Ok) : R.Pc 46 [.agg m.row] (.tup [.isl 1 (slc8 (mencs m).1), .int .i64 (mencs m).2]) :=
  h.o46.enter 100 rfl fun X bb hfit hp => by
    repeat ((intro _u; clear _u); first | with_reducible first | refine cT ?_ | refine cF ?_ | refine cA ?_ | refine cB ?_ | refine aLn ?_ | refine cK ?_ | refine aS8 ?_ | refine wI ?_ | refine nD ?_ | refine aX rfl ?_ | refine vL rfl ?_)
    intro _u; clear _u
    refine ICall.pure h.n42.o42.hb (rchk_c h.n42 m ok.size) rfl ?_
    repeat ((intro _u; clear _u); first | with_reducible first | refine cT ?_ | refine cF ?_ | refine cA ?_ | refine cB ?_ | refine aLn ?_ | refine cK ?_ | refine aS8 ?_ | refine wI ?_ | refine nD ?_ | refine aX rfl ?_ | refine vL rfl ?_)
    intro _u; clear _u
    refine cS (fun h1 => ?_) (fun h1 => ?_)
    · rw [mencs, if_neg h1]
      repeat ((intro _u; clear _u); first | with_reducible first | refine cT ?_ | refine cF ?_ | refine cA ?_ | refine cB ?_ | refine aLn ?_ | refine cK ?_ | refine aS8 ?_ | refine wI ?_ | refine nD ?_ | refine aX rfl ?_ | refine vL rfl ?_)
      intro _u; clear _u
      exact rT
    · have hc : chk m = 0 := by omega
      rw [mencs, if_pos hc]
      have may := chk_may hc
      have mk := may.kind
      have mc := may.chunk
      have ms := may.size
      have okid := ok.id
      have okl := ok.label
      have okf := ok.first
      have oka := ok.last
      simp only [inI] at okid okl okf oka
      have c1 := rput_c h.n55 [] 8 [m.id] (by simp) (by simpa using by omega)
      rw [put1 (by omega) (by omega) (by simpa using by omega)] at c1
      repeat ((intro _u; clear _u); first | with_reducible first | refine cT ?_ | refine cF ?_ | refine cA ?_ | refine cB ?_ | refine aLn ?_ | refine cK ?_ | refine aS8 ?_ | refine wI ?_ | refine nD ?_ | refine aX rfl ?_ | refine vL rfl ?_)
      intro _u; clear _u
      refine cM true [] (c1) ?_
      repeat ((intro _u; clear _u); first | refine eK ?_ | refine eP ?_)
      have c2 := rput_c h.n55 ([] ++ UM.enc (Int.toNat 8) m.id) 1 [m.kind] (by simp [enc_len]) (by simpa using by omega)
      rw [put1 (by omega) (by omega) (by simpa using by omega)] at c2
      repeat ((intro _u; clear _u); first | with_reducible first | refine cT ?_ | refine cF ?_ | refine cA ?_ | refine cB ?_ | refine aLn ?_ | refine cK ?_ | refine aS8 ?_ | refine wI ?_ | refine nD ?_ | refine aX rfl ?_ | refine vL rfl ?_)
      intro _u; clear _u
      refine cM true [] (c2) ?_
      repeat ((intro _u; clear _u); first | refine eK ?_ | refine eP ?_)
      have c3 := rput_c h.n55 ([] ++ UM.enc (Int.toNat 8) m.id ++ UM.enc (Int.toNat 1) m.kind) 4 [m.label] (by simp [enc_len]) (by simpa using by omega)
      rw [put1 (by omega) (by omega) (by simpa using by omega)] at c3
      repeat ((intro _u; clear _u); first | with_reducible first | refine cT ?_ | refine cF ?_ | refine cA ?_ | refine cB ?_ | refine aLn ?_ | refine cK ?_ | refine aS8 ?_ | refine wI ?_ | refine nD ?_ | refine aX rfl ?_ | refine vL rfl ?_)
      intro _u; clear _u
      refine cM true [] (c3) ?_
      repeat ((intro _u; clear _u); first | refine eK ?_ | refine eP ?_)
      repeat ((intro _u; clear _u); first | with_reducible first | refine cT ?_ | refine cF ?_ | refine cA ?_ | refine cB ?_ | refine aLn ?_ | refine cK ?_ | refine aS8 ?_ | refine wI ?_ | refine nD ?_ | refine aX rfl ?_ | refine vL rfl ?_)
      intro _u; clear _u
      refine ILoop.one 100 ?_
      repeat ((intro _u; clear _u); first | with_reducible first | refine cT ?_ | refine cF ?_ | refine cA ?_ | refine cB ?_ | refine aLn ?_ | refine cK ?_ | refine aS8 ?_ | refine wI ?_ | refine nD ?_ | refine aX rfl ?_ | refine vL rfl ?_)
      intro _u; clear _u
      refine acnd_t (by decide) ?_
      repeat ((intro _u; clear _u); first | with_reducible first | refine cT ?_ | refine cF ?_ | refine cA ?_ | refine cB ?_ | refine aLn ?_ | refine cK ?_ | refine aS8 ?_ | refine wI ?_ | refine nD ?_ | refine aX rfl ?_ | refine vL rfl ?_)
      intro _u; clear _u
      refine ILoop.one 100 ?_
      repeat ((intro _u; clear _u); first | with_reducible first | refine cT ?_ | refine cF ?_ | refine cA ?_ | refine cB ?_ | refine aLn ?_ | refine cK ?_ | refine aS8 ?_ | refine wI ?_ | refine nD ?_ | refine aX rfl ?_ | refine vL rfl ?_)
      intro _u; clear _u
      refine acnd_t (by decide) ?_
      repeat ((intro _u; clear _u); first | with_reducible first | refine cT ?_ | refine cF ?_ | refine cA ?_ | refine cB ?_ | refine aLn ?_ | refine cK ?_ | refine aS8 ?_ | refine wI ?_ | refine nD ?_ | refine aX rfl ?_ | refine vL rfl ?_)
      intro _u; clear _u
      refine ILoop.one 100 ?_
      repeat ((intro _u; clear _u); first | with_reducible first | refine cT ?_ | refine cF ?_ | refine cA ?_ | refine cB ?_ | refine aLn ?_ | refine cK ?_ | refine aS8 ?_ | refine wI ?_ | refine nD ?_ | refine aX rfl ?_ | refine vL rfl ?_)
      intro _u; clear _u
      refine acnd_t (by decide) ?_
      repeat ((intro _u; clear _u); first | with_reducible first | refine cT ?_ | refine cF ?_ | refine cA ?_ | refine cB ?_ | refine aLn ?_ | refine cK ?_ | refine aS8 ?_ | refine wI ?_ | refine nD ?_ | refine aX rfl ?_ | refine vL rfl ?_)
      intro _u; clear _u
      refine ILoop.one 100 ?_
      repeat ((intro _u; clear _u); first | with_reducible first | refine cT ?_ | refine cF ?_ | refine cA ?_ | refine cB ?_ | refine aLn ?_ | refine cK ?_ | refine aS8 ?_ | refine wI ?_ | refine nD ?_ | refine aX rfl ?_ | refine vL rfl ?_)
      intro _u; clear _u
      refine acnd_t (by decide) ?_
      repeat ((intro _u; clear _u); first | with_reducible first | refine cT ?_ | refine cF ?_ | refine cA ?_ | refine cB ?_ | refine aLn ?_ | refine cK ?_ | refine aS8 ?_ | refine wI ?_ | refine nD ?_ | refine aX rfl ?_ | refine vL rfl ?_)
      intro _u; clear _u
      refine ILoop.one 100 ?_
      repeat ((intro _u; clear _u); first | with_reducible first | refine cT ?_ | refine cF ?_ | refine cA ?_ | refine cB ?_ | refine aLn ?_ | refine cK ?_ | refine aS8 ?_ | refine wI ?_ | refine nD ?_ | refine aX rfl ?_ | refine vL rfl ?_)
      intro _u; clear _u
      refine acnd_t (by decide) ?_
      repeat ((intro _u; clear _u); first | with_reducible first | refine cT ?_ | refine cF ?_ | refine cA ?_ | refine cB ?_ | refine aLn ?_ | refine cK ?_ | refine aS8 ?_ | refine wI ?_ | refine nD ?_ | refine aX rfl ?_ | refine vL rfl ?_)
      intro _u; clear _u
      refine ILoop.one 100 ?_
      repeat ((intro _u; clear _u); first | with_reducible first | refine cT ?_ | refine cF ?_ | refine cA ?_ | refine cB ?_ | refine aLn ?_ | refine cK ?_ | refine aS8 ?_ | refine wI ?_ | refine nD ?_ | refine aX rfl ?_ | refine vL rfl ?_)
      intro _u; clear _u
      refine acnd_t (by decide) ?_
      repeat ((intro _u; clear _u); first | with_reducible first | refine cT ?_ | refine cF ?_ | refine cA ?_ | refine cB ?_ | refine aLn ?_ | refine cK ?_ | refine aS8 ?_ | refine wI ?_ | refine nD ?_ | refine aX rfl ?_ | refine vL rfl ?_)
      intro _u; clear _u
      refine ILoop.one 100 ?_
      repeat ((intro _u; clear _u); first | with_reducible first | refine cT ?_ | refine cF ?_ | refine cA ?_ | refine cB ?_ | refine aLn ?_ | refine cK ?_ | refine aS8 ?_ | refine wI ?_ | refine nD ?_ | refine aX rfl ?_ | refine vL rfl ?_)
      intro _u; clear _u
      refine acnd_t (by decide) ?_
      repeat ((intro _u; clear _u); first | with_reducible first | refine cT ?_ | refine cF ?_ | refine cA ?_ | refine cB ?_ | refine aLn ?_ | refine cK ?_ | refine aS8 ?_ | refine wI ?_ | refine nD ?_ | refine aX rfl ?_ | refine vL rfl ?_)
      intro _u; clear _u
      refine ILoop.one 100 ?_
      repeat ((intro _u; clear _u); first | with_reducible first | refine cT ?_ | refine cF ?_ | refine cA ?_ | refine cB ?_ | refine aLn ?_ | refine cK ?_ | refine aS8 ?_ | refine wI ?_ | refine nD ?_ | refine aX rfl ?_ | refine vL rfl ?_)
      intro _u; clear _u
      refine acnd_t (by decide) ?_
      repeat ((intro _u; clear _u); first | with_reducible first | refine cT ?_ | refine cF ?_ | refine cA ?_ | refine cB ?_ | refine aLn ?_ | refine cK ?_ | refine aS8 ?_ | refine wI ?_ | refine nD ?_ | refine aX rfl ?_ | refine vL rfl ?_)
      intro _u; clear _u
      refine ILoop.one 100 ?_
      repeat ((intro _u; clear _u); first | with_reducible first | refine cT ?_ | refine cF ?_ | refine cA ?_ | refine cB ?_ | refine aLn ?_ | refine cK ?_ | refine aS8 ?_ | refine wI ?_ | refine nD ?_ | refine aX rfl ?_ | refine vL rfl ?_)
      intro _u; clear _u
      refine acnd_f (by decide) ?_
      repeat ((intro _u; clear _u); first | with_reducible first | refine cT ?_ | refine cF ?_ | refine cA ?_ | refine cB ?_ | refine aLn ?_ | refine cK ?_ | refine aS8 ?_ | refine wI ?_ | refine nD ?_ | refine aX rfl ?_ | refine vL rfl ?_)
      rw [masks_app' ok]
      have c4 := rput_c h.n55 ([] ++ UM.enc (Int.toNat 8) m.id ++ UM.enc (Int.toNat 1) m.kind ++ UM.enc (Int.toNat 4) m.label ++ m.masks) 4 [m.first, m.last, m.size] (by simp [enc_len, Mf.masks]) (by simpa using by omega)
      rw [put3 (by omega) (by omega) (by simpa using by omega) (by simpa using by omega) (by simpa using by omega)] at c4
      repeat ((intro _u; clear _u); first | with_reducible first | refine cT ?_ | refine cF ?_ | refine cA ?_ | refine cB ?_ | refine aLn ?_ | refine cK ?_ | refine aS8 ?_ | refine wI ?_ | refine nD ?_ | refine aX rfl ?_ | refine vL rfl ?_)
      intro _u; clear _u
      refine cM true [] (c4) ?_
      repeat ((intro _u; clear _u); first | refine eK ?_ | refine eP ?_)
      have c5 := rput_c h.n55 ([] ++ UM.enc (Int.toNat 8) m.id ++ UM.enc (Int.toNat 1) m.kind ++ UM.enc (Int.toNat 4) m.label ++ m.masks ++ UM.enc (Int.toNat 4) m.first ++ UM.enc (Int.toNat 4) m.last ++ UM.enc (Int.toNat 4) m.size) 2 [m.chunks] (by simp [enc_len, Mf.masks]) (by simpa using by omega)
      rw [put1 (by omega) (by omega) (by simpa using by omega)] at c5
      repeat ((intro _u; clear _u); first | with_reducible first | refine cT ?_ | refine cF ?_ | refine cA ?_ | refine cB ?_ | refine aLn ?_ | refine cK ?_ | refine aS8 ?_ | refine wI ?_ | refine nD ?_ | refine aX rfl ?_ | refine vL rfl ?_)
      intro _u; clear _u
      refine cM true [] (c5) ?_
      repeat ((intro _u; clear _u); first | refine eK ?_ | refine eP ?_)
      repeat ((intro _u; clear _u); first | with_reducible first | refine cT ?_ | refine cF ?_ | refine cA ?_ | refine cB ?_ | refine aLn ?_ | refine cK ?_ | refine aS8 ?_ | refine wI ?_ | refine nD ?_ | refine aX rfl ?_ | refine vL rfl ?_)
      intro _u; clear _u
      exact rT

end Go.UM

/- Package manifest, part 3: what bytes are. -/

namespace Go.UM
open Go.AM
set_option maxRecDepth 4000

theorem dint_c {R : Env} (h : N58 R) (r : Rd) (w : Int) (h1 : 1 ≤ w) (h2 : w ≤ 7) : R.Mc 58 [.agg [.loc 0 1 0 0], .int .i64 w] (rdM R r) (.int .i64 (r.num w).1) (rdM R (r.num w).2) 1 :=
  h.o58.enterM 60 1 rfl rfl rfl fun X bb hfit hp => by
    repeat ((intro _u; clear _u); first | with_reducible first | refine cT ?_ | refine cF ?_ | refine cA ?_ | refine cB ?_ | refine aLn ?_ | refine cK ?_ | refine aS8 ?_ | refine wI ?_ | refine nD ?_ | refine aX rfl ?_ | refine vL rfl ?_)
    intro _u; clear _u
    refine cM false [0] (num_c h.n57 r w) ?_
    repeat ((intro _u; clear _u); first | refine eK ?_ | refine eP ?_)
    have hlt := num_lt r h1 (show w ≤ 8 by omega)
    have hp : (256 : Nat) ^ w.toNat ≤ 256 ^ 7 := Nat.pow_le_pow_right (by decide) (by omega)
    have : ((r.num w).1 : Int) < 9223372036854775808 := by omega
    repeat ((intro _u; clear _u); first | with_reducible first | refine cT ?_ | refine cF ?_ | refine cA ?_ | refine cB ?_ | refine aLn ?_ | refine cK ?_ | refine aS8 ?_ | refine wI ?_ | refine nD ?_ | refine aX rfl ?_ | refine vL rfl ?_)
    intro _u; clear _u
    exact rM [0]

def Mf.zero : Mf := ⟨0, 0, 0, 0, 0, 0, 0, 0, 0, 0, 0, 0, 0, 0, 0⟩
def byt (l : List UInt8) (i : Nat) : Int := (l.getD i 0).toNat
def mchain (r : Rd) : Mf × Rd :=
  let a := r.num 8
  let b := a.2.num 1
  let c := b.2.num 4
  let t := c.2.take 8
  let f := t.2.num 4
  let g := f.2.num 4
  let s := g.2.num 4
  let k := s.2.num 2
  (⟨a.1, b.1, c.1, byt t.1 0, byt t.1 1, byt t.1 2, byt t.1 3, byt t.1 4, byt t.1 5, byt t.1 6, byt t.1 7, f.1, g.1, s.1, k.1⟩, k.2)
def mdec (b : List UInt8) : Mf × Int :=
  let q := mchain ⟨b, 0, true⟩
  if q.2.fin ≠ 0 then (.zero, q.2.fin) else if chk q.1 ≠ 0 then (.zero, chk q.1) else (q.1, 0)

theorem flat8 {l : List UInt8} (h : l.length = 8) : ((slc8 l).take 8).flatten = [.int .u8 (byt l 0), .int .u8 (byt l 1), .int .u8 (byt l 2), .int .u8 (byt l 3), .int .u8 (byt l 4), .int .u8 (byt l 5), .int .u8 (byt l 6), .int .u8 (byt l 7)] := by
  match l, h with
  | [a, b, c, d, e, f, g, k], _ => rfl

theorem take8 (r : Rd) : (r.take 8).1.length = 8 ∨ (r.take 8).1 = [] := by
  unfold Rd.take
  split
  · exact .inr rfl
  · split
    · exact .inr rfl
    · split
      · exact .inr rfl
      · left; simp only [List.length_take]; omega

theorem mdecode_c {R : Env} (h : N49 R) (b : List UInt8) (hb : b.length ≤ 1073741824) : R.Pc 49 [.isl 1 (slc8 b)] (.tup [.agg (mdec b).1.row, .int .i64 (mdec b).2]) :=
  h.o49.enter 100 rfl fun X bb hfit hp => by
    repeat ((intro _u; clear _u); first | with_reducible first | refine cT ?_ | refine cF ?_ | refine cA ?_ | refine cB ?_ | refine aLn ?_ | refine cK ?_ | refine aS8 ?_ | refine wI ?_ | refine nD ?_ | refine aX rfl ?_ | refine vL rfl ?_)
    intro _u; clear _u
    refine cM false [] (new_c h.n56 b hb) ?_
    repeat ((intro _u; clear _u); first | refine eK ?_ | refine eP ?_)
    generalize hr0 : (⟨b, 0, true⟩ : Rd) = r0
    have c1 := num_c h.n57 r0 8
    generalize h1 : r0.num 8 = q1 at c1
    repeat ((intro _u; clear _u); first | with_reducible first | refine cT ?_ | refine cF ?_ | refine cA ?_ | refine cB ?_ | refine aLn ?_ | refine cK ?_ | refine aS8 ?_ | refine wI ?_ | refine nD ?_ | refine aX rfl ?_ | refine vL rfl ?_)
    intro _u; clear _u
    refine cM false [1] (c1) ?_
    repeat ((intro _u; clear _u); first | refine eK ?_ | refine eP ?_)
    have c2 := dint_c h.n58 q1.2 1 (by omega) (by omega)
    generalize h2 : q1.2.num 1 = q2 at c2
    repeat ((intro _u; clear _u); first | with_reducible first | refine cT ?_ | refine cF ?_ | refine cA ?_ | refine cB ?_ | refine aLn ?_ | refine cK ?_ | refine aS8 ?_ | refine wI ?_ | refine nD ?_ | refine aX rfl ?_ | refine vL rfl ?_)
    intro _u; clear _u
    refine cM false [1] (c2) ?_
    repeat ((intro _u; clear _u); first | refine eK ?_ | refine eP ?_)
    have c3 := num_c h.n57 q2.2 4
    have l3 : (q2.2.num 4).1 < 4294967296 := num_lt q2.2 (w := 4) (by omega) (by omega)
    generalize h3 : q2.2.num 4 = q3 at c3 l3
    repeat ((intro _u; clear _u); first | with_reducible first | refine cT ?_ | refine cF ?_ | refine cA ?_ | refine cB ?_ | refine aLn ?_ | refine cK ?_ | refine aS8 ?_ | refine wI ?_ | refine nD ?_ | refine aX rfl ?_ | refine vL rfl ?_)
    intro _u; clear _u
    refine cM false [1] (c3) ?_
    repeat ((intro _u; clear _u); first | refine eK ?_ | refine eP ?_)
    have c4 := take_c h.n59 q3.2 8
    have l4 := take8 q3.2
    generalize h4 : q3.2.take 8 = q4 at c4 l4
    repeat ((intro _u; clear _u); first | with_reducible first | refine cT ?_ | refine cF ?_ | refine cA ?_ | refine cB ?_ | refine aLn ?_ | refine cK ?_ | refine aS8 ?_ | refine wI ?_ | refine nD ?_ | refine aX rfl ?_ | refine vL rfl ?_)
    intro _u; clear _u
    refine cM false [1] (c4) ?_
    repeat ((intro _u; clear _u); first | refine eK ?_ | refine eP ?_)
    rcases l4 with l4 | l4
    · repeat ((intro _u; clear _u); first | with_reducible first | refine cT ?_ | refine cF ?_ | refine cA ?_ | refine cB ?_ | refine aLn ?_ | refine cK ?_ | refine aS8 ?_ | refine wI ?_ | refine nD ?_ | refine aX rfl ?_ | refine vL rfl ?_)
      intro _u; clear _u
      refine acp_eq (n := 8) (flat8 l4) (by simp [l4]) ?_
      have c5 := num_c h.n57 q4.2 4
      have l5 : (q4.2.num 4).1 < 4294967296 := num_lt q4.2 (w := 4) (by omega) (by omega)
      generalize h5 : q4.2.num 4 = q5 at c5 l5
      repeat ((intro _u; clear _u); first | with_reducible first | refine cT ?_ | refine cF ?_ | refine cA ?_ | refine cB ?_ | refine aLn ?_ | refine cK ?_ | refine aS8 ?_ | refine wI ?_ | refine nD ?_ | refine aX rfl ?_ | refine vL rfl ?_)
      intro _u; clear _u
      refine cM false [1] (c5) ?_
      repeat ((intro _u; clear _u); first | refine eK ?_ | refine eP ?_)
      have c6 := num_c h.n57 q5.2 4
      have l6 : (q5.2.num 4).1 < 4294967296 := num_lt q5.2 (w := 4) (by omega) (by omega)
      generalize h6 : q5.2.num 4 = q6 at c6 l6
      repeat ((intro _u; clear _u); first | with_reducible first | refine cT ?_ | refine cF ?_ | refine cA ?_ | refine cB ?_ | refine aLn ?_ | refine cK ?_ | refine aS8 ?_ | refine wI ?_ | refine nD ?_ | refine aX rfl ?_ | refine vL rfl ?_)
      intro _u; clear _u
      refine cM false [1] (c6) ?_
      repeat ((intro _u; clear _u); first | refine eK ?_ | refine eP ?_)
      have c7 := dint_c h.n58 q6.2 4 (by omega) (by omega)
      have l7 : (q6.2.num 4).1 < 4294967296 := num_lt q6.2 (w := 4) (by omega) (by omega)
      generalize h7 : q6.2.num 4 = q7 at c7 l7
      repeat ((intro _u; clear _u); first | with_reducible first | refine cT ?_ | refine cF ?_ | refine cA ?_ | refine cB ?_ | refine aLn ?_ | refine cK ?_ | refine aS8 ?_ | refine wI ?_ | refine nD ?_ | refine aX rfl ?_ | refine vL rfl ?_)
      intro _u; clear _u
      refine cM false [1] (c7) ?_
      repeat ((intro _u; clear _u); first | refine eK ?_ | refine eP ?_)
      have c8 := dint_c h.n58 q7.2 2 (by omega) (by omega)
      generalize h8 : q7.2.num 2 = q8 at c8
      repeat ((intro _u; clear _u); first | with_reducible first | refine cT ?_ | refine cF ?_ | refine cA ?_ | refine cB ?_ | refine aLn ?_ | refine cK ?_ | refine aS8 ?_ | refine wI ?_ | refine nD ?_ | refine aX rfl ?_ | refine vL rfl ?_)
      intro _u; clear _u
      refine cM false [1] (c8) ?_
      repeat ((intro _u; clear _u); first | refine eK ?_ | refine eP ?_)
      have e0 : mdec b = if q8.2.fin ≠ 0 then (.zero, q8.2.fin) else if chk ⟨q1.1, q2.1, q3.1, byt q4.1 0, byt q4.1 1, byt q4.1 2, byt q4.1 3, byt q4.1 4, byt q4.1 5, byt q4.1 6, byt q4.1 7, q5.1, q6.1, q7.1, q8.1⟩ ≠ 0 then (.zero, chk ⟨q1.1, q2.1, q3.1, byt q4.1 0, byt q4.1 1, byt q4.1 2, byt q4.1 3, byt q4.1 4, byt q4.1 5, byt q4.1 6, byt q4.1 7, q5.1, q6.1, q7.1, q8.1⟩) else (⟨q1.1, q2.1, q3.1, byt q4.1 0, byt q4.1 1, byt q4.1 2, byt q4.1 3, byt q4.1 4, byt q4.1 5, byt q4.1 6, byt q4.1 7, q5.1, q6.1, q7.1, q8.1⟩, 0) := by
        unfold mdec mchain
        simp only [hr0, h1, h2, h3, h4, h5, h6, h7, h8]
      rw [e0]
      have c9 := end_c h.n60 q8.2
      repeat ((intro _u; clear _u); first | with_reducible first | refine cT ?_ | refine cF ?_ | refine cA ?_ | refine cB ?_ | refine aLn ?_ | refine cK ?_ | refine aS8 ?_ | refine wI ?_ | refine nD ?_ | refine aX rfl ?_ | refine vL rfl ?_)
      intro _u; clear _u
      refine cM false [1] (c9) ?_
      repeat ((intro _u; clear _u); first | refine eK ?_ | refine eP ?_)
      repeat ((intro _u; clear _u); first | with_reducible first | refine cT ?_ | refine cF ?_ | refine cA ?_ | refine cB ?_ | refine aLn ?_ | refine cK ?_ | refine aS8 ?_ | refine wI ?_ | refine nD ?_ | refine aX rfl ?_ | refine vL rfl ?_)
      intro _u; clear _u
      refine cS (fun h9 => ?_) (fun h9 => ?_)
      · rw [if_pos h9]
        repeat ((intro _u; clear _u); first | with_reducible first | refine cT ?_ | refine cF ?_ | refine cA ?_ | refine cB ?_ | refine aLn ?_ | refine cK ?_ | refine aS8 ?_ | refine wI ?_ | refine nD ?_ | refine aX rfl ?_ | refine vL rfl ?_)
        intro _u; clear _u
        exact rT
      · rw [if_neg (fun hh => hh h9)]
        repeat ((intro _u; clear _u); first | with_reducible first | refine cT ?_ | refine cF ?_ | refine cA ?_ | refine cB ?_ | refine aLn ?_ | refine cK ?_ | refine aS8 ?_ | refine wI ?_ | refine nD ?_ | refine aX rfl ?_ | refine vL rfl ?_)
        intro _u; clear _u
        refine ICall.pure h.n41.o41.hb (chk_c h.n41 ⟨q1.1, q2.1, q3.1, byt q4.1 0, byt q4.1 1, byt q4.1 2, byt q4.1 3, byt q4.1 4, byt q4.1 5, byt q4.1 6, byt q4.1 7, q5.1, q6.1, q7.1, q8.1⟩ (by simp only [inI]; omega)) rfl ?_
        repeat ((intro _u; clear _u); first | with_reducible first | refine cT ?_ | refine cF ?_ | refine cA ?_ | refine cB ?_ | refine aLn ?_ | refine cK ?_ | refine aS8 ?_ | refine wI ?_ | refine nD ?_ | refine aX rfl ?_ | refine vL rfl ?_)
        intro _u; clear _u
        refine cS (fun h10 => ?_) (fun h10 => ?_)
        · rw [if_pos h10]
          repeat ((intro _u; clear _u); first | with_reducible first | refine cT ?_ | refine cF ?_ | refine cA ?_ | refine cB ?_ | refine aLn ?_ | refine cK ?_ | refine aS8 ?_ | refine wI ?_ | refine nD ?_ | refine aX rfl ?_ | refine vL rfl ?_)
          intro _u; clear _u
          exact rT
        · rw [if_neg (fun hh => hh h10)]
          repeat ((intro _u; clear _u); first | with_reducible first | refine cT ?_ | refine cF ?_ | refine cA ?_ | refine cB ?_ | refine aLn ?_ | refine cK ?_ | refine aS8 ?_ | refine wI ?_ | refine nD ?_ | refine aX rfl ?_ | refine vL rfl ?_)
          intro _u; clear _u
          exact rT
    · rw [l4]
      repeat ((intro _u; clear _u); first | with_reducible first | refine cT ?_ | refine cF ?_ | refine cA ?_ | refine cB ?_ | refine aLn ?_ | refine cK ?_ | refine aS8 ?_ | refine wI ?_ | refine nD ?_ | refine aX rfl ?_ | refine vL rfl ?_)
      intro _u; clear _u
      refine acp_eq (n := 0) (vs := []) (by simp) (by simp) ?_
      have c5 := num_c h.n57 q4.2 4
      have l5 : (q4.2.num 4).1 < 4294967296 := num_lt q4.2 (w := 4) (by omega) (by omega)
      generalize h5 : q4.2.num 4 = q5 at c5 l5
      repeat ((intro _u; clear _u); first | with_reducible first | refine cT ?_ | refine cF ?_ | refine cA ?_ | refine cB ?_ | refine aLn ?_ | refine cK ?_ | refine aS8 ?_ | refine wI ?_ | refine nD ?_ | refine aX rfl ?_ | refine vL rfl ?_)
      intro _u; clear _u
      refine cM false [1] (c5) ?_
      repeat ((intro _u; clear _u); first | refine eK ?_ | refine eP ?_)
      have c6 := num_c h.n57 q5.2 4
      have l6 : (q5.2.num 4).1 < 4294967296 := num_lt q5.2 (w := 4) (by omega) (by omega)
      generalize h6 : q5.2.num 4 = q6 at c6 l6
      repeat ((intro _u; clear _u); first | with_reducible first | refine cT ?_ | refine cF ?_ | refine cA ?_ | refine cB ?_ | refine aLn ?_ | refine cK ?_ | refine aS8 ?_ | refine wI ?_ | refine nD ?_ | refine aX rfl ?_ | refine vL rfl ?_)
      intro _u; clear _u
      refine cM false [1] (c6) ?_
      repeat ((intro _u; clear _u); first | refine eK ?_ | refine eP ?_)
      have c7 := dint_c h.n58 q6.2 4 (by omega) (by omega)
      have l7 : (q6.2.num 4).1 < 4294967296 := num_lt q6.2 (w := 4) (by omega) (by omega)
      generalize h7 : q6.2.num 4 = q7 at c7 l7
      repeat ((intro _u; clear _u); first | with_reducible first | refine cT ?_ | refine cF ?_ | refine cA ?_ | refine cB ?_ | refine aLn ?_ | refine cK ?_ | refine aS8 ?_ | refine wI ?_ | refine nD ?_ | refine aX rfl ?_ | refine vL rfl ?_)
      intro _u; clear _u
      refine cM false [1] (c7) ?_
      repeat ((intro _u; clear _u); first | refine eK ?_ | refine eP ?_)
      have c8 := dint_c h.n58 q7.2 2 (by omega) (by omega)
      generalize h8 : q7.2.num 2 = q8 at c8
      repeat ((intro _u; clear _u); first | with_reducible first | refine cT ?_ | refine cF ?_ | refine cA ?_ | refine cB ?_ | refine aLn ?_ | refine cK ?_ | refine aS8 ?_ | refine wI ?_ | refine nD ?_ | refine aX rfl ?_ | refine vL rfl ?_)
      intro _u; clear _u
      refine cM false [1] (c8) ?_
      repeat ((intro _u; clear _u); first | refine eK ?_ | refine eP ?_)
      have e0 : mdec b = if q8.2.fin ≠ 0 then (.zero, q8.2.fin) else if chk ⟨q1.1, q2.1, q3.1, 0, 0, 0, 0, 0, 0, 0, 0, q5.1, q6.1, q7.1, q8.1⟩ ≠ 0 then (.zero, chk ⟨q1.1, q2.1, q3.1, 0, 0, 0, 0, 0, 0, 0, 0, q5.1, q6.1, q7.1, q8.1⟩) else (⟨q1.1, q2.1, q3.1, 0, 0, 0, 0, 0, 0, 0, 0, q5.1, q6.1, q7.1, q8.1⟩, 0) := by
        unfold mdec mchain
        simp only [hr0, h1, h2, h3, h4, h5, h6, h7, h8, l4]
        rfl
      rw [e0]
      have c9 := end_c h.n60 q8.2
      repeat ((intro _u; clear _u); first | with_reducible first | refine cT ?_ | refine cF ?_ | refine cA ?_ | refine cB ?_ | refine aLn ?_ | refine cK ?_ | refine aS8 ?_ | refine wI ?_ | refine nD ?_ | refine aX rfl ?_ | refine vL rfl ?_)
      intro _u; clear _u
      refine cM false [1] (c9) ?_
      repeat ((intro _u; clear _u); first | refine eK ?_ | refine eP ?_)
      repeat ((intro _u; clear _u); first | with_reducible first | refine cT ?_ | refine cF ?_ | refine cA ?_ | refine cB ?_ | refine aLn ?_ | refine cK ?_ | refine aS8 ?_ | refine wI ?_ | refine nD ?_ | refine aX rfl ?_ | refine vL rfl ?_)
      intro _u; clear _u
      refine cS (fun h9 => ?_) (fun h9 => ?_)
      · rw [if_pos h9]
        repeat ((intro _u; clear _u); first | with_reducible first | refine cT ?_ | refine cF ?_ | refine cA ?_ | refine cB ?_ | refine aLn ?_ | refine cK ?_ | refine aS8 ?_ | refine wI ?_ | refine nD ?_ | refine aX rfl ?_ | refine vL rfl ?_)
        intro _u; clear _u
        exact rT
      · rw [if_neg (fun hh => hh h9)]
        repeat ((intro _u; clear _u); first | with_reducible first | refine cT ?_ | refine cF ?_ | refine cA ?_ | refine cB ?_ | refine aLn ?_ | refine cK ?_ | refine aS8 ?_ | refine wI ?_ | refine nD ?_ | refine aX rfl ?_ | refine vL rfl ?_)
        intro _u; clear _u
        refine ICall.pure h.n41.o41.hb (chk_c h.n41 ⟨q1.1, q2.1, q3.1, 0, 0, 0, 0, 0, 0, 0, 0, q5.1, q6.1, q7.1, q8.1⟩ (by simp only [inI]; omega)) rfl ?_
        repeat ((intro _u; clear _u); first | with_reducible first | refine cT ?_ | refine cF ?_ | refine cA ?_ | refine cB ?_ | refine aLn ?_ | refine cK ?_ | refine aS8 ?_ | refine wI ?_ | refine nD ?_ | refine aX rfl ?_ | refine vL rfl ?_)
        intro _u; clear _u
        refine cS (fun h10 => ?_) (fun h10 => ?_)
        · rw [if_pos h10]
          repeat ((intro _u; clear _u); first | with_reducible first | refine cT ?_ | refine cF ?_ | refine cA ?_ | refine cB ?_ | refine aLn ?_ | refine cK ?_ | refine aS8 ?_ | refine wI ?_ | refine nD ?_ | refine aX rfl ?_ | refine vL rfl ?_)
          intro _u; clear _u
          exact rT
        · rw [if_neg (fun hh => hh h10)]
          repeat ((intro _u; clear _u); first | with_reducible first | refine cT ?_ | refine cF ?_ | refine cA ?_ | refine cB ?_ | refine aLn ?_ | refine cK ?_ | refine aS8 ?_ | refine wI ?_ | refine nD ?_ | refine aX rfl ?_ | refine vL rfl ?_)
          intro _u; clear _u
          exact rT
end Go.UM

/- Package manifest, part 4: what the document says that bytes are. -/


namespace Go.UM
open Go.AM
set_option maxRecDepth 4000

def RSt (L k : Nat) (r : Rd) : Prop := r.made = true ∧ ((r.e = 0 ∧ r.l.length + k = L) ∨ (r.e = 4 ∧ L < 35))
theorem RSt.num {L k : Nat} {r : Rd} (h : RSt L k r) (w : Nat) (h1 : 1 ≤ w) (h2 : w ≤ 8) (h3 : k + w ≤ 35) : RSt L (k + w) (r.num w).2 := by
  obtain ⟨hm, ⟨he, hl⟩ | ⟨he, hl⟩⟩ := h
  · obtain ⟨hm', ⟨a, b, c⟩ | ⟨a, b⟩⟩ := take_short (w := w) hm he (by omega) (by omega)
    · exact ⟨hm', .inl ⟨b, by omega⟩⟩
    · exact ⟨hm', .inr ⟨b, by omega⟩⟩
  · rw [num_take (by omega) (by omega)]
    have : r.take w = ([], r) := by unfold Rd.take; rw [if_pos (.inr (by omega))]
    rw [this]
    exact ⟨hm, .inr ⟨he, hl⟩⟩
theorem RSt.take {L k : Nat} {r : Rd} (h : RSt L k r) (h3 : k + 8 ≤ 35) : RSt L (k + 8) (r.take 8).2 := by
  have := h.num 8 (by omega) (by omega) h3
  rwa [num_take (by omega) (by omega)] at this

theorem mchain_fin (b : List UInt8) : (mchain ⟨b, 0, true⟩).2.fin = if b.length < 35 then 4 else if 35 < b.length then 5 else 0 := by
  have h0 : RSt b.length 0 ⟨b, 0, true⟩ := ⟨rfl, .inl ⟨rfl, rfl⟩⟩
  have h8 := (((((((h0.num 8 (by omega) (by omega) (by omega)).num 1 (by omega) (by omega) (by omega)).num 4 (by omega) (by omega) (by omega)).take (by omega)).num 4 (by omega) (by omega) (by omega)).num 4 (by omega) (by omega) (by omega)).num 4 (by omega) (by omega) (by omega)).num 2 (by omega) (by omega) (by omega)
  have h9 : RSt b.length 35 (mchain ⟨b, 0, true⟩).2 := h8
  obtain ⟨hm, ⟨he, hl⟩ | ⟨he, hl⟩⟩ := h9
  · unfold Rd.fin Rd.err
    rw [hm, he, if_neg (by simp)]
    repeat' split
    all_goals omega
  · unfold Rd.fin Rd.err
    rw [hm, he, if_pos (by simp), if_neg (by simp), if_pos hl]

theorem drop8 {l : List UInt8} (h : 8 ≤ l.length) : ∃ c0 c1 c2 c3 c4 c5 c6 c7 r, l = c0 :: c1 :: c2 :: c3 :: c4 :: c5 :: c6 :: c7 :: r := by
  match l, h with
  | c0 :: c1 :: c2 :: c3 :: c4 :: c5 :: c6 :: c7 :: r, _ => exact ⟨c0, c1, c2, c3, c4, c5, c6, c7, r, rfl⟩

theorem rmdecode_c {R : Env} (h : N50 R) (b : List UInt8) (hb : b.length ≤ 1073741824) : R.Pc 50 [.isl 1 (slc8 b)] (.tup [.agg (mdec b).1.row, .int .i64 (mdec b).2]) :=
  h.o50.enter 100 rfl fun X bb hfit hp => by
    have hf := mchain_fin b
    have e0 : mdec b = if (mchain ⟨b, 0, true⟩).2.fin ≠ 0 then (.zero, (mchain ⟨b, 0, true⟩).2.fin) else if chk (mchain ⟨b, 0, true⟩).1 ≠ 0 then (.zero, chk (mchain ⟨b, 0, true⟩).1) else ((mchain ⟨b, 0, true⟩).1, 0) := rfl
    repeat ((intro _u; clear _u); first | with_reducible first | refine cT ?_ | refine cF ?_ | refine cA ?_ | refine cB ?_ | refine aLn ?_ | refine cK ?_ | refine aS8 ?_ | refine wI ?_ | refine nD ?_ | refine aX rfl ?_ | refine vL rfl ?_)
    intro _u; clear _u
    refine cS (fun h1 => ?_) (fun h1 => ?_)
    · rw [if_pos (by omega)] at hf
      rw [hf] at e0
      rw [e0]
      repeat ((intro _u; clear _u); first | with_reducible first | refine cT ?_ | refine cF ?_ | refine cA ?_ | refine cB ?_ | refine aLn ?_ | refine cK ?_ | refine aS8 ?_ | refine wI ?_ | refine nD ?_ | refine aX rfl ?_ | refine vL rfl ?_)
      intro _u; clear _u
      exact rT
    · repeat ((intro _u; clear _u); first | with_reducible first | refine cT ?_ | refine cF ?_ | refine cA ?_ | refine cB ?_ | refine aLn ?_ | refine cK ?_ | refine aS8 ?_ | refine wI ?_ | refine nD ?_ | refine aX rfl ?_ | refine vL rfl ?_)
      intro _u; clear _u
      refine cS (fun h2 => ?_) (fun h2 => ?_)
      · rw [if_neg (by omega), if_pos (by omega)] at hf
        rw [hf] at e0
        rw [e0]
        repeat ((intro _u; clear _u); first | with_reducible first | refine cT ?_ | refine cF ?_ | refine cA ?_ | refine cB ?_ | refine aLn ?_ | refine cK ?_ | refine aS8 ?_ | refine wI ?_ | refine nD ?_ | refine aX rfl ?_ | refine vL rfl ?_)
        intro _u; clear _u
        exact rT
      · rw [if_neg (by omega), if_neg (by omega)] at hf
        rw [hf] at e0
        have hl : b.length = 35 := by omega
        have ok0 : RdOk b ⟨b, 0, true⟩ := .new hb
        have c1 := rnum_c h.n61 b ⟨b, 0, true⟩ ok0 8
        have ok1 := ok0.num 8
        have n1 := num_ok (l := b) (w := 8) (by omega) (by omega) (by omega)
        have d1 : (b.drop (Int.toNat 8)).length = 27 := by simp; omega
        rw [n1] at c1 ok1
        generalize b.drop (Int.toNat 8) = b1 at *
        generalize le (b.take (Int.toNat 8)) = x1 at *
        repeat ((intro _u; clear _u); first | with_reducible first | refine cT ?_ | refine cF ?_ | refine cA ?_ | refine cB ?_ | refine aLn ?_ | refine cK ?_ | refine aS8 ?_ | refine wI ?_ | refine nD ?_ | refine aX rfl ?_ | refine vL rfl ?_)
        intro _u; clear _u
        refine cM false [1] (c1) ?_
        repeat ((intro _u; clear _u); first | refine eK ?_ | refine eP ?_)
        have c2 := rnum_c h.n61 b ⟨b1, 0, true⟩ ok1 1
        have ok2 := ok1.num 1
        have n2 := num_ok (l := b1) (w := 1) (by omega) (by omega) (by omega)
        have d2 : (b1.drop (Int.toNat 1)).length = 26 := by simp; omega
        have m2 : le (b1.take (Int.toNat 1)) < 256 := by
          have := le_lt (b1.take (Int.toNat 1))
          rw [show (b1.take (Int.toNat 1)).length = 1 by simp; omega] at this
          exact this
        rw [n2] at c2 ok2
        generalize b1.drop (Int.toNat 1) = b2 at *
        generalize le (b1.take (Int.toNat 1)) = x2 at *
        repeat ((intro _u; clear _u); first | with_reducible first | refine cT ?_ | refine cF ?_ | refine cA ?_ | refine cB ?_ | refine aLn ?_ | refine cK ?_ | refine aS8 ?_ | refine wI ?_ | refine nD ?_ | refine aX rfl ?_ | refine vL rfl ?_)
        intro _u; clear _u
        refine cM false [1] (c2) ?_
        repeat ((intro _u; clear _u); first | refine eK ?_ | refine eP ?_)
        have c3 := rnum_c h.n61 b ⟨b2, 0, true⟩ ok2 4
        have ok3 := ok2.num 4
        have n3 := num_ok (l := b2) (w := 4) (by omega) (by omega) (by omega)
        have d3 : (b2.drop (Int.toNat 4)).length = 22 := by simp; omega
        have m3 : le (b2.take (Int.toNat 4)) < 4294967296 := by
          have := le_lt (b2.take (Int.toNat 4))
          rw [show (b2.take (Int.toNat 4)).length = 4 by simp; omega] at this
          exact this
        rw [n3] at c3 ok3
        generalize b2.drop (Int.toNat 4) = b3 at *
        generalize le (b2.take (Int.toNat 4)) = x3 at *
        repeat ((intro _u; clear _u); first | with_reducible first | refine cT ?_ | refine cF ?_ | refine cA ?_ | refine cB ?_ | refine aLn ?_ | refine cK ?_ | refine aS8 ?_ | refine wI ?_ | refine nD ?_ | refine aX rfl ?_ | refine vL rfl ?_)
        intro _u; clear _u
        refine cM false [1] (c3) ?_
        repeat ((intro _u; clear _u); first | refine eK ?_ | refine eP ?_)
        obtain ⟨v0, v1, v2, v3, v4, v5, v6, v7, r, rfl⟩ := drop8 (l := b3) (by omega)
        have hv0 : v0.toNat < 256 := v0.toNat_lt
        have e1 := rnum_c h.n61 b _ ok3 1
        have p0 := ok3.num 1
        rw [num1] at e1 p0
        repeat ((intro _u; clear _u); first | with_reducible first | refine cT ?_ | refine cF ?_ | refine cA ?_ | refine cB ?_ | refine aLn ?_ | refine cK ?_ | refine aS8 ?_ | refine wI ?_ | refine nD ?_ | refine aX rfl ?_ | refine vL rfl ?_)
        intro _u; clear _u
        refine ILoop.one 100 ?_
        repeat ((intro _u; clear _u); first | with_reducible first | refine cT ?_ | refine cF ?_ | refine cA ?_ | refine cB ?_ | refine aLn ?_ | refine cK ?_ | refine aS8 ?_ | refine wI ?_ | refine nD ?_ | refine aX rfl ?_ | refine vL rfl ?_)
        intro _u; clear _u
        refine acnd_t (by decide) ?_
        repeat ((intro _u; clear _u); first | with_reducible first | refine cT ?_ | refine cF ?_ | refine cA ?_ | refine cB ?_ | refine aLn ?_ | refine cK ?_ | refine aS8 ?_ | refine wI ?_ | refine nD ?_ | refine aX rfl ?_ | refine vL rfl ?_)
        intro _u; clear _u
        refine cM false [1] (e1) ?_
        repeat ((intro _u; clear _u); first | refine eK ?_ | refine eP ?_)
        have hv1 : v1.toNat < 256 := v1.toNat_lt
        have e2 := rnum_c h.n61 b _ p0 1
        have p1 := p0.num 1
        rw [num1] at e2 p1
        repeat ((intro _u; clear _u); first | with_reducible first | refine cT ?_ | refine cF ?_ | refine cA ?_ | refine cB ?_ | refine aLn ?_ | refine cK ?_ | refine aS8 ?_ | refine wI ?_ | refine nD ?_ | refine aX rfl ?_ | refine vL rfl ?_)
        intro _u; clear _u
        refine ILoop.one 100 ?_
        repeat ((intro _u; clear _u); first | with_reducible first | refine cT ?_ | refine cF ?_ | refine cA ?_ | refine cB ?_ | refine aLn ?_ | refine cK ?_ | refine aS8 ?_ | refine wI ?_ | refine nD ?_ | refine aX rfl ?_ | refine vL rfl ?_)
        intro _u; clear _u
        refine acnd_t (by decide) ?_
        repeat ((intro _u; clear _u); first | with_reducible first | refine cT ?_ | refine cF ?_ | refine cA ?_ | refine cB ?_ | refine aLn ?_ | refine cK ?_ | refine aS8 ?_ | refine wI ?_ | refine nD ?_ | refine aX rfl ?_ | refine vL rfl ?_)
        intro _u; clear _u
        refine cM false [1] (e2) ?_
        repeat ((intro _u; clear _u); first | refine eK ?_ | refine eP ?_)
        have hv2 : v2.toNat < 256 := v2.toNat_lt
        have e3 := rnum_c h.n61 b _ p1 1
        have p2 := p1.num 1
        rw [num1] at e3 p2
        repeat ((intro _u; clear _u); first | with_reducible first | refine cT ?_ | refine cF ?_ | refine cA ?_ | refine cB ?_ | refine aLn ?_ | refine cK ?_ | refine aS8 ?_ | refine wI ?_ | refine nD ?_ | refine aX rfl ?_ | refine vL rfl ?_)
        intro _u; clear _u
        refine ILoop.one 100 ?_
        repeat ((intro _u; clear _u); first | with_reducible first | refine cT ?_ | refine cF ?_ | refine cA ?_ | refine cB ?_ | refine aLn ?_ | refine cK ?_ | refine aS8 ?_ | refine wI ?_ | refine nD ?_ | refine aX rfl ?_ | refine vL rfl ?_)
        intro _u; clear _u
        refine acnd_t (by decide) ?_
        repeat ((intro _u; clear _u); first | with_reducible first | refine cT ?_ | refine cF ?_ | refine cA ?_ | refine cB ?_ | refine aLn ?_ | refine cK ?_ | refine aS8 ?_ | refine wI ?_ | refine nD ?_ | refine aX rfl ?_ | refine vL rfl ?_)
        intro _u; clear _u
        refine cM false [1] (e3) ?_
        repeat ((intro _u; clear _u); first | refine eK ?_ | refine eP ?_)
        have hv3 : v3.toNat < 256 := v3.toNat_lt
        have e4 := rnum_c h.n61 b _ p2 1
        have p3 := p2.num 1
        rw [num1] at e4 p3
        repeat ((intro _u; clear _u); first | with_reducible first | refine cT ?_ | refine cF ?_ | refine cA ?_ | refine cB ?_ | refine aLn ?_ | refine cK ?_ | refine aS8 ?_ | refine wI ?_ | refine nD ?_ | refine aX rfl ?_ | refine vL rfl ?_)
        intro _u; clear _u
        refine ILoop.one 100 ?_
        repeat ((intro _u; clear _u); first | with_reducible first | refine cT ?_ | refine cF ?_ | refine cA ?_ | refine cB ?_ | refine aLn ?_ | refine cK ?_ | refine aS8 ?_ | refine wI ?_ | refine nD ?_ | refine aX rfl ?_ | refine vL rfl ?_)
        intro _u; clear _u
        refine acnd_t (by decide) ?_
        repeat ((intro _u; clear _u); first | with_reducible first | refine cT ?_ | refine cF ?_ | refine cA ?_ | refine cB ?_ | refine aLn ?_ | refine cK ?_ | refine aS8 ?_ | refine wI ?_ | refine nD ?_ | refine aX rfl ?_ | refine vL rfl ?_)
        intro _u; clear _u
        refine cM false [1] (e4) ?_
        repeat ((intro _u; clear _u); first | refine eK ?_ | refine eP ?_)
        have hv4 : v4.toNat < 256 := v4.toNat_lt
        have e5 := rnum_c h.n61 b _ p3 1
        have p4 := p3.num 1
        rw [num1] at e5 p4
        repeat ((intro _u; clear _u); first | with_reducible first | refine cT ?_ | refine cF ?_ | refine cA ?_ | refine cB ?_ | refine aLn ?_ | refine cK ?_ | refine aS8 ?_ | refine wI ?_ | refine nD ?_ | refine aX rfl ?_ | refine vL rfl ?_)
        intro _u; clear _u
        refine ILoop.one 100 ?_
        repeat ((intro _u; clear _u); first | with_reducible first | refine cT ?_ | refine cF ?_ | refine cA ?_ | refine cB ?_ | refine aLn ?_ | refine cK ?_ | refine aS8 ?_ | refine wI ?_ | refine nD ?_ | refine aX rfl ?_ | refine vL rfl ?_)
        intro _u; clear _u
        refine acnd_t (by decide) ?_
        repeat ((intro _u; clear _u); first | with_reducible first | refine cT ?_ | refine cF ?_ | refine cA ?_ | refine cB ?_ | refine aLn ?_ | refine cK ?_ | refine aS8 ?_ | refine wI ?_ | refine nD ?_ | refine aX rfl ?_ | refine vL rfl ?_)
        intro _u; clear _u
        refine cM false [1] (e5) ?_
        repeat ((intro _u; clear _u); first | refine eK ?_ | refine eP ?_)
        have hv5 : v5.toNat < 256 := v5.toNat_lt
        have e6 := rnum_c h.n61 b _ p4 1
        have p5 := p4.num 1
        rw [num1] at e6 p5
        repeat ((intro _u; clear _u); first | with_reducible first | refine cT ?_ | refine cF ?_ | refine cA ?_ | refine cB ?_ | refine aLn ?_ | refine cK ?_ | refine aS8 ?_ | refine wI ?_ | refine nD ?_ | refine aX rfl ?_ | refine vL rfl ?_)
        intro _u; clear _u
        refine ILoop.one 100 ?_
        repeat ((intro _u; clear _u); first | with_reducible first | refine cT ?_ | refine cF ?_ | refine cA ?_ | refine cB ?_ | refine aLn ?_ | refine cK ?_ | refine aS8 ?_ | refine wI ?_ | refine nD ?_ | refine aX rfl ?_ | refine vL rfl ?_)
        intro _u; clear _u
        refine acnd_t (by decide) ?_
        repeat ((intro _u; clear _u); first | with_reducible first | refine cT ?_ | refine cF ?_ | refine cA ?_ | refine cB ?_ | refine aLn ?_ | refine cK ?_ | refine aS8 ?_ | refine wI ?_ | refine nD ?_ | refine aX rfl ?_ | refine vL rfl ?_)
        intro _u; clear _u
        refine cM false [1] (e6) ?_
        repeat ((intro _u; clear _u); first | refine eK ?_ | refine eP ?_)
        have hv6 : v6.toNat < 256 := v6.toNat_lt
        have e7 := rnum_c h.n61 b _ p5 1
        have p6 := p5.num 1
        rw [num1] at e7 p6
        repeat ((intro _u; clear _u); first | with_reducible first | refine cT ?_ | refine cF ?_ | refine cA ?_ | refine cB ?_ | refine aLn ?_ | refine cK ?_ | refine aS8 ?_ | refine wI ?_ | refine nD ?_ | refine aX rfl ?_ | refine vL rfl ?_)
        intro _u; clear _u
        refine ILoop.one 100 ?_
        repeat ((intro _u; clear _u); first | with_reducible first | refine cT ?_ | refine cF ?_ | refine cA ?_ | refine cB ?_ | refine aLn ?_ | refine cK ?_ | refine aS8 ?_ | refine wI ?_ | refine nD ?_ | refine aX rfl ?_ | refine vL rfl ?_)
        intro _u; clear _u
        refine acnd_t (by decide) ?_
        repeat ((intro _u; clear _u); first | with_reducible first | refine cT ?_ | refine cF ?_ | refine cA ?_ | refine cB ?_ | refine aLn ?_ | refine cK ?_ | refine aS8 ?_ | refine wI ?_ | refine nD ?_ | refine aX rfl ?_ | refine vL rfl ?_)
        intro _u; clear _u
        refine cM false [1] (e7) ?_
        repeat ((intro _u; clear _u); first | refine eK ?_ | refine eP ?_)
        have hv7 : v7.toNat < 256 := v7.toNat_lt
        have e8 := rnum_c h.n61 b _ p6 1
        have p7 := p6.num 1
        rw [num1] at e8 p7
        repeat ((intro _u; clear _u); first | with_reducible first | refine cT ?_ | refine cF ?_ | refine cA ?_ | refine cB ?_ | refine aLn ?_ | refine cK ?_ | refine aS8 ?_ | refine wI ?_ | refine nD ?_ | refine aX rfl ?_ | refine vL rfl ?_)
        intro _u; clear _u
        refine ILoop.one 100 ?_
        repeat ((intro _u; clear _u); first | with_reducible first | refine cT ?_ | refine cF ?_ | refine cA ?_ | refine cB ?_ | refine aLn ?_ | refine cK ?_ | refine aS8 ?_ | refine wI ?_ | refine nD ?_ | refine aX rfl ?_ | refine vL rfl ?_)
        intro _u; clear _u
        refine acnd_t (by decide) ?_
        repeat ((intro _u; clear _u); first | with_reducible first | refine cT ?_ | refine cF ?_ | refine cA ?_ | refine cB ?_ | refine aLn ?_ | refine cK ?_ | refine aS8 ?_ | refine wI ?_ | refine nD ?_ | refine aX rfl ?_ | refine vL rfl ?_)
        intro _u; clear _u
        refine cM false [1] (e8) ?_
        repeat ((intro _u; clear _u); first | refine eK ?_ | refine eP ?_)
        repeat ((intro _u; clear _u); first | with_reducible first | refine cT ?_ | refine cF ?_ | refine cA ?_ | refine cB ?_ | refine aLn ?_ | refine cK ?_ | refine aS8 ?_ | refine wI ?_ | refine nD ?_ | refine aX rfl ?_ | refine vL rfl ?_)
        intro _u; clear _u
        refine ILoop.one 100 ?_
        repeat ((intro _u; clear _u); first | with_reducible first | refine cT ?_ | refine cF ?_ | refine cA ?_ | refine cB ?_ | refine aLn ?_ | refine cK ?_ | refine aS8 ?_ | refine wI ?_ | refine nD ?_ | refine aX rfl ?_ | refine vL rfl ?_)
        intro _u; clear _u
        refine acnd_f (by decide) ?_
        have d3' : r.length = 14 := by simpa using d3
        have c5 := rnum_c h.n61 b ⟨r, 0, true⟩ p7 4
        have ok5 := p7.num 4
        have n5 := num_ok (l := r) (w := 4) (by omega) (by omega) (by omega)
        have d5 : (r.drop (Int.toNat 4)).length = 10 := by simp; omega
        have m5 : le (r.take (Int.toNat 4)) < 4294967296 := by
          have := le_lt (r.take (Int.toNat 4))
          rw [show (r.take (Int.toNat 4)).length = 4 by simp; omega] at this
          exact this
        rw [n5] at c5 ok5
        generalize r.drop (Int.toNat 4) = b5 at *
        generalize le (r.take (Int.toNat 4)) = x5 at *
        repeat ((intro _u; clear _u); first | with_reducible first | refine cT ?_ | refine cF ?_ | refine cA ?_ | refine cB ?_ | refine aLn ?_ | refine cK ?_ | refine aS8 ?_ | refine wI ?_ | refine nD ?_ | refine aX rfl ?_ | refine vL rfl ?_)
        intro _u; clear _u
        refine cM false [1] (c5) ?_
        repeat ((intro _u; clear _u); first | refine eK ?_ | refine eP ?_)
        have c6 := rnum_c h.n61 b ⟨b5, 0, true⟩ ok5 4
        have ok6 := ok5.num 4
        have n6 := num_ok (l := b5) (w := 4) (by omega) (by omega) (by omega)
        have d6 : (b5.drop (Int.toNat 4)).length = 6 := by simp; omega
        have m6 : le (b5.take (Int.toNat 4)) < 4294967296 := by
          have := le_lt (b5.take (Int.toNat 4))
          rw [show (b5.take (Int.toNat 4)).length = 4 by simp; omega] at this
          exact this
        rw [n6] at c6 ok6
        generalize b5.drop (Int.toNat 4) = b6 at *
        generalize le (b5.take (Int.toNat 4)) = x6 at *
        repeat ((intro _u; clear _u); first | with_reducible first | refine cT ?_ | refine cF ?_ | refine cA ?_ | refine cB ?_ | refine aLn ?_ | refine cK ?_ | refine aS8 ?_ | refine wI ?_ | refine nD ?_ | refine aX rfl ?_ | refine vL rfl ?_)
        intro _u; clear _u
        refine cM false [1] (c6) ?_
        repeat ((intro _u; clear _u); first | refine eK ?_ | refine eP ?_)
        have c7 := rnum_c h.n61 b ⟨b6, 0, true⟩ ok6 4
        have ok7 := ok6.num 4
        have n7 := num_ok (l := b6) (w := 4) (by omega) (by omega) (by omega)
        have d7 : (b6.drop (Int.toNat 4)).length = 2 := by simp; omega
        have m7 : le (b6.take (Int.toNat 4)) < 4294967296 := by
          have := le_lt (b6.take (Int.toNat 4))
          rw [show (b6.take (Int.toNat 4)).length = 4 by simp; omega] at this
          exact this
        rw [n7] at c7 ok7
        generalize b6.drop (Int.toNat 4) = b7 at *
        generalize le (b6.take (Int.toNat 4)) = x7 at *
        repeat ((intro _u; clear _u); first | with_reducible first | refine cT ?_ | refine cF ?_ | refine cA ?_ | refine cB ?_ | refine aLn ?_ | refine cK ?_ | refine aS8 ?_ | refine wI ?_ | refine nD ?_ | refine aX rfl ?_ | refine vL rfl ?_)
        intro _u; clear _u
        refine cM false [1] (c7) ?_
        repeat ((intro _u; clear _u); first | refine eK ?_ | refine eP ?_)
        have c8 := rnum_c h.n61 b ⟨b7, 0, true⟩ ok7 2
        have ok8 := ok7.num 2
        have n8 := num_ok (l := b7) (w := 2) (by omega) (by omega) (by omega)
        have d8 : (b7.drop (Int.toNat 2)).length = 0 := by simp; omega
        have m8 : le (b7.take (Int.toNat 2)) < 65536 := by
          have := le_lt (b7.take (Int.toNat 2))
          rw [show (b7.take (Int.toNat 2)).length = 2 by simp; omega] at this
          exact this
        rw [n8] at c8 ok8
        generalize b7.drop (Int.toNat 2) = b8 at *
        generalize le (b7.take (Int.toNat 2)) = x8 at *
        repeat ((intro _u; clear _u); first | with_reducible first | refine cT ?_ | refine cF ?_ | refine cA ?_ | refine cB ?_ | refine aLn ?_ | refine cK ?_ | refine aS8 ?_ | refine wI ?_ | refine nD ?_ | refine aX rfl ?_ | refine vL rfl ?_)
        intro _u; clear _u
        refine cM false [1] (c8) ?_
        repeat ((intro _u; clear _u); first | refine eK ?_ | refine eP ?_)
        have ch : (mchain ⟨b, 0, true⟩).1 = ⟨x1, x2, x3, v0.toNat, v1.toNat, v2.toNat, v3.toNat, v4.toNat, v5.toNat, v6.toNat, v7.toNat, x5, x6, x7, x8⟩ := by
          have t8 : (⟨v0 :: v1 :: v2 :: v3 :: v4 :: v5 :: v6 :: v7 :: r, 0, true⟩ : Rd).take 8 = ([v0, v1, v2, v3, v4, v5, v6, v7], ⟨r, 0, true⟩) := by
            unfold Rd.take; rw [if_neg (by simp), if_neg (by omega), if_neg (by simp; omega)]; rfl
          unfold mchain
          simp only [n1, n2, n3, t8, n5, n6, n7, n8]
          rfl
        rw [ch] at e0
        repeat ((intro _u; clear _u); first | with_reducible first | refine cT ?_ | refine cF ?_ | refine cA ?_ | refine cB ?_ | refine aLn ?_ | refine cK ?_ | refine aS8 ?_ | refine wI ?_ | refine nD ?_ | refine aX rfl ?_ | refine vL rfl ?_)
        intro _u; clear _u
        refine ICall.pure h.n42.o42.hb (rchk_c h.n42 ⟨x1, x2, x3, v0.toNat, v1.toNat, v2.toNat, v3.toNat, v4.toNat, v5.toNat, v6.toNat, v7.toNat, x5, x6, x7, x8⟩ (by simp only [inI]; omega)) rfl ?_
        repeat ((intro _u; clear _u); first | with_reducible first | refine cT ?_ | refine cF ?_ | refine cA ?_ | refine cB ?_ | refine aLn ?_ | refine cK ?_ | refine aS8 ?_ | refine wI ?_ | refine nD ?_ | refine aX rfl ?_ | refine vL rfl ?_)
        intro _u; clear _u
        refine cS (fun h10 => ?_) (fun h10 => ?_)
        · rw [if_neg (fun hh => hh rfl), if_pos h10] at e0
          rw [e0]
          repeat ((intro _u; clear _u); first | with_reducible first | refine cT ?_ | refine cF ?_ | refine cA ?_ | refine cB ?_ | refine aLn ?_ | refine cK ?_ | refine aS8 ?_ | refine wI ?_ | refine nD ?_ | refine aX rfl ?_ | refine vL rfl ?_)
          intro _u; clear _u
          exact rT
        · rw [if_neg (fun hh => hh rfl), if_neg (fun hh => hh h10)] at e0
          rw [e0]
          repeat ((intro _u; clear _u); first | with_reducible first | refine cT ?_ | refine cF ?_ | refine cA ?_ | refine cB ?_ | refine aLn ?_ | refine cK ?_ | refine aS8 ?_ | refine wI ?_ | refine nD ?_ | refine aX rfl ?_ | refine vL rfl ?_)
          intro _u; clear _u
          exact rT
end Go.UM

/- Package manifest, part 5: there and back. -/

namespace Go.UM
open Go.AM
set_option maxRecDepth 4000

theorem mdec_ok (b : List UInt8) : (mdec b).1.Ok := by
  have hz : Mf.zero.Ok := by
    refine ⟨?_, ?_, ?_, ?_, ?_, ?_, ?_, ?_⟩
    all_goals try (simp only [inI, Mf.zero]; omega)
    intro i
    rcases i with _ | _ | _ | _ | _ | _ | _ | _ | i <;> simp only [Mf.mask, Mf.zero] <;> omega
  have hb : ∀ l i, inI .u8 (byt l i) := fun l i => by
    have := (l.getD i 0).toNat_lt
    simp only [inI, byt]; omega
  have hm : (mchain ⟨b, 0, true⟩).1.Ok := by
    unfold mchain
    dsimp only
    have l1 : ((⟨b, 0, true⟩ : Rd).num 8).1 < 18446744073709551616 := num_lt _ (by omega) (by omega)
    generalize (⟨b, 0, true⟩ : Rd).num 8 = q1 at *
    have l2 : (q1.2.num 1).1 < 256 := num_lt _ (by omega) (by omega)
    generalize q1.2.num 1 = q2 at *
    have l3 : (q2.2.num 4).1 < 4294967296 := num_lt _ (by omega) (by omega)
    generalize q2.2.num 4 = q3 at *
    generalize q3.2.take 8 = q4 at *
    have l5 : (q4.2.num 4).1 < 4294967296 := num_lt _ (by omega) (by omega)
    generalize q4.2.num 4 = q5 at *
    have l6 : (q5.2.num 4).1 < 4294967296 := num_lt _ (by omega) (by omega)
    generalize q5.2.num 4 = q6 at *
    have l7 : (q6.2.num 4).1 < 4294967296 := num_lt _ (by omega) (by omega)
    generalize q6.2.num 4 = q7 at *
    have l8 : (q7.2.num 2).1 < 65536 := num_lt _ (by omega) (by omega)
    generalize q7.2.num 2 = q8 at *
    refine ⟨?_, ?_, ?_, ?_, ?_, ?_, ?_, ?_⟩
    all_goals try (simp only [inI]; omega)
    intro i
    have g := fun j => hb q4.1 j
    simp only [inI] at g
    rcases i with _ | _ | _ | _ | _ | _ | _ | _ | i
    · exact g 0
    · exact g 1
    · exact g 2
    · exact g 3
    · exact g 4
    · exact g 5
    · exact g 6
    · exact g 7
    · show 0 ≤ (0 : Int) ∧ (0 : Int) ≤ 255
      omega
  unfold mdec
  dsimp only
  split
  · exact hz
  · split
    · exact hz
    · exact hm

theorem mdec_bad {b : List UInt8} (h : (mdec b).2 ≠ 0) : (mdec b).1 = .zero := by
  unfold mdec at h ⊢
  dsimp only at h ⊢
  split
  · rfl
  · split
    · rfl
    · rename_i h1 h2
      rw [if_neg h1, if_neg h2] at h
      exact (h rfl).elim

theorem take8_ok (m : Mf) (T : List UInt8) : (⟨m.masks ++ T, 0, true⟩ : Rd).take 8 = (m.masks, ⟨T, 0, true⟩) := by
  unfold Rd.take
  rw [if_neg (by simp), if_neg (by omega), if_neg (by simp [Mf.masks]; omega)]
  rfl

theorem mdec_enc {m : Mf} (ok : m.Ok) (hc : chk m = 0) : mdec m.enc = (m, 0) := by
  have may := chk_may hc
  have mk := may.kind
  have mc := may.chunk
  have ms := may.size
  have okid := ok.id
  have okl := ok.label
  have okf := ok.first
  have oka := ok.last
  simp only [inI] at okid okl okf oka
  have e : m.enc = enc (Int.toNat 8) m.id ++ (enc (Int.toNat 1) m.kind ++ (enc (Int.toNat 4) m.label ++ (m.masks ++ (enc (Int.toNat 4) m.first ++ (enc (Int.toNat 4) m.last ++ (enc (Int.toNat 4) m.size ++ (enc (Int.toNat 2) m.chunks ++ []))))))) := by
    simp [Mf.enc, Mf.head, Mf.tail]
  have hb : ∀ i, i < 8 → byt m.masks i = m.mask i := fun i hi => by
    have h := ok.mask
    rcases i with _ | _ | _ | _ | _ | _ | _ | _ | i
    · exact u8_in (h 0)
    · exact u8_in (h 1)
    · exact u8_in (h 2)
    · exact u8_in (h 3)
    · exact u8_in (h 4)
    · exact u8_in (h 5)
    · exact u8_in (h 6)
    · exact u8_in (h 7)
    · omega
  have hch : mchain ⟨m.enc, 0, true⟩ = (m, ⟨[], 0, true⟩) := by
    rw [e]
    unfold mchain
    rw [num_enc (w := 8) (by omega) (by omega) (by simpa using by omega)]
    simp only
    rw [num_enc (w := 1) (by omega) (by omega) (by simpa using by omega)]
    simp only
    rw [num_enc (w := 4) (by omega) (by omega) (by simpa using by omega)]
    simp only [take8_ok]
    rw [num_enc (w := 4) (by omega) (by omega) (by simpa using by omega)]
    simp only
    rw [num_enc (w := 4) (by omega) (by omega) (by simpa using by omega)]
    simp only
    rw [num_enc (w := 4) (by omega) (by omega) (by simpa using by omega)]
    simp only
    rw [num_enc (w := 2) (by omega) (by omega) (by simpa using by omega)]
    simp only [hb 0 (by omega), hb 1 (by omega), hb 2 (by omega), hb 3 (by omega), hb 4 (by omega), hb 5 (by omega), hb 6 (by omega), hb 7 (by omega), Mf.mask]
    rw [Int.toNat_of_nonneg (by omega), Int.toNat_of_nonneg (by omega), Int.toNat_of_nonneg (by omega), Int.toNat_of_nonneg (by omega), Int.toNat_of_nonneg (by omega), Int.toNat_of_nonneg (by omega), Int.toNat_of_nonneg (by omega)]
  unfold mdec
  simp only [hch]
  rw [if_neg (by simp [Rd.fin, Rd.err]), if_neg (by simp [hc])]

theorem cut_at {l : List UInt8} (k : Nat) {n m : Nat} (h : l.length = m) (hm : m = k + n) : ∃ p r, l = p ++ r ∧ p.length = k ∧ r.length = n :=
  ⟨l.take k, l.drop k, (List.take_append_drop k l).symm, by simp; omega, by simp; omega⟩
theorem num_app {p l : List UInt8} {w : Int} (h1 : 1 ≤ w) (h2 : w ≤ 8) (hp : p.length = w.toNat) : (⟨p ++ l, 0, true⟩ : Rd).num w = (le p, ⟨l, 0, true⟩) := by
  rw [num_ok h1 h2 (by simp; omega), List.take_left' hp, List.drop_left' hp]
theorem mdec_good {b : List UInt8} (h : (mdec b).2 = 0) : chk (mdec b).1 = 0 ∧ (mdec b).1.enc = b := by
  have hf := mchain_fin b
  have e0 : mdec b = if (mchain ⟨b, 0, true⟩).2.fin ≠ 0 then (.zero, (mchain ⟨b, 0, true⟩).2.fin) else if chk (mchain ⟨b, 0, true⟩).1 ≠ 0 then (.zero, chk (mchain ⟨b, 0, true⟩).1) else ((mchain ⟨b, 0, true⟩).1, 0) := rfl
  by_cases h1 : (mchain ⟨b, 0, true⟩).2.fin = 0
  · rw [if_neg (fun hh => hh h1)] at e0
    by_cases h2 : chk (mchain ⟨b, 0, true⟩).1 = 0
    · rw [if_neg (fun hh => hh h2)] at e0
      rw [e0]
      refine ⟨h2, ?_⟩
      have hl : b.length = 35 := by
        rw [h1] at hf
        split at hf
        · omega
        · split at hf
          · omega
          · omega
      clear e0 h hf h1 h2
      obtain ⟨p1, b, rfl, l1, hl⟩ := cut_at 8 (n := 27) hl rfl
      obtain ⟨p2, b, rfl, l2, hl⟩ := cut_at 1 (n := 26) hl rfl
      obtain ⟨p3, b, rfl, l3, hl⟩ := cut_at 4 (n := 22) hl rfl
      obtain ⟨p4, b, rfl, l4, hl⟩ := cut_at 8 (n := 14) hl rfl
      obtain ⟨p5, b, rfl, l5, hl⟩ := cut_at 4 (n := 10) hl rfl
      obtain ⟨p6, b, rfl, l6, hl⟩ := cut_at 4 (n := 6) hl rfl
      obtain ⟨p7, p8, rfl, l7, l8⟩ := cut_at 4 (n := 2) hl rfl
      have t4 : ∀ T, (⟨p4 ++ T, 0, true⟩ : Rd).take 8 = (p4, ⟨T, 0, true⟩) := fun T => by
        unfold Rd.take
        rw [if_neg (by simp), if_neg (by omega), if_neg (by simp; omega)]
        simp only [List.take_left' (show p4.length = Int.toNat 8 from l4), List.drop_left' (show p4.length = Int.toNat 8 from l4)]
      have n8 : (⟨p8, 0, true⟩ : Rd).num 2 = (le p8, ⟨[], 0, true⟩) := by
        have := num_app (p := p8) (l := []) (w := 2) (by omega) (by omega) l8
        rwa [List.append_nil] at this
      have hch : (mchain ⟨p1 ++ (p2 ++ (p3 ++ (p4 ++ (p5 ++ (p6 ++ (p7 ++ p8)))))), 0, true⟩).1 = ⟨le p1, le p2, le p3, byt p4 0, byt p4 1, byt p4 2, byt p4 3, byt p4 4, byt p4 5, byt p4 6, byt p4 7, le p5, le p6, le p7, le p8⟩ := by
        unfold mchain
        dsimp only
        rw [num_app (w := 8) (by omega) (by omega) l1]
        dsimp only
        rw [num_app (w := 1) (by omega) (by omega) l2]
        dsimp only
        rw [num_app (w := 4) (by omega) (by omega) l3]
        dsimp only
        rw [t4]
        dsimp only
        rw [num_app (w := 4) (by omega) (by omega) l5]
        dsimp only
        rw [num_app (w := 4) (by omega) (by omega) l6]
        dsimp only
        rw [num_app (w := 4) (by omega) (by omega) l7]
        dsimp only
        rw [n8]
      rw [hch]
      have hms : (⟨le p1, le p2, le p3, byt p4 0, byt p4 1, byt p4 2, byt p4 3, byt p4 4, byt p4 5, byt p4 6, byt p4 7, le p5, le p6, le p7, le p8⟩ : Mf).masks = p4 := by
        obtain ⟨v0, v1, v2, v3, v4, v5, v6, v7, r, rfl⟩ := drop8 (l := p4) (by omega)
        have : r = [] := List.eq_nil_of_length_eq_zero (by simpa using l4)
        subst this
        simp only [Mf.masks, byt, List.getD_cons_zero, List.getD_cons_succ, u8_toNat]
      unfold Mf.enc
      rw [hms]
      simp only [Mf.head, Mf.tail, enc_le' l1, enc_le' l2, enc_le' l3, enc_le' l5, enc_le' l6, enc_le' l7, enc_le' l8, List.append_assoc]
    · rw [if_pos h2] at e0
      rw [e0] at h
      exact (h2 h).elim
  · rw [if_pos h1] at e0
    rw [e0] at h
    exact (h1 h).elim
end Go.UM

/- The statements of chapter 12. -/


namespace Go.UM
open Go.AM
set_option maxRecDepth 4000

theorem length_c {R : Env} (h : N52 R) : R.Pc 52 [] (.int .i64 35) :=
  h.o52.enter 60 rfl fun X b hfit hp => by
    repeat ((intro _u; clear _u); first | with_reducible first | refine cT ?_ | refine cF ?_ | refine cA ?_ | refine cB ?_ | refine aLn ?_ | refine cK ?_ | refine aS8 ?_ | refine wI ?_ | refine nD ?_ | refine aX rfl ?_ | refine vL rfl ?_)
    intro _u; clear _u
    exact rT

theorem works12_c {R : Env} (h : N43 R) : R.Pc 43 [] (.bool true) :=
  h.o43.enter 60 rfl fun X b hfit hp => by
    repeat ((intro _u; clear _u); first | with_reducible first | refine cT ?_ | refine cF ?_ | refine cA ?_ | refine cB ?_ | refine aLn ?_ | refine cK ?_ | refine aS8 ?_ | refine wI ?_ | refine nD ?_ | refine aX rfl ?_ | refine vL rfl ?_)
    intro _u; clear _u
    refine ICall.pure h.n41.o41.hb (chk_c h.n41 ⟨0, 4, 0, 0, 0, 0, 0, 0, 0, 0, 0, 0, 0, 40, 1⟩ (by simp [inI])) rfl ?_
    repeat ((intro _u; clear _u); first | with_reducible first | refine cT ?_ | refine cF ?_ | refine cA ?_ | refine cB ?_ | refine aLn ?_ | refine cK ?_ | refine aS8 ?_ | refine wI ?_ | refine nD ?_ | refine aX rfl ?_ | refine vL rfl ?_)
    intro _u; clear _u
    refine acnd_t (by decide) ?_
    repeat ((intro _u; clear _u); first | with_reducible first | refine cT ?_ | refine cF ?_ | refine cA ?_ | refine cB ?_ | refine aLn ?_ | refine cK ?_ | refine aS8 ?_ | refine wI ?_ | refine nD ?_ | refine aX rfl ?_ | refine vL rfl ?_)
    intro _u; clear _u
    refine ICall.pure h.n41.o41.hb (chk_c h.n41 ⟨0, 4, 0, 0, 0, 0, 0, 0, 0, 0, 0, 0, 0, 65, 1⟩ (by simp [inI])) rfl ?_
    repeat ((intro _u; clear _u); first | with_reducible first | refine cT ?_ | refine cF ?_ | refine cA ?_ | refine cB ?_ | refine aLn ?_ | refine cK ?_ | refine aS8 ?_ | refine wI ?_ | refine nD ?_ | refine aX rfl ?_ | refine vL rfl ?_)
    intro _u; clear _u
    refine acnd_t (by decide) ?_
    repeat ((intro _u; clear _u); first | with_reducible first | refine cT ?_ | refine cF ?_ | refine cA ?_ | refine cB ?_ | refine aLn ?_ | refine cK ?_ | refine aS8 ?_ | refine wI ?_ | refine nD ?_ | refine aX rfl ?_ | refine vL rfl ?_)
    intro _u; clear _u
    refine ICall.pure h.n39.o39.hb (chunks_c h.n39 257 (by simp [inI])) rfl ?_
    repeat ((intro _u; clear _u); first | with_reducible first | refine cT ?_ | refine cF ?_ | refine cA ?_ | refine cB ?_ | refine aLn ?_ | refine cK ?_ | refine aS8 ?_ | refine wI ?_ | refine nD ?_ | refine aX rfl ?_ | refine vL rfl ?_)
    intro _u; clear _u
    refine acnd_t (by decide) ?_
    repeat ((intro _u; clear _u); first | with_reducible first | refine cT ?_ | refine cF ?_ | refine cA ?_ | refine cB ?_ | refine aLn ?_ | refine cK ?_ | refine aS8 ?_ | refine wI ?_ | refine nD ?_ | refine aX rfl ?_ | refine vL rfl ?_)
    intro _u; clear _u
    refine ICall.pure h.n52.o52.hb (length_c h.n52) rfl ?_
    repeat ((intro _u; clear _u); first | with_reducible first | refine cT ?_ | refine cF ?_ | refine cA ?_ | refine cB ?_ | refine aLn ?_ | refine cK ?_ | refine aS8 ?_ | refine wI ?_ | refine nD ?_ | refine aX rfl ?_ | refine vL rfl ?_)
    intro _u; clear _u
    exact rT

theorem checks_c {R : Env} (h : N36 R) (m : Mf) (hs : inI .i64 m.size) (k : Int) (hk : inI .i64 k) : R.Pc 36 [.agg m.row, .int .i64 k] (.bool true) :=
  h.o36.enter 100 rfl fun X b hfit hp => by
    repeat ((intro _u; clear _u); first | with_reducible first | refine cT ?_ | refine cF ?_ | refine cA ?_ | refine cB ?_ | refine aLn ?_ | refine cK ?_ | refine aS8 ?_ | refine wI ?_ | refine nD ?_ | refine aX rfl ?_ | refine vL rfl ?_)
    intro _u; clear _u
    refine ICall.pure h.n37.o37.hb (cap_c h.n37 k) rfl ?_
    repeat ((intro _u; clear _u); first | with_reducible first | refine cT ?_ | refine cF ?_ | refine cA ?_ | refine cB ?_ | refine aLn ?_ | refine cK ?_ | refine aS8 ?_ | refine wI ?_ | refine nD ?_ | refine aX rfl ?_ | refine vL rfl ?_)
    intro _u; clear _u
    refine ICall.pure h.n38.o38.hb (rcap_c h.n38 k) rfl ?_
    repeat ((intro _u; clear _u); first | with_reducible first | refine cT ?_ | refine cF ?_ | refine cA ?_ | refine cB ?_ | refine aLn ?_ | refine cK ?_ | refine aS8 ?_ | refine wI ?_ | refine nD ?_ | refine aX rfl ?_ | refine vL rfl ?_)
    intro _u; clear _u
    refine acnd_t (by simp) ?_
    repeat ((intro _u; clear _u); first | with_reducible first | refine cT ?_ | refine cF ?_ | refine cA ?_ | refine cB ?_ | refine aLn ?_ | refine cK ?_ | refine aS8 ?_ | refine wI ?_ | refine nD ?_ | refine aX rfl ?_ | refine vL rfl ?_)
    intro _u; clear _u
    refine ICall.pure h.n39.o39.hb (chunks_c h.n39 k hk) rfl ?_
    repeat ((intro _u; clear _u); first | with_reducible first | refine cT ?_ | refine cF ?_ | refine cA ?_ | refine cB ?_ | refine aLn ?_ | refine cK ?_ | refine aS8 ?_ | refine wI ?_ | refine nD ?_ | refine aX rfl ?_ | refine vL rfl ?_)
    intro _u; clear _u
    refine ICall.pure h.n40.o40.hb (rchunks_c h.n40 k hk) rfl ?_
    repeat ((intro _u; clear _u); first | with_reducible first | refine cT ?_ | refine cF ?_ | refine cA ?_ | refine cB ?_ | refine aLn ?_ | refine cK ?_ | refine aS8 ?_ | refine wI ?_ | refine nD ?_ | refine aX rfl ?_ | refine vL rfl ?_)
    intro _u; clear _u
    refine acnd_t (by simp) ?_
    repeat ((intro _u; clear _u); first | with_reducible first | refine cT ?_ | refine cF ?_ | refine cA ?_ | refine cB ?_ | refine aLn ?_ | refine cK ?_ | refine aS8 ?_ | refine wI ?_ | refine nD ?_ | refine aX rfl ?_ | refine vL rfl ?_)
    intro _u; clear _u
    refine ICall.pure h.n41.o41.hb (chk_c h.n41 m hs) rfl ?_
    repeat ((intro _u; clear _u); first | with_reducible first | refine cT ?_ | refine cF ?_ | refine cA ?_ | refine cB ?_ | refine aLn ?_ | refine cK ?_ | refine aS8 ?_ | refine wI ?_ | refine nD ?_ | refine aX rfl ?_ | refine vL rfl ?_)
    intro _u; clear _u
    refine ICall.pure h.n42.o42.hb (rchk_c h.n42 m hs) rfl ?_
    repeat ((intro _u; clear _u); first | with_reducible first | refine cT ?_ | refine cF ?_ | refine cA ?_ | refine cB ?_ | refine aLn ?_ | refine cK ?_ | refine aS8 ?_ | refine wI ?_ | refine nD ?_ | refine aX rfl ?_ | refine vL rfl ?_)
    intro _u; clear _u
    refine acnd_t (by simp) ?_
    repeat ((intro _u; clear _u); first | with_reducible first | refine cT ?_ | refine cF ?_ | refine cA ?_ | refine cB ?_ | refine aLn ?_ | refine cK ?_ | refine aS8 ?_ | refine wI ?_ | refine nD ?_ | refine aX rfl ?_ | refine vL rfl ?_)
    intro _u; clear _u
    refine ICall.pure h.n43.o43.hb (works12_c h.n43) rfl ?_
    repeat ((intro _u; clear _u); first | with_reducible first | refine cT ?_ | refine cF ?_ | refine cA ?_ | refine cB ?_ | refine aLn ?_ | refine cK ?_ | refine aS8 ?_ | refine wI ?_ | refine nD ?_ | refine aX rfl ?_ | refine vL rfl ?_)
    intro _u; clear _u
    exact rT
end Go.UM

/- What the library's functions hand back. -/


namespace Go.UM
open Go.AM
set_option maxRecDepth 4000

/-- bytes.Equal. -/
theorem eq8_c {R : Env} (h : N47 R) (a b : List UInt8) : R.Pc 47 [.isl 1 (slc8 a), .isl 1 (slc8 b)] (.bool (a == b)) :=
  h.o47.enter 60 rfl fun X bb hfit hp => by
    repeat ((intro _u; clear _u); first | with_reducible first | refine cT ?_ | refine cF ?_ | refine cA ?_ | refine cB ?_ | refine aLn ?_ | refine cK ?_ | refine aS8 ?_ | refine wI ?_ | refine nD ?_ | refine aX rfl ?_ | refine vL rfl ?_)
    intro _u; clear _u
    exact rT
end Go.UM

/- The statements of chapter 12, part 2. -/



namespace Go.UM
open Go.AM
set_option maxRecDepth 4000

theorem Mf.mask_in {a b c : Int} {m0 m1 m2 m3 m4 m5 m6 m7 : Int} {p q r s : Int} (h0 : inI .u8 m0) (h1 : inI .u8 m1) (h2 : inI .u8 m2) (h3 : inI .u8 m3) (h4 : inI .u8 m4) (h5 : inI .u8 m5) (h6 : inI .u8 m6) (h7 : inI .u8 m7) (i : Nat) :
    0 ≤ (⟨a, b, c, m0, m1, m2, m3, m4, m5, m6, m7, p, q, r, s⟩ : Mf).mask i ∧ (⟨a, b, c, m0, m1, m2, m3, m4, m5, m6, m7, p, q, r, s⟩ : Mf).mask i ≤ 255 := by
  simp only [inI] at *
  rcases i with _ | _ | _ | _ | _ | _ | _ | _ | i <;> simp only [Mf.mask] <;> omega

theorem mencodes_law {R : Env} (h : N44 R) (m : Mf) (ok : m.Ok) : R.Pc 44 [.agg m.row] (.bool true) :=
  h.o44.enter 100 rfl fun X bb hfit hp => by
    repeat ((intro _u; clear _u); first | with_reducible first | refine cT ?_ | refine cF ?_ | refine cA ?_ | refine cB ?_ | refine aLn ?_ | refine cK ?_ | refine aS8 ?_ | refine wI ?_ | refine nD ?_ | refine aX rfl ?_ | refine vL rfl ?_)
    intro _u; clear _u
    refine ICall.pure h.n45.o45.hb (mencode_c h.n45 m ok) rfl ?_
    repeat ((intro _u; clear _u); first | with_reducible first | refine cT ?_ | refine cF ?_ | refine cA ?_ | refine cB ?_ | refine aLn ?_ | refine cK ?_ | refine aS8 ?_ | refine wI ?_ | refine nD ?_ | refine aX rfl ?_ | refine vL rfl ?_)
    intro _u; clear _u
    refine ICall.pure h.n46.o46.hb (rmencode_c h.n46 m ok) rfl ?_
    repeat ((intro _u; clear _u); first | with_reducible first | refine cT ?_ | refine cF ?_ | refine cA ?_ | refine cB ?_ | refine aLn ?_ | refine cK ?_ | refine aS8 ?_ | refine wI ?_ | refine nD ?_ | refine aX rfl ?_ | refine vL rfl ?_)
    intro _u; clear _u
    refine ICall.pure h.n47.o47.hb (eq8_c h.n47 (mencs m).1 (mencs m).1) rfl ?_
    repeat ((intro _u; clear _u); first | with_reducible first | refine cT ?_ | refine cF ?_ | refine cA ?_ | refine cB ?_ | refine aLn ?_ | refine cK ?_ | refine aS8 ?_ | refine wI ?_ | refine nD ?_ | refine aX rfl ?_ | refine vL rfl ?_)
    intro _u; clear _u
    refine acnd_t (by simp) ?_
    repeat ((intro _u; clear _u); first | with_reducible first | refine cT ?_ | refine cF ?_ | refine cA ?_ | refine cB ?_ | refine aLn ?_ | refine cK ?_ | refine aS8 ?_ | refine wI ?_ | refine nD ?_ | refine aX rfl ?_ | refine vL rfl ?_)
    intro _u; clear _u
    refine acnd_t (by simp) ?_
    repeat ((intro _u; clear _u); first | with_reducible first | refine cT ?_ | refine cF ?_ | refine cA ?_ | refine cB ?_ | refine aLn ?_ | refine cK ?_ | refine aS8 ?_ | refine wI ?_ | refine nD ?_ | refine aX rfl ?_ | refine vL rfl ?_)
    intro _u; clear _u
    refine ICall.pure h.n43.o43.hb (works12_c h.n43) rfl ?_
    repeat ((intro _u; clear _u); first | with_reducible first | refine cT ?_ | refine cF ?_ | refine cA ?_ | refine cB ?_ | refine aLn ?_ | refine cK ?_ | refine aS8 ?_ | refine wI ?_ | refine nD ?_ | refine aX rfl ?_ | refine vL rfl ?_)
    intro _u; clear _u
    exact rT
end Go.UM

/- The statements of chapter 12, part 3. -/


namespace Go.UM
open Go.AM
set_option maxRecDepth 4000

theorem mdecodes_law {R : Env} (h : N48 R) (b : List UInt8) : R.Pc 48 [.isl 1 (slc8 b)] (.bool true) :=
  h.o48.enter 100 rfl fun X bb hfit hp => by
    repeat ((intro _u; clear _u); first | with_reducible first | refine cT ?_ | refine cF ?_ | refine cA ?_ | refine cB ?_ | refine aLn ?_ | refine cK ?_ | refine aS8 ?_ | refine wI ?_ | refine nD ?_ | refine aX rfl ?_ | refine vL rfl ?_)
    intro _u; clear _u
    refine asub_eq (by exact cap8 b 60) ?_
    have hb : (b.take (Int.toNat 60)).length ≤ 60 := by simp; omega
    generalize b.take (Int.toNat 60) = b at hb ⊢
    repeat ((intro _u; clear _u); first | with_reducible first | refine cT ?_ | refine cF ?_ | refine cA ?_ | refine cB ?_ | refine aLn ?_ | refine cK ?_ | refine aS8 ?_ | refine wI ?_ | refine nD ?_ | refine aX rfl ?_ | refine vL rfl ?_)
    intro _u; clear _u
    refine ICall.pure h.n49.o49.hb (mdecode_c h.n49 b (by omega)) rfl ?_
    repeat ((intro _u; clear _u); first | with_reducible first | refine cT ?_ | refine cF ?_ | refine cA ?_ | refine cB ?_ | refine aLn ?_ | refine cK ?_ | refine aS8 ?_ | refine wI ?_ | refine nD ?_ | refine aX rfl ?_ | refine vL rfl ?_)
    intro _u; clear _u
    refine ICall.pure h.n50.o50.hb (rmdecode_c h.n50 b (by omega)) rfl ?_
    repeat ((intro _u; clear _u); first | with_reducible first | refine cT ?_ | refine cF ?_ | refine cA ?_ | refine cB ?_ | refine aLn ?_ | refine cK ?_ | refine aS8 ?_ | refine wI ?_ | refine nD ?_ | refine aX rfl ?_ | refine vL rfl ?_)
    intro _u; clear _u
    refine acnd_t (by simp) ?_
    repeat ((intro _u; clear _u); first | with_reducible first | refine cT ?_ | refine cF ?_ | refine cA ?_ | refine cB ?_ | refine aLn ?_ | refine cK ?_ | refine aS8 ?_ | refine wI ?_ | refine nD ?_ | refine aX rfl ?_ | refine vL rfl ?_)
    intro _u; clear _u
    refine acnd_t (by simp) ?_
    repeat ((intro _u; clear _u); first | with_reducible first | refine cT ?_ | refine cF ?_ | refine cA ?_ | refine cB ?_ | refine aLn ?_ | refine cK ?_ | refine aS8 ?_ | refine wI ?_ | refine nD ?_ | refine aX rfl ?_ | refine vL rfl ?_)
    intro _u; clear _u
    refine ICall.pure h.n43.o43.hb (works12_c h.n43) rfl ?_
    repeat ((intro _u; clear _u); first | with_reducible first | refine cT ?_ | refine cF ?_ | refine cA ?_ | refine cB ?_ | refine aLn ?_ | refine cK ?_ | refine aS8 ?_ | refine wI ?_ | refine nD ?_ | refine aX rfl ?_ | refine vL rfl ?_)
    intro _u; clear _u
    exact rT

theorem mstrict_law {R : Env} (h : N53 R) (b : List UInt8) : R.Pc 53 [.isl 1 (slc8 b)] (.bool true) :=
  h.o53.enter 100 rfl fun X bb hfit hp => by
    repeat ((intro _u; clear _u); first | with_reducible first | refine cT ?_ | refine cF ?_ | refine cA ?_ | refine cB ?_ | refine aLn ?_ | refine cK ?_ | refine aS8 ?_ | refine wI ?_ | refine nD ?_ | refine aX rfl ?_ | refine vL rfl ?_)
    intro _u; clear _u
    refine asub_eq (by exact cap8 b 60) ?_
    have hb : (b.take (Int.toNat 60)).length ≤ 60 := by simp; omega
    generalize b.take (Int.toNat 60) = b at hb ⊢
    repeat ((intro _u; clear _u); first | with_reducible first | refine cT ?_ | refine cF ?_ | refine cA ?_ | refine cB ?_ | refine aLn ?_ | refine cK ?_ | refine aS8 ?_ | refine wI ?_ | refine nD ?_ | refine aX rfl ?_ | refine vL rfl ?_)
    intro _u; clear _u
    refine ICall.pure h.n49.o49.hb (mdecode_c h.n49 b (by omega)) rfl ?_
    repeat ((intro _u; clear _u); first | with_reducible first | refine cT ?_ | refine cF ?_ | refine cA ?_ | refine cB ?_ | refine aLn ?_ | refine cK ?_ | refine aS8 ?_ | refine wI ?_ | refine nD ?_ | refine aX rfl ?_ | refine vL rfl ?_)
    intro _u; clear _u
    refine cS (fun h1 => ?_) (fun h1 => ?_)
    · rw [mdec_bad h1]
      repeat ((intro _u; clear _u); first | with_reducible first | refine cT ?_ | refine cF ?_ | refine cA ?_ | refine cB ?_ | refine aLn ?_ | refine cK ?_ | refine aS8 ?_ | refine wI ?_ | refine nD ?_ | refine aX rfl ?_ | refine vL rfl ?_)
      intro _u; clear _u
      refine acnd_t (by rfl) ?_
      repeat ((intro _u; clear _u); first | with_reducible first | refine cT ?_ | refine cF ?_ | refine cA ?_ | refine cB ?_ | refine aLn ?_ | refine cK ?_ | refine aS8 ?_ | refine wI ?_ | refine nD ?_ | refine aX rfl ?_ | refine vL rfl ?_)
      intro _u; clear _u
      refine ICall.pure h.n43.o43.hb (works12_c h.n43) rfl ?_
      repeat ((intro _u; clear _u); first | with_reducible first | refine cT ?_ | refine cF ?_ | refine cA ?_ | refine cB ?_ | refine aLn ?_ | refine cK ?_ | refine aS8 ?_ | refine wI ?_ | refine nD ?_ | refine aX rfl ?_ | refine vL rfl ?_)
      intro _u; clear _u
      exact rT
    · obtain ⟨hc, he⟩ := mdec_good h1
      have c1 := mencode_c h.n45 (mdec b).1 (mdec_ok b)
      rw [mencs, if_pos hc, he] at c1
      repeat ((intro _u; clear _u); first | with_reducible first | refine cT ?_ | refine cF ?_ | refine cA ?_ | refine cB ?_ | refine aLn ?_ | refine cK ?_ | refine aS8 ?_ | refine wI ?_ | refine nD ?_ | refine aX rfl ?_ | refine vL rfl ?_)
      intro _u; clear _u
      refine ICall.pure h.n45.o45.hb c1 rfl ?_
      repeat ((intro _u; clear _u); first | with_reducible first | refine cT ?_ | refine cF ?_ | refine cA ?_ | refine cB ?_ | refine aLn ?_ | refine cK ?_ | refine aS8 ?_ | refine wI ?_ | refine nD ?_ | refine aX rfl ?_ | refine vL rfl ?_)
      intro _u; clear _u
      refine acnd_t (by rfl) ?_
      repeat ((intro _u; clear _u); first | with_reducible first | refine cT ?_ | refine cF ?_ | refine cA ?_ | refine cB ?_ | refine aLn ?_ | refine cK ?_ | refine aS8 ?_ | refine wI ?_ | refine nD ?_ | refine aX rfl ?_ | refine vL rfl ?_)
      intro _u; clear _u
      refine ICall.pure h.n47.o47.hb (eq8_c h.n47 b b) rfl ?_
      repeat ((intro _u; clear _u); first | with_reducible first | refine cT ?_ | refine cF ?_ | refine cA ?_ | refine cB ?_ | refine aLn ?_ | refine cK ?_ | refine aS8 ?_ | refine wI ?_ | refine nD ?_ | refine aX rfl ?_ | refine vL rfl ?_)
      intro _u; clear _u
      refine acnd_t (by simp) ?_
      repeat ((intro _u; clear _u); first | with_reducible first | refine cT ?_ | refine cF ?_ | refine cA ?_ | refine cB ?_ | refine aLn ?_ | refine cK ?_ | refine aS8 ?_ | refine wI ?_ | refine nD ?_ | refine aX rfl ?_ | refine vL rfl ?_)
      intro _u; clear _u
      refine ICall.pure h.n43.o43.hb (works12_c h.n43) rfl ?_
      repeat ((intro _u; clear _u); first | with_reducible first | refine cT ?_ | refine cF ?_ | refine cA ?_ | refine cB ?_ | refine aLn ?_ | refine cK ?_ | refine aS8 ?_ | refine wI ?_ | refine nD ?_ | refine aX rfl ?_ | refine vL rfl ?_)
      intro _u; clear _u
      exact rT

theorem same_enc {m n : Mf} (ok : m.Ok) (ok2 : n.Ok) (hc : chk m = 0) (hd : chk n = 0) : ((m.enc == n.enc) == (m.id == n.id && (m.kind == n.kind && (m.label == n.label && (m.m0 == n.m0 && (m.m1 == n.m1 && (m.m2 == n.m2 && (m.m3 == n.m3 && (m.m4 == n.m4 && (m.m5 == n.m5 && (m.m6 == n.m6 && (m.m7 == n.m7 && (m.first == n.first && (m.last == n.last && (m.size == n.size && m.chunks == n.chunks))))))))))))))) = true := by
  by_cases he : m.enc = n.enc
  · have h1 := mdec_enc ok hc
    have h2 := mdec_enc ok2 hd
    rw [he, h2] at h1
    have : n = m := congrArg Prod.fst h1
    subst this
    simp
  · have h1 : (m.enc == n.enc) = false := by simpa using he
    rw [h1, beq_iff_eq, eq_comm, Bool.eq_false_iff]
    intro hh
    simp only [Bool.and_eq_true, beq_iff_eq] at hh
    refine he ?_
    obtain ⟨h1, h2, h3, h4, h5, h6, h7, h8, h9, h10, h11, h12, h13, h14, h15⟩ := hh
    have : m = n := by
      cases m; cases n
      simp_all
    rw [this]

theorem mback_law {R : Env} (h : N51 R) (m n : Mf) (ok : m.Ok) (ok2 : n.Ok) : R.Pc 51 [.agg m.row, .agg n.row] (.bool true) :=
  h.o51.enter 100 rfl fun X bb hfit hp => by
    by_cases hc : chk m = 0
    · have c1 := mencode_c h.n45 m ok
      rw [mencs, if_pos hc] at c1
      repeat ((intro _u; clear _u); first | with_reducible first | refine cT ?_ | refine cF ?_ | refine cA ?_ | refine cB ?_ | refine aLn ?_ | refine cK ?_ | refine aS8 ?_ | refine wI ?_ | refine nD ?_ | refine aX rfl ?_ | refine vL rfl ?_)
      intro _u; clear _u
      refine ICall.pure h.n45.o45.hb c1 rfl ?_
      repeat ((intro _u; clear _u); first | with_reducible first | refine cT ?_ | refine cF ?_ | refine cA ?_ | refine cB ?_ | refine aLn ?_ | refine cK ?_ | refine aS8 ?_ | refine wI ?_ | refine nD ?_ | refine aX rfl ?_ | refine vL rfl ?_)
      intro _u; clear _u
      refine acnd_f (by rfl) ?_
      have c2 := mdecode_c h.n49 m.enc (by rw [m.enc_len]; decide)
      rw [mdec_enc ok hc] at c2
      repeat ((intro _u; clear _u); first | with_reducible first | refine cT ?_ | refine cF ?_ | refine cA ?_ | refine cB ?_ | refine aLn ?_ | refine cK ?_ | refine aS8 ?_ | refine wI ?_ | refine nD ?_ | refine aX rfl ?_ | refine vL rfl ?_)
      intro _u; clear _u
      refine ICall.pure h.n49.o49.hb c2 rfl ?_
      repeat ((intro _u; clear _u); first | with_reducible first | refine cT ?_ | refine cF ?_ | refine cA ?_ | refine cB ?_ | refine aLn ?_ | refine cK ?_ | refine aS8 ?_ | refine wI ?_ | refine nD ?_ | refine aX rfl ?_ | refine vL rfl ?_)
      intro _u; clear _u
      refine acnd_f (by rfl) ?_
      repeat ((intro _u; clear _u); first | with_reducible first | refine cT ?_ | refine cF ?_ | refine cA ?_ | refine cB ?_ | refine aLn ?_ | refine cK ?_ | refine aS8 ?_ | refine wI ?_ | refine nD ?_ | refine aX rfl ?_ | refine vL rfl ?_)
      intro _u; clear _u
      refine acnd_f (by simp) ?_
      repeat ((intro _u; clear _u); first | with_reducible first | refine cT ?_ | refine cF ?_ | refine cA ?_ | refine cB ?_ | refine aLn ?_ | refine cK ?_ | refine aS8 ?_ | refine wI ?_ | refine nD ?_ | refine aX rfl ?_ | refine vL rfl ?_)
      intro _u; clear _u
      refine ICall.pure h.n52.o52.hb (length_c h.n52) rfl ?_
      repeat ((intro _u; clear _u); first | with_reducible first | refine cT ?_ | refine cF ?_ | refine cA ?_ | refine cB ?_ | refine aLn ?_ | refine cK ?_ | refine aS8 ?_ | refine wI ?_ | refine nD ?_ | refine aX rfl ?_ | refine vL rfl ?_)
      intro _u; clear _u
      refine acnd_f (by simp [m.enc_len]) ?_
      by_cases hd : chk n = 0
      · have c3 := mencode_c h.n45 n ok2
        rw [mencs, if_pos hd] at c3
        repeat ((intro _u; clear _u); first | with_reducible first | refine cT ?_ | refine cF ?_ | refine cA ?_ | refine cB ?_ | refine aLn ?_ | refine cK ?_ | refine aS8 ?_ | refine wI ?_ | refine nD ?_ | refine aX rfl ?_ | refine vL rfl ?_)
        intro _u; clear _u
        refine ICall.pure h.n45.o45.hb c3 rfl ?_
        repeat ((intro _u; clear _u); first | with_reducible first | refine cT ?_ | refine cF ?_ | refine cA ?_ | refine cB ?_ | refine aLn ?_ | refine cK ?_ | refine aS8 ?_ | refine wI ?_ | refine nD ?_ | refine aX rfl ?_ | refine vL rfl ?_)
        intro _u; clear _u
        refine acnd_f (by rfl) ?_
        repeat ((intro _u; clear _u); first | with_reducible first | refine cT ?_ | refine cF ?_ | refine cA ?_ | refine cB ?_ | refine aLn ?_ | refine cK ?_ | refine aS8 ?_ | refine wI ?_ | refine nD ?_ | refine aX rfl ?_ | refine vL rfl ?_)
        intro _u; clear _u
        refine ICall.pure h.n47.o47.hb (eq8_c h.n47 m.enc n.enc) rfl ?_
        repeat ((intro _u; clear _u); first | with_reducible first | refine cT ?_ | refine cF ?_ | refine cA ?_ | refine cB ?_ | refine aLn ?_ | refine cK ?_ | refine aS8 ?_ | refine wI ?_ | refine nD ?_ | refine aX rfl ?_ | refine vL rfl ?_)
        intro _u; clear _u
        refine acnd_t (by exact same_enc ok ok2 hc hd) ?_
        repeat ((intro _u; clear _u); first | with_reducible first | refine cT ?_ | refine cF ?_ | refine cA ?_ | refine cB ?_ | refine aLn ?_ | refine cK ?_ | refine aS8 ?_ | refine wI ?_ | refine nD ?_ | refine aX rfl ?_ | refine vL rfl ?_)
        intro _u; clear _u
        refine ICall.pure h.n43.o43.hb (works12_c h.n43) rfl ?_
        repeat ((intro _u; clear _u); first | with_reducible first | refine cT ?_ | refine cF ?_ | refine cA ?_ | refine cB ?_ | refine aLn ?_ | refine cK ?_ | refine aS8 ?_ | refine wI ?_ | refine nD ?_ | refine aX rfl ?_ | refine vL rfl ?_)
        intro _u; clear _u
        exact rT
      · have c3 := mencode_c h.n45 n ok2
        rw [mencs, if_neg hd] at c3
        repeat ((intro _u; clear _u); first | with_reducible first | refine cT ?_ | refine cF ?_ | refine cA ?_ | refine cB ?_ | refine aLn ?_ | refine cK ?_ | refine aS8 ?_ | refine wI ?_ | refine nD ?_ | refine aX rfl ?_ | refine vL rfl ?_)
        intro _u; clear _u
        refine ICall.pure h.n45.o45.hb c3 rfl ?_
        repeat ((intro _u; clear _u); first | with_reducible first | refine cT ?_ | refine cF ?_ | refine cA ?_ | refine cB ?_ | refine aLn ?_ | refine cK ?_ | refine aS8 ?_ | refine wI ?_ | refine nD ?_ | refine aX rfl ?_ | refine vL rfl ?_)
        intro _u; clear _u
        refine acnd_t (by simpa using hd) ?_
        repeat ((intro _u; clear _u); first | with_reducible first | refine cT ?_ | refine cF ?_ | refine cA ?_ | refine cB ?_ | refine aLn ?_ | refine cK ?_ | refine aS8 ?_ | refine wI ?_ | refine nD ?_ | refine aX rfl ?_ | refine vL rfl ?_)
        intro _u; clear _u
        refine ICall.pure h.n43.o43.hb (works12_c h.n43) rfl ?_
        repeat ((intro _u; clear _u); first | with_reducible first | refine cT ?_ | refine cF ?_ | refine cA ?_ | refine cB ?_ | refine aLn ?_ | refine cK ?_ | refine aS8 ?_ | refine wI ?_ | refine nD ?_ | refine aX rfl ?_ | refine vL rfl ?_)
        intro _u; clear _u
        exact rT
    · have c1 := mencode_c h.n45 m ok
      rw [mencs, if_neg hc] at c1
      repeat ((intro _u; clear _u); first | with_reducible first | refine cT ?_ | refine cF ?_ | refine cA ?_ | refine cB ?_ | refine aLn ?_ | refine cK ?_ | refine aS8 ?_ | refine wI ?_ | refine nD ?_ | refine aX rfl ?_ | refine vL rfl ?_)
      intro _u; clear _u
      refine ICall.pure h.n45.o45.hb c1 rfl ?_
      repeat ((intro _u; clear _u); first | with_reducible first | refine cT ?_ | refine cF ?_ | refine cA ?_ | refine cB ?_ | refine aLn ?_ | refine cK ?_ | refine aS8 ?_ | refine wI ?_ | refine nD ?_ | refine aX rfl ?_ | refine vL rfl ?_)
      intro _u; clear _u
      refine acnd_t (by simpa using hc) ?_
      repeat ((intro _u; clear _u); first | with_reducible first | refine cT ?_ | refine cF ?_ | refine cA ?_ | refine cB ?_ | refine aLn ?_ | refine cK ?_ | refine aS8 ?_ | refine wI ?_ | refine nD ?_ | refine aX rfl ?_ | refine vL rfl ?_)
      intro _u; clear _u
      refine acnd_t (by simp) ?_
      repeat ((intro _u; clear _u); first | with_reducible first | refine cT ?_ | refine cF ?_ | refine cA ?_ | refine cB ?_ | refine aLn ?_ | refine cK ?_ | refine aS8 ?_ | refine wI ?_ | refine nD ?_ | refine aX rfl ?_ | refine vL rfl ?_)
      intro _u; clear _u
      refine ICall.pure h.n41.o41.hb (chk_c h.n41 m ok.size) rfl ?_
      repeat ((intro _u; clear _u); first | with_reducible first | refine cT ?_ | refine cF ?_ | refine cA ?_ | refine cB ?_ | refine aLn ?_ | refine cK ?_ | refine aS8 ?_ | refine wI ?_ | refine nD ?_ | refine aX rfl ?_ | refine vL rfl ?_)
      intro _u; clear _u
      refine acnd_t (by simp) ?_
      repeat ((intro _u; clear _u); first | with_reducible first | refine cT ?_ | refine cF ?_ | refine cA ?_ | refine cB ?_ | refine aLn ?_ | refine cK ?_ | refine aS8 ?_ | refine wI ?_ | refine nD ?_ | refine aX rfl ?_ | refine vL rfl ?_)
      intro _u; clear _u
      refine ICall.pure h.n43.o43.hb (works12_c h.n43) rfl ?_
      repeat ((intro _u; clear _u); first | with_reducible first | refine cT ?_ | refine cF ?_ | refine cA ?_ | refine cB ?_ | refine aLn ?_ | refine cK ?_ | refine aS8 ?_ | refine wI ?_ | refine nD ?_ | refine aX rfl ?_ | refine vL rfl ?_)
      intro _u; clear _u
      exact rT
end Go.UM

/- What comes in, opened. -/


namespace Go.UM
open Go.AM

theorem open8 {T : TT} {n e : Nat} {es : List (List AV)} (hT : T.d e = .int .u8) (h : ∀ r ∈ es, cty T (n + 1) e r) : ∃ l : List UInt8, es = slc8 l := by
  obtain ⟨l, rfl, _⟩ := rows_map (f := fun c : UInt8 => [AV.int .u8 c.toNat]) (p := fun _ => True) (es := es) fun r hr => by
    have h1 := h r hr
    simp only [cty, hT] at h1
    obtain ⟨x, rfl, hx⟩ := h1
    have hx := wf_in hx
    simp only [inI] at hx
    refine ⟨u8 x, ?_, trivial⟩
    rw [← wr_u8, wr_in (k := .u8) hx]
  exact ⟨l, rfl⟩

theorem openK {T : TT} {n e : Nat} {k : IntKind} {es : List (List AV)} (hT : T.d e = .int k) (h : ∀ r ∈ es, cty T (n + 1) e r) : ∃ l : List Int, es = slcK k l ∧ ∀ x ∈ l, inI k x := by
  obtain ⟨l, rfl, hl⟩ := rows_map (f := fun c : Int => [AV.int k c]) (p := fun c => inI k c) (es := es) fun r hr => by
    have h1 := h r hr
    simp only [cty, hT] at h1
    obtain ⟨x, rfl, hx⟩ := h1
    exact ⟨x, rfl, wf_in hx⟩
  exact ⟨l, rfl, hl⟩
end Go.UM
