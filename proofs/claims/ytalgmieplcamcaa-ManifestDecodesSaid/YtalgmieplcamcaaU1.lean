/- Of the reckoning machine, and what is proved with it: texts joined by program. -/
import Derived.Test.YtalgmieplcamcaaU0
set_option linter.all false

/- The document's codec (umbraref11): what each function hands back. -/


namespace Go.UM
open Go.AM
set_option maxRecDepth 4000

theorem pow_le8 {w : Int} (h : w ≤ 8) : (256 : Int) ^ w.toNat ≤ 18446744073709551616 := by
  have : (256 : Nat) ^ w.toNat ≤ 256 ^ 8 := Nat.pow_le_pow_right (by decide) (by omega)
  have h2 : ((256 : Int) ^ w.toNat) = ((256 ^ w.toNat : Nat) : Int) := by rw [Int.natCast_pow]; rfl
  omega
theorem pow_ge1 (n : Nat) : (1 : Int) ≤ 256 ^ n := Int.pow_pos (by decide)

theorem most_c {R : Env} (h : N63 R) (w : Int) (hw : w ≤ 8) : R.Pc 63 [.int .i64 w] (.int .u64 (256 ^ w.toNat - 1)) :=
  h.o63.enter 100 rfl fun X bb hfit hp => by
    repeat ((intro _u; clear _u); first | with_reducible first | refine cT ?_ | refine cF ?_ | refine cA ?_ | refine cB ?_ | refine aLn ?_ | refine cK ?_ | refine aS8 ?_ | refine wI ?_ | refine nD ?_ | refine aX rfl ?_)
    intro _u; clear _u
    refine lPa 100 (fun i : Nat => i ≤ w.toNat) (fun i => ⟨[(0, .int .i64 w), (3, .int .u64 (256 ^ i - 1)), (4, .int .i64 i)], [], 0⟩) (fun i => w.toNat - i) (0) ?_ ?_
    · exact Nat.zero_le _
    · intro i hi
      dsimp only
      repeat ((intro _u; clear _u); first | with_reducible first | refine cT ?_ | refine cF ?_ | refine cA ?_ | refine cB ?_ | refine aLn ?_ | refine cK ?_ | refine aS8 ?_ | refine wI ?_ | refine nD ?_ | refine aX rfl ?_)
      intro _u; clear _u
      refine cS (fun h1 => ?_) (fun h1 => ?_)
      · have hp8 : (256 : Int) ^ (i + 1) ≤ 18446744073709551616 := by
          have := pow_le8 (w := (i + 1 : Nat)) (by omega)
          simpa using this
        rw [Int.pow_succ] at hp8
        have hp1 := pow_ge1 i
        repeat ((intro _u; clear _u); first | with_reducible first | refine cT ?_ | refine cF ?_ | refine cA ?_ | refine cB ?_ | refine aLn ?_ | refine cK ?_ | refine aS8 ?_ | refine wI ?_ | refine nD ?_ | refine aX rfl ?_)
        intro _u; clear _u
        refine nXa (i + 1) ?_ ?_
        · omega
        · omega
      · repeat ((intro _u; clear _u); first | with_reducible first | refine cT ?_ | refine cF ?_ | refine cA ?_ | refine cB ?_ | refine aLn ?_ | refine cK ?_ | refine aS8 ?_ | refine wI ?_ | refine nD ?_ | refine aX rfl ?_)
        intro _u; clear _u
        refine rT ?_
        all_goals repeat' (first | exact True.intro | refine And.intro ?_ ?_ | (intro _u; clear _u) | with_reducible first | refine eM ?_ ?_ | refine eF ?_ ?_ ?_ | refine eN ?_ | refine eL ?_ ?_ ?_ | refine eA ?_ ?_ | refine IWk.mk ⟨_, hp, rfl⟩ ?_ ?_)
        all_goals first | with_reducible rfl | omega | exact Or.inl (by decide) | (simp; done) | rfl | skip
        rw [show i = w.toNat by omega]


theorem rput_c {R : Env} (h : N55 R) (b : List UInt8) (w : Int) (n : List Int) (hl : b.length + 8 * n.length ≤ 1073741824) (hn : ∀ x ∈ n, 0 ≤ x ∧ x ≤ 18446744073709551615) :
    R.Mc 55 [.isl 1 (slc8 b), .int .i64 w, .isl 1 (slcK .u64 n)] [] (.tup [.osl 0 (puts b w n).1.length, .int .i64 (puts b w n).2]) [(0, .arr (R.ty 4) 1 (slc8 (puts b w n).1))] 1 :=
  h.o55.enterM 100 0 rfl rfl rfl fun X bb hfit hp => by
    generalize hq : puts b w n = q
    repeat ((intro _u; clear _u); first | with_reducible first | refine cT ?_ | refine cF ?_ | refine cA ?_ | refine cB ?_ | refine aLn ?_ | refine cK ?_ | refine aS8 ?_ | refine wI ?_ | refine nD ?_ | refine aX rfl ?_)
    intro _u; clear _u
    refine cS (fun h1 => ?_) (fun h1 => ?_)
    · rw [puts, if_pos (.inl h1)] at hq
      subst hq
      repeat ((intro _u; clear _u); first | with_reducible first | refine cT ?_ | refine cF ?_ | refine cA ?_ | refine cB ?_ | refine aLn ?_ | refine cK ?_ | refine aS8 ?_ | refine wI ?_ | refine nD ?_ | refine aX rfl ?_)
      intro _u; clear _u
      exact rM [50]
    · repeat ((intro _u; clear _u); first | with_reducible first | refine cT ?_ | refine cF ?_ | refine cA ?_ | refine cB ?_ | refine aLn ?_ | refine cK ?_ | refine aS8 ?_ | refine wI ?_ | refine nD ?_ | refine aX rfl ?_)
      intro _u; clear _u
      refine cS (fun h2 => ?_) (fun h2 => ?_)
      · rw [puts, if_pos (.inr h2)] at hq
        subst hq
        repeat ((intro _u; clear _u); first | with_reducible first | refine cT ?_ | refine cF ?_ | refine cA ?_ | refine cB ?_ | refine aLn ?_ | refine cK ?_ | refine aS8 ?_ | refine wI ?_ | refine nD ?_ | refine aX rfl ?_)
        intro _u; clear _u
        exact rM [50]
      · repeat ((intro _u; clear _u); first | with_reducible first | refine cT ?_ | refine cF ?_ | refine cA ?_ | refine cB ?_ | refine aLn ?_ | refine cK ?_ | refine aS8 ?_ | refine wI ?_ | refine nD ?_ | refine aX rfl ?_)
        intro _u; clear _u
        refine lPa 100 (fun k : Nat => k ≤ n.length ∧ (n.take k).any (fun x => decide (256 ^ w.toNat ≤ x)) = false) (fun k => ⟨[(1, .int .i64 w), (2, .isl 1 (slcK .u64 n)), (8, .osl 0 (b ++ (n.take k).flatMap (enc w.toNat)).length), (9, .int .i64 k)], [(0, .arr (R.ty 4) 1 (slc8 (b ++ (n.take k).flatMap (enc w.toNat))))], 1⟩) (fun k => n.length - k) (0) ?_ ?_
        · exact ⟨Nat.zero_le _, by simp⟩
        · intro k hk
          dsimp only
          repeat ((intro _u; clear _u); first | with_reducible first | refine cT ?_ | refine cF ?_ | refine cA ?_ | refine cB ?_ | refine aLn ?_ | refine cK ?_ | refine aS8 ?_ | refine wI ?_ | refine nD ?_ | refine aX rfl ?_)
          intro _u; clear _u
          refine cS (fun h3 => ?_) (fun h3 => ?_)
          · obtain ⟨x, hx⟩ : ∃ u_, n[k]? = some u_ := ⟨_, List.getElem?_eq_getElem (by first | omega | (simp <;> omega))⟩
            repeat ((intro _u; clear _u); first | with_reducible first | refine cT ?_ | refine cF ?_ | refine cA ?_ | refine cB ?_ | refine aLn ?_ | refine cK ?_ | refine aS8 ?_ | refine wI ?_ | refine nD ?_ | refine aX rfl ?_)
            intro _u; clear _u
            refine eget_map hx ?_
            have hxk := hx
            have hx := hn x (List.mem_of_getElem? hxk)
            repeat ((intro _u; clear _u); first | with_reducible first | refine cT ?_ | refine cF ?_ | refine cA ?_ | refine cB ?_ | refine aLn ?_ | refine cK ?_ | refine aS8 ?_ | refine wI ?_ | refine nD ?_ | refine aX rfl ?_)
            intro _u; clear _u
            refine ICall.pure h.n63.o63.hb (most_c h.n63 w h2) rfl ?_
            repeat ((intro _u; clear _u); first | with_reducible first | refine cT ?_ | refine cF ?_ | refine cA ?_ | refine cB ?_ | refine aLn ?_ | refine cK ?_ | refine aS8 ?_ | refine wI ?_ | refine nD ?_ | refine aX rfl ?_)
            intro _u; clear _u
            refine cS (fun h5 => ?_) (fun h5 => ?_)
            · rw [puts_bad (by omega) (by omega) (List.mem_of_getElem? hxk) (by omega)] at hq
              subst hq
              repeat ((intro _u; clear _u); first | with_reducible first | refine cT ?_ | refine cF ?_ | refine cA ?_ | refine cB ?_ | refine aLn ?_ | refine cK ?_ | refine aS8 ?_ | refine wI ?_ | refine nD ?_ | refine aX rfl ?_)
              intro _u; clear _u
              exact rM [50]
            · have hnb : ¬ 256 ^ w.toNat ≤ x := by omega
              repeat ((intro _u; clear _u); first | with_reducible first | refine cT ?_ | refine cF ?_ | refine cA ?_ | refine cB ?_ | refine aLn ?_ | refine cK ?_ | refine aS8 ?_ | refine wI ?_ | refine nD ?_ | refine aX rfl ?_)
              intro _u; clear _u
              refine eget_map hxk ?_
              repeat ((intro _u; clear _u); first | with_reducible first | refine cT ?_ | refine cF ?_ | refine cA ?_ | refine cB ?_ | refine aLn ?_ | refine cK ?_ | refine aS8 ?_ | refine wI ?_ | refine nD ?_ | refine aX rfl ?_)
              intro _u; clear _u
              refine lPa 100 (fun i : Nat => (i : Int) ≤ w) (fun i => ⟨[(1, .int .i64 w), (2, .isl 1 (slcK .u64 n)), (8, .osl 0 (b ++ (n.take k).flatMap (enc w.toNat) ++ enc i x).length), (9, .int .i64 k), (10, .int .u64 (x / 256 ^ i)), (11, .int .i64 i)], [(0, .arr (R.ty 4) 1 (slc8 (b ++ (n.take k).flatMap (enc w.toNat) ++ enc i x)))], 1⟩) (fun i => w.toNat - i) (0) ?_ ?_
              · show (0 : Int) ≤ w
                omega
              · intro i hi
                dsimp only
                repeat ((intro _u; clear _u); first | with_reducible first | refine cT ?_ | refine cF ?_ | refine cA ?_ | refine cB ?_ | refine aLn ?_ | refine cK ?_ | refine aS8 ?_ | refine wI ?_ | refine nD ?_ | refine aX rfl ?_)
                intro _u; clear _u
                refine cS (fun h6 => ?_) (fun h6 => ?_)
                · repeat ((intro _u; clear _u); first | with_reducible first | refine cT ?_ | refine cF ?_ | refine cA ?_ | refine cB ?_ | refine aLn ?_ | refine cK ?_ | refine aS8 ?_ | refine wI ?_ | refine nD ?_ | refine aX rfl ?_)
                  intro _u; clear _u
                  refine iwr_any ?_
                  repeat ((intro _u; clear _u); first | with_reducible first | refine cT ?_ | refine cF ?_ | refine cA ?_ | refine cB ?_ | refine aLn ?_ | refine cK ?_ | refine aS8 ?_ | refine wI ?_ | refine nD ?_ | refine aX rfl ?_)
                  intro _u; clear _u
                  refine ⟨by rw [slc8_length]; exact put_room hl h2 h1 h3 h6, ?_⟩
                  have hxi : 0 ≤ x / 256 ^ i := Int.ediv_nonneg hx.1 (by have := pow_ge1 i; omega)
                  have hxl : x / 256 ^ i ≤ x := Int.ediv_le_self _ hx.1
                  repeat ((intro _u; clear _u); first | with_reducible first | refine cT ?_ | refine cF ?_ | refine cA ?_ | refine cB ?_ | refine aLn ?_ | refine cK ?_ | refine aS8 ?_ | refine wI ?_ | refine nD ?_ | refine aX rfl ?_)
                  intro _u; clear _u
                  rw [Int.tdiv_eq_ediv_of_nonneg hxi]
                  refine iwr_in (by simp only [inI]; omega) ?_
                  repeat ((intro _u; clear _u); first | with_reducible first | refine cT ?_ | refine cF ?_ | refine cA ?_ | refine cB ?_ | refine aLn ?_ | refine cK ?_ | refine aS8 ?_ | refine wI ?_ | refine nD ?_ | refine aX rfl ?_)
                  intro _u; clear _u
                  refine nX (i + 1) ?_ ?_ ⟨_, hp, rfl⟩ ?_ ?_
                  · omega
                  · omega
                  · all_goals repeat' (first | exact True.intro | refine And.intro ?_ ?_ | (intro _u; clear _u) | with_reducible first | refine eM ?_ ?_ | refine eF ?_ ?_ ?_ | refine eN ?_ | refine eL ?_ ?_ ?_ | refine eA ?_ ?_ | refine IWk.mk ⟨_, hp, rfl⟩ ?_ ?_)
                    all_goals first | with_reducible rfl | omega | exact Or.inl (by decide) | (simp; done) | rfl | skip
                    rw [Int.pow_succ, Int.ediv_ediv_of_nonneg (by have := pow_ge1 i; omega)]
                  · all_goals repeat' (first | exact True.intro | refine And.intro ?_ ?_ | (intro _u; clear _u) | with_reducible first | refine eM ?_ ?_ | refine eF ?_ ?_ ?_ | refine eN ?_ | refine eL ?_ ?_ ?_ | refine eA ?_ ?_ | refine IWk.mk ⟨_, hp, rfl⟩ ?_ ?_)
                    all_goals first | with_reducible rfl | omega | exact Or.inl (by decide) | (simp; done) | rfl | skip
                    simp [enc_succ, u8_tmod hxi]
                · repeat ((intro _u; clear _u); first | with_reducible first | refine cT ?_ | refine cF ?_ | refine cA ?_ | refine cB ?_ | refine aLn ?_ | refine cK ?_ | refine aS8 ?_ | refine wI ?_ | refine nD ?_ | refine aX rfl ?_)
                  intro _u; clear _u
                  refine nX (k + 1) ?_ ?_ ⟨_, hp, rfl⟩ ?_ ?_
                  · refine ⟨by omega, ?_⟩
                    rw [any_take_succ hxk, hk.2, decide_eq_false hnb]; rfl
                  · omega
                  · all_goals repeat' (first | exact True.intro | refine And.intro ?_ ?_ | (intro _u; clear _u) | with_reducible first | refine eM ?_ ?_ | refine eF ?_ ?_ ?_ | refine eN ?_ | refine eL ?_ ?_ ?_ | refine eA ?_ ?_ | refine IWk.mk ⟨_, hp, rfl⟩ ?_ ?_)
                    all_goals first | with_reducible rfl | omega | exact Or.inl (by decide) | (simp; done) | rfl | skip
                    rw [take_succ_get hxk, show i = w.toNat by omega]; simp
                  · all_goals repeat' (first | exact True.intro | refine And.intro ?_ ?_ | (intro _u; clear _u) | with_reducible first | refine eM ?_ ?_ | refine eF ?_ ?_ ?_ | refine eN ?_ | refine eL ?_ ?_ ?_ | refine eA ?_ ?_ | refine IWk.mk ⟨_, hp, rfl⟩ ?_ ?_)
                    all_goals first | with_reducible rfl | omega | exact Or.inl (by decide) | (simp; done) | rfl | skip
                    rw [take_succ_get hxk, show i = w.toNat by omega]; simp
          · have hkn : n.take k = n := List.take_of_length_le (by omega)
            rw [hkn] at hk ⊢
            rw [puts_ok (by omega) (by omega) hk.2] at hq
            subst hq
            repeat ((intro _u; clear _u); first | with_reducible first | refine cT ?_ | refine cF ?_ | refine cA ?_ | refine cB ?_ | refine aLn ?_ | refine cK ?_ | refine aS8 ?_ | refine wI ?_ | refine nD ?_ | refine aX rfl ?_)
            intro _u; clear _u
            exact rM [0]
theorem half_eq {w : Int} (h1 : 1 ≤ w) (h2 : w ≤ 8) : (256 ^ w.toNat - 1 : Int) / 2 = 256 ^ w.toNat / 2 - 1 := by
  obtain h | h | h | h | h | h | h | h : w = 1 ∨ w = 2 ∨ w = 3 ∨ w = 4 ∨ w = 5 ∨ w = 6 ∨ w = 7 ∨ w = 8 := by omega
  all_goals (subst h; decide)
theorem half_le {w : Int} (h1 : 1 ≤ w) (h2 : w ≤ 8) : (256 ^ w.toNat : Int) / 2 ≤ 9223372036854775808 ∧ (128 : Int) ≤ 256 ^ w.toNat / 2 ∧ (256 ^ w.toNat : Int) = 2 * (256 ^ w.toNat / 2) := by
  obtain h | h | h | h | h | h | h | h : w = 1 ∨ w = 2 ∨ w = 3 ∨ w = 4 ∨ w = 5 ∨ w = 6 ∨ w = 7 ∨ w = 8 := by omega
  all_goals (subst h; decide)

theorem rsigned_c {R : Env} (h : N72 R) (b : List UInt8) (w : Int) (n : List Int) (hl : b.length + 8 * n.length ≤ 1073741824) (hn : ∀ x ∈ n, inI .i64 x) :
    R.Mc 72 [.isl 1 (slc8 b), .int .i64 w, .isl 1 (slcK .i64 n)] [] (.tup [.osl 0 (signs b w n).1.length, .int .i64 (signs b w n).2]) [(0, .arr (R.ty 4) 1 (slc8 (signs b w n).1))] 1 :=
  h.o72.enterM 100 0 rfl rfl rfl fun X bb hfit hp => by
    generalize hq : signs b w n = q
    repeat ((intro _u; clear _u); first | with_reducible first | refine cT ?_ | refine cF ?_ | refine cA ?_ | refine cB ?_ | refine aLn ?_ | refine cK ?_ | refine aS8 ?_ | refine wI ?_ | refine nD ?_ | refine aX rfl ?_)
    intro _u; clear _u
    refine cS (fun h1 => ?_) (fun h1 => ?_)
    · rw [signs, if_pos (.inl h1)] at hq
      subst hq
      repeat ((intro _u; clear _u); first | with_reducible first | refine cT ?_ | refine cF ?_ | refine cA ?_ | refine cB ?_ | refine aLn ?_ | refine cK ?_ | refine aS8 ?_ | refine wI ?_ | refine nD ?_ | refine aX rfl ?_)
      intro _u; clear _u
      exact rM [50]
    · repeat ((intro _u; clear _u); first | with_reducible first | refine cT ?_ | refine cF ?_ | refine cA ?_ | refine cB ?_ | refine aLn ?_ | refine cK ?_ | refine aS8 ?_ | refine wI ?_ | refine nD ?_ | refine aX rfl ?_)
      intro _u; clear _u
      refine cS (fun h2 => ?_) (fun h2 => ?_)
      · rw [signs, if_pos (.inr h2)] at hq
        subst hq
        repeat ((intro _u; clear _u); first | with_reducible first | refine cT ?_ | refine cF ?_ | refine cA ?_ | refine cB ?_ | refine aLn ?_ | refine cK ?_ | refine aS8 ?_ | refine wI ?_ | refine nD ?_ | refine aX rfl ?_)
        intro _u; clear _u
        exact rM [50]
      · repeat ((intro _u; clear _u); first | with_reducible first | refine cT ?_ | refine cF ?_ | refine cA ?_ | refine cB ?_ | refine aLn ?_ | refine cK ?_ | refine aS8 ?_ | refine wI ?_ | refine nD ?_ | refine aX rfl ?_)
        intro _u; clear _u
        refine ICall.pure h.n63.o63.hb (most_c h.n63 w h2) rfl ?_
        have hh := half_le h1 h2
        repeat ((intro _u; clear _u); first | with_reducible first | refine cT ?_ | refine cF ?_ | refine cA ?_ | refine cB ?_ | refine aLn ?_ | refine cK ?_ | refine aS8 ?_ | refine wI ?_ | refine nD ?_ | refine aX rfl ?_)
        intro _u; clear _u
        rw [Int.tdiv_eq_ediv_of_nonneg (by omega), half_eq h1 h2]
        refine iwr_in (by simp only [inI]; omega) ?_
        repeat ((intro _u; clear _u); first | with_reducible first | refine cT ?_ | refine cF ?_ | refine cA ?_ | refine cB ?_ | refine aLn ?_ | refine cK ?_ | refine aS8 ?_ | refine wI ?_ | refine nD ?_ | refine aX rfl ?_)
        intro _u; clear _u
        refine lPa 100 (fun k : Nat => k ≤ n.length ∧ (n.take k).any (fun x => decide (x < -(256 ^ w.toNat / 2)) || decide (256 ^ w.toNat / 2 ≤ x)) = false) (fun k => ⟨[(0, .isl 1 (slc8 b)), (1, .int .i64 w), (2, .isl 1 (slcK .i64 n)), (8, .int .i64 (256 ^ w.toNat / 2 - 1)), (9, .osl 0 ((n.take k).map fun x => x % 256 ^ w.toNat).length), (10, .int .i64 k)], [(0, .arr (R.ty 6) 1 (slcK .u64 ((n.take k).map fun x => x % 256 ^ w.toNat)))], 1⟩) (fun k => n.length - k) (0) ?_ ?_
        · exact ⟨Nat.zero_le _, by simp⟩
        · intro k hk
          dsimp only
          repeat ((intro _u; clear _u); first | with_reducible first | refine cT ?_ | refine cF ?_ | refine cA ?_ | refine cB ?_ | refine aLn ?_ | refine cK ?_ | refine aS8 ?_ | refine wI ?_ | refine nD ?_ | refine aX rfl ?_)
          intro _u; clear _u
          refine cS (fun h3 => ?_) (fun h3 => ?_)
          · obtain ⟨x, hx⟩ : ∃ u_, n[k]? = some u_ := ⟨_, List.getElem?_eq_getElem (by first | omega | (simp <;> omega))⟩
            repeat ((intro _u; clear _u); first | with_reducible first | refine cT ?_ | refine cF ?_ | refine cA ?_ | refine cB ?_ | refine aLn ?_ | refine cK ?_ | refine aS8 ?_ | refine wI ?_ | refine nD ?_ | refine aX rfl ?_)
            intro _u; clear _u
            refine eget_map hx ?_
            have hxk := hx
            have hx := hn x (List.mem_of_getElem? hxk)
            simp only [inI] at hx
            repeat ((intro _u; clear _u); first | with_reducible first | refine cT ?_ | refine cF ?_ | refine cA ?_ | refine cB ?_ | refine aLn ?_ | refine cK ?_ | refine aS8 ?_ | refine wI ?_ | refine nD ?_ | refine aX rfl ?_)
            intro _u; clear _u
            refine cS (fun h4 => ?_) (fun h4 => ?_)
            · rw [signs_bad (by omega) (by omega) (List.mem_of_getElem? hxk) (by omega)] at hq
              subst hq
              repeat ((intro _u; clear _u); first | with_reducible first | refine cT ?_ | refine cF ?_ | refine cA ?_ | refine cB ?_ | refine aLn ?_ | refine cK ?_ | refine aS8 ?_ | refine wI ?_ | refine nD ?_ | refine aX rfl ?_)
              intro _u; clear _u
              exact rM [50]
            · repeat ((intro _u; clear _u); first | with_reducible first | refine cT ?_ | refine cF ?_ | refine cA ?_ | refine cB ?_ | refine aLn ?_ | refine cK ?_ | refine aS8 ?_ | refine wI ?_ | refine nD ?_ | refine aX rfl ?_)
              intro _u; clear _u
              refine eget_map hxk ?_
              repeat ((intro _u; clear _u); first | with_reducible first | refine cT ?_ | refine cF ?_ | refine cA ?_ | refine cB ?_ | refine aLn ?_ | refine cK ?_ | refine aS8 ?_ | refine wI ?_ | refine nD ?_ | refine aX rfl ?_)
              intro _u; clear _u
              refine cS (fun h5 => ?_) (fun h5 => ?_)
              · rw [signs_bad (by omega) (by omega) (List.mem_of_getElem? hxk) (by omega)] at hq
                subst hq
                repeat ((intro _u; clear _u); first | with_reducible first | refine cT ?_ | refine cF ?_ | refine cA ?_ | refine cB ?_ | refine aLn ?_ | refine cK ?_ | refine aS8 ?_ | refine wI ?_ | refine nD ?_ | refine aX rfl ?_)
                intro _u; clear _u
                exact rM [50]
              · have hok : (n.take (k + 1)).any (fun x => decide (x < -(256 ^ w.toNat / 2)) || decide (256 ^ w.toNat / 2 ≤ x)) = false := by
                  rw [any_take_succ hxk, hk.2]
                  simp only [Bool.false_or, Bool.or_eq_false_iff, decide_eq_false_iff_not]
                  omega
                repeat ((intro _u; clear _u); first | with_reducible first | refine cT ?_ | refine cF ?_ | refine cA ?_ | refine cB ?_ | refine aLn ?_ | refine cK ?_ | refine aS8 ?_ | refine wI ?_ | refine nD ?_ | refine aX rfl ?_)
                intro _u; clear _u
                refine eget_map hxk ?_
                repeat ((intro _u; clear _u); first | with_reducible first | refine cT ?_ | refine cF ?_ | refine cA ?_ | refine cB ?_ | refine aLn ?_ | refine cK ?_ | refine aS8 ?_ | refine wI ?_ | refine nD ?_ | refine aX rfl ?_)
                intro _u; clear _u
                refine iwr_any ?_
                repeat ((intro _u; clear _u); first | with_reducible first | refine cT ?_ | refine cF ?_ | refine cA ?_ | refine cB ?_ | refine aLn ?_ | refine cK ?_ | refine aS8 ?_ | refine wI ?_ | refine nD ?_ | refine aX rfl ?_)
                intro _u; clear _u
                refine eget_map hxk ?_
                repeat ((intro _u; clear _u); first | with_reducible first | refine cT ?_ | refine cF ?_ | refine cA ?_ | refine cB ?_ | refine aLn ?_ | refine cK ?_ | refine aS8 ?_ | refine wI ?_ | refine nD ?_ | refine aX rfl ?_)
                intro _u; clear _u
                refine cS (fun h6 => ?_) (fun h6 => ?_)
                · repeat ((intro _u; clear _u); first | with_reducible first | refine cT ?_ | refine cF ?_ | refine cA ?_ | refine cB ?_ | refine aLn ?_ | refine cK ?_ | refine aS8 ?_ | refine wI ?_ | refine nD ?_ | refine aX rfl ?_)
                  intro _u; clear _u
                  refine ICall.pure h.n63.o63.hb (most_c h.n63 w h2) rfl ?_
                  repeat ((intro _u; clear _u); first | with_reducible first | refine cT ?_ | refine cF ?_ | refine cA ?_ | refine cB ?_ | refine aLn ?_ | refine cK ?_ | refine aS8 ?_ | refine wI ?_ | refine nD ?_ | refine aX rfl ?_)
                  intro _u; clear _u
                  refine eget_map hxk ?_
                  have hv : x % 256 ^ w.toNat = 256 ^ w.toNat - 1 - (0 - (x + 1)) := by
                    rw [← Int.add_emod_right, Int.emod_eq_of_lt (by omega) (by omega)]
                    omega
                  repeat ((intro _u; clear _u); first | with_reducible first | refine cT ?_ | refine cF ?_ | refine cA ?_ | refine cB ?_ | refine aLn ?_ | refine cK ?_ | refine aS8 ?_ | refine wI ?_ | refine nD ?_ | refine aX rfl ?_)
                  intro _u; clear _u
                  refine nX (k + 1) ?_ ?_ ⟨_, hp, rfl⟩ ?_ ?_
                  · exact ⟨by omega, hok⟩
                  · omega
                  · all_goals repeat' (first | exact True.intro | refine And.intro ?_ ?_ | (intro _u; clear _u) | with_reducible first | refine eM ?_ ?_ | refine eF ?_ ?_ ?_ | refine eN ?_ | refine eL ?_ ?_ ?_ | refine eA ?_ ?_ | refine IWk.mk ⟨_, hp, rfl⟩ ?_ ?_)
                    all_goals first | with_reducible rfl | omega | exact Or.inl (by decide) | (simp; done) | rfl | skip
                    rw [take_succ_get hxk]; simp
                  · all_goals repeat' (first | exact True.intro | refine And.intro ?_ ?_ | (intro _u; clear _u) | with_reducible first | refine eM ?_ ?_ | refine eF ?_ ?_ ?_ | refine eN ?_ | refine eL ?_ ?_ ?_ | refine eA ?_ ?_ | refine IWk.mk ⟨_, hp, rfl⟩ ?_ ?_)
                    all_goals first | with_reducible rfl | omega | exact Or.inl (by decide) | (simp; done) | rfl | skip
                    rw [take_succ_get hxk]; simp [slcK, hv]
                · have hv : x % 256 ^ w.toNat = wr .u64 x := by
                    rw [Int.emod_eq_of_lt (by omega) (by omega), wr_in (k := .u64) ⟨by omega, by omega⟩]
                  repeat ((intro _u; clear _u); first | with_reducible first | refine cT ?_ | refine cF ?_ | refine cA ?_ | refine cB ?_ | refine aLn ?_ | refine cK ?_ | refine aS8 ?_ | refine wI ?_ | refine nD ?_ | refine aX rfl ?_)
                  intro _u; clear _u
                  refine nX (k + 1) ?_ ?_ ⟨_, hp, rfl⟩ ?_ ?_
                  · exact ⟨by omega, hok⟩
                  · omega
                  · all_goals repeat' (first | exact True.intro | refine And.intro ?_ ?_ | (intro _u; clear _u) | with_reducible first | refine eM ?_ ?_ | refine eF ?_ ?_ ?_ | refine eN ?_ | refine eL ?_ ?_ ?_ | refine eA ?_ ?_ | refine IWk.mk ⟨_, hp, rfl⟩ ?_ ?_)
                    all_goals first | with_reducible rfl | omega | exact Or.inl (by decide) | (simp; done) | rfl | skip
                    rw [take_succ_get hxk]; simp
                  · all_goals repeat' (first | exact True.intro | refine And.intro ?_ ?_ | (intro _u; clear _u) | with_reducible first | refine eM ?_ ?_ | refine eF ?_ ?_ ?_ | refine eN ?_ | refine eL ?_ ?_ ?_ | refine eA ?_ ?_ | refine IWk.mk ⟨_, hp, rfl⟩ ?_ ?_)
                    all_goals first | with_reducible rfl | omega | exact Or.inl (by decide) | (simp; done) | rfl | skip
                    rw [take_succ_get hxk]; simp [slcK, hv]
          · have hkn : n.take k = n := List.take_of_length_le (by omega)
            rw [hkn] at hk ⊢
            rw [signs_ok (by omega) (by omega) hk.2] at hq
            subst hq
            repeat ((intro _u; clear _u); first | with_reducible first | refine cT ?_ | refine cF ?_ | refine cA ?_ | refine cB ?_ | refine aLn ?_ | refine cK ?_ | refine aS8 ?_ | refine wI ?_ | refine nD ?_ | refine aX rfl ?_)
            intro _u; clear _u
            refine cM true [] (rput_c h.n55 b w (n.map fun x => x % 256 ^ w.toNat) (by simpa using hl) (puts_mod (b := b) (by omega) h2)) ?_
            repeat ((intro _u; clear _u); first | refine eK ?_ | refine eP ?_)
            repeat ((intro _u; clear _u); first | with_reducible first | refine cT ?_ | refine cF ?_ | refine cA ?_ | refine cB ?_ | refine aLn ?_ | refine cK ?_ | refine aS8 ?_ | refine wI ?_ | refine nD ?_ | refine aX rfl ?_)
            intro _u; clear _u
            exact rM [1]
/-! ### The reader: the bytes B, and what is left of them -/
def rrdM (R : Env) (B : List UInt8) (r : Rd) : IMem := [(0, .var (R.ty 8) [.isl 1 (slc8 B), .int .i64 (B.length - r.l.length), .int .i64 r.e])]

theorem rslice {B l : List UInt8} {n : Int} (hB : l = B.drop (B.length - l.length)) (hl : l.length ≤ B.length) (hn : 0 ≤ n) :
    ((slc8 B).take ((B.length : Int) - l.length + n).toNat).drop ((B.length : Int) - l.length + n - n).toNat = slc8 (l.take n.toNat) := by
  rw [slc8_take, slc8_drop, List.drop_take, show ((B.length : Int) - l.length + n - n).toNat = B.length - l.length by omega, ← hB]
  congr 2
  omega

theorem rtake_c {R : Env} (h : N66 R) (B : List UInt8) (r : Rd) (hBm : B.length ≤ 1073741824) (hB : r.l = B.drop (B.length - r.l.length)) (hm : r.made = true) (n : Int) :
    R.Mc 66 [.loc 0 1 0 0, .int .i64 n] (rrdM R B r) (.isl 1 (slc8 (r.take n).1)) (rrdM R B (r.take n).2) 1 :=
  h.o66.enterM 100 1 rfl rfl rfl fun X bb hfit hp => by
    have hBl : r.l.length ≤ B.length := by rw [hB]; simp
    generalize hq : r.take n = q
    repeat ((intro _u; clear _u); first | with_reducible first | refine cT ?_ | refine cF ?_ | refine cA ?_ | refine cB ?_ | refine aLn ?_ | refine cK ?_ | refine aS8 ?_ | refine wI ?_ | refine nD ?_ | refine aX rfl ?_)
    intro _u; clear _u
    refine cS (fun h1 => ?_) (fun h1 => ?_)
    · repeat ((intro _u; clear _u); first | with_reducible first | refine cT ?_ | refine cF ?_ | refine cA ?_ | refine cB ?_ | refine aLn ?_ | refine cK ?_ | refine aS8 ?_ | refine wI ?_ | refine nD ?_ | refine aX rfl ?_)
      intro _u; clear _u
      refine cS (fun h2 => ?_) (fun h2 => ?_)
      · rw [Rd.take, if_neg (by simp [hm, h1]), if_pos h2] at hq
        subst hq
        repeat ((intro _u; clear _u); first | with_reducible first | refine cT ?_ | refine cF ?_ | refine cA ?_ | refine cB ?_ | refine aLn ?_ | refine cK ?_ | refine aS8 ?_ | refine wI ?_ | refine nD ?_ | refine aX rfl ?_)
        intro _u; clear _u
        refine acnd_f (by decide) ?_
        repeat ((intro _u; clear _u); first | with_reducible first | refine cT ?_ | refine cF ?_ | refine cA ?_ | refine cB ?_ | refine aLn ?_ | refine cK ?_ | refine aS8 ?_ | refine wI ?_ | refine nD ?_ | refine aX rfl ?_)
        intro _u; clear _u
        refine acnd_t (by decide) ?_
        repeat ((intro _u; clear _u); first | with_reducible first | refine cT ?_ | refine cF ?_ | refine cA ?_ | refine cB ?_ | refine aLn ?_ | refine cK ?_ | refine aS8 ?_ | refine wI ?_ | refine nD ?_ | refine aX rfl ?_)
        intro _u; clear _u
        exact rM [0]
      · repeat ((intro _u; clear _u); first | with_reducible first | refine cT ?_ | refine cF ?_ | refine cA ?_ | refine cB ?_ | refine aLn ?_ | refine cK ?_ | refine aS8 ?_ | refine wI ?_ | refine nD ?_ | refine aX rfl ?_)
        intro _u; clear _u
        refine acnd_t (by simp [h1]) ?_
        repeat ((intro _u; clear _u); first | with_reducible first | refine cT ?_ | refine cF ?_ | refine cA ?_ | refine cB ?_ | refine aLn ?_ | refine cK ?_ | refine aS8 ?_ | refine wI ?_ | refine nD ?_ | refine aX rfl ?_)
        intro _u; clear _u
        refine cS (fun h3 => ?_) (fun h3 => ?_)
        · rw [Rd.take, if_neg (by simp [hm, h1]), if_neg (by omega), if_pos (by omega)] at hq
          subst hq
          repeat ((intro _u; clear _u); first | with_reducible first | refine cT ?_ | refine cF ?_ | refine cA ?_ | refine cB ?_ | refine aLn ?_ | refine cK ?_ | refine aS8 ?_ | refine wI ?_ | refine nD ?_ | refine aX rfl ?_)
          intro _u; clear _u
          refine acnd_t (by decide) ?_
          repeat ((intro _u; clear _u); first | with_reducible first | refine cT ?_ | refine cF ?_ | refine cA ?_ | refine cB ?_ | refine aLn ?_ | refine cK ?_ | refine aS8 ?_ | refine wI ?_ | refine nD ?_ | refine aX rfl ?_)
          intro _u; clear _u
          exact rM [0]
        · rw [Rd.take, if_neg (by simp [hm, h1]), if_neg (by omega), if_neg (by omega)] at hq
          subst hq
          repeat ((intro _u; clear _u); first | with_reducible first | refine cT ?_ | refine cF ?_ | refine cA ?_ | refine cB ?_ | refine aLn ?_ | refine cK ?_ | refine aS8 ?_ | refine wI ?_ | refine nD ?_ | refine aX rfl ?_)
          intro _u; clear _u
          refine acnd_f (by simp [h1]) ?_
          repeat ((intro _u; clear _u); first | with_reducible first | refine cT ?_ | refine cF ?_ | refine cA ?_ | refine cB ?_ | refine aLn ?_ | refine cK ?_ | refine aS8 ?_ | refine wI ?_ | refine nD ?_ | refine aX rfl ?_)
          intro _u; clear _u
          refine asub_eq (by exact rslice hB hBl (by omega)) ?_
          repeat ((intro _u; clear _u); first | with_reducible first | refine cT ?_ | refine cF ?_ | refine cA ?_ | refine cB ?_ | refine aLn ?_ | refine cK ?_ | refine aS8 ?_ | refine wI ?_ | refine nD ?_ | refine aX rfl ?_)
          intro _u; clear _u
          refine rM [0] ?_
          all_goals repeat' (first | exact True.intro | refine And.intro ?_ ?_ | (intro _u; clear _u) | with_reducible first | refine eM ?_ ?_ | refine eF ?_ ?_ ?_ | refine eN ?_ | refine eL ?_ ?_ ?_ | refine eA ?_ ?_ | refine IWk.mk ⟨_, hp, rfl⟩ ?_ ?_)
          all_goals first | with_reducible rfl | omega | exact Or.inl (by decide) | (simp; done) | rfl | skip
          simp; omega
    · rw [Rd.take, if_pos (.inr (by simpa using h1))] at hq
      subst hq
      repeat ((intro _u; clear _u); first | with_reducible first | refine cT ?_ | refine cF ?_ | refine cA ?_ | refine cB ?_ | refine aLn ?_ | refine cK ?_ | refine aS8 ?_ | refine wI ?_ | refine nD ?_ | refine aX rfl ?_)
      intro _u; clear _u
      refine acnd_f (by simpa using h1) ?_
      repeat ((intro _u; clear _u); first | with_reducible first | refine cT ?_ | refine cF ?_ | refine cA ?_ | refine cB ?_ | refine aLn ?_ | refine cK ?_ | refine aS8 ?_ | refine wI ?_ | refine nD ?_ | refine aX rfl ?_)
      intro _u; clear _u
      refine acnd_t (by simpa using h1) ?_
      repeat ((intro _u; clear _u); first | with_reducible first | refine cT ?_ | refine cF ?_ | refine cA ?_ | refine cB ?_ | refine aLn ?_ | refine cK ?_ | refine aS8 ?_ | refine wI ?_ | refine nD ?_ | refine aX rfl ?_)
      intro _u; clear _u
      exact rM [0]
structure RdOk (B : List UInt8) (r : Rd) : Prop where
  m : B.length ≤ 1073741824
  s : r.l = B.drop (B.length - r.l.length)
  made : r.made = true
theorem RdOk.len {B : List UInt8} {r : Rd} (h : RdOk B r) : r.l.length ≤ B.length := by rw [h.s]; simp
theorem RdOk.take {B : List UInt8} {r : Rd} (h : RdOk B r) (n : Int) : RdOk B (r.take n).2 := by
  unfold Rd.take
  split
  · exact h
  · split
    · exact ⟨h.m, h.s, h.made⟩
    · split
      · exact ⟨h.m, h.s, h.made⟩
      · refine ⟨h.m, ?_, h.made⟩
        have h1 := h.s
        have h2 := h.len
        simp only [List.length_drop]
        conv => lhs; rw [h1]
        rw [List.drop_drop]
        congr 1
        omega
theorem RdOk.num {B : List UInt8} {r : Rd} (h : RdOk B r) (w : Int) : RdOk B (r.num w).2 := h.take _
theorem RdOk.int {B : List UInt8} {r : Rd} (h : RdOk B r) (w : Int) : RdOk B (r.int w).2 := h.num w
theorem RdOk.err {B : List UInt8} {r : Rd} (h : RdOk B r) (e : Int) : RdOk B { r with e := e } := ⟨h.m, h.s, h.made⟩
theorem RdOk.new {B : List UInt8} (h : B.length ≤ 1073741824) : RdOk B ⟨B, 0, true⟩ := ⟨h, by simp, rfl⟩

theorem le_drop {l : List UInt8} {j : Nat} {c : UInt8} (h : l[j]? = some c) : le (l.drop j) = le (l.drop (j + 1)) * 256 + c.toNat := by
  obtain ⟨hj, rfl⟩ := List.getElem?_eq_some_iff.1 h
  rw [List.drop_eq_getElem_cons hj]
  simp only [le]
  omega


theorem rnum_c {R : Env} (h : N61 R) (B : List UInt8) (r : Rd) (ok : RdOk B r) (w : Int) : R.Mc 61 [.loc 0 1 0 0, .int .i64 w] (rrdM R B r) (.int .u64 (r.num w).1) (rrdM R B (r.num w).2) 1 :=
  h.o61.enterM 100 1 rfl rfl rfl fun X bb hfit hp => by
    have e1 : w < 1 ∨ 8 < w → r.num w = (le (r.take (-1)).1, (r.take (-1)).2) := fun hw => by unfold Rd.num; rw [if_pos hw]
    have e2 : ¬ (w < 1 ∨ 8 < w) → r.num w = (le (r.take w).1, (r.take w).2) := fun hw => by unfold Rd.num; rw [if_neg hw]
    generalize hq : r.num w = q at e1 e2 ⊢
    repeat ((intro _u; clear _u); first | with_reducible first | refine cT ?_ | refine cF ?_ | refine cA ?_ | refine cB ?_ | refine aLn ?_ | refine cK ?_ | refine aS8 ?_ | refine wI ?_ | refine nD ?_ | refine aX rfl ?_)
    intro _u; clear _u
    refine cS (fun h1 => ?_) (fun h1 => ?_)
    · have bad : w < 1 ∨ 8 < w → q = (le (({ r with e := 2 } : Rd).take (max w 0)).1, (({ r with e := 2 } : Rd).take (max w 0)).2) := fun hw => by
        rw [e1 hw]
        simp [Rd.take, ok.made, h1]
      repeat ((intro _u; clear _u); first | with_reducible first | refine cT ?_ | refine cF ?_ | refine cA ?_ | refine cB ?_ | refine aLn ?_ | refine cK ?_ | refine aS8 ?_ | refine wI ?_ | refine nD ?_ | refine aX rfl ?_)
      intro _u; clear _u
      refine cS (fun h2 => ?_) (fun h2 => ?_)
      · rw [bad (.inl h2)]
        repeat ((intro _u; clear _u); first | with_reducible first | refine cT ?_ | refine cF ?_ | refine cA ?_ | refine cB ?_ | refine aLn ?_ | refine cK ?_ | refine aS8 ?_ | refine wI ?_ | refine nD ?_ | refine aX rfl ?_)
        intro _u; clear _u
        refine cM false [0] (rtake_c h.n66 B { r with e := 2 } ok.m ok.s ok.made (max w 0)) ?_
        repeat ((intro _u; clear _u); first | refine eK ?_ | refine eP ?_)
        have hlen : (({ r with e := 2 } : Rd).take (max w 0)).1.length ≤ 8 := by simp [Rd.take]
        generalize ({ r with e := 2 } : Rd).take (max w 0) = t at hlen ⊢
        repeat ((intro _u; clear _u); first | with_reducible first | refine cT ?_ | refine cF ?_ | refine cA ?_ | refine cB ?_ | refine aLn ?_ | refine cK ?_ | refine aS8 ?_ | refine wI ?_ | refine nD ?_ | refine aX rfl ?_)
        intro _u; clear _u
        refine ILoop.inv 100 (fun j : Nat => j ≤ t.1.length) (fun j => ⟨[(5, .isl 1 (slc8 t.1)), (6, .int .u64 (le (t.1.drop j))), (7, .int .i64 (j - 1))], rrdM R B t.2, 1⟩) (fun j => j) (t.1.length) ?_ ⟨⟨_, hp, rfl⟩, ?_, ?_⟩ ?_
        · exact Nat.le_refl _
        · all_goals repeat' (first | exact True.intro | refine And.intro ?_ ?_ | (intro _u; clear _u) | with_reducible first | refine eM ?_ ?_ | refine eF ?_ ?_ ?_ | refine eN ?_ | refine eL ?_ ?_ ?_ | refine eA ?_ ?_ | refine IWk.mk ⟨_, hp, rfl⟩ ?_ ?_)
          all_goals first | with_reducible rfl | omega | exact Or.inl (by decide) | (simp; done) | rfl | skip
          simp [le]
        · all_goals repeat' (first | exact True.intro | refine And.intro ?_ ?_ | (intro _u; clear _u) | with_reducible first | refine eM ?_ ?_ | refine eF ?_ ?_ ?_ | refine eN ?_ | refine eL ?_ ?_ ?_ | refine eA ?_ ?_ | refine IWk.mk ⟨_, hp, rfl⟩ ?_ ?_)
          all_goals first | with_reducible rfl | omega | exact Or.inl (by decide) | (simp; done) | rfl | skip
        · intro j hj
          dsimp only
          repeat ((intro _u; clear _u); first | with_reducible first | refine cT ?_ | refine cF ?_ | refine cA ?_ | refine cB ?_ | refine aLn ?_ | refine cK ?_ | refine aS8 ?_ | refine wI ?_ | refine nD ?_ | refine aX rfl ?_)
          intro _u; clear _u
          refine cS (fun h5 => ?_) (fun h5 => ?_)
          · obtain ⟨x, hx⟩ : ∃ x, t.1[j - 1]? = some x := ⟨_, List.getElem?_eq_getElem (by omega)⟩
            have hle := le_lt (t.1.drop j)
            have hdl := le_drop hx
            rw [show j - 1 + 1 = j by omega] at hdl
            have hx8 := x.toNat_lt
            have hpw : 256 ^ (t.1.drop j).length * 256 ≤ 256 ^ 8 := by
              rw [← Nat.pow_succ]
              exact Nat.pow_le_pow_right (by decide) (by simp; omega)
            repeat ((intro _u; clear _u); first | with_reducible first | refine cT ?_ | refine cF ?_ | refine cA ?_ | refine cB ?_ | refine aLn ?_ | refine cK ?_ | refine aS8 ?_ | refine wI ?_ | refine nD ?_ | refine aX rfl ?_)
            intro _u; clear _u
            refine eget_map (i := _) (by rw [show ((j : Int) - 1).toNat = j - 1 by omega]; exact hx) ?_
            repeat ((intro _u; clear _u); first | with_reducible first | refine cT ?_ | refine cF ?_ | refine cA ?_ | refine cB ?_ | refine aLn ?_ | refine cK ?_ | refine aS8 ?_ | refine wI ?_ | refine nD ?_ | refine aX rfl ?_)
            intro _u; clear _u
            refine nXa (j - 1) ?_ ?_
            · omega
            · omega
          · have hj0 : j = 0 := by omega
            subst hj0
            repeat ((intro _u; clear _u); first | with_reducible first | refine cT ?_ | refine cF ?_ | refine cA ?_ | refine cB ?_ | refine aLn ?_ | refine cK ?_ | refine aS8 ?_ | refine wI ?_ | refine nD ?_ | refine aX rfl ?_)
            intro _u; clear _u
            exact rM [0]
      · repeat ((intro _u; clear _u); first | with_reducible first | refine cT ?_ | refine cF ?_ | refine cA ?_ | refine cB ?_ | refine aLn ?_ | refine cK ?_ | refine aS8 ?_ | refine wI ?_ | refine nD ?_ | refine aX rfl ?_)
        intro _u; clear _u
        refine cS (fun h3 => ?_) (fun h3 => ?_)
        · rw [bad (.inr h3)]
          repeat ((intro _u; clear _u); first | with_reducible first | refine cT ?_ | refine cF ?_ | refine cA ?_ | refine cB ?_ | refine aLn ?_ | refine cK ?_ | refine aS8 ?_ | refine wI ?_ | refine nD ?_ | refine aX rfl ?_)
          intro _u; clear _u
          refine cM false [0] (rtake_c h.n66 B { r with e := 2 } ok.m ok.s ok.made (max w 0)) ?_
          repeat ((intro _u; clear _u); first | refine eK ?_ | refine eP ?_)
          have hlen : (({ r with e := 2 } : Rd).take (max w 0)).1.length ≤ 8 := by simp [Rd.take]
          generalize ({ r with e := 2 } : Rd).take (max w 0) = t at hlen ⊢
          repeat ((intro _u; clear _u); first | with_reducible first | refine cT ?_ | refine cF ?_ | refine cA ?_ | refine cB ?_ | refine aLn ?_ | refine cK ?_ | refine aS8 ?_ | refine wI ?_ | refine nD ?_ | refine aX rfl ?_)
          intro _u; clear _u
          refine ILoop.inv 100 (fun j : Nat => j ≤ t.1.length) (fun j => ⟨[(5, .isl 1 (slc8 t.1)), (6, .int .u64 (le (t.1.drop j))), (7, .int .i64 (j - 1))], rrdM R B t.2, 1⟩) (fun j => j) (t.1.length) ?_ ⟨⟨_, hp, rfl⟩, ?_, ?_⟩ ?_
          · exact Nat.le_refl _
          · all_goals repeat' (first | exact True.intro | refine And.intro ?_ ?_ | (intro _u; clear _u) | with_reducible first | refine eM ?_ ?_ | refine eF ?_ ?_ ?_ | refine eN ?_ | refine eL ?_ ?_ ?_ | refine eA ?_ ?_ | refine IWk.mk ⟨_, hp, rfl⟩ ?_ ?_)
            all_goals first | with_reducible rfl | omega | exact Or.inl (by decide) | (simp; done) | rfl | skip
            simp [le]
          · all_goals repeat' (first | exact True.intro | refine And.intro ?_ ?_ | (intro _u; clear _u) | with_reducible first | refine eM ?_ ?_ | refine eF ?_ ?_ ?_ | refine eN ?_ | refine eL ?_ ?_ ?_ | refine eA ?_ ?_ | refine IWk.mk ⟨_, hp, rfl⟩ ?_ ?_)
            all_goals first | with_reducible rfl | omega | exact Or.inl (by decide) | (simp; done) | rfl | skip
          · intro j hj
            dsimp only
            repeat ((intro _u; clear _u); first | with_reducible first | refine cT ?_ | refine cF ?_ | refine cA ?_ | refine cB ?_ | refine aLn ?_ | refine cK ?_ | refine aS8 ?_ | refine wI ?_ | refine nD ?_ | refine aX rfl ?_)
            intro _u; clear _u
            refine cS (fun h5 => ?_) (fun h5 => ?_)
            · obtain ⟨x, hx⟩ : ∃ x, t.1[j - 1]? = some x := ⟨_, List.getElem?_eq_getElem (by omega)⟩
              have hle := le_lt (t.1.drop j)
              have hdl := le_drop hx
              rw [show j - 1 + 1 = j by omega] at hdl
              have hx8 := x.toNat_lt
              have hpw : 256 ^ (t.1.drop j).length * 256 ≤ 256 ^ 8 := by
                rw [← Nat.pow_succ]
                exact Nat.pow_le_pow_right (by decide) (by simp; omega)
              repeat ((intro _u; clear _u); first | with_reducible first | refine cT ?_ | refine cF ?_ | refine cA ?_ | refine cB ?_ | refine aLn ?_ | refine cK ?_ | refine aS8 ?_ | refine wI ?_ | refine nD ?_ | refine aX rfl ?_)
              intro _u; clear _u
              refine eget_map (i := _) (by rw [show ((j : Int) - 1).toNat = j - 1 by omega]; exact hx) ?_
              repeat ((intro _u; clear _u); first | with_reducible first | refine cT ?_ | refine cF ?_ | refine cA ?_ | refine cB ?_ | refine aLn ?_ | refine cK ?_ | refine aS8 ?_ | refine wI ?_ | refine nD ?_ | refine aX rfl ?_)
              intro _u; clear _u
              refine nXa (j - 1) ?_ ?_
              · omega
              · omega
            · have hj0 : j = 0 := by omega
              subst hj0
              repeat ((intro _u; clear _u); first | with_reducible first | refine cT ?_ | refine cF ?_ | refine cA ?_ | refine cB ?_ | refine aLn ?_ | refine cK ?_ | refine aS8 ?_ | refine wI ?_ | refine nD ?_ | refine aX rfl ?_)
              intro _u; clear _u
              exact rM [0]
        · rw [e2 (by omega)]
          repeat ((intro _u; clear _u); first | with_reducible first | refine cT ?_ | refine cF ?_ | refine cA ?_ | refine cB ?_ | refine aLn ?_ | refine cK ?_ | refine aS8 ?_ | refine wI ?_ | refine nD ?_ | refine aX rfl ?_)
          intro _u; clear _u
          refine cM false [0] (rtake_c h.n66 B r ok.m ok.s ok.made w) ?_
          repeat ((intro _u; clear _u); first | refine eK ?_ | refine eP ?_)
          have hlen := take_len r w h3
          generalize r.take w = t at hlen ⊢
          repeat ((intro _u; clear _u); first | with_reducible first | refine cT ?_ | refine cF ?_ | refine cA ?_ | refine cB ?_ | refine aLn ?_ | refine cK ?_ | refine aS8 ?_ | refine wI ?_ | refine nD ?_ | refine aX rfl ?_)
          intro _u; clear _u
          refine ILoop.inv 100 (fun j : Nat => j ≤ t.1.length) (fun j => ⟨[(5, .isl 1 (slc8 t.1)), (6, .int .u64 (le (t.1.drop j))), (7, .int .i64 (j - 1))], rrdM R B t.2, 1⟩) (fun j => j) (t.1.length) ?_ ⟨⟨_, hp, rfl⟩, ?_, ?_⟩ ?_
          · exact Nat.le_refl _
          · all_goals repeat' (first | exact True.intro | refine And.intro ?_ ?_ | (intro _u; clear _u) | with_reducible first | refine eM ?_ ?_ | refine eF ?_ ?_ ?_ | refine eN ?_ | refine eL ?_ ?_ ?_ | refine eA ?_ ?_ | refine IWk.mk ⟨_, hp, rfl⟩ ?_ ?_)
            all_goals first | with_reducible rfl | omega | exact Or.inl (by decide) | (simp; done) | rfl | skip
            simp [le]
          · all_goals repeat' (first | exact True.intro | refine And.intro ?_ ?_ | (intro _u; clear _u) | with_reducible first | refine eM ?_ ?_ | refine eF ?_ ?_ ?_ | refine eN ?_ | refine eL ?_ ?_ ?_ | refine eA ?_ ?_ | refine IWk.mk ⟨_, hp, rfl⟩ ?_ ?_)
            all_goals first | with_reducible rfl | omega | exact Or.inl (by decide) | (simp; done) | rfl | skip
          · intro j hj
            dsimp only
            repeat ((intro _u; clear _u); first | with_reducible first | refine cT ?_ | refine cF ?_ | refine cA ?_ | refine cB ?_ | refine aLn ?_ | refine cK ?_ | refine aS8 ?_ | refine wI ?_ | refine nD ?_ | refine aX rfl ?_)
            intro _u; clear _u
            refine cS (fun h5 => ?_) (fun h5 => ?_)
            · obtain ⟨x, hx⟩ : ∃ x, t.1[j - 1]? = some x := ⟨_, List.getElem?_eq_getElem (by omega)⟩
              have hle := le_lt (t.1.drop j)
              have hdl := le_drop hx
              rw [show j - 1 + 1 = j by omega] at hdl
              have hx8 := x.toNat_lt
              have hpw : 256 ^ (t.1.drop j).length * 256 ≤ 256 ^ 8 := by
                rw [← Nat.pow_succ]
                exact Nat.pow_le_pow_right (by decide) (by simp; omega)
              repeat ((intro _u; clear _u); first | with_reducible first | refine cT ?_ | refine cF ?_ | refine cA ?_ | refine cB ?_ | refine aLn ?_ | refine cK ?_ | refine aS8 ?_ | refine wI ?_ | refine nD ?_ | refine aX rfl ?_)
              intro _u; clear _u
              refine eget_map (i := _) (by rw [show ((j : Int) - 1).toNat = j - 1 by omega]; exact hx) ?_
              repeat ((intro _u; clear _u); first | with_reducible first | refine cT ?_ | refine cF ?_ | refine cA ?_ | refine cB ?_ | refine aLn ?_ | refine cK ?_ | refine aS8 ?_ | refine wI ?_ | refine nD ?_ | refine aX rfl ?_)
              intro _u; clear _u
              refine nXa (j - 1) ?_ ?_
              · omega
              · omega
            · have hj0 : j = 0 := by omega
              subst hj0
              repeat ((intro _u; clear _u); first | with_reducible first | refine cT ?_ | refine cF ?_ | refine cA ?_ | refine cB ?_ | refine aLn ?_ | refine cK ?_ | refine aS8 ?_ | refine wI ?_ | refine nD ?_ | refine aX rfl ?_)
              intro _u; clear _u
              exact rM [0]
    · have bad : q = (le (r.take (max w 0)).1, (r.take (max w 0)).2) := by
        by_cases hw : w < 1 ∨ 8 < w
        · rw [e1 hw]; simp [Rd.take, h1]
        · rw [e2 hw]; simp [Rd.take, h1]
      rw [bad]
      repeat ((intro _u; clear _u); first | with_reducible first | refine cT ?_ | refine cF ?_ | refine cA ?_ | refine cB ?_ | refine aLn ?_ | refine cK ?_ | refine aS8 ?_ | refine wI ?_ | refine nD ?_ | refine aX rfl ?_)
      intro _u; clear _u
      refine cM false [0] (rtake_c h.n66 B r ok.m ok.s ok.made (max w 0)) ?_
      repeat ((intro _u; clear _u); first | refine eK ?_ | refine eP ?_)
      have hlen : (r.take (max w 0)).1.length ≤ 8 := by simp [Rd.take, h1]
      generalize r.take (max w 0) = t at hlen ⊢
      repeat ((intro _u; clear _u); first | with_reducible first | refine cT ?_ | refine cF ?_ | refine cA ?_ | refine cB ?_ | refine aLn ?_ | refine cK ?_ | refine aS8 ?_ | refine wI ?_ | refine nD ?_ | refine aX rfl ?_)
      intro _u; clear _u
      refine ILoop.inv 100 (fun j : Nat => j ≤ t.1.length) (fun j => ⟨[(5, .isl 1 (slc8 t.1)), (6, .int .u64 (le (t.1.drop j))), (7, .int .i64 (j - 1))], rrdM R B t.2, 1⟩) (fun j => j) (t.1.length) ?_ ⟨⟨_, hp, rfl⟩, ?_, ?_⟩ ?_
      · exact Nat.le_refl _
      · all_goals repeat' (first | exact True.intro | refine And.intro ?_ ?_ | (intro _u; clear _u) | with_reducible first | refine eM ?_ ?_ | refine eF ?_ ?_ ?_ | refine eN ?_ | refine eL ?_ ?_ ?_ | refine eA ?_ ?_ | refine IWk.mk ⟨_, hp, rfl⟩ ?_ ?_)
        all_goals first | with_reducible rfl | omega | exact Or.inl (by decide) | (simp; done) | rfl | skip
        simp [le]
      · all_goals repeat' (first | exact True.intro | refine And.intro ?_ ?_ | (intro _u; clear _u) | with_reducible first | refine eM ?_ ?_ | refine eF ?_ ?_ ?_ | refine eN ?_ | refine eL ?_ ?_ ?_ | refine eA ?_ ?_ | refine IWk.mk ⟨_, hp, rfl⟩ ?_ ?_)
        all_goals first | with_reducible rfl | omega | exact Or.inl (by decide) | (simp; done) | rfl | skip
      · intro j hj
        dsimp only
        repeat ((intro _u; clear _u); first | with_reducible first | refine cT ?_ | refine cF ?_ | refine cA ?_ | refine cB ?_ | refine aLn ?_ | refine cK ?_ | refine aS8 ?_ | refine wI ?_ | refine nD ?_ | refine aX rfl ?_)
        intro _u; clear _u
        refine cS (fun h5 => ?_) (fun h5 => ?_)
        · obtain ⟨x, hx⟩ : ∃ x, t.1[j - 1]? = some x := ⟨_, List.getElem?_eq_getElem (by omega)⟩
          have hle := le_lt (t.1.drop j)
          have hdl := le_drop hx
          rw [show j - 1 + 1 = j by omega] at hdl
          have hx8 := x.toNat_lt
          have hpw : 256 ^ (t.1.drop j).length * 256 ≤ 256 ^ 8 := by
            rw [← Nat.pow_succ]
            exact Nat.pow_le_pow_right (by decide) (by simp; omega)
          repeat ((intro _u; clear _u); first | with_reducible first | refine cT ?_ | refine cF ?_ | refine cA ?_ | refine cB ?_ | refine aLn ?_ | refine cK ?_ | refine aS8 ?_ | refine wI ?_ | refine nD ?_ | refine aX rfl ?_)
          intro _u; clear _u
          refine eget_map (i := _) (by rw [show ((j : Int) - 1).toNat = j - 1 by omega]; exact hx) ?_
          repeat ((intro _u; clear _u); first | with_reducible first | refine cT ?_ | refine cF ?_ | refine cA ?_ | refine cB ?_ | refine aLn ?_ | refine cK ?_ | refine aS8 ?_ | refine wI ?_ | refine nD ?_ | refine aX rfl ?_)
          intro _u; clear _u
          refine nXa (j - 1) ?_ ?_
          · omega
          · omega
        · have hj0 : j = 0 := by omega
          subst hj0
          repeat ((intro _u; clear _u); first | with_reducible first | refine cT ?_ | refine cF ?_ | refine cA ?_ | refine cB ?_ | refine aLn ?_ | refine cK ?_ | refine aS8 ?_ | refine wI ?_ | refine nD ?_ | refine aX rfl ?_)
          intro _u; clear _u
          exact rM [0]
theorem rleft_c {R : Env} (h : N78 R) (B : List UInt8) (r : Rd) (ok : RdOk B r) : R.Mc 78 [.loc 0 1 0 0] (rrdM R B r) (.int .i64 (if r.made = false ∨ r.e ≠ 0 then 0 else r.l.length)) (rrdM R B r) 1 :=
  h.o78.enterM 60 1 rfl rfl rfl fun X bb hfit hp => by
    have h1 := ok.made
    have h2 := ok.len
    have h3 := ok.m
    repeat ((intro _u; clear _u); first | with_reducible first | refine cT ?_ | refine cF ?_ | refine cA ?_ | refine cB ?_ | refine aLn ?_ | refine cK ?_ | refine aS8 ?_ | refine wI ?_ | refine nD ?_ | refine aX rfl ?_)
    intro _u; clear _u
    refine cS (fun h4 => ?_) (fun h4 => ?_)
    · repeat ((intro _u; clear _u); first | with_reducible first | refine cT ?_ | refine cF ?_ | refine cA ?_ | refine cB ?_ | refine aLn ?_ | refine cK ?_ | refine aS8 ?_ | refine wI ?_ | refine nD ?_ | refine aX rfl ?_)
      intro _u; clear _u
      exact rM [0]
    · repeat ((intro _u; clear _u); first | with_reducible first | refine cT ?_ | refine cF ?_ | refine cA ?_ | refine cB ?_ | refine aLn ?_ | refine cK ?_ | refine aS8 ?_ | refine wI ?_ | refine nD ?_ | refine aX rfl ?_)
      intro _u; clear _u
      refine rM [0] ?_
      all_goals repeat' (first | exact True.intro | refine And.intro ?_ ?_ | (intro _u; clear _u) | with_reducible first | refine eM ?_ ?_ | refine eF ?_ ?_ ?_ | refine eN ?_ | refine eL ?_ ?_ ?_ | refine eA ?_ ?_ | refine IWk.mk ⟨_, hp, rfl⟩ ?_ ?_)
      all_goals first | with_reducible rfl | omega | exact Or.inl (by decide) | (simp; done) | rfl | skip
      simp [h1, h4]; omega

theorem rend_c {R : Env} (h : N69 R) (B : List UInt8) (r : Rd) (ok : RdOk B r) : R.Mc 69 [.loc 0 1 0 0] (rrdM R B r) (.int .i64 r.fin) (rrdM R B r) 1 :=
  h.o69.enterM 60 1 rfl rfl rfl fun X bb hfit hp => by
    have h1 := ok.made
    have h2 := ok.len
    have h3 := ok.m
    have h5 : r.err = r.e := by simp [Rd.err, h1]
    unfold Rd.fin
    rw [h5]
    repeat ((intro _u; clear _u); first | with_reducible first | refine cT ?_ | refine cF ?_ | refine cA ?_ | refine cB ?_ | refine aLn ?_ | refine cK ?_ | refine aS8 ?_ | refine wI ?_ | refine nD ?_ | refine aX rfl ?_)
    intro _u; clear _u
    refine cS (fun h4 => ?_) (fun h4 => ?_)
    · rw [if_neg (by simpa using h4)]
      repeat ((intro _u; clear _u); first | with_reducible first | refine cT ?_ | refine cF ?_ | refine cA ?_ | refine cB ?_ | refine aLn ?_ | refine cK ?_ | refine aS8 ?_ | refine wI ?_ | refine nD ?_ | refine aX rfl ?_)
      intro _u; clear _u
      refine cS (fun h6 => ?_) (fun h6 => ?_)
      · rw [if_pos (by omega)]
        repeat ((intro _u; clear _u); first | with_reducible first | refine cT ?_ | refine cF ?_ | refine cA ?_ | refine cB ?_ | refine aLn ?_ | refine cK ?_ | refine aS8 ?_ | refine wI ?_ | refine nD ?_ | refine aX rfl ?_)
        intro _u; clear _u
        exact rM [0]
      · rw [if_neg (by omega)]
        repeat ((intro _u; clear _u); first | with_reducible first | refine cT ?_ | refine cF ?_ | refine cA ?_ | refine cB ?_ | refine aLn ?_ | refine cK ?_ | refine aS8 ?_ | refine wI ?_ | refine nD ?_ | refine aX rfl ?_)
        intro _u; clear _u
        exact rM [0]
    · rw [if_pos (by simpa using h4)]
      repeat ((intro _u; clear _u); first | with_reducible first | refine cT ?_ | refine cF ?_ | refine cA ?_ | refine cB ?_ | refine aLn ?_ | refine cK ?_ | refine aS8 ?_ | refine wI ?_ | refine nD ?_ | refine aX rfl ?_)
      intro _u; clear _u
      exact rM [0]

theorem num_err {r : Rd} {w : Int} (h : (r.num w).2.e ≠ 0) : (r.num w).1 = 0 := by
  unfold Rd.num Rd.take at h ⊢
  dsimp only at h ⊢
  generalize (if w < 1 ∨ 8 < w then (-1 : Int) else w) = v at h ⊢
  by_cases c1 : r.made = false ∨ r.e ≠ 0
  · rw [if_pos c1]; rfl
  · rw [if_neg c1] at h ⊢
    by_cases c2 : v < 0
    · rw [if_pos c2]; rfl
    · rw [if_neg c2] at h ⊢
      by_cases c3 : (r.l.length : Int) < v
      · rw [if_pos c3]; rfl
      · rw [if_neg c3] at h
        exact (c1 (.inr h)).elim
theorem num_bad {r : Rd} {w : Int} (hw : w < 1 ∨ 8 < w) (hm : r.made = true) : (r.num w).2.e ≠ 0 := by
  unfold Rd.num
  rw [if_pos hw]
  unfold Rd.take
  split
  · rename_i h
    rcases h with h | h
    · rw [hm] at h; exact absurd h (by decide)
    · exact h
  · simp
  all_goals simp

theorem rint_c {R : Env} (h : N77 R) (B : List UInt8) (r : Rd) (ok : RdOk B r) (w : Int) : R.Mc 77 [.loc 0 1 0 0, .int .i64 w] (rrdM R B r) (.int .i64 (r.int w).1) (rrdM R B (r.int w).2) 1 :=
  h.o77.enterM 100 1 rfl rfl rfl fun X bb hfit hp => by
    repeat ((intro _u; clear _u); first | with_reducible first | refine cT ?_ | refine cF ?_ | refine cA ?_ | refine cB ?_ | refine aLn ?_ | refine cK ?_ | refine aS8 ?_ | refine wI ?_ | refine nD ?_ | refine aX rfl ?_)
    intro _u; clear _u
    refine cM false [0] (rnum_c h.n61 B r ok w) ?_
    repeat ((intro _u; clear _u); first | refine eK ?_ | refine eP ?_)
    unfold Rd.int
    repeat ((intro _u; clear _u); first | with_reducible first | refine cT ?_ | refine cF ?_ | refine cA ?_ | refine cB ?_ | refine aLn ?_ | refine cK ?_ | refine aS8 ?_ | refine wI ?_ | refine nD ?_ | refine aX rfl ?_)
    intro _u; clear _u
    refine cS (fun h1 => ?_) (fun h1 => ?_)
    · have h2 : (r.num w).1 = 0 := num_err (by simpa using h1)
      by_cases hw : w < 1 ∨ 8 < w
      · rw [if_pos hw]
        repeat ((intro _u; clear _u); first | with_reducible first | refine cT ?_ | refine cF ?_ | refine cA ?_ | refine cB ?_ | refine aLn ?_ | refine cK ?_ | refine aS8 ?_ | refine wI ?_ | refine nD ?_ | refine aX rfl ?_)
        intro _u; clear _u
        exact rM [0]
      · rw [if_neg hw, h2]
        repeat ((intro _u; clear _u); first | with_reducible first | refine cT ?_ | refine cF ?_ | refine cA ?_ | refine cB ?_ | refine aLn ?_ | refine cK ?_ | refine aS8 ?_ | refine wI ?_ | refine nD ?_ | refine aX rfl ?_)
        intro _u; clear _u
        refine rM [0] ?_
        all_goals repeat' (first | exact True.intro | refine And.intro ?_ ?_ | (intro _u; clear _u) | with_reducible first | refine eM ?_ ?_ | refine eF ?_ ?_ ?_ | refine eN ?_ | refine eL ?_ ?_ ?_ | refine eA ?_ ?_ | refine IWk.mk ⟨_, hp, rfl⟩ ?_ ?_)
        all_goals first | with_reducible rfl | omega | exact Or.inl (by decide) | (simp; done) | rfl | skip
        simp [sx]
    · have hw : ¬ (w < 1 ∨ 8 < w) := fun hw => num_bad hw ok.made (by simpa using h1)
      rw [if_neg hw]
      repeat ((intro _u; clear _u); first | with_reducible first | refine cT ?_ | refine cF ?_ | refine cA ?_ | refine cB ?_ | refine aLn ?_ | refine cK ?_ | refine aS8 ?_ | refine wI ?_ | refine nD ?_ | refine aX rfl ?_)
      intro _u; clear _u
      refine ICall.pure h.n63.o63.hb (most_c h.n63 w (by omega)) rfl ?_
      have hh := half_le (w := w) (by omega) (by omega)
      have hlt := num_lt r (w := w) (by omega) (by omega)
      have e : ((256 : Int) ^ w.toNat) = ((256 ^ w.toNat : Nat) : Int) := by rw [Int.natCast_pow]; rfl
      have hlt' : ((r.num w).1 : Int) < 256 ^ w.toNat := by rw [e]; exact Int.ofNat_lt.2 hlt
      repeat ((intro _u; clear _u); first | with_reducible first | refine cT ?_ | refine cF ?_ | refine cA ?_ | refine cB ?_ | refine aLn ?_ | refine cK ?_ | refine aS8 ?_ | refine wI ?_ | refine nD ?_ | refine aX rfl ?_)
      intro _u; clear _u
      rw [Int.tdiv_eq_ediv_of_nonneg (by omega), half_eq (by omega) (by omega)]
      refine iwr_in (by simp only [inI]; omega) ?_
      repeat ((intro _u; clear _u); first | with_reducible first | refine cT ?_ | refine cF ?_ | refine cA ?_ | refine cB ?_ | refine aLn ?_ | refine cK ?_ | refine aS8 ?_ | refine wI ?_ | refine nD ?_ | refine aX rfl ?_)
      intro _u; clear _u
      refine cS (fun h3 => ?_) (fun h3 => ?_)
      · repeat ((intro _u; clear _u); first | with_reducible first | refine cT ?_ | refine cF ?_ | refine cA ?_ | refine cB ?_ | refine aLn ?_ | refine cK ?_ | refine aS8 ?_ | refine wI ?_ | refine nD ?_ | refine aX rfl ?_)
        intro _u; clear _u
        refine ICall.pure h.n63.o63.hb (most_c h.n63 w (by omega)) rfl ?_
        repeat ((intro _u; clear _u); first | with_reducible first | refine cT ?_ | refine cF ?_ | refine cA ?_ | refine cB ?_ | refine aLn ?_ | refine cK ?_ | refine aS8 ?_ | refine wI ?_ | refine nD ?_ | refine aX rfl ?_)
        intro _u; clear _u
        refine rM [0] ?_
        all_goals repeat' (first | exact True.intro | refine And.intro ?_ ?_ | (intro _u; clear _u) | with_reducible first | refine eM ?_ ?_ | refine eF ?_ ?_ ?_ | refine eN ?_ | refine eL ?_ ?_ ?_ | refine eA ?_ ?_ | refine IWk.mk ⟨_, hp, rfl⟩ ?_ ?_)
        all_goals first | with_reducible rfl | omega | exact Or.inl (by decide) | (simp; done) | rfl | skip
        unfold sx
        rw [e] at hh h3 ⊢
        generalize 256 ^ w.toNat = P at hh h3 ⊢
        rw [if_neg (by omega)]
        omega
      · repeat ((intro _u; clear _u); first | with_reducible first | refine cT ?_ | refine cF ?_ | refine cA ?_ | refine cB ?_ | refine aLn ?_ | refine cK ?_ | refine aS8 ?_ | refine wI ?_ | refine nD ?_ | refine aX rfl ?_)
        intro _u; clear _u
        refine rM [0] ?_
        all_goals repeat' (first | exact True.intro | refine And.intro ?_ ?_ | (intro _u; clear _u) | with_reducible first | refine eM ?_ ?_ | refine eF ?_ ?_ ?_ | refine eN ?_ | refine eL ?_ ?_ ?_ | refine eA ?_ ?_ | refine IWk.mk ⟨_, hp, rfl⟩ ?_ ?_)
        all_goals first | with_reducible rfl | omega | exact Or.inl (by decide) | (simp; done) | rfl | skip
        unfold sx
        rw [e] at hh h3 ⊢
        generalize 256 ^ w.toNat = P at hh h3 ⊢
        rw [if_pos (by omega)]
end Go.UM

/- What the library's functions hand back. -/


namespace Go.UM
open Go.AM
set_option maxRecDepth 4000

/-- bytes.Equal. -/
theorem eq8_c {R : Env} (h : N47 R) (a b : List UInt8) : R.Pc 47 [.isl 1 (slc8 a), .isl 1 (slc8 b)] (.bool (a == b)) :=
  h.o47.enter 60 rfl fun X bb hfit hp => by
    repeat ((intro _u; clear _u); first | with_reducible first | refine cT ?_ | refine cF ?_ | refine cA ?_ | refine cB ?_ | refine aLn ?_ | refine cK ?_ | refine aS8 ?_ | refine wI ?_ | refine nD ?_ | refine aX rfl ?_)
    intro _u; clear _u
    exact rT
end Go.UM

/- The resolved code of package umbralaw11, function by function; numbers are those of the register, the same for all programs. -/



namespace Go.UM
open Go.AM
/-- umbra.umbralaw11.works -/
def c73 : IFn := { np := 0, rs := [.t 0], body :=
 (.seq
  (.ops [⟨some 0, none, .mv (.k (.bool false))⟩])
  (.seq
   (.ops [⟨some 6, none, .bslice 6 1 2 [.int .u64 0] [(0, .k (.int .u64 258)), (1, .k (.int .u64 1))]⟩,
     ⟨some 7, none, .call 54 [.k (.nils), .k (.int .i64 2), .t 6]⟩,
     ⟨some 5, none, .mv (.t 7)⟩,
     ⟨some 8, none, .ext (.t 5) 0⟩,
     ⟨some 9, none, .ext (.t 5) 1⟩,
     ⟨some 1, none, .mv (.t 8)⟩,
     ⟨some 2, none, .mv (.t 9)⟩])
   (.keep [1, 2]
    (.seq
     (.ops [⟨some 11, none, .bslice 10 1 1 [.int .i64 0] [(0, .k (.int .i64 (-1)))]⟩,
       ⟨some 12, none, .call 71 [.k (.nils), .k (.int .i64 2), .t 11]⟩,
       ⟨some 10, none, .mv (.t 12)⟩,
       ⟨some 13, none, .ext (.t 10) 0⟩,
       ⟨some 14, none, .ext (.t 10) 1⟩,
       ⟨some 3, none, .mv (.t 13)⟩,
       ⟨some 4, none, .mv (.t 14)⟩])
     (.keep [1, 2, 3, 4]
      (.seq
       (.ops [⟨some 15, none, .mv (.t 2)⟩,
         ⟨some 16, none, .bin .eql (.t 15) (.k (.int .i64 0))⟩,
         ⟨some 17, none, .mv (.t 16)⟩,
         ⟨some 18, some (17, true), .mv (.t 1)⟩,
         ⟨some 19, some (17, true), .bslice 4 1 4 [.int .u8 0] [(0, .k (.int .u8 2)), (1, .k (.int .u8 1)), (2, .k (.int .u8 1)), (3, .k (.int .u8 0))]⟩,
         ⟨some 20, some (17, true), .call 47 [.t 18, .t 19]⟩,
         ⟨some 21, none, .pick (.t 17) (.t 20) (.k (.bool false))⟩,
         ⟨some 22, none, .mv (.t 21)⟩,
         ⟨some 23, some (22, true), .mv (.t 4)⟩,
         ⟨some 24, some (22, true), .bin .eql (.t 23) (.k (.int .i64 0))⟩,
         ⟨some 25, none, .pick (.t 22) (.t 24) (.k (.bool false))⟩,
         ⟨some 26, none, .mv (.t 25)⟩,
         ⟨some 27, some (26, true), .mv (.t 3)⟩,
         ⟨some 28, some (26, true), .bslice 4 1 2 [.int .u8 0] [(0, .k (.int .u8 255)), (1, .k (.int .u8 255))]⟩,
         ⟨some 29, some (26, true), .call 47 [.t 27, .t 28]⟩,
         ⟨some 30, none, .pick (.t 26) (.t 29) (.k (.bool false))⟩,
         ⟨some 0, none, .mv (.t 30)⟩])
       (.keep [0]
        .ret))))))) }
structure N73 (R : Env) : Prop where
  o73 : R.Fn 73 c73
  n47 : N47 R
  n54 : N54 R
  n71 : N71 R
/-- umbra.umbralaw11.CodecPuts -/
def c70 : IFn := { np := 3, rs := [.t 6], body :=
 (.seq
  (.ops [⟨some 6, none, .mv (.k (.bool false))⟩])
  (.seq
   (.draw [0, 0, 2, 6, 15, 0, 0, 64, 192, 480, 31, 2047] [[0], [0], [19], [20], [18, 21], [2], [2], [24], [25], [23, 26], [22], [27]] [⟨some 18, none, .mv (.t 0)⟩,
     ⟨some 19, none, .mv (.t 0)⟩,
     ⟨some 20, none, .lenS (.t 19)⟩,
     ⟨some 21, none, .mm false [.t 20, .k (.int .i64 40)]⟩,
     ⟨some 22, none, .slcS 4 1 (.t 18) none (some (.t 21)) none⟩,
     ⟨some 23, none, .mv (.t 2)⟩,
     ⟨some 24, none, .mv (.t 2)⟩,
     ⟨some 25, none, .lenS (.t 24)⟩,
     ⟨some 26, none, .mm false [.t 25, .k (.int .i64 20)]⟩,
     ⟨some 27, none, .slcS 6 1 (.t 23) none (some (.t 26)) none⟩,
     ⟨some 0, none, .mv (.t 22)⟩,
     ⟨some 2, none, .mv (.t 27)⟩])
   (.keep [0, 1, 2]
    (.seq
     (.ops [⟨some 29, none, .mv (.t 0)⟩,
       ⟨some 30, none, .mv (.t 1)⟩,
       ⟨some 31, none, .mv (.t 2)⟩,
       ⟨some 32, none, .call 54 [.t 29, .t 30, .t 31]⟩,
       ⟨some 28, none, .mv (.t 32)⟩,
       ⟨some 33, none, .ext (.t 28) 0⟩,
       ⟨some 34, none, .ext (.t 28) 1⟩,
       ⟨some 7, none, .mv (.t 33)⟩,
       ⟨some 8, none, .mv (.t 34)⟩])
     (.keep [0, 1, 2, 7, 8]
      (.seq
       (.ops [⟨some 36, none, .mv (.t 0)⟩,
         ⟨some 37, none, .mv (.t 1)⟩,
         ⟨some 38, none, .mv (.t 2)⟩,
         ⟨some 39, none, .call 55 [.t 36, .t 37, .t 38]⟩,
         ⟨some 35, none, .mv (.t 39)⟩,
         ⟨some 40, none, .ext (.t 35) 0⟩,
         ⟨some 41, none, .ext (.t 35) 1⟩,
         ⟨some 9, none, .mv (.t 40)⟩,
         ⟨some 10, none, .mv (.t 41)⟩])
       (.keep [0, 1, 2, 7, 8, 9, 10]
        (.seq
         (.ops [⟨some 11, none, .mv (.k (.nils))⟩])
         (.seq
          (.seq
           (.ops [⟨some 42, none, .mv (.t 2)⟩,
             ⟨some 43, none, .lenS (.t 42)⟩,
             ⟨some 44, none, .mv (.k (.int .i64 0))⟩])
           (.keep [0, 1, 7, 8, 9, 10, 11, 42, 43, 44]
            (.block 0
             (.loop
              (.seq
               (.ops [⟨some 45, none, .bin .lss (.t 44) (.t 43)⟩])
               (.seq
                (.cond (.t 45)
                 .skip
                 (.exit 0))
                (.keep [0, 1, 7, 8, 9, 10, 11, 42, 43, 44]
                 (.seq
                  (.block 1
                   (.seq
                    (.ops [⟨some 46, none, .idxS 1 (.t 42) (.t 44)⟩,
                      ⟨some 47, none, .load false 1 (.t 46)⟩,
                      ⟨some 13, none, .mv (.t 47)⟩])
                    (.ops [⟨some 48, none, .mv (.t 11)⟩,
                      ⟨some 49, none, .mv (.t 13)⟩,
                      ⟨some 50, none, .conv .i64 (.t 49)⟩,
                      ⟨some 51, none, .bslice 10 1 1 [.int .i64 0] [(0, .t 50)]⟩,
                      ⟨some 52, none, .app 10 1 (.t 48) (.t 51)⟩,
                      ⟨some 11, none, .mv (.t 52)⟩])))
                  (.keep [0, 1, 7, 8, 9, 10, 11, 42, 43, 44]
                   (.ops [⟨some 53, none, .bin .add (.t 44) (.k (.int .i64 1))⟩,
                     ⟨some 44, none, .mv (.t 53)⟩]))))))))))
          (.keep [0, 1, 7, 8, 9, 10, 11]
           (.seq
            (.ops [⟨some 55, none, .mv (.t 0)⟩,
              ⟨some 56, none, .mv (.t 1)⟩,
              ⟨some 57, none, .mv (.t 11)⟩,
              ⟨some 58, none, .call 71 [.t 55, .t 56, .t 57]⟩,
              ⟨some 54, none, .mv (.t 58)⟩,
              ⟨some 59, none, .ext (.t 54) 0⟩,
              ⟨some 60, none, .ext (.t 54) 1⟩,
              ⟨some 14, none, .mv (.t 59)⟩,
              ⟨some 15, none, .mv (.t 60)⟩])
            (.keep [0, 1, 7, 8, 9, 10, 11, 14, 15]
             (.seq
              (.ops [⟨some 62, none, .mv (.t 0)⟩,
                ⟨some 63, none, .mv (.t 1)⟩,
                ⟨some 64, none, .mv (.t 11)⟩,
                ⟨some 65, none, .call 72 [.t 62, .t 63, .t 64]⟩,
                ⟨some 61, none, .mv (.t 65)⟩,
                ⟨some 66, none, .ext (.t 61) 0⟩,
                ⟨some 67, none, .ext (.t 61) 1⟩,
                ⟨some 16, none, .mv (.t 66)⟩,
                ⟨some 17, none, .mv (.t 67)⟩])
              (.keep [7, 8, 9, 10, 14, 15, 16, 17]
               (.seq
                (.ops [⟨some 68, none, .mv (.t 7)⟩,
                  ⟨some 69, none, .mv (.t 9)⟩,
                  ⟨some 70, none, .call 47 [.t 68, .t 69]⟩,
                  ⟨some 71, none, .mv (.t 70)⟩,
                  ⟨some 72, some (71, true), .mv (.t 8)⟩,
                  ⟨some 73, some (71, true), .mv (.t 10)⟩,
                  ⟨some 74, some (71, true), .bin .eql (.t 72) (.t 73)⟩,
                  ⟨some 75, none, .pick (.t 71) (.t 74) (.k (.bool false))⟩,
                  ⟨some 76, none, .mv (.t 75)⟩,
                  ⟨some 77, some (76, true), .mv (.t 14)⟩,
                  ⟨some 78, some (76, true), .mv (.t 16)⟩,
                  ⟨some 79, some (76, true), .call 47 [.t 77, .t 78]⟩,
                  ⟨some 80, none, .pick (.t 76) (.t 79) (.k (.bool false))⟩,
                  ⟨some 81, none, .mv (.t 80)⟩,
                  ⟨some 82, some (81, true), .mv (.t 15)⟩,
                  ⟨some 83, some (81, true), .mv (.t 17)⟩,
                  ⟨some 84, some (81, true), .bin .eql (.t 82) (.t 83)⟩,
                  ⟨some 85, none, .pick (.t 81) (.t 84) (.k (.bool false))⟩,
                  ⟨some 86, none, .mv (.t 85)⟩,
                  ⟨some 87, some (86, true), .call 73 []⟩,
                  ⟨some 88, none, .pick (.t 86) (.t 87) (.k (.bool false))⟩,
                  ⟨some 6, none, .mv (.t 88)⟩])
                (.keep [6]
                 .ret)))))))))))))))) }
structure N70 (R : Env) : Prop where
  o70 : R.Fn 70 c70
  n47 : N47 R
  n54 : N54 R
  n55 : N55 R
  n71 : N71 R
  n72 : N72 R
  n73 : N73 R
/-- umbra.umbralaw11.CodecWidths -/
def c74 : IFn := { np := 2, rs := [.t 4], body :=
 (.seq
  (.ops [⟨some 4, none, .mv (.k (.bool false))⟩])
  (.seq
   (.ops [⟨some 9, none, .mv (.t 1)⟩,
     ⟨some 10, none, .bin .rem (.t 9) (.k (.int .i64 7))⟩,
     ⟨some 11, none, .bin .add (.t 10) (.k (.int .i64 7))⟩,
     ⟨some 12, none, .bin .rem (.t 11) (.k (.int .i64 7))⟩,
     ⟨some 13, none, .bin .add (.t 12) (.k (.int .i64 1))⟩,
     ⟨some 1, none, .mv (.t 13)⟩])
   (.keep [0, 1]
    (.seq
     (.ops [⟨some 15, none, .mv (.t 1)⟩,
       ⟨some 16, none, .mv (.t 0)⟩,
       ⟨some 17, none, .bslice 6 1 1 [.int .u64 0] [(0, .t 16)]⟩,
       ⟨some 18, none, .call 54 [.k (.nils), .t 15, .t 17]⟩,
       ⟨some 14, none, .mv (.t 18)⟩,
       ⟨some 19, none, .ext (.t 14) 0⟩,
       ⟨some 20, none, .ext (.t 14) 1⟩,
       ⟨some 5, none, .mv (.t 19)⟩,
       ⟨some 6, none, .mv (.t 20)⟩])
     (.keep [0, 1, 5, 6]
      (.seq
       (.ops [⟨some 22, none, .mv (.t 1)⟩,
         ⟨some 23, none, .bin .add (.t 22) (.k (.int .i64 1))⟩,
         ⟨some 24, none, .mv (.t 0)⟩,
         ⟨some 25, none, .bslice 6 1 1 [.int .u64 0] [(0, .t 24)]⟩,
         ⟨some 26, none, .call 54 [.k (.nils), .t 23, .t 25]⟩,
         ⟨some 21, none, .mv (.t 26)⟩,
         ⟨some 27, none, .ext (.t 21) 0⟩,
         ⟨some 28, none, .ext (.t 21) 1⟩,
         ⟨some 7, none, .mv (.t 27)⟩,
         ⟨some 8, none, .mv (.t 28)⟩])
       (.keep [1, 5, 6, 7, 8]
        (.seq
         (.seq
          (.ops [⟨some 29, none, .mv (.t 6)⟩,
            ⟨some 30, none, .bin .neq (.t 29) (.k (.int .i64 0))⟩])
          (.cond (.t 30)
           (.seq
            (.ops [⟨some 31, none, .mv (.t 6)⟩,
              ⟨some 32, none, .bin .eql (.t 31) (.k (.int .i64 3))⟩,
              ⟨some 33, none, .mv (.t 32)⟩,
              ⟨some 34, some (33, true), .call 73 []⟩,
              ⟨some 35, none, .pick (.t 33) (.t 34) (.k (.bool false))⟩,
              ⟨some 4, none, .mv (.t 35)⟩])
            (.keep [4]
             .ret))
           .skip))
         (.keep [1, 5, 7, 8]
          (.seq
           (.draw [0, 1, 3, 7, 15, 7, 39, 127, 255, 511, 1023, 2047, 1023, 8191, 16383, 32767, 65535, 131071, 65535, 65535, 851967, 1900543, 4194303, 8388607, 16777215, 33554431, 33554431, 134217727, 268435455, 536870911, 1073741823, 2147483647, 4294967295, 8589934591, 17179869183] [[8], [36], [37], [7], [39], [1], [41], [40, 42], [38, 43], [44], [5], [46], [1], [47, 48], [45, 49], [50], [5], [52], [7], [1], [54, 55], [56], [53, 57], [51, 58], [59], [7], [1], [61, 62], [63], [64], [60, 65], [66], [], [67, 68], [69]] [⟨some 36, none, .mv (.t 8)⟩,
             ⟨some 37, none, .bin .eql (.t 36) (.k (.int .i64 0))⟩,
             ⟨some 38, none, .mv (.t 37)⟩,
             ⟨some 39, some (38, true), .mv (.t 7)⟩,
             ⟨some 40, some (38, true), .lenS (.t 39)⟩,
             ⟨some 41, some (38, true), .mv (.t 1)⟩,
             ⟨some 42, some (38, true), .bin .add (.t 41) (.k (.int .i64 1))⟩,
             ⟨some 43, some (38, true), .bin .eql (.t 40) (.t 42)⟩,
             ⟨some 44, none, .pick (.t 38) (.t 43) (.k (.bool false))⟩,
             ⟨some 45, none, .mv (.t 44)⟩,
             ⟨some 46, some (45, true), .mv (.t 5)⟩,
             ⟨some 47, some (45, true), .lenS (.t 46)⟩,
             ⟨some 48, some (45, true), .mv (.t 1)⟩,
             ⟨some 49, some (45, true), .bin .eql (.t 47) (.t 48)⟩,
             ⟨some 50, none, .pick (.t 45) (.t 49) (.k (.bool false))⟩,
             ⟨some 51, none, .mv (.t 50)⟩,
             ⟨some 52, some (51, true), .mv (.t 5)⟩,
             ⟨some 53, some (51, true), .b2s (.t 52)⟩,
             ⟨some 54, some (51, true), .mv (.t 7)⟩,
             ⟨some 55, some (51, true), .mv (.t 1)⟩,
             ⟨some 56, some (51, true), .slcS 4 1 (.t 54) none (some (.t 55)) none⟩,
             ⟨some 57, some (51, true), .b2s (.t 56)⟩,
             ⟨some 58, some (51, true), .bst .eql (.t 53) (.t 57)⟩,
             ⟨some 59, none, .pick (.t 51) (.t 58) (.k (.bool false))⟩,
             ⟨some 60, none, .mv (.t 59)⟩,
             ⟨some 61, some (60, true), .mv (.t 7)⟩,
             ⟨some 62, some (60, true), .mv (.t 1)⟩,
             ⟨some 63, some (60, true), .idxS 1 (.t 61) (.t 62)⟩,
             ⟨some 64, some (60, true), .load false 1 (.t 63)⟩,
             ⟨some 65, some (60, true), .bin .eql (.t 64) (.k (.int .u8 0))⟩,
             ⟨some 66, none, .pick (.t 60) (.t 65) (.k (.bool false))⟩,
             ⟨some 67, none, .mv (.t 66)⟩,
             ⟨some 68, some (67, true), .call 73 []⟩,
             ⟨some 69, none, .pick (.t 67) (.t 68) (.k (.bool false))⟩,
             ⟨some 4, none, .mv (.t 69)⟩])
           (.keep [4]
            .ret))))))))))) }
structure N74 (R : Env) : Prop where
  o74 : R.Fn 74 c74
  n54 : N54 R
  n73 : N73 R
/-- umbra.umbralaw11.CodecReads -/
def c75 : IFn := { np := 2, rs := [.t 4], body :=
 (.seq
  (.ops [⟨some 4, none, .mv (.k (.bool false))⟩])
  (.seq
   (.ops [⟨some 11, none, .mv (.t 0)⟩,
     ⟨some 12, none, .mv (.t 0)⟩,
     ⟨some 13, none, .lenS (.t 12)⟩,
     ⟨some 14, none, .mm false [.t 13, .k (.int .i64 200)]⟩,
     ⟨some 15, none, .slcS 4 1 (.t 11) none (some (.t 14)) none⟩,
     ⟨some 0, none, .mv (.t 15)⟩])
   (.keep [0, 1]
    (.seq
     (.ops [⟨some 16, none, .mv (.t 0)⟩,
       ⟨some 17, none, .call 56 [.t 16]⟩,
       ⟨some 18, none, .mv (.t 0)⟩,
       ⟨some 19, none, .build [.nils, .int .i64 0, .int .i64 0] [(0, 1, .t 18)]⟩,
       ⟨some 20, none, .box 8 (.t 19)⟩,
       ⟨some 5, none, .mv (.t 17)⟩,
       ⟨some 6, none, .mv (.t 20)⟩])
     (.keep [1, 5, 6]
      (.seq
       (.seq
        (.ops [⟨some 21, none, .mv (.t 5)⟩,
          ⟨some 22, none, .isn false (.t 21)⟩])
        (.cond (.t 22)
         (.seq
          (.ops [⟨some 4, none, .mv (.k (.bool false))⟩])
          .ret)
         .skip))
       (.keep [1, 5, 6]
        (.seq
         (.ops [⟨some 7, none, .alloc 9 [.nils, .int .i64 0, .bool false]⟩])
         (.seq
          (.seq
           (.ops [⟨some 8, none, .mv (.k (.int .i64 0))⟩])
           (.keep [1, 5, 6, 7, 8]
            (.block 0
             (.loop
              (.seq
               (.seq
                (.ops [⟨some 23, none, .mv (.t 8)⟩,
                  ⟨some 24, none, .mv (.t 1)⟩,
                  ⟨some 25, none, .lenS (.t 24)⟩,
                  ⟨some 26, none, .bin .lss (.t 23) (.t 25)⟩,
                  ⟨some 27, none, .mv (.t 26)⟩,
                  ⟨some 28, some (27, true), .mv (.t 8)⟩,
                  ⟨some 29, some (27, true), .bin .lss (.t 28) (.k (.int .i64 30))⟩,
                  ⟨some 30, none, .pick (.t 27) (.t 29) (.k (.bool false))⟩])
                (.keep [1, 5, 6, 7, 8, 30]
                 (.cond (.t 30)
                  .skip
                  (.exit 0))))
               (.keep [1, 5, 6, 7, 8]
                (.seq
                 (.block 1
                  (.seq
                   (.ops [⟨some 33, none, .mv (.t 1)⟩,
                     ⟨some 34, none, .mv (.t 8)⟩,
                     ⟨some 35, none, .idxS 2 (.t 33) (.t 34)⟩,
                     ⟨some 36, none, .load true 2 (.t 35)⟩,
                     ⟨some 9, none, .alloc 11 [.int .i64 0, .int .i64 0]⟩,
                     ⟨none, none, .store 2 (.t 9) (.t 36)⟩])
                   (.keep [1, 5, 6, 7, 8, 9]
                    (.seq
                     (.seq
                      (.ops [⟨some 37, none, .fldA 0 (.t 9)⟩,
                        ⟨some 38, none, .load false 1 (.t 37)⟩])
                      (.block 2
                       (.seq
                        (.ops [⟨some 57, none, .bin .eql (.t 38) (.k (.int .i64 0))⟩,
                          ⟨some 56, none, .mv (.t 57)⟩])
                        (.cond (.t 56)
                         (.seq
                          (.draw [0, 0, 2, 7, 0, 0, 32, 127, 255, 511, 1023, 2047, 4095, 8191, 16383] [[5], [9], [59], [58, 60], [6], [9], [63], [62, 64], [61, 65], [66], [9], [68], [7, 69], [70], [67, 71]] [⟨some 58, none, .mv (.t 5)⟩,
                            ⟨some 59, none, .fldA 1 (.t 9)⟩,
                            ⟨some 60, none, .load false 1 (.t 59)⟩,
                            ⟨some 61, none, .call 57 [.t 58, .t 60]⟩,
                            ⟨some 62, none, .mv (.t 6)⟩,
                            ⟨some 63, none, .fldA 1 (.t 9)⟩,
                            ⟨some 64, none, .load false 1 (.t 63)⟩,
                            ⟨some 65, none, .call 61 [.t 62, .t 64]⟩,
                            ⟨some 66, none, .bin .neq (.t 61) (.t 65)⟩,
                            ⟨some 67, none, .mv (.t 66)⟩,
                            ⟨some 68, some (67, false), .fldA 1 (.t 9)⟩,
                            ⟨some 69, some (67, false), .load false 1 (.t 68)⟩,
                            ⟨some 70, some (67, false), .call 57 [.t 7, .t 69]⟩,
                            ⟨some 71, some (67, false), .bin .neq (.t 70) (.k (.int .u64 0))⟩,
                            ⟨some 72, none, .pick (.t 67) (.k (.bool true)) (.t 71)⟩])
                          (.keep [1, 5, 6, 7, 8, 72]
                           (.cond (.t 72)
                            (.seq
                             (.ops [⟨some 4, none, .mv (.k (.bool false))⟩])
                             .ret)
                            .skip)))
                         (.seq
                          (.ops [⟨some 74, none, .bin .eql (.t 38) (.k (.int .i64 1))⟩,
                            ⟨some 73, none, .mv (.t 74)⟩])
                          (.cond (.t 73)
                           (.seq
                            (.draw [0, 0, 2, 7, 0, 0, 32, 127, 255, 511, 1023, 2047, 4095, 8191, 16383] [[5], [9], [76], [75, 77], [6], [9], [80], [79, 81], [78, 82], [83], [9], [85], [7, 86], [87], [84, 88]] [⟨some 75, none, .mv (.t 5)⟩,
                              ⟨some 76, none, .fldA 1 (.t 9)⟩,
                              ⟨some 77, none, .load false 1 (.t 76)⟩,
                              ⟨some 78, none, .call 76 [.t 75, .t 77]⟩,
                              ⟨some 79, none, .mv (.t 6)⟩,
                              ⟨some 80, none, .fldA 1 (.t 9)⟩,
                              ⟨some 81, none, .load false 1 (.t 80)⟩,
                              ⟨some 82, none, .call 77 [.t 79, .t 81]⟩,
                              ⟨some 83, none, .bin .neq (.t 78) (.t 82)⟩,
                              ⟨some 84, none, .mv (.t 83)⟩,
                              ⟨some 85, some (84, false), .fldA 1 (.t 9)⟩,
                              ⟨some 86, some (84, false), .load false 1 (.t 85)⟩,
                              ⟨some 87, some (84, false), .call 76 [.t 7, .t 86]⟩,
                              ⟨some 88, some (84, false), .bin .neq (.t 87) (.k (.int .i64 0))⟩,
                              ⟨some 89, none, .pick (.t 84) (.k (.bool true)) (.t 88)⟩])
                            (.keep [1, 5, 6, 7, 8, 89]
                             (.cond (.t 89)
                              (.seq
                               (.ops [⟨some 4, none, .mv (.k (.bool false))⟩])
                               .ret)
                              .skip)))
                           (.seq
                            (.draw [0, 0, 2, 7, 0, 0, 32, 127, 255, 511, 1023, 2047, 4095, 8191, 16383, 32767, 65535] [[5], [9], [40], [39, 41], [6], [9], [44], [43, 45], [42, 46], [47], [48], [9], [50], [7, 51], [52], [53], [49, 54]] [⟨some 39, none, .mv (.t 5)⟩,
                              ⟨some 40, none, .fldA 1 (.t 9)⟩,
                              ⟨some 41, none, .load false 1 (.t 40)⟩,
                              ⟨some 42, none, .call 59 [.t 39, .t 41]⟩,
                              ⟨some 43, none, .mv (.t 6)⟩,
                              ⟨some 44, none, .fldA 1 (.t 9)⟩,
                              ⟨some 45, none, .load false 1 (.t 44)⟩,
                              ⟨some 46, none, .call 66 [.t 43, .t 45]⟩,
                              ⟨some 47, none, .call 47 [.t 42, .t 46]⟩,
                              ⟨some 48, none, .un .not (.t 47)⟩,
                              ⟨some 49, none, .mv (.t 48)⟩,
                              ⟨some 50, some (49, false), .fldA 1 (.t 9)⟩,
                              ⟨some 51, some (49, false), .load false 1 (.t 50)⟩,
                              ⟨some 52, some (49, false), .call 59 [.t 7, .t 51]⟩,
                              ⟨some 53, some (49, false), .lenS (.t 52)⟩,
                              ⟨some 54, some (49, false), .bin .neq (.t 53) (.k (.int .i64 0))⟩,
                              ⟨some 55, none, .pick (.t 49) (.k (.bool true)) (.t 54)⟩])
                            (.keep [1, 5, 6, 7, 8, 55]
                             (.cond (.t 55)
                              (.seq
                               (.ops [⟨some 4, none, .mv (.k (.bool false))⟩])
                               .ret)
                              .skip)))))))))
                     (.keep [1, 5, 6, 7, 8]
                      (.seq
                       (.draw [0, 1, 0, 7, 15, 31, 63, 127, 63, 319, 831, 1855, 4095, 8191, 16383, 32767, 65535, 32767, 262143, 524287, 1048575] [[5], [90], [6], [92], [91, 93], [94], [5], [96], [6], [98], [99], [100], [97, 101], [95, 102], [103], [5], [105], [6], [107], [106, 108], [104, 109]] [⟨some 90, none, .mv (.t 5)⟩,
                         ⟨some 91, none, .call 68 [.t 90]⟩,
                         ⟨some 92, none, .mv (.t 6)⟩,
                         ⟨some 93, none, .call 78 [.t 92]⟩,
                         ⟨some 94, none, .bin .neq (.t 91) (.t 93)⟩,
                         ⟨some 95, none, .mv (.t 94)⟩,
                         ⟨some 96, some (95, false), .mv (.t 5)⟩,
                         ⟨some 97, some (95, false), .call 65 [.t 96]⟩,
                         ⟨some 98, some (95, false), .mv (.t 6)⟩,
                         ⟨some 99, some (95, false), .nilck (.t 98)⟩,
                         ⟨some 100, some (95, false), .fldA 2 (.t 99)⟩,
                         ⟨some 101, some (95, false), .load false 1 (.t 100)⟩,
                         ⟨some 102, some (95, false), .bin .neq (.t 97) (.t 101)⟩,
                         ⟨some 103, none, .pick (.t 95) (.k (.bool true)) (.t 102)⟩,
                         ⟨some 104, none, .mv (.t 103)⟩,
                         ⟨some 105, some (104, false), .mv (.t 5)⟩,
                         ⟨some 106, some (104, false), .call 60 [.t 105]⟩,
                         ⟨some 107, some (104, false), .mv (.t 6)⟩,
                         ⟨some 108, some (104, false), .call 69 [.t 107]⟩,
                         ⟨some 109, some (104, false), .bin .neq (.t 106) (.t 108)⟩,
                         ⟨some 110, none, .pick (.t 104) (.k (.bool true)) (.t 109)⟩])
                       (.keep [1, 5, 6, 7, 8, 110]
                        (.cond (.t 110)
                         (.seq
                          (.ops [⟨some 4, none, .mv (.k (.bool false))⟩])
                          .ret)
                         .skip))))))))
                 (.keep [1, 5, 6, 7, 8]
                  (.ops [⟨some 31, none, .mv (.t 8)⟩,
                    ⟨some 32, none, .bin .add (.t 31) (.k (.int .i64 1))⟩,
                    ⟨some 8, none, .mv (.t 32)⟩])))))))))
          (.keep [7]
           (.seq
            (.ops [⟨some 10, none, .mv (.k (.nilp))⟩])
            (.seq
             (.ops [⟨some 111, none, .call 65 [.t 7]⟩,
               ⟨some 112, none, .bin .eql (.t 111) (.k (.int .i64 1))⟩,
               ⟨some 113, none, .mv (.t 112)⟩,
               ⟨some 114, some (113, true), .call 60 [.t 7]⟩,
               ⟨some 115, some (113, true), .bin .eql (.t 114) (.k (.int .i64 1))⟩,
               ⟨some 116, none, .pick (.t 113) (.t 115) (.k (.bool false))⟩,
               ⟨some 117, none, .mv (.t 116)⟩,
               ⟨some 118, some (117, true), .call 68 [.t 7]⟩,
               ⟨some 119, some (117, true), .bin .eql (.t 118) (.k (.int .i64 0))⟩,
               ⟨some 120, none, .pick (.t 117) (.t 119) (.k (.bool false))⟩,
               ⟨some 121, none, .mv (.t 120)⟩,
               ⟨some 122, some (121, true), .mv (.t 10)⟩,
               ⟨some 123, some (121, true), .call 65 [.t 122]⟩,
               ⟨some 124, some (121, true), .bin .eql (.t 123) (.k (.int .i64 1))⟩,
               ⟨some 125, none, .pick (.t 121) (.t 124) (.k (.bool false))⟩,
               ⟨some 126, none, .mv (.t 125)⟩,
               ⟨some 127, some (126, true), .mv (.t 10)⟩,
               ⟨some 128, some (126, true), .call 57 [.t 127, .k (.int .i64 1)]⟩,
               ⟨some 129, some (126, true), .bin .eql (.t 128) (.k (.int .u64 0))⟩,
               ⟨some 130, none, .pick (.t 126) (.t 129) (.k (.bool false))⟩,
               ⟨some 131, none, .mv (.t 130)⟩,
               ⟨some 132, some (131, true), .call 73 []⟩,
               ⟨some 133, none, .pick (.t 131) (.t 132) (.k (.bool false))⟩,
               ⟨some 4, none, .mv (.t 133)⟩])
             (.keep [4]
              .ret))))))))))))) }
structure N75 (R : Env) : Prop where
  o75 : R.Fn 75 c75
  n47 : N47 R
  n56 : N56 R
  n57 : N57 R
  n59 : N59 R
  n60 : N60 R
  n61 : N61 R
  n65 : N65 R
  n66 : N66 R
  n68 : N68 R
  n69 : N69 R
  n73 : N73 R
  n76 : N76 R
  n77 : N77 R
  n78 : N78 R
/-- umbra.umbralaw11.CodecBack -/
def c79 : IFn := { np := 3, rs := [.t 6], body :=
 (.seq
  (.ops [⟨some 6, none, .mv (.k (.bool false))⟩])
  (.seq
   (.ops [⟨some 17, none, .mv (.t 2)⟩,
     ⟨some 18, none, .bin .rem (.t 17) (.k (.int .i64 8))⟩,
     ⟨some 19, none, .bin .add (.t 18) (.k (.int .i64 8))⟩,
     ⟨some 20, none, .bin .rem (.t 19) (.k (.int .i64 8))⟩,
     ⟨some 21, none, .bin .add (.t 20) (.k (.int .i64 1))⟩,
     ⟨some 2, none, .mv (.t 21)⟩])
   (.keep [0, 1, 2]
    (.seq
     (.draw [0, 0, 2, 6, 15, 0, 0, 64, 192, 480, 31, 2047] [[0], [0], [23], [24], [22, 25], [1], [1], [28], [29], [27, 30], [26], [31]] [⟨some 22, none, .mv (.t 0)⟩,
       ⟨some 23, none, .mv (.t 0)⟩,
       ⟨some 24, none, .lenS (.t 23)⟩,
       ⟨some 25, none, .mm false [.t 24, .k (.int .i64 10)]⟩,
       ⟨some 26, none, .slcS 6 1 (.t 22) none (some (.t 25)) none⟩,
       ⟨some 27, none, .mv (.t 1)⟩,
       ⟨some 28, none, .mv (.t 1)⟩,
       ⟨some 29, none, .lenS (.t 28)⟩,
       ⟨some 30, none, .mm false [.t 29, .k (.int .i64 10)]⟩,
       ⟨some 31, none, .slcS 10 1 (.t 27) none (some (.t 30)) none⟩,
       ⟨some 0, none, .mv (.t 26)⟩,
       ⟨some 1, none, .mv (.t 31)⟩])
     (.keep [0, 1, 2]
      (.seq
       (.ops [⟨some 33, none, .mv (.t 2)⟩,
         ⟨some 34, none, .mv (.t 0)⟩,
         ⟨some 35, none, .call 54 [.k (.nils), .t 33, .t 34]⟩,
         ⟨some 32, none, .mv (.t 35)⟩,
         ⟨some 36, none, .ext (.t 32) 0⟩,
         ⟨some 37, none, .ext (.t 32) 1⟩,
         ⟨some 7, none, .mv (.t 36)⟩,
         ⟨some 8, none, .mv (.t 37)⟩])
       (.keep [0, 1, 2, 7, 8]
        (.seq
         (.seq
          (.ops [⟨some 38, none, .mv (.t 8)⟩,
            ⟨some 39, none, .bin .neq (.t 38) (.k (.int .i64 0))⟩])
          (.cond (.t 39)
           (.seq
            (.ops [⟨some 40, none, .mv (.t 8)⟩,
              ⟨some 41, none, .bin .eql (.t 40) (.k (.int .i64 3))⟩,
              ⟨some 42, none, .mv (.t 41)⟩,
              ⟨some 43, some (42, true), .mv (.t 2)⟩,
              ⟨some 44, some (42, true), .bin .lss (.t 43) (.k (.int .i64 8))⟩,
              ⟨some 45, none, .pick (.t 42) (.t 44) (.k (.bool false))⟩,
              ⟨some 46, none, .mv (.t 45)⟩,
              ⟨some 47, some (46, true), .mv (.t 7)⟩,
              ⟨some 48, some (46, true), .lenS (.t 47)⟩,
              ⟨some 49, some (46, true), .bin .eql (.t 48) (.k (.int .i64 0))⟩,
              ⟨some 50, none, .pick (.t 46) (.t 49) (.k (.bool false))⟩,
              ⟨some 51, none, .mv (.t 50)⟩,
              ⟨some 52, some (51, true), .call 73 []⟩,
              ⟨some 53, none, .pick (.t 51) (.t 52) (.k (.bool false))⟩,
              ⟨some 6, none, .mv (.t 53)⟩])
            (.keep [6]
             .ret))
           .skip))
         (.keep [0, 1, 2, 7]
          (.seq
           (.ops [⟨some 55, none, .mv (.t 7)⟩,
             ⟨some 56, none, .mv (.t 2)⟩,
             ⟨some 57, none, .mv (.t 1)⟩,
             ⟨some 58, none, .call 71 [.t 55, .t 56, .t 57]⟩,
             ⟨some 54, none, .mv (.t 58)⟩,
             ⟨some 59, none, .ext (.t 54) 0⟩,
             ⟨some 60, none, .ext (.t 54) 1⟩,
             ⟨some 9, none, .mv (.t 59)⟩,
             ⟨some 10, none, .mv (.t 60)⟩])
           (.keep [0, 1, 2, 9, 10]
            (.seq
             (.seq
              (.ops [⟨some 61, none, .mv (.t 10)⟩,
                ⟨some 62, none, .bin .neq (.t 61) (.k (.int .i64 0))⟩])
              (.cond (.t 62)
               (.seq
                (.ops [⟨some 63, none, .mv (.t 10)⟩,
                  ⟨some 64, none, .bin .eql (.t 63) (.k (.int .i64 3))⟩,
                  ⟨some 65, none, .mv (.t 64)⟩,
                  ⟨some 66, some (65, true), .mv (.t 2)⟩,
                  ⟨some 67, some (65, true), .bin .lss (.t 66) (.k (.int .i64 8))⟩,
                  ⟨some 68, none, .pick (.t 65) (.t 67) (.k (.bool false))⟩,
                  ⟨some 69, none, .mv (.t 68)⟩,
                  ⟨some 70, some (69, true), .mv (.t 9)⟩,
                  ⟨some 71, some (69, true), .lenS (.t 70)⟩,
                  ⟨some 72, some (69, true), .bin .eql (.t 71) (.k (.int .i64 0))⟩,
                  ⟨some 73, none, .pick (.t 69) (.t 72) (.k (.bool false))⟩,
                  ⟨some 74, none, .mv (.t 73)⟩,
                  ⟨some 75, some (74, true), .call 73 []⟩,
                  ⟨some 76, none, .pick (.t 74) (.t 75) (.k (.bool false))⟩,
                  ⟨some 6, none, .mv (.t 76)⟩])
                (.keep [6]
                 .ret))
               .skip))
             (.keep [0, 1, 2, 9]
              (.seq
               (.ops [⟨some 77, none, .mv (.t 9)⟩,
                 ⟨some 78, none, .call 56 [.t 77]⟩,
                 ⟨some 11, none, .mv (.t 78)⟩])
               (.seq
                (.seq
                 (.ops [⟨some 79, none, .mv (.t 11)⟩,
                   ⟨some 80, none, .isn false (.t 79)⟩])
                 (.cond (.t 80)
                  (.seq
                   (.ops [⟨some 6, none, .mv (.k (.bool false))⟩])
                   .ret)
                  .skip))
                (.keep [0, 1, 2, 9, 11]
                 (.seq
                  (.seq
                   (.ops [⟨some 81, none, .mv (.t 0)⟩,
                     ⟨some 82, none, .lenS (.t 81)⟩,
                     ⟨some 83, none, .mv (.k (.int .i64 0))⟩])
                   (.keep [0, 1, 2, 9, 11, 81, 82, 83]
                    (.block 0
                     (.loop
                      (.seq
                       (.ops [⟨some 84, none, .bin .lss (.t 83) (.t 82)⟩])
                       (.seq
                        (.cond (.t 84)
                         .skip
                         (.exit 0))
                        (.keep [0, 1, 2, 9, 11, 81, 82, 83]
                         (.seq
                          (.block 1
                           (.seq
                            (.ops [⟨some 85, none, .idxS 1 (.t 81) (.t 83)⟩,
                              ⟨some 86, none, .load false 1 (.t 85)⟩,
                              ⟨some 13, none, .mv (.t 86)⟩])
                            (.seq
                             (.ops [⟨some 87, none, .mv (.t 11)⟩,
                               ⟨some 88, none, .mv (.t 2)⟩,
                               ⟨some 89, none, .call 57 [.t 87, .t 88]⟩,
                               ⟨some 90, none, .mv (.t 13)⟩,
                               ⟨some 91, none, .bin .neq (.t 89) (.t 90)⟩])
                             (.keep [0, 1, 2, 9, 11, 81, 82, 83, 91]
                              (.cond (.t 91)
                               (.seq
                                (.ops [⟨some 6, none, .mv (.k (.bool false))⟩])
                                .ret)
                               .skip)))))
                          (.keep [0, 1, 2, 9, 11, 81, 82, 83]
                           (.ops [⟨some 92, none, .bin .add (.t 83) (.k (.int .i64 1))⟩,
                             ⟨some 83, none, .mv (.t 92)⟩]))))))))))
                  (.keep [0, 1, 2, 9, 11]
                   (.seq
                    (.seq
                     (.ops [⟨some 93, none, .mv (.t 1)⟩,
                       ⟨some 94, none, .lenS (.t 93)⟩,
                       ⟨some 95, none, .mv (.k (.int .i64 0))⟩])
                     (.keep [0, 1, 2, 9, 11, 93, 94, 95]
                      (.block 2
                       (.loop
                        (.seq
                         (.ops [⟨some 96, none, .bin .lss (.t 95) (.t 94)⟩])
                         (.seq
                          (.cond (.t 96)
                           .skip
                           (.exit 2))
                          (.keep [0, 1, 2, 9, 11, 93, 94, 95]
                           (.seq
                            (.block 3
                             (.seq
                              (.ops [⟨some 97, none, .idxS 1 (.t 93) (.t 95)⟩,
                                ⟨some 98, none, .load false 1 (.t 97)⟩,
                                ⟨some 15, none, .mv (.t 98)⟩])
                              (.seq
                               (.ops [⟨some 99, none, .mv (.t 11)⟩,
                                 ⟨some 100, none, .mv (.t 2)⟩,
                                 ⟨some 101, none, .call 76 [.t 99, .t 100]⟩,
                                 ⟨some 102, none, .mv (.t 15)⟩,
                                 ⟨some 103, none, .bin .neq (.t 101) (.t 102)⟩])
                               (.keep [0, 1, 2, 9, 11, 93, 94, 95, 103]
                                (.cond (.t 103)
                                 (.seq
                                  (.ops [⟨some 6, none, .mv (.k (.bool false))⟩])
                                  .ret)
                                 .skip)))))
                            (.keep [0, 1, 2, 9, 11, 93, 94, 95]
                             (.ops [⟨some 104, none, .bin .add (.t 95) (.k (.int .i64 1))⟩,
                               ⟨some 95, none, .mv (.t 104)⟩]))))))))))
                    (.keep [0, 1, 2, 9, 11]
                     (.seq
                      (.seq
                       (.ops [⟨some 105, none, .mv (.t 11)⟩,
                         ⟨some 106, none, .call 60 [.t 105]⟩,
                         ⟨some 107, none, .bin .neq (.t 106) (.k (.int .i64 0))⟩,
                         ⟨some 108, none, .mv (.t 107)⟩,
                         ⟨some 109, some (108, false), .mv (.t 11)⟩,
                         ⟨some 110, some (108, false), .call 68 [.t 109]⟩,
                         ⟨some 111, some (108, false), .bin .neq (.t 110) (.k (.int .i64 0))⟩,
                         ⟨some 112, none, .pick (.t 108) (.k (.bool true)) (.t 111)⟩,
                         ⟨some 113, none, .mv (.t 112)⟩,
                         ⟨some 114, some (113, false), .mv (.t 9)⟩,
                         ⟨some 115, some (113, false), .lenS (.t 114)⟩,
                         ⟨some 116, some (113, false), .mv (.t 2)⟩,
                         ⟨some 117, some (113, false), .mv (.t 0)⟩,
                         ⟨some 118, some (113, false), .lenS (.t 117)⟩,
                         ⟨some 119, some (113, false), .mv (.t 1)⟩,
                         ⟨some 120, some (113, false), .lenS (.t 119)⟩,
                         ⟨some 121, some (113, false), .bin .add (.t 118) (.t 120)⟩,
                         ⟨some 122, some (113, false), .bin .mul (.t 116) (.t 121)⟩,
                         ⟨some 123, some (113, false), .bin .neq (.t 115) (.t 122)⟩,
                         ⟨some 124, none, .pick (.t 113) (.k (.bool true)) (.t 123)⟩])
                       (.keep [0, 1, 2, 9, 124]
                        (.cond (.t 124)
                         (.seq
                          (.ops [⟨some 6, none, .mv (.k (.bool false))⟩])
                          .ret)
                         .skip)))
                      (.keep [0, 1, 2, 9]
                       (.seq
                        (.seq
                         (.ops [⟨some 125, none, .mv (.t 9)⟩,
                           ⟨some 126, none, .lenS (.t 125)⟩,
                           ⟨some 127, none, .bin .eql (.t 126) (.k (.int .i64 0))⟩])
                         (.cond (.t 127)
                          (.seq
                           (.ops [⟨some 128, none, .call 73 []⟩,
                             ⟨some 6, none, .mv (.t 128)⟩])
                           .ret)
                          .skip))
                        (.keep [0, 1, 2, 9]
                         (.seq
                          (.ops [⟨some 129, none, .mv (.t 9)⟩,
                            ⟨some 130, none, .mv (.t 9)⟩,
                            ⟨some 131, none, .lenS (.t 130)⟩,
                            ⟨some 132, none, .bin .sub (.t 131) (.k (.int .i64 1))⟩,
                            ⟨some 133, none, .slcS 4 1 (.t 129) none (some (.t 132)) none⟩,
                            ⟨some 134, none, .call 56 [.t 133]⟩,
                            ⟨some 16, none, .mv (.t 134)⟩])
                          (.keep [0, 1, 2, 16]
                           (.seq
                            (.seq
                             (.ops [⟨some 135, none, .mv (.t 16)⟩,
                               ⟨some 136, none, .isn false (.t 135)⟩])
                             (.cond (.t 136)
                              (.seq
                               (.ops [⟨some 6, none, .mv (.k (.bool false))⟩])
                               .ret)
                              .skip))
                            (.keep [0, 1, 2, 16]
                             (.seq
                              (.seq
                               (.ops [⟨some 137, none, .mv (.t 0)⟩,
                                 ⟨some 138, none, .lenS (.t 137)⟩,
                                 ⟨some 139, none, .mv (.t 1)⟩,
                                 ⟨some 140, none, .lenS (.t 139)⟩,
                                 ⟨some 141, none, .bin .add (.t 138) (.t 140)⟩,
                                 ⟨some 142, none, .mv (.k (.int .i64 0))⟩])
                               (.keep [2, 16, 141, 142]
                                (.block 4
                                 (.loop
                                  (.seq
                                   (.ops [⟨some 143, none, .bin .lss (.t 142) (.t 141)⟩])
                                   (.seq
                                    (.cond (.t 143)
                                     .skip
                                     (.exit 4))
                                    (.keep [2, 16, 141, 142]
                                     (.seq
                                      (.block 5
                                       (.ops [⟨some 144, none, .mv (.t 16)⟩,
                                         ⟨some 145, none, .mv (.t 2)⟩,
                                         ⟨some 146, none, .call 57 [.t 144, .t 145]⟩]))
                                      (.keep [2, 16, 141, 142]
                                       (.ops [⟨some 147, none, .bin .add (.t 142) (.k (.int .i64 1))⟩,
                                         ⟨some 142, none, .mv (.t 147)⟩]))))))))))
                              (.keep [16]
                               (.seq
                                (.ops [⟨some 148, none, .mv (.t 16)⟩,
                                  ⟨some 149, none, .call 65 [.t 148]⟩,
                                  ⟨some 150, none, .bin .eql (.t 149) (.k (.int .i64 4))⟩,
                                  ⟨some 151, none, .mv (.t 150)⟩,
                                  ⟨some 152, some (151, true), .call 73 []⟩,
                                  ⟨some 153, none, .pick (.t 151) (.t 152) (.k (.bool false))⟩,
                                  ⟨some 6, none, .mv (.t 153)⟩])
                                (.keep [6]
                                 .ret)))))))))))))))))))))))))))))))) }
structure N79 (R : Env) : Prop where
  o79 : R.Fn 79 c79
  n54 : N54 R
  n56 : N56 R
  n57 : N57 R
  n60 : N60 R
  n65 : N65 R
  n68 : N68 R
  n71 : N71 R
  n73 : N73 R
  n76 : N76 R
end Go.UM

/- The statements of chapter 11. -/



namespace Go.UM
open Go.AM
set_option maxRecDepth 4000

theorem works11_c {R : Env} (h : N73 R) : R.Pc 73 [] (.bool true) :=
  h.o73.enter 100 rfl fun X bb hfit hp => by
    have c1 := put_c h.n54 [] 2 [258, 1] (by decide) (by simp)
    rw [show puts [] 2 [258, 1] = ([2, 1, 1, 0], 0) by decide] at c1
    have c2 := signed_c h.n71 [] 2 [-1] (by decide) (by simp [inI])
    rw [show signs [] 2 [-1] = ([255, 255], 0) by decide] at c2
    repeat ((intro _u; clear _u); first | with_reducible first | refine cT ?_ | refine cF ?_ | refine cA ?_ | refine cB ?_ | refine aLn ?_ | refine cK ?_ | refine aS8 ?_ | refine wI ?_ | refine nD ?_ | refine aX rfl ?_)
    intro _u; clear _u
    refine cM true [] (c1) ?_
    repeat ((intro _u; clear _u); first | refine eK ?_ | refine eP ?_)
    repeat ((intro _u; clear _u); first | with_reducible first | refine cT ?_ | refine cF ?_ | refine cA ?_ | refine cB ?_ | refine aLn ?_ | refine cK ?_ | refine aS8 ?_ | refine wI ?_ | refine nD ?_ | refine aX rfl ?_)
    intro _u; clear _u
    refine cM true [] (c2) ?_
    repeat ((intro _u; clear _u); first | refine eK ?_ | refine eP ?_)
    repeat ((intro _u; clear _u); first | with_reducible first | refine cT ?_ | refine cF ?_ | refine cA ?_ | refine cB ?_ | refine aLn ?_ | refine cK ?_ | refine aS8 ?_ | refine wI ?_ | refine nD ?_ | refine aX rfl ?_)
    intro _u; clear _u
    refine acnd_t (by decide) ?_
    repeat ((intro _u; clear _u); first | with_reducible first | refine cT ?_ | refine cF ?_ | refine cA ?_ | refine cB ?_ | refine aLn ?_ | refine cK ?_ | refine aS8 ?_ | refine wI ?_ | refine nD ?_ | refine aX rfl ?_)
    intro _u; clear _u
    refine cM true [] ((eq8_c h.n47 [2, 1, 1, 0] [2, 1, 1, 0]).mc h.n47.o47.hb) ?_
    repeat ((intro _u; clear _u); first | refine eK ?_ | refine eP ?_)
    repeat ((intro _u; clear _u); first | with_reducible first | refine cT ?_ | refine cF ?_ | refine cA ?_ | refine cB ?_ | refine aLn ?_ | refine cK ?_ | refine aS8 ?_ | refine wI ?_ | refine nD ?_ | refine aX rfl ?_)
    intro _u; clear _u
    refine acnd_t (by decide) ?_
    repeat ((intro _u; clear _u); first | with_reducible first | refine cT ?_ | refine cF ?_ | refine cA ?_ | refine cB ?_ | refine aLn ?_ | refine cK ?_ | refine aS8 ?_ | refine wI ?_ | refine nD ?_ | refine aX rfl ?_)
    intro _u; clear _u
    refine acnd_t (by decide) ?_
    repeat ((intro _u; clear _u); first | with_reducible first | refine cT ?_ | refine cF ?_ | refine cA ?_ | refine cB ?_ | refine aLn ?_ | refine cK ?_ | refine aS8 ?_ | refine wI ?_ | refine nD ?_ | refine aX rfl ?_)
    intro _u; clear _u
    refine cM true [] ((eq8_c h.n47 [255, 255] [255, 255]).mc h.n47.o47.hb) ?_
    repeat ((intro _u; clear _u); first | refine eK ?_ | refine eP ?_)
    repeat ((intro _u; clear _u); first | with_reducible first | refine cT ?_ | refine cF ?_ | refine cA ?_ | refine cB ?_ | refine aLn ?_ | refine cK ?_ | refine aS8 ?_ | refine wI ?_ | refine nD ?_ | refine aX rfl ?_)
    intro _u; clear _u
    exact rT

theorem puts_law {R : Env} (h : N70 R) (b : List UInt8) (w : Int) (n : List Int) (hn : ∀ x ∈ n, 0 ≤ x ∧ x ≤ 18446744073709551615) (hb : b.length ≤ maxLen) (hnl : n.length ≤ maxLen) : R.Pc 70 [.isl 1 (slc8 b), .int .i64 w, .isl 1 (slcK .u64 n)] (.bool true) :=
  h.o70.enter 100 rfl fun X bb hfit hp => by
    repeat ((intro _u; clear _u); first | with_reducible first | refine cT ?_ | refine cF ?_ | refine cA ?_ | refine cB ?_ | refine aLn ?_ | refine cK ?_ | refine aS8 ?_ | refine wI ?_ | refine nD ?_ | refine aX rfl ?_)
    intro _u; clear _u
    refine asub_eq (by exact cap8 b 40) ?_
    repeat ((intro _u; clear _u); first | with_reducible first | refine cT ?_ | refine cF ?_ | refine cA ?_ | refine cB ?_ | refine aLn ?_ | refine cK ?_ | refine aS8 ?_ | refine wI ?_ | refine nD ?_ | refine aX rfl ?_)
    intro _u; clear _u
    refine asub_eq (by exact capK .u64 n 20) ?_
    have hb' : (b.take (Int.toNat 40)).length ≤ 40 := by simp; omega
    have hn' : (n.take (Int.toNat 20)).length ≤ 20 := by simp; omega
    have hx' : ∀ x ∈ n.take (Int.toNat 20), 0 ≤ x ∧ x ≤ 18446744073709551615 := fun x hx => hn x (List.mem_of_mem_take hx)
    generalize b.take (Int.toNat 40) = b at hb' ⊢
    generalize n.take (Int.toNat 20) = n at hn' hx' ⊢
    repeat ((intro _u; clear _u); first | with_reducible first | refine cT ?_ | refine cF ?_ | refine cA ?_ | refine cB ?_ | refine aLn ?_ | refine cK ?_ | refine aS8 ?_ | refine wI ?_ | refine nD ?_ | refine aX rfl ?_)
    intro _u; clear _u
    refine cM false [] (put_c h.n54 b w n (by omega) hx') ?_
    repeat ((intro _u; clear _u); first | refine eK ?_ | refine eP ?_)
    repeat ((intro _u; clear _u); first | with_reducible first | refine cT ?_ | refine cF ?_ | refine cA ?_ | refine cB ?_ | refine aLn ?_ | refine cK ?_ | refine aS8 ?_ | refine wI ?_ | refine nD ?_ | refine aX rfl ?_)
    intro _u; clear _u
    refine cM false [] (rput_c h.n55 b w n (by omega) hx') ?_
    repeat ((intro _u; clear _u); first | refine eK ?_ | refine eP ?_)
    repeat ((intro _u; clear _u); first | with_reducible first | refine cT ?_ | refine cF ?_ | refine cA ?_ | refine cB ?_ | refine aLn ?_ | refine cK ?_ | refine aS8 ?_ | refine wI ?_ | refine nD ?_ | refine aX rfl ?_)
    intro _u; clear _u
    refine lPa 100 (fun k : Nat => k ≤ n.length) (fun k => ⟨[(0, .isl 1 (slc8 b)), (1, .int .i64 w), (7, .osl 0 (puts b w n).1.length), (8, .int .i64 (puts b w n).2), (9, .osl 1 (puts b w n).1.length), (10, .int .i64 (puts b w n).2), (11, .osl 2 ((n.take k).map (wr .i64)).length), (42, .isl 1 (slcK .u64 n)), (43, .int .i64 n.length), (44, .int .i64 k)], [(2, .arr (R.ty 10) 1 (slcK .i64 ((n.take k).map (wr .i64)))), (1, .arr (R.ty 4) 1 (slc8 (puts b w n).1)), (0, .arr (R.ty 4) 1 (slc8 (puts b w n).1))], 3⟩) (fun k => n.length - k) (0) ?_ ?_
    · exact Nat.zero_le _
    · intro k hk
      dsimp only
      repeat ((intro _u; clear _u); first | with_reducible first | refine cT ?_ | refine cF ?_ | refine cA ?_ | refine cB ?_ | refine aLn ?_ | refine cK ?_ | refine aS8 ?_ | refine wI ?_ | refine nD ?_ | refine aX rfl ?_)
      intro _u; clear _u
      refine cS (fun h1 => ?_) (fun h1 => ?_)
      · obtain ⟨x, hx⟩ : ∃ u_, n[k]? = some u_ := ⟨_, List.getElem?_eq_getElem (by first | omega | (simp <;> omega))⟩
        repeat ((intro _u; clear _u); first | with_reducible first | refine cT ?_ | refine cF ?_ | refine cA ?_ | refine cB ?_ | refine aLn ?_ | refine cK ?_ | refine aS8 ?_ | refine wI ?_ | refine nD ?_ | refine aX rfl ?_)
        intro _u; clear _u
        refine eget_map hx ?_
        repeat ((intro _u; clear _u); first | with_reducible first | refine cT ?_ | refine cF ?_ | refine cA ?_ | refine cB ?_ | refine aLn ?_ | refine cK ?_ | refine aS8 ?_ | refine wI ?_ | refine nD ?_ | refine aX rfl ?_)
        intro _u; clear _u
        refine iwr_any ?_
        repeat ((intro _u; clear _u); first | with_reducible first | refine cT ?_ | refine cF ?_ | refine cA ?_ | refine cB ?_ | refine aLn ?_ | refine cK ?_ | refine aS8 ?_ | refine wI ?_ | refine nD ?_ | refine aX rfl ?_)
        intro _u; clear _u
        refine nX (k + 1) ?_ ?_ ⟨_, hp, rfl⟩ ?_ ?_
        · omega
        · omega
        · all_goals repeat' (first | exact True.intro | refine And.intro ?_ ?_ | (intro _u; clear _u) | with_reducible first | refine eM ?_ ?_ | refine eF ?_ ?_ ?_ | refine eN ?_ | refine eL ?_ ?_ ?_ | refine eA ?_ ?_ | refine IWk.mk ⟨_, hp, rfl⟩ ?_ ?_)
          all_goals first | with_reducible rfl | omega | exact Or.inl (by decide) | (simp; done) | rfl | skip
          rw [take_succ_get hx]; simp
        · all_goals repeat' (first | exact True.intro | refine And.intro ?_ ?_ | (intro _u; clear _u) | with_reducible first | refine eM ?_ ?_ | refine eF ?_ ?_ ?_ | refine eN ?_ | refine eL ?_ ?_ ?_ | refine eA ?_ ?_ | refine IWk.mk ⟨_, hp, rfl⟩ ?_ ?_)
          all_goals first | with_reducible rfl | omega | exact Or.inl (by decide) | (simp; done) | rfl | skip
          rw [take_succ_get hx]; simp [slcK]
      · have hkn : n.take k = n := List.take_of_length_le (by omega)
        rw [hkn]
        have hl : ∀ x ∈ n.map (wr .i64), inI .i64 x := by
          intro x hx
          obtain ⟨y, _, rfl⟩ := List.mem_map.1 hx
          exact wr_inI _ _
        repeat ((intro _u; clear _u); first | with_reducible first | refine cT ?_ | refine cF ?_ | refine cA ?_ | refine cB ?_ | refine aLn ?_ | refine cK ?_ | refine aS8 ?_ | refine wI ?_ | refine nD ?_ | refine aX rfl ?_)
        intro _u; clear _u
        refine cM true [] (signed_c h.n71 b w (n.map (wr .i64)) (by simp; omega) hl) ?_
        repeat ((intro _u; clear _u); first | refine eK ?_ | refine eP ?_)
        repeat ((intro _u; clear _u); first | with_reducible first | refine cT ?_ | refine cF ?_ | refine cA ?_ | refine cB ?_ | refine aLn ?_ | refine cK ?_ | refine aS8 ?_ | refine wI ?_ | refine nD ?_ | refine aX rfl ?_)
        intro _u; clear _u
        refine cM true [] (rsigned_c h.n72 b w (n.map (wr .i64)) (by simp; omega) hl) ?_
        repeat ((intro _u; clear _u); first | refine eK ?_ | refine eP ?_)
        repeat ((intro _u; clear _u); first | with_reducible first | refine cT ?_ | refine cF ?_ | refine cA ?_ | refine cB ?_ | refine aLn ?_ | refine cK ?_ | refine aS8 ?_ | refine wI ?_ | refine nD ?_ | refine aX rfl ?_)
        intro _u; clear _u
        refine cM true [] ((eq8_c h.n47 (puts b w n).1 (puts b w n).1).mc h.n47.o47.hb) ?_
        repeat ((intro _u; clear _u); first | refine eK ?_ | refine eP ?_)
        repeat ((intro _u; clear _u); first | with_reducible first | refine cT ?_ | refine cF ?_ | refine cA ?_ | refine cB ?_ | refine aLn ?_ | refine cK ?_ | refine aS8 ?_ | refine wI ?_ | refine nD ?_ | refine aX rfl ?_)
        intro _u; clear _u
        refine acnd_t (by simp) ?_
        repeat ((intro _u; clear _u); first | with_reducible first | refine cT ?_ | refine cF ?_ | refine cA ?_ | refine cB ?_ | refine aLn ?_ | refine cK ?_ | refine aS8 ?_ | refine wI ?_ | refine nD ?_ | refine aX rfl ?_)
        intro _u; clear _u
        refine acnd_t (by simp) ?_
        repeat ((intro _u; clear _u); first | with_reducible first | refine cT ?_ | refine cF ?_ | refine cA ?_ | refine cB ?_ | refine aLn ?_ | refine cK ?_ | refine aS8 ?_ | refine wI ?_ | refine nD ?_ | refine aX rfl ?_)
        intro _u; clear _u
        refine cM true [] ((eq8_c h.n47 (signs b w (n.map (wr .i64))).1 (signs b w (n.map (wr .i64))).1).mc h.n47.o47.hb) ?_
        repeat ((intro _u; clear _u); first | refine eK ?_ | refine eP ?_)
        repeat ((intro _u; clear _u); first | with_reducible first | refine cT ?_ | refine cF ?_ | refine cA ?_ | refine cB ?_ | refine aLn ?_ | refine cK ?_ | refine aS8 ?_ | refine wI ?_ | refine nD ?_ | refine aX rfl ?_)
        intro _u; clear _u
        refine acnd_t (by simp) ?_
        repeat ((intro _u; clear _u); first | with_reducible first | refine cT ?_ | refine cF ?_ | refine cA ?_ | refine cB ?_ | refine aLn ?_ | refine cK ?_ | refine aS8 ?_ | refine wI ?_ | refine nD ?_ | refine aX rfl ?_)
        intro _u; clear _u
        refine acnd_t (by simp) ?_
        repeat ((intro _u; clear _u); first | with_reducible first | refine cT ?_ | refine cF ?_ | refine cA ?_ | refine cB ?_ | refine aLn ?_ | refine cK ?_ | refine aS8 ?_ | refine wI ?_ | refine nD ?_ | refine aX rfl ?_)
        intro _u; clear _u
        refine ICall.pure h.n73.o73.hb (works11_c h.n73) rfl ?_
        repeat ((intro _u; clear _u); first | with_reducible first | refine cT ?_ | refine cF ?_ | refine cA ?_ | refine cB ?_ | refine aLn ?_ | refine cK ?_ | refine aS8 ?_ | refine wI ?_ | refine nD ?_ | refine aX rfl ?_)
        intro _u; clear _u
        exact rT
theorem put_p {R : Env} (h : N54 R) (b : List UInt8) (w : Int) (n : List Int) (hl : b.length + 8 * n.length ≤ 1073741824) (hn : ∀ x ∈ n, 0 ≤ x ∧ x ≤ 18446744073709551615) :
    R.Pc 54 [.isl 1 (slc8 b), .int .i64 w, .isl 1 (slcK .u64 n)] (.tup [.isl 1 (slc8 (puts b w n).1), .int .i64 (puts b w n).2]) :=
  (put_c h b w n hl hn).pc fZ
theorem signed_p {R : Env} (h : N71 R) (b : List UInt8) (w : Int) (n : List Int) (hl : b.length + 8 * n.length ≤ 1073741824) (hn : ∀ x ∈ n, inI .i64 x) :
    R.Pc 71 [.isl 1 (slc8 b), .int .i64 w, .isl 1 (slcK .i64 n)] (.tup [.isl 1 (slc8 (signs b w n).1), .int .i64 (signs b w n).2]) :=
  (signed_c h b w n hl hn).pc fZ

theorem tmod_bound (w : Int) {m : Int} (hm : 0 < m) : -m < w.tmod m ∧ w.tmod m < m := by
  refine ⟨?_, Int.tmod_lt_of_pos w hm⟩
  by_cases h : 0 ≤ w
  · have := Int.tmod_nonneg m h
    omega
  · have h1 := Int.tmod_lt_of_pos (-w) hm
    rw [Int.neg_tmod] at h1
    omega

theorem puts_one {w n : Int} (h1 : 1 ≤ w) (h2 : w ≤ 8) (h : ¬ 256 ^ w.toNat ≤ n) : puts [] w [n] = (enc w.toNat n, 0) := by
  rw [puts_ok h1 h2 (by simp only [List.any_cons, List.any_nil, Bool.or_false, decide_eq_false_iff_not]; exact h)]
  simp

theorem widths_law {R : Env} (h : N74 R) (n w : Int) (hn : inI .u64 n) (hw : inI .i64 w) : R.Pc 74 [.int .u64 n, .int .i64 w] (.bool true) :=
  h.o74.enter 100 rfl fun X bb hfit hp => by
    simp only [inI] at hn hw
    have b1 := tmod_bound w (m := 7) (by decide)
    have b2 : 0 ≤ (w.tmod 7 + 7).tmod 7 ∧ (w.tmod 7 + 7).tmod 7 < 7 := ⟨Int.tmod_nonneg _ (by omega), Int.tmod_lt_of_pos _ (by decide)⟩
    repeat ((intro _u; clear _u); first | with_reducible first | refine cT ?_ | refine cF ?_ | refine cA ?_ | refine cB ?_ | refine aLn ?_ | refine cK ?_ | refine aS8 ?_ | refine wI ?_ | refine nD ?_ | refine aX rfl ?_)
    generalize hv : (w.tmod 7 + 7).tmod 7 + 1 = v
    have hv1 : 1 ≤ v ∧ v ≤ 7 := by omega
    have hx : ∀ x ∈ [n], 0 ≤ x ∧ x ≤ 18446744073709551615 := by simpa using hn
    repeat ((intro _u; clear _u); first | with_reducible first | refine cT ?_ | refine cF ?_ | refine cA ?_ | refine cB ?_ | refine aLn ?_ | refine cK ?_ | refine aS8 ?_ | refine wI ?_ | refine nD ?_ | refine aX rfl ?_)
    intro _u; clear _u
    refine ICall.let [0] rfl hp rfl ?_
    repeat ((intro _u; clear _u); first | refine eZ ?_ | refine FrzC.drop ?_)
    repeat ((intro _u; clear _u); first | with_reducible first | refine cT ?_ | refine cF ?_ | refine cA ?_ | refine cB ?_ | refine aLn ?_ | refine cK ?_ | refine aS8 ?_ | refine wI ?_ | refine nD ?_ | refine aX rfl ?_)
    intro _u; clear _u
    refine cM false [] ((put_p h.n54 [] v [n] (by simp) hx).mc h.n54.o54.hb) ?_
    repeat ((intro _u; clear _u); first | refine eK ?_ | refine eP ?_)
    repeat ((intro _u; clear _u); first | with_reducible first | refine cT ?_ | refine cF ?_ | refine cA ?_ | refine cB ?_ | refine aLn ?_ | refine cK ?_ | refine aS8 ?_ | refine wI ?_ | refine nD ?_ | refine aX rfl ?_)
    intro _u; clear _u
    refine ICall.let [1] rfl hp rfl ?_
    repeat ((intro _u; clear _u); first | refine eZ ?_ | refine FrzC.drop ?_)
    repeat ((intro _u; clear _u); first | with_reducible first | refine cT ?_ | refine cF ?_ | refine cA ?_ | refine cB ?_ | refine aLn ?_ | refine cK ?_ | refine aS8 ?_ | refine wI ?_ | refine nD ?_ | refine aX rfl ?_)
    intro _u; clear _u
    refine cM false [] ((put_p h.n54 [] (v + 1) [n] (by simp) hx).mc h.n54.o54.hb) ?_
    repeat ((intro _u; clear _u); first | refine eK ?_ | refine eP ?_)
    by_cases hb : 256 ^ v.toNat ≤ n
    · rw [puts_bad (x := n) (by omega) (by omega) (by simp) hb]
      repeat ((intro _u; clear _u); first | with_reducible first | refine cT ?_ | refine cF ?_ | refine cA ?_ | refine cB ?_ | refine aLn ?_ | refine cK ?_ | refine aS8 ?_ | refine wI ?_ | refine nD ?_ | refine aX rfl ?_)
      intro _u; clear _u
      refine acnd_t (by decide) ?_
      repeat ((intro _u; clear _u); first | with_reducible first | refine cT ?_ | refine cF ?_ | refine cA ?_ | refine cB ?_ | refine aLn ?_ | refine cK ?_ | refine aS8 ?_ | refine wI ?_ | refine nD ?_ | refine aX rfl ?_)
      intro _u; clear _u
      refine acnd_t (by decide) ?_
      repeat ((intro _u; clear _u); first | with_reducible first | refine cT ?_ | refine cF ?_ | refine cA ?_ | refine cB ?_ | refine aLn ?_ | refine cK ?_ | refine aS8 ?_ | refine wI ?_ | refine nD ?_ | refine aX rfl ?_)
      intro _u; clear _u
      refine ICall.pure h.n73.o73.hb (works11_c h.n73) rfl ?_
      repeat ((intro _u; clear _u); first | with_reducible first | refine cT ?_ | refine cF ?_ | refine cA ?_ | refine cB ?_ | refine aLn ?_ | refine cK ?_ | refine aS8 ?_ | refine wI ?_ | refine nD ?_ | refine aX rfl ?_)
      intro _u; clear _u
      exact rT
    · have hp1 := pow_ge1 v.toNat
      have hb2 : ¬ 256 ^ (v + 1).toNat ≤ n := by
        rw [show (v + 1).toNat = v.toNat + 1 by omega, Int.pow_succ]
        omega
      rw [puts_one (by omega) (by omega) hb, puts_one (by omega) (by omega) hb2]
      have hdrop : (enc (v + 1).toNat n).take v.toNat = enc v.toNat n := by
        rw [show (v + 1).toNat = v.toNat + 1 by omega, enc_succ, List.take_left' (by simp)]
      have hlast : (enc (v + 1).toNat n)[v.toNat]? = some 0 := by
        rw [show (v + 1).toNat = v.toNat + 1 by omega, enc_succ, List.getElem?_append_right (by simp)]
        simp
        rw [Int.ediv_eq_zero_of_lt hn.1 (by omega)]
        rfl
      repeat ((intro _u; clear _u); first | with_reducible first | refine cT ?_ | refine cF ?_ | refine cA ?_ | refine cB ?_ | refine aLn ?_ | refine cK ?_ | refine aS8 ?_ | refine wI ?_ | refine nD ?_ | refine aX rfl ?_)
      intro _u; clear _u
      refine acnd_f (by rfl) ?_
      repeat ((intro _u; clear _u); first | with_reducible first | refine cT ?_ | refine cF ?_ | refine cA ?_ | refine cB ?_ | refine aLn ?_ | refine cK ?_ | refine aS8 ?_ | refine wI ?_ | refine nD ?_ | refine aX rfl ?_)
      intro _u; clear _u
      refine acnd_t (by rfl) ?_
      repeat ((intro _u; clear _u); first | with_reducible first | refine cT ?_ | refine cF ?_ | refine cA ?_ | refine cB ?_ | refine aLn ?_ | refine cK ?_ | refine aS8 ?_ | refine wI ?_ | refine nD ?_ | refine aX rfl ?_)
      intro _u; clear _u
      refine acnd_t (by (simp; omega)) ?_
      repeat ((intro _u; clear _u); first | with_reducible first | refine cT ?_ | refine cF ?_ | refine cA ?_ | refine cB ?_ | refine aLn ?_ | refine cK ?_ | refine aS8 ?_ | refine wI ?_ | refine nD ?_ | refine aX rfl ?_)
      intro _u; clear _u
      refine acnd_t (by (simp; omega)) ?_
      repeat ((intro _u; clear _u); first | with_reducible first | refine cT ?_ | refine cF ?_ | refine cA ?_ | refine cB ?_ | refine aLn ?_ | refine cK ?_ | refine aS8 ?_ | refine wI ?_ | refine nD ?_ | refine aX rfl ?_)
      intro _u; clear _u
      refine asub_eq (by exact (show (slc8 (enc (v + 1).toNat n)).take v.toNat = slc8 (enc v.toNat n) from by rw [slc8_take, hdrop])) ?_
      repeat ((intro _u; clear _u); first | with_reducible first | refine cT ?_ | refine cF ?_ | refine cA ?_ | refine cB ?_ | refine aLn ?_ | refine cK ?_ | refine aS8 ?_ | refine wI ?_ | refine nD ?_ | refine aX rfl ?_)
      intro _u; clear _u
      refine acnd_t (by simp) ?_
      repeat ((intro _u; clear _u); first | with_reducible first | refine cT ?_ | refine cF ?_ | refine cA ?_ | refine cB ?_ | refine aLn ?_ | refine cK ?_ | refine aS8 ?_ | refine wI ?_ | refine nD ?_ | refine aX rfl ?_)
      intro _u; clear _u
      refine get8 hlast ?_
      repeat ((intro _u; clear _u); first | with_reducible first | refine cT ?_ | refine cF ?_ | refine cA ?_ | refine cB ?_ | refine aLn ?_ | refine cK ?_ | refine aS8 ?_ | refine wI ?_ | refine nD ?_ | refine aX rfl ?_)
      intro _u; clear _u
      refine acnd_t (by decide) ?_
      repeat ((intro _u; clear _u); first | with_reducible first | refine cT ?_ | refine cF ?_ | refine cA ?_ | refine cB ?_ | refine aLn ?_ | refine cK ?_ | refine aS8 ?_ | refine wI ?_ | refine nD ?_ | refine aX rfl ?_)
      intro _u; clear _u
      refine ICall.pure h.n73.o73.hb (works11_c h.n73) rfl ?_
      repeat ((intro _u; clear _u); first | with_reducible first | refine cT ?_ | refine cF ?_ | refine cA ?_ | refine cB ?_ | refine aLn ?_ | refine cK ?_ | refine aS8 ?_ | refine wI ?_ | refine nD ?_ | refine aX rfl ?_)
      intro _u; clear _u
      exact rT
end Go.UM

/- The statements of chapter 11, part 2: the reader. -/

namespace Go.UM
open Go.AM
set_option maxRecDepth 4000

/-- A reader that New did not make. -/
def noRd : Rd := ⟨[], 0, false⟩
theorem noRd_num (w : Int) : noRd.num w = (0, noRd) := rfl
theorem noRd_take (w : Int) : noRd.take w = ([], noRd) := rfl
theorem noRd_int (w : Int) : noRd.int w = (0, noRd) := by
  unfold Rd.int
  rw [noRd_num]
  by_cases h : w < 1 ∨ 8 < w
  · rw [if_pos h]
  · rw [if_neg h]
    have := pow_ge1 w.toNat
    have e : ((256 : Int) ^ w.toNat) = ((256 ^ w.toNat : Nat) : Int) := by rw [Int.natCast_pow]; rfl
    have h0 : sx w 0 = 0 := by
      unfold sx
      rw [if_pos (by omega)]
      rfl
    rw [h0]

def slcA (l : List (Int × Int)) : List (List AV) := l.map fun a => [.int .i64 a.1, .int .i64 a.2]
@[simp] theorem slcA_length (l : List (Int × Int)) : (slcA l).length = l.length := by simp [slcA]
instance {l : List (Int × Int)} : LenOf (slcA l) l.length := ⟨slcA_length l⟩




theorem reads_law {R : Env} (h : N75 R) (b : List UInt8) (asks : List (Int × Int)) (ha : ∀ a ∈ asks, inI .i64 a.1 ∧ inI .i64 a.2) (hal : asks.length ≤ maxLen) : R.Pc 75 [.isl 1 (slc8 b), .isl 2 (slcA asks)] (.bool true) :=
  h.o75.enter 200 rfl fun X bb hfit hp => by
    repeat ((intro _u; clear _u); first | with_reducible first | refine cT ?_ | refine cF ?_ | refine cA ?_ | refine cB ?_ | refine aLn ?_ | refine cK ?_ | refine aS8 ?_ | refine wI ?_ | refine nD ?_ | refine aX rfl ?_)
    intro _u; clear _u
    refine asub_eq (by exact cap8 b 200) ?_
    have hb' : (b.take (Int.toNat 200)).length ≤ 200 := by simp; omega
    generalize b.take (Int.toNat 200) = B at hb' ⊢
    repeat ((intro _u; clear _u); first | with_reducible first | refine cT ?_ | refine cF ?_ | refine cA ?_ | refine cB ?_ | refine aLn ?_ | refine cK ?_ | refine aS8 ?_ | refine wI ?_ | refine nD ?_ | refine aX rfl ?_)
    intro _u; clear _u
    refine cM false [] (new_c h.n56 B (by omega)) ?_
    repeat ((intro _u; clear _u); first | refine eK ?_ | refine eP ?_)
    repeat ((intro _u; clear _u); first | with_reducible first | refine cT ?_ | refine cF ?_ | refine cA ?_ | refine cB ?_ | refine aLn ?_ | refine cK ?_ | refine aS8 ?_ | refine wI ?_ | refine nD ?_ | refine aX rfl ?_)
    intro _u; clear _u
    refine lPa 200 (fun s : Nat × Rd => s.1 ≤ asks.length ∧ RdOk B s.2) (fun s => ⟨[(1, .isl 2 (slcA asks)), (5, .loc 0 1 0 0), (6, .loc 1 1 0 0), (7, .loc 2 1 0 0), (8, .int .i64 s.1)], [(0, .var (R.ty 9) s.2.row), (1, .var (R.ty 8) [.isl 1 (slc8 B), .int .i64 (B.length - s.2.l.length), .int .i64 s.2.e]), (2, .var (R.ty 9) noRd.row)], 3⟩) (fun s => asks.length - s.1) ((0, ⟨B, 0, true⟩)) ?_ ?_
    · exact ⟨Nat.zero_le _, RdOk.new (by omega)⟩
    · rintro ⟨i, r⟩ ⟨hi, ok⟩
      dsimp only at hi ok ⊢
      repeat ((intro _u; clear _u); first | with_reducible first | refine cT ?_ | refine cF ?_ | refine cA ?_ | refine cB ?_ | refine aLn ?_ | refine cK ?_ | refine aS8 ?_ | refine wI ?_ | refine nD ?_ | refine aX rfl ?_)
      intro _u; clear _u
      refine cS (fun h1 => ?_) (fun h1 => ?_)
      · repeat ((intro _u; clear _u); first | with_reducible first | refine cT ?_ | refine cF ?_ | refine cA ?_ | refine cB ?_ | refine aLn ?_ | refine cK ?_ | refine aS8 ?_ | refine wI ?_ | refine nD ?_ | refine aX rfl ?_)
        intro _u; clear _u
        refine cS (fun h2 => ?_) (fun h2 => ?_)
        · obtain ⟨a, ha⟩ : ∃ u_, asks[i]? = some u_ := ⟨_, List.getElem?_eq_getElem (by first | omega | (simp <;> omega))⟩
          repeat ((intro _u; clear _u); first | with_reducible first | refine cT ?_ | refine cF ?_ | refine cA ?_ | refine cB ?_ | refine aLn ?_ | refine cK ?_ | refine aS8 ?_ | refine wI ?_ | refine nD ?_ | refine aX rfl ?_)
          intro _u; clear _u
          refine eget_map ha ?_
          obtain ⟨k, m⟩ := a
          repeat ((intro _u; clear _u); first | with_reducible first | refine cT ?_ | refine cF ?_ | refine cA ?_ | refine cB ?_ | refine aLn ?_ | refine cK ?_ | refine aS8 ?_ | refine wI ?_ | refine nD ?_ | refine aX rfl ?_)
          intro _u; clear _u
          refine cS (fun h3 => ?_) (fun h3 => ?_)
          · repeat ((intro _u; clear _u); first | with_reducible first | refine cT ?_ | refine cF ?_ | refine cA ?_ | refine cB ?_ | refine aLn ?_ | refine cK ?_ | refine aS8 ?_ | refine wI ?_ | refine nD ?_ | refine aX rfl ?_)
            intro _u; clear _u
            refine cM false [0] (num_c h.n57 r m) ?_
            repeat ((intro _u; clear _u); first | refine eK ?_ | refine eP ?_)
            repeat ((intro _u; clear _u); first | with_reducible first | refine cT ?_ | refine cF ?_ | refine cA ?_ | refine cB ?_ | refine aLn ?_ | refine cK ?_ | refine aS8 ?_ | refine wI ?_ | refine nD ?_ | refine aX rfl ?_)
            intro _u; clear _u
            refine cM false [1] (rnum_c h.n61 B r ok m) ?_
            repeat ((intro _u; clear _u); first | refine eK ?_ | refine eP ?_)
            have n1 := num_c h.n57 noRd m
            rw [noRd_num] at n1
            repeat ((intro _u; clear _u); first | with_reducible first | refine cT ?_ | refine cF ?_ | refine cA ?_ | refine cB ?_ | refine aLn ?_ | refine cK ?_ | refine aS8 ?_ | refine wI ?_ | refine nD ?_ | refine aX rfl ?_)
            intro _u; clear _u
            refine acnd_f (by simp) ?_
            repeat ((intro _u; clear _u); first | with_reducible first | refine cT ?_ | refine cF ?_ | refine cA ?_ | refine cB ?_ | refine aLn ?_ | refine cK ?_ | refine aS8 ?_ | refine wI ?_ | refine nD ?_ | refine aX rfl ?_)
            intro _u; clear _u
            refine cM false [2] (n1) ?_
            repeat ((intro _u; clear _u); first | refine eK ?_ | refine eP ?_)
            repeat ((intro _u; clear _u); first | with_reducible first | refine cT ?_ | refine cF ?_ | refine cA ?_ | refine cB ?_ | refine aLn ?_ | refine cK ?_ | refine aS8 ?_ | refine wI ?_ | refine nD ?_ | refine aX rfl ?_)
            intro _u; clear _u
            refine acnd_f (by decide) ?_
            have ok2 := ok.num m
            generalize (r.num m).2 = r2 at ok2 ⊢
            repeat ((intro _u; clear _u); first | with_reducible first | refine cT ?_ | refine cF ?_ | refine cA ?_ | refine cB ?_ | refine aLn ?_ | refine cK ?_ | refine aS8 ?_ | refine wI ?_ | refine nD ?_ | refine aX rfl ?_)
            intro _u; clear _u
            refine cM false [0] (left_c h.n68 r2) ?_
            repeat ((intro _u; clear _u); first | refine eK ?_ | refine eP ?_)
            repeat ((intro _u; clear _u); first | with_reducible first | refine cT ?_ | refine cF ?_ | refine cA ?_ | refine cB ?_ | refine aLn ?_ | refine cK ?_ | refine aS8 ?_ | refine wI ?_ | refine nD ?_ | refine aX rfl ?_)
            intro _u; clear _u
            refine cM false [1] (rleft_c h.n78 B r2 ok2) ?_
            repeat ((intro _u; clear _u); first | refine eK ?_ | refine eP ?_)
            repeat ((intro _u; clear _u); first | with_reducible first | refine cT ?_ | refine cF ?_ | refine cA ?_ | refine cB ?_ | refine aLn ?_ | refine cK ?_ | refine aS8 ?_ | refine wI ?_ | refine nD ?_ | refine aX rfl ?_)
            intro _u; clear _u
            refine acnd_f (by simp) ?_
            repeat ((intro _u; clear _u); first | with_reducible first | refine cT ?_ | refine cF ?_ | refine cA ?_ | refine cB ?_ | refine aLn ?_ | refine cK ?_ | refine aS8 ?_ | refine wI ?_ | refine nD ?_ | refine aX rfl ?_)
            intro _u; clear _u
            refine cM false [0] (err_c h.n65 r2) ?_
            repeat ((intro _u; clear _u); first | refine eK ?_ | refine eP ?_)
            repeat ((intro _u; clear _u); first | with_reducible first | refine cT ?_ | refine cF ?_ | refine cA ?_ | refine cB ?_ | refine aLn ?_ | refine cK ?_ | refine aS8 ?_ | refine wI ?_ | refine nD ?_ | refine aX rfl ?_)
            intro _u; clear _u
            refine acnd_f (by (simp [Rd.err, ok2.made])) ?_
            repeat ((intro _u; clear _u); first | with_reducible first | refine cT ?_ | refine cF ?_ | refine cA ?_ | refine cB ?_ | refine aLn ?_ | refine cK ?_ | refine aS8 ?_ | refine wI ?_ | refine nD ?_ | refine aX rfl ?_)
            intro _u; clear _u
            refine cM false [0] (end_c h.n60 r2) ?_
            repeat ((intro _u; clear _u); first | refine eK ?_ | refine eP ?_)
            repeat ((intro _u; clear _u); first | with_reducible first | refine cT ?_ | refine cF ?_ | refine cA ?_ | refine cB ?_ | refine aLn ?_ | refine cK ?_ | refine aS8 ?_ | refine wI ?_ | refine nD ?_ | refine aX rfl ?_)
            intro _u; clear _u
            refine cM false [1] (rend_c h.n69 B r2 ok2) ?_
            repeat ((intro _u; clear _u); first | refine eK ?_ | refine eP ?_)
            repeat ((intro _u; clear _u); first | with_reducible first | refine cT ?_ | refine cF ?_ | refine cA ?_ | refine cB ?_ | refine aLn ?_ | refine cK ?_ | refine aS8 ?_ | refine wI ?_ | refine nD ?_ | refine aX rfl ?_)
            intro _u; clear _u
            refine acnd_f (by simp) ?_
            repeat ((intro _u; clear _u); first | with_reducible first | refine cT ?_ | refine cF ?_ | refine cA ?_ | refine cB ?_ | refine aLn ?_ | refine cK ?_ | refine aS8 ?_ | refine wI ?_ | refine nD ?_ | refine aX rfl ?_)
            intro _u; clear _u
            refine nXa ((i + 1, r2)) ?_ ?_
            · exact ⟨by simp; omega, ok2⟩
            · simp; omega
          · repeat ((intro _u; clear _u); first | with_reducible first | refine cT ?_ | refine cF ?_ | refine cA ?_ | refine cB ?_ | refine aLn ?_ | refine cK ?_ | refine aS8 ?_ | refine wI ?_ | refine nD ?_ | refine aX rfl ?_)
            intro _u; clear _u
            refine cS (fun h4 => ?_) (fun h4 => ?_)
            · repeat ((intro _u; clear _u); first | with_reducible first | refine cT ?_ | refine cF ?_ | refine cA ?_ | refine cB ?_ | refine aLn ?_ | refine cK ?_ | refine aS8 ?_ | refine wI ?_ | refine nD ?_ | refine aX rfl ?_)
              intro _u; clear _u
              refine cM false [0] (int_c h.n76 r m) ?_
              repeat ((intro _u; clear _u); first | refine eK ?_ | refine eP ?_)
              repeat ((intro _u; clear _u); first | with_reducible first | refine cT ?_ | refine cF ?_ | refine cA ?_ | refine cB ?_ | refine aLn ?_ | refine cK ?_ | refine aS8 ?_ | refine wI ?_ | refine nD ?_ | refine aX rfl ?_)
              intro _u; clear _u
              refine cM false [1] (rint_c h.n77 B r ok m) ?_
              repeat ((intro _u; clear _u); first | refine eK ?_ | refine eP ?_)
              have n1 := int_c h.n76 noRd m
              rw [noRd_int] at n1
              repeat ((intro _u; clear _u); first | with_reducible first | refine cT ?_ | refine cF ?_ | refine cA ?_ | refine cB ?_ | refine aLn ?_ | refine cK ?_ | refine aS8 ?_ | refine wI ?_ | refine nD ?_ | refine aX rfl ?_)
              intro _u; clear _u
              refine acnd_f (by simp) ?_
              repeat ((intro _u; clear _u); first | with_reducible first | refine cT ?_ | refine cF ?_ | refine cA ?_ | refine cB ?_ | refine aLn ?_ | refine cK ?_ | refine aS8 ?_ | refine wI ?_ | refine nD ?_ | refine aX rfl ?_)
              intro _u; clear _u
              refine cM false [2] (n1) ?_
              repeat ((intro _u; clear _u); first | refine eK ?_ | refine eP ?_)
              repeat ((intro _u; clear _u); first | with_reducible first | refine cT ?_ | refine cF ?_ | refine cA ?_ | refine cB ?_ | refine aLn ?_ | refine cK ?_ | refine aS8 ?_ | refine wI ?_ | refine nD ?_ | refine aX rfl ?_)
              intro _u; clear _u
              refine acnd_f (by decide) ?_
              have ok2 := ok.int m
              generalize (r.int m).2 = r2 at ok2 ⊢
              repeat ((intro _u; clear _u); first | with_reducible first | refine cT ?_ | refine cF ?_ | refine cA ?_ | refine cB ?_ | refine aLn ?_ | refine cK ?_ | refine aS8 ?_ | refine wI ?_ | refine nD ?_ | refine aX rfl ?_)
              intro _u; clear _u
              refine cM false [0] (left_c h.n68 r2) ?_
              repeat ((intro _u; clear _u); first | refine eK ?_ | refine eP ?_)
              repeat ((intro _u; clear _u); first | with_reducible first | refine cT ?_ | refine cF ?_ | refine cA ?_ | refine cB ?_ | refine aLn ?_ | refine cK ?_ | refine aS8 ?_ | refine wI ?_ | refine nD ?_ | refine aX rfl ?_)
              intro _u; clear _u
              refine cM false [1] (rleft_c h.n78 B r2 ok2) ?_
              repeat ((intro _u; clear _u); first | refine eK ?_ | refine eP ?_)
              repeat ((intro _u; clear _u); first | with_reducible first | refine cT ?_ | refine cF ?_ | refine cA ?_ | refine cB ?_ | refine aLn ?_ | refine cK ?_ | refine aS8 ?_ | refine wI ?_ | refine nD ?_ | refine aX rfl ?_)
              intro _u; clear _u
              refine acnd_f (by simp) ?_
              repeat ((intro _u; clear _u); first | with_reducible first | refine cT ?_ | refine cF ?_ | refine cA ?_ | refine cB ?_ | refine aLn ?_ | refine cK ?_ | refine aS8 ?_ | refine wI ?_ | refine nD ?_ | refine aX rfl ?_)
              intro _u; clear _u
              refine cM false [0] (err_c h.n65 r2) ?_
              repeat ((intro _u; clear _u); first | refine eK ?_ | refine eP ?_)
              repeat ((intro _u; clear _u); first | with_reducible first | refine cT ?_ | refine cF ?_ | refine cA ?_ | refine cB ?_ | refine aLn ?_ | refine cK ?_ | refine aS8 ?_ | refine wI ?_ | refine nD ?_ | refine aX rfl ?_)
              intro _u; clear _u
              refine acnd_f (by (simp [Rd.err, ok2.made])) ?_
              repeat ((intro _u; clear _u); first | with_reducible first | refine cT ?_ | refine cF ?_ | refine cA ?_ | refine cB ?_ | refine aLn ?_ | refine cK ?_ | refine aS8 ?_ | refine wI ?_ | refine nD ?_ | refine aX rfl ?_)
              intro _u; clear _u
              refine cM false [0] (end_c h.n60 r2) ?_
              repeat ((intro _u; clear _u); first | refine eK ?_ | refine eP ?_)
              repeat ((intro _u; clear _u); first | with_reducible first | refine cT ?_ | refine cF ?_ | refine cA ?_ | refine cB ?_ | refine aLn ?_ | refine cK ?_ | refine aS8 ?_ | refine wI ?_ | refine nD ?_ | refine aX rfl ?_)
              intro _u; clear _u
              refine cM false [1] (rend_c h.n69 B r2 ok2) ?_
              repeat ((intro _u; clear _u); first | refine eK ?_ | refine eP ?_)
              repeat ((intro _u; clear _u); first | with_reducible first | refine cT ?_ | refine cF ?_ | refine cA ?_ | refine cB ?_ | refine aLn ?_ | refine cK ?_ | refine aS8 ?_ | refine wI ?_ | refine nD ?_ | refine aX rfl ?_)
              intro _u; clear _u
              refine acnd_f (by simp) ?_
              repeat ((intro _u; clear _u); first | with_reducible first | refine cT ?_ | refine cF ?_ | refine cA ?_ | refine cB ?_ | refine aLn ?_ | refine cK ?_ | refine aS8 ?_ | refine wI ?_ | refine nD ?_ | refine aX rfl ?_)
              intro _u; clear _u
              refine nXa ((i + 1, r2)) ?_ ?_
              · exact ⟨by simp; omega, ok2⟩
              · simp; omega
            · repeat ((intro _u; clear _u); first | with_reducible first | refine cT ?_ | refine cF ?_ | refine cA ?_ | refine cB ?_ | refine aLn ?_ | refine cK ?_ | refine aS8 ?_ | refine wI ?_ | refine nD ?_ | refine aX rfl ?_)
              intro _u; clear _u
              refine cM false [0] (take_c h.n59 r m) ?_
              repeat ((intro _u; clear _u); first | refine eK ?_ | refine eP ?_)
              repeat ((intro _u; clear _u); first | with_reducible first | refine cT ?_ | refine cF ?_ | refine cA ?_ | refine cB ?_ | refine aLn ?_ | refine cK ?_ | refine aS8 ?_ | refine wI ?_ | refine nD ?_ | refine aX rfl ?_)
              intro _u; clear _u
              refine cM false [1] (rtake_c h.n66 B r ok.m ok.s ok.made m) ?_
              repeat ((intro _u; clear _u); first | refine eK ?_ | refine eP ?_)
              repeat ((intro _u; clear _u); first | with_reducible first | refine cT ?_ | refine cF ?_ | refine cA ?_ | refine cB ?_ | refine aLn ?_ | refine cK ?_ | refine aS8 ?_ | refine wI ?_ | refine nD ?_ | refine aX rfl ?_)
              intro _u; clear _u
              refine ICall.pure h.n47.o47.hb (eq8_c h.n47 (r.take m).1 (r.take m).1) rfl ?_
              have n1 := take_c h.n59 noRd m
              rw [noRd_take] at n1
              repeat ((intro _u; clear _u); first | with_reducible first | refine cT ?_ | refine cF ?_ | refine cA ?_ | refine cB ?_ | refine aLn ?_ | refine cK ?_ | refine aS8 ?_ | refine wI ?_ | refine nD ?_ | refine aX rfl ?_)
              intro _u; clear _u
              refine acnd_f (by simp) ?_
              repeat ((intro _u; clear _u); first | with_reducible first | refine cT ?_ | refine cF ?_ | refine cA ?_ | refine cB ?_ | refine aLn ?_ | refine cK ?_ | refine aS8 ?_ | refine wI ?_ | refine nD ?_ | refine aX rfl ?_)
              intro _u; clear _u
              refine cM false [2] (n1) ?_
              repeat ((intro _u; clear _u); first | refine eK ?_ | refine eP ?_)
              repeat ((intro _u; clear _u); first | with_reducible first | refine cT ?_ | refine cF ?_ | refine cA ?_ | refine cB ?_ | refine aLn ?_ | refine cK ?_ | refine aS8 ?_ | refine wI ?_ | refine nD ?_ | refine aX rfl ?_)
              intro _u; clear _u
              refine acnd_f (by decide) ?_
              have ok2 := ok.take m
              generalize (r.take m).2 = r2 at ok2 ⊢
              repeat ((intro _u; clear _u); first | with_reducible first | refine cT ?_ | refine cF ?_ | refine cA ?_ | refine cB ?_ | refine aLn ?_ | refine cK ?_ | refine aS8 ?_ | refine wI ?_ | refine nD ?_ | refine aX rfl ?_)
              intro _u; clear _u
              refine cM false [0] (left_c h.n68 r2) ?_
              repeat ((intro _u; clear _u); first | refine eK ?_ | refine eP ?_)
              repeat ((intro _u; clear _u); first | with_reducible first | refine cT ?_ | refine cF ?_ | refine cA ?_ | refine cB ?_ | refine aLn ?_ | refine cK ?_ | refine aS8 ?_ | refine wI ?_ | refine nD ?_ | refine aX rfl ?_)
              intro _u; clear _u
              refine cM false [1] (rleft_c h.n78 B r2 ok2) ?_
              repeat ((intro _u; clear _u); first | refine eK ?_ | refine eP ?_)
              repeat ((intro _u; clear _u); first | with_reducible first | refine cT ?_ | refine cF ?_ | refine cA ?_ | refine cB ?_ | refine aLn ?_ | refine cK ?_ | refine aS8 ?_ | refine wI ?_ | refine nD ?_ | refine aX rfl ?_)
              intro _u; clear _u
              refine acnd_f (by simp) ?_
              repeat ((intro _u; clear _u); first | with_reducible first | refine cT ?_ | refine cF ?_ | refine cA ?_ | refine cB ?_ | refine aLn ?_ | refine cK ?_ | refine aS8 ?_ | refine wI ?_ | refine nD ?_ | refine aX rfl ?_)
              intro _u; clear _u
              refine cM false [0] (err_c h.n65 r2) ?_
              repeat ((intro _u; clear _u); first | refine eK ?_ | refine eP ?_)
              repeat ((intro _u; clear _u); first | with_reducible first | refine cT ?_ | refine cF ?_ | refine cA ?_ | refine cB ?_ | refine aLn ?_ | refine cK ?_ | refine aS8 ?_ | refine wI ?_ | refine nD ?_ | refine aX rfl ?_)
              intro _u; clear _u
              refine acnd_f (by (simp [Rd.err, ok2.made])) ?_
              repeat ((intro _u; clear _u); first | with_reducible first | refine cT ?_ | refine cF ?_ | refine cA ?_ | refine cB ?_ | refine aLn ?_ | refine cK ?_ | refine aS8 ?_ | refine wI ?_ | refine nD ?_ | refine aX rfl ?_)
              intro _u; clear _u
              refine cM false [0] (end_c h.n60 r2) ?_
              repeat ((intro _u; clear _u); first | refine eK ?_ | refine eP ?_)
              repeat ((intro _u; clear _u); first | with_reducible first | refine cT ?_ | refine cF ?_ | refine cA ?_ | refine cB ?_ | refine aLn ?_ | refine cK ?_ | refine aS8 ?_ | refine wI ?_ | refine nD ?_ | refine aX rfl ?_)
              intro _u; clear _u
              refine cM false [1] (rend_c h.n69 B r2 ok2) ?_
              repeat ((intro _u; clear _u); first | refine eK ?_ | refine eP ?_)
              repeat ((intro _u; clear _u); first | with_reducible first | refine cT ?_ | refine cF ?_ | refine cA ?_ | refine cB ?_ | refine aLn ?_ | refine cK ?_ | refine aS8 ?_ | refine wI ?_ | refine nD ?_ | refine aX rfl ?_)
              intro _u; clear _u
              refine acnd_f (by simp) ?_
              repeat ((intro _u; clear _u); first | with_reducible first | refine cT ?_ | refine cF ?_ | refine cA ?_ | refine cB ?_ | refine aLn ?_ | refine cK ?_ | refine aS8 ?_ | refine wI ?_ | refine nD ?_ | refine aX rfl ?_)
              intro _u; clear _u
              refine nXa ((i + 1, r2)) ?_ ?_
              · exact ⟨by simp; omega, ok2⟩
              · simp; omega
        · repeat ((intro _u; clear _u); first | with_reducible first | refine cT ?_ | refine cF ?_ | refine cA ?_ | refine cB ?_ | refine aLn ?_ | refine cK ?_ | refine aS8 ?_ | refine wI ?_ | refine nD ?_ | refine aX rfl ?_)
          intro _u; clear _u
          refine cM false [2] (err_c h.n65 noRd) ?_
          repeat ((intro _u; clear _u); first | refine eK ?_ | refine eP ?_)
          repeat ((intro _u; clear _u); first | with_reducible first | refine cT ?_ | refine cF ?_ | refine cA ?_ | refine cB ?_ | refine aLn ?_ | refine cK ?_ | refine aS8 ?_ | refine wI ?_ | refine nD ?_ | refine aX rfl ?_)
          intro _u; clear _u
          refine acnd_t (by decide) ?_
          repeat ((intro _u; clear _u); first | with_reducible first | refine cT ?_ | refine cF ?_ | refine cA ?_ | refine cB ?_ | refine aLn ?_ | refine cK ?_ | refine aS8 ?_ | refine wI ?_ | refine nD ?_ | refine aX rfl ?_)
          intro _u; clear _u
          refine cM false [2] (end_c h.n60 noRd) ?_
          repeat ((intro _u; clear _u); first | refine eK ?_ | refine eP ?_)
          repeat ((intro _u; clear _u); first | with_reducible first | refine cT ?_ | refine cF ?_ | refine cA ?_ | refine cB ?_ | refine aLn ?_ | refine cK ?_ | refine aS8 ?_ | refine wI ?_ | refine nD ?_ | refine aX rfl ?_)
          intro _u; clear _u
          refine acnd_t (by decide) ?_
          repeat ((intro _u; clear _u); first | with_reducible first | refine cT ?_ | refine cF ?_ | refine cA ?_ | refine cB ?_ | refine aLn ?_ | refine cK ?_ | refine aS8 ?_ | refine wI ?_ | refine nD ?_ | refine aX rfl ?_)
          intro _u; clear _u
          refine cM false [2] (left_c h.n68 noRd) ?_
          repeat ((intro _u; clear _u); first | refine eK ?_ | refine eP ?_)
          repeat ((intro _u; clear _u); first | with_reducible first | refine cT ?_ | refine cF ?_ | refine cA ?_ | refine cB ?_ | refine aLn ?_ | refine cK ?_ | refine aS8 ?_ | refine wI ?_ | refine nD ?_ | refine aX rfl ?_)
          intro _u; clear _u
          refine acnd_t (by decide) ?_
          repeat ((intro _u; clear _u); first | with_reducible first | refine cT ?_ | refine cF ?_ | refine cA ?_ | refine cB ?_ | refine aLn ?_ | refine cK ?_ | refine aS8 ?_ | refine wI ?_ | refine nD ?_ | refine aX rfl ?_)
          intro _u; clear _u
          refine ICall.pure h.n65.o65.hb (err_n h.n65) rfl ?_
          repeat ((intro _u; clear _u); first | with_reducible first | refine cT ?_ | refine cF ?_ | refine cA ?_ | refine cB ?_ | refine aLn ?_ | refine cK ?_ | refine aS8 ?_ | refine wI ?_ | refine nD ?_ | refine aX rfl ?_)
          intro _u; clear _u
          refine acnd_t (by decide) ?_
          repeat ((intro _u; clear _u); first | with_reducible first | refine cT ?_ | refine cF ?_ | refine cA ?_ | refine cB ?_ | refine aLn ?_ | refine cK ?_ | refine aS8 ?_ | refine wI ?_ | refine nD ?_ | refine aX rfl ?_)
          intro _u; clear _u
          refine ICall.pure h.n57.o57.hb (num_n h.n57) rfl ?_
          repeat ((intro _u; clear _u); first | with_reducible first | refine cT ?_ | refine cF ?_ | refine cA ?_ | refine cB ?_ | refine aLn ?_ | refine cK ?_ | refine aS8 ?_ | refine wI ?_ | refine nD ?_ | refine aX rfl ?_)
          intro _u; clear _u
          refine acnd_t (by decide) ?_
          repeat ((intro _u; clear _u); first | with_reducible first | refine cT ?_ | refine cF ?_ | refine cA ?_ | refine cB ?_ | refine aLn ?_ | refine cK ?_ | refine aS8 ?_ | refine wI ?_ | refine nD ?_ | refine aX rfl ?_)
          intro _u; clear _u
          refine ICall.pure h.n73.o73.hb (works11_c h.n73) rfl ?_
          repeat ((intro _u; clear _u); first | with_reducible first | refine cT ?_ | refine cF ?_ | refine cA ?_ | refine cB ?_ | refine aLn ?_ | refine cK ?_ | refine aS8 ?_ | refine wI ?_ | refine nD ?_ | refine aX rfl ?_)
          intro _u; clear _u
          exact rT
      · repeat ((intro _u; clear _u); first | with_reducible first | refine cT ?_ | refine cF ?_ | refine cA ?_ | refine cB ?_ | refine aLn ?_ | refine cK ?_ | refine aS8 ?_ | refine wI ?_ | refine nD ?_ | refine aX rfl ?_)
        intro _u; clear _u
        refine cM false [2] (err_c h.n65 noRd) ?_
        repeat ((intro _u; clear _u); first | refine eK ?_ | refine eP ?_)
        repeat ((intro _u; clear _u); first | with_reducible first | refine cT ?_ | refine cF ?_ | refine cA ?_ | refine cB ?_ | refine aLn ?_ | refine cK ?_ | refine aS8 ?_ | refine wI ?_ | refine nD ?_ | refine aX rfl ?_)
        intro _u; clear _u
        refine acnd_t (by decide) ?_
        repeat ((intro _u; clear _u); first | with_reducible first | refine cT ?_ | refine cF ?_ | refine cA ?_ | refine cB ?_ | refine aLn ?_ | refine cK ?_ | refine aS8 ?_ | refine wI ?_ | refine nD ?_ | refine aX rfl ?_)
        intro _u; clear _u
        refine cM false [2] (end_c h.n60 noRd) ?_
        repeat ((intro _u; clear _u); first | refine eK ?_ | refine eP ?_)
        repeat ((intro _u; clear _u); first | with_reducible first | refine cT ?_ | refine cF ?_ | refine cA ?_ | refine cB ?_ | refine aLn ?_ | refine cK ?_ | refine aS8 ?_ | refine wI ?_ | refine nD ?_ | refine aX rfl ?_)
        intro _u; clear _u
        refine acnd_t (by decide) ?_
        repeat ((intro _u; clear _u); first | with_reducible first | refine cT ?_ | refine cF ?_ | refine cA ?_ | refine cB ?_ | refine aLn ?_ | refine cK ?_ | refine aS8 ?_ | refine wI ?_ | refine nD ?_ | refine aX rfl ?_)
        intro _u; clear _u
        refine cM false [2] (left_c h.n68 noRd) ?_
        repeat ((intro _u; clear _u); first | refine eK ?_ | refine eP ?_)
        repeat ((intro _u; clear _u); first | with_reducible first | refine cT ?_ | refine cF ?_ | refine cA ?_ | refine cB ?_ | refine aLn ?_ | refine cK ?_ | refine aS8 ?_ | refine wI ?_ | refine nD ?_ | refine aX rfl ?_)
        intro _u; clear _u
        refine acnd_t (by decide) ?_
        repeat ((intro _u; clear _u); first | with_reducible first | refine cT ?_ | refine cF ?_ | refine cA ?_ | refine cB ?_ | refine aLn ?_ | refine cK ?_ | refine aS8 ?_ | refine wI ?_ | refine nD ?_ | refine aX rfl ?_)
        intro _u; clear _u
        refine ICall.pure h.n65.o65.hb (err_n h.n65) rfl ?_
        repeat ((intro _u; clear _u); first | with_reducible first | refine cT ?_ | refine cF ?_ | refine cA ?_ | refine cB ?_ | refine aLn ?_ | refine cK ?_ | refine aS8 ?_ | refine wI ?_ | refine nD ?_ | refine aX rfl ?_)
        intro _u; clear _u
        refine acnd_t (by decide) ?_
        repeat ((intro _u; clear _u); first | with_reducible first | refine cT ?_ | refine cF ?_ | refine cA ?_ | refine cB ?_ | refine aLn ?_ | refine cK ?_ | refine aS8 ?_ | refine wI ?_ | refine nD ?_ | refine aX rfl ?_)
        intro _u; clear _u
        refine ICall.pure h.n57.o57.hb (num_n h.n57) rfl ?_
        repeat ((intro _u; clear _u); first | with_reducible first | refine cT ?_ | refine cF ?_ | refine cA ?_ | refine cB ?_ | refine aLn ?_ | refine cK ?_ | refine aS8 ?_ | refine wI ?_ | refine nD ?_ | refine aX rfl ?_)
        intro _u; clear _u
        refine acnd_t (by decide) ?_
        repeat ((intro _u; clear _u); first | with_reducible first | refine cT ?_ | refine cF ?_ | refine cA ?_ | refine cB ?_ | refine aLn ?_ | refine cK ?_ | refine aS8 ?_ | refine wI ?_ | refine nD ?_ | refine aX rfl ?_)
        intro _u; clear _u
        refine ICall.pure h.n73.o73.hb (works11_c h.n73) rfl ?_
        repeat ((intro _u; clear _u); first | with_reducible first | refine cT ?_ | refine cF ?_ | refine cA ?_ | refine cB ?_ | refine aLn ?_ | refine cK ?_ | refine aS8 ?_ | refine wI ?_ | refine nD ?_ | refine aX rfl ?_)
        intro _u; clear _u
        exact rT
end Go.UM

/- The statements of chapter 11, part 3: there and back. -/

namespace Go.UM
open Go.AM
set_option maxRecDepth 4000

theorem u8_val (v : Int) : ((u8 v).toNat : Int) = v % 256 := by
  rw [← wr_u8]
  simp only [wr, IntKind.wrap, IntKind.bits, IntKind.signed]
  simp

theorem emod_step {x P : Int} (hP : 0 < P) : x % P + P * (x / P % 256) = x % (P * 256) := by
  have h1 : P * (x / P) + x % P = x := Int.mul_ediv_add_emod x P
  have h2 : 256 * (x / P / 256) + x / P % 256 = x / P := Int.mul_ediv_add_emod (x / P) 256
  have h3 := Int.emod_nonneg x (Int.ne_of_gt hP)
  have h4 := Int.emod_lt_of_pos x hP
  have h5 : 0 ≤ x / P % 256 := Int.emod_nonneg _ (by decide)
  have h6 : x / P % 256 < 256 := Int.emod_lt_of_pos _ (by decide)
  have e : x = (x % P + P * (x / P % 256)) + (P * 256) * (x / P / 256) := by
    have : P * (256 * (x / P / 256) + x / P % 256) + x % P = x := by rw [h2]; exact h1
    rw [Int.mul_add, ← Int.mul_assoc] at this
    omega
  have hb : 0 ≤ P * (x / P % 256) := Int.mul_nonneg (Int.le_of_lt hP) h5
  have hc : P * (x / P % 256) ≤ P * 255 := Int.mul_le_mul_of_nonneg_left (by omega) (Int.le_of_lt hP)
  rw [show x % (P * 256) = ((x % P + P * (x / P % 256)) + (P * 256) * (x / P / 256)) % (P * 256) from congrArg (· % (P * 256)) e, Int.add_mul_emod_self_left]
  exact (Int.emod_eq_of_lt (a := x % P + P * (x / P % 256)) (by omega) (by omega)).symm

theorem le_enc (x : Int) : ∀ w : Nat, ((le (enc w x) : Nat) : Int) = x % 256 ^ w
  | 0 => by simp [le, Int.emod_one]
  | w + 1 => by
    have hp : (0 : Int) < 256 ^ w := by have := pow_ge1 w; omega
    rw [enc_succ, le_snoc, enc_length, Int.natCast_add, Int.natCast_mul, le_enc x w, u8_val, Int.natCast_pow, Int.pow_succ]
    exact emod_step hp

theorem num_enc {w x : Int} {rest : List UInt8} (h1 : 1 ≤ w) (h2 : w ≤ 8) (hx : 0 ≤ x ∧ x < 256 ^ w.toNat) : (⟨enc w.toNat x ++ rest, 0, true⟩ : Rd).num w = (x.toNat, ⟨rest, 0, true⟩) := by
  unfold Rd.num
  rw [if_neg (by omega)]
  unfold Rd.take
  rw [if_neg (by simp), if_neg (by omega), if_neg (by simp; omega)]
  have e1 : (enc w.toNat x ++ rest).take w.toNat = enc w.toNat x := List.take_left' (by simp)
  have e2 : (enc w.toNat x ++ rest).drop w.toNat = rest := List.drop_left' (by simp)
  simp only [e1, e2]
  have h3 := le_enc x w.toNat
  rw [Int.emod_eq_of_lt hx.1 hx.2] at h3
  congr 1
  omega

theorem sx_mod {w x : Int} (h1 : 1 ≤ w) (h2 : w ≤ 8) (hx : ¬ (x < -(256 ^ w.toNat / 2) ∨ 256 ^ w.toNat / 2 ≤ x)) : sx w (x % 256 ^ w.toNat).toNat = x := by
  have hh := half_le h1 h2
  have e : ((256 : Int) ^ w.toNat) = ((256 ^ w.toNat : Nat) : Int) := by rw [Int.natCast_pow]; rfl
  unfold sx
  rw [e] at hh hx ⊢
  generalize 256 ^ w.toNat = P at hh hx ⊢
  by_cases h : 0 ≤ x
  · rw [Int.emod_eq_of_lt h (by omega), if_pos (by omega)]
    omega
  · have : x % (P : Int) = x + P := by
      rw [← Int.add_emod_right, Int.emod_eq_of_lt (by omega) (by omega)]
    rw [this, if_neg (by omega)]
    omega
theorem take_short {r : Rd} {w : Int} (hm : r.made = true) (he : r.e = 0) (h1 : 1 ≤ w) (h2 : w ≤ 8) : (r.num w).2.made = true ∧ ((w ≤ r.l.length ∧ (r.num w).2.e = 0 ∧ ((r.num w).2.l.length : Int) = r.l.length - w) ∨ (r.l.length < w ∧ (r.num w).2.e = 4)) := by
  unfold Rd.num
  rw [if_neg (by omega)]
  unfold Rd.take
  rw [if_neg (by simp [hm, he]), if_neg (by omega)]
  by_cases h : (r.l.length : Int) < w
  · rw [if_pos h]
    exact ⟨hm, .inr ⟨h, rfl⟩⟩
  · rw [if_neg h]
    refine ⟨hm, .inl ⟨by omega, he, ?_⟩⟩
    simp; omega

theorem drop_get {α : Type} {l : List α} {k : Nat} {x : α} (h : l[k]? = some x) : l.drop k = x :: l.drop (k + 1) := by
  obtain ⟨hk, rfl⟩ := List.getElem?_eq_some_iff.1 h
  exact List.drop_eq_getElem_cons hk

theorem mod_range {w : Int} (m : List Int) : ∀ x ∈ m.map (fun x => x % 256 ^ w.toNat), 0 ≤ x ∧ x < 256 ^ w.toNat := by
  intro x hx
  obtain ⟨y, _, rfl⟩ := List.mem_map.1 hx
  have hp := pow_ge1 w.toNat
  exact ⟨Int.emod_nonneg _ (by omega), Int.emod_lt_of_pos _ (by omega)⟩

theorem puts_in {b : List UInt8} {w : Int} {n : List Int} (h1 : 1 ≤ w) (h2 : w ≤ 8) (h : ∀ x ∈ n, 0 ≤ x ∧ x < 256 ^ w.toNat) : puts b w n = (b ++ n.flatMap (enc w.toNat), 0) :=
  puts_ok h1 h2 (by
    rw [List.any_eq_false]
    intro x hx
    have := h x hx
    simp; omega)

theorem back_law {R : Env} (h : N79 R) (n m : List Int) (w : Int) (hn : ∀ x ∈ n, inI .u64 x) (hm : ∀ x ∈ m, inI .i64 x) (hw : inI .i64 w) : R.Pc 79 [.isl 1 (slcK .u64 n), .isl 1 (slcK .i64 m), .int .i64 w] (.bool true) :=
  h.o79.enter 200 rfl fun X bb hfit hp => by
    simp only [inI] at hw
    have b1 := tmod_bound w (m := 8) (by decide)
    have b2 : 0 ≤ (w.tmod 8 + 8).tmod 8 ∧ (w.tmod 8 + 8).tmod 8 < 8 := ⟨Int.tmod_nonneg _ (by omega), Int.tmod_lt_of_pos _ (by decide)⟩
    repeat ((intro _u; clear _u); first | with_reducible first | refine cT ?_ | refine cF ?_ | refine cA ?_ | refine cB ?_ | refine aLn ?_ | refine cK ?_ | refine aS8 ?_ | refine wI ?_ | refine nD ?_ | refine aX rfl ?_)
    intro _u; clear _u
    refine asub_eq (by exact capK .u64 n 10) ?_
    repeat ((intro _u; clear _u); first | with_reducible first | refine cT ?_ | refine cF ?_ | refine cA ?_ | refine cB ?_ | refine aLn ?_ | refine cK ?_ | refine aS8 ?_ | refine wI ?_ | refine nD ?_ | refine aX rfl ?_)
    intro _u; clear _u
    refine asub_eq (by exact capK .i64 m 10) ?_
    generalize hv : (w.tmod 8 + 8).tmod 8 + 1 = v
    have hv1 : 1 ≤ v ∧ v ≤ 8 := by omega
    clear b1 b2 hv
    have hn' : (n.take (Int.toNat 10)).length ≤ 10 := by simp; omega
    have hm' : (m.take (Int.toNat 10)).length ≤ 10 := by simp; omega
    have hn : ∀ x ∈ n.take (Int.toNat 10), 0 ≤ x ∧ x ≤ 18446744073709551615 := fun x hx => hn x (List.mem_of_mem_take hx)
    have hm : ∀ x ∈ m.take (Int.toNat 10), inI .i64 x := fun x hx => hm x (List.mem_of_mem_take hx)
    generalize n.take (Int.toNat 10) = n at hn' hn ⊢
    generalize m.take (Int.toNat 10) = m at hm' hm ⊢
    repeat ((intro _u; clear _u); first | with_reducible first | refine cT ?_ | refine cF ?_ | refine cA ?_ | refine cB ?_ | refine aLn ?_ | refine cK ?_ | refine aS8 ?_ | refine wI ?_ | refine nD ?_ | refine aX rfl ?_)
    intro _u; clear _u
    refine cM false [] (put_c h.n54 [] v n (by simp; omega) hn) ?_
    repeat ((intro _u; clear _u); first | refine eK ?_ | refine eP ?_)
    by_cases hbad : n.any (fun x => decide (256 ^ v.toNat ≤ x)) = true
    · obtain ⟨x, hx, hxb⟩ := List.any_eq_true.1 hbad
      have hxb : 256 ^ v.toNat ≤ x := by simpa using hxb
      have hv8 : v < 8 := by
        have := hn x hx
        rcases (show v < 8 ∨ v = 8 by omega) with h | h
        · exact h
        · rw [h, show (256 : Int) ^ Int.toNat 8 = 18446744073709551616 by decide] at hxb
          omega
      rw [puts_bad hv1.1 hv1.2 hx hxb]
      repeat ((intro _u; clear _u); first | with_reducible first | refine cT ?_ | refine cF ?_ | refine cA ?_ | refine cB ?_ | refine aLn ?_ | refine cK ?_ | refine aS8 ?_ | refine wI ?_ | refine nD ?_ | refine aX rfl ?_)
      intro _u; clear _u
      refine acnd_t (by decide) ?_
      repeat ((intro _u; clear _u); first | with_reducible first | refine cT ?_ | refine cF ?_ | refine cA ?_ | refine cB ?_ | refine aLn ?_ | refine cK ?_ | refine aS8 ?_ | refine wI ?_ | refine nD ?_ | refine aX rfl ?_)
      intro _u; clear _u
      refine acnd_t (by decide) ?_
      repeat ((intro _u; clear _u); first | with_reducible first | refine cT ?_ | refine cF ?_ | refine cA ?_ | refine cB ?_ | refine aLn ?_ | refine cK ?_ | refine aS8 ?_ | refine wI ?_ | refine nD ?_ | refine aX rfl ?_)
      intro _u; clear _u
      refine acnd_t (by simpa using hv8) ?_
      repeat ((intro _u; clear _u); first | with_reducible first | refine cT ?_ | refine cF ?_ | refine cA ?_ | refine cB ?_ | refine aLn ?_ | refine cK ?_ | refine aS8 ?_ | refine wI ?_ | refine nD ?_ | refine aX rfl ?_)
      intro _u; clear _u
      refine acnd_t (by decide) ?_
      repeat ((intro _u; clear _u); first | with_reducible first | refine cT ?_ | refine cF ?_ | refine cA ?_ | refine cB ?_ | refine aLn ?_ | refine cK ?_ | refine aS8 ?_ | refine wI ?_ | refine nD ?_ | refine aX rfl ?_)
      intro _u; clear _u
      refine ICall.pure h.n73.o73.hb (works11_c h.n73) rfl ?_
      repeat ((intro _u; clear _u); first | with_reducible first | refine cT ?_ | refine cF ?_ | refine cA ?_ | refine cB ?_ | refine aLn ?_ | refine cK ?_ | refine aS8 ?_ | refine wI ?_ | refine nD ?_ | refine aX rfl ?_)
      intro _u; clear _u
      exact rT
    · have hbad' : n.any (fun x => decide (256 ^ v.toNat ≤ x)) = false := by simpa using hbad
      have hrange : ∀ x ∈ n, 0 ≤ x ∧ x < 256 ^ v.toNat := fun x hx => ⟨(hn x hx).1, by
        have := List.any_eq_false.1 hbad' x hx
        simpa using this⟩
      rw [puts_in hv1.1 hv1.2 hrange, List.nil_append]
      repeat ((intro _u; clear _u); first | with_reducible first | refine cT ?_ | refine cF ?_ | refine cA ?_ | refine cB ?_ | refine aLn ?_ | refine cK ?_ | refine aS8 ?_ | refine wI ?_ | refine nD ?_ | refine aX rfl ?_)
      intro _u; clear _u
      refine acnd_f (by rfl) ?_
      repeat ((intro _u; clear _u); first | with_reducible first | refine cT ?_ | refine cF ?_ | refine cA ?_ | refine cB ?_ | refine aLn ?_ | refine cK ?_ | refine aS8 ?_ | refine wI ?_ | refine nD ?_ | refine aX rfl ?_)
      intro _u; clear _u
      refine ICall.let [0] rfl hp rfl ?_
      repeat ((intro _u; clear _u); first | refine eZ ?_ | refine FrzC.drop ?_)
      have hnl : (n.flatMap (enc v.toNat)).length = v.toNat * n.length := flatMap_len _ _
      have hnl2 : v.toNat * n.length ≤ 8 * 10 := Nat.mul_le_mul (by omega) hn'
      repeat ((intro _u; clear _u); first | with_reducible first | refine cT ?_ | refine cF ?_ | refine cA ?_ | refine cB ?_ | refine aLn ?_ | refine cK ?_ | refine aS8 ?_ | refine wI ?_ | refine nD ?_ | refine aX rfl ?_)
      intro _u; clear _u
      refine ICall.pure h.n71.o71.hb (signed_p h.n71 (n.flatMap (enc v.toNat)) v m (by omega) hm) rfl ?_
      have hh := half_le hv1.1 hv1.2
      by_cases hbadm : m.any (fun x => decide (x < -(256 ^ v.toNat / 2)) || decide (256 ^ v.toNat / 2 ≤ x)) = true
      · obtain ⟨x, hx, hxb⟩ := List.any_eq_true.1 hbadm
        have hxb : x < -(256 ^ v.toNat / 2) ∨ 256 ^ v.toNat / 2 ≤ x := by simpa using hxb
        have hv8 : v < 8 := by
          have := hm x hx
          simp only [inI] at this
          rcases (show v < 8 ∨ v = 8 by omega) with h | h
          · exact h
          · rw [h, show (256 : Int) ^ Int.toNat 8 = 18446744073709551616 by decide] at hxb
            omega
        rw [signs_bad hv1.1 hv1.2 hx hxb]
        repeat ((intro _u; clear _u); first | with_reducible first | refine cT ?_ | refine cF ?_ | refine cA ?_ | refine cB ?_ | refine aLn ?_ | refine cK ?_ | refine aS8 ?_ | refine wI ?_ | refine nD ?_ | refine aX rfl ?_)
        intro _u; clear _u
        refine acnd_t (by decide) ?_
        repeat ((intro _u; clear _u); first | with_reducible first | refine cT ?_ | refine cF ?_ | refine cA ?_ | refine cB ?_ | refine aLn ?_ | refine cK ?_ | refine aS8 ?_ | refine wI ?_ | refine nD ?_ | refine aX rfl ?_)
        intro _u; clear _u
        refine acnd_t (by decide) ?_
        repeat ((intro _u; clear _u); first | with_reducible first | refine cT ?_ | refine cF ?_ | refine cA ?_ | refine cB ?_ | refine aLn ?_ | refine cK ?_ | refine aS8 ?_ | refine wI ?_ | refine nD ?_ | refine aX rfl ?_)
        intro _u; clear _u
        refine acnd_t (by simpa using hv8) ?_
        repeat ((intro _u; clear _u); first | with_reducible first | refine cT ?_ | refine cF ?_ | refine cA ?_ | refine cB ?_ | refine aLn ?_ | refine cK ?_ | refine aS8 ?_ | refine wI ?_ | refine nD ?_ | refine aX rfl ?_)
        intro _u; clear _u
        refine acnd_t (by decide) ?_
        repeat ((intro _u; clear _u); first | with_reducible first | refine cT ?_ | refine cF ?_ | refine cA ?_ | refine cB ?_ | refine aLn ?_ | refine cK ?_ | refine aS8 ?_ | refine wI ?_ | refine nD ?_ | refine aX rfl ?_)
        intro _u; clear _u
        refine ICall.pure h.n73.o73.hb (works11_c h.n73) rfl ?_
        repeat ((intro _u; clear _u); first | with_reducible first | refine cT ?_ | refine cF ?_ | refine cA ?_ | refine cB ?_ | refine aLn ?_ | refine cK ?_ | refine aS8 ?_ | refine wI ?_ | refine nD ?_ | refine aX rfl ?_)
        intro _u; clear _u
        exact rT
      · have hbadm' : m.any (fun x => decide (x < -(256 ^ v.toNat / 2)) || decide (256 ^ v.toNat / 2 ≤ x)) = false := by simpa using hbadm
        have hmr : ∀ x ∈ m, ¬ (x < -(256 ^ v.toNat / 2) ∨ 256 ^ v.toNat / 2 ≤ x) := fun x hx => by
          have := List.any_eq_false.1 hbadm' x hx
          simpa using this
        rw [signs_ok hv1.1 hv1.2 hbadm', puts_in hv1.1 hv1.2 (mod_range m)]
        generalize hC : n.flatMap (enc v.toNat) ++ (m.map fun x => x % 256 ^ v.toNat).flatMap (enc v.toNat) = C
        have hml : ((m.map fun x => x % 256 ^ v.toNat).flatMap (enc v.toNat)).length = v.toNat * m.length := by rw [flatMap_len]; simp
        have hml2 : v.toNat * m.length ≤ 8 * 10 := Nat.mul_le_mul (by omega) hm'
        have hCl : C.length = v.toNat * n.length + v.toNat * m.length := by rw [← hC, List.length_append, hnl, hml]
        have hCv : v * ((n.length : Int) + m.length) = C.length := by
          rw [hCl, Int.natCast_add, Int.natCast_mul, Int.natCast_mul, show ((v.toNat : Nat) : Int) = v by omega, Int.mul_add]
        repeat ((intro _u; clear _u); first | with_reducible first | refine cT ?_ | refine cF ?_ | refine cA ?_ | refine cB ?_ | refine aLn ?_ | refine cK ?_ | refine aS8 ?_ | refine wI ?_ | refine nD ?_ | refine aX rfl ?_)
        intro _u; clear _u
        refine acnd_f (by rfl) ?_
        repeat ((intro _u; clear _u); first | with_reducible first | refine cT ?_ | refine cF ?_ | refine cA ?_ | refine cB ?_ | refine aLn ?_ | refine cK ?_ | refine aS8 ?_ | refine wI ?_ | refine nD ?_ | refine aX rfl ?_)
        intro _u; clear _u
        refine cM false [] (new_c h.n56 C (by omega)) ?_
        repeat ((intro _u; clear _u); first | refine eK ?_ | refine eP ?_)
        repeat ((intro _u; clear _u); first | with_reducible first | refine cT ?_ | refine cF ?_ | refine cA ?_ | refine cB ?_ | refine aLn ?_ | refine cK ?_ | refine aS8 ?_ | refine wI ?_ | refine nD ?_ | refine aX rfl ?_)
        intro _u; clear _u
        refine ILoop.inv 100 (fun k : Nat => k ≤ n.length) (fun k => ⟨[(0, .isl 1 (slcK .u64 n)), (1, .isl 1 (slcK .i64 m)), (2, .int .i64 v), (9, .isl 1 (slc8 C)), (11, .loc 1 1 0 0), (81, .isl 1 (slcK .u64 n)), (82, .int .i64 n.length), (83, .int .i64 k)], [(1, .var (R.ty 9) (Rd.row ⟨(n.drop k).flatMap (enc v.toNat) ++ (m.map fun x => x % 256 ^ v.toNat).flatMap (enc v.toNat), 0, true⟩))], 2⟩) (fun k => n.length - k) (0) ?_ ⟨⟨_, hp, rfl⟩, ?_, ?_⟩ ?_
        · exact Nat.zero_le _
        · all_goals repeat' (first | exact True.intro | refine And.intro ?_ ?_ | (intro _u; clear _u) | with_reducible first | refine eM ?_ ?_ | refine eF ?_ ?_ ?_ | refine eN ?_ | refine eL ?_ ?_ ?_ | refine eA ?_ ?_ | refine IWk.mk ⟨_, hp, rfl⟩ ?_ ?_)
          all_goals first | with_reducible rfl | omega | exact Or.inl (by decide) | (simp; done) | rfl | skip
        · all_goals repeat' (first | exact True.intro | refine And.intro ?_ ?_ | (intro _u; clear _u) | with_reducible first | refine eM ?_ ?_ | refine eF ?_ ?_ ?_ | refine eN ?_ | refine eL ?_ ?_ ?_ | refine eA ?_ ?_ | refine IWk.mk ⟨_, hp, rfl⟩ ?_ ?_)
          all_goals first | with_reducible rfl | omega | exact Or.inl (by decide) | (simp; done) | rfl | skip
          rw [List.drop_zero, hC]
        · intro k hk
          dsimp only
          repeat ((intro _u; clear _u); first | with_reducible first | refine cT ?_ | refine cF ?_ | refine cA ?_ | refine cB ?_ | refine aLn ?_ | refine cK ?_ | refine aS8 ?_ | refine wI ?_ | refine nD ?_ | refine aX rfl ?_)
          intro _u; clear _u
          refine cS (fun h1 => ?_) (fun h1 => ?_)
          · obtain ⟨x, hx⟩ : ∃ u_, n[k]? = some u_ := ⟨_, List.getElem?_eq_getElem (by first | omega | (simp <;> omega))⟩
            repeat ((intro _u; clear _u); first | with_reducible first | refine cT ?_ | refine cF ?_ | refine cA ?_ | refine cB ?_ | refine aLn ?_ | refine cK ?_ | refine aS8 ?_ | refine wI ?_ | refine nD ?_ | refine aX rfl ?_)
            intro _u; clear _u
            refine eget_map hx ?_
            have hxr := hrange x (List.mem_of_getElem? hx)
            have c1 := num_c h.n57 ⟨(n.drop k).flatMap (enc v.toNat) ++ (m.map fun x => x % 256 ^ v.toNat).flatMap (enc v.toNat), 0, true⟩ v
            rw [drop_get hx, List.flatMap_cons, List.append_assoc, num_enc hv1.1 hv1.2 hxr] at c1
            rw [drop_get hx, List.flatMap_cons, List.append_assoc]
            repeat ((intro _u; clear _u); first | with_reducible first | refine cT ?_ | refine cF ?_ | refine cA ?_ | refine cB ?_ | refine aLn ?_ | refine cK ?_ | refine aS8 ?_ | refine wI ?_ | refine nD ?_ | refine aX rfl ?_)
            intro _u; clear _u
            refine cM false [1] (c1) ?_
            repeat ((intro _u; clear _u); first | refine eK ?_ | refine eP ?_)
            repeat ((intro _u; clear _u); first | with_reducible first | refine cT ?_ | refine cF ?_ | refine cA ?_ | refine cB ?_ | refine aLn ?_ | refine cK ?_ | refine aS8 ?_ | refine wI ?_ | refine nD ?_ | refine aX rfl ?_)
            intro _u; clear _u
            refine acnd_f (by (simp; omega)) ?_
            repeat ((intro _u; clear _u); first | with_reducible first | refine cT ?_ | refine cF ?_ | refine cA ?_ | refine cB ?_ | refine aLn ?_ | refine cK ?_ | refine aS8 ?_ | refine wI ?_ | refine nD ?_ | refine aX rfl ?_)
            intro _u; clear _u
            refine nXa (k + 1) ?_ ?_
            · omega
            · omega
          · have hkn : n.drop k = [] := List.drop_of_length_le (by omega)
            rw [hkn]
            repeat ((intro _u; clear _u); first | with_reducible first | refine cT ?_ | refine cF ?_ | refine cA ?_ | refine cB ?_ | refine aLn ?_ | refine cK ?_ | refine aS8 ?_ | refine wI ?_ | refine nD ?_ | refine aX rfl ?_)
            intro _u; clear _u
            refine lPa 100 (fun k : Nat => k ≤ m.length) (fun k => ⟨[(0, .isl 1 (slcK .u64 n)), (1, .isl 1 (slcK .i64 m)), (2, .int .i64 v), (9, .isl 1 (slc8 C)), (11, .loc 1 1 0 0), (93, .isl 1 (slcK .i64 m)), (94, .int .i64 m.length), (95, .int .i64 k)], [(1, .var (R.ty 9) (Rd.row ⟨((m.drop k).map fun x => x % 256 ^ v.toNat).flatMap (enc v.toNat), 0, true⟩))], 2⟩) (fun k => m.length - k) (0) ?_ ?_
            · exact Nat.zero_le _
            · intro k hk
              dsimp only
              repeat ((intro _u; clear _u); first | with_reducible first | refine cT ?_ | refine cF ?_ | refine cA ?_ | refine cB ?_ | refine aLn ?_ | refine cK ?_ | refine aS8 ?_ | refine wI ?_ | refine nD ?_ | refine aX rfl ?_)
              intro _u; clear _u
              refine cS (fun h2 => ?_) (fun h2 => ?_)
              · obtain ⟨x, hx⟩ : ∃ u_, m[k]? = some u_ := ⟨_, List.getElem?_eq_getElem (by first | omega | (simp <;> omega))⟩
                repeat ((intro _u; clear _u); first | with_reducible first | refine cT ?_ | refine cF ?_ | refine cA ?_ | refine cB ?_ | refine aLn ?_ | refine cK ?_ | refine aS8 ?_ | refine wI ?_ | refine nD ?_ | refine aX rfl ?_)
                intro _u; clear _u
                refine eget_map hx ?_
                have hxm := hmr x (List.mem_of_getElem? hx)
                have hpw := pow_ge1 v.toNat
                have hxr : 0 ≤ x % 256 ^ v.toNat ∧ x % 256 ^ v.toNat < 256 ^ v.toNat := ⟨Int.emod_nonneg _ (by omega), Int.emod_lt_of_pos _ (by omega)⟩
                have c1 := int_c h.n76 ⟨((m.drop k).map fun x => x % 256 ^ v.toNat).flatMap (enc v.toNat), 0, true⟩ v
                have ei : (⟨((m.drop k).map fun x => x % 256 ^ v.toNat).flatMap (enc v.toNat), 0, true⟩ : Rd).int v = (x, ⟨((m.drop (k + 1)).map fun x => x % 256 ^ v.toNat).flatMap (enc v.toNat), 0, true⟩) := by
                  unfold Rd.int
                  rw [if_neg (by omega), drop_get hx, List.map_cons, List.flatMap_cons, num_enc hv1.1 hv1.2 hxr, sx_mod hv1.1 hv1.2 hxm]
                rw [ei] at c1
                repeat ((intro _u; clear _u); first | with_reducible first | refine cT ?_ | refine cF ?_ | refine cA ?_ | refine cB ?_ | refine aLn ?_ | refine cK ?_ | refine aS8 ?_ | refine wI ?_ | refine nD ?_ | refine aX rfl ?_)
                intro _u; clear _u
                refine cM false [1] (c1) ?_
                repeat ((intro _u; clear _u); first | refine eK ?_ | refine eP ?_)
                repeat ((intro _u; clear _u); first | with_reducible first | refine cT ?_ | refine cF ?_ | refine cA ?_ | refine cB ?_ | refine aLn ?_ | refine cK ?_ | refine aS8 ?_ | refine wI ?_ | refine nD ?_ | refine aX rfl ?_)
                intro _u; clear _u
                refine acnd_f (by simp) ?_
                repeat ((intro _u; clear _u); first | with_reducible first | refine cT ?_ | refine cF ?_ | refine cA ?_ | refine cB ?_ | refine aLn ?_ | refine cK ?_ | refine aS8 ?_ | refine wI ?_ | refine nD ?_ | refine aX rfl ?_)
                intro _u; clear _u
                refine nXa (k + 1) ?_ ?_
                · omega
                · omega
              · have hkm : m.drop k = [] := List.drop_of_length_le (by omega)
                rw [hkm]
                repeat ((intro _u; clear _u); first | with_reducible first | refine cT ?_ | refine cF ?_ | refine cA ?_ | refine cB ?_ | refine aLn ?_ | refine cK ?_ | refine aS8 ?_ | refine wI ?_ | refine nD ?_ | refine aX rfl ?_)
                intro _u; clear _u
                refine cM false [1] (end_c h.n60 ⟨[], 0, true⟩) ?_
                repeat ((intro _u; clear _u); first | refine eK ?_ | refine eP ?_)
                repeat ((intro _u; clear _u); first | with_reducible first | refine cT ?_ | refine cF ?_ | refine cA ?_ | refine cB ?_ | refine aLn ?_ | refine cK ?_ | refine aS8 ?_ | refine wI ?_ | refine nD ?_ | refine aX rfl ?_)
                intro _u; clear _u
                refine acnd_f (by decide) ?_
                repeat ((intro _u; clear _u); first | with_reducible first | refine cT ?_ | refine cF ?_ | refine cA ?_ | refine cB ?_ | refine aLn ?_ | refine cK ?_ | refine aS8 ?_ | refine wI ?_ | refine nD ?_ | refine aX rfl ?_)
                intro _u; clear _u
                refine cM false [1] (left_c h.n68 ⟨[], 0, true⟩) ?_
                repeat ((intro _u; clear _u); first | refine eK ?_ | refine eP ?_)
                repeat ((intro _u; clear _u); first | with_reducible first | refine cT ?_ | refine cF ?_ | refine cA ?_ | refine cB ?_ | refine aLn ?_ | refine cK ?_ | refine aS8 ?_ | refine wI ?_ | refine nD ?_ | refine aX rfl ?_)
                intro _u; clear _u
                refine acnd_f (by decide) ?_
                repeat ((intro _u; clear _u); first | with_reducible first | refine cT ?_ | refine cF ?_ | refine cA ?_ | refine cB ?_ | refine aLn ?_ | refine cK ?_ | refine aS8 ?_ | refine wI ?_ | refine nD ?_ | refine aX rfl ?_)
                intro _u; clear _u
                refine acnd_f (by (simp; omega)) ?_
                repeat ((intro _u; clear _u); first | with_reducible first | refine cT ?_ | refine cF ?_ | refine cA ?_ | refine cB ?_ | refine aLn ?_ | refine cK ?_ | refine aS8 ?_ | refine wI ?_ | refine nD ?_ | refine aX rfl ?_)
                intro _u; clear _u
                refine cS (fun h3 => ?_) (fun h3 => ?_)
                · repeat ((intro _u; clear _u); first | with_reducible first | refine cT ?_ | refine cF ?_ | refine cA ?_ | refine cB ?_ | refine aLn ?_ | refine cK ?_ | refine aS8 ?_ | refine wI ?_ | refine nD ?_ | refine aX rfl ?_)
                  intro _u; clear _u
                  refine ICall.pure h.n73.o73.hb (works11_c h.n73) rfl ?_
                  repeat ((intro _u; clear _u); first | with_reducible first | refine cT ?_ | refine cF ?_ | refine cA ?_ | refine cB ?_ | refine aLn ?_ | refine cK ?_ | refine aS8 ?_ | refine wI ?_ | refine nD ?_ | refine aX rfl ?_)
                  intro _u; clear _u
                  exact rT
                · repeat ((intro _u; clear _u); first | with_reducible first | refine cT ?_ | refine cF ?_ | refine cA ?_ | refine cB ?_ | refine aLn ?_ | refine cK ?_ | refine aS8 ?_ | refine wI ?_ | refine nD ?_ | refine aX rfl ?_)
                  intro _u; clear _u
                  refine asub_eq (by exact slc8_take _ _) ?_
                  have htl : (C.take ((C.length : Int) - 1).toNat).length = C.length - 1 := by simp
                  repeat ((intro _u; clear _u); first | with_reducible first | refine cT ?_ | refine cF ?_ | refine cA ?_ | refine cB ?_ | refine aLn ?_ | refine cK ?_ | refine aS8 ?_ | refine wI ?_ | refine nD ?_ | refine aX rfl ?_)
                  intro _u; clear _u
                  refine cM false [] (new_c h.n56 (C.take ((C.length : Int) - 1).toNat) (by omega)) ?_
                  repeat ((intro _u; clear _u); first | refine eK ?_ | refine eP ?_)
                  repeat ((intro _u; clear _u); first | with_reducible first | refine cT ?_ | refine cF ?_ | refine cA ?_ | refine cB ?_ | refine aLn ?_ | refine cK ?_ | refine aS8 ?_ | refine wI ?_ | refine nD ?_ | refine aX rfl ?_)
                  intro _u; clear _u
                  refine lPa 100 (fun s : Nat × Rd => s.1 ≤ n.length + m.length ∧ s.2.made = true ∧ (s.1 < n.length + m.length → s.2.e = 0 ∧ (s.2.l.length : Int) = C.length - 1 - v * s.1) ∧ (s.1 = n.length + m.length → s.2.e = 4)) (fun s => ⟨[(2, .int .i64 v), (16, .loc 2 1 0 0), (141, .int .i64 (n.length + m.length)), (142, .int .i64 s.1)], [(2, .var (R.ty 9) s.2.row)], 3⟩) (fun s => n.length + m.length - s.1) ((0, ⟨C.take ((C.length : Int) - 1).toNat, 0, true⟩)) ?_ ?_
                  · refine ⟨Nat.zero_le _, rfl, fun _ => ⟨rfl, by dsimp only; omega⟩, fun h0 => ?_⟩
                    have h0 : 0 = n.length + m.length := h0
                    rw [show (n.length : Int) + m.length = 0 by omega] at hCv
                    omega
                  · rintro ⟨k, r⟩ ⟨hk, hm1, hk1, hk2⟩
                    dsimp only at hk hm1 hk1 hk2 ⊢
                    repeat ((intro _u; clear _u); first | with_reducible first | refine cT ?_ | refine cF ?_ | refine cA ?_ | refine cB ?_ | refine aLn ?_ | refine cK ?_ | refine aS8 ?_ | refine wI ?_ | refine nD ?_ | refine aX rfl ?_)
                    intro _u; clear _u
                    refine cS (fun h4 => ?_) (fun h4 => ?_)
                    · repeat ((intro _u; clear _u); first | with_reducible first | refine cT ?_ | refine cF ?_ | refine cA ?_ | refine cB ?_ | refine aLn ?_ | refine cK ?_ | refine aS8 ?_ | refine wI ?_ | refine nD ?_ | refine aX rfl ?_)
                      intro _u; clear _u
                      refine cM false [2] (num_c h.n57 r v) ?_
                      repeat ((intro _u; clear _u); first | refine eK ?_ | refine eP ?_)
                      obtain ⟨he, hl⟩ := hk1 (by omega)
                      obtain ⟨q1, q2⟩ := take_short hm1 he hv1.1 hv1.2
                      have hvk : v * ((k : Int) + 1) ≤ v * ((n.length : Int) + m.length) := Int.mul_le_mul_of_nonneg_left (by omega) (by omega)
                      repeat ((intro _u; clear _u); first | with_reducible first | refine cT ?_ | refine cF ?_ | refine cA ?_ | refine cB ?_ | refine aLn ?_ | refine cK ?_ | refine aS8 ?_ | refine wI ?_ | refine nD ?_ | refine aX rfl ?_)
                      intro _u; clear _u
                      refine nXa ((k + 1, (r.num v).2)) ?_ ?_
                      · refine ⟨by dsimp only; omega, q1, fun h5 => ?_, fun h5 => ?_⟩
                        · dsimp only at h5 ⊢
                          have hvk2 : v * ((k : Int) + 2) ≤ v * ((n.length : Int) + m.length) := Int.mul_le_mul_of_nonneg_left (by omega) (by omega)
                          rw [Int.mul_add] at hvk2
                          have e1 : v * ((k + 1 : Nat) : Int) = v * k + v := by push_cast; rw [Int.mul_add, Int.mul_one]
                          rcases q2 with ⟨q3, q4, q5⟩ | ⟨q3, q4⟩
                          · exact ⟨q4, by omega⟩
                          · omega
                        · dsimp only at h5 ⊢
                          rcases q2 with ⟨q3, q4, q5⟩ | ⟨q3, q4⟩
                          · have e1 : v * ((n.length : Int) + m.length) = v * k + v := by rw [show (n.length : Int) + m.length = k + 1 by omega, Int.mul_add, Int.mul_one]
                            omega
                          · exact q4
                      · dsimp only; omega
                    · repeat ((intro _u; clear _u); first | with_reducible first | refine cT ?_ | refine cF ?_ | refine cA ?_ | refine cB ?_ | refine aLn ?_ | refine cK ?_ | refine aS8 ?_ | refine wI ?_ | refine nD ?_ | refine aX rfl ?_)
                      intro _u; clear _u
                      refine cM false [2] (err_c h.n65 r) ?_
                      repeat ((intro _u; clear _u); first | refine eK ?_ | refine eP ?_)
                      repeat ((intro _u; clear _u); first | with_reducible first | refine cT ?_ | refine cF ?_ | refine cA ?_ | refine cB ?_ | refine aLn ?_ | refine cK ?_ | refine aS8 ?_ | refine wI ?_ | refine nD ?_ | refine aX rfl ?_)
                      intro _u; clear _u
                      refine acnd_t (by (simp [Rd.err, hm1, hk2 (by omega)])) ?_
                      repeat ((intro _u; clear _u); first | with_reducible first | refine cT ?_ | refine cF ?_ | refine cA ?_ | refine cB ?_ | refine aLn ?_ | refine cK ?_ | refine aS8 ?_ | refine wI ?_ | refine nD ?_ | refine aX rfl ?_)
                      intro _u; clear _u
                      refine ICall.pure h.n73.o73.hb (works11_c h.n73) rfl ?_
                      repeat ((intro _u; clear _u); first | with_reducible first | refine cT ?_ | refine cF ?_ | refine cA ?_ | refine cB ?_ | refine aLn ?_ | refine cK ?_ | refine aS8 ?_ | refine wI ?_ | refine nD ?_ | refine aX rfl ?_)
                      intro _u; clear _u
                      exact rT
end Go.UM

/- Package manifest, part 2: a manifest's bytes, and the document's. -/



namespace Go.UM
open Go.AM
set_option maxRecDepth 4000

theorem put1 {b : List UInt8} {w x : Int} (h1 : 1 ≤ w) (h2 : w ≤ 8) (hx : 0 ≤ x ∧ x < 256 ^ w.toNat) : puts b w [x] = (b ++ enc w.toNat x, 0) := by
  rw [puts_in h1 h2 (by simpa using hx)]; simp
theorem put3 {b : List UInt8} {w x y z : Int} (h1 : 1 ≤ w) (h2 : w ≤ 8) (hx : 0 ≤ x ∧ x < 256 ^ w.toNat) (hy : 0 ≤ y ∧ y < 256 ^ w.toNat) (hz : 0 ≤ z ∧ z < 256 ^ w.toNat) : puts b w [x, y, z] = (b ++ enc w.toNat x ++ enc w.toNat y ++ enc w.toNat z, 0) := by
  rw [puts_in h1 h2 (by simpa using ⟨hx, hy, hz⟩)]; simp
theorem enc_len (w : Nat) (x : Int) : (enc w x).length = w := by simp [enc]

def Mf.masks (m : Mf) : List UInt8 := [u8 m.m0, u8 m.m1, u8 m.m2, u8 m.m3, u8 m.m4, u8 m.m5, u8 m.m6, u8 m.m7]
def Mf.head (m : Mf) : List UInt8 := enc 8 m.id ++ enc 1 m.kind ++ enc 4 m.label
def Mf.tail (m : Mf) : List UInt8 := enc 4 m.first ++ (enc 4 m.last ++ (enc 4 m.size ++ enc 2 m.chunks))
def Mf.enc (m : Mf) : List UInt8 := m.head ++ m.masks ++ m.tail
def mencs (m : Mf) : List UInt8 × Int := if chk m = 0 then (m.enc, 0) else ([], chk m)
theorem Mf.enc_len (m : Mf) : m.enc.length = 35 := by simp [Mf.enc, Mf.head, Mf.masks, Mf.tail, UM.enc_len]

/-- What may be. -/
structure Mf.May (m : Mf) : Prop where
  kind : 1 ≤ m.kind ∧ m.kind ≤ 4
  mask : ∀ i, i < 8 → m.mask i ≤ 15
  span : m.first ≤ m.last
  size : 1 ≤ m.size ∧ m.size ≤ 2048
  chunks : m.chunks = chn m.size
theorem chk_may {m : Mf} (h : chk m = 0) : m.May := by
  unfold chk at h
  split at h
  · cases h
  · rename_i h1
    split at h
    · cases h
    · rename_i h2
      split at h
      · cases h
      · rename_i h3
        split at h
        · cases h
        · rename_i h4
          split at h
          · cases h
          · rename_i h5
            refine ⟨?_, ?_, by omega, ?_, by simpa using h5⟩
            · unfold cap at h1
              repeat' split at h1
              all_goals omega
            · intro i hi
              rcases Int.lt_or_le 15 (m.mask i) with h6 | h6
              · exact absurd (Mf.high_t hi h6) h2
              · exact h6
            · unfold cap at h4 h1
              repeat' split at h4
              all_goals omega
theorem Mf.May.chunk {m : Mf} (h : m.May) : 0 ≤ m.chunks ∧ m.chunks ≤ 8 := by
  rw [h.chunks]; have := h.size; unfold chn; omega

theorem masks_app {m : Mf} (ok : m.Ok) (b : List UInt8) : slc8 b ++ [[AV.int .u8 m.m0], [AV.int .u8 m.m1], [AV.int .u8 m.m2], [AV.int .u8 m.m3], [AV.int .u8 m.m4], [AV.int .u8 m.m5], [AV.int .u8 m.m6], [AV.int .u8 m.m7]] = slc8 (b ++ m.masks) := by
  have h := ok.mask
  have h0 : ((u8 m.m0).toNat : Int) = m.m0 := u8_in (h 0)
  have h1 : ((u8 m.m1).toNat : Int) = m.m1 := u8_in (h 1)
  have h2 : ((u8 m.m2).toNat : Int) = m.m2 := u8_in (h 2)
  have h3 : ((u8 m.m3).toNat : Int) = m.m3 := u8_in (h 3)
  have h4 : ((u8 m.m4).toNat : Int) = m.m4 := u8_in (h 4)
  have h5 : ((u8 m.m5).toNat : Int) = m.m5 := u8_in (h 5)
  have h6 : ((u8 m.m6).toNat : Int) = m.m6 := u8_in (h 6)
  have h7 : ((u8 m.m7).toNat : Int) = m.m7 := u8_in (h 7)
  rw [slc8_append]
  simp only [Mf.masks, slc8, List.map_cons, List.map_nil, h0, h1, h2, h3, h4, h5, h6, h7]

theorem mencode_c {R : Env} (h : N45 R) (m : Mf) (ok : m.Ok) : R.Pc 45 [.agg m.row] (.tup [.isl 1 (slc8 (mencs m).1), .int .i64 (mencs m).2]) :=
  h.o45.enter 100 rfl fun X bb hfit hp => by
    repeat ((intro _u; clear _u); first | with_reducible first | refine cT ?_ | refine cF ?_ | refine cA ?_ | refine cB ?_ | refine aLn ?_ | refine cK ?_ | refine aS8 ?_ | refine wI ?_ | refine nD ?_ | refine aX rfl ?_)
    intro _u; clear _u
    refine ICall.pure h.n41.o41.hb (chk_c h.n41 m ok.size) rfl ?_
    repeat ((intro _u; clear _u); first | with_reducible first | refine cT ?_ | refine cF ?_ | refine cA ?_ | refine cB ?_ | refine aLn ?_ | refine cK ?_ | refine aS8 ?_ | refine wI ?_ | refine nD ?_ | refine aX rfl ?_)
    intro _u; clear _u
    refine cS (fun h1 => ?_) (fun h1 => ?_)
    · rw [mencs, if_neg h1]
      repeat ((intro _u; clear _u); first | with_reducible first | refine cT ?_ | refine cF ?_ | refine cA ?_ | refine cB ?_ | refine aLn ?_ | refine cK ?_ | refine aS8 ?_ | refine wI ?_ | refine nD ?_ | refine aX rfl ?_)
      intro _u; clear _u
      exact rT
    · have hc : chk m = 0 := by omega
      rw [mencs, if_pos hc]
      have may := chk_may hc
      have mk := may.kind
      have mc := may.chunk
      have ms := may.size
      have okid := ok.id
      have okl := ok.label
      have okf := ok.first
      have oka := ok.last
      simp only [inI] at okid okl okf oka
      have c1 := put_c h.n54 [] 8 [m.id] (by simp) (by simpa using by omega)
      rw [put1 (by omega) (by omega) (by simpa using by omega)] at c1
      repeat ((intro _u; clear _u); first | with_reducible first | refine cT ?_ | refine cF ?_ | refine cA ?_ | refine cB ?_ | refine aLn ?_ | refine cK ?_ | refine aS8 ?_ | refine wI ?_ | refine nD ?_ | refine aX rfl ?_)
      intro _u; clear _u
      refine cM true [] (c1) ?_
      repeat ((intro _u; clear _u); first | refine eK ?_ | refine eP ?_)
      have c2 := put_c h.n54 ([] ++ UM.enc (Int.toNat 8) m.id) 1 [m.kind] (by simp [enc_len]) (by simpa using by omega)
      rw [put1 (by omega) (by omega) (by simpa using by omega)] at c2
      repeat ((intro _u; clear _u); first | with_reducible first | refine cT ?_ | refine cF ?_ | refine cA ?_ | refine cB ?_ | refine aLn ?_ | refine cK ?_ | refine aS8 ?_ | refine wI ?_ | refine nD ?_ | refine aX rfl ?_)
      intro _u; clear _u
      refine cM true [] (c2) ?_
      repeat ((intro _u; clear _u); first | refine eK ?_ | refine eP ?_)
      have c3 := put_c h.n54 ([] ++ UM.enc (Int.toNat 8) m.id ++ UM.enc (Int.toNat 1) m.kind) 4 [m.label] (by simp [enc_len]) (by simpa using by omega)
      rw [put1 (by omega) (by omega) (by simpa using by omega)] at c3
      repeat ((intro _u; clear _u); first | with_reducible first | refine cT ?_ | refine cF ?_ | refine cA ?_ | refine cB ?_ | refine aLn ?_ | refine cK ?_ | refine aS8 ?_ | refine wI ?_ | refine nD ?_ | refine aX rfl ?_)
      intro _u; clear _u
      refine cM true [] (c3) ?_
      repeat ((intro _u; clear _u); first | refine eK ?_ | refine eP ?_)
      repeat ((intro _u; clear _u); first | with_reducible first | refine cT ?_ | refine cF ?_ | refine cA ?_ | refine cB ?_ | refine aLn ?_ | refine cK ?_ | refine aS8 ?_ | refine wI ?_ | refine nD ?_ | refine aX rfl ?_)
      rw [masks_app ok]
      have c4 := put_c h.n54 ([] ++ UM.enc (Int.toNat 8) m.id ++ UM.enc (Int.toNat 1) m.kind ++ UM.enc (Int.toNat 4) m.label ++ m.masks) 4 [m.first, m.last, m.size] (by simp [enc_len, Mf.masks]) (by simpa using by omega)
      rw [put3 (by omega) (by omega) (by simpa using by omega) (by simpa using by omega) (by simpa using by omega)] at c4
      repeat ((intro _u; clear _u); first | with_reducible first | refine cT ?_ | refine cF ?_ | refine cA ?_ | refine cB ?_ | refine aLn ?_ | refine cK ?_ | refine aS8 ?_ | refine wI ?_ | refine nD ?_ | refine aX rfl ?_)
      intro _u; clear _u
      refine cM true [] (c4) ?_
      repeat ((intro _u; clear _u); first | refine eK ?_ | refine eP ?_)
      have c5 := put_c h.n54 ([] ++ UM.enc (Int.toNat 8) m.id ++ UM.enc (Int.toNat 1) m.kind ++ UM.enc (Int.toNat 4) m.label ++ m.masks ++ UM.enc (Int.toNat 4) m.first ++ UM.enc (Int.toNat 4) m.last ++ UM.enc (Int.toNat 4) m.size) 2 [m.chunks] (by simp [enc_len, Mf.masks]) (by simpa using by omega)
      rw [put1 (by omega) (by omega) (by simpa using by omega)] at c5
      repeat ((intro _u; clear _u); first | with_reducible first | refine cT ?_ | refine cF ?_ | refine cA ?_ | refine cB ?_ | refine aLn ?_ | refine cK ?_ | refine aS8 ?_ | refine wI ?_ | refine nD ?_ | refine aX rfl ?_)
      intro _u; clear _u
      refine cM true [] (c5) ?_
      repeat ((intro _u; clear _u); first | refine eK ?_ | refine eP ?_)
      repeat ((intro _u; clear _u); first | with_reducible first | refine cT ?_ | refine cF ?_ | refine cA ?_ | refine cB ?_ | refine aLn ?_ | refine cK ?_ | refine aS8 ?_ | refine wI ?_ | refine nD ?_ | refine aX rfl ?_)
      intro _u; clear _u
      exact rT

theorem masks_app' {m : Mf} (ok : m.Ok) (b : List UInt8) : slc8 b ++ [[AV.int .u8 m.m0]] ++ [[AV.int .u8 m.m1]] ++ [[AV.int .u8 m.m2]] ++ [[AV.int .u8 m.m3]] ++ [[AV.int .u8 m.m4]] ++ [[AV.int .u8 m.m5]] ++ [[AV.int .u8 m.m6]] ++ [[AV.int .u8 m.m7]] = slc8 (b ++ m.masks) := by
  rw [← masks_app ok]; simp only [List.append_assoc, List.cons_append, List.nil_append]


theorem rmencode_c {R : Env} (h : N46 R) (m : Mf) (ok : m.Ok) : R.Pc 46 [.agg m.row] (.tup [.isl 1 (slc8 (mencs m).1), .int .i64 (mencs m).2]) :=
  h.o46.enter 100 rfl fun X bb hfit hp => by
    repeat ((intro _u; clear _u); first | with_reducible first | refine cT ?_ | refine cF ?_ | refine cA ?_ | refine cB ?_ | refine aLn ?_ | refine cK ?_ | refine aS8 ?_ | refine wI ?_ | refine nD ?_ | refine aX rfl ?_)
    intro _u; clear _u
    refine ICall.pure h.n42.o42.hb (rchk_c h.n42 m ok.size) rfl ?_
    repeat ((intro _u; clear _u); first | with_reducible first | refine cT ?_ | refine cF ?_ | refine cA ?_ | refine cB ?_ | refine aLn ?_ | refine cK ?_ | refine aS8 ?_ | refine wI ?_ | refine nD ?_ | refine aX rfl ?_)
    intro _u; clear _u
    refine cS (fun h1 => ?_) (fun h1 => ?_)
    · rw [mencs, if_neg h1]
      repeat ((intro _u; clear _u); first | with_reducible first | refine cT ?_ | refine cF ?_ | refine cA ?_ | refine cB ?_ | refine aLn ?_ | refine cK ?_ | refine aS8 ?_ | refine wI ?_ | refine nD ?_ | refine aX rfl ?_)
      intro _u; clear _u
      exact rT
    · have hc : chk m = 0 := by omega
      rw [mencs, if_pos hc]
      have may := chk_may hc
      have mk := may.kind
      have mc := may.chunk
      have ms := may.size
      have okid := ok.id
      have okl := ok.label
      have okf := ok.first
      have oka := ok.last
      simp only [inI] at okid okl okf oka
      have c1 := rput_c h.n55 [] 8 [m.id] (by simp) (by simpa using by omega)
      rw [put1 (by omega) (by omega) (by simpa using by omega)] at c1
      repeat ((intro _u; clear _u); first | with_reducible first | refine cT ?_ | refine cF ?_ | refine cA ?_ | refine cB ?_ | refine aLn ?_ | refine cK ?_ | refine aS8 ?_ | refine wI ?_ | refine nD ?_ | refine aX rfl ?_)
      intro _u; clear _u
      refine cM true [] (c1) ?_
      repeat ((intro _u; clear _u); first | refine eK ?_ | refine eP ?_)
      have c2 := rput_c h.n55 ([] ++ UM.enc (Int.toNat 8) m.id) 1 [m.kind] (by simp [enc_len]) (by simpa using by omega)
      rw [put1 (by omega) (by omega) (by simpa using by omega)] at c2
      repeat ((intro _u; clear _u); first | with_reducible first | refine cT ?_ | refine cF ?_ | refine cA ?_ | refine cB ?_ | refine aLn ?_ | refine cK ?_ | refine aS8 ?_ | refine wI ?_ | refine nD ?_ | refine aX rfl ?_)
      intro _u; clear _u
      refine cM true [] (c2) ?_
      repeat ((intro _u; clear _u); first | refine eK ?_ | refine eP ?_)
      have c3 := rput_c h.n55 ([] ++ UM.enc (Int.toNat 8) m.id ++ UM.enc (Int.toNat 1) m.kind) 4 [m.label] (by simp [enc_len]) (by simpa using by omega)
      rw [put1 (by omega) (by omega) (by simpa using by omega)] at c3
      repeat ((intro _u; clear _u); first | with_reducible first | refine cT ?_ | refine cF ?_ | refine cA ?_ | refine cB ?_ | refine aLn ?_ | refine cK ?_ | refine aS8 ?_ | refine wI ?_ | refine nD ?_ | refine aX rfl ?_)
      intro _u; clear _u
      refine cM true [] (c3) ?_
      repeat ((intro _u; clear _u); first | refine eK ?_ | refine eP ?_)
      repeat ((intro _u; clear _u); first | with_reducible first | refine cT ?_ | refine cF ?_ | refine cA ?_ | refine cB ?_ | refine aLn ?_ | refine cK ?_ | refine aS8 ?_ | refine wI ?_ | refine nD ?_ | refine aX rfl ?_)
      intro _u; clear _u
      refine ILoop.one 100 ?_
      repeat ((intro _u; clear _u); first | with_reducible first | refine cT ?_ | refine cF ?_ | refine cA ?_ | refine cB ?_ | refine aLn ?_ | refine cK ?_ | refine aS8 ?_ | refine wI ?_ | refine nD ?_ | refine aX rfl ?_)
      intro _u; clear _u
      refine acnd_t (by decide) ?_
      repeat ((intro _u; clear _u); first | with_reducible first | refine cT ?_ | refine cF ?_ | refine cA ?_ | refine cB ?_ | refine aLn ?_ | refine cK ?_ | refine aS8 ?_ | refine wI ?_ | refine nD ?_ | refine aX rfl ?_)
      intro _u; clear _u
      refine ILoop.one 100 ?_
      repeat ((intro _u; clear _u); first | with_reducible first | refine cT ?_ | refine cF ?_ | refine cA ?_ | refine cB ?_ | refine aLn ?_ | refine cK ?_ | refine aS8 ?_ | refine wI ?_ | refine nD ?_ | refine aX rfl ?_)
      intro _u; clear _u
      refine acnd_t (by decide) ?_
      repeat ((intro _u; clear _u); first | with_reducible first | refine cT ?_ | refine cF ?_ | refine cA ?_ | refine cB ?_ | refine aLn ?_ | refine cK ?_ | refine aS8 ?_ | refine wI ?_ | refine nD ?_ | refine aX rfl ?_)
      intro _u; clear _u
      refine ILoop.one 100 ?_
      repeat ((intro _u; clear _u); first | with_reducible first | refine cT ?_ | refine cF ?_ | refine cA ?_ | refine cB ?_ | refine aLn ?_ | refine cK ?_ | refine aS8 ?_ | refine wI ?_ | refine nD ?_ | refine aX rfl ?_)
      intro _u; clear _u
      refine acnd_t (by decide) ?_
      repeat ((intro _u; clear _u); first | with_reducible first | refine cT ?_ | refine cF ?_ | refine cA ?_ | refine cB ?_ | refine aLn ?_ | refine cK ?_ | refine aS8 ?_ | refine wI ?_ | refine nD ?_ | refine aX rfl ?_)
      intro _u; clear _u
      refine ILoop.one 100 ?_
      repeat ((intro _u; clear _u); first | with_reducible first | refine cT ?_ | refine cF ?_ | refine cA ?_ | refine cB ?_ | refine aLn ?_ | refine cK ?_ | refine aS8 ?_ | refine wI ?_ | refine nD ?_ | refine aX rfl ?_)
      intro _u; clear _u
      refine acnd_t (by decide) ?_
      repeat ((intro _u; clear _u); first | with_reducible first | refine cT ?_ | refine cF ?_ | refine cA ?_ | refine cB ?_ | refine aLn ?_ | refine cK ?_ | refine aS8 ?_ | refine wI ?_ | refine nD ?_ | refine aX rfl ?_)
      intro _u; clear _u
      refine ILoop.one 100 ?_
      repeat ((intro _u; clear _u); first | with_reducible first | refine cT ?_ | refine cF ?_ | refine cA ?_ | refine cB ?_ | refine aLn ?_ | refine cK ?_ | refine aS8 ?_ | refine wI ?_ | refine nD ?_ | refine aX rfl ?_)
      intro _u; clear _u
      refine acnd_t (by decide) ?_
      repeat ((intro _u; clear _u); first | with_reducible first | refine cT ?_ | refine cF ?_ | refine cA ?_ | refine cB ?_ | refine aLn ?_ | refine cK ?_ | refine aS8 ?_ | refine wI ?_ | refine nD ?_ | refine aX rfl ?_)
      intro _u; clear _u
      refine ILoop.one 100 ?_
      repeat ((intro _u; clear _u); first | with_reducible first | refine cT ?_ | refine cF ?_ | refine cA ?_ | refine cB ?_ | refine aLn ?_ | refine cK ?_ | refine aS8 ?_ | refine wI ?_ | refine nD ?_ | refine aX rfl ?_)
      intro _u; clear _u
      refine acnd_t (by decide) ?_
      repeat ((intro _u; clear _u); first | with_reducible first | refine cT ?_ | refine cF ?_ | refine cA ?_ | refine cB ?_ | refine aLn ?_ | refine cK ?_ | refine aS8 ?_ | refine wI ?_ | refine nD ?_ | refine aX rfl ?_)
      intro _u; clear _u
      refine ILoop.one 100 ?_
      repeat ((intro _u; clear _u); first | with_reducible first | refine cT ?_ | refine cF ?_ | refine cA ?_ | refine cB ?_ | refine aLn ?_ | refine cK ?_ | refine aS8 ?_ | refine wI ?_ | refine nD ?_ | refine aX rfl ?_)
      intro _u; clear _u
      refine acnd_t (by decide) ?_
      repeat ((intro _u; clear _u); first | with_reducible first | refine cT ?_ | refine cF ?_ | refine cA ?_ | refine cB ?_ | refine aLn ?_ | refine cK ?_ | refine aS8 ?_ | refine wI ?_ | refine nD ?_ | refine aX rfl ?_)
      intro _u; clear _u
      refine ILoop.one 100 ?_
      repeat ((intro _u; clear _u); first | with_reducible first | refine cT ?_ | refine cF ?_ | refine cA ?_ | refine cB ?_ | refine aLn ?_ | refine cK ?_ | refine aS8 ?_ | refine wI ?_ | refine nD ?_ | refine aX rfl ?_)
      intro _u; clear _u
      refine acnd_t (by decide) ?_
      repeat ((intro _u; clear _u); first | with_reducible first | refine cT ?_ | refine cF ?_ | refine cA ?_ | refine cB ?_ | refine aLn ?_ | refine cK ?_ | refine aS8 ?_ | refine wI ?_ | refine nD ?_ | refine aX rfl ?_)
      intro _u; clear _u
      refine ILoop.one 100 ?_
      repeat ((intro _u; clear _u); first | with_reducible first | refine cT ?_ | refine cF ?_ | refine cA ?_ | refine cB ?_ | refine aLn ?_ | refine cK ?_ | refine aS8 ?_ | refine wI ?_ | refine nD ?_ | refine aX rfl ?_)
      intro _u; clear _u
      refine acnd_f (by decide) ?_
      repeat ((intro _u; clear _u); first | with_reducible first | refine cT ?_ | refine cF ?_ | refine cA ?_ | refine cB ?_ | refine aLn ?_ | refine cK ?_ | refine aS8 ?_ | refine wI ?_ | refine nD ?_ | refine aX rfl ?_)
      rw [masks_app' ok]
      have c4 := rput_c h.n55 ([] ++ UM.enc (Int.toNat 8) m.id ++ UM.enc (Int.toNat 1) m.kind ++ UM.enc (Int.toNat 4) m.label ++ m.masks) 4 [m.first, m.last, m.size] (by simp [enc_len, Mf.masks]) (by simpa using by omega)
      rw [put3 (by omega) (by omega) (by simpa using by omega) (by simpa using by omega) (by simpa using by omega)] at c4
      repeat ((intro _u; clear _u); first | with_reducible first | refine cT ?_ | refine cF ?_ | refine cA ?_ | refine cB ?_ | refine aLn ?_ | refine cK ?_ | refine aS8 ?_ | refine wI ?_ | refine nD ?_ | refine aX rfl ?_)
      intro _u; clear _u
      refine cM true [] (c4) ?_
      repeat ((intro _u; clear _u); first | refine eK ?_ | refine eP ?_)
      have c5 := rput_c h.n55 ([] ++ UM.enc (Int.toNat 8) m.id ++ UM.enc (Int.toNat 1) m.kind ++ UM.enc (Int.toNat 4) m.label ++ m.masks ++ UM.enc (Int.toNat 4) m.first ++ UM.enc (Int.toNat 4) m.last ++ UM.enc (Int.toNat 4) m.size) 2 [m.chunks] (by simp [enc_len, Mf.masks]) (by simpa using by omega)
      rw [put1 (by omega) (by omega) (by simpa using by omega)] at c5
      repeat ((intro _u; clear _u); first | with_reducible first | refine cT ?_ | refine cF ?_ | refine cA ?_ | refine cB ?_ | refine aLn ?_ | refine cK ?_ | refine aS8 ?_ | refine wI ?_ | refine nD ?_ | refine aX rfl ?_)
      intro _u; clear _u
      refine cM true [] (c5) ?_
      repeat ((intro _u; clear _u); first | refine eK ?_ | refine eP ?_)
      repeat ((intro _u; clear _u); first | with_reducible first | refine cT ?_ | refine cF ?_ | refine cA ?_ | refine cB ?_ | refine aLn ?_ | refine cK ?_ | refine aS8 ?_ | refine wI ?_ | refine nD ?_ | refine aX rfl ?_)
      intro _u; clear _u
      exact rT

end Go.UM

/- Package manifest, part 3: what bytes are. -/

namespace Go.UM
open Go.AM
set_option maxRecDepth 4000

theorem dint_c {R : Env} (h : N58 R) (r : Rd) (w : Int) (h1 : 1 ≤ w) (h2 : w ≤ 7) : R.Mc 58 [.agg [.loc 0 1 0 0], .int .i64 w] (rdM R r) (.int .i64 (r.num w).1) (rdM R (r.num w).2) 1 :=
  h.o58.enterM 60 1 rfl rfl rfl fun X bb hfit hp => by
    repeat ((intro _u; clear _u); first | with_reducible first | refine cT ?_ | refine cF ?_ | refine cA ?_ | refine cB ?_ | refine aLn ?_ | refine cK ?_ | refine aS8 ?_ | refine wI ?_ | refine nD ?_ | refine aX rfl ?_)
    intro _u; clear _u
    refine cM false [0] (num_c h.n57 r w) ?_
    repeat ((intro _u; clear _u); first | refine eK ?_ | refine eP ?_)
    have hlt := num_lt r h1 (show w ≤ 8 by omega)
    have hp : (256 : Nat) ^ w.toNat ≤ 256 ^ 7 := Nat.pow_le_pow_right (by decide) (by omega)
    have : ((r.num w).1 : Int) < 9223372036854775808 := by omega
    repeat ((intro _u; clear _u); first | with_reducible first | refine cT ?_ | refine cF ?_ | refine cA ?_ | refine cB ?_ | refine aLn ?_ | refine cK ?_ | refine aS8 ?_ | refine wI ?_ | refine nD ?_ | refine aX rfl ?_)
    intro _u; clear _u
    exact rM [0]

def Mf.zero : Mf := ⟨0, 0, 0, 0, 0, 0, 0, 0, 0, 0, 0, 0, 0, 0, 0⟩
def byt (l : List UInt8) (i : Nat) : Int := (l.getD i 0).toNat
def mchain (r : Rd) : Mf × Rd :=
  let a := r.num 8
  let b := a.2.num 1
  let c := b.2.num 4
  let t := c.2.take 8
  let f := t.2.num 4
  let g := f.2.num 4
  let s := g.2.num 4
  let k := s.2.num 2
  (⟨a.1, b.1, c.1, byt t.1 0, byt t.1 1, byt t.1 2, byt t.1 3, byt t.1 4, byt t.1 5, byt t.1 6, byt t.1 7, f.1, g.1, s.1, k.1⟩, k.2)
def mdec (b : List UInt8) : Mf × Int :=
  let q := mchain ⟨b, 0, true⟩
  if q.2.fin ≠ 0 then (.zero, q.2.fin) else if chk q.1 ≠ 0 then (.zero, chk q.1) else (q.1, 0)

theorem flat8 {l : List UInt8} (h : l.length = 8) : ((slc8 l).take 8).flatten = [.int .u8 (byt l 0), .int .u8 (byt l 1), .int .u8 (byt l 2), .int .u8 (byt l 3), .int .u8 (byt l 4), .int .u8 (byt l 5), .int .u8 (byt l 6), .int .u8 (byt l 7)] := by
  match l, h with
  | [a, b, c, d, e, f, g, k], _ => rfl

theorem take8 (r : Rd) : (r.take 8).1.length = 8 ∨ (r.take 8).1 = [] := by
  unfold Rd.take
  split
  · exact .inr rfl
  · split
    · exact .inr rfl
    · split
      · exact .inr rfl
      · left; simp only [List.length_take]; omega

theorem mdecode_c {R : Env} (h : N49 R) (b : List UInt8) (hb : b.length ≤ 1073741824) : R.Pc 49 [.isl 1 (slc8 b)] (.tup [.agg (mdec b).1.row, .int .i64 (mdec b).2]) :=
  h.o49.enter 100 rfl fun X bb hfit hp => by
    repeat ((intro _u; clear _u); first | with_reducible first | refine cT ?_ | refine cF ?_ | refine cA ?_ | refine cB ?_ | refine aLn ?_ | refine cK ?_ | refine aS8 ?_ | refine wI ?_ | refine nD ?_ | refine aX rfl ?_)
    intro _u; clear _u
    refine cM false [] (new_c h.n56 b hb) ?_
    repeat ((intro _u; clear _u); first | refine eK ?_ | refine eP ?_)
    generalize hr0 : (⟨b, 0, true⟩ : Rd) = r0
    have c1 := num_c h.n57 r0 8
    generalize h1 : r0.num 8 = q1 at c1
    repeat ((intro _u; clear _u); first | with_reducible first | refine cT ?_ | refine cF ?_ | refine cA ?_ | refine cB ?_ | refine aLn ?_ | refine cK ?_ | refine aS8 ?_ | refine wI ?_ | refine nD ?_ | refine aX rfl ?_)
    intro _u; clear _u
    refine cM false [1] (c1) ?_
    repeat ((intro _u; clear _u); first | refine eK ?_ | refine eP ?_)
    have c2 := dint_c h.n58 q1.2 1 (by omega) (by omega)
    generalize h2 : q1.2.num 1 = q2 at c2
    repeat ((intro _u; clear _u); first | with_reducible first | refine cT ?_ | refine cF ?_ | refine cA ?_ | refine cB ?_ | refine aLn ?_ | refine cK ?_ | refine aS8 ?_ | refine wI ?_ | refine nD ?_ | refine aX rfl ?_)
    intro _u; clear _u
    refine cM false [1] (c2) ?_
    repeat ((intro _u; clear _u); first | refine eK ?_ | refine eP ?_)
    have c3 := num_c h.n57 q2.2 4
    have l3 : (q2.2.num 4).1 < 4294967296 := num_lt q2.2 (w := 4) (by omega) (by omega)
    generalize h3 : q2.2.num 4 = q3 at c3 l3
    repeat ((intro _u; clear _u); first | with_reducible first | refine cT ?_ | refine cF ?_ | refine cA ?_ | refine cB ?_ | refine aLn ?_ | refine cK ?_ | refine aS8 ?_ | refine wI ?_ | refine nD ?_ | refine aX rfl ?_)
    intro _u; clear _u
    refine cM false [1] (c3) ?_
    repeat ((intro _u; clear _u); first | refine eK ?_ | refine eP ?_)
    have c4 := take_c h.n59 q3.2 8
    have l4 := take8 q3.2
    generalize h4 : q3.2.take 8 = q4 at c4 l4
    repeat ((intro _u; clear _u); first | with_reducible first | refine cT ?_ | refine cF ?_ | refine cA ?_ | refine cB ?_ | refine aLn ?_ | refine cK ?_ | refine aS8 ?_ | refine wI ?_ | refine nD ?_ | refine aX rfl ?_)
    intro _u; clear _u
    refine cM false [1] (c4) ?_
    repeat ((intro _u; clear _u); first | refine eK ?_ | refine eP ?_)
    rcases l4 with l4 | l4
    · repeat ((intro _u; clear _u); first | with_reducible first | refine cT ?_ | refine cF ?_ | refine cA ?_ | refine cB ?_ | refine aLn ?_ | refine cK ?_ | refine aS8 ?_ | refine wI ?_ | refine nD ?_ | refine aX rfl ?_)
      intro _u; clear _u
      refine acp_eq (n := 8) (flat8 l4) (by simp [l4]) ?_
      have c5 := num_c h.n57 q4.2 4
      have l5 : (q4.2.num 4).1 < 4294967296 := num_lt q4.2 (w := 4) (by omega) (by omega)
      generalize h5 : q4.2.num 4 = q5 at c5 l5
      repeat ((intro _u; clear _u); first | with_reducible first | refine cT ?_ | refine cF ?_ | refine cA ?_ | refine cB ?_ | refine aLn ?_ | refine cK ?_ | refine aS8 ?_ | refine wI ?_ | refine nD ?_ | refine aX rfl ?_)
      intro _u; clear _u
      refine cM false [1] (c5) ?_
      repeat ((intro _u; clear _u); first | refine eK ?_ | refine eP ?_)
      have c6 := num_c h.n57 q5.2 4
      have l6 : (q5.2.num 4).1 < 4294967296 := num_lt q5.2 (w := 4) (by omega) (by omega)
      generalize h6 : q5.2.num 4 = q6 at c6 l6
      repeat ((intro _u; clear _u); first | with_reducible first | refine cT ?_ | refine cF ?_ | refine cA ?_ | refine cB ?_ | refine aLn ?_ | refine cK ?_ | refine aS8 ?_ | refine wI ?_ | refine nD ?_ | refine aX rfl ?_)
      intro _u; clear _u
      refine cM false [1] (c6) ?_
      repeat ((intro _u; clear _u); first | refine eK ?_ | refine eP ?_)
      have c7 := dint_c h.n58 q6.2 4 (by omega) (by omega)
      have l7 : (q6.2.num 4).1 < 4294967296 := num_lt q6.2 (w := 4) (by omega) (by omega)
      generalize h7 : q6.2.num 4 = q7 at c7 l7
      repeat ((intro _u; clear _u); first | with_reducible first | refine cT ?_ | refine cF ?_ | refine cA ?_ | refine cB ?_ | refine aLn ?_ | refine cK ?_ | refine aS8 ?_ | refine wI ?_ | refine nD ?_ | refine aX rfl ?_)
      intro _u; clear _u
      refine cM false [1] (c7) ?_
      repeat ((intro _u; clear _u); first | refine eK ?_ | refine eP ?_)
      have c8 := dint_c h.n58 q7.2 2 (by omega) (by omega)
      generalize h8 : q7.2.num 2 = q8 at c8
      repeat ((intro _u; clear _u); first | with_reducible first | refine cT ?_ | refine cF ?_ | refine cA ?_ | refine cB ?_ | refine aLn ?_ | refine cK ?_ | refine aS8 ?_ | refine wI ?_ | refine nD ?_ | refine aX rfl ?_)
      intro _u; clear _u
      refine cM false [1] (c8) ?_
      repeat ((intro _u; clear _u); first | refine eK ?_ | refine eP ?_)
      have e0 : mdec b = if q8.2.fin ≠ 0 then (.zero, q8.2.fin) else if chk ⟨q1.1, q2.1, q3.1, byt q4.1 0, byt q4.1 1, byt q4.1 2, byt q4.1 3, byt q4.1 4, byt q4.1 5, byt q4.1 6, byt q4.1 7, q5.1, q6.1, q7.1, q8.1⟩ ≠ 0 then (.zero, chk ⟨q1.1, q2.1, q3.1, byt q4.1 0, byt q4.1 1, byt q4.1 2, byt q4.1 3, byt q4.1 4, byt q4.1 5, byt q4.1 6, byt q4.1 7, q5.1, q6.1, q7.1, q8.1⟩) else (⟨q1.1, q2.1, q3.1, byt q4.1 0, byt q4.1 1, byt q4.1 2, byt q4.1 3, byt q4.1 4, byt q4.1 5, byt q4.1 6, byt q4.1 7, q5.1, q6.1, q7.1, q8.1⟩, 0) := by
        unfold mdec mchain
        simp only [hr0, h1, h2, h3, h4, h5, h6, h7, h8]
      rw [e0]
      have c9 := end_c h.n60 q8.2
      repeat ((intro _u; clear _u); first | with_reducible first | refine cT ?_ | refine cF ?_ | refine cA ?_ | refine cB ?_ | refine aLn ?_ | refine cK ?_ | refine aS8 ?_ | refine wI ?_ | refine nD ?_ | refine aX rfl ?_)
      intro _u; clear _u
      refine cM false [1] (c9) ?_
      repeat ((intro _u; clear _u); first | refine eK ?_ | refine eP ?_)
      repeat ((intro _u; clear _u); first | with_reducible first | refine cT ?_ | refine cF ?_ | refine cA ?_ | refine cB ?_ | refine aLn ?_ | refine cK ?_ | refine aS8 ?_ | refine wI ?_ | refine nD ?_ | refine aX rfl ?_)
      intro _u; clear _u
      refine cS (fun h9 => ?_) (fun h9 => ?_)
      · rw [if_pos h9]
        repeat ((intro _u; clear _u); first | with_reducible first | refine cT ?_ | refine cF ?_ | refine cA ?_ | refine cB ?_ | refine aLn ?_ | refine cK ?_ | refine aS8 ?_ | refine wI ?_ | refine nD ?_ | refine aX rfl ?_)
        intro _u; clear _u
        exact rT
      · rw [if_neg (fun hh => hh h9)]
        repeat ((intro _u; clear _u); first | with_reducible first | refine cT ?_ | refine cF ?_ | refine cA ?_ | refine cB ?_ | refine aLn ?_ | refine cK ?_ | refine aS8 ?_ | refine wI ?_ | refine nD ?_ | refine aX rfl ?_)
        intro _u; clear _u
        refine ICall.pure h.n41.o41.hb (chk_c h.n41 ⟨q1.1, q2.1, q3.1, byt q4.1 0, byt q4.1 1, byt q4.1 2, byt q4.1 3, byt q4.1 4, byt q4.1 5, byt q4.1 6, byt q4.1 7, q5.1, q6.1, q7.1, q8.1⟩ (by simp only [inI]; omega)) rfl ?_
        repeat ((intro _u; clear _u); first | with_reducible first | refine cT ?_ | refine cF ?_ | refine cA ?_ | refine cB ?_ | refine aLn ?_ | refine cK ?_ | refine aS8 ?_ | refine wI ?_ | refine nD ?_ | refine aX rfl ?_)
        intro _u; clear _u
        refine cS (fun h10 => ?_) (fun h10 => ?_)
        · rw [if_pos h10]
          repeat ((intro _u; clear _u); first | with_reducible first | refine cT ?_ | refine cF ?_ | refine cA ?_ | refine cB ?_ | refine aLn ?_ | refine cK ?_ | refine aS8 ?_ | refine wI ?_ | refine nD ?_ | refine aX rfl ?_)
          intro _u; clear _u
          exact rT
        · rw [if_neg (fun hh => hh h10)]
          repeat ((intro _u; clear _u); first | with_reducible first | refine cT ?_ | refine cF ?_ | refine cA ?_ | refine cB ?_ | refine aLn ?_ | refine cK ?_ | refine aS8 ?_ | refine wI ?_ | refine nD ?_ | refine aX rfl ?_)
          intro _u; clear _u
          exact rT
    · rw [l4]
      repeat ((intro _u; clear _u); first | with_reducible first | refine cT ?_ | refine cF ?_ | refine cA ?_ | refine cB ?_ | refine aLn ?_ | refine cK ?_ | refine aS8 ?_ | refine wI ?_ | refine nD ?_ | refine aX rfl ?_)
      intro _u; clear _u
      refine acp_eq (n := 0) (vs := []) (by simp) (by simp) ?_
      have c5 := num_c h.n57 q4.2 4
      have l5 : (q4.2.num 4).1 < 4294967296 := num_lt q4.2 (w := 4) (by omega) (by omega)
      generalize h5 : q4.2.num 4 = q5 at c5 l5
      repeat ((intro _u; clear _u); first | with_reducible first | refine cT ?_ | refine cF ?_ | refine cA ?_ | refine cB ?_ | refine aLn ?_ | refine cK ?_ | refine aS8 ?_ | refine wI ?_ | refine nD ?_ | refine aX rfl ?_)
      intro _u; clear _u
      refine cM false [1] (c5) ?_
      repeat ((intro _u; clear _u); first | refine eK ?_ | refine eP ?_)
      have c6 := num_c h.n57 q5.2 4
      have l6 : (q5.2.num 4).1 < 4294967296 := num_lt q5.2 (w := 4) (by omega) (by omega)
      generalize h6 : q5.2.num 4 = q6 at c6 l6
      repeat ((intro _u; clear _u); first | with_reducible first | refine cT ?_ | refine cF ?_ | refine cA ?_ | refine cB ?_ | refine aLn ?_ | refine cK ?_ | refine aS8 ?_ | refine wI ?_ | refine nD ?_ | refine aX rfl ?_)
      intro _u; clear _u
      refine cM false [1] (c6) ?_
      repeat ((intro _u; clear _u); first | refine eK ?_ | refine eP ?_)
      have c7 := dint_c h.n58 q6.2 4 (by omega) (by omega)
      have l7 : (q6.2.num 4).1 < 4294967296 := num_lt q6.2 (w := 4) (by omega) (by omega)
      generalize h7 : q6.2.num 4 = q7 at c7 l7
      repeat ((intro _u; clear _u); first | with_reducible first | refine cT ?_ | refine cF ?_ | refine cA ?_ | refine cB ?_ | refine aLn ?_ | refine cK ?_ | refine aS8 ?_ | refine wI ?_ | refine nD ?_ | refine aX rfl ?_)
      intro _u; clear _u
      refine cM false [1] (c7) ?_
      repeat ((intro _u; clear _u); first | refine eK ?_ | refine eP ?_)
      have c8 := dint_c h.n58 q7.2 2 (by omega) (by omega)
      generalize h8 : q7.2.num 2 = q8 at c8
      repeat ((intro _u; clear _u); first | with_reducible first | refine cT ?_ | refine cF ?_ | refine cA ?_ | refine cB ?_ | refine aLn ?_ | refine cK ?_ | refine aS8 ?_ | refine wI ?_ | refine nD ?_ | refine aX rfl ?_)
      intro _u; clear _u
      refine cM false [1] (c8) ?_
      repeat ((intro _u; clear _u); first | refine eK ?_ | refine eP ?_)
      have e0 : mdec b = if q8.2.fin ≠ 0 then (.zero, q8.2.fin) else if chk ⟨q1.1, q2.1, q3.1, 0, 0, 0, 0, 0, 0, 0, 0, q5.1, q6.1, q7.1, q8.1⟩ ≠ 0 then (.zero, chk ⟨q1.1, q2.1, q3.1, 0, 0, 0, 0, 0, 0, 0, 0, q5.1, q6.1, q7.1, q8.1⟩) else (⟨q1.1, q2.1, q3.1, 0, 0, 0, 0, 0, 0, 0, 0, q5.1, q6.1, q7.1, q8.1⟩, 0) := by
        unfold mdec mchain
        simp only [hr0, h1, h2, h3, h4, h5, h6, h7, h8, l4]
        rfl
      rw [e0]
      have c9 := end_c h.n60 q8.2
      repeat ((intro _u; clear _u); first | with_reducible first | refine cT ?_ | refine cF ?_ | refine cA ?_ | refine cB ?_ | refine aLn ?_ | refine cK ?_ | refine aS8 ?_ | refine wI ?_ | refine nD ?_ | refine aX rfl ?_)
      intro _u; clear _u
      refine cM false [1] (c9) ?_
      repeat ((intro _u; clear _u); first | refine eK ?_ | refine eP ?_)
      repeat ((intro _u; clear _u); first | with_reducible first | refine cT ?_ | refine cF ?_ | refine cA ?_ | refine cB ?_ | refine aLn ?_ | refine cK ?_ | refine aS8 ?_ | refine wI ?_ | refine nD ?_ | refine aX rfl ?_)
      intro _u; clear _u
      refine cS (fun h9 => ?_) (fun h9 => ?_)
      · rw [if_pos h9]
        repeat ((intro _u; clear _u); first | with_reducible first | refine cT ?_ | refine cF ?_ | refine cA ?_ | refine cB ?_ | refine aLn ?_ | refine cK ?_ | refine aS8 ?_ | refine wI ?_ | refine nD ?_ | refine aX rfl ?_)
        intro _u; clear _u
        exact rT
      · rw [if_neg (fun hh => hh h9)]
        repeat ((intro _u; clear _u); first | with_reducible first | refine cT ?_ | refine cF ?_ | refine cA ?_ | refine cB ?_ | refine aLn ?_ | refine cK ?_ | refine aS8 ?_ | refine wI ?_ | refine nD ?_ | refine aX rfl ?_)
        intro _u; clear _u
        refine ICall.pure h.n41.o41.hb (chk_c h.n41 ⟨q1.1, q2.1, q3.1, 0, 0, 0, 0, 0, 0, 0, 0, q5.1, q6.1, q7.1, q8.1⟩ (by simp only [inI]; omega)) rfl ?_
        repeat ((intro _u; clear _u); first | with_reducible first | refine cT ?_ | refine cF ?_ | refine cA ?_ | refine cB ?_ | refine aLn ?_ | refine cK ?_ | refine aS8 ?_ | refine wI ?_ | refine nD ?_ | refine aX rfl ?_)
        intro _u; clear _u
        refine cS (fun h10 => ?_) (fun h10 => ?_)
        · rw [if_pos h10]
          repeat ((intro _u; clear _u); first | with_reducible first | refine cT ?_ | refine cF ?_ | refine cA ?_ | refine cB ?_ | refine aLn ?_ | refine cK ?_ | refine aS8 ?_ | refine wI ?_ | refine nD ?_ | refine aX rfl ?_)
          intro _u; clear _u
          exact rT
        · rw [if_neg (fun hh => hh h10)]
          repeat ((intro _u; clear _u); first | with_reducible first | refine cT ?_ | refine cF ?_ | refine cA ?_ | refine cB ?_ | refine aLn ?_ | refine cK ?_ | refine aS8 ?_ | refine wI ?_ | refine nD ?_ | refine aX rfl ?_)
          intro _u; clear _u
          exact rT
end Go.UM

/- Package manifest, part 4: what the document says that bytes are. -/

namespace Go.UM
open Go.AM
set_option maxRecDepth 4000

theorem num_take {r : Rd} {w : Int} (h1 : 1 ≤ w) (h2 : w ≤ 8) : r.num w = (le (r.take w).1, (r.take w).2) := by
  unfold Rd.num; rw [if_neg (by omega)]

def RSt (L k : Nat) (r : Rd) : Prop := r.made = true ∧ ((r.e = 0 ∧ r.l.length + k = L) ∨ (r.e = 4 ∧ L < 35))
theorem RSt.num {L k : Nat} {r : Rd} (h : RSt L k r) (w : Nat) (h1 : 1 ≤ w) (h2 : w ≤ 8) (h3 : k + w ≤ 35) : RSt L (k + w) (r.num w).2 := by
  obtain ⟨hm, ⟨he, hl⟩ | ⟨he, hl⟩⟩ := h
  · obtain ⟨hm', ⟨a, b, c⟩ | ⟨a, b⟩⟩ := take_short (w := w) hm he (by omega) (by omega)
    · exact ⟨hm', .inl ⟨b, by omega⟩⟩
    · exact ⟨hm', .inr ⟨b, by omega⟩⟩
  · rw [num_take (by omega) (by omega)]
    have : r.take w = ([], r) := by unfold Rd.take; rw [if_pos (.inr (by omega))]
    rw [this]
    exact ⟨hm, .inr ⟨he, hl⟩⟩
theorem RSt.take {L k : Nat} {r : Rd} (h : RSt L k r) (h3 : k + 8 ≤ 35) : RSt L (k + 8) (r.take 8).2 := by
  have := h.num 8 (by omega) (by omega) h3
  rwa [num_take (by omega) (by omega)] at this

theorem mchain_fin (b : List UInt8) : (mchain ⟨b, 0, true⟩).2.fin = if b.length < 35 then 4 else if 35 < b.length then 5 else 0 := by
  have h0 : RSt b.length 0 ⟨b, 0, true⟩ := ⟨rfl, .inl ⟨rfl, rfl⟩⟩
  have h8 := (((((((h0.num 8 (by omega) (by omega) (by omega)).num 1 (by omega) (by omega) (by omega)).num 4 (by omega) (by omega) (by omega)).take (by omega)).num 4 (by omega) (by omega) (by omega)).num 4 (by omega) (by omega) (by omega)).num 4 (by omega) (by omega) (by omega)).num 2 (by omega) (by omega) (by omega)
  have h9 : RSt b.length 35 (mchain ⟨b, 0, true⟩).2 := h8
  obtain ⟨hm, ⟨he, hl⟩ | ⟨he, hl⟩⟩ := h9
  · unfold Rd.fin Rd.err
    rw [hm, he, if_neg (by simp)]
    repeat' split
    all_goals omega
  · unfold Rd.fin Rd.err
    rw [hm, he, if_pos (by simp), if_neg (by simp), if_pos hl]

theorem num_ok {l : List UInt8} {w : Int} (h1 : 1 ≤ w) (h2 : w ≤ 8) (hl : w ≤ l.length) : (⟨l, 0, true⟩ : Rd).num w = (le (l.take w.toNat), ⟨l.drop w.toNat, 0, true⟩) := by
  rw [num_take h1 h2]
  unfold Rd.take
  rw [if_neg (by simp), if_neg (by omega), if_neg (by simpa using hl)]
theorem num1 (c : UInt8) (l : List UInt8) : (⟨c :: l, 0, true⟩ : Rd).num 1 = (c.toNat, ⟨l, 0, true⟩) := by
  rw [num_ok (by omega) (by omega) (by simp; omega)]
  simp [le]

theorem drop8 {l : List UInt8} (h : 8 ≤ l.length) : ∃ c0 c1 c2 c3 c4 c5 c6 c7 r, l = c0 :: c1 :: c2 :: c3 :: c4 :: c5 :: c6 :: c7 :: r := by
  match l, h with
  | c0 :: c1 :: c2 :: c3 :: c4 :: c5 :: c6 :: c7 :: r, _ => exact ⟨c0, c1, c2, c3, c4, c5, c6, c7, r, rfl⟩

theorem rmdecode_c {R : Env} (h : N50 R) (b : List UInt8) (hb : b.length ≤ 1073741824) : R.Pc 50 [.isl 1 (slc8 b)] (.tup [.agg (mdec b).1.row, .int .i64 (mdec b).2]) :=
  h.o50.enter 100 rfl fun X bb hfit hp => by
    have hf := mchain_fin b
    have e0 : mdec b = if (mchain ⟨b, 0, true⟩).2.fin ≠ 0 then (.zero, (mchain ⟨b, 0, true⟩).2.fin) else if chk (mchain ⟨b, 0, true⟩).1 ≠ 0 then (.zero, chk (mchain ⟨b, 0, true⟩).1) else ((mchain ⟨b, 0, true⟩).1, 0) := rfl
    repeat ((intro _u; clear _u); first | with_reducible first | refine cT ?_ | refine cF ?_ | refine cA ?_ | refine cB ?_ | refine aLn ?_ | refine cK ?_ | refine aS8 ?_ | refine wI ?_ | refine nD ?_ | refine aX rfl ?_)
    intro _u; clear _u
    refine cS (fun h1 => ?_) (fun h1 => ?_)
    · rw [if_pos (by omega)] at hf
      rw [hf] at e0
      rw [e0]
      repeat ((intro _u; clear _u); first | with_reducible first | refine cT ?_ | refine cF ?_ | refine cA ?_ | refine cB ?_ | refine aLn ?_ | refine cK ?_ | refine aS8 ?_ | refine wI ?_ | refine nD ?_ | refine aX rfl ?_)
      intro _u; clear _u
      exact rT
    · repeat ((intro _u; clear _u); first | with_reducible first | refine cT ?_ | refine cF ?_ | refine cA ?_ | refine cB ?_ | refine aLn ?_ | refine cK ?_ | refine aS8 ?_ | refine wI ?_ | refine nD ?_ | refine aX rfl ?_)
      intro _u; clear _u
      refine cS (fun h2 => ?_) (fun h2 => ?_)
      · rw [if_neg (by omega), if_pos (by omega)] at hf
        rw [hf] at e0
        rw [e0]
        repeat ((intro _u; clear _u); first | with_reducible first | refine cT ?_ | refine cF ?_ | refine cA ?_ | refine cB ?_ | refine aLn ?_ | refine cK ?_ | refine aS8 ?_ | refine wI ?_ | refine nD ?_ | refine aX rfl ?_)
        intro _u; clear _u
        exact rT
      · rw [if_neg (by omega), if_neg (by omega)] at hf
        rw [hf] at e0
        have hl : b.length = 35 := by omega
        have ok0 : RdOk b ⟨b, 0, true⟩ := .new hb
        have c1 := rnum_c h.n61 b ⟨b, 0, true⟩ ok0 8
        have ok1 := ok0.num 8
        have n1 := num_ok (l := b) (w := 8) (by omega) (by omega) (by omega)
        have d1 : (b.drop (Int.toNat 8)).length = 27 := by simp; omega
        rw [n1] at c1 ok1
        generalize b.drop (Int.toNat 8) = b1 at *
        generalize le (b.take (Int.toNat 8)) = x1 at *
        repeat ((intro _u; clear _u); first | with_reducible first | refine cT ?_ | refine cF ?_ | refine cA ?_ | refine cB ?_ | refine aLn ?_ | refine cK ?_ | refine aS8 ?_ | refine wI ?_ | refine nD ?_ | refine aX rfl ?_)
        intro _u; clear _u
        refine cM false [1] (c1) ?_
        repeat ((intro _u; clear _u); first | refine eK ?_ | refine eP ?_)
        have c2 := rnum_c h.n61 b ⟨b1, 0, true⟩ ok1 1
        have ok2 := ok1.num 1
        have n2 := num_ok (l := b1) (w := 1) (by omega) (by omega) (by omega)
        have d2 : (b1.drop (Int.toNat 1)).length = 26 := by simp; omega
        have m2 : le (b1.take (Int.toNat 1)) < 256 := by
          have := le_lt (b1.take (Int.toNat 1))
          rw [show (b1.take (Int.toNat 1)).length = 1 by simp; omega] at this
          exact this
        rw [n2] at c2 ok2
        generalize b1.drop (Int.toNat 1) = b2 at *
        generalize le (b1.take (Int.toNat 1)) = x2 at *
        repeat ((intro _u; clear _u); first | with_reducible first | refine cT ?_ | refine cF ?_ | refine cA ?_ | refine cB ?_ | refine aLn ?_ | refine cK ?_ | refine aS8 ?_ | refine wI ?_ | refine nD ?_ | refine aX rfl ?_)
        intro _u; clear _u
        refine cM false [1] (c2) ?_
        repeat ((intro _u; clear _u); first | refine eK ?_ | refine eP ?_)
        have c3 := rnum_c h.n61 b ⟨b2, 0, true⟩ ok2 4
        have ok3 := ok2.num 4
        have n3 := num_ok (l := b2) (w := 4) (by omega) (by omega) (by omega)
        have d3 : (b2.drop (Int.toNat 4)).length = 22 := by simp; omega
        have m3 : le (b2.take (Int.toNat 4)) < 4294967296 := by
          have := le_lt (b2.take (Int.toNat 4))
          rw [show (b2.take (Int.toNat 4)).length = 4 by simp; omega] at this
          exact this
        rw [n3] at c3 ok3
        generalize b2.drop (Int.toNat 4) = b3 at *
        generalize le (b2.take (Int.toNat 4)) = x3 at *
        repeat ((intro _u; clear _u); first | with_reducible first | refine cT ?_ | refine cF ?_ | refine cA ?_ | refine cB ?_ | refine aLn ?_ | refine cK ?_ | refine aS8 ?_ | refine wI ?_ | refine nD ?_ | refine aX rfl ?_)
        intro _u; clear _u
        refine cM false [1] (c3) ?_
        repeat ((intro _u; clear _u); first | refine eK ?_ | refine eP ?_)
        obtain ⟨v0, v1, v2, v3, v4, v5, v6, v7, r, rfl⟩ := drop8 (l := b3) (by omega)
        have hv0 : v0.toNat < 256 := v0.toNat_lt
        have e1 := rnum_c h.n61 b _ ok3 1
        have p0 := ok3.num 1
        rw [num1] at e1 p0
        repeat ((intro _u; clear _u); first | with_reducible first | refine cT ?_ | refine cF ?_ | refine cA ?_ | refine cB ?_ | refine aLn ?_ | refine cK ?_ | refine aS8 ?_ | refine wI ?_ | refine nD ?_ | refine aX rfl ?_)
        intro _u; clear _u
        refine ILoop.one 100 ?_
        repeat ((intro _u; clear _u); first | with_reducible first | refine cT ?_ | refine cF ?_ | refine cA ?_ | refine cB ?_ | refine aLn ?_ | refine cK ?_ | refine aS8 ?_ | refine wI ?_ | refine nD ?_ | refine aX rfl ?_)
        intro _u; clear _u
        refine acnd_t (by decide) ?_
        repeat ((intro _u; clear _u); first | with_reducible first | refine cT ?_ | refine cF ?_ | refine cA ?_ | refine cB ?_ | refine aLn ?_ | refine cK ?_ | refine aS8 ?_ | refine wI ?_ | refine nD ?_ | refine aX rfl ?_)
        intro _u; clear _u
        refine cM false [1] (e1) ?_
        repeat ((intro _u; clear _u); first | refine eK ?_ | refine eP ?_)
        have hv1 : v1.toNat < 256 := v1.toNat_lt
        have e2 := rnum_c h.n61 b _ p0 1
        have p1 := p0.num 1
        rw [num1] at e2 p1
        repeat ((intro _u; clear _u); first | with_reducible first | refine cT ?_ | refine cF ?_ | refine cA ?_ | refine cB ?_ | refine aLn ?_ | refine cK ?_ | refine aS8 ?_ | refine wI ?_ | refine nD ?_ | refine aX rfl ?_)
        intro _u; clear _u
        refine ILoop.one 100 ?_
        repeat ((intro _u; clear _u); first | with_reducible first | refine cT ?_ | refine cF ?_ | refine cA ?_ | refine cB ?_ | refine aLn ?_ | refine cK ?_ | refine aS8 ?_ | refine wI ?_ | refine nD ?_ | refine aX rfl ?_)
        intro _u; clear _u
        refine acnd_t (by decide) ?_
        repeat ((intro _u; clear _u); first | with_reducible first | refine cT ?_ | refine cF ?_ | refine cA ?_ | refine cB ?_ | refine aLn ?_ | refine cK ?_ | refine aS8 ?_ | refine wI ?_ | refine nD ?_ | refine aX rfl ?_)
        intro _u; clear _u
        refine cM false [1] (e2) ?_
        repeat ((intro _u; clear _u); first | refine eK ?_ | refine eP ?_)
        have hv2 : v2.toNat < 256 := v2.toNat_lt
        have e3 := rnum_c h.n61 b _ p1 1
        have p2 := p1.num 1
        rw [num1] at e3 p2
        repeat ((intro _u; clear _u); first | with_reducible first | refine cT ?_ | refine cF ?_ | refine cA ?_ | refine cB ?_ | refine aLn ?_ | refine cK ?_ | refine aS8 ?_ | refine wI ?_ | refine nD ?_ | refine aX rfl ?_)
        intro _u; clear _u
        refine ILoop.one 100 ?_
        repeat ((intro _u; clear _u); first | with_reducible first | refine cT ?_ | refine cF ?_ | refine cA ?_ | refine cB ?_ | refine aLn ?_ | refine cK ?_ | refine aS8 ?_ | refine wI ?_ | refine nD ?_ | refine aX rfl ?_)
        intro _u; clear _u
        refine acnd_t (by decide) ?_
        repeat ((intro _u; clear _u); first | with_reducible first | refine cT ?_ | refine cF ?_ | refine cA ?_ | refine cB ?_ | refine aLn ?_ | refine cK ?_ | refine aS8 ?_ | refine wI ?_ | refine nD ?_ | refine aX rfl ?_)
        intro _u; clear _u
        refine cM false [1] (e3) ?_
        repeat ((intro _u; clear _u); first | refine eK ?_ | refine eP ?_)
        have hv3 : v3.toNat < 256 := v3.toNat_lt
        have e4 := rnum_c h.n61 b _ p2 1
        have p3 := p2.num 1
        rw [num1] at e4 p3
        repeat ((intro _u; clear _u); first | with_reducible first | refine cT ?_ | refine cF ?_ | refine cA ?_ | refine cB ?_ | refine aLn ?_ | refine cK ?_ | refine aS8 ?_ | refine wI ?_ | refine nD ?_ | refine aX rfl ?_)
        intro _u; clear _u
        refine ILoop.one 100 ?_
        repeat ((intro _u; clear _u); first | with_reducible first | refine cT ?_ | refine cF ?_ | refine cA ?_ | refine cB ?_ | refine aLn ?_ | refine cK ?_ | refine aS8 ?_ | refine wI ?_ | refine nD ?_ | refine aX rfl ?_)
        intro _u; clear _u
        refine acnd_t (by decide) ?_
        repeat ((intro _u; clear _u); first | with_reducible first | refine cT ?_ | refine cF ?_ | refine cA ?_ | refine cB ?_ | refine aLn ?_ | refine cK ?_ | refine aS8 ?_ | refine wI ?_ | refine nD ?_ | refine aX rfl ?_)
        intro _u; clear _u
        refine cM false [1] (e4) ?_
        repeat ((intro _u; clear _u); first | refine eK ?_ | refine eP ?_)
        have hv4 : v4.toNat < 256 := v4.toNat_lt
        have e5 := rnum_c h.n61 b _ p3 1
        have p4 := p3.num 1
        rw [num1] at e5 p4
        repeat ((intro _u; clear _u); first | with_reducible first | refine cT ?_ | refine cF ?_ | refine cA ?_ | refine cB ?_ | refine aLn ?_ | refine cK ?_ | refine aS8 ?_ | refine wI ?_ | refine nD ?_ | refine aX rfl ?_)
        intro _u; clear _u
        refine ILoop.one 100 ?_
        repeat ((intro _u; clear _u); first | with_reducible first | refine cT ?_ | refine cF ?_ | refine cA ?_ | refine cB ?_ | refine aLn ?_ | refine cK ?_ | refine aS8 ?_ | refine wI ?_ | refine nD ?_ | refine aX rfl ?_)
        intro _u; clear _u
        refine acnd_t (by decide) ?_
        repeat ((intro _u; clear _u); first | with_reducible first | refine cT ?_ | refine cF ?_ | refine cA ?_ | refine cB ?_ | refine aLn ?_ | refine cK ?_ | refine aS8 ?_ | refine wI ?_ | refine nD ?_ | refine aX rfl ?_)
        intro _u; clear _u
        refine cM false [1] (e5) ?_
        repeat ((intro _u; clear _u); first | refine eK ?_ | refine eP ?_)
        have hv5 : v5.toNat < 256 := v5.toNat_lt
        have e6 := rnum_c h.n61 b _ p4 1
        have p5 := p4.num 1
        rw [num1] at e6 p5
        repeat ((intro _u; clear _u); first | with_reducible first | refine cT ?_ | refine cF ?_ | refine cA ?_ | refine cB ?_ | refine aLn ?_ | refine cK ?_ | refine aS8 ?_ | refine wI ?_ | refine nD ?_ | refine aX rfl ?_)
        intro _u; clear _u
        refine ILoop.one 100 ?_
        repeat ((intro _u; clear _u); first | with_reducible first | refine cT ?_ | refine cF ?_ | refine cA ?_ | refine cB ?_ | refine aLn ?_ | refine cK ?_ | refine aS8 ?_ | refine wI ?_ | refine nD ?_ | refine aX rfl ?_)
        intro _u; clear _u
        refine acnd_t (by decide) ?_
        repeat ((intro _u; clear _u); first | with_reducible first | refine cT ?_ | refine cF ?_ | refine cA ?_ | refine cB ?_ | refine aLn ?_ | refine cK ?_ | refine aS8 ?_ | refine wI ?_ | refine nD ?_ | refine aX rfl ?_)
        intro _u; clear _u
        refine cM false [1] (e6) ?_
        repeat ((intro _u; clear _u); first | refine eK ?_ | refine eP ?_)
        have hv6 : v6.toNat < 256 := v6.toNat_lt
        have e7 := rnum_c h.n61 b _ p5 1
        have p6 := p5.num 1
        rw [num1] at e7 p6
        repeat ((intro _u; clear _u); first | with_reducible first | refine cT ?_ | refine cF ?_ | refine cA ?_ | refine cB ?_ | refine aLn ?_ | refine cK ?_ | refine aS8 ?_ | refine wI ?_ | refine nD ?_ | refine aX rfl ?_)
        intro _u; clear _u
        refine ILoop.one 100 ?_
        repeat ((intro _u; clear _u); first | with_reducible first | refine cT ?_ | refine cF ?_ | refine cA ?_ | refine cB ?_ | refine aLn ?_ | refine cK ?_ | refine aS8 ?_ | refine wI ?_ | refine nD ?_ | refine aX rfl ?_)
        intro _u; clear _u
        refine acnd_t (by decide) ?_
        repeat ((intro _u; clear _u); first | with_reducible first | refine cT ?_ | refine cF ?_ | refine cA ?_ | refine cB ?_ | refine aLn ?_ | refine cK ?_ | refine aS8 ?_ | refine wI ?_ | refine nD ?_ | refine aX rfl ?_)
        intro _u; clear _u
        refine cM false [1] (e7) ?_
        repeat ((intro _u; clear _u); first | refine eK ?_ | refine eP ?_)
        have hv7 : v7.toNat < 256 := v7.toNat_lt
        have e8 := rnum_c h.n61 b _ p6 1
        have p7 := p6.num 1
        rw [num1] at e8 p7
        repeat ((intro _u; clear _u); first | with_reducible first | refine cT ?_ | refine cF ?_ | refine cA ?_ | refine cB ?_ | refine aLn ?_ | refine cK ?_ | refine aS8 ?_ | refine wI ?_ | refine nD ?_ | refine aX rfl ?_)
        intro _u; clear _u
        refine ILoop.one 100 ?_
        repeat ((intro _u; clear _u); first | with_reducible first | refine cT ?_ | refine cF ?_ | refine cA ?_ | refine cB ?_ | refine aLn ?_ | refine cK ?_ | refine aS8 ?_ | refine wI ?_ | refine nD ?_ | refine aX rfl ?_)
        intro _u; clear _u
        refine acnd_t (by decide) ?_
        repeat ((intro _u; clear _u); first | with_reducible first | refine cT ?_ | refine cF ?_ | refine cA ?_ | refine cB ?_ | refine aLn ?_ | refine cK ?_ | refine aS8 ?_ | refine wI ?_ | refine nD ?_ | refine aX rfl ?_)
        intro _u; clear _u
        refine cM false [1] (e8) ?_
        repeat ((intro _u; clear _u); first | refine eK ?_ | refine eP ?_)
        repeat ((intro _u; clear _u); first | with_reducible first | refine cT ?_ | refine cF ?_ | refine cA ?_ | refine cB ?_ | refine aLn ?_ | refine cK ?_ | refine aS8 ?_ | refine wI ?_ | refine nD ?_ | refine aX rfl ?_)
        intro _u; clear _u
        refine ILoop.one 100 ?_
        repeat ((intro _u; clear _u); first | with_reducible first | refine cT ?_ | refine cF ?_ | refine cA ?_ | refine cB ?_ | refine aLn ?_ | refine cK ?_ | refine aS8 ?_ | refine wI ?_ | refine nD ?_ | refine aX rfl ?_)
        intro _u; clear _u
        refine acnd_f (by decide) ?_
        have d3' : r.length = 14 := by simpa using d3
        have c5 := rnum_c h.n61 b ⟨r, 0, true⟩ p7 4
        have ok5 := p7.num 4
        have n5 := num_ok (l := r) (w := 4) (by omega) (by omega) (by omega)
        have d5 : (r.drop (Int.toNat 4)).length = 10 := by simp; omega
        have m5 : le (r.take (Int.toNat 4)) < 4294967296 := by
          have := le_lt (r.take (Int.toNat 4))
          rw [show (r.take (Int.toNat 4)).length = 4 by simp; omega] at this
          exact this
        rw [n5] at c5 ok5
        generalize r.drop (Int.toNat 4) = b5 at *
        generalize le (r.take (Int.toNat 4)) = x5 at *
        repeat ((intro _u; clear _u); first | with_reducible first | refine cT ?_ | refine cF ?_ | refine cA ?_ | refine cB ?_ | refine aLn ?_ | refine cK ?_ | refine aS8 ?_ | refine wI ?_ | refine nD ?_ | refine aX rfl ?_)
        intro _u; clear _u
        refine cM false [1] (c5) ?_
        repeat ((intro _u; clear _u); first | refine eK ?_ | refine eP ?_)
        have c6 := rnum_c h.n61 b ⟨b5, 0, true⟩ ok5 4
        have ok6 := ok5.num 4
        have n6 := num_ok (l := b5) (w := 4) (by omega) (by omega) (by omega)
        have d6 : (b5.drop (Int.toNat 4)).length = 6 := by simp; omega
        have m6 : le (b5.take (Int.toNat 4)) < 4294967296 := by
          have := le_lt (b5.take (Int.toNat 4))
          rw [show (b5.take (Int.toNat 4)).length = 4 by simp; omega] at this
          exact this
        rw [n6] at c6 ok6
        generalize b5.drop (Int.toNat 4) = b6 at *
        generalize le (b5.take (Int.toNat 4)) = x6 at *
        repeat ((intro _u; clear _u); first | with_reducible first | refine cT ?_ | refine cF ?_ | refine cA ?_ | refine cB ?_ | refine aLn ?_ | refine cK ?_ | refine aS8 ?_ | refine wI ?_ | refine nD ?_ | refine aX rfl ?_)
        intro _u; clear _u
        refine cM false [1] (c6) ?_
        repeat ((intro _u; clear _u); first | refine eK ?_ | refine eP ?_)
        have c7 := rnum_c h.n61 b ⟨b6, 0, true⟩ ok6 4
        have ok7 := ok6.num 4
        have n7 := num_ok (l := b6) (w := 4) (by omega) (by omega) (by omega)
        have d7 : (b6.drop (Int.toNat 4)).length = 2 := by simp; omega
        have m7 : le (b6.take (Int.toNat 4)) < 4294967296 := by
          have := le_lt (b6.take (Int.toNat 4))
          rw [show (b6.take (Int.toNat 4)).length = 4 by simp; omega] at this
          exact this
        rw [n7] at c7 ok7
        generalize b6.drop (Int.toNat 4) = b7 at *
        generalize le (b6.take (Int.toNat 4)) = x7 at *
        repeat ((intro _u; clear _u); first | with_reducible first | refine cT ?_ | refine cF ?_ | refine cA ?_ | refine cB ?_ | refine aLn ?_ | refine cK ?_ | refine aS8 ?_ | refine wI ?_ | refine nD ?_ | refine aX rfl ?_)
        intro _u; clear _u
        refine cM false [1] (c7) ?_
        repeat ((intro _u; clear _u); first | refine eK ?_ | refine eP ?_)
        have c8 := rnum_c h.n61 b ⟨b7, 0, true⟩ ok7 2
        have ok8 := ok7.num 2
        have n8 := num_ok (l := b7) (w := 2) (by omega) (by omega) (by omega)
        have d8 : (b7.drop (Int.toNat 2)).length = 0 := by simp; omega
        have m8 : le (b7.take (Int.toNat 2)) < 65536 := by
          have := le_lt (b7.take (Int.toNat 2))
          rw [show (b7.take (Int.toNat 2)).length = 2 by simp; omega] at this
          exact this
        rw [n8] at c8 ok8
        generalize b7.drop (Int.toNat 2) = b8 at *
        generalize le (b7.take (Int.toNat 2)) = x8 at *
        repeat ((intro _u; clear _u); first | with_reducible first | refine cT ?_ | refine cF ?_ | refine cA ?_ | refine cB ?_ | refine aLn ?_ | refine cK ?_ | refine aS8 ?_ | refine wI ?_ | refine nD ?_ | refine aX rfl ?_)
        intro _u; clear _u
        refine cM false [1] (c8) ?_
        repeat ((intro _u; clear _u); first | refine eK ?_ | refine eP ?_)
        have ch : (mchain ⟨b, 0, true⟩).1 = ⟨x1, x2, x3, v0.toNat, v1.toNat, v2.toNat, v3.toNat, v4.toNat, v5.toNat, v6.toNat, v7.toNat, x5, x6, x7, x8⟩ := by
          have t8 : (⟨v0 :: v1 :: v2 :: v3 :: v4 :: v5 :: v6 :: v7 :: r, 0, true⟩ : Rd).take 8 = ([v0, v1, v2, v3, v4, v5, v6, v7], ⟨r, 0, true⟩) := by
            unfold Rd.take; rw [if_neg (by simp), if_neg (by omega), if_neg (by simp; omega)]; rfl
          unfold mchain
          simp only [n1, n2, n3, t8, n5, n6, n7, n8]
          rfl
        rw [ch] at e0
        repeat ((intro _u; clear _u); first | with_reducible first | refine cT ?_ | refine cF ?_ | refine cA ?_ | refine cB ?_ | refine aLn ?_ | refine cK ?_ | refine aS8 ?_ | refine wI ?_ | refine nD ?_ | refine aX rfl ?_)
        intro _u; clear _u
        refine ICall.pure h.n42.o42.hb (rchk_c h.n42 ⟨x1, x2, x3, v0.toNat, v1.toNat, v2.toNat, v3.toNat, v4.toNat, v5.toNat, v6.toNat, v7.toNat, x5, x6, x7, x8⟩ (by simp only [inI]; omega)) rfl ?_
        repeat ((intro _u; clear _u); first | with_reducible first | refine cT ?_ | refine cF ?_ | refine cA ?_ | refine cB ?_ | refine aLn ?_ | refine cK ?_ | refine aS8 ?_ | refine wI ?_ | refine nD ?_ | refine aX rfl ?_)
        intro _u; clear _u
        refine cS (fun h10 => ?_) (fun h10 => ?_)
        · rw [if_neg (fun hh => hh rfl), if_pos h10] at e0
          rw [e0]
          repeat ((intro _u; clear _u); first | with_reducible first | refine cT ?_ | refine cF ?_ | refine cA ?_ | refine cB ?_ | refine aLn ?_ | refine cK ?_ | refine aS8 ?_ | refine wI ?_ | refine nD ?_ | refine aX rfl ?_)
          intro _u; clear _u
          exact rT
        · rw [if_neg (fun hh => hh rfl), if_neg (fun hh => hh h10)] at e0
          rw [e0]
          repeat ((intro _u; clear _u); first | with_reducible first | refine cT ?_ | refine cF ?_ | refine cA ?_ | refine cB ?_ | refine aLn ?_ | refine cK ?_ | refine aS8 ?_ | refine wI ?_ | refine nD ?_ | refine aX rfl ?_)
          intro _u; clear _u
          exact rT
end Go.UM

/- Package manifest, part 5: there and back. -/

namespace Go.UM
open Go.AM
set_option maxRecDepth 4000

theorem enc_cons (w : Nat) (c : UInt8) (L : Nat) : enc (w + 1) ((c.toNat + 256 * L : Nat) : Int) = c :: enc w L := by
  unfold enc
  rw [List.range_succ_eq_map, List.map_cons, List.map_map]
  congr 1
  · have hc := c.toNat_lt
    have : ((c.toNat + 256 * L : Nat) : Int) / 256 ^ 0 = ((c.toNat + 256 * L : Nat) : Int) := by simp
    rw [this, ← u8_mod, show ((c.toNat + 256 * L : Nat) : Int) % 256 = c.toNat by omega, u8_toNat]
  · apply List.map_congr_left
    intro i _
    simp only [Function.comp_def, Nat.succ_eq_add_one]
    rw [Int.pow_succ', ← Int.ediv_ediv_of_nonneg (show (0 : Int) ≤ 256 by decide), show ((c.toNat + 256 * L : Nat) : Int) / 256 = L by have := c.toNat_lt; omega]

theorem enc_le : ∀ (l : List UInt8), enc l.length (le l) = l
  | [] => rfl
  | c :: l => by
    have : le (c :: l) = c.toNat + 256 * le l := rfl
    rw [this, List.length_cons, enc_cons, enc_le l]

theorem mdec_ok (b : List UInt8) : (mdec b).1.Ok := by
  have hz : Mf.zero.Ok := by
    refine ⟨?_, ?_, ?_, ?_, ?_, ?_, ?_, ?_⟩
    all_goals try (simp only [inI, Mf.zero]; omega)
    intro i
    rcases i with _ | _ | _ | _ | _ | _ | _ | _ | i <;> simp only [Mf.mask, Mf.zero] <;> omega
  have hb : ∀ l i, inI .u8 (byt l i) := fun l i => by
    have := (l.getD i 0).toNat_lt
    simp only [inI, byt]; omega
  have hm : (mchain ⟨b, 0, true⟩).1.Ok := by
    unfold mchain
    dsimp only
    have l1 : ((⟨b, 0, true⟩ : Rd).num 8).1 < 18446744073709551616 := num_lt _ (by omega) (by omega)
    generalize (⟨b, 0, true⟩ : Rd).num 8 = q1 at *
    have l2 : (q1.2.num 1).1 < 256 := num_lt _ (by omega) (by omega)
    generalize q1.2.num 1 = q2 at *
    have l3 : (q2.2.num 4).1 < 4294967296 := num_lt _ (by omega) (by omega)
    generalize q2.2.num 4 = q3 at *
    generalize q3.2.take 8 = q4 at *
    have l5 : (q4.2.num 4).1 < 4294967296 := num_lt _ (by omega) (by omega)
    generalize q4.2.num 4 = q5 at *
    have l6 : (q5.2.num 4).1 < 4294967296 := num_lt _ (by omega) (by omega)
    generalize q5.2.num 4 = q6 at *
    have l7 : (q6.2.num 4).1 < 4294967296 := num_lt _ (by omega) (by omega)
    generalize q6.2.num 4 = q7 at *
    have l8 : (q7.2.num 2).1 < 65536 := num_lt _ (by omega) (by omega)
    generalize q7.2.num 2 = q8 at *
    refine ⟨?_, ?_, ?_, ?_, ?_, ?_, ?_, ?_⟩
    all_goals try (simp only [inI]; omega)
    intro i
    have g := fun j => hb q4.1 j
    simp only [inI] at g
    rcases i with _ | _ | _ | _ | _ | _ | _ | _ | i
    · exact g 0
    · exact g 1
    · exact g 2
    · exact g 3
    · exact g 4
    · exact g 5
    · exact g 6
    · exact g 7
    · show 0 ≤ (0 : Int) ∧ (0 : Int) ≤ 255
      omega
  unfold mdec
  dsimp only
  split
  · exact hz
  · split
    · exact hz
    · exact hm

theorem mdec_bad {b : List UInt8} (h : (mdec b).2 ≠ 0) : (mdec b).1 = .zero := by
  unfold mdec at h ⊢
  dsimp only at h ⊢
  split
  · rfl
  · split
    · rfl
    · rename_i h1 h2
      rw [if_neg h1, if_neg h2] at h
      exact (h rfl).elim

theorem take8_ok (m : Mf) (T : List UInt8) : (⟨m.masks ++ T, 0, true⟩ : Rd).take 8 = (m.masks, ⟨T, 0, true⟩) := by
  unfold Rd.take
  rw [if_neg (by simp), if_neg (by omega), if_neg (by simp [Mf.masks]; omega)]
  rfl

theorem mdec_enc {m : Mf} (ok : m.Ok) (hc : chk m = 0) : mdec m.enc = (m, 0) := by
  have may := chk_may hc
  have mk := may.kind
  have mc := may.chunk
  have ms := may.size
  have okid := ok.id
  have okl := ok.label
  have okf := ok.first
  have oka := ok.last
  simp only [inI] at okid okl okf oka
  have e : m.enc = enc (Int.toNat 8) m.id ++ (enc (Int.toNat 1) m.kind ++ (enc (Int.toNat 4) m.label ++ (m.masks ++ (enc (Int.toNat 4) m.first ++ (enc (Int.toNat 4) m.last ++ (enc (Int.toNat 4) m.size ++ (enc (Int.toNat 2) m.chunks ++ []))))))) := by
    simp [Mf.enc, Mf.head, Mf.tail]
  have hb : ∀ i, i < 8 → byt m.masks i = m.mask i := fun i hi => by
    have h := ok.mask
    rcases i with _ | _ | _ | _ | _ | _ | _ | _ | i
    · exact u8_in (h 0)
    · exact u8_in (h 1)
    · exact u8_in (h 2)
    · exact u8_in (h 3)
    · exact u8_in (h 4)
    · exact u8_in (h 5)
    · exact u8_in (h 6)
    · exact u8_in (h 7)
    · omega
  have hch : mchain ⟨m.enc, 0, true⟩ = (m, ⟨[], 0, true⟩) := by
    rw [e]
    unfold mchain
    rw [num_enc (w := 8) (by omega) (by omega) (by simpa using by omega)]
    simp only
    rw [num_enc (w := 1) (by omega) (by omega) (by simpa using by omega)]
    simp only
    rw [num_enc (w := 4) (by omega) (by omega) (by simpa using by omega)]
    simp only [take8_ok]
    rw [num_enc (w := 4) (by omega) (by omega) (by simpa using by omega)]
    simp only
    rw [num_enc (w := 4) (by omega) (by omega) (by simpa using by omega)]
    simp only
    rw [num_enc (w := 4) (by omega) (by omega) (by simpa using by omega)]
    simp only
    rw [num_enc (w := 2) (by omega) (by omega) (by simpa using by omega)]
    simp only [hb 0 (by omega), hb 1 (by omega), hb 2 (by omega), hb 3 (by omega), hb 4 (by omega), hb 5 (by omega), hb 6 (by omega), hb 7 (by omega), Mf.mask]
    rw [Int.toNat_of_nonneg (by omega), Int.toNat_of_nonneg (by omega), Int.toNat_of_nonneg (by omega), Int.toNat_of_nonneg (by omega), Int.toNat_of_nonneg (by omega), Int.toNat_of_nonneg (by omega), Int.toNat_of_nonneg (by omega)]
  unfold mdec
  simp only [hch]
  rw [if_neg (by simp [Rd.fin, Rd.err]), if_neg (by simp [hc])]

theorem cut_at {l : List UInt8} (k : Nat) {n m : Nat} (h : l.length = m) (hm : m = k + n) : ∃ p r, l = p ++ r ∧ p.length = k ∧ r.length = n :=
  ⟨l.take k, l.drop k, (List.take_append_drop k l).symm, by simp; omega, by simp; omega⟩
theorem num_app {p l : List UInt8} {w : Int} (h1 : 1 ≤ w) (h2 : w ≤ 8) (hp : p.length = w.toNat) : (⟨p ++ l, 0, true⟩ : Rd).num w = (le p, ⟨l, 0, true⟩) := by
  rw [num_ok h1 h2 (by simp; omega), List.take_left' hp, List.drop_left' hp]
theorem enc_le' {p : List UInt8} {w : Nat} (hp : p.length = w) : enc w (le p) = p := by rw [← hp]; exact enc_le p

theorem mdec_good {b : List UInt8} (h : (mdec b).2 = 0) : chk (mdec b).1 = 0 ∧ (mdec b).1.enc = b := by
  have hf := mchain_fin b
  have e0 : mdec b = if (mchain ⟨b, 0, true⟩).2.fin ≠ 0 then (.zero, (mchain ⟨b, 0, true⟩).2.fin) else if chk (mchain ⟨b, 0, true⟩).1 ≠ 0 then (.zero, chk (mchain ⟨b, 0, true⟩).1) else ((mchain ⟨b, 0, true⟩).1, 0) := rfl
  by_cases h1 : (mchain ⟨b, 0, true⟩).2.fin = 0
  · rw [if_neg (fun hh => hh h1)] at e0
    by_cases h2 : chk (mchain ⟨b, 0, true⟩).1 = 0
    · rw [if_neg (fun hh => hh h2)] at e0
      rw [e0]
      refine ⟨h2, ?_⟩
      have hl : b.length = 35 := by
        rw [h1] at hf
        split at hf
        · omega
        · split at hf
          · omega
          · omega
      clear e0 h hf h1 h2
      obtain ⟨p1, b, rfl, l1, hl⟩ := cut_at 8 (n := 27) hl rfl
      obtain ⟨p2, b, rfl, l2, hl⟩ := cut_at 1 (n := 26) hl rfl
      obtain ⟨p3, b, rfl, l3, hl⟩ := cut_at 4 (n := 22) hl rfl
      obtain ⟨p4, b, rfl, l4, hl⟩ := cut_at 8 (n := 14) hl rfl
      obtain ⟨p5, b, rfl, l5, hl⟩ := cut_at 4 (n := 10) hl rfl
      obtain ⟨p6, b, rfl, l6, hl⟩ := cut_at 4 (n := 6) hl rfl
      obtain ⟨p7, p8, rfl, l7, l8⟩ := cut_at 4 (n := 2) hl rfl
      have t4 : ∀ T, (⟨p4 ++ T, 0, true⟩ : Rd).take 8 = (p4, ⟨T, 0, true⟩) := fun T => by
        unfold Rd.take
        rw [if_neg (by simp), if_neg (by omega), if_neg (by simp; omega)]
        simp only [List.take_left' (show p4.length = Int.toNat 8 from l4), List.drop_left' (show p4.length = Int.toNat 8 from l4)]
      have n8 : (⟨p8, 0, true⟩ : Rd).num 2 = (le p8, ⟨[], 0, true⟩) := by
        have := num_app (p := p8) (l := []) (w := 2) (by omega) (by omega) l8
        rwa [List.append_nil] at this
      have hch : (mchain ⟨p1 ++ (p2 ++ (p3 ++ (p4 ++ (p5 ++ (p6 ++ (p7 ++ p8)))))), 0, true⟩).1 = ⟨le p1, le p2, le p3, byt p4 0, byt p4 1, byt p4 2, byt p4 3, byt p4 4, byt p4 5, byt p4 6, byt p4 7, le p5, le p6, le p7, le p8⟩ := by
        unfold mchain
        dsimp only
        rw [num_app (w := 8) (by omega) (by omega) l1]
        dsimp only
        rw [num_app (w := 1) (by omega) (by omega) l2]
        dsimp only
        rw [num_app (w := 4) (by omega) (by omega) l3]
        dsimp only
        rw [t4]
        dsimp only
        rw [num_app (w := 4) (by omega) (by omega) l5]
        dsimp only
        rw [num_app (w := 4) (by omega) (by omega) l6]
        dsimp only
        rw [num_app (w := 4) (by omega) (by omega) l7]
        dsimp only
        rw [n8]
      rw [hch]
      have hms : (⟨le p1, le p2, le p3, byt p4 0, byt p4 1, byt p4 2, byt p4 3, byt p4 4, byt p4 5, byt p4 6, byt p4 7, le p5, le p6, le p7, le p8⟩ : Mf).masks = p4 := by
        obtain ⟨v0, v1, v2, v3, v4, v5, v6, v7, r, rfl⟩ := drop8 (l := p4) (by omega)
        have : r = [] := List.eq_nil_of_length_eq_zero (by simpa using l4)
        subst this
        simp only [Mf.masks, byt, List.getD_cons_zero, List.getD_cons_succ, u8_toNat]
      unfold Mf.enc
      rw [hms]
      simp only [Mf.head, Mf.tail, enc_le' l1, enc_le' l2, enc_le' l3, enc_le' l5, enc_le' l6, enc_le' l7, enc_le' l8, List.append_assoc]
    · rw [if_pos h2] at e0
      rw [e0] at h
      exact (h2 h).elim
  · rw [if_pos h1] at e0
    rw [e0] at h
    exact (h1 h).elim
end Go.UM

/- The statements of chapter 12. -/


namespace Go.UM
open Go.AM
set_option maxRecDepth 4000

theorem length_c {R : Env} (h : N52 R) : R.Pc 52 [] (.int .i64 35) :=
  h.o52.enter 60 rfl fun X b hfit hp => by
    repeat ((intro _u; clear _u); first | with_reducible first | refine cT ?_ | refine cF ?_ | refine cA ?_ | refine cB ?_ | refine aLn ?_ | refine cK ?_ | refine aS8 ?_ | refine wI ?_ | refine nD ?_ | refine aX rfl ?_)
    intro _u; clear _u
    exact rT

theorem works12_c {R : Env} (h : N43 R) : R.Pc 43 [] (.bool true) :=
  h.o43.enter 60 rfl fun X b hfit hp => by
    repeat ((intro _u; clear _u); first | with_reducible first | refine cT ?_ | refine cF ?_ | refine cA ?_ | refine cB ?_ | refine aLn ?_ | refine cK ?_ | refine aS8 ?_ | refine wI ?_ | refine nD ?_ | refine aX rfl ?_)
    intro _u; clear _u
    refine ICall.pure h.n41.o41.hb (chk_c h.n41 ⟨0, 4, 0, 0, 0, 0, 0, 0, 0, 0, 0, 0, 0, 40, 1⟩ (by simp [inI])) rfl ?_
    repeat ((intro _u; clear _u); first | with_reducible first | refine cT ?_ | refine cF ?_ | refine cA ?_ | refine cB ?_ | refine aLn ?_ | refine cK ?_ | refine aS8 ?_ | refine wI ?_ | refine nD ?_ | refine aX rfl ?_)
    intro _u; clear _u
    refine acnd_t (by decide) ?_
    repeat ((intro _u; clear _u); first | with_reducible first | refine cT ?_ | refine cF ?_ | refine cA ?_ | refine cB ?_ | refine aLn ?_ | refine cK ?_ | refine aS8 ?_ | refine wI ?_ | refine nD ?_ | refine aX rfl ?_)
    intro _u; clear _u
    refine ICall.pure h.n41.o41.hb (chk_c h.n41 ⟨0, 4, 0, 0, 0, 0, 0, 0, 0, 0, 0, 0, 0, 65, 1⟩ (by simp [inI])) rfl ?_
    repeat ((intro _u; clear _u); first | with_reducible first | refine cT ?_ | refine cF ?_ | refine cA ?_ | refine cB ?_ | refine aLn ?_ | refine cK ?_ | refine aS8 ?_ | refine wI ?_ | refine nD ?_ | refine aX rfl ?_)
    intro _u; clear _u
    refine acnd_t (by decide) ?_
    repeat ((intro _u; clear _u); first | with_reducible first | refine cT ?_ | refine cF ?_ | refine cA ?_ | refine cB ?_ | refine aLn ?_ | refine cK ?_ | refine aS8 ?_ | refine wI ?_ | refine nD ?_ | refine aX rfl ?_)
    intro _u; clear _u
    refine ICall.pure h.n39.o39.hb (chunks_c h.n39 257 (by simp [inI])) rfl ?_
    repeat ((intro _u; clear _u); first | with_reducible first | refine cT ?_ | refine cF ?_ | refine cA ?_ | refine cB ?_ | refine aLn ?_ | refine cK ?_ | refine aS8 ?_ | refine wI ?_ | refine nD ?_ | refine aX rfl ?_)
    intro _u; clear _u
    refine acnd_t (by decide) ?_
    repeat ((intro _u; clear _u); first | with_reducible first | refine cT ?_ | refine cF ?_ | refine cA ?_ | refine cB ?_ | refine aLn ?_ | refine cK ?_ | refine aS8 ?_ | refine wI ?_ | refine nD ?_ | refine aX rfl ?_)
    intro _u; clear _u
    refine ICall.pure h.n52.o52.hb (length_c h.n52) rfl ?_
    repeat ((intro _u; clear _u); first | with_reducible first | refine cT ?_ | refine cF ?_ | refine cA ?_ | refine cB ?_ | refine aLn ?_ | refine cK ?_ | refine aS8 ?_ | refine wI ?_ | refine nD ?_ | refine aX rfl ?_)
    intro _u; clear _u
    exact rT

theorem checks_c {R : Env} (h : N36 R) (m : Mf) (hs : inI .i64 m.size) (k : Int) (hk : inI .i64 k) : R.Pc 36 [.agg m.row, .int .i64 k] (.bool true) :=
  h.o36.enter 100 rfl fun X b hfit hp => by
    repeat ((intro _u; clear _u); first | with_reducible first | refine cT ?_ | refine cF ?_ | refine cA ?_ | refine cB ?_ | refine aLn ?_ | refine cK ?_ | refine aS8 ?_ | refine wI ?_ | refine nD ?_ | refine aX rfl ?_)
    intro _u; clear _u
    refine ICall.pure h.n37.o37.hb (cap_c h.n37 k) rfl ?_
    repeat ((intro _u; clear _u); first | with_reducible first | refine cT ?_ | refine cF ?_ | refine cA ?_ | refine cB ?_ | refine aLn ?_ | refine cK ?_ | refine aS8 ?_ | refine wI ?_ | refine nD ?_ | refine aX rfl ?_)
    intro _u; clear _u
    refine ICall.pure h.n38.o38.hb (rcap_c h.n38 k) rfl ?_
    repeat ((intro _u; clear _u); first | with_reducible first | refine cT ?_ | refine cF ?_ | refine cA ?_ | refine cB ?_ | refine aLn ?_ | refine cK ?_ | refine aS8 ?_ | refine wI ?_ | refine nD ?_ | refine aX rfl ?_)
    intro _u; clear _u
    refine acnd_t (by simp) ?_
    repeat ((intro _u; clear _u); first | with_reducible first | refine cT ?_ | refine cF ?_ | refine cA ?_ | refine cB ?_ | refine aLn ?_ | refine cK ?_ | refine aS8 ?_ | refine wI ?_ | refine nD ?_ | refine aX rfl ?_)
    intro _u; clear _u
    refine ICall.pure h.n39.o39.hb (chunks_c h.n39 k hk) rfl ?_
    repeat ((intro _u; clear _u); first | with_reducible first | refine cT ?_ | refine cF ?_ | refine cA ?_ | refine cB ?_ | refine aLn ?_ | refine cK ?_ | refine aS8 ?_ | refine wI ?_ | refine nD ?_ | refine aX rfl ?_)
    intro _u; clear _u
    refine ICall.pure h.n40.o40.hb (rchunks_c h.n40 k hk) rfl ?_
    repeat ((intro _u; clear _u); first | with_reducible first | refine cT ?_ | refine cF ?_ | refine cA ?_ | refine cB ?_ | refine aLn ?_ | refine cK ?_ | refine aS8 ?_ | refine wI ?_ | refine nD ?_ | refine aX rfl ?_)
    intro _u; clear _u
    refine acnd_t (by simp) ?_
    repeat ((intro _u; clear _u); first | with_reducible first | refine cT ?_ | refine cF ?_ | refine cA ?_ | refine cB ?_ | refine aLn ?_ | refine cK ?_ | refine aS8 ?_ | refine wI ?_ | refine nD ?_ | refine aX rfl ?_)
    intro _u; clear _u
    refine ICall.pure h.n41.o41.hb (chk_c h.n41 m hs) rfl ?_
    repeat ((intro _u; clear _u); first | with_reducible first | refine cT ?_ | refine cF ?_ | refine cA ?_ | refine cB ?_ | refine aLn ?_ | refine cK ?_ | refine aS8 ?_ | refine wI ?_ | refine nD ?_ | refine aX rfl ?_)
    intro _u; clear _u
    refine ICall.pure h.n42.o42.hb (rchk_c h.n42 m hs) rfl ?_
    repeat ((intro _u; clear _u); first | with_reducible first | refine cT ?_ | refine cF ?_ | refine cA ?_ | refine cB ?_ | refine aLn ?_ | refine cK ?_ | refine aS8 ?_ | refine wI ?_ | refine nD ?_ | refine aX rfl ?_)
    intro _u; clear _u
    refine acnd_t (by simp) ?_
    repeat ((intro _u; clear _u); first | with_reducible first | refine cT ?_ | refine cF ?_ | refine cA ?_ | refine cB ?_ | refine aLn ?_ | refine cK ?_ | refine aS8 ?_ | refine wI ?_ | refine nD ?_ | refine aX rfl ?_)
    intro _u; clear _u
    refine ICall.pure h.n43.o43.hb (works12_c h.n43) rfl ?_
    repeat ((intro _u; clear _u); first | with_reducible first | refine cT ?_ | refine cF ?_ | refine cA ?_ | refine cB ?_ | refine aLn ?_ | refine cK ?_ | refine aS8 ?_ | refine wI ?_ | refine nD ?_ | refine aX rfl ?_)
    intro _u; clear _u
    exact rT
end Go.UM

/- The statements of chapter 12, part 2. -/


namespace Go.UM
open Go.AM
set_option maxRecDepth 4000

theorem Mf.mask_in {a b c : Int} {m0 m1 m2 m3 m4 m5 m6 m7 : Int} {p q r s : Int} (h0 : inI .u8 m0) (h1 : inI .u8 m1) (h2 : inI .u8 m2) (h3 : inI .u8 m3) (h4 : inI .u8 m4) (h5 : inI .u8 m5) (h6 : inI .u8 m6) (h7 : inI .u8 m7) (i : Nat) :
    0 ≤ (⟨a, b, c, m0, m1, m2, m3, m4, m5, m6, m7, p, q, r, s⟩ : Mf).mask i ∧ (⟨a, b, c, m0, m1, m2, m3, m4, m5, m6, m7, p, q, r, s⟩ : Mf).mask i ≤ 255 := by
  simp only [inI] at *
  rcases i with _ | _ | _ | _ | _ | _ | _ | _ | i <;> simp only [Mf.mask] <;> omega

theorem mencodes_law {R : Env} (h : N44 R) (m : Mf) (ok : m.Ok) : R.Pc 44 [.agg m.row] (.bool true) :=
  h.o44.enter 100 rfl fun X bb hfit hp => by
    repeat ((intro _u; clear _u); first | with_reducible first | refine cT ?_ | refine cF ?_ | refine cA ?_ | refine cB ?_ | refine aLn ?_ | refine cK ?_ | refine aS8 ?_ | refine wI ?_ | refine nD ?_ | refine aX rfl ?_)
    intro _u; clear _u
    refine ICall.pure h.n45.o45.hb (mencode_c h.n45 m ok) rfl ?_
    repeat ((intro _u; clear _u); first | with_reducible first | refine cT ?_ | refine cF ?_ | refine cA ?_ | refine cB ?_ | refine aLn ?_ | refine cK ?_ | refine aS8 ?_ | refine wI ?_ | refine nD ?_ | refine aX rfl ?_)
    intro _u; clear _u
    refine ICall.pure h.n46.o46.hb (rmencode_c h.n46 m ok) rfl ?_
    repeat ((intro _u; clear _u); first | with_reducible first | refine cT ?_ | refine cF ?_ | refine cA ?_ | refine cB ?_ | refine aLn ?_ | refine cK ?_ | refine aS8 ?_ | refine wI ?_ | refine nD ?_ | refine aX rfl ?_)
    intro _u; clear _u
    refine ICall.pure h.n47.o47.hb (eq8_c h.n47 (mencs m).1 (mencs m).1) rfl ?_
    repeat ((intro _u; clear _u); first | with_reducible first | refine cT ?_ | refine cF ?_ | refine cA ?_ | refine cB ?_ | refine aLn ?_ | refine cK ?_ | refine aS8 ?_ | refine wI ?_ | refine nD ?_ | refine aX rfl ?_)
    intro _u; clear _u
    refine acnd_t (by simp) ?_
    repeat ((intro _u; clear _u); first | with_reducible first | refine cT ?_ | refine cF ?_ | refine cA ?_ | refine cB ?_ | refine aLn ?_ | refine cK ?_ | refine aS8 ?_ | refine wI ?_ | refine nD ?_ | refine aX rfl ?_)
    intro _u; clear _u
    refine acnd_t (by simp) ?_
    repeat ((intro _u; clear _u); first | with_reducible first | refine cT ?_ | refine cF ?_ | refine cA ?_ | refine cB ?_ | refine aLn ?_ | refine cK ?_ | refine aS8 ?_ | refine wI ?_ | refine nD ?_ | refine aX rfl ?_)
    intro _u; clear _u
    refine ICall.pure h.n43.o43.hb (works12_c h.n43) rfl ?_
    repeat ((intro _u; clear _u); first | with_reducible first | refine cT ?_ | refine cF ?_ | refine cA ?_ | refine cB ?_ | refine aLn ?_ | refine cK ?_ | refine aS8 ?_ | refine wI ?_ | refine nD ?_ | refine aX rfl ?_)
    intro _u; clear _u
    exact rT
end Go.UM
