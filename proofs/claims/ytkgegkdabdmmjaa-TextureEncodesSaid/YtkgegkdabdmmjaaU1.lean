/- Of the reckoning machine, and what is proved with it: texts joined by program. -/
import Derived.Test.YtkgegkdabdmmjaaU0
import Derived.Test.YtkgegkdabdmmjaaK2
set_option linter.all false

/- The document's codec (umbraref11): what each function hands back. -/


namespace Go.UM
open Go.AM
set_option maxRecDepth 4000

theorem pow_le8 {w : Int} (h : w ≤ 8) : (256 : Int) ^ w.toNat ≤ 18446744073709551616 := by
  have : (256 : Nat) ^ w.toNat ≤ 256 ^ 8 := Nat.pow_le_pow_right (by decide) (by omega)
  have h2 : ((256 : Int) ^ w.toNat) = ((256 ^ w.toNat : Nat) : Int) := by rw [Int.natCast_pow]; rfl
  omega
theorem pow_ge1 (n : Nat) : (1 : Int) ≤ 256 ^ n := Int.pow_pos (by decide)

theorem most_c {R : Env} (h : N63 R) (w : Int) (hw : w ≤ 8) : R.Pc 63 [.int .i64 w] (.int .u64 (256 ^ w.toNat - 1)) :=
  h.o63.enter 100 rfl fun X bb hfit hp => by
    repeat ((intro _u; clear _u); first | with_reducible first | refine cT ?_ | refine cF ?_ | refine cA ?_ | refine cB ?_ | refine aLn ?_ | refine cK ?_ | refine aS8 ?_ | refine wI ?_ | refine nD ?_ | refine aX rfl ?_)
    intro _u; clear _u
    refine lPa 100 (fun i : Nat => i ≤ w.toNat) (fun i => ⟨[(0, .int .i64 w), (3, .int .u64 (256 ^ i - 1)), (4, .int .i64 i)], [], 0⟩) (fun i => w.toNat - i) (0) ?_ ?_
    · exact Nat.zero_le _
    · intro i hi
      dsimp only
      repeat ((intro _u; clear _u); first | with_reducible first | refine cT ?_ | refine cF ?_ | refine cA ?_ | refine cB ?_ | refine aLn ?_ | refine cK ?_ | refine aS8 ?_ | refine wI ?_ | refine nD ?_ | refine aX rfl ?_)
      intro _u; clear _u
      refine cS (fun h1 => ?_) (fun h1 => ?_)
      · have hp8 : (256 : Int) ^ (i + 1) ≤ 18446744073709551616 := by
          have := pow_le8 (w := (i + 1 : Nat)) (by omega)
          simpa using this
        rw [Int.pow_succ] at hp8
        have hp1 := pow_ge1 i
        repeat ((intro _u; clear _u); first | with_reducible first | refine cT ?_ | refine cF ?_ | refine cA ?_ | refine cB ?_ | refine aLn ?_ | refine cK ?_ | refine aS8 ?_ | refine wI ?_ | refine nD ?_ | refine aX rfl ?_)
        intro _u; clear _u
        refine nXa (i + 1) ?_ ?_
        · omega
        · omega
      · repeat ((intro _u; clear _u); first | with_reducible first | refine cT ?_ | refine cF ?_ | refine cA ?_ | refine cB ?_ | refine aLn ?_ | refine cK ?_ | refine aS8 ?_ | refine wI ?_ | refine nD ?_ | refine aX rfl ?_)
        intro _u; clear _u
        refine rT ?_
        all_goals repeat' (first | exact True.intro | refine And.intro ?_ ?_ | (intro _u; clear _u) | with_reducible first | refine eM ?_ ?_ | refine eF ?_ ?_ ?_ | refine eN ?_ | refine eL ?_ ?_ ?_ | refine eA ?_ ?_ | refine IWk.mk ⟨_, hp, rfl⟩ ?_ ?_)
        all_goals first | with_reducible rfl | omega | exact Or.inl (by decide) | (simp; done) | rfl | skip
        rw [show i = w.toNat by omega]


theorem rput_c {R : Env} (h : N55 R) (b : List UInt8) (w : Int) (n : List Int) (hl : b.length + 8 * n.length ≤ 1073741824) (hn : ∀ x ∈ n, 0 ≤ x ∧ x ≤ 18446744073709551615) :
    R.Mc 55 [.isl 1 (slc8 b), .int .i64 w, .isl 1 (slcK .u64 n)] [] (.tup [.osl 0 (puts b w n).1.length, .int .i64 (puts b w n).2]) [(0, .arr (R.ty 4) 1 (slc8 (puts b w n).1))] 1 :=
  h.o55.enterM 100 0 rfl rfl rfl fun X bb hfit hp => by
    generalize hq : puts b w n = q
    repeat ((intro _u; clear _u); first | with_reducible first | refine cT ?_ | refine cF ?_ | refine cA ?_ | refine cB ?_ | refine aLn ?_ | refine cK ?_ | refine aS8 ?_ | refine wI ?_ | refine nD ?_ | refine aX rfl ?_)
    intro _u; clear _u
    refine cS (fun h1 => ?_) (fun h1 => ?_)
    · rw [puts, if_pos (.inl h1)] at hq
      subst hq
      repeat ((intro _u; clear _u); first | with_reducible first | refine cT ?_ | refine cF ?_ | refine cA ?_ | refine cB ?_ | refine aLn ?_ | refine cK ?_ | refine aS8 ?_ | refine wI ?_ | refine nD ?_ | refine aX rfl ?_)
      intro _u; clear _u
      exact rM [50]
    · repeat ((intro _u; clear _u); first | with_reducible first | refine cT ?_ | refine cF ?_ | refine cA ?_ | refine cB ?_ | refine aLn ?_ | refine cK ?_ | refine aS8 ?_ | refine wI ?_ | refine nD ?_ | refine aX rfl ?_)
      intro _u; clear _u
      refine cS (fun h2 => ?_) (fun h2 => ?_)
      · rw [puts, if_pos (.inr h2)] at hq
        subst hq
        repeat ((intro _u; clear _u); first | with_reducible first | refine cT ?_ | refine cF ?_ | refine cA ?_ | refine cB ?_ | refine aLn ?_ | refine cK ?_ | refine aS8 ?_ | refine wI ?_ | refine nD ?_ | refine aX rfl ?_)
        intro _u; clear _u
        exact rM [50]
      · repeat ((intro _u; clear _u); first | with_reducible first | refine cT ?_ | refine cF ?_ | refine cA ?_ | refine cB ?_ | refine aLn ?_ | refine cK ?_ | refine aS8 ?_ | refine wI ?_ | refine nD ?_ | refine aX rfl ?_)
        intro _u; clear _u
        refine lPa 100 (fun k : Nat => k ≤ n.length ∧ (n.take k).any (fun x => decide (256 ^ w.toNat ≤ x)) = false) (fun k => ⟨[(1, .int .i64 w), (2, .isl 1 (slcK .u64 n)), (8, .osl 0 (b ++ (n.take k).flatMap (enc w.toNat)).length), (9, .int .i64 k)], [(0, .arr (R.ty 4) 1 (slc8 (b ++ (n.take k).flatMap (enc w.toNat))))], 1⟩) (fun k => n.length - k) (0) ?_ ?_
        · exact ⟨Nat.zero_le _, by simp⟩
        · intro k hk
          dsimp only
          repeat ((intro _u; clear _u); first | with_reducible first | refine cT ?_ | refine cF ?_ | refine cA ?_ | refine cB ?_ | refine aLn ?_ | refine cK ?_ | refine aS8 ?_ | refine wI ?_ | refine nD ?_ | refine aX rfl ?_)
          intro _u; clear _u
          refine cS (fun h3 => ?_) (fun h3 => ?_)
          · obtain ⟨x, hx⟩ : ∃ u_, n[k]? = some u_ := ⟨_, List.getElem?_eq_getElem (by first | omega | (simp <;> omega))⟩
            repeat ((intro _u; clear _u); first | with_reducible first | refine cT ?_ | refine cF ?_ | refine cA ?_ | refine cB ?_ | refine aLn ?_ | refine cK ?_ | refine aS8 ?_ | refine wI ?_ | refine nD ?_ | refine aX rfl ?_)
            intro _u; clear _u
            refine eget_map hx ?_
            have hxk := hx
            have hx := hn x (List.mem_of_getElem? hxk)
            repeat ((intro _u; clear _u); first | with_reducible first | refine cT ?_ | refine cF ?_ | refine cA ?_ | refine cB ?_ | refine aLn ?_ | refine cK ?_ | refine aS8 ?_ | refine wI ?_ | refine nD ?_ | refine aX rfl ?_)
            intro _u; clear _u
            refine ICall.pure h.n63.o63.hb (most_c h.n63 w h2) rfl ?_
            repeat ((intro _u; clear _u); first | with_reducible first | refine cT ?_ | refine cF ?_ | refine cA ?_ | refine cB ?_ | refine aLn ?_ | refine cK ?_ | refine aS8 ?_ | refine wI ?_ | refine nD ?_ | refine aX rfl ?_)
            intro _u; clear _u
            refine cS (fun h5 => ?_) (fun h5 => ?_)
            · rw [puts_bad (by omega) (by omega) (List.mem_of_getElem? hxk) (by omega)] at hq
              subst hq
              repeat ((intro _u; clear _u); first | with_reducible first | refine cT ?_ | refine cF ?_ | refine cA ?_ | refine cB ?_ | refine aLn ?_ | refine cK ?_ | refine aS8 ?_ | refine wI ?_ | refine nD ?_ | refine aX rfl ?_)
              intro _u; clear _u
              exact rM [50]
            · have hnb : ¬ 256 ^ w.toNat ≤ x := by omega
              repeat ((intro _u; clear _u); first | with_reducible first | refine cT ?_ | refine cF ?_ | refine cA ?_ | refine cB ?_ | refine aLn ?_ | refine cK ?_ | refine aS8 ?_ | refine wI ?_ | refine nD ?_ | refine aX rfl ?_)
              intro _u; clear _u
              refine eget_map hxk ?_
              repeat ((intro _u; clear _u); first | with_reducible first | refine cT ?_ | refine cF ?_ | refine cA ?_ | refine cB ?_ | refine aLn ?_ | refine cK ?_ | refine aS8 ?_ | refine wI ?_ | refine nD ?_ | refine aX rfl ?_)
              intro _u; clear _u
              refine lPa 100 (fun i : Nat => (i : Int) ≤ w) (fun i => ⟨[(1, .int .i64 w), (2, .isl 1 (slcK .u64 n)), (8, .osl 0 (b ++ (n.take k).flatMap (enc w.toNat) ++ enc i x).length), (9, .int .i64 k), (10, .int .u64 (x / 256 ^ i)), (11, .int .i64 i)], [(0, .arr (R.ty 4) 1 (slc8 (b ++ (n.take k).flatMap (enc w.toNat) ++ enc i x)))], 1⟩) (fun i => w.toNat - i) (0) ?_ ?_
              · show (0 : Int) ≤ w
                omega
              · intro i hi
                dsimp only
                repeat ((intro _u; clear _u); first | with_reducible first | refine cT ?_ | refine cF ?_ | refine cA ?_ | refine cB ?_ | refine aLn ?_ | refine cK ?_ | refine aS8 ?_ | refine wI ?_ | refine nD ?_ | refine aX rfl ?_)
                intro _u; clear _u
                refine cS (fun h6 => ?_) (fun h6 => ?_)
                · repeat ((intro _u; clear _u); first | with_reducible first | refine cT ?_ | refine cF ?_ | refine cA ?_ | refine cB ?_ | refine aLn ?_ | refine cK ?_ | refine aS8 ?_ | refine wI ?_ | refine nD ?_ | refine aX rfl ?_)
                  intro _u; clear _u
                  refine iwr_any ?_
                  repeat ((intro _u; clear _u); first | with_reducible first | refine cT ?_ | refine cF ?_ | refine cA ?_ | refine cB ?_ | refine aLn ?_ | refine cK ?_ | refine aS8 ?_ | refine wI ?_ | refine nD ?_ | refine aX rfl ?_)
                  intro _u; clear _u
                  refine ⟨by rw [slc8_length]; exact put_room hl h2 h1 h3 h6, ?_⟩
                  have hxi : 0 ≤ x / 256 ^ i := Int.ediv_nonneg hx.1 (by have := pow_ge1 i; omega)
                  have hxl : x / 256 ^ i ≤ x := Int.ediv_le_self _ hx.1
                  repeat ((intro _u; clear _u); first | with_reducible first | refine cT ?_ | refine cF ?_ | refine cA ?_ | refine cB ?_ | refine aLn ?_ | refine cK ?_ | refine aS8 ?_ | refine wI ?_ | refine nD ?_ | refine aX rfl ?_)
                  intro _u; clear _u
                  rw [Int.tdiv_eq_ediv_of_nonneg hxi]
                  refine iwr_in (by simp only [inI]; omega) ?_
                  repeat ((intro _u; clear _u); first | with_reducible first | refine cT ?_ | refine cF ?_ | refine cA ?_ | refine cB ?_ | refine aLn ?_ | refine cK ?_ | refine aS8 ?_ | refine wI ?_ | refine nD ?_ | refine aX rfl ?_)
                  intro _u; clear _u
                  refine nX (i + 1) ?_ ?_ ⟨_, hp, rfl⟩ ?_ ?_
                  · omega
                  · omega
                  · all_goals repeat' (first | exact True.intro | refine And.intro ?_ ?_ | (intro _u; clear _u) | with_reducible first | refine eM ?_ ?_ | refine eF ?_ ?_ ?_ | refine eN ?_ | refine eL ?_ ?_ ?_ | refine eA ?_ ?_ | refine IWk.mk ⟨_, hp, rfl⟩ ?_ ?_)
                    all_goals first | with_reducible rfl | omega | exact Or.inl (by decide) | (simp; done) | rfl | skip
                    rw [Int.pow_succ, Int.ediv_ediv_of_nonneg (by have := pow_ge1 i; omega)]
                  · all_goals repeat' (first | exact True.intro | refine And.intro ?_ ?_ | (intro _u; clear _u) | with_reducible first | refine eM ?_ ?_ | refine eF ?_ ?_ ?_ | refine eN ?_ | refine eL ?_ ?_ ?_ | refine eA ?_ ?_ | refine IWk.mk ⟨_, hp, rfl⟩ ?_ ?_)
                    all_goals first | with_reducible rfl | omega | exact Or.inl (by decide) | (simp; done) | rfl | skip
                    simp [enc_succ, u8_tmod hxi]
                · repeat ((intro _u; clear _u); first | with_reducible first | refine cT ?_ | refine cF ?_ | refine cA ?_ | refine cB ?_ | refine aLn ?_ | refine cK ?_ | refine aS8 ?_ | refine wI ?_ | refine nD ?_ | refine aX rfl ?_)
                  intro _u; clear _u
                  refine nX (k + 1) ?_ ?_ ⟨_, hp, rfl⟩ ?_ ?_
                  · refine ⟨by omega, ?_⟩
                    rw [any_take_succ hxk, hk.2, decide_eq_false hnb]; rfl
                  · omega
                  · all_goals repeat' (first | exact True.intro | refine And.intro ?_ ?_ | (intro _u; clear _u) | with_reducible first | refine eM ?_ ?_ | refine eF ?_ ?_ ?_ | refine eN ?_ | refine eL ?_ ?_ ?_ | refine eA ?_ ?_ | refine IWk.mk ⟨_, hp, rfl⟩ ?_ ?_)
                    all_goals first | with_reducible rfl | omega | exact Or.inl (by decide) | (simp; done) | rfl | skip
                    rw [take_succ_get hxk, show i = w.toNat by omega]; simp
                  · all_goals repeat' (first | exact True.intro | refine And.intro ?_ ?_ | (intro _u; clear _u) | with_reducible first | refine eM ?_ ?_ | refine eF ?_ ?_ ?_ | refine eN ?_ | refine eL ?_ ?_ ?_ | refine eA ?_ ?_ | refine IWk.mk ⟨_, hp, rfl⟩ ?_ ?_)
                    all_goals first | with_reducible rfl | omega | exact Or.inl (by decide) | (simp; done) | rfl | skip
                    rw [take_succ_get hxk, show i = w.toNat by omega]; simp
          · have hkn : n.take k = n := List.take_of_length_le (by omega)
            rw [hkn] at hk ⊢
            rw [puts_ok (by omega) (by omega) hk.2] at hq
            subst hq
            repeat ((intro _u; clear _u); first | with_reducible first | refine cT ?_ | refine cF ?_ | refine cA ?_ | refine cB ?_ | refine aLn ?_ | refine cK ?_ | refine aS8 ?_ | refine wI ?_ | refine nD ?_ | refine aX rfl ?_)
            intro _u; clear _u
            exact rM [0]
theorem half_eq {w : Int} (h1 : 1 ≤ w) (h2 : w ≤ 8) : (256 ^ w.toNat - 1 : Int) / 2 = 256 ^ w.toNat / 2 - 1 := by
  obtain h | h | h | h | h | h | h | h : w = 1 ∨ w = 2 ∨ w = 3 ∨ w = 4 ∨ w = 5 ∨ w = 6 ∨ w = 7 ∨ w = 8 := by omega
  all_goals (subst h; decide)
theorem half_le {w : Int} (h1 : 1 ≤ w) (h2 : w ≤ 8) : (256 ^ w.toNat : Int) / 2 ≤ 9223372036854775808 ∧ (128 : Int) ≤ 256 ^ w.toNat / 2 ∧ (256 ^ w.toNat : Int) = 2 * (256 ^ w.toNat / 2) := by
  obtain h | h | h | h | h | h | h | h : w = 1 ∨ w = 2 ∨ w = 3 ∨ w = 4 ∨ w = 5 ∨ w = 6 ∨ w = 7 ∨ w = 8 := by omega
  all_goals (subst h; decide)

theorem rsigned_c {R : Env} (h : N72 R) (b : List UInt8) (w : Int) (n : List Int) (hl : b.length + 8 * n.length ≤ 1073741824) (hn : ∀ x ∈ n, inI .i64 x) :
    R.Mc 72 [.isl 1 (slc8 b), .int .i64 w, .isl 1 (slcK .i64 n)] [] (.tup [.osl 0 (signs b w n).1.length, .int .i64 (signs b w n).2]) [(0, .arr (R.ty 4) 1 (slc8 (signs b w n).1))] 1 :=
  h.o72.enterM 100 0 rfl rfl rfl fun X bb hfit hp => by
    generalize hq : signs b w n = q
    repeat ((intro _u; clear _u); first | with_reducible first | refine cT ?_ | refine cF ?_ | refine cA ?_ | refine cB ?_ | refine aLn ?_ | refine cK ?_ | refine aS8 ?_ | refine wI ?_ | refine nD ?_ | refine aX rfl ?_)
    intro _u; clear _u
    refine cS (fun h1 => ?_) (fun h1 => ?_)
    · rw [signs, if_pos (.inl h1)] at hq
      subst hq
      repeat ((intro _u; clear _u); first | with_reducible first | refine cT ?_ | refine cF ?_ | refine cA ?_ | refine cB ?_ | refine aLn ?_ | refine cK ?_ | refine aS8 ?_ | refine wI ?_ | refine nD ?_ | refine aX rfl ?_)
      intro _u; clear _u
      exact rM [50]
    · repeat ((intro _u; clear _u); first | with_reducible first | refine cT ?_ | refine cF ?_ | refine cA ?_ | refine cB ?_ | refine aLn ?_ | refine cK ?_ | refine aS8 ?_ | refine wI ?_ | refine nD ?_ | refine aX rfl ?_)
      intro _u; clear _u
      refine cS (fun h2 => ?_) (fun h2 => ?_)
      · rw [signs, if_pos (.inr h2)] at hq
        subst hq
        repeat ((intro _u; clear _u); first | with_reducible first | refine cT ?_ | refine cF ?_ | refine cA ?_ | refine cB ?_ | refine aLn ?_ | refine cK ?_ | refine aS8 ?_ | refine wI ?_ | refine nD ?_ | refine aX rfl ?_)
        intro _u; clear _u
        exact rM [50]
      · repeat ((intro _u; clear _u); first | with_reducible first | refine cT ?_ | refine cF ?_ | refine cA ?_ | refine cB ?_ | refine aLn ?_ | refine cK ?_ | refine aS8 ?_ | refine wI ?_ | refine nD ?_ | refine aX rfl ?_)
        intro _u; clear _u
        refine ICall.pure h.n63.o63.hb (most_c h.n63 w h2) rfl ?_
        have hh := half_le h1 h2
        repeat ((intro _u; clear _u); first | with_reducible first | refine cT ?_ | refine cF ?_ | refine cA ?_ | refine cB ?_ | refine aLn ?_ | refine cK ?_ | refine aS8 ?_ | refine wI ?_ | refine nD ?_ | refine aX rfl ?_)
        intro _u; clear _u
        rw [Int.tdiv_eq_ediv_of_nonneg (by omega), half_eq h1 h2]
        refine iwr_in (by simp only [inI]; omega) ?_
        repeat ((intro _u; clear _u); first | with_reducible first | refine cT ?_ | refine cF ?_ | refine cA ?_ | refine cB ?_ | refine aLn ?_ | refine cK ?_ | refine aS8 ?_ | refine wI ?_ | refine nD ?_ | refine aX rfl ?_)
        intro _u; clear _u
        refine lPa 100 (fun k : Nat => k ≤ n.length ∧ (n.take k).any (fun x => decide (x < -(256 ^ w.toNat / 2)) || decide (256 ^ w.toNat / 2 ≤ x)) = false) (fun k => ⟨[(0, .isl 1 (slc8 b)), (1, .int .i64 w), (2, .isl 1 (slcK .i64 n)), (8, .int .i64 (256 ^ w.toNat / 2 - 1)), (9, .osl 0 ((n.take k).map fun x => x % 256 ^ w.toNat).length), (10, .int .i64 k)], [(0, .arr (R.ty 6) 1 (slcK .u64 ((n.take k).map fun x => x % 256 ^ w.toNat)))], 1⟩) (fun k => n.length - k) (0) ?_ ?_
        · exact ⟨Nat.zero_le _, by simp⟩
        · intro k hk
          dsimp only
          repeat ((intro _u; clear _u); first | with_reducible first | refine cT ?_ | refine cF ?_ | refine cA ?_ | refine cB ?_ | refine aLn ?_ | refine cK ?_ | refine aS8 ?_ | refine wI ?_ | refine nD ?_ | refine aX rfl ?_)
          intro _u; clear _u
          refine cS (fun h3 => ?_) (fun h3 => ?_)
          · obtain ⟨x, hx⟩ : ∃ u_, n[k]? = some u_ := ⟨_, List.getElem?_eq_getElem (by first | omega | (simp <;> omega))⟩
            repeat ((intro _u; clear _u); first | with_reducible first | refine cT ?_ | refine cF ?_ | refine cA ?_ | refine cB ?_ | refine aLn ?_ | refine cK ?_ | refine aS8 ?_ | refine wI ?_ | refine nD ?_ | refine aX rfl ?_)
            intro _u; clear _u
            refine eget_map hx ?_
            have hxk := hx
            have hx := hn x (List.mem_of_getElem? hxk)
            simp only [inI] at hx
            repeat ((intro _u; clear _u); first | with_reducible first | refine cT ?_ | refine cF ?_ | refine cA ?_ | refine cB ?_ | refine aLn ?_ | refine cK ?_ | refine aS8 ?_ | refine wI ?_ | refine nD ?_ | refine aX rfl ?_)
            intro _u; clear _u
            refine cS (fun h4 => ?_) (fun h4 => ?_)
            · rw [signs_bad (by omega) (by omega) (List.mem_of_getElem? hxk) (by omega)] at hq
              subst hq
              repeat ((intro _u; clear _u); first | with_reducible first | refine cT ?_ | refine cF ?_ | refine cA ?_ | refine cB ?_ | refine aLn ?_ | refine cK ?_ | refine aS8 ?_ | refine wI ?_ | refine nD ?_ | refine aX rfl ?_)
              intro _u; clear _u
              exact rM [50]
            · repeat ((intro _u; clear _u); first | with_reducible first | refine cT ?_ | refine cF ?_ | refine cA ?_ | refine cB ?_ | refine aLn ?_ | refine cK ?_ | refine aS8 ?_ | refine wI ?_ | refine nD ?_ | refine aX rfl ?_)
              intro _u; clear _u
              refine eget_map hxk ?_
              repeat ((intro _u; clear _u); first | with_reducible first | refine cT ?_ | refine cF ?_ | refine cA ?_ | refine cB ?_ | refine aLn ?_ | refine cK ?_ | refine aS8 ?_ | refine wI ?_ | refine nD ?_ | refine aX rfl ?_)
              intro _u; clear _u
              refine cS (fun h5 => ?_) (fun h5 => ?_)
              · rw [signs_bad (by omega) (by omega) (List.mem_of_getElem? hxk) (by omega)] at hq
                subst hq
                repeat ((intro _u; clear _u); first | with_reducible first | refine cT ?_ | refine cF ?_ | refine cA ?_ | refine cB ?_ | refine aLn ?_ | refine cK ?_ | refine aS8 ?_ | refine wI ?_ | refine nD ?_ | refine aX rfl ?_)
                intro _u; clear _u
                exact rM [50]
              · have hok : (n.take (k + 1)).any (fun x => decide (x < -(256 ^ w.toNat / 2)) || decide (256 ^ w.toNat / 2 ≤ x)) = false := by
                  rw [any_take_succ hxk, hk.2]
                  simp only [Bool.false_or, Bool.or_eq_false_iff, decide_eq_false_iff_not]
                  omega
                repeat ((intro _u; clear _u); first | with_reducible first | refine cT ?_ | refine cF ?_ | refine cA ?_ | refine cB ?_ | refine aLn ?_ | refine cK ?_ | refine aS8 ?_ | refine wI ?_ | refine nD ?_ | refine aX rfl ?_)
                intro _u; clear _u
                refine eget_map hxk ?_
                repeat ((intro _u; clear _u); first | with_reducible first | refine cT ?_ | refine cF ?_ | refine cA ?_ | refine cB ?_ | refine aLn ?_ | refine cK ?_ | refine aS8 ?_ | refine wI ?_ | refine nD ?_ | refine aX rfl ?_)
                intro _u; clear _u
                refine iwr_any ?_
                repeat ((intro _u; clear _u); first | with_reducible first | refine cT ?_ | refine cF ?_ | refine cA ?_ | refine cB ?_ | refine aLn ?_ | refine cK ?_ | refine aS8 ?_ | refine wI ?_ | refine nD ?_ | refine aX rfl ?_)
                intro _u; clear _u
                refine eget_map hxk ?_
                repeat ((intro _u; clear _u); first | with_reducible first | refine cT ?_ | refine cF ?_ | refine cA ?_ | refine cB ?_ | refine aLn ?_ | refine cK ?_ | refine aS8 ?_ | refine wI ?_ | refine nD ?_ | refine aX rfl ?_)
                intro _u; clear _u
                refine cS (fun h6 => ?_) (fun h6 => ?_)
                · repeat ((intro _u; clear _u); first | with_reducible first | refine cT ?_ | refine cF ?_ | refine cA ?_ | refine cB ?_ | refine aLn ?_ | refine cK ?_ | refine aS8 ?_ | refine wI ?_ | refine nD ?_ | refine aX rfl ?_)
                  intro _u; clear _u
                  refine ICall.pure h.n63.o63.hb (most_c h.n63 w h2) rfl ?_
                  repeat ((intro _u; clear _u); first | with_reducible first | refine cT ?_ | refine cF ?_ | refine cA ?_ | refine cB ?_ | refine aLn ?_ | refine cK ?_ | refine aS8 ?_ | refine wI ?_ | refine nD ?_ | refine aX rfl ?_)
                  intro _u; clear _u
                  refine eget_map hxk ?_
                  have hv : x % 256 ^ w.toNat = 256 ^ w.toNat - 1 - (0 - (x + 1)) := by
                    rw [← Int.add_emod_right, Int.emod_eq_of_lt (by omega) (by omega)]
                    omega
                  repeat ((intro _u; clear _u); first | with_reducible first | refine cT ?_ | refine cF ?_ | refine cA ?_ | refine cB ?_ | refine aLn ?_ | refine cK ?_ | refine aS8 ?_ | refine wI ?_ | refine nD ?_ | refine aX rfl ?_)
                  intro _u; clear _u
                  refine nX (k + 1) ?_ ?_ ⟨_, hp, rfl⟩ ?_ ?_
                  · exact ⟨by omega, hok⟩
                  · omega
                  · all_goals repeat' (first | exact True.intro | refine And.intro ?_ ?_ | (intro _u; clear _u) | with_reducible first | refine eM ?_ ?_ | refine eF ?_ ?_ ?_ | refine eN ?_ | refine eL ?_ ?_ ?_ | refine eA ?_ ?_ | refine IWk.mk ⟨_, hp, rfl⟩ ?_ ?_)
                    all_goals first | with_reducible rfl | omega | exact Or.inl (by decide) | (simp; done) | rfl | skip
                    rw [take_succ_get hxk]; simp
                  · all_goals repeat' (first | exact True.intro | refine And.intro ?_ ?_ | (intro _u; clear _u) | with_reducible first | refine eM ?_ ?_ | refine eF ?_ ?_ ?_ | refine eN ?_ | refine eL ?_ ?_ ?_ | refine eA ?_ ?_ | refine IWk.mk ⟨_, hp, rfl⟩ ?_ ?_)
                    all_goals first | with_reducible rfl | omega | exact Or.inl (by decide) | (simp; done) | rfl | skip
                    rw [take_succ_get hxk]; simp [slcK, hv]
                · have hv : x % 256 ^ w.toNat = wr .u64 x := by
                    rw [Int.emod_eq_of_lt (by omega) (by omega), wr_in (k := .u64) ⟨by omega, by omega⟩]
                  repeat ((intro _u; clear _u); first | with_reducible first | refine cT ?_ | refine cF ?_ | refine cA ?_ | refine cB ?_ | refine aLn ?_ | refine cK ?_ | refine aS8 ?_ | refine wI ?_ | refine nD ?_ | refine aX rfl ?_)
                  intro _u; clear _u
                  refine nX (k + 1) ?_ ?_ ⟨_, hp, rfl⟩ ?_ ?_
                  · exact ⟨by omega, hok⟩
                  · omega
                  · all_goals repeat' (first | exact True.intro | refine And.intro ?_ ?_ | (intro _u; clear _u) | with_reducible first | refine eM ?_ ?_ | refine eF ?_ ?_ ?_ | refine eN ?_ | refine eL ?_ ?_ ?_ | refine eA ?_ ?_ | refine IWk.mk ⟨_, hp, rfl⟩ ?_ ?_)
                    all_goals first | with_reducible rfl | omega | exact Or.inl (by decide) | (simp; done) | rfl | skip
                    rw [take_succ_get hxk]; simp
                  · all_goals repeat' (first | exact True.intro | refine And.intro ?_ ?_ | (intro _u; clear _u) | with_reducible first | refine eM ?_ ?_ | refine eF ?_ ?_ ?_ | refine eN ?_ | refine eL ?_ ?_ ?_ | refine eA ?_ ?_ | refine IWk.mk ⟨_, hp, rfl⟩ ?_ ?_)
                    all_goals first | with_reducible rfl | omega | exact Or.inl (by decide) | (simp; done) | rfl | skip
                    rw [take_succ_get hxk]; simp [slcK, hv]
          · have hkn : n.take k = n := List.take_of_length_le (by omega)
            rw [hkn] at hk ⊢
            rw [signs_ok (by omega) (by omega) hk.2] at hq
            subst hq
            repeat ((intro _u; clear _u); first | with_reducible first | refine cT ?_ | refine cF ?_ | refine cA ?_ | refine cB ?_ | refine aLn ?_ | refine cK ?_ | refine aS8 ?_ | refine wI ?_ | refine nD ?_ | refine aX rfl ?_)
            intro _u; clear _u
            refine cM true [] (rput_c h.n55 b w (n.map fun x => x % 256 ^ w.toNat) (by simpa using hl) (puts_mod (b := b) (by omega) h2)) ?_
            repeat ((intro _u; clear _u); first | refine eK ?_ | refine eP ?_)
            repeat ((intro _u; clear _u); first | with_reducible first | refine cT ?_ | refine cF ?_ | refine cA ?_ | refine cB ?_ | refine aLn ?_ | refine cK ?_ | refine aS8 ?_ | refine wI ?_ | refine nD ?_ | refine aX rfl ?_)
            intro _u; clear _u
            exact rM [1]
/-! ### The reader: the bytes B, and what is left of them -/
def rrdM (R : Env) (B : List UInt8) (r : Rd) : IMem := [(0, .var (R.ty 8) [.isl 1 (slc8 B), .int .i64 (B.length - r.l.length), .int .i64 r.e])]

theorem rslice {B l : List UInt8} {n : Int} (hB : l = B.drop (B.length - l.length)) (hl : l.length ≤ B.length) (hn : 0 ≤ n) :
    ((slc8 B).take ((B.length : Int) - l.length + n).toNat).drop ((B.length : Int) - l.length + n - n).toNat = slc8 (l.take n.toNat) := by
  rw [slc8_take, slc8_drop, List.drop_take, show ((B.length : Int) - l.length + n - n).toNat = B.length - l.length by omega, ← hB]
  congr 2
  omega

theorem rtake_c {R : Env} (h : N66 R) (B : List UInt8) (r : Rd) (hBm : B.length ≤ 1073741824) (hB : r.l = B.drop (B.length - r.l.length)) (hm : r.made = true) (n : Int) :
    R.Mc 66 [.loc 0 1 0 0, .int .i64 n] (rrdM R B r) (.isl 1 (slc8 (r.take n).1)) (rrdM R B (r.take n).2) 1 :=
  h.o66.enterM 100 1 rfl rfl rfl fun X bb hfit hp => by
    have hBl : r.l.length ≤ B.length := by rw [hB]; simp
    generalize hq : r.take n = q
    repeat ((intro _u; clear _u); first | with_reducible first | refine cT ?_ | refine cF ?_ | refine cA ?_ | refine cB ?_ | refine aLn ?_ | refine cK ?_ | refine aS8 ?_ | refine wI ?_ | refine nD ?_ | refine aX rfl ?_)
    intro _u; clear _u
    refine cS (fun h1 => ?_) (fun h1 => ?_)
    · repeat ((intro _u; clear _u); first | with_reducible first | refine cT ?_ | refine cF ?_ | refine cA ?_ | refine cB ?_ | refine aLn ?_ | refine cK ?_ | refine aS8 ?_ | refine wI ?_ | refine nD ?_ | refine aX rfl ?_)
      intro _u; clear _u
      refine cS (fun h2 => ?_) (fun h2 => ?_)
      · rw [Rd.take, if_neg (by simp [hm, h1]), if_pos h2] at hq
        subst hq
        repeat ((intro _u; clear _u); first | with_reducible first | refine cT ?_ | refine cF ?_ | refine cA ?_ | refine cB ?_ | refine aLn ?_ | refine cK ?_ | refine aS8 ?_ | refine wI ?_ | refine nD ?_ | refine aX rfl ?_)
        intro _u; clear _u
        refine acnd_f (by decide) ?_
        repeat ((intro _u; clear _u); first | with_reducible first | refine cT ?_ | refine cF ?_ | refine cA ?_ | refine cB ?_ | refine aLn ?_ | refine cK ?_ | refine aS8 ?_ | refine wI ?_ | refine nD ?_ | refine aX rfl ?_)
        intro _u; clear _u
        refine acnd_t (by decide) ?_
        repeat ((intro _u; clear _u); first | with_reducible first | refine cT ?_ | refine cF ?_ | refine cA ?_ | refine cB ?_ | refine aLn ?_ | refine cK ?_ | refine aS8 ?_ | refine wI ?_ | refine nD ?_ | refine aX rfl ?_)
        intro _u; clear _u
        exact rM [0]
      · repeat ((intro _u; clear _u); first | with_reducible first | refine cT ?_ | refine cF ?_ | refine cA ?_ | refine cB ?_ | refine aLn ?_ | refine cK ?_ | refine aS8 ?_ | refine wI ?_ | refine nD ?_ | refine aX rfl ?_)
        intro _u; clear _u
        refine acnd_t (by simp [h1]) ?_
        repeat ((intro _u; clear _u); first | with_reducible first | refine cT ?_ | refine cF ?_ | refine cA ?_ | refine cB ?_ | refine aLn ?_ | refine cK ?_ | refine aS8 ?_ | refine wI ?_ | refine nD ?_ | refine aX rfl ?_)
        intro _u; clear _u
        refine cS (fun h3 => ?_) (fun h3 => ?_)
        · rw [Rd.take, if_neg (by simp [hm, h1]), if_neg (by omega), if_pos (by omega)] at hq
          subst hq
          repeat ((intro _u; clear _u); first | with_reducible first | refine cT ?_ | refine cF ?_ | refine cA ?_ | refine cB ?_ | refine aLn ?_ | refine cK ?_ | refine aS8 ?_ | refine wI ?_ | refine nD ?_ | refine aX rfl ?_)
          intro _u; clear _u
          refine acnd_t (by decide) ?_
          repeat ((intro _u; clear _u); first | with_reducible first | refine cT ?_ | refine cF ?_ | refine cA ?_ | refine cB ?_ | refine aLn ?_ | refine cK ?_ | refine aS8 ?_ | refine wI ?_ | refine nD ?_ | refine aX rfl ?_)
          intro _u; clear _u
          exact rM [0]
        · rw [Rd.take, if_neg (by simp [hm, h1]), if_neg (by omega), if_neg (by omega)] at hq
          subst hq
          repeat ((intro _u; clear _u); first | with_reducible first | refine cT ?_ | refine cF ?_ | refine cA ?_ | refine cB ?_ | refine aLn ?_ | refine cK ?_ | refine aS8 ?_ | refine wI ?_ | refine nD ?_ | refine aX rfl ?_)
          intro _u; clear _u
          refine acnd_f (by simp [h1]) ?_
          repeat ((intro _u; clear _u); first | with_reducible first | refine cT ?_ | refine cF ?_ | refine cA ?_ | refine cB ?_ | refine aLn ?_ | refine cK ?_ | refine aS8 ?_ | refine wI ?_ | refine nD ?_ | refine aX rfl ?_)
          intro _u; clear _u
          refine asub_eq (by exact rslice hB hBl (by omega)) ?_
          repeat ((intro _u; clear _u); first | with_reducible first | refine cT ?_ | refine cF ?_ | refine cA ?_ | refine cB ?_ | refine aLn ?_ | refine cK ?_ | refine aS8 ?_ | refine wI ?_ | refine nD ?_ | refine aX rfl ?_)
          intro _u; clear _u
          refine rM [0] ?_
          all_goals repeat' (first | exact True.intro | refine And.intro ?_ ?_ | (intro _u; clear _u) | with_reducible first | refine eM ?_ ?_ | refine eF ?_ ?_ ?_ | refine eN ?_ | refine eL ?_ ?_ ?_ | refine eA ?_ ?_ | refine IWk.mk ⟨_, hp, rfl⟩ ?_ ?_)
          all_goals first | with_reducible rfl | omega | exact Or.inl (by decide) | (simp; done) | rfl | skip
          simp; omega
    · rw [Rd.take, if_pos (.inr (by simpa using h1))] at hq
      subst hq
      repeat ((intro _u; clear _u); first | with_reducible first | refine cT ?_ | refine cF ?_ | refine cA ?_ | refine cB ?_ | refine aLn ?_ | refine cK ?_ | refine aS8 ?_ | refine wI ?_ | refine nD ?_ | refine aX rfl ?_)
      intro _u; clear _u
      refine acnd_f (by simpa using h1) ?_
      repeat ((intro _u; clear _u); first | with_reducible first | refine cT ?_ | refine cF ?_ | refine cA ?_ | refine cB ?_ | refine aLn ?_ | refine cK ?_ | refine aS8 ?_ | refine wI ?_ | refine nD ?_ | refine aX rfl ?_)
      intro _u; clear _u
      refine acnd_t (by simpa using h1) ?_
      repeat ((intro _u; clear _u); first | with_reducible first | refine cT ?_ | refine cF ?_ | refine cA ?_ | refine cB ?_ | refine aLn ?_ | refine cK ?_ | refine aS8 ?_ | refine wI ?_ | refine nD ?_ | refine aX rfl ?_)
      intro _u; clear _u
      exact rM [0]
structure RdOk (B : List UInt8) (r : Rd) : Prop where
  m : B.length ≤ 1073741824
  s : r.l = B.drop (B.length - r.l.length)
  made : r.made = true
theorem RdOk.len {B : List UInt8} {r : Rd} (h : RdOk B r) : r.l.length ≤ B.length := by rw [h.s]; simp
theorem RdOk.take {B : List UInt8} {r : Rd} (h : RdOk B r) (n : Int) : RdOk B (r.take n).2 := by
  unfold Rd.take
  split
  · exact h
  · split
    · exact ⟨h.m, h.s, h.made⟩
    · split
      · exact ⟨h.m, h.s, h.made⟩
      · refine ⟨h.m, ?_, h.made⟩
        have h1 := h.s
        have h2 := h.len
        simp only [List.length_drop]
        conv => lhs; rw [h1]
        rw [List.drop_drop]
        congr 1
        omega
theorem RdOk.num {B : List UInt8} {r : Rd} (h : RdOk B r) (w : Int) : RdOk B (r.num w).2 := h.take _
theorem RdOk.int {B : List UInt8} {r : Rd} (h : RdOk B r) (w : Int) : RdOk B (r.int w).2 := h.num w
theorem RdOk.err {B : List UInt8} {r : Rd} (h : RdOk B r) (e : Int) : RdOk B { r with e := e } := ⟨h.m, h.s, h.made⟩
theorem RdOk.new {B : List UInt8} (h : B.length ≤ 1073741824) : RdOk B ⟨B, 0, true⟩ := ⟨h, by simp, rfl⟩

theorem le_drop {l : List UInt8} {j : Nat} {c : UInt8} (h : l[j]? = some c) : le (l.drop j) = le (l.drop (j + 1)) * 256 + c.toNat := by
  obtain ⟨hj, rfl⟩ := List.getElem?_eq_some_iff.1 h
  rw [List.drop_eq_getElem_cons hj]
  simp only [le]
  omega


theorem rnum_c {R : Env} (h : N61 R) (B : List UInt8) (r : Rd) (ok : RdOk B r) (w : Int) : R.Mc 61 [.loc 0 1 0 0, .int .i64 w] (rrdM R B r) (.int .u64 (r.num w).1) (rrdM R B (r.num w).2) 1 :=
  h.o61.enterM 100 1 rfl rfl rfl fun X bb hfit hp => by
    have e1 : w < 1 ∨ 8 < w → r.num w = (le (r.take (-1)).1, (r.take (-1)).2) := fun hw => by unfold Rd.num; rw [if_pos hw]
    have e2 : ¬ (w < 1 ∨ 8 < w) → r.num w = (le (r.take w).1, (r.take w).2) := fun hw => by unfold Rd.num; rw [if_neg hw]
    generalize hq : r.num w = q at e1 e2 ⊢
    repeat ((intro _u; clear _u); first | with_reducible first | refine cT ?_ | refine cF ?_ | refine cA ?_ | refine cB ?_ | refine aLn ?_ | refine cK ?_ | refine aS8 ?_ | refine wI ?_ | refine nD ?_ | refine aX rfl ?_)
    intro _u; clear _u
    refine cS (fun h1 => ?_) (fun h1 => ?_)
    · have bad : w < 1 ∨ 8 < w → q = (le (({ r with e := 2 } : Rd).take (max w 0)).1, (({ r with e := 2 } : Rd).take (max w 0)).2) := fun hw => by
        rw [e1 hw]
        simp [Rd.take, ok.made, h1]
      repeat ((intro _u; clear _u); first | with_reducible first | refine cT ?_ | refine cF ?_ | refine cA ?_ | refine cB ?_ | refine aLn ?_ | refine cK ?_ | refine aS8 ?_ | refine wI ?_ | refine nD ?_ | refine aX rfl ?_)
      intro _u; clear _u
      refine cS (fun h2 => ?_) (fun h2 => ?_)
      · rw [bad (.inl h2)]
        repeat ((intro _u; clear _u); first | with_reducible first | refine cT ?_ | refine cF ?_ | refine cA ?_ | refine cB ?_ | refine aLn ?_ | refine cK ?_ | refine aS8 ?_ | refine wI ?_ | refine nD ?_ | refine aX rfl ?_)
        intro _u; clear _u
        refine cM false [0] (rtake_c h.n66 B { r with e := 2 } ok.m ok.s ok.made (max w 0)) ?_
        repeat ((intro _u; clear _u); first | refine eK ?_ | refine eP ?_)
        have hlen : (({ r with e := 2 } : Rd).take (max w 0)).1.length ≤ 8 := by simp [Rd.take]
        generalize ({ r with e := 2 } : Rd).take (max w 0) = t at hlen ⊢
        repeat ((intro _u; clear _u); first | with_reducible first | refine cT ?_ | refine cF ?_ | refine cA ?_ | refine cB ?_ | refine aLn ?_ | refine cK ?_ | refine aS8 ?_ | refine wI ?_ | refine nD ?_ | refine aX rfl ?_)
        intro _u; clear _u
        refine ILoop.inv 100 (fun j : Nat => j ≤ t.1.length) (fun j => ⟨[(5, .isl 1 (slc8 t.1)), (6, .int .u64 (le (t.1.drop j))), (7, .int .i64 (j - 1))], rrdM R B t.2, 1⟩) (fun j => j) (t.1.length) ?_ ⟨⟨_, hp, rfl⟩, ?_, ?_⟩ ?_
        · exact Nat.le_refl _
        · all_goals repeat' (first | exact True.intro | refine And.intro ?_ ?_ | (intro _u; clear _u) | with_reducible first | refine eM ?_ ?_ | refine eF ?_ ?_ ?_ | refine eN ?_ | refine eL ?_ ?_ ?_ | refine eA ?_ ?_ | refine IWk.mk ⟨_, hp, rfl⟩ ?_ ?_)
          all_goals first | with_reducible rfl | omega | exact Or.inl (by decide) | (simp; done) | rfl | skip
          simp [le]
        · all_goals repeat' (first | exact True.intro | refine And.intro ?_ ?_ | (intro _u; clear _u) | with_reducible first | refine eM ?_ ?_ | refine eF ?_ ?_ ?_ | refine eN ?_ | refine eL ?_ ?_ ?_ | refine eA ?_ ?_ | refine IWk.mk ⟨_, hp, rfl⟩ ?_ ?_)
          all_goals first | with_reducible rfl | omega | exact Or.inl (by decide) | (simp; done) | rfl | skip
        · intro j hj
          dsimp only
          repeat ((intro _u; clear _u); first | with_reducible first | refine cT ?_ | refine cF ?_ | refine cA ?_ | refine cB ?_ | refine aLn ?_ | refine cK ?_ | refine aS8 ?_ | refine wI ?_ | refine nD ?_ | refine aX rfl ?_)
          intro _u; clear _u
          refine cS (fun h5 => ?_) (fun h5 => ?_)
          · obtain ⟨x, hx⟩ : ∃ x, t.1[j - 1]? = some x := ⟨_, List.getElem?_eq_getElem (by omega)⟩
            have hle := le_lt (t.1.drop j)
            have hdl := le_drop hx
            rw [show j - 1 + 1 = j by omega] at hdl
            have hx8 := x.toNat_lt
            have hpw : 256 ^ (t.1.drop j).length * 256 ≤ 256 ^ 8 := by
              rw [← Nat.pow_succ]
              exact Nat.pow_le_pow_right (by decide) (by simp; omega)
            repeat ((intro _u; clear _u); first | with_reducible first | refine cT ?_ | refine cF ?_ | refine cA ?_ | refine cB ?_ | refine aLn ?_ | refine cK ?_ | refine aS8 ?_ | refine wI ?_ | refine nD ?_ | refine aX rfl ?_)
            intro _u; clear _u
            refine eget_map (i := _) (by rw [show ((j : Int) - 1).toNat = j - 1 by omega]; exact hx) ?_
            repeat ((intro _u; clear _u); first | with_reducible first | refine cT ?_ | refine cF ?_ | refine cA ?_ | refine cB ?_ | refine aLn ?_ | refine cK ?_ | refine aS8 ?_ | refine wI ?_ | refine nD ?_ | refine aX rfl ?_)
            intro _u; clear _u
            refine nXa (j - 1) ?_ ?_
            · omega
            · omega
          · have hj0 : j = 0 := by omega
            subst hj0
            repeat ((intro _u; clear _u); first | with_reducible first | refine cT ?_ | refine cF ?_ | refine cA ?_ | refine cB ?_ | refine aLn ?_ | refine cK ?_ | refine aS8 ?_ | refine wI ?_ | refine nD ?_ | refine aX rfl ?_)
            intro _u; clear _u
            exact rM [0]
      · repeat ((intro _u; clear _u); first | with_reducible first | refine cT ?_ | refine cF ?_ | refine cA ?_ | refine cB ?_ | refine aLn ?_ | refine cK ?_ | refine aS8 ?_ | refine wI ?_ | refine nD ?_ | refine aX rfl ?_)
        intro _u; clear _u
        refine cS (fun h3 => ?_) (fun h3 => ?_)
        · rw [bad (.inr h3)]
          repeat ((intro _u; clear _u); first | with_reducible first | refine cT ?_ | refine cF ?_ | refine cA ?_ | refine cB ?_ | refine aLn ?_ | refine cK ?_ | refine aS8 ?_ | refine wI ?_ | refine nD ?_ | refine aX rfl ?_)
          intro _u; clear _u
          refine cM false [0] (rtake_c h.n66 B { r with e := 2 } ok.m ok.s ok.made (max w 0)) ?_
          repeat ((intro _u; clear _u); first | refine eK ?_ | refine eP ?_)
          have hlen : (({ r with e := 2 } : Rd).take (max w 0)).1.length ≤ 8 := by simp [Rd.take]
          generalize ({ r with e := 2 } : Rd).take (max w 0) = t at hlen ⊢
          repeat ((intro _u; clear _u); first | with_reducible first | refine cT ?_ | refine cF ?_ | refine cA ?_ | refine cB ?_ | refine aLn ?_ | refine cK ?_ | refine aS8 ?_ | refine wI ?_ | refine nD ?_ | refine aX rfl ?_)
          intro _u; clear _u
          refine ILoop.inv 100 (fun j : Nat => j ≤ t.1.length) (fun j => ⟨[(5, .isl 1 (slc8 t.1)), (6, .int .u64 (le (t.1.drop j))), (7, .int .i64 (j - 1))], rrdM R B t.2, 1⟩) (fun j => j) (t.1.length) ?_ ⟨⟨_, hp, rfl⟩, ?_, ?_⟩ ?_
          · exact Nat.le_refl _
          · all_goals repeat' (first | exact True.intro | refine And.intro ?_ ?_ | (intro _u; clear _u) | with_reducible first | refine eM ?_ ?_ | refine eF ?_ ?_ ?_ | refine eN ?_ | refine eL ?_ ?_ ?_ | refine eA ?_ ?_ | refine IWk.mk ⟨_, hp, rfl⟩ ?_ ?_)
            all_goals first | with_reducible rfl | omega | exact Or.inl (by decide) | (simp; done) | rfl | skip
            simp [le]
          · all_goals repeat' (first | exact True.intro | refine And.intro ?_ ?_ | (intro _u; clear _u) | with_reducible first | refine eM ?_ ?_ | refine eF ?_ ?_ ?_ | refine eN ?_ | refine eL ?_ ?_ ?_ | refine eA ?_ ?_ | refine IWk.mk ⟨_, hp, rfl⟩ ?_ ?_)
            all_goals first | with_reducible rfl | omega | exact Or.inl (by decide) | (simp; done) | rfl | skip
          · intro j hj
            dsimp only
            repeat ((intro _u; clear _u); first | with_reducible first | refine cT ?_ | refine cF ?_ | refine cA ?_ | refine cB ?_ | refine aLn ?_ | refine cK ?_ | refine aS8 ?_ | refine wI ?_ | refine nD ?_ | refine aX rfl ?_)
            intro _u; clear _u
            refine cS (fun h5 => ?_) (fun h5 => ?_)
            · obtain ⟨x, hx⟩ : ∃ x, t.1[j - 1]? = some x := ⟨_, List.getElem?_eq_getElem (by omega)⟩
              have hle := le_lt (t.1.drop j)
              have hdl := le_drop hx
              rw [show j - 1 + 1 = j by omega] at hdl
              have hx8 := x.toNat_lt
              have hpw : 256 ^ (t.1.drop j).length * 256 ≤ 256 ^ 8 := by
                rw [← Nat.pow_succ]
                exact Nat.pow_le_pow_right (by decide) (by simp; omega)
              repeat ((intro _u; clear _u); first | with_reducible first | refine cT ?_ | refine cF ?_ | refine cA ?_ | refine cB ?_ | refine aLn ?_ | refine cK ?_ | refine aS8 ?_ | refine wI ?_ | refine nD ?_ | refine aX rfl ?_)
              intro _u; clear _u
              refine eget_map (i := _) (by rw [show ((j : Int) - 1).toNat = j - 1 by omega]; exact hx) ?_
              repeat ((intro _u; clear _u); first | with_reducible first | refine cT ?_ | refine cF ?_ | refine cA ?_ | refine cB ?_ | refine aLn ?_ | refine cK ?_ | refine aS8 ?_ | refine wI ?_ | refine nD ?_ | refine aX rfl ?_)
              intro _u; clear _u
              refine nXa (j - 1) ?_ ?_
              · omega
              · omega
            · have hj0 : j = 0 := by omega
              subst hj0
              repeat ((intro _u; clear _u); first | with_reducible first | refine cT ?_ | refine cF ?_ | refine cA ?_ | refine cB ?_ | refine aLn ?_ | refine cK ?_ | refine aS8 ?_ | refine wI ?_ | refine nD ?_ | refine aX rfl ?_)
              intro _u; clear _u
              exact rM [0]
        · rw [e2 (by omega)]
          repeat ((intro _u; clear _u); first | with_reducible first | refine cT ?_ | refine cF ?_ | refine cA ?_ | refine cB ?_ | refine aLn ?_ | refine cK ?_ | refine aS8 ?_ | refine wI ?_ | refine nD ?_ | refine aX rfl ?_)
          intro _u; clear _u
          refine cM false [0] (rtake_c h.n66 B r ok.m ok.s ok.made w) ?_
          repeat ((intro _u; clear _u); first | refine eK ?_ | refine eP ?_)
          have hlen := take_len r w h3
          generalize r.take w = t at hlen ⊢
          repeat ((intro _u; clear _u); first | with_reducible first | refine cT ?_ | refine cF ?_ | refine cA ?_ | refine cB ?_ | refine aLn ?_ | refine cK ?_ | refine aS8 ?_ | refine wI ?_ | refine nD ?_ | refine aX rfl ?_)
          intro _u; clear _u
          refine ILoop.inv 100 (fun j : Nat => j ≤ t.1.length) (fun j => ⟨[(5, .isl 1 (slc8 t.1)), (6, .int .u64 (le (t.1.drop j))), (7, .int .i64 (j - 1))], rrdM R B t.2, 1⟩) (fun j => j) (t.1.length) ?_ ⟨⟨_, hp, rfl⟩, ?_, ?_⟩ ?_
          · exact Nat.le_refl _
          · all_goals repeat' (first | exact True.intro | refine And.intro ?_ ?_ | (intro _u; clear _u) | with_reducible first | refine eM ?_ ?_ | refine eF ?_ ?_ ?_ | refine eN ?_ | refine eL ?_ ?_ ?_ | refine eA ?_ ?_ | refine IWk.mk ⟨_, hp, rfl⟩ ?_ ?_)
            all_goals first | with_reducible rfl | omega | exact Or.inl (by decide) | (simp; done) | rfl | skip
            simp [le]
          · all_goals repeat' (first | exact True.intro | refine And.intro ?_ ?_ | (intro _u; clear _u) | with_reducible first | refine eM ?_ ?_ | refine eF ?_ ?_ ?_ | refine eN ?_ | refine eL ?_ ?_ ?_ | refine eA ?_ ?_ | refine IWk.mk ⟨_, hp, rfl⟩ ?_ ?_)
            all_goals first | with_reducible rfl | omega | exact Or.inl (by decide) | (simp; done) | rfl | skip
          · intro j hj
            dsimp only
            repeat ((intro _u; clear _u); first | with_reducible first | refine cT ?_ | refine cF ?_ | refine cA ?_ | refine cB ?_ | refine aLn ?_ | refine cK ?_ | refine aS8 ?_ | refine wI ?_ | refine nD ?_ | refine aX rfl ?_)
            intro _u; clear _u
            refine cS (fun h5 => ?_) (fun h5 => ?_)
            · obtain ⟨x, hx⟩ : ∃ x, t.1[j - 1]? = some x := ⟨_, List.getElem?_eq_getElem (by omega)⟩
              have hle := le_lt (t.1.drop j)
              have hdl := le_drop hx
              rw [show j - 1 + 1 = j by omega] at hdl
              have hx8 := x.toNat_lt
              have hpw : 256 ^ (t.1.drop j).length * 256 ≤ 256 ^ 8 := by
                rw [← Nat.pow_succ]
                exact Nat.pow_le_pow_right (by decide) (by simp; omega)
              repeat ((intro _u; clear _u); first | with_reducible first | refine cT ?_ | refine cF ?_ | refine cA ?_ | refine cB ?_ | refine aLn ?_ | refine cK ?_ | refine aS8 ?_ | refine wI ?_ | refine nD ?_ | refine aX rfl ?_)
              intro _u; clear _u
              refine eget_map (i := _) (by rw [show ((j : Int) - 1).toNat = j - 1 by omega]; exact hx) ?_
              repeat ((intro _u; clear _u); first | with_reducible first | refine cT ?_ | refine cF ?_ | refine cA ?_ | refine cB ?_ | refine aLn ?_ | refine cK ?_ | refine aS8 ?_ | refine wI ?_ | refine nD ?_ | refine aX rfl ?_)
              intro _u; clear _u
              refine nXa (j - 1) ?_ ?_
              · omega
              · omega
            · have hj0 : j = 0 := by omega
              subst hj0
              repeat ((intro _u; clear _u); first | with_reducible first | refine cT ?_ | refine cF ?_ | refine cA ?_ | refine cB ?_ | refine aLn ?_ | refine cK ?_ | refine aS8 ?_ | refine wI ?_ | refine nD ?_ | refine aX rfl ?_)
              intro _u; clear _u
              exact rM [0]
    · have bad : q = (le (r.take (max w 0)).1, (r.take (max w 0)).2) := by
        by_cases hw : w < 1 ∨ 8 < w
        · rw [e1 hw]; simp [Rd.take, h1]
        · rw [e2 hw]; simp [Rd.take, h1]
      rw [bad]
      repeat ((intro _u; clear _u); first | with_reducible first | refine cT ?_ | refine cF ?_ | refine cA ?_ | refine cB ?_ | refine aLn ?_ | refine cK ?_ | refine aS8 ?_ | refine wI ?_ | refine nD ?_ | refine aX rfl ?_)
      intro _u; clear _u
      refine cM false [0] (rtake_c h.n66 B r ok.m ok.s ok.made (max w 0)) ?_
      repeat ((intro _u; clear _u); first | refine eK ?_ | refine eP ?_)
      have hlen : (r.take (max w 0)).1.length ≤ 8 := by simp [Rd.take, h1]
      generalize r.take (max w 0) = t at hlen ⊢
      repeat ((intro _u; clear _u); first | with_reducible first | refine cT ?_ | refine cF ?_ | refine cA ?_ | refine cB ?_ | refine aLn ?_ | refine cK ?_ | refine aS8 ?_ | refine wI ?_ | refine nD ?_ | refine aX rfl ?_)
      intro _u; clear _u
      refine ILoop.inv 100 (fun j : Nat => j ≤ t.1.length) (fun j => ⟨[(5, .isl 1 (slc8 t.1)), (6, .int .u64 (le (t.1.drop j))), (7, .int .i64 (j - 1))], rrdM R B t.2, 1⟩) (fun j => j) (t.1.length) ?_ ⟨⟨_, hp, rfl⟩, ?_, ?_⟩ ?_
      · exact Nat.le_refl _
      · all_goals repeat' (first | exact True.intro | refine And.intro ?_ ?_ | (intro _u; clear _u) | with_reducible first | refine eM ?_ ?_ | refine eF ?_ ?_ ?_ | refine eN ?_ | refine eL ?_ ?_ ?_ | refine eA ?_ ?_ | refine IWk.mk ⟨_, hp, rfl⟩ ?_ ?_)
        all_goals first | with_reducible rfl | omega | exact Or.inl (by decide) | (simp; done) | rfl | skip
        simp [le]
      · all_goals repeat' (first | exact True.intro | refine And.intro ?_ ?_ | (intro _u; clear _u) | with_reducible first | refine eM ?_ ?_ | refine eF ?_ ?_ ?_ | refine eN ?_ | refine eL ?_ ?_ ?_ | refine eA ?_ ?_ | refine IWk.mk ⟨_, hp, rfl⟩ ?_ ?_)
        all_goals first | with_reducible rfl | omega | exact Or.inl (by decide) | (simp; done) | rfl | skip
      · intro j hj
        dsimp only
        repeat ((intro _u; clear _u); first | with_reducible first | refine cT ?_ | refine cF ?_ | refine cA ?_ | refine cB ?_ | refine aLn ?_ | refine cK ?_ | refine aS8 ?_ | refine wI ?_ | refine nD ?_ | refine aX rfl ?_)
        intro _u; clear _u
        refine cS (fun h5 => ?_) (fun h5 => ?_)
        · obtain ⟨x, hx⟩ : ∃ x, t.1[j - 1]? = some x := ⟨_, List.getElem?_eq_getElem (by omega)⟩
          have hle := le_lt (t.1.drop j)
          have hdl := le_drop hx
          rw [show j - 1 + 1 = j by omega] at hdl
          have hx8 := x.toNat_lt
          have hpw : 256 ^ (t.1.drop j).length * 256 ≤ 256 ^ 8 := by
            rw [← Nat.pow_succ]
            exact Nat.pow_le_pow_right (by decide) (by simp; omega)
          repeat ((intro _u; clear _u); first | with_reducible first | refine cT ?_ | refine cF ?_ | refine cA ?_ | refine cB ?_ | refine aLn ?_ | refine cK ?_ | refine aS8 ?_ | refine wI ?_ | refine nD ?_ | refine aX rfl ?_)
          intro _u; clear _u
          refine eget_map (i := _) (by rw [show ((j : Int) - 1).toNat = j - 1 by omega]; exact hx) ?_
          repeat ((intro _u; clear _u); first | with_reducible first | refine cT ?_ | refine cF ?_ | refine cA ?_ | refine cB ?_ | refine aLn ?_ | refine cK ?_ | refine aS8 ?_ | refine wI ?_ | refine nD ?_ | refine aX rfl ?_)
          intro _u; clear _u
          refine nXa (j - 1) ?_ ?_
          · omega
          · omega
        · have hj0 : j = 0 := by omega
          subst hj0
          repeat ((intro _u; clear _u); first | with_reducible first | refine cT ?_ | refine cF ?_ | refine cA ?_ | refine cB ?_ | refine aLn ?_ | refine cK ?_ | refine aS8 ?_ | refine wI ?_ | refine nD ?_ | refine aX rfl ?_)
          intro _u; clear _u
          exact rM [0]
theorem rleft_c {R : Env} (h : N78 R) (B : List UInt8) (r : Rd) (ok : RdOk B r) : R.Mc 78 [.loc 0 1 0 0] (rrdM R B r) (.int .i64 (if r.made = false ∨ r.e ≠ 0 then 0 else r.l.length)) (rrdM R B r) 1 :=
  h.o78.enterM 60 1 rfl rfl rfl fun X bb hfit hp => by
    have h1 := ok.made
    have h2 := ok.len
    have h3 := ok.m
    repeat ((intro _u; clear _u); first | with_reducible first | refine cT ?_ | refine cF ?_ | refine cA ?_ | refine cB ?_ | refine aLn ?_ | refine cK ?_ | refine aS8 ?_ | refine wI ?_ | refine nD ?_ | refine aX rfl ?_)
    intro _u; clear _u
    refine cS (fun h4 => ?_) (fun h4 => ?_)
    · repeat ((intro _u; clear _u); first | with_reducible first | refine cT ?_ | refine cF ?_ | refine cA ?_ | refine cB ?_ | refine aLn ?_ | refine cK ?_ | refine aS8 ?_ | refine wI ?_ | refine nD ?_ | refine aX rfl ?_)
      intro _u; clear _u
      exact rM [0]
    · repeat ((intro _u; clear _u); first | with_reducible first | refine cT ?_ | refine cF ?_ | refine cA ?_ | refine cB ?_ | refine aLn ?_ | refine cK ?_ | refine aS8 ?_ | refine wI ?_ | refine nD ?_ | refine aX rfl ?_)
      intro _u; clear _u
      refine rM [0] ?_
      all_goals repeat' (first | exact True.intro | refine And.intro ?_ ?_ | (intro _u; clear _u) | with_reducible first | refine eM ?_ ?_ | refine eF ?_ ?_ ?_ | refine eN ?_ | refine eL ?_ ?_ ?_ | refine eA ?_ ?_ | refine IWk.mk ⟨_, hp, rfl⟩ ?_ ?_)
      all_goals first | with_reducible rfl | omega | exact Or.inl (by decide) | (simp; done) | rfl | skip
      simp [h1, h4]; omega

theorem rend_c {R : Env} (h : N69 R) (B : List UInt8) (r : Rd) (ok : RdOk B r) : R.Mc 69 [.loc 0 1 0 0] (rrdM R B r) (.int .i64 r.fin) (rrdM R B r) 1 :=
  h.o69.enterM 60 1 rfl rfl rfl fun X bb hfit hp => by
    have h1 := ok.made
    have h2 := ok.len
    have h3 := ok.m
    have h5 : r.err = r.e := by simp [Rd.err, h1]
    unfold Rd.fin
    rw [h5]
    repeat ((intro _u; clear _u); first | with_reducible first | refine cT ?_ | refine cF ?_ | refine cA ?_ | refine cB ?_ | refine aLn ?_ | refine cK ?_ | refine aS8 ?_ | refine wI ?_ | refine nD ?_ | refine aX rfl ?_)
    intro _u; clear _u
    refine cS (fun h4 => ?_) (fun h4 => ?_)
    · rw [if_neg (by simpa using h4)]
      repeat ((intro _u; clear _u); first | with_reducible first | refine cT ?_ | refine cF ?_ | refine cA ?_ | refine cB ?_ | refine aLn ?_ | refine cK ?_ | refine aS8 ?_ | refine wI ?_ | refine nD ?_ | refine aX rfl ?_)
      intro _u; clear _u
      refine cS (fun h6 => ?_) (fun h6 => ?_)
      · rw [if_pos (by omega)]
        repeat ((intro _u; clear _u); first | with_reducible first | refine cT ?_ | refine cF ?_ | refine cA ?_ | refine cB ?_ | refine aLn ?_ | refine cK ?_ | refine aS8 ?_ | refine wI ?_ | refine nD ?_ | refine aX rfl ?_)
        intro _u; clear _u
        exact rM [0]
      · rw [if_neg (by omega)]
        repeat ((intro _u; clear _u); first | with_reducible first | refine cT ?_ | refine cF ?_ | refine cA ?_ | refine cB ?_ | refine aLn ?_ | refine cK ?_ | refine aS8 ?_ | refine wI ?_ | refine nD ?_ | refine aX rfl ?_)
        intro _u; clear _u
        exact rM [0]
    · rw [if_pos (by simpa using h4)]
      repeat ((intro _u; clear _u); first | with_reducible first | refine cT ?_ | refine cF ?_ | refine cA ?_ | refine cB ?_ | refine aLn ?_ | refine cK ?_ | refine aS8 ?_ | refine wI ?_ | refine nD ?_ | refine aX rfl ?_)
      intro _u; clear _u
      exact rM [0]

theorem num_err {r : Rd} {w : Int} (h : (r.num w).2.e ≠ 0) : (r.num w).1 = 0 := by
  unfold Rd.num Rd.take at h ⊢
  dsimp only at h ⊢
  generalize (if w < 1 ∨ 8 < w then (-1 : Int) else w) = v at h ⊢
  by_cases c1 : r.made = false ∨ r.e ≠ 0
  · rw [if_pos c1]; rfl
  · rw [if_neg c1] at h ⊢
    by_cases c2 : v < 0
    · rw [if_pos c2]; rfl
    · rw [if_neg c2] at h ⊢
      by_cases c3 : (r.l.length : Int) < v
      · rw [if_pos c3]; rfl
      · rw [if_neg c3] at h
        exact (c1 (.inr h)).elim
theorem num_bad {r : Rd} {w : Int} (hw : w < 1 ∨ 8 < w) (hm : r.made = true) : (r.num w).2.e ≠ 0 := by
  unfold Rd.num
  rw [if_pos hw]
  unfold Rd.take
  split
  · rename_i h
    rcases h with h | h
    · rw [hm] at h; exact absurd h (by decide)
    · exact h
  · simp
  all_goals simp

theorem rint_c {R : Env} (h : N77 R) (B : List UInt8) (r : Rd) (ok : RdOk B r) (w : Int) : R.Mc 77 [.loc 0 1 0 0, .int .i64 w] (rrdM R B r) (.int .i64 (r.int w).1) (rrdM R B (r.int w).2) 1 :=
  h.o77.enterM 100 1 rfl rfl rfl fun X bb hfit hp => by
    repeat ((intro _u; clear _u); first | with_reducible first | refine cT ?_ | refine cF ?_ | refine cA ?_ | refine cB ?_ | refine aLn ?_ | refine cK ?_ | refine aS8 ?_ | refine wI ?_ | refine nD ?_ | refine aX rfl ?_)
    intro _u; clear _u
    refine cM false [0] (rnum_c h.n61 B r ok w) ?_
    repeat ((intro _u; clear _u); first | refine eK ?_ | refine eP ?_)
    unfold Rd.int
    repeat ((intro _u; clear _u); first | with_reducible first | refine cT ?_ | refine cF ?_ | refine cA ?_ | refine cB ?_ | refine aLn ?_ | refine cK ?_ | refine aS8 ?_ | refine wI ?_ | refine nD ?_ | refine aX rfl ?_)
    intro _u; clear _u
    refine cS (fun h1 => ?_) (fun h1 => ?_)
    · have h2 : (r.num w).1 = 0 := num_err (by simpa using h1)
      by_cases hw : w < 1 ∨ 8 < w
      · rw [if_pos hw]
        repeat ((intro _u; clear _u); first | with_reducible first | refine cT ?_ | refine cF ?_ | refine cA ?_ | refine cB ?_ | refine aLn ?_ | refine cK ?_ | refine aS8 ?_ | refine wI ?_ | refine nD ?_ | refine aX rfl ?_)
        intro _u; clear _u
        exact rM [0]
      · rw [if_neg hw, h2]
        repeat ((intro _u; clear _u); first | with_reducible first | refine cT ?_ | refine cF ?_ | refine cA ?_ | refine cB ?_ | refine aLn ?_ | refine cK ?_ | refine aS8 ?_ | refine wI ?_ | refine nD ?_ | refine aX rfl ?_)
        intro _u; clear _u
        refine rM [0] ?_
        all_goals repeat' (first | exact True.intro | refine And.intro ?_ ?_ | (intro _u; clear _u) | with_reducible first | refine eM ?_ ?_ | refine eF ?_ ?_ ?_ | refine eN ?_ | refine eL ?_ ?_ ?_ | refine eA ?_ ?_ | refine IWk.mk ⟨_, hp, rfl⟩ ?_ ?_)
        all_goals first | with_reducible rfl | omega | exact Or.inl (by decide) | (simp; done) | rfl | skip
        simp [sx]
    · have hw : ¬ (w < 1 ∨ 8 < w) := fun hw => num_bad hw ok.made (by simpa using h1)
      rw [if_neg hw]
      repeat ((intro _u; clear _u); first | with_reducible first | refine cT ?_ | refine cF ?_ | refine cA ?_ | refine cB ?_ | refine aLn ?_ | refine cK ?_ | refine aS8 ?_ | refine wI ?_ | refine nD ?_ | refine aX rfl ?_)
      intro _u; clear _u
      refine ICall.pure h.n63.o63.hb (most_c h.n63 w (by omega)) rfl ?_
      have hh := half_le (w := w) (by omega) (by omega)
      have hlt := num_lt r (w := w) (by omega) (by omega)
      have e : ((256 : Int) ^ w.toNat) = ((256 ^ w.toNat : Nat) : Int) := by rw [Int.natCast_pow]; rfl
      have hlt' : ((r.num w).1 : Int) < 256 ^ w.toNat := by rw [e]; exact Int.ofNat_lt.2 hlt
      repeat ((intro _u; clear _u); first | with_reducible first | refine cT ?_ | refine cF ?_ | refine cA ?_ | refine cB ?_ | refine aLn ?_ | refine cK ?_ | refine aS8 ?_ | refine wI ?_ | refine nD ?_ | refine aX rfl ?_)
      intro _u; clear _u
      rw [Int.tdiv_eq_ediv_of_nonneg (by omega), half_eq (by omega) (by omega)]
      refine iwr_in (by simp only [inI]; omega) ?_
      repeat ((intro _u; clear _u); first | with_reducible first | refine cT ?_ | refine cF ?_ | refine cA ?_ | refine cB ?_ | refine aLn ?_ | refine cK ?_ | refine aS8 ?_ | refine wI ?_ | refine nD ?_ | refine aX rfl ?_)
      intro _u; clear _u
      refine cS (fun h3 => ?_) (fun h3 => ?_)
      · repeat ((intro _u; clear _u); first | with_reducible first | refine cT ?_ | refine cF ?_ | refine cA ?_ | refine cB ?_ | refine aLn ?_ | refine cK ?_ | refine aS8 ?_ | refine wI ?_ | refine nD ?_ | refine aX rfl ?_)
        intro _u; clear _u
        refine ICall.pure h.n63.o63.hb (most_c h.n63 w (by omega)) rfl ?_
        repeat ((intro _u; clear _u); first | with_reducible first | refine cT ?_ | refine cF ?_ | refine cA ?_ | refine cB ?_ | refine aLn ?_ | refine cK ?_ | refine aS8 ?_ | refine wI ?_ | refine nD ?_ | refine aX rfl ?_)
        intro _u; clear _u
        refine rM [0] ?_
        all_goals repeat' (first | exact True.intro | refine And.intro ?_ ?_ | (intro _u; clear _u) | with_reducible first | refine eM ?_ ?_ | refine eF ?_ ?_ ?_ | refine eN ?_ | refine eL ?_ ?_ ?_ | refine eA ?_ ?_ | refine IWk.mk ⟨_, hp, rfl⟩ ?_ ?_)
        all_goals first | with_reducible rfl | omega | exact Or.inl (by decide) | (simp; done) | rfl | skip
        unfold sx
        rw [e] at hh h3 ⊢
        generalize 256 ^ w.toNat = P at hh h3 ⊢
        rw [if_neg (by omega)]
        omega
      · repeat ((intro _u; clear _u); first | with_reducible first | refine cT ?_ | refine cF ?_ | refine cA ?_ | refine cB ?_ | refine aLn ?_ | refine cK ?_ | refine aS8 ?_ | refine wI ?_ | refine nD ?_ | refine aX rfl ?_)
        intro _u; clear _u
        refine rM [0] ?_
        all_goals repeat' (first | exact True.intro | refine And.intro ?_ ?_ | (intro _u; clear _u) | with_reducible first | refine eM ?_ ?_ | refine eF ?_ ?_ ?_ | refine eN ?_ | refine eL ?_ ?_ ?_ | refine eA ?_ ?_ | refine IWk.mk ⟨_, hp, rfl⟩ ?_ ?_)
        all_goals first | with_reducible rfl | omega | exact Or.inl (by decide) | (simp; done) | rfl | skip
        unfold sx
        rw [e] at hh h3 ⊢
        generalize 256 ^ w.toNat = P at hh h3 ⊢
        rw [if_pos (by omega)]
end Go.UM

/- Package texture, and the document's: what may be, and the bytes. -/




namespace Go.UM
open Go.AM
set_option maxRecDepth 4000

structure Tex where
  side : Int
  t : List T3
def Tex.row (x : Tex) : List AV := [.int .i64 x.side, .isl 3 (slc3 x.t)]
def T3.good (x : T3) : Bool := decide (0 ≤ x.a) && decide (0 ≤ x.b) && decide (0 ≤ x.c) && decide (x.a ≤ 255) && decide (x.b ≤ 255) && decide (x.c ≤ 255)
theorem T3.good_iff (x : T3) : x.good = true ↔ (0 ≤ x.a ∧ x.a ≤ 255) ∧ (0 ≤ x.b ∧ x.b ≤ 255) ∧ 0 ≤ x.c ∧ x.c ≤ 255 := by
  simp only [T3.good, Bool.and_eq_true, decide_eq_true_eq]
  omega
def sides : List Int := [1, 2, 4, 8, 16]
def tchk (x : Tex) : Int := if x.side ∉ sides ∨ (x.t.length : Int) ≠ x.side * x.side then 5 else if x.t.all T3.good = true then 0 else 5

theorem tchk_in {x : Tex} (h : x.side ∈ sides) : x.side = 1 ∨ x.side = 2 ∨ x.side = 4 ∨ x.side = 8 ∨ x.side = 16 := by
  simpa [sides] using h

theorem tchk_bad {x : Tex} {y : T3} (hy : y ∈ x.t) (h : y.good = false) : tchk x = 5 := by
  unfold tchk
  split
  · rfl
  · rw [if_neg]
    intro ha
    rw [List.all_eq_true.1 ha y hy] at h
    exact Bool.noConfusion h

theorem all_take_succ {α : Type} {n : List α} {k : Nat} {x : α} {p : α → Bool} (h : n[k]? = some x) : (n.take (k + 1)).all p = ((n.take k).all p && p x) := by
  rw [take_succ_get h]; simp

theorem tchk_c {R : Env} (h : N84 R) (x : Tex) (hl : x.t.length ≤ 1073741824) : R.Pc 84 [.agg x.row] (.int .i64 (tchk x)) :=
  h.o84.enter 100 rfl fun X bb hfit hp => by
    repeat ((intro _u; clear _u); first | with_reducible first | refine cT ?_ | refine cF ?_ | refine cA ?_ | refine cB ?_ | refine aLn ?_ | refine cK ?_ | refine aS8 ?_ | refine wI ?_ | refine nD ?_ | refine aX rfl ?_)
    intro _u; clear _u
    refine cM true [] ((contains_c h.n100 sides x.side (by decide)).mc h.n100.o100.hb) ?_
    repeat ((intro _u; clear _u); first | refine eK ?_ | refine eP ?_)
    generalize hq : tchk x = q
    repeat ((intro _u; clear _u); first | with_reducible first | refine cT ?_ | refine cF ?_ | refine cA ?_ | refine cB ?_ | refine aLn ?_ | refine cK ?_ | refine aS8 ?_ | refine wI ?_ | refine nD ?_ | refine aX rfl ?_)
    intro _u; clear _u
    refine cS (fun h1 => ?_) (fun h1 => ?_)
    · rw [tchk, if_pos (.inl h1)] at hq
      subst hq
      repeat ((intro _u; clear _u); first | with_reducible first | refine cT ?_ | refine cF ?_ | refine cA ?_ | refine cB ?_ | refine aLn ?_ | refine cK ?_ | refine aS8 ?_ | refine wI ?_ | refine nD ?_ | refine aX rfl ?_)
      intro _u; clear _u
      exact rT
    · have h2 := tchk_in h1
      have hsq : x.side * x.side ≤ 256 ∧ 0 ≤ x.side * x.side := by
        rcases h2 with h | h | h | h | h <;> rw [h] <;> decide
      repeat ((intro _u; clear _u); first | with_reducible first | refine cT ?_ | refine cF ?_ | refine cA ?_ | refine cB ?_ | refine aLn ?_ | refine cK ?_ | refine aS8 ?_ | refine wI ?_ | refine nD ?_ | refine aX rfl ?_)
      intro _u; clear _u
      refine cS (fun h3 => ?_) (fun h3 => ?_)
      · rw [tchk, if_pos (.inr h3)] at hq
        subst hq
        repeat ((intro _u; clear _u); first | with_reducible first | refine cT ?_ | refine cF ?_ | refine cA ?_ | refine cB ?_ | refine aLn ?_ | refine cK ?_ | refine aS8 ?_ | refine wI ?_ | refine nD ?_ | refine aX rfl ?_)
        intro _u; clear _u
        exact rT
      · have hz : ¬ (x.side ∉ sides ∨ (x.t.length : Int) ≠ x.side * x.side) := by simp [h1, h3]
        repeat ((intro _u; clear _u); first | with_reducible first | refine cT ?_ | refine cF ?_ | refine cA ?_ | refine cB ?_ | refine aLn ?_ | refine cK ?_ | refine aS8 ?_ | refine wI ?_ | refine nD ?_ | refine aX rfl ?_)
        intro _u; clear _u
        refine lPa 100 (fun i : Nat => i ≤ x.t.length ∧ (x.t.take i).all T3.good = true) (fun i => ⟨[(22, .isl 3 (slc3 x.t)), (23, .int .i64 x.t.length), (24, .int .i64 i)], [], 10⟩) (fun i => x.t.length - i) (0) ?_ ?_
        · exact ⟨Nat.zero_le _, rfl⟩
        · intro i hi
          dsimp only
          repeat ((intro _u; clear _u); first | with_reducible first | refine cT ?_ | refine cF ?_ | refine cA ?_ | refine cB ?_ | refine aLn ?_ | refine cK ?_ | refine aS8 ?_ | refine wI ?_ | refine nD ?_ | refine aX rfl ?_)
          intro _u; clear _u
          refine cS (fun h4 => ?_) (fun h4 => ?_)
          · obtain ⟨y, hy⟩ : ∃ u_, x.t[i]? = some u_ := ⟨_, List.getElem?_eq_getElem (by first | omega | (simp <;> omega))⟩
            repeat ((intro _u; clear _u); first | with_reducible first | refine cT ?_ | refine cF ?_ | refine cA ?_ | refine cB ?_ | refine aLn ?_ | refine cK ?_ | refine aS8 ?_ | refine wI ?_ | refine nD ?_ | refine aX rfl ?_)
            intro _u; clear _u
            refine eget_map hy ?_
            have hyg := T3.good_iff y
            repeat ((intro _u; clear _u); first | with_reducible first | refine cT ?_ | refine cF ?_ | refine cA ?_ | refine cB ?_ | refine aLn ?_ | refine cK ?_ | refine aS8 ?_ | refine wI ?_ | refine nD ?_ | refine aX rfl ?_)
            intro _u; clear _u
            refine cS (fun h5 => ?_) (fun h5 => ?_)
            · have hb : y.good = false := by rw [Bool.eq_false_iff, ne_eq, hyg]; omega
              rw [tchk_bad (List.mem_of_getElem? hy) hb] at hq
              subst hq
              repeat ((intro _u; clear _u); first | with_reducible first | refine cT ?_ | refine cF ?_ | refine cA ?_ | refine cB ?_ | refine aLn ?_ | refine cK ?_ | refine aS8 ?_ | refine wI ?_ | refine nD ?_ | refine aX rfl ?_)
              intro _u; clear _u
              exact rT
            · repeat ((intro _u; clear _u); first | with_reducible first | refine cT ?_ | refine cF ?_ | refine cA ?_ | refine cB ?_ | refine aLn ?_ | refine cK ?_ | refine aS8 ?_ | refine wI ?_ | refine nD ?_ | refine aX rfl ?_)
              intro _u; clear _u
              refine cS (fun h6 => ?_) (fun h6 => ?_)
              · have hb : y.good = false := by rw [Bool.eq_false_iff, ne_eq, hyg]; omega
                rw [tchk_bad (List.mem_of_getElem? hy) hb] at hq
                subst hq
                repeat ((intro _u; clear _u); first | with_reducible first | refine cT ?_ | refine cF ?_ | refine cA ?_ | refine cB ?_ | refine aLn ?_ | refine cK ?_ | refine aS8 ?_ | refine wI ?_ | refine nD ?_ | refine aX rfl ?_)
                intro _u; clear _u
                exact rT
              · repeat ((intro _u; clear _u); first | with_reducible first | refine cT ?_ | refine cF ?_ | refine cA ?_ | refine cB ?_ | refine aLn ?_ | refine cK ?_ | refine aS8 ?_ | refine wI ?_ | refine nD ?_ | refine aX rfl ?_)
                intro _u; clear _u
                refine nXa (i + 1) ?_ ?_
                · refine ⟨by omega, ?_⟩
                  rw [all_take_succ hy, hi.2, Bool.true_and, hyg]
                  omega
                · omega
          · rw [tchk, if_neg hz, if_pos] at hq
            · subst hq
              repeat ((intro _u; clear _u); first | with_reducible first | refine cT ?_ | refine cF ?_ | refine cA ?_ | refine cB ?_ | refine aLn ?_ | refine cK ?_ | refine aS8 ?_ | refine wI ?_ | refine nD ?_ | refine aX rfl ?_)
              intro _u; clear _u
              exact rT
            · have := hi.2
              rwa [List.take_of_length_le (by omega)] at this
end Go.UM

/- Package texture: texels, and the next level. -/


namespace Go.UM
open Go.AM
set_option maxRecDepth 4000

structure TexOk (t : Tex) : Prop where
  s : t.side ∈ sides
  l : (t.t.length : Int) = t.side * t.side
  g : t.t.all T3.good = true
theorem tchk_ok {t : Tex} (h : tchk t = 0) : TexOk t := by
  unfold tchk at h
  split at h
  · exact absurd h (by decide)
  · rename_i h1
    split at h
    · rename_i h2
      simp only [not_or, Decidable.not_not] at h1
      exact ⟨h1.1, h1.2, h2⟩
    · exact absurd h (by decide)
theorem TexOk.chk {t : Tex} (h : TexOk t) : tchk t = 0 := by
  unfold tchk
  rw [if_neg (by simp [h.s, h.l]), if_pos h.g]

theorem and_mask {y s : Int} (hs : s ∈ sides) (hy : inI .i64 y) : bit2 .and .i64 y (s - 1) = y % s := by
  have hs := by simpa [sides] using hs
  simp only [inI] at hy
  have e : bit2 .and .i64 y (s - 1) = wr .i64 ((BitVec.ofInt 64 y &&& BitVec.ofInt 64 (s - 1)).toNat : Int) := rfl
  have key : ∀ k : Nat, k ≤ 4 → s = 2 ^ k → bit2 .and .i64 y (s - 1) = y % s := by
    intro k hk hsk
    have hp : (2 : Nat) ^ k ≤ 2 ^ 4 := Nat.pow_le_pow_right (by decide) hk
    have hp0 : 0 < (2 : Nat) ^ k := Nat.pow_pos (by decide)
    have hsn : s = ((2 ^ k : Nat) : Int) := by rw [hsk, Int.natCast_pow]; rfl
    have h1 : (BitVec.ofInt 64 (s - 1)).toNat = 2 ^ k - 1 := by
      rw [ofInt_toNat (by omega) (by omega)]
      omega
    have h2 : (BitVec.ofInt 64 y).toNat = (y % 18446744073709551616).toNat := by
      rw [BitVec.toNat_ofInt]
      rfl
    rw [e, BitVec.toNat_and, h1, h2, Nat.and_two_pow_sub_one_eq_mod, wr_nat_i64 (by have := Nat.mod_lt (y % 18446744073709551616).toNat hp0; omega)]
    rw [Int.natCast_emod, ← hsn, Int.toNat_of_nonneg (Int.emod_nonneg _ (by decide))]
    apply Int.emod_emod_of_dvd
    rw [hsn, show (18446744073709551616 : Int) = ((2 ^ 64 : Nat) : Int) from rfl]
    exact Int.natCast_dvd_natCast.2 (Nat.pow_dvd_pow 2 (show k ≤ 64 by omega))
  rcases hs with h | h | h | h | h
  · exact key 0 (by decide) h
  · exact key 1 (by decide) h
  · exact key 2 (by decide) h
  · exact key 3 (by decide) h
  · exact key 4 (by decide) h

/-- A texel: the place, and what stands there. -/
def Tex.ix (t : Tex) (x y : Int) : Nat := (y % t.side * t.side + x % t.side).toNat
def Tex.at (t : Tex) (x y : Int) : T3 := t.t.getD (t.ix x y) ⟨0, 0, 0⟩
theorem TexOk.ix {t : Tex} (h : TexOk t) (x y : Int) : 0 ≤ y % t.side ∧ y % t.side < t.side ∧ 0 ≤ x % t.side ∧ x % t.side < t.side ∧ t.side ≤ 16 ∧ 1 ≤ t.side ∧ 0 ≤ y % t.side * t.side ∧ y % t.side * t.side + x % t.side < t.side * t.side ∧ t.side * t.side ≤ 256 := by
  have hs := tchk_in h.s
  have h1 : 1 ≤ t.side ∧ t.side ≤ 16 := by omega
  have h2 := Int.emod_nonneg y (show t.side ≠ 0 by omega)
  have h3 := Int.emod_lt_of_pos y (show 0 < t.side by omega)
  have h4 := Int.emod_nonneg x (show t.side ≠ 0 by omega)
  have h5 := Int.emod_lt_of_pos x (show 0 < t.side by omega)
  have h6 : y % t.side * t.side ≤ (t.side - 1) * t.side := Int.mul_le_mul_of_nonneg_right (by omega) (by omega)
  have h7 : 0 ≤ y % t.side * t.side := Int.mul_nonneg h2 (by omega)
  have h8 : t.side * t.side ≤ 16 * 16 := Int.mul_le_mul h1.2 h1.2 (by omega) (by decide)
  rw [Int.sub_mul] at h6
  exact ⟨h2, h3, h4, h5, h1.2, h1.1, h7, by omega, by omega⟩
theorem TexOk.get {t : Tex} (h : TexOk t) (x y : Int) : t.t[(y % t.side * t.side + x % t.side).toNat]? = some (t.at x y) := by
  have hi := h.ix x y
  have hl := h.l
  have : (y % t.side * t.side + x % t.side).toNat < t.t.length := by omega
  unfold Tex.at Tex.ix
  rw [List.getD_eq_getElem?_getD, List.getElem?_eq_getElem this]
  rfl

theorem at_c {R : Env} (h : N104 R) (t : Tex) (ok : TexOk t) (x y : Int) (hx : inI .i64 x) (hy : inI .i64 y) : R.Pc 104 [.agg t.row, .int .i64 x, .int .i64 y] (.agg (t3 (t.at x y))) :=
  h.o104.enter 100 rfl fun X bb hfit hp => by
    have hi := ok.ix x y
    have hl := ok.l
    have hg := ok.get x y
    repeat ((intro _u; clear _u); first | with_reducible first | refine cT ?_ | refine cF ?_ | refine cA ?_ | refine cB ?_ | refine aLn ?_ | refine cK ?_ | refine aS8 ?_ | refine wI ?_ | refine nD ?_ | refine aX rfl ?_)
    intro _u; clear _u
    rw [and_mask ok.s hy]
    refine wI ?_
    repeat ((intro _u; clear _u); first | with_reducible first | refine cT ?_ | refine cF ?_ | refine cA ?_ | refine cB ?_ | refine aLn ?_ | refine cK ?_ | refine aS8 ?_ | refine wI ?_ | refine nD ?_ | refine aX rfl ?_)
    intro _u; clear _u
    rw [and_mask ok.s hx]
    refine wI ?_
    repeat ((intro _u; clear _u); first | with_reducible first | refine cT ?_ | refine cF ?_ | refine cA ?_ | refine cB ?_ | refine aLn ?_ | refine cK ?_ | refine aS8 ?_ | refine wI ?_ | refine nD ?_ | refine aX rfl ?_)
    intro _u; clear _u
    refine eget_map hg ?_
    repeat ((intro _u; clear _u); first | with_reducible first | refine cT ?_ | refine cF ?_ | refine cA ?_ | refine cB ?_ | refine aLn ?_ | refine cK ?_ | refine aS8 ?_ | refine wI ?_ | refine nD ?_ | refine aX rfl ?_)
    intro _u; clear _u
    exact rT

/-- The next level. -/
def avg (a b c d : T3) : T3 := ⟨(a.a + b.a + c.a + d.a + 2) / 4, (a.b + b.b + c.b + d.b + 2) / 4, (a.c + b.c + c.c + d.c + 2) / 4⟩
def Tex.next (t : Tex) (s i : Int) : T3 := avg (t.at (2 * (i % s)) (2 * (i / s))) (t.at (2 * (i % s) + 1) (2 * (i / s))) (t.at (2 * (i % s)) (2 * (i / s) + 1)) (t.at (2 * (i % s) + 1) (2 * (i / s) + 1))
def nexts (t : Tex) (k : Nat) : List T3 := (List.range k).map fun i : Nat => t.next (t.side / 2) (i : Int)
def Tex.half (t : Tex) : Tex := ⟨t.side / 2, nexts t (t.side / 2 * (t.side / 2)).toNat⟩
theorem nexts_succ (t : Tex) (k : Nat) : nexts t (k + 1) = nexts t k ++ [t.next (t.side / 2) k] := by simp [nexts, List.range_succ]
@[simp] theorem nexts_zero (t : Tex) : nexts t 0 = [] := rfl
@[simp] theorem nexts_length (t : Tex) (k : Nat) : (nexts t k).length = k := by simp [nexts]

theorem TexOk.at_good {t : Tex} (h : TexOk t) (x y : Int) : (t.at x y).good = true := List.all_eq_true.1 h.g _ (List.mem_of_getElem? (h.get x y))

theorem half_c {R : Env} (h : N103 R) (t : Tex) (ok : TexOk t) : R.Pc 103 [.agg t.row] (.agg t.half.row) :=
  h.o103.enter 200 rfl fun X bb hfit hp => by
    have hs := tchk_in ok.s
    have hs2 : t.side.tdiv 2 = t.side / 2 := Int.tdiv_eq_ediv_of_nonneg (by omega)
    generalize hh : t.side / 2 = s at hs2
    have hs8 : 0 ≤ s ∧ s ≤ 8 := by omega
    have hsq : 0 ≤ s * s ∧ s * s ≤ 8 * 8 := ⟨Int.mul_nonneg hs8.1 hs8.1, Int.mul_le_mul hs8.2 hs8.2 hs8.1 (by decide)⟩
    repeat ((intro _u; clear _u); first | with_reducible first | refine cT ?_ | refine cF ?_ | refine cA ?_ | refine cB ?_ | refine aLn ?_ | refine cK ?_ | refine aS8 ?_ | refine wI ?_ | refine nD ?_ | refine aX rfl ?_)
    intro _u; clear _u
    rw [hs2]
    refine wI ?_
    repeat ((intro _u; clear _u); first | with_reducible first | refine cT ?_ | refine cF ?_ | refine cA ?_ | refine cB ?_ | refine aLn ?_ | refine cK ?_ | refine aS8 ?_ | refine wI ?_ | refine nD ?_ | refine aX rfl ?_)
    intro _u; clear _u
    refine lPa 200 (fun i : Nat => (i : Int) ≤ s * s) (fun i => ⟨[(1, .loc 0 1 0 0), (2, .loc 1 1 0 0), (3, .loc 2 1 0 0), (21, .int .i64 (s * s)), (22, .int .i64 i)], [(3, .arr (R.ty 13) 3 (slc3 (nexts t i))), (2, .var (R.ty 12) [.int .i64 s, .osl 3 i]), (1, .var (R.ty 12) [.int .i64 0, .nils]), (0, .var (R.ty 12) t.row)], 4⟩) (fun i => (s * s).toNat - i) (0) ?_ ?_
    · exact hsq.1
    · intro i hi
      dsimp only
      repeat ((intro _u; clear _u); first | with_reducible first | refine cT ?_ | refine cF ?_ | refine cA ?_ | refine cB ?_ | refine aLn ?_ | refine cK ?_ | refine aS8 ?_ | refine wI ?_ | refine nD ?_ | refine aX rfl ?_)
      intro _u; clear _u
      refine cS (fun h1 => ?_) (fun h1 => ?_)
      · have hsp : 0 < s := by
          rcases Int.lt_or_le 0 s with h | h
          · exact h
          · have : s = 0 := by omega
            rw [this] at h1
            omega
        have hm := Int.emod_nonneg (i : Int) (show s ≠ 0 by omega)
        have hm2 := Int.emod_lt_of_pos (i : Int) hsp
        have hd := Int.ediv_nonneg (show 0 ≤ (i : Int) by omega) (show 0 ≤ s by omega)
        have hd2 : (i : Int) / s < s := Int.ediv_lt_of_lt_mul hsp h1
        repeat ((intro _u; clear _u); first | with_reducible first | refine cT ?_ | refine cF ?_ | refine cA ?_ | refine cB ?_ | refine aLn ?_ | refine cK ?_ | refine aS8 ?_ | refine wI ?_ | refine nD ?_ | refine aX rfl ?_)
        intro _u; clear _u
        rw [Int.tmod_eq_emod_of_nonneg (by omega)]
        refine wI ?_
        repeat ((intro _u; clear _u); first | with_reducible first | refine cT ?_ | refine cF ?_ | refine cA ?_ | refine cB ?_ | refine aLn ?_ | refine cK ?_ | refine aS8 ?_ | refine wI ?_ | refine nD ?_ | refine aX rfl ?_)
        intro _u; clear _u
        rw [Int.tdiv_eq_ediv_of_nonneg (by omega)]
        refine wI ?_
        repeat ((intro _u; clear _u); first | with_reducible first | refine cT ?_ | refine cF ?_ | refine cA ?_ | refine cB ?_ | refine aLn ?_ | refine cK ?_ | refine aS8 ?_ | refine wI ?_ | refine nD ?_ | refine aX rfl ?_)
        intro _u; clear _u
        refine ICall.pure h.n104.o104.hb (at_c h.n104 t ok _ _ (by simp only [inI]; omega) (by simp only [inI]; omega)) rfl ?_
        repeat ((intro _u; clear _u); first | with_reducible first | refine cT ?_ | refine cF ?_ | refine cA ?_ | refine cB ?_ | refine aLn ?_ | refine cK ?_ | refine aS8 ?_ | refine wI ?_ | refine nD ?_ | refine aX rfl ?_)
        intro _u; clear _u
        refine ICall.pure h.n104.o104.hb (at_c h.n104 t ok _ _ (by simp only [inI]; omega) (by simp only [inI]; omega)) rfl ?_
        repeat ((intro _u; clear _u); first | with_reducible first | refine cT ?_ | refine cF ?_ | refine cA ?_ | refine cB ?_ | refine aLn ?_ | refine cK ?_ | refine aS8 ?_ | refine wI ?_ | refine nD ?_ | refine aX rfl ?_)
        intro _u; clear _u
        refine ICall.pure h.n104.o104.hb (at_c h.n104 t ok _ _ (by simp only [inI]; omega) (by simp only [inI]; omega)) rfl ?_
        repeat ((intro _u; clear _u); first | with_reducible first | refine cT ?_ | refine cF ?_ | refine cA ?_ | refine cB ?_ | refine aLn ?_ | refine cK ?_ | refine aS8 ?_ | refine wI ?_ | refine nD ?_ | refine aX rfl ?_)
        intro _u; clear _u
        refine ICall.pure h.n104.o104.hb (at_c h.n104 t ok _ _ (by simp only [inI]; omega) (by simp only [inI]; omega)) rfl ?_
        have g1 := (T3.good_iff _).1 (ok.at_good (2 * (i % s)) (2 * (i / s)))
        have g2 := (T3.good_iff _).1 (ok.at_good (2 * (i % s) + 1) (2 * (i / s)))
        have g3 := (T3.good_iff _).1 (ok.at_good (2 * (i % s)) (2 * (i / s) + 1))
        have g4 := (T3.good_iff _).1 (ok.at_good (2 * (i % s) + 1) (2 * (i / s) + 1))
        have hn : t.next s i = avg (t.at (2 * (i % s)) (2 * (i / s))) (t.at (2 * (i % s) + 1) (2 * (i / s))) (t.at (2 * (i % s)) (2 * (i / s) + 1)) (t.at (2 * (i % s) + 1) (2 * (i / s) + 1)) := rfl
        generalize t.at (2 * (i % s)) (2 * (i / s)) = a at g1 hn ⊢
        generalize t.at (2 * (i % s) + 1) (2 * (i / s)) = b at g2 hn ⊢
        generalize t.at (2 * (i % s)) (2 * (i / s) + 1) = c at g3 hn ⊢
        generalize t.at (2 * (i % s) + 1) (2 * (i / s) + 1) = d at g4 hn ⊢
        repeat ((intro _u; clear _u); first | with_reducible first | refine cT ?_ | refine cF ?_ | refine cA ?_ | refine cB ?_ | refine aLn ?_ | refine cK ?_ | refine aS8 ?_ | refine wI ?_ | refine nD ?_ | refine aX rfl ?_)
        intro _u; clear _u
        refine ILoop.one 100 ?_
        repeat ((intro _u; clear _u); first | with_reducible first | refine cT ?_ | refine cF ?_ | refine cA ?_ | refine cB ?_ | refine aLn ?_ | refine cK ?_ | refine aS8 ?_ | refine wI ?_ | refine nD ?_ | refine aX rfl ?_)
        intro _u; clear _u
        refine acnd_t (by decide) ?_
        repeat ((intro _u; clear _u); first | with_reducible first | refine cT ?_ | refine cF ?_ | refine cA ?_ | refine cB ?_ | refine aLn ?_ | refine cK ?_ | refine aS8 ?_ | refine wI ?_ | refine nD ?_ | refine aX rfl ?_)
        intro _u; clear _u
        rw [Int.tdiv_eq_ediv_of_nonneg (by omega)]
        refine wI ?_
        repeat ((intro _u; clear _u); first | with_reducible first | refine cT ?_ | refine cF ?_ | refine cA ?_ | refine cB ?_ | refine aLn ?_ | refine cK ?_ | refine aS8 ?_ | refine wI ?_ | refine nD ?_ | refine aX rfl ?_)
        intro _u; clear _u
        refine ILoop.one 100 ?_
        repeat ((intro _u; clear _u); first | with_reducible first | refine cT ?_ | refine cF ?_ | refine cA ?_ | refine cB ?_ | refine aLn ?_ | refine cK ?_ | refine aS8 ?_ | refine wI ?_ | refine nD ?_ | refine aX rfl ?_)
        intro _u; clear _u
        refine acnd_t (by decide) ?_
        repeat ((intro _u; clear _u); first | with_reducible first | refine cT ?_ | refine cF ?_ | refine cA ?_ | refine cB ?_ | refine aLn ?_ | refine cK ?_ | refine aS8 ?_ | refine wI ?_ | refine nD ?_ | refine aX rfl ?_)
        intro _u; clear _u
        rw [Int.tdiv_eq_ediv_of_nonneg (by omega)]
        refine wI ?_
        repeat ((intro _u; clear _u); first | with_reducible first | refine cT ?_ | refine cF ?_ | refine cA ?_ | refine cB ?_ | refine aLn ?_ | refine cK ?_ | refine aS8 ?_ | refine wI ?_ | refine nD ?_ | refine aX rfl ?_)
        intro _u; clear _u
        refine ILoop.one 100 ?_
        repeat ((intro _u; clear _u); first | with_reducible first | refine cT ?_ | refine cF ?_ | refine cA ?_ | refine cB ?_ | refine aLn ?_ | refine cK ?_ | refine aS8 ?_ | refine wI ?_ | refine nD ?_ | refine aX rfl ?_)
        intro _u; clear _u
        refine acnd_t (by decide) ?_
        repeat ((intro _u; clear _u); first | with_reducible first | refine cT ?_ | refine cF ?_ | refine cA ?_ | refine cB ?_ | refine aLn ?_ | refine cK ?_ | refine aS8 ?_ | refine wI ?_ | refine nD ?_ | refine aX rfl ?_)
        intro _u; clear _u
        rw [Int.tdiv_eq_ediv_of_nonneg (by omega)]
        refine wI ?_
        repeat ((intro _u; clear _u); first | with_reducible first | refine cT ?_ | refine cF ?_ | refine cA ?_ | refine cB ?_ | refine aLn ?_ | refine cK ?_ | refine aS8 ?_ | refine wI ?_ | refine nD ?_ | refine aX rfl ?_)
        intro _u; clear _u
        refine ILoop.one 100 ?_
        repeat ((intro _u; clear _u); first | with_reducible first | refine cT ?_ | refine cF ?_ | refine cA ?_ | refine cB ?_ | refine aLn ?_ | refine cK ?_ | refine aS8 ?_ | refine wI ?_ | refine nD ?_ | refine aX rfl ?_)
        intro _u; clear _u
        refine acnd_f (by decide) ?_
        repeat ((intro _u; clear _u); first | with_reducible first | refine cT ?_ | refine cF ?_ | refine cA ?_ | refine cB ?_ | refine aLn ?_ | refine cK ?_ | refine aS8 ?_ | refine wI ?_ | refine nD ?_ | refine aX rfl ?_)
        intro _u; clear _u
        refine nX (i + 1) ?_ ?_ ⟨_, hp, rfl⟩ ?_ ?_
        · omega
        · omega
        · all_goals repeat' (first | exact True.intro | refine And.intro ?_ ?_ | (intro _u; clear _u) | with_reducible first | refine eM ?_ ?_ | refine eF ?_ ?_ ?_ | refine eN ?_ | refine eL ?_ ?_ ?_ | refine eA ?_ ?_ | refine IWk.mk ⟨_, hp, rfl⟩ ?_ ?_)
          all_goals first | with_reducible rfl | omega | exact Or.inl (by decide) | (simp; done) | rfl | skip
        · all_goals repeat' (first | exact True.intro | refine And.intro ?_ ?_ | (intro _u; clear _u) | with_reducible first | refine eM ?_ ?_ | refine eF ?_ ?_ ?_ | refine eN ?_ | refine eL ?_ ?_ ?_ | refine eA ?_ ?_ | refine IWk.mk ⟨_, hp, rfl⟩ ?_ ?_)
          all_goals first | with_reducible rfl | omega | exact Or.inl (by decide) | (simp; done) | rfl | skip
          rw [nexts_succ, hh, hn]
          simp [slc3, t3, avg]
      · have e : t.half = ⟨s, nexts t i⟩ := by
          unfold Tex.half
          rw [hh, show (s * s).toNat = i by omega]
        rw [e]
        repeat ((intro _u; clear _u); first | with_reducible first | refine cT ?_ | refine cF ?_ | refine cA ?_ | refine cB ?_ | refine aLn ?_ | refine cK ?_ | refine aS8 ?_ | refine wI ?_ | refine nD ?_ | refine aX rfl ?_)
        intro _u; clear _u
        exact rT

def halfs (t : Tex) : Tex × Int := if tchk t ≠ 0 then (⟨0, []⟩, tchk t) else if t.side = 1 then (⟨0, []⟩, 2) else (t.half, 0)

theorem halfs_c {R : Env} (h : N91 R) (t : Tex) (hl : t.t.length ≤ 1073741824) : R.Pc 91 [.agg t.row] (.tup [.agg (halfs t).1.row, .int .i64 (halfs t).2]) :=
  h.o91.enter 100 rfl fun X bb hfit hp => by
    repeat ((intro _u; clear _u); first | with_reducible first | refine cT ?_ | refine cF ?_ | refine cA ?_ | refine cB ?_ | refine aLn ?_ | refine cK ?_ | refine aS8 ?_ | refine wI ?_ | refine nD ?_ | refine aX rfl ?_)
    intro _u; clear _u
    refine ICall.pure h.n84.o84.hb (tchk_c h.n84 t hl) rfl ?_
    generalize hq : halfs t = q
    repeat ((intro _u; clear _u); first | with_reducible first | refine cT ?_ | refine cF ?_ | refine cA ?_ | refine cB ?_ | refine aLn ?_ | refine cK ?_ | refine aS8 ?_ | refine wI ?_ | refine nD ?_ | refine aX rfl ?_)
    intro _u; clear _u
    refine cS (fun h1 => ?_) (fun h1 => ?_)
    · rw [halfs, if_pos h1] at hq
      subst hq
      repeat ((intro _u; clear _u); first | with_reducible first | refine cT ?_ | refine cF ?_ | refine cA ?_ | refine cB ?_ | refine aLn ?_ | refine cK ?_ | refine aS8 ?_ | refine wI ?_ | refine nD ?_ | refine aX rfl ?_)
      intro _u; clear _u
      exact rT
    · have ok := tchk_ok h1
      rw [halfs, if_neg (by simpa using h1)] at hq
      repeat ((intro _u; clear _u); first | with_reducible first | refine cT ?_ | refine cF ?_ | refine cA ?_ | refine cB ?_ | refine aLn ?_ | refine cK ?_ | refine aS8 ?_ | refine wI ?_ | refine nD ?_ | refine aX rfl ?_)
      intro _u; clear _u
      refine cS (fun h2 => ?_) (fun h2 => ?_)
      · rw [if_pos h2] at hq
        subst hq
        repeat ((intro _u; clear _u); first | with_reducible first | refine cT ?_ | refine cF ?_ | refine cA ?_ | refine cB ?_ | refine aLn ?_ | refine cK ?_ | refine aS8 ?_ | refine wI ?_ | refine nD ?_ | refine aX rfl ?_)
        intro _u; clear _u
        exact rT
      · rw [if_neg h2] at hq
        subst hq
        repeat ((intro _u; clear _u); first | with_reducible first | refine cT ?_ | refine cF ?_ | refine cA ?_ | refine cB ?_ | refine aLn ?_ | refine cK ?_ | refine aS8 ?_ | refine wI ?_ | refine nD ?_ | refine aX rfl ?_)
        intro _u; clear _u
        refine ICall.pure h.n103.o103.hb (half_c h.n103 t ok) rfl ?_
        repeat ((intro _u; clear _u); first | with_reducible first | refine cT ?_ | refine cF ?_ | refine cA ?_ | refine cB ?_ | refine aLn ?_ | refine cK ?_ | refine aS8 ?_ | refine wI ?_ | refine nD ?_ | refine aX rfl ?_)
        intro _u; clear _u
        exact rT

/-- The bytes. -/
def texs (l : List T3) : List UInt8 := l.flatMap fun x => [u8 x.a, u8 x.b, u8 x.c]
def tencs (t : Tex) : List UInt8 × Int := if tchk t ≠ 0 then ([], tchk t) else (u8 t.side :: texs t.t, 0)

theorem texs_len : ∀ l : List T3, (texs l).length = 3 * l.length
  | [] => rfl
  | x :: r => by
    have := texs_len r
    simp only [texs, List.flatMap_cons, List.length_append, List.length_cons, List.length_nil] at this ⊢
    omega
theorem texs_succ {l : List T3} {k : Nat} {x : T3} (h : l[k]? = some x) : texs (l.take (k + 1)) = texs (l.take k) ++ [u8 x.a, u8 x.b, u8 x.c] := by
  rw [take_succ_get h]; simp [texs]

theorem tencode_c {R : Env} (h : N82 R) (t : Tex) (hl : t.t.length ≤ 1073741824) : R.Pc 82 [.agg t.row] (.tup [.isl 1 (slc8 (tencs t).1), .int .i64 (tencs t).2]) :=
  h.o82.enter 200 rfl fun X bb hfit hp => by
    repeat ((intro _u; clear _u); first | with_reducible first | refine cT ?_ | refine cF ?_ | refine cA ?_ | refine cB ?_ | refine aLn ?_ | refine cK ?_ | refine aS8 ?_ | refine wI ?_ | refine nD ?_ | refine aX rfl ?_)
    intro _u; clear _u
    refine ICall.pure h.n84.o84.hb (tchk_c h.n84 t hl) rfl ?_
    generalize hq : tencs t = q
    repeat ((intro _u; clear _u); first | with_reducible first | refine cT ?_ | refine cF ?_ | refine cA ?_ | refine cB ?_ | refine aLn ?_ | refine cK ?_ | refine aS8 ?_ | refine wI ?_ | refine nD ?_ | refine aX rfl ?_)
    intro _u; clear _u
    refine cS (fun h1 => ?_) (fun h1 => ?_)
    · rw [tencs, if_pos h1] at hq
      subst hq
      repeat ((intro _u; clear _u); first | with_reducible first | refine cT ?_ | refine cF ?_ | refine cA ?_ | refine cB ?_ | refine aLn ?_ | refine cK ?_ | refine aS8 ?_ | refine wI ?_ | refine nD ?_ | refine aX rfl ?_)
      intro _u; clear _u
      exact rT
    · have ok := tchk_ok h1
      rw [tencs, if_neg (by simpa using h1)] at hq
      subst hq
      have hs := tchk_in ok.s
      have htl : t.t.length ≤ 256 := by
        have := ok.l
        rcases hs with h | h | h | h | h <;> rw [h] at this <;> omega
      repeat ((intro _u; clear _u); first | with_reducible first | refine cT ?_ | refine cF ?_ | refine cA ?_ | refine cB ?_ | refine aLn ?_ | refine cK ?_ | refine aS8 ?_ | refine wI ?_ | refine nD ?_ | refine aX rfl ?_)
      intro _u; clear _u
      refine ILoop.inv 200 (fun i : Nat => i ≤ t.t.length) (fun i => ⟨[(5, .osl 1 (u8 t.side :: texs (t.t.take i)).length), (18, .isl 3 (slc3 t.t)), (19, .int .i64 t.t.length), (20, .int .i64 i)], [(1, .arr (R.ty 4) 1 (slc8 (u8 t.side :: texs (t.t.take i))))], 2⟩) (fun i => t.t.length - i) (0) ?_ ⟨⟨_, hp, rfl⟩, ?_, ?_⟩ ?_
      · exact Nat.zero_le _
      · all_goals repeat' (first | exact True.intro | refine And.intro ?_ ?_ | (intro _u; clear _u) | with_reducible first | refine eM ?_ ?_ | refine eF ?_ ?_ ?_ | refine eN ?_ | refine eL ?_ ?_ ?_ | refine eA ?_ ?_ | refine IWk.mk ⟨_, hp, rfl⟩ ?_ ?_)
        all_goals first | with_reducible rfl | omega | exact Or.inl (by decide) | (simp; done) | rfl | skip
      · all_goals repeat' (first | exact True.intro | refine And.intro ?_ ?_ | (intro _u; clear _u) | with_reducible first | refine eM ?_ ?_ | refine eF ?_ ?_ ?_ | refine eN ?_ | refine eL ?_ ?_ ?_ | refine eA ?_ ?_ | refine IWk.mk ⟨_, hp, rfl⟩ ?_ ?_)
        all_goals first | with_reducible rfl | omega | exact Or.inl (by decide) | (simp; done) | rfl | skip
        simp [slc8, texs, u8_in (n := t.side) (by omega)]
      · intro i hi
        dsimp only
        repeat ((intro _u; clear _u); first | with_reducible first | refine cT ?_ | refine cF ?_ | refine cA ?_ | refine cB ?_ | refine aLn ?_ | refine cK ?_ | refine aS8 ?_ | refine wI ?_ | refine nD ?_ | refine aX rfl ?_)
        intro _u; clear _u
        refine cS (fun h2 => ?_) (fun h2 => ?_)
        · obtain ⟨y, hy⟩ : ∃ u_, t.t[i]? = some u_ := ⟨_, List.getElem?_eq_getElem (by first | omega | (simp <;> omega))⟩
          repeat ((intro _u; clear _u); first | with_reducible first | refine cT ?_ | refine cF ?_ | refine cA ?_ | refine cB ?_ | refine aLn ?_ | refine cK ?_ | refine aS8 ?_ | refine wI ?_ | refine nD ?_ | refine aX rfl ?_)
          intro _u; clear _u
          refine eget_map hy ?_
          repeat ((intro _u; clear _u); first | with_reducible first | refine cT ?_ | refine cF ?_ | refine cA ?_ | refine cB ?_ | refine aLn ?_ | refine cK ?_ | refine aS8 ?_ | refine wI ?_ | refine nD ?_ | refine aX rfl ?_)
          intro _u; clear _u
          refine iwr_any ?_
          repeat ((intro _u; clear _u); first | with_reducible first | refine cT ?_ | refine cF ?_ | refine cA ?_ | refine cB ?_ | refine aLn ?_ | refine cK ?_ | refine aS8 ?_ | refine wI ?_ | refine nD ?_ | refine aX rfl ?_)
          intro _u; clear _u
          refine iwr_any ?_
          repeat ((intro _u; clear _u); first | with_reducible first | refine cT ?_ | refine cF ?_ | refine cA ?_ | refine cB ?_ | refine aLn ?_ | refine cK ?_ | refine aS8 ?_ | refine wI ?_ | refine nD ?_ | refine aX rfl ?_)
          intro _u; clear _u
          refine iwr_any ?_
          repeat ((intro _u; clear _u); first | with_reducible first | refine cT ?_ | refine cF ?_ | refine cA ?_ | refine cB ?_ | refine aLn ?_ | refine cK ?_ | refine aS8 ?_ | refine wI ?_ | refine nD ?_ | refine aX rfl ?_)
          intro _u; clear _u
          refine nD ?_ (by have := texs_len (t.t.take i); simp only [List.length_take] at this; simp; omega)
          repeat ((intro _u; clear _u); first | with_reducible first | refine cT ?_ | refine cF ?_ | refine cA ?_ | refine cB ?_ | refine aLn ?_ | refine cK ?_ | refine aS8 ?_ | refine wI ?_ | refine nD ?_ | refine aX rfl ?_)
          intro _u; clear _u
          refine nX (i + 1) ?_ ?_ ⟨_, hp, rfl⟩ ?_ ?_
          · omega
          · omega
          · all_goals repeat' (first | exact True.intro | refine And.intro ?_ ?_ | (intro _u; clear _u) | with_reducible first | refine eM ?_ ?_ | refine eF ?_ ?_ ?_ | refine eN ?_ | refine eL ?_ ?_ ?_ | refine eA ?_ ?_ | refine IWk.mk ⟨_, hp, rfl⟩ ?_ ?_)
            all_goals first | with_reducible rfl | omega | exact Or.inl (by decide) | (simp; done) | rfl | skip
            rw [texs_succ hy]; simp
          · all_goals repeat' (first | exact True.intro | refine And.intro ?_ ?_ | (intro _u; clear _u) | with_reducible first | refine eM ?_ ?_ | refine eF ?_ ?_ ?_ | refine eN ?_ | refine eL ?_ ?_ ?_ | refine eA ?_ ?_ | refine IWk.mk ⟨_, hp, rfl⟩ ?_ ?_)
            all_goals first | with_reducible rfl | omega | exact Or.inl (by decide) | (simp; done) | rfl | skip
            rw [texs_succ hy]; simp [slc8, wr_u8]
        · rw [List.take_of_length_le (by omega)]
          repeat ((intro _u; clear _u); first | with_reducible first | refine cT ?_ | refine cF ?_ | refine cA ?_ | refine cB ?_ | refine aLn ?_ | refine cK ?_ | refine aS8 ?_ | refine wI ?_ | refine nD ?_ | refine aX rfl ?_)
          intro _u; clear _u
          exact rT
end Go.UM

/- The document's texture (umbraref14): what may be, and the bytes. -/

namespace Go.UM
open Go.AM
set_option maxRecDepth 4000

theorem T3.bad_a {y : T3} (h : y.a < 0 ∨ 255 < y.a) : y.good = false := by rw [Bool.eq_false_iff, ne_eq, T3.good_iff]; omega
theorem T3.bad_b {y : T3} (h : y.b < 0 ∨ 255 < y.b) : y.good = false := by rw [Bool.eq_false_iff, ne_eq, T3.good_iff]; omega
theorem T3.bad_c {y : T3} (h : y.c < 0 ∨ 255 < y.c) : y.good = false := by rw [Bool.eq_false_iff, ne_eq, T3.good_iff]; omega



theorem rtchk_c {R : Env} (h : N85 R) (x : Tex) (hl : x.t.length ≤ 1073741824) : R.Pc 85 [.agg x.row] (.int .i64 (tchk x)) :=
  h.o85.enter 200 rfl fun X bb hfit hp => by
    generalize hq : tchk x = q
    by_cases hin : x.side ∈ sides
    · have h2 := tchk_in hin
      have hsq : x.side * x.side ≤ 256 ∧ 0 ≤ x.side * x.side := by
        rcases h2 with h | h | h | h | h <;> rw [h] <;> decide
      repeat ((intro _u; clear _u); first | with_reducible first | refine cT ?_ | refine cF ?_ | refine cA ?_ | refine cB ?_ | refine aLn ?_ | refine cK ?_ | refine aS8 ?_ | refine wI ?_ | refine nD ?_ | refine aX rfl ?_)
      intro _u; clear _u
      refine cS (fun h1 => ?_) (fun h1 => ?_)
      · repeat ((intro _u; clear _u); first | with_reducible first | refine cT ?_ | refine cF ?_ | refine cA ?_ | refine cB ?_ | refine aLn ?_ | refine cK ?_ | refine aS8 ?_ | refine wI ?_ | refine nD ?_ | refine aX rfl ?_)
        intro _u; clear _u
        refine cS (fun h3 => ?_) (fun h3 => ?_)
        · repeat ((intro _u; clear _u); first | with_reducible first | refine cT ?_ | refine cF ?_ | refine cA ?_ | refine cB ?_ | refine aLn ?_ | refine cK ?_ | refine aS8 ?_ | refine wI ?_ | refine nD ?_ | refine aX rfl ?_)
          intro _u; clear _u
          refine cS (fun h4 => ?_) (fun h4 => ?_)
          · repeat ((intro _u; clear _u); first | with_reducible first | refine cT ?_ | refine cF ?_ | refine cA ?_ | refine cB ?_ | refine aLn ?_ | refine cK ?_ | refine aS8 ?_ | refine wI ?_ | refine nD ?_ | refine aX rfl ?_)
            intro _u; clear _u
            refine cS (fun h5 => ?_) (fun h5 => ?_)
            · repeat ((intro _u; clear _u); first | with_reducible first | refine cT ?_ | refine cF ?_ | refine cA ?_ | refine cB ?_ | refine aLn ?_ | refine cK ?_ | refine aS8 ?_ | refine wI ?_ | refine nD ?_ | refine aX rfl ?_)
              intro _u; clear _u
              refine acnd_f (by (simp; omega)) ?_
              repeat ((intro _u; clear _u); first | with_reducible first | refine cT ?_ | refine cF ?_ | refine cA ?_ | refine cB ?_ | refine aLn ?_ | refine cK ?_ | refine aS8 ?_ | refine wI ?_ | refine nD ?_ | refine aX rfl ?_)
              intro _u; clear _u
              refine cS (fun h6 => ?_) (fun h6 => ?_)
              · rw [tchk, if_pos (.inr h6)] at hq
                subst hq
                repeat ((intro _u; clear _u); first | with_reducible first | refine cT ?_ | refine cF ?_ | refine cA ?_ | refine cB ?_ | refine aLn ?_ | refine cK ?_ | refine aS8 ?_ | refine wI ?_ | refine nD ?_ | refine aX rfl ?_)
                intro _u; clear _u
                exact rT
              · repeat ((intro _u; clear _u); first | with_reducible first | refine cT ?_ | refine cF ?_ | refine cA ?_ | refine cB ?_ | refine aLn ?_ | refine cK ?_ | refine aS8 ?_ | refine wI ?_ | refine nD ?_ | refine aX rfl ?_)
                intro _u; clear _u
                refine lPa 200 (fun i : Nat => i ≤ x.t.length ∧ (x.t.take i).all T3.good = true) (fun i => ⟨[(1, .loc 0 1 0 0), (3, .int .i64 i)], [(0, .var (R.ty 12) x.row)], 1⟩) (fun i => x.t.length - i) (0) ?_ ?_
                · exact ⟨Nat.zero_le _, rfl⟩
                · intro i hi
                  dsimp only
                  repeat ((intro _u; clear _u); first | with_reducible first | refine cT ?_ | refine cF ?_ | refine cA ?_ | refine cB ?_ | refine aLn ?_ | refine cK ?_ | refine aS8 ?_ | refine wI ?_ | refine nD ?_ | refine aX rfl ?_)
                  intro _u; clear _u
                  refine cS (fun h7 => ?_) (fun h7 => ?_)
                  · obtain ⟨y, hy⟩ : ∃ u, x.t[i]? = some u := ⟨_, List.getElem?_eq_getElem (by omega)⟩
                    have hym := List.mem_of_getElem? hy
                    have hyg := T3.good_iff y
                    repeat ((intro _u; clear _u); first | with_reducible first | refine cT ?_ | refine cF ?_ | refine cA ?_ | refine cB ?_ | refine aLn ?_ | refine cK ?_ | refine aS8 ?_ | refine wI ?_ | refine nD ?_ | refine aX rfl ?_)
                    intro _u; clear _u
                    refine ILoop.one 100 ?_
                    repeat ((intro _u; clear _u); first | with_reducible first | refine cT ?_ | refine cF ?_ | refine cA ?_ | refine cB ?_ | refine aLn ?_ | refine cK ?_ | refine aS8 ?_ | refine wI ?_ | refine nD ?_ | refine aX rfl ?_)
                    intro _u; clear _u
                    refine acnd_t (by decide) ?_
                    repeat ((intro _u; clear _u); first | with_reducible first | refine cT ?_ | refine cF ?_ | refine cA ?_ | refine cB ?_ | refine aLn ?_ | refine cK ?_ | refine aS8 ?_ | refine wI ?_ | refine nD ?_ | refine aX rfl ?_)
                    intro _u; clear _u
                    refine eget_map hy ?_
                    repeat ((intro _u; clear _u); first | with_reducible first | refine cT ?_ | refine cF ?_ | refine cA ?_ | refine cB ?_ | refine aLn ?_ | refine cK ?_ | refine aS8 ?_ | refine wI ?_ | refine nD ?_ | refine aX rfl ?_)
                    intro _u; clear _u
                    refine cS (fun g1 => ?_) (fun g1 => ?_)
                    · rw [tchk_bad hym (T3.bad_a (.inl g1))] at hq
                      subst hq
                      repeat ((intro _u; clear _u); first | with_reducible first | refine cT ?_ | refine cF ?_ | refine cA ?_ | refine cB ?_ | refine aLn ?_ | refine cK ?_ | refine aS8 ?_ | refine wI ?_ | refine nD ?_ | refine aX rfl ?_)
                      intro _u; clear _u
                      exact rT
                    · repeat ((intro _u; clear _u); first | with_reducible first | refine cT ?_ | refine cF ?_ | refine cA ?_ | refine cB ?_ | refine aLn ?_ | refine cK ?_ | refine aS8 ?_ | refine wI ?_ | refine nD ?_ | refine aX rfl ?_)
                      intro _u; clear _u
                      refine eget_map hy ?_
                      repeat ((intro _u; clear _u); first | with_reducible first | refine cT ?_ | refine cF ?_ | refine cA ?_ | refine cB ?_ | refine aLn ?_ | refine cK ?_ | refine aS8 ?_ | refine wI ?_ | refine nD ?_ | refine aX rfl ?_)
                      intro _u; clear _u
                      refine cS (fun g2 => ?_) (fun g2 => ?_)
                      · rw [tchk_bad hym (T3.bad_a (.inr g2))] at hq
                        subst hq
                        repeat ((intro _u; clear _u); first | with_reducible first | refine cT ?_ | refine cF ?_ | refine cA ?_ | refine cB ?_ | refine aLn ?_ | refine cK ?_ | refine aS8 ?_ | refine wI ?_ | refine nD ?_ | refine aX rfl ?_)
                        intro _u; clear _u
                        exact rT
                      · repeat ((intro _u; clear _u); first | with_reducible first | refine cT ?_ | refine cF ?_ | refine cA ?_ | refine cB ?_ | refine aLn ?_ | refine cK ?_ | refine aS8 ?_ | refine wI ?_ | refine nD ?_ | refine aX rfl ?_)
                        intro _u; clear _u
                        refine ILoop.one 100 ?_
                        repeat ((intro _u; clear _u); first | with_reducible first | refine cT ?_ | refine cF ?_ | refine cA ?_ | refine cB ?_ | refine aLn ?_ | refine cK ?_ | refine aS8 ?_ | refine wI ?_ | refine nD ?_ | refine aX rfl ?_)
                        intro _u; clear _u
                        refine acnd_t (by decide) ?_
                        repeat ((intro _u; clear _u); first | with_reducible first | refine cT ?_ | refine cF ?_ | refine cA ?_ | refine cB ?_ | refine aLn ?_ | refine cK ?_ | refine aS8 ?_ | refine wI ?_ | refine nD ?_ | refine aX rfl ?_)
                        intro _u; clear _u
                        refine eget_map hy ?_
                        repeat ((intro _u; clear _u); first | with_reducible first | refine cT ?_ | refine cF ?_ | refine cA ?_ | refine cB ?_ | refine aLn ?_ | refine cK ?_ | refine aS8 ?_ | refine wI ?_ | refine nD ?_ | refine aX rfl ?_)
                        intro _u; clear _u
                        refine cS (fun g3 => ?_) (fun g3 => ?_)
                        · rw [tchk_bad hym (T3.bad_b (.inl g3))] at hq
                          subst hq
                          repeat ((intro _u; clear _u); first | with_reducible first | refine cT ?_ | refine cF ?_ | refine cA ?_ | refine cB ?_ | refine aLn ?_ | refine cK ?_ | refine aS8 ?_ | refine wI ?_ | refine nD ?_ | refine aX rfl ?_)
                          intro _u; clear _u
                          exact rT
                        · repeat ((intro _u; clear _u); first | with_reducible first | refine cT ?_ | refine cF ?_ | refine cA ?_ | refine cB ?_ | refine aLn ?_ | refine cK ?_ | refine aS8 ?_ | refine wI ?_ | refine nD ?_ | refine aX rfl ?_)
                          intro _u; clear _u
                          refine eget_map hy ?_
                          repeat ((intro _u; clear _u); first | with_reducible first | refine cT ?_ | refine cF ?_ | refine cA ?_ | refine cB ?_ | refine aLn ?_ | refine cK ?_ | refine aS8 ?_ | refine wI ?_ | refine nD ?_ | refine aX rfl ?_)
                          intro _u; clear _u
                          refine cS (fun g4 => ?_) (fun g4 => ?_)
                          · rw [tchk_bad hym (T3.bad_b (.inr g4))] at hq
                            subst hq
                            repeat ((intro _u; clear _u); first | with_reducible first | refine cT ?_ | refine cF ?_ | refine cA ?_ | refine cB ?_ | refine aLn ?_ | refine cK ?_ | refine aS8 ?_ | refine wI ?_ | refine nD ?_ | refine aX rfl ?_)
                            intro _u; clear _u
                            exact rT
                          · repeat ((intro _u; clear _u); first | with_reducible first | refine cT ?_ | refine cF ?_ | refine cA ?_ | refine cB ?_ | refine aLn ?_ | refine cK ?_ | refine aS8 ?_ | refine wI ?_ | refine nD ?_ | refine aX rfl ?_)
                            intro _u; clear _u
                            refine ILoop.one 100 ?_
                            repeat ((intro _u; clear _u); first | with_reducible first | refine cT ?_ | refine cF ?_ | refine cA ?_ | refine cB ?_ | refine aLn ?_ | refine cK ?_ | refine aS8 ?_ | refine wI ?_ | refine nD ?_ | refine aX rfl ?_)
                            intro _u; clear _u
                            refine acnd_t (by decide) ?_
                            repeat ((intro _u; clear _u); first | with_reducible first | refine cT ?_ | refine cF ?_ | refine cA ?_ | refine cB ?_ | refine aLn ?_ | refine cK ?_ | refine aS8 ?_ | refine wI ?_ | refine nD ?_ | refine aX rfl ?_)
                            intro _u; clear _u
                            refine eget_map hy ?_
                            repeat ((intro _u; clear _u); first | with_reducible first | refine cT ?_ | refine cF ?_ | refine cA ?_ | refine cB ?_ | refine aLn ?_ | refine cK ?_ | refine aS8 ?_ | refine wI ?_ | refine nD ?_ | refine aX rfl ?_)
                            intro _u; clear _u
                            refine cS (fun g5 => ?_) (fun g5 => ?_)
                            · rw [tchk_bad hym (T3.bad_c (.inl g5))] at hq
                              subst hq
                              repeat ((intro _u; clear _u); first | with_reducible first | refine cT ?_ | refine cF ?_ | refine cA ?_ | refine cB ?_ | refine aLn ?_ | refine cK ?_ | refine aS8 ?_ | refine wI ?_ | refine nD ?_ | refine aX rfl ?_)
                              intro _u; clear _u
                              exact rT
                            · repeat ((intro _u; clear _u); first | with_reducible first | refine cT ?_ | refine cF ?_ | refine cA ?_ | refine cB ?_ | refine aLn ?_ | refine cK ?_ | refine aS8 ?_ | refine wI ?_ | refine nD ?_ | refine aX rfl ?_)
                              intro _u; clear _u
                              refine eget_map hy ?_
                              repeat ((intro _u; clear _u); first | with_reducible first | refine cT ?_ | refine cF ?_ | refine cA ?_ | refine cB ?_ | refine aLn ?_ | refine cK ?_ | refine aS8 ?_ | refine wI ?_ | refine nD ?_ | refine aX rfl ?_)
                              intro _u; clear _u
                              refine cS (fun g6 => ?_) (fun g6 => ?_)
                              · rw [tchk_bad hym (T3.bad_c (.inr g6))] at hq
                                subst hq
                                repeat ((intro _u; clear _u); first | with_reducible first | refine cT ?_ | refine cF ?_ | refine cA ?_ | refine cB ?_ | refine aLn ?_ | refine cK ?_ | refine aS8 ?_ | refine wI ?_ | refine nD ?_ | refine aX rfl ?_)
                                intro _u; clear _u
                                exact rT
                              · repeat ((intro _u; clear _u); first | with_reducible first | refine cT ?_ | refine cF ?_ | refine cA ?_ | refine cB ?_ | refine aLn ?_ | refine cK ?_ | refine aS8 ?_ | refine wI ?_ | refine nD ?_ | refine aX rfl ?_)
                                intro _u; clear _u
                                refine ILoop.one 100 ?_
                                repeat ((intro _u; clear _u); first | with_reducible first | refine cT ?_ | refine cF ?_ | refine cA ?_ | refine cB ?_ | refine aLn ?_ | refine cK ?_ | refine aS8 ?_ | refine wI ?_ | refine nD ?_ | refine aX rfl ?_)
                                intro _u; clear _u
                                refine acnd_f (by decide) ?_
                                repeat ((intro _u; clear _u); first | with_reducible first | refine cT ?_ | refine cF ?_ | refine cA ?_ | refine cB ?_ | refine aLn ?_ | refine cK ?_ | refine aS8 ?_ | refine wI ?_ | refine nD ?_ | refine aX rfl ?_)
                                intro _u; clear _u
                                refine nXa (i + 1) ?_ ?_
                                · refine ⟨by omega, ?_⟩
                                  rw [all_take_succ hy, hi.2, Bool.true_and, hyg]
                                  omega
                                · omega
                  · have hz : ¬ (x.side ∉ sides ∨ (x.t.length : Int) ≠ x.side * x.side) := by simp [hin, h6]
                    rw [tchk, if_neg hz, if_pos] at hq
                    · subst hq
                      repeat ((intro _u; clear _u); first | with_reducible first | refine cT ?_ | refine cF ?_ | refine cA ?_ | refine cB ?_ | refine aLn ?_ | refine cK ?_ | refine aS8 ?_ | refine wI ?_ | refine nD ?_ | refine aX rfl ?_)
                      intro _u; clear _u
                      exact rT
                    · have := hi.2
                      rwa [List.take_of_length_le (by omega)] at this
            · repeat ((intro _u; clear _u); first | with_reducible first | refine cT ?_ | refine cF ?_ | refine cA ?_ | refine cB ?_ | refine aLn ?_ | refine cK ?_ | refine aS8 ?_ | refine wI ?_ | refine nD ?_ | refine aX rfl ?_)
              intro _u; clear _u
              refine cS (fun h6 => ?_) (fun h6 => ?_)
              · rw [tchk, if_pos (.inr h6)] at hq
                subst hq
                repeat ((intro _u; clear _u); first | with_reducible first | refine cT ?_ | refine cF ?_ | refine cA ?_ | refine cB ?_ | refine aLn ?_ | refine cK ?_ | refine aS8 ?_ | refine wI ?_ | refine nD ?_ | refine aX rfl ?_)
                intro _u; clear _u
                exact rT
              · repeat ((intro _u; clear _u); first | with_reducible first | refine cT ?_ | refine cF ?_ | refine cA ?_ | refine cB ?_ | refine aLn ?_ | refine cK ?_ | refine aS8 ?_ | refine wI ?_ | refine nD ?_ | refine aX rfl ?_)
                intro _u; clear _u
                refine lPa 200 (fun i : Nat => i ≤ x.t.length ∧ (x.t.take i).all T3.good = true) (fun i => ⟨[(1, .loc 0 1 0 0), (3, .int .i64 i)], [(0, .var (R.ty 12) x.row)], 1⟩) (fun i => x.t.length - i) (0) ?_ ?_
                · exact ⟨Nat.zero_le _, rfl⟩
                · intro i hi
                  dsimp only
                  repeat ((intro _u; clear _u); first | with_reducible first | refine cT ?_ | refine cF ?_ | refine cA ?_ | refine cB ?_ | refine aLn ?_ | refine cK ?_ | refine aS8 ?_ | refine wI ?_ | refine nD ?_ | refine aX rfl ?_)
                  intro _u; clear _u
                  refine cS (fun h7 => ?_) (fun h7 => ?_)
                  · obtain ⟨y, hy⟩ : ∃ u, x.t[i]? = some u := ⟨_, List.getElem?_eq_getElem (by omega)⟩
                    have hym := List.mem_of_getElem? hy
                    have hyg := T3.good_iff y
                    repeat ((intro _u; clear _u); first | with_reducible first | refine cT ?_ | refine cF ?_ | refine cA ?_ | refine cB ?_ | refine aLn ?_ | refine cK ?_ | refine aS8 ?_ | refine wI ?_ | refine nD ?_ | refine aX rfl ?_)
                    intro _u; clear _u
                    refine ILoop.one 100 ?_
                    repeat ((intro _u; clear _u); first | with_reducible first | refine cT ?_ | refine cF ?_ | refine cA ?_ | refine cB ?_ | refine aLn ?_ | refine cK ?_ | refine aS8 ?_ | refine wI ?_ | refine nD ?_ | refine aX rfl ?_)
                    intro _u; clear _u
                    refine acnd_t (by decide) ?_
                    repeat ((intro _u; clear _u); first | with_reducible first | refine cT ?_ | refine cF ?_ | refine cA ?_ | refine cB ?_ | refine aLn ?_ | refine cK ?_ | refine aS8 ?_ | refine wI ?_ | refine nD ?_ | refine aX rfl ?_)
                    intro _u; clear _u
                    refine eget_map hy ?_
                    repeat ((intro _u; clear _u); first | with_reducible first | refine cT ?_ | refine cF ?_ | refine cA ?_ | refine cB ?_ | refine aLn ?_ | refine cK ?_ | refine aS8 ?_ | refine wI ?_ | refine nD ?_ | refine aX rfl ?_)
                    intro _u; clear _u
                    refine cS (fun g1 => ?_) (fun g1 => ?_)
                    · rw [tchk_bad hym (T3.bad_a (.inl g1))] at hq
                      subst hq
                      repeat ((intro _u; clear _u); first | with_reducible first | refine cT ?_ | refine cF ?_ | refine cA ?_ | refine cB ?_ | refine aLn ?_ | refine cK ?_ | refine aS8 ?_ | refine wI ?_ | refine nD ?_ | refine aX rfl ?_)
                      intro _u; clear _u
                      exact rT
                    · repeat ((intro _u; clear _u); first | with_reducible first | refine cT ?_ | refine cF ?_ | refine cA ?_ | refine cB ?_ | refine aLn ?_ | refine cK ?_ | refine aS8 ?_ | refine wI ?_ | refine nD ?_ | refine aX rfl ?_)
                      intro _u; clear _u
                      refine eget_map hy ?_
                      repeat ((intro _u; clear _u); first | with_reducible first | refine cT ?_ | refine cF ?_ | refine cA ?_ | refine cB ?_ | refine aLn ?_ | refine cK ?_ | refine aS8 ?_ | refine wI ?_ | refine nD ?_ | refine aX rfl ?_)
                      intro _u; clear _u
                      refine cS (fun g2 => ?_) (fun g2 => ?_)
                      · rw [tchk_bad hym (T3.bad_a (.inr g2))] at hq
                        subst hq
                        repeat ((intro _u; clear _u); first | with_reducible first | refine cT ?_ | refine cF ?_ | refine cA ?_ | refine cB ?_ | refine aLn ?_ | refine cK ?_ | refine aS8 ?_ | refine wI ?_ | refine nD ?_ | refine aX rfl ?_)
                        intro _u; clear _u
                        exact rT
                      · repeat ((intro _u; clear _u); first | with_reducible first | refine cT ?_ | refine cF ?_ | refine cA ?_ | refine cB ?_ | refine aLn ?_ | refine cK ?_ | refine aS8 ?_ | refine wI ?_ | refine nD ?_ | refine aX rfl ?_)
                        intro _u; clear _u
                        refine ILoop.one 100 ?_
                        repeat ((intro _u; clear _u); first | with_reducible first | refine cT ?_ | refine cF ?_ | refine cA ?_ | refine cB ?_ | refine aLn ?_ | refine cK ?_ | refine aS8 ?_ | refine wI ?_ | refine nD ?_ | refine aX rfl ?_)
                        intro _u; clear _u
                        refine acnd_t (by decide) ?_
                        repeat ((intro _u; clear _u); first | with_reducible first | refine cT ?_ | refine cF ?_ | refine cA ?_ | refine cB ?_ | refine aLn ?_ | refine cK ?_ | refine aS8 ?_ | refine wI ?_ | refine nD ?_ | refine aX rfl ?_)
                        intro _u; clear _u
                        refine eget_map hy ?_
                        repeat ((intro _u; clear _u); first | with_reducible first | refine cT ?_ | refine cF ?_ | refine cA ?_ | refine cB ?_ | refine aLn ?_ | refine cK ?_ | refine aS8 ?_ | refine wI ?_ | refine nD ?_ | refine aX rfl ?_)
                        intro _u; clear _u
                        refine cS (fun g3 => ?_) (fun g3 => ?_)
                        · rw [tchk_bad hym (T3.bad_b (.inl g3))] at hq
                          subst hq
                          repeat ((intro _u; clear _u); first | with_reducible first | refine cT ?_ | refine cF ?_ | refine cA ?_ | refine cB ?_ | refine aLn ?_ | refine cK ?_ | refine aS8 ?_ | refine wI ?_ | refine nD ?_ | refine aX rfl ?_)
                          intro _u; clear _u
                          exact rT
                        · repeat ((intro _u; clear _u); first | with_reducible first | refine cT ?_ | refine cF ?_ | refine cA ?_ | refine cB ?_ | refine aLn ?_ | refine cK ?_ | refine aS8 ?_ | refine wI ?_ | refine nD ?_ | refine aX rfl ?_)
                          intro _u; clear _u
                          refine eget_map hy ?_
                          repeat ((intro _u; clear _u); first | with_reducible first | refine cT ?_ | refine cF ?_ | refine cA ?_ | refine cB ?_ | refine aLn ?_ | refine cK ?_ | refine aS8 ?_ | refine wI ?_ | refine nD ?_ | refine aX rfl ?_)
                          intro _u; clear _u
                          refine cS (fun g4 => ?_) (fun g4 => ?_)
                          · rw [tchk_bad hym (T3.bad_b (.inr g4))] at hq
                            subst hq
                            repeat ((intro _u; clear _u); first | with_reducible first | refine cT ?_ | refine cF ?_ | refine cA ?_ | refine cB ?_ | refine aLn ?_ | refine cK ?_ | refine aS8 ?_ | refine wI ?_ | refine nD ?_ | refine aX rfl ?_)
                            intro _u; clear _u
                            exact rT
                          · repeat ((intro _u; clear _u); first | with_reducible first | refine cT ?_ | refine cF ?_ | refine cA ?_ | refine cB ?_ | refine aLn ?_ | refine cK ?_ | refine aS8 ?_ | refine wI ?_ | refine nD ?_ | refine aX rfl ?_)
                            intro _u; clear _u
                            refine ILoop.one 100 ?_
                            repeat ((intro _u; clear _u); first | with_reducible first | refine cT ?_ | refine cF ?_ | refine cA ?_ | refine cB ?_ | refine aLn ?_ | refine cK ?_ | refine aS8 ?_ | refine wI ?_ | refine nD ?_ | refine aX rfl ?_)
                            intro _u; clear _u
                            refine acnd_t (by decide) ?_
                            repeat ((intro _u; clear _u); first | with_reducible first | refine cT ?_ | refine cF ?_ | refine cA ?_ | refine cB ?_ | refine aLn ?_ | refine cK ?_ | refine aS8 ?_ | refine wI ?_ | refine nD ?_ | refine aX rfl ?_)
                            intro _u; clear _u
                            refine eget_map hy ?_
                            repeat ((intro _u; clear _u); first | with_reducible first | refine cT ?_ | refine cF ?_ | refine cA ?_ | refine cB ?_ | refine aLn ?_ | refine cK ?_ | refine aS8 ?_ | refine wI ?_ | refine nD ?_ | refine aX rfl ?_)
                            intro _u; clear _u
                            refine cS (fun g5 => ?_) (fun g5 => ?_)
                            · rw [tchk_bad hym (T3.bad_c (.inl g5))] at hq
                              subst hq
                              repeat ((intro _u; clear _u); first | with_reducible first | refine cT ?_ | refine cF ?_ | refine cA ?_ | refine cB ?_ | refine aLn ?_ | refine cK ?_ | refine aS8 ?_ | refine wI ?_ | refine nD ?_ | refine aX rfl ?_)
                              intro _u; clear _u
                              exact rT
                            · repeat ((intro _u; clear _u); first | with_reducible first | refine cT ?_ | refine cF ?_ | refine cA ?_ | refine cB ?_ | refine aLn ?_ | refine cK ?_ | refine aS8 ?_ | refine wI ?_ | refine nD ?_ | refine aX rfl ?_)
                              intro _u; clear _u
                              refine eget_map hy ?_
                              repeat ((intro _u; clear _u); first | with_reducible first | refine cT ?_ | refine cF ?_ | refine cA ?_ | refine cB ?_ | refine aLn ?_ | refine cK ?_ | refine aS8 ?_ | refine wI ?_ | refine nD ?_ | refine aX rfl ?_)
                              intro _u; clear _u
                              refine cS (fun g6 => ?_) (fun g6 => ?_)
                              · rw [tchk_bad hym (T3.bad_c (.inr g6))] at hq
                                subst hq
                                repeat ((intro _u; clear _u); first | with_reducible first | refine cT ?_ | refine cF ?_ | refine cA ?_ | refine cB ?_ | refine aLn ?_ | refine cK ?_ | refine aS8 ?_ | refine wI ?_ | refine nD ?_ | refine aX rfl ?_)
                                intro _u; clear _u
                                exact rT
                              · repeat ((intro _u; clear _u); first | with_reducible first | refine cT ?_ | refine cF ?_ | refine cA ?_ | refine cB ?_ | refine aLn ?_ | refine cK ?_ | refine aS8 ?_ | refine wI ?_ | refine nD ?_ | refine aX rfl ?_)
                                intro _u; clear _u
                                refine ILoop.one 100 ?_
                                repeat ((intro _u; clear _u); first | with_reducible first | refine cT ?_ | refine cF ?_ | refine cA ?_ | refine cB ?_ | refine aLn ?_ | refine cK ?_ | refine aS8 ?_ | refine wI ?_ | refine nD ?_ | refine aX rfl ?_)
                                intro _u; clear _u
                                refine acnd_f (by decide) ?_
                                repeat ((intro _u; clear _u); first | with_reducible first | refine cT ?_ | refine cF ?_ | refine cA ?_ | refine cB ?_ | refine aLn ?_ | refine cK ?_ | refine aS8 ?_ | refine wI ?_ | refine nD ?_ | refine aX rfl ?_)
                                intro _u; clear _u
                                refine nXa (i + 1) ?_ ?_
                                · refine ⟨by omega, ?_⟩
                                  rw [all_take_succ hy, hi.2, Bool.true_and, hyg]
                                  omega
                                · omega
                  · have hz : ¬ (x.side ∉ sides ∨ (x.t.length : Int) ≠ x.side * x.side) := by simp [hin, h6]
                    rw [tchk, if_neg hz, if_pos] at hq
                    · subst hq
                      repeat ((intro _u; clear _u); first | with_reducible first | refine cT ?_ | refine cF ?_ | refine cA ?_ | refine cB ?_ | refine aLn ?_ | refine cK ?_ | refine aS8 ?_ | refine wI ?_ | refine nD ?_ | refine aX rfl ?_)
                      intro _u; clear _u
                      exact rT
                    · have := hi.2
                      rwa [List.take_of_length_le (by omega)] at this
          · repeat ((intro _u; clear _u); first | with_reducible first | refine cT ?_ | refine cF ?_ | refine cA ?_ | refine cB ?_ | refine aLn ?_ | refine cK ?_ | refine aS8 ?_ | refine wI ?_ | refine nD ?_ | refine aX rfl ?_)
            intro _u; clear _u
            refine cS (fun h6 => ?_) (fun h6 => ?_)
            · rw [tchk, if_pos (.inr h6)] at hq
              subst hq
              repeat ((intro _u; clear _u); first | with_reducible first | refine cT ?_ | refine cF ?_ | refine cA ?_ | refine cB ?_ | refine aLn ?_ | refine cK ?_ | refine aS8 ?_ | refine wI ?_ | refine nD ?_ | refine aX rfl ?_)
              intro _u; clear _u
              exact rT
            · repeat ((intro _u; clear _u); first | with_reducible first | refine cT ?_ | refine cF ?_ | refine cA ?_ | refine cB ?_ | refine aLn ?_ | refine cK ?_ | refine aS8 ?_ | refine wI ?_ | refine nD ?_ | refine aX rfl ?_)
              intro _u; clear _u
              refine lPa 200 (fun i : Nat => i ≤ x.t.length ∧ (x.t.take i).all T3.good = true) (fun i => ⟨[(1, .loc 0 1 0 0), (3, .int .i64 i)], [(0, .var (R.ty 12) x.row)], 1⟩) (fun i => x.t.length - i) (0) ?_ ?_
              · exact ⟨Nat.zero_le _, rfl⟩
              · intro i hi
                dsimp only
                repeat ((intro _u; clear _u); first | with_reducible first | refine cT ?_ | refine cF ?_ | refine cA ?_ | refine cB ?_ | refine aLn ?_ | refine cK ?_ | refine aS8 ?_ | refine wI ?_ | refine nD ?_ | refine aX rfl ?_)
                intro _u; clear _u
                refine cS (fun h7 => ?_) (fun h7 => ?_)
                · obtain ⟨y, hy⟩ : ∃ u, x.t[i]? = some u := ⟨_, List.getElem?_eq_getElem (by omega)⟩
                  have hym := List.mem_of_getElem? hy
                  have hyg := T3.good_iff y
                  repeat ((intro _u; clear _u); first | with_reducible first | refine cT ?_ | refine cF ?_ | refine cA ?_ | refine cB ?_ | refine aLn ?_ | refine cK ?_ | refine aS8 ?_ | refine wI ?_ | refine nD ?_ | refine aX rfl ?_)
                  intro _u; clear _u
                  refine ILoop.one 100 ?_
                  repeat ((intro _u; clear _u); first | with_reducible first | refine cT ?_ | refine cF ?_ | refine cA ?_ | refine cB ?_ | refine aLn ?_ | refine cK ?_ | refine aS8 ?_ | refine wI ?_ | refine nD ?_ | refine aX rfl ?_)
                  intro _u; clear _u
                  refine acnd_t (by decide) ?_
                  repeat ((intro _u; clear _u); first | with_reducible first | refine cT ?_ | refine cF ?_ | refine cA ?_ | refine cB ?_ | refine aLn ?_ | refine cK ?_ | refine aS8 ?_ | refine wI ?_ | refine nD ?_ | refine aX rfl ?_)
                  intro _u; clear _u
                  refine eget_map hy ?_
                  repeat ((intro _u; clear _u); first | with_reducible first | refine cT ?_ | refine cF ?_ | refine cA ?_ | refine cB ?_ | refine aLn ?_ | refine cK ?_ | refine aS8 ?_ | refine wI ?_ | refine nD ?_ | refine aX rfl ?_)
                  intro _u; clear _u
                  refine cS (fun g1 => ?_) (fun g1 => ?_)
                  · rw [tchk_bad hym (T3.bad_a (.inl g1))] at hq
                    subst hq
                    repeat ((intro _u; clear _u); first | with_reducible first | refine cT ?_ | refine cF ?_ | refine cA ?_ | refine cB ?_ | refine aLn ?_ | refine cK ?_ | refine aS8 ?_ | refine wI ?_ | refine nD ?_ | refine aX rfl ?_)
                    intro _u; clear _u
                    exact rT
                  · repeat ((intro _u; clear _u); first | with_reducible first | refine cT ?_ | refine cF ?_ | refine cA ?_ | refine cB ?_ | refine aLn ?_ | refine cK ?_ | refine aS8 ?_ | refine wI ?_ | refine nD ?_ | refine aX rfl ?_)
                    intro _u; clear _u
                    refine eget_map hy ?_
                    repeat ((intro _u; clear _u); first | with_reducible first | refine cT ?_ | refine cF ?_ | refine cA ?_ | refine cB ?_ | refine aLn ?_ | refine cK ?_ | refine aS8 ?_ | refine wI ?_ | refine nD ?_ | refine aX rfl ?_)
                    intro _u; clear _u
                    refine cS (fun g2 => ?_) (fun g2 => ?_)
                    · rw [tchk_bad hym (T3.bad_a (.inr g2))] at hq
                      subst hq
                      repeat ((intro _u; clear _u); first | with_reducible first | refine cT ?_ | refine cF ?_ | refine cA ?_ | refine cB ?_ | refine aLn ?_ | refine cK ?_ | refine aS8 ?_ | refine wI ?_ | refine nD ?_ | refine aX rfl ?_)
                      intro _u; clear _u
                      exact rT
                    · repeat ((intro _u; clear _u); first | with_reducible first | refine cT ?_ | refine cF ?_ | refine cA ?_ | refine cB ?_ | refine aLn ?_ | refine cK ?_ | refine aS8 ?_ | refine wI ?_ | refine nD ?_ | refine aX rfl ?_)
                      intro _u; clear _u
                      refine ILoop.one 100 ?_
                      repeat ((intro _u; clear _u); first | with_reducible first | refine cT ?_ | refine cF ?_ | refine cA ?_ | refine cB ?_ | refine aLn ?_ | refine cK ?_ | refine aS8 ?_ | refine wI ?_ | refine nD ?_ | refine aX rfl ?_)
                      intro _u; clear _u
                      refine acnd_t (by decide) ?_
                      repeat ((intro _u; clear _u); first | with_reducible first | refine cT ?_ | refine cF ?_ | refine cA ?_ | refine cB ?_ | refine aLn ?_ | refine cK ?_ | refine aS8 ?_ | refine wI ?_ | refine nD ?_ | refine aX rfl ?_)
                      intro _u; clear _u
                      refine eget_map hy ?_
                      repeat ((intro _u; clear _u); first | with_reducible first | refine cT ?_ | refine cF ?_ | refine cA ?_ | refine cB ?_ | refine aLn ?_ | refine cK ?_ | refine aS8 ?_ | refine wI ?_ | refine nD ?_ | refine aX rfl ?_)
                      intro _u; clear _u
                      refine cS (fun g3 => ?_) (fun g3 => ?_)
                      · rw [tchk_bad hym (T3.bad_b (.inl g3))] at hq
                        subst hq
                        repeat ((intro _u; clear _u); first | with_reducible first | refine cT ?_ | refine cF ?_ | refine cA ?_ | refine cB ?_ | refine aLn ?_ | refine cK ?_ | refine aS8 ?_ | refine wI ?_ | refine nD ?_ | refine aX rfl ?_)
                        intro _u; clear _u
                        exact rT
                      · repeat ((intro _u; clear _u); first | with_reducible first | refine cT ?_ | refine cF ?_ | refine cA ?_ | refine cB ?_ | refine aLn ?_ | refine cK ?_ | refine aS8 ?_ | refine wI ?_ | refine nD ?_ | refine aX rfl ?_)
                        intro _u; clear _u
                        refine eget_map hy ?_
                        repeat ((intro _u; clear _u); first | with_reducible first | refine cT ?_ | refine cF ?_ | refine cA ?_ | refine cB ?_ | refine aLn ?_ | refine cK ?_ | refine aS8 ?_ | refine wI ?_ | refine nD ?_ | refine aX rfl ?_)
                        intro _u; clear _u
                        refine cS (fun g4 => ?_) (fun g4 => ?_)
                        · rw [tchk_bad hym (T3.bad_b (.inr g4))] at hq
                          subst hq
                          repeat ((intro _u; clear _u); first | with_reducible first | refine cT ?_ | refine cF ?_ | refine cA ?_ | refine cB ?_ | refine aLn ?_ | refine cK ?_ | refine aS8 ?_ | refine wI ?_ | refine nD ?_ | refine aX rfl ?_)
                          intro _u; clear _u
                          exact rT
                        · repeat ((intro _u; clear _u); first | with_reducible first | refine cT ?_ | refine cF ?_ | refine cA ?_ | refine cB ?_ | refine aLn ?_ | refine cK ?_ | refine aS8 ?_ | refine wI ?_ | refine nD ?_ | refine aX rfl ?_)
                          intro _u; clear _u
                          refine ILoop.one 100 ?_
                          repeat ((intro _u; clear _u); first | with_reducible first | refine cT ?_ | refine cF ?_ | refine cA ?_ | refine cB ?_ | refine aLn ?_ | refine cK ?_ | refine aS8 ?_ | refine wI ?_ | refine nD ?_ | refine aX rfl ?_)
                          intro _u; clear _u
                          refine acnd_t (by decide) ?_
                          repeat ((intro _u; clear _u); first | with_reducible first | refine cT ?_ | refine cF ?_ | refine cA ?_ | refine cB ?_ | refine aLn ?_ | refine cK ?_ | refine aS8 ?_ | refine wI ?_ | refine nD ?_ | refine aX rfl ?_)
                          intro _u; clear _u
                          refine eget_map hy ?_
                          repeat ((intro _u; clear _u); first | with_reducible first | refine cT ?_ | refine cF ?_ | refine cA ?_ | refine cB ?_ | refine aLn ?_ | refine cK ?_ | refine aS8 ?_ | refine wI ?_ | refine nD ?_ | refine aX rfl ?_)
                          intro _u; clear _u
                          refine cS (fun g5 => ?_) (fun g5 => ?_)
                          · rw [tchk_bad hym (T3.bad_c (.inl g5))] at hq
                            subst hq
                            repeat ((intro _u; clear _u); first | with_reducible first | refine cT ?_ | refine cF ?_ | refine cA ?_ | refine cB ?_ | refine aLn ?_ | refine cK ?_ | refine aS8 ?_ | refine wI ?_ | refine nD ?_ | refine aX rfl ?_)
                            intro _u; clear _u
                            exact rT
                          · repeat ((intro _u; clear _u); first | with_reducible first | refine cT ?_ | refine cF ?_ | refine cA ?_ | refine cB ?_ | refine aLn ?_ | refine cK ?_ | refine aS8 ?_ | refine wI ?_ | refine nD ?_ | refine aX rfl ?_)
                            intro _u; clear _u
                            refine eget_map hy ?_
                            repeat ((intro _u; clear _u); first | with_reducible first | refine cT ?_ | refine cF ?_ | refine cA ?_ | refine cB ?_ | refine aLn ?_ | refine cK ?_ | refine aS8 ?_ | refine wI ?_ | refine nD ?_ | refine aX rfl ?_)
                            intro _u; clear _u
                            refine cS (fun g6 => ?_) (fun g6 => ?_)
                            · rw [tchk_bad hym (T3.bad_c (.inr g6))] at hq
                              subst hq
                              repeat ((intro _u; clear _u); first | with_reducible first | refine cT ?_ | refine cF ?_ | refine cA ?_ | refine cB ?_ | refine aLn ?_ | refine cK ?_ | refine aS8 ?_ | refine wI ?_ | refine nD ?_ | refine aX rfl ?_)
                              intro _u; clear _u
                              exact rT
                            · repeat ((intro _u; clear _u); first | with_reducible first | refine cT ?_ | refine cF ?_ | refine cA ?_ | refine cB ?_ | refine aLn ?_ | refine cK ?_ | refine aS8 ?_ | refine wI ?_ | refine nD ?_ | refine aX rfl ?_)
                              intro _u; clear _u
                              refine ILoop.one 100 ?_
                              repeat ((intro _u; clear _u); first | with_reducible first | refine cT ?_ | refine cF ?_ | refine cA ?_ | refine cB ?_ | refine aLn ?_ | refine cK ?_ | refine aS8 ?_ | refine wI ?_ | refine nD ?_ | refine aX rfl ?_)
                              intro _u; clear _u
                              refine acnd_f (by decide) ?_
                              repeat ((intro _u; clear _u); first | with_reducible first | refine cT ?_ | refine cF ?_ | refine cA ?_ | refine cB ?_ | refine aLn ?_ | refine cK ?_ | refine aS8 ?_ | refine wI ?_ | refine nD ?_ | refine aX rfl ?_)
                              intro _u; clear _u
                              refine nXa (i + 1) ?_ ?_
                              · refine ⟨by omega, ?_⟩
                                rw [all_take_succ hy, hi.2, Bool.true_and, hyg]
                                omega
                              · omega
                · have hz : ¬ (x.side ∉ sides ∨ (x.t.length : Int) ≠ x.side * x.side) := by simp [hin, h6]
                  rw [tchk, if_neg hz, if_pos] at hq
                  · subst hq
                    repeat ((intro _u; clear _u); first | with_reducible first | refine cT ?_ | refine cF ?_ | refine cA ?_ | refine cB ?_ | refine aLn ?_ | refine cK ?_ | refine aS8 ?_ | refine wI ?_ | refine nD ?_ | refine aX rfl ?_)
                    intro _u; clear _u
                    exact rT
                  · have := hi.2
                    rwa [List.take_of_length_le (by omega)] at this
        · repeat ((intro _u; clear _u); first | with_reducible first | refine cT ?_ | refine cF ?_ | refine cA ?_ | refine cB ?_ | refine aLn ?_ | refine cK ?_ | refine aS8 ?_ | refine wI ?_ | refine nD ?_ | refine aX rfl ?_)
          intro _u; clear _u
          refine cS (fun h6 => ?_) (fun h6 => ?_)
          · rw [tchk, if_pos (.inr h6)] at hq
            subst hq
            repeat ((intro _u; clear _u); first | with_reducible first | refine cT ?_ | refine cF ?_ | refine cA ?_ | refine cB ?_ | refine aLn ?_ | refine cK ?_ | refine aS8 ?_ | refine wI ?_ | refine nD ?_ | refine aX rfl ?_)
            intro _u; clear _u
            exact rT
          · repeat ((intro _u; clear _u); first | with_reducible first | refine cT ?_ | refine cF ?_ | refine cA ?_ | refine cB ?_ | refine aLn ?_ | refine cK ?_ | refine aS8 ?_ | refine wI ?_ | refine nD ?_ | refine aX rfl ?_)
            intro _u; clear _u
            refine lPa 200 (fun i : Nat => i ≤ x.t.length ∧ (x.t.take i).all T3.good = true) (fun i => ⟨[(1, .loc 0 1 0 0), (3, .int .i64 i)], [(0, .var (R.ty 12) x.row)], 1⟩) (fun i => x.t.length - i) (0) ?_ ?_
            · exact ⟨Nat.zero_le _, rfl⟩
            · intro i hi
              dsimp only
              repeat ((intro _u; clear _u); first | with_reducible first | refine cT ?_ | refine cF ?_ | refine cA ?_ | refine cB ?_ | refine aLn ?_ | refine cK ?_ | refine aS8 ?_ | refine wI ?_ | refine nD ?_ | refine aX rfl ?_)
              intro _u; clear _u
              refine cS (fun h7 => ?_) (fun h7 => ?_)
              · obtain ⟨y, hy⟩ : ∃ u, x.t[i]? = some u := ⟨_, List.getElem?_eq_getElem (by omega)⟩
                have hym := List.mem_of_getElem? hy
                have hyg := T3.good_iff y
                repeat ((intro _u; clear _u); first | with_reducible first | refine cT ?_ | refine cF ?_ | refine cA ?_ | refine cB ?_ | refine aLn ?_ | refine cK ?_ | refine aS8 ?_ | refine wI ?_ | refine nD ?_ | refine aX rfl ?_)
                intro _u; clear _u
                refine ILoop.one 100 ?_
                repeat ((intro _u; clear _u); first | with_reducible first | refine cT ?_ | refine cF ?_ | refine cA ?_ | refine cB ?_ | refine aLn ?_ | refine cK ?_ | refine aS8 ?_ | refine wI ?_ | refine nD ?_ | refine aX rfl ?_)
                intro _u; clear _u
                refine acnd_t (by decide) ?_
                repeat ((intro _u; clear _u); first | with_reducible first | refine cT ?_ | refine cF ?_ | refine cA ?_ | refine cB ?_ | refine aLn ?_ | refine cK ?_ | refine aS8 ?_ | refine wI ?_ | refine nD ?_ | refine aX rfl ?_)
                intro _u; clear _u
                refine eget_map hy ?_
                repeat ((intro _u; clear _u); first | with_reducible first | refine cT ?_ | refine cF ?_ | refine cA ?_ | refine cB ?_ | refine aLn ?_ | refine cK ?_ | refine aS8 ?_ | refine wI ?_ | refine nD ?_ | refine aX rfl ?_)
                intro _u; clear _u
                refine cS (fun g1 => ?_) (fun g1 => ?_)
                · rw [tchk_bad hym (T3.bad_a (.inl g1))] at hq
                  subst hq
                  repeat ((intro _u; clear _u); first | with_reducible first | refine cT ?_ | refine cF ?_ | refine cA ?_ | refine cB ?_ | refine aLn ?_ | refine cK ?_ | refine aS8 ?_ | refine wI ?_ | refine nD ?_ | refine aX rfl ?_)
                  intro _u; clear _u
                  exact rT
                · repeat ((intro _u; clear _u); first | with_reducible first | refine cT ?_ | refine cF ?_ | refine cA ?_ | refine cB ?_ | refine aLn ?_ | refine cK ?_ | refine aS8 ?_ | refine wI ?_ | refine nD ?_ | refine aX rfl ?_)
                  intro _u; clear _u
                  refine eget_map hy ?_
                  repeat ((intro _u; clear _u); first | with_reducible first | refine cT ?_ | refine cF ?_ | refine cA ?_ | refine cB ?_ | refine aLn ?_ | refine cK ?_ | refine aS8 ?_ | refine wI ?_ | refine nD ?_ | refine aX rfl ?_)
                  intro _u; clear _u
                  refine cS (fun g2 => ?_) (fun g2 => ?_)
                  · rw [tchk_bad hym (T3.bad_a (.inr g2))] at hq
                    subst hq
                    repeat ((intro _u; clear _u); first | with_reducible first | refine cT ?_ | refine cF ?_ | refine cA ?_ | refine cB ?_ | refine aLn ?_ | refine cK ?_ | refine aS8 ?_ | refine wI ?_ | refine nD ?_ | refine aX rfl ?_)
                    intro _u; clear _u
                    exact rT
                  · repeat ((intro _u; clear _u); first | with_reducible first | refine cT ?_ | refine cF ?_ | refine cA ?_ | refine cB ?_ | refine aLn ?_ | refine cK ?_ | refine aS8 ?_ | refine wI ?_ | refine nD ?_ | refine aX rfl ?_)
                    intro _u; clear _u
                    refine ILoop.one 100 ?_
                    repeat ((intro _u; clear _u); first | with_reducible first | refine cT ?_ | refine cF ?_ | refine cA ?_ | refine cB ?_ | refine aLn ?_ | refine cK ?_ | refine aS8 ?_ | refine wI ?_ | refine nD ?_ | refine aX rfl ?_)
                    intro _u; clear _u
                    refine acnd_t (by decide) ?_
                    repeat ((intro _u; clear _u); first | with_reducible first | refine cT ?_ | refine cF ?_ | refine cA ?_ | refine cB ?_ | refine aLn ?_ | refine cK ?_ | refine aS8 ?_ | refine wI ?_ | refine nD ?_ | refine aX rfl ?_)
                    intro _u; clear _u
                    refine eget_map hy ?_
                    repeat ((intro _u; clear _u); first | with_reducible first | refine cT ?_ | refine cF ?_ | refine cA ?_ | refine cB ?_ | refine aLn ?_ | refine cK ?_ | refine aS8 ?_ | refine wI ?_ | refine nD ?_ | refine aX rfl ?_)
                    intro _u; clear _u
                    refine cS (fun g3 => ?_) (fun g3 => ?_)
                    · rw [tchk_bad hym (T3.bad_b (.inl g3))] at hq
                      subst hq
                      repeat ((intro _u; clear _u); first | with_reducible first | refine cT ?_ | refine cF ?_ | refine cA ?_ | refine cB ?_ | refine aLn ?_ | refine cK ?_ | refine aS8 ?_ | refine wI ?_ | refine nD ?_ | refine aX rfl ?_)
                      intro _u; clear _u
                      exact rT
                    · repeat ((intro _u; clear _u); first | with_reducible first | refine cT ?_ | refine cF ?_ | refine cA ?_ | refine cB ?_ | refine aLn ?_ | refine cK ?_ | refine aS8 ?_ | refine wI ?_ | refine nD ?_ | refine aX rfl ?_)
                      intro _u; clear _u
                      refine eget_map hy ?_
                      repeat ((intro _u; clear _u); first | with_reducible first | refine cT ?_ | refine cF ?_ | refine cA ?_ | refine cB ?_ | refine aLn ?_ | refine cK ?_ | refine aS8 ?_ | refine wI ?_ | refine nD ?_ | refine aX rfl ?_)
                      intro _u; clear _u
                      refine cS (fun g4 => ?_) (fun g4 => ?_)
                      · rw [tchk_bad hym (T3.bad_b (.inr g4))] at hq
                        subst hq
                        repeat ((intro _u; clear _u); first | with_reducible first | refine cT ?_ | refine cF ?_ | refine cA ?_ | refine cB ?_ | refine aLn ?_ | refine cK ?_ | refine aS8 ?_ | refine wI ?_ | refine nD ?_ | refine aX rfl ?_)
                        intro _u; clear _u
                        exact rT
                      · repeat ((intro _u; clear _u); first | with_reducible first | refine cT ?_ | refine cF ?_ | refine cA ?_ | refine cB ?_ | refine aLn ?_ | refine cK ?_ | refine aS8 ?_ | refine wI ?_ | refine nD ?_ | refine aX rfl ?_)
                        intro _u; clear _u
                        refine ILoop.one 100 ?_
                        repeat ((intro _u; clear _u); first | with_reducible first | refine cT ?_ | refine cF ?_ | refine cA ?_ | refine cB ?_ | refine aLn ?_ | refine cK ?_ | refine aS8 ?_ | refine wI ?_ | refine nD ?_ | refine aX rfl ?_)
                        intro _u; clear _u
                        refine acnd_t (by decide) ?_
                        repeat ((intro _u; clear _u); first | with_reducible first | refine cT ?_ | refine cF ?_ | refine cA ?_ | refine cB ?_ | refine aLn ?_ | refine cK ?_ | refine aS8 ?_ | refine wI ?_ | refine nD ?_ | refine aX rfl ?_)
                        intro _u; clear _u
                        refine eget_map hy ?_
                        repeat ((intro _u; clear _u); first | with_reducible first | refine cT ?_ | refine cF ?_ | refine cA ?_ | refine cB ?_ | refine aLn ?_ | refine cK ?_ | refine aS8 ?_ | refine wI ?_ | refine nD ?_ | refine aX rfl ?_)
                        intro _u; clear _u
                        refine cS (fun g5 => ?_) (fun g5 => ?_)
                        · rw [tchk_bad hym (T3.bad_c (.inl g5))] at hq
                          subst hq
                          repeat ((intro _u; clear _u); first | with_reducible first | refine cT ?_ | refine cF ?_ | refine cA ?_ | refine cB ?_ | refine aLn ?_ | refine cK ?_ | refine aS8 ?_ | refine wI ?_ | refine nD ?_ | refine aX rfl ?_)
                          intro _u; clear _u
                          exact rT
                        · repeat ((intro _u; clear _u); first | with_reducible first | refine cT ?_ | refine cF ?_ | refine cA ?_ | refine cB ?_ | refine aLn ?_ | refine cK ?_ | refine aS8 ?_ | refine wI ?_ | refine nD ?_ | refine aX rfl ?_)
                          intro _u; clear _u
                          refine eget_map hy ?_
                          repeat ((intro _u; clear _u); first | with_reducible first | refine cT ?_ | refine cF ?_ | refine cA ?_ | refine cB ?_ | refine aLn ?_ | refine cK ?_ | refine aS8 ?_ | refine wI ?_ | refine nD ?_ | refine aX rfl ?_)
                          intro _u; clear _u
                          refine cS (fun g6 => ?_) (fun g6 => ?_)
                          · rw [tchk_bad hym (T3.bad_c (.inr g6))] at hq
                            subst hq
                            repeat ((intro _u; clear _u); first | with_reducible first | refine cT ?_ | refine cF ?_ | refine cA ?_ | refine cB ?_ | refine aLn ?_ | refine cK ?_ | refine aS8 ?_ | refine wI ?_ | refine nD ?_ | refine aX rfl ?_)
                            intro _u; clear _u
                            exact rT
                          · repeat ((intro _u; clear _u); first | with_reducible first | refine cT ?_ | refine cF ?_ | refine cA ?_ | refine cB ?_ | refine aLn ?_ | refine cK ?_ | refine aS8 ?_ | refine wI ?_ | refine nD ?_ | refine aX rfl ?_)
                            intro _u; clear _u
                            refine ILoop.one 100 ?_
                            repeat ((intro _u; clear _u); first | with_reducible first | refine cT ?_ | refine cF ?_ | refine cA ?_ | refine cB ?_ | refine aLn ?_ | refine cK ?_ | refine aS8 ?_ | refine wI ?_ | refine nD ?_ | refine aX rfl ?_)
                            intro _u; clear _u
                            refine acnd_f (by decide) ?_
                            repeat ((intro _u; clear _u); first | with_reducible first | refine cT ?_ | refine cF ?_ | refine cA ?_ | refine cB ?_ | refine aLn ?_ | refine cK ?_ | refine aS8 ?_ | refine wI ?_ | refine nD ?_ | refine aX rfl ?_)
                            intro _u; clear _u
                            refine nXa (i + 1) ?_ ?_
                            · refine ⟨by omega, ?_⟩
                              rw [all_take_succ hy, hi.2, Bool.true_and, hyg]
                              omega
                            · omega
              · have hz : ¬ (x.side ∉ sides ∨ (x.t.length : Int) ≠ x.side * x.side) := by simp [hin, h6]
                rw [tchk, if_neg hz, if_pos] at hq
                · subst hq
                  repeat ((intro _u; clear _u); first | with_reducible first | refine cT ?_ | refine cF ?_ | refine cA ?_ | refine cB ?_ | refine aLn ?_ | refine cK ?_ | refine aS8 ?_ | refine wI ?_ | refine nD ?_ | refine aX rfl ?_)
                  intro _u; clear _u
                  exact rT
                · have := hi.2
                  rwa [List.take_of_length_le (by omega)] at this
      · repeat ((intro _u; clear _u); first | with_reducible first | refine cT ?_ | refine cF ?_ | refine cA ?_ | refine cB ?_ | refine aLn ?_ | refine cK ?_ | refine aS8 ?_ | refine wI ?_ | refine nD ?_ | refine aX rfl ?_)
        intro _u; clear _u
        refine cS (fun h6 => ?_) (fun h6 => ?_)
        · rw [tchk, if_pos (.inr h6)] at hq
          subst hq
          repeat ((intro _u; clear _u); first | with_reducible first | refine cT ?_ | refine cF ?_ | refine cA ?_ | refine cB ?_ | refine aLn ?_ | refine cK ?_ | refine aS8 ?_ | refine wI ?_ | refine nD ?_ | refine aX rfl ?_)
          intro _u; clear _u
          exact rT
        · repeat ((intro _u; clear _u); first | with_reducible first | refine cT ?_ | refine cF ?_ | refine cA ?_ | refine cB ?_ | refine aLn ?_ | refine cK ?_ | refine aS8 ?_ | refine wI ?_ | refine nD ?_ | refine aX rfl ?_)
          intro _u; clear _u
          refine lPa 200 (fun i : Nat => i ≤ x.t.length ∧ (x.t.take i).all T3.good = true) (fun i => ⟨[(1, .loc 0 1 0 0), (3, .int .i64 i)], [(0, .var (R.ty 12) x.row)], 1⟩) (fun i => x.t.length - i) (0) ?_ ?_
          · exact ⟨Nat.zero_le _, rfl⟩
          · intro i hi
            dsimp only
            repeat ((intro _u; clear _u); first | with_reducible first | refine cT ?_ | refine cF ?_ | refine cA ?_ | refine cB ?_ | refine aLn ?_ | refine cK ?_ | refine aS8 ?_ | refine wI ?_ | refine nD ?_ | refine aX rfl ?_)
            intro _u; clear _u
            refine cS (fun h7 => ?_) (fun h7 => ?_)
            · obtain ⟨y, hy⟩ : ∃ u, x.t[i]? = some u := ⟨_, List.getElem?_eq_getElem (by omega)⟩
              have hym := List.mem_of_getElem? hy
              have hyg := T3.good_iff y
              repeat ((intro _u; clear _u); first | with_reducible first | refine cT ?_ | refine cF ?_ | refine cA ?_ | refine cB ?_ | refine aLn ?_ | refine cK ?_ | refine aS8 ?_ | refine wI ?_ | refine nD ?_ | refine aX rfl ?_)
              intro _u; clear _u
              refine ILoop.one 100 ?_
              repeat ((intro _u; clear _u); first | with_reducible first | refine cT ?_ | refine cF ?_ | refine cA ?_ | refine cB ?_ | refine aLn ?_ | refine cK ?_ | refine aS8 ?_ | refine wI ?_ | refine nD ?_ | refine aX rfl ?_)
              intro _u; clear _u
              refine acnd_t (by decide) ?_
              repeat ((intro _u; clear _u); first | with_reducible first | refine cT ?_ | refine cF ?_ | refine cA ?_ | refine cB ?_ | refine aLn ?_ | refine cK ?_ | refine aS8 ?_ | refine wI ?_ | refine nD ?_ | refine aX rfl ?_)
              intro _u; clear _u
              refine eget_map hy ?_
              repeat ((intro _u; clear _u); first | with_reducible first | refine cT ?_ | refine cF ?_ | refine cA ?_ | refine cB ?_ | refine aLn ?_ | refine cK ?_ | refine aS8 ?_ | refine wI ?_ | refine nD ?_ | refine aX rfl ?_)
              intro _u; clear _u
              refine cS (fun g1 => ?_) (fun g1 => ?_)
              · rw [tchk_bad hym (T3.bad_a (.inl g1))] at hq
                subst hq
                repeat ((intro _u; clear _u); first | with_reducible first | refine cT ?_ | refine cF ?_ | refine cA ?_ | refine cB ?_ | refine aLn ?_ | refine cK ?_ | refine aS8 ?_ | refine wI ?_ | refine nD ?_ | refine aX rfl ?_)
                intro _u; clear _u
                exact rT
              · repeat ((intro _u; clear _u); first | with_reducible first | refine cT ?_ | refine cF ?_ | refine cA ?_ | refine cB ?_ | refine aLn ?_ | refine cK ?_ | refine aS8 ?_ | refine wI ?_ | refine nD ?_ | refine aX rfl ?_)
                intro _u; clear _u
                refine eget_map hy ?_
                repeat ((intro _u; clear _u); first | with_reducible first | refine cT ?_ | refine cF ?_ | refine cA ?_ | refine cB ?_ | refine aLn ?_ | refine cK ?_ | refine aS8 ?_ | refine wI ?_ | refine nD ?_ | refine aX rfl ?_)
                intro _u; clear _u
                refine cS (fun g2 => ?_) (fun g2 => ?_)
                · rw [tchk_bad hym (T3.bad_a (.inr g2))] at hq
                  subst hq
                  repeat ((intro _u; clear _u); first | with_reducible first | refine cT ?_ | refine cF ?_ | refine cA ?_ | refine cB ?_ | refine aLn ?_ | refine cK ?_ | refine aS8 ?_ | refine wI ?_ | refine nD ?_ | refine aX rfl ?_)
                  intro _u; clear _u
                  exact rT
                · repeat ((intro _u; clear _u); first | with_reducible first | refine cT ?_ | refine cF ?_ | refine cA ?_ | refine cB ?_ | refine aLn ?_ | refine cK ?_ | refine aS8 ?_ | refine wI ?_ | refine nD ?_ | refine aX rfl ?_)
                  intro _u; clear _u
                  refine ILoop.one 100 ?_
                  repeat ((intro _u; clear _u); first | with_reducible first | refine cT ?_ | refine cF ?_ | refine cA ?_ | refine cB ?_ | refine aLn ?_ | refine cK ?_ | refine aS8 ?_ | refine wI ?_ | refine nD ?_ | refine aX rfl ?_)
                  intro _u; clear _u
                  refine acnd_t (by decide) ?_
                  repeat ((intro _u; clear _u); first | with_reducible first | refine cT ?_ | refine cF ?_ | refine cA ?_ | refine cB ?_ | refine aLn ?_ | refine cK ?_ | refine aS8 ?_ | refine wI ?_ | refine nD ?_ | refine aX rfl ?_)
                  intro _u; clear _u
                  refine eget_map hy ?_
                  repeat ((intro _u; clear _u); first | with_reducible first | refine cT ?_ | refine cF ?_ | refine cA ?_ | refine cB ?_ | refine aLn ?_ | refine cK ?_ | refine aS8 ?_ | refine wI ?_ | refine nD ?_ | refine aX rfl ?_)
                  intro _u; clear _u
                  refine cS (fun g3 => ?_) (fun g3 => ?_)
                  · rw [tchk_bad hym (T3.bad_b (.inl g3))] at hq
                    subst hq
                    repeat ((intro _u; clear _u); first | with_reducible first | refine cT ?_ | refine cF ?_ | refine cA ?_ | refine cB ?_ | refine aLn ?_ | refine cK ?_ | refine aS8 ?_ | refine wI ?_ | refine nD ?_ | refine aX rfl ?_)
                    intro _u; clear _u
                    exact rT
                  · repeat ((intro _u; clear _u); first | with_reducible first | refine cT ?_ | refine cF ?_ | refine cA ?_ | refine cB ?_ | refine aLn ?_ | refine cK ?_ | refine aS8 ?_ | refine wI ?_ | refine nD ?_ | refine aX rfl ?_)
                    intro _u; clear _u
                    refine eget_map hy ?_
                    repeat ((intro _u; clear _u); first | with_reducible first | refine cT ?_ | refine cF ?_ | refine cA ?_ | refine cB ?_ | refine aLn ?_ | refine cK ?_ | refine aS8 ?_ | refine wI ?_ | refine nD ?_ | refine aX rfl ?_)
                    intro _u; clear _u
                    refine cS (fun g4 => ?_) (fun g4 => ?_)
                    · rw [tchk_bad hym (T3.bad_b (.inr g4))] at hq
                      subst hq
                      repeat ((intro _u; clear _u); first | with_reducible first | refine cT ?_ | refine cF ?_ | refine cA ?_ | refine cB ?_ | refine aLn ?_ | refine cK ?_ | refine aS8 ?_ | refine wI ?_ | refine nD ?_ | refine aX rfl ?_)
                      intro _u; clear _u
                      exact rT
                    · repeat ((intro _u; clear _u); first | with_reducible first | refine cT ?_ | refine cF ?_ | refine cA ?_ | refine cB ?_ | refine aLn ?_ | refine cK ?_ | refine aS8 ?_ | refine wI ?_ | refine nD ?_ | refine aX rfl ?_)
                      intro _u; clear _u
                      refine ILoop.one 100 ?_
                      repeat ((intro _u; clear _u); first | with_reducible first | refine cT ?_ | refine cF ?_ | refine cA ?_ | refine cB ?_ | refine aLn ?_ | refine cK ?_ | refine aS8 ?_ | refine wI ?_ | refine nD ?_ | refine aX rfl ?_)
                      intro _u; clear _u
                      refine acnd_t (by decide) ?_
                      repeat ((intro _u; clear _u); first | with_reducible first | refine cT ?_ | refine cF ?_ | refine cA ?_ | refine cB ?_ | refine aLn ?_ | refine cK ?_ | refine aS8 ?_ | refine wI ?_ | refine nD ?_ | refine aX rfl ?_)
                      intro _u; clear _u
                      refine eget_map hy ?_
                      repeat ((intro _u; clear _u); first | with_reducible first | refine cT ?_ | refine cF ?_ | refine cA ?_ | refine cB ?_ | refine aLn ?_ | refine cK ?_ | refine aS8 ?_ | refine wI ?_ | refine nD ?_ | refine aX rfl ?_)
                      intro _u; clear _u
                      refine cS (fun g5 => ?_) (fun g5 => ?_)
                      · rw [tchk_bad hym (T3.bad_c (.inl g5))] at hq
                        subst hq
                        repeat ((intro _u; clear _u); first | with_reducible first | refine cT ?_ | refine cF ?_ | refine cA ?_ | refine cB ?_ | refine aLn ?_ | refine cK ?_ | refine aS8 ?_ | refine wI ?_ | refine nD ?_ | refine aX rfl ?_)
                        intro _u; clear _u
                        exact rT
                      · repeat ((intro _u; clear _u); first | with_reducible first | refine cT ?_ | refine cF ?_ | refine cA ?_ | refine cB ?_ | refine aLn ?_ | refine cK ?_ | refine aS8 ?_ | refine wI ?_ | refine nD ?_ | refine aX rfl ?_)
                        intro _u; clear _u
                        refine eget_map hy ?_
                        repeat ((intro _u; clear _u); first | with_reducible first | refine cT ?_ | refine cF ?_ | refine cA ?_ | refine cB ?_ | refine aLn ?_ | refine cK ?_ | refine aS8 ?_ | refine wI ?_ | refine nD ?_ | refine aX rfl ?_)
                        intro _u; clear _u
                        refine cS (fun g6 => ?_) (fun g6 => ?_)
                        · rw [tchk_bad hym (T3.bad_c (.inr g6))] at hq
                          subst hq
                          repeat ((intro _u; clear _u); first | with_reducible first | refine cT ?_ | refine cF ?_ | refine cA ?_ | refine cB ?_ | refine aLn ?_ | refine cK ?_ | refine aS8 ?_ | refine wI ?_ | refine nD ?_ | refine aX rfl ?_)
                          intro _u; clear _u
                          exact rT
                        · repeat ((intro _u; clear _u); first | with_reducible first | refine cT ?_ | refine cF ?_ | refine cA ?_ | refine cB ?_ | refine aLn ?_ | refine cK ?_ | refine aS8 ?_ | refine wI ?_ | refine nD ?_ | refine aX rfl ?_)
                          intro _u; clear _u
                          refine ILoop.one 100 ?_
                          repeat ((intro _u; clear _u); first | with_reducible first | refine cT ?_ | refine cF ?_ | refine cA ?_ | refine cB ?_ | refine aLn ?_ | refine cK ?_ | refine aS8 ?_ | refine wI ?_ | refine nD ?_ | refine aX rfl ?_)
                          intro _u; clear _u
                          refine acnd_f (by decide) ?_
                          repeat ((intro _u; clear _u); first | with_reducible first | refine cT ?_ | refine cF ?_ | refine cA ?_ | refine cB ?_ | refine aLn ?_ | refine cK ?_ | refine aS8 ?_ | refine wI ?_ | refine nD ?_ | refine aX rfl ?_)
                          intro _u; clear _u
                          refine nXa (i + 1) ?_ ?_
                          · refine ⟨by omega, ?_⟩
                            rw [all_take_succ hy, hi.2, Bool.true_and, hyg]
                            omega
                          · omega
            · have hz : ¬ (x.side ∉ sides ∨ (x.t.length : Int) ≠ x.side * x.side) := by simp [hin, h6]
              rw [tchk, if_neg hz, if_pos] at hq
              · subst hq
                repeat ((intro _u; clear _u); first | with_reducible first | refine cT ?_ | refine cF ?_ | refine cA ?_ | refine cB ?_ | refine aLn ?_ | refine cK ?_ | refine aS8 ?_ | refine wI ?_ | refine nD ?_ | refine aX rfl ?_)
                intro _u; clear _u
                exact rT
              · have := hi.2
                rwa [List.take_of_length_le (by omega)] at this
    · have hout : ¬ x.side = 1 ∧ ¬ x.side = 2 ∧ ¬ x.side = 4 ∧ ¬ x.side = 8 ∧ ¬ x.side = 16 := by simpa [sides] using hin
      repeat ((intro _u; clear _u); first | with_reducible first | refine cT ?_ | refine cF ?_ | refine cA ?_ | refine cB ?_ | refine aLn ?_ | refine cK ?_ | refine aS8 ?_ | refine wI ?_ | refine nD ?_ | refine aX rfl ?_)
      intro _u; clear _u
      refine acnd_t (by simpa using hout.1) ?_
      repeat ((intro _u; clear _u); first | with_reducible first | refine cT ?_ | refine cF ?_ | refine cA ?_ | refine cB ?_ | refine aLn ?_ | refine cK ?_ | refine aS8 ?_ | refine wI ?_ | refine nD ?_ | refine aX rfl ?_)
      intro _u; clear _u
      refine acnd_t (by simpa using hout.2.1) ?_
      repeat ((intro _u; clear _u); first | with_reducible first | refine cT ?_ | refine cF ?_ | refine cA ?_ | refine cB ?_ | refine aLn ?_ | refine cK ?_ | refine aS8 ?_ | refine wI ?_ | refine nD ?_ | refine aX rfl ?_)
      intro _u; clear _u
      refine acnd_t (by simpa using hout.2.2.1) ?_
      repeat ((intro _u; clear _u); first | with_reducible first | refine cT ?_ | refine cF ?_ | refine cA ?_ | refine cB ?_ | refine aLn ?_ | refine cK ?_ | refine aS8 ?_ | refine wI ?_ | refine nD ?_ | refine aX rfl ?_)
      intro _u; clear _u
      refine acnd_t (by simpa using hout.2.2.2.1) ?_
      repeat ((intro _u; clear _u); first | with_reducible first | refine cT ?_ | refine cF ?_ | refine cA ?_ | refine cB ?_ | refine aLn ?_ | refine cK ?_ | refine aS8 ?_ | refine wI ?_ | refine nD ?_ | refine aX rfl ?_)
      intro _u; clear _u
      refine acnd_t (by simpa using hout.2.2.2.2) ?_
      rw [tchk, if_pos (.inl hin)] at hq
      subst hq
      repeat ((intro _u; clear _u); first | with_reducible first | refine cT ?_ | refine cF ?_ | refine cA ?_ | refine cB ?_ | refine aLn ?_ | refine cK ?_ | refine aS8 ?_ | refine wI ?_ | refine nD ?_ | refine aX rfl ?_)
      intro _u; clear _u
      exact rT
theorem rtencode_c {R : Env} (h : N83 R) (t : Tex) (hl : t.t.length ≤ 1073741824) : R.Pc 83 [.agg t.row] (.tup [.isl 1 (slc8 (tencs t).1), .int .i64 (tencs t).2]) :=
  h.o83.enter 200 rfl fun X bb hfit hp => by
    repeat ((intro _u; clear _u); first | with_reducible first | refine cT ?_ | refine cF ?_ | refine cA ?_ | refine cB ?_ | refine aLn ?_ | refine cK ?_ | refine aS8 ?_ | refine wI ?_ | refine nD ?_ | refine aX rfl ?_)
    intro _u; clear _u
    refine ICall.pure h.n85.o85.hb (rtchk_c h.n85 t hl) rfl ?_
    generalize hq : tencs t = q
    repeat ((intro _u; clear _u); first | with_reducible first | refine cT ?_ | refine cF ?_ | refine cA ?_ | refine cB ?_ | refine aLn ?_ | refine cK ?_ | refine aS8 ?_ | refine wI ?_ | refine nD ?_ | refine aX rfl ?_)
    intro _u; clear _u
    refine cS (fun h1 => ?_) (fun h1 => ?_)
    · rw [tencs, if_pos h1] at hq
      subst hq
      repeat ((intro _u; clear _u); first | with_reducible first | refine cT ?_ | refine cF ?_ | refine cA ?_ | refine cB ?_ | refine aLn ?_ | refine cK ?_ | refine aS8 ?_ | refine wI ?_ | refine nD ?_ | refine aX rfl ?_)
      intro _u; clear _u
      exact rT
    · have ok := tchk_ok h1
      rw [tencs, if_neg (by simpa using h1)] at hq
      subst hq
      have hs := tchk_in ok.s
      have htl : t.t.length ≤ 256 := by
        have := ok.l
        rcases hs with h | h | h | h | h <;> rw [h] at this <;> omega
      repeat ((intro _u; clear _u); first | with_reducible first | refine cT ?_ | refine cF ?_ | refine cA ?_ | refine cB ?_ | refine aLn ?_ | refine cK ?_ | refine aS8 ?_ | refine wI ?_ | refine nD ?_ | refine aX rfl ?_)
      intro _u; clear _u
      refine ILoop.inv 200 (fun i : Nat => i ≤ t.t.length) (fun i => ⟨[(1, .loc 0 1 0 0), (5, .osl 1 (u8 t.side :: texs (t.t.take i)).length), (6, .int .i64 i)], [(1, .arr (R.ty 4) 1 (slc8 (u8 t.side :: texs (t.t.take i)))), (0, .var (R.ty 12) t.row)], 2⟩) (fun i => t.t.length - i) (0) ?_ ⟨⟨_, hp, rfl⟩, ?_, ?_⟩ ?_
      · exact Nat.zero_le _
      · all_goals repeat' (first | exact True.intro | refine And.intro ?_ ?_ | (intro _u; clear _u) | with_reducible first | refine eM ?_ ?_ | refine eF ?_ ?_ ?_ | refine eN ?_ | refine eL ?_ ?_ ?_ | refine eA ?_ ?_ | refine IWk.mk ⟨_, hp, rfl⟩ ?_ ?_)
        all_goals first | with_reducible rfl | omega | exact Or.inl (by decide) | (simp; done) | rfl | skip
      · all_goals repeat' (first | exact True.intro | refine And.intro ?_ ?_ | (intro _u; clear _u) | with_reducible first | refine eM ?_ ?_ | refine eF ?_ ?_ ?_ | refine eN ?_ | refine eL ?_ ?_ ?_ | refine eA ?_ ?_ | refine IWk.mk ⟨_, hp, rfl⟩ ?_ ?_)
        all_goals first | with_reducible rfl | omega | exact Or.inl (by decide) | (simp; done) | rfl | skip
        simp [slc8, texs, u8_in (n := t.side) (by omega)]
      · intro i hi
        dsimp only
        repeat ((intro _u; clear _u); first | with_reducible first | refine cT ?_ | refine cF ?_ | refine cA ?_ | refine cB ?_ | refine aLn ?_ | refine cK ?_ | refine aS8 ?_ | refine wI ?_ | refine nD ?_ | refine aX rfl ?_)
        intro _u; clear _u
        refine cS (fun h2 => ?_) (fun h2 => ?_)
        · obtain ⟨y, hy⟩ : ∃ u, t.t[i]? = some u := ⟨_, List.getElem?_eq_getElem (by omega)⟩
          have hlen := texs_len (t.t.take i)
          simp only [List.length_take] at hlen
          repeat ((intro _u; clear _u); first | with_reducible first | refine cT ?_ | refine cF ?_ | refine cA ?_ | refine cB ?_ | refine aLn ?_ | refine cK ?_ | refine aS8 ?_ | refine wI ?_ | refine nD ?_ | refine aX rfl ?_)
          intro _u; clear _u
          refine ILoop.one 100 ?_
          repeat ((intro _u; clear _u); first | with_reducible first | refine cT ?_ | refine cF ?_ | refine cA ?_ | refine cB ?_ | refine aLn ?_ | refine cK ?_ | refine aS8 ?_ | refine wI ?_ | refine nD ?_ | refine aX rfl ?_)
          intro _u; clear _u
          refine acnd_t (by decide) ?_
          repeat ((intro _u; clear _u); first | with_reducible first | refine cT ?_ | refine cF ?_ | refine cA ?_ | refine cB ?_ | refine aLn ?_ | refine cK ?_ | refine aS8 ?_ | refine wI ?_ | refine nD ?_ | refine aX rfl ?_)
          intro _u; clear _u
          refine eget_map hy ?_
          repeat ((intro _u; clear _u); first | with_reducible first | refine cT ?_ | refine cF ?_ | refine cA ?_ | refine cB ?_ | refine aLn ?_ | refine cK ?_ | refine aS8 ?_ | refine wI ?_ | refine nD ?_ | refine aX rfl ?_)
          intro _u; clear _u
          refine iwr_any ?_
          repeat ((intro _u; clear _u); first | with_reducible first | refine cT ?_ | refine cF ?_ | refine cA ?_ | refine cB ?_ | refine aLn ?_ | refine cK ?_ | refine aS8 ?_ | refine wI ?_ | refine nD ?_ | refine aX rfl ?_)
          intro _u; clear _u
          refine ILoop.one 100 ?_
          repeat ((intro _u; clear _u); first | with_reducible first | refine cT ?_ | refine cF ?_ | refine cA ?_ | refine cB ?_ | refine aLn ?_ | refine cK ?_ | refine aS8 ?_ | refine wI ?_ | refine nD ?_ | refine aX rfl ?_)
          intro _u; clear _u
          refine acnd_t (by decide) ?_
          repeat ((intro _u; clear _u); first | with_reducible first | refine cT ?_ | refine cF ?_ | refine cA ?_ | refine cB ?_ | refine aLn ?_ | refine cK ?_ | refine aS8 ?_ | refine wI ?_ | refine nD ?_ | refine aX rfl ?_)
          intro _u; clear _u
          refine eget_map hy ?_
          repeat ((intro _u; clear _u); first | with_reducible first | refine cT ?_ | refine cF ?_ | refine cA ?_ | refine cB ?_ | refine aLn ?_ | refine cK ?_ | refine aS8 ?_ | refine wI ?_ | refine nD ?_ | refine aX rfl ?_)
          intro _u; clear _u
          refine iwr_any ?_
          repeat ((intro _u; clear _u); first | with_reducible first | refine cT ?_ | refine cF ?_ | refine cA ?_ | refine cB ?_ | refine aLn ?_ | refine cK ?_ | refine aS8 ?_ | refine wI ?_ | refine nD ?_ | refine aX rfl ?_)
          intro _u; clear _u
          refine ILoop.one 100 ?_
          repeat ((intro _u; clear _u); first | with_reducible first | refine cT ?_ | refine cF ?_ | refine cA ?_ | refine cB ?_ | refine aLn ?_ | refine cK ?_ | refine aS8 ?_ | refine wI ?_ | refine nD ?_ | refine aX rfl ?_)
          intro _u; clear _u
          refine acnd_t (by decide) ?_
          repeat ((intro _u; clear _u); first | with_reducible first | refine cT ?_ | refine cF ?_ | refine cA ?_ | refine cB ?_ | refine aLn ?_ | refine cK ?_ | refine aS8 ?_ | refine wI ?_ | refine nD ?_ | refine aX rfl ?_)
          intro _u; clear _u
          refine eget_map hy ?_
          repeat ((intro _u; clear _u); first | with_reducible first | refine cT ?_ | refine cF ?_ | refine cA ?_ | refine cB ?_ | refine aLn ?_ | refine cK ?_ | refine aS8 ?_ | refine wI ?_ | refine nD ?_ | refine aX rfl ?_)
          intro _u; clear _u
          refine iwr_any ?_
          repeat ((intro _u; clear _u); first | with_reducible first | refine cT ?_ | refine cF ?_ | refine cA ?_ | refine cB ?_ | refine aLn ?_ | refine cK ?_ | refine aS8 ?_ | refine wI ?_ | refine nD ?_ | refine aX rfl ?_)
          intro _u; clear _u
          refine ILoop.one 100 ?_
          repeat ((intro _u; clear _u); first | with_reducible first | refine cT ?_ | refine cF ?_ | refine cA ?_ | refine cB ?_ | refine aLn ?_ | refine cK ?_ | refine aS8 ?_ | refine wI ?_ | refine nD ?_ | refine aX rfl ?_)
          intro _u; clear _u
          refine acnd_f (by decide) ?_
          repeat ((intro _u; clear _u); first | with_reducible first | refine cT ?_ | refine cF ?_ | refine cA ?_ | refine cB ?_ | refine aLn ?_ | refine cK ?_ | refine aS8 ?_ | refine wI ?_ | refine nD ?_ | refine aX rfl ?_)
          intro _u; clear _u
          refine nX (i + 1) ?_ ?_ ⟨_, hp, rfl⟩ ?_ ?_
          · omega
          · omega
          · all_goals repeat' (first | exact True.intro | refine And.intro ?_ ?_ | (intro _u; clear _u) | with_reducible first | refine eM ?_ ?_ | refine eF ?_ ?_ ?_ | refine eN ?_ | refine eL ?_ ?_ ?_ | refine eA ?_ ?_ | refine IWk.mk ⟨_, hp, rfl⟩ ?_ ?_)
            all_goals first | with_reducible rfl | omega | exact Or.inl (by decide) | (simp; done) | rfl | skip
            rw [texs_succ hy]; simp
          · all_goals repeat' (first | exact True.intro | refine And.intro ?_ ?_ | (intro _u; clear _u) | with_reducible first | refine eM ?_ ?_ | refine eF ?_ ?_ ?_ | refine eN ?_ | refine eL ?_ ?_ ?_ | refine eA ?_ ?_ | refine IWk.mk ⟨_, hp, rfl⟩ ?_ ?_)
            all_goals first | with_reducible rfl | omega | exact Or.inl (by decide) | (simp; done) | rfl | skip
            rw [texs_succ hy]; simp [slc8, wr_u8]
        · rw [List.take_of_length_le (by omega)]
          repeat ((intro _u; clear _u); first | with_reducible first | refine cT ?_ | refine cF ?_ | refine cA ?_ | refine cB ?_ | refine aLn ?_ | refine cK ?_ | refine aS8 ?_ | refine wI ?_ | refine nD ?_ | refine aX rfl ?_)
          intro _u; clear _u
          exact rT
end Go.UM

/- What the library's functions hand back. -/


namespace Go.UM
open Go.AM
set_option maxRecDepth 4000

/-- bytes.Equal. -/
theorem eq8_c {R : Env} (h : N47 R) (a b : List UInt8) : R.Pc 47 [.isl 1 (slc8 a), .isl 1 (slc8 b)] (.bool (a == b)) :=
  h.o47.enter 60 rfl fun X bb hfit hp => by
    repeat ((intro _u; clear _u); first | with_reducible first | refine cT ?_ | refine cF ?_ | refine cA ?_ | refine cB ?_ | refine aLn ?_ | refine cK ?_ | refine aS8 ?_ | refine wI ?_ | refine nD ?_ | refine aX rfl ?_)
    intro _u; clear _u
    exact rT
end Go.UM

/- The statements of chapter 14. -/



namespace Go.UM
open Go.AM
set_option maxRecDepth 4000

def Tex.few (t : Tex) : Tex := ⟨t.side, t.t.take 260⟩
theorem few14_c {R : Env} (h : N81 R) (t : Tex) : R.Pc 81 [.agg t.row] (.agg t.few.row) :=
  h.o81.enter 60 rfl fun X bb hfit hp => by
    repeat ((intro _u; clear _u); first | with_reducible first | refine cT ?_ | refine cF ?_ | refine cA ?_ | refine cB ?_ | refine aLn ?_ | refine cK ?_ | refine aS8 ?_ | refine wI ?_ | refine nD ?_ | refine aX rfl ?_)
    intro _u; clear _u
    refine aSb ?_
    rw [take_cap]
    repeat ((intro _u; clear _u); first | with_reducible first | refine cT ?_ | refine cF ?_ | refine cA ?_ | refine cB ?_ | refine aLn ?_ | refine cK ?_ | refine aS8 ?_ | refine wI ?_ | refine nD ?_ | refine aX rfl ?_)
    intro _u; clear _u
    exact rT

def T2 : Tex := ⟨2, [⟨0, 0, 0⟩, ⟨1, 0, 0⟩, ⟨2, 0, 0⟩, ⟨4, 0, 0⟩]⟩
theorem works14_c {R : Env} (h : N86 R) : R.Pc 86 [] (.bool true) :=
  h.o86.enter 100 rfl fun X bb hfit hp => by
    have c1 := halfs_c h.n91 T2 (by decide)
    rw [show halfs T2 = (⟨1, [⟨2, 0, 0⟩]⟩, 0) by kernel_rfl] at c1
    repeat ((intro _u; clear _u); first | with_reducible first | refine cT ?_ | refine cF ?_ | refine cA ?_ | refine cB ?_ | refine aLn ?_ | refine cK ?_ | refine aS8 ?_ | refine wI ?_ | refine nD ?_ | refine aX rfl ?_)
    intro _u; clear _u
    refine ICall.let [0] rfl hp rfl ?_
    repeat ((intro _u; clear _u); first | refine eZ ?_ | refine FrzC.drop ?_)
    repeat ((intro _u; clear _u); first | with_reducible first | refine cT ?_ | refine cF ?_ | refine cA ?_ | refine cB ?_ | refine aLn ?_ | refine cK ?_ | refine aS8 ?_ | refine wI ?_ | refine nD ?_ | refine aX rfl ?_)
    intro _u; clear _u
    refine cM false [] (c1.mc h.n91.o91.hb) ?_
    repeat ((intro _u; clear _u); first | refine eK ?_ | refine eP ?_)
    repeat ((intro _u; clear _u); first | with_reducible first | refine cT ?_ | refine cF ?_ | refine cA ?_ | refine cB ?_ | refine aLn ?_ | refine cK ?_ | refine aS8 ?_ | refine wI ?_ | refine nD ?_ | refine aX rfl ?_)
    intro _u; clear _u
    refine acnd_t (by decide) ?_
    repeat ((intro _u; clear _u); first | with_reducible first | refine cT ?_ | refine cF ?_ | refine cA ?_ | refine cB ?_ | refine aLn ?_ | refine cK ?_ | refine aS8 ?_ | refine wI ?_ | refine nD ?_ | refine aX rfl ?_)
    intro _u; clear _u
    refine acnd_t (by decide) ?_
    repeat ((intro _u; clear _u); first | with_reducible first | refine cT ?_ | refine cF ?_ | refine cA ?_ | refine cB ?_ | refine aLn ?_ | refine cK ?_ | refine aS8 ?_ | refine wI ?_ | refine nD ?_ | refine aX rfl ?_)
    intro _u; clear _u
    refine acnd_t (by decide) ?_
    repeat ((intro _u; clear _u); first | with_reducible first | refine cT ?_ | refine cF ?_ | refine cA ?_ | refine cB ?_ | refine aLn ?_ | refine cK ?_ | refine aS8 ?_ | refine wI ?_ | refine nD ?_ | refine aX rfl ?_)
    intro _u; clear _u
    refine eget_map (show ([⟨2, 0, 0⟩] : List T3)[0]? = some ⟨2, 0, 0⟩ from rfl) ?_
    repeat ((intro _u; clear _u); first | with_reducible first | refine cT ?_ | refine cF ?_ | refine cA ?_ | refine cB ?_ | refine aLn ?_ | refine cK ?_ | refine aS8 ?_ | refine wI ?_ | refine nD ?_ | refine aX rfl ?_)
    intro _u; clear _u
    exact rT

theorem tencodes_law {R : Env} (h : N80 R) (t : Tex) : R.Pc 80 [.agg t.row] (.bool true) :=
  h.o80.enter 100 rfl fun X bb hfit hp => by
    repeat ((intro _u; clear _u); first | with_reducible first | refine cT ?_ | refine cF ?_ | refine cA ?_ | refine cB ?_ | refine aLn ?_ | refine cK ?_ | refine aS8 ?_ | refine wI ?_ | refine nD ?_ | refine aX rfl ?_)
    intro _u; clear _u
    refine ICall.pure h.n81.o81.hb (few14_c h.n81 t) rfl ?_
    have hl : t.few.t.length ≤ 1073741824 := by simp [Tex.few]; omega
    generalize t.few = t at hl ⊢
    repeat ((intro _u; clear _u); first | with_reducible first | refine cT ?_ | refine cF ?_ | refine cA ?_ | refine cB ?_ | refine aLn ?_ | refine cK ?_ | refine aS8 ?_ | refine wI ?_ | refine nD ?_ | refine aX rfl ?_)
    intro _u; clear _u
    refine ICall.pure h.n82.o82.hb (tencode_c h.n82 t hl) rfl ?_
    repeat ((intro _u; clear _u); first | with_reducible first | refine cT ?_ | refine cF ?_ | refine cA ?_ | refine cB ?_ | refine aLn ?_ | refine cK ?_ | refine aS8 ?_ | refine wI ?_ | refine nD ?_ | refine aX rfl ?_)
    intro _u; clear _u
    refine ICall.pure h.n83.o83.hb (rtencode_c h.n83 t hl) rfl ?_
    repeat ((intro _u; clear _u); first | with_reducible first | refine cT ?_ | refine cF ?_ | refine cA ?_ | refine cB ?_ | refine aLn ?_ | refine cK ?_ | refine aS8 ?_ | refine wI ?_ | refine nD ?_ | refine aX rfl ?_)
    intro _u; clear _u
    refine ICall.pure h.n84.o84.hb (tchk_c h.n84 t hl) rfl ?_
    repeat ((intro _u; clear _u); first | with_reducible first | refine cT ?_ | refine cF ?_ | refine cA ?_ | refine cB ?_ | refine aLn ?_ | refine cK ?_ | refine aS8 ?_ | refine wI ?_ | refine nD ?_ | refine aX rfl ?_)
    intro _u; clear _u
    refine ICall.pure h.n85.o85.hb (rtchk_c h.n85 t hl) rfl ?_
    repeat ((intro _u; clear _u); first | with_reducible first | refine cT ?_ | refine cF ?_ | refine cA ?_ | refine cB ?_ | refine aLn ?_ | refine cK ?_ | refine aS8 ?_ | refine wI ?_ | refine nD ?_ | refine aX rfl ?_)
    intro _u; clear _u
    refine acnd_t (by simp) ?_
    repeat ((intro _u; clear _u); first | with_reducible first | refine cT ?_ | refine cF ?_ | refine cA ?_ | refine cB ?_ | refine aLn ?_ | refine cK ?_ | refine aS8 ?_ | refine wI ?_ | refine nD ?_ | refine aX rfl ?_)
    intro _u; clear _u
    refine ICall.pure h.n47.o47.hb (eq8_c h.n47 (tencs t).1 (tencs t).1) rfl ?_
    repeat ((intro _u; clear _u); first | with_reducible first | refine cT ?_ | refine cF ?_ | refine cA ?_ | refine cB ?_ | refine aLn ?_ | refine cK ?_ | refine aS8 ?_ | refine wI ?_ | refine nD ?_ | refine aX rfl ?_)
    intro _u; clear _u
    refine acnd_t (by simp) ?_
    repeat ((intro _u; clear _u); first | with_reducible first | refine cT ?_ | refine cF ?_ | refine cA ?_ | refine cB ?_ | refine aLn ?_ | refine cK ?_ | refine aS8 ?_ | refine wI ?_ | refine nD ?_ | refine aX rfl ?_)
    intro _u; clear _u
    refine acnd_t (by simp) ?_
    repeat ((intro _u; clear _u); first | with_reducible first | refine cT ?_ | refine cF ?_ | refine cA ?_ | refine cB ?_ | refine aLn ?_ | refine cK ?_ | refine aS8 ?_ | refine wI ?_ | refine nD ?_ | refine aX rfl ?_)
    intro _u; clear _u
    refine ICall.pure h.n86.o86.hb (works14_c h.n86) rfl ?_
    repeat ((intro _u; clear _u); first | with_reducible first | refine cT ?_ | refine cF ?_ | refine cA ?_ | refine cB ?_ | refine aLn ?_ | refine cK ?_ | refine aS8 ?_ | refine wI ?_ | refine nD ?_ | refine aX rfl ?_)
    intro _u; clear _u
    exact rT
end Go.UM

/- What comes in, opened. -/


namespace Go.UM
open Go.AM

theorem open8 {T : TT} {n e : Nat} {es : List (List AV)} (hT : T.d e = .int .u8) (h : ∀ r ∈ es, cty T (n + 1) e r) : ∃ l : List UInt8, es = slc8 l := by
  obtain ⟨l, rfl, _⟩ := rows_map (f := fun c : UInt8 => [AV.int .u8 c.toNat]) (p := fun _ => True) (es := es) fun r hr => by
    have h1 := h r hr
    simp only [cty, hT] at h1
    obtain ⟨x, rfl, hx⟩ := h1
    have hx := wf_in hx
    simp only [inI] at hx
    refine ⟨u8 x, ?_, trivial⟩
    rw [← wr_u8, wr_in (k := .u8) hx]
  exact ⟨l, rfl⟩

theorem openK {T : TT} {n e : Nat} {k : IntKind} {es : List (List AV)} (hT : T.d e = .int k) (h : ∀ r ∈ es, cty T (n + 1) e r) : ∃ l : List Int, es = slcK k l ∧ ∀ x ∈ l, inI k x := by
  obtain ⟨l, rfl, hl⟩ := rows_map (f := fun c : Int => [AV.int k c]) (p := fun c => inI k c) (es := es) fun r hr => by
    have h1 := h r hr
    simp only [cty, hT] at h1
    obtain ⟨x, rfl, hx⟩ := h1
    exact ⟨x, rfl, wf_in hx⟩
  exact ⟨l, rfl, hl⟩
end Go.UM
