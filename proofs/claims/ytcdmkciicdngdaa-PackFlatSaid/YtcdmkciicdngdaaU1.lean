/- Of the reckoning machine, and what is proved with it: texts joined by program. -/
import Derived.Test.YtcdmkciicdngdaaU0
set_option linter.all false

/- The statements of chapter 39, part 3: PackFlat. -/

namespace Go.UM
open Go.AM
set_option maxRecDepth 4000

theorem atp_rep {m : Nat} {a k : Int} (h0 : 0 ≤ k) (h : k < m) : atp (List.replicate m a) k = a := by
  refine atp_get ?_
  rw [List.getElem?_replicate, if_pos (by omega)]
theorem dl1_flat {W h a : Int} {nm : List UInt8} {m i : Nat} (hW : 1 ≤ W ∧ W ≤ 64) (hi : i < m) (h0 : 0 < i) : dl1 ⟨W, h, 1, nm, List.replicate m a⟩ i = 0 := by
  have b4 := mod_le (i : Int) (show 0 < W by omega) (by omega)
  have hn : ¬ (i : Int) % W < 1 ∨ W ≤ (i : Int) := by
    by_cases h1 : W ≤ (i : Int)
    · exact .inr h1
    · left; rw [Int.emod_eq_of_lt (by omega) (by omega)]; omega
  unfold dl1 exv
  dsimp only
  rw [Int.mul_one, atp_rep (by omega) (by omega)]
  split
  · rename_i h1
    have := b4.2 h1.2
    rw [atp_rep (by omega) (by omega), atp_rep (by omega) (by omega), atp_rep (by omega) (by omega)]
    omega
  · split
    · rw [atp_rep (by omega) (by omega)]; omega
    · split
      · rw [atp_rep (by omega) (by omega)]; omega
      · omega
theorem dlt_flat {W h a : Int} {nm : List UInt8} {m : Nat} (hW : 1 ≤ W ∧ W ≤ 64) : ∃ b, -32768 ≤ b ∧ b ≤ 32767 ∧ dlt ⟨W, h, 1, nm, List.replicate (m + 1) a⟩ = b :: List.replicate m 0 := by
  refine ⟨dl1 ⟨W, h, 1, nm, List.replicate (m + 1) a⟩ 0, ?_, ?_, ?_⟩
  · unfold dl1; omega
  · unfold dl1; omega
  · unfold dlt
    dsimp only
    rw [List.length_replicate, List.range_succ_eq_map, List.map_cons, List.map_map]
    congr 1
    rw [List.eq_replicate_iff]
    refine ⟨by simp, fun x hx => ?_⟩
    simp only [List.mem_map, List.mem_range, Function.comp_apply] at hx
    obtain ⟨i, hi, rfl⟩ := hx
    exact dl1_flat hW (by omega) (by omega)

theorem flat_chk {W H : Int} {l : List Int} {m : Nat} (hW : 1 ≤ W ∧ W ≤ 64) (hH : 1 ≤ H ∧ H ≤ 64) (hm : (m : Int) = W * H) (hl : l.length = m) (h : ∀ x ∈ l, 0 ≤ x ∧ x ≤ 65535) : pchk ⟨W, H, 1, [65], l⟩ = 0 := by
  unfold pchk
  dsimp only
  rw [if_neg (by omega), if_neg (by rw [Int.mul_one, hl, hm]; simp; decide), if_neg]
  simp only [Bool.not_eq_false, List.all_eq_true, Bool.and_eq_true, decide_eq_true_eq]
  exact h

theorem flat_packed {W H a : Int} {m : Nat} (hW : 1 ≤ W ∧ W ≤ 64) (hH : 1 ≤ H ∧ H ≤ 64) (hm : (m : Int) = W * H) (ha : 0 ≤ a ∧ a ≤ 65535) :
    (packed ⟨W, H, 1, [65], List.replicate m a⟩).2 = 0 ∧ (packed ⟨W, H, 1, [65], List.replicate m a⟩).1.length ≤ 12 := by
  have h0 := flat_chk (l := List.replicate m a) hW hH hm (by simp) (fun x hx => by rw [List.eq_of_mem_replicate hx]; exact ha)
  have b1 : 1 ≤ W * H ∧ W * H ≤ 4096 := ⟨by have := Int.mul_le_mul hW.1 hH.1 (by omega) (by omega); omega, by have := Int.mul_le_mul hW.2 hH.2 (by omega) (by omega); omega⟩
  obtain ⟨k, rfl⟩ : ∃ k, m = k + 1 := ⟨m - 1, by omega⟩
  obtain ⟨b, hb1, hb2, hb⟩ := dlt_flat (h := H) (a := a) (nm := [65]) (m := k) hW
  rw [packed, if_pos h0]
  refine ⟨rfl, ?_⟩
  dsimp only
  rw [hb, List.length_append]
  have := pk_flat (a := b) (m := k) ⟨hb1, hb2⟩ (by omega)
  simp [hdr]; omega

theorem slope_in {W a b c : Int} {m : Nat} : ∀ x ∈ slope W a b c m, 0 ≤ x ∧ x ≤ 65535 := by
  intro x hx
  obtain ⟨i, _, rfl⟩ := List.mem_map.1 hx
  unfold slp; omega
@[simp] theorem slope_len {W a b c : Int} {m : Nat} : (slope W a b c m).length = m := by simp [slope]
theorem slope_succ {W a b c : Int} {m : Nat} : slope W a b c (m + 1) = slope W a b c m ++ [slp W a b c m] := by simp [slope, List.range_succ]

theorem flat_law {R : Env} (h : N163 R) (w hh a b c : Int) (hw : inI .u8 w) (hh8 : inI .u8 hh) (ha : inI .u16 a) (hb : inI .u16 b) (hc : inI .u16 c) : R.Pc 163 [.int .u8 w, .int .u8 hh, .agg [.int .u16 a, .int .u16 b, .int .u16 c]] (.bool true) :=
  h.o163.enter 100 rfl fun X bb hfit hp => by
    simp only [inI] at hw hh8 ha hb hc
    repeat ((intro _u; clear _u); first | with_reducible first | refine cT ?_ | refine cF ?_ | refine cA ?_ | refine cB ?_ | refine aLn ?_ | refine cK ?_ | refine aS8 ?_ | refine wI ?_ | refine nD ?_ | refine aX rfl ?_)
    intro _u; clear _u
    rw [Int.tmod_eq_emod_of_nonneg (by omega)]
    refine wI ?_
    repeat ((intro _u; clear _u); first | with_reducible first | refine cT ?_ | refine cF ?_ | refine cA ?_ | refine cB ?_ | refine aLn ?_ | refine cK ?_ | refine aS8 ?_ | refine wI ?_ | refine nD ?_ | refine aX rfl ?_)
    intro _u; clear _u
    rw [Int.tmod_eq_emod_of_nonneg (by omega)]
    refine wI ?_
    have hW : 1 ≤ w % 64 + 1 ∧ w % 64 + 1 ≤ 64 := by omega
    have hH : 1 ≤ hh % 64 + 1 ∧ hh % 64 + 1 ≤ 64 := by omega
    repeat ((intro _u; clear _u); first | with_reducible first | refine cT ?_ | refine cF ?_ | refine cA ?_ | refine cB ?_ | refine aLn ?_ | refine cK ?_ | refine aS8 ?_ | refine wI ?_ | refine nD ?_ | refine aX rfl ?_)
    generalize w % 64 + 1 = W at hW ⊢
    generalize hh % 64 + 1 = H at hH ⊢
    have b1 : 1 ≤ W * H ∧ W * H ≤ 4096 := ⟨by have := Int.mul_le_mul hW.1 hH.1 (by omega) (by omega); omega, by have := Int.mul_le_mul hW.2 hH.2 (by omega) (by omega); omega⟩
    repeat ((intro _u; clear _u); first | with_reducible first | refine cT ?_ | refine cF ?_ | refine cA ?_ | refine cB ?_ | refine aLn ?_ | refine cK ?_ | refine aS8 ?_ | refine wI ?_ | refine nD ?_ | refine aX rfl ?_)
    intro _u; clear _u
    refine lPa 100 (fun k : Nat => (k : Int) ≤ W * H) (fun k => ⟨[(5, .loc 0 1 0 0), (7, .loc 1 1 0 0), (8, .loc 2 1 0 0), (30, .int .i64 (W * H)), (31, .int .i64 k)], [(4, .arr (R.ty 10) 1 (slcK .i64 (slope W a b c k))), (3, .arr (R.ty 10) 1 (slcK .i64 (List.replicate k a))), (2, .var (R.ty 20) [.int .i64 W, .int .i64 H, .int .i64 1, .str [65], .osl 4 k]), (1, .var (R.ty 20) [.int .i64 W, .int .i64 H, .int .i64 1, .str [65], .osl 3 k]), (0, .var (R.ty 24) [.int .u16 a, .int .u16 b, .int .u16 c])], 5⟩) (fun k => (W * H).toNat - k) (0) ?_ ?_
    · omega
    · intro k hk
      dsimp only
      repeat ((intro _u; clear _u); first | with_reducible first | refine cT ?_ | refine cF ?_ | refine cA ?_ | refine cB ?_ | refine aLn ?_ | refine cK ?_ | refine aS8 ?_ | refine wI ?_ | refine nD ?_ | refine aX rfl ?_)
      intro _u; clear _u
      refine cS (fun h1 => ?_) (fun h1 => ?_)
      · have hk1 : 0 ≤ (k : Int) % W ∧ (k : Int) % W ≤ 64 := by
          have := Int.emod_nonneg (k : Int) (show W ≠ 0 by omega)
          have := Int.emod_lt_of_pos (k : Int) (show 0 < W by omega)
          omega
        have hk2 : 0 ≤ (k : Int) / W ∧ (k : Int) / W ≤ 4096 := by
          have := Int.ediv_nonneg (show 0 ≤ (k : Int) by omega) (show 0 ≤ W by omega)
          have := Int.ediv_le_self (a := (k : Int)) W (by omega)
          omega
        have hb1 : 0 ≤ (k : Int) % W * b ∧ (k : Int) % W * b ≤ 64 * 65535 := ⟨Int.mul_nonneg hk1.1 hb.1, Int.mul_le_mul hk1.2 hb.2 hb.1 (by omega)⟩
        have hc1 : 0 ≤ (k : Int) / W * c ∧ (k : Int) / W * c ≤ 4096 * 65535 := ⟨Int.mul_nonneg hk2.1 hc.1, Int.mul_le_mul hk2.2 hc.2 hc.1 (by omega)⟩
        repeat ((intro _u; clear _u); first | with_reducible first | refine cT ?_ | refine cF ?_ | refine cA ?_ | refine cB ?_ | refine aLn ?_ | refine cK ?_ | refine aS8 ?_ | refine wI ?_ | refine nD ?_ | refine aX rfl ?_)
        intro _u; clear _u
        rw [Int.tmod_eq_emod_of_nonneg (by omega)]
        refine wI ?_
        repeat ((intro _u; clear _u); first | with_reducible first | refine cT ?_ | refine cF ?_ | refine cA ?_ | refine cB ?_ | refine aLn ?_ | refine cK ?_ | refine aS8 ?_ | refine wI ?_ | refine nD ?_ | refine aX rfl ?_)
        intro _u; clear _u
        rw [Int.tdiv_eq_ediv_of_nonneg (by omega)]
        refine wI ?_
        have e2 : bit2 .and .i64 (a + (k : Int) % W * b + (k : Int) / W * c) 65535 = slp W a b c k := and_low 16 (by decide) (by simp only [inI]; omega)
        repeat ((intro _u; clear _u); first | with_reducible first | refine cT ?_ | refine cF ?_ | refine cA ?_ | refine cB ?_ | refine aLn ?_ | refine cK ?_ | refine aS8 ?_ | refine wI ?_ | refine nD ?_ | refine aX rfl ?_)
        rw [e2]
        repeat ((intro _u; clear _u); first | with_reducible first | refine cT ?_ | refine cF ?_ | refine cA ?_ | refine cB ?_ | refine aLn ?_ | refine cK ?_ | refine aS8 ?_ | refine wI ?_ | refine nD ?_ | refine aX rfl ?_)
        intro _u; clear _u
        refine nX (k + 1) ?_ ?_ ⟨_, hp, rfl⟩ ?_ ?_
        · omega
        · omega
        · all_goals repeat' (first | exact True.intro | refine And.intro ?_ ?_ | (intro _u; clear _u) | with_reducible first | refine eM ?_ ?_ | refine eF ?_ ?_ ?_ | refine eN ?_ | refine eL ?_ ?_ ?_ | refine eA ?_ ?_ | refine IWk.mk ⟨_, hp, rfl⟩ ?_ ?_)
          all_goals first | with_reducible rfl | omega | exact Or.inl (by decide) | (simp; done) | rfl | skip
        · all_goals repeat' (first | exact True.intro | refine And.intro ?_ ?_ | (intro _u; clear _u) | with_reducible first | refine eM ?_ ?_ | refine eF ?_ ?_ ?_ | refine eN ?_ | refine eL ?_ ?_ ?_ | refine eA ?_ ?_ | refine IWk.mk ⟨_, hp, rfl⟩ ?_ ?_)
          all_goals first | with_reducible rfl | omega | exact Or.inl (by decide) | (simp; done) | rfl | skip
          rw [slope_succ]; simp [slcK]
          simp [slcK, List.replicate_succ']
      · have hkm : (k : Int) = W * H := by omega
        repeat ((intro _u; clear _u); first | with_reducible first | refine cT ?_ | refine cF ?_ | refine cA ?_ | refine cB ?_ | refine aLn ?_ | refine cK ?_ | refine aS8 ?_ | refine wI ?_ | refine nD ?_ | refine aX rfl ?_)
        intro _u; clear _u
        refine ICall.let [3] rfl hp rfl ?_
        repeat ((intro _u; clear _u); first | refine eZ ?_ | refine FrzC.drop ?_)
        have c1 := pack_c h.n164 ⟨W, H, 1, [65], List.replicate k a⟩ (show 1 ≤ 1073741824 by decide) (by have := (flat_packed hW hH hkm ha).2; omega)
        have f1 := flat_packed hW hH hkm ha
        repeat ((intro _u; clear _u); first | with_reducible first | refine cT ?_ | refine cF ?_ | refine cA ?_ | refine cB ?_ | refine aLn ?_ | refine cK ?_ | refine aS8 ?_ | refine wI ?_ | refine nD ?_ | refine aX rfl ?_)
        intro _u; clear _u
        refine ICall.pure h.n164.o164.hb c1 rfl ?_
        repeat ((intro _u; clear _u); first | with_reducible first | refine cT ?_ | refine cF ?_ | refine cA ?_ | refine cB ?_ | refine aLn ?_ | refine cK ?_ | refine aS8 ?_ | refine wI ?_ | refine nD ?_ | refine aX rfl ?_)
        intro _u; clear _u
        refine ICall.let [4] rfl hp rfl ?_
        repeat ((intro _u; clear _u); first | refine eZ ?_ | refine FrzC.drop ?_)
        have d0 := flat_chk (l := slope W a b c k) hW hH hkm (by simp) slope_in
        have c2 := deltas_c h.n165 ⟨W, H, 1, [65], slope W a b c k⟩ (show 1 ≤ 1073741824 by decide)
        rw [deltas, if_pos d0] at c2
        repeat ((intro _u; clear _u); first | with_reducible first | refine cT ?_ | refine cF ?_ | refine cA ?_ | refine cB ?_ | refine aLn ?_ | refine cK ?_ | refine aS8 ?_ | refine wI ?_ | refine nD ?_ | refine aX rfl ?_)
        intro _u; clear _u
        refine ICall.pure h.n165.o165.hb c2 rfl ?_
        repeat ((intro _u; clear _u); first | with_reducible first | refine cT ?_ | refine cF ?_ | refine cA ?_ | refine cB ?_ | refine aLn ?_ | refine cK ?_ | refine aS8 ?_ | refine wI ?_ | refine nD ?_ | refine aX rfl ?_)
        intro _u; clear _u
        refine acnd_f (by simp [f1.1]) ?_
        repeat ((intro _u; clear _u); first | with_reducible first | refine cT ?_ | refine cF ?_ | refine cA ?_ | refine cB ?_ | refine aLn ?_ | refine cK ?_ | refine aS8 ?_ | refine wI ?_ | refine nD ?_ | refine aX rfl ?_)
        intro _u; clear _u
        refine acnd_f (by simp) ?_
        repeat ((intro _u; clear _u); first | with_reducible first | refine cT ?_ | refine cF ?_ | refine cA ?_ | refine cB ?_ | refine aLn ?_ | refine cK ?_ | refine aS8 ?_ | refine wI ?_ | refine nD ?_ | refine aX rfl ?_)
        intro _u; clear _u
        refine acnd_f (by simp; omega) ?_
        repeat ((intro _u; clear _u); first | with_reducible first | refine cT ?_ | refine cF ?_ | refine cA ?_ | refine cB ?_ | refine aLn ?_ | refine cK ?_ | refine aS8 ?_ | refine wI ?_ | refine nD ?_ | refine aX rfl ?_)
        intro _u; clear _u
        refine acnd_f (by simp) ?_
        repeat ((intro _u; clear _u); first | with_reducible first | refine cT ?_ | refine cF ?_ | refine cA ?_ | refine cB ?_ | refine aLn ?_ | refine cK ?_ | refine aS8 ?_ | refine wI ?_ | refine nD ?_ | refine aX rfl ?_)
        intro _u; clear _u
        refine lPa 100 (fun i : Nat => i ≤ k) (fun i => ⟨[(7, .loc 1 1 0 0), (99, .isl 1 (slcK .i64 (dlt ⟨W, H, 1, [65], slope W a b c k⟩))), (100, .int .i64 k), (101, .int .i64 i)], [(1, .var (R.ty 20) [.int .i64 W, .int .i64 H, .int .i64 1, .str [65], .isl 1 (slcK .i64 (List.replicate k a))])], 5⟩) (fun i => k - i) (0) ?_ ?_
        · omega
        · intro i hi
          dsimp only
          repeat ((intro _u; clear _u); first | with_reducible first | refine cT ?_ | refine cF ?_ | refine cA ?_ | refine cB ?_ | refine aLn ?_ | refine cK ?_ | refine aS8 ?_ | refine wI ?_ | refine nD ?_ | refine aX rfl ?_)
          intro _u; clear _u
          refine cS (fun h1 => ?_) (fun h1 => ?_)
          · have hg : (dlt ⟨W, H, 1, [65], slope W a b c k⟩)[((i : Int)).toNat]? = some (dl1 ⟨W, H, 1, [65], slope W a b c k⟩ i) := by
              rw [dlt, List.getElem?_map, List.getElem?_range (by simp; omega)]; rfl
            repeat ((intro _u; clear _u); first | with_reducible first | refine cT ?_ | refine cF ?_ | refine cA ?_ | refine cB ?_ | refine aLn ?_ | refine cK ?_ | refine aS8 ?_ | refine wI ?_ | refine nD ?_ | refine aX rfl ?_)
            intro _u; clear _u
            refine eget_map hg ?_
            repeat ((intro _u; clear _u); first | with_reducible first | refine cT ?_ | refine cF ?_ | refine cA ?_ | refine cB ?_ | refine aLn ?_ | refine cK ?_ | refine aS8 ?_ | refine wI ?_ | refine nD ?_ | refine aX rfl ?_)
            intro _u; clear _u
            refine cS (fun h2 => ?_) (fun h2 => ?_)
            · rw [Int.tmod_eq_emod_of_nonneg (by omega)] at h2
              repeat ((intro _u; clear _u); first | with_reducible first | refine cT ?_ | refine cF ?_ | refine cA ?_ | refine cB ?_ | refine aLn ?_ | refine cK ?_ | refine aS8 ?_ | refine wI ?_ | refine nD ?_ | refine aX rfl ?_)
              intro _u; clear _u
              refine cS (fun h3 => ?_) (fun h3 => ?_)
              · have hz := slope_zero (a := a) (b := b) (c := c) (m := k) (h := H) (nm := [65]) hW (by omega : i < k) h2 h3
                repeat ((intro _u; clear _u); first | with_reducible first | refine cT ?_ | refine cF ?_ | refine cA ?_ | refine cB ?_ | refine aLn ?_ | refine cK ?_ | refine aS8 ?_ | refine wI ?_ | refine nD ?_ | refine aX rfl ?_)
                intro _u; clear _u
                refine acnd_f (by simp [hz]) ?_
                repeat ((intro _u; clear _u); first | with_reducible first | refine cT ?_ | refine cF ?_ | refine cA ?_ | refine cB ?_ | refine aLn ?_ | refine cK ?_ | refine aS8 ?_ | refine wI ?_ | refine nD ?_ | refine aX rfl ?_)
                intro _u; clear _u
                refine nXa (i + 1) ?_ ?_
                · omega
                · omega
              · repeat ((intro _u; clear _u); first | with_reducible first | refine cT ?_ | refine cF ?_ | refine cA ?_ | refine cB ?_ | refine aLn ?_ | refine cK ?_ | refine aS8 ?_ | refine wI ?_ | refine nD ?_ | refine aX rfl ?_)
                intro _u; clear _u
                refine nXa (i + 1) ?_ ?_
                · omega
                · omega
            · repeat ((intro _u; clear _u); first | with_reducible first | refine cT ?_ | refine cF ?_ | refine cA ?_ | refine cB ?_ | refine aLn ?_ | refine cK ?_ | refine aS8 ?_ | refine wI ?_ | refine nD ?_ | refine aX rfl ?_)
              intro _u; clear _u
              refine nXa (i + 1) ?_ ?_
              · omega
              · omega
          · repeat ((intro _u; clear _u); first | with_reducible first | refine cT ?_ | refine cF ?_ | refine cA ?_ | refine cB ?_ | refine aLn ?_ | refine cK ?_ | refine aS8 ?_ | refine wI ?_ | refine nD ?_ | refine aX rfl ?_)
            intro _u; clear _u
            refine ICall.pure h.n166.o166.hb (works39_c h.n166) rfl ?_
            repeat ((intro _u; clear _u); first | with_reducible first | refine cT ?_ | refine cF ?_ | refine cA ?_ | refine cB ?_ | refine aLn ?_ | refine cK ?_ | refine aS8 ?_ | refine wI ?_ | refine nD ?_ | refine aX rfl ?_)
            intro _u; clear _u
            exact rT
end Go.UM
