/- Of the reckoning machine, and what is proved with it: texts joined by program. -/
import Derived.Test.YtahjfplikclhlaaGreatU0
import Derived.Test.YtahjfplikclhlaaGreatK3
import Derived.Shelf.SlSortCmp.InsertionK
import Derived.Maps.Own
import Derived.Lib.SlKeysI
import Derived.Shelf.SlSortCmp.NoneTotal
import Derived.Shelf.SlSortCmp.WholeK
set_option linter.all false

namespace Go.UM
open Go.AM
set_option maxRecDepth 4000
theorem clone8_c {R : Env} (h : N62 R) (l : List UInt8) (hl : l.length ≤ 1073741824) :
    R.Mc 62 [.isl 1 (slc8 l)] [] (.osl 0 l.length) [(0, .arr (R.ty 4) 1 (slc8 l))] 1 :=
  h.o62.enterM 60 0 rfl rfl rfl fun X b hfit hp => by
    refine sh ?_
    refine ANil.mk (fun hn => ?_) ?_
    · have : l = [] := by simpa [slc8] using hn
      subst this
      refine sh ?_
      exact rM [50]
    · refine sh ?_
      exact rM [0]
def enc (w : Nat) (x : Int) : List UInt8 := (List.range w).map fun i => u8 (x / 256 ^ i)
def puts (b : List UInt8) (w : Int) (n : List Int) : List UInt8 × Int :=
  if w < 1 ∨ 8 < w then ([], 2) else if n.any (fun x => decide (256 ^ w.toNat ≤ x)) = true then ([], 3) else (b ++ n.flatMap (enc w.toNat), 0)
theorem flatMap_len (w : Nat) : ∀ l : List Int, (l.flatMap (enc w)).length = w * l.length
  | [] => by simp
  | x :: r => by simp [flatMap_len w r, enc, Nat.mul_add]; omega
theorem put_room {b : List UInt8} {n : List Int} {w : Int} {k : Nat} {i : Nat} {x : Int} (hl : b.length + 8 * n.length ≤ 1073741824) (hw : w ≤ 8) (hw1 : 1 ≤ w) (hk : (k : Int) < n.length) (hi : (i : Int) < w) : (b ++ (n.take k).flatMap (enc w.toNat) ++ enc i x).length + 1 ≤ 1073741824 := by
  have h1 : w.toNat * (n.take k).length ≤ 8 * k := Nat.mul_le_mul (by omega) (by simp; omega)
  simp only [List.length_append, flatMap_len]
  have : (enc i x).length = i := by simp [enc]
  omega
theorem enc_succ (i : Nat) (x : Int) : enc (i + 1) x = enc i x ++ [u8 (x / 256 ^ i)] := by simp [enc, List.range_succ]
@[simp] theorem enc_zero (x : Int) : enc 0 x = [] := rfl
@[simp] theorem enc_length (w : Nat) (x : Int) : (enc w x).length = w := by simp [enc]
theorem shr_enc {x : Int} {i : Nat} (hx : 0 ≤ x) (hi : i < 8) : shrI .u64 x (8 * (i : Int)) = x / 256 ^ i := by
  rw [shr_eq hx]
  have h : (8 * (i : Int)).toNat = 8 * i := by omega
  rw [h, show min (8 * i) (IntKind.bits .u64) = 8 * i by simp [IntKind.bits]; omega, Int.pow_mul]
  rfl
theorem shr_big {x w : Int} (hx : 0 ≤ x) (h1 : 1 ≤ w) (h8 : w < 8) : 0 < shrI .u64 x (8 * w) ↔ 256 ^ w.toNat ≤ x := by
  obtain ⟨i, rfl⟩ : ∃ i : Nat, w = i := ⟨w.toNat, by omega⟩
  rw [shr_enc hx (by omega), Int.toNat_natCast]
  have hp : (0 : Int) < 256 ^ i := Int.pow_pos (by decide)
  constructor
  · intro h
    have := (Int.le_ediv_iff_mul_le hp).1 (show 1 ≤ x / 256 ^ i from h)
    rwa [Int.one_mul] at this
  · intro h
    show 1 ≤ x / 256 ^ i
    exact (Int.le_ediv_iff_mul_le hp).2 (by rw [Int.one_mul]; exact h)
theorem any_take_succ {n : List Int} {k : Nat} {x : Int} {p : Int → Bool} (h : n[k]? = some x) : (n.take (k + 1)).any p = ((n.take k).any p || p x) := by
  rw [take_succ_get h]; simp
theorem puts_bad {b : List UInt8} {w : Int} {n : List Int} {x : Int} (h1 : 1 ≤ w) (h2 : w ≤ 8) (hx : x ∈ n) (h : 256 ^ w.toNat ≤ x) : puts b w n = ([], 3) := by
  unfold puts
  rw [if_neg (by omega), if_pos]
  simp only [List.any_eq_true, decide_eq_true_eq]
  exact ⟨x, hx, h⟩
theorem puts_ok {b : List UInt8} {w : Int} {n : List Int} (h1 : 1 ≤ w) (h2 : w ≤ 8) (h : n.any (fun x => decide (256 ^ w.toNat ≤ x)) = false) : puts b w n = (b ++ n.flatMap (enc w.toNat), 0) := by
  unfold puts
  rw [if_neg (by omega), if_neg (by rw [h]; decide)]
theorem put_c {R : Env} (h : N54 R) (b : List UInt8) (w : Int) (n : List Int) (hl : b.length + 8 * n.length ≤ 1073741824) (hn : ∀ x ∈ n, 0 ≤ x ∧ x ≤ 18446744073709551615) :
    R.Mc 54 [.isl 1 (slc8 b), .int .i64 w, .isl 1 (slcK .u64 n)] [] (.tup [.osl 0 (puts b w n).1.length, .int .i64 (puts b w n).2]) [(0, .arr (R.ty 4) 1 (slc8 (puts b w n).1))] 1 :=
  h.o54.enterM 100 0 rfl rfl rfl fun X bb hfit hp => by
    generalize hq : puts b w n = q
    refine sh ?_
    refine cS (fun h1 => ?_) (fun h1 => ?_)
    · rw [puts, if_pos (.inl h1)] at hq
      subst hq
      refine sh ?_
      exact rM [50]
    · refine sh ?_
      refine cS (fun h2 => ?_) (fun h2 => ?_)
      · rw [puts, if_pos (.inr h2)] at hq
        subst hq
        refine sh ?_
        exact rM [50]
      · refine sh ?_
        refine cM false [] (clone8_c h.n62 b (by omega)) ?_
        repeat (intro _; first | refine eK ?_ | refine eP ?_)
        refine sh ?_
        refine lPa 100 (fun k : Nat => k ≤ n.length ∧ (n.take k).any (fun x => decide (256 ^ w.toNat ≤ x)) = false) (fun k => ⟨[(1, .int .i64 w), (8, .osl 0 (b ++ (n.take k).flatMap (enc w.toNat)).length), (20, .isl 1 (slcK .u64 n)), (21, .int .i64 n.length), (22, .int .i64 k)], [(0, .arr (R.ty 4) 1 (slc8 (b ++ (n.take k).flatMap (enc w.toNat))))], 1⟩) (fun k => n.length - k) (0) ?_ ?_
        · exact ⟨Nat.zero_le _, by simp⟩
        · intro k hk
          dsimp only
          refine sh ?_
          refine cS (fun h3 => ?_) (fun h3 => ?_)
          · obtain ⟨x, hx⟩ : ∃ u_, n[k]? = some u_ := ⟨_, List.getElem?_eq_getElem (by first | omega | (simp <;> omega))⟩
            refine sh ?_
            refine eget_map hx ?_
            have hxk := hx
            have hx := hn x (List.mem_of_getElem? hxk)
            refine sh ?_
            refine cS (fun h4 => ?_) (fun h4 => ?_)
            · refine sh ?_
              refine cS (fun h5 => ?_) (fun h5 => ?_)
              · rw [puts_bad (by omega) (by omega) (List.mem_of_getElem? hxk) ((shr_big hx.1 (by omega) h4).1 h5)] at hq
                subst hq
                refine sh ?_
                exact rM [50]
              · have hnb : ¬ 256 ^ w.toNat ≤ x := fun hb => absurd ((shr_big hx.1 (by omega) h4).2 hb) (by omega)
                refine sh ?_
                refine lPa 100 (fun i : Nat => (i : Int) ≤ w) (fun i => ⟨[(1, .int .i64 w), (8, .osl 0 (b ++ (n.take k).flatMap (enc w.toNat) ++ enc i x).length), (10, .int .u64 x), (20, .isl 1 (slcK .u64 n)), (21, .int .i64 n.length), (22, .int .i64 k), (35, .int .i64 w), (36, .int .i64 i)], [(0, .arr (R.ty 4) 1 (slc8 (b ++ (n.take k).flatMap (enc w.toNat) ++ enc i x)))], 1⟩) (fun i => w.toNat - i) (0) ?_ ?_
                · show (0 : Int) ≤ w
                  omega
                · intro i hi
                  dsimp only
                  refine sh ?_
                  refine cS (fun h6 => ?_) (fun h6 => ?_)
                  · refine sh ?_
                    rw [shr_enc hx.1 (by omega)]
                    refine iwr_any ?_
                    refine sh ?_
                    refine ⟨by rw [slc8_length]; exact put_room hl h2 h1 h3 h6, ?_⟩
                    refine sh ?_
                    refine nX (i + 1) ?_ ?_ ⟨_, hp, rfl⟩ ?_ ?_
                    · omega
                    · omega
                    · all_goals repeat' (first | exact True.intro | refine And.intro ?_ ?_ | (intro _u; clear _u) | (with_reducible first | exact DnLe.fg | refine eM ?_ ?_ | refine eF ?_ ?_ ?_ | refine eN ?_ | refine eL ?_ ?_ ?_ | refine eA ?_ ?_ | refine IWk.mk ⟨_, hp, rfl⟩ ?_ ?_) | refine IWk.mk ⟨_, hp, rfl⟩ ?_ ?_)
                      all_goals try first | with_reducible rfl | omega | exact .inl (by decide) | (simp; done) | rfl
                    · all_goals repeat' (first | exact True.intro | refine And.intro ?_ ?_ | (intro _u; clear _u) | (with_reducible first | exact DnLe.fg | refine eM ?_ ?_ | refine eF ?_ ?_ ?_ | refine eN ?_ | refine eL ?_ ?_ ?_ | refine eA ?_ ?_ | refine IWk.mk ⟨_, hp, rfl⟩ ?_ ?_) | refine IWk.mk ⟨_, hp, rfl⟩ ?_ ?_)
                      all_goals try first | with_reducible rfl | omega | exact .inl (by decide) | (simp; done) | rfl
                      simp [enc_succ]
                  · refine sh ?_
                    refine nX (k + 1) ?_ ?_ ⟨_, hp, rfl⟩ ?_ ?_
                    · refine ⟨by omega, ?_⟩
                      rw [any_take_succ hxk, hk.2, decide_eq_false hnb]; rfl
                    · omega
                    · all_goals repeat' (first | exact True.intro | refine And.intro ?_ ?_ | (intro _u; clear _u) | (with_reducible first | exact DnLe.fg | refine eM ?_ ?_ | refine eF ?_ ?_ ?_ | refine eN ?_ | refine eL ?_ ?_ ?_ | refine eA ?_ ?_ | refine IWk.mk ⟨_, hp, rfl⟩ ?_ ?_) | refine IWk.mk ⟨_, hp, rfl⟩ ?_ ?_)
                      all_goals try first | with_reducible rfl | omega | exact .inl (by decide) | (simp; done) | rfl
                      rw [take_succ_get hxk, show i = w.toNat by omega]; simp
                    · all_goals repeat' (first | exact True.intro | refine And.intro ?_ ?_ | (intro _u; clear _u) | (with_reducible first | exact DnLe.fg | refine eM ?_ ?_ | refine eF ?_ ?_ ?_ | refine eN ?_ | refine eL ?_ ?_ ?_ | refine eA ?_ ?_ | refine IWk.mk ⟨_, hp, rfl⟩ ?_ ?_) | refine IWk.mk ⟨_, hp, rfl⟩ ?_ ?_)
                      all_goals try first | with_reducible rfl | omega | exact .inl (by decide) | (simp; done) | rfl
                      rw [take_succ_get hxk, show i = w.toNat by omega]; simp
            · have hnb : ¬ 256 ^ w.toNat ≤ x := by rw [show w.toNat = 8 by omega]; omega
              refine sh ?_
              refine lPa 100 (fun i : Nat => (i : Int) ≤ w) (fun i => ⟨[(1, .int .i64 w), (8, .osl 0 (b ++ (n.take k).flatMap (enc w.toNat) ++ enc i x).length), (10, .int .u64 x), (20, .isl 1 (slcK .u64 n)), (21, .int .i64 n.length), (22, .int .i64 k), (35, .int .i64 w), (36, .int .i64 i)], [(0, .arr (R.ty 4) 1 (slc8 (b ++ (n.take k).flatMap (enc w.toNat) ++ enc i x)))], 1⟩) (fun i => w.toNat - i) (0) ?_ ?_
              · show (0 : Int) ≤ w
                omega
              · intro i hi
                dsimp only
                refine sh ?_
                refine cS (fun h6 => ?_) (fun h6 => ?_)
                · refine sh ?_
                  rw [shr_enc hx.1 (by omega)]
                  refine iwr_any ?_
                  refine sh ?_
                  refine ⟨by rw [slc8_length]; exact put_room hl h2 h1 h3 h6, ?_⟩
                  refine sh ?_
                  refine nX (i + 1) ?_ ?_ ⟨_, hp, rfl⟩ ?_ ?_
                  · omega
                  · omega
                  · all_goals repeat' (first | exact True.intro | refine And.intro ?_ ?_ | (intro _u; clear _u) | (with_reducible first | exact DnLe.fg | refine eM ?_ ?_ | refine eF ?_ ?_ ?_ | refine eN ?_ | refine eL ?_ ?_ ?_ | refine eA ?_ ?_ | refine IWk.mk ⟨_, hp, rfl⟩ ?_ ?_) | refine IWk.mk ⟨_, hp, rfl⟩ ?_ ?_)
                    all_goals try first | with_reducible rfl | omega | exact .inl (by decide) | (simp; done) | rfl
                  · all_goals repeat' (first | exact True.intro | refine And.intro ?_ ?_ | (intro _u; clear _u) | (with_reducible first | exact DnLe.fg | refine eM ?_ ?_ | refine eF ?_ ?_ ?_ | refine eN ?_ | refine eL ?_ ?_ ?_ | refine eA ?_ ?_ | refine IWk.mk ⟨_, hp, rfl⟩ ?_ ?_) | refine IWk.mk ⟨_, hp, rfl⟩ ?_ ?_)
                    all_goals try first | with_reducible rfl | omega | exact .inl (by decide) | (simp; done) | rfl
                    simp [enc_succ]
                · refine sh ?_
                  refine nX (k + 1) ?_ ?_ ⟨_, hp, rfl⟩ ?_ ?_
                  · refine ⟨by omega, ?_⟩
                    rw [any_take_succ hxk, hk.2, decide_eq_false hnb]; rfl
                  · omega
                  · all_goals repeat' (first | exact True.intro | refine And.intro ?_ ?_ | (intro _u; clear _u) | (with_reducible first | exact DnLe.fg | refine eM ?_ ?_ | refine eF ?_ ?_ ?_ | refine eN ?_ | refine eL ?_ ?_ ?_ | refine eA ?_ ?_ | refine IWk.mk ⟨_, hp, rfl⟩ ?_ ?_) | refine IWk.mk ⟨_, hp, rfl⟩ ?_ ?_)
                    all_goals try first | with_reducible rfl | omega | exact .inl (by decide) | (simp; done) | rfl
                    rw [take_succ_get hxk, show i = w.toNat by omega]; simp
                  · all_goals repeat' (first | exact True.intro | refine And.intro ?_ ?_ | (intro _u; clear _u) | (with_reducible first | exact DnLe.fg | refine eM ?_ ?_ | refine eF ?_ ?_ ?_ | refine eN ?_ | refine eL ?_ ?_ ?_ | refine eA ?_ ?_ | refine IWk.mk ⟨_, hp, rfl⟩ ?_ ?_) | refine IWk.mk ⟨_, hp, rfl⟩ ?_ ?_)
                    all_goals try first | with_reducible rfl | omega | exact .inl (by decide) | (simp; done) | rfl
                    rw [take_succ_get hxk, show i = w.toNat by omega]; simp
          · have hkn : n.take k = n := List.take_of_length_le (by omega)
            rw [hkn] at hk ⊢
            rw [puts_ok (by omega) (by omega) hk.2] at hq
            subst hq
            refine sh ?_
            exact rM [0]
end Go.UM

namespace Go.UM
open Go.AM
set_option maxRecDepth 4000
def signs (b : List UInt8) (w : Int) (n : List Int) : List UInt8 × Int :=
  if w < 1 ∨ 8 < w then ([], 2) else if n.any (fun x => decide (x < -(256 ^ w.toNat / 2)) || decide (256 ^ w.toNat / 2 ≤ x)) = true then ([], 3) else puts b w (n.map fun x => x % 256 ^ w.toNat)
theorem signs_bad {b : List UInt8} {w : Int} {n : List Int} {x : Int} (h1 : 1 ≤ w) (h2 : w ≤ 8) (hx : x ∈ n) (h : x < -(256 ^ w.toNat / 2) ∨ 256 ^ w.toNat / 2 ≤ x) : signs b w n = ([], 3) := by
  unfold signs
  rw [if_neg (by omega), if_pos]
  simp only [List.any_eq_true, Bool.or_eq_true, decide_eq_true_eq]
  exact ⟨x, hx, h⟩
theorem signs_ok {b : List UInt8} {w : Int} {n : List Int} (h1 : 1 ≤ w) (h2 : w ≤ 8) (h : n.any (fun x => decide (x < -(256 ^ w.toNat / 2)) || decide (256 ^ w.toNat / 2 ≤ x)) = false) : signs b w n = puts b w (n.map fun x => x % 256 ^ w.toNat) := by
  unfold signs
  rw [if_neg (by omega), if_neg (by rw [h]; decide)]
theorem sx_back {w x : Int} (h1 : 1 ≤ w) (h2 : w ≤ 8) (hx : inI .i64 x) : (shrI .i64 (shlI .i64 x (64 - 8 * w)) (64 - 8 * w) = x) ↔ ¬ (x < -(256 ^ w.toNat / 2) ∨ 256 ^ w.toNat / 2 ≤ x) := by
  simp only [inI] at hx
  obtain h | h | h | h | h | h | h | h : w = 1 ∨ w = 2 ∨ w = 3 ∨ w = 4 ∨ w = 5 ∨ w = 6 ∨ w = 7 ∨ w = 8 := by omega
  all_goals subst h
  all_goals (simp only [shrI, shlI, IntKind.wrap, IntKind.bits, IntKind.signed]; simp [Int.fdiv_eq_ediv]; omega)
theorem ux_bits {w x : Int} (h1 : 1 ≤ w) (h2 : w ≤ 8) (hx : inI .i64 x) : shrI .u64 (shlI .u64 (wr .u64 x) (64 - 8 * w)) (64 - 8 * w) = x % 256 ^ w.toNat := by
  simp only [inI] at hx
  obtain h | h | h | h | h | h | h | h : w = 1 ∨ w = 2 ∨ w = 3 ∨ w = 4 ∨ w = 5 ∨ w = 6 ∨ w = 7 ∨ w = 8 := by omega
  all_goals subst h
  all_goals (simp only [wr, shrI, shlI, IntKind.wrap, IntKind.bits, IntKind.signed]; simp [Int.fdiv_eq_ediv] <;> omega)
theorem puts_mod {b : List UInt8} {w : Int} {n : List Int} (h1 : 1 ≤ w) (h2 : w ≤ 8) : ∀ x ∈ n.map (fun x => x % 256 ^ w.toNat), 0 ≤ x ∧ x ≤ 18446744073709551615 := by
  intro x hx
  obtain ⟨y, _, rfl⟩ := List.mem_map.1 hx
  obtain h | h | h | h | h | h | h | h : w = 1 ∨ w = 2 ∨ w = 3 ∨ w = 4 ∨ w = 5 ∨ w = 6 ∨ w = 7 ∨ w = 8 := by omega
  all_goals (subst h; simp <;> omega)
theorem signed_c {R : Env} (h : N71 R) (b : List UInt8) (w : Int) (n : List Int) (hl : b.length + 8 * n.length ≤ 1073741824) (hn : ∀ x ∈ n, inI .i64 x) :
    R.Mc 71 [.isl 1 (slc8 b), .int .i64 w, .isl 1 (slcK .i64 n)] [] (.tup [.osl 0 (signs b w n).1.length, .int .i64 (signs b w n).2]) [(0, .arr (R.ty 4) 1 (slc8 (signs b w n).1))] 1 :=
  h.o71.enterM 100 0 rfl rfl rfl fun X bb hfit hp => by
    generalize hq : signs b w n = q
    refine sh ?_
    refine cS (fun h1 => ?_) (fun h1 => ?_)
    · rw [signs, if_pos (.inl h1)] at hq
      subst hq
      refine sh ?_
      exact rM [50]
    · refine sh ?_
      refine cS (fun h2 => ?_) (fun h2 => ?_)
      · rw [signs, if_pos (.inr h2)] at hq
        subst hq
        refine sh ?_
        exact rM [50]
      · refine sh ?_
        refine lPa 100 (fun k : Nat => k ≤ n.length ∧ (n.take k).any (fun x => decide (x < -(256 ^ w.toNat / 2)) || decide (256 ^ w.toNat / 2 ≤ x)) = false) (fun k => ⟨[(0, .isl 1 (slc8 b)), (1, .int .i64 w), (8, .osl 0 ((n.take k).map fun x => x % 256 ^ w.toNat).length), (18, .isl 1 (slcK .i64 n)), (19, .int .i64 n.length), (20, .int .i64 k)], [(0, .arr (R.ty 6) 1 (slcK .u64 ((n.take k).map fun x => x % 256 ^ w.toNat)))], 1⟩) (fun k => n.length - k) (0) ?_ ?_
        · exact ⟨Nat.zero_le _, by simp⟩
        · intro k hk
          dsimp only
          refine sh ?_
          refine cS (fun h3 => ?_) (fun h3 => ?_)
          · obtain ⟨x, hx⟩ : ∃ u_, n[k]? = some u_ := ⟨_, List.getElem?_eq_getElem (by first | omega | (simp <;> omega))⟩
            refine sh ?_
            refine eget_map hx ?_
            have hxk := hx
            have hx := hn x (List.mem_of_getElem? hxk)
            have hsx := sx_back (by omega) h2 hx
            refine sh ?_
            refine cS (fun h4 => ?_) (fun h4 => ?_)
            · rw [signs_bad (by omega) (by omega) (List.mem_of_getElem? hxk) (Decidable.not_not.1 fun hb => h4 (hsx.2 hb))] at hq
              subst hq
              refine sh ?_
              exact rM [50]
            · refine sh ?_
              refine iwr_any ?_
              refine sh ?_
              rw [ux_bits (by omega) h2 hx]
              refine nX (k + 1) ?_ ?_ ⟨_, hp, rfl⟩ ?_ ?_
              · refine ⟨by omega, ?_⟩
                rw [any_take_succ hxk, hk.2]
                have := hsx.1 h4
                simp only [Bool.false_or, Bool.or_eq_false_iff, decide_eq_false_iff_not]
                omega
              · omega
              · all_goals repeat' (first | exact True.intro | refine And.intro ?_ ?_ | (intro _u; clear _u) | (with_reducible first | exact DnLe.fg | refine eM ?_ ?_ | refine eF ?_ ?_ ?_ | refine eN ?_ | refine eL ?_ ?_ ?_ | refine eA ?_ ?_ | refine IWk.mk ⟨_, hp, rfl⟩ ?_ ?_) | refine IWk.mk ⟨_, hp, rfl⟩ ?_ ?_)
                all_goals try first | with_reducible rfl | omega | exact .inl (by decide) | (simp; done) | rfl
                rw [take_succ_get hxk]; simp
              · all_goals repeat' (first | exact True.intro | refine And.intro ?_ ?_ | (intro _u; clear _u) | (with_reducible first | exact DnLe.fg | refine eM ?_ ?_ | refine eF ?_ ?_ ?_ | refine eN ?_ | refine eL ?_ ?_ ?_ | refine eA ?_ ?_ | refine IWk.mk ⟨_, hp, rfl⟩ ?_ ?_) | refine IWk.mk ⟨_, hp, rfl⟩ ?_ ?_)
                all_goals try first | with_reducible rfl | omega | exact .inl (by decide) | (simp; done) | rfl
                rw [take_succ_get hxk]; simp [slcK]
          · have hkn : n.take k = n := List.take_of_length_le (by omega)
            rw [hkn] at hk ⊢
            rw [signs_ok (by omega) (by omega) hk.2] at hq
            subst hq
            refine sh ?_
            refine cM true [] (put_c h.n54 b w (n.map fun x => x % 256 ^ w.toNat) (by simpa using hl) (puts_mod (b := b) (by omega) h2)) ?_
            repeat (intro _; first | refine eK ?_ | refine eP ?_)
            refine sh ?_
            exact rM [1]
structure Rd where
  l : List UInt8
  e : Int
  made : Bool
def Rd.row (r : Rd) : List AV := [.isl 1 (slc8 r.l), .int .i64 r.e, .bool r.made]
def Rd.off (r : Rd) : Bool := !r.made || decide (r.e ≠ 0)
def Rd.take (r : Rd) (n : Int) : List UInt8 × Rd :=
  if r.made = false ∨ r.e ≠ 0 then ([], r) else if n < 0 then ([], { r with e := 2 }) else if (r.l.length : Int) < n then ([], { r with e := 4 }) else (r.l.take n.toNat, { r with l := r.l.drop n.toNat })
def Rd.num (r : Rd) (w : Int) : Nat × Rd := let t := r.take (if w < 1 ∨ 8 < w then -1 else w); (le t.1, t.2)
def sx (w : Int) (n : Nat) : Int := if 2 * n < 256 ^ w.toNat then n else n - 256 ^ w.toNat
def Rd.int (r : Rd) (w : Int) : Int × Rd := (if w < 1 ∨ 8 < w then 0 else sx w (r.num w).1, (r.num w).2)
def Rd.err (r : Rd) : Int := if r.made = false then 1 else r.e
def Rd.fin (r : Rd) : Int := if r.err ≠ 0 then r.err else if 0 < r.l.length then 5 else 0
end Go.UM

namespace Go.UM
open Go.AM
set_option maxRecDepth 4000
structure RdOk (B : List UInt8) (r : Rd) : Prop where
  m : B.length ≤ 1073741824
  s : r.l = B.drop (B.length - r.l.length)
  made : r.made = true
theorem RdOk.len {B : List UInt8} {r : Rd} (h : RdOk B r) : r.l.length ≤ B.length := by rw [h.s]; simp
theorem RdOk.take {B : List UInt8} {r : Rd} (h : RdOk B r) (n : Int) : RdOk B (r.take n).2 := by
  unfold Rd.take
  split
  · exact h
  · split
    · exact ⟨h.m, h.s, h.made⟩
    · split
      · exact ⟨h.m, h.s, h.made⟩
      · refine ⟨h.m, ?_, h.made⟩
        have h1 := h.s
        have h2 := h.len
        simp only [List.length_drop]
        conv => lhs; rw [h1]
        rw [List.drop_drop]
        congr 1
        omega
theorem RdOk.num {B : List UInt8} {r : Rd} (h : RdOk B r) (w : Int) : RdOk B (r.num w).2 := h.take _
theorem RdOk.int {B : List UInt8} {r : Rd} (h : RdOk B r) (w : Int) : RdOk B (r.int w).2 := h.num w
theorem RdOk.err {B : List UInt8} {r : Rd} (h : RdOk B r) (e : Int) : RdOk B { r with e := e } := ⟨h.m, h.s, h.made⟩
theorem RdOk.new {B : List UInt8} (h : B.length ≤ 1073741824) : RdOk B ⟨B, 0, true⟩ := ⟨h, by simp, rfl⟩
end Go.UM

namespace Go.UM
open Go.AM
set_option maxRecDepth 4000
theorem puts_in {b : List UInt8} {w : Int} {n : List Int} (h1 : 1 ≤ w) (h2 : w ≤ 8) (h : ∀ x ∈ n, 0 ≤ x ∧ x < 256 ^ w.toNat) : puts b w n = (b ++ n.flatMap (enc w.toNat), 0) :=
  puts_ok h1 h2 (by
    rw [List.any_eq_false]
    intro x hx
    have := h x hx
    simp; omega)
structure Fits {α : Type} (f : Rd → α × Rd) (g : α → List UInt8) (ok : α → Prop) : Prop where
  made : ∀ r : Rd, r.made = true → (f r).2.made = true
  good : ∀ r : Rd, ok (f r).1
  back : ∀ r : Rd, r.made = true → (f r).2.e = 0 → r.e = 0 ∧ r.l = g (f r).1 ++ (f r).2.l
  there : ∀ (x : α) (l : List UInt8), ok x → f ⟨g x ++ l, 0, true⟩ = (x, ⟨l, 0, true⟩)
def rdN {α : Type} (f : Rd → α × Rd) : Nat → Rd → List α × Rd
  | 0, r => ([], r)
  | n + 1, r => ((rdN f n r).1 ++ [(f (rdN f n r).2).1], (f (rdN f n r).2).2)
theorem Fits.seq {α β : Type} {f : Rd → α × Rd} {g : α → List UInt8} {ok : α → Prop} {f' : Rd → β × Rd} {g' : β → List UInt8} {ok' : β → Prop} (h : Fits f g ok) (h' : Fits f' g' ok') :
    Fits (fun r => (((f r).1, (f' (f r).2).1), (f' (f r).2).2)) (fun x : α × β => g x.1 ++ g' x.2) (fun x => ok x.1 ∧ ok' x.2) := by
  refine ⟨fun r hm => h'.made _ (h.made r hm), fun r => ⟨h.good r, h'.good _⟩, fun r hm he => ?_, fun x l hx => ?_⟩
  · have h1 := h'.back _ (h.made r hm) he
    have h2 := h.back r hm h1.1
    exact ⟨h2.1, by rw [h2.2, h1.2, List.append_assoc]⟩
  · rw [List.append_assoc, h.there x.1 _ hx.1]
    rw [h'.there x.2 l hx.2]
theorem Fits.as {α β : Type} {f : Rd → α × Rd} {g : α → List UInt8} {ok : α → Prop} (h : Fits f g ok) (to : α → β) (of : β → α) (g' : β → List UInt8) (ok' : β → Prop)
    (h1 : ∀ x, ok x → g' (to x) = g x) (h2 : ∀ x, ok x → ok' (to x)) (h3 : ∀ y, ok' y → g' y = g (of y) ∧ ok (of y) ∧ to (of y) = y) : Fits (fun r => (to (f r).1, (f r).2)) g' ok' := by
  refine ⟨h.made, fun r => h2 _ (h.good r), fun r hm he => ?_, fun y l hy => ?_⟩
  · have := h.back r hm he
    exact ⟨this.1, by rw [this.2, h1 _ (h.good r)]⟩
  · have h4 := h3 y hy
    rw [h4.1, h.there _ _ h4.2.1, h4.2.2]
end Go.UM

namespace Go.UM
open Go.AM
set_option maxRecDepth 4000
theorem cap3 (b : List T3) (m : Int) : (slc3 b).take (min (b.length : Int) m).toNat = slc3 (b.take m.toNat) := by rw [slc3_take, take_cap]
theorem cap2 (b : List (Int × Int)) (m : Int) : (slc2 b).take (min (b.length : Int) m).toNat = slc2 (b.take m.toNat) := by rw [slc2_take, take_cap]
structure Ms.Ok (m : Ms) : Prop where
  v : ∀ p ∈ m.v, inI .i64 p.a ∧ inI .i64 p.b ∧ inI .i64 p.c
  uv : ∀ p ∈ m.uv, inI .i64 p.1 ∧ inI .i64 p.2
  t : ∀ p ∈ m.t, inI .i64 p.a ∧ inI .i64 p.b ∧ inI .i64 p.c
structure Ms.May (m : Ms) : Prop where
  v : 1 ≤ m.v.length ∧ m.v.length ≤ 64
  t : 1 ≤ m.t.length ∧ m.t.length ≤ 64
  uv : m.uv.length = m.v.length
  pv : ∀ p ∈ m.v, -4096 ≤ p.a ∧ p.a ≤ 4096 ∧ -4096 ≤ p.b ∧ p.b ≤ 4096 ∧ -4096 ≤ p.c ∧ p.c ≤ 4096
  pu : ∀ x ∈ m.uv, 0 ≤ x.1 ∧ x.1 ≤ 65535 ∧ 0 ≤ x.2 ∧ x.2 ≤ 65535
  pt : ∀ t ∈ m.t, 0 ≤ t.a ∧ t.a < m.v.length ∧ 0 ≤ t.b ∧ t.b < m.v.length ∧ 0 ≤ t.c ∧ t.c < m.v.length ∧ t.a ≠ t.b ∧ t.b ≠ t.c ∧ t.c ≠ t.a
theorem mchk_may {m : Ms} (h : mchk m = 0) : m.May := by
  unfold mchk at h
  split at h
  · cases h
  · split at h
    · cases h
    · split at h
      · cases h
      · split at h
        · cases h
        · rename_i h1 h2 h3 h4
          simp only [not_or, Bool.not_eq_true, List.any_eq_false] at h3 h4
          refine ⟨by omega, by omega, by omega, fun p hp => ?_, fun p hp => ?_, fun p hp => ?_⟩
          · have := h3 p hp; simpa [off3] using this
          · have := h4.1 p hp; simpa [bad2] using this
          · have := h4.2 p hp; simpa [badT] using this
theorem Ms.May.chk {m : Ms} (h : m.May) : mchk m = 0 := by
  unfold mchk
  have h1 := h.v
  have h2 := h.t
  have h3 := h.uv
  rw [if_neg (by omega), if_neg (by omega), if_neg, if_neg]
  · simp only [not_or, Bool.not_eq_true, List.any_eq_false]
    exact ⟨fun p hp => by have := h.pu p hp; simpa [bad2] using this, fun p hp => by have := h.pt p hp; simpa [badT] using this⟩
  · simp only [Bool.not_eq_true, List.any_eq_false]
    exact fun p hp => by have := h.pv p hp; simpa [off3] using this
def Ms.few (m : Ms) : Ms := ⟨m.v.take 70, m.uv.take 70, m.t.take 70⟩
theorem few13_c {R : Env} (h : N191 R) (m : Ms) : R.Pc 191 [.agg m.row] (.agg m.few.row) :=
  h.o191.enter 100 rfl fun X bb hfit hp => by
    refine sh ?_
    refine asub_eq (by exact cap3 _ _) ?_
    refine sh ?_
    refine asub_eq (by exact cap2 _ _) ?_
    refine sh ?_
    refine asub_eq (by exact cap3 _ _) ?_
    refine sh ?_
    exact rT
def encP (p : T3) : List UInt8 := enc 2 (p.a % 65536) ++ enc 2 (p.b % 65536) ++ enc 2 (p.c % 65536)
def enc2 (x : Int × Int) : List UInt8 := enc 2 x.1 ++ enc 2 x.2
def encT (t : T3) : List UInt8 := [u8 t.a, u8 t.b, u8 t.c]
def mbytes (m : Ms) : List UInt8 := [u8 m.v.length, u8 m.t.length] ++ m.v.flatMap encP ++ m.uv.flatMap enc2 ++ m.t.flatMap encT
def menc (m : Ms) : List UInt8 × Int := if mchk m ≠ 0 then ([], mchk m) else (mbytes m, 0)
theorem flat_succ {α : Type} {l : List α} {k : Nat} {x : α} {f : α → List UInt8} (h : l[k]? = some x) : (l.take (k + 1)).flatMap f = (l.take k).flatMap f ++ f x := by
  rw [take_succ_get h]; simp
theorem signs_pt {b : List UInt8} {p : T3} (h : -4096 ≤ p.a ∧ p.a ≤ 4096 ∧ -4096 ≤ p.b ∧ p.b ≤ 4096 ∧ -4096 ≤ p.c ∧ p.c ≤ 4096) : signs b 2 [p.a, p.b, p.c] = (b ++ encP p, 0) := by
  rw [signs_ok (by decide) (by decide), puts_ok (by decide) (by decide)]
  · simp [encP]
  · simp; omega
  · simp; omega
theorem puts_uv {b : List UInt8} {x : Int × Int} (h : 0 ≤ x.1 ∧ x.1 ≤ 65535 ∧ 0 ≤ x.2 ∧ x.2 ≤ 65535) : puts b 2 [x.1, x.2] = (b ++ enc2 x, 0) := by
  rw [puts_ok (by decide) (by decide)]
  · simp [enc2]
  · simp; omega
theorem len_P {l : List T3} : (l.flatMap encP).length = 6 * l.length := by
  induction l with
  | nil => rfl
  | cons x r ih => simp [encP] at ih ⊢; omega
theorem len_2 {l : List (Int × Int)} : (l.flatMap enc2).length = 4 * l.length := by
  induction l with
  | nil => rfl
  | cons x r ih => simp [enc2] at ih ⊢; omega
theorem len_T {l : List T3} : (l.flatMap encT).length = 3 * l.length := by
  induction l with
  | nil => rfl
  | cons x r ih => simp [encT] at ih ⊢; omega
theorem mencode_c {R : Env} (h : N196 R) (m : Ms) : R.Pc 196 [.agg m.row] (.tup [.isl 1 (slc8 (menc m).1), .int .i64 (menc m).2]) :=
  h.o196.enter 100 rfl fun X bb hfit hp => by
    refine sh ?_
    refine ICall.pure h.n193.o193.hb (mcheck_c h.n193 m) rfl ?_
    generalize hq : menc m = q
    refine sh ?_
    refine cS (fun h1 => ?_) (fun h1 => ?_)
    · rw [menc, if_pos h1] at hq
      subst hq
      refine sh ?_
      exact rT
    · rw [menc, if_neg (by simpa using h1)] at hq
      subst hq
      have may := mchk_may h1
      have mv := may.v
      have mt := may.t
      have mu := may.uv
      have w8 : ((u8 m.v.length).toNat : Int) = m.v.length := u8_in (by omega)
      have t8 : ((u8 m.t.length).toNat : Int) = m.t.length := u8_in (by omega)
      refine sh ?_
      refine ILoop.inv 100 (fun i : Nat => i ≤ m.v.length) (fun i => ⟨[(1, .loc 0 1 0 0), (5, .osl 1 ([u8 m.v.length, u8 m.t.length] ++ (m.v.take i).flatMap encP).length), (27, .isl 3 (slc3 m.v)), (28, .int .i64 m.v.length), (29, .int .i64 i)], [(1, .arr (R.ty 4) 1 (slc8 ([u8 m.v.length, u8 m.t.length] ++ (m.v.take i).flatMap encP))), (0, .var (R.ty 25) m.row)], 2⟩) (fun i => m.v.length - i) (0) ?_ ⟨⟨_, hp, rfl⟩, ?_, ?_⟩ ?_
      · exact Nat.zero_le _
      · all_goals repeat' (first | exact True.intro | refine And.intro ?_ ?_ | (intro _u; clear _u) | (with_reducible first | exact DnLe.fg | refine eM ?_ ?_ | refine eF ?_ ?_ ?_ | refine eN ?_ | refine eL ?_ ?_ ?_ | refine eA ?_ ?_ | refine IWk.mk ⟨_, hp, rfl⟩ ?_ ?_) | refine IWk.mk ⟨_, hp, rfl⟩ ?_ ?_)
        all_goals try first | with_reducible rfl | omega | exact .inl (by decide) | (simp; done) | rfl
      · all_goals repeat' (first | exact True.intro | refine And.intro ?_ ?_ | (intro _u; clear _u) | (with_reducible first | exact DnLe.fg | refine eM ?_ ?_ | refine eF ?_ ?_ ?_ | refine eN ?_ | refine eL ?_ ?_ ?_ | refine eA ?_ ?_ | refine IWk.mk ⟨_, hp, rfl⟩ ?_ ?_) | refine IWk.mk ⟨_, hp, rfl⟩ ?_ ?_)
        all_goals try first | with_reducible rfl | omega | exact .inl (by decide) | (simp; done) | rfl
        simp [slc8, w8, t8]
      · intro i hi
        dsimp only
        refine sh ?_
        refine cS (fun h2 => ?_) (fun h2 => ?_)
        · obtain ⟨y, hy⟩ : ∃ u_, m.v[i]? = some u_ := ⟨_, List.getElem?_eq_getElem (by first | omega | (simp <;> omega))⟩
          refine sh ?_
          refine eget_map hy ?_
          have hyy := may.pv y (List.mem_of_getElem? hy)
          have c1 := signed_c h.n71 ([u8 m.v.length, u8 m.t.length] ++ (m.v.take i).flatMap encP) 2 [y.a, y.b, y.c] (by simp only [List.length_append, len_P, List.length_take, List.length_cons, List.length_nil]; omega) (by simp [inI]; omega)
          rw [signs_pt hyy] at c1
          refine sh ?_
          refine cM true [] (c1) ?_
          repeat (intro _; first | refine eK ?_ | refine eP ?_)
          refine sh ?_
          refine nRm [0, 4] (i + 1) ?_ ?_ ?_
          · omega
          · omega
          · all_goals repeat' (first | exact True.intro | refine And.intro ?_ ?_ | (intro _u; clear _u) | (with_reducible first | exact DnLe.fg | refine eM ?_ ?_ | refine eF ?_ ?_ ?_ | refine eN ?_ | refine eL ?_ ?_ ?_ | refine eA ?_ ?_ | refine IWk.mk ⟨_, hp, rfl⟩ ?_ ?_) | refine IWk.mk ⟨_, hp, rfl⟩ ?_ ?_)
            all_goals try first | with_reducible rfl | omega | exact .inl (by decide) | (simp; done) | rfl
            rw [flat_succ hy]; simp
            rw [flat_succ hy]; simp
        · rw [show m.v.take i = m.v from List.take_of_length_le (by omega)]
          have hB : ([u8 m.v.length, u8 m.t.length] ++ m.v.flatMap encP).length ≤ 400 := by
            simp only [List.length_append, len_P, List.length_cons, List.length_nil]; omega
          have e : mbytes m = [u8 m.v.length, u8 m.t.length] ++ m.v.flatMap encP ++ m.uv.flatMap enc2 ++ m.t.flatMap encT := rfl
          rw [e]
          generalize [u8 m.v.length, u8 m.t.length] ++ m.v.flatMap encP = B at hB ⊢
          refine sh ?_
          refine lPa 100 (fun i : Nat => i ≤ m.uv.length) (fun i => ⟨[(1, .loc 0 1 0 0), (5, .osl 1 (B ++ (m.uv.take i).flatMap enc2).length), (47, .isl 2 (slc2 m.uv)), (48, .int .i64 m.uv.length), (49, .int .i64 i)], [(1, .arr (R.ty 4) 1 (slc8 (B ++ (m.uv.take i).flatMap enc2))), (0, .var (R.ty 25) m.row)], 2⟩) (fun i => m.uv.length - i) (0) ?_ ?_
          · exact Nat.zero_le _
          · intro i hi
            dsimp only
            refine sh ?_
            refine cS (fun h3 => ?_) (fun h3 => ?_)
            · obtain ⟨x, hx⟩ : ∃ u_, m.uv[i]? = some u_ := ⟨_, List.getElem?_eq_getElem (by first | omega | (simp <;> omega))⟩
              refine sh ?_
              refine eget_map hx ?_
              have hxx := may.pu x (List.mem_of_getElem? hx)
              have c1 := put_c h.n54 (B ++ (m.uv.take i).flatMap enc2) 2 [x.1, x.2] (by simp only [List.length_append, len_2, List.length_take, List.length_cons, List.length_nil]; omega) (by simp; omega)
              rw [puts_uv hxx] at c1
              refine sh ?_
              refine cM true [] (c1) ?_
              repeat (intro _; first | refine eK ?_ | refine eP ?_)
              refine sh ?_
              refine nRm [0, 4] (i + 1) ?_ ?_ ?_
              · omega
              · omega
              · all_goals repeat' (first | exact True.intro | refine And.intro ?_ ?_ | (intro _u; clear _u) | (with_reducible first | exact DnLe.fg | refine eM ?_ ?_ | refine eF ?_ ?_ ?_ | refine eN ?_ | refine eL ?_ ?_ ?_ | refine eA ?_ ?_ | refine IWk.mk ⟨_, hp, rfl⟩ ?_ ?_) | refine IWk.mk ⟨_, hp, rfl⟩ ?_ ?_)
                all_goals try first | with_reducible rfl | omega | exact .inl (by decide) | (simp; done) | rfl
                rw [flat_succ hx]; simp
                rw [flat_succ hx]; simp
            · rw [show m.uv.take i = m.uv from List.take_of_length_le (by omega)]
              have hB2 : (B ++ m.uv.flatMap enc2).length ≤ 800 := by
                simp only [List.length_append, len_2]; omega
              generalize B ++ m.uv.flatMap enc2 = C at hB2 ⊢
              refine sh ?_
              refine lPa 100 (fun i : Nat => i ≤ m.t.length) (fun i => ⟨[(5, .osl 1 (C ++ (m.t.take i).flatMap encT).length), (67, .isl 3 (slc3 m.t)), (68, .int .i64 m.t.length), (69, .int .i64 i)], [(1, .arr (R.ty 4) 1 (slc8 (C ++ (m.t.take i).flatMap encT)))], 2⟩) (fun i => m.t.length - i) (0) ?_ ?_
              · exact Nat.zero_le _
              · intro i hi
                dsimp only
                refine sh ?_
                refine cS (fun h4 => ?_) (fun h4 => ?_)
                · obtain ⟨y, hy⟩ : ∃ u_, m.t[i]? = some u_ := ⟨_, List.getElem?_eq_getElem (by first | omega | (simp <;> omega))⟩
                  refine sh ?_
                  refine eget_map hy ?_
                  have hyy := may.pt y (List.mem_of_getElem? hy)
                  refine sh ?_
                  refine nD ?_ (by simp only [slc8_length, List.length_append, len_T, List.length_take]; simp; omega)
                  refine sh ?_
                  refine nX (i + 1) ?_ ?_ ⟨_, hp, rfl⟩ ?_ ?_
                  · omega
                  · omega
                  · all_goals repeat' (first | exact True.intro | refine And.intro ?_ ?_ | (intro _u; clear _u) | (with_reducible first | exact DnLe.fg | refine eM ?_ ?_ | refine eF ?_ ?_ ?_ | refine eN ?_ | refine eL ?_ ?_ ?_ | refine eA ?_ ?_ | refine IWk.mk ⟨_, hp, rfl⟩ ?_ ?_) | refine IWk.mk ⟨_, hp, rfl⟩ ?_ ?_)
                    all_goals try first | with_reducible rfl | omega | exact .inl (by decide) | (simp; done) | rfl
                    rw [flat_succ hy]; simp [encT]
                  · all_goals repeat' (first | exact True.intro | refine And.intro ?_ ?_ | (intro _u; clear _u) | (with_reducible first | exact DnLe.fg | refine eM ?_ ?_ | refine eF ?_ ?_ ?_ | refine eN ?_ | refine eL ?_ ?_ ?_ | refine eA ?_ ?_ | refine IWk.mk ⟨_, hp, rfl⟩ ?_ ?_) | refine IWk.mk ⟨_, hp, rfl⟩ ?_ ?_)
                    all_goals try first | with_reducible rfl | omega | exact .inl (by decide) | (simp; done) | rfl
                    rw [flat_succ hy]; simp [encT, slc8]
                    refine ⟨(u8_in ?_).symm, (u8_in ?_).symm, (u8_in ?_).symm⟩ <;> omega
                · rw [show m.t.take i = m.t from List.take_of_length_le (by omega)]
                  refine sh ?_
                  exact rT
end Go.UM

namespace Go.UM
open Go.AM
set_option maxRecDepth 4000
end Go.UM

namespace Go.UM
open Go.AM
set_option maxRecDepth 4000
structure Mat where
  k : Int
  c : T3
  r : Int
def Mat.row (m : Mat) : List AV := [.int .i64 m.k, .int .i64 m.c.a, .int .i64 m.c.b, .int .i64 m.c.c, .int .i64 m.r]
structure Lig where
  k : Int
  c : T3
  p : T3
  u : T3
  v : T3
def Lig.row (l : Lig) : List AV := [.int .i64 l.k, .int .i64 l.c.a, .int .i64 l.c.b, .int .i64 l.c.c, .int .i64 l.p.a, .int .i64 l.p.b, .int .i64 l.p.c, .int .i64 l.u.a, .int .i64 l.u.b, .int .i64 l.u.c, .int .i64 l.v.a, .int .i64 l.v.b, .int .i64 l.v.c]
def outs (n x : Int) : Bool := decide (x < 0 ∨ n < x)
def matk (m : Mat) : Int := if m.k < 0 ∨ 4 < m.k ∨ m.r < 0 ∨ 65535 < m.r ∨ m.c.a < 0 ∨ 65535 < m.c.a ∨ m.c.b < 0 ∨ 65535 < m.c.b ∨ m.c.c < 0 ∨ 65535 < m.c.c then 5 else 0
def topM (R : Env) (n : Int) : IMem := [(0, .var (R.ty 10) [.int .i64 n])]
theorem outs_c {R : Env} (h : N322 R) (n x : Int) : R.Mc 322 [.int .i64 x, .loc 0 1 0 0] (topM R n) (.bool (outs n x)) (topM R n) 1 :=
  h.o322.enterM 60 1 rfl rfl rfl fun X bb hfit hp => by
    unfold outs
    refine sh ?_
    refine cS (fun h1 => ?_) (fun h1 => ?_)
    · refine sh ?_
      refine rM [0] ?_
      all_goals repeat' (first | exact True.intro | refine And.intro ?_ ?_ | (intro _u; clear _u) | (with_reducible first | exact DnLe.fg | refine eM ?_ ?_ | refine eF ?_ ?_ ?_ | refine eN ?_ | refine eL ?_ ?_ ?_ | refine eA ?_ ?_ | refine IWk.mk ⟨_, hp, rfl⟩ ?_ ?_) | refine IWk.mk ⟨_, hp, rfl⟩ ?_ ?_)
      all_goals try first | with_reducible rfl | omega | exact .inl (by decide) | (simp; done) | rfl
      simp; omega
    · refine sh ?_
      refine rM [0] ?_
      all_goals repeat' (first | exact True.intro | refine And.intro ?_ ?_ | (intro _u; clear _u) | (with_reducible first | exact DnLe.fg | refine eM ?_ ?_ | refine eF ?_ ?_ ?_ | refine eN ?_ | refine eL ?_ ?_ ?_ | refine eA ?_ ?_ | refine IWk.mk ⟨_, hp, rfl⟩ ?_ ?_) | refine IWk.mk ⟨_, hp, rfl⟩ ?_ ?_)
      all_goals try first | with_reducible rfl | omega | exact .inl (by decide) | (simp; done) | rfl
      rw [Bool.eq_iff_iff]; simp only [decide_eq_true_eq]; omega
theorem idx324_c {R : Env} (h : N324 R) (g : Nat) (l : List Int) (p : Int → Bool) (n : Int) (hc : ∀ x ∈ l, R.Mc g [.int .i64 x, .loc 0 1 0 0] (topM R n) (.bool (p x)) (topM R n) 1) (hl : l.length ≤ 1073741824) :
    R.Mc 324 [.isl 1 (slcK .i64 l), R.cl g [.loc 0 1 0 0]] (topM R n) (.int .i64 (fidx l p)) (topM R n) 1 :=
  h.o324.enterM 100 1 rfl rfl rfl fun X bb hfit hp => by
    refine sh ?_
    refine lPa 100 (fun i : Nat => i ≤ l.length ∧ (l.take i).any p = false) (fun i => ⟨[(0, .isl 1 (slcK .i64 l)), (1, R.cl g [.loc 0 1 0 0]), (7, .int .i64 l.length), (8, .int .i64 i)], topM R n, 1⟩) (fun i => l.length - i) (0) ?_ ?_
    · exact ⟨Nat.zero_le _, by simp⟩
    · intro i hi
      dsimp only
      refine sh ?_
      refine cS (fun h1 => ?_) (fun h1 => ?_)
      · obtain ⟨x, hx⟩ : ∃ u_, l[i]? = some u_ := ⟨_, List.getElem?_eq_getElem (by first | omega | (simp <;> omega))⟩
        refine sh ?_
        refine eget_map hx ?_
        refine sh ?_
        refine cM false [0] (hc x (List.mem_of_getElem? hx)) ?_
        repeat (intro _; first | refine eK ?_ | refine eP ?_)
        refine sh ?_
        refine cS (fun h2 => ?_) (fun h2 => ?_)
        · refine sh ?_
          refine rM [0] ?_
          all_goals repeat' (first | exact True.intro | refine And.intro ?_ ?_ | (intro _u; clear _u) | (with_reducible first | exact DnLe.fg | refine eM ?_ ?_ | refine eF ?_ ?_ ?_ | refine eN ?_ | refine eL ?_ ?_ ?_ | refine eA ?_ ?_ | refine IWk.mk ⟨_, hp, rfl⟩ ?_ ?_) | refine IWk.mk ⟨_, hp, rfl⟩ ?_ ?_)
          all_goals try first | with_reducible rfl | omega | exact .inl (by decide) | (simp; done) | rfl
          unfold fidx
          rw [if_pos (any_at hx h2), fidx_at hx h2 hi.2]
        · refine sh ?_
          refine nXa (i + 1) ?_ ?_
          · refine ⟨by omega, ?_⟩
            rw [any_take_succ' hx, hi.2, h2]; rfl
          · omega
      · refine sh ?_
        refine rM [0] ?_
        all_goals repeat' (first | exact True.intro | refine And.intro ?_ ?_ | (intro _u; clear _u) | (with_reducible first | exact DnLe.fg | refine eM ?_ ?_ | refine eF ?_ ?_ ?_ | refine eN ?_ | refine eL ?_ ?_ ?_ | refine eA ?_ ?_ | refine IWk.mk ⟨_, hp, rfl⟩ ?_ ?_) | refine IWk.mk ⟨_, hp, rfl⟩ ?_ ?_)
        all_goals try first | with_reducible rfl | omega | exact .inl (by decide) | (simp; done) | rfl
        unfold fidx
        have h3 := hi.2
        rw [List.take_of_length_le (by omega)] at h3
        rw [if_neg (by simp [h3])]
theorem cont323_c {R : Env} (h : N323 R) (g : Nat) (l : List Int) (p : Int → Bool) (n : Int) (hc : ∀ x ∈ l, R.Mc g [.int .i64 x, .loc 0 1 0 0] (topM R n) (.bool (p x)) (topM R n) 1) (hl : l.length ≤ 1073741824) :
    R.Mc 323 [.isl 1 (slcK .i64 l), R.cl g [.loc 0 1 0 0]] (topM R n) (.bool (l.any p)) (topM R n) 1 :=
  h.o323.enterM 100 1 rfl rfl rfl fun X bb hfit hp => by
    refine sh ?_
    refine cM false [0] (idx324_c h.n324 g l p n hc hl) ?_
    repeat (intro _; first | refine eK ?_ | refine eP ?_)
    refine sh ?_
    refine rM [0] ?_
    all_goals repeat' (first | exact True.intro | refine And.intro ?_ ?_ | (intro _u; clear _u) | (with_reducible first | exact DnLe.fg | refine eM ?_ ?_ | refine eF ?_ ?_ ?_ | refine eN ?_ | refine eL ?_ ?_ ?_ | refine eA ?_ ?_ | refine IWk.mk ⟨_, hp, rfl⟩ ?_ ?_) | refine IWk.mk ⟨_, hp, rfl⟩ ?_ ?_)
    all_goals try first | with_reducible rfl | omega | exact .inl (by decide) | (simp; done) | rfl
    exact fidx_ge
theorem outside_c {R : Env} (h : N307 R) (n : Int) (l : List Int) (hl : l.length ≤ 1073741824) : R.Pc 307 [.int .i64 n, .isl 1 (slcK .i64 l)] (.bool (l.any (outs n))) :=
  h.o307.enter 100 rfl fun X bb hfit hp => by
    refine sh ?_
    refine cM false [0] (cont323_c h.n323 322 l (outs n) n (fun x _ => outs_c h.n322 n x) hl) ?_
    repeat (intro _; first | refine eK ?_ | refine eP ?_)
    refine sh ?_
    exact rT
theorem matk_c {R : Env} (h : N290 R) (m : Mat) : R.Pc 290 [.agg m.row] (.int .i64 (matk m)) :=
  h.o290.enter 100 rfl fun X bb hfit hp => by
    generalize hq : matk m = q
    refine sh ?_
    refine cM true [] ((outside_c h.n307 4 [m.k] (by simp)).mc h.n307.o307.hb) ?_
    repeat (intro _; first | refine eK ?_ | refine eP ?_)
    refine sh ?_
    refine cS (fun h1 => ?_) (fun h1 => ?_)
    · simp [outs] at h1
      rw [matk, if_pos (by omega)] at hq
      subst hq
      refine sh ?_
      exact rT
    · refine sh ?_
      refine cM true [] ((outside_c h.n307 65535 [m.c.a, m.c.b, m.c.c, m.r] (by simp)).mc h.n307.o307.hb) ?_
      repeat (intro _; first | refine eK ?_ | refine eP ?_)
      refine sh ?_
      refine cS (fun h2 => ?_) (fun h2 => ?_)
      · simp [outs] at h2
        rw [matk, if_pos (by omega)] at hq
        subst hq
        refine sh ?_
        exact rT
      · simp [outs] at h1 h2
        rw [matk, if_neg (by omega)] at hq
        subst hq
        refine sh ?_
        exact rT
def z3b (p : T3) : Bool := p.a == 0 && (p.b == 0 && p.c == 0)
def ligk (l : Lig) : Int := if l.k < 0 ∨ 2 < l.k ∨ l.c.a < 0 ∨ 1048576 < l.c.a ∨ l.c.b < 0 ∨ 1048576 < l.c.b ∨ l.c.c < 0 ∨ 1048576 < l.c.c then 5
  else if off3 l.p = true ∨ off3 l.u = true ∨ off3 l.v = true then 8
  else if l.k = 2 ∧ z3b l.p = false ∨ l.k ≠ 1 ∧ (z3b l.u = false ∨ z3b l.v = false) then 5 else 0
theorem off308_c {R : Env} (h : N308 R) (p : T3) : R.Pc 308 [.agg (t3 p)] (.bool (off3 p)) :=
  h.o308.enter 60 rfl fun X bb hfit hp => by
    unfold off3
    refine sh ?_
    refine cS (fun h1 => ?_) (fun h1 => ?_)
    · refine sh ?_
      refine rT ?_
      all_goals repeat' (first | exact True.intro | refine And.intro ?_ ?_ | (intro _u; clear _u) | (with_reducible first | exact DnLe.fg | refine eM ?_ ?_ | refine eF ?_ ?_ ?_ | refine eN ?_ | refine eL ?_ ?_ ?_ | refine eA ?_ ?_ | refine IWk.mk ⟨_, hp, rfl⟩ ?_ ?_) | refine IWk.mk ⟨_, hp, rfl⟩ ?_ ?_)
      all_goals try first | with_reducible rfl | omega | exact .inl (by decide) | (simp; done) | rfl
      simp; omega
    · refine sh ?_
      refine rT ?_
      all_goals repeat' (first | exact True.intro | refine And.intro ?_ ?_ | (intro _u; clear _u) | (with_reducible first | exact DnLe.fg | refine eM ?_ ?_ | refine eF ?_ ?_ ?_ | refine eN ?_ | refine eL ?_ ?_ ?_ | refine eA ?_ ?_ | refine IWk.mk ⟨_, hp, rfl⟩ ?_ ?_) | refine IWk.mk ⟨_, hp, rfl⟩ ?_ ?_)
      all_goals try first | with_reducible rfl | omega | exact .inl (by decide) | (simp; done) | rfl
      rw [Bool.eq_iff_iff]; simp only [Bool.not_eq_true', decide_eq_true_eq, decide_eq_false_iff_not]; omega
theorem ligk_c {R : Env} (h : N292 R) (l : Lig) : R.Pc 292 [.agg l.row] (.int .i64 (ligk l)) :=
  h.o292.enter 100 rfl fun X bb hfit hp => by
    generalize hq : ligk l = q
    refine sh ?_
    refine ICall.let [0] rfl hp rfl ?_
    repeat ((intro _u; clear _u); first | refine eZ ?_ | refine eZ ?_ (by simp; omega) | refine FrzC.drop ?_)
    refine sh ?_
    refine cM true [] ((outside_c h.n307 2 [l.k] (by simp)).mc h.n307.o307.hb) ?_
    repeat (intro _; first | refine eK ?_ | refine eP ?_)
    refine sh ?_
    refine cS (fun h1 => ?_) (fun h1 => ?_)
    · simp [outs] at h1
      rw [ligk, if_pos (by omega)] at hq
      subst hq
      refine sh ?_
      exact rT
    · refine sh ?_
      refine ICall.pure h.n307.o307.hb (outside_c h.n307 1048576 [l.c.a, l.c.b, l.c.c] (by simp)) rfl ?_
      refine sh ?_
      refine cS (fun h2 => ?_) (fun h2 => ?_)
      · simp [outs] at h2
        rw [ligk, if_pos (by omega)] at hq
        subst hq
        refine sh ?_
        exact rT
      · simp [outs] at h1 h2
        rw [ligk, if_neg (by omega)] at hq
        refine sh ?_
        refine ICall.pure h.n308.o308.hb (off308_c h.n308 l.p) rfl ?_
        refine sh ?_
        refine cS (fun h3 => ?_) (fun h3 => ?_)
        · rw [if_pos (.inl h3)] at hq
          subst hq
          refine sh ?_
          exact rT
        · refine sh ?_
          refine ICall.pure h.n308.o308.hb (off308_c h.n308 l.u) rfl ?_
          refine sh ?_
          refine cS (fun h4 => ?_) (fun h4 => ?_)
          · rw [if_pos (.inr (.inl h4))] at hq
            subst hq
            refine sh ?_
            exact rT
          · refine sh ?_
            refine ICall.pure h.n308.o308.hb (off308_c h.n308 l.v) rfl ?_
            refine sh ?_
            refine cS (fun h5 => ?_) (fun h5 => ?_)
            · rw [if_pos (.inr (.inr h5))] at hq
              subst hq
              refine sh ?_
              exact rT
            · rw [if_neg (by simp [h3, h4, h5])] at hq
              refine sh ?_
              refine cS (fun h6 => ?_) (fun h6 => ?_)
              · refine sh ?_
                refine cS (fun h7 => ?_) (fun h7 => ?_)
                · rw [if_pos (.inl ⟨h6, h7⟩)] at hq
                  subst hq
                  refine sh ?_
                  exact rT
                · refine sh ?_
                  refine cS (fun h8 => ?_) (fun h8 => ?_)
                  · rw [if_pos (.inr ⟨by omega, .inl h8⟩)] at hq
                    subst hq
                    refine sh ?_
                    exact rT
                  · refine sh ?_
                    refine cS (fun h9 => ?_) (fun h9 => ?_)
                    · rw [if_pos (.inr ⟨by omega, .inr h9⟩)] at hq
                      subst hq
                      refine sh ?_
                      exact rT
                    · rw [if_neg (by simp [z3b, h7, h8, h9])] at hq
                      subst hq
                      refine sh ?_
                      exact rT
              · refine sh ?_
                refine cS (fun h7 => ?_) (fun h7 => ?_)
                · refine sh ?_
                  refine cS (fun h8 => ?_) (fun h8 => ?_)
                  · rw [if_pos (.inr ⟨by omega, .inl h8⟩)] at hq
                    subst hq
                    refine sh ?_
                    exact rT
                  · refine sh ?_
                    refine cS (fun h9 => ?_) (fun h9 => ?_)
                    · rw [if_pos (.inr ⟨by omega, .inr h9⟩)] at hq
                      subst hq
                      refine sh ?_
                      exact rT
                    · rw [if_neg (by simp [z3b, h6, h8, h9])] at hq
                      subst hq
                      refine sh ?_
                      exact rT
                · have h10 : l.k = 1 := by omega
                  rw [if_neg (by simp [h10])] at hq
                  subst hq
                  refine sh ?_
                  exact rT
end Go.UM

namespace Go.UM
open Go.AM
set_option maxRecDepth 4000
def idx (l : List Int) (x : Int) : Int := if x ∈ l then (l.idxOf x : Int) else -1
theorem idxOf_at {x : Int} : ∀ {l : List Int} {i : Nat}, l[i]? = some x → x ∉ l.take i → l.idxOf x = i
  | [], _, h, _ => by simp at h
  | a :: r, 0, h, _ => by simp at h; simp [h]
  | a :: r, i + 1, h, hn => by
    simp only [List.take_succ_cons, List.mem_cons, not_or] at hn
    rw [List.idxOf_cons]
    have : (a == x) = false := by simpa using fun e => hn.1 e.symm
    rw [this, idxOf_at (by simpa using h) hn.2]
    rfl
theorem index_c {R : Env} (h : N106 R) (l : List Int) (x : Int) (hl : l.length ≤ 1073741824) : R.Pc 106 [.isl 1 (slcK .i64 l), .int .i64 x] (.int .i64 (idx l x)) :=
  h.o106.enter 100 rfl fun X bb hfit hp => by
    refine sh ?_
    refine lPa 100 (fun i : Nat => i ≤ l.length ∧ x ∉ l.take i) (fun i => ⟨[(0, .isl 1 (slcK .i64 l)), (1, .int .i64 x), (7, .int .i64 l.length), (8, .int .i64 i)], [], 0⟩) (fun i => l.length - i) (0) ?_ ?_
    · exact ⟨Nat.zero_le _, by simp⟩
    · intro i hi
      dsimp only
      refine sh ?_
      refine cS (fun h1 => ?_) (fun h1 => ?_)
      · obtain ⟨y, hy⟩ : ∃ u_, l[i]? = some u_ := ⟨_, List.getElem?_eq_getElem (by first | omega | (simp <;> omega))⟩
        refine sh ?_
        refine eget_map hy ?_
        refine sh ?_
        refine cS (fun h2 => ?_) (fun h2 => ?_)
        · subst h2
          refine sh ?_
          refine rT ?_
          all_goals repeat' (first | exact True.intro | refine And.intro ?_ ?_ | (intro _u; clear _u) | (with_reducible first | exact DnLe.fg | refine eM ?_ ?_ | refine eF ?_ ?_ ?_ | refine eN ?_ | refine eL ?_ ?_ ?_ | refine eA ?_ ?_ | refine IWk.mk ⟨_, hp, rfl⟩ ?_ ?_) | refine IWk.mk ⟨_, hp, rfl⟩ ?_ ?_)
          all_goals try first | with_reducible rfl | omega | exact .inl (by decide) | (simp; done) | rfl
          unfold idx
          rw [if_pos (List.mem_of_getElem? hy), idxOf_at hy hi.2]
        · refine sh ?_
          refine nXa (i + 1) ?_ ?_
          · refine ⟨by omega, ?_⟩
            rw [take_succ_get hy]
            simp only [List.mem_append, List.mem_singleton, not_or]
            exact ⟨hi.2, h2⟩
          · omega
      · refine sh ?_
        refine rT ?_
        all_goals repeat' (first | exact True.intro | refine And.intro ?_ ?_ | (intro _u; clear _u) | (with_reducible first | exact DnLe.fg | refine eM ?_ ?_ | refine eF ?_ ?_ ?_ | refine eN ?_ | refine eL ?_ ?_ ?_ | refine eA ?_ ?_ | refine IWk.mk ⟨_, hp, rfl⟩ ?_ ?_) | refine IWk.mk ⟨_, hp, rfl⟩ ?_ ?_)
        all_goals try first | with_reducible rfl | omega | exact .inl (by decide) | (simp; done) | rfl
        unfold idx
        rw [if_neg]
        rw [← List.take_of_length_le (l := l) (i := i) (by omega)]
        exact hi.2
theorem contains_c {R : Env} (h : N100 R) (l : List Int) (x : Int) (hl : l.length ≤ 1073741824) : R.Pc 100 [.isl 1 (slcK .i64 l), .int .i64 x] (.bool (decide (x ∈ l))) :=
  h.o100.enter 100 rfl fun X bb hfit hp => by
    refine sh ?_
    refine ICall.pure h.n106.o106.hb (index_c h.n106 l x hl) rfl ?_
    refine sh ?_
    refine rT ?_
    all_goals repeat' (first | exact True.intro | refine And.intro ?_ ?_ | (intro _u; clear _u) | (with_reducible first | exact DnLe.fg | refine eM ?_ ?_ | refine eF ?_ ?_ ?_ | refine eN ?_ | refine eL ?_ ?_ ?_ | refine eA ?_ ?_ | refine IWk.mk ⟨_, hp, rfl⟩ ?_ ?_) | refine IWk.mk ⟨_, hp, rfl⟩ ?_ ?_)
    all_goals try first | with_reducible rfl | omega | exact .inl (by decide) | (simp; done) | rfl
    unfold idx
    by_cases hx : x ∈ l
    · rw [if_pos hx]; simp [hx]
    · rw [if_neg hx]; simp [hx]
end Go.UM

namespace Go.UM
open Go.AM
set_option maxRecDepth 4000
structure Tex where
  side : Int
  t : List T3
def Tex.row (x : Tex) : List AV := [.int .i64 x.side, .isl 3 (slc3 x.t)]
def T3.good (x : T3) : Bool := decide (0 ≤ x.a) && decide (0 ≤ x.b) && decide (0 ≤ x.c) && decide (x.a ≤ 255) && decide (x.b ≤ 255) && decide (x.c ≤ 255)
theorem T3.good_iff (x : T3) : x.good = true ↔ (0 ≤ x.a ∧ x.a ≤ 255) ∧ (0 ≤ x.b ∧ x.b ≤ 255) ∧ 0 ≤ x.c ∧ x.c ≤ 255 := by
  simp only [T3.good, Bool.and_eq_true, decide_eq_true_eq]
  omega
def sides : List Int := [1, 2, 4, 8, 16]
def tchk (x : Tex) : Int := if x.side ∉ sides ∨ (x.t.length : Int) ≠ x.side * x.side then 5 else if x.t.all T3.good = true then 0 else 5
theorem tchk_in {x : Tex} (h : x.side ∈ sides) : x.side = 1 ∨ x.side = 2 ∨ x.side = 4 ∨ x.side = 8 ∨ x.side = 16 := by
  simpa [sides] using h
theorem tchk_bad {x : Tex} {y : T3} (hy : y ∈ x.t) (h : y.good = false) : tchk x = 5 := by
  unfold tchk
  split
  · rfl
  · rw [if_neg]
    intro ha
    rw [List.all_eq_true.1 ha y hy] at h
    exact Bool.noConfusion h
theorem all_take_succ {α : Type} {n : List α} {k : Nat} {x : α} {p : α → Bool} (h : n[k]? = some x) : (n.take (k + 1)).all p = ((n.take k).all p && p x) := by
  rw [take_succ_get h]; simp
theorem tchk_c {R : Env} (h : N84 R) (x : Tex) (hl : x.t.length ≤ 1073741824) : R.Pc 84 [.agg x.row] (.int .i64 (tchk x)) :=
  h.o84.enter 100 rfl fun X bb hfit hp => by
    refine sh ?_
    refine cM true [] ((contains_c h.n100 sides x.side (by decide)).mc h.n100.o100.hb) ?_
    repeat (intro _; first | refine eK ?_ | refine eP ?_)
    generalize hq : tchk x = q
    refine sh ?_
    refine cS (fun h1 => ?_) (fun h1 => ?_)
    · rw [tchk, if_pos (.inl h1)] at hq
      subst hq
      refine sh ?_
      exact rT
    · have h2 := tchk_in h1
      have hsq : x.side * x.side ≤ 256 ∧ 0 ≤ x.side * x.side := by
        rcases h2 with h | h | h | h | h <;> rw [h] <;> decide
      refine sh ?_
      refine cS (fun h3 => ?_) (fun h3 => ?_)
      · rw [tchk, if_pos (.inr h3)] at hq
        subst hq
        refine sh ?_
        exact rT
      · have hz : ¬ (x.side ∉ sides ∨ (x.t.length : Int) ≠ x.side * x.side) := by simp [h1, h3]
        refine sh ?_
        refine lPa 100 (fun i : Nat => i ≤ x.t.length ∧ (x.t.take i).all T3.good = true) (fun i => ⟨[(22, .isl 3 (slc3 x.t)), (23, .int .i64 x.t.length), (24, .int .i64 i)], [], 10⟩) (fun i => x.t.length - i) (0) ?_ ?_
        · exact ⟨Nat.zero_le _, rfl⟩
        · intro i hi
          dsimp only
          refine sh ?_
          refine cS (fun h4 => ?_) (fun h4 => ?_)
          · obtain ⟨y, hy⟩ : ∃ u_, x.t[i]? = some u_ := ⟨_, List.getElem?_eq_getElem (by first | omega | (simp <;> omega))⟩
            refine sh ?_
            refine eget_map hy ?_
            have hyg := T3.good_iff y
            refine sh ?_
            refine cS (fun h5 => ?_) (fun h5 => ?_)
            · have hb : y.good = false := by rw [Bool.eq_false_iff, ne_eq, hyg]; omega
              rw [tchk_bad (List.mem_of_getElem? hy) hb] at hq
              subst hq
              refine sh ?_
              exact rT
            · refine sh ?_
              refine cS (fun h6 => ?_) (fun h6 => ?_)
              · have hb : y.good = false := by rw [Bool.eq_false_iff, ne_eq, hyg]; omega
                rw [tchk_bad (List.mem_of_getElem? hy) hb] at hq
                subst hq
                refine sh ?_
                exact rT
              · refine sh ?_
                refine nXa (i + 1) ?_ ?_
                · refine ⟨by omega, ?_⟩
                  rw [all_take_succ hy, hi.2, Bool.true_and, hyg]
                  omega
                · omega
          · rw [tchk, if_neg hz, if_pos] at hq
            · subst hq
              refine sh ?_
              exact rT
            · have := hi.2
              rwa [List.take_of_length_le (by omega)] at this
end Go.UM

namespace Go.UM
open Go.AM
set_option maxRecDepth 4000
structure TexOk (t : Tex) : Prop where
  s : t.side ∈ sides
  l : (t.t.length : Int) = t.side * t.side
  g : t.t.all T3.good = true
theorem tchk_ok {t : Tex} (h : tchk t = 0) : TexOk t := by
  unfold tchk at h
  split at h
  · exact absurd h (by decide)
  · rename_i h1
    split at h
    · rename_i h2
      simp only [not_or, Decidable.not_not] at h1
      exact ⟨h1.1, h1.2, h2⟩
    · exact absurd h (by decide)
theorem TexOk.chk {t : Tex} (h : TexOk t) : tchk t = 0 := by
  unfold tchk
  rw [if_neg (by simp [h.s, h.l]), if_pos h.g]
def Tex.ix (t : Tex) (x y : Int) : Nat := (y % t.side * t.side + x % t.side).toNat
def Tex.at (t : Tex) (x y : Int) : T3 := t.t.getD (t.ix x y) ⟨0, 0, 0⟩
theorem TexOk.ix {t : Tex} (h : TexOk t) (x y : Int) : 0 ≤ y % t.side ∧ y % t.side < t.side ∧ 0 ≤ x % t.side ∧ x % t.side < t.side ∧ t.side ≤ 16 ∧ 1 ≤ t.side ∧ 0 ≤ y % t.side * t.side ∧ y % t.side * t.side + x % t.side < t.side * t.side ∧ t.side * t.side ≤ 256 := by
  have hs := tchk_in h.s
  have h1 : 1 ≤ t.side ∧ t.side ≤ 16 := by omega
  have h2 := Int.emod_nonneg y (show t.side ≠ 0 by omega)
  have h3 := Int.emod_lt_of_pos y (show 0 < t.side by omega)
  have h4 := Int.emod_nonneg x (show t.side ≠ 0 by omega)
  have h5 := Int.emod_lt_of_pos x (show 0 < t.side by omega)
  have h6 : y % t.side * t.side ≤ (t.side - 1) * t.side := Int.mul_le_mul_of_nonneg_right (by omega) (by omega)
  have h7 : 0 ≤ y % t.side * t.side := Int.mul_nonneg h2 (by omega)
  have h8 : t.side * t.side ≤ 16 * 16 := Int.mul_le_mul h1.2 h1.2 (by omega) (by decide)
  rw [Int.sub_mul] at h6
  exact ⟨h2, h3, h4, h5, h1.2, h1.1, h7, by omega, by omega⟩
theorem TexOk.get {t : Tex} (h : TexOk t) (x y : Int) : t.t[(y % t.side * t.side + x % t.side).toNat]? = some (t.at x y) := by
  have hi := h.ix x y
  have hl := h.l
  have : (y % t.side * t.side + x % t.side).toNat < t.t.length := by omega
  unfold Tex.at Tex.ix
  rw [List.getD_eq_getElem?_getD, List.getElem?_eq_getElem this]
  rfl
def avg (a b c d : T3) : T3 := ⟨(a.a + b.a + c.a + d.a + 2) / 4, (a.b + b.b + c.b + d.b + 2) / 4, (a.c + b.c + c.c + d.c + 2) / 4⟩
def Tex.next (t : Tex) (s i : Int) : T3 := avg (t.at (2 * (i % s)) (2 * (i / s))) (t.at (2 * (i % s) + 1) (2 * (i / s))) (t.at (2 * (i % s)) (2 * (i / s) + 1)) (t.at (2 * (i % s) + 1) (2 * (i / s) + 1))
def texs (l : List T3) : List UInt8 := l.flatMap fun x => [u8 x.a, u8 x.b, u8 x.c]
def tencs (t : Tex) : List UInt8 × Int := if tchk t ≠ 0 then ([], tchk t) else (u8 t.side :: texs t.t, 0)
theorem texs_len : ∀ l : List T3, (texs l).length = 3 * l.length
  | [] => rfl
  | x :: r => by
    have := texs_len r
    simp only [texs, List.flatMap_cons, List.length_append, List.length_cons, List.length_nil] at this ⊢
    omega
theorem texs_succ {l : List T3} {k : Nat} {x : T3} (h : l[k]? = some x) : texs (l.take (k + 1)) = texs (l.take k) ++ [u8 x.a, u8 x.b, u8 x.c] := by
  rw [take_succ_get h]; simp [texs]
theorem tencode_c {R : Env} (h : N82 R) (t : Tex) (hl : t.t.length ≤ 1073741824) : R.Pc 82 [.agg t.row] (.tup [.isl 1 (slc8 (tencs t).1), .int .i64 (tencs t).2]) :=
  h.o82.enter 200 rfl fun X bb hfit hp => by
    refine sh ?_
    refine ICall.pure h.n84.o84.hb (tchk_c h.n84 t hl) rfl ?_
    generalize hq : tencs t = q
    refine sh ?_
    refine cS (fun h1 => ?_) (fun h1 => ?_)
    · rw [tencs, if_pos h1] at hq
      subst hq
      refine sh ?_
      exact rT
    · have ok := tchk_ok h1
      rw [tencs, if_neg (by simpa using h1)] at hq
      subst hq
      have hs := tchk_in ok.s
      have htl : t.t.length ≤ 256 := by
        have := ok.l
        rcases hs with h | h | h | h | h <;> rw [h] at this <;> omega
      refine sh ?_
      refine ILoop.inv 200 (fun i : Nat => i ≤ t.t.length) (fun i => ⟨[(5, .osl 1 (u8 t.side :: texs (t.t.take i)).length), (18, .isl 3 (slc3 t.t)), (19, .int .i64 t.t.length), (20, .int .i64 i)], [(1, .arr (R.ty 4) 1 (slc8 (u8 t.side :: texs (t.t.take i))))], 2⟩) (fun i => t.t.length - i) (0) ?_ ⟨⟨_, hp, rfl⟩, ?_, ?_⟩ ?_
      · exact Nat.zero_le _
      · all_goals repeat' (first | exact True.intro | refine And.intro ?_ ?_ | (intro _u; clear _u) | (with_reducible first | exact DnLe.fg | refine eM ?_ ?_ | refine eF ?_ ?_ ?_ | refine eN ?_ | refine eL ?_ ?_ ?_ | refine eA ?_ ?_ | refine IWk.mk ⟨_, hp, rfl⟩ ?_ ?_) | refine IWk.mk ⟨_, hp, rfl⟩ ?_ ?_)
        all_goals try first | with_reducible rfl | omega | exact .inl (by decide) | (simp; done) | rfl
      · all_goals repeat' (first | exact True.intro | refine And.intro ?_ ?_ | (intro _u; clear _u) | (with_reducible first | exact DnLe.fg | refine eM ?_ ?_ | refine eF ?_ ?_ ?_ | refine eN ?_ | refine eL ?_ ?_ ?_ | refine eA ?_ ?_ | refine IWk.mk ⟨_, hp, rfl⟩ ?_ ?_) | refine IWk.mk ⟨_, hp, rfl⟩ ?_ ?_)
        all_goals try first | with_reducible rfl | omega | exact .inl (by decide) | (simp; done) | rfl
        simp [slc8, texs, u8_in (n := t.side) (by omega)]
      · intro i hi
        dsimp only
        refine sh ?_
        refine cS (fun h2 => ?_) (fun h2 => ?_)
        · obtain ⟨y, hy⟩ : ∃ u_, t.t[i]? = some u_ := ⟨_, List.getElem?_eq_getElem (by first | omega | (simp <;> omega))⟩
          refine sh ?_
          refine eget_map hy ?_
          refine sh ?_
          refine iwr_any ?_
          refine sh ?_
          refine iwr_any ?_
          refine sh ?_
          refine iwr_any ?_
          refine sh ?_
          refine nD ?_ (by have := texs_len (t.t.take i); simp only [List.length_take] at this; simp; omega)
          refine sh ?_
          refine nX (i + 1) ?_ ?_ ⟨_, hp, rfl⟩ ?_ ?_
          · omega
          · omega
          · all_goals repeat' (first | exact True.intro | refine And.intro ?_ ?_ | (intro _u; clear _u) | (with_reducible first | exact DnLe.fg | refine eM ?_ ?_ | refine eF ?_ ?_ ?_ | refine eN ?_ | refine eL ?_ ?_ ?_ | refine eA ?_ ?_ | refine IWk.mk ⟨_, hp, rfl⟩ ?_ ?_) | refine IWk.mk ⟨_, hp, rfl⟩ ?_ ?_)
            all_goals try first | with_reducible rfl | omega | exact .inl (by decide) | (simp; done) | rfl
            rw [texs_succ hy]; simp
          · all_goals repeat' (first | exact True.intro | refine And.intro ?_ ?_ | (intro _u; clear _u) | (with_reducible first | exact DnLe.fg | refine eM ?_ ?_ | refine eF ?_ ?_ ?_ | refine eN ?_ | refine eL ?_ ?_ ?_ | refine eA ?_ ?_ | refine IWk.mk ⟨_, hp, rfl⟩ ?_ ?_) | refine IWk.mk ⟨_, hp, rfl⟩ ?_ ?_)
            all_goals try first | with_reducible rfl | omega | exact .inl (by decide) | (simp; done) | rfl
            rw [texs_succ hy]; simp [slc8, wr_u8]
        · rw [List.take_of_length_le (by omega)]
          refine sh ?_
          exact rT
end Go.UM

namespace Go.UM
open Go.AM
set_option maxRecDepth 4000
end Go.UM

namespace Go.UM
open Go.AM
set_option maxRecDepth 4000
structure As where
  k : Int
  m : Ms
  x : Tex
  mt : Mat
  li : Lig
def As.row (a : As) : List AV := [.int .i64 a.k, .isl 3 (slc3 a.m.v), .isl 2 (slc2 a.m.uv), .isl 3 (slc3 a.m.t), .int .i64 a.x.side, .isl 3 (slc3 a.x.t),
  .int .i64 a.mt.k, .int .i64 a.mt.c.a, .int .i64 a.mt.c.b, .int .i64 a.mt.c.c, .int .i64 a.mt.r,
  .int .i64 a.li.k, .int .i64 a.li.c.a, .int .i64 a.li.c.b, .int .i64 a.li.c.c, .int .i64 a.li.p.a, .int .i64 a.li.p.b, .int .i64 a.li.p.c, .int .i64 a.li.u.a, .int .i64 a.li.u.b, .int .i64 a.li.u.c, .int .i64 a.li.v.a, .int .i64 a.li.v.b, .int .i64 a.li.v.c]
def matb (m : Mat) : List UInt8 := [u8 m.k] ++ enc 2 m.c.a ++ enc 2 m.c.b ++ enc 2 m.c.c ++ enc 2 m.r
def ligb (l : Lig) : List UInt8 := [u8 l.k] ++ (enc 4 l.c.a ++ enc 4 l.c.b ++ enc 4 l.c.c) ++ encP l.p ++ encP l.u ++ encP l.v
def own (a : As) : Int := if a.k = 1 then mchk a.m else if a.k = 2 then tchk a.x else if a.k = 3 then matk a.mt else if a.k = 4 then ligk a.li else 12
def abytes (a : As) : List UInt8 := if a.k = 1 then (menc a.m).1 else if a.k = 2 then (tencs a.x).1 else if a.k = 3 then matb a.mt else ligb a.li
theorem off3_in {p : T3} (h : off3 p = false) : -4096 ≤ p.a ∧ p.a ≤ 4096 ∧ -4096 ≤ p.b ∧ p.b ≤ 4096 ∧ -4096 ≤ p.c ∧ p.c ≤ 4096 := by simpa [off3] using h
structure Lig.May (l : Lig) : Prop where
  k : 0 ≤ l.k ∧ l.k ≤ 2
  c : 0 ≤ l.c.a ∧ l.c.a ≤ 1048576 ∧ 0 ≤ l.c.b ∧ l.c.b ≤ 1048576 ∧ 0 ≤ l.c.c ∧ l.c.c ≤ 1048576
  p : -4096 ≤ l.p.a ∧ l.p.a ≤ 4096 ∧ -4096 ≤ l.p.b ∧ l.p.b ≤ 4096 ∧ -4096 ≤ l.p.c ∧ l.p.c ≤ 4096
  u : -4096 ≤ l.u.a ∧ l.u.a ≤ 4096 ∧ -4096 ≤ l.u.b ∧ l.u.b ≤ 4096 ∧ -4096 ≤ l.u.c ∧ l.u.c ≤ 4096
  v : -4096 ≤ l.v.a ∧ l.v.a ≤ 4096 ∧ -4096 ≤ l.v.b ∧ l.v.b ≤ 4096 ∧ -4096 ≤ l.v.c ∧ l.v.c ≤ 4096
theorem ligk_may {l : Lig} (h : ligk l = 0) : l.May := by
  unfold ligk at h
  split at h
  · cases h
  · split at h
    · cases h
    · rename_i h1 h2
      simp only [not_or, Bool.not_eq_true] at h2
      exact ⟨by omega, by omega, off3_in h2.1, off3_in h2.2.1, off3_in h2.2.2⟩
theorem matk_may {m : Mat} (h : matk m = 0) : 0 ≤ m.k ∧ m.k ≤ 4 ∧ 0 ≤ m.r ∧ m.r ≤ 65535 ∧ 0 ≤ m.c.a ∧ m.c.a ≤ 65535 ∧ 0 ≤ m.c.b ∧ m.c.b ≤ 65535 ∧ 0 ≤ m.c.c ∧ m.c.c ≤ 65535 := by
  unfold matk at h
  split at h
  · cases h
  · omega
theorem put1_c {R : Env} (h : N54 R) (b : List UInt8) (x : Int) (hl : b.length ≤ 1000) (hx : 0 ≤ x ∧ x ≤ 65535) :
    R.Mc 54 [.isl 1 (slc8 b), .int .i64 2, .isl 1 (slcK .u64 [x])] [] (.tup [.osl 0 (b ++ enc 2 x).length, .int .i64 0]) [(0, .arr (R.ty 4) 1 (slc8 (b ++ enc 2 x)))] 1 := by
  have c := put_c h b 2 [x] (by simp; omega) (by simp; omega)
  rw [puts_in (by decide) (by decide) (by simp; omega)] at c
  simpa using c
theorem put3_c {R : Env} (h : N54 R) (b : List UInt8) (x y z : Int) (hl : b.length ≤ 1000) (hx : 0 ≤ x ∧ x ≤ 1048576 ∧ 0 ≤ y ∧ y ≤ 1048576 ∧ 0 ≤ z ∧ z ≤ 1048576) :
    R.Mc 54 [.isl 1 (slc8 b), .int .i64 4, .isl 1 (slcK .u64 [x, y, z])] [] (.tup [.osl 0 (b ++ (enc 4 x ++ enc 4 y ++ enc 4 z)).length, .int .i64 0]) [(0, .arr (R.ty 4) 1 (slc8 (b ++ (enc 4 x ++ enc 4 y ++ enc 4 z))))] 1 := by
  have c := put_c h b 4 [x, y, z] (by simp; omega) (by simp; omega)
  rw [puts_in (by decide) (by decide) (by simp; omega)] at c
  simpa using c
theorem sgn3_c {R : Env} (h : N71 R) (b : List UInt8) (p : T3) (hl : b.length ≤ 1000) (ok : -4096 ≤ p.a ∧ p.a ≤ 4096 ∧ -4096 ≤ p.b ∧ p.b ≤ 4096 ∧ -4096 ≤ p.c ∧ p.c ≤ 4096) :
    R.Mc 71 [.isl 1 (slc8 b), .int .i64 2, .isl 1 (slcK .i64 [p.a, p.b, p.c])] [] (.tup [.osl 0 (b ++ encP p).length, .int .i64 0]) [(0, .arr (R.ty 4) 1 (slc8 (b ++ encP p)))] 1 := by
  have c := signed_c h b 2 [p.a, p.b, p.c] (by simp; omega) (by simp [inI]; omega)
  rwa [signs_pt ok] at c
def Mat.four (m : Mat) : List Int := [m.c.a, m.c.b, m.c.c, m.r]
def Lig.three (l : Lig) : List T3 := [l.p, l.u, l.v]
@[simp] theorem four_length (m : Mat) : m.four.length = 4 := rfl
@[simp] theorem three_length (l : Lig) : l.three.length = 3 := rfl
theorem len_e2 : ∀ l : List Int, (l.flatMap (enc 2)).length = 2 * l.length
  | [] => rfl
  | x :: r => by have := len_e2 r; simp at this ⊢; omega
@[simp] theorem encP_length (p : T3) : (encP p).length = 6 := by simp [encP]
theorem encode_c {R : Env} (h : N311 R) (a : As) (hl : a.x.t.length ≤ 1073741824) (ok : own a = 0) : R.Pc 311 [.agg a.row] (.isl 1 (slc8 (abytes a))) :=
  h.o311.enter 200 rfl fun X bb hfit hp => by
    generalize hq : abytes a = q
    unfold own at ok
    refine sh ?_
    refine cS (fun h1 => ?_) (fun h1 => ?_)
    · rw [abytes, if_pos h1] at hq
      subst hq
      refine sh ?_
      refine ICall.pure h.n196.o196.hb (mencode_c h.n196 a.m) rfl ?_
      refine sh ?_
      exact rT
    · rw [if_neg h1] at ok
      refine sh ?_
      refine cS (fun h2 => ?_) (fun h2 => ?_)
      · rw [abytes, if_neg h1, if_pos h2] at hq
        subst hq
        refine sh ?_
        refine ICall.pure h.n82.o82.hb (tencode_c h.n82 a.x hl) rfl ?_
        refine sh ?_
        exact rT
      · rw [if_neg h2] at ok
        refine sh ?_
        refine cS (fun h3 => ?_) (fun h3 => ?_)
        · rw [abytes, if_neg h1, if_neg h2, if_pos h3] at hq
          subst hq
          rw [if_pos h3] at ok
          have may := matk_may ok
          have w8 : ((u8 a.mt.k).toNat : Int) = a.mt.k := u8_in (by omega)
          refine sh ?_
          refine ILoop.inv 100 (fun i : Nat => i ≤ 4) (fun i => ⟨[(8, .osl 2 ([u8 a.mt.k] ++ (a.mt.four.take i).flatMap (enc 2)).length), (55, .isl 1 (slcK .i64 a.mt.four)), (56, .int .i64 4), (57, .int .i64 i)], [(2, .arr (R.ty 4) 1 (slc8 ([u8 a.mt.k] ++ (a.mt.four.take i).flatMap (enc 2))))], 3⟩) (fun i => 4 - i) (0) ?_ ⟨⟨_, hp, rfl⟩, ?_, ?_⟩ ?_
          · exact Nat.zero_le _
          · all_goals repeat' (first | exact True.intro | refine And.intro ?_ ?_ | (intro _u; clear _u) | (with_reducible first | exact DnLe.fg | refine eM ?_ ?_ | refine eF ?_ ?_ ?_ | refine eN ?_ | refine eL ?_ ?_ ?_ | refine eA ?_ ?_ | refine IWk.mk ⟨_, hp, rfl⟩ ?_ ?_) | refine IWk.mk ⟨_, hp, rfl⟩ ?_ ?_)
            all_goals try first | with_reducible rfl | omega | exact .inl (by decide) | (simp; done) | rfl
          · all_goals repeat' (first | exact True.intro | refine And.intro ?_ ?_ | (intro _u; clear _u) | (with_reducible first | exact DnLe.fg | refine eM ?_ ?_ | refine eF ?_ ?_ ?_ | refine eN ?_ | refine eL ?_ ?_ ?_ | refine eA ?_ ?_ | refine IWk.mk ⟨_, hp, rfl⟩ ?_ ?_) | refine IWk.mk ⟨_, hp, rfl⟩ ?_ ?_)
            all_goals try first | with_reducible rfl | omega | exact .inl (by decide) | (simp; done) | rfl
            simp [slc8, w8]
          · intro i hi
            dsimp only
            refine sh ?_
            refine cS (fun h4 => ?_) (fun h4 => ?_)
            · obtain ⟨x, hx⟩ : ∃ u_, a.mt.four[i]? = some u_ := ⟨_, List.getElem?_eq_getElem (by first | omega | (simp <;> omega))⟩
              refine sh ?_
              refine eget_map hx ?_
              have hxx : 0 ≤ x ∧ x ≤ 65535 := by
                have := List.mem_of_getElem? hx
                simp only [Mat.four, List.mem_cons, List.not_mem_nil, or_false] at this
                rcases this with e | e | e | e <;> subst e <;> omega
              refine sh ?_
              refine cM true [] (put1_c h.n54 ([u8 a.mt.k] ++ (a.mt.four.take i).flatMap (enc 2)) x (by simp only [List.length_append, len_e2, List.length_take]; simp; omega) hxx) ?_
              repeat (intro _; first | refine eK ?_ | refine eP ?_)
              refine sh ?_
              refine nRm [0, 1, 4] (i + 1) ?_ ?_ ?_
              · omega
              · omega
              · all_goals repeat' (first | exact True.intro | refine And.intro ?_ ?_ | (intro _u; clear _u) | (with_reducible first | exact DnLe.fg | refine eM ?_ ?_ | refine eF ?_ ?_ ?_ | refine eN ?_ | refine eL ?_ ?_ ?_ | refine eA ?_ ?_ | refine IWk.mk ⟨_, hp, rfl⟩ ?_ ?_) | refine IWk.mk ⟨_, hp, rfl⟩ ?_ ?_)
                all_goals try first | with_reducible rfl | omega | exact .inl (by decide) | (simp; done) | rfl
                rw [flat_succ hx]; simp
                rw [flat_succ hx]; simp
            · rw [show a.mt.four.take i = a.mt.four from List.take_of_length_le (by simp; omega)]
              refine sh ?_
              exact rT
        · rw [abytes, if_neg h1, if_neg h2, if_neg h3] at hq
          subst hq
          have h4 : a.k = 4 := by
            by_cases h4 : a.k = 4
            · exact h4
            · rw [if_neg h3, if_neg h4] at ok; cases ok
          rw [if_neg h3, if_pos h4] at ok
          have may := ligk_may ok
          have mk := may.k
          have mc := may.c
          have w8 : ((u8 a.li.k).toNat : Int) = a.li.k := u8_in (by omega)
          have c1 := put3_c h.n54 [u8 a.li.k] a.li.c.a a.li.c.b a.li.c.c (by simp) mc
          rw [show slc8 [u8 a.li.k] = [[.int .u8 a.li.k]] by simp [slc8, w8]] at c1
          refine sh ?_
          refine cM true [] (c1) ?_
          repeat (intro _; first | refine eK ?_ | refine eP ?_)
          refine sh ?_
          refine lPa 100 (fun i : Nat => i ≤ 3) (fun i => ⟨[(12, .osl 4 ([u8 a.li.k] ++ (enc 4 a.li.c.a ++ enc 4 a.li.c.b ++ enc 4 a.li.c.c) ++ (a.li.three.take i).flatMap encP).length), (100, .isl 3 (slc3 a.li.three)), (101, .int .i64 3), (102, .int .i64 i)], [(4, .arr (R.ty 4) 1 (slc8 ([u8 a.li.k] ++ (enc 4 a.li.c.a ++ enc 4 a.li.c.b ++ enc 4 a.li.c.c) ++ (a.li.three.take i).flatMap encP)))], 5⟩) (fun i => 3 - i) (0) ?_ ?_
          · exact Nat.zero_le _
          · intro i hi
            dsimp only
            refine sh ?_
            refine cS (fun h5 => ?_) (fun h5 => ?_)
            · obtain ⟨x, hx⟩ : ∃ u_, a.li.three[i]? = some u_ := ⟨_, List.getElem?_eq_getElem (by first | omega | (simp <;> omega))⟩
              refine sh ?_
              refine eget_map hx ?_
              have hxx : -4096 ≤ x.a ∧ x.a ≤ 4096 ∧ -4096 ≤ x.b ∧ x.b ≤ 4096 ∧ -4096 ≤ x.c ∧ x.c ≤ 4096 := by
                have := List.mem_of_getElem? hx
                simp only [Lig.three, List.mem_cons, List.not_mem_nil, or_false] at this
                rcases this with e | e | e <;> subst e
                · exact may.p
                · exact may.u
                · exact may.v
              refine sh ?_
              refine cM true [] (sgn3_c h.n71 ([u8 a.li.k] ++ (enc 4 a.li.c.a ++ enc 4 a.li.c.b ++ enc 4 a.li.c.c) ++ (a.li.three.take i).flatMap encP) x (by simp only [List.length_append, len_P, List.length_take]; simp; omega) hxx) ?_
              repeat (intro _; first | refine eK ?_ | refine eP ?_)
              refine sh ?_
              refine nRm [0, 1, 2, 3, 7] (i + 1) ?_ ?_ ?_
              · omega
              · omega
              · all_goals repeat' (first | exact True.intro | refine And.intro ?_ ?_ | (intro _u; clear _u) | (with_reducible first | exact DnLe.fg | refine eM ?_ ?_ | refine eF ?_ ?_ ?_ | refine eN ?_ | refine eL ?_ ?_ ?_ | refine eA ?_ ?_ | refine IWk.mk ⟨_, hp, rfl⟩ ?_ ?_) | refine IWk.mk ⟨_, hp, rfl⟩ ?_ ?_)
                all_goals try first | with_reducible rfl | omega | exact .inl (by decide) | (simp; done) | rfl
                rw [flat_succ hx]; simp
                rw [flat_succ hx]; simp
            · rw [show a.li.three.take i = a.li.three from List.take_of_length_le (by simp; omega)]
              refine sh ?_
              exact rT
end Go.UM

namespace Go.UM
open Go.AM
structure Mf where
  (id kind label m0 m1 m2 m3 m4 m5 m6 m7 first last size chunks : Int)
def Mf.row (m : Mf) : List AV := [.int .u64 m.id, .int .i64 m.kind, .int .u32 m.label, .int .u8 m.m0, .int .u8 m.m1, .int .u8 m.m2, .int .u8 m.m3, .int .u8 m.m4, .int .u8 m.m5, .int .u8 m.m6, .int .u8 m.m7,
  .int .u32 m.first, .int .u32 m.last, .int .i64 m.size, .int .i64 m.chunks]
def Mf.mask (m : Mf) : Nat → Int
  | 0 => m.m0 | 1 => m.m1 | 2 => m.m2 | 3 => m.m3 | 4 => m.m4 | 5 => m.m5 | 6 => m.m6 | 7 => m.m7 | _ => 0
structure Mf.Ok (m : Mf) : Prop where
  id : inI .u64 m.id
  kind : inI .i64 m.kind
  label : inI .u32 m.label
  mask : ∀ i, 0 ≤ m.mask i ∧ m.mask i ≤ 255
  first : inI .u32 m.first
  last : inI .u32 m.last
  size : inI .i64 m.size
  chunks : inI .i64 m.chunks
end Go.UM

namespace Go.UM
open Go.AM
set_option maxRecDepth 4000
structure Rw where
  h : Int
  f : Mf
  a : As
def Rw.row (r : Rw) : List AV := [.int .i64 r.h, .int .u64 r.f.id, .int .i64 r.f.kind, .int .u32 r.f.label, .int .u8 r.f.m0, .int .u8 r.f.m1, .int .u8 r.f.m2, .int .u8 r.f.m3, .int .u8 r.f.m4, .int .u8 r.f.m5, .int .u8 r.f.m6, .int .u8 r.f.m7,
  .int .u32 r.f.first, .int .u32 r.f.last, .int .i64 r.f.size, .int .i64 r.f.chunks, .int .i64 r.a.k, .isl 3 (slc3 r.a.m.v), .isl 2 (slc2 r.a.m.uv), .isl 3 (slc3 r.a.m.t), .int .i64 r.a.x.side, .isl 3 (slc3 r.a.x.t),
  .int .i64 r.a.mt.k, .int .i64 r.a.mt.c.a, .int .i64 r.a.mt.c.b, .int .i64 r.a.mt.c.c, .int .i64 r.a.mt.r,
  .int .i64 r.a.li.k, .int .i64 r.a.li.c.a, .int .i64 r.a.li.c.b, .int .i64 r.a.li.c.c, .int .i64 r.a.li.p.a, .int .i64 r.a.li.p.b, .int .i64 r.a.li.p.c, .int .i64 r.a.li.u.a, .int .i64 r.a.li.u.b, .int .i64 r.a.li.u.c, .int .i64 r.a.li.v.a, .int .i64 r.a.li.v.b, .int .i64 r.a.li.v.c]
def slR (l : List Rw) : List (List AV) := l.map Rw.row
@[simp] theorem slR_length (l : List Rw) : (slR l).length = l.length := by simp [slR]
@[simp] theorem slR_append (a b : List Rw) : slR (a ++ b) = slR a ++ slR b := by simp [slR]
@[simp] theorem slR_NmL (l : List Rw) : NmL (slR l) := by simp [slR, Rw.row]
instance {l : List Rw} : LenOf (slR l) l.length := ⟨slR_length l⟩
end Go.UM

namespace Go.UM
open Go.AM
set_option maxRecDepth 4000
deriving instance DecidableEq for T3
deriving instance DecidableEq for Mat
deriving instance DecidableEq for Lig
theorem T3.eq_iff {x y : T3} : (x.a == y.a && (x.b == y.b && x.c == y.c)) = true ↔ x = y := by
  cases x; cases y; simp
theorem T3.ne_iff {x y : T3} : (x.a == y.a && (x.b == y.b && x.c == y.c)) = false ↔ x ≠ y := by
  rw [← Bool.not_eq_true, T3.eq_iff]
theorem P2.eq_iff {x y : Int × Int} : (x.1 == y.1 && x.2 == y.2) = true ↔ x = y := by
  cases x; cases y; simp
theorem P2.ne_iff {x y : Int × Int} : (x.1 == y.1 && x.2 == y.2) = false ↔ x ≠ y := by
  rw [← Bool.not_eq_true, P2.eq_iff]
theorem ne_at {α : Type} {l l' : List α} {i : Nat} {x y : α} (h : l[i]? = some x) (h' : l'[i]? = some y) (hn : x ≠ y) : l ≠ l' := by
  intro e; subst e; rw [h] at h'; exact hn (Option.some.inj h')
theorem take_eq_succ {α : Type} {l l' : List α} {i : Nat} {x : α} (h : l[i]? = some x) (h' : l'[i]? = some x) (e : l.take i = l'.take i) : l.take (i + 1) = l'.take (i + 1) := by
  rw [take_succ_get h, take_succ_get h', e]
theorem eq_of_take {α : Type} {l l' : List α} {i : Nat} (h : l.take i = l'.take i) (hi : l.length ≤ i) (e : l.length = l'.length) : l = l' := by
  rwa [List.take_of_length_le hi, List.take_of_length_le (by omega)] at h
theorem alk315_c {R : Env} (h : N315 R) (l l' : List T3) (hl : l.length ≤ 1073741824) : R.Pc 315 [.isl 3 (slc3 l), .isl 3 (slc3 l')] (.bool (decide (l = l'))) :=
  h.o315.enter 100 rfl fun X bb hfit hp => by
    refine sh ?_
    refine cS (fun h1 => ?_) (fun h1 => ?_)
    · refine sh ?_
      refine rT ?_
      all_goals repeat' (first | exact True.intro | refine And.intro ?_ ?_ | (intro _u; clear _u) | (with_reducible first | exact DnLe.fg | refine eM ?_ ?_ | refine eF ?_ ?_ ?_ | refine eN ?_ | refine eL ?_ ?_ ?_ | refine eA ?_ ?_ | refine IWk.mk ⟨_, hp, rfl⟩ ?_ ?_) | refine IWk.mk ⟨_, hp, rfl⟩ ?_ ?_)
      all_goals try first | with_reducible rfl | omega | exact .inl (by decide) | (simp; done) | rfl
      refine (decide_eq_false ?_).symm
      exact fun e => h1 (by simp [e])
    · refine sh ?_
      refine lPa 100 (fun i : Nat => i ≤ l.length ∧ l.take i = l'.take i) (fun i => ⟨[(0, .isl 3 (slc3 l)), (1, .isl 3 (slc3 l')), (12, .int .i64 l.length), (13, .int .i64 i)], [], 0⟩) (fun i => l.length - i) (0) ?_ ?_
      · exact ⟨Nat.zero_le _, rfl⟩
      · intro i hi
        dsimp only
        refine sh ?_
        refine cS (fun h2 => ?_) (fun h2 => ?_)
        · obtain ⟨x, hx⟩ : ∃ u, l[i]? = some u := ⟨_, List.getElem?_eq_getElem (by omega)⟩
          obtain ⟨y, hy⟩ : ∃ u, l'[i]? = some u := ⟨_, List.getElem?_eq_getElem (by omega)⟩
          refine sh ?_
          refine eget_map hx ?_
          refine sh ?_
          refine eget_map hy ?_
          refine sh ?_
          refine cS (fun h3 => ?_) (fun h3 => ?_)
          · refine sh ?_
            refine rT ?_
            all_goals repeat' (first | exact True.intro | refine And.intro ?_ ?_ | (intro _u; clear _u) | (with_reducible first | exact DnLe.fg | refine eM ?_ ?_ | refine eF ?_ ?_ ?_ | refine eN ?_ | refine eL ?_ ?_ ?_ | refine eA ?_ ?_ | refine IWk.mk ⟨_, hp, rfl⟩ ?_ ?_) | refine IWk.mk ⟨_, hp, rfl⟩ ?_ ?_)
            all_goals try first | with_reducible rfl | omega | exact .inl (by decide) | (simp; done) | rfl
            refine (decide_eq_false ?_).symm
            exact ne_at hx hy (T3.ne_iff.1 h3)
          · have e := T3.eq_iff.1 h3
            subst e
            refine sh ?_
            refine nXa (i + 1) ?_ ?_
            · exact ⟨by omega, take_eq_succ hx hy hi.2⟩
            · omega
        · refine sh ?_
          refine rT ?_
          all_goals repeat' (first | exact True.intro | refine And.intro ?_ ?_ | (intro _u; clear _u) | (with_reducible first | exact DnLe.fg | refine eM ?_ ?_ | refine eF ?_ ?_ ?_ | refine eN ?_ | refine eL ?_ ?_ ?_ | refine eA ?_ ?_ | refine IWk.mk ⟨_, hp, rfl⟩ ?_ ?_) | refine IWk.mk ⟨_, hp, rfl⟩ ?_ ?_)
          all_goals try first | with_reducible rfl | omega | exact .inl (by decide) | (simp; done) | rfl
          refine (decide_eq_true ?_).symm
          exact eq_of_take hi.2 (by omega) (by omega)
theorem alk317_c {R : Env} (h : N317 R) (l l' : List T3) (hl : l.length ≤ 1073741824) : R.Pc 317 [.isl 3 (slc3 l), .isl 3 (slc3 l')] (.bool (decide (l = l'))) :=
  h.o317.enter 100 rfl fun X bb hfit hp => by
    refine sh ?_
    refine cS (fun h1 => ?_) (fun h1 => ?_)
    · refine sh ?_
      refine rT ?_
      all_goals repeat' (first | exact True.intro | refine And.intro ?_ ?_ | (intro _u; clear _u) | (with_reducible first | exact DnLe.fg | refine eM ?_ ?_ | refine eF ?_ ?_ ?_ | refine eN ?_ | refine eL ?_ ?_ ?_ | refine eA ?_ ?_ | refine IWk.mk ⟨_, hp, rfl⟩ ?_ ?_) | refine IWk.mk ⟨_, hp, rfl⟩ ?_ ?_)
      all_goals try first | with_reducible rfl | omega | exact .inl (by decide) | (simp; done) | rfl
      refine (decide_eq_false ?_).symm
      exact fun e => h1 (by simp [e])
    · refine sh ?_
      refine lPa 100 (fun i : Nat => i ≤ l.length ∧ l.take i = l'.take i) (fun i => ⟨[(0, .isl 3 (slc3 l)), (1, .isl 3 (slc3 l')), (12, .int .i64 l.length), (13, .int .i64 i)], [], 0⟩) (fun i => l.length - i) (0) ?_ ?_
      · exact ⟨Nat.zero_le _, rfl⟩
      · intro i hi
        dsimp only
        refine sh ?_
        refine cS (fun h2 => ?_) (fun h2 => ?_)
        · obtain ⟨x, hx⟩ : ∃ u, l[i]? = some u := ⟨_, List.getElem?_eq_getElem (by omega)⟩
          obtain ⟨y, hy⟩ : ∃ u, l'[i]? = some u := ⟨_, List.getElem?_eq_getElem (by omega)⟩
          refine sh ?_
          refine eget_map hx ?_
          refine sh ?_
          refine eget_map hy ?_
          refine sh ?_
          refine cS (fun h3 => ?_) (fun h3 => ?_)
          · refine sh ?_
            refine rT ?_
            all_goals repeat' (first | exact True.intro | refine And.intro ?_ ?_ | (intro _u; clear _u) | (with_reducible first | exact DnLe.fg | refine eM ?_ ?_ | refine eF ?_ ?_ ?_ | refine eN ?_ | refine eL ?_ ?_ ?_ | refine eA ?_ ?_ | refine IWk.mk ⟨_, hp, rfl⟩ ?_ ?_) | refine IWk.mk ⟨_, hp, rfl⟩ ?_ ?_)
            all_goals try first | with_reducible rfl | omega | exact .inl (by decide) | (simp; done) | rfl
            refine (decide_eq_false ?_).symm
            exact ne_at hx hy (T3.ne_iff.1 h3)
          · have e := T3.eq_iff.1 h3
            subst e
            refine sh ?_
            refine nXa (i + 1) ?_ ?_
            · exact ⟨by omega, take_eq_succ hx hy hi.2⟩
            · omega
        · refine sh ?_
          refine rT ?_
          all_goals repeat' (first | exact True.intro | refine And.intro ?_ ?_ | (intro _u; clear _u) | (with_reducible first | exact DnLe.fg | refine eM ?_ ?_ | refine eF ?_ ?_ ?_ | refine eN ?_ | refine eL ?_ ?_ ?_ | refine eA ?_ ?_ | refine IWk.mk ⟨_, hp, rfl⟩ ?_ ?_) | refine IWk.mk ⟨_, hp, rfl⟩ ?_ ?_)
          all_goals try first | with_reducible rfl | omega | exact .inl (by decide) | (simp; done) | rfl
          refine (decide_eq_true ?_).symm
          exact eq_of_take hi.2 (by omega) (by omega)
theorem alk316_c {R : Env} (h : N316 R) (l l' : List (Int × Int)) (hl : l.length ≤ 1073741824) : R.Pc 316 [.isl 2 (slc2 l), .isl 2 (slc2 l')] (.bool (decide (l = l'))) :=
  h.o316.enter 100 rfl fun X bb hfit hp => by
    refine sh ?_
    refine cS (fun h1 => ?_) (fun h1 => ?_)
    · refine sh ?_
      refine rT ?_
      all_goals repeat' (first | exact True.intro | refine And.intro ?_ ?_ | (intro _u; clear _u) | (with_reducible first | exact DnLe.fg | refine eM ?_ ?_ | refine eF ?_ ?_ ?_ | refine eN ?_ | refine eL ?_ ?_ ?_ | refine eA ?_ ?_ | refine IWk.mk ⟨_, hp, rfl⟩ ?_ ?_) | refine IWk.mk ⟨_, hp, rfl⟩ ?_ ?_)
      all_goals try first | with_reducible rfl | omega | exact .inl (by decide) | (simp; done) | rfl
      refine (decide_eq_false ?_).symm
      exact fun e => h1 (by simp [e])
    · refine sh ?_
      refine lPa 100 (fun i : Nat => i ≤ l.length ∧ l.take i = l'.take i) (fun i => ⟨[(0, .isl 2 (slc2 l)), (1, .isl 2 (slc2 l')), (12, .int .i64 l.length), (13, .int .i64 i)], [], 0⟩) (fun i => l.length - i) (0) ?_ ?_
      · exact ⟨Nat.zero_le _, rfl⟩
      · intro i hi
        dsimp only
        refine sh ?_
        refine cS (fun h2 => ?_) (fun h2 => ?_)
        · obtain ⟨x, hx⟩ : ∃ u, l[i]? = some u := ⟨_, List.getElem?_eq_getElem (by omega)⟩
          obtain ⟨y, hy⟩ : ∃ u, l'[i]? = some u := ⟨_, List.getElem?_eq_getElem (by omega)⟩
          refine sh ?_
          refine eget_map hx ?_
          refine sh ?_
          refine eget_map hy ?_
          refine sh ?_
          refine cS (fun h3 => ?_) (fun h3 => ?_)
          · refine sh ?_
            refine rT ?_
            all_goals repeat' (first | exact True.intro | refine And.intro ?_ ?_ | (intro _u; clear _u) | (with_reducible first | exact DnLe.fg | refine eM ?_ ?_ | refine eF ?_ ?_ ?_ | refine eN ?_ | refine eL ?_ ?_ ?_ | refine eA ?_ ?_ | refine IWk.mk ⟨_, hp, rfl⟩ ?_ ?_) | refine IWk.mk ⟨_, hp, rfl⟩ ?_ ?_)
            all_goals try first | with_reducible rfl | omega | exact .inl (by decide) | (simp; done) | rfl
            refine (decide_eq_false ?_).symm
            exact ne_at hx hy (P2.ne_iff.1 h3)
          · have e := P2.eq_iff.1 h3
            subst e
            refine sh ?_
            refine nXa (i + 1) ?_ ?_
            · exact ⟨by omega, take_eq_succ hx hy hi.2⟩
            · omega
        · refine sh ?_
          refine rT ?_
          all_goals repeat' (first | exact True.intro | refine And.intro ?_ ?_ | (intro _u; clear _u) | (with_reducible first | exact DnLe.fg | refine eM ?_ ?_ | refine eF ?_ ?_ ?_ | refine eN ?_ | refine eL ?_ ?_ ?_ | refine eA ?_ ?_ | refine IWk.mk ⟨_, hp, rfl⟩ ?_ ?_) | refine IWk.mk ⟨_, hp, rfl⟩ ?_ ?_)
          all_goals try first | with_reducible rfl | omega | exact .inl (by decide) | (simp; done) | rfl
          refine (decide_eq_true ?_).symm
          exact eq_of_take hi.2 (by omega) (by omega)
theorem Mat.eq_iff {x y : Mat} : (x.k == y.k && (x.c.a == y.c.a && (x.c.b == y.c.b && (x.c.c == y.c.c && x.r == y.r)))) = true ↔ x = y := by
  obtain ⟨_, ⟨_, _, _⟩, _⟩ := x; obtain ⟨_, ⟨_, _, _⟩, _⟩ := y; simp [and_assoc]
theorem Mat.ne_iff {x y : Mat} : (x.k == y.k && (x.c.a == y.c.a && (x.c.b == y.c.b && (x.c.c == y.c.c && x.r == y.r)))) = false ↔ x ≠ y := by
  rw [← Bool.not_eq_true, Mat.eq_iff]
theorem Lig.eq_iff {x y : Lig} : (x.k == y.k && (x.c.a == y.c.a && (x.c.b == y.c.b && (x.c.c == y.c.c && (x.p.a == y.p.a && (x.p.b == y.p.b && (x.p.c == y.p.c && (x.u.a == y.u.a && (x.u.b == y.u.b && (x.u.c == y.u.c && (x.v.a == y.v.a && (x.v.b == y.v.b && x.v.c == y.v.c)))))))))))) = true ↔ x = y := by
  obtain ⟨_, ⟨_, _, _⟩, ⟨_, _, _⟩, ⟨_, _, _⟩, ⟨_, _, _⟩⟩ := x; obtain ⟨_, ⟨_, _, _⟩, ⟨_, _, _⟩, ⟨_, _, _⟩, ⟨_, _, _⟩⟩ := y; simp [and_assoc]
theorem Lig.ne_iff {x y : Lig} : (x.k == y.k && (x.c.a == y.c.a && (x.c.b == y.c.b && (x.c.c == y.c.c && (x.p.a == y.p.a && (x.p.b == y.p.b && (x.p.c == y.p.c && (x.u.a == y.u.a && (x.u.b == y.u.b && (x.u.c == y.u.c && (x.v.a == y.v.a && (x.v.b == y.v.b && x.v.c == y.v.c)))))))))))) = false ↔ x ≠ y := by
  rw [← Bool.not_eq_true, Lig.eq_iff]
structure As.Few (a : As) : Prop where
  v : a.m.v.length ≤ 1000
  uv : a.m.uv.length ≤ 1000
  t : a.m.t.length ≤ 1000
  x : a.x.t.length ≤ 1000
def asame (a b : As) : Bool := decide (a.k = b.k ∧ a.mt = b.mt ∧ a.li = b.li ∧ a.x.side = b.x.side ∧ a.m.v = b.m.v ∧ a.m.uv = b.m.uv ∧ a.m.t = b.m.t ∧ a.x.t = b.x.t)
theorem same_c {R : Env} (h : N298 R) (a b : As) (f : a.Few) : R.Pc 298 [.agg a.row, .agg b.row] (.bool (asame a b)) :=
  h.o298.enter 100 rfl fun X bb hfit hp => by
    refine sh ?_
    refine cS (fun h1 => ?_) (fun h1 => ?_)
    · refine sh ?_
      refine rT ?_
      all_goals repeat' (first | exact True.intro | refine And.intro ?_ ?_ | (intro _u; clear _u) | (with_reducible first | exact DnLe.fg | refine eM ?_ ?_ | refine eF ?_ ?_ ?_ | refine eN ?_ | refine eL ?_ ?_ ?_ | refine eA ?_ ?_ | refine IWk.mk ⟨_, hp, rfl⟩ ?_ ?_) | refine IWk.mk ⟨_, hp, rfl⟩ ?_ ?_)
      all_goals try first | with_reducible rfl | omega | exact .inl (by decide) | (simp; done) | rfl
      exact (decide_eq_false fun e => h1 e.1).symm
    · refine sh ?_
      refine cS (fun h2 => ?_) (fun h2 => ?_)
      · refine sh ?_
        refine rT ?_
        all_goals repeat' (first | exact True.intro | refine And.intro ?_ ?_ | (intro _u; clear _u) | (with_reducible first | exact DnLe.fg | refine eM ?_ ?_ | refine eF ?_ ?_ ?_ | refine eN ?_ | refine eL ?_ ?_ ?_ | refine eA ?_ ?_ | refine IWk.mk ⟨_, hp, rfl⟩ ?_ ?_) | refine IWk.mk ⟨_, hp, rfl⟩ ?_ ?_)
        all_goals try first | with_reducible rfl | omega | exact .inl (by decide) | (simp; done) | rfl
        exact (decide_eq_false fun e => Mat.ne_iff.1 h2 e.2.1).symm
      · refine sh ?_
        refine cS (fun h3 => ?_) (fun h3 => ?_)
        · refine sh ?_
          refine rT ?_
          all_goals repeat' (first | exact True.intro | refine And.intro ?_ ?_ | (intro _u; clear _u) | (with_reducible first | exact DnLe.fg | refine eM ?_ ?_ | refine eF ?_ ?_ ?_ | refine eN ?_ | refine eL ?_ ?_ ?_ | refine eA ?_ ?_ | refine IWk.mk ⟨_, hp, rfl⟩ ?_ ?_) | refine IWk.mk ⟨_, hp, rfl⟩ ?_ ?_)
          all_goals try first | with_reducible rfl | omega | exact .inl (by decide) | (simp; done) | rfl
          exact (decide_eq_false fun e => Lig.ne_iff.1 h3 e.2.2.1).symm
        · refine sh ?_
          refine cS (fun h4 => ?_) (fun h4 => ?_)
          · refine sh ?_
            refine rT ?_
            all_goals repeat' (first | exact True.intro | refine And.intro ?_ ?_ | (intro _u; clear _u) | (with_reducible first | exact DnLe.fg | refine eM ?_ ?_ | refine eF ?_ ?_ ?_ | refine eN ?_ | refine eL ?_ ?_ ?_ | refine eA ?_ ?_ | refine IWk.mk ⟨_, hp, rfl⟩ ?_ ?_) | refine IWk.mk ⟨_, hp, rfl⟩ ?_ ?_)
            all_goals try first | with_reducible rfl | omega | exact .inl (by decide) | (simp; done) | rfl
            exact (decide_eq_false fun e => h4 e.2.2.2.1).symm
          · refine sh ?_
            refine ICall.pure h.n315.o315.hb (alk315_c h.n315 a.m.v b.m.v (by have := f.v; omega)) rfl ?_
            refine sh ?_
            refine cS (fun h5 => ?_) (fun h5 => ?_)
            · refine sh ?_
              refine ICall.pure h.n316.o316.hb (alk316_c h.n316 a.m.uv b.m.uv (by have := f.uv; omega)) rfl ?_
              refine sh ?_
              refine cS (fun h6 => ?_) (fun h6 => ?_)
              · refine sh ?_
                refine ICall.pure h.n317.o317.hb (alk317_c h.n317 a.m.t b.m.t (by have := f.t; omega)) rfl ?_
                refine sh ?_
                refine cS (fun h7 => ?_) (fun h7 => ?_)
                · refine sh ?_
                  refine ICall.pure h.n317.o317.hb (alk317_c h.n317 a.x.t b.x.t (by have := f.x; omega)) rfl ?_
                  refine sh ?_
                  refine rT ?_
                  all_goals repeat' (first | exact True.intro | refine And.intro ?_ ?_ | (intro _u; clear _u) | (with_reducible first | exact DnLe.fg | refine eM ?_ ?_ | refine eF ?_ ?_ ?_ | refine eN ?_ | refine eL ?_ ?_ ?_ | refine eA ?_ ?_ | refine IWk.mk ⟨_, hp, rfl⟩ ?_ ?_) | refine IWk.mk ⟨_, hp, rfl⟩ ?_ ?_)
                  all_goals try first | with_reducible rfl | omega | exact .inl (by decide) | (simp; done) | rfl
                  simp [asame, h1, Mat.eq_iff.1 h2, Lig.eq_iff.1 h3, h4, h5, h6, h7]
                · refine sh ?_
                  refine rT ?_
                  all_goals repeat' (first | exact True.intro | refine And.intro ?_ ?_ | (intro _u; clear _u) | (with_reducible first | exact DnLe.fg | refine eM ?_ ?_ | refine eF ?_ ?_ ?_ | refine eN ?_ | refine eL ?_ ?_ ?_ | refine eA ?_ ?_ | refine IWk.mk ⟨_, hp, rfl⟩ ?_ ?_) | refine IWk.mk ⟨_, hp, rfl⟩ ?_ ?_)
                  all_goals try first | with_reducible rfl | omega | exact .inl (by decide) | (simp; done) | rfl
                  exact (decide_eq_false fun e => h7 e.2.2.2.2.2.2.1).symm
              · refine sh ?_
                refine rT ?_
                all_goals repeat' (first | exact True.intro | refine And.intro ?_ ?_ | (intro _u; clear _u) | (with_reducible first | exact DnLe.fg | refine eM ?_ ?_ | refine eF ?_ ?_ ?_ | refine eN ?_ | refine eL ?_ ?_ ?_ | refine eA ?_ ?_ | refine IWk.mk ⟨_, hp, rfl⟩ ?_ ?_) | refine IWk.mk ⟨_, hp, rfl⟩ ?_ ?_)
                all_goals try first | with_reducible rfl | omega | exact .inl (by decide) | (simp; done) | rfl
                exact (decide_eq_false fun e => h6 e.2.2.2.2.2.1).symm
            · refine sh ?_
              refine rT ?_
              all_goals repeat' (first | exact True.intro | refine And.intro ?_ ?_ | (intro _u; clear _u) | (with_reducible first | exact DnLe.fg | refine eM ?_ ?_ | refine eF ?_ ?_ ?_ | refine eN ?_ | refine eL ?_ ?_ ?_ | refine eA ?_ ?_ | refine IWk.mk ⟨_, hp, rfl⟩ ?_ ?_) | refine IWk.mk ⟨_, hp, rfl⟩ ?_ ?_)
              all_goals try first | with_reducible rfl | omega | exact .inl (by decide) | (simp; done) | rfl
              exact (decide_eq_false fun e => h5 e.2.2.2.2.1).symm
end Go.UM

namespace Go.UM
open Go.AM
set_option maxRecDepth 4000
def cap (k : Int) : Int := if k = 1 then 2048 else if k = 2 then 1024 else if k = 3 ∨ k = 4 then 64 else 0
theorem cap_c {R : Env} (h : N37 R) (k : Int) : R.Pc 37 [.int .i64 k] (.int .i64 (cap k)) :=
  h.o37.enter 60 rfl fun X b hfit hp => by
    refine sh ?_
    refine cS (fun h1 => ?_) (fun h1 => ?_)
    · refine sh ?_
      refine rT ?_
      all_goals repeat' (first | exact True.intro | refine And.intro ?_ ?_ | (intro _u; clear _u) | (with_reducible first | exact DnLe.fg | refine eM ?_ ?_ | refine eF ?_ ?_ ?_ | refine eN ?_ | refine eL ?_ ?_ ?_ | refine eA ?_ ?_ | refine IWk.mk ⟨_, hp, rfl⟩ ?_ ?_) | refine IWk.mk ⟨_, hp, rfl⟩ ?_ ?_)
      all_goals try first | with_reducible rfl | omega | exact .inl (by decide) | (simp; done) | rfl
      simp [cap]; omega
    · refine sh ?_
      refine cS (fun h2 => ?_) (fun h2 => ?_)
      · refine sh ?_
        refine rT ?_
        all_goals repeat' (first | exact True.intro | refine And.intro ?_ ?_ | (intro _u; clear _u) | (with_reducible first | exact DnLe.fg | refine eM ?_ ?_ | refine eF ?_ ?_ ?_ | refine eN ?_ | refine eL ?_ ?_ ?_ | refine eA ?_ ?_ | refine IWk.mk ⟨_, hp, rfl⟩ ?_ ?_) | refine IWk.mk ⟨_, hp, rfl⟩ ?_ ?_)
        all_goals try first | with_reducible rfl | omega | exact .inl (by decide) | (simp; done) | rfl
        simp [cap]; omega
      · refine st ?_
        obtain h3 | h3 | h3 | h3 | h3 : k = 0 ∨ k = 1 ∨ k = 2 ∨ k = 3 ∨ k = 4 := by omega
        all_goals subst h3
        · refine sh ?_
          exact rT
        · refine sh ?_
          exact rT
        · refine sh ?_
          exact rT
        · refine sh ?_
          exact rT
        · refine sh ?_
          exact rT
end Go.UM

namespace Go.UM
open Go.AM
set_option maxRecDepth 4000
def zMs0 : Ms := ⟨[], [], []⟩
def zTx : Tex := ⟨0, []⟩
def zMat : Mat := ⟨0, z3, 0⟩
def zLig : Lig := ⟨0, z3, z3, z3, z3⟩
def As.zero (k : Int) : As := ⟨k, zMs0, zTx, zMat, zLig⟩
def As.bare (a : As) : As := if a.k = 1 then { a with m := zMs0 } else if a.k = 2 then { a with x := zTx } else if a.k = 3 then { a with mt := zMat } else if a.k = 4 then { a with li := zLig } else a
def achk (a : As) : Int := if own a ≠ 0 then own a else if asame a.bare (As.zero a.k) = false then 5 else if cap a.k < (abytes a).length then 9 else 0
theorem own_c {R : Env} (h : N309 R) (a : As) (fx : a.x.t.length ≤ 1000) : R.Pc 309 [.agg a.row] (.int .i64 (own a)) :=
  h.o309.enter 100 rfl fun X bb hfit hp => by
    unfold own
    refine sh ?_
    refine cS (fun h1 => ?_) (fun h1 => ?_)
    · rw [if_pos h1]
      refine sh ?_
      refine ICall.pure h.n193.o193.hb (mcheck_c h.n193 a.m) rfl ?_
      refine sh ?_
      exact rT
    · rw [if_neg h1]
      refine sh ?_
      refine cS (fun h2 => ?_) (fun h2 => ?_)
      · rw [if_pos h2]
        refine sh ?_
        refine ICall.pure h.n84.o84.hb (tchk_c h.n84 a.x (by omega)) rfl ?_
        refine sh ?_
        exact rT
      · rw [if_neg h2]
        refine sh ?_
        refine cS (fun h3 => ?_) (fun h3 => ?_)
        · rw [if_pos h3]
          refine sh ?_
          refine ICall.pure h.n290.o290.hb (matk_c h.n290 a.mt) rfl ?_
          refine sh ?_
          exact rT
        · rw [if_neg h3]
          refine sh ?_
          refine cS (fun h4 => ?_) (fun h4 => ?_)
          · rw [if_pos h4]
            refine sh ?_
            refine ICall.pure h.n292.o292.hb (ligk_c h.n292 a.li) rfl ?_
            refine sh ?_
            exact rT
          · rw [if_neg h4]
            refine sh ?_
            exact rT
theorem bare_c {R : Env} (h : N310 R) (a : As) : R.Pc 310 [.agg a.row] (.agg a.bare.row) :=
  h.o310.enter 100 rfl fun X bb hfit hp => by
    unfold As.bare
    refine sh ?_
    refine cS (fun h1 => ?_) (fun h1 => ?_)
    · rw [if_pos h1]
      refine sh ?_
      exact rT
    · rw [if_neg h1]
      refine sh ?_
      refine cS (fun h2 => ?_) (fun h2 => ?_)
      · rw [if_pos h2]
        refine sh ?_
        exact rT
      · rw [if_neg h2]
        refine sh ?_
        refine cS (fun h3 => ?_) (fun h3 => ?_)
        · rw [if_pos h3]
          refine sh ?_
          exact rT
        · rw [if_neg h3]
          refine sh ?_
          refine cS (fun h4 => ?_) (fun h4 => ?_)
          · rw [if_pos h4]
            refine sh ?_
            exact rT
          · rw [if_neg h4]
            refine sh ?_
            exact rT
theorem As.Few.bare {a : As} (f : a.Few) : a.bare.Few := by
  unfold As.bare
  obtain ⟨f1, f2, f3, f4⟩ := f
  split
  · exact ⟨by simp [zMs0], by simp [zMs0], by simp [zMs0], f4⟩
  · split
    · exact ⟨f1, f2, f3, by simp [zTx]⟩
    · split
      · exact ⟨f1, f2, f3, f4⟩
      · split <;> exact ⟨f1, f2, f3, f4⟩
theorem acheckX_c {R : Env} (h : N294 R) (a : As) (fx : a.x.t.length ≤ 1000) (f : a.bare.Few) : R.Pc 294 [.agg a.row] (.int .i64 (achk a)) :=
  h.o294.enter 100 rfl fun X bb hfit hp => by
    refine sh ?_
    refine ICall.pure h.n309.o309.hb (own_c h.n309 a fx) rfl ?_
    generalize hq : achk a = q
    refine sh ?_
    refine cS (fun h1 => ?_) (fun h1 => ?_)
    · rw [achk, if_pos h1] at hq
      subst hq
      refine sh ?_
      exact rT
    · rw [achk, if_neg (by simpa using h1)] at hq
      have ok := h1
      refine sh ?_
      refine cM false [] ((bare_c h.n310 a).mc h.n310.o310.hb) ?_
      repeat (intro _; first | refine eK ?_ | refine eP ?_)
      refine sh ?_
      refine cM false [] ((same_c h.n298 a.bare (As.zero a.k) f).mc h.n298.o298.hb) ?_
      repeat (intro _; first | refine eK ?_ | refine eP ?_)
      refine sh ?_
      refine cS (fun h2 => ?_) (fun h2 => ?_)
      · rw [if_pos (by simpa using h2)] at hq
        subst hq
        refine sh ?_
        exact rT
      · rw [if_neg (by simpa using h2)] at hq
        refine sh ?_
        refine ICall.pure h.n311.o311.hb (encode_c h.n311 a (by omega) ok) rfl ?_
        refine sh ?_
        refine ICall.pure h.n37.o37.hb (cap_c h.n37 a.k) rfl ?_
        refine sh ?_
        refine cS (fun h3 => ?_) (fun h3 => ?_)
        · rw [if_pos h3] at hq
          subst hq
          refine sh ?_
          exact rT
        · rw [if_neg (by omega)] at hq
          subst hq
          refine sh ?_
          exact rT
end Go.UM

namespace Go.UM
open Go.AM
set_option maxRecDepth 4000
structure Tb where
  rows : List Rw
  ins : List In
def rwE (r : Rw) : List AV := .int .i64 r.h :: r.row
def rwL (l : List Rw) : List (List AV) := l.map rwE
@[simp] theorem rwL_length (l : List Rw) : (rwL l).length = l.length := by simp [rwL]
@[simp] theorem rwL_append (a b : List Rw) : rwL (a ++ b) = rwL a ++ rwL b := by simp [rwL]
@[simp] theorem rwL_NmL (l : List Rw) : NmL (rwL l) := by simp [rwL, rwE, Rw.row]
def rget (l : List Rw) (h : Int) : Option Rw := l.find? fun r => r.h == h
def sameN (x y : In) : Bool := x.mesh == y.mesh && (x.mat == y.mat && (x.tex == y.tex && x.n == y.n))
def iget (l : List In) (x : In) : Option In := l.find? fun y => sameN x y
theorem row_ok {h : Int} {l : List Rw} : ∀ e ∈ rwL l, kvOk [.i] [.int .i64 h] e = true := by
  intro e he
  obtain ⟨r, _, rfl⟩ := List.mem_map.1 he
  rfl
theorem row_find (h : Int) : ∀ l : List Rw, ∃ i : Nat, mfind [.int .i64 h] (rwL l) = (rget l h).map fun r => (i, r.row)
  | [] => ⟨0, rfl⟩
  | r :: l => by
    obtain ⟨i, hi⟩ := row_find h l
    have e : kvB [.int .i64 h] (rwE r) = (r.h == h) := by
      show ((h == r.h) && true) = _
      rw [Bool.and_true]; exact Bool.beq_comm
    by_cases hh : (r.h == h) = true
    · refine ⟨0, ?_⟩
      show (if kvB [.int .i64 h] (rwE r) then some (0, (rwE r).drop 1) else _) = _
      rw [e, if_pos hh]; simp only [rget, List.find?_cons, hh]; rfl
    · refine ⟨i + 1, ?_⟩
      show (if kvB [.int .i64 h] (rwE r) then some (0, (rwE r).drop 1) else (mfind [.int .i64 h] (rwL l)).map fun q => (q.1 + 1, q.2)) = _
      rw [e, if_neg hh, hi]; simp only [rget, List.find?_cons, hh]
      cases List.find? (fun r => r.h == h) l <;> rfl
theorem afdR {h : Int} {l : List Rw} {K : Option (Nat × List AV) → Prop} (k : ∀ i : Nat, K ((rget l h).map fun r => (i, r.row))) : AFd [.i] [.int .i64 h] (rwL l) K := by
  obtain ⟨i, hi⟩ := row_find h l
  exact ⟨row_ok, by rw [hi]; exact k i⟩
theorem in_ok {x : In} {l : List In} : ∀ e ∈ sIn l, kvOk [.i, .i, .i, .i] [.int .i64 x.mesh, .int .i64 x.mat, .int .i64 x.tex, .int .i64 x.n] e = true := by
  intro e he
  obtain ⟨r, _, rfl⟩ := List.mem_map.1 he
  rfl
theorem in_find (x : In) : ∀ l : List In, ∃ i : Nat, mfind [.int .i64 x.mesh, .int .i64 x.mat, .int .i64 x.tex, .int .i64 x.n] (sIn l) = (iget l x).map fun r => (i, r.t.row)
  | [] => ⟨0, rfl⟩
  | r :: l => by
    obtain ⟨i, hi⟩ := in_find x l
    have e : kvB [.int .i64 x.mesh, .int .i64 x.mat, .int .i64 x.tex, .int .i64 x.n] r.row = sameN x r := by
      show (x.mesh == r.mesh && (x.mat == r.mat && (x.tex == r.tex && (x.n == r.n && true)))) = _
      rw [Bool.and_true]; rfl
    by_cases hh : sameN x r = true
    · refine ⟨0, ?_⟩
      show (if kvB [.int .i64 x.mesh, .int .i64 x.mat, .int .i64 x.tex, .int .i64 x.n] r.row then some (0, r.row.drop 4) else _) = _
      rw [e, if_pos hh]; simp only [iget, List.find?_cons, hh]; rfl
    · refine ⟨i + 1, ?_⟩
      show (if kvB [.int .i64 x.mesh, .int .i64 x.mat, .int .i64 x.tex, .int .i64 x.n] r.row then some (0, r.row.drop 4) else (mfind _ (sIn l)).map fun q => (q.1 + 1, q.2)) = _
      rw [e, if_neg hh, hi]; simp only [iget, List.find?_cons, hh]
      cases List.find? (fun y => sameN x y) l <;> rfl
theorem afdI {x : In} {l : List In} {K : Option (Nat × List AV) → Prop} (k : ∀ i : Nat, K ((iget l x).map fun r => (i, r.t.row))) : AFd [.i, .i, .i, .i] [.int .i64 x.mesh, .int .i64 x.mat, .int .i64 x.tex, .int .i64 x.n] (sIn l) K := by
  obtain ⟨i, hi⟩ := in_find x l
  exact ⟨in_ok, by rw [hi]; exact k i⟩
abbrev tabM (R : Env) (d1 d2 : Bool) (t : Tb) : IMem := [(0, .map 1 false true d1 41 (rwL t.rows)), (1, .map 4 true true d2 16 (sIn t.ins)), (2, .var (R.ty 47) [.omap 0, .omap 1])]
theorem tnew_c {R : Env} (h : N345 R) : R.Mc 345 [] [] (.loc 2 1 0 0) (tabM R true true ⟨[], []⟩) 3 :=
  h.o345.enterM 60 0 rfl rfl rfl fun X bb hfit hp => by
    refine sh ?_
    exact rM [0, 1, 2]
theorem tnone_c {R : Env} (h : N355 R) (d1 d2 : Bool) (t : Tb) : R.Mc 355 [.loc 2 1 0 0] (tabM R d1 d2 t) (.bool false) (tabM R d1 d2 t) 3 :=
  h.o355.enterM 60 3 rfl rfl rfl fun X bb hfit hp => by
    unfold tabM
    refine sh ?_
    exact rM [0, 1, 2]
theorem of_c {R : Env} (h : N358 R) (x : In) : R.Pc 358 [.agg x.row] (.agg [.int .i64 x.mesh, .int .i64 x.mat, .int .i64 x.tex, .int .i64 x.n]) :=
  h.o358.enter 60 rfl fun X bb hfit hp => by
    refine sh ?_
    exact rT
def tparts (l : List Rw) (x : In) : Int :=
  match rget l x.mesh with
  | none => 11
  | some a => match rget l x.mat with
    | none => 11
    | some b => if x.tex = 0 then (if a.f.kind ≠ 1 ∨ b.f.kind ≠ 3 then 12 else 0) else match rget l x.tex with
      | none => 11
      | some c => if a.f.kind ≠ 1 ∨ b.f.kind ≠ 3 ∨ c.f.kind ≠ 2 then 12 else 0
def pL (x : In) : List (List AV) := [[.int .i64 x.mesh, .int .i64 1], [.int .i64 x.mat, .int .i64 3], [.int .i64 x.tex, .int .i64 2]]
theorem pAt {x : In} {i : Nat} {r : List AV} {K : List AV → Prop} (h : (pL x)[i]? = some r) (k : K r) : AElt [[.int .i64 x.mesh, .int .i64 1], [.int .i64 x.mat, .int .i64 3], [.int .i64 x.tex, .int .i64 2]] 3 i K :=
  aelt_map (f := fun x : List AV => x) (l := pL x) rfl h k
set_option maxHeartbeats 4000000 in
theorem parts_c {R : Env} (h : N357 R) (d1 d2 : Bool) (t : Tb) (x : In) : R.Mc 357 [.loc 2 1 0 0, .agg x.row] (tabM R d1 d2 t) (.int .i64 (tparts t.rows x)) (tabM R d1 d2 t) 3 :=
  h.o357.enterM 100 3 rfl rfl rfl fun X bb hfit hp => by
    unfold tabM
    have hq : ∃ q, tparts t.rows x = q := ⟨_, rfl⟩
    obtain ⟨q, hq⟩ := hq
    rw [hq]
    unfold tparts at hq
    refine sh ?_
    refine ILoop.one 100 ?_
    refine sh ?_
    refine acnd_t (by rfl) ?_
    refine sh ?_
    refine pAt (i := 0) rfl ?_
    refine sh ?_
    refine afdR fun i => ?_
    cases ha : rget t.rows x.mesh with
    | none =>
      rw [ha] at hq
      refine sh ?_
      refine acnd_f (by decide) ?_
      subst hq
      refine sh ?_
      exact rM [0, 1, 2]
    | some a =>
      rw [ha] at hq
      dsimp only [Option.map_some] at hq ⊢
      refine sh ?_
      refine acnd_f (by decide) ?_
      refine sh ?_
      refine cS (fun k1 => ?_) (fun k1 => ?_)
      · refine sh ?_
        refine ILoop.one 100 ?_
        refine sh ?_
        refine acnd_t (by rfl) ?_
        refine sh ?_
        refine pAt (i := 1) rfl ?_
        refine sh ?_
        refine afdR fun i => ?_
        cases hb : rget t.rows x.mat with
        | none =>
          rw [hb] at hq
          refine sh ?_
          refine acnd_f (by decide) ?_
          subst hq
          refine sh ?_
          exact rM [0, 1, 2]
        | some b =>
          rw [hb] at hq
          dsimp only [Option.map_some] at hq ⊢
          refine sh ?_
          refine acnd_f (by decide) ?_
          refine sh ?_
          refine cS (fun k2 => ?_) (fun k2 => ?_)
          · refine sh ?_
            refine ILoop.one 100 ?_
            refine sh ?_
            refine acnd_t (by rfl) ?_
            refine sh ?_
            refine pAt (i := 2) rfl ?_
            refine sh ?_
            refine afdR fun i => ?_
            by_cases hx : x.tex = 0
            · rw [if_pos hx] at hq
              cases rget t.rows x.tex <;> dsimp only [Option.map_some, Option.map_none]
              · refine sh ?_
                refine acnd_t (by decide) ?_
                refine sh ?_
                refine acnd_t (by simp; exact hx) ?_
                first | rw [if_pos (by omega)] at hq | rw [if_neg (by omega)] at hq
                refine sh ?_
                refine ILoop.one 100 ?_
                refine sh ?_
                refine acnd_f (by rfl) ?_
                subst hq
                refine sh ?_
                exact rM [0, 1, 2]
              · refine sh ?_
                refine acnd_t (by decide) ?_
                refine sh ?_
                refine acnd_t (by simp; exact hx) ?_
                first | rw [if_pos (by omega)] at hq | rw [if_neg (by omega)] at hq
                refine sh ?_
                refine ILoop.one 100 ?_
                refine sh ?_
                refine acnd_f (by rfl) ?_
                subst hq
                refine sh ?_
                exact rM [0, 1, 2]
            · rw [if_neg hx] at hq
              cases hc : rget t.rows x.tex with
              | none =>
                rw [hc] at hq
                refine sh ?_
                refine acnd_t (by decide) ?_
                refine sh ?_
                refine acnd_f (by simp; exact hx) ?_
                subst hq
                refine sh ?_
                exact rM [0, 1, 2]
              | some c =>
                rw [hc] at hq
                dsimp only [Option.map_some] at hq ⊢
                refine sh ?_
                refine acnd_t (by decide) ?_
                refine sh ?_
                refine acnd_f (by simp; exact hx) ?_
                refine sh ?_
                refine cS (fun k3 => ?_) (fun k3 => ?_)
                · first | rw [if_pos (by omega)] at hq | rw [if_neg (by omega)] at hq
                  refine sh ?_
                  refine ILoop.one 100 ?_
                  refine sh ?_
                  refine acnd_f (by rfl) ?_
                  subst hq
                  refine sh ?_
                  exact rM [0, 1, 2]
                · first | rw [if_pos (by omega)] at hq | rw [if_neg (by omega)] at hq
                  refine sh ?_
                  refine ILoop.one 100 ?_
                  refine sh ?_
                  refine acnd_f (by rfl) ?_
                  subst hq
                  refine sh ?_
                  exact rM [0, 1, 2]
          · refine sh ?_
            refine ILoop.one 100 ?_
            refine sh ?_
            refine acnd_t (by rfl) ?_
            refine sh ?_
            refine pAt (i := 2) rfl ?_
            refine sh ?_
            refine afdR fun i => ?_
            by_cases hx : x.tex = 0
            · rw [if_pos hx] at hq
              cases rget t.rows x.tex <;> dsimp only [Option.map_some, Option.map_none]
              · refine sh ?_
                refine acnd_t (by decide) ?_
                refine sh ?_
                refine acnd_t (by simp; exact hx) ?_
                first | rw [if_pos (by omega)] at hq | rw [if_neg (by omega)] at hq
                refine sh ?_
                refine ILoop.one 100 ?_
                refine sh ?_
                refine acnd_f (by rfl) ?_
                subst hq
                refine sh ?_
                exact rM [0, 1, 2]
              · refine sh ?_
                refine acnd_t (by decide) ?_
                refine sh ?_
                refine acnd_t (by simp; exact hx) ?_
                first | rw [if_pos (by omega)] at hq | rw [if_neg (by omega)] at hq
                refine sh ?_
                refine ILoop.one 100 ?_
                refine sh ?_
                refine acnd_f (by rfl) ?_
                subst hq
                refine sh ?_
                exact rM [0, 1, 2]
            · rw [if_neg hx] at hq
              cases hc : rget t.rows x.tex with
              | none =>
                rw [hc] at hq
                refine sh ?_
                refine acnd_t (by decide) ?_
                refine sh ?_
                refine acnd_f (by simp; exact hx) ?_
                subst hq
                refine sh ?_
                exact rM [0, 1, 2]
              | some c =>
                rw [hc] at hq
                dsimp only [Option.map_some] at hq ⊢
                refine sh ?_
                refine acnd_t (by decide) ?_
                refine sh ?_
                refine acnd_f (by simp; exact hx) ?_
                refine sh ?_
                refine cS (fun k3 => ?_) (fun k3 => ?_)
                · first | rw [if_pos (by omega)] at hq | rw [if_neg (by omega)] at hq
                  refine sh ?_
                  refine ILoop.one 100 ?_
                  refine sh ?_
                  refine acnd_f (by rfl) ?_
                  subst hq
                  refine sh ?_
                  exact rM [0, 1, 2]
                · first | rw [if_pos (by omega)] at hq | rw [if_neg (by omega)] at hq
                  refine sh ?_
                  refine ILoop.one 100 ?_
                  refine sh ?_
                  refine acnd_f (by rfl) ?_
                  subst hq
                  refine sh ?_
                  exact rM [0, 1, 2]
      · refine sh ?_
        refine ILoop.one 100 ?_
        refine sh ?_
        refine acnd_t (by rfl) ?_
        refine sh ?_
        refine pAt (i := 1) rfl ?_
        refine sh ?_
        refine afdR fun i => ?_
        cases hb : rget t.rows x.mat with
        | none =>
          rw [hb] at hq
          refine sh ?_
          refine acnd_f (by decide) ?_
          subst hq
          refine sh ?_
          exact rM [0, 1, 2]
        | some b =>
          rw [hb] at hq
          dsimp only [Option.map_some] at hq ⊢
          refine sh ?_
          refine acnd_f (by decide) ?_
          refine sh ?_
          refine cS (fun k2 => ?_) (fun k2 => ?_)
          · refine sh ?_
            refine ILoop.one 100 ?_
            refine sh ?_
            refine acnd_t (by rfl) ?_
            refine sh ?_
            refine pAt (i := 2) rfl ?_
            refine sh ?_
            refine afdR fun i => ?_
            by_cases hx : x.tex = 0
            · rw [if_pos hx] at hq
              cases rget t.rows x.tex <;> dsimp only [Option.map_some, Option.map_none]
              · refine sh ?_
                refine acnd_t (by decide) ?_
                refine sh ?_
                refine acnd_t (by simp; exact hx) ?_
                first | rw [if_pos (by omega)] at hq | rw [if_neg (by omega)] at hq
                refine sh ?_
                refine ILoop.one 100 ?_
                refine sh ?_
                refine acnd_f (by rfl) ?_
                subst hq
                refine sh ?_
                exact rM [0, 1, 2]
              · refine sh ?_
                refine acnd_t (by decide) ?_
                refine sh ?_
                refine acnd_t (by simp; exact hx) ?_
                first | rw [if_pos (by omega)] at hq | rw [if_neg (by omega)] at hq
                refine sh ?_
                refine ILoop.one 100 ?_
                refine sh ?_
                refine acnd_f (by rfl) ?_
                subst hq
                refine sh ?_
                exact rM [0, 1, 2]
            · rw [if_neg hx] at hq
              cases hc : rget t.rows x.tex with
              | none =>
                rw [hc] at hq
                refine sh ?_
                refine acnd_t (by decide) ?_
                refine sh ?_
                refine acnd_f (by simp; exact hx) ?_
                subst hq
                refine sh ?_
                exact rM [0, 1, 2]
              | some c =>
                rw [hc] at hq
                dsimp only [Option.map_some] at hq ⊢
                refine sh ?_
                refine acnd_t (by decide) ?_
                refine sh ?_
                refine acnd_f (by simp; exact hx) ?_
                refine sh ?_
                refine cS (fun k3 => ?_) (fun k3 => ?_)
                · first | rw [if_pos (by omega)] at hq | rw [if_neg (by omega)] at hq
                  refine sh ?_
                  refine ILoop.one 100 ?_
                  refine sh ?_
                  refine acnd_f (by rfl) ?_
                  subst hq
                  refine sh ?_
                  exact rM [0, 1, 2]
                · first | rw [if_pos (by omega)] at hq | rw [if_neg (by omega)] at hq
                  refine sh ?_
                  refine ILoop.one 100 ?_
                  refine sh ?_
                  refine acnd_f (by rfl) ?_
                  subst hq
                  refine sh ?_
                  exact rM [0, 1, 2]
          · refine sh ?_
            refine ILoop.one 100 ?_
            refine sh ?_
            refine acnd_t (by rfl) ?_
            refine sh ?_
            refine pAt (i := 2) rfl ?_
            refine sh ?_
            refine afdR fun i => ?_
            by_cases hx : x.tex = 0
            · rw [if_pos hx] at hq
              cases rget t.rows x.tex <;> dsimp only [Option.map_some, Option.map_none]
              · refine sh ?_
                refine acnd_t (by decide) ?_
                refine sh ?_
                refine acnd_t (by simp; exact hx) ?_
                first | rw [if_pos (by omega)] at hq | rw [if_neg (by omega)] at hq
                refine sh ?_
                refine ILoop.one 100 ?_
                refine sh ?_
                refine acnd_f (by rfl) ?_
                subst hq
                refine sh ?_
                exact rM [0, 1, 2]
              · refine sh ?_
                refine acnd_t (by decide) ?_
                refine sh ?_
                refine acnd_t (by simp; exact hx) ?_
                first | rw [if_pos (by omega)] at hq | rw [if_neg (by omega)] at hq
                refine sh ?_
                refine ILoop.one 100 ?_
                refine sh ?_
                refine acnd_f (by rfl) ?_
                subst hq
                refine sh ?_
                exact rM [0, 1, 2]
            · rw [if_neg hx] at hq
              cases hc : rget t.rows x.tex with
              | none =>
                rw [hc] at hq
                refine sh ?_
                refine acnd_t (by decide) ?_
                refine sh ?_
                refine acnd_f (by simp; exact hx) ?_
                subst hq
                refine sh ?_
                exact rM [0, 1, 2]
              | some c =>
                rw [hc] at hq
                dsimp only [Option.map_some] at hq ⊢
                refine sh ?_
                refine acnd_t (by decide) ?_
                refine sh ?_
                refine acnd_f (by simp; exact hx) ?_
                refine sh ?_
                refine cS (fun k3 => ?_) (fun k3 => ?_)
                · first | rw [if_pos (by omega)] at hq | rw [if_neg (by omega)] at hq
                  refine sh ?_
                  refine ILoop.one 100 ?_
                  refine sh ?_
                  refine acnd_f (by rfl) ?_
                  subst hq
                  refine sh ?_
                  exact rM [0, 1, 2]
                · first | rw [if_pos (by omega)] at hq | rw [if_neg (by omega)] at hq
                  refine sh ?_
                  refine ILoop.one 100 ?_
                  refine sh ?_
                  refine acnd_f (by rfl) ?_
                  subst hq
                  refine sh ?_
                  exact rM [0, 1, 2]
end Go.UM

namespace Go.UM
open Go.AM
set_option maxRecDepth 4000
def f3 (r : Rd) : T3 × Rd := (⟨(r.int 2).1, ((r.int 2).2.int 2).1, (((r.int 2).2.int 2).2.int 2).1⟩, (((r.int 2).2.int 2).2.int 2).2)
def f2 (r : Rd) : (Int × Int) × Rd := (((r.num 2).1, ((r.num 2).2.num 2).1), ((r.num 2).2.num 2).2)
def ft (r : Rd) : T3 × Rd := (⟨(r.num 1).1, ((r.num 1).2.num 1).1, (((r.num 1).2.num 1).2.num 1).1⟩, (((r.num 1).2.num 1).2.num 1).2)
theorem RdOk.f3 {B : List UInt8} {r : Rd} (h : RdOk B r) : RdOk B (f3 r).2 := ((h.int 2).int 2).int 2
theorem RdOk.f2 {B : List UInt8} {r : Rd} (h : RdOk B r) : RdOk B (f2 r).2 := (h.num 2).num 2
theorem RdOk.ft {B : List UInt8} {r : Rd} (h : RdOk B r) : RdOk B (ft r).2 := ((h.num 1).num 1).num 1
theorem RdOk.rdN {B : List UInt8} {α : Type} {f : Rd → α × Rd} (hf : ∀ r, RdOk B r → RdOk B (f r).2) (n : Nat) : ∀ {r : Rd}, RdOk B r → RdOk B (rdN f n r).2 := by
  induction n with
  | zero => exact fun h => h
  | succ n ih => exact fun h => hf _ (ih h)
def zMs : Ms := ⟨[], [], []⟩
def mq (nv nt : Nat) (r : Rd) : Ms × Rd := (⟨(rdN f3 nv r).1, (rdN f2 nv (rdN f3 nv r).2).1, (rdN ft nt (rdN f2 nv (rdN f3 nv r).2).2).1⟩, (rdN ft nt (rdN f2 nv (rdN f3 nv r).2).2).2)
def mfin (q : Ms × Rd) : Ms × Int := if q.2.fin ≠ 0 then (zMs, q.2.fin) else if mchk q.1 ≠ 0 then (zMs, mchk q.1) else (q.1, 0)
def mdecd (b : List UInt8) : Ms × Int := mfin (mq ((⟨b, 0, true⟩ : Rd).num 1).1 (((⟨b, 0, true⟩ : Rd).num 1).2.num 1).1 (((⟨b, 0, true⟩ : Rd).num 1).2.num 1).2)
end Go.UM

namespace Go.UM
open Go.AM
set_option maxRecDepth 4000
def tri : List UInt8 → List T3
  | a :: b :: c :: r => ⟨a.toNat, b.toNat, c.toNat⟩ :: tri r
  | _ => []
def zTex : Tex := ⟨0, []⟩
def tdec (b : List UInt8) : Tex × Int := match b with
  | [] => (zTex, 4)
  | s :: rest => if rest.length < 3 * (s.toNat * s.toNat) then (zTex, 4) else if 3 * (s.toNat * s.toNat) < rest.length then (zTex, 5) else
    if tchk ⟨s.toNat, tri rest⟩ ≠ 0 then (zTex, tchk ⟨s.toNat, tri rest⟩) else (⟨s.toNat, tri rest⟩, 0)
end Go.UM

namespace Go.UM
open Go.AM
set_option maxRecDepth 4000
def fw (w : Int) (r : Rd) : T3 × Rd := (⟨(r.num w).1, ((r.num w).2.num w).1, (((r.num w).2.num w).2.num w).1⟩, (((r.num w).2.num w).2.num w).2)
theorem RdOk.fw {B : List UInt8} {r : Rd} (h : RdOk B r) (w : Int) : RdOk B (fw w r).2 := ((h.num w).num w).num w
def matd (r : Rd) : Mat × Rd := (⟨(r.num 1).1, (fw 2 (r.num 1).2).1, ((fw 2 (r.num 1).2).2.num 2).1⟩, ((fw 2 (r.num 1).2).2.num 2).2)
def ligd (r : Rd) : Lig × Rd := (⟨(r.num 1).1, (fw 4 (r.num 1).2).1, (f3 (fw 4 (r.num 1).2).2).1, (f3 (f3 (fw 4 (r.num 1).2).2).2).1, (f3 (f3 (f3 (fw 4 (r.num 1).2).2).2).2).1⟩, (f3 (f3 (f3 (fw 4 (r.num 1).2).2).2).2).2)
def apart (k : Int) (b : List UInt8) : As × Int :=
  if k = 1 then ({ As.zero k with m := (mdecd b).1 }, (mdecd b).2)
  else if k = 2 then ({ As.zero k with x := (tdec b).1 }, (tdec b).2)
  else if k = 3 then ({ As.zero k with mt := (matd ⟨b, 0, true⟩).1 }, (matd ⟨b, 0, true⟩).2.fin)
  else if k = 4 then ({ As.zero k with li := (ligd ⟨b, 0, true⟩).1 }, (ligd ⟨b, 0, true⟩).2.fin)
  else (As.zero k, 0)
end Go.UM

namespace Go.UM
open Go.AM
set_option maxRecDepth 4000
end Go.UM

namespace Go.UM
open Go.AM
set_option maxRecDepth 4000
theorem asame_eq {a b : As} (h : asame a b = true) : a = b := by
  simp only [asame, decide_eq_true_eq] at h
  obtain ⟨ak, ⟨_, _, _⟩, ⟨_, _⟩, am, al⟩ := a
  obtain ⟨bk, ⟨_, _, _⟩, ⟨_, _⟩, bm, bl⟩ := b
  dsimp only at h
  obtain ⟨rfl, rfl, rfl, rfl, rfl, rfl, rfl, rfl⟩ := h
  rfl
theorem achk_zero {a : As} (h : achk a = 0) : own a = 0 ∧ a.bare = As.zero a.k ∧ (abytes a).length ≤ cap a.k := by
  unfold achk at h
  split at h
  · rename_i h1; exact absurd h h1
  · rename_i h1
    split at h
    · cases h
    · rename_i h2
      split at h
      · cases h
      · rename_i h3
        exact ⟨by simpa using h1, asame_eq (by simpa using h2), by omega⟩
end Go.UM

namespace Go.UM
open Go.AM
set_option maxRecDepth 4000
theorem clone26_c {R : Env} (h : N361 R) (l : List T3) (hl : l.length ≤ 1073741824) : R.Mc 361 [.isl 3 (slc3 l)] [] (.osl 0 l.length) [(0, .arr (R.ty 26) 3 (slc3 l))] 1 :=
  h.o361.enterM 60 0 rfl rfl rfl fun X b hfit hp => by
    refine sh ?_
    refine ANil.mk (fun hn => ?_) ?_
    · have : l = [] := by simpa [slc3] using hn
      subst this
      refine sh ?_
      exact rM [50]
    · refine sh ?_
      exact rM [0]
theorem clone18_c {R : Env} (h : N362 R) (l : List (Int × Int)) (hl : l.length ≤ 1073741824) : R.Mc 362 [.isl 2 (slc2 l)] [] (.osl 0 l.length) [(0, .arr (R.ty 18) 2 (slc2 l))] 1 :=
  h.o362.enterM 60 0 rfl rfl rfl fun X b hfit hp => by
    refine sh ?_
    refine ANil.mk (fun hn => ?_) ?_
    · have : l = [] := by simpa [slc2] using hn
      subst this
      refine sh ?_
      exact rM [50]
    · refine sh ?_
      exact rM [0]
theorem clone13_c {R : Env} (h : N101 R) (l : List T3) (hl : l.length ≤ 1073741824) : R.Mc 101 [.isl 3 (slc3 l)] [] (.osl 0 l.length) [(0, .arr (R.ty 13) 3 (slc3 l))] 1 :=
  h.o101.enterM 60 0 rfl rfl rfl fun X b hfit hp => by
    refine sh ?_
    refine ANil.mk (fun hn => ?_) ?_
    · have : l = [] := by simpa [slc3] using hn
      subst this
      refine sh ?_
      exact rM [50]
    · refine sh ?_
      exact rM [0]
theorem clone26p_c {R : Env} (h : N361 R) (l : List T3) (hl : l.length ≤ 1073741824) : R.Pc 361 [.isl 3 (slc3 l)] (.isl 3 (slc3 l)) := (clone26_c h l hl).pc fZ
theorem clone18p_c {R : Env} (h : N362 R) (l : List (Int × Int)) (hl : l.length ≤ 1073741824) : R.Pc 362 [.isl 2 (slc2 l)] (.isl 2 (slc2 l)) := (clone18_c h l hl).pc fZ
theorem clone13p_c {R : Env} (h : N101 R) (l : List T3) (hl : l.length ≤ 1073741824) : R.Pc 101 [.isl 3 (slc3 l)] (.isl 3 (slc3 l)) := (clone13_c h l hl).pc fZ
theorem copied_c' {R : Env} (h : N356 R) (a : As) (f : a.Few) : R.Pc 356 [.agg a.row] (.agg a.row) :=
  h.o356.enter 100 rfl fun X bb hfit hp => by
    obtain ⟨f1, f2, f3, f4⟩ := f
    refine sh ?_
    refine ICall.pure h.n361.o361.hb (clone26p_c h.n361 a.m.v (by omega)) rfl ?_
    refine sh ?_
    refine ICall.pure h.n362.o362.hb (clone18p_c h.n362 a.m.uv (by omega)) rfl ?_
    refine sh ?_
    refine ICall.pure h.n101.o101.hb (clone13p_c h.n101 a.m.t (by omega)) rfl ?_
    refine sh ?_
    refine ICall.pure h.n101.o101.hb (clone13p_c h.n101 a.x.t (by omega)) rfl ?_
    refine sh ?_
    exact rT
theorem mchk_len {m : Ms} (h : mchk m = 0) : m.v.length ≤ 64 ∧ m.t.length ≤ 64 ∧ m.uv.length = m.v.length ∧ m.v.any off3 = false := by
  unfold mchk at h
  split at h
  · cases h
  · split at h
    · cases h
    · split at h
      · cases h
      · rename_i h1 h2 h3
        exact ⟨by omega, by omega, by omega, by simpa using h3⟩
theorem achk_few {a : As} (h : achk a = 0) (hx : a.x.t.length ≤ 1000) : a.Few := by
  obtain ⟨ow, hb, _⟩ := achk_zero h
  by_cases k : a.k = 1
  · rw [own, if_pos k] at ow
    obtain ⟨h1, h2, h3, _⟩ := mchk_len ow
    exact ⟨by omega, by omega, by omega, hx⟩
  · have e : a.m = zMs0 := by
      have e1 : a.bare.m = (As.zero a.k).m := by rw [hb]
      have e2 : a.bare.m = a.m := by unfold As.bare; rw [if_neg k]; repeat' split
                                     all_goals rfl
      rw [← e2, e1]; rfl
    exact ⟨by rw [e]; simp [zMs0], by rw [e]; simp [zMs0], by rw [e]; simp [zMs0], hx⟩
def tload (t : Tb) (hd : Int) (f : Mf) (a : As) : Tb × Int :=
  if hd < 1 ∨ 65536 < hd then (t, 2) else if (rget t.rows hd).isSome = true then (t, 10) else if achk a ≠ 0 then (t, achk a) else if f.kind ≠ a.k then (t, 12) else (⟨t.rows ++ [⟨hd, f, a⟩], t.ins⟩, 0)
set_option maxHeartbeats 4000000 in
theorem load_c {R : Env} (h : N346 R) (d1 d2 : Bool) (t : Tb) (hd : Int) (f : Mf) (a : As) (fx : a.x.t.length ≤ 1000) (fb : a.bare.Few) (hn : t.rows.length ≤ 1000000) :
    R.Mc 346 [.loc 2 1 0 0, .int .i64 hd, .agg f.row, .agg a.row] (tabM R d1 d2 t) (.int .i64 (tload t hd f a).2) (tabM R d1 d2 (tload t hd f a).1) 3 :=
  h.o346.enterM 100 3 rfl rfl rfl fun X bb hfit hp => by
    generalize hq : tload t hd f a = q
    unfold tload at hq
    unfold tabM
    refine sh ?_
    refine cM false [0, 1, 2] (tnone_c h.n355 d1 d2 t) ?_
    repeat (intro _; first | refine eK ?_ | refine eP ?_)
    refine sh ?_
    refine cS (fun h1 => ?_) (fun h1 => ?_)
    · rw [if_pos (by omega)] at hq
      subst hq
      refine sh ?_
      exact rM [0, 1, 2]
    · refine sh ?_
      refine cS (fun h2 => ?_) (fun h2 => ?_)
      · rw [if_pos (by omega)] at hq
        subst hq
        refine sh ?_
        exact rM [0, 1, 2]
      · rw [if_neg (by omega)] at hq
        refine sh ?_
        refine afdR fun i => ?_
        cases hr : rget t.rows hd with
        | some r =>
          rw [hr, if_pos (show (some r).isSome = true from rfl)] at hq
          dsimp only [Option.map_some]
          subst hq
          refine sh ?_
          exact rM [0, 1, 2]
        | none =>
          rw [hr, if_neg (by simp)] at hq
          dsimp only [Option.map_none]
          refine sh ?_
          refine ICall.pure h.n294.o294.hb (acheckX_c h.n294 a fx fb) rfl ?_
          refine sh ?_
          refine cS (fun h3 => ?_) (fun h3 => ?_)
          · rw [if_pos h3] at hq
            subst hq
            refine sh ?_
            exact rM [0, 1, 2]
          · rw [if_neg (by simpa using h3)] at hq
            refine sh ?_
            refine cS (fun h4 => ?_) (fun h4 => ?_)
            · rw [if_pos h4] at hq
              subst hq
              refine sh ?_
              exact rM [0, 1, 2]
            · rw [if_neg (by simpa using h4)] at hq
              refine sh ?_
              refine ICall.pure h.n356.o356.hb (copied_c' h.n356 a (achk_few h3 fx)) rfl ?_
              refine sh ?_
              refine afdR fun i => ?_
              rw [hr]
              dsimp only [Option.map_none]
              subst hq
              refine sh ?_
              refine rM [0, 1, 2] ?_
              all_goals repeat' (first | exact True.intro | refine And.intro ?_ ?_ | (intro _u; clear _u) | (with_reducible first | exact DnLe.fg | refine eM ?_ ?_ | refine eF ?_ ?_ ?_ | refine eN ?_ | refine eL ?_ ?_ ?_ | refine eA ?_ ?_ | refine IWk.mk ⟨_, hp, rfl⟩ ?_ ?_) | refine IWk.mk ⟨_, hp, rfl⟩ ?_ ?_)
              all_goals try first | with_reducible rfl | omega | exact .inl (by decide) | (simp; done) | rfl
              all_goals (simp [rwL, rwE, Rw.row])
def offs (x : Af) (l : List T3) : Int := ((l.map fun v => (place4 x v).2).find? fun e => e != 0).getD 0
def tput (t : Tb) (x : In) : Tb × Int :=
  if x.n < 0 ∨ 65536 < x.n then (t, 2) else if tparts t.rows x ≠ 0 then (t, tparts t.rows x) else if (iget t.ins x).isSome = true then (t, 10)
  else match rget t.rows x.mesh with
    | none => (t, 11)
    | some r => if offs x.t r.a.m.v ≠ 0 then (t, offs x.t r.a.m.v) else (⟨t.rows, t.ins ++ [x]⟩, 0)
theorem offs_at {x : Af} {l : List T3} {k : Nat} {v : T3} (h : l[k]? = some v) (h1 : ∀ (j : Nat) (u : T3), j < k → l[j]? = some u → (place4 x u).2 = 0) (h2 : (place4 x v).2 ≠ 0) : offs x l = (place4 x v).2 := by
  unfold offs
  induction l generalizing k with
  | nil => simp at h
  | cons a r ih =>
    cases k with
    | zero =>
      simp at h; subst h
      simp [List.find?_cons, h2]
    | succ k =>
      have e := h1 0 a (by omega) rfl
      simp only [List.map_cons, List.find?_cons, e, bne_self_eq_false]
      exact ih (k := k) (by simpa using h) (fun j u hj hu => h1 (j + 1) u (by omega) (by simpa using hu))
theorem offs_none {x : Af} {l : List T3} (h : ∀ (j : Nat) (u : T3), j < l.length → l[j]? = some u → (place4 x u).2 = 0) : offs x l = 0 := by
  unfold offs
  induction l with
  | nil => rfl
  | cons a r ih =>
    have e := h 0 a (by simp) rfl
    simp only [List.map_cons, List.find?_cons, e, bne_self_eq_false]
    exact ih fun j u hj hu => h (j + 1) u (by simpa using hj) (by simpa using hu)
theorem tparts_some {l : List Rw} {x : In} (h : tparts l x = 0) : ∃ r, rget l x.mesh = some r ∧ r.f.kind = 1 := by
  unfold tparts at h
  cases hr : rget l x.mesh with
  | none => rw [hr] at h; cases h
  | some r =>
    rw [hr] at h
    refine ⟨r, rfl, ?_⟩
    dsimp only at h
    cases hb : rget l x.mat with
    | none => rw [hb] at h; cases h
    | some b =>
      rw [hb] at h
      dsimp only at h
      by_cases hx : x.tex = 0
      · rw [if_pos hx] at h
        by_cases k : r.f.kind = 1
        · exact k
        · rw [if_pos (.inl k)] at h; cases h
      · rw [if_neg hx] at h
        cases hc : rget l x.tex with
        | none => rw [hc] at h; cases h
        | some c =>
          rw [hc] at h
          dsimp only at h
          by_cases k : r.f.kind = 1
          · exact k
          · rw [if_pos (.inl k)] at h; cases h
structure RwOk (r : Rw) : Prop where
  h : 1 ≤ r.h ∧ r.h ≤ 65536
  a : achk r.a = 0
  k : r.f.kind = r.a.k
  x : r.a.x.t.length ≤ 1000
theorem rget_mem {l : List Rw} {h : Int} {r : Rw} (e : rget l h = some r) : r ∈ l ∧ r.h = h := ⟨List.mem_of_find?_eq_some e, by simpa using List.find?_some e⟩
theorem RwOk.verts {r : Rw} (o : RwOk r) (h : r.f.kind = 1) : r.a.m.v.length ≤ 64 ∧ ∀ v ∈ r.a.m.v, off3 v = false := by
  have k1 : r.a.k = 1 := o.k.symm.trans h
  have ow := (achk_zero o.a).1
  rw [own, if_pos k1] at ow
  obtain ⟨h1, _, _, h4⟩ := mchk_len ow
  exact ⟨h1, fun v hv => by
    have := List.any_eq_false.1 h4 v hv
    simpa using this⟩
theorem off3_I {v : T3} (h : off3 v = false) : v.I := by
  have := off3_in h
  exact ⟨by simp only [inI]; omega, by simp only [inI]; omega, by simp only [inI]; omega⟩
set_option maxHeartbeats 4000000 in
theorem tput_c {R : Env} (h : N347 R) (d1 d2 : Bool) (t : Tb) (x : In) (ok : ∀ r ∈ t.rows, RwOk r) (hx : x.t.I) (hn : t.ins.length ≤ 1000000) :
    R.Mc 347 [.loc 2 1 0 0, .agg x.row] (tabM R d1 d2 t) (.int .i64 (tput t x).2) (tabM R d1 d2 (tput t x).1) 3 :=
  h.o347.enterM 100 3 rfl rfl rfl fun X bb hfit hp => by
    generalize hq : tput t x = q
    unfold tput at hq
    unfold tabM
    refine sh ?_
    refine cM false [0, 1, 2] (tnone_c h.n355 d1 d2 t) ?_
    repeat (intro _; first | refine eK ?_ | refine eP ?_)
    refine sh ?_
    refine cS (fun h1 => ?_) (fun h1 => ?_)
    · rw [if_pos (by omega)] at hq
      subst hq
      refine sh ?_
      exact rM [0, 1, 2]
    · refine sh ?_
      refine cS (fun h2 => ?_) (fun h2 => ?_)
      · rw [if_pos (by omega)] at hq
        subst hq
        refine sh ?_
        exact rM [0, 1, 2]
      · rw [if_neg (by omega)] at hq
        refine sh ?_
        refine cM false [0, 1, 2] (parts_c h.n357 d1 d2 t x) ?_
        repeat (intro _; first | refine eK ?_ | refine eP ?_)
        refine sh ?_
        refine cS (fun h3 => ?_) (fun h3 => ?_)
        · rw [if_pos h3] at hq
          subst hq
          refine sh ?_
          exact rM [0, 1, 2]
        · rw [if_neg (by simpa using h3)] at hq
          obtain ⟨r, hr, hk⟩ := tparts_some h3
          have hvs := (ok r (rget_mem hr).1).verts hk
          refine sh ?_
          refine ICall.pure h.n358.o358.hb (of_c h.n358 x) rfl ?_
          refine sh ?_
          refine afdI fun i => ?_
          cases hi : iget t.ins x with
          | some y =>
            rw [hi, if_pos (show (some y).isSome = true from rfl)] at hq
            dsimp only [Option.map_some]
            subst hq
            refine sh ?_
            exact rM [0, 1, 2]
          | none =>
            rw [hi, if_neg (by simp), hr] at hq
            dsimp only at hq
            dsimp only [Option.map_none]
            refine sh ?_
            refine afdR fun i => ?_
            rw [hr]
            dsimp only [Option.map_some]
            refine sh ?_
            refine lPa 100 (fun k : Nat => k ≤ r.a.m.v.length ∧ ∀ (j : Nat) (u : T3), j < k → r.a.m.v[j]? = some u → (place4 x.t u).2 = 0) (fun k => ⟨[(0, .loc 2 1 0 0), (3, .loc 3 1 0 0), (50, .isl 3 (slc3 r.a.m.v)), (51, .int .i64 r.a.m.v.length), (52, .int .i64 k)], [(3, .var (R.ty 44) x.row), (0, .map 1 false true d1 41 (rwL t.rows)), (1, .map 4 true true d2 16 (sIn t.ins)), (2, .var (R.ty 47) [.omap 0, .omap 1])], 4⟩) (fun k => r.a.m.v.length - k) (0) ?_ ?_
            · exact ⟨Nat.zero_le _, fun j u hj => absurd hj (Nat.not_lt_zero j)⟩
            · intro k hk
              dsimp only
              have hlen := hvs.1
              refine sh ?_
              refine cS (fun h4 => ?_) (fun h4 => ?_)
              · obtain ⟨v, hv⟩ : ∃ u_, r.a.m.v[k]? = some u_ := ⟨_, List.getElem?_eq_getElem (by first | omega | (simp <;> omega))⟩
                refine sh ?_
                refine eget_map hv ?_
                refine sh ?_
                refine ICall.pure h.n241.o241.hb (place4_c h.n241 hx (off3_I (hvs.2 v (List.mem_of_getElem? hv)))) rfl ?_
                refine sh ?_
                refine cS (fun h5 => ?_) (fun h5 => ?_)
                · rw [if_pos (by rw [offs_at hv hk.2 h5]; exact h5), offs_at hv hk.2 h5] at hq
                  subst hq
                  refine sh ?_
                  exact rM [0, 1, 2]
                · refine sh ?_
                  refine nXa (k + 1) ?_ ?_
                  · refine ⟨by omega, fun j u hj hu => ?_⟩
                    by_cases e : j = k
                    · subst e
                      rw [hv] at hu
                      cases hu
                      exact h5
                    · exact hk.2 j u (by omega) hu
                  · omega
              · rw [offs_none (fun j u hj => hk.2 j u (by omega)), if_neg (by simp)] at hq
                refine sh ?_
                refine ICall.pure h.n358.o358.hb (of_c h.n358 x) rfl ?_
                refine sh ?_
                refine afdI fun i => ?_
                rw [hi]
                dsimp only [Option.map_none]
                subst hq
                refine sh ?_
                refine rM [0, 1, 2] ?_
                all_goals repeat' (first | exact True.intro | refine And.intro ?_ ?_ | (intro _u; clear _u) | (with_reducible first | exact DnLe.fg | refine eM ?_ ?_ | refine eF ?_ ?_ ?_ | refine eN ?_ | refine eL ?_ ?_ ?_ | refine eA ?_ ?_ | refine IWk.mk ⟨_, hp, rfl⟩ ?_ ?_) | refine IWk.mk ⟨_, hp, rfl⟩ ?_ ?_)
                all_goals try first | with_reducible rfl | omega | exact .inl (by decide) | (simp; done) | rfl
                all_goals (simp [sIn, In.row])
end Go.UM

namespace Go.UM
open Go.AM
set_option maxRecDepth 4000
theorem in_kv (x r : In) : kvB [.int .i64 x.mesh, .int .i64 x.mat, .int .i64 x.tex, .int .i64 x.n] r.row = sameN x r := by
  show (x.mesh == r.mesh && (x.mat == r.mat && (x.tex == r.tex && (x.n == r.n && true)))) = _
  rw [Bool.and_true]; rfl
theorem in_findE (x : In) : ∀ l : List In, ∃ i : Nat, mfind [.int .i64 x.mesh, .int .i64 x.mat, .int .i64 x.tex, .int .i64 x.n] (sIn l) = (iget l x).map (fun r => (i, r.t.row)) ∧ ((iget l x).isSome = true → (sIn l).eraseIdx i = sIn (l.eraseP (sameN x)))
  | [] => ⟨0, rfl, fun h => by simp [iget] at h⟩
  | r :: l => by
    obtain ⟨i, hi, he⟩ := in_findE x l
    by_cases hh : sameN x r = true
    · refine ⟨0, ?_, fun _ => ?_⟩
      · show (if kvB [.int .i64 x.mesh, .int .i64 x.mat, .int .i64 x.tex, .int .i64 x.n] r.row then some (0, r.row.drop 4) else _) = _
        rw [in_kv, if_pos hh]; simp only [iget, List.find?_cons, hh]; rfl
      · rw [List.eraseP_cons_of_pos hh]; rfl
    · refine ⟨i + 1, ?_, fun h => ?_⟩
      · show (if kvB [.int .i64 x.mesh, .int .i64 x.mat, .int .i64 x.tex, .int .i64 x.n] r.row then some (0, r.row.drop 4) else (mfind _ (sIn l)).map fun q => (q.1 + 1, q.2)) = _
        rw [in_kv, if_neg hh, hi]; simp only [iget, List.find?_cons, hh]
        cases List.find? (fun y => sameN x y) l <;> rfl
      · rw [List.eraseP_cons_of_neg hh]
        have h' : (iget l x).isSome = true := by simpa [iget, List.find?_cons, hh] using h
        show r.row :: (sIn l).eraseIdx i = r.row :: sIn (l.eraseP (sameN x))
        rw [he h']
theorem afdD {x : In} {l : List In} {K : Option (Nat × List AV) → Prop} (k : ∀ i : Nat, ((iget l x).isSome = true → (sIn l).eraseIdx i = sIn (l.eraseP (sameN x))) → K ((iget l x).map fun r => (i, r.t.row))) : AFd [.i, .i, .i, .i] [.int .i64 x.mesh, .int .i64 x.mat, .int .i64 x.tex, .int .i64 x.n] (sIn l) K := by
  obtain ⟨i, hi, he⟩ := in_findE x l
  exact ⟨in_ok, by rw [hi]; exact k i he⟩
def ttake (t : Tb) (x : In) : Tb × Int := if (iget t.ins x).isSome = true then (⟨t.rows, t.ins.eraseP (sameN x)⟩, 0) else (t, 11)
theorem ttake_c {R : Env} (h : N427 R) (d1 d2 : Bool) (t : Tb) (x : In) : R.Mc 427 [.loc 2 1 0 0, .agg x.row] (tabM R d1 d2 t) (.int .i64 (ttake t x).2) (tabM R d1 false (ttake t x).1) 3 :=
  h.o427.enterM 100 3 rfl rfl rfl fun X bb hfit hp => by
    generalize hq : ttake t x = q
    unfold ttake at hq
    unfold tabM
    refine sh ?_
    refine cM false [0, 1, 2] (tnone_c h.n355 d1 d2 t) ?_
    repeat (intro _; first | refine eK ?_ | refine eP ?_)
    refine sh ?_
    refine ICall.pure h.n358.o358.hb (of_c h.n358 x) rfl ?_
    refine sh ?_
    refine afdI fun i => ?_
    cases hr : iget t.ins x with
    | none =>
      rw [hr, if_neg (by simp)] at hq
      dsimp only [Option.map_none]
      subst hq
      refine sh ?_
      exact rM [0, 1, 2]
    | some y =>
      rw [hr, if_pos (show (some y).isSome = true from rfl)] at hq
      dsimp only [Option.map_some]
      refine sh ?_
      refine ICall.pure h.n358.o358.hb (of_c h.n358 x) rfl ?_
      refine sh ?_
      refine afdD fun i he => ?_
      rw [hr] at he ⊢
      dsimp only [Option.map_some]
      subst hq
      refine sh ?_
      refine rM [0, 1, 2] ?_
      all_goals repeat' (first | exact True.intro | refine And.intro ?_ ?_ | (intro _u; clear _u) | (with_reducible first | exact DnLe.fg | refine eM ?_ ?_ | refine eF ?_ ?_ ?_ | refine eN ?_ | refine eL ?_ ?_ ?_ | refine eA ?_ ?_ | refine IWk.mk ⟨_, hp, rfl⟩ ?_ ?_) | refine IWk.mk ⟨_, hp, rfl⟩ ?_ ?_)
      all_goals try first | with_reducible rfl | omega | exact .inl (by decide) | (simp; done) | rfl
      all_goals (exact he rfl)
theorem delK_some {q : Nat × List AV} {es es' : List (List AV)} {dn : Dn} {K : List (List AV) → Dn → Prop} (h : es.eraseIdx q.1 = es') (k : K es' (dn.dl q.1)) : delK (some q) es dn K := by subst h; exact k
def hits (hd : Int) (x : In) : Bool := (x.mesh == hd || x.mat == hd) || x.tex == hd
theorem hits_c {R : Env} (h : N437 R) (hd : Int) (x : In) : R.Mc 437 [.agg [.int .i64 x.mesh, .int .i64 x.mat, .int .i64 x.tex, .int .i64 x.n], .agg x.t.row, .loc 0 1 0 0] [(0, .var (R.ty 10) [.int .i64 hd])] (.bool (hits hd x)) [(0, .var (R.ty 10) [.int .i64 hd])] 1 :=
  h.o437.enterM 100 1 rfl rfl rfl fun X bb hfit hp => by
    generalize hq : hits hd x = q
    unfold hits at hq
    refine sh ?_
    refine cS (fun h1 => ?_) (fun h1 => ?_)
    · rw [beq_iff_eq.2 h1, Bool.true_or, Bool.true_or] at hq
      subst hq
      refine sh ?_
      exact rM [0]
    · rw [beq_eq_false_iff_ne.2 h1, Bool.false_or] at hq
      refine sh ?_
      refine cS (fun h2 => ?_) (fun h2 => ?_)
      · rw [beq_iff_eq.2 h2, Bool.true_or] at hq
        subst hq
        refine sh ?_
        exact rM [0]
      · rw [beq_eq_false_iff_ne.2 h2, Bool.false_or] at hq
        subst hq
        refine sh ?_
        exact rM [0]
theorem in_findAt : ∀ {l : List In} {i : Nat} {x : In}, l.Pairwise (fun a b => sameN a b = false) → l[i]? = some x → mfind [.int .i64 x.mesh, .int .i64 x.mat, .int .i64 x.tex, .int .i64 x.n] (sIn l) = some (i, x.t.row)
  | [], i, x, _, h => by simp at h
  | r :: l, 0, x, _, h => by
    simp at h; subst h
    show (if kvB [.int .i64 r.mesh, .int .i64 r.mat, .int .i64 r.tex, .int .i64 r.n] r.row then some (0, r.row.drop 4) else _) = _
    rw [in_kv, if_pos (by simp [sameN])]; rfl
  | r :: l, i + 1, x, hd, h => by
    obtain ⟨h1, h2⟩ := List.pairwise_cons.1 hd
    have hx : l[i]? = some x := by simpa using h
    have hn : sameN x r = false := by
      have := h1 x (List.mem_of_getElem? hx)
      unfold sameN at this ⊢
      rw [← this]
      congr 1; exact Bool.beq_comm
      congr 1; exact Bool.beq_comm
      congr 1; exact Bool.beq_comm
      exact Bool.beq_comm
    show (if kvB [.int .i64 x.mesh, .int .i64 x.mat, .int .i64 x.tex, .int .i64 x.n] r.row then some (0, r.row.drop 4) else (mfind _ (sIn l)).map fun q => (q.1 + 1, q.2)) = _
    rw [in_kv, if_neg (by rw [hn]; simp), in_findAt h2 hx]; rfl
theorem afdAt {x : In} {l : List In} {i : Nat} {K : Option (Nat × List AV) → Prop} (hd : l.Pairwise (fun a b => sameN a b = false)) (hx : l[i]? = some x) (k : K (some (i, x.t.row))) : AFd [.i, .i, .i, .i] [.int .i64 x.mesh, .int .i64 x.mat, .int .i64 x.tex, .int .i64 x.n] (sIn l) K :=
  ⟨in_ok, by rw [in_findAt hd hx]; exact k⟩
def nF (l : List Bool) : Nat := l.countP fun b => !b
theorem nF_set {l : List Bool} {i : Nat} (h : l[i]? = some false) : nF (l.set i true) + 1 = nF l := by
  unfold nF
  induction l generalizing i with
  | nil => simp at h
  | cons a r ih =>
    cases i with
    | zero => simp at h; subst h; simp
    | succ i =>
      have := ih (i := i) (by simpa using h)
      simp only [List.set_cons_succ, List.countP_cons]; omega
theorem nF_erase {l : List Bool} {i : Nat} (h : l[i]? = some true) : nF (l.eraseIdx i) = nF l := by
  unfold nF
  induction l generalizing i with
  | nil => simp at h
  | cons a r ih =>
    cases i with
    | zero => simp at h; subst h; simp
    | succ i =>
      have := ih (i := i) (by simpa using h)
      simp only [List.eraseIdx_cons_succ, List.countP_cons]; omega
structure Dfi (p : In → Bool) (l0 l : List In) (sn : List Bool) : Prop where
  len : sn.length = l.length
  fl : l.filter (fun x => !p x) = l0.filter (fun x => !p x)
  nd : l.Pairwise (fun a b => sameN a b = false)
  sn : ∀ (i : Nat) (x : In), l[i]? = some x → sn[i]? = some true → p x = false
theorem Dfi.init {p : In → Bool} {l0 : List In} (hd : l0.Pairwise (fun a b => sameN a b = false)) : Dfi p l0 l0 ((sIn l0).map fun _ => false) :=
  ⟨by simp, rfl, hd, fun i x _ h => by simp [List.getElem?_map] at h⟩
theorem Dfi.keep {p : In → Bool} {l0 l : List In} {sn : List Bool} {i : Nat} {x : In} (h : Dfi p l0 l sn) (hx : l[i]? = some x) (hp : p x = false) : Dfi p l0 l (sn.set i true) := by
  refine ⟨by rw [List.length_set]; exact h.len, h.fl, h.nd, fun j y hy hs => ?_⟩
  by_cases e : i = j
  · subst e; rw [hx] at hy; cases hy; exact hp
  · exact h.sn j y hy (by rw [List.getElem?_set_ne e] at hs; exact hs)
theorem Dfi.drop {p : In → Bool} {l0 l : List In} {sn : List Bool} {i : Nat} {x : In} (h : Dfi p l0 l sn) (hx : l[i]? = some x) (hp : p x = true) : Dfi p l0 (l.eraseIdx i) ((sn.set i true).eraseIdx i) := by
  have hi : i < l.length := (List.getElem?_eq_some_iff.1 hx).1
  refine ⟨?_, ?_, h.nd.sublist (List.eraseIdx_sublist _ _), fun j y hy hs => ?_⟩
  · rw [List.length_eraseIdx, List.length_eraseIdx, List.length_set, h.len]
  · rw [← h.fl]
    have e1 : l = l.take i ++ x :: l.drop (i + 1) := by
      rw [← (List.getElem?_eq_some_iff.1 hx).2, List.getElem_cons_drop, List.take_append_drop]
    have e2 : l.eraseIdx i = l.take i ++ l.drop (i + 1) := List.eraseIdx_eq_take_drop_succ ..
    rw [e2]
    conv => rhs; rw [e1]
    simp [List.filter_append, List.filter_cons, hp]
  · rw [List.getElem?_eraseIdx] at hy hs
    split at hy
    · rename_i hlt
      rw [if_pos hlt, List.getElem?_set_ne (by omega)] at hs
      exact h.sn j y hy hs
    · rename_i hlt
      rw [if_neg hlt, List.getElem?_set_ne (by omega)] at hs
      exact h.sn (j + 1) y hy hs
theorem Dfi.done {p : In → Bool} {l0 l : List In} {sn : List Bool} (h : Dfi p l0 l sn) (ha : ∀ q ∈ sn, q = true) : l = l0.filter (fun x => !p x) := by
  rw [← h.fl, List.filter_eq_self.2]
  intro x hx
  obtain ⟨i, hi, rfl⟩ := List.getElem_of_mem hx
  have hi' : i < sn.length := by rw [h.len]; exact hi
  rw [h.sn i l[i] (List.getElem?_eq_getElem hi) (by rw [List.getElem?_eq_getElem hi', ha _ (List.getElem_mem hi')])]; rfl
theorem at_row {l : List In} {i : Nat} {row : List AV} (h : (sIn l)[i]? = some row) : ∃ x, l[i]? = some x ∧ row = x.row := by
  unfold sIn at h
  rw [List.getElem?_map] at h
  obtain ⟨x, h1, h2⟩ := Option.map_eq_some_iff.1 h
  exact ⟨x, h1, h2.symm⟩
theorem sIn_erase (l : List In) (i : Nat) : (sIn l).eraseIdx i = sIn (l.eraseIdx i) := (Go.ChangeMaps.map_eraseIdx _ _ _).symm
theorem delfunc_c {R : Env} (h : N438 R) (k : N437 R) (d2 : Bool) (l : List In) (nd : l.Pairwise (fun a b => sameN a b = false)) (hd : Int) : R.Mc 438 [.omap 0, .clo (.fn (R.ft 437)) [.loc 1 1 0 0]] [(0, .map 4 true true d2 16 (sIn l)), (1, .var (R.ty 10) [.int .i64 hd])] (.tup []) [(0, .map 4 true true false 16 (sIn (l.filter fun x => !hits hd x))), (1, .var (R.ty 10) [.int .i64 hd])] 2 :=
  h.o438.enterM 100 2 rfl rfl rfl fun X bb hfit hp => by
    refine sh ?_
    refine ⟨fun r => ?_⟩
    refine sh ?_
    refine lPa 100 (fun s : List In × List Bool × Option Nat => Dfi (hits hd) l s.1 s.2.1) (fun s => ⟨[(0, .omap 0), (1, .clo (.fn (R.ft 437)) [.loc 1 1 0 0]), (7, .itp 0 r)], [(0, .map 4 true true (.it r s.2.1 s.2.2) 16 (sIn s.1)), (1, .var (R.ty 10) [.int .i64 hd])], 2⟩) (fun s => nF s.2.1) ((l, (sIn l).map fun _ => false, none)) ?_ ?_
    · exact Dfi.init nd
    · rintro ⟨l', sn, la⟩ hs
      dsimp only at hs ⊢
      refine sh ?_
      refine ⟨rfl, fun h1 h2 => ?_, fun i row h1 h2 h3 => ?_⟩
      · have e := hs.done h1
        subst e
        refine sh ?_
        exact rM [0, 1]
      · obtain ⟨x, hx, rfl⟩ := at_row h1
        refine sh ?_
        refine ⟨⟨rfl, i, x.row, rfl, h1, ?_⟩⟩
        refine sh ?_
        refine cM false [1] (hits_c k hd x) ?_
        repeat (intro _; first | refine eK ?_ | refine eP ?_)
        refine sh ?_
        refine cS (fun h4 => ?_) (fun h4 => ?_)
        · refine sh ?_
          refine afdAt hs.nd hx ?_
          refine sh ?_
          refine nX ((l'.eraseIdx i, (sn.set i true).eraseIdx i, none)) ?_ ?_ ⟨_, hp, rfl⟩ ?_ ?_
          · exact hs.drop hx h4
          · have e1 := nF_set h2
            have e2 := nF_erase (l := sn.set i true) (i := i) (by rw [List.getElem?_set_self (List.getElem?_eq_some_iff.1 h2).1])
            show nF ((sn.set i true).eraseIdx i) < nF sn
            omega
          · all_goals repeat' (first | exact True.intro | refine And.intro ?_ ?_ | (intro _u; clear _u) | (with_reducible first | exact DnLe.fg | refine eM ?_ ?_ | refine eF ?_ ?_ ?_ | refine eN ?_ | refine eL ?_ ?_ ?_ | refine eA ?_ ?_ | refine IWk.mk ⟨_, hp, rfl⟩ ?_ ?_) | refine IWk.mk ⟨_, hp, rfl⟩ ?_ ?_)
            all_goals try first | with_reducible rfl | omega | exact .inl (by decide) | (simp; done) | rfl
          · all_goals repeat' (first | exact True.intro | refine And.intro ?_ ?_ | (intro _u; clear _u) | (with_reducible first | exact DnLe.fg | refine eM ?_ ?_ | refine eF ?_ ?_ ?_ | refine eN ?_ | refine eL ?_ ?_ ?_ | refine eA ?_ ?_ | refine IWk.mk ⟨_, hp, rfl⟩ ?_ ?_) | refine IWk.mk ⟨_, hp, rfl⟩ ?_ ?_)
            all_goals try first | with_reducible rfl | omega | exact .inl (by decide) | (simp; done) | rfl
            all_goals first | exact sIn_erase l' i | (right; show NmL ((sIn l').eraseIdx i); rw [sIn_erase]; simp)
        · refine sh ?_
          refine nXa ((l', sn.set i true, some i)) ?_ ?_
          · exact hs.keep hx h4
          · have e1 := nF_set h2
            show nF (sn.set i true) < nF sn
            omega
theorem row_findE (h : Int) : ∀ l : List Rw, ∃ i : Nat, mfind [.int .i64 h] (rwL l) = (rget l h).map (fun r => (i, r.row)) ∧ ((rget l h).isSome = true → (rwL l).eraseIdx i = rwL (l.eraseP fun r => r.h == h))
  | [] => ⟨0, rfl, fun h => by simp [rget] at h⟩
  | r :: l => by
    obtain ⟨i, hi, he⟩ := row_findE h l
    have e : kvB [.int .i64 h] (rwE r) = (r.h == h) := by
      show ((h == r.h) && true) = _
      rw [Bool.and_true]; exact Bool.beq_comm
    by_cases hh : (r.h == h) = true
    · refine ⟨0, ?_, fun _ => ?_⟩
      · show (if kvB [.int .i64 h] (rwE r) then some (0, (rwE r).drop 1) else _) = _
        rw [e, if_pos hh]; simp only [rget, List.find?_cons, hh]; rfl
      · rw [List.eraseP_cons_of_pos (p := fun r : Rw => r.h == h) hh]; rfl
    · refine ⟨i + 1, ?_, fun k => ?_⟩
      · show (if kvB [.int .i64 h] (rwE r) then some (0, (rwE r).drop 1) else (mfind [.int .i64 h] (rwL l)).map fun q => (q.1 + 1, q.2)) = _
        rw [e, if_neg hh, hi]; simp only [rget, List.find?_cons, hh]
        cases List.find? (fun r => r.h == h) l <;> rfl
      · rw [List.eraseP_cons_of_neg (p := fun r : Rw => r.h == h) hh]
        have k' : (rget l h).isSome = true := by simpa [rget, List.find?_cons, hh] using k
        show rwE r :: (rwL l).eraseIdx i = rwE r :: rwL (l.eraseP fun r => r.h == h)
        rw [he k']
theorem afdRD {h : Int} {l : List Rw} {K : Option (Nat × List AV) → Prop} (k : ∀ i : Nat, ((rget l h).isSome = true → (rwL l).eraseIdx i = rwL (l.eraseP fun r => r.h == h)) → K ((rget l h).map fun r => (i, r.row))) : AFd [.i] [.int .i64 h] (rwL l) K := by
  obtain ⟨i, hi, he⟩ := row_findE h l
  exact ⟨row_ok, by rw [hi]; exact k i he⟩
def tunload (t : Tb) (hd : Int) : Tb × Int := if (rget t.rows hd).isSome = true then (⟨t.rows.eraseP fun r => r.h == hd, t.ins.filter fun x => !hits hd x⟩, 0) else (t, 11)
theorem tunload_c {R : Env} (h : N428 R) (d1 d2 : Bool) (t : Tb) (nd : t.ins.Pairwise (fun a b => sameN a b = false)) (hd : Int) : R.Mc 428 [.loc 2 1 0 0, .int .i64 hd] (tabM R d1 d2 t) (.int .i64 (tunload t hd).2) (tabM R false false (tunload t hd).1) 3 :=
  h.o428.enterM 100 3 rfl rfl rfl fun X bb hfit hp => by
    generalize hq : tunload t hd = q
    unfold tunload at hq
    unfold tabM
    refine sh ?_
    refine cM false [0, 1, 2] (tnone_c h.n355 d1 d2 t) ?_
    repeat (intro _; first | refine eK ?_ | refine eP ?_)
    refine sh ?_
    refine afdR fun i => ?_
    cases hr : rget t.rows hd with
    | none =>
      rw [hr, if_neg (by simp)] at hq
      dsimp only [Option.map_none]
      subst hq
      refine sh ?_
      exact rM [0, 1, 2]
    | some y =>
      rw [hr, if_pos (show (some y).isSome = true from rfl)] at hq
      dsimp only [Option.map_some]
      refine sh ?_
      refine afdRD fun i he => ?_
      rw [hr] at he ⊢
      dsimp only [Option.map_some]
      refine delK_some (he rfl) ?_
      refine sh ?_
      refine cM false [1, 3] (delfunc_c h.n438 h.n437 d2 t.ins nd hd) ?_
      repeat (intro _; first | refine eK ?_ | refine eP ?_)
      subst hq
      refine sh ?_
      exact rM [0, 1, 2]
end Go.UM

namespace Go.UM
open Go.AM Go.Shelf Go.RowKit Go.Lib Go.Sort Go.Proofs
section
variable {α : Type} [Inhabited α]
def nmV (nums : α → List Int) (x : α) : List Value := (nums x).map (Value.int .i64)
def nmA (nums : α → List Int) (x : α) : List AV := (nums x).map (AV.int .i64)
structure SortLaw (P : Program) (f g k : Nat) (nums : α → List Int) (cf : α → α → Int) (srt : List α → List α) : Prop where
  nil : ∀ (p : Option Addr) (cap : Nat) (fv : Value) (w : World), Calls P f #[.slice p 0 cap, fv] w fun e w' => e = .returned (.tuple #[]) ∧ w' = w
  row : ∀ (blk cap : Nat) (l : List α) (w : World), CmpLays P g #[] (nmV nums) k cf blk 0 l.length w → HoldsK (nmV nums) k w blk 0 l.toArray → blk < w.heap.size → l.length < 4611686018427387904 →
    Calls P f #[.slice (some ⟨blk, 0, none⟩) l.length cap, .func (.func g) #[] #[]] w fun e w' => e = .returned (.tuple #[]) ∧ ∃ n os, w' = sortWorldK (nmV nums) k w blk 0 n (srt l).toArray os
theorem rep_nm {ρ : AM.Place} {L : Lens} {I : Nat → Prop} {w : World} {N : Nat → Prop} {n : Int} {v : Value} (h : Rep ρ L I w N (.int .i64 n) v) : v = .int .i64 n := by cases h; rfl
omit [Inhabited α] in
theorem rep_nmA {ρ : AM.Place} {L : Lens} {I : Nat → Prop} {w : World} {N : Nat → Prop} (nums : α → List Int) (x : α) : Rep ρ L I w N (.agg (nmA nums x)) (.agg (nmV nums x).toArray) := by
  refine .agg _ _ (by simp [nmA, nmV]) (fun u hu => ?_) fun j hj => ?_
  · obtain ⟨n, _, rfl⟩ := List.mem_map.1 hu; rfl
  · have hj' : j < (nums x).length := by simpa [nmA] using hj
    simp only [nmA, nmV, List.getD_eq_getElem?_getD, List.getElem?_map, List.getElem?_eq_getElem hj', Option.map_some, Option.getD_some]
    exact .int _ _
theorem grow_of {w w1 : World} (h : Blw w w1) : ∃ q os, w1 = grow (w.drewN q) os := by
  refine ⟨w1.drawn - w.drawn, w1.heap.extract w.heap.size w1.heap.size, ?_⟩
  obtain ⟨heap, tape, drawn, os, output⟩ := w
  obtain ⟨heap1, tape1, drawn1, os1, output1⟩ := w1
  obtain ⟨⟨h1, h2, h3, h4, h5⟩, h6⟩ := h
  simp only at h1 h2 h3 h4 h5 h6
  subst h1; subst h2; subst h3
  have e1 : heap1 = heap ++ heap1.extract heap.size heap1.size := by
    apply Array.ext_getElem?
    intro i
    by_cases hi : i < heap.size
    · rw [Array.getElem?_append_left hi]; exact h5 i hi
    · rw [Array.getElem?_append_right (by omega), Array.getElem?_extract]
      have e : heap.size + (i - heap.size) = i := by omega
      rw [e]
      split
      · rfl
      · rw [Array.getElem?_eq_none (by omega)]
  have h6 : drawn ≤ drawn1 := h6
  have e2 : drawn1 = drawn + (drawn1 - drawn) := by omega
  simp only [grow, World.drewN]
  rw [← e1, ← e2]
theorem cmp_lays {P : Program} {g k : Nat} {nums : α → List Int} {cf : α → α → Int} (h : ∀ x y, PCalls P g [.agg (nmA nums x), .agg (nmA nums y)] (.int .i64 (cf x y))) (blk size : Nat) (w : World) : CmpLays P g #[] (nmV nums) k cf blk 0 size w := by
  intro m os dk hdk x y
  refine (h x y NoName (sortWorldK (nmV nums) k w blk 0 m dk os) [.agg (nmV nums x).toArray, .agg (nmV nums y).toArray] (fun _ h => h.elim) ⟨rfl, fun j hj => ?_⟩).mono ?_
  · match j, hj with
    | 0, _ => exact rep_nmA nums x
    | 1, _ => exact rep_nmA nums y
  · rintro e w' ⟨v, I1, rfl, hb, _, _, _, hr⟩
    rw [rep_nm hr]
    obtain ⟨q, os', e⟩ := grow_of hb
    exact ⟨rfl, q, os', e⟩
omit [Inhabited α] in
theorem get_row {nums : α → List Int} {k : Nat} (hk : ∀ x, (nums x).length = k) (x : α) {j : Nat} (hj : j < k) : (nmV nums x)[j]! = .int .i64 ((nums x)[j]'(by rw [hk]; exact hj)) ∧ (nmA nums x).getD j .bad = .int .i64 ((nums x)[j]'(by rw [hk]; exact hj)) := by
  have hj' : j < (nums x).length := by rw [hk]; exact hj
  constructor
  · rw [getElem!_pos _ j (by simpa [nmV] using hj')]; simp [nmV]
  · simp [nmA, List.getD_eq_getElem?_getD, hj']
theorem flat_at {nums : α → List Int} {k : Nat} (l : List α) {i j : Nat} (hi : i < l.length) (hj : j < k) : (flatK (nmV nums) k l.toArray)[i * k + j]! = (nmV nums l[i])[j]! := by
  have hlt : i * k + j < l.length * k := by
    have : (i + 1) * k ≤ l.length * k := Nat.mul_le_mul_right _ hi
    rw [Nat.add_mul, Nat.one_mul] at this; omega
  rw [get_flatK _ _ _ _ (by simpa using hlt)]
  have e1 : (i * k + j) / k = i := by rw [Nat.add_comm, Nat.add_mul_div_right _ _ (by omega), Nat.div_eq_of_lt hj, Nat.zero_add]
  have e2 : (i * k + j) % k = j := by rw [Nat.add_comm, Nat.add_mul_mod_self_right, Nat.mod_eq_of_lt hj]
  rw [e1, e2, getElem!_pos l.toArray i (by simpa using hi)]
  simp
omit [Inhabited α] in
theorem getD_row {nums : α → List Int} (l : List α) {i : Nat} (hi : i < l.length) : (l.map (nmA nums)).getD i [] = nmA nums l[i] := by
  simp [List.getD_eq_getElem?_getD, hi]
structure SortLawE (P : Program) (f k : Nat) (nums : α → List Int) (srt : List α → List α) (ea : List AV) (ev : List Value) : Prop where
  ex : ∀ (ρ : AM.Place) (L : Lens) (I : Nat → Prop) (w : World) (N : Nat → Prop) (vs : List Value), RepL ρ L I w N ea vs → vs = ev
  nil : ∀ (p : Option Addr) (cap : Nat) (w : World), Calls P f (.slice p 0 cap :: ev).toArray w fun e w' => e = .returned (.tuple #[]) ∧ w' = w
  row : ∀ (blk cap : Nat) (l : List α) (w : World), HoldsK (nmV nums) k w blk 0 l.toArray → blk < w.heap.size → l.length < 4611686018427387904 →
    Calls P f (.slice (some ⟨blk, 0, none⟩) l.length cap :: ev).toArray w fun e w' => e = .returned (.tuple #[]) ∧ ∃ n os, w' = sortWorldK (nmV nums) k w blk 0 n (srt l).toArray os
theorem SortLaw.e {P : Program} {f g k : Nat} {nums : α → List Int} {cf : α → α → Int} {srt : List α → List α} (S : SortLaw P f g k nums cf srt) (hcmp : ∀ x y, PCalls P g [.agg (nmA nums x), .agg (nmA nums y)] (.int .i64 (cf x y))) :
    SortLawE P f k nums srt [.clo (.fn g) []] [.func (.func g) #[] #[]] := by
  refine ⟨fun ρ L I w N vs h => ?_, fun p cap w => S.nil p cap _ w, fun blk cap l w hH hb hl => S.row blk cap l w (cmp_lays hcmp blk l.length w) hH hb hl⟩
  obtain ⟨hl, hr⟩ := h
  match vs, hl with
  | [v], _ =>
    have r1 : Rep ρ L I w N (.clo (.fn g) []) v := hr 0 (by simp)
    cases r1 with
    | clo _ _ us hu _ =>
      obtain rfl := List.eq_nil_of_length_eq_zero hu
      rfl
theorem sortE_mc {R : Env} {f k ty : Nat} {nums : α → List Int} {srt : List α → List α} {ea : List AV} {ex : List Value} (hb : HasBody R.P (R.ft f)) (S : SortLawE R.P (R.ft f) k nums srt ea ex) (hk : ∀ x, (nums x).length = k) (hk0 : 0 < k)
    (hlen : ∀ l, (srt l).length = l.length) (l : List α) (hl : l.length < 4611686018427387904) :
    R.Mc f (.osl 0 l.length :: ea) [(0, .arr ty k (l.map (nmA nums)))] (.tup []) [(0, .arr ty k ((srt l).map (nmA nums)))] 1 := by
  refine ⟨hb, fun w I ρ vs hW hr => ?_, rfl⟩
  have W := hW 0
  obtain ⟨hvl, hr⟩ := hr
  obtain ⟨v0, r, rfl⟩ : ∃ v0 r, vs = v0 :: r := by
    match vs, hvl with
    | a :: r, _ => exact ⟨a, r, rfl⟩
  have r0 : Rep ρ (lens (mget (toM [(0, .arr ty k (l.map (nmA nums)))]))) I w (· < 1) (.osl 0 l.length) v0 := hr 0 (by simp)
  obtain rfl := S.ex _ _ _ _ _ r ⟨by simpa using hvl, fun j hj => by have := hr (j + 1) (by simpa using hj); simpa using this⟩
  have hM : mget (toM [(0, IBlk.arr ty k (l.map (nmA nums)))]) 0 = some ⟨ty, k, l.map (nmA nums), none⟩ := rfl
  have B := W.blk 0 _ hM
  have done : ∀ (w1 : World), l = [] → w1 = w → ∃ v, Ending.returned (.tuple #[]) = .returned v ∧ ∃ ρ1 I1 s, Wok ⟨w, 1, I, s, ρ, lens (mget (toM [(0, .arr ty k (l.map (nmA nums)))]))⟩ ρ1 I1 (mget (toM [(0, .arr ty k ((srt l).map (nmA nums)))])) (· < 1) w1 ∧ Rep ρ1 (lens (mget (toM [(0, .arr ty k ((srt l).map (nmA nums)))]))) I1 w1 (· < 1) (.tup []) v := by
    rintro w1 rfl rfl
    have : srt [] = [] := List.eq_nil_of_length_eq_zero (by rw [hlen]; rfl)
    rw [this]
    exact ⟨_, rfl, ρ, I, 0, W, .tup [] [] rfl (fun j hj => by simp at hj)⟩
  cases r0 with
  | osl _ _ _ hn h1 h =>
    rcases (h l.length k (by rw [lens_some]; exact ⟨_, hM, by simp [Blk.ln], rfl⟩)).2 rfl with ⟨hv, q, rfl⟩ | ⟨gb, cap, hρ, rfl⟩
    · have he : l = [] := by have := B.virt hv; simpa using this
      refine (S.nil q 0 w).mono ?_
      rintro e w' ⟨rfl, h⟩
      exact done w' he h
    · by_cases he : l = []
      · have e0 : l.length = 0 := by rw [he]; rfl
        rw [e0]
        refine (S.nil (some ⟨gb, 0, none⟩) cap w).mono ?_
        rintro e w' ⟨rfl, h⟩
        exact done w' he h
      · obtain ⟨cs, fr, hobj, hfr, hnI, hown, hlc, hcm, hcs, hcell⟩ := B.real gb cap hρ
        have hobj : w.heap[gb]? = some (.cells cs ty fr) := hobj
        have hlc : l.length ≤ cap := by simpa using hlc
        have hcs : cs.size = cap * k := hcs
        have hlt := (Array.getElem?_eq_some_iff.1 hobj).1
        have hH : HoldsK (nmV nums) k w gb 0 l.toArray := by
          intro t ht
          have ht' : t < l.length * k := by simpa using ht
          have hi : t / k < l.length := by rw [Nat.div_lt_iff_lt_mul hk0]; exact ht'
          have hj : t % k < k := Nat.mod_lt _ hk0
          have et : t / k * k + t % k = t := by rw [Nat.mul_comm]; exact Nat.div_add_mod t k
          obtain ⟨u, hu, _, hru⟩ := hcell (t / k) (t % k) (by simpa using hi) hj
          rw [show ((⟨ty, k, l.map (nmA nums), none⟩ : Blk).es.getD (t / k) []) = nmA nums l[t / k] from getD_row l hi, (get_row hk l[t / k] hj).2] at hru
          have hu' := rep_nm hru
          have ef := flat_at (nums := nums) (k := k) l hi hj
          rw [et] at ef
          have hu : cs[t]? = some u := by rw [← et]; exact hu
          refine ⟨?_, ?_⟩
          · rw [ef, (get_row hk l[t / k] hj).1, Nat.zero_add]
            simp only [World.cell?, hobj, Option.isSome_none, Bool.false_eq_true, if_false, id]
            rw [hu, hu']
          · have hf := hfr t (Array.getElem?_eq_some_iff.1 hu).1
            simp only [World.frozen?, hobj, Nat.zero_add]
            simp
            omega
        refine (S.row gb cap l w hH hlt hl).mono ?_
        rintro e w' ⟨rfl, n, os, hw'⟩
        have hheap : w'.heap = (w.heap.modify gb (onCells (putCells id 0 (flatK (nmV nums) k (srt l).toArray)))) ++ os := by rw [hw']; rfl
        have hat : ∀ q, q < w.heap.size → w'.heap[q]? = (w.heap.modify gb (onCells (putCells id 0 (flatK (nmV nums) k (srt l).toArray))))[q]? := fun q hq => by
          rw [hheap, Array.getElem?_append_left (by simpa using hq)]
        have hg' : w'.heap[gb]? = some (.cells (putCells id 0 (flatK (nmV nums) k (srt l).toArray) cs) ty fr) := by
          rw [hat gb hlt, Array.getElem?_modify, if_pos rfl, hobj]; rfl
        have hput : ∀ t, t < l.length * k → (putCells id 0 (flatK (nmV nums) k (srt l).toArray) cs)[t]? = some (flatK (nmV nums) k (srt l).toArray)[t]! := fun t ht => by
          have : t < cs.size := by
            rw [hcs]; exact Nat.lt_of_lt_of_le ht (Nat.mul_le_mul_right _ hlc)
          unfold putCells
          rw [Array.getElem?_mapIdx, Array.getElem?_eq_getElem this, Option.map_some, if_pos (by simp [hlen]; exact ht)]
          simp
        obtain ⟨E, W1⟩ := W.put (w' := w') 0 ⟨ty, k, (srt l).map (nmA nums), none⟩ gb cap (putCells id 0 (flatK (nmV nums) k (srt l).toArray) cs) fr (by rw [hw']; rfl) (by rw [hw']; rfl) (by rw [hw']; rfl) (by rw [hheap]; simp)
          (fun q hq hne => by rw [hat q hq, Array.getElem?_modify, if_neg (fun e => hne e.symm)]) hg' (fun o ho => hfr o (by simpa [putCells] using ho)) (.inr ⟨cap, hρ, _, hM⟩)
          (fun b0 h0 => by rw [hM] at h0; cases h0; exact ⟨rfl, by simp [Blk.ln, hlen], fun _ => hρ⟩) (fun _ => ⟨_, hM⟩)
          (fun e he => by obtain ⟨x, _, rfl⟩ := List.mem_map.1 he; simp [nmA, hk]) (by simpa [hlen] using hlc) hcm (by simpa [putCells] using hcs)
          (fun i j hi hj => by
            have hi' : i < (srt l).length := by simpa using hi
            have hj : j < k := hj
            have hlt2 : i * k + j < l.length * k := by
              have : (i + 1) * k ≤ l.length * k := Nat.mul_le_mul_right _ (by rw [hlen] at hi'; exact hi')
              rw [Nat.add_mul, Nat.one_mul] at this; omega
            refine ⟨_, hput _ hlt2, ?_, ?_⟩
            · rw [flat_at _ hi' hj, (get_row hk _ hj).1]; rfl
            · rw [flat_at _ hi' hj, (get_row hk _ hj).1, show ((⟨ty, k, (srt l).map (nmA nums), none⟩ : Blk).es.getD i []) = nmA nums (srt l)[i] from getD_row _ hi', (get_row hk _ hj).2]
              exact .int _ _)
          (fun _ _ _ _ _ _ h => by cases h) (by rw [hw']; show w.drawn ≤ w.drawn + n; omega)
        have e1 : mupd (mget (toM [(0, IBlk.arr ty k (l.map (nmA nums)))])) 0 ⟨ty, k, (srt l).map (nmA nums), none⟩ = mget (toM [(0, .arr ty k ((srt l).map (nmA nums)))]) := by
          funext m
          by_cases hm : m = 0
          · subst hm; rfl
          · have : (m == 0) = false := by simpa using hm
            simp [mupd, hm, toM, mget, this]
        rw [e1] at W1
        exact ⟨_, rfl, _, I, 0, W1.widen (fun m hm => by rcases hm with rfl | hm; exact Nat.zero_lt_one; exact hm), .tup [] [] rfl (fun j hj => by simp at hj)⟩
theorem sort_mc {R : Env} {f g k ty : Nat} {nums : α → List Int} {cf : α → α → Int} {srt : List α → List α} (hb : HasBody R.P (R.ft f)) (S : SortLaw R.P (R.ft f) (R.ft g) k nums cf srt) (hk : ∀ x, (nums x).length = k) (hk0 : 0 < k)
    (hcmp : ∀ x y, R.Pc g [.agg (nmA nums x), .agg (nmA nums y)] (.int .i64 (cf x y))) (hlen : ∀ l, (srt l).length = l.length) (l : List α) (hl : l.length < 4611686018427387904) :
    R.Mc f [.osl 0 l.length, .clo (.fn (R.ft g)) []] [(0, .arr ty k (l.map (nmA nums)))] (.tup []) [(0, .arr ty k ((srt l).map (nmA nums)))] 1 := sortE_mc hb (S.e hcmp) hk hk0 hlen l hl
theorem sort_nil {R : Env} {f g k : Nat} {nums : α → List Int} {cf : α → α → Int} {srt : List α → List α} (S : SortLaw R.P (R.ft f) (R.ft g) k nums cf srt) : R.Pc f [.nils, .clo (.fn (R.ft g)) []] (.tup []) := by
  intro I w vs hI hr
  obtain ⟨hvl, hr⟩ := hr
  obtain ⟨v0, v1, rfl⟩ : ∃ v0 v1, vs = [v0, v1] := by
    match vs, hvl with
    | [a, b], _ => exact ⟨a, b, rfl⟩
  have r0 : Rep noPlace noLens I w NoName .nils v0 := hr 0 (by simp)
  cases r0
  refine (S.nil Option.none 0 v1 w).mono ?_
  rintro e w' ⟨rfl, rfl⟩
  exact ⟨_, I, rfl, ⟨Below.refl _ _, Nat.le_refl _⟩, fun _ h => h, hI, fun _ _ h => h, .tup [] [] rfl (fun j hj => by simp at hj)⟩
end
end Go.UM

namespace Go.UM
open Go.AM
set_option maxRecDepth 4000
def cmpI (x y : Int) : Int := if x < y then -1 else if y < x then 1 else 0
theorem nan_c {R : Env} (h : N468 R) (x : Int) : R.Pc 468 [.int .i64 x] (.bool false) :=
  h.o468.enter 60 rfl fun X bb hfit hp => by
    refine sh ?_
    exact rT
theorem cmp_c {R : Env} (h : N451 R) (x y : Int) : R.Pc 451 [.int .i64 x, .int .i64 y] (.int .i64 (cmpI x y)) :=
  h.o451.enter 100 rfl fun X bb hfit hp => by
    generalize hq : cmpI x y = q
    unfold cmpI at hq
    refine sh ?_
    refine ICall.pure h.n468.o468.hb (nan_c h.n468 x) rfl ?_
    refine sh ?_
    refine ICall.pure h.n468.o468.hb (nan_c h.n468 y) rfl ?_
    refine sh ?_
    refine cS (fun h1 => ?_) (fun h1 => ?_)
    · rw [if_pos h1] at hq
      subst hq
      refine sh ?_
      exact rT
    · rw [if_neg (by omega)] at hq
      refine sh ?_
      refine cS (fun h2 => ?_) (fun h2 => ?_)
      · rw [if_pos h2] at hq
        subst hq
        refine sh ?_
        exact rT
      · rw [if_neg (by omega)] at hq
        subst hq
        refine sh ?_
        exact rT
def orI : List Int → Int
  | [] => 0
  | x :: r => if x = 0 then orI r else x
theorem or_c {R : Env} (h : N452 R) (l : List Int) (hl : l.length ≤ 1073741824) : R.Pc 452 [.isl 1 (slcK .i64 l)] (.int .i64 (orI l)) :=
  h.o452.enter 100 rfl fun X bb hfit hp => by
    refine sh ?_
    refine lPa 100 (fun i : Nat => i ≤ l.length ∧ orI (l.drop i) = orI l) (fun i => ⟨[(3, .int .i64 0), (6, .isl 1 (slcK .i64 l)), (7, .int .i64 l.length), (8, .int .i64 i)], [], 0⟩) (fun i => l.length - i) (0) ?_ ?_
    · exact ⟨Nat.zero_le _, by simp⟩
    · intro i hi
      dsimp only
      refine sh ?_
      refine cS (fun h1 => ?_) (fun h1 => ?_)
      · obtain ⟨x, hx⟩ : ∃ u_, l[i]? = some u_ := ⟨_, List.getElem?_eq_getElem (by first | omega | (simp <;> omega))⟩
        refine sh ?_
        refine eget_map hx ?_
        have hd : orI l = orI (x :: l.drop (i + 1)) := by
          rw [← hi.2]
          congr 1
          have := (List.getElem?_eq_some_iff.1 hx)
          rw [← this.2, List.getElem_cons_drop]
        refine sh ?_
        refine cS (fun h2 => ?_) (fun h2 => ?_)
        · refine sh ?_
          refine rT ?_
          all_goals repeat' (first | exact True.intro | refine And.intro ?_ ?_ | (intro _u; clear _u) | (with_reducible first | exact DnLe.fg | refine eM ?_ ?_ | refine eF ?_ ?_ ?_ | refine eN ?_ | refine eL ?_ ?_ ?_ | refine eA ?_ ?_ | refine IWk.mk ⟨_, hp, rfl⟩ ?_ ?_) | refine IWk.mk ⟨_, hp, rfl⟩ ?_ ?_)
          all_goals try first | with_reducible rfl | omega | exact .inl (by decide) | (simp; done) | rfl
          rw [hd, orI, if_neg h2]
        · refine sh ?_
          refine nXa (i + 1) ?_ ?_
          · exact ⟨by omega, by rw [hd, orI, if_pos (by omega)]⟩
          · omega
      · refine sh ?_
        refine rT ?_
        all_goals repeat' (first | exact True.intro | refine And.intro ?_ ?_ | (intro _u; clear _u) | (with_reducible first | exact DnLe.fg | refine eM ?_ ?_ | refine eF ?_ ?_ ?_ | refine eN ?_ | refine eL ?_ ?_ ?_ | refine eA ?_ ?_ | refine IWk.mk ⟨_, hp, rfl⟩ ?_ ?_) | refine IWk.mk ⟨_, hp, rfl⟩ ?_ ?_)
        all_goals try first | with_reducible rfl | omega | exact .inl (by decide) | (simp; done) | rfl
        rw [← hi.2, List.drop_eq_nil_of_le (by omega)]; rfl
def ordI (x y : In) : Int := orI [cmpI x.mesh y.mesh, cmpI x.mat y.mat, cmpI x.tex y.tex, cmpI x.n y.n]
theorem order_c {R : Env} (h : N450 R) (x y : In) : R.Pc 450 [.agg [.int .i64 x.mesh, .int .i64 x.mat, .int .i64 x.tex, .int .i64 x.n], .agg [.int .i64 y.mesh, .int .i64 y.mat, .int .i64 y.tex, .int .i64 y.n]] (.int .i64 (ordI x y)) :=
  h.o450.enter 100 rfl fun X bb hfit hp => by
    refine sh ?_
    refine ICall.pure h.n451.o451.hb (cmp_c h.n451 x.mesh y.mesh) rfl ?_
    refine sh ?_
    refine ICall.pure h.n451.o451.hb (cmp_c h.n451 x.mat y.mat) rfl ?_
    refine sh ?_
    refine ICall.pure h.n451.o451.hb (cmp_c h.n451 x.tex y.tex) rfl ?_
    refine sh ?_
    refine ICall.pure h.n451.o451.hb (cmp_c h.n451 x.n y.n) rfl ?_
    refine sh ?_
    refine cM true [] ((or_c h.n452 [cmpI x.mesh y.mesh, cmpI x.mat y.mat, cmpI x.tex y.tex, cmpI x.n y.n] (by simp)).mc h.n452.o452.hb) ?_
    repeat (intro _; first | refine eK ?_ | refine eP ?_)
    refine sh ?_
    exact rT
theorem icmp_c {R : Env} (h : N436 R) (x y : In) : R.Pc 436 [.agg x.row, .agg y.row] (.int .i64 (ordI x y)) :=
  h.o436.enter 100 rfl fun X bb hfit hp => by
    refine sh ?_
    refine ICall.pure h.n358.o358.hb (of_c h.n358 x) rfl ?_
    refine sh ?_
    refine ICall.pure h.n358.o358.hb (of_c h.n358 y) rfl ?_
    refine sh ?_
    refine ICall.pure h.n450.o450.hb (order_c h.n450 x y) rfl ?_
    refine sh ?_
    exact rT
def inN (x : In) : List Int := [x.mesh, x.mat, x.tex, x.n, x.t.m0, x.t.m1, x.t.m2, x.t.m3, x.t.m4, x.t.m5, x.t.m6, x.t.m7, x.t.m8, x.t.t.a, x.t.t.b, x.t.t.c]
def sel : List In → List Bool → List In
  | x :: l, b :: sn => if b = true then x :: sel l sn else sel l sn
  | _, _ => []
theorem sel_none : ∀ l : List In, sel l ((sIn l).map fun _ => false) = []
  | [] => rfl
  | x :: l => by
    show (if false = true then x :: sel l ((sIn l).map fun _ => false) else sel l ((sIn l).map fun _ => false)) = []
    rw [if_neg (by simp)]; exact sel_none l
theorem sel_all : ∀ {l : List In} {sn : List Bool}, sn.length = l.length → (∀ q ∈ sn, q = true) → sel l sn = l
  | [], [], _, _ => rfl
  | x :: l, b :: sn, h, ha => by
    rw [sel, if_pos (ha b (by simp)), sel_all (by simpa using h) fun q hq => ha q (by simp [hq])]
  | [], _ :: _, h, _ => by simp at h
  | _ :: _, [], h, _ => by simp at h
theorem sel_len : ∀ (l : List In) (sn : List Bool), (sel l sn).length ≤ l.length
  | x :: l, b :: sn => by
    have := sel_len l sn
    rw [sel]; split <;> simp only [List.length_cons] <;> omega
  | [], _ => by simp [sel]
  | _ :: _, [] => by simp [sel]
theorem sel_set : ∀ {l : List In} {sn : List Bool} {i : Nat} {x : In}, l[i]? = some x → sn[i]? = some false → (x :: sel l sn).Perm (sel l (sn.set i true))
  | [], _, i, x, h, _ => by simp at h
  | _ :: _, [], i, x, _, h => by simp at h
  | y :: l, b :: sn, 0, x, h, hs => by
    simp at h hs; subst h; subst hs
    rw [List.set_cons_zero, sel, sel, if_neg (by simp), if_pos rfl]
  | y :: l, b :: sn, i + 1, x, h, hs => by
    have ih := sel_set (l := l) (sn := sn) (i := i) (x := x) (by simpa using h) (by simpa using hs)
    rw [List.set_cons_succ, sel, sel]
    by_cases hb : b = true
    · rw [if_pos hb, if_pos hb]
      exact (List.Perm.swap y x _).trans (ih.cons y)
    · rw [if_neg hb, if_neg hb]; exact ih
theorem or_lt {a b : Int} {r : List Int} : orI (cmpI a b :: r) < 0 ↔ a < b ∨ (a = b ∧ orI r < 0) := by
  show (if cmpI a b = 0 then orI r else cmpI a b) < 0 ↔ _
  unfold cmpI
  by_cases h1 : a < b
  · rw [if_pos h1, if_neg (by omega)]; omega
  · rw [if_neg h1]
    by_cases h2 : b < a
    · rw [if_pos h2, if_neg (by omega)]; omega
    · rw [if_neg h2, if_pos rfl]; omega
theorem ordI_lt {x y : In} : ordI x y < 0 ↔ x.mesh < y.mesh ∨ x.mesh = y.mesh ∧ (x.mat < y.mat ∨ x.mat = y.mat ∧ (x.tex < y.tex ∨ x.tex = y.tex ∧ x.n < y.n)) := by
  unfold ordI
  rw [or_lt, or_lt, or_lt, or_lt]
  simp [orI]
theorem sameN_iff {x y : In} : sameN x y = true ↔ x.mesh = y.mesh ∧ x.mat = y.mat ∧ x.tex = y.tex ∧ x.n = y.n := by simp [sameN]
def leI (x y : In) : Bool := decide (¬ ordI y x < 0)
theorem leI_iff {x y : In} : leI x y = true ↔ ¬ ordI y x < 0 := by simp [leI]
theorem leI_total (x y : In) : (leI x y || leI y x) = true := by
  rw [Bool.or_eq_true, leI_iff, leI_iff, ordI_lt, ordI_lt]; omega
theorem leI_trans (x y z : In) (h1 : leI x y = true) (h2 : leI y z = true) : leI x z = true := by
  rw [leI_iff, ordI_lt] at h1 h2 ⊢; omega
theorem leI_same {x y : In} (h1 : leI x y = true) (h2 : leI y x = true) : sameN x y = true := by
  rw [leI_iff, ordI_lt] at h1 h2
  rw [sameN_iff]; omega
def isort (l : List In) : List In := l.mergeSort leI
structure Srt (srt : List In → List In) : Prop where
  perm : ∀ l, (srt l).Perm l
  ord : ∀ l, (srt l).Pairwise fun x y => leI x y = true
theorem Srt.eq {srt : List In → List In} (S : Srt srt) {out l : List In} (nd : l.Pairwise fun a b => sameN a b = false) (h : out.Perm l) : srt out = isort l := by
  refine List.Perm.eq_of_pairwise (le := fun x y => leI x y = true) ?_ (S.ord out) (List.pairwise_mergeSort leI_trans leI_total l) ((S.perm out).trans (h.trans (List.mergeSort_perm l leI).symm))
  intro a b ha hb h1 h2
  have ha' : a ∈ l := h.mem_iff.1 ((S.perm out).mem_iff.1 ha)
  have hb' : b ∈ l := (List.mergeSort_perm l leI).mem_iff.1 hb
  have hs := leI_same h1 h2
  have hs' : sameN b a = true := leI_same h2 h1
  obtain ⟨i, hi, rfl⟩ := List.getElem_of_mem ha'
  obtain ⟨j, hj, rfl⟩ := List.getElem_of_mem hb'
  rw [List.pairwise_iff_getElem] at nd
  rcases Nat.lt_trichotomy i j with h | h | h
  · rw [nd i j hi hj h] at hs; cases hs
  · subst h; rfl
  · rw [nd j i hj hi h] at hs'; cases hs'
instance : Inhabited In := ⟨⟨0, 0, 0, 0, ⟨0, 0, 0, 0, 0, 0, 0, 0, 0, ⟨0, 0, 0⟩⟩⟩⟩
abbrev SortI (R : Env) (srt : List In → List In) : Prop := SortLaw R.P (R.ft 435) (R.ft 436) 16 inN ordI srt
set_option maxHeartbeats 2000000 in
theorem tinsts_c {R : Env} (h : N419 R) (srt : List In → List In) (S : SortI R srt) (hs : Srt srt) (d1 d2 : Bool) (t : Tb) (nd : t.ins.Pairwise fun a b => sameN a b = false) (hn : t.ins.length ≤ 1000000) :
    R.Mc 419 [.loc 2 1 0 0] (tabM R d1 d2 t) (.osl 3 (isort t.ins).length) (tabM R d1 false t ++ [(3, .arr (R.ty 44) 16 (sIn (isort t.ins)))]) 4 :=
  h.o419.enterM 100 3 rfl rfl rfl fun X bb hfit hp => by
    unfold tabM
    refine sh ?_
    refine cM false [0, 1, 2] (tnone_c h.n355 d1 d2 t) ?_
    repeat (intro _; first | refine eK ?_ | refine eP ?_)
    refine sh ?_
    refine ⟨fun r => ?_⟩
    refine sh ?_
    refine lPa 100 (Sum.elim (fun s : List Bool => s = (sIn t.ins).map fun _ => false) (fun s : List Bool × Option Nat × List In => s.1.length = t.ins.length ∧ s.2.2.Perm (sel t.ins s.1))) (Sum.elim (fun s => ⟨[(3, .nils), (12, .itp 1 r)], [(0, .map 1 false true d1 41 (rwL t.rows)), (1, .map 4 true true (.it r s none) 16 (sIn t.ins)), (2, .var (R.ty 47) [.omap 0, .omap 1])], 3⟩) (fun s => ⟨[(3, .osl 3 s.2.2.length), (12, .itp 1 r)], [(0, .map 1 false true d1 41 (rwL t.rows)), (1, .map 4 true true (.it r s.1 s.2.1) 16 (sIn t.ins)), (2, .var (R.ty 47) [.omap 0, .omap 1]), (3, .arr (R.ty 44) 16 (sIn s.2.2))], 4⟩)) (Sum.elim (fun s => nF s) (fun s => nF s.1)) (.inl ((sIn t.ins).map fun _ => false)) ?_ ?_
    · rfl
    · rintro (sn | ⟨sn, la, out⟩) hv
      · dsimp only [Sum.elim_inl] at hv ⊢
        refine sh ?_
        refine ⟨rfl, fun h1 h2 => ?_, fun i row h1 h2 h3 => ?_⟩
        · have e : t.ins = [] := by
            subst hv
            cases hl : t.ins with
            | nil => rfl
            | cons x l => rw [hl] at h1; have := h1 false (by simp [sIn]); cases this
          have hr := e
          refine sh ?_
          refine ICall.pure h.n435.o435.hb (sort_nil S) rfl ?_
          rw [e, show isort [] = [] from by simp [isort]]
          refine sh ?_
          exact rM [0, 1, 2, 50]
        · obtain ⟨x, hx, rfl⟩ := at_row h1
          refine sh ?_
          refine ⟨⟨rfl, i, x.row, rfl, h1, ?_⟩⟩
          refine sh ?_
          refine nR [0, 1, 2, 6] (.inr (sn.set i true, some i, [x])) ?_ ?_
          · refine ⟨by rw [List.length_set]; simpa using h3, ?_⟩
            have := sel_set hx h2
            rw [hv, sel_none] at this
            rw [hv]; exact this
          · have := nF_set h2
            show nF (sn.set i true) < nF sn
            omega
      · dsimp only [Sum.elim_inr] at hv ⊢
        refine sh ?_
        refine ⟨rfl, fun h1 h2 => ?_, fun i row h1 h2 h3 => ?_⟩
        · have e : out.Perm t.ins := by have := hv.2; rwa [sel_all hv.1 h1] at this
          have e2 := hs.eq nd e
          have el : out.length = (isort t.ins).length := by rw [← e2, (hs.perm out).length_eq]
          have c : R.Mc 435 [.osl 0 out.length, .clo (.fn (R.ft 436)) []] [(0, .arr (R.ty 44) 16 (sIn out))] (.tup []) [(0, .arr (R.ty 44) 16 (sIn (isort t.ins)))] 1 := by
            rw [← e2]
            exact sort_mc (ty := R.ty 44) h.n435.o435.hb S (fun _ => rfl) (by omega) (fun x y => icmp_c h.n436 x y) (fun l => (hs.perm l).length_eq) out (by rw [e.length_eq]; omega)
          refine sh ?_
          refine cM false [3] (c) ?_
          repeat (intro _; first | refine eK ?_ | refine eP ?_)
          refine sh ?_
          exact rM [0, 1, 2, 3]
        · obtain ⟨x, hx, rfl⟩ := at_row h1
          have hb : out.length ≤ 1000000 := by
            have := hv.2.length_eq
            have := sel_len t.ins sn
            omega
          refine sh ?_
          refine ⟨⟨rfl, i, x.row, rfl, h1, ?_⟩⟩
          refine sh ?_
          refine nX (.inr (sn.set i true, some i, out ++ [x])) ?_ ?_ ⟨_, hp, rfl⟩ ?_ ?_
          · refine ⟨by rw [List.length_set]; exact hv.1, ?_⟩
            exact (List.perm_append_singleton x out).trans ((hv.2.cons x).trans (sel_set hx h2))
          · have := nF_set h2
            show nF (sn.set i true) < nF sn
            omega
          · all_goals repeat' (first | exact True.intro | refine And.intro ?_ ?_ | (intro _u; clear _u) | (with_reducible first | exact DnLe.fg | refine eM ?_ ?_ | refine eF ?_ ?_ ?_ | refine eN ?_ | refine eL ?_ ?_ ?_ | refine eA ?_ ?_ | refine IWk.mk ⟨_, hp, rfl⟩ ?_ ?_) | refine IWk.mk ⟨_, hp, rfl⟩ ?_ ?_)
            all_goals try first | with_reducible rfl | omega | exact .inl (by decide) | (simp; done) | rfl
          · all_goals repeat' (first | exact True.intro | refine And.intro ?_ ?_ | (intro _u; clear _u) | (with_reducible first | exact DnLe.fg | refine eM ?_ ?_ | refine eF ?_ ?_ ?_ | refine eN ?_ | refine eL ?_ ?_ ?_ | refine eA ?_ ?_ | refine IWk.mk ⟨_, hp, rfl⟩ ?_ ?_) | refine IWk.mk ⟨_, hp, rfl⟩ ?_ ?_)
            all_goals try first | with_reducible rfl | omega | exact .inl (by decide) | (simp; done) | rfl
            all_goals first | exact (sIn_append out [x]).symm | (right; simp [In.row])
end Go.UM

namespace Go.UM
open Go.AM
set_option maxRecDepth 4000
structure Ac where
  k : Int
  h : Int
  f : Mf
  a : As
  i : In
def Ac.row (c : Ac) : List AV := [.int .i64 c.k, .int .i64 c.h, .int .u64 c.f.id, .int .i64 c.f.kind, .int .u32 c.f.label, .int .u8 c.f.m0, .int .u8 c.f.m1, .int .u8 c.f.m2, .int .u8 c.f.m3, .int .u8 c.f.m4, .int .u8 c.f.m5, .int .u8 c.f.m6, .int .u8 c.f.m7,
  .int .u32 c.f.first, .int .u32 c.f.last, .int .i64 c.f.size, .int .i64 c.f.chunks, .int .i64 c.a.k, .isl 3 (slc3 c.a.m.v), .isl 2 (slc2 c.a.m.uv), .isl 3 (slc3 c.a.m.t), .int .i64 c.a.x.side, .isl 3 (slc3 c.a.x.t),
  .int .i64 c.a.mt.k, .int .i64 c.a.mt.c.a, .int .i64 c.a.mt.c.b, .int .i64 c.a.mt.c.c, .int .i64 c.a.mt.r,
  .int .i64 c.a.li.k, .int .i64 c.a.li.c.a, .int .i64 c.a.li.c.b, .int .i64 c.a.li.c.c, .int .i64 c.a.li.p.a, .int .i64 c.a.li.p.b, .int .i64 c.a.li.p.c, .int .i64 c.a.li.u.a, .int .i64 c.a.li.u.b, .int .i64 c.a.li.u.c, .int .i64 c.a.li.v.a, .int .i64 c.a.li.v.b, .int .i64 c.a.li.v.c,
  .int .i64 c.i.mesh, .int .i64 c.i.mat, .int .i64 c.i.tex, .int .i64 c.i.n, .int .i64 c.i.t.m0, .int .i64 c.i.t.m1, .int .i64 c.i.t.m2, .int .i64 c.i.t.m3, .int .i64 c.i.t.m4, .int .i64 c.i.t.m5, .int .i64 c.i.t.m6, .int .i64 c.i.t.m7, .int .i64 c.i.t.m8, .int .i64 c.i.t.t.a, .int .i64 c.i.t.t.b, .int .i64 c.i.t.t.c]
def As.few (a : As) : As := ⟨a.k, a.m.few, ⟨a.x.side, a.x.t.take 260⟩, a.mt, a.li⟩
def Ac.few (c : Ac) : Ac := ⟨c.k, c.h, c.f, c.a.few, c.i⟩
theorem few18_c {R : Env} (h : N420 R) (c : Ac) : R.Pc 420 [.agg c.row] (.agg c.few.row) :=
  h.o420.enter 100 rfl fun X bb hfit hp => by
    refine sh ?_
    refine ICall.pure h.n191.o191.hb (few13_c h.n191 c.a.m) rfl ?_
    refine sh ?_
    refine asub_eq (by exact cap3 _ _) ?_
    refine sh ?_
    exact rT
def tdo (t : Tb) (c : Ac) : Tb × Int := if c.k = 0 then tload t c.h c.f c.a else if c.k = 1 then tunload t c.h else if c.k = 2 then tput t c.i else ttake t c.i
structure TbOk (t : Tb) (n : Nat) : Prop where
  row : ∀ r ∈ t.rows, RwOk r
  nd : t.ins.Pairwise fun a b => sameN a b = false
  rd : t.rows.Pairwise fun a b => a.h ≠ b.h
  rl : t.rows.length ≤ n
  il : t.ins.length ≤ n
theorem tdo_c {R : Env} (h : N421 R) (d1 d2 : Bool) (t : Tb) (c : Ac) {n : Nat} (ok : TbOk t n) (hn : n ≤ 1000000) (fx : c.a.x.t.length ≤ 1000) (fb : c.a.bare.Few) (hx : c.i.t.I) :
    R.Mc 421 [.loc 2 1 0 0, .agg c.row] (tabM R d1 d2 t) (.int .i64 (tdo t c).2) (tabM R false false (tdo t c).1) 3 :=
  h.o421.enterM 100 3 rfl rfl rfl fun X bb hfit hp => by
    have h1 := ok.rl
    have h2 := ok.il
    generalize hq : tdo t c = q
    unfold tdo at hq
    unfold tabM
    refine sh ?_
    refine cS (fun k0 => ?_) (fun k0 => ?_)
    · rw [if_pos k0] at hq
      subst hq
      refine sh ?_
      refine cM false [0, 1, 2] (load_c h.n346 d1 d2 t c.h c.f c.a fx fb (by omega)) ?_
      repeat (intro _; first | refine eK ?_ | refine eP ?_)
      refine sh ?_
      exact rM [0, 1, 2]
    · rw [if_neg k0] at hq
      refine sh ?_
      refine cS (fun k1 => ?_) (fun k1 => ?_)
      · rw [if_pos k1] at hq
        subst hq
        refine sh ?_
        refine cM false [0, 1, 2] (tunload_c h.n428 d1 d2 t ok.nd c.h) ?_
        repeat (intro _; first | refine eK ?_ | refine eP ?_)
        refine sh ?_
        exact rM [0, 1, 2]
      · rw [if_neg k1] at hq
        refine sh ?_
        refine cS (fun k2 => ?_) (fun k2 => ?_)
        · rw [if_pos k2] at hq
          subst hq
          refine sh ?_
          refine cM false [0, 1, 2] (tput_c h.n347 d1 d2 t c.i ok.row hx (by omega)) ?_
          repeat (intro _; first | refine eK ?_ | refine eP ?_)
          refine sh ?_
          exact rM [0, 1, 2]
        · rw [if_neg k2] at hq
          subst hq
          refine sh ?_
          refine cM false [0, 1, 2] (ttake_c h.n427 d1 d2 t c.i) ?_
          repeat (intro _; first | refine eK ?_ | refine eP ?_)
          refine sh ?_
          exact rM [0, 1, 2]
end Go.UM

namespace Go.UM
open Go.AM
set_option maxRecDepth 4000
instance {l : List Rw} : LenOf (slR l) l.length := ⟨slR_length l⟩
theorem tput_err {t : Tb} {x : In} (h : (tput t x).2 ≠ 0) : (tput t x).1 = t := by
  unfold tput at h ⊢
  split
  · rfl
  · rename_i k1
    rw [if_neg k1] at h
    split
    · rfl
    · rename_i k2
      rw [if_neg k2] at h
      split
      · rfl
      · rename_i k3
        rw [if_neg k3] at h
        cases hr : rget t.rows x.mesh with
        | none => rfl
        | some r =>
          rw [hr] at h
          dsimp only at h ⊢
          split
          · rfl
          · rename_i k4
            rw [if_neg k4] at h
            exact absurd rfl h
theorem TbOk.mono {t : Tb} {n m : Nat} (h : TbOk t n) (k : n ≤ m) : TbOk t m := ⟨h.row, h.nd, h.rd, Nat.le_trans h.rl k, Nat.le_trans h.il k⟩
theorem tbOk_new : TbOk ⟨[], []⟩ 0 := ⟨fun r h => by simp at h, .nil, .nil, Nat.le_refl _, Nat.le_refl _⟩
theorem sameN_comm (x y : In) : sameN x y = sameN y x := by
  rw [Bool.eq_iff_iff, sameN_iff, sameN_iff]; omega
theorem tload_ok {t : Tb} {n : Nat} (ok : TbOk t n) {hd : Int} {f : Mf} {a : As} (fx : a.x.t.length ≤ 1000) : TbOk (tload t hd f a).1 (n + 1) := by
  have old := ok.mono (Nat.le_succ n)
  unfold tload
  split
  · exact old
  · rename_i k1
    split
    · exact old
    · rename_i k2
      split
      · exact old
      · rename_i k3
        split
        · exact old
        · rename_i k4
          have hn : ∀ r ∈ t.rows, r.h ≠ hd := fun r hr e => by
            apply k2
            unfold rget
            rw [List.find?_isSome]
            exact ⟨r, hr, by simpa using e⟩
          refine ⟨fun r hr => ?_, ok.nd, ?_, ?_, old.il⟩
          · rcases List.mem_append.1 hr with h | h
            · exact ok.row r h
            · simp only [List.mem_singleton] at h
              subst h
              exact ⟨⟨by show 1 ≤ hd; omega, by show hd ≤ 65536; omega⟩, Classical.byContradiction k3, Classical.byContradiction k4, fx⟩
          · rw [List.pairwise_append]
            exact ⟨ok.rd, by simp, fun r hr q hq => by simp only [List.mem_singleton] at hq; subst hq; exact hn r hr⟩
          · simp only [List.length_append, List.length_singleton]
            have := ok.rl; omega
theorem tunload_ok {t : Tb} {n : Nat} (ok : TbOk t n) {hd : Int} : TbOk (tunload t hd).1 n := by
  unfold tunload
  split
  · exact ⟨fun r hr => ok.row r (List.eraseP_sublist.subset hr), ok.nd.sublist List.filter_sublist, ok.rd.sublist List.eraseP_sublist, Nat.le_trans List.eraseP_sublist.length_le ok.rl, Nat.le_trans List.filter_sublist.length_le ok.il⟩
  · exact ok
theorem ttake_ok {t : Tb} {n : Nat} (ok : TbOk t n) {x : In} : TbOk (ttake t x).1 n := by
  unfold ttake
  split
  · exact ⟨ok.row, ok.nd.sublist List.eraseP_sublist, ok.rd, ok.rl, Nat.le_trans List.eraseP_sublist.length_le ok.il⟩
  · exact ok
theorem tput_ok {t : Tb} {n : Nat} (ok : TbOk t n) {x : In} : TbOk (tput t x).1 (n + 1) := by
  have old := ok.mono (Nat.le_succ n)
  unfold tput
  split
  · exact old
  · split
    · exact old
    · split
      · exact old
      · rename_i k3
        cases hr : rget t.rows x.mesh with
        | none => exact old
        | some r =>
          dsimp only
          split
          · exact old
          · refine ⟨ok.row, ?_, ok.rd, old.rl, ?_⟩
            · rw [List.pairwise_append]
              refine ⟨ok.nd, by simp, fun y hy q hq => ?_⟩
              simp only [List.mem_singleton] at hq
              subst hq
              rw [sameN_comm]
              cases hs : sameN q y with
              | false => rfl
              | true =>
                exfalso
                apply k3
                unfold iget
                rw [List.find?_isSome]
                exact ⟨y, hy, hs⟩
            · simp only [List.length_append, List.length_singleton]
              have := ok.il; omega
theorem tdo_ok {t : Tb} {n : Nat} (ok : TbOk t n) {c : Ac} (fx : c.a.x.t.length ≤ 1000) : TbOk (tdo t c).1 (n + 1) := by
  unfold tdo
  split
  · exact tload_ok ok fx
  · split
    · exact (tunload_ok ok).mono (Nat.le_succ n)
    · split
      · exact tput_ok ok
      · exact (ttake_ok ok).mono (Nat.le_succ n)
end Go.UM

namespace Go.UM
open Go.AM
set_option maxRecDepth 4000
def leR (x y : Rw) : Bool := decide (x.h ≤ y.h)
def rsort (l : List Rw) : List Rw := l.mergeSort leR
@[simp] theorem rsort_length (l : List Rw) : (rsort l).length = l.length := by simp [rsort]
theorem rsort_mem {l : List Rw} {r : Rw} : r ∈ rsort l ↔ r ∈ l := (List.mergeSort_perm l leR).mem_iff
theorem rget_of_mem {l : List Rw} (rd : l.Pairwise fun a b => a.h ≠ b.h) {r : Rw} (hr : r ∈ l) : rget l r.h = some r := by
  induction l with
  | nil => simp at hr
  | cons a l ih =>
    obtain ⟨h1, h2⟩ := List.pairwise_cons.1 rd
    unfold rget
    rw [List.find?_cons]
    rcases List.mem_cons.1 hr with rfl | h
    · simp
    · have : (a.h == r.h) = false := by simpa using h1 r h
      rw [this]
      exact ih h2 h
def keyL (l : List Rw) : List Int := (rsort l).map (·.h)
abbrev KeysI (R : Env) : Prop := ∀ (d1 : Bool) (l : List Rw), l.Pairwise (fun a b => a.h ≠ b.h) → (∀ r ∈ l, RwOk r) → l.length ≤ 1000000 →
  R.Mz true 434 [.clo (.fn (R.ft 447)) [.loc 0 1 0 0]] [(0, .var (R.ty 57) [.omap 1]), (1, .map 1 false true d1 41 (rwL l))] (.osl 2 (keyL l).length) [(0, .var (R.ty 57) [.omap 1]), (1, .map 1 false true d1 41 (rwL l)), (2, .arr (R.ty 10) 1 (slcK .i64 (keyL l)))] 3
theorem keys_c {R : Env} (h : N433 R) (d1 : Bool) (l : List Rw) : R.Mc 433 [.omap 0] [(0, .map 1 false true d1 41 (rwL l))] (.clo (.fn (R.ft 447)) [.loc 1 1 0 0]) [(0, .map 1 false true d1 41 (rwL l)), (1, .var (R.ty 57) [.omap 0])] 2 :=
  h.o433.enterM 60 1 rfl rfl rfl fun X bb hfit hp => by
    refine sh ?_
    exact rM [0, 1]
theorem key_at {l : List Rw} {i : Nat} {k : Int} (h : (keyL l)[i]? = some k) : ∃ r, (rsort l)[i]? = some r ∧ r.h = k := by
  unfold keyL at h
  rw [List.getElem?_map] at h
  exact Option.map_eq_some_iff.1 h
theorem slR_take {l : List Rw} {i : Nat} {r : Rw} (h : l[i]? = some r) : slR (l.take i) ++ [r.row] = slR (l.take (i + 1)) := by
  rw [List.take_add_one, h]; simp [slR]
set_option maxHeartbeats 4000000 in
theorem trows_c {R : Env} (h : N418 R) (K : KeysI R) (d1 d2 : Bool) (t : Tb) {n : Nat} (ok : TbOk t n) (hn : n ≤ 1000000) :
    R.Mz true 418 [.loc 2 1 0 0] (tabM R d1 d2 t) (.osl 3 (rsort t.rows).length) (tabM R d1 d2 t ++ [(3, .arr (R.ty 45) 40 (slR (rsort t.rows)))]) 4 :=
  h.o418.enterMW 100 3 rfl rfl rfl fun X bb hfit hp hz => by
    have hl := ok.rl
    have hk : (keyL t.rows).length = t.rows.length := by simp [keyL]
    unfold tabM
    refine sh ?_
    refine cM false [0, 1, 2] (tnone_c h.n355 d1 d2 t) ?_
    repeat (intro _; first | refine eK ?_ | refine eP ?_)
    refine sh ?_
    refine cM false [0] (keys_c h.n433 d1 t.rows) ?_
    repeat (intro _; first | refine eK ?_ | refine eP ?_)
    refine sh ?_
    refine cM false [3, 0] (K d1 t.rows ok.rd ok.row (by omega)) ?_
    repeat (intro _; first | refine eK ?_ | refine eP ?_)
    refine sh ?_
    refine lPa 100 (Sum.elim (fun _ : Unit => True) (fun i : Nat => 1 ≤ i ∧ i ≤ t.rows.length)) (Sum.elim (fun _ => ⟨[(0, .loc 2 1 0 0), (3, .nils), (14, .osl 4 (keyL t.rows).length), (15, .int .i64 (keyL t.rows).length), (16, .int .i64 0)], [(0, .map 1 false true d1 41 (rwL t.rows)), (1, .map 4 true true d2 16 (sIn t.ins)), (2, .var (R.ty 47) [.omap 0, .omap 1]), (3, .var (R.ty 57) [.omap 0]), (4, .arr (R.ty 10) 1 (slcK .i64 (keyL t.rows)))], 5⟩) (fun i => ⟨[(0, .loc 2 1 0 0), (3, .osl 5 ((rsort t.rows).take i).length), (14, .osl 4 (keyL t.rows).length), (15, .int .i64 (keyL t.rows).length), (16, .int .i64 i)], [(0, .map 1 false true d1 41 (rwL t.rows)), (1, .map 4 true true d2 16 (sIn t.ins)), (2, .var (R.ty 47) [.omap 0, .omap 1]), (3, .var (R.ty 57) [.omap 0]), (4, .arr (R.ty 10) 1 (slcK .i64 (keyL t.rows))), (5, .arr (R.ty 45) 40 (slR ((rsort t.rows).take i)))], 6⟩)) (Sum.elim (fun _ => t.rows.length + 1) (fun i => t.rows.length - i)) (.inl ()) ?_ ?_
    · trivial
    · rintro (_ | i) hv
      · dsimp only [Sum.elim_inl] at hv ⊢
        refine sh ?_
        refine cS (fun h1 => ?_) (fun h1 => ?_)
        · obtain ⟨k, hkk⟩ : ∃ u_, (keyL t.rows)[0]? = some u_ := ⟨_, List.getElem?_eq_getElem (by omega)⟩
          refine sh ?_
          refine aelt_map (by simp) hkk ?_
          obtain ⟨r, hr, rfl⟩ := key_at hkk
          have hm := rsort_mem.1 (List.mem_of_getElem? hr)
          refine sh ?_
          refine afdR fun j => ?_
          rw [rget_of_mem ok.rd hm]
          dsimp only [Option.map_some]
          refine sh ?_
          refine ICall.pure h.n356.o356.hb (copied_c' h.n356 r.a (achk_few (ok.row r hm).a (ok.row r hm).x)) rfl ?_
          have e1 : (rsort t.rows).take 1 = [r] := by
            cases hq : rsort t.rows with
            | nil => rw [hq] at hr; simp at hr
            | cons a q => rw [hq] at hr; simp at hr; rw [hr]; rfl
          refine sh ?_
          refine nRm [0, 1, 2, 3, 4, 7] (.inr 1) ?_ ?_ ?_
          · exact ⟨by omega, by omega⟩
          · dsimp only [Sum.elim_inr]; omega
          · all_goals repeat' (first | exact True.intro | refine And.intro ?_ ?_ | (intro _u; clear _u) | (with_reducible first | exact DnLe.fg | refine eM ?_ ?_ | refine eF ?_ ?_ ?_ | refine eN ?_ | refine eL ?_ ?_ ?_ | refine eA ?_ ?_ | refine IWk.mk ⟨_, hp, rfl⟩ ?_ ?_) | refine IWk.mk ⟨_, hp, rfl⟩ ?_ ?_)
            all_goals try first | with_reducible rfl | omega | exact .inl (by decide) | (simp; done) | rfl
            all_goals first | (rw [e1]; rfl) | (rw [e1]; simp [Rw.row, slR])
        · have e : t.rows = [] := List.eq_nil_of_length_eq_zero (by omega)
          rw [e, show rsort [] = [] from by simp [rsort]]
          refine sh ?_
          exact rM [0, 1, 2, 50]
      · dsimp only [Sum.elim_inr] at hv ⊢
        have ht : ((rsort t.rows).take i).length = i := by rw [List.length_take, rsort_length]; omega
        refine sh ?_
        refine cS (fun h1 => ?_) (fun h1 => ?_)
        · obtain ⟨k, hkk⟩ : ∃ u_, (keyL t.rows)[i]? = some u_ := ⟨_, List.getElem?_eq_getElem (by omega)⟩
          refine sh ?_
          refine aelt_map (by simp) hkk ?_
          obtain ⟨r, hr, rfl⟩ := key_at hkk
          have hm := rsort_mem.1 (List.mem_of_getElem? hr)
          refine sh ?_
          refine afdR fun j => ?_
          rw [rget_of_mem ok.rd hm]
          dsimp only [Option.map_some]
          refine sh ?_
          refine ICall.pure h.n356.o356.hb (copied_c' h.n356 r.a (achk_few (ok.row r hm).a (ok.row r hm).x)) rfl ?_
          refine sh ?_
          refine nX (.inr (i + 1)) ?_ ?_ ⟨_, hp, rfl⟩ ?_ ?_
          · exact ⟨by omega, by omega⟩
          · dsimp only [Sum.elim_inr]; omega
          · all_goals repeat' (first | exact True.intro | refine And.intro ?_ ?_ | (intro _u; clear _u) | (with_reducible first | exact DnLe.fg | refine eM ?_ ?_ | refine eF ?_ ?_ ?_ | refine eN ?_ | refine eL ?_ ?_ ?_ | refine eA ?_ ?_ | refine IWk.mk ⟨_, hp, rfl⟩ ?_ ?_) | refine IWk.mk ⟨_, hp, rfl⟩ ?_ ?_)
            all_goals try first | with_reducible rfl | omega | exact .inl (by decide) | (simp; done) | rfl
            all_goals (simp only [List.length_append, slR_length, List.length_take, rsort_length, List.length_singleton]; omega)
          · all_goals repeat' (first | exact True.intro | refine And.intro ?_ ?_ | (intro _u; clear _u) | (with_reducible first | exact DnLe.fg | refine eM ?_ ?_ | refine eF ?_ ?_ ?_ | refine eN ?_ | refine eL ?_ ?_ ?_ | refine eA ?_ ?_ | refine IWk.mk ⟨_, hp, rfl⟩ ?_ ?_) | refine IWk.mk ⟨_, hp, rfl⟩ ?_ ?_)
            all_goals try first | with_reducible rfl | omega | exact .inl (by decide) | (simp; done) | rfl
            all_goals first | exact slR_take hr | (right; simp [Rw.row])
        · have e : (rsort t.rows).take i = rsort t.rows := List.take_of_length_le (by rw [rsort_length]; omega)
          rw [e]
          refine sh ?_
          exact rM [0, 1, 2, 5]
end Go.UM

namespace Go.UM
open Go.AM Go.RowKit Go.Proofs
def KeysLaw (P : Program) (f g kt et : Nat) : Prop :=
  ∀ (b nn Bm : Nat) (D0 : DataW Unit) (Q : Value → Option (DataW Unit × List MemPlace)) (w : World), Bm < w.heap.size → w.cell? ⟨Bm, 0, none⟩ = some (.map (some b)) → w.ownsMap P kt Q b nn D0 → Maps.size D0 ≤ maxLen → Maps.size D0 * 8 ≤ 140737488355328 →
    Calls P f #[.func (.func g) #[] #[.pointer (some ⟨Bm, 0, none⟩)]] w fun e w' => ∃ (v : Value) (ss : List Int), e = .returned v ∧ ss.Perm (intKeys D0) ∧
      w'.ownsRow w.heap.size et 1 v ss.length ((ss.mergeSort (fun x y => decide (x ≤ y))).map encZ) ∧ (v = .slice none 0 0 ↔ ss = []) ∧ Go.RowKit.Below w.heap.size w w'
theorem keyL_sort {l : List Rw} {ss : List Int} (h : ss.Perm (l.map (·.h))) : ss.mergeSort (fun x y => decide (x ≤ y)) = keyL l := by
  have tr : ∀ a b c : Int, decide (a ≤ b) = true → decide (b ≤ c) = true → decide (a ≤ c) = true := fun a b c h1 h2 => by simp only [decide_eq_true_eq] at *; omega
  have to : ∀ a b : Int, (decide (a ≤ b) || decide (b ≤ a)) = true := fun a b => by simp only [Bool.or_eq_true, decide_eq_true_eq]; omega
  have tr' : ∀ x y z : Rw, leR x y = true → leR y z = true → leR x z = true := fun x y z h1 h2 => by simp only [leR, decide_eq_true_eq] at h1 h2 ⊢; omega
  have to' : ∀ x y : Rw, (leR x y || leR y x) = true := fun x y => by simp only [leR, Bool.or_eq_true, decide_eq_true_eq]; omega
  refine List.Perm.eq_of_pairwise (le := fun a b => decide (a ≤ b) = true) (fun a b _ _ h1 h2 => by simp only [decide_eq_true_eq] at h1 h2; omega) (List.pairwise_mergeSort tr to ss) ?_ ((List.mergeSort_perm ss _).trans (h.trans ((List.mergeSort_perm l leR).map (·.h)).symm))
  unfold keyL
  rw [List.pairwise_map]
  exact List.pairwise_mergeSort tr' to' l
def qN : Value → Option (DataW Unit × List MemPlace) := fun _ => some (.nil, [])
theorem rep_int {ρ : AM.Place} {L : Lens} {I : Nat → Prop} {w : World} {N : Nat → Prop} {n : Int} {v : Value} (h : Rep ρ L I w N (.int .i64 n) v) : v = .int .i64 n := by cases h; rfl
theorem own_rows {P : Program} {kt : Nat} (hkt : P.underlying kt = some (.int .i64)) {l : List Rw} (rd : l.Pairwise fun a b => a.h ≠ b.h) (ok : ∀ r ∈ l, RwOk r) (hl : l.length ≤ 1000000) {en : Array MapEntry} {ck gm : Nat} {w : World} (hg : w.heap[gm]? = some (.map en ck)) (hs : en.size = l.length)
    (hb : ∀ (i j : Nat) (e f : MapEntry), en[i]? = some e → en[j]? = some f → i < j → e.born < f.born) (hck : ∀ (i : Nat) (e : MapEntry), en[i]? = some e → e.born < ck)
    (hk : ∀ (i : Nat) (e : MapEntry) (r : Rw), en[i]? = some e → l[i]? = some r → e.key = .int .i64 r.h) :
    ∃ D0 : DataW Unit, w.ownsMap P kt qN gm l.length D0 ∧ Maps.size D0 = l.length ∧ (intKeys D0).Perm (l.map (·.h)) := by
  have hrd : ∀ (i : Nat) (e : MapEntry) (r : Rw), en[i]? = some e → l[i]? = some r → WideElems.rd P kt qN e = some (.int .i64 r.h, .nil) := by
    intro i e r he hr
    have hh := (ok r (List.mem_of_getElem? hr)).h
    have hw : (Lit.int .i64 r.h).wf = true := by simp [Lit.wf, IntKind.min, IntKind.max, IntKind.bits, IntKind.signed]; omega
    unfold WideElems.rd
    rw [hk i e r he hr]
    simp [keyOf, hkt, mapKey, hw, qN]
  have each : ∀ (i : Nat) (e : MapEntry), en[i]? = some e → ∃ r, l[i]? = some r := fun i e he => by
    have := (Array.getElem?_eq_some_iff.1 he).1
    exact ⟨l[i]'(by omega), List.getElem?_eq_getElem (by omega)⟩
  have hmap : en.toList.map (WideElems.rg P kt qN) = l.map fun r => ((.int .i64 r.h, .nil) : Lit × DataW Unit) := by
    apply List.ext_getElem?
    intro i
    rw [List.getElem?_map, List.getElem?_map]
    cases he : en.toList[i]? with
    | none =>
      have : l[i]? = none := by
        rw [List.getElem?_eq_none_iff] at he ⊢
        simp at he; omega
      rw [this]; rfl
    | some e =>
      have he' : en[i]? = some e := by simpa using he
      obtain ⟨r, hr⟩ := each i e he'
      rw [hr]
      simp only [Option.map_some]
      unfold WideElems.rg
      rw [hrd i e r he' hr]; rfl
  refine ⟨_, ⟨en, ck, hg, ⟨?_, ⟨?_, ?_, ?_⟩, ?_⟩, Nat.le_of_eq hs, rfl⟩, ?_, ?_⟩
  · rw [hs]; have : (1000000 : Nat) ≤ maxLen := by decide
    omega
  · intro x hx
    obtain ⟨i, hi, rfl⟩ := List.getElem_of_mem hx
    exact hck i _ (by rw [Array.getElem_toList]; exact Array.getElem?_eq_getElem (by simpa using hi))
  · show List.Pairwise (· ≠ ·) _
    rw [List.pairwise_map, List.pairwise_iff_getElem]
    intro i j hi hj hij
    have := hb i j _ _ (Array.getElem?_eq_getElem (by simpa using hi)) (Array.getElem?_eq_getElem (by simpa using hj)) hij
    simp only [Array.getElem_toList]
    omega
  · show List.Pairwise (· ≠ ·) _
    rw [List.pairwise_map, List.pairwise_iff_getElem]
    intro i j hi hj hij
    have hi' : i < en.size := by simpa using hi
    have hj' : j < en.size := by simpa using hj
    simp only [Array.getElem_toList]
    rw [hk i _ l[i] (Array.getElem?_eq_getElem hi') (List.getElem?_eq_getElem (by omega)), hk j _ l[j] (Array.getElem?_eq_getElem hj') (List.getElem?_eq_getElem (by omega))]
    intro e
    exact List.pairwise_iff_getElem.1 rd i j (by omega) (by omega) hij (by simpa using e)
  · intro x hx
    obtain ⟨i, hi, rfl⟩ := List.getElem_of_mem hx
    have hi' : i < en.size := by simpa using hi
    exact ⟨_, hrd i _ l[i] (by rw [Array.getElem_toList]; exact Array.getElem?_eq_getElem hi') (List.getElem?_eq_getElem (by omega))⟩
  · rw [Maps.size_eq, length_sorted, List.length_map]; simpa using hs
  · rw [hmap]
    have := (Go.WideShapes.sorted_perm (l.map fun r => ((.int .i64 r.h, .nil) : Lit × DataW Unit))).map fun p => intOf p.1
    rw [List.map_map] at this
    exact this
set_option maxHeartbeats 1000000 in
theorem keysI_of {R : Env} {kt : Nat} (hb : HasBody R.P (R.ft 434)) (hkt : R.P.underlying kt = some (.int .i64)) (KL : KeysLaw R.P (R.ft 434) (R.ft 447) kt (R.ty 10)) : KeysI R := by
  intro d1 l rd ok hl
  refine ⟨hb, fun w I ρ vs hW hr => ?_, rfl⟩
  have W := hW 0
  obtain ⟨hvl, hr⟩ := hr
  obtain ⟨v0, rfl⟩ : ∃ v0, vs = [v0] := by
    match vs, hvl with
    | [a], _ => exact ⟨a, rfl⟩
  have r0 := hr 0 (by simp)
  have r0 : Rep ρ _ I w (· < 2) (.clo (.fn (R.ft 447)) [.loc 0 1 0 0]) v0 := r0
  have hM0 : mget (toM [(0, IBlk.var (R.ty 57) [.omap 1]), (1, .map 1 false true d1 41 (rwL l))]) 0 = some ⟨R.ty 57, 1, [[.omap 1]], none⟩ := rfl
  have hM1 : mget (toM [(0, IBlk.var (R.ty 57) [.omap 1]), (1, .map 1 false true d1 41 (rwL l))]) 1 = some ⟨0, 41, rwL l, some (1, false, true, d1)⟩ := rfl
  cases r0 with
  | clo _ _ us hul hur =>
    obtain ⟨u0, rfl⟩ : ∃ u0, us = [u0] := by
      match us, hul with
      | [a], _ => exact ⟨a, rfl⟩
    have q0 := hur 0 (by simp)
    have q0 : Rep ρ _ I w (· < 2) (.loc 0 1 0 0) u0 := q0
    obtain ⟨_, g, cap, hρ0, rfl⟩ := rep_loc (sz := 1) q0 (by rw [lens_some]; exact ⟨_, hM0, rfl, rfl⟩)
    obtain ⟨cs, fr, hobj, _, _, _, _, _, _, hcell⟩ := (W.blk 0 _ hM0).real g cap hρ0
    have hobj : w.heap[g]? = some (.cells cs (R.ty 57) fr) := hobj
    obtain ⟨u, hu, _, hru⟩ := hcell 0 0 (by simp) (by simp)
    have hru : Rep ρ _ I w (· < 2) (.omap 1) u := hru
    have hu : cs[0]? = some u := by simpa using hu
    obtain ⟨gm, cm, hρ1, rfl⟩ : ∃ gm cm, ρ 1 = some (gm, cm) ∧ u = .map (some gm) := by
      cases hru with
      | omap _ _ _ _ h => exact h 41 (by rw [lens_some]; exact ⟨_, hM1, rfl, rfl⟩)
    have B1 := W.blk 1 _ hM1
    obtain ⟨cs1, fr1, hmap, _, _, _, _, _, _, hcell1⟩ := B1.real gm cm hρ1
    obtain ⟨en, ck, hg, hs, MC⟩ := hmap
    have hs : en.size = l.length := by simpa using hs
    have hkey : ∀ (i : Nat) (e : MapEntry) (r : Rw), en[i]? = some e → l[i]? = some r → e.key = .int .i64 r.h := by
      intro i e r he hr
      obtain ⟨k1, k2, k3, k4⟩ := MC.key i e he
      have hi := (List.getElem?_eq_some_iff.1 hr).1
      obtain ⟨u, hu, _, hru⟩ := hcell1 i 0 (by simpa using hi) (by simp)
      have hrow : (rwL l).getD i [] = rwE r := by
        unfold rwL
        rw [List.getD_eq_getElem?_getD, List.getElem?_map, hr]; rfl
      have hru : Rep ρ _ I w (· < 2) (((rwL l).getD i []).getD 0 .bad) u := hru
      rw [hrow] at hru
      have hru := rep_int hru
      have hf : flatV e.key = [e.key] := by
        cases hk : e.key <;> first | rfl | (rw [hk] at k3; simp [isAggV] at k3)
      have := MC.cell i e 0 e.key he (by rw [hf]; rfl)
      rw [this] at hu
      cases hu
      exact hru
    obtain ⟨D0, hown, hsz, hperm⟩ := own_rows hkt rd ok hl hg hs MC.born MC.clock hkey
    have hlt := (Array.getElem?_eq_some_iff.1 hobj).1
    have hc : w.cell? ⟨g, 0, none⟩ = some (.map (some gm)) := by
      simp only [World.cell?, hobj, Option.isSome_none, Bool.false_eq_true, if_false]
      exact hu
    have hml : (1000000 : Nat) ≤ maxLen := by decide
    have hcall := KL gm l.length g D0 qN w hlt hc hown (by omega) (by omega)
    refine hcall.mono ?_
    rintro e w' ⟨v, ss, rfl, hp, ⟨_, hrow⟩, hnil, hbl⟩
    have hp := hp.trans hperm
    have hkl := keyL_sort hp
    have hlen : (keyL l).length = ss.length := by rw [← hkl, List.length_mergeSort]
    refine ⟨v, rfl, ?_⟩
    obtain ⟨E0, W0⟩ := W.ext' (w' := { w with drawn := w'.drawn }) (I' := I) rfl rfl rfl (Nat.le_refl _) (fun _ _ => rfl) (fun _ h => h) W.lt (fun _ _ h => h) (Nat.zero_le _)
    rcases hrow with ⟨rfl, h0⟩ | ⟨gb, cp, cur, rfl, hge, hgb, hle, hcm, hcs, htk⟩
    · have e0 : keyL l = [] := List.eq_nil_of_length_eq_zero (by omega)
      obtain ⟨E1, W1⟩ := W.ext' (w' := w') (I' := I) hbl.os hbl.tape hbl.output hbl.size hbl.block (fun _ h => h) (fun g hg => Nat.lt_of_lt_of_le (W.lt g hg) hbl.size) (fun _ _ h => h) (Nat.zero_le _)
      obtain ⟨E2, W2⟩ := W1.virt (n := 2) (Nat.lt_irrefl 2) (R.ty 10) 1
      have e1 : mupd (mget (toM [(0, IBlk.var (R.ty 57) [.omap 1]), (1, .map 1 false true d1 41 (rwL l))])) 2 ⟨R.ty 10, 1, [], none⟩ = mget (toM [(0, .var (R.ty 57) [.omap 1]), (1, .map 1 false true d1 41 (rwL l)), (2, .arr (R.ty 10) 1 (slcK .i64 (keyL l)))]) := by
        rw [e0]
        funext m
        by_cases hm : m = 2
        · subst hm; rfl
        · have : (m == 2) = false := by simpa using hm
          simp [mupd, hm, toM, mget, this]
      rw [e1] at W2
      refine ⟨_, I, 0, W2.widen (fun m hm => by rcases hm with rfl | hm; exact Nat.lt_succ_self 2; exact Nat.lt_succ_of_lt hm), ?_⟩
      rw [show (keyL l).length = 0 from by rw [e0]; rfl]
      refine .osl 2 0 _ (Nat.lt_succ_self 2) rfl fun k sz hk => ⟨Nat.zero_le _, fun _ => .inl ⟨if_pos rfl, _, rfl⟩⟩
    · have hgb : w'.heap[gb]? = some (.cells cur (R.ty 10) (0, 0)) := hgb
      have hsl : (slcK .i64 (keyL l)).length = ss.length := by simp [slcK, hlen]
      obtain ⟨E1, W1⟩ := W0.put (w' := w') 2 ⟨R.ty 10, 1, slcK .i64 (keyL l), none⟩ gb cp cur (0, 0) hbl.os hbl.tape hbl.output hbl.size (fun k hk _ => hbl.block k hk) hgb (fun o _ h => by omega) (.inl hge)
        (fun b0 h0 => by have h0 : (Option.none : Option Blk) = some b0 := h0; cases h0) (fun h => absurd h (Nat.lt_irrefl 2)) (fun e he => by obtain ⟨x, _, rfl⟩ := List.mem_map.1 he; rfl) (by show (slcK .i64 (keyL l)).length ≤ cp; omega) hcm hcs
        (fun i j hi hj => by
          have hi : i < (slcK .i64 (keyL l)).length := hi
          have hj : j < 1 := hj
          have e0 : j = 0 := by omega
          subst e0
          have hi' : i < (keyL l).length := by omega
          have hat : (cur.toList.take (ss.length * 1))[i]? = some (encZ (keyL l)[i]) := by rw [htk, hkl, List.getElem?_map, List.getElem?_eq_getElem hi']; rfl
          rw [List.getElem?_take_of_lt (by omega)] at hat
          refine ⟨encZ (keyL l)[i], by simpa using hat, rfl, ?_⟩
          rw [show (((⟨R.ty 10, 1, slcK .i64 (keyL l), none⟩ : Blk).es.getD i []).getD 0 .bad) = .int .i64 (keyL l)[i] from by
            have e2 : (slcK .i64 (keyL l))[i]? = some [.int .i64 (keyL l)[i]] := by unfold slcK; rw [List.getElem?_map, List.getElem?_eq_getElem hi']; rfl
            show ((slcK .i64 (keyL l)).getD i []).getD 0 .bad = _
            rw [List.getD_eq_getElem?_getD (l := slcK .i64 (keyL l)), e2]; rfl]
          exact .int _ _)
      have e1 : mupd (mget (toM [(0, IBlk.var (R.ty 57) [.omap 1]), (1, .map 1 false true d1 41 (rwL l))])) 2 ⟨R.ty 10, 1, slcK .i64 (keyL l), none⟩ = mget (toM [(0, .var (R.ty 57) [.omap 1]), (1, .map 1 false true d1 41 (rwL l)), (2, .arr (R.ty 10) 1 (slcK .i64 (keyL l)))]) := by
        funext m
        by_cases hm : m = 2
        · subst hm; rfl
        · have : (m == 2) = false := by simpa using hm
          simp [mupd, hm, toM, mget, this]
      rw [e1] at W1
      refine ⟨_, I, 0, W1.widen (fun m hm => by rcases hm with rfl | hm; exact Nat.lt_succ_self 2; exact Nat.lt_succ_of_lt hm), ?_⟩
      rw [hlen]
      refine .osl 2 ss.length _ (Nat.lt_succ_self 2) rfl fun k sz hk => ?_
      obtain ⟨b, hb, h1, _⟩ := lens_some.1 hk
      have hb : some (⟨R.ty 10, 1, slcK .i64 (keyL l), Option.none⟩ : Blk) = some b := hb
      cases hb
      have h1 : (slcK .i64 (keyL l)).length = k := h1
      exact ⟨by omega, fun _ => .inr ⟨gb, cp, by simp [pset], rfl⟩⟩
end Go.UM

namespace Go.UM
open Go.AM Go.Shelf Go.RowKit Go.Lib Go.Sort Go.Proofs
section
variable {α : Type} [Inhabited α]
def pdqL (cf : α → α → Int) (l : List α) : List α := (pdq (ltOf cf) l.toArray 0 l.toArray.size (Lib.bitLen l.toArray.size) true true).toList
theorem sortLaw_of {P : Program} {ρ : Ren} (L : SlLaysF0.n6 P ρ) {k : Nat} (aE : ∀ w, (isAgg (ρ.t 24)).run P w = .ok true w) (zE : ∀ w, (Go.sizeOf (ρ.t 24)).run P w = .ok k w) {nums : α → List Int} (hk : ∀ x, (nums x).length = k)
    {cf : α → α → Int} (hO : SWO (ltOf cf)) {g : Nat} (eg : ∀ args w, (callFunc g args).run P w = .ok (.enter g args) w) : SortLaw P (ρ.f 6) g k nums cf (pdqL cf) := by
  refine ⟨fun p cap fv w => AnyF.slices_SortFunc_none L p cap fv w, fun blk cap l w hc hH hb hl => ?_⟩
  have h := AnyQ.slices_SortFunc_eq L k aE zE (nmV nums) (fun x => by simp [nmV, hk]) (fun x v hv => by obtain ⟨n, _, rfl⟩ := List.mem_map.1 hv; rfl) cf hO g #[] blk 0 cap l.toArray w eg (by simpa using hc) hH hb (by simpa using hl)
  have e : (pdqL cf l).toArray = pdq (ltOf cf) l.toArray 0 l.toArray.size (Lib.bitLen l.toArray.size) true true := by simp [pdqL]
  rw [e]
  rwa [List.size_toArray] at h ⊢
theorem pdqL_perm (cf : α → α → Int) (hO : SWO (ltOf cf)) (l : List α) : (pdqL cf l).Perm l := by
  have h := (pdq_sorts (ltOf cf) hO l.toArray 0 l.toArray.size (Lib.bitLen l.toArray.size) true true (Nat.zero_le _) (Nat.le_refl _) (Or.inl rfl)).1
  obtain ⟨h1, _, h3⟩ := h
  unfold pdqL
  generalize pdq (ltOf cf) l.toArray 0 l.toArray.size (Lib.bitLen l.toArray.size) true true = d at h1 h3 ⊢
  rw [← h1] at h3
  have e1 : d.extract 0 d.size = d := by simp
  rw [e1] at h3
  rw [h1] at h3
  simpa using h3
theorem pdqL_ord (cf : α → α → Int) (hO : SWO (ltOf cf)) (l : List α) : (pdqL cf l).Pairwise fun x y => ltOf cf y x = false := by
  have h := pdq_sorts (ltOf cf) hO l.toArray 0 l.toArray.size (Lib.bitLen l.toArray.size) true true (Nat.zero_le _) (Nat.le_refl _) (Or.inl rfl)
  obtain ⟨⟨h1, _, _⟩, h2⟩ := h
  unfold pdqL
  generalize pdq (ltOf cf) l.toArray 0 l.toArray.size (Lib.bitLen l.toArray.size) true true = d at h1 h2 ⊢
  rw [List.pairwise_iff_getElem]
  intro i j hi hj hij
  have hj' : j < d.size := by simpa using hj
  have := h2 i j (Nat.zero_le _) hij (by omega)
  rw [getElem!_pos d j hj', getElem!_pos d i (by omega)] at this
  simpa using this
end
theorem ordI_swo : SWO (ltOf ordI) where
  irrefl x := by simp only [ltOf, decide_eq_false_iff_not, ordI_lt]; omega
  trans x y z h1 h2 := by simp only [ltOf, decide_eq_true_eq, ordI_lt] at *; omega
  ntrans x y z h1 h2 := by simp only [ltOf, decide_eq_false_iff_not, ordI_lt] at *; omega
theorem srt_pdqL : Srt (pdqL ordI) := ⟨fun l => pdqL_perm ordI ordI_swo l, fun l => (pdqL_ord ordI ordI_swo l).imp fun {a b} h => by
  simp only [ltOf, decide_eq_false_iff_not] at h
  exact leI_iff.2 h⟩
end Go.UM

namespace Go.UM
open Go.AM
set_option maxRecDepth 4000
def tle (b : Bool) (hd : Int) (f : Mf) (a : As) : Int := if hd < 1 ∨ 65536 < hd then 2 else if b = true then 10 else if achk a ≠ 0 then achk a else if f.kind ≠ a.k then 12 else 0
theorem tload_tle (t : Tb) (hd : Int) (f : Mf) (a : As) : tload t hd f a = (if tle (rget t.rows hd).isSome hd f a = 0 then ⟨t.rows ++ [⟨hd, f, a⟩], t.ins⟩ else t, tle (rget t.rows hd).isSome hd f a) := by
  unfold tload tle
  by_cases k1 : hd < 1 ∨ 65536 < hd
  · rw [if_pos k1, if_pos k1]; rfl
  · rw [if_neg k1, if_neg k1]
    by_cases k2 : (rget t.rows hd).isSome = true
    · rw [if_pos k2, if_pos k2]; rfl
    · rw [if_neg k2, if_neg k2]
      by_cases k3 : achk a ≠ 0
      · rw [if_pos k3, if_pos k3, if_neg k3]
      · rw [if_neg k3, if_neg k3]
        by_cases k4 : f.kind ≠ a.k
        · rw [if_pos k4, if_pos k4]; rfl
        · rw [if_neg k4, if_neg k4]; rfl
end Go.UM

namespace Go.UM
open Go.AM
set_option maxRecDepth 4000
theorem isort_mem {l : List In} {x : In} : x ∈ isort l ↔ x ∈ l := (List.mergeSort_perm l leI).mem_iff
theorem tput_ins {t : Tb} {x : In} (h : (tput t x).2 = 0) : (tput t x).1 = ⟨t.rows, t.ins ++ [x]⟩ ∧ iget t.ins x = none ∧ (tput ⟨t.rows, t.ins ++ [x]⟩ x).2 = 10 := by
  unfold tput at h ⊢
  by_cases k1 : x.n < 0 ∨ 65536 < x.n
  · rw [if_pos k1] at h; exact absurd h (by simp)
  · rw [if_neg k1] at h ⊢
    rw [if_neg k1]
    by_cases k2 : tparts t.rows x ≠ 0
    · rw [if_pos k2] at h; exact absurd h k2
    · rw [if_neg k2] at h ⊢
      rw [if_neg k2]
      by_cases k3 : (iget t.ins x).isSome = true
      · rw [if_pos k3] at h; exact absurd h (by simp)
      · rw [if_neg k3] at h ⊢
        have hn : iget t.ins x = none := by simpa using k3
        have hs : (iget (t.ins ++ [x]) x).isSome = true := by
          unfold iget
          rw [List.find?_isSome]
          exact ⟨x, by simp, by simp [sameN]⟩
        rw [if_pos hs]
        cases hr : rget t.rows x.mesh with
        | none => rw [hr] at h; exact absurd h (by simp)
        | some r =>
          rw [hr] at h
          dsimp only at h ⊢
          by_cases k4 : offs x.t r.a.m.v ≠ 0
          · rw [if_pos k4] at h; exact absurd h k4
          · rw [if_neg k4]; exact ⟨rfl, hn, rfl⟩
end Go.UM

namespace Go.UM
open Go.AM
set_option maxRecDepth 4000
def InOk (l : List Rw) (x : In) : Prop := ∃ a b, rget l x.mesh = some a ∧ a.f.kind = 1 ∧ rget l x.mat = some b ∧ b.f.kind = 3 ∧ (x.tex = 0 ∨ ∃ c, rget l x.tex = some c ∧ c.f.kind = 2) ∧ offs x.t a.a.m.v = 0
theorem InOk.mono {l l' : List Rw} {x : In} (h : InOk l x) (k1 : ∀ r, rget l x.mesh = some r → rget l' x.mesh = some r) (k2 : ∀ r, rget l x.mat = some r → rget l' x.mat = some r) (k3 : ∀ r, rget l x.tex = some r → rget l' x.tex = some r) : InOk l' x := by
  obtain ⟨a, b, h1, h2, h3, h4, h5, h6⟩ := h
  refine ⟨a, b, k1 a h1, h2, k2 b h3, h4, ?_, h6⟩
  rcases h5 with h | ⟨c, h, h'⟩
  · exact .inl h
  · exact .inr ⟨c, k3 c h, h'⟩
theorem rget_app_some {l : List Rw} {q r : Rw} {h : Int} (e : rget l h = some r) : rget (l ++ [q]) h = some r := by
  unfold rget at *
  rw [List.find?_append, e]; rfl
theorem rget_erase {l : List Rw} {hd h : Int} (hne : h ≠ hd) : rget (l.eraseP fun r => r.h == hd) h = rget l h := by
  unfold rget
  induction l with
  | nil => rfl
  | cons a l ih =>
    by_cases e : (a.h == hd) = true
    · rw [List.eraseP_cons_of_pos (p := fun r : Rw => r.h == hd) e]
      have : (a.h == h) = false := by
        have e : a.h = hd := by simpa using e
        simpa [e] using Ne.symm hne
      rw [List.find?_cons, this]
    · rw [List.eraseP_cons_of_neg (p := fun r : Rw => r.h == hd) e, List.find?_cons, List.find?_cons, ih]
structure TbSd (t : Tb) : Prop where
  ok : ∀ x ∈ t.ins, InOk t.rows x
  it : ∀ x ∈ t.ins, x.t.I
theorem tbSd_new : TbSd ⟨[], []⟩ := ⟨fun x h => by simp at h, fun x h => by simp at h⟩
theorem tparts_ok {l : List Rw} {x : In} (h : tparts l x = 0) : ∃ a b, rget l x.mesh = some a ∧ a.f.kind = 1 ∧ rget l x.mat = some b ∧ b.f.kind = 3 ∧ (x.tex = 0 ∨ ∃ c, rget l x.tex = some c ∧ c.f.kind = 2) := by
  unfold tparts at h
  cases ha : rget l x.mesh with
  | none => rw [ha] at h; cases h
  | some a =>
    rw [ha] at h
    dsimp only at h
    cases hb : rget l x.mat with
    | none => rw [hb] at h; cases h
    | some b =>
      rw [hb] at h
      dsimp only at h
      by_cases hx : x.tex = 0
      · rw [if_pos hx] at h
        by_cases k : a.f.kind ≠ 1 ∨ b.f.kind ≠ 3
        · rw [if_pos k] at h; cases h
        · exact ⟨a, b, rfl, by omega, rfl, by omega, .inl hx⟩
      · rw [if_neg hx] at h
        cases hc : rget l x.tex with
        | none => rw [hc] at h; cases h
        | some c =>
          rw [hc] at h
          dsimp only at h
          by_cases k : a.f.kind ≠ 1 ∨ b.f.kind ≠ 3 ∨ c.f.kind ≠ 2
          · rw [if_pos k] at h; cases h
          · exact ⟨a, b, rfl, by omega, rfl, by omega, .inr ⟨c, rfl, by omega⟩⟩
theorem tload_sd {t : Tb} (s : TbSd t) {hd : Int} {f : Mf} {a : As} : TbSd (tload t hd f a).1 := by
  rw [tload_tle]
  dsimp only
  split
  · exact ⟨fun x hx => (s.ok x hx).mono (fun r h => rget_app_some h) (fun r h => rget_app_some h) (fun r h => rget_app_some h), s.it⟩
  · exact s
theorem tunload_sd {t : Tb} (s : TbSd t) {hd : Int} : TbSd (tunload t hd).1 := by
  unfold tunload
  split
  · refine ⟨fun x hx => ?_, fun x hx => s.it x (List.mem_filter.1 hx).1⟩
    obtain ⟨h1, h2⟩ := List.mem_filter.1 hx
    have h2 : ((x.mesh ≠ hd ∧ x.mat ≠ hd) ∧ x.tex ≠ hd) := by simpa [hits] using h2
    exact (s.ok x h1).mono (fun r h => by rw [rget_erase h2.1.1]; exact h) (fun r h => by rw [rget_erase h2.1.2]; exact h) (fun r h => by rw [rget_erase h2.2]; exact h)
  · exact s
theorem ttake_sd {t : Tb} (s : TbSd t) {x : In} : TbSd (ttake t x).1 := by
  unfold ttake
  split
  · exact ⟨fun y hy => s.ok y (List.eraseP_sublist.subset hy), fun y hy => s.it y (List.eraseP_sublist.subset hy)⟩
  · exact s
theorem tput_sd {t : Tb} (s : TbSd t) {x : In} (hx : x.t.I) : TbSd (tput t x).1 := by
  by_cases h : (tput t x).2 = 0
  · rw [(tput_ins h).1]
    refine ⟨fun y hy => ?_, fun y hy => ?_⟩
    · rcases List.mem_append.1 hy with h' | h'
      · exact s.ok y h'
      · simp only [List.mem_singleton] at h'
        subst h'
        unfold tput at h
        by_cases k1 : y.n < 0 ∨ 65536 < y.n
        · rw [if_pos k1] at h; exact absurd h (by simp)
        · rw [if_neg k1] at h
          by_cases k2 : tparts t.rows y ≠ 0
          · rw [if_pos k2] at h; exact absurd h k2
          · rw [if_neg k2] at h
            by_cases k3 : (iget t.ins y).isSome = true
            · rw [if_pos k3] at h; exact absurd h (by simp)
            · rw [if_neg k3] at h
              obtain ⟨a, b, h1, h2, h3, h4, h5⟩ := tparts_ok (Classical.byContradiction k2)
              rw [h1] at h
              dsimp only at h
              by_cases k4 : offs y.t a.a.m.v ≠ 0
              · rw [if_pos k4] at h; exact absurd h k4
              · exact ⟨a, b, h1, h2, h3, h4, h5, Classical.byContradiction k4⟩
    · rcases List.mem_append.1 hy with h' | h'
      · exact s.it y h'
      · simp only [List.mem_singleton] at h'; subst h'; exact hx
  · rw [tput_err h]; exact s
theorem tdo_sd {t : Tb} (s : TbSd t) {c : Ac} (hx : c.i.t.I) : TbSd (tdo t c).1 := by
  unfold tdo
  split
  · exact tload_sd s
  · split
    · exact tunload_sd s
    · split
      · exact tput_sd s hx
      · exact ttake_sd s
theorem rsort_asc {l : List Rw} (rd : l.Pairwise fun a b => a.h ≠ b.h) : (rsort l).Pairwise fun a b => a.h < b.h := by
  have tr : ∀ x y z : Rw, leR x y = true → leR y z = true → leR x z = true := fun x y z h1 h2 => by simp only [leR, decide_eq_true_eq] at h1 h2 ⊢; omega
  have to : ∀ x y : Rw, (leR x y || leR y x) = true := fun x y => by simp only [leR, Bool.or_eq_true, decide_eq_true_eq]; omega
  have h1 : (rsort l).Pairwise fun a b => leR a b = true := List.pairwise_mergeSort tr to l
  have h2 : (rsort l).Pairwise fun a b => a.h ≠ b.h := (List.mergeSort_perm l leR).symm.pairwise rd (fun h => Ne.symm h)
  exact (h1.and h2).imp fun {a b} h => by
    have := h.1
    simp only [leR, decide_eq_true_eq] at this
    have := h.2
    omega
theorem rget_rsort {l : List Rw} (rd : l.Pairwise fun a b => a.h ≠ b.h) {h : Int} {r : Rw} (e : rget l h = some r) : rget (rsort l) h = some r := by
  obtain ⟨h1, h2⟩ := rget_mem e
  rw [← h2]
  exact rget_of_mem ((rsort_asc rd).imp fun {a b} h => by omega) (rsort_mem.2 h1)
theorem isort_asc {l : List In} (nd : l.Pairwise fun a b => sameN a b = false) : (isort l).Pairwise fun a b => sameN a b = false :=
  (List.mergeSort_perm l leI).symm.pairwise nd (fun h => by rw [sameN_comm]; exact h)
theorem offs_zero {x : Af} {l : List T3} (h : offs x l = 0) {k : Nat} {v : T3} (hk : l[k]? = some v) : (place4 x v).2 = 0 := by
  unfold offs at h
  cases hf : (l.map fun v => (place4 x v).2).find? fun e => e != 0 with
  | none =>
    have := List.find?_eq_none.1 hf _ (List.mem_map.2 ⟨v, List.mem_of_getElem? hk, rfl⟩)
    simpa using this
  | some e =>
    rw [hf] at h
    have := List.find?_some hf
    simp only [Option.getD_some] at h
    rw [h] at this
    simp at this
def asE (r : Rw) : List AV := .int .i64 r.h :: r.a.row
def asL (l : List Rw) : List (List AV) := l.map asE
@[simp] theorem asL_length (l : List Rw) : (asL l).length = l.length := by simp [asL]
@[simp] theorem asL_append (a b : List Rw) : asL (a ++ b) = asL a ++ asL b := by simp [asL]
@[simp] theorem asL_NmL (l : List Rw) : NmL (asL l) := by simp [asL, asE, As.row]
theorem as_ok {h : Int} {l : List Rw} : ∀ e ∈ asL l, kvOk [.i] [.int .i64 h] e = true := by
  intro e he
  obtain ⟨r, _, rfl⟩ := List.mem_map.1 he
  rfl
theorem as_find (h : Int) : ∀ l : List Rw, ∃ i : Nat, mfind [.int .i64 h] (asL l) = (rget l h).map fun r => (i, r.a.row)
  | [] => ⟨0, rfl⟩
  | r :: l => by
    obtain ⟨i, hi⟩ := as_find h l
    have e : kvB [.int .i64 h] (asE r) = (r.h == h) := by
      show ((h == r.h) && true) = _
      rw [Bool.and_true]; exact Bool.beq_comm
    by_cases hh : (r.h == h) = true
    · refine ⟨0, ?_⟩
      show (if kvB [.int .i64 h] (asE r) then some (0, (asE r).drop 1) else _) = _
      rw [e, if_pos hh]; simp only [rget, List.find?_cons, hh]; rfl
    · refine ⟨i + 1, ?_⟩
      show (if kvB [.int .i64 h] (asE r) then some (0, (asE r).drop 1) else (mfind [.int .i64 h] (asL l)).map fun q => (q.1 + 1, q.2)) = _
      rw [e, if_neg hh, hi]; simp only [rget, List.find?_cons, hh]
      cases List.find? (fun r => r.h == h) l <;> rfl
theorem afdA {h : Int} {l : List Rw} {K : Option (Nat × List AV) → Prop} (k : ∀ i : Nat, K ((rget l h).map fun r => (i, r.a.row))) : AFd [.i] [.int .i64 h] (asL l) K := by
  obtain ⟨i, hi⟩ := as_find h l
  exact ⟨as_ok, by rw [hi]; exact k i⟩
theorem rget_take {l : List Rw} (asc : l.Pairwise fun a b => a.h < b.h) {i : Nat} {r : Rw} (h : l[i]? = some r) : rget (l.take i) r.h = none := by
  unfold rget
  rw [List.find?_eq_none]
  intro x hx
  obtain ⟨j, hj, rfl⟩ := List.getElem_of_mem hx
  have hj2 : j < i := by rw [List.length_take] at hj; omega
  obtain ⟨hi, rfl⟩ := List.getElem?_eq_some_iff.1 h
  have := List.pairwise_iff_getElem.1 asc j i (by omega) hi hj2
  rw [List.getElem_take]
  simp only [beq_iff_eq]
  omega
theorem asL_take {l : List Rw} {i : Nat} {r : Rw} (h : l[i]? = some r) : asL (l.take i) ++ [asE r] = asL (l.take (i + 1)) := by
  rw [List.take_add_one, h]; simp [asL]
end Go.UM

namespace Go.UM
open Go.AM
set_option maxRecDepth 4000
def matA : As := ⟨3, ⟨[], [], []⟩, ⟨0, []⟩, ⟨0, z3, 0⟩, ⟨0, z3, z3, z3, z3⟩⟩
def mf3 : Mf := ⟨0, 3, 0, 0, 0, 0, 0, 0, 0, 0, 0, 0, 0, 0, 0⟩
theorem mat_c {R : Env} (h : N431 R) : R.Pc 431 [] (.agg matA.row) :=
  h.o431.enter 60 rfl fun X bb hfit hp => by
    refine sh ?_
    exact rT
theorem matA_ok : achk matA = 0 := by decide
def t5 : Tb := ⟨[⟨5, mf3, matA⟩], []⟩
theorem w1 : tload ⟨[], []⟩ 5 mf3 matA = (t5, 0) := by unfold tload; rw [matA_ok]; rfl
theorem w2 : tload t5 5 mf3 matA = (t5, 10) := rfl
theorem w3 : tunload t5 5 = (⟨[], []⟩, 0) := rfl
theorem t5_ok : TbOk t5 1 := by
  have := tload_ok tbOk_new (hd := 5) (f := mf3) (a := matA) (by simp [matA])
  rwa [w1] at this
theorem works18_c {R : Env} (h : N423 R) (K : KeysI R) : R.Pz true 423 [] (.bool true) :=
  h.o423.enterW 100 rfl fun X bb hfit hp hz => by
    have fx : matA.x.t.length ≤ 1000 := by simp [matA]
    have fb : matA.bare.Few := by refine ⟨?_, ?_, ?_, ?_⟩ <;> simp [matA, As.bare]
    have c1 := load_c h.n346 true true ⟨[], []⟩ 5 mf3 matA fx fb (by simp)
    have c2 := load_c h.n346 true true t5 5 mf3 matA fx fb (by simp [t5])
    have c3 := tunload_c h.n428 true true t5 t5_ok.nd 5
    have c4 := load_c h.n346 false false ⟨[], []⟩ 5 mf3 matA fx fb (by simp)
    have c5 := trows_c h.n418 K false false t5 t5_ok (by omega)
    rw [w1] at c1 c4
    rw [w2] at c2
    rw [w3] at c3
    refine sh ?_
    refine cM false [] (tnew_c h.n345) ?_
    repeat (intro _; first | refine eK ?_ | refine eP ?_)
    refine sh ?_
    refine ICall.pure h.n431.o431.hb (mat_c h.n431) rfl ?_
    refine sh ?_
    refine cW false [0, 1, 2] (c1) ?_
    repeat (intro _; first | refine eK ?_ | refine eP ?_)
    refine sh ?_
    refine acnd_t (by rfl) ?_
    refine sh ?_
    refine ICall.pure h.n431.o431.hb (mat_c h.n431) rfl ?_
    refine sh ?_
    refine cW false [0, 1, 2] (c2) ?_
    repeat (intro _; first | refine eK ?_ | refine eP ?_)
    refine sh ?_
    refine acnd_t (by rfl) ?_
    refine sh ?_
    refine cW false [0, 1, 2] (c3) ?_
    repeat (intro _; first | refine eK ?_ | refine eP ?_)
    refine sh ?_
    refine acnd_t (by rfl) ?_
    refine sh ?_
    refine ICall.pure h.n431.o431.hb (mat_c h.n431) rfl ?_
    refine sh ?_
    refine cW false [0, 1, 2] (c4) ?_
    repeat (intro _; first | refine eK ?_ | refine eP ?_)
    refine sh ?_
    refine acnd_t (by rfl) ?_
    refine sh ?_
    refine cW false [0, 1, 2] (c5) ?_
    repeat (intro _; first | refine eK ?_ | refine eP ?_)
    refine sh ?_
    refine rT ?_
    all_goals repeat' (first | exact True.intro | refine And.intro ?_ ?_ | (intro _u; clear _u) | (with_reducible first | exact DnLe.fg | refine eM ?_ ?_ | refine eF ?_ ?_ ?_ | refine eN ?_ | refine eL ?_ ?_ ?_ | refine eA ?_ ?_ | refine IWk.mk ⟨_, hp, rfl⟩ ?_ ?_) | refine IWk.mk ⟨_, hp, rfl⟩ ?_ ?_)
    all_goals try first | with_reducible rfl | omega | exact .inl (by decide) | (simp; done) | rfl
    rw [rsort_length]; rfl
def slAc (l : List Ac) : List (List AV) := l.map Ac.row
@[simp] theorem slAc_length (l : List Ac) : (slAc l).length = l.length := by simp [slAc]
@[simp] theorem slAc_NmL (l : List Ac) : NmL (slAc l) := by simp [slAc, Ac.row]
instance {l : List Ac} : LenOf (slAc l) l.length := ⟨slAc_length l⟩
theorem isort_length (l : List In) : (isort l).length = l.length := by simp [isort]
theorem few_x (c : Ac) : c.few.a.x.t.length ≤ 1000 := by simp [Ac.few, As.few]; omega
theorem few_b (c : Ac) : c.few.a.bare.Few := by
  have h1 : c.few.a.m.v.length ≤ 70 := by simp [Ac.few, As.few, Ms.few]; omega
  have h2 : c.few.a.m.uv.length ≤ 70 := by simp [Ac.few, As.few, Ms.few]; omega
  have h3 : c.few.a.m.t.length ≤ 70 := by simp [Ac.few, As.few, Ms.few]; omega
  have h4 : c.few.a.x.t.length ≤ 260 := by simp [Ac.few, As.few]; omega
  generalize c.few.a = a at h1 h2 h3 h4
  unfold As.bare
  refine ⟨?_, ?_, ?_, ?_⟩ <;> repeat' split
  all_goals first | omega | (dsimp only; omega) | simp [zMs0, zTx]
end Go.UM

namespace Go.UM
open Go.AM
set_option maxRecDepth 4000
set_option maxHeartbeats 8000000 in
theorem sound18_c {R : Env} (h : N425 R) (K : KeysI R) (srt : List In → List In) (S : SortI R srt) (hs : Srt srt) (l : List Ac) (hx : ∀ c ∈ l, c.i.t.I) : R.Pz true 425 [.isl 57 (slAc l)] (.bool true) :=
  h.o425.enterW 200 rfl fun X bb hfit hp hz => by
    refine sh ?_
    refine cM false [] (tnew_c h.n345) ?_
    repeat (intro _; first | refine eK ?_ | refine eP ?_)
    refine sh ?_
    refine lPa 200 (fun s : Nat × Tb => s.1 ≤ 30 ∧ TbOk s.2 s.1 ∧ TbSd s.2) (fun s => ⟨[(0, .isl 57 (slAc l)), (3, .loc 2 1 0 0), (4, .int .i64 s.1)], tabM R false false s.2, 3⟩) (fun s => 30 - s.1) ((0, ⟨[], []⟩)) ?_ ?_
    · exact ⟨Nat.zero_le _, tbOk_new, tbSd_new⟩
    · rintro ⟨i, t⟩ ⟨hi, ok, sd⟩
      dsimp only at hi ok sd ⊢
      refine sh ?_
      refine cS (fun h1 => ?_) (fun h1 => ?_)
      refine sh ?_
      refine cS (fun h2 => ?_) (fun h2 => ?_)
      · obtain ⟨c, hc⟩ : ∃ u_, l[i]? = some u_ := ⟨_, List.getElem?_eq_getElem (by first | omega | (simp <;> omega))⟩
        refine sh ?_
        refine eget_map hc ?_
        refine sh ?_
        refine ICall.pure h.n420.o420.hb (few18_c h.n420 c) rfl ?_
        refine sh ?_
        refine cM false [0, 1, 2] (tdo_c h.n421 false false t c.few ok (by omega) (few_x c) (few_b c) (hx c (List.mem_of_getElem? hc))) ?_
        repeat (intro _; first | refine eK ?_ | refine eP ?_)
        refine sh ?_
        refine nXa ((i + 1, (tdo t c.few).1)) ?_ ?_
        · exact ⟨by omega, tdo_ok ok (few_x c), tdo_sd sd (hx c (List.mem_of_getElem? hc))⟩
        · dsimp only; omega
      all_goals
        have c1 := trows_c h.n418 K false false t ok (by omega)
        have c2 := tinsts_c h.n419 srt S hs false false t ok.nd (by have := ok.il; omega)
        have lenL : (rsort t.rows).length ≤ 1000000 := by rw [rsort_length]; have := ok.rl; omega
        have lenN : (isort t.ins).length ≤ 1000000 := by rw [isort_length]; have := ok.il; omega
        obtain ⟨L, hL⟩ : ∃ L, rsort t.rows = L := ⟨_, rfl⟩
        obtain ⟨N, hN⟩ : ∃ N, isort t.ins = N := ⟨_, rfl⟩
        have asc : L.Pairwise (fun a b => a.h < b.h) := hL ▸ rsort_asc ok.rd
        have ndN : N.Pairwise (fun a b => sameN a b = false) := hN ▸ isort_asc ok.nd
        have rok : ∀ r ∈ L, RwOk r := fun r hr => ok.row r (rsort_mem.1 (hL ▸ hr))
        have get : ∀ (k : Int) (r : Rw), rget t.rows k = some r → rget L k = some r := fun k r e => hL ▸ rget_rsort ok.rd e
        rw [hL] at c1 lenL
        rw [hN] at c2 lenN
        refine sh ?_
        refine cM false [0, 1, 2] (c1) ?_
        repeat (intro _; first | refine eK ?_ | refine eP ?_)
        refine sh ?_
        refine cM false [0, 1, 2] (c2) ?_
        repeat (intro _; first | refine eK ?_ | refine eP ?_)
        refine sh ?_
        refine lPa 200 (fun i : Nat => i ≤ L.length) (fun i => ⟨[(5, .osl 3 L.length), (6, .osl 4 N.length), (7, .omap 5), (43, .osl 3 L.length), (44, .int .i64 L.length), (45, .int .i64 i)], [(3, .arr (R.ty 45) 40 (slR L)), (4, .arr (R.ty 44) 16 (sIn N)), (5, .map 1 false true true 25 (asL (L.take i)))], 6⟩) (fun i => L.length - i) (0) ?_ ?_
        · exact Nat.zero_le _
        · intro i hi
          dsimp only
          refine sh ?_
          refine cS (fun h3 => ?_) (fun h3 => ?_)
          · obtain ⟨r, hr⟩ : ∃ u_, L[i]? = some u_ := ⟨_, List.getElem?_eq_getElem (by first | omega | (simp <;> omega))⟩
            refine sh ?_
            refine aelt_map (by simp) hr ?_
            rcases i with _ | q
            · refine sh ?_
              refine acnd_f (by rfl) ?_
              refine sh ?_
              refine acnd_f (by have := (rok r (List.mem_of_getElem? hr)).h; simp <;> omega) ?_
              refine sh ?_
              refine acnd_f (by have := (rok r (List.mem_of_getElem? hr)).h; simp <;> omega) ?_
              refine sh ?_
              refine acnd_f (by have := (rok r (List.mem_of_getElem? hr)).k; simp <;> omega) ?_
              refine sh ?_
              refine afdA fun i => ?_
              rw [rget_take asc hr]
              dsimp only [Option.map_none]
              refine sh ?_
              refine nX (1) ?_ ?_ ⟨_, hp, rfl⟩ ?_ ?_
              · omega
              · omega
              · all_goals repeat' (first | exact True.intro | refine And.intro ?_ ?_ | (intro _u; clear _u) | (with_reducible first | exact DnLe.fg | refine eM ?_ ?_ | refine eF ?_ ?_ ?_ | refine eN ?_ | refine eL ?_ ?_ ?_ | refine eA ?_ ?_ | refine IWk.mk ⟨_, hp, rfl⟩ ?_ ?_) | refine IWk.mk ⟨_, hp, rfl⟩ ?_ ?_)
                all_goals try first | with_reducible rfl | omega | exact .inl (by decide) | (simp; done) | rfl
              · all_goals repeat' (first | exact True.intro | refine And.intro ?_ ?_ | (intro _u; clear _u) | (with_reducible first | exact DnLe.fg | refine eM ?_ ?_ | refine eF ?_ ?_ ?_ | refine eN ?_ | refine eL ?_ ?_ ?_ | refine eA ?_ ?_ | refine IWk.mk ⟨_, hp, rfl⟩ ?_ ?_) | refine IWk.mk ⟨_, hp, rfl⟩ ?_ ?_)
                all_goals try first | with_reducible rfl | omega | exact .inl (by decide) | (simp; done) | rfl
                all_goals first | exact asL_take hr | (right; simp [As.row])
            · refine sh ?_
              refine acnd_t (by simp <;> omega) ?_
              obtain ⟨y, hy⟩ : ∃ u_, L[q]? = some u_ := ⟨_, List.getElem?_eq_getElem (by omega)⟩
              refine sh ?_
              refine aelt_map (by simp) (show L[(((q + 1 : Nat) : Int) - 1).toNat]? = some y by rw [show (((q + 1 : Nat) : Int) - 1).toNat = q by omega]; exact hy) ?_
              have hlt : y.h < r.h := by
                obtain ⟨a1, rfl⟩ := List.getElem?_eq_some_iff.1 hr
                obtain ⟨a2, rfl⟩ := List.getElem?_eq_some_iff.1 hy
                exact List.pairwise_iff_getElem.1 asc q (q + 1) a2 a1 (by omega)
              refine sh ?_
              refine acnd_f (by simp <;> omega) ?_
              refine sh ?_
              refine acnd_f (by have := (rok r (List.mem_of_getElem? hr)).h; simp <;> omega) ?_
              refine sh ?_
              refine acnd_f (by have := (rok r (List.mem_of_getElem? hr)).h; simp <;> omega) ?_
              refine sh ?_
              refine acnd_f (by have := (rok r (List.mem_of_getElem? hr)).k; simp <;> omega) ?_
              refine sh ?_
              refine afdA fun i => ?_
              rw [rget_take asc hr]
              dsimp only [Option.map_none]
              refine sh ?_
              refine nX (q + 1 + 1) ?_ ?_ ⟨_, hp, rfl⟩ ?_ ?_
              · omega
              · omega
              · all_goals repeat' (first | exact True.intro | refine And.intro ?_ ?_ | (intro _u; clear _u) | (with_reducible first | exact DnLe.fg | refine eM ?_ ?_ | refine eF ?_ ?_ ?_ | refine eN ?_ | refine eL ?_ ?_ ?_ | refine eA ?_ ?_ | refine IWk.mk ⟨_, hp, rfl⟩ ?_ ?_) | refine IWk.mk ⟨_, hp, rfl⟩ ?_ ?_)
                all_goals try first | with_reducible rfl | omega | exact .inl (by decide) | (simp; done) | rfl
              · all_goals repeat' (first | exact True.intro | refine And.intro ?_ ?_ | (intro _u; clear _u) | (with_reducible first | exact DnLe.fg | refine eM ?_ ?_ | refine eF ?_ ?_ ?_ | refine eN ?_ | refine eL ?_ ?_ ?_ | refine eA ?_ ?_ | refine IWk.mk ⟨_, hp, rfl⟩ ?_ ?_) | refine IWk.mk ⟨_, hp, rfl⟩ ?_ ?_)
                all_goals try first | with_reducible rfl | omega | exact .inl (by decide) | (simp; done) | rfl
                all_goals first | exact asL_take hr | (right; simp [As.row])
          · rw [List.take_of_length_le (show L.length ≤ i by omega)]
            refine sh ?_
            refine lPa 200 (fun i : Nat => i ≤ N.length) (fun i => ⟨[(6, .osl 4 N.length), (7, .omap 5), (88, .osl 4 N.length), (89, .int .i64 N.length), (90, .int .i64 i)], [(4, .arr (R.ty 44) 16 (sIn N)), (5, .map 1 false true true 25 (asL L))], 6⟩) (fun i => N.length - i) (0) ?_ ?_
            · exact Nat.zero_le _
            · intro i hi
              dsimp only
              refine sh ?_
              refine cS (fun h4 => ?_) (fun h4 => ?_)
              · obtain ⟨x, hx⟩ : ∃ u_, N[i]? = some u_ := ⟨_, List.getElem?_eq_getElem (by first | omega | (simp <;> omega))⟩
                refine sh ?_
                refine aelt_map (by simp) hx ?_
                by_cases h0 : i = 0
                · refine sh ?_
                  refine acnd_f (by simp <;> omega) ?_
                  obtain ⟨a, b, i1, i2, i3, i4, i5, i6⟩ := sd.ok x (isort_mem.1 (hN ▸ List.mem_of_getElem? hx))
                  have rka := (ok.row a (rget_mem i1).1).k
                  have rkb := (ok.row b (rget_mem i3).1).k
                  have vts := (ok.row a (rget_mem i1).1).verts i2
                  refine sh ?_
                  refine afdA fun j => ?_
                  rw [get _ _ i1]
                  dsimp only [Option.map_some]
                  refine sh ?_
                  refine acnd_f (by simp <;> omega) ?_
                  refine sh ?_
                  refine afdA fun j => ?_
                  rw [get _ _ i3]
                  dsimp only [Option.map_some]
                  refine sh ?_
                  refine acnd_f (by simp <;> omega) ?_
                  refine sh ?_
                  refine cS (fun k3 => ?_) (fun k3 => ?_)
                  · rcases i5 with i5 | ⟨c, i5, i7⟩
                    · exact absurd i5 k3
                    · have rkc := (ok.row c (rget_mem i5).1).k
                      refine sh ?_
                      refine afdA fun j => ?_
                      rw [get _ _ i5]
                      dsimp only [Option.map_some]
                      refine sh ?_
                      refine acnd_f (by simp <;> omega) ?_
                      refine sh ?_
                      refine afdA fun j => ?_
                      rw [get _ _ i1]
                      dsimp only [Option.map_some]
                      refine sh ?_
                      refine lPa 200 (fun k : Nat => k ≤ a.a.m.v.length) (fun k => ⟨[(6, .osl 4 N.length), (7, .omap 5), (11, .loc 6 1 0 0), (88, .osl 4 N.length), (89, .int .i64 N.length), (90, .int .i64 i), (142, .isl 3 (slc3 a.a.m.v)), (143, .int .i64 a.a.m.v.length), (144, .int .i64 k)], [(4, .arr (R.ty 44) 16 (sIn N)), (5, .map 1 false true true 25 (asL L)), (6, .var (R.ty 44) x.row)], 7⟩) (fun k => a.a.m.v.length - k) (0) ?_ ?_
                      · exact Nat.zero_le _
                      · intro k hk
                        dsimp only
                        have hlen := vts.1
                        refine sh ?_
                        refine cS (fun h5 => ?_) (fun h5 => ?_)
                        · obtain ⟨v, hv⟩ : ∃ u_, a.a.m.v[k]? = some u_ := ⟨_, List.getElem?_eq_getElem (by omega)⟩
                          refine sh ?_
                          refine eget_map hv ?_
                          refine sh ?_
                          refine ICall.pure h.n241.o241.hb (place4_c h.n241 (sd.it x (isort_mem.1 (hN ▸ List.mem_of_getElem? hx))) (off3_I (vts.2 v (List.mem_of_getElem? hv)))) rfl ?_
                          refine sh ?_
                          refine acnd_f (by rw [offs_zero i6 hv]; rfl) ?_
                          refine sh ?_
                          refine nXa (k + 1) ?_ ?_
                          · omega
                          · omega
                        · refine sh ?_
                          refine nXa (i + 1) ?_ ?_
                          · omega
                          · omega
                  · refine sh ?_
                    refine afdA fun j => ?_
                    rw [get _ _ i1]
                    dsimp only [Option.map_some]
                    refine sh ?_
                    refine lPa 200 (fun k : Nat => k ≤ a.a.m.v.length) (fun k => ⟨[(6, .osl 4 N.length), (7, .omap 5), (11, .loc 6 1 0 0), (88, .osl 4 N.length), (89, .int .i64 N.length), (90, .int .i64 i), (142, .isl 3 (slc3 a.a.m.v)), (143, .int .i64 a.a.m.v.length), (144, .int .i64 k)], [(4, .arr (R.ty 44) 16 (sIn N)), (5, .map 1 false true true 25 (asL L)), (6, .var (R.ty 44) x.row)], 7⟩) (fun k => a.a.m.v.length - k) (0) ?_ ?_
                    · exact Nat.zero_le _
                    · intro k hk
                      dsimp only
                      have hlen := vts.1
                      refine sh ?_
                      refine cS (fun h5 => ?_) (fun h5 => ?_)
                      · obtain ⟨v, hv⟩ : ∃ u_, a.a.m.v[k]? = some u_ := ⟨_, List.getElem?_eq_getElem (by omega)⟩
                        refine sh ?_
                        refine eget_map hv ?_
                        refine sh ?_
                        refine ICall.pure h.n241.o241.hb (place4_c h.n241 (sd.it x (isort_mem.1 (hN ▸ List.mem_of_getElem? hx))) (off3_I (vts.2 v (List.mem_of_getElem? hv)))) rfl ?_
                        refine sh ?_
                        refine acnd_f (by rw [offs_zero i6 hv]; rfl) ?_
                        refine sh ?_
                        refine nXa (k + 1) ?_ ?_
                        · omega
                        · omega
                      · refine sh ?_
                        refine nXa (i + 1) ?_ ?_
                        · omega
                        · omega
                · refine sh ?_
                  refine acnd_t (by simp <;> omega) ?_
                  obtain ⟨y, hy⟩ : ∃ u_, N[i - 1]? = some u_ := ⟨_, List.getElem?_eq_getElem (by omega)⟩
                  refine sh ?_
                  refine aelt_map (by simp) (show N[((i : Int) - 1).toNat]? = some y by rw [show ((i : Int) - 1).toNat = i - 1 by omega]; exact hy) ?_
                  have hns : sameN y x = false := by
                    obtain ⟨a1, rfl⟩ := List.getElem?_eq_some_iff.1 hx
                    obtain ⟨a2, rfl⟩ := List.getElem?_eq_some_iff.1 hy
                    exact List.pairwise_iff_getElem.1 ndN (i - 1) i a2 a1 (by omega)
                  refine sh ?_
                  refine acnd_f (by simpa [sameN] using hns) ?_
                  obtain ⟨a, b, i1, i2, i3, i4, i5, i6⟩ := sd.ok x (isort_mem.1 (hN ▸ List.mem_of_getElem? hx))
                  have rka := (ok.row a (rget_mem i1).1).k
                  have rkb := (ok.row b (rget_mem i3).1).k
                  have vts := (ok.row a (rget_mem i1).1).verts i2
                  refine sh ?_
                  refine afdA fun j => ?_
                  rw [get _ _ i1]
                  dsimp only [Option.map_some]
                  refine sh ?_
                  refine acnd_f (by simp <;> omega) ?_
                  refine sh ?_
                  refine afdA fun j => ?_
                  rw [get _ _ i3]
                  dsimp only [Option.map_some]
                  refine sh ?_
                  refine acnd_f (by simp <;> omega) ?_
                  refine sh ?_
                  refine cS (fun k3 => ?_) (fun k3 => ?_)
                  · rcases i5 with i5 | ⟨c, i5, i7⟩
                    · exact absurd i5 k3
                    · have rkc := (ok.row c (rget_mem i5).1).k
                      refine sh ?_
                      refine afdA fun j => ?_
                      rw [get _ _ i5]
                      dsimp only [Option.map_some]
                      refine sh ?_
                      refine acnd_f (by simp <;> omega) ?_
                      refine sh ?_
                      refine afdA fun j => ?_
                      rw [get _ _ i1]
                      dsimp only [Option.map_some]
                      refine sh ?_
                      refine lPa 200 (fun k : Nat => k ≤ a.a.m.v.length) (fun k => ⟨[(6, .osl 4 N.length), (7, .omap 5), (11, .loc 6 1 0 0), (88, .osl 4 N.length), (89, .int .i64 N.length), (90, .int .i64 i), (142, .isl 3 (slc3 a.a.m.v)), (143, .int .i64 a.a.m.v.length), (144, .int .i64 k)], [(4, .arr (R.ty 44) 16 (sIn N)), (5, .map 1 false true true 25 (asL L)), (6, .var (R.ty 44) x.row)], 7⟩) (fun k => a.a.m.v.length - k) (0) ?_ ?_
                      · exact Nat.zero_le _
                      · intro k hk
                        dsimp only
                        have hlen := vts.1
                        refine sh ?_
                        refine cS (fun h5 => ?_) (fun h5 => ?_)
                        · obtain ⟨v, hv⟩ : ∃ u_, a.a.m.v[k]? = some u_ := ⟨_, List.getElem?_eq_getElem (by omega)⟩
                          refine sh ?_
                          refine eget_map hv ?_
                          refine sh ?_
                          refine ICall.pure h.n241.o241.hb (place4_c h.n241 (sd.it x (isort_mem.1 (hN ▸ List.mem_of_getElem? hx))) (off3_I (vts.2 v (List.mem_of_getElem? hv)))) rfl ?_
                          refine sh ?_
                          refine acnd_f (by rw [offs_zero i6 hv]; rfl) ?_
                          refine sh ?_
                          refine nXa (k + 1) ?_ ?_
                          · omega
                          · omega
                        · refine sh ?_
                          refine nXa (i + 1) ?_ ?_
                          · omega
                          · omega
                  · refine sh ?_
                    refine afdA fun j => ?_
                    rw [get _ _ i1]
                    dsimp only [Option.map_some]
                    refine sh ?_
                    refine lPa 200 (fun k : Nat => k ≤ a.a.m.v.length) (fun k => ⟨[(6, .osl 4 N.length), (7, .omap 5), (11, .loc 6 1 0 0), (88, .osl 4 N.length), (89, .int .i64 N.length), (90, .int .i64 i), (142, .isl 3 (slc3 a.a.m.v)), (143, .int .i64 a.a.m.v.length), (144, .int .i64 k)], [(4, .arr (R.ty 44) 16 (sIn N)), (5, .map 1 false true true 25 (asL L)), (6, .var (R.ty 44) x.row)], 7⟩) (fun k => a.a.m.v.length - k) (0) ?_ ?_
                    · exact Nat.zero_le _
                    · intro k hk
                      dsimp only
                      have hlen := vts.1
                      refine sh ?_
                      refine cS (fun h5 => ?_) (fun h5 => ?_)
                      · obtain ⟨v, hv⟩ : ∃ u_, a.a.m.v[k]? = some u_ := ⟨_, List.getElem?_eq_getElem (by omega)⟩
                        refine sh ?_
                        refine eget_map hv ?_
                        refine sh ?_
                        refine ICall.pure h.n241.o241.hb (place4_c h.n241 (sd.it x (isort_mem.1 (hN ▸ List.mem_of_getElem? hx))) (off3_I (vts.2 v (List.mem_of_getElem? hv)))) rfl ?_
                        refine sh ?_
                        refine acnd_f (by rw [offs_zero i6 hv]; rfl) ?_
                        refine sh ?_
                        refine nXa (k + 1) ?_ ?_
                        · omega
                        · omega
                      · refine sh ?_
                        refine nXa (i + 1) ?_ ?_
                        · omega
                        · omega
              · refine sh ?_
                refine ICall.pure h.n423.o423.hb (works18_c h.n423 K) rfl ?_
                refine sh ?_
                exact rT
end Go.UM

namespace Go.UM
open Go.AM
end Go.UM
