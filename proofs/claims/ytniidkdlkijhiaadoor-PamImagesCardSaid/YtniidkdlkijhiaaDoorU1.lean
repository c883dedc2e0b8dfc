/- Of the reckoning machine, and what is proved with it: texts joined by program. -/
import Derived.Test.YtniidkdlkijhiaaDoorU0
import Derived.Test.YtniidkdlkijhiaaDoorK3
set_option linter.all false

namespace Go.UM
open Go.AM
set_option maxRecDepth 4000
theorem cut_no {u : List UInt8} (h : ∀ c ∈ u, c ≠ 10) : cut u = none := by
  induction u with
  | nil => rfl
  | cons c l ih => rw [cut, if_neg (h c (by simp)), ih fun d hd => h d (by simp [hd])]; rfl
def rword (s : List UInt8) (at' : Int) (w : List UInt8) : List UInt8 × Int :=
  if at' < 0 ∨ (s.length : Int) - at' < w.length ∨ (s.drop at'.toNat).take w.length ≠ w then ([], -1)
  else match cut (s.drop (at'.toNat + w.length)) with
    | none => ([], -1)
    | some (a, _) => (a, at' + w.length + a.length + 1)
theorem sub_w {s : List UInt8} {A n : Nat} : List.drop ((A : Int)).toNat (List.take ((A : Int) + n).toNat s) = (s.drop A).take n := by
  rw [show ((A : Int) + n).toNat = A + n by omega, Int.toNat_natCast, List.take_drop, Nat.add_comm]
theorem sub_k {s : List UInt8} {A k : Nat} (h : A ≤ k) : List.drop A (List.take k s) = (s.drop A).take (k - A) := by
  rw [List.take_drop, show A + (k - A) = k by omega]
theorem sub_k' {s : List UInt8} {A n k : Nat} (h : A + n ≤ k) : List.drop ((A : Int) + n).toNat (List.take ((k : Int)).toNat s) = (s.drop (A + n)).take (k - (A + n)) := by
  rw [show ((A : Int) + n).toNat = A + n by omega, Int.toNat_natCast, sub_k h]
theorem cut_at {s : List UInt8} {B k : Nat} (h : B ≤ k) (hk : s[k]? = some 10) (h3 : ∀ c ∈ (s.drop B).take (k - B), c ≠ 10) : cut (s.drop B) = some ((s.drop B).take (k - B), s.drop (k + 1)) := by
  have e : s.drop B = (s.drop B).take (k - B) ++ 10 :: s.drop (k + 1) := by
    have h1 := List.take_append_drop (k - B) (s.drop B)
    have h2 : (s.drop B).drop (k - B) = 10 :: s.drop (k + 1) := by
      rw [List.drop_drop, show B + (k - B) = k by omega]
      obtain ⟨hlt, he⟩ := List.getElem?_eq_some_iff.1 hk
      rw [List.drop_eq_getElem_cons hlt, he]
    rw [h2] at h1
    exact h1.symm
  conv => lhs; rw [e]
  exact cut_of h3
theorem rword_c {R : Env} (h : N391 R) (s w : List UInt8) (at' : Int) (hs : s.length ≤ 100000) (hw : w.length ≤ 100) (ha : -1 ≤ at' ∧ at' ≤ s.length) :
    R.Pc 391 [.str s, .int .i64 at', .str w] (.tup [.str (rword s at' w).1, .int .i64 (rword s at' w).2]) :=
  h.o391.enter 100 rfl fun X bb hfit hp => by
    generalize hq : rword s at' w = q
    unfold rword at hq
    refine sh ?_
    refine cS (fun h1 => ?_) (fun h1 => ?_)
    · rw [if_pos (.inl h1)] at hq
      subst hq
      refine sh ?_
      exact rT
    · refine sh ?_
      refine cS (fun h2 => ?_) (fun h2 => ?_)
      · rw [if_pos (.inr (.inl h2))] at hq
        subst hq
        refine sh ?_
        exact rT
      · obtain ⟨A, rfl⟩ : ∃ A : Nat, at' = A := ⟨at'.toNat, by omega⟩
        refine sh ?_
        refine asub_eq (by exact sub_w) ?_
        refine sh ?_
        refine cS (fun h3 => ?_) (fun h3 => ?_)
        · rw [if_pos (.inr (.inr (by rw [Int.toNat_natCast]; exact h3)))] at hq
          subst hq
          refine sh ?_
          exact rT
        · rw [if_neg (by rw [Int.toNat_natCast]; exact fun hh => hh.elim (fun h => by omega) fun h => h.elim (fun h => by omega) fun h => h h3), Int.toNat_natCast] at hq
          refine sh ?_
          refine lPa 100 (fun k : Nat => A + w.length ≤ k ∧ k ≤ s.length ∧ ∀ c ∈ (s.drop (A + w.length)).take (k - (A + w.length)), c ≠ 10) (fun k => ⟨[(0, .str s), (1, .int .i64 ((A : Int) + w.length)), (8, .int .i64 k)], [], 0⟩) (fun k => s.length - k) (A + w.length) ?_ ?_
          · exact ⟨Nat.le_refl _, by omega, by simp⟩
          · intro k hk
            obtain ⟨k1, k2, k3⟩ := hk
            dsimp only
            refine sh ?_
            refine cS (fun h4 => ?_) (fun h4 => ?_)
            · obtain ⟨x, hx⟩ : ∃ x, s[k]? = some x := ⟨_, List.getElem?_eq_getElem (by omega)⟩
              have e5 : s.getD ((k : Int)).toNat 0 = x := by rw [Int.toNat_natCast, List.getD_eq_getElem?_getD, hx]; rfl
              refine sh ?_
              refine cS (fun h5 => ?_) (fun h5 => ?_)
              · rw [e5] at h5
                obtain rfl : x = 10 := UInt8.toNat_inj.1 (by show _ = 10; omega)
                have hc := cut_at k1 hx k3
                rw [hc] at hq
                dsimp only at hq
                subst hq
                refine sh ?_
                refine asub_eq (by exact sub_k' k1) ?_
                refine sh ?_
                refine rT ?_
                all_goals repeat' (first | exact True.intro | refine And.intro ?_ ?_ | (intro _u; clear _u) | (with_reducible first | exact DnLe.fg | refine eM ?_ ?_ | refine eF ?_ ?_ ?_ | refine eN ?_ | refine eL ?_ ?_ ?_ | refine eA ?_ ?_ | refine IWk.mk ⟨_, hp, rfl⟩ ?_ ?_) | refine IWk.mk ⟨_, hp, rfl⟩ ?_ ?_)
                all_goals try first | with_reducible rfl | omega | exact .inl (by decide) | (simp; done) | rfl
                simp; omega
              · rw [e5] at h5
                refine sh ?_
                refine nXa (k + 1) ?_ ?_
                · refine ⟨by omega, by omega, ?_⟩
                  have e6 : (s.drop (A + w.length)).take (k + 1 - (A + w.length)) = (s.drop (A + w.length)).take (k - (A + w.length)) ++ [x] := by
                    rw [show k + 1 - (A + w.length) = k - (A + w.length) + 1 by omega]
                    exact take_succ_get (by rw [List.getElem?_drop, show A + w.length + (k - (A + w.length)) = k by omega]; exact hx)
                  rw [e6]
                  refine no_app k3 fun c hc => ?_
                  simp only [List.mem_singleton] at hc
                  subst hc
                  intro e; subst e; exact h5 rfl
                · omega
            · rw [cut_no (u := s.drop (A + w.length)) (by rw [List.take_of_length_le (by simp; omega)] at k3; exact k3)] at hq
              dsimp only at hq
              subst hq
              refine sh ?_
              exact rT
def smF : Nat → Int → List UInt8 → Int
  | 0, _, _ => 0
  | f + 1, n, s => if dec n = s then n else smF f (n + 1) s
def small (s : List UInt8) : Int := smF 64 1 s
theorem small_c' {R : Env} (h : N392 R) (s : List UInt8) : R.Pc 392 [.str s] (.int .i64 (small s)) :=
  h.o392.enter 60 rfl fun X bb hfit hp => by
    refine sh ?_
    refine lPa 60 (fun k : Nat => (1 ≤ k ∧ k ≤ 65) ∧ smF (65 - k) k s = small s) (fun k => ⟨[(0, .str s), (3, .int .i64 k)], [], 0⟩) (fun k => 65 - k) (1) ?_ ?_
    · exact ⟨⟨by omega, by omega⟩, rfl⟩
    · intro k hk
      obtain ⟨⟨k1, k2⟩, k3⟩ := hk
      dsimp only
      refine sh ?_
      refine cS (fun h1 => ?_) (fun h1 => ?_)
      · refine sh ?_
        refine ICall.pure h.n394.o394.hb (rnum_c h.n394 k (by omega) (by omega)) rfl ?_
        rw [show 65 - k = (64 - k) + 1 by omega, smF] at k3
        refine sh ?_
        refine cS (fun h2 => ?_) (fun h2 => ?_)
        · rw [if_pos h2] at k3
          rw [← k3]
          refine sh ?_
          exact rT
        · rw [if_neg h2] at k3
          refine sh ?_
          refine nXa (k + 1) ?_ ?_
          · exact ⟨⟨by omega, by omega⟩, by rw [← k3, show 65 - (k + 1) = 64 - k by omega]; rfl⟩
          · omega
      · rw [show 65 - k = 0 by omega, smF] at k3
        rw [← k3]
        refine sh ?_
        exact rT
end Go.UM

namespace Go.UM
open Go.AM
set_option maxRecDepth 4000
def rfin (b one two three name : List UInt8) (w h d e : Int) : Pl × List UInt8 × Int :=
  if e < 0 ∨ one ≠ [] ∨ two ≠ [] ∨ three ≠ [] ∨ w = 0 ∨ h = 0 ∨ d = 0 ∨ 4 < d then (z0, [], 5)
  else if named name = false then (z0, [], 5)
  else if (b.length : Int) - e < 2 * (w * h * d) then (z0, [], 4)
  else (⟨w, h, d, name, nums (b.drop e.toNat) (w * h * d).toNat⟩, b.drop (e.toNat + 2 * (w * h * d).toNat), 0)
def rdec (b : List UInt8) : Pl × List UInt8 × Int :=
  let x0 := rword b 0 [80, 55]
  let x1 := rword b x0.2 [87, 73, 68, 84, 72, 32]
  let x2 := rword b x1.2 [72, 69, 73, 71, 72, 84, 32]
  let x3 := rword b x2.2 [68, 69, 80, 84, 72, 32]
  let x4 := rword b x3.2 [77, 65, 88, 86, 65, 76, 32, 54, 53, 53, 51, 53]
  let x5 := rword b x4.2 [84, 85, 80, 76, 84, 89, 80, 69, 32]
  let x6 := rword b x5.2 [69, 78, 68, 72, 68, 82]
  rfin b x0.1 x4.1 x6.1 x5.1 (small x1.1) (small x2.1) (small x3.1) x6.2
theorem rword_in {s w : List UInt8} {a : Int} (ha : -1 ≤ a ∧ a ≤ s.length) : (-1 ≤ (rword s a w).2 ∧ (rword s a w).2 ≤ s.length) ∧ (rword s a w).1.length ≤ s.length := by
  unfold rword
  split
  · simp <;> omega
  · rename_i hn
    cases hc : cut (s.drop (a.toNat + w.length)) with
    | none => simp <;> omega
    | some x =>
      obtain ⟨x, r⟩ := x
      have e := congrArg List.length (cut_len hc).1
      simp only [List.length_append, List.length_cons, List.length_drop] at e
      dsimp only
      omega
theorem smF_in : ∀ (f : Nat) (n : Int) (s : List UInt8), 1 ≤ n → 0 ≤ smF f n s ∧ smF f n s ≤ n + f - 1
  | 0, _, _, _ => by simp [smF] <;> omega
  | f + 1, n, s, h => by
    rw [smF]
    split
    · omega
    · have := smF_in f (n + 1) s (by omega)
      omega
theorem small_in (s : List UInt8) : 0 ≤ small s ∧ small s ≤ 64 := by
  have := smF_in 64 1 s (by omega)
  unfold small
  omega
theorem rdecode_c {R : Env} (h : N373 R) (b : List UInt8) (hb : b.length ≤ 100000) : R.Pc 373 [.isl 1 (slc8 b)] (.tup [.agg (rdec b).1.row, .isl 1 (slc8 (rdec b).2.1), .int .i64 (rdec b).2.2]) :=
  h.o373.enter 200 rfl fun X bb hfit hp => by
    generalize hq : rdec b = q
    unfold rdec at hq
    dsimp only at hq
    have p0 := rword_in (s := b) (a := 0) (w := [80, 55]) (by omega)
    refine sh ?_
    refine ICall.pure h.n391.o391.hb (rword_c h.n391 b [80, 55] 0 hb (by decide) (by omega)) rfl ?_
    generalize rword b 0 [80, 55] = x0 at p0 hq ⊢
    have p1 := rword_in (s := b) (a := x0.2) (w := [87, 73, 68, 84, 72, 32]) p0.1
    refine sh ?_
    refine ICall.pure h.n391.o391.hb (rword_c h.n391 b [87, 73, 68, 84, 72, 32] x0.2 hb (by decide) p0.1) rfl ?_
    generalize rword b x0.2 [87, 73, 68, 84, 72, 32] = x1 at p1 hq ⊢
    have p2 := rword_in (s := b) (a := x1.2) (w := [72, 69, 73, 71, 72, 84, 32]) p1.1
    refine sh ?_
    refine ICall.pure h.n391.o391.hb (rword_c h.n391 b [72, 69, 73, 71, 72, 84, 32] x1.2 hb (by decide) p1.1) rfl ?_
    generalize rword b x1.2 [72, 69, 73, 71, 72, 84, 32] = x2 at p2 hq ⊢
    have p3 := rword_in (s := b) (a := x2.2) (w := [68, 69, 80, 84, 72, 32]) p2.1
    refine sh ?_
    refine ICall.pure h.n391.o391.hb (rword_c h.n391 b [68, 69, 80, 84, 72, 32] x2.2 hb (by decide) p2.1) rfl ?_
    generalize rword b x2.2 [68, 69, 80, 84, 72, 32] = x3 at p3 hq ⊢
    have p4 := rword_in (s := b) (a := x3.2) (w := [77, 65, 88, 86, 65, 76, 32, 54, 53, 53, 51, 53]) p3.1
    refine sh ?_
    refine ICall.pure h.n391.o391.hb (rword_c h.n391 b [77, 65, 88, 86, 65, 76, 32, 54, 53, 53, 51, 53] x3.2 hb (by decide) p3.1) rfl ?_
    generalize rword b x3.2 [77, 65, 88, 86, 65, 76, 32, 54, 53, 53, 51, 53] = x4 at p4 hq ⊢
    have p5 := rword_in (s := b) (a := x4.2) (w := [84, 85, 80, 76, 84, 89, 80, 69, 32]) p4.1
    refine sh ?_
    refine ICall.pure h.n391.o391.hb (rword_c h.n391 b [84, 85, 80, 76, 84, 89, 80, 69, 32] x4.2 hb (by decide) p4.1) rfl ?_
    generalize rword b x4.2 [84, 85, 80, 76, 84, 89, 80, 69, 32] = x5 at p5 hq ⊢
    have p6 := rword_in (s := b) (a := x5.2) (w := [69, 78, 68, 72, 68, 82]) p5.1
    refine sh ?_
    refine ICall.pure h.n391.o391.hb (rword_c h.n391 b [69, 78, 68, 72, 68, 82] x5.2 hb (by decide) p5.1) rfl ?_
    generalize rword b x5.2 [69, 78, 68, 72, 68, 82] = x6 at p6 hq ⊢
    have s1 := small_in x1.1
    have s2 := small_in x2.1
    have s3 := small_in x3.1
    refine sh ?_
    refine ICall.pure h.n392.o392.hb (small_c' h.n392 x1.1) rfl ?_
    refine sh ?_
    refine ICall.pure h.n392.o392.hb (small_c' h.n392 x2.1) rfl ?_
    refine sh ?_
    refine ICall.pure h.n392.o392.hb (small_c' h.n392 x3.1) rfl ?_
    generalize small x1.1 = W at s1 hq ⊢
    generalize small x2.1 = H at s2 hq ⊢
    generalize small x3.1 = D at s3 hq ⊢
    unfold rfin at hq
    refine sh ?_
    refine cS (fun g0 => ?_) (fun g0 => ?_)
    · rw [if_pos (.inl g0)] at hq
      subst hq
      refine sh ?_
      exact rT
    · refine sh ?_
      refine cS (fun g1 => ?_) (fun g1 => ?_)
      · rw [if_pos (.inr (.inl g1))] at hq
        subst hq
        refine sh ?_
        exact rT
      · refine sh ?_
        refine cS (fun g2 => ?_) (fun g2 => ?_)
        · rw [if_pos (.inr (.inr (.inl g2)))] at hq
          subst hq
          refine sh ?_
          exact rT
        · refine sh ?_
          refine cS (fun g3 => ?_) (fun g3 => ?_)
          · rw [if_pos (.inr (.inr (.inr (.inl g3))))] at hq
            subst hq
            refine sh ?_
            exact rT
          · refine sh ?_
            refine cS (fun g4 => ?_) (fun g4 => ?_)
            · rw [if_pos (.inr (.inr (.inr (.inr (.inl g4)))))] at hq
              subst hq
              refine sh ?_
              exact rT
            · refine sh ?_
              refine cS (fun g5 => ?_) (fun g5 => ?_)
              · rw [if_pos (.inr (.inr (.inr (.inr (.inr (.inl g5))))))] at hq
                subst hq
                refine sh ?_
                exact rT
              · refine sh ?_
                refine cS (fun g6 => ?_) (fun g6 => ?_)
                · rw [if_pos (.inr (.inr (.inr (.inr (.inr (.inr (.inl g6)))))))] at hq
                  subst hq
                  refine sh ?_
                  exact rT
                · refine sh ?_
                  refine cS (fun g7 => ?_) (fun g7 => ?_)
                  · rw [if_pos (.inr (.inr (.inr (.inr (.inr (.inr (.inr g7)))))))] at hq
                    subst hq
                    refine sh ?_
                    exact rT
                  · rw [if_neg (by simp only [not_or]; exact ⟨by omega, by simpa using g1, by simpa using g2, by simpa using g3, g4, g5, g6, by omega⟩)] at hq
                    have b1 : 1 ≤ W * H ∧ W * H ≤ 4096 := ⟨by have := Int.mul_le_mul (show 1 ≤ W by omega) (show 1 ≤ H by omega) (by omega) (by omega); omega, by have := Int.mul_le_mul s1.2 s2.2 (by omega) (by omega); omega⟩
                    have b2 : 1 ≤ W * H * D ∧ W * H * D ≤ 16384 := ⟨by have := Int.mul_le_mul b1.1 (show 1 ≤ D by omega) (by omega) (by omega); omega, by have := Int.mul_le_mul b1.2 (show D ≤ 4 by omega) (by omega) (by omega); omega⟩
                    obtain ⟨N, hN⟩ : ∃ N : Nat, W * H * D = N := ⟨(W * H * D).toNat, by omega⟩
                    rw [hN] at hq b2
                    refine sh ?_
                    refine amk_n N (by omega) (by omega) (by omega) ?_
                    rw [hN, show List.replicate N [AV.int .i64 0] = slcK .i64 (List.replicate N 0) by simp [slcK]]
                    refine sh ?_
                    refine ICall.let [3] rfl hp rfl ?_
                    repeat ((intro _u; clear _u); first | refine eZ ?_ | refine eZ ?_ (by simp; omega) | refine FrzC.drop ?_)
                    refine sh ?_
                    refine ICall.pure h.n162.o162.hb (rpcheck_c h.n162 ⟨W, H, D, x5.1, List.replicate N 0⟩ (by dsimp only; omega)) rfl ?_
                    have hpk := pchk_iff ⟨W, H, D, x5.1, List.replicate N 0⟩
                    refine sh ?_
                    refine cS (fun g8 => ?_) (fun g8 => ?_)
                    · have hnm : named x5.1 = false := by
                        cases hn : named x5.1 with
                        | false => rfl
                        | true => exact absurd (hpk.2 ⟨⟨by dsimp only; omega, by dsimp only; omega⟩, ⟨by dsimp only; omega, by dsimp only; omega⟩, ⟨by dsimp only; omega, by dsimp only; omega⟩, hn, by simp [hN], by simp⟩) g8
                      rw [if_pos hnm] at hq
                      subst hq
                      refine sh ?_
                      exact rT
                    · have hnm := (hpk.1 (by simpa using g8)).2.2.2.1
                      rw [if_neg (by rw [hnm]; decide)] at hq
                      obtain ⟨E, hE⟩ : ∃ E : Nat, x6.2 = E := ⟨x6.2.toNat, by omega⟩
                      rw [hE] at hq p6 ⊢
                      refine sh ?_
                      refine cS (fun g9 => ?_) (fun g9 => ?_)
                      · rw [if_pos g9] at hq
                        subst hq
                        refine sh ?_
                        exact rT
                      · rw [if_neg (by omega), Int.toNat_natCast, Int.toNat_natCast] at hq
                        have hl : E + 2 * N ≤ b.length := by omega
                        refine sh ?_
                        refine ILoop.one 100 ?_
                        refine sh ?_
                        refine acnd_t (by simp; omega) ?_
                        obtain ⟨x, hx⟩ : ∃ x, b[E + 2 * 0]? = some x := ⟨_, List.getElem?_eq_getElem (by omega)⟩
                        obtain ⟨y, hy⟩ : ∃ y, b[E + 2 * 0 + 1]? = some y := ⟨_, List.getElem?_eq_getElem (by omega)⟩
                        have hx8 := x.toNat_lt
                        have hy8 := y.toNat_lt
                        refine sh ?_
                        refine eget_map (x := x) (by rw [show ((E : Int) + 2 * 0).toNat = E + 2 * 0 by omega]; exact hx) ?_
                        refine sh ?_
                        refine eget_map (x := y) (by rw [show ((E : Int) + 2 * 0 + 1).toNat = E + 2 * 0 + 1 by omega]; exact hy) ?_
                        have e1 := dnum_eq (l := b.drop E) (i := 0) (by rw [List.getElem?_drop]; exact hx) (by rw [List.getElem?_drop]; exact hy)
                        refine sh ?_
                        refine ILoop.inv 100 (fun k : Nat => 1 ≤ k ∧ k ≤ N) (fun k => ⟨[(0, .isl 1 (slc8 b)), (2, .loc 0 1 0 0), (7, .int .i64 E), (14, .loc 1 1 0 0), (15, .int .i64 N), (17, .int .i64 k)], [(0, .var (R.ty 20) [.int .i64 0, .int .i64 0, .int .i64 0, .str [], .nils]), (1, .var (R.ty 20) [.int .i64 W, .int .i64 H, .int .i64 D, .str x5.1, .osl 5 (nums (b.drop E) k).length]), (5, .arr (R.ty 10) 1 (slcK .i64 (nums (b.drop E) k)))], 6⟩) (fun k => N - k) (1) ?_ ⟨⟨_, hp, rfl⟩, ?_, ?_⟩ ?_
                        · exact ⟨Nat.le_refl _, by omega⟩
                        · all_goals repeat' (first | exact True.intro | refine And.intro ?_ ?_ | (intro _u; clear _u) | (with_reducible first | exact DnLe.fg | refine eM ?_ ?_ | refine eF ?_ ?_ ?_ | refine eN ?_ | refine eL ?_ ?_ ?_ | refine eA ?_ ?_ | refine IWk.mk ⟨_, hp, rfl⟩ ?_ ?_) | refine IWk.mk ⟨_, hp, rfl⟩ ?_ ?_)
                          all_goals try first | with_reducible rfl | omega | exact .inl (by decide) | (simp; done) | rfl
                          all_goals (rw [show nums (b.drop E) 1 = [dnum (b.drop E) 0] from rfl, e1]; rfl)
                        · all_goals repeat' (first | exact True.intro | refine And.intro ?_ ?_ | (intro _u; clear _u) | (with_reducible first | exact DnLe.fg | refine eM ?_ ?_ | refine eF ?_ ?_ ?_ | refine eN ?_ | refine eL ?_ ?_ ?_ | refine eA ?_ ?_ | refine IWk.mk ⟨_, hp, rfl⟩ ?_ ?_) | refine IWk.mk ⟨_, hp, rfl⟩ ?_ ?_)
                          all_goals try first | with_reducible rfl | omega | exact .inl (by decide) | (simp; done) | rfl
                          all_goals (rw [show nums (b.drop E) 1 = [dnum (b.drop E) 0] from rfl, e1]; rfl)
                        · clear hx hy e1 hx8 hy8
                          intro k hk
                          dsimp only
                          refine sh ?_
                          refine cS (fun h7 => ?_) (fun h7 => ?_)
                          · obtain ⟨x, hx⟩ : ∃ x, b[E + 2 * k]? = some x := ⟨_, List.getElem?_eq_getElem (by omega)⟩
                            obtain ⟨y, hy⟩ : ∃ y, b[E + 2 * k + 1]? = some y := ⟨_, List.getElem?_eq_getElem (by omega)⟩
                            have hx8 := x.toNat_lt
                            have hy8 := y.toNat_lt
                            have e1 := nums_succ (b.drop E) k
                            rw [dnum_eq (l := b.drop E) (i := k) (by rw [List.getElem?_drop]; exact hx) (by rw [List.getElem?_drop]; exact hy)] at e1
                            have e3 := nums_len (b.drop E) k
                            refine sh ?_
                            refine eget_map (x := x) (by rw [show ((E : Int) + 2 * k).toNat = E + 2 * k by omega]; exact hx) ?_
                            refine sh ?_
                            refine eget_map (x := y) (by rw [show ((E : Int) + 2 * k + 1).toNat = E + 2 * k + 1 by omega]; exact hy) ?_
                            generalize nums (b.drop E) k = C at e1 e3 ⊢
                            refine sh ?_
                            refine nX (k + 1) ?_ ?_ ⟨_, hp, rfl⟩ ?_ ?_
                            · omega
                            · omega
                            · all_goals repeat' (first | exact True.intro | refine And.intro ?_ ?_ | (intro _u; clear _u) | (with_reducible first | exact DnLe.fg | refine eM ?_ ?_ | refine eF ?_ ?_ ?_ | refine eN ?_ | refine eL ?_ ?_ ?_ | refine eA ?_ ?_ | refine IWk.mk ⟨_, hp, rfl⟩ ?_ ?_) | refine IWk.mk ⟨_, hp, rfl⟩ ?_ ?_)
                              all_goals try first | with_reducible rfl | omega | exact .inl (by decide) | (simp; done) | rfl
                              all_goals (rw [e1]; simp [slcK])
                            · all_goals repeat' (first | exact True.intro | refine And.intro ?_ ?_ | (intro _u; clear _u) | (with_reducible first | exact DnLe.fg | refine eM ?_ ?_ | refine eF ?_ ?_ ?_ | refine eN ?_ | refine eL ?_ ?_ ?_ | refine eA ?_ ?_ | refine IWk.mk ⟨_, hp, rfl⟩ ?_ ?_) | refine IWk.mk ⟨_, hp, rfl⟩ ?_ ?_)
                              all_goals try first | with_reducible rfl | omega | exact .inl (by decide) | (simp; done) | rfl
                              all_goals (rw [e1]; simp [slcK])
                          · obtain rfl : k = N := by omega
                            refine sh ?_
                            refine asub_eq (by exact (show List.drop ((E : Int) + 2 * (k : Int)).toNat (slc8 b) = slc8 (b.drop (E + 2 * k)) by rw [show ((E : Int) + 2 * (k : Int)).toNat = E + 2 * k by omega, slc8_drop])) ?_
                            subst hq
                            refine sh ?_
                            exact rT
end Go.UM

namespace Go.UM
open Go.AM
set_option maxRecDepth 4000
theorem rword_ok {s w a r : List UInt8} {A : Nat} (h : s.drop A = (w ++ a) ++ 10 :: r) (ha : ∀ c ∈ a, c ≠ 10) : ∃ B : Nat, rword s A w = (a, (B : Int)) ∧ s.drop B = r ∧ B ≤ s.length := by
  have hl := congrArg List.length h
  simp only [List.length_drop, List.length_append, List.length_cons] at hl
  have e1 : s.drop (A + w.length) = a ++ 10 :: r := by
    rw [← List.drop_drop, h, List.append_assoc, List.drop_left]
  refine ⟨A + w.length + a.length + 1, ?_, ?_, by omega⟩
  · unfold rword
    rw [if_neg (by
      simp only [not_or, Int.toNat_natCast, ne_eq, Classical.not_not]
      refine ⟨by omega, by omega, ?_⟩
      rw [h, List.append_assoc, List.take_left]), Int.toNat_natCast, e1, cut_of ha]
    dsimp only
    congr 1
  · rw [show A + w.length + a.length + 1 = A + w.length + (a.length + 1) by omega, ← List.drop_drop, e1, ← List.drop_drop, List.drop_left]
    rfl
theorem rword_inv {s w : List UInt8} {A : Int} (h : 0 ≤ (rword s A w).2) : 0 ≤ A ∧ s.drop A.toNat = (w ++ (rword s A w).1) ++ 10 :: s.drop (rword s A w).2.toNat := by
  unfold rword at h ⊢
  split at h
  · simp at h
  · rename_i hn
    rw [if_neg hn]
    simp only [not_or, ne_eq, Classical.not_not] at hn
    obtain ⟨h1, h2, h3⟩ := hn
    refine ⟨by omega, ?_⟩
    cases hc : cut (s.drop (A.toNat + w.length)) with
    | none => rw [hc] at h; simp at h
    | some x =>
      obtain ⟨a, r⟩ := x
      have e := (cut_len hc).1
      dsimp only
      have e2 : s.drop (A + w.length + a.length + 1).toNat = r := by
        rw [show (A + w.length + a.length + 1).toNat = A.toNat + w.length + (a.length + 1) by omega, ← List.drop_drop, e, ← List.drop_drop, List.drop_left]
        rfl
      rw [e2]
      have e3 := List.take_append_drop w.length (s.drop A.toNat)
      rw [h3, List.drop_drop, e] at e3
      rw [← e3, List.append_assoc]
theorem smF_dec : ∀ (f : Nat) (n : Int) (s : List UInt8), smF f n s ≠ 0 → dec (smF f n s) = s
  | 0, _, _, h => absurd rfl h
  | f + 1, n, s, h => by
    rw [smF] at h ⊢
    split
    · rename_i hd; exact hd
    · rename_i hd
      rw [if_neg hd] at h
      exact smF_dec f (n + 1) s h
theorem small_inv {s : List UInt8} (h : small s ≠ 0) : dec (small s) = s := smF_dec 64 1 s h
theorem smF_of {m : Int} (hm : 1 ≤ m ∧ m ≤ 64) : ∀ (f : Nat) (n : Int), 1 ≤ n → n ≤ m → m < n + f → smF f n (dec m) = m
  | 0, n, _, h1, h2 => by omega
  | f + 1, n, h0, h1, h2 => by
    rw [smF]
    by_cases e : n = m
    · rw [if_pos (by rw [e]), e]
    · rw [if_neg fun hd => e (by have := congrArg num hd; rwa [(dec_ok ⟨h0, by omega⟩).1, (dec_ok hm).1] at this)]
      exact smF_of hm f (n + 1) (by omega) (by omega) (by omega)
theorem small_of {m : Int} (hm : 1 ≤ m ∧ m ≤ 64) : small (dec m) = m := smF_of hm 64 1 (by omega) hm.1 (by omega)
theorem rdec_of {p : Pl} (hp : p.cd = true) (r : List UInt8) : ∃ e : Nat, (hd p ++ r).drop e = r ∧ e ≤ (hd p ++ r).length ∧ rdec (hd p ++ r) = rfin (hd p ++ r) [] [] [] p.name p.w p.h p.deep e := by
  obtain ⟨h1, h2, h3, h4⟩ := cd_iff.1 hp
  obtain ⟨w1, w2, w3⟩ := dec_ok h1
  obtain ⟨y1, y2, y3⟩ := dec_ok h2
  obtain ⟨d1, d2, d3⟩ := dec_ok (n := p.deep) ⟨h3.1, by omega⟩
  obtain ⟨n2, n3⟩ := named_no h4
  have e0 := hd_eq p r
  generalize hb : hd p ++ r = b at e0 ⊢
  obtain ⟨B0, f0, g0, _⟩ := rword_ok (s := b) (A := 0) (w := [80, 55]) (a := []) (by rw [List.drop_zero, e0]; rfl) (by simp)
  obtain ⟨B1, f1, g1, _⟩ := rword_ok (s := b) (A := B0) (w := [87, 73, 68, 84, 72, 32]) (a := dec p.w) (by rw [g0]; rfl) w2
  obtain ⟨B2, f2, g2, _⟩ := rword_ok (s := b) (A := B1) (w := [72, 69, 73, 71, 72, 84, 32]) (a := dec p.h) (by rw [g1]; rfl) y2
  obtain ⟨B3, f3, g3, _⟩ := rword_ok (s := b) (A := B2) (w := [68, 69, 80, 84, 72, 32]) (a := dec p.deep) (by rw [g2]; rfl) d2
  obtain ⟨B4, f4, g4, _⟩ := rword_ok (s := b) (A := B3) (w := [77, 65, 88, 86, 65, 76, 32, 54, 53, 53, 51, 53]) (a := []) (by rw [g3]; rfl) (by simp)
  obtain ⟨B5, f5, g5, _⟩ := rword_ok (s := b) (A := B4) (w := [84, 85, 80, 76, 84, 89, 80, 69, 32]) (a := p.name) (by rw [g4]; rfl) n2
  obtain ⟨B6, f6, g6, g7⟩ := rword_ok (s := b) (A := B5) (w := [69, 78, 68, 72, 68, 82]) (a := []) (by rw [g5]; rfl) (by simp)
  refine ⟨B6, g6, g7, ?_⟩
  unfold rdec
  dsimp only
  rw [show (0 : Int) = ((0 : Nat) : Int) from rfl, f0]
  dsimp only
  rw [f1]
  dsimp only
  rw [f2]
  dsimp only
  rw [f3]
  dsimp only
  rw [f4]
  dsimp only
  rw [f5]
  dsimp only
  rw [f6]
  dsimp only
  rw [small_of h1, small_of h2, small_of ⟨h3.1, by omega⟩]
theorem rfin_bad {b one two three name : List UInt8} {w h d e : Int} (hn : ¬ (0 ≤ e ∧ one = [] ∧ two = [] ∧ three = [] ∧ w ≠ 0 ∧ h ≠ 0 ∧ d ≠ 0 ∧ d ≤ 4 ∧ named name = true)) : rfin b one two three name w h d e = (z0, [], 5) := by
  unfold rfin
  by_cases h1 : e < 0 ∨ one ≠ [] ∨ two ≠ [] ∨ three ≠ [] ∨ w = 0 ∨ h = 0 ∨ d = 0 ∨ 4 < d
  · rw [if_pos h1]
  · rw [if_neg h1]
    simp only [not_or, ne_eq, Classical.not_not] at h1
    obtain ⟨a1, a2, a3, a4, a5, a6, a7, a8⟩ := h1
    cases hm : named name with
    | false => rw [if_pos rfl]
    | true => exact absurd ⟨by omega, a2, a3, a4, a5, a6, a7, by omega, hm⟩ hn
theorem rdec_inv {b : List UInt8} (hno : ¬ ∃ p : Pl, p.cd = true ∧ ∃ r, b = hd p ++ r) : rdec b = (z0, [], 5) := by
  unfold rdec
  dsimp only
  apply rfin_bad
  rintro ⟨e0, o1, o2, o3, n1, n2, n3, n4, hm⟩
  have i6 := rword_inv e0
  have i5 := rword_inv i6.1
  have i4 := rword_inv i5.1
  have i3 := rword_inv i4.1
  have i2 := rword_inv i3.1
  have i1 := rword_inv i2.1
  have i0 := rword_inv i1.1
  generalize rword b 0 [80, 55] = x0 at *
  generalize rword b x0.2 [87, 73, 68, 84, 72, 32] = x1 at *
  generalize rword b x1.2 [72, 69, 73, 71, 72, 84, 32] = x2 at *
  generalize rword b x2.2 [68, 69, 80, 84, 72, 32] = x3 at *
  generalize rword b x3.2 [77, 65, 88, 86, 65, 76, 32, 54, 53, 53, 51, 53] = x4 at *
  generalize rword b x4.2 [84, 85, 80, 76, 84, 89, 80, 69, 32] = x5 at *
  generalize rword b x5.2 [69, 78, 68, 72, 68, 82] = x6 at *
  have s1 := small_in x1.1
  have s2 := small_in x2.1
  have s3 := small_in x3.1
  refine hno ⟨⟨small x1.1, small x2.1, small x3.1, x5.1, []⟩, cd_iff.2 ⟨⟨by dsimp only; omega, by dsimp only; omega⟩, ⟨by dsimp only; omega, by dsimp only; omega⟩, ⟨by dsimp only; omega, by dsimp only; omega⟩, hm⟩, b.drop x6.2.toNat, ?_⟩
  rw [hd_eq]
  dsimp only
  rw [small_inv n1, small_inv n2, small_inv n3]
  have j0 := i0.2
  rw [Int.toNat_zero, List.drop_zero, i1.2, i2.2, i3.2, i4.2, i5.2, i6.2, o1, o2, o3] at j0
  refine j0.trans ?_
  simp [wW, wH, wD, wT]
theorem rdec_eq (b : List UInt8) : rdec b = pdec b := by
  by_cases hp : ∃ p : Pl, p.cd = true ∧ ∃ r, b = hd p ++ r
  · obtain ⟨p, hc, r, rfl⟩ := hp
    obtain ⟨e, h1, h2, h3⟩ := rdec_of hc r
    obtain ⟨t, h4⟩ := (hd_go hc r).2
    obtain ⟨q1, q2, q3, q4⟩ := cd_iff.1 hc
    rw [h3]
    unfold pdec
    rw [h4]
    dsimp only
    rw [Option.getD_some, pdecO_in (b := hd p ++ r) (o := ⟨p.w, p.h, p.deep, p.name, []⟩) hc (fits_iff.2 ⟨r, rfl⟩)]
    unfold rfin
    rw [if_neg (by simp only [not_or]; exact ⟨by omega, by simp, by simp, by simp, by omega, by omega, by omega, by omega⟩), if_neg (by rw [q4]; decide)]
    dsimp only
    have hl := congrArg List.length h1
    rw [List.length_drop] at hl
    rw [show ((hd p ++ r).length : Int) - e = (r.length : Int) by omega, Int.toNat_natCast, h1, ← List.drop_drop, h1]
  · rw [rdec_inv hp]
    unfold pdec
    rw [pdecO_bad fun hh => hp ⟨_, hh.1, fits_iff.1 hh.2⟩]
end Go.UM

namespace Go.UM
open Go.AM
set_option maxRecDepth 4000
def Pl.few (p : Pl) : Pl := { p with name := p.name.take 20, data := p.data.take 100 }
theorem fewp_c {R : Env} (h : N364 R) (p : Pl) : R.Pc 364 [.agg p.row] (.agg p.few.row) :=
  h.o364.enter 60 rfl fun X bb hfit hp => by
    refine sh ?_
    refine aSb ?_
    rw [take_cap]
    refine sh ?_
    refine aSb ?_
    rw [take_cap]
    refine sh ?_
    exact rT
def P30 : Pl := ⟨1, 1, 1, [65], [258]⟩
theorem works30_c {R : Env} (h : N367 R) : R.Pc 367 [] (.bool true) :=
  h.o367.enter 100 rfl fun X bb hfit hp => by
    have c1 := pencode_c h.n365 P30 (by decide) (by decide)
    rw [show penc P30 = ([80, 55, 10, 87, 73, 68, 84, 72, 32, 49, 10, 72, 69, 73, 71, 72, 84, 32, 49, 10, 68, 69, 80, 84, 72, 32, 49, 10, 77, 65, 88, 86, 65, 76, 32, 54, 53, 53, 51, 53, 10, 84, 85, 80, 76, 84, 89, 80, 69, 32, 65, 10, 69, 78, 68, 72, 68, 82, 10, 1, 2], 0) by decide +kernel] at c1
    refine sh ?_
    refine ICall.let [0] rfl hp rfl ?_
    repeat ((intro _u; clear _u); first | refine eZ ?_ | refine eZ ?_ (by simp; omega) | refine FrzC.drop ?_)
    refine sh ?_
    refine ICall.pure h.n365.o365.hb c1 rfl ?_
    refine sh ?_
    refine acnd_t (by decide) ?_
    refine sh ?_
    exact rT
theorem pencodes_law {R : Env} (h : N363 R) (p : Pl) : R.Pc 363 [.agg p.row] (.bool true) :=
  h.o363.enter 100 rfl fun X bb hfit hp => by
    refine sh ?_
    refine ICall.pure h.n364.o364.hb (fewp_c h.n364 p) rfl ?_
    have hn : p.few.name.length ≤ 1073741824 := by simp [Pl.few]; omega
    have hl : p.few.data.length ≤ 100000 := by simp [Pl.few]; omega
    generalize p.few = p at hn hl ⊢
    refine sh ?_
    refine ICall.pure h.n365.o365.hb (pencode_c h.n365 p hn hl) rfl ?_
    refine sh ?_
    refine ICall.pure h.n366.o366.hb (rpencode_c h.n366 p hn hl) rfl ?_
    refine sh ?_
    refine ICall.pure h.n153.o153.hb (pcheck_c h.n153 p hn) rfl ?_
    refine sh ?_
    refine ICall.pure h.n162.o162.hb (rpcheck_c h.n162 p hn) rfl ?_
    refine sh ?_
    refine acnd_t (by simp) ?_
    refine sh ?_
    refine ICall.pure h.n47.o47.hb (eq8_c h.n47 (penc p).1 (penc p).1) rfl ?_
    refine sh ?_
    refine acnd_t (by simp) ?_
    refine sh ?_
    refine acnd_t (by simp) ?_
    refine sh ?_
    refine ICall.pure h.n367.o367.hb (works30_c h.n367) rfl ?_
    refine sh ?_
    exact rT
end Go.UM

namespace Go.UM
open Go.AM
set_option maxRecDepth 4000
theorem flat_c {R : Env} (h : N151 R) (l : List T3) (hl : l.length ≤ 5000) : R.Pc 151 [.isl 3 (slc3 l)] (.isl 1 (slcK .i64 (fl3 l))) :=
  h.o151.enter 100 rfl fun X bb hfit hp => by
    refine sh ?_
    refine ILoop.one 100 ?_
    by_cases h0 : l = []
    · subst h0
      refine sh ?_
      refine acnd_f (by decide) ?_
      refine sh ?_
      exact rT
    · have h1 : 1 ≤ l.length := Nat.one_le_iff_ne_zero.2 fun e => h0 (List.eq_nil_of_length_eq_zero e)
      have h1' : (slc3 l).length = l.length := by simp
      refine sh ?_
      refine acnd_t (by simp; omega) ?_
      obtain ⟨x, hx⟩ : ∃ u_, l[0]? = some u_ := ⟨_, List.getElem?_eq_getElem (by first | omega | (simp <;> omega))⟩
      refine sh ?_
      refine eget_map hx ?_
      have e1 := fl3_succ hx
      refine sh ?_
      refine ILoop.inv 100 (fun k : Nat => 1 ≤ k ∧ k ≤ l.length) (fun k => ⟨[(3, .osl 1 (fl3 (l.take k)).length), (6, .isl 3 (slc3 l)), (7, .int .i64 l.length), (8, .int .i64 k)], [(1, .arr (R.ty 10) 1 (slcK .i64 (fl3 (l.take k))))], 2⟩) (fun k => l.length - k) (1) ?_ ⟨⟨_, hp, rfl⟩, ?_, ?_⟩ ?_
      · exact ⟨Nat.le_refl _, h1⟩
      · all_goals repeat' (first | exact True.intro | refine And.intro ?_ ?_ | (intro _u; clear _u) | (with_reducible first | exact DnLe.fg | refine eM ?_ ?_ | refine eF ?_ ?_ ?_ | refine eN ?_ | refine eL ?_ ?_ ?_ | refine eA ?_ ?_ | refine IWk.mk ⟨_, hp, rfl⟩ ?_ ?_) | refine IWk.mk ⟨_, hp, rfl⟩ ?_ ?_)
        all_goals try first | with_reducible rfl | omega | exact .inl (by decide) | (simp; done) | rfl
        all_goals (rw [e1]; rfl)
      · all_goals repeat' (first | exact True.intro | refine And.intro ?_ ?_ | (intro _u; clear _u) | (with_reducible first | exact DnLe.fg | refine eM ?_ ?_ | refine eF ?_ ?_ ?_ | refine eN ?_ | refine eL ?_ ?_ ?_ | refine eA ?_ ?_ | refine IWk.mk ⟨_, hp, rfl⟩ ?_ ?_) | refine IWk.mk ⟨_, hp, rfl⟩ ?_ ?_)
        all_goals try first | with_reducible rfl | omega | exact .inl (by decide) | (simp; done) | rfl
        all_goals (rw [e1]; rfl)
      · intro k hk
        dsimp only
        refine sh ?_
        refine cS (fun h2 => ?_) (fun h2 => ?_)
        · obtain ⟨y, hy⟩ : ∃ u_, l[k]? = some u_ := ⟨_, List.getElem?_eq_getElem (by first | omega | (simp <;> omega))⟩
          refine sh ?_
          refine eget_map hy ?_
          have e2 := fl3_succ hy
          have e3 := fl3_len (l.take k)
          have e4 : (l.take k).length ≤ 5000 := by simp; omega
          generalize fl3 (l.take k) = C at e2 e3 ⊢
          refine sh ?_
          refine nX (k + 1) ?_ ?_ ⟨_, hp, rfl⟩ ?_ ?_
          · omega
          · omega
          · all_goals repeat' (first | exact True.intro | refine And.intro ?_ ?_ | (intro _u; clear _u) | (with_reducible first | exact DnLe.fg | refine eM ?_ ?_ | refine eF ?_ ?_ ?_ | refine eN ?_ | refine eL ?_ ?_ ?_ | refine eA ?_ ?_ | refine IWk.mk ⟨_, hp, rfl⟩ ?_ ?_) | refine IWk.mk ⟨_, hp, rfl⟩ ?_ ?_)
            all_goals try first | with_reducible rfl | omega | exact .inl (by decide) | (simp; done) | rfl
            all_goals (rw [e2]; simp)
          · all_goals repeat' (first | exact True.intro | refine And.intro ?_ ?_ | (intro _u; clear _u) | (with_reducible first | exact DnLe.fg | refine eM ?_ ?_ | refine eF ?_ ?_ ?_ | refine eN ?_ | refine eL ?_ ?_ ?_ | refine eA ?_ ?_ | refine IWk.mk ⟨_, hp, rfl⟩ ?_ ?_) | refine IWk.mk ⟨_, hp, rfl⟩ ?_ ?_)
            all_goals try first | with_reducible rfl | omega | exact .inl (by decide) | (simp; done) | rfl
            all_goals (rw [e2]; simp [slcK])
        · rw [List.take_of_length_le (by omega)]
          refine sh ?_
          exact rT
theorem rflat_c {R : Env} (h : N159 R) (l : List T3) (hl : l.length ≤ 5000) : R.Pc 159 [.isl 3 (slc3 l)] (.isl 1 (slcK .i64 (fl3 l))) :=
  h.o159.enter 100 rfl fun X bb hfit hp => by
    refine sh ?_
    refine ILoop.one 100 ?_
    by_cases h0 : l = []
    · subst h0
      refine sh ?_
      refine acnd_f (by decide) ?_
      refine sh ?_
      exact rT
    · have h1 : 1 ≤ l.length := Nat.one_le_iff_ne_zero.2 fun e => h0 (List.eq_nil_of_length_eq_zero e)
      have h1' : (slc3 l).length = l.length := by simp
      refine sh ?_
      refine acnd_t (by simp; omega) ?_
      obtain ⟨x, hx⟩ : ∃ u_, l[0]? = some u_ := ⟨_, List.getElem?_eq_getElem (by first | omega | (simp <;> omega))⟩
      refine sh ?_
      refine eget_map hx ?_
      refine sh ?_
      refine eget_map hx ?_
      refine sh ?_
      refine eget_map hx ?_
      have e1 := fl3_succ hx
      refine sh ?_
      refine ILoop.inv 100 (fun k : Nat => 1 ≤ k ∧ k ≤ l.length) (fun k => ⟨[(0, .isl 3 (slc3 l)), (3, .osl 1 (fl3 (l.take k)).length), (4, .int .i64 k)], [(1, .arr (R.ty 10) 1 (slcK .i64 (fl3 (l.take k))))], 2⟩) (fun k => l.length - k) (1) ?_ ⟨⟨_, hp, rfl⟩, ?_, ?_⟩ ?_
      · exact ⟨Nat.le_refl _, h1⟩
      · all_goals repeat' (first | exact True.intro | refine And.intro ?_ ?_ | (intro _u; clear _u) | (with_reducible first | exact DnLe.fg | refine eM ?_ ?_ | refine eF ?_ ?_ ?_ | refine eN ?_ | refine eL ?_ ?_ ?_ | refine eA ?_ ?_ | refine IWk.mk ⟨_, hp, rfl⟩ ?_ ?_) | refine IWk.mk ⟨_, hp, rfl⟩ ?_ ?_)
        all_goals try first | with_reducible rfl | omega | exact .inl (by decide) | (simp; done) | rfl
        all_goals (rw [e1]; rfl)
      · all_goals repeat' (first | exact True.intro | refine And.intro ?_ ?_ | (intro _u; clear _u) | (with_reducible first | exact DnLe.fg | refine eM ?_ ?_ | refine eF ?_ ?_ ?_ | refine eN ?_ | refine eL ?_ ?_ ?_ | refine eA ?_ ?_ | refine IWk.mk ⟨_, hp, rfl⟩ ?_ ?_) | refine IWk.mk ⟨_, hp, rfl⟩ ?_ ?_)
        all_goals try first | with_reducible rfl | omega | exact .inl (by decide) | (simp; done) | rfl
        all_goals (rw [e1]; rfl)
      · intro k hk
        dsimp only
        refine sh ?_
        refine cS (fun h2 => ?_) (fun h2 => ?_)
        · obtain ⟨y, hy⟩ : ∃ u_, l[k]? = some u_ := ⟨_, List.getElem?_eq_getElem (by first | omega | (simp <;> omega))⟩
          refine sh ?_
          refine eget_map hy ?_
          refine sh ?_
          refine eget_map hy ?_
          refine sh ?_
          refine eget_map hy ?_
          have e2 := fl3_succ hy
          have e3 := fl3_len (l.take k)
          have e4 : (l.take k).length ≤ 5000 := by simp; omega
          generalize fl3 (l.take k) = C at e2 e3 ⊢
          refine sh ?_
          refine nX (k + 1) ?_ ?_ ⟨_, hp, rfl⟩ ?_ ?_
          · omega
          · omega
          · all_goals repeat' (first | exact True.intro | refine And.intro ?_ ?_ | (intro _u; clear _u) | (with_reducible first | exact DnLe.fg | refine eM ?_ ?_ | refine eF ?_ ?_ ?_ | refine eN ?_ | refine eL ?_ ?_ ?_ | refine eA ?_ ?_ | refine IWk.mk ⟨_, hp, rfl⟩ ?_ ?_) | refine IWk.mk ⟨_, hp, rfl⟩ ?_ ?_)
            all_goals try first | with_reducible rfl | omega | exact .inl (by decide) | (simp; done) | rfl
            all_goals (rw [e2]; simp)
          · all_goals repeat' (first | exact True.intro | refine And.intro ?_ ?_ | (intro _u; clear _u) | (with_reducible first | exact DnLe.fg | refine eM ?_ ?_ | refine eF ?_ ?_ ?_ | refine eN ?_ | refine eL ?_ ?_ ?_ | refine eA ?_ ?_ | refine IWk.mk ⟨_, hp, rfl⟩ ?_ ?_) | refine IWk.mk ⟨_, hp, rfl⟩ ?_ ?_)
            all_goals try first | with_reducible rfl | omega | exact .inl (by decide) | (simp; done) | rfl
            all_goals (rw [e2]; simp [slcK])
        · rw [List.take_of_length_le (by omega)]
          refine sh ?_
          exact rT
def krow : List AV := [.int .i64 0, .int .i64 0, .int .i64 3, .str nmB, .nils, .int .i64 0, .int .i64 0, .int .i64 1, .str nmA, .nils, .int .i64 0, .int .i64 0, .int .i64 1, .str nmD, .nils,
  .int .i64 0, .int .i64 0, .int .i64 3, .str nmN, .nils, .int .i64 0, .int .i64 0, .int .i64 1, .str nmS, .nils, .int .i64 0, .int .i64 0, .int .i64 1, .str nmL, .nils]
theorem kinds_c {R : Env} (h : N152 R) : R.Pc 152 [] (.agg krow) :=
  h.o152.enter 60 rfl fun X bb hfit hp => by
    refine sh ?_
    exact rT
def slS (l : List (List UInt8)) : List (List AV) := l.map fun s => [.str s]
@[simp] theorem slS_length (l : List (List UInt8)) : (slS l).length = l.length := by simp [slS]
theorem deeps_c {R : Env} (h : N160 R) : R.Pc 160 [] (.isl 1 (slcK .i64 [3, 1, 1, 3, 1, 1])) :=
  h.o160.enter 60 rfl fun X bb hfit hp => by
    refine sh ?_
    exact rT
theorem names_c {R : Env} (h : N161 R) : R.Pc 161 [] (.isl 1 (slS [nmB, nmA, nmD, nmN, nmS, nmL])) :=
  h.o161.enter 60 rfl fun X bb hfit hp => by
    refine sh ?_
    exact rT
theorem nm_len : ∀ {i : Im}, i.p0.name.length ≤ 1073741824 ∧ i.p1.name.length ≤ 1073741824 ∧ i.p2.name.length ≤ 1073741824 ∧ i.p3.name.length ≤ 1073741824 ∧ i.p4.name.length ≤ 1073741824 ∧ i.p5.name.length ≤ 1073741824 := by
  intro i; simp [Im.p0, Im.p1, Im.p2, Im.p3, Im.p4, Im.p5, nmB, nmA, nmD, nmN, nmS, nmL]
structure Im.Few (i : Im) : Prop where
  be : i.be.length ≤ 5000
  al : i.al.length ≤ 5000
  de : i.de.length ≤ 5000
  no : i.no.length ≤ 5000
  as : i.as.length ≤ 5000
  la : i.la.length ≤ 5000
set_option maxHeartbeats 1000000 in
theorem planes_c {R : Env} (h : N132 R) (i : Im) (few : i.Few) : R.Pc 132 [.agg i.row] (.tup [.isl 5 (slP (planes i).1), .int .i64 (planes i).2]) :=
  h.o132.enter 100 rfl fun X bb hfit hp => by
    obtain ⟨f0, f1, f2, f3, f4, f5⟩ := few
    have g0 := fl3_len i.be
    have g3 := fl3_len i.no
    generalize hq : planes i = q
    refine sh ?_
    refine ICall.pure h.n151.o151.hb (flat_c h.n151 i.be f0) rfl ?_
    refine sh ?_
    refine ICall.pure h.n151.o151.hb (flat_c h.n151 i.no f3) rfl ?_
    refine sh ?_
    refine ICall.pure h.n152.o152.hb (kinds_c h.n152) rfl ?_
    refine sh ?_
    refine ILoop.one 100 ?_
    refine sh ?_
    refine acnd_t (by decide) ?_
    refine sh ?_
    refine ICall.let [3] rfl hp rfl ?_
    repeat ((intro _u; clear _u); first | refine eZ ?_ | refine eZ ?_ (by simp; omega) | refine FrzC.drop ?_)
    refine sh ?_
    refine ICall.pure h.n153.o153.hb (pcheck_c h.n153 i.p0 nm_len.1) rfl ?_
    refine sh ?_
    refine cS (fun c0 => ?_) (fun c0 => ?_)
    · have e : ichk i = pchk i.p0 := by unfold ichk; rw [if_pos c0]
      rw [planes, e, if_pos c0] at hq
      subst hq
      refine sh ?_
      exact rT
    · refine sh ?_
      refine ILoop.one 100 ?_
      refine sh ?_
      refine acnd_t (by decide) ?_
      refine sh ?_
      refine ICall.let [7] rfl hp rfl ?_
      repeat ((intro _u; clear _u); first | refine eZ ?_ | refine eZ ?_ (by simp; omega) | refine FrzC.drop ?_)
      refine sh ?_
      refine ICall.pure h.n153.o153.hb (pcheck_c h.n153 i.p1 nm_len.2.1) rfl ?_
      refine sh ?_
      refine cS (fun c1 => ?_) (fun c1 => ?_)
      · have e : ichk i = pchk i.p1 := by unfold ichk; rw [if_neg (fun hh => hh c0), if_pos c1]
        rw [planes, e, if_pos c1] at hq
        subst hq
        refine sh ?_
        exact rT
      · refine sh ?_
        refine ILoop.one 100 ?_
        refine sh ?_
        refine acnd_t (by decide) ?_
        refine sh ?_
        refine ICall.let [10] rfl hp rfl ?_
        repeat ((intro _u; clear _u); first | refine eZ ?_ | refine eZ ?_ (by simp; omega) | refine FrzC.drop ?_)
        refine sh ?_
        refine ICall.pure h.n153.o153.hb (pcheck_c h.n153 i.p2 nm_len.2.2.1) rfl ?_
        refine sh ?_
        refine cS (fun c2 => ?_) (fun c2 => ?_)
        · have e : ichk i = pchk i.p2 := by unfold ichk; rw [if_neg (fun hh => hh c0), if_neg (fun hh => hh c1), if_pos c2]
          rw [planes, e, if_pos c2] at hq
          subst hq
          refine sh ?_
          exact rT
        · refine sh ?_
          refine ILoop.one 100 ?_
          refine sh ?_
          refine acnd_t (by decide) ?_
          refine sh ?_
          refine ICall.let [13] rfl hp rfl ?_
          repeat ((intro _u; clear _u); first | refine eZ ?_ | refine eZ ?_ (by simp; omega) | refine FrzC.drop ?_)
          refine sh ?_
          refine ICall.pure h.n153.o153.hb (pcheck_c h.n153 i.p3 nm_len.2.2.2.1) rfl ?_
          refine sh ?_
          refine cS (fun c3 => ?_) (fun c3 => ?_)
          · have e : ichk i = pchk i.p3 := by unfold ichk; rw [if_neg (fun hh => hh c0), if_neg (fun hh => hh c1), if_neg (fun hh => hh c2), if_pos c3]
            rw [planes, e, if_pos c3] at hq
            subst hq
            refine sh ?_
            exact rT
          · refine sh ?_
            refine ILoop.one 100 ?_
            refine sh ?_
            refine acnd_t (by decide) ?_
            refine sh ?_
            refine ICall.let [16] rfl hp rfl ?_
            repeat ((intro _u; clear _u); first | refine eZ ?_ | refine eZ ?_ (by simp; omega) | refine FrzC.drop ?_)
            refine sh ?_
            refine ICall.pure h.n153.o153.hb (pcheck_c h.n153 i.p4 nm_len.2.2.2.2.1) rfl ?_
            refine sh ?_
            refine cS (fun c4 => ?_) (fun c4 => ?_)
            · have e : ichk i = pchk i.p4 := by unfold ichk; rw [if_neg (fun hh => hh c0), if_neg (fun hh => hh c1), if_neg (fun hh => hh c2), if_neg (fun hh => hh c3), if_pos c4]
              rw [planes, e, if_pos c4] at hq
              subst hq
              refine sh ?_
              exact rT
            · refine sh ?_
              refine ILoop.one 100 ?_
              refine sh ?_
              refine acnd_t (by decide) ?_
              refine sh ?_
              refine ICall.let [19] rfl hp rfl ?_
              repeat ((intro _u; clear _u); first | refine eZ ?_ | refine eZ ?_ (by simp; omega) | refine FrzC.drop ?_)
              refine sh ?_
              refine ICall.pure h.n153.o153.hb (pcheck_c h.n153 i.p5 nm_len.2.2.2.2.2) rfl ?_
              refine sh ?_
              refine cS (fun c5 => ?_) (fun c5 => ?_)
              · have e : ichk i = pchk i.p5 := by unfold ichk; rw [if_neg (fun hh => hh c0), if_neg (fun hh => hh c1), if_neg (fun hh => hh c2), if_neg (fun hh => hh c3), if_neg (fun hh => hh c4), if_pos c5]
                rw [planes, e, if_pos c5] at hq
                subst hq
                refine sh ?_
                exact rT
              · refine sh ?_
                refine ILoop.one 100 ?_
                refine sh ?_
                refine acnd_f (by decide) ?_
                rw [planes, if_neg (fun hh => hh (ichk_of ⟨c0, c1, c2, c3, c4, c5⟩))] at hq
                subst hq
                refine sh ?_
                exact rT
set_option maxHeartbeats 1000000 in
theorem rplanes_c {R : Env} (h : N155 R) (i : Im) (few : i.Few) : R.Pc 155 [.agg i.row] (.tup [.isl 5 (slP (planes i).1), .int .i64 (planes i).2]) :=
  h.o155.enter 100 rfl fun X bb hfit hp => by
    obtain ⟨f0, f1, f2, f3, f4, f5⟩ := few
    have g0 := fl3_len i.be
    have g3 := fl3_len i.no
    generalize hq : planes i = q
    refine sh ?_
    refine ICall.pure h.n159.o159.hb (rflat_c h.n159 i.be f0) rfl ?_
    refine sh ?_
    refine ICall.pure h.n159.o159.hb (rflat_c h.n159 i.no f3) rfl ?_
    refine sh ?_
    refine ILoop.one 100 ?_
    refine sh ?_
    refine acnd_t (by decide) ?_
    refine sh ?_
    refine ICall.pure h.n160.o160.hb (deeps_c h.n160) rfl ?_
    refine sh ?_
    refine eget_map (show ([3, 1, 1, 3, 1, 1] : List Int)[0]? = some _ from rfl) ?_
    refine sh ?_
    refine ICall.pure h.n161.o161.hb (names_c h.n161) rfl ?_
    refine sh ?_
    refine eget_map (show ([nmB, nmA, nmD, nmN, nmS, nmL] : List (List UInt8))[0]? = some _ from rfl) ?_
    refine sh ?_
    refine aelt_lit rfl ?_
    refine sh ?_
    refine ICall.pure h.n162.o162.hb (rpcheck_c h.n162 i.p0 nm_len.1) rfl ?_
    refine sh ?_
    refine cS (fun c0 => ?_) (fun c0 => ?_)
    · have e : ichk i = pchk i.p0 := by unfold ichk; rw [if_pos c0]
      rw [planes, e, if_pos c0] at hq
      subst hq
      refine sh ?_
      exact rT
    · refine sh ?_
      refine ILoop.one 100 ?_
      refine sh ?_
      refine acnd_t (by decide) ?_
      refine sh ?_
      refine ICall.pure h.n160.o160.hb (deeps_c h.n160) rfl ?_
      refine sh ?_
      refine eget_map (show ([3, 1, 1, 3, 1, 1] : List Int)[1]? = some _ from rfl) ?_
      refine sh ?_
      refine ICall.pure h.n161.o161.hb (names_c h.n161) rfl ?_
      refine sh ?_
      refine eget_map (show ([nmB, nmA, nmD, nmN, nmS, nmL] : List (List UInt8))[1]? = some _ from rfl) ?_
      refine sh ?_
      refine aelt_lit rfl ?_
      refine sh ?_
      refine ICall.pure h.n162.o162.hb (rpcheck_c h.n162 i.p1 nm_len.2.1) rfl ?_
      refine sh ?_
      refine cS (fun c1 => ?_) (fun c1 => ?_)
      · have e : ichk i = pchk i.p1 := by unfold ichk; rw [if_neg (fun hh => hh c0), if_pos c1]
        rw [planes, e, if_pos c1] at hq
        subst hq
        refine sh ?_
        exact rT
      · refine sh ?_
        refine ILoop.one 100 ?_
        refine sh ?_
        refine acnd_t (by decide) ?_
        refine sh ?_
        refine ICall.pure h.n160.o160.hb (deeps_c h.n160) rfl ?_
        refine sh ?_
        refine eget_map (show ([3, 1, 1, 3, 1, 1] : List Int)[2]? = some _ from rfl) ?_
        refine sh ?_
        refine ICall.pure h.n161.o161.hb (names_c h.n161) rfl ?_
        refine sh ?_
        refine eget_map (show ([nmB, nmA, nmD, nmN, nmS, nmL] : List (List UInt8))[2]? = some _ from rfl) ?_
        refine sh ?_
        refine aelt_lit rfl ?_
        refine sh ?_
        refine ICall.pure h.n162.o162.hb (rpcheck_c h.n162 i.p2 nm_len.2.2.1) rfl ?_
        refine sh ?_
        refine cS (fun c2 => ?_) (fun c2 => ?_)
        · have e : ichk i = pchk i.p2 := by unfold ichk; rw [if_neg (fun hh => hh c0), if_neg (fun hh => hh c1), if_pos c2]
          rw [planes, e, if_pos c2] at hq
          subst hq
          refine sh ?_
          exact rT
        · refine sh ?_
          refine ILoop.one 100 ?_
          refine sh ?_
          refine acnd_t (by decide) ?_
          refine sh ?_
          refine ICall.pure h.n160.o160.hb (deeps_c h.n160) rfl ?_
          refine sh ?_
          refine eget_map (show ([3, 1, 1, 3, 1, 1] : List Int)[3]? = some _ from rfl) ?_
          refine sh ?_
          refine ICall.pure h.n161.o161.hb (names_c h.n161) rfl ?_
          refine sh ?_
          refine eget_map (show ([nmB, nmA, nmD, nmN, nmS, nmL] : List (List UInt8))[3]? = some _ from rfl) ?_
          refine sh ?_
          refine aelt_lit rfl ?_
          refine sh ?_
          refine ICall.pure h.n162.o162.hb (rpcheck_c h.n162 i.p3 nm_len.2.2.2.1) rfl ?_
          refine sh ?_
          refine cS (fun c3 => ?_) (fun c3 => ?_)
          · have e : ichk i = pchk i.p3 := by unfold ichk; rw [if_neg (fun hh => hh c0), if_neg (fun hh => hh c1), if_neg (fun hh => hh c2), if_pos c3]
            rw [planes, e, if_pos c3] at hq
            subst hq
            refine sh ?_
            exact rT
          · refine sh ?_
            refine ILoop.one 100 ?_
            refine sh ?_
            refine acnd_t (by decide) ?_
            refine sh ?_
            refine ICall.pure h.n160.o160.hb (deeps_c h.n160) rfl ?_
            refine sh ?_
            refine eget_map (show ([3, 1, 1, 3, 1, 1] : List Int)[4]? = some _ from rfl) ?_
            refine sh ?_
            refine ICall.pure h.n161.o161.hb (names_c h.n161) rfl ?_
            refine sh ?_
            refine eget_map (show ([nmB, nmA, nmD, nmN, nmS, nmL] : List (List UInt8))[4]? = some _ from rfl) ?_
            refine sh ?_
            refine aelt_lit rfl ?_
            refine sh ?_
            refine ICall.pure h.n162.o162.hb (rpcheck_c h.n162 i.p4 nm_len.2.2.2.2.1) rfl ?_
            refine sh ?_
            refine cS (fun c4 => ?_) (fun c4 => ?_)
            · have e : ichk i = pchk i.p4 := by unfold ichk; rw [if_neg (fun hh => hh c0), if_neg (fun hh => hh c1), if_neg (fun hh => hh c2), if_neg (fun hh => hh c3), if_pos c4]
              rw [planes, e, if_pos c4] at hq
              subst hq
              refine sh ?_
              exact rT
            · refine sh ?_
              refine ILoop.one 100 ?_
              refine sh ?_
              refine acnd_t (by decide) ?_
              refine sh ?_
              refine ICall.pure h.n160.o160.hb (deeps_c h.n160) rfl ?_
              refine sh ?_
              refine eget_map (show ([3, 1, 1, 3, 1, 1] : List Int)[5]? = some _ from rfl) ?_
              refine sh ?_
              refine ICall.pure h.n161.o161.hb (names_c h.n161) rfl ?_
              refine sh ?_
              refine eget_map (show ([nmB, nmA, nmD, nmN, nmS, nmL] : List (List UInt8))[5]? = some _ from rfl) ?_
              refine sh ?_
              refine aelt_lit rfl ?_
              refine sh ?_
              refine ICall.pure h.n162.o162.hb (rpcheck_c h.n162 i.p5 nm_len.2.2.2.2.2) rfl ?_
              refine sh ?_
              refine cS (fun c5 => ?_) (fun c5 => ?_)
              · have e : ichk i = pchk i.p5 := by unfold ichk; rw [if_neg (fun hh => hh c0), if_neg (fun hh => hh c1), if_neg (fun hh => hh c2), if_neg (fun hh => hh c3), if_neg (fun hh => hh c4), if_pos c5]
                rw [planes, e, if_pos c5] at hq
                subst hq
                refine sh ?_
                exact rT
              · refine sh ?_
                refine ILoop.one 100 ?_
                refine sh ?_
                refine acnd_f (by decide) ?_
                rw [planes, if_neg (fun hh => hh (ichk_of ⟨c0, c1, c2, c3, c4, c5⟩))] at hq
                subst hq
                refine sh ?_
                exact rT
end Go.UM

namespace Go.UM
open Go.AM
set_option maxRecDepth 4000
def thr1 (l : List Int) (k : Nat) : T3 := ⟨l.getD (3 * k) 0, l.getD (3 * k + 1) 0, l.getD (3 * k + 2) 0⟩
def thrN (l : List Int) (n : Nat) : List T3 := (List.range n).map (thr1 l)
def thr (l : List Int) : List T3 := thrN l (l.length / 3)
theorem thrN_succ (l : List Int) (n : Nat) : thrN l (n + 1) = thrN l n ++ [thr1 l n] := by simp [thrN, List.range_succ]
@[simp] theorem thrN_len (l : List Int) (n : Nat) : (thrN l n).length = n := by simp [thrN]
theorem sub3 {l : List Int} {k : Nat} (h : 3 * k + 3 ≤ l.length) {a b : Int} (ha : a = 3 * k) (hb : b = 3 * k + 3) : List.drop a.toNat (List.take b.toNat (slcK .i64 l)) = slcK .i64 [(thr1 l k).a, (thr1 l k).b, (thr1 l k).c] := by
  subst ha; subst hb
  rw [show (3 * (k : Int)).toNat = 3 * k by omega, show (3 * (k : Int) + 3).toNat = 3 * k + 3 by omega, slcK_take, slcK_drop]
  congr 1
  apply List.ext_getElem
  · simp; omega
  · intro i hi hi'
    simp at hi hi'
    simp only [List.getElem_drop, List.getElem_take, thr1, List.getD_eq_getElem?_getD]
    rcases (show i = 0 ∨ i = 1 ∨ i = 2 by omega) with rfl | rfl | rfl
    · simp [List.getElem?_eq_getElem (show 3 * k < l.length by omega)]
    · simp [List.getElem?_eq_getElem (show 3 * k + 1 < l.length by omega)]
    · simp [List.getElem?_eq_getElem (show 3 * k + 2 < l.length by omega)]
theorem threes30_c {R : Env} (h : N384 R) (l : List Int) (hl : l.length ≤ 30000) : R.Pc 384 [.isl 1 (slcK .i64 l)] (.isl 3 (slc3 (thr l))) :=
  h.o384.enter 100 rfl fun X bb hfit hp => by
    have hlen : (slcK .i64 l).length = l.length := by simp
    unfold thr
    generalize hn : l.length / 3 = n
    refine sh ?_
    refine ILoop.one 100 ?_
    by_cases h0 : n = 0
    · subst h0
      refine sh ?_
      refine acnd_f (by simp; omega) ?_
      refine sh ?_
      exact rT
    · refine sh ?_
      refine acnd_t (by simp; omega) ?_
      refine sh ?_
      refine asub_eq (sub3 (l := l) (k := 0) (by omega) (by rfl) (by rfl)) ?_
      refine sh ?_
      refine asub_eq (ys := [.int .i64 (thr1 l 0).a, .int .i64 (thr1 l 0).b, .int .i64 (thr1 l 0).c]) rfl ?_
      refine sh ?_
      refine lPa 100 (fun k : Nat => 1 ≤ k ∧ k ≤ n) (fun k => ⟨[(0, .isl 1 (slcK .i64 l)), (3, .osl 1 k), (4, .int .i64 (3 * k))], [(1, .arr (R.ty 13) 3 (slc3 (thrN l k)))], 2⟩) (fun k => n - k) (1) ?_ ?_
      · omega
      · intro k hk
        dsimp only
        refine sh ?_
        refine cS (fun h2 => ?_) (fun h2 => ?_)
        · refine sh ?_
          refine asub_eq (sub3 (l := l) (k := k) (by omega) (by omega) (by omega)) ?_
          refine sh ?_
          refine asub_eq (ys := [.int .i64 (thr1 l k).a, .int .i64 (thr1 l k).b, .int .i64 (thr1 l k).c]) rfl ?_
          refine sh ?_
          refine nX (k + 1) ?_ ?_ ⟨_, hp, rfl⟩ ?_ ?_
          · omega
          · omega
          · all_goals repeat' (first | exact True.intro | refine And.intro ?_ ?_ | (intro _u; clear _u) | (with_reducible first | exact DnLe.fg | refine eM ?_ ?_ | refine eF ?_ ?_ ?_ | refine eN ?_ | refine eL ?_ ?_ ?_ | refine eA ?_ ?_ | refine IWk.mk ⟨_, hp, rfl⟩ ?_ ?_) | refine IWk.mk ⟨_, hp, rfl⟩ ?_ ?_)
            all_goals try first | with_reducible rfl | omega | exact .inl (by decide) | (simp; done) | rfl
          · all_goals repeat' (first | exact True.intro | refine And.intro ?_ ?_ | (intro _u; clear _u) | (with_reducible first | exact DnLe.fg | refine eM ?_ ?_ | refine eF ?_ ?_ ?_ | refine eN ?_ | refine eL ?_ ?_ ?_ | refine eA ?_ ?_ | refine IWk.mk ⟨_, hp, rfl⟩ ?_ ?_) | refine IWk.mk ⟨_, hp, rfl⟩ ?_ ?_)
            all_goals try first | with_reducible rfl | omega | exact .inl (by decide) | (simp; done) | rfl
            rw [thrN_succ]; simp [slc3, t3]
        · obtain rfl : k = n := by omega
          refine sh ?_
          exact rT
theorem rthrees30_c {R : Env} (h : N385 R) (l : List Int) (hl : l.length ≤ 30000) : R.Pc 385 [.isl 1 (slcK .i64 l)] (.isl 3 (slc3 (thr l))) :=
  h.o385.enter 100 rfl fun X bb hfit hp => by
    have hlen : (slcK .i64 l).length = l.length := by simp
    have get : ∀ i, i < l.length → l[i]? = some (l.getD i 0) := fun i hi => by simp [List.getD_eq_getElem?_getD, hi]
    unfold thr
    generalize hn : l.length / 3 = n
    refine sh ?_
    refine ILoop.one 100 ?_
    by_cases h0 : n = 0
    · subst h0
      refine sh ?_
      refine acnd_f (by simp; omega) ?_
      refine sh ?_
      exact rT
    · refine sh ?_
      refine acnd_t (by simp; omega) ?_
      refine sh ?_
      refine eget_map (get 0 (by omega)) ?_
      refine sh ?_
      refine eget_map (get 1 (by omega)) ?_
      refine sh ?_
      refine eget_map (get 2 (by omega)) ?_
      refine sh ?_
      refine lPa 100 (fun k : Nat => 1 ≤ k ∧ k ≤ n) (fun k => ⟨[(0, .isl 1 (slcK .i64 l)), (3, .osl 1 k), (4, .int .i64 (3 * k))], [(1, .arr (R.ty 13) 3 (slc3 (thrN l k)))], 2⟩) (fun k => n - k) (1) ?_ ?_
      · omega
      · intro k hk
        dsimp only
        refine sh ?_
        refine cS (fun h2 => ?_) (fun h2 => ?_)
        · refine sh ?_
          refine eget_map (show l[(3 * (k : Int)).toNat]? = some (l.getD (3 * k) 0) from by rw [show (3 * (k : Int)).toNat = 3 * k by omega]; exact get _ (by omega)) ?_
          refine sh ?_
          refine eget_map (show l[(3 * (k : Int) + 1).toNat]? = some (l.getD (3 * k + 1) 0) from by rw [show (3 * (k : Int) + 1).toNat = 3 * k + 1 by omega]; exact get _ (by omega)) ?_
          refine sh ?_
          refine eget_map (show l[(3 * (k : Int) + 2).toNat]? = some (l.getD (3 * k + 2) 0) from by rw [show (3 * (k : Int) + 2).toNat = 3 * k + 2 by omega]; exact get _ (by omega)) ?_
          refine sh ?_
          refine nX (k + 1) ?_ ?_ ⟨_, hp, rfl⟩ ?_ ?_
          · omega
          · omega
          · all_goals repeat' (first | exact True.intro | refine And.intro ?_ ?_ | (intro _u; clear _u) | (with_reducible first | exact DnLe.fg | refine eM ?_ ?_ | refine eF ?_ ?_ ?_ | refine eN ?_ | refine eL ?_ ?_ ?_ | refine eA ?_ ?_ | refine IWk.mk ⟨_, hp, rfl⟩ ?_ ?_) | refine IWk.mk ⟨_, hp, rfl⟩ ?_ ?_)
            all_goals try first | with_reducible rfl | omega | exact .inl (by decide) | (simp; done) | rfl
          · all_goals repeat' (first | exact True.intro | refine And.intro ?_ ?_ | (intro _u; clear _u) | (with_reducible first | exact DnLe.fg | refine eM ?_ ?_ | refine eF ?_ ?_ ?_ | refine eN ?_ | refine eL ?_ ?_ ?_ | refine eA ?_ ?_ | refine IWk.mk ⟨_, hp, rfl⟩ ?_ ?_) | refine IWk.mk ⟨_, hp, rfl⟩ ?_ ?_)
            all_goals try first | with_reducible rfl | omega | exact .inl (by decide) | (simp; done) | rfl
            rw [thrN_succ]; simp [slc3, t3, thr1]
        · obtain rfl : k = n := by omega
          refine sh ?_
          exact rT
end Go.UM

namespace Go.UM
open Go.AM
set_option maxRecDepth 4000
def h1 (p0 p : Pl) (nm : List UInt8) (d : Int) : Bool := p.name == nm && p.deep == d && p.w == p0.w && p.h == p0.h
def heads (p0 p1 p2 p3 p4 p5 : Pl) : Bool := h1 p0 p0 nmB 3 && h1 p0 p1 nmA 1 && h1 p0 p2 nmD 1 && h1 p0 p3 nmN 3 && h1 p0 p4 nmS 1 && h1 p0 p5 nmL 1
def pimg6 (p0 p1 p2 p3 p4 p5 : Pl) : Im × Int :=
  if heads p0 p1 p2 p3 p4 p5 = false then (zIm, 5)
  else if pchk p0 ≠ 0 then (zIm, pchk p0) else if pchk p1 ≠ 0 then (zIm, pchk p1) else if pchk p2 ≠ 0 then (zIm, pchk p2)
  else if pchk p3 ≠ 0 then (zIm, pchk p3) else if pchk p4 ≠ 0 then (zIm, pchk p4) else if pchk p5 ≠ 0 then (zIm, pchk p5)
  else (⟨p0.w, p0.h, thr p0.data, p1.data, p2.data, thr p3.data, p4.data, p5.data⟩, 0)
def pimg : List Pl → Im × Int
  | [p0, p1, p2, p3, p4, p5] => pimg6 p0 p1 p2 p3 p4 p5
  | _ => (zIm, 5)
theorem pimg_len {l : List Pl} (h : l.length ≠ 6) : pimg l = (zIm, 5) := by
  match l, h with
  | [], _ => rfl
  | [_], _ => rfl
  | [_, _], _ => rfl
  | [_, _, _], _ => rfl
  | [_, _, _, _], _ => rfl
  | [_, _, _, _, _], _ => rfl
  | [_, _, _, _, _, _], h => exact absurd rfl h
  | _ :: _ :: _ :: _ :: _ :: _ :: _ :: _, _ => rfl
theorem six {l : List Pl} (h : l.length = 6) : ∃ p0 p1 p2 p3 p4 p5, l = [p0, p1, p2, p3, p4, p5] := by
  match l, h with
  | [p0, p1, p2, p3, p4, p5], _ => exact ⟨p0, p1, p2, p3, p4, p5, rfl⟩
structure SmP (p : Pl) : Prop where
  n : p.name.length ≤ 1000
  d : p.data.length ≤ 30000
theorem copied_c {R : Env} (h : N383 R) (l : List Pl) (k : Nat) (p : Pl) (hk : l[k]? = some p) (hs : SmP p) :
    R.Mc 383 [.int .i64 k, .loc 0 1 0 0] [(0, .var (R.ty 50) [.isl 5 (slP l)])] (.osl 1 p.data.length) [(0, .var (R.ty 50) [.isl 5 (slP l)]), (1, .arr (R.ty 10) 1 (slcK .i64 p.data))] 2 :=
  h.o383.enterM 60 1 rfl rfl rfl fun X bb hfit hp => by
    have hl : k < l.length := (List.getElem?_eq_some_iff.1 hk).1
    have h1 := hs.d
    refine sh ?_
    refine eget_map hk ?_
    refine sh ?_
    exact rM [0, 1]
set_option maxHeartbeats 4000000 in
theorem pimg_c {R : Env} (h : N369 R) (l : List Pl) (hl : l.length ≤ 100) (hs : ∀ p ∈ l, SmP p) : R.Pc 369 [.isl 5 (slP l)] (.tup [.agg (pimg l).1.row, .int .i64 (pimg l).2]) :=
  h.o369.enter 100 rfl fun X bb hfit hp => by
    refine sh ?_
    refine ICall.pure h.n152.o152.hb (kinds_c h.n152) rfl ?_
    have e6 : (slP l).length = l.length := by simp [slP]
    refine sh ?_
    refine cS (fun hn => ?_) (fun hn => ?_)
    · rw [pimg_len (by omega)]
      refine sh ?_
      exact rT
    · obtain ⟨p0, p1, p2, p3, p4, p5, rfl⟩ := six (l := l) (by omega)
      clear e6 hn hl
      have s0 := hs p0 (by simp)
      have s1 := hs p1 (by simp)
      have s2 := hs p2 (by simp)
      have s3 := hs p3 (by simp)
      have s4 := hs p4 (by simp)
      have s5 := hs p5 (by simp)
      have hq : ∃ q, pimg [p0, p1, p2, p3, p4, p5] = q := ⟨_, rfl⟩
      obtain ⟨q, hq⟩ := hq
      rw [hq]
      refine sh ?_
      refine ILoop.one 100 ?_
      refine sh ?_
      refine acnd_t (by rfl) ?_
      refine sh ?_
      refine eget_map (show ([p0, p1, p2, p3, p4, p5] : List Pl)[0]? = some p0 from rfl) ?_
      refine sh ?_
      refine cS (fun a0 => ?_) (fun a0 => ?_)
      · rw [show pimg [p0, p1, p2, p3, p4, p5] = (zIm, 5) from if_pos (by simp [heads, h1, a0])] at hq
        subst hq
        refine sh ?_
        exact rT
      · refine sh ?_
        refine cS (fun b0 => ?_) (fun b0 => ?_)
        · rw [show pimg [p0, p1, p2, p3, p4, p5] = (zIm, 5) from if_pos (by simp [heads, h1, b0])] at hq
          subst hq
          refine sh ?_
          exact rT
        · refine sh ?_
          refine eget_map (show ([p0, p1, p2, p3, p4, p5] : List Pl)[0]? = some p0 from rfl) ?_
          refine sh ?_
          refine acnd_f (by simp) ?_
          refine sh ?_
          refine eget_map (show ([p0, p1, p2, p3, p4, p5] : List Pl)[0]? = some p0 from rfl) ?_
          refine sh ?_
          refine acnd_f (by simp) ?_
          refine sh ?_
          refine ILoop.one 100 ?_
          refine sh ?_
          refine acnd_t (by rfl) ?_
          refine sh ?_
          refine eget_map (show ([p0, p1, p2, p3, p4, p5] : List Pl)[1]? = some p1 from rfl) ?_
          refine sh ?_
          refine cS (fun a1 => ?_) (fun a1 => ?_)
          · rw [show pimg [p0, p1, p2, p3, p4, p5] = (zIm, 5) from if_pos (by simp [heads, h1, a1])] at hq
            subst hq
            refine sh ?_
            exact rT
          · refine sh ?_
            refine cS (fun b1 => ?_) (fun b1 => ?_)
            · rw [show pimg [p0, p1, p2, p3, p4, p5] = (zIm, 5) from if_pos (by simp [heads, h1, b1])] at hq
              subst hq
              refine sh ?_
              exact rT
            · refine sh ?_
              refine eget_map (show ([p0, p1, p2, p3, p4, p5] : List Pl)[0]? = some p0 from rfl) ?_
              refine sh ?_
              refine cS (fun c1 => ?_) (fun c1 => ?_)
              · rw [show pimg [p0, p1, p2, p3, p4, p5] = (zIm, 5) from if_pos (by simp [heads, h1, c1])] at hq
                subst hq
                refine sh ?_
                exact rT
              · refine sh ?_
                refine eget_map (show ([p0, p1, p2, p3, p4, p5] : List Pl)[0]? = some p0 from rfl) ?_
                refine sh ?_
                refine cS (fun d1 => ?_) (fun d1 => ?_)
                · rw [show pimg [p0, p1, p2, p3, p4, p5] = (zIm, 5) from if_pos (by simp [heads, h1, d1])] at hq
                  subst hq
                  refine sh ?_
                  exact rT
                · skip
                  refine sh ?_
                  refine ILoop.one 100 ?_
                  refine sh ?_
                  refine acnd_t (by rfl) ?_
                  refine sh ?_
                  refine eget_map (show ([p0, p1, p2, p3, p4, p5] : List Pl)[2]? = some p2 from rfl) ?_
                  refine sh ?_
                  refine cS (fun a2 => ?_) (fun a2 => ?_)
                  · rw [show pimg [p0, p1, p2, p3, p4, p5] = (zIm, 5) from if_pos (by simp [heads, h1, a2])] at hq
                    subst hq
                    refine sh ?_
                    exact rT
                  · refine sh ?_
                    refine cS (fun b2 => ?_) (fun b2 => ?_)
                    · rw [show pimg [p0, p1, p2, p3, p4, p5] = (zIm, 5) from if_pos (by simp [heads, h1, b2])] at hq
                      subst hq
                      refine sh ?_
                      exact rT
                    · refine sh ?_
                      refine eget_map (show ([p0, p1, p2, p3, p4, p5] : List Pl)[0]? = some p0 from rfl) ?_
                      refine sh ?_
                      refine cS (fun c2 => ?_) (fun c2 => ?_)
                      · rw [show pimg [p0, p1, p2, p3, p4, p5] = (zIm, 5) from if_pos (by simp [heads, h1, c2])] at hq
                        subst hq
                        refine sh ?_
                        exact rT
                      · refine sh ?_
                        refine eget_map (show ([p0, p1, p2, p3, p4, p5] : List Pl)[0]? = some p0 from rfl) ?_
                        refine sh ?_
                        refine cS (fun d2 => ?_) (fun d2 => ?_)
                        · rw [show pimg [p0, p1, p2, p3, p4, p5] = (zIm, 5) from if_pos (by simp [heads, h1, d2])] at hq
                          subst hq
                          refine sh ?_
                          exact rT
                        · skip
                          refine sh ?_
                          refine ILoop.one 100 ?_
                          refine sh ?_
                          refine acnd_t (by rfl) ?_
                          refine sh ?_
                          refine eget_map (show ([p0, p1, p2, p3, p4, p5] : List Pl)[3]? = some p3 from rfl) ?_
                          refine sh ?_
                          refine cS (fun a3 => ?_) (fun a3 => ?_)
                          · rw [show pimg [p0, p1, p2, p3, p4, p5] = (zIm, 5) from if_pos (by simp [heads, h1, a3])] at hq
                            subst hq
                            refine sh ?_
                            exact rT
                          · refine sh ?_
                            refine cS (fun b3 => ?_) (fun b3 => ?_)
                            · rw [show pimg [p0, p1, p2, p3, p4, p5] = (zIm, 5) from if_pos (by simp [heads, h1, b3])] at hq
                              subst hq
                              refine sh ?_
                              exact rT
                            · refine sh ?_
                              refine eget_map (show ([p0, p1, p2, p3, p4, p5] : List Pl)[0]? = some p0 from rfl) ?_
                              refine sh ?_
                              refine cS (fun c3 => ?_) (fun c3 => ?_)
                              · rw [show pimg [p0, p1, p2, p3, p4, p5] = (zIm, 5) from if_pos (by simp [heads, h1, c3])] at hq
                                subst hq
                                refine sh ?_
                                exact rT
                              · refine sh ?_
                                refine eget_map (show ([p0, p1, p2, p3, p4, p5] : List Pl)[0]? = some p0 from rfl) ?_
                                refine sh ?_
                                refine cS (fun d3 => ?_) (fun d3 => ?_)
                                · rw [show pimg [p0, p1, p2, p3, p4, p5] = (zIm, 5) from if_pos (by simp [heads, h1, d3])] at hq
                                  subst hq
                                  refine sh ?_
                                  exact rT
                                · skip
                                  refine sh ?_
                                  refine ILoop.one 100 ?_
                                  refine sh ?_
                                  refine acnd_t (by rfl) ?_
                                  refine sh ?_
                                  refine eget_map (show ([p0, p1, p2, p3, p4, p5] : List Pl)[4]? = some p4 from rfl) ?_
                                  refine sh ?_
                                  refine cS (fun a4 => ?_) (fun a4 => ?_)
                                  · rw [show pimg [p0, p1, p2, p3, p4, p5] = (zIm, 5) from if_pos (by simp [heads, h1, a4])] at hq
                                    subst hq
                                    refine sh ?_
                                    exact rT
                                  · refine sh ?_
                                    refine cS (fun b4 => ?_) (fun b4 => ?_)
                                    · rw [show pimg [p0, p1, p2, p3, p4, p5] = (zIm, 5) from if_pos (by simp [heads, h1, b4])] at hq
                                      subst hq
                                      refine sh ?_
                                      exact rT
                                    · refine sh ?_
                                      refine eget_map (show ([p0, p1, p2, p3, p4, p5] : List Pl)[0]? = some p0 from rfl) ?_
                                      refine sh ?_
                                      refine cS (fun c4 => ?_) (fun c4 => ?_)
                                      · rw [show pimg [p0, p1, p2, p3, p4, p5] = (zIm, 5) from if_pos (by simp [heads, h1, c4])] at hq
                                        subst hq
                                        refine sh ?_
                                        exact rT
                                      · refine sh ?_
                                        refine eget_map (show ([p0, p1, p2, p3, p4, p5] : List Pl)[0]? = some p0 from rfl) ?_
                                        refine sh ?_
                                        refine cS (fun d4 => ?_) (fun d4 => ?_)
                                        · rw [show pimg [p0, p1, p2, p3, p4, p5] = (zIm, 5) from if_pos (by simp [heads, h1, d4])] at hq
                                          subst hq
                                          refine sh ?_
                                          exact rT
                                        · skip
                                          refine sh ?_
                                          refine ILoop.one 100 ?_
                                          refine sh ?_
                                          refine acnd_t (by rfl) ?_
                                          refine sh ?_
                                          refine eget_map (show ([p0, p1, p2, p3, p4, p5] : List Pl)[5]? = some p5 from rfl) ?_
                                          refine sh ?_
                                          refine cS (fun a5 => ?_) (fun a5 => ?_)
                                          · rw [show pimg [p0, p1, p2, p3, p4, p5] = (zIm, 5) from if_pos (by simp [heads, h1, a5])] at hq
                                            subst hq
                                            refine sh ?_
                                            exact rT
                                          · refine sh ?_
                                            refine cS (fun b5 => ?_) (fun b5 => ?_)
                                            · rw [show pimg [p0, p1, p2, p3, p4, p5] = (zIm, 5) from if_pos (by simp [heads, h1, b5])] at hq
                                              subst hq
                                              refine sh ?_
                                              exact rT
                                            · refine sh ?_
                                              refine eget_map (show ([p0, p1, p2, p3, p4, p5] : List Pl)[0]? = some p0 from rfl) ?_
                                              refine sh ?_
                                              refine cS (fun c5 => ?_) (fun c5 => ?_)
                                              · rw [show pimg [p0, p1, p2, p3, p4, p5] = (zIm, 5) from if_pos (by simp [heads, h1, c5])] at hq
                                                subst hq
                                                refine sh ?_
                                                exact rT
                                              · refine sh ?_
                                                refine eget_map (show ([p0, p1, p2, p3, p4, p5] : List Pl)[0]? = some p0 from rfl) ?_
                                                refine sh ?_
                                                refine cS (fun d5 => ?_) (fun d5 => ?_)
                                                · rw [show pimg [p0, p1, p2, p3, p4, p5] = (zIm, 5) from if_pos (by simp [heads, h1, d5])] at hq
                                                  subst hq
                                                  refine sh ?_
                                                  exact rT
                                                · skip
                                                  refine sh ?_
                                                  refine ILoop.one 100 ?_
                                                  refine sh ?_
                                                  refine acnd_f (by rfl) ?_
                                                  have hh : heads p0 p1 p2 p3 p4 p5 = true := by simp [heads, h1, a0, b0, a1, b1, c1, d1, a2, b2, c2, d2, a3, b3, c3, d3, a4, b4, c4, d4, a5, b5, c5, d5]
                                                  replace hq : pimg6 p0 p1 p2 p3 p4 p5 = q := hq
                                                  rw [pimg6, if_neg (by simp [hh])] at hq
                                                  refine sh ?_
                                                  refine ILoop.one 100 ?_
                                                  refine sh ?_
                                                  refine acnd_t (by rfl) ?_
                                                  refine sh ?_
                                                  refine eget_map (show ([p0, p1, p2, p3, p4, p5] : List Pl)[0]? = some p0 from rfl) ?_
                                                  refine sh ?_
                                                  refine ICall.pure h.n153.o153.hb (pcheck_c h.n153 p0 (by have := s0.n; omega)) rfl ?_
                                                  refine sh ?_
                                                  refine cS (fun e0 => ?_) (fun e0 => ?_)
                                                  · rw [if_pos e0] at hq
                                                    subst hq
                                                    refine sh ?_
                                                    exact rT
                                                  · skip
                                                    refine sh ?_
                                                    refine ILoop.one 100 ?_
                                                    refine sh ?_
                                                    refine acnd_t (by rfl) ?_
                                                    refine sh ?_
                                                    refine eget_map (show ([p0, p1, p2, p3, p4, p5] : List Pl)[1]? = some p1 from rfl) ?_
                                                    refine sh ?_
                                                    refine ICall.pure h.n153.o153.hb (pcheck_c h.n153 p1 (by have := s1.n; omega)) rfl ?_
                                                    refine sh ?_
                                                    refine cS (fun e1 => ?_) (fun e1 => ?_)
                                                    · rw [if_neg (fun hh => hh e0), if_pos e1] at hq
                                                      subst hq
                                                      refine sh ?_
                                                      exact rT
                                                    · skip
                                                      refine sh ?_
                                                      refine ILoop.one 100 ?_
                                                      refine sh ?_
                                                      refine acnd_t (by rfl) ?_
                                                      refine sh ?_
                                                      refine eget_map (show ([p0, p1, p2, p3, p4, p5] : List Pl)[2]? = some p2 from rfl) ?_
                                                      refine sh ?_
                                                      refine ICall.pure h.n153.o153.hb (pcheck_c h.n153 p2 (by have := s2.n; omega)) rfl ?_
                                                      refine sh ?_
                                                      refine cS (fun e2 => ?_) (fun e2 => ?_)
                                                      · rw [if_neg (fun hh => hh e0), if_neg (fun hh => hh e1), if_pos e2] at hq
                                                        subst hq
                                                        refine sh ?_
                                                        exact rT
                                                      · skip
                                                        refine sh ?_
                                                        refine ILoop.one 100 ?_
                                                        refine sh ?_
                                                        refine acnd_t (by rfl) ?_
                                                        refine sh ?_
                                                        refine eget_map (show ([p0, p1, p2, p3, p4, p5] : List Pl)[3]? = some p3 from rfl) ?_
                                                        refine sh ?_
                                                        refine ICall.pure h.n153.o153.hb (pcheck_c h.n153 p3 (by have := s3.n; omega)) rfl ?_
                                                        refine sh ?_
                                                        refine cS (fun e3 => ?_) (fun e3 => ?_)
                                                        · rw [if_neg (fun hh => hh e0), if_neg (fun hh => hh e1), if_neg (fun hh => hh e2), if_pos e3] at hq
                                                          subst hq
                                                          refine sh ?_
                                                          exact rT
                                                        · skip
                                                          refine sh ?_
                                                          refine ILoop.one 100 ?_
                                                          refine sh ?_
                                                          refine acnd_t (by rfl) ?_
                                                          refine sh ?_
                                                          refine eget_map (show ([p0, p1, p2, p3, p4, p5] : List Pl)[4]? = some p4 from rfl) ?_
                                                          refine sh ?_
                                                          refine ICall.pure h.n153.o153.hb (pcheck_c h.n153 p4 (by have := s4.n; omega)) rfl ?_
                                                          refine sh ?_
                                                          refine cS (fun e4 => ?_) (fun e4 => ?_)
                                                          · rw [if_neg (fun hh => hh e0), if_neg (fun hh => hh e1), if_neg (fun hh => hh e2), if_neg (fun hh => hh e3), if_pos e4] at hq
                                                            subst hq
                                                            refine sh ?_
                                                            exact rT
                                                          · skip
                                                            refine sh ?_
                                                            refine ILoop.one 100 ?_
                                                            refine sh ?_
                                                            refine acnd_t (by rfl) ?_
                                                            refine sh ?_
                                                            refine eget_map (show ([p0, p1, p2, p3, p4, p5] : List Pl)[5]? = some p5 from rfl) ?_
                                                            refine sh ?_
                                                            refine ICall.pure h.n153.o153.hb (pcheck_c h.n153 p5 (by have := s5.n; omega)) rfl ?_
                                                            refine sh ?_
                                                            refine cS (fun e5 => ?_) (fun e5 => ?_)
                                                            · rw [if_neg (fun hh => hh e0), if_neg (fun hh => hh e1), if_neg (fun hh => hh e2), if_neg (fun hh => hh e3), if_neg (fun hh => hh e4), if_pos e5] at hq
                                                              subst hq
                                                              refine sh ?_
                                                              exact rT
                                                            · skip
                                                              refine sh ?_
                                                              refine ILoop.one 100 ?_
                                                              refine sh ?_
                                                              refine acnd_f (by rfl) ?_
                                                              rw [if_neg (fun hh => hh e0), if_neg (fun hh => hh e1), if_neg (fun hh => hh e2), if_neg (fun hh => hh e3), if_neg (fun hh => hh e4), if_neg (fun hh => hh e5)] at hq
                                                              subst hq
                                                              refine sh ?_
                                                              refine eget_map (show ([p0, p1, p2, p3, p4, p5] : List Pl)[0]? = some p0 from rfl) ?_
                                                              refine sh ?_
                                                              refine eget_map (show ([p0, p1, p2, p3, p4, p5] : List Pl)[0]? = some p0 from rfl) ?_
                                                              refine sh ?_
                                                              refine eget_map (show ([p0, p1, p2, p3, p4, p5] : List Pl)[0]? = some p0 from rfl) ?_
                                                              refine sh ?_
                                                              refine ICall.pure h.n384.o384.hb (threes30_c h.n384 p0.data s0.d) rfl ?_
                                                              refine sh ?_
                                                              refine cR false [0] (copied_c h.n383 [p0, p1, p2, p3, p4, p5] 1 p1 (show ([p0, p1, p2, p3, p4, p5] : List Pl)[1]? = some p1 from rfl) s1) ?_
                                                              repeat (intro _; first | refine eK ?_ | refine eP ?_)
                                                              first | refine ⟨⟨[], rfl, rfl⟩, ?_⟩ | refine ⟨⟨[_], rfl, rfl⟩, ?_⟩ | refine ⟨⟨[_, _], rfl, rfl⟩, ?_⟩
                                                              refine sh ?_
                                                              refine cR false [0] (copied_c h.n383 [p0, p1, p2, p3, p4, p5] 2 p2 (show ([p0, p1, p2, p3, p4, p5] : List Pl)[2]? = some p2 from rfl) s2) ?_
                                                              repeat (intro _; first | refine eK ?_ | refine eP ?_)
                                                              first | refine ⟨⟨[], rfl, rfl⟩, ?_⟩ | refine ⟨⟨[_], rfl, rfl⟩, ?_⟩ | refine ⟨⟨[_, _], rfl, rfl⟩, ?_⟩
                                                              refine sh ?_
                                                              refine eget_map (show ([p0, p1, p2, p3, p4, p5] : List Pl)[3]? = some p3 from rfl) ?_
                                                              refine sh ?_
                                                              refine ICall.pure h.n384.o384.hb (threes30_c h.n384 p3.data s3.d) rfl ?_
                                                              refine sh ?_
                                                              refine cR false [0] (copied_c h.n383 [p0, p1, p2, p3, p4, p5] 4 p4 (show ([p0, p1, p2, p3, p4, p5] : List Pl)[4]? = some p4 from rfl) s4) ?_
                                                              repeat (intro _; first | refine eK ?_ | refine eP ?_)
                                                              first | refine ⟨⟨[], rfl, rfl⟩, ?_⟩ | refine ⟨⟨[_], rfl, rfl⟩, ?_⟩ | refine ⟨⟨[_, _], rfl, rfl⟩, ?_⟩
                                                              refine sh ?_
                                                              refine cR false [0] (copied_c h.n383 [p0, p1, p2, p3, p4, p5] 5 p5 (show ([p0, p1, p2, p3, p4, p5] : List Pl)[5]? = some p5 from rfl) s5) ?_
                                                              repeat (intro _; first | refine eK ?_ | refine eP ?_)
                                                              first | refine ⟨⟨[], rfl, rfl⟩, ?_⟩ | refine ⟨⟨[_], rfl, rfl⟩, ?_⟩ | refine ⟨⟨[_, _], rfl, rfl⟩, ?_⟩
                                                              refine sh ?_
                                                              exact rT
set_option maxHeartbeats 4000000 in
theorem rpimg_c {R : Env} (h : N370 R) (l : List Pl) (hl : l.length ≤ 100) (hs : ∀ p ∈ l, SmP p) : R.Pc 370 [.isl 5 (slP l)] (.tup [.agg (pimg l).1.row, .int .i64 (pimg l).2]) :=
  h.o370.enter 100 rfl fun X bb hfit hp => by
    have e6 : (slP l).length = l.length := by simp [slP]
    refine sh ?_
    refine cS (fun hn => ?_) (fun hn => ?_)
    · rw [pimg_len (by omega)]
      refine sh ?_
      exact rT
    · obtain ⟨p0, p1, p2, p3, p4, p5, rfl⟩ := six (l := l) (by omega)
      clear e6 hn hl
      have s0 := hs p0 (by simp)
      have s1 := hs p1 (by simp)
      have s2 := hs p2 (by simp)
      have s3 := hs p3 (by simp)
      have s4 := hs p4 (by simp)
      have s5 := hs p5 (by simp)
      have hq : ∃ q, pimg [p0, p1, p2, p3, p4, p5] = q := ⟨_, rfl⟩
      obtain ⟨q, hq⟩ := hq
      rw [hq]
      refine sh ?_
      refine ILoop.one 100 ?_
      refine sh ?_
      refine acnd_t (by decide) ?_
      refine sh ?_
      refine eget_map (show ([p0, p1, p2, p3, p4, p5] : List Pl)[0]? = some p0 from rfl) ?_
      refine sh ?_
      refine ICall.pure h.n161.o161.hb (names_c h.n161) rfl ?_
      refine sh ?_
      refine eget_map (show ([nmB, nmA, nmD, nmN, nmS, nmL] : List (List UInt8))[0]? = some _ from rfl) ?_
      refine sh ?_
      refine cS (fun a0 => ?_) (fun a0 => ?_)
      · rw [show pimg [p0, p1, p2, p3, p4, p5] = (zIm, 5) from if_pos (by simp [heads, h1, a0])] at hq
        subst hq
        refine sh ?_
        exact rT
      · refine sh ?_
        refine eget_map (show ([p0, p1, p2, p3, p4, p5] : List Pl)[0]? = some p0 from rfl) ?_
        refine sh ?_
        refine ICall.pure h.n160.o160.hb (deeps_c h.n160) rfl ?_
        refine sh ?_
        refine eget_map (show ([3, 1, 1, 3, 1, 1] : List Int)[0]? = some _ from rfl) ?_
        refine sh ?_
        refine cS (fun b0 => ?_) (fun b0 => ?_)
        · rw [show pimg [p0, p1, p2, p3, p4, p5] = (zIm, 5) from if_pos (by simp [heads, h1, b0])] at hq
          subst hq
          refine sh ?_
          exact rT
        · refine sh ?_
          refine eget_map (show ([p0, p1, p2, p3, p4, p5] : List Pl)[0]? = some p0 from rfl) ?_
          refine sh ?_
          refine eget_map (show ([p0, p1, p2, p3, p4, p5] : List Pl)[0]? = some p0 from rfl) ?_
          refine sh ?_
          refine acnd_f (by simp) ?_
          refine sh ?_
          refine eget_map (show ([p0, p1, p2, p3, p4, p5] : List Pl)[0]? = some p0 from rfl) ?_
          refine sh ?_
          refine eget_map (show ([p0, p1, p2, p3, p4, p5] : List Pl)[0]? = some p0 from rfl) ?_
          refine sh ?_
          refine acnd_f (by simp) ?_
          refine sh ?_
          refine ILoop.one 100 ?_
          refine sh ?_
          refine acnd_t (by decide) ?_
          refine sh ?_
          refine eget_map (show ([p0, p1, p2, p3, p4, p5] : List Pl)[1]? = some p1 from rfl) ?_
          refine sh ?_
          refine ICall.pure h.n161.o161.hb (names_c h.n161) rfl ?_
          refine sh ?_
          refine eget_map (show ([nmB, nmA, nmD, nmN, nmS, nmL] : List (List UInt8))[1]? = some _ from rfl) ?_
          refine sh ?_
          refine cS (fun a1 => ?_) (fun a1 => ?_)
          · rw [show pimg [p0, p1, p2, p3, p4, p5] = (zIm, 5) from if_pos (by simp [heads, h1, a1])] at hq
            subst hq
            refine sh ?_
            exact rT
          · refine sh ?_
            refine eget_map (show ([p0, p1, p2, p3, p4, p5] : List Pl)[1]? = some p1 from rfl) ?_
            refine sh ?_
            refine ICall.pure h.n160.o160.hb (deeps_c h.n160) rfl ?_
            refine sh ?_
            refine eget_map (show ([3, 1, 1, 3, 1, 1] : List Int)[1]? = some _ from rfl) ?_
            refine sh ?_
            refine cS (fun b1 => ?_) (fun b1 => ?_)
            · rw [show pimg [p0, p1, p2, p3, p4, p5] = (zIm, 5) from if_pos (by simp [heads, h1, b1])] at hq
              subst hq
              refine sh ?_
              exact rT
            · refine sh ?_
              refine eget_map (show ([p0, p1, p2, p3, p4, p5] : List Pl)[1]? = some p1 from rfl) ?_
              refine sh ?_
              refine eget_map (show ([p0, p1, p2, p3, p4, p5] : List Pl)[0]? = some p0 from rfl) ?_
              refine sh ?_
              refine cS (fun c1 => ?_) (fun c1 => ?_)
              · rw [show pimg [p0, p1, p2, p3, p4, p5] = (zIm, 5) from if_pos (by simp [heads, h1, c1])] at hq
                subst hq
                refine sh ?_
                exact rT
              · refine sh ?_
                refine eget_map (show ([p0, p1, p2, p3, p4, p5] : List Pl)[1]? = some p1 from rfl) ?_
                refine sh ?_
                refine eget_map (show ([p0, p1, p2, p3, p4, p5] : List Pl)[0]? = some p0 from rfl) ?_
                refine sh ?_
                refine cS (fun d1 => ?_) (fun d1 => ?_)
                · rw [show pimg [p0, p1, p2, p3, p4, p5] = (zIm, 5) from if_pos (by simp [heads, h1, d1])] at hq
                  subst hq
                  refine sh ?_
                  exact rT
                · skip
                  refine sh ?_
                  refine ILoop.one 100 ?_
                  refine sh ?_
                  refine acnd_t (by decide) ?_
                  refine sh ?_
                  refine eget_map (show ([p0, p1, p2, p3, p4, p5] : List Pl)[2]? = some p2 from rfl) ?_
                  refine sh ?_
                  refine ICall.pure h.n161.o161.hb (names_c h.n161) rfl ?_
                  refine sh ?_
                  refine eget_map (show ([nmB, nmA, nmD, nmN, nmS, nmL] : List (List UInt8))[2]? = some _ from rfl) ?_
                  refine sh ?_
                  refine cS (fun a2 => ?_) (fun a2 => ?_)
                  · rw [show pimg [p0, p1, p2, p3, p4, p5] = (zIm, 5) from if_pos (by simp [heads, h1, a2])] at hq
                    subst hq
                    refine sh ?_
                    exact rT
                  · refine sh ?_
                    refine eget_map (show ([p0, p1, p2, p3, p4, p5] : List Pl)[2]? = some p2 from rfl) ?_
                    refine sh ?_
                    refine ICall.pure h.n160.o160.hb (deeps_c h.n160) rfl ?_
                    refine sh ?_
                    refine eget_map (show ([3, 1, 1, 3, 1, 1] : List Int)[2]? = some _ from rfl) ?_
                    refine sh ?_
                    refine cS (fun b2 => ?_) (fun b2 => ?_)
                    · rw [show pimg [p0, p1, p2, p3, p4, p5] = (zIm, 5) from if_pos (by simp [heads, h1, b2])] at hq
                      subst hq
                      refine sh ?_
                      exact rT
                    · refine sh ?_
                      refine eget_map (show ([p0, p1, p2, p3, p4, p5] : List Pl)[2]? = some p2 from rfl) ?_
                      refine sh ?_
                      refine eget_map (show ([p0, p1, p2, p3, p4, p5] : List Pl)[0]? = some p0 from rfl) ?_
                      refine sh ?_
                      refine cS (fun c2 => ?_) (fun c2 => ?_)
                      · rw [show pimg [p0, p1, p2, p3, p4, p5] = (zIm, 5) from if_pos (by simp [heads, h1, c2])] at hq
                        subst hq
                        refine sh ?_
                        exact rT
                      · refine sh ?_
                        refine eget_map (show ([p0, p1, p2, p3, p4, p5] : List Pl)[2]? = some p2 from rfl) ?_
                        refine sh ?_
                        refine eget_map (show ([p0, p1, p2, p3, p4, p5] : List Pl)[0]? = some p0 from rfl) ?_
                        refine sh ?_
                        refine cS (fun d2 => ?_) (fun d2 => ?_)
                        · rw [show pimg [p0, p1, p2, p3, p4, p5] = (zIm, 5) from if_pos (by simp [heads, h1, d2])] at hq
                          subst hq
                          refine sh ?_
                          exact rT
                        · skip
                          refine sh ?_
                          refine ILoop.one 100 ?_
                          refine sh ?_
                          refine acnd_t (by decide) ?_
                          refine sh ?_
                          refine eget_map (show ([p0, p1, p2, p3, p4, p5] : List Pl)[3]? = some p3 from rfl) ?_
                          refine sh ?_
                          refine ICall.pure h.n161.o161.hb (names_c h.n161) rfl ?_
                          refine sh ?_
                          refine eget_map (show ([nmB, nmA, nmD, nmN, nmS, nmL] : List (List UInt8))[3]? = some _ from rfl) ?_
                          refine sh ?_
                          refine cS (fun a3 => ?_) (fun a3 => ?_)
                          · rw [show pimg [p0, p1, p2, p3, p4, p5] = (zIm, 5) from if_pos (by simp [heads, h1, a3])] at hq
                            subst hq
                            refine sh ?_
                            exact rT
                          · refine sh ?_
                            refine eget_map (show ([p0, p1, p2, p3, p4, p5] : List Pl)[3]? = some p3 from rfl) ?_
                            refine sh ?_
                            refine ICall.pure h.n160.o160.hb (deeps_c h.n160) rfl ?_
                            refine sh ?_
                            refine eget_map (show ([3, 1, 1, 3, 1, 1] : List Int)[3]? = some _ from rfl) ?_
                            refine sh ?_
                            refine cS (fun b3 => ?_) (fun b3 => ?_)
                            · rw [show pimg [p0, p1, p2, p3, p4, p5] = (zIm, 5) from if_pos (by simp [heads, h1, b3])] at hq
                              subst hq
                              refine sh ?_
                              exact rT
                            · refine sh ?_
                              refine eget_map (show ([p0, p1, p2, p3, p4, p5] : List Pl)[3]? = some p3 from rfl) ?_
                              refine sh ?_
                              refine eget_map (show ([p0, p1, p2, p3, p4, p5] : List Pl)[0]? = some p0 from rfl) ?_
                              refine sh ?_
                              refine cS (fun c3 => ?_) (fun c3 => ?_)
                              · rw [show pimg [p0, p1, p2, p3, p4, p5] = (zIm, 5) from if_pos (by simp [heads, h1, c3])] at hq
                                subst hq
                                refine sh ?_
                                exact rT
                              · refine sh ?_
                                refine eget_map (show ([p0, p1, p2, p3, p4, p5] : List Pl)[3]? = some p3 from rfl) ?_
                                refine sh ?_
                                refine eget_map (show ([p0, p1, p2, p3, p4, p5] : List Pl)[0]? = some p0 from rfl) ?_
                                refine sh ?_
                                refine cS (fun d3 => ?_) (fun d3 => ?_)
                                · rw [show pimg [p0, p1, p2, p3, p4, p5] = (zIm, 5) from if_pos (by simp [heads, h1, d3])] at hq
                                  subst hq
                                  refine sh ?_
                                  exact rT
                                · skip
                                  refine sh ?_
                                  refine ILoop.one 100 ?_
                                  refine sh ?_
                                  refine acnd_t (by decide) ?_
                                  refine sh ?_
                                  refine eget_map (show ([p0, p1, p2, p3, p4, p5] : List Pl)[4]? = some p4 from rfl) ?_
                                  refine sh ?_
                                  refine ICall.pure h.n161.o161.hb (names_c h.n161) rfl ?_
                                  refine sh ?_
                                  refine eget_map (show ([nmB, nmA, nmD, nmN, nmS, nmL] : List (List UInt8))[4]? = some _ from rfl) ?_
                                  refine sh ?_
                                  refine cS (fun a4 => ?_) (fun a4 => ?_)
                                  · rw [show pimg [p0, p1, p2, p3, p4, p5] = (zIm, 5) from if_pos (by simp [heads, h1, a4])] at hq
                                    subst hq
                                    refine sh ?_
                                    exact rT
                                  · refine sh ?_
                                    refine eget_map (show ([p0, p1, p2, p3, p4, p5] : List Pl)[4]? = some p4 from rfl) ?_
                                    refine sh ?_
                                    refine ICall.pure h.n160.o160.hb (deeps_c h.n160) rfl ?_
                                    refine sh ?_
                                    refine eget_map (show ([3, 1, 1, 3, 1, 1] : List Int)[4]? = some _ from rfl) ?_
                                    refine sh ?_
                                    refine cS (fun b4 => ?_) (fun b4 => ?_)
                                    · rw [show pimg [p0, p1, p2, p3, p4, p5] = (zIm, 5) from if_pos (by simp [heads, h1, b4])] at hq
                                      subst hq
                                      refine sh ?_
                                      exact rT
                                    · refine sh ?_
                                      refine eget_map (show ([p0, p1, p2, p3, p4, p5] : List Pl)[4]? = some p4 from rfl) ?_
                                      refine sh ?_
                                      refine eget_map (show ([p0, p1, p2, p3, p4, p5] : List Pl)[0]? = some p0 from rfl) ?_
                                      refine sh ?_
                                      refine cS (fun c4 => ?_) (fun c4 => ?_)
                                      · rw [show pimg [p0, p1, p2, p3, p4, p5] = (zIm, 5) from if_pos (by simp [heads, h1, c4])] at hq
                                        subst hq
                                        refine sh ?_
                                        exact rT
                                      · refine sh ?_
                                        refine eget_map (show ([p0, p1, p2, p3, p4, p5] : List Pl)[4]? = some p4 from rfl) ?_
                                        refine sh ?_
                                        refine eget_map (show ([p0, p1, p2, p3, p4, p5] : List Pl)[0]? = some p0 from rfl) ?_
                                        refine sh ?_
                                        refine cS (fun d4 => ?_) (fun d4 => ?_)
                                        · rw [show pimg [p0, p1, p2, p3, p4, p5] = (zIm, 5) from if_pos (by simp [heads, h1, d4])] at hq
                                          subst hq
                                          refine sh ?_
                                          exact rT
                                        · skip
                                          refine sh ?_
                                          refine ILoop.one 100 ?_
                                          refine sh ?_
                                          refine acnd_t (by decide) ?_
                                          refine sh ?_
                                          refine eget_map (show ([p0, p1, p2, p3, p4, p5] : List Pl)[5]? = some p5 from rfl) ?_
                                          refine sh ?_
                                          refine ICall.pure h.n161.o161.hb (names_c h.n161) rfl ?_
                                          refine sh ?_
                                          refine eget_map (show ([nmB, nmA, nmD, nmN, nmS, nmL] : List (List UInt8))[5]? = some _ from rfl) ?_
                                          refine sh ?_
                                          refine cS (fun a5 => ?_) (fun a5 => ?_)
                                          · rw [show pimg [p0, p1, p2, p3, p4, p5] = (zIm, 5) from if_pos (by simp [heads, h1, a5])] at hq
                                            subst hq
                                            refine sh ?_
                                            exact rT
                                          · refine sh ?_
                                            refine eget_map (show ([p0, p1, p2, p3, p4, p5] : List Pl)[5]? = some p5 from rfl) ?_
                                            refine sh ?_
                                            refine ICall.pure h.n160.o160.hb (deeps_c h.n160) rfl ?_
                                            refine sh ?_
                                            refine eget_map (show ([3, 1, 1, 3, 1, 1] : List Int)[5]? = some _ from rfl) ?_
                                            refine sh ?_
                                            refine cS (fun b5 => ?_) (fun b5 => ?_)
                                            · rw [show pimg [p0, p1, p2, p3, p4, p5] = (zIm, 5) from if_pos (by simp [heads, h1, b5])] at hq
                                              subst hq
                                              refine sh ?_
                                              exact rT
                                            · refine sh ?_
                                              refine eget_map (show ([p0, p1, p2, p3, p4, p5] : List Pl)[5]? = some p5 from rfl) ?_
                                              refine sh ?_
                                              refine eget_map (show ([p0, p1, p2, p3, p4, p5] : List Pl)[0]? = some p0 from rfl) ?_
                                              refine sh ?_
                                              refine cS (fun c5 => ?_) (fun c5 => ?_)
                                              · rw [show pimg [p0, p1, p2, p3, p4, p5] = (zIm, 5) from if_pos (by simp [heads, h1, c5])] at hq
                                                subst hq
                                                refine sh ?_
                                                exact rT
                                              · refine sh ?_
                                                refine eget_map (show ([p0, p1, p2, p3, p4, p5] : List Pl)[5]? = some p5 from rfl) ?_
                                                refine sh ?_
                                                refine eget_map (show ([p0, p1, p2, p3, p4, p5] : List Pl)[0]? = some p0 from rfl) ?_
                                                refine sh ?_
                                                refine cS (fun d5 => ?_) (fun d5 => ?_)
                                                · rw [show pimg [p0, p1, p2, p3, p4, p5] = (zIm, 5) from if_pos (by simp [heads, h1, d5])] at hq
                                                  subst hq
                                                  refine sh ?_
                                                  exact rT
                                                · skip
                                                  refine sh ?_
                                                  refine ILoop.one 100 ?_
                                                  refine sh ?_
                                                  refine acnd_f (by decide) ?_
                                                  have hh : heads p0 p1 p2 p3 p4 p5 = true := by simp [heads, h1, a0, b0, a1, b1, c1, d1, a2, b2, c2, d2, a3, b3, c3, d3, a4, b4, c4, d4, a5, b5, c5, d5]
                                                  replace hq : pimg6 p0 p1 p2 p3 p4 p5 = q := hq
                                                  rw [pimg6, if_neg (by simp [hh])] at hq
                                                  refine sh ?_
                                                  refine ILoop.one 100 ?_
                                                  refine sh ?_
                                                  refine acnd_t (by decide) ?_
                                                  refine sh ?_
                                                  refine eget_map (show ([p0, p1, p2, p3, p4, p5] : List Pl)[0]? = some p0 from rfl) ?_
                                                  refine sh ?_
                                                  refine ICall.pure h.n162.o162.hb (rpcheck_c h.n162 p0 (by have := s0.n; omega)) rfl ?_
                                                  refine sh ?_
                                                  refine cS (fun e0 => ?_) (fun e0 => ?_)
                                                  · rw [if_pos e0] at hq
                                                    subst hq
                                                    refine sh ?_
                                                    exact rT
                                                  · skip
                                                    refine sh ?_
                                                    refine ILoop.one 100 ?_
                                                    refine sh ?_
                                                    refine acnd_t (by decide) ?_
                                                    refine sh ?_
                                                    refine eget_map (show ([p0, p1, p2, p3, p4, p5] : List Pl)[1]? = some p1 from rfl) ?_
                                                    refine sh ?_
                                                    refine ICall.pure h.n162.o162.hb (rpcheck_c h.n162 p1 (by have := s1.n; omega)) rfl ?_
                                                    refine sh ?_
                                                    refine cS (fun e1 => ?_) (fun e1 => ?_)
                                                    · rw [if_neg (fun hh => hh e0), if_pos e1] at hq
                                                      subst hq
                                                      refine sh ?_
                                                      exact rT
                                                    · skip
                                                      refine sh ?_
                                                      refine ILoop.one 100 ?_
                                                      refine sh ?_
                                                      refine acnd_t (by decide) ?_
                                                      refine sh ?_
                                                      refine eget_map (show ([p0, p1, p2, p3, p4, p5] : List Pl)[2]? = some p2 from rfl) ?_
                                                      refine sh ?_
                                                      refine ICall.pure h.n162.o162.hb (rpcheck_c h.n162 p2 (by have := s2.n; omega)) rfl ?_
                                                      refine sh ?_
                                                      refine cS (fun e2 => ?_) (fun e2 => ?_)
                                                      · rw [if_neg (fun hh => hh e0), if_neg (fun hh => hh e1), if_pos e2] at hq
                                                        subst hq
                                                        refine sh ?_
                                                        exact rT
                                                      · skip
                                                        refine sh ?_
                                                        refine ILoop.one 100 ?_
                                                        refine sh ?_
                                                        refine acnd_t (by decide) ?_
                                                        refine sh ?_
                                                        refine eget_map (show ([p0, p1, p2, p3, p4, p5] : List Pl)[3]? = some p3 from rfl) ?_
                                                        refine sh ?_
                                                        refine ICall.pure h.n162.o162.hb (rpcheck_c h.n162 p3 (by have := s3.n; omega)) rfl ?_
                                                        refine sh ?_
                                                        refine cS (fun e3 => ?_) (fun e3 => ?_)
                                                        · rw [if_neg (fun hh => hh e0), if_neg (fun hh => hh e1), if_neg (fun hh => hh e2), if_pos e3] at hq
                                                          subst hq
                                                          refine sh ?_
                                                          exact rT
                                                        · skip
                                                          refine sh ?_
                                                          refine ILoop.one 100 ?_
                                                          refine sh ?_
                                                          refine acnd_t (by decide) ?_
                                                          refine sh ?_
                                                          refine eget_map (show ([p0, p1, p2, p3, p4, p5] : List Pl)[4]? = some p4 from rfl) ?_
                                                          refine sh ?_
                                                          refine ICall.pure h.n162.o162.hb (rpcheck_c h.n162 p4 (by have := s4.n; omega)) rfl ?_
                                                          refine sh ?_
                                                          refine cS (fun e4 => ?_) (fun e4 => ?_)
                                                          · rw [if_neg (fun hh => hh e0), if_neg (fun hh => hh e1), if_neg (fun hh => hh e2), if_neg (fun hh => hh e3), if_pos e4] at hq
                                                            subst hq
                                                            refine sh ?_
                                                            exact rT
                                                          · skip
                                                            refine sh ?_
                                                            refine ILoop.one 100 ?_
                                                            refine sh ?_
                                                            refine acnd_t (by decide) ?_
                                                            refine sh ?_
                                                            refine eget_map (show ([p0, p1, p2, p3, p4, p5] : List Pl)[5]? = some p5 from rfl) ?_
                                                            refine sh ?_
                                                            refine ICall.pure h.n162.o162.hb (rpcheck_c h.n162 p5 (by have := s5.n; omega)) rfl ?_
                                                            refine sh ?_
                                                            refine cS (fun e5 => ?_) (fun e5 => ?_)
                                                            · rw [if_neg (fun hh => hh e0), if_neg (fun hh => hh e1), if_neg (fun hh => hh e2), if_neg (fun hh => hh e3), if_neg (fun hh => hh e4), if_pos e5] at hq
                                                              subst hq
                                                              refine sh ?_
                                                              exact rT
                                                            · skip
                                                              refine sh ?_
                                                              refine ILoop.one 100 ?_
                                                              refine sh ?_
                                                              refine acnd_f (by decide) ?_
                                                              rw [if_neg (fun hh => hh e0), if_neg (fun hh => hh e1), if_neg (fun hh => hh e2), if_neg (fun hh => hh e3), if_neg (fun hh => hh e4), if_neg (fun hh => hh e5)] at hq
                                                              subst hq
                                                              refine sh ?_
                                                              refine eget_map (show ([p0, p1, p2, p3, p4, p5] : List Pl)[0]? = some p0 from rfl) ?_
                                                              refine sh ?_
                                                              refine eget_map (show ([p0, p1, p2, p3, p4, p5] : List Pl)[0]? = some p0 from rfl) ?_
                                                              refine sh ?_
                                                              refine eget_map (show ([p0, p1, p2, p3, p4, p5] : List Pl)[0]? = some p0 from rfl) ?_
                                                              refine sh ?_
                                                              refine ICall.pure h.n385.o385.hb (rthrees30_c h.n385 p0.data s0.d) rfl ?_
                                                              refine sh ?_
                                                              refine eget_map (show ([p0, p1, p2, p3, p4, p5] : List Pl)[1]? = some p1 from rfl) ?_
                                                              refine sh ?_
                                                              refine eget_map (show ([p0, p1, p2, p3, p4, p5] : List Pl)[2]? = some p2 from rfl) ?_
                                                              refine sh ?_
                                                              refine eget_map (show ([p0, p1, p2, p3, p4, p5] : List Pl)[3]? = some p3 from rfl) ?_
                                                              refine sh ?_
                                                              refine ICall.pure h.n385.o385.hb (rthrees30_c h.n385 p3.data s3.d) rfl ?_
                                                              refine sh ?_
                                                              refine eget_map (show ([p0, p1, p2, p3, p4, p5] : List Pl)[4]? = some p4 from rfl) ?_
                                                              refine sh ?_
                                                              refine eget_map (show ([p0, p1, p2, p3, p4, p5] : List Pl)[5]? = some p5 from rfl) ?_
                                                              refine sh ?_
                                                              exact rT
end Go.UM

namespace Go.UM
open Go.AM
set_option maxRecDepth 4000
def Im.fewI (i : Im) : Im := ⟨i.w, i.h, i.be.take 20, i.al.take 20, i.de.take 20, i.no.take 20, i.as.take 20, i.la.take 20⟩
theorem cap3I (b : List T3) (m : Int) : (slc3 b).take (min (b.length : Int) m).toNat = slc3 (b.take m.toNat) := by
  rw [← take_cap b m]; simp [slc3, List.map_take]
theorem fewI_few (i : Im) : i.fewI.Few := ⟨by simp [Im.fewI]; omega, by simp [Im.fewI]; omega, by simp [Im.fewI]; omega, by simp [Im.fewI]; omega, by simp [Im.fewI]; omega, by simp [Im.fewI]; omega⟩
theorem fewI_c {R : Env} (h : N135 R) (i : Im) : R.Pc 135 [.agg i.row] (.agg i.fewI.row) :=
  h.o135.enter 60 rfl fun X bb hfit hp => by
    refine sh ?_
    refine asub_eq (by exact cap3I i.be 20) ?_
    refine sh ?_
    refine asub_eq (by exact cap3I i.no 20) ?_
    refine sh ?_
    refine asub_eq (by exact capK .i64 i.al 20) ?_
    refine sh ?_
    refine asub_eq (by exact capK .i64 i.de 20) ?_
    refine sh ?_
    refine asub_eq (by exact capK .i64 i.as 20) ?_
    refine sh ?_
    refine asub_eq (by exact capK .i64 i.la 20) ?_
    refine sh ?_
    exact rT
theorem th144_c {R : Env} (h : N144 R) (l : List T3) (hl : l.length ≤ 10000) : R.Pc 144 [.isl 3 (slc3 l), .isl 3 (slc3 l)] (.bool true) :=
  h.o144.enter 60 rfl fun X bb hfit hp => by
    refine sh ?_
    refine acnd_f (by simp) ?_
    refine sh ?_
    refine lPa 60 (fun k : Nat => k ≤ l.length) (fun k => ⟨[(0, .isl 3 (slc3 l)), (1, .isl 3 (slc3 l)), (5, .int .i64 k)], [], 0⟩) (fun k => l.length - k) (0) ?_ ?_
    · exact Nat.zero_le _
    · intro k hk
      dsimp only
      refine sh ?_
      refine cS (fun h1 => ?_) (fun h1 => ?_)
      · obtain ⟨x, hx⟩ : ∃ u_, l[k]? = some u_ := ⟨_, List.getElem?_eq_getElem (by first | omega | (simp <;> omega))⟩
        refine sh ?_
        refine eget_map hx ?_
        refine sh ?_
        refine eget_map hx ?_
        refine sh ?_
        refine acnd_f (by simp) ?_
        refine sh ?_
        refine nXa (k + 1) ?_ ?_
        · omega
        · omega
      · refine sh ?_
        exact rT
theorem in145_c {R : Env} (h : N145 R) (l : List Int) (hl : l.length ≤ 30000) : R.Pc 145 [.isl 1 (slcK .i64 l), .isl 1 (slcK .i64 l)] (.bool true) :=
  h.o145.enter 60 rfl fun X bb hfit hp => by
    refine sh ?_
    refine acnd_f (by simp) ?_
    refine sh ?_
    refine lPa 60 (fun k : Nat => k ≤ l.length) (fun k => ⟨[(0, .isl 1 (slcK .i64 l)), (1, .isl 1 (slcK .i64 l)), (5, .int .i64 k)], [], 0⟩) (fun k => l.length - k) (0) ?_ ?_
    · exact Nat.zero_le _
    · intro k hk
      dsimp only
      refine sh ?_
      refine cS (fun h1 => ?_) (fun h1 => ?_)
      · obtain ⟨x, hx⟩ : ∃ u_, l[k]? = some u_ := ⟨_, List.getElem?_eq_getElem (by first | omega | (simp <;> omega))⟩
        refine sh ?_
        refine eget_map hx ?_
        refine sh ?_
        refine eget_map hx ?_
        refine sh ?_
        refine acnd_f (by simp) ?_
        refine sh ?_
        refine nXa (k + 1) ?_ ?_
        · omega
        · omega
      · refine sh ?_
        exact rT
theorem sameI_c {R : Env} (h : N117 R) (i : Im) (s : i.Few) : R.Pc 117 [.agg i.row, .agg i.row] (.bool true) :=
  h.o117.enter 60 rfl fun X bb hfit hp => by
    obtain ⟨s0, s1, s2, s3, s4, s5⟩ := s
    refine sh ?_
    refine acnd_t (by simp) ?_
    refine sh ?_
    refine acnd_t (by simp) ?_
    refine sh ?_
    refine ICall.pure h.n144.o144.hb (th144_c h.n144 i.be (by omega)) rfl ?_
    refine sh ?_
    refine ICall.pure h.n144.o144.hb (th144_c h.n144 i.no (by omega)) rfl ?_
    refine sh ?_
    refine ICall.pure h.n145.o145.hb (in145_c h.n145 i.al (by omega)) rfl ?_
    refine sh ?_
    refine ICall.pure h.n145.o145.hb (in145_c h.n145 i.de (by omega)) rfl ?_
    refine sh ?_
    refine ICall.pure h.n145.o145.hb (in145_c h.n145 i.as (by omega)) rfl ?_
    refine sh ?_
    refine ICall.pure h.n145.o145.hb (in145_c h.n145 i.la (by omega)) rfl ?_
    refine sh ?_
    exact rT
theorem sameP_c {R : Env} (h : N175 R) (p : Pl) (hl : p.data.length ≤ 30000) : R.Pc 175 [.agg p.row, .agg p.row] (.bool true) :=
  h.o175.enter 60 rfl fun X bb hfit hp => by
    refine sh ?_
    refine acnd_t (by simp) ?_
    refine sh ?_
    refine acnd_t (by simp) ?_
    refine sh ?_
    refine acnd_t (by simp) ?_
    refine sh ?_
    refine acnd_t (by simp) ?_
    refine sh ?_
    refine ICall.pure h.n145.o145.hb (in145_c h.n145 p.data hl) rfl ?_
    refine sh ?_
    exact rT
theorem SmP.few (p : Pl) : SmP p.few := ⟨by simp [Pl.few]; omega, by simp [Pl.few]; omega⟩
theorem thr_len (l : List Int) : (thr l).length = l.length / 3 := by simp [thr]
theorem pimg_few {l : List Pl} (h : ∀ p ∈ l, p.data.length ≤ 100) : (pimg l).1.Few := by
  have z : zIm.Few := ⟨by simp [zIm], by simp [zIm], by simp [zIm], by simp [zIm], by simp [zIm], by simp [zIm]⟩
  by_cases h6 : l.length = 6
  · obtain ⟨p0, p1, p2, p3, p4, p5, rfl⟩ := six h6
    have e0 := h p0 (by simp)
    have e1 := h p1 (by simp)
    have e2 := h p2 (by simp)
    have e3 := h p3 (by simp)
    have e4 := h p4 (by simp)
    have e5 := h p5 (by simp)
    show (pimg6 p0 p1 p2 p3 p4 p5).1.Few
    unfold pimg6
    repeat' split
    all_goals first | exact z | exact ⟨by simp only [thr_len]; omega, by simp only; omega, by simp only; omega, by simp only [thr_len]; omega, by simp only; omega, by simp only; omega⟩
  · rw [pimg_len h6]; exact z
theorem planes_sm (i : Im) (few : i.Few) : ∀ p ∈ (planes i).1, p.data.length ≤ 30000 := by
  obtain ⟨f0, f1, f2, f3, f4, f5⟩ := few
  intro p hp
  unfold planes at hp
  split at hp
  · simp at hp
  · have g0 := fl3_len i.be
    have g3 := fl3_len i.no
    simp only [Im.pls, List.mem_cons, List.not_mem_nil, or_false] at hp
    rcases hp with rfl | rfl | rfl | rfl | rfl | rfl <;> simp only [Im.p0, Im.p1, Im.p2, Im.p3, Im.p4, Im.p5] <;> omega
def fews (l : List Pl) : List Pl := (l.take 8).map Pl.few
theorem pimages_law {R : Env} (h : N368 R) (i : Im) (l : List Pl) : R.Pc 368 [.agg i.row, .isl 5 (slP l)] (.bool true) :=
  h.o368.enter 100 rfl fun X bb hfit hp => by
    refine sh ?_
    refine ICall.pure h.n135.o135.hb (fewI_c h.n135 i) rfl ?_
    have hf := fewI_few i
    generalize i.fewI = i at hf ⊢
    have el : (slP l).length = l.length := by simp [slP]
    have hA0 : (planes i).1.length ≤ 1000 := by unfold planes; split <;> simp [Im.pls]
    refine sh ?_
    refine ILoop.one 100 ?_
    by_cases h0 : l = []
    · subst h0
      refine sh ?_
      refine acnd_f (by rfl) ?_
      have hd : ∀ p ∈ ([] : List Pl), p.data.length ≤ 100 := by simp
      refine sh ?_
      refine ICall.pure h.n132.o132.hb (planes_c h.n132 i hf) rfl ?_
      refine sh ?_
      refine ICall.pure h.n155.o155.hb (rplanes_c h.n155 i hf) rfl ?_
      refine sh ?_
      refine acnd_f (by simp) ?_
      refine sh ?_
      refine acnd_f (by simp) ?_
      have sm := planes_sm i hf
      generalize (planes i).1 = A at sm hA0 ⊢
      have eA : (slP A).length = A.length := by simp [slP]
      refine sh ?_
      refine lPa 100 (fun k : Nat => k ≤ A.length) (fun k => ⟨[(5, .nils), (7, .isl 5 (slP A)), (9, .isl 5 (slP A)), (57, .int .i64 A.length), (58, .int .i64 k)], [], 1⟩) (fun k => A.length - k) (0) ?_ ?_
      · exact Nat.zero_le _
      · intro k hk
        dsimp only
        refine sh ?_
        refine cS (fun h2 => ?_) (fun h2 => ?_)
        · obtain ⟨x, hx⟩ : ∃ u_, A[k]? = some u_ := ⟨_, List.getElem?_eq_getElem (by first | omega | (simp <;> omega))⟩
          refine sh ?_
          refine eget_map hx ?_
          refine sh ?_
          refine eget_map hx ?_
          refine sh ?_
          refine ICall.pure h.n175.o175.hb (sameP_c h.n175 x (sm x (List.mem_of_getElem? hx))) rfl ?_
          refine sh ?_
          refine nXa (k + 1) ?_ ?_
          · omega
          · omega
        · refine sh ?_
          refine cM false [] ((pimg_c h.n369 [] (by simp) (by simp)).mc h.n369.o369.hb) ?_
          repeat (intro _; first | refine eK ?_ | refine eP ?_)
          refine sh ?_
          refine cM false [] ((rpimg_c h.n370 [] (by simp) (by simp)).mc h.n370.o370.hb) ?_
          repeat (intro _; first | refine eK ?_ | refine eP ?_)
          refine sh ?_
          refine ICall.pure h.n117.o117.hb (sameI_c h.n117 _ (pimg_few hd)) rfl ?_
          refine sh ?_
          refine acnd_t (by rfl) ?_
          refine sh ?_
          refine ICall.pure h.n367.o367.hb (works30_c h.n367) rfl ?_
          refine sh ?_
          exact rT
    · have h1 : 1 ≤ l.length := Nat.one_le_iff_ne_zero.2 fun e => h0 (List.eq_nil_of_length_eq_zero e)
      have hs : ∀ p ∈ fews l, SmP p := fun p hp => by
        obtain ⟨q, _, rfl⟩ := List.mem_map.1 hp
        exact SmP.few q
      have hd : ∀ p ∈ fews l, p.data.length ≤ 100 := fun p hp => by
        obtain ⟨q, _, rfl⟩ := List.mem_map.1 hp
        simp [Pl.few]; omega
      have hm : (fews l).length ≤ 100 := by simp [fews]; omega
      refine sh ?_
      refine acnd_t (by simp; omega) ?_
      refine sh ?_
      refine acnd_t (by decide) ?_
      obtain ⟨x, hx⟩ : ∃ u_, l[0]? = some u_ := ⟨_, List.getElem?_eq_getElem (by first | omega | (simp <;> omega))⟩
      refine sh ?_
      refine eget_map hx ?_
      refine sh ?_
      refine ICall.pure h.n364.o364.hb (fewp_c h.n364 x) rfl ?_
      refine sh ?_
      refine ILoop.inv 100 (fun k : Nat => 1 ≤ k ∧ k ≤ l.length ∧ k ≤ 8) (fun k => ⟨[(1, .isl 5 (slP l)), (2, .loc 0 1 0 0), (5, .osl 2 k), (6, .int .i64 k)], [(2, .arr (R.ty 20) 5 (slP ((l.take k).map Pl.few))), (0, .var (R.ty 16) i.row)], 3⟩) (fun k => 8 - k) (1) ?_ ⟨⟨_, hp, rfl⟩, ?_, ?_⟩ ?_
      · omega
      · all_goals repeat' (first | exact True.intro | refine And.intro ?_ ?_ | (intro _u; clear _u) | (with_reducible first | exact DnLe.fg | refine eM ?_ ?_ | refine eF ?_ ?_ ?_ | refine eN ?_ | refine eL ?_ ?_ ?_ | refine eA ?_ ?_ | refine IWk.mk ⟨_, hp, rfl⟩ ?_ ?_) | refine IWk.mk ⟨_, hp, rfl⟩ ?_ ?_)
        all_goals try first | with_reducible rfl | omega | exact .inl (by decide) | (simp; done) | rfl
      · all_goals repeat' (first | exact True.intro | refine And.intro ?_ ?_ | (intro _u; clear _u) | (with_reducible first | exact DnLe.fg | refine eM ?_ ?_ | refine eF ?_ ?_ ?_ | refine eN ?_ | refine eL ?_ ?_ ?_ | refine eA ?_ ?_ | refine IWk.mk ⟨_, hp, rfl⟩ ?_ ?_) | refine IWk.mk ⟨_, hp, rfl⟩ ?_ ?_)
        all_goals try first | with_reducible rfl | omega | exact .inl (by decide) | (simp; done) | rfl
        all_goals (have e1 := take_succ_get hx; simp at e1; simp [slP, e1])
      · intro k hk
        dsimp only
        refine sh ?_
        refine cS (fun h2 => ?_) (fun h2 => ?_)
        · refine sh ?_
          refine cS (fun h3 => ?_) (fun h3 => ?_)
          · obtain ⟨y, hy⟩ : ∃ u_, l[k]? = some u_ := ⟨_, List.getElem?_eq_getElem (by first | omega | (simp <;> omega))⟩
            refine sh ?_
            refine eget_map hy ?_
            refine sh ?_
            refine ICall.pure h.n364.o364.hb (fewp_c h.n364 y) rfl ?_
            refine sh ?_
            refine nX (k + 1) ?_ ?_ ⟨_, hp, rfl⟩ ?_ ?_
            · omega
            · omega
            · all_goals repeat' (first | exact True.intro | refine And.intro ?_ ?_ | (intro _u; clear _u) | (with_reducible first | exact DnLe.fg | refine eM ?_ ?_ | refine eF ?_ ?_ ?_ | refine eN ?_ | refine eL ?_ ?_ ?_ | refine eA ?_ ?_ | refine IWk.mk ⟨_, hp, rfl⟩ ?_ ?_) | refine IWk.mk ⟨_, hp, rfl⟩ ?_ ?_)
              all_goals try first | with_reducible rfl | omega | exact .inl (by decide) | (simp; done) | rfl
              simp; omega
            · all_goals repeat' (first | exact True.intro | refine And.intro ?_ ?_ | (intro _u; clear _u) | (with_reducible first | exact DnLe.fg | refine eM ?_ ?_ | refine eF ?_ ?_ ?_ | refine eN ?_ | refine eL ?_ ?_ ?_ | refine eA ?_ ?_ | refine IWk.mk ⟨_, hp, rfl⟩ ?_ ?_) | refine IWk.mk ⟨_, hp, rfl⟩ ?_ ?_)
              all_goals try first | with_reducible rfl | omega | exact .inl (by decide) | (simp; done) | rfl
              rw [take_succ_get hy]
              all_goals first | (simp; done) | (simp; rfl) | trace_state
          · have ek : k = 8 := by omega
            have ef : (l.take k).map Pl.few = fews l := by subst ek; rfl
            have el : (fews l).length = k := by rw [← ef]; simp; omega
            rw [ef]
            refine sh ?_
            refine ICall.let [2] rfl hp rfl ?_
            repeat ((intro _u; clear _u); first | refine eZ ?_ | refine eZ ?_ (by simp; omega) | refine FrzC.drop ?_)
            refine sh ?_
            refine ICall.pure h.n132.o132.hb (planes_c h.n132 i hf) rfl ?_
            refine sh ?_
            refine ICall.pure h.n155.o155.hb (rplanes_c h.n155 i hf) rfl ?_
            refine sh ?_
            refine acnd_f (by simp) ?_
            refine sh ?_
            refine acnd_f (by simp) ?_
            have sm := planes_sm i hf
            generalize (planes i).1 = A at sm hA0 ⊢
            have eA : (slP A).length = A.length := by simp [slP]
            refine sh ?_
            refine lPa 100 (fun k : Nat => k ≤ A.length) (fun k => ⟨[(5, .isl 5 (slP (fews l))), (7, .isl 5 (slP A)), (9, .isl 5 (slP A)), (57, .int .i64 A.length), (58, .int .i64 k)], [], 3⟩) (fun k => A.length - k) (0) ?_ ?_
            · exact Nat.zero_le _
            · intro k hk
              dsimp only
              refine sh ?_
              refine cS (fun h2 => ?_) (fun h2 => ?_)
              · obtain ⟨x, hx⟩ : ∃ u_, A[k]? = some u_ := ⟨_, List.getElem?_eq_getElem (by first | omega | (simp <;> omega))⟩
                refine sh ?_
                refine eget_map hx ?_
                refine sh ?_
                refine eget_map hx ?_
                refine sh ?_
                refine ICall.pure h.n175.o175.hb (sameP_c h.n175 x (sm x (List.mem_of_getElem? hx))) rfl ?_
                refine sh ?_
                refine nXa (k + 1) ?_ ?_
                · omega
                · omega
              · refine sh ?_
                refine ICall.pure h.n369.o369.hb (pimg_c h.n369 (fews l) hm hs) rfl ?_
                refine sh ?_
                refine ICall.pure h.n370.o370.hb (rpimg_c h.n370 (fews l) hm hs) rfl ?_
                refine sh ?_
                refine ICall.pure h.n117.o117.hb (sameI_c h.n117 _ (pimg_few hd)) rfl ?_
                refine sh ?_
                refine acnd_t (by simp) ?_
                refine sh ?_
                refine ICall.pure h.n367.o367.hb (works30_c h.n367) rfl ?_
                refine sh ?_
                exact rT
        · have ek : k = l.length := by omega
          have ef : (l.take k).map Pl.few = fews l := by rw [fews, List.take_of_length_le (by omega), List.take_of_length_le (by omega)]
          have el : (fews l).length = k := by rw [← ef]; simp; omega
          rw [ef]
          refine sh ?_
          refine ICall.let [2] rfl hp rfl ?_
          repeat ((intro _u; clear _u); first | refine eZ ?_ | refine eZ ?_ (by simp; omega) | refine FrzC.drop ?_)
          refine sh ?_
          refine ICall.pure h.n132.o132.hb (planes_c h.n132 i hf) rfl ?_
          refine sh ?_
          refine ICall.pure h.n155.o155.hb (rplanes_c h.n155 i hf) rfl ?_
          refine sh ?_
          refine acnd_f (by simp) ?_
          refine sh ?_
          refine acnd_f (by simp) ?_
          have sm := planes_sm i hf
          generalize (planes i).1 = A at sm hA0 ⊢
          have eA : (slP A).length = A.length := by simp [slP]
          refine sh ?_
          refine lPa 100 (fun k : Nat => k ≤ A.length) (fun k => ⟨[(5, .isl 5 (slP (fews l))), (7, .isl 5 (slP A)), (9, .isl 5 (slP A)), (57, .int .i64 A.length), (58, .int .i64 k)], [], 3⟩) (fun k => A.length - k) (0) ?_ ?_
          · exact Nat.zero_le _
          · intro k hk
            dsimp only
            refine sh ?_
            refine cS (fun h2 => ?_) (fun h2 => ?_)
            · obtain ⟨x, hx⟩ : ∃ u_, A[k]? = some u_ := ⟨_, List.getElem?_eq_getElem (by first | omega | (simp <;> omega))⟩
              refine sh ?_
              refine eget_map hx ?_
              refine sh ?_
              refine eget_map hx ?_
              refine sh ?_
              refine ICall.pure h.n175.o175.hb (sameP_c h.n175 x (sm x (List.mem_of_getElem? hx))) rfl ?_
              refine sh ?_
              refine nXa (k + 1) ?_ ?_
              · omega
              · omega
            · refine sh ?_
              refine ICall.pure h.n369.o369.hb (pimg_c h.n369 (fews l) hm hs) rfl ?_
              refine sh ?_
              refine ICall.pure h.n370.o370.hb (rpimg_c h.n370 (fews l) hm hs) rfl ?_
              refine sh ?_
              refine ICall.pure h.n117.o117.hb (sameI_c h.n117 _ (pimg_few hd)) rfl ?_
              refine sh ?_
              refine acnd_t (by simp) ?_
              refine sh ?_
              refine ICall.pure h.n367.o367.hb (works30_c h.n367) rfl ?_
              refine sh ?_
              exact rT
end Go.UM

namespace Go.UM
open Go.AM
set_option maxRecDepth 4000
theorem pdec_few (b : List UInt8) (hb : b.length ≤ 10000) : (pdec b).1.data.length ≤ 30000 := by
  unfold pdec pdecO
  split
  · split
    · simp [z0]
    · rename_i h1 h2
      simp only [Bool.and_eq_true] at h1
      obtain ⟨c1, c2, c3, c4⟩ := cd_iff.1 h1.1
      generalize (dgo 7 z0 none b).own = o at *
      have b1 : o.w * o.h ≤ 4096 := by have := Int.mul_le_mul c1.2 c2.2 (by omega) (by omega); omega
      have b2 : o.w * o.h * o.deep ≤ 16384 := by have := Int.mul_le_mul b1 c3.2 (by omega) (by omega); omega
      dsimp only
      rw [nums_len]
      omega
  · simp [z0]
theorem decodes_law {R : Env} (h : N371 R) (b : List UInt8) : R.Pc 371 [.isl 1 (slc8 b)] (.bool true) :=
  h.o371.enter 100 rfl fun X bb hfit hp => by
    refine sh ?_
    refine aSb ?_
    rw [take_cap]
    have hb : (b.take (1500 : Int).toNat).length ≤ 10000 := by simp; omega
    generalize b.take (1500 : Int).toNat = b at hb ⊢
    have hs := pdec_few b hb
    refine sh ?_
    refine ICall.pure h.n372.o372.hb (decode_c h.n372 b (by omega)) rfl ?_
    refine sh ?_
    refine ICall.pure h.n373.o373.hb (rdecode_c h.n373 b (by omega)) rfl ?_
    rw [rdec_eq]
    generalize pdec b = q at hs ⊢
    refine sh ?_
    refine ICall.pure h.n175.o175.hb (sameP_c h.n175 q.1 hs) rfl ?_
    refine sh ?_
    refine ICall.pure h.n47.o47.hb (eq8_c h.n47 q.2.1 q.2.1) rfl ?_
    refine sh ?_
    refine acnd_t (by simp) ?_
    refine sh ?_
    refine acnd_t (by simp) ?_
    refine sh ?_
    refine ICall.pure h.n367.o367.hb (works30_c h.n367) rfl ?_
    refine sh ?_
    exact rT
end Go.UM

namespace Go.UM
open Go.AM
theorem open8 {T : TT} {n e : Nat} {es : List (List AV)} (hT : T.d e = .int .u8) (h : ∀ r ∈ es, cty T (n + 1) e r) : ∃ l : List UInt8, es = slc8 l := by
  obtain ⟨l, rfl, _⟩ := rows_map (f := fun c : UInt8 => [AV.int .u8 c.toNat]) (p := fun _ => True) (es := es) fun r hr => by
    have h1 := h r hr
    simp only [cty, hT] at h1
    obtain ⟨x, rfl, hx⟩ := h1
    have hx := wf_in hx
    simp only [inI] at hx
    refine ⟨u8 x, ?_, trivial⟩
    rw [← wr_u8, wr_in (k := .u8) hx]
  exact ⟨l, rfl⟩
theorem openK {T : TT} {n e : Nat} {k : IntKind} {es : List (List AV)} (hT : T.d e = .int k) (h : ∀ r ∈ es, cty T (n + 1) e r) : ∃ l : List Int, es = slcK k l ∧ ∀ x ∈ l, inI k x := by
  obtain ⟨l, rfl, hl⟩ := rows_map (f := fun c : Int => [AV.int k c]) (p := fun c => inI k c) (es := es) fun r hr => by
    have h1 := h r hr
    simp only [cty, hT] at h1
    obtain ⟨x, rfl, hx⟩ := h1
    exact ⟨x, rfl, wf_in hx⟩
  exact ⟨l, rfl, hl⟩
end Go.UM

namespace Go.UM
open Go.AM
set_option maxRecDepth 4000
theorem enc2_app (a b : List Int) : enc2 (a ++ b) = enc2 a ++ enc2 b := by simp [enc2]
theorem u8_hi (x y : UInt8) : u8 (((x.toNat : Int) * 256 + y.toNat) / 256) = x := by
  have hy := y.toNat_lt
  rw [show ((x.toNat : Int) * 256 + y.toNat) / 256 = x.toNat by omega, u8_toNat]
theorem u8_lo (x y : UInt8) : u8 ((x.toNat : Int) * 256 + y.toNat) = y := by
  have hy := y.toNat_lt
  rw [← u8_mod, show ((x.toNat : Int) * 256 + y.toNat) % 256 = y.toNat by omega, u8_toNat]
theorem enc2_nums (r : List UInt8) : ∀ n : Nat, 2 * n ≤ r.length → enc2 (nums r n) = r.take (2 * n)
  | 0, _ => by simp [nums, enc2]
  | n + 1, h => by
    obtain ⟨x, hx⟩ : ∃ x, r[2 * n]? = some x := ⟨_, List.getElem?_eq_getElem (by omega)⟩
    obtain ⟨y, hy⟩ : ∃ y, r[2 * n + 1]? = some y := ⟨_, List.getElem?_eq_getElem (by omega)⟩
    rw [nums_succ, enc2_app, enc2_nums r n (by omega), dnum_eq hx hy, show 2 * (n + 1) = 2 * n + 1 + 1 by omega, take_succ_get hy, take_succ_get hx]
    simp [enc2, u8_hi, u8_lo]
theorem nums_enc2 (l : List Int) (m : List UInt8) (hl : ∀ x ∈ l, 0 ≤ x ∧ x ≤ 65535) : ∀ k : Nat, k ≤ l.length → nums (enc2 l ++ m) k = l.take k
  | 0, _ => by simp [nums]
  | k + 1, h => by
    obtain ⟨x, hx⟩ : ∃ x, l[k]? = some x := ⟨_, List.getElem?_eq_getElem (by omega)⟩
    have hin := hl x (List.mem_of_getElem? hx)
    rw [nums_succ, nums_enc2 l m hl k (by omega), take_succ_get hx]
    obtain ⟨hlt, he⟩ := List.getElem?_eq_some_iff.1 hx
    have e : enc2 l ++ m = enc2 (l.take k) ++ (u8 (x / 256) :: u8 x :: (enc2 (l.drop (k + 1)) ++ m)) := by
      conv => lhs; rw [← List.take_append_drop k l, List.drop_eq_getElem_cons hlt, he, enc2_app]
      simp [enc2]
    have hlen := enc2_len (l.take k)
    rw [List.length_take, Nat.min_eq_left (by omega)] at hlen
    have g1 : (enc2 l ++ m)[2 * k]? = some (u8 (x / 256)) := by
      rw [e, List.getElem?_append_right (by omega), show 2 * k - (enc2 (l.take k)).length = 0 by omega]; rfl
    have g2 : (enc2 l ++ m)[2 * k + 1]? = some (u8 x) := by
      rw [e, List.getElem?_append_right (by omega), show 2 * k + 1 - (enc2 (l.take k)).length = 1 by omega]; rfl
    rw [dnum_eq g1 g2, u8_in (by omega), ← u8_mod, u8_in (by omega)]
    congr 2
    omega
theorem pdec_penc {p : Pl} (h : pchk p = 0) (more : List UInt8) : pdec ((penc p).1 ++ more) = (p, more, 0) := by
  obtain ⟨h1, h2, h3, h4, h5, h6⟩ := (pchk_iff p).1 h
  have hc : p.cd = true := cd_iff.2 ⟨h1, h2, h3, h4⟩
  have e1 : (penc p).1 = hd p ++ enc2 p.data := by unfold penc; rw [if_neg (by simpa using h)]
  have e2 := enc2_len p.data
  rw [e1, List.append_assoc]
  obtain ⟨t, h7⟩ := (hd_go hc (enc2 p.data ++ more)).2
  unfold pdec
  rw [h7]
  dsimp only
  rw [Option.getD_some, pdecO_in (b := hd p ++ (enc2 p.data ++ more)) (o := ⟨p.w, p.h, p.deep, p.name, []⟩) hc (fits_iff.2 ⟨_, rfl⟩)]
  dsimp only
  rw [if_neg (by rw [List.length_append]; omega), ← h5, Int.toNat_natCast, nums_enc2 p.data more h6 _ (Nat.le_refl _), List.take_length, ← e2, List.drop_left]
theorem pdec_inv (b : List UInt8) : pdec b = ((pdec b).1, (pdec b).2.1, (pdec b).2.2) ∧ (((pdec b).2.2 ≠ 0 ∧ (pdec b).1 = z0 ∧ (pdec b).2.1 = []) ∨ ((pdec b).2.2 = 0 ∧ pchk (pdec b).1 = 0 ∧ (penc (pdec b).1).1 ++ (pdec b).2.1 = b)) := by
  refine ⟨rfl, ?_⟩
  by_cases hp : ((dgo 7 z0 none b).own.cd && (dgo 7 z0 none b).own.fits b) = true
  · simp only [Bool.and_eq_true] at hp
    obtain ⟨r, hr⟩ := fits_iff.1 hp.2
    have hc := hp.1
    obtain ⟨h1, h2, h3, h4⟩ := cd_iff.1 hc
    unfold pdec
    rw [pdecO_in hp.1 hp.2]
    obtain ⟨t, h7⟩ := (hd_go hc r).2
    rw [← hr] at h7
    have hro : (dgo 7 z0 none b).rest = some r := by rw [h7]
    rw [hro, Option.getD_some]
    generalize (dgo 7 z0 none b).own = o at *
    have b1 : 1 ≤ o.w * o.h := by have := Int.mul_le_mul h1.1 h2.1 (by omega) (by omega); omega
    have b2 : 1 ≤ o.w * o.h * o.deep := by have := Int.mul_le_mul b1 h3.1 (by omega) (by omega); omega
    obtain ⟨N, hN⟩ : ∃ N : Nat, o.w * o.h * o.deep = N := ⟨(o.w * o.h * o.deep).toNat, by omega⟩
    rw [hN, Int.toNat_natCast]
    by_cases hs : (r.length : Int) < 2 * (N : Int)
    · rw [if_pos hs]; left; exact ⟨by decide, rfl, rfl⟩
    · rw [if_neg hs]; right
      have hk : pchk ⟨o.w, o.h, o.deep, o.name, nums r N⟩ = 0 := (pchk_iff _).2 ⟨h1, h2, h3, h4, by dsimp only; rw [nums_len, hN], fun x hx => by
        simp only [nums, List.mem_map] at hx
        obtain ⟨i, _, rfl⟩ := hx
        have a1 := (r.getD (2 * i) 0).toNat_lt
        have a2 := (r.getD (2 * i + 1) 0).toNat_lt
        unfold dnum
        omega⟩
      refine ⟨rfl, hk, ?_⟩
      dsimp only
      unfold penc
      rw [if_neg (by simpa using hk)]
      dsimp only
      rw [enc2_nums r N (by omega), List.append_assoc, List.take_append_drop]
      exact hr.symm
  · left
    unfold pdec pdecO
    rw [if_neg hp]
    exact ⟨by decide, rfl, rfl⟩
set_option maxHeartbeats 1000000 in
theorem pencodeM_c {R : Env} (h : N365 R) (p : Pl) (ok : pchk p = 0) (hl : p.data.length ≤ 100000) : R.Mc 365 [.agg p.row] [] (.tup [.osl 0 (penc p).1.length, .int .i64 0]) [(0, .arr (R.ty 4) 1 (slc8 (penc p).1))] 1 :=
  h.o365.enterM 200 0 rfl rfl rfl fun X bb hfit hp => by
    have hpi := pchk_in ok
    have hn : p.name.length ≤ 1073741824 := by have := hpi.n; omega
    refine sh ?_
    refine ICall.pure h.n153.o153.hb (pcheck_c h.n153 p hn) rfl ?_
    have eq : (penc p).1 = hd p ++ enc2 p.data := by unfold penc; rw [if_neg (by simpa using ok)]
    rw [eq, ok]
    refine sh ?_
    refine acnd_f (by decide) ?_
    refine sh ?_
    refine ICall.pure h.n381.o381.hb (head_c h.n381 p hpi) rfl ?_
    have hdl : (hd p).length ≤ 2000 := by
      have l1 := dec_len p.w
      have l2 := dec_len p.h
      have l3 := dec_len p.deep
      have := hpi.n
      simp [hd]; omega
    have hdin := ((pchk_iff p).1 ok).2.2.2.2.2
    generalize hd p = H at hdl ⊢
    refine sh ?_
    refine ILoop.inv 200 (fun i : Nat => i ≤ p.data.length) (fun i => ⟨[(5, .osl 1 (H ++ enc2 (p.data.take i)).length), (17, .isl 1 (slcK .i64 p.data)), (18, .int .i64 p.data.length), (19, .int .i64 i)], [(1, .arr (R.ty 4) 1 (slc8 (H ++ enc2 (p.data.take i))))], 2⟩) (fun i => p.data.length - i) (0) ?_ ⟨⟨_, hp, rfl⟩, ?_, ?_⟩ ?_
    · exact Nat.zero_le _
    · all_goals repeat' (first | exact True.intro | refine And.intro ?_ ?_ | (intro _u; clear _u) | (with_reducible first | exact DnLe.fg | refine eM ?_ ?_ | refine eF ?_ ?_ ?_ | refine eN ?_ | refine eL ?_ ?_ ?_ | refine eA ?_ ?_ | refine IWk.mk ⟨_, hp, rfl⟩ ?_ ?_) | refine IWk.mk ⟨_, hp, rfl⟩ ?_ ?_)
      all_goals try first | with_reducible rfl | omega | exact .inl (by decide) | (simp; done) | rfl
      simp [enc2]
    · all_goals repeat' (first | exact True.intro | refine And.intro ?_ ?_ | (intro _u; clear _u) | (with_reducible first | exact DnLe.fg | refine eM ?_ ?_ | refine eF ?_ ?_ ?_ | refine eN ?_ | refine eL ?_ ?_ ?_ | refine eA ?_ ?_ | refine IWk.mk ⟨_, hp, rfl⟩ ?_ ?_) | refine IWk.mk ⟨_, hp, rfl⟩ ?_ ?_)
      all_goals try first | with_reducible rfl | omega | exact .inl (by decide) | (simp; done) | rfl
      simp [enc2, slc8]
    · intro i hi
      dsimp only
      refine sh ?_
      refine cS (fun h2 => ?_) (fun h2 => ?_)
      · obtain ⟨y, hy⟩ : ∃ u_, p.data[i]? = some u_ := ⟨_, List.getElem?_eq_getElem (by first | omega | (simp <;> omega))⟩
        refine sh ?_
        refine eget_map hy ?_
        have hyin := hdin y (List.mem_of_getElem? hy)
        have hlen := enc2_len (p.data.take i)
        simp only [List.length_take] at hlen
        refine sh ?_
        refine iwr_any ?_
        refine sh ?_
        refine iwr_any ?_
        refine sh ?_
        refine nX (i + 1) ?_ ?_ ⟨_, hp, rfl⟩ ?_ ?_
        · omega
        · omega
        · all_goals repeat' (first | exact True.intro | refine And.intro ?_ ?_ | (intro _u; clear _u) | (with_reducible first | exact DnLe.fg | refine eM ?_ ?_ | refine eF ?_ ?_ ?_ | refine eN ?_ | refine eL ?_ ?_ ?_ | refine eA ?_ ?_ | refine IWk.mk ⟨_, hp, rfl⟩ ?_ ?_) | refine IWk.mk ⟨_, hp, rfl⟩ ?_ ?_)
          all_goals try first | with_reducible rfl | omega | exact .inl (by decide) | (simp; done) | rfl
          rw [enc2_succ hy]; simp
        · all_goals repeat' (first | exact True.intro | refine And.intro ?_ ?_ | (intro _u; clear _u) | (with_reducible first | exact DnLe.fg | refine eM ?_ ?_ | refine eF ?_ ?_ ?_ | refine eN ?_ | refine eL ?_ ?_ ?_ | refine eA ?_ ?_ | refine IWk.mk ⟨_, hp, rfl⟩ ?_ ?_) | refine IWk.mk ⟨_, hp, rfl⟩ ?_ ?_)
          all_goals try first | with_reducible rfl | omega | exact .inl (by decide) | (simp; done) | rfl
          rw [enc2_succ hy]; simp [slc8]
          all_goals (rw [wr_u8, shr_eq hyin.1]; rfl)
      · rw [List.take_of_length_le (by omega)]
        refine sh ?_
        exact rM [1]
end Go.UM

namespace Go.UM
open Go.AM
set_option maxRecDepth 4000
theorem penc_len {p : Pl} (h : pchk p = 0) : (penc p).1.length ≤ 2000 + 2 * p.data.length := by
  have e : (penc p).1 = hd p ++ enc2 p.data := by unfold penc; rw [if_neg (by simpa using h)]
  rw [e, List.length_append, enc2_len]
  have := hd_le (pchk_in h)
  omega
theorem back_law {R : Env} (h : N374 R) (p : Pl) (m b : List UInt8) : R.Pc 374 [.agg p.row, .isl 1 (slc8 m), .isl 1 (slc8 b)] (.bool true) :=
  h.o374.enter 200 rfl fun X bb hfit hp => by
    refine sh ?_
    refine ICall.pure h.n364.o364.hb (fewp_c h.n364 p) rfl ?_
    refine sh ?_
    refine aSb ?_
    refine sh ?_
    refine aSb ?_
    rw [take_cap, take_cap]
    have hn : p.few.name.length ≤ 1073741824 := by simp [Pl.few]; omega
    have hl : p.few.data.length ≤ 1000 := by simp [Pl.few]; omega
    have hm : (m.take (20 : Int).toNat).length ≤ 20 := by simp; omega
    have hb : (b.take (1500 : Int).toNat).length ≤ 1500 := by simp; omega
    generalize p.few = p at hn hl ⊢
    generalize m.take (20 : Int).toNat = m at hm ⊢
    generalize b.take (1500 : Int).toNat = b at hb ⊢
    refine sh ?_
    refine ICall.pure h.n365.o365.hb (pencode_c h.n365 p hn (by omega)) rfl ?_
    by_cases ok : pchk p = 0
    · have e2 : (penc p).2 = 0 := by unfold penc; rw [if_neg (by simpa using ok)]
      have hpd := pdec_penc ok m
      have hpl := penc_len ok
      rw [e2]
      refine sh ?_
      refine acnd_t (by decide) ?_
      generalize (penc p).1 = a at hpd hpl ⊢
      refine sh ?_
      refine ICall.let [1] rfl hp rfl ?_
      repeat ((intro _u; clear _u); first | refine eZ ?_ | refine eZ ?_ (by simp; omega) | refine FrzC.drop ?_)
      rw [show ([] : List (List AV)) ++ slc8 a ++ slc8 m = slc8 (a ++ m) by simp]
      refine sh ?_
      refine ICall.pure h.n372.o372.hb (decode_c h.n372 (a ++ m) (by simp; omega)) rfl ?_
      rw [hpd]
      refine sh ?_
      refine acnd_f (by simp) ?_
      refine sh ?_
      refine ICall.pure h.n175.o175.hb (sameP_c h.n175 p (by omega)) rfl ?_
      refine sh ?_
      refine ICall.pure h.n47.o47.hb (eq8_c h.n47 m m) rfl ?_
      refine sh ?_
      refine acnd_f (by simp) ?_
      refine sh ?_
      refine ICall.pure h.n372.o372.hb (decode_c h.n372 b (by omega)) rfl ?_
      have hi := (pdec_inv b).2
      have hs := pdec_few b (by omega)
      generalize pdec b = q at hi hs ⊢
      rcases hi with ⟨i1, i2, i3⟩ | ⟨i1, i2, i3⟩
      · refine sh ?_
        refine acnd_t (by simpa using i1) ?_
        rw [i2, i3]
        refine sh ?_
        refine acnd_t (by decide) ?_
        refine sh ?_
        refine acnd_t (by decide) ?_
        refine sh ?_
        refine ICall.pure h.n367.o367.hb (works30_c h.n367) rfl ?_
        refine sh ?_
        exact rT
      · rw [i1]
        refine sh ?_
        refine acnd_f (by decide) ?_
        have hlen := congrArg List.length i3
        rw [List.length_append] at hlen
        refine sh ?_
        refine cM false [] (pencodeM_c h.n365 q.1 i2 (by omega)) ?_
        repeat (intro _; first | refine eK ?_ | refine eP ?_)
        refine sh ?_
        refine acnd_t (by decide) ?_
        refine sh ?_
        refine ICall.let [4] rfl hp rfl ?_
        repeat ((intro _u; clear _u); first | refine eZ ?_ | refine eZ ?_ (by simp; omega) | refine FrzC.drop ?_)
        rw [← slc8_append, i3]
        refine sh ?_
        refine ICall.pure h.n47.o47.hb (eq8_c h.n47 b b) rfl ?_
        refine sh ?_
        refine acnd_t (by simp) ?_
        refine sh ?_
        refine ICall.pure h.n367.o367.hb (works30_c h.n367) rfl ?_
        refine sh ?_
        exact rT
    · have e2 : (penc p).2 = pchk p := by unfold penc; rw [if_pos ok]
      rw [e2]
      refine sh ?_
      refine acnd_f (by simpa using ok) ?_
      refine sh ?_
      refine ICall.pure h.n372.o372.hb (decode_c h.n372 b (by omega)) rfl ?_
      have hi := (pdec_inv b).2
      have hs := pdec_few b (by omega)
      generalize pdec b = q at hi hs ⊢
      rcases hi with ⟨i1, i2, i3⟩ | ⟨i1, i2, i3⟩
      · refine sh ?_
        refine acnd_t (by simpa using i1) ?_
        rw [i2, i3]
        refine sh ?_
        refine acnd_t (by decide) ?_
        refine sh ?_
        refine acnd_t (by decide) ?_
        refine sh ?_
        refine ICall.pure h.n367.o367.hb (works30_c h.n367) rfl ?_
        refine sh ?_
        exact rT
      · rw [i1]
        refine sh ?_
        refine acnd_f (by decide) ?_
        have hlen := congrArg List.length i3
        rw [List.length_append] at hlen
        refine sh ?_
        refine cM false [] (pencodeM_c h.n365 q.1 i2 (by omega)) ?_
        repeat (intro _; first | refine eK ?_ | refine eP ?_)
        refine sh ?_
        refine acnd_t (by decide) ?_
        refine sh ?_
        refine ICall.let [2] rfl hp rfl ?_
        repeat ((intro _u; clear _u); first | refine eZ ?_ | refine eZ ?_ (by simp; omega) | refine FrzC.drop ?_)
        rw [← slc8_append, i3]
        refine sh ?_
        refine ICall.pure h.n47.o47.hb (eq8_c h.n47 b b) rfl ?_
        refine sh ?_
        refine acnd_t (by simp) ?_
        refine sh ?_
        refine ICall.pure h.n367.o367.hb (works30_c h.n367) rfl ?_
        refine sh ?_
        exact rT
end Go.UM

namespace Go.UM
open Go.AM
set_option maxRecDepth 4000
def cats (l : List Pl) : List UInt8 := l.flatMap fun p => (penc p).1
theorem cats_succ {l : List Pl} {k : Nat} {x : Pl} (h : l[k]? = some x) : cats (l.take (k + 1)) = cats (l.take k) ++ (penc x).1 := by
  rw [take_succ_get h]; simp [cats]
def pfile (i : Im) : List UInt8 × Int := if (planes i).2 ≠ 0 then ([], (planes i).2) else (cats (planes i).1, 0)
theorem penc_pos {p : Pl} (h : pchk p = 0) : 1 ≤ (penc p).1.length := by
  have e : (penc p).1 = hd p ++ enc2 p.data := by unfold penc; rw [if_neg (by simpa using h)]
  rw [e]; simp [hd]
theorem penc_short (p : Pl) (hdl : p.data.length ≤ 16384) : (penc p).1.length ≤ 40000 := by
  by_cases h : pchk p = 0
  · have e : (penc p).1 = hd p ++ enc2 p.data := by unfold penc; rw [if_neg (by simpa using h)]
    rw [e, List.length_append, enc2_len]
    have := hd_le (pchk_in h)
    omega
  · unfold penc; rw [if_pos h]; simp
theorem cats_len {l : List Pl} (h : ∀ p ∈ l, p.data.length ≤ 16384) : (cats l).length ≤ 40000 * l.length := by
  induction l with
  | nil => simp [cats]
  | cons p r ih =>
    have h1 := penc_short p (h p (by simp))
    have h2 := ih fun q hq => h q (by simp [hq])
    simp only [cats, List.flatMap_cons, List.length_append, List.length_cons] at h2 ⊢
    omega
theorem planes_ok {i : Im} (h : (planes i).2 = 0) : (planes i).1 = i.pls ∧ (∀ p ∈ i.pls, pchk p = 0) := by
  unfold planes at h ⊢
  by_cases hi : ichk i = 0
  · rw [if_neg (by simpa using hi)]
    have := ichk_all hi
    refine ⟨rfl, fun p hp => ?_⟩
    simp only [Im.pls, List.mem_cons, List.not_mem_nil, or_false] at hp
    rcases hp with rfl | rfl | rfl | rfl | rfl | rfl
    · exact this.1
    · exact this.2.1
    · exact this.2.2.1
    · exact this.2.2.2.1
    · exact this.2.2.2.2.1
    · exact this.2.2.2.2.2
  · rw [if_pos hi] at h; exact absurd h hi
theorem pchk_data {p : Pl} (h : pchk p = 0) : p.data.length ≤ 16384 := by
  obtain ⟨h1, h2, h3, h4, h5, h6⟩ := (pchk_iff p).1 h
  have b1 : p.w * p.h ≤ 4096 := by have := Int.mul_le_mul h1.2 h2.2 (by omega) (by omega); omega
  have b2 : p.w * p.h * p.deep ≤ 16384 := by have := Int.mul_le_mul b1 h3.2 (by omega) (by omega); omega
  omega
theorem pls_len (i : Im) : i.pls.length = 6 := rfl
set_option maxHeartbeats 1000000 in
theorem pfile_c {R : Env} (h : N376 R) (i : Im) (few : i.Few) : R.Pc 376 [.agg i.row] (.tup [.isl 1 (slc8 (pfile i).1), .int .i64 (pfile i).2]) :=
  h.o376.enter 200 rfl fun X bb hfit hp => by
    generalize hq : pfile i = q
    refine sh ?_
    refine ICall.pure h.n132.o132.hb (planes_c h.n132 i few) rfl ?_
    unfold pfile at hq
    by_cases hz : (planes i).2 = 0
    · rw [if_neg (by simpa using hz)] at hq
      subst hq
      obtain ⟨e1, e2⟩ := planes_ok hz
      rw [hz, e1]
      have hl := pls_len i
      generalize i.pls = A at e2 hl ⊢
      refine sh ?_
      refine acnd_f (by decide) ?_
      refine sh ?_
      refine ILoop.one 100 ?_
      refine sh ?_
      refine acnd_t (by simp; omega) ?_
      obtain ⟨x, hx⟩ : ∃ u_, A[0]? = some u_ := ⟨_, List.getElem?_eq_getElem (by first | omega | (simp <;> omega))⟩
      refine sh ?_
      refine eget_map hx ?_
      have okx := e2 x (List.mem_of_getElem? hx)
      have px := penc_pos okx
      refine sh ?_
      refine ICall.pure h.n365.o365.hb (pencode_c h.n365 x (by have := (pchk_in okx).n; omega) (by have := pchk_data okx; omega)) rfl ?_
      have e0 : cats (A.take 1) = (penc x).1 := by rw [cats_succ hx]; simp [cats]
      have hsm : ∀ p ∈ A, p.data.length ≤ 16384 := fun p hp => pchk_data (e2 p hp)
      have hx40 := penc_short x (hsm x (List.mem_of_getElem? hx))
      refine sh ?_
      refine ILoop.inv 100 (fun k : Nat => 1 ≤ k ∧ k ≤ A.length) (fun k => ⟨[(6, .osl 2 (cats (A.take k)).length), (19, .isl 5 (slP A)), (20, .int .i64 A.length), (21, .int .i64 k)], [(2, .arr (R.ty 4) 1 (slc8 (cats (A.take k))))], 3⟩) (fun k => A.length - k) (1) ?_ ⟨⟨_, hp, rfl⟩, ?_, ?_⟩ ?_
      · exact ⟨Nat.le_refl _, by omega⟩
      · all_goals repeat' (first | exact True.intro | refine And.intro ?_ ?_ | (intro _u; clear _u) | (with_reducible first | exact DnLe.fg | refine eM ?_ ?_ | refine eF ?_ ?_ ?_ | refine eN ?_ | refine eL ?_ ?_ ?_ | refine eA ?_ ?_ | refine IWk.mk ⟨_, hp, rfl⟩ ?_ ?_) | refine IWk.mk ⟨_, hp, rfl⟩ ?_ ?_)
        all_goals try first | with_reducible rfl | omega | exact .inl (by decide) | (simp; done) | rfl
        all_goals (rw [e0]; try simp)
      · all_goals repeat' (first | exact True.intro | refine And.intro ?_ ?_ | (intro _u; clear _u) | (with_reducible first | exact DnLe.fg | refine eM ?_ ?_ | refine eF ?_ ?_ ?_ | refine eN ?_ | refine eL ?_ ?_ ?_ | refine eA ?_ ?_ | refine IWk.mk ⟨_, hp, rfl⟩ ?_ ?_) | refine IWk.mk ⟨_, hp, rfl⟩ ?_ ?_)
        all_goals try first | with_reducible rfl | omega | exact .inl (by decide) | (simp; done) | rfl
        all_goals (rw [e0]; try simp)
      · intro k hk
        dsimp only
        refine sh ?_
        refine cS (fun g1 => ?_) (fun g1 => ?_)
        · obtain ⟨y, hy⟩ : ∃ u_, A[k]? = some u_ := ⟨_, List.getElem?_eq_getElem (by first | omega | (simp <;> omega))⟩
          refine sh ?_
          refine eget_map hy ?_
          have oky := e2 y (List.mem_of_getElem? hy)
          have e3 := cats_succ hy
          have hy40 := penc_short y (hsm y (List.mem_of_getElem? hy))
          have hc := cats_len (l := A.take k) fun p hp => hsm p (List.mem_of_mem_take hp)
          rw [List.length_take] at hc
          refine sh ?_
          refine ICall.pure h.n365.o365.hb (pencode_c h.n365 y (by have := (pchk_in oky).n; omega) (by have := pchk_data oky; omega)) rfl ?_
          generalize cats (A.take k) = C at e3 hc ⊢
          refine sh ?_
          refine nRm [0, 1, 2] (k + 1) ?_ ?_ ?_
          · omega
          · omega
          · all_goals repeat' (first | exact True.intro | refine And.intro ?_ ?_ | (intro _u; clear _u) | (with_reducible first | exact DnLe.fg | refine eM ?_ ?_ | refine eF ?_ ?_ ?_ | refine eN ?_ | refine eL ?_ ?_ ?_ | refine eA ?_ ?_ | refine IWk.mk ⟨_, hp, rfl⟩ ?_ ?_) | refine IWk.mk ⟨_, hp, rfl⟩ ?_ ?_)
            all_goals try first | with_reducible rfl | omega | exact .inl (by decide) | (simp; done) | rfl
            all_goals (rw [e3]; simp)
        · rw [List.take_of_length_le (by omega)]
          refine sh ?_
          exact rT
    · rw [if_pos hz] at hq
      subst hq
      refine sh ?_
      refine acnd_t (by simpa using hz) ?_
      refine sh ?_
      exact rT
set_option maxHeartbeats 1000000 in
theorem rfile_c {R : Env} (h : N377 R) (i : Im) (few : i.Few) : R.Pc 377 [.agg i.row] (.tup [.isl 1 (slc8 (pfile i).1), .int .i64 (pfile i).2]) :=
  h.o377.enter 200 rfl fun X bb hfit hp => by
    generalize hq : pfile i = q
    refine sh ?_
    refine ICall.pure h.n155.o155.hb (rplanes_c h.n155 i few) rfl ?_
    unfold pfile at hq
    by_cases hz : (planes i).2 = 0
    · rw [if_neg (by simpa using hz)] at hq
      subst hq
      obtain ⟨e1, e2⟩ := planes_ok hz
      rw [hz, e1]
      have hl := pls_len i
      generalize i.pls = A at e2 hl ⊢
      refine sh ?_
      refine acnd_f (by decide) ?_
      refine sh ?_
      refine ILoop.one 100 ?_
      refine sh ?_
      refine acnd_t (by decide) ?_
      obtain ⟨x, hx⟩ : ∃ u_, A[0]? = some u_ := ⟨_, List.getElem?_eq_getElem (by first | omega | (simp <;> omega))⟩
      refine sh ?_
      refine eget_map hx ?_
      have okx := e2 x (List.mem_of_getElem? hx)
      have px := penc_pos okx
      refine sh ?_
      refine ICall.pure h.n366.o366.hb (rpencode_c h.n366 x (by have := (pchk_in okx).n; omega) (by have := pchk_data okx; omega)) rfl ?_
      have e0 : cats (A.take 1) = (penc x).1 := by rw [cats_succ hx]; simp [cats]
      have hsm : ∀ p ∈ A, p.data.length ≤ 16384 := fun p hp => pchk_data (e2 p hp)
      have hx40 := penc_short x (hsm x (List.mem_of_getElem? hx))
      refine sh ?_
      refine ILoop.inv 100 (fun k : Nat => 1 ≤ k ∧ k ≤ A.length) (fun k => ⟨[(4, .isl 5 (slP A)), (6, .osl 1 (cats (A.take k)).length), (7, .int .i64 k)], [(1, .arr (R.ty 4) 1 (slc8 (cats (A.take k))))], 2⟩) (fun k => A.length - k) (1) ?_ ⟨⟨_, hp, rfl⟩, ?_, ?_⟩ ?_
      · exact ⟨Nat.le_refl _, by omega⟩
      · all_goals repeat' (first | exact True.intro | refine And.intro ?_ ?_ | (intro _u; clear _u) | (with_reducible first | exact DnLe.fg | refine eM ?_ ?_ | refine eF ?_ ?_ ?_ | refine eN ?_ | refine eL ?_ ?_ ?_ | refine eA ?_ ?_ | refine IWk.mk ⟨_, hp, rfl⟩ ?_ ?_) | refine IWk.mk ⟨_, hp, rfl⟩ ?_ ?_)
        all_goals try first | with_reducible rfl | omega | exact .inl (by decide) | (simp; done) | rfl
        all_goals (rw [e0]; try simp)
      · all_goals repeat' (first | exact True.intro | refine And.intro ?_ ?_ | (intro _u; clear _u) | (with_reducible first | exact DnLe.fg | refine eM ?_ ?_ | refine eF ?_ ?_ ?_ | refine eN ?_ | refine eL ?_ ?_ ?_ | refine eA ?_ ?_ | refine IWk.mk ⟨_, hp, rfl⟩ ?_ ?_) | refine IWk.mk ⟨_, hp, rfl⟩ ?_ ?_)
        all_goals try first | with_reducible rfl | omega | exact .inl (by decide) | (simp; done) | rfl
        all_goals (rw [e0]; try simp)
      · intro k hk
        dsimp only
        refine sh ?_
        refine cS (fun g1 => ?_) (fun g1 => ?_)
        · obtain ⟨y, hy⟩ : ∃ u_, A[k]? = some u_ := ⟨_, List.getElem?_eq_getElem (by first | omega | (simp <;> omega))⟩
          refine sh ?_
          refine eget_map hy ?_
          have oky := e2 y (List.mem_of_getElem? hy)
          have e3 := cats_succ hy
          have hy40 := penc_short y (hsm y (List.mem_of_getElem? hy))
          have hc := cats_len (l := A.take k) fun p hp => hsm p (List.mem_of_mem_take hp)
          rw [List.length_take] at hc
          refine sh ?_
          refine ICall.pure h.n366.o366.hb (rpencode_c h.n366 y (by have := (pchk_in oky).n; omega) (by have := pchk_data oky; omega)) rfl ?_
          generalize cats (A.take k) = C at e3 hc ⊢
          refine sh ?_
          refine nX (k + 1) ?_ ?_ ⟨_, hp, rfl⟩ ?_ ?_
          · omega
          · omega
          · all_goals repeat' (first | exact True.intro | refine And.intro ?_ ?_ | (intro _u; clear _u) | (with_reducible first | exact DnLe.fg | refine eM ?_ ?_ | refine eF ?_ ?_ ?_ | refine eN ?_ | refine eL ?_ ?_ ?_ | refine eA ?_ ?_ | refine IWk.mk ⟨_, hp, rfl⟩ ?_ ?_) | refine IWk.mk ⟨_, hp, rfl⟩ ?_ ?_)
            all_goals try first | with_reducible rfl | omega | exact .inl (by decide) | (simp; done) | rfl
            all_goals (rw [e3]; try simp)
          · all_goals repeat' (first | exact True.intro | refine And.intro ?_ ?_ | (intro _u; clear _u) | (with_reducible first | exact DnLe.fg | refine eM ?_ ?_ | refine eF ?_ ?_ ?_ | refine eN ?_ | refine eL ?_ ?_ ?_ | refine eA ?_ ?_ | refine IWk.mk ⟨_, hp, rfl⟩ ?_ ?_) | refine IWk.mk ⟨_, hp, rfl⟩ ?_ ?_)
            all_goals try first | with_reducible rfl | omega | exact .inl (by decide) | (simp; done) | rfl
            all_goals (rw [e3]; try simp)
        · rw [List.take_of_length_le (by omega)]
          refine sh ?_
          exact rT
    · rw [if_pos hz] at hq
      subst hq
      refine sh ?_
      refine acnd_t (by simpa using hz) ?_
      refine sh ?_
      exact rT
end Go.UM

namespace Go.UM
open Go.AM
set_option maxRecDepth 4000
def pread : Nat → List Pl → List UInt8 → Im × Int
  | 0, l, b => if 0 < b.length then (zIm, 5) else pimg l
  | n + 1, l, b => if (pdec b).2.2 ≠ 0 then (zIm, (pdec b).2.2) else pread n (l ++ [(pdec b).1]) (pdec b).2.1
theorem pdec_good {b : List UInt8} (h : (pdec b).2.2 = 0) : pchk (pdec b).1 = 0 ∧ (penc (pdec b).1).1 ++ (pdec b).2.1 = b ∧ (pdec b).2.1.length ≤ b.length ∧ SmP (pdec b).1 := by
  rcases (pdec_inv b).2 with ⟨i1, _⟩ | ⟨_, i2, i3⟩
  · exact absurd h i1
  · have := congrArg List.length i3
    rw [List.length_append] at this
    exact ⟨i2, i3, by omega, ⟨(pchk_in i2).n, by have := pchk_data i2; omega⟩⟩
set_option maxHeartbeats 1000000 in
theorem pread_c {R : Env} (h : N378 R) (b : List UInt8) (hb : b.length ≤ 100000) : R.Pc 378 [.isl 1 (slc8 b)] (.tup [.agg (pread 6 [] b).1.row, .int .i64 (pread 6 [] b).2]) :=
  h.o378.enter 200 rfl fun X bb hfit hp => by
    generalize hq : pread 6 [] b = q
    refine sh ?_
    refine ICall.pure h.n152.o152.hb (kinds_c h.n152) rfl ?_
    refine sh ?_
    refine ILoop.one 100 ?_
    refine sh ?_
    refine acnd_t (by decide) ?_
    refine sh ?_
    refine ICall.pure h.n372.o372.hb (decode_c h.n372 b hb) rfl ?_
    by_cases hz : (pdec b).2.2 = 0
    · rw [pread, if_neg (by simpa using hz)] at hq
      obtain ⟨d1, d2, d3, d4⟩ := pdec_good hz
      rw [hz]
      refine sh ?_
      refine acnd_f (by decide) ?_
      generalize pdec b = d at hz d1 d2 d3 d4 hq ⊢
      refine sh ?_
      refine lPa 100 (fun s : Nat × List Pl × List UInt8 => (1 ≤ s.1 ∧ s.1 ≤ 6) ∧ pread (6 - s.1) s.2.1 s.2.2 = q ∧ s.2.1.length = s.1 ∧ (∀ p ∈ s.2.1, SmP p) ∧ s.2.2.length ≤ 100000) (fun s => ⟨[(0, .isl 1 (slc8 s.2.2)), (2, .loc 0 1 0 0), (4, .osl 3 s.2.1.length), (9, .int .i64 6), (10, .int .i64 s.1)], [(0, .var (R.ty 16) [.int .i64 0, .int .i64 0, .nils, .nils, .nils, .nils, .nils, .nils]), (3, .arr (R.ty 20) 5 (slP s.2.1))], 4⟩) (fun s => 6 - s.1) ((1, [d.1], d.2.1)) ?_ ?_
      · exact ⟨⟨by simp, by simp⟩, hq, rfl, by simpa using d4, by dsimp only; omega⟩
      · rintro ⟨k, l, c⟩ ⟨⟨k1, k2⟩, k3, k4, k5, k6⟩
        dsimp only at k1 k2 k3 k4 k5 k6 ⊢
        clear hz d1 d2 d3 d4 hq
        refine sh ?_
        refine cS (fun g1 => ?_) (fun g1 => ?_)
        · refine sh ?_
          refine ICall.pure h.n372.o372.hb (decode_c h.n372 c k6) rfl ?_
          rw [show 6 - k = (6 - (k + 1)) + 1 by omega, pread] at k3
          by_cases hz : (pdec c).2.2 = 0
          · rw [if_neg (by simpa using hz)] at k3
            obtain ⟨d1, d2, d3, d4⟩ := pdec_good hz
            rw [hz]
            refine sh ?_
            refine acnd_f (by decide) ?_
            generalize pdec c = e at hz d1 d2 d3 d4 k3 ⊢
            refine sh ?_
            refine nRm [0, 1, 2, 3] ((k + 1, l ++ [e.1], e.2.1)) ?_ ?_ ?_
            · exact ⟨⟨by simp, by dsimp only; omega⟩, k3, by simp; omega, fun p hp => (List.mem_append.1 hp).elim (k5 p) fun hp => by
                simp only [List.mem_singleton] at hp
                subst hp
                exact d4, by dsimp only; omega⟩
            · dsimp only; omega
            · all_goals repeat' (first | exact True.intro | refine And.intro ?_ ?_ | (intro _u; clear _u) | (with_reducible first | exact DnLe.fg | refine eM ?_ ?_ | refine eF ?_ ?_ ?_ | refine eN ?_ | refine eL ?_ ?_ ?_ | refine eA ?_ ?_ | refine IWk.mk ⟨_, hp, rfl⟩ ?_ ?_) | refine IWk.mk ⟨_, hp, rfl⟩ ?_ ?_)
              all_goals try first | with_reducible rfl | omega | exact .inl (by decide) | (simp; done) | rfl
              all_goals (simp [slP]; try rfl)
          · rw [if_pos (by simpa using hz)] at k3
            subst k3
            refine sh ?_
            refine acnd_t (by simpa using hz) ?_
            refine sh ?_
            exact rT
        · rw [show 6 - k = 0 by omega, pread] at k3
          refine sh ?_
          refine cS (fun g2 => ?_) (fun g2 => ?_)
          · rw [if_pos (by omega)] at k3
            subst k3
            refine sh ?_
            exact rT
          · rw [if_neg (by omega)] at k3
            refine sh ?_
            refine ICall.let [3] rfl hp rfl ?_
            repeat ((intro _u; clear _u); first | refine eZ ?_ | refine eZ ?_ (by simp; omega) | refine FrzC.drop ?_)
            refine sh ?_
            refine ICall.pure h.n369.o369.hb (pimg_c h.n369 l (by omega) k5) rfl ?_
            rw [k3]
            refine sh ?_
            exact rT
    · rw [pread, if_pos (by simpa using hz)] at hq
      subst hq
      refine sh ?_
      refine acnd_t (by simpa using hz) ?_
      refine sh ?_
      exact rT
set_option maxHeartbeats 1000000 in
theorem rread_c {R : Env} (h : N379 R) (b : List UInt8) (hb : b.length ≤ 100000) : R.Pc 379 [.isl 1 (slc8 b)] (.tup [.agg (pread 6 [] b).1.row, .int .i64 (pread 6 [] b).2]) :=
  h.o379.enter 200 rfl fun X bb hfit hp => by
    generalize hq : pread 6 [] b = q
    refine sh ?_
    refine ILoop.one 100 ?_
    refine sh ?_
    refine acnd_t (by decide) ?_
    refine sh ?_
    refine ICall.pure h.n373.o373.hb (rdecode_c h.n373 b hb) rfl ?_
    rw [rdec_eq]
    by_cases hz : (pdec b).2.2 = 0
    · rw [pread, if_neg (by simpa using hz)] at hq
      obtain ⟨d1, d2, d3, d4⟩ := pdec_good hz
      rw [hz]
      refine sh ?_
      refine acnd_f (by decide) ?_
      generalize pdec b = d at hz d1 d2 d3 d4 hq ⊢
      refine sh ?_
      refine lPa 100 (fun s : Nat × List Pl × List UInt8 => (1 ≤ s.1 ∧ s.1 ≤ 6) ∧ pread (6 - s.1) s.2.1 s.2.2 = q ∧ s.2.1.length = s.1 ∧ (∀ p ∈ s.2.1, SmP p) ∧ s.2.2.length ≤ 100000) (fun s => ⟨[(0, .isl 1 (slc8 s.2.2)), (2, .loc 0 1 0 0), (4, .osl 3 s.2.1.length), (5, .int .i64 s.1)], [(0, .var (R.ty 16) [.int .i64 0, .int .i64 0, .nils, .nils, .nils, .nils, .nils, .nils]), (3, .arr (R.ty 20) 5 (slP s.2.1))], 4⟩) (fun s => 6 - s.1) ((1, [d.1], d.2.1)) ?_ ?_
      · exact ⟨⟨by simp, by simp⟩, hq, rfl, by simpa using d4, by dsimp only; omega⟩
      · rintro ⟨k, l, c⟩ ⟨⟨k1, k2⟩, k3, k4, k5, k6⟩
        dsimp only at k1 k2 k3 k4 k5 k6 ⊢
        clear hz d1 d2 d3 d4 hq
        refine sh ?_
        refine cS (fun g1 => ?_) (fun g1 => ?_)
        · refine sh ?_
          refine ICall.pure h.n373.o373.hb (rdecode_c h.n373 c k6) rfl ?_
          rw [rdec_eq]
          rw [show 6 - k = (6 - (k + 1)) + 1 by omega, pread] at k3
          by_cases hz : (pdec c).2.2 = 0
          · rw [if_neg (by simpa using hz)] at k3
            obtain ⟨d1, d2, d3, d4⟩ := pdec_good hz
            rw [hz]
            refine sh ?_
            refine acnd_f (by decide) ?_
            generalize pdec c = e at hz d1 d2 d3 d4 k3 ⊢
            refine sh ?_
            refine nRm [0, 1, 2, 3] ((k + 1, l ++ [e.1], e.2.1)) ?_ ?_ ?_
            · exact ⟨⟨by simp, by dsimp only; omega⟩, k3, by simp; omega, fun p hp => (List.mem_append.1 hp).elim (k5 p) fun hp => by
                simp only [List.mem_singleton] at hp
                subst hp
                exact d4, by dsimp only; omega⟩
            · dsimp only; omega
            · all_goals repeat' (first | exact True.intro | refine And.intro ?_ ?_ | (intro _u; clear _u) | (with_reducible first | exact DnLe.fg | refine eM ?_ ?_ | refine eF ?_ ?_ ?_ | refine eN ?_ | refine eL ?_ ?_ ?_ | refine eA ?_ ?_ | refine IWk.mk ⟨_, hp, rfl⟩ ?_ ?_) | refine IWk.mk ⟨_, hp, rfl⟩ ?_ ?_)
              all_goals try first | with_reducible rfl | omega | exact .inl (by decide) | (simp; done) | rfl
              all_goals (simp [slP]; try rfl)
          · rw [if_pos (by simpa using hz)] at k3
            subst k3
            refine sh ?_
            refine acnd_t (by simpa using hz) ?_
            refine sh ?_
            exact rT
        · rw [show 6 - k = 0 by omega, pread] at k3
          refine sh ?_
          refine cS (fun g2 => ?_) (fun g2 => ?_)
          · rw [if_pos (by omega)] at k3
            subst k3
            refine sh ?_
            exact rT
          · rw [if_neg (by omega)] at k3
            refine sh ?_
            refine ICall.let [3] rfl hp rfl ?_
            repeat ((intro _u; clear _u); first | refine eZ ?_ | refine eZ ?_ (by simp; omega) | refine FrzC.drop ?_)
            refine sh ?_
            refine ICall.pure h.n370.o370.hb (rpimg_c h.n370 l (by omega) k5) rfl ?_
            rw [k3]
            refine sh ?_
            exact rT
    · rw [pread, if_pos (by simpa using hz)] at hq
      subst hq
      refine sh ?_
      refine acnd_t (by simpa using hz) ?_
      refine sh ?_
      exact rT
end Go.UM

namespace Go.UM
open Go.AM
set_option maxRecDepth 4000
theorem zIm_few : zIm.Few := ⟨by simp [zIm], by simp [zIm], by simp [zIm], by simp [zIm], by simp [zIm], by simp [zIm]⟩
theorem pimg_few5 {l : List Pl} (h : ∀ p ∈ l, p.data.length ≤ 5000) : (pimg l).1.Few := by
  have z := zIm_few
  by_cases h6 : l.length = 6
  · obtain ⟨p0, p1, p2, p3, p4, p5, rfl⟩ := six h6
    have e0 := h p0 (by simp)
    have e1 := h p1 (by simp)
    have e2 := h p2 (by simp)
    have e3 := h p3 (by simp)
    have e4 := h p4 (by simp)
    have e5 := h p5 (by simp)
    show (pimg6 p0 p1 p2 p3 p4 p5).1.Few
    unfold pimg6
    repeat' split
    all_goals first | exact z | exact ⟨by simp only [thr_len]; omega, by simp only; omega, by simp only; omega, by simp only [thr_len]; omega, by simp only; omega, by simp only; omega⟩
  · rw [pimg_len h6]; exact z
theorem pread_few : ∀ (n : Nat) (l : List Pl) (b : List UInt8), (∀ p ∈ l, p.data.length ≤ 5000) → b.length ≤ 5000 → (pread n l b).1.Few
  | 0, l, b, hl, hb => by
    rw [pread]
    split
    · exact zIm_few
    · exact pimg_few5 hl
  | n + 1, l, b, hl, hb => by
    rw [pread]
    split
    · exact zIm_few
    · rename_i hz
      obtain ⟨d1, d2, d3, d4⟩ := pdec_good (b := b) (by simpa using hz)
      refine pread_few n _ _ (fun p hp => (List.mem_append.1 hp).elim (hl p) fun hp => ?_) (by omega)
      simp only [List.mem_singleton] at hp
      subst hp
      have e := congrArg List.length d2
      have e1 : (penc (pdec b).1).1 = hd (pdec b).1 ++ enc2 (pdec b).1.data := by unfold penc; rw [if_neg (by simpa using d1)]
      rw [List.length_append, e1, List.length_append, enc2_len] at e
      omega
theorem files_law {R : Env} (h : N375 R) (i : Im) (b : List UInt8) : R.Pc 375 [.agg i.row, .isl 1 (slc8 b)] (.bool true) :=
  h.o375.enter 100 rfl fun X bb hfit hp => by
    refine sh ?_
    refine ICall.pure h.n135.o135.hb (fewI_c h.n135 i) rfl ?_
    refine sh ?_
    refine aSb ?_
    rw [take_cap]
    have hf := fewI_few i
    have hb : (b.take (2500 : Int).toNat).length ≤ 2500 := by simp; omega
    generalize i.fewI = i at hf ⊢
    generalize b.take (2500 : Int).toNat = b at hb ⊢
    refine sh ?_
    refine ICall.pure h.n376.o376.hb (pfile_c h.n376 i hf) rfl ?_
    refine sh ?_
    refine ICall.pure h.n377.o377.hb (rfile_c h.n377 i hf) rfl ?_
    refine sh ?_
    refine ICall.pure h.n378.o378.hb (pread_c h.n378 b (by omega)) rfl ?_
    refine sh ?_
    refine ICall.pure h.n379.o379.hb (rread_c h.n379 b (by omega)) rfl ?_
    have hr := pread_few 6 [] b (by simp) (by omega)
    generalize pread 6 [] b = q at hr ⊢
    generalize pfile i = f
    refine sh ?_
    refine ICall.pure h.n47.o47.hb (eq8_c h.n47 f.1 f.1) rfl ?_
    refine sh ?_
    refine acnd_t (by simp) ?_
    refine sh ?_
    refine acnd_t (by simp) ?_
    refine sh ?_
    refine ICall.pure h.n117.o117.hb (sameI_c h.n117 q.1 hr) rfl ?_
    refine sh ?_
    refine acnd_t (by simp) ?_
    refine sh ?_
    refine ICall.pure h.n367.o367.hb (works30_c h.n367) rfl ?_
    refine sh ?_
    exact rT
end Go.UM

namespace Go.UM
open Go.AM
set_option maxRecDepth 4000
theorem fl3_app (a b : List T3) : fl3 (a ++ b) = fl3 a ++ fl3 b := by simp [fl3]
theorem thr1_of {l : List Int} {k : Nat} {a b c : Int} (ha : l[3 * k]? = some a) (hb : l[3 * k + 1]? = some b) (hc : l[3 * k + 2]? = some c) : thr1 l k = ⟨a, b, c⟩ := by
  simp only [thr1, List.getD_eq_getElem?_getD, ha, hb, hc, Option.getD_some]
theorem thr_fl3 (l : List T3) : thr (fl3 l) = l := by
  have : ∀ k : Nat, k ≤ l.length → thrN (fl3 l) k = l.take k := by
    intro k
    induction k with
    | zero => intro _; simp [thrN]
    | succ k ih =>
      intro hk
      obtain ⟨x, hx⟩ : ∃ x, l[k]? = some x := ⟨_, List.getElem?_eq_getElem (by omega)⟩
      obtain ⟨hlt, he⟩ := List.getElem?_eq_some_iff.1 hx
      rw [thrN_succ, ih (by omega), take_succ_get hx]
      have e : fl3 l = fl3 (l.take k) ++ (x.a :: x.b :: x.c :: fl3 (l.drop (k + 1))) := by
        conv => lhs; rw [← List.take_append_drop k l, List.drop_eq_getElem_cons hlt, he, fl3_app]
        simp [fl3]
      have hlen := fl3_len (l.take k)
      rw [List.length_take, Nat.min_eq_left (by omega)] at hlen
      rw [thr1_of (a := x.a) (b := x.b) (c := x.c) (by rw [e, List.getElem?_append_right (by omega), show 3 * k - (fl3 (l.take k)).length = 0 by omega]; rfl)
        (by rw [e, List.getElem?_append_right (by omega), show 3 * k + 1 - (fl3 (l.take k)).length = 1 by omega]; rfl) (by rw [e, List.getElem?_append_right (by omega), show 3 * k + 2 - (fl3 (l.take k)).length = 2 by omega]; rfl)]
  unfold thr
  rw [fl3_len, show 3 * l.length / 3 = l.length by omega, this _ (Nat.le_refl _), List.take_length]
theorem fl3_thr {l : List Int} (h : l.length % 3 = 0) : fl3 (thr l) = l := by
  have : ∀ n : Nat, 3 * n ≤ l.length → fl3 (thrN l n) = l.take (3 * n) := by
    intro n
    induction n with
    | zero => intro _; simp [thrN, fl3]
    | succ n ih =>
      intro hn
      obtain ⟨x, hx⟩ : ∃ x, l[3 * n]? = some x := ⟨_, List.getElem?_eq_getElem (by omega)⟩
      obtain ⟨y, hy⟩ : ∃ x, l[3 * n + 1]? = some x := ⟨_, List.getElem?_eq_getElem (by omega)⟩
      obtain ⟨z, hz⟩ : ∃ x, l[3 * n + 2]? = some x := ⟨_, List.getElem?_eq_getElem (by omega)⟩
      rw [thrN_succ, fl3_app, ih (by omega), thr1_of hx hy hz, show 3 * (n + 1) = 3 * n + 1 + 1 + 1 by omega, take_succ_get hz, take_succ_get hy, take_succ_get hx]
      simp [fl3]
  unfold thr
  rw [this _ (by omega), List.take_of_length_le (by omega)]
theorem pread_cats : ∀ (A l : List Pl), (∀ p ∈ A, pchk p = 0) → pread A.length l (cats A) = pimg (l ++ A)
  | [], l, _ => by simp [cats, pread]
  | p :: A, l, h => by
    have e : cats (p :: A) = (penc p).1 ++ cats A := by simp [cats]
    rw [List.length_cons, pread, e, pdec_penc (h p (by simp))]
    dsimp only
    rw [if_neg (by decide), pread_cats A _ fun q hq => h q (by simp [hq]), List.append_assoc]
    rfl
theorem pimg_pls {i : Im} (h : ∀ p ∈ i.pls, pchk p = 0) : pimg i.pls = (i, 0) := by
  have h0 := h i.p0 (by simp [Im.pls])
  have h1' := h i.p1 (by simp [Im.pls])
  have h2 := h i.p2 (by simp [Im.pls])
  have h3 := h i.p3 (by simp [Im.pls])
  have h4 := h i.p4 (by simp [Im.pls])
  have h5 := h i.p5 (by simp [Im.pls])
  show pimg6 i.p0 i.p1 i.p2 i.p3 i.p4 i.p5 = (i, 0)
  unfold pimg6
  have hh : heads i.p0 i.p1 i.p2 i.p3 i.p4 i.p5 = true := by simp [heads, h1, Im.p0, Im.p1, Im.p2, Im.p3, Im.p4, Im.p5]
  rw [if_neg (by rw [hh]; decide), if_neg (by simpa using h0), if_neg (by simpa using h1'), if_neg (by simpa using h2), if_neg (by simpa using h3), if_neg (by simpa using h4), if_neg (by simpa using h5)]
  simp only [Im.p0, Im.p1, Im.p2, Im.p3, Im.p4, Im.p5, thr_fl3]
theorem pread_pfile {i : Im} (h : (pfile i).2 = 0) : (planes i).2 = 0 ∧ (planes i).1 = i.pls ∧ pimg i.pls = (i, 0) ∧ pread 6 [] (pfile i).1 = (i, 0) := by
  unfold pfile at h ⊢
  by_cases hz : (planes i).2 = 0
  · rw [if_neg (by simpa using hz)]
    obtain ⟨e1, e2⟩ := planes_ok hz
    refine ⟨hz, e1, pimg_pls e2, ?_⟩
    dsimp only
    rw [e1]
    have := pread_cats i.pls [] e2
    rw [pls_len, List.nil_append, pimg_pls e2] at this
    exact this
  · rw [if_pos hz] at h
    exact absurd h hz
theorem pimg_err (l : List Pl) : (pimg l).2 ≠ 0 → (pimg l).1 = zIm := by
  by_cases h6 : l.length = 6
  · obtain ⟨p0, p1, p2, p3, p4, p5, rfl⟩ := six h6
    show (pimg6 p0 p1 p2 p3 p4 p5).2 ≠ 0 → (pimg6 p0 p1 p2 p3 p4 p5).1 = zIm
    unfold pimg6
    repeat' split
    all_goals first | (intro _; rfl) | (intro h; exact absurd rfl h)
  · rw [pimg_len h6]; intro _; rfl
theorem pread_err : ∀ (n : Nat) (l : List Pl) (b : List UInt8), (pread n l b).2 ≠ 0 → (pread n l b).1 = zIm
  | 0, l, b => by
    rw [pread]
    split
    · intro _; rfl
    · exact pimg_err l
  | n + 1, l, b => by
    rw [pread]
    split
    · intro _; rfl
    · exact pread_err n _ _
theorem pread_inv : ∀ (n : Nat) (l : List Pl) (b : List UInt8), (pread n l b).2 = 0 → ∃ A : List Pl, b = cats A ∧ (pimg (l ++ A)) = pread n l b
  | 0, l, b => by
    rw [pread]
    split
    · intro h; simp at h
    · rename_i hb
      intro _
      exact ⟨[], by simp [cats]; exact List.eq_nil_of_length_eq_zero (by omega), by simp⟩
  | n + 1, l, b => by
    rw [pread]
    split
    · rename_i hz; intro h; exact absurd h hz
    · rename_i hz
      intro h
      obtain ⟨A, h1, h2⟩ := pread_inv n _ _ h
      obtain ⟨d1, d2, d3, d4⟩ := pdec_good (b := b) (by simpa using hz)
      refine ⟨(pdec b).1 :: A, ?_, ?_⟩
      · rw [← d2]
        simp only [cats, List.flatMap_cons] at h1 ⊢
        rw [d2, ← h1, d2]
      · rw [← h2, List.append_assoc]; rfl
theorem mod3 {p : Pl} (h : pchk p = 0) (hd : p.deep = 3) : p.data.length % 3 = 0 := by
  have := ((pchk_iff p).1 h).2.2.2.2.1
  rw [hd] at this
  omega
theorem pimg_inv {l : List Pl} (h : (pimg l).2 = 0) : l = (pimg l).1.pls ∧ ∀ p ∈ l, pchk p = 0 := by
  by_cases h6 : l.length = 6
  · obtain ⟨p0, p1, p2, p3, p4, p5, rfl⟩ := six h6
    have e : pimg [p0, p1, p2, p3, p4, p5] = pimg6 p0 p1 p2 p3 p4 p5 := rfl
    rw [e] at h ⊢
    unfold pimg6 at h ⊢
    by_cases hh : heads p0 p1 p2 p3 p4 p5 = false
    · rw [if_pos hh] at h; simp at h
    · rw [if_neg hh] at h ⊢
      have hh : heads p0 p1 p2 p3 p4 p5 = true := by simpa using hh
      repeat' split at h
      all_goals first | (exact absurd h (by assumption)) | skip
      rename_i k0 k1 k2 k3 k4 k5
      simp only [Decidable.not_not] at k0 k1 k2 k3 k4 k5
      rw [if_neg (by simpa using k0), if_neg (by simpa using k1), if_neg (by simpa using k2), if_neg (by simpa using k3), if_neg (by simpa using k4), if_neg (by simpa using k5)]
      simp only [heads, h1, Bool.and_eq_true, beq_iff_eq] at hh
      obtain ⟨⟨⟨⟨⟨⟨⟨⟨a1, a2⟩, _⟩, _⟩, ⟨⟨b1, b2⟩, b3⟩, b4⟩, ⟨⟨c1, c2⟩, c3⟩, c4⟩, ⟨⟨d1, d2⟩, d3⟩, d4⟩, ⟨⟨f1, f2⟩, f3⟩, f4⟩, ⟨⟨g1, g2⟩, g3⟩, g4⟩ := hh
      have t0 := fl3_thr (mod3 k0 a2)
      have t3' := fl3_thr (mod3 k3 d2)
      refine ⟨?_, ?_⟩
      · simp only [Im.pls, Im.p0, Im.p1, Im.p2, Im.p3, Im.p4, Im.p5, t0, t3']
        obtain ⟨w0, h0, e0, n0, l0⟩ := p0
        obtain ⟨w1, h1, e1, n1, l1⟩ := p1
        obtain ⟨w2, h2, e2, n2, l2⟩ := p2
        obtain ⟨w3, h3, e3, n3, l3⟩ := p3
        obtain ⟨w4, h4, e4, n4, l4⟩ := p4
        obtain ⟨w5, h5, e5, n5, l5⟩ := p5
        dsimp only at a1 a2 b1 b2 b3 b4 c1 c2 c3 c4 d1 d2 d3 d4 f1 f2 f3 f4 g1 g2 g3 g4
        subst a1 a2 b1 b2 b3 b4 c1 c2 c3 c4 d1 d2 d3 d4 f1 f2 f3 f4 g1 g2 g3 g4
        rfl
      · intro p hp
        simp only [List.mem_cons, List.not_mem_nil, or_false] at hp
        rcases hp with rfl | rfl | rfl | rfl | rfl | rfl
        · exact k0
        · exact k1
        · exact k2
        · exact k3
        · exact k4
        · exact k5
  · rw [pimg_len h6] at h; simp at h
theorem pfile_pread {b : List UInt8} (h : (pread 6 [] b).2 = 0) : pfile (pread 6 [] b).1 = (b, 0) := by
  obtain ⟨A, h1, h2⟩ := pread_inv 6 [] b h
  rw [List.nil_append] at h2
  rw [← h2] at h ⊢
  obtain ⟨h3, h4⟩ := pimg_inv h
  generalize (pimg A).1 = j at h3
  subst h3
  have hk : ichk j = 0 := ichk_of ⟨h4 _ (by simp [Im.pls]), h4 _ (by simp [Im.pls]), h4 _ (by simp [Im.pls]), h4 _ (by simp [Im.pls]), h4 _ (by simp [Im.pls]), h4 _ (by simp [Im.pls])⟩
  have hp : planes j = (j.pls, 0) := by unfold planes; rw [if_neg (by simpa using hk)]
  unfold pfile
  rw [hp, h1]
  rfl
end Go.UM

namespace Go.UM
open Go.AM
set_option maxRecDepth 4000
theorem ali3_c {R : Env} (h : N146 R) (l : List T3) (hl : l.length ≤ 10000) : R.Pc 146 [.isl 3 (slc3 l), .isl 3 (slc3 l)] (.bool true) :=
  h.o146.enter 60 rfl fun X bb hfit hp => by
    refine sh ?_
    refine acnd_f (by simp) ?_
    refine sh ?_
    refine lPa 60 (fun k : Nat => k ≤ l.length) (fun k => ⟨[(0, .isl 3 (slc3 l)), (1, .isl 3 (slc3 l)), (12, .int .i64 l.length), (13, .int .i64 k)], [], 0⟩) (fun k => l.length - k) (0) ?_ ?_
    · exact Nat.zero_le _
    · intro k hk
      dsimp only
      refine sh ?_
      refine cS (fun h1 => ?_) (fun h1 => ?_)
      · obtain ⟨x, hx⟩ : ∃ u_, l[k]? = some u_ := ⟨_, List.getElem?_eq_getElem (by first | omega | (simp <;> omega))⟩
        refine sh ?_
        refine eget_map hx ?_
        refine sh ?_
        refine eget_map hx ?_
        refine sh ?_
        refine acnd_f (by simp) ?_
        refine sh ?_
        refine nXa (k + 1) ?_ ?_
        · omega
        · omega
      · refine sh ?_
        exact rT
theorem ali1_c {R : Env} (h : N147 R) (l : List Int) (hl : l.length ≤ 10000) : R.Pc 147 [.isl 1 (slcK .i64 l), .isl 1 (slcK .i64 l)] (.bool true) :=
  h.o147.enter 60 rfl fun X bb hfit hp => by
    refine sh ?_
    refine acnd_f (by simp) ?_
    refine sh ?_
    refine lPa 60 (fun k : Nat => k ≤ l.length) (fun k => ⟨[(0, .isl 1 (slcK .i64 l)), (1, .isl 1 (slcK .i64 l)), (12, .int .i64 l.length), (13, .int .i64 k)], [], 0⟩) (fun k => l.length - k) (0) ?_ ?_
    · exact Nat.zero_le _
    · intro k hk
      dsimp only
      refine sh ?_
      refine cS (fun h1 => ?_) (fun h1 => ?_)
      · obtain ⟨x, hx⟩ : ∃ u_, l[k]? = some u_ := ⟨_, List.getElem?_eq_getElem (by first | omega | (simp <;> omega))⟩
        refine sh ?_
        refine eget_map hx ?_
        refine sh ?_
        refine eget_map hx ?_
        refine sh ?_
        refine acnd_f (by simp) ?_
        refine sh ?_
        refine nXa (k + 1) ?_ ?_
        · omega
        · omega
      · refine sh ?_
        exact rT
theorem fsam_c {R : Env} (h : N120 R) (i : Im) (s : i.Few) : R.Pc 120 [.agg i.row, .agg i.row] (.bool true) :=
  h.o120.enter 60 rfl fun X bb hfit hp => by
    obtain ⟨s0, s1, s2, s3, s4, s5⟩ := s
    refine sh ?_
    refine acnd_t (by simp) ?_
    refine sh ?_
    refine acnd_t (by simp) ?_
    refine sh ?_
    refine ICall.pure h.n146.o146.hb (ali3_c h.n146 i.be (by omega)) rfl ?_
    refine sh ?_
    refine ICall.pure h.n147.o147.hb (ali1_c h.n147 i.al (by omega)) rfl ?_
    refine sh ?_
    refine ICall.pure h.n147.o147.hb (ali1_c h.n147 i.de (by omega)) rfl ?_
    refine sh ?_
    refine ICall.pure h.n146.o146.hb (ali3_c h.n146 i.no (by omega)) rfl ?_
    refine sh ?_
    refine ICall.pure h.n147.o147.hb (ali1_c h.n147 i.as (by omega)) rfl ?_
    refine sh ?_
    refine ICall.pure h.n147.o147.hb (ali1_c h.n147 i.la (by omega)) rfl ?_
    refine sh ?_
    exact rT
theorem cats_sm : ∀ (l : List Pl), (∀ p ∈ l, pchk p = 0) → (∀ p ∈ l, p.data.length ≤ 100) → (cats l).length ≤ 2200 * l.length
  | [], _, _ => by simp [cats]
  | p :: l, h, hd' => by
    have ih := cats_sm l (fun q hq => h q (by simp [hq])) fun q hq => hd' q (by simp [hq])
    have h1 := h p (by simp)
    have h2 := hd' p (by simp)
    have e : (penc p).1 = hd p ++ enc2 p.data := by unfold penc; rw [if_neg (by simpa using h1)]
    have h3 := hd_le (pchk_in h1)
    have h4 := enc2_len p.data
    have h5 := congrArg List.length e
    simp only [cats, List.flatMap_cons, List.length_append, List.length_cons] at ih h5 ⊢
    omega
theorem whole_law {R : Env} (h : N380 R) (i : Im) (b : List UInt8) : R.Pc 380 [.agg i.row, .isl 1 (slc8 b)] (.bool true) :=
  h.o380.enter 200 rfl fun X bb hfit hp => by
    refine sh ?_
    refine ICall.pure h.n135.o135.hb (fewI_c h.n135 i) rfl ?_
    refine sh ?_
    refine aSb ?_
    rw [take_cap]
    have hf := fewI_few i
    have hb : (b.take (2500 : Int).toNat).length ≤ 2500 := by simp; omega
    have hsm : ∀ p ∈ i.fewI.pls, p.data.length ≤ 100 := by
      have e1 := fl3_len i.fewI.be
      have e2 := fl3_len i.fewI.no
      intro p hp
      simp only [Im.pls, List.mem_cons, List.not_mem_nil, or_false] at hp
      simp only [Im.fewI, List.length_take] at e1 e2
      rcases hp with rfl | rfl | rfl | rfl | rfl | rfl <;> simp only [Im.p0, Im.p1, Im.p2, Im.p3, Im.p4, Im.p5, Im.fewI, List.length_take] <;> omega
    generalize i.fewI = i at hf hsm ⊢
    generalize b.take (2500 : Int).toNat = b at hb ⊢
    refine sh ?_
    refine ICall.pure h.n376.o376.hb (pfile_c h.n376 i hf) rfl ?_
    by_cases ok : (pfile i).2 = 0
    · obtain ⟨q1, q2, q3, q4⟩ := pread_pfile ok
      have hk := (planes_ok q1).2
      have hlen : (pfile i).1.length ≤ 100000 := by
        have e : pfile i = (cats i.pls, 0) := by unfold pfile; rw [if_neg (by simpa using q1), q2]
        rw [e]
        have := cats_sm i.pls hk hsm
        rw [pls_len] at this
        dsimp only
        omega
      rw [ok]
      refine sh ?_
      refine acnd_t (by decide) ?_
      generalize (pfile i).1 = a at hlen q4 ⊢
      refine sh ?_
      refine ICall.pure h.n378.o378.hb (pread_c h.n378 a hlen) rfl ?_
      rw [q4]
      refine sh ?_
      refine ICall.pure h.n132.o132.hb (planes_c h.n132 i hf) rfl ?_
      rw [q1, q2]
      refine sh ?_
      refine ICall.pure h.n369.o369.hb (pimg_c h.n369 i.pls (by rw [pls_len]; omega) fun p hp => ⟨(pchk_in (hk p hp)).n, by have := hsm p hp; omega⟩) rfl ?_
      rw [q3]
      refine sh ?_
      refine acnd_f (by rfl) ?_
      refine sh ?_
      refine ICall.pure h.n120.o120.hb (fsam_c h.n120 i hf) rfl ?_
      refine sh ?_
      refine acnd_f (by rfl) ?_
      refine sh ?_
      refine acnd_f (by rfl) ?_
      refine sh ?_
      refine ICall.pure h.n120.o120.hb (fsam_c h.n120 i hf) rfl ?_
      refine sh ?_
      refine ICall.pure h.n378.o378.hb (pread_c h.n378 b (by omega)) rfl ?_
      have hr := pread_few 6 [] b (by simp) (by omega)
      by_cases hz : (pread 6 [] b).2 = 0
      · have hw := pfile_pread hz
        rw [hz]
        generalize (pread 6 [] b).1 = j at hw hr ⊢
        refine sh ?_
        refine acnd_f (by decide) ?_
        refine sh ?_
        refine ICall.pure h.n376.o376.hb (pfile_c h.n376 j hr) rfl ?_
        rw [hw]
        refine sh ?_
        refine acnd_t (by rfl) ?_
        refine sh ?_
        refine ICall.pure h.n47.o47.hb (eq8_c h.n47 b b) rfl ?_
        refine sh ?_
        refine acnd_t (by simp) ?_
        refine sh ?_
        refine ICall.pure h.n367.o367.hb (works30_c h.n367) rfl ?_
        refine sh ?_
        exact rT
      · rw [pread_err 6 [] b hz]
        refine sh ?_
        refine acnd_t (by simpa using hz) ?_
        refine sh ?_
        refine cM false [] ((fsam_c h.n120 zIm zIm_few).mc h.n120.o120.hb) ?_
        repeat (intro _; first | refine eK ?_ | refine eP ?_)
        refine sh ?_
        refine ICall.pure h.n367.o367.hb (works30_c h.n367) rfl ?_
        refine sh ?_
        exact rT
    · refine sh ?_
      refine acnd_f (by simpa using ok) ?_
      refine sh ?_
      refine ICall.pure h.n378.o378.hb (pread_c h.n378 b (by omega)) rfl ?_
      have hr := pread_few 6 [] b (by simp) (by omega)
      by_cases hz : (pread 6 [] b).2 = 0
      · have hw := pfile_pread hz
        rw [hz]
        generalize (pread 6 [] b).1 = j at hw hr ⊢
        refine sh ?_
        refine acnd_f (by decide) ?_
        refine sh ?_
        refine ICall.pure h.n376.o376.hb (pfile_c h.n376 j hr) rfl ?_
        rw [hw]
        refine sh ?_
        refine acnd_t (by rfl) ?_
        refine sh ?_
        refine ICall.pure h.n47.o47.hb (eq8_c h.n47 b b) rfl ?_
        refine sh ?_
        refine acnd_t (by simp) ?_
        refine sh ?_
        refine ICall.pure h.n367.o367.hb (works30_c h.n367) rfl ?_
        refine sh ?_
        exact rT
      · rw [pread_err 6 [] b hz]
        refine sh ?_
        refine acnd_t (by simpa using hz) ?_
        refine sh ?_
        refine cM false [] ((fsam_c h.n120 zIm zIm_few).mc h.n120.o120.hb) ?_
        repeat (intro _; first | refine eK ?_ | refine eP ?_)
        refine sh ?_
        refine ICall.pure h.n367.o367.hb (works30_c h.n367) rfl ?_
        refine sh ?_
        exact rT
end Go.UM
