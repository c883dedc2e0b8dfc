/- Of the reckoning machine, and what is proved with it: texts joined by program. -/
import Derived.Test.YtfkakbaimadicaaU0
set_option linter.all false

/- The statements of chapter 11, part 3: there and back. -/

namespace Go.UM
open Go.AM
set_option maxRecDepth 4000

theorem u8_val (v : Int) : ((u8 v).toNat : Int) = v % 256 := by
  rw [← wr_u8]
  simp only [wr, IntKind.wrap, IntKind.bits, IntKind.signed]
  simp

theorem emod_step {x P : Int} (hP : 0 < P) : x % P + P * (x / P % 256) = x % (P * 256) := by
  have h1 : P * (x / P) + x % P = x := Int.mul_ediv_add_emod x P
  have h2 : 256 * (x / P / 256) + x / P % 256 = x / P := Int.mul_ediv_add_emod (x / P) 256
  have h3 := Int.emod_nonneg x (Int.ne_of_gt hP)
  have h4 := Int.emod_lt_of_pos x hP
  have h5 : 0 ≤ x / P % 256 := Int.emod_nonneg _ (by decide)
  have h6 : x / P % 256 < 256 := Int.emod_lt_of_pos _ (by decide)
  have e : x = (x % P + P * (x / P % 256)) + (P * 256) * (x / P / 256) := by
    have : P * (256 * (x / P / 256) + x / P % 256) + x % P = x := by rw [h2]; exact h1
    rw [Int.mul_add, ← Int.mul_assoc] at this
    omega
  have hb : 0 ≤ P * (x / P % 256) := Int.mul_nonneg (Int.le_of_lt hP) h5
  have hc : P * (x / P % 256) ≤ P * 255 := Int.mul_le_mul_of_nonneg_left (by omega) (Int.le_of_lt hP)
  rw [show x % (P * 256) = ((x % P + P * (x / P % 256)) + (P * 256) * (x / P / 256)) % (P * 256) from congrArg (· % (P * 256)) e, Int.add_mul_emod_self_left]
  exact (Int.emod_eq_of_lt (a := x % P + P * (x / P % 256)) (by omega) (by omega)).symm

theorem le_enc (x : Int) : ∀ w : Nat, ((le (enc w x) : Nat) : Int) = x % 256 ^ w
  | 0 => by simp [le, Int.emod_one]
  | w + 1 => by
    have hp : (0 : Int) < 256 ^ w := by have := pow_ge1 w; omega
    rw [enc_succ, le_snoc, enc_length, Int.natCast_add, Int.natCast_mul, le_enc x w, u8_val, Int.natCast_pow, Int.pow_succ]
    exact emod_step hp

theorem num_enc {w x : Int} {rest : List UInt8} (h1 : 1 ≤ w) (h2 : w ≤ 8) (hx : 0 ≤ x ∧ x < 256 ^ w.toNat) : (⟨enc w.toNat x ++ rest, 0, true⟩ : Rd).num w = (x.toNat, ⟨rest, 0, true⟩) := by
  unfold Rd.num
  rw [if_neg (by omega)]
  unfold Rd.take
  rw [if_neg (by simp), if_neg (by omega), if_neg (by simp; omega)]
  have e1 : (enc w.toNat x ++ rest).take w.toNat = enc w.toNat x := List.take_left' (by simp)
  have e2 : (enc w.toNat x ++ rest).drop w.toNat = rest := List.drop_left' (by simp)
  simp only [e1, e2]
  have h3 := le_enc x w.toNat
  rw [Int.emod_eq_of_lt hx.1 hx.2] at h3
  congr 1
  omega

theorem sx_mod {w x : Int} (h1 : 1 ≤ w) (h2 : w ≤ 8) (hx : ¬ (x < -(256 ^ w.toNat / 2) ∨ 256 ^ w.toNat / 2 ≤ x)) : sx w (x % 256 ^ w.toNat).toNat = x := by
  have hh := half_le h1 h2
  have e : ((256 : Int) ^ w.toNat) = ((256 ^ w.toNat : Nat) : Int) := by rw [Int.natCast_pow]; rfl
  unfold sx
  rw [e] at hh hx ⊢
  generalize 256 ^ w.toNat = P at hh hx ⊢
  by_cases h : 0 ≤ x
  · rw [Int.emod_eq_of_lt h (by omega), if_pos (by omega)]
    omega
  · have : x % (P : Int) = x + P := by
      rw [← Int.add_emod_right, Int.emod_eq_of_lt (by omega) (by omega)]
    rw [this, if_neg (by omega)]
    omega
theorem take_short {r : Rd} {w : Int} (hm : r.made = true) (he : r.e = 0) (h1 : 1 ≤ w) (h2 : w ≤ 8) : (r.num w).2.made = true ∧ ((w ≤ r.l.length ∧ (r.num w).2.e = 0 ∧ ((r.num w).2.l.length : Int) = r.l.length - w) ∨ (r.l.length < w ∧ (r.num w).2.e = 4)) := by
  unfold Rd.num
  rw [if_neg (by omega)]
  unfold Rd.take
  rw [if_neg (by simp [hm, he]), if_neg (by omega)]
  by_cases h : (r.l.length : Int) < w
  · rw [if_pos h]
    exact ⟨hm, .inr ⟨h, rfl⟩⟩
  · rw [if_neg h]
    refine ⟨hm, .inl ⟨by omega, he, ?_⟩⟩
    simp; omega

theorem drop_get {α : Type} {l : List α} {k : Nat} {x : α} (h : l[k]? = some x) : l.drop k = x :: l.drop (k + 1) := by
  obtain ⟨hk, rfl⟩ := List.getElem?_eq_some_iff.1 h
  exact List.drop_eq_getElem_cons hk

theorem mod_range {w : Int} (m : List Int) : ∀ x ∈ m.map (fun x => x % 256 ^ w.toNat), 0 ≤ x ∧ x < 256 ^ w.toNat := by
  intro x hx
  obtain ⟨y, _, rfl⟩ := List.mem_map.1 hx
  have hp := pow_ge1 w.toNat
  exact ⟨Int.emod_nonneg _ (by omega), Int.emod_lt_of_pos _ (by omega)⟩

theorem puts_in {b : List UInt8} {w : Int} {n : List Int} (h1 : 1 ≤ w) (h2 : w ≤ 8) (h : ∀ x ∈ n, 0 ≤ x ∧ x < 256 ^ w.toNat) : puts b w n = (b ++ n.flatMap (enc w.toNat), 0) :=
  puts_ok h1 h2 (by
    rw [List.any_eq_false]
    intro x hx
    have := h x hx
    simp; omega)

theorem back_law {R : Env} (h : N79 R) (n m : List Int) (w : Int) (hn : ∀ x ∈ n, inI .u64 x) (hm : ∀ x ∈ m, inI .i64 x) (hw : inI .i64 w) : R.Pc 79 [.isl 1 (slcK .u64 n), .isl 1 (slcK .i64 m), .int .i64 w] (.bool true) :=
  h.o79.enter 200 rfl fun X bb hfit hp => by
    simp only [inI] at hw
    have b1 := tmod_bound w (m := 8) (by decide)
    have b2 : 0 ≤ (w.tmod 8 + 8).tmod 8 ∧ (w.tmod 8 + 8).tmod 8 < 8 := ⟨Int.tmod_nonneg _ (by omega), Int.tmod_lt_of_pos _ (by decide)⟩
    repeat ((intro _u; clear _u); first | with_reducible first | refine cT ?_ | refine cF ?_ | refine cA ?_ | refine cB ?_ | refine aLn ?_ | refine cK ?_ | refine aS8 ?_ | refine wI ?_ | refine nD ?_ | refine aX rfl ?_)
    intro _u; clear _u
    refine asub_eq (by exact capK .u64 n 10) ?_
    repeat ((intro _u; clear _u); first | with_reducible first | refine cT ?_ | refine cF ?_ | refine cA ?_ | refine cB ?_ | refine aLn ?_ | refine cK ?_ | refine aS8 ?_ | refine wI ?_ | refine nD ?_ | refine aX rfl ?_)
    intro _u; clear _u
    refine asub_eq (by exact capK .i64 m 10) ?_
    generalize hv : (w.tmod 8 + 8).tmod 8 + 1 = v
    have hv1 : 1 ≤ v ∧ v ≤ 8 := by omega
    clear b1 b2 hv
    have hn' : (n.take (Int.toNat 10)).length ≤ 10 := by simp; omega
    have hm' : (m.take (Int.toNat 10)).length ≤ 10 := by simp; omega
    have hn : ∀ x ∈ n.take (Int.toNat 10), 0 ≤ x ∧ x ≤ 18446744073709551615 := fun x hx => hn x (List.mem_of_mem_take hx)
    have hm : ∀ x ∈ m.take (Int.toNat 10), inI .i64 x := fun x hx => hm x (List.mem_of_mem_take hx)
    generalize n.take (Int.toNat 10) = n at hn' hn ⊢
    generalize m.take (Int.toNat 10) = m at hm' hm ⊢
    repeat ((intro _u; clear _u); first | with_reducible first | refine cT ?_ | refine cF ?_ | refine cA ?_ | refine cB ?_ | refine aLn ?_ | refine cK ?_ | refine aS8 ?_ | refine wI ?_ | refine nD ?_ | refine aX rfl ?_)
    intro _u; clear _u
    refine cM false [] (put_c h.n54 [] v n (by simp; omega) hn) ?_
    repeat ((intro _u; clear _u); first | refine eK ?_ | refine eP ?_)
    by_cases hbad : n.any (fun x => decide (256 ^ v.toNat ≤ x)) = true
    · obtain ⟨x, hx, hxb⟩ := List.any_eq_true.1 hbad
      have hxb : 256 ^ v.toNat ≤ x := by simpa using hxb
      have hv8 : v < 8 := by
        have := hn x hx
        rcases (show v < 8 ∨ v = 8 by omega) with h | h
        · exact h
        · rw [h, show (256 : Int) ^ Int.toNat 8 = 18446744073709551616 by decide] at hxb
          omega
      rw [puts_bad hv1.1 hv1.2 hx hxb]
      repeat ((intro _u; clear _u); first | with_reducible first | refine cT ?_ | refine cF ?_ | refine cA ?_ | refine cB ?_ | refine aLn ?_ | refine cK ?_ | refine aS8 ?_ | refine wI ?_ | refine nD ?_ | refine aX rfl ?_)
      intro _u; clear _u
      refine acnd_t (by decide) ?_
      repeat ((intro _u; clear _u); first | with_reducible first | refine cT ?_ | refine cF ?_ | refine cA ?_ | refine cB ?_ | refine aLn ?_ | refine cK ?_ | refine aS8 ?_ | refine wI ?_ | refine nD ?_ | refine aX rfl ?_)
      intro _u; clear _u
      refine acnd_t (by decide) ?_
      repeat ((intro _u; clear _u); first | with_reducible first | refine cT ?_ | refine cF ?_ | refine cA ?_ | refine cB ?_ | refine aLn ?_ | refine cK ?_ | refine aS8 ?_ | refine wI ?_ | refine nD ?_ | refine aX rfl ?_)
      intro _u; clear _u
      refine acnd_t (by simpa using hv8) ?_
      repeat ((intro _u; clear _u); first | with_reducible first | refine cT ?_ | refine cF ?_ | refine cA ?_ | refine cB ?_ | refine aLn ?_ | refine cK ?_ | refine aS8 ?_ | refine wI ?_ | refine nD ?_ | refine aX rfl ?_)
      intro _u; clear _u
      refine acnd_t (by decide) ?_
      repeat ((intro _u; clear _u); first | with_reducible first | refine cT ?_ | refine cF ?_ | refine cA ?_ | refine cB ?_ | refine aLn ?_ | refine cK ?_ | refine aS8 ?_ | refine wI ?_ | refine nD ?_ | refine aX rfl ?_)
      intro _u; clear _u
      refine ICall.pure h.n73.o73.hb (works11_c h.n73) rfl ?_
      repeat ((intro _u; clear _u); first | with_reducible first | refine cT ?_ | refine cF ?_ | refine cA ?_ | refine cB ?_ | refine aLn ?_ | refine cK ?_ | refine aS8 ?_ | refine wI ?_ | refine nD ?_ | refine aX rfl ?_)
      intro _u; clear _u
      exact rT
    · have hbad' : n.any (fun x => decide (256 ^ v.toNat ≤ x)) = false := by simpa using hbad
      have hrange : ∀ x ∈ n, 0 ≤ x ∧ x < 256 ^ v.toNat := fun x hx => ⟨(hn x hx).1, by
        have := List.any_eq_false.1 hbad' x hx
        simpa using this⟩
      rw [puts_in hv1.1 hv1.2 hrange, List.nil_append]
      repeat ((intro _u; clear _u); first | with_reducible first | refine cT ?_ | refine cF ?_ | refine cA ?_ | refine cB ?_ | refine aLn ?_ | refine cK ?_ | refine aS8 ?_ | refine wI ?_ | refine nD ?_ | refine aX rfl ?_)
      intro _u; clear _u
      refine acnd_f (by rfl) ?_
      repeat ((intro _u; clear _u); first | with_reducible first | refine cT ?_ | refine cF ?_ | refine cA ?_ | refine cB ?_ | refine aLn ?_ | refine cK ?_ | refine aS8 ?_ | refine wI ?_ | refine nD ?_ | refine aX rfl ?_)
      intro _u; clear _u
      refine ICall.let [0] rfl hp rfl ?_
      repeat ((intro _u; clear _u); first | refine eZ ?_ | refine FrzC.drop ?_)
      refine ICall.tr ?_
      have hnl : (n.flatMap (enc v.toNat)).length = v.toNat * n.length := flatMap_len _ _
      have hnl2 : v.toNat * n.length ≤ 8 * 10 := Nat.mul_le_mul (by omega) hn'
      repeat ((intro _u; clear _u); first | with_reducible first | refine cT ?_ | refine cF ?_ | refine cA ?_ | refine cB ?_ | refine aLn ?_ | refine cK ?_ | refine aS8 ?_ | refine wI ?_ | refine nD ?_ | refine aX rfl ?_)
      intro _u; clear _u
      refine ICall.pure h.n71.o71.hb (signed_p h.n71 (n.flatMap (enc v.toNat)) v m (by omega) hm) rfl ?_
      have hh := half_le hv1.1 hv1.2
      by_cases hbadm : m.any (fun x => decide (x < -(256 ^ v.toNat / 2)) || decide (256 ^ v.toNat / 2 ≤ x)) = true
      · obtain ⟨x, hx, hxb⟩ := List.any_eq_true.1 hbadm
        have hxb : x < -(256 ^ v.toNat / 2) ∨ 256 ^ v.toNat / 2 ≤ x := by simpa using hxb
        have hv8 : v < 8 := by
          have := hm x hx
          simp only [inI] at this
          rcases (show v < 8 ∨ v = 8 by omega) with h | h
          · exact h
          · rw [h, show (256 : Int) ^ Int.toNat 8 = 18446744073709551616 by decide] at hxb
            omega
        rw [signs_bad hv1.1 hv1.2 hx hxb]
        repeat ((intro _u; clear _u); first | with_reducible first | refine cT ?_ | refine cF ?_ | refine cA ?_ | refine cB ?_ | refine aLn ?_ | refine cK ?_ | refine aS8 ?_ | refine wI ?_ | refine nD ?_ | refine aX rfl ?_)
        intro _u; clear _u
        refine acnd_t (by decide) ?_
        repeat ((intro _u; clear _u); first | with_reducible first | refine cT ?_ | refine cF ?_ | refine cA ?_ | refine cB ?_ | refine aLn ?_ | refine cK ?_ | refine aS8 ?_ | refine wI ?_ | refine nD ?_ | refine aX rfl ?_)
        intro _u; clear _u
        refine acnd_t (by decide) ?_
        repeat ((intro _u; clear _u); first | with_reducible first | refine cT ?_ | refine cF ?_ | refine cA ?_ | refine cB ?_ | refine aLn ?_ | refine cK ?_ | refine aS8 ?_ | refine wI ?_ | refine nD ?_ | refine aX rfl ?_)
        intro _u; clear _u
        refine acnd_t (by simpa using hv8) ?_
        repeat ((intro _u; clear _u); first | with_reducible first | refine cT ?_ | refine cF ?_ | refine cA ?_ | refine cB ?_ | refine aLn ?_ | refine cK ?_ | refine aS8 ?_ | refine wI ?_ | refine nD ?_ | refine aX rfl ?_)
        intro _u; clear _u
        refine acnd_t (by decide) ?_
        repeat ((intro _u; clear _u); first | with_reducible first | refine cT ?_ | refine cF ?_ | refine cA ?_ | refine cB ?_ | refine aLn ?_ | refine cK ?_ | refine aS8 ?_ | refine wI ?_ | refine nD ?_ | refine aX rfl ?_)
        intro _u; clear _u
        refine ICall.pure h.n73.o73.hb (works11_c h.n73) rfl ?_
        repeat ((intro _u; clear _u); first | with_reducible first | refine cT ?_ | refine cF ?_ | refine cA ?_ | refine cB ?_ | refine aLn ?_ | refine cK ?_ | refine aS8 ?_ | refine wI ?_ | refine nD ?_ | refine aX rfl ?_)
        intro _u; clear _u
        exact rT
      · have hbadm' : m.any (fun x => decide (x < -(256 ^ v.toNat / 2)) || decide (256 ^ v.toNat / 2 ≤ x)) = false := by simpa using hbadm
        have hmr : ∀ x ∈ m, ¬ (x < -(256 ^ v.toNat / 2) ∨ 256 ^ v.toNat / 2 ≤ x) := fun x hx => by
          have := List.any_eq_false.1 hbadm' x hx
          simpa using this
        rw [signs_ok hv1.1 hv1.2 hbadm', puts_in hv1.1 hv1.2 (mod_range m)]
        generalize hC : n.flatMap (enc v.toNat) ++ (m.map fun x => x % 256 ^ v.toNat).flatMap (enc v.toNat) = C
        have hml : ((m.map fun x => x % 256 ^ v.toNat).flatMap (enc v.toNat)).length = v.toNat * m.length := by rw [flatMap_len]; simp
        have hml2 : v.toNat * m.length ≤ 8 * 10 := Nat.mul_le_mul (by omega) hm'
        have hCl : C.length = v.toNat * n.length + v.toNat * m.length := by rw [← hC, List.length_append, hnl, hml]
        have hCv : v * ((n.length : Int) + m.length) = C.length := by
          rw [hCl, Int.natCast_add, Int.natCast_mul, Int.natCast_mul, show ((v.toNat : Nat) : Int) = v by omega, Int.mul_add]
        repeat ((intro _u; clear _u); first | with_reducible first | refine cT ?_ | refine cF ?_ | refine cA ?_ | refine cB ?_ | refine aLn ?_ | refine cK ?_ | refine aS8 ?_ | refine wI ?_ | refine nD ?_ | refine aX rfl ?_)
        intro _u; clear _u
        refine acnd_f (by rfl) ?_
        repeat ((intro _u; clear _u); first | with_reducible first | refine cT ?_ | refine cF ?_ | refine cA ?_ | refine cB ?_ | refine aLn ?_ | refine cK ?_ | refine aS8 ?_ | refine wI ?_ | refine nD ?_ | refine aX rfl ?_)
        intro _u; clear _u
        refine cM false [] (new_c h.n56 C (by omega)) ?_
        repeat ((intro _u; clear _u); first | refine eK ?_ | refine eP ?_)
        repeat ((intro _u; clear _u); first | with_reducible first | refine cT ?_ | refine cF ?_ | refine cA ?_ | refine cB ?_ | refine aLn ?_ | refine cK ?_ | refine aS8 ?_ | refine wI ?_ | refine nD ?_ | refine aX rfl ?_)
        intro _u; clear _u
        refine ILoop.inv 100 (fun k : Nat => k ≤ n.length) (fun k => ⟨[(0, .isl 1 (slcK .u64 n)), (1, .isl 1 (slcK .i64 m)), (2, .int .i64 v), (9, .isl 1 (slc8 C)), (11, .loc 1 1 0 0), (81, .isl 1 (slcK .u64 n)), (82, .int .i64 n.length), (83, .int .i64 k)], [(1, .var (R.ty 9) (Rd.row ⟨(n.drop k).flatMap (enc v.toNat) ++ (m.map fun x => x % 256 ^ v.toNat).flatMap (enc v.toNat), 0, true⟩))], 2⟩) (fun k => n.length - k) (0) ?_ ⟨⟨_, hp, rfl⟩, ?_, ?_⟩ ?_
        · exact Nat.zero_le _
        · all_goals repeat' (first | exact True.intro | refine And.intro ?_ ?_ | (intro _u; clear _u) | with_reducible first | refine eM ?_ ?_ | refine eF ?_ ?_ ?_ | refine eN ?_ | refine eL ?_ ?_ ?_ | refine eA ?_ ?_ | refine IWk.mk ⟨_, hp, rfl⟩ ?_ ?_)
          all_goals first | with_reducible rfl | omega | exact Or.inl (by decide) | (simp; done) | rfl | skip
        · all_goals repeat' (first | exact True.intro | refine And.intro ?_ ?_ | (intro _u; clear _u) | with_reducible first | refine eM ?_ ?_ | refine eF ?_ ?_ ?_ | refine eN ?_ | refine eL ?_ ?_ ?_ | refine eA ?_ ?_ | refine IWk.mk ⟨_, hp, rfl⟩ ?_ ?_)
          all_goals first | with_reducible rfl | omega | exact Or.inl (by decide) | (simp; done) | rfl | skip
          rw [List.drop_zero, hC]
        · intro k hk
          dsimp only
          repeat ((intro _u; clear _u); first | with_reducible first | refine cT ?_ | refine cF ?_ | refine cA ?_ | refine cB ?_ | refine aLn ?_ | refine cK ?_ | refine aS8 ?_ | refine wI ?_ | refine nD ?_ | refine aX rfl ?_)
          intro _u; clear _u
          refine cS (fun h1 => ?_) (fun h1 => ?_)
          · obtain ⟨x, hx⟩ : ∃ x, n[k]? = some x := ⟨_, List.getElem?_eq_getElem (by first | omega | (simp <;> omega))⟩
            repeat ((intro _u; clear _u); first | with_reducible first | refine cT ?_ | refine cF ?_ | refine cA ?_ | refine cB ?_ | refine aLn ?_ | refine cK ?_ | refine aS8 ?_ | refine wI ?_ | refine nD ?_ | refine aX rfl ?_)
            intro _u; clear _u
            refine eget_map hx ?_
            have hxr := hrange x (List.mem_of_getElem? hx)
            have c1 := num_c h.n57 ⟨(n.drop k).flatMap (enc v.toNat) ++ (m.map fun x => x % 256 ^ v.toNat).flatMap (enc v.toNat), 0, true⟩ v
            rw [drop_get hx, List.flatMap_cons, List.append_assoc, num_enc hv1.1 hv1.2 hxr] at c1
            rw [drop_get hx, List.flatMap_cons, List.append_assoc]
            repeat ((intro _u; clear _u); first | with_reducible first | refine cT ?_ | refine cF ?_ | refine cA ?_ | refine cB ?_ | refine aLn ?_ | refine cK ?_ | refine aS8 ?_ | refine wI ?_ | refine nD ?_ | refine aX rfl ?_)
            intro _u; clear _u
            refine cM false [1] (c1) ?_
            repeat ((intro _u; clear _u); first | refine eK ?_ | refine eP ?_)
            repeat ((intro _u; clear _u); first | with_reducible first | refine cT ?_ | refine cF ?_ | refine cA ?_ | refine cB ?_ | refine aLn ?_ | refine cK ?_ | refine aS8 ?_ | refine wI ?_ | refine nD ?_ | refine aX rfl ?_)
            intro _u; clear _u
            refine acnd_f (by (simp; omega)) ?_
            repeat ((intro _u; clear _u); first | with_reducible first | refine cT ?_ | refine cF ?_ | refine cA ?_ | refine cB ?_ | refine aLn ?_ | refine cK ?_ | refine aS8 ?_ | refine wI ?_ | refine nD ?_ | refine aX rfl ?_)
            intro _u; clear _u
            refine nXa (k + 1) ?_ ?_
            · omega
            · omega
          · have hkn : n.drop k = [] := List.drop_of_length_le (by omega)
            rw [hkn]
            repeat ((intro _u; clear _u); first | with_reducible first | refine cT ?_ | refine cF ?_ | refine cA ?_ | refine cB ?_ | refine aLn ?_ | refine cK ?_ | refine aS8 ?_ | refine wI ?_ | refine nD ?_ | refine aX rfl ?_)
            intro _u; clear _u
            refine lPa 100 (fun k : Nat => k ≤ m.length) (fun k => ⟨[(0, .isl 1 (slcK .u64 n)), (1, .isl 1 (slcK .i64 m)), (2, .int .i64 v), (9, .isl 1 (slc8 C)), (11, .loc 1 1 0 0), (93, .isl 1 (slcK .i64 m)), (94, .int .i64 m.length), (95, .int .i64 k)], [(1, .var (R.ty 9) (Rd.row ⟨((m.drop k).map fun x => x % 256 ^ v.toNat).flatMap (enc v.toNat), 0, true⟩))], 2⟩) (fun k => m.length - k) (0) ?_ ?_
            · exact Nat.zero_le _
            · intro k hk
              dsimp only
              repeat ((intro _u; clear _u); first | with_reducible first | refine cT ?_ | refine cF ?_ | refine cA ?_ | refine cB ?_ | refine aLn ?_ | refine cK ?_ | refine aS8 ?_ | refine wI ?_ | refine nD ?_ | refine aX rfl ?_)
              intro _u; clear _u
              refine cS (fun h2 => ?_) (fun h2 => ?_)
              · obtain ⟨x, hx⟩ : ∃ x, m[k]? = some x := ⟨_, List.getElem?_eq_getElem (by first | omega | (simp <;> omega))⟩
                repeat ((intro _u; clear _u); first | with_reducible first | refine cT ?_ | refine cF ?_ | refine cA ?_ | refine cB ?_ | refine aLn ?_ | refine cK ?_ | refine aS8 ?_ | refine wI ?_ | refine nD ?_ | refine aX rfl ?_)
                intro _u; clear _u
                refine eget_map hx ?_
                have hxm := hmr x (List.mem_of_getElem? hx)
                have hpw := pow_ge1 v.toNat
                have hxr : 0 ≤ x % 256 ^ v.toNat ∧ x % 256 ^ v.toNat < 256 ^ v.toNat := ⟨Int.emod_nonneg _ (by omega), Int.emod_lt_of_pos _ (by omega)⟩
                have c1 := int_c h.n76 ⟨((m.drop k).map fun x => x % 256 ^ v.toNat).flatMap (enc v.toNat), 0, true⟩ v
                have ei : (⟨((m.drop k).map fun x => x % 256 ^ v.toNat).flatMap (enc v.toNat), 0, true⟩ : Rd).int v = (x, ⟨((m.drop (k + 1)).map fun x => x % 256 ^ v.toNat).flatMap (enc v.toNat), 0, true⟩) := by
                  unfold Rd.int
                  rw [if_neg (by omega), drop_get hx, List.map_cons, List.flatMap_cons, num_enc hv1.1 hv1.2 hxr, sx_mod hv1.1 hv1.2 hxm]
                rw [ei] at c1
                repeat ((intro _u; clear _u); first | with_reducible first | refine cT ?_ | refine cF ?_ | refine cA ?_ | refine cB ?_ | refine aLn ?_ | refine cK ?_ | refine aS8 ?_ | refine wI ?_ | refine nD ?_ | refine aX rfl ?_)
                intro _u; clear _u
                refine cM false [1] (c1) ?_
                repeat ((intro _u; clear _u); first | refine eK ?_ | refine eP ?_)
                repeat ((intro _u; clear _u); first | with_reducible first | refine cT ?_ | refine cF ?_ | refine cA ?_ | refine cB ?_ | refine aLn ?_ | refine cK ?_ | refine aS8 ?_ | refine wI ?_ | refine nD ?_ | refine aX rfl ?_)
                intro _u; clear _u
                refine acnd_f (by simp) ?_
                repeat ((intro _u; clear _u); first | with_reducible first | refine cT ?_ | refine cF ?_ | refine cA ?_ | refine cB ?_ | refine aLn ?_ | refine cK ?_ | refine aS8 ?_ | refine wI ?_ | refine nD ?_ | refine aX rfl ?_)
                intro _u; clear _u
                refine nXa (k + 1) ?_ ?_
                · omega
                · omega
              · have hkm : m.drop k = [] := List.drop_of_length_le (by omega)
                rw [hkm]
                repeat ((intro _u; clear _u); first | with_reducible first | refine cT ?_ | refine cF ?_ | refine cA ?_ | refine cB ?_ | refine aLn ?_ | refine cK ?_ | refine aS8 ?_ | refine wI ?_ | refine nD ?_ | refine aX rfl ?_)
                intro _u; clear _u
                refine cM false [1] (end_c h.n60 ⟨[], 0, true⟩) ?_
                repeat ((intro _u; clear _u); first | refine eK ?_ | refine eP ?_)
                repeat ((intro _u; clear _u); first | with_reducible first | refine cT ?_ | refine cF ?_ | refine cA ?_ | refine cB ?_ | refine aLn ?_ | refine cK ?_ | refine aS8 ?_ | refine wI ?_ | refine nD ?_ | refine aX rfl ?_)
                intro _u; clear _u
                refine acnd_f (by decide) ?_
                repeat ((intro _u; clear _u); first | with_reducible first | refine cT ?_ | refine cF ?_ | refine cA ?_ | refine cB ?_ | refine aLn ?_ | refine cK ?_ | refine aS8 ?_ | refine wI ?_ | refine nD ?_ | refine aX rfl ?_)
                intro _u; clear _u
                refine cM false [1] (left_c h.n68 ⟨[], 0, true⟩) ?_
                repeat ((intro _u; clear _u); first | refine eK ?_ | refine eP ?_)
                repeat ((intro _u; clear _u); first | with_reducible first | refine cT ?_ | refine cF ?_ | refine cA ?_ | refine cB ?_ | refine aLn ?_ | refine cK ?_ | refine aS8 ?_ | refine wI ?_ | refine nD ?_ | refine aX rfl ?_)
                intro _u; clear _u
                refine acnd_f (by decide) ?_
                repeat ((intro _u; clear _u); first | with_reducible first | refine cT ?_ | refine cF ?_ | refine cA ?_ | refine cB ?_ | refine aLn ?_ | refine cK ?_ | refine aS8 ?_ | refine wI ?_ | refine nD ?_ | refine aX rfl ?_)
                intro _u; clear _u
                refine acnd_f (by (simp; omega)) ?_
                repeat ((intro _u; clear _u); first | with_reducible first | refine cT ?_ | refine cF ?_ | refine cA ?_ | refine cB ?_ | refine aLn ?_ | refine cK ?_ | refine aS8 ?_ | refine wI ?_ | refine nD ?_ | refine aX rfl ?_)
                intro _u; clear _u
                refine cS (fun h3 => ?_) (fun h3 => ?_)
                · repeat ((intro _u; clear _u); first | with_reducible first | refine cT ?_ | refine cF ?_ | refine cA ?_ | refine cB ?_ | refine aLn ?_ | refine cK ?_ | refine aS8 ?_ | refine wI ?_ | refine nD ?_ | refine aX rfl ?_)
                  intro _u; clear _u
                  refine ICall.pure h.n73.o73.hb (works11_c h.n73) rfl ?_
                  repeat ((intro _u; clear _u); first | with_reducible first | refine cT ?_ | refine cF ?_ | refine cA ?_ | refine cB ?_ | refine aLn ?_ | refine cK ?_ | refine aS8 ?_ | refine wI ?_ | refine nD ?_ | refine aX rfl ?_)
                  intro _u; clear _u
                  exact rT
                · repeat ((intro _u; clear _u); first | with_reducible first | refine cT ?_ | refine cF ?_ | refine cA ?_ | refine cB ?_ | refine aLn ?_ | refine cK ?_ | refine aS8 ?_ | refine wI ?_ | refine nD ?_ | refine aX rfl ?_)
                  intro _u; clear _u
                  refine asub_eq (by exact slc8_take _ _) ?_
                  have htl : (C.take ((C.length : Int) - 1).toNat).length = C.length - 1 := by simp
                  repeat ((intro _u; clear _u); first | with_reducible first | refine cT ?_ | refine cF ?_ | refine cA ?_ | refine cB ?_ | refine aLn ?_ | refine cK ?_ | refine aS8 ?_ | refine wI ?_ | refine nD ?_ | refine aX rfl ?_)
                  intro _u; clear _u
                  refine cM false [] (new_c h.n56 (C.take ((C.length : Int) - 1).toNat) (by omega)) ?_
                  repeat ((intro _u; clear _u); first | refine eK ?_ | refine eP ?_)
                  repeat ((intro _u; clear _u); first | with_reducible first | refine cT ?_ | refine cF ?_ | refine cA ?_ | refine cB ?_ | refine aLn ?_ | refine cK ?_ | refine aS8 ?_ | refine wI ?_ | refine nD ?_ | refine aX rfl ?_)
                  intro _u; clear _u
                  refine lPa 100 (fun s : Nat × Rd => s.1 ≤ n.length + m.length ∧ s.2.made = true ∧ (s.1 < n.length + m.length → s.2.e = 0 ∧ (s.2.l.length : Int) = C.length - 1 - v * s.1) ∧ (s.1 = n.length + m.length → s.2.e = 4)) (fun s => ⟨[(2, .int .i64 v), (16, .loc 2 1 0 0), (141, .int .i64 (n.length + m.length)), (142, .int .i64 s.1)], [(2, .var (R.ty 9) s.2.row)], 3⟩) (fun s => n.length + m.length - s.1) ((0, ⟨C.take ((C.length : Int) - 1).toNat, 0, true⟩)) ?_ ?_
                  · refine ⟨Nat.zero_le _, rfl, fun _ => ⟨rfl, by dsimp only; omega⟩, fun h0 => ?_⟩
                    have h0 : 0 = n.length + m.length := h0
                    rw [show (n.length : Int) + m.length = 0 by omega] at hCv
                    omega
                  · rintro ⟨k, r⟩ ⟨hk, hm1, hk1, hk2⟩
                    dsimp only at hk hm1 hk1 hk2 ⊢
                    repeat ((intro _u; clear _u); first | with_reducible first | refine cT ?_ | refine cF ?_ | refine cA ?_ | refine cB ?_ | refine aLn ?_ | refine cK ?_ | refine aS8 ?_ | refine wI ?_ | refine nD ?_ | refine aX rfl ?_)
                    intro _u; clear _u
                    refine cS (fun h4 => ?_) (fun h4 => ?_)
                    · repeat ((intro _u; clear _u); first | with_reducible first | refine cT ?_ | refine cF ?_ | refine cA ?_ | refine cB ?_ | refine aLn ?_ | refine cK ?_ | refine aS8 ?_ | refine wI ?_ | refine nD ?_ | refine aX rfl ?_)
                      intro _u; clear _u
                      refine cM false [2] (num_c h.n57 r v) ?_
                      repeat ((intro _u; clear _u); first | refine eK ?_ | refine eP ?_)
                      obtain ⟨he, hl⟩ := hk1 (by omega)
                      obtain ⟨q1, q2⟩ := take_short hm1 he hv1.1 hv1.2
                      have hvk : v * ((k : Int) + 1) ≤ v * ((n.length : Int) + m.length) := Int.mul_le_mul_of_nonneg_left (by omega) (by omega)
                      repeat ((intro _u; clear _u); first | with_reducible first | refine cT ?_ | refine cF ?_ | refine cA ?_ | refine cB ?_ | refine aLn ?_ | refine cK ?_ | refine aS8 ?_ | refine wI ?_ | refine nD ?_ | refine aX rfl ?_)
                      intro _u; clear _u
                      refine nXa ((k + 1, (r.num v).2)) ?_ ?_
                      · refine ⟨by dsimp only; omega, q1, fun h5 => ?_, fun h5 => ?_⟩
                        · dsimp only at h5 ⊢
                          have hvk2 : v * ((k : Int) + 2) ≤ v * ((n.length : Int) + m.length) := Int.mul_le_mul_of_nonneg_left (by omega) (by omega)
                          rw [Int.mul_add] at hvk2
                          have e1 : v * ((k + 1 : Nat) : Int) = v * k + v := by push_cast; rw [Int.mul_add, Int.mul_one]
                          rcases q2 with ⟨q3, q4, q5⟩ | ⟨q3, q4⟩
                          · exact ⟨q4, by omega⟩
                          · omega
                        · dsimp only at h5 ⊢
                          rcases q2 with ⟨q3, q4, q5⟩ | ⟨q3, q4⟩
                          · have e1 : v * ((n.length : Int) + m.length) = v * k + v := by rw [show (n.length : Int) + m.length = k + 1 by omega, Int.mul_add, Int.mul_one]
                            omega
                          · exact q4
                      · dsimp only; omega
                    · repeat ((intro _u; clear _u); first | with_reducible first | refine cT ?_ | refine cF ?_ | refine cA ?_ | refine cB ?_ | refine aLn ?_ | refine cK ?_ | refine aS8 ?_ | refine wI ?_ | refine nD ?_ | refine aX rfl ?_)
                      intro _u; clear _u
                      refine cM false [2] (err_c h.n65 r) ?_
                      repeat ((intro _u; clear _u); first | refine eK ?_ | refine eP ?_)
                      repeat ((intro _u; clear _u); first | with_reducible first | refine cT ?_ | refine cF ?_ | refine cA ?_ | refine cB ?_ | refine aLn ?_ | refine cK ?_ | refine aS8 ?_ | refine wI ?_ | refine nD ?_ | refine aX rfl ?_)
                      intro _u; clear _u
                      refine acnd_t (by (simp [Rd.err, hm1, hk2 (by omega)])) ?_
                      repeat ((intro _u; clear _u); first | with_reducible first | refine cT ?_ | refine cF ?_ | refine cA ?_ | refine cB ?_ | refine aLn ?_ | refine cK ?_ | refine aS8 ?_ | refine wI ?_ | refine nD ?_ | refine aX rfl ?_)
                      intro _u; clear _u
                      refine ICall.pure h.n73.o73.hb (works11_c h.n73) rfl ?_
                      repeat ((intro _u; clear _u); first | with_reducible first | refine cT ?_ | refine cF ?_ | refine cA ?_ | refine cB ?_ | refine aLn ?_ | refine cK ?_ | refine aS8 ?_ | refine wI ?_ | refine nD ?_ | refine aX rfl ?_)
                      intro _u; clear _u
                      exact rT
end Go.UM
