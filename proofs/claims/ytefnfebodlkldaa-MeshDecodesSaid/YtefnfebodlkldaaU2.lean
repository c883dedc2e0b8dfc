/- Of the reckoning machine, and what is proved with it: texts joined by program. -/
import Derived.Test.YtefnfebodlkldaaU1
import Derived.Test.YtefnfebodlkldaaU0
import Derived.Test.YtefnfebodlkldaaK2
set_option linter.all false

/- Package mesh, part 5, and the document's: bytes that are read. -/

namespace Go.UM
open Go.AM
set_option maxRecDepth 4000

def f3 (r : Rd) : T3 × Rd := (⟨(r.int 2).1, ((r.int 2).2.int 2).1, (((r.int 2).2.int 2).2.int 2).1⟩, (((r.int 2).2.int 2).2.int 2).2)
def f2 (r : Rd) : (Int × Int) × Rd := (((r.num 2).1, ((r.num 2).2.num 2).1), ((r.num 2).2.num 2).2)
def ft (r : Rd) : T3 × Rd := (⟨(r.num 1).1, ((r.num 1).2.num 1).1, (((r.num 1).2.num 1).2.num 1).1⟩, (((r.num 1).2.num 1).2.num 1).2)

theorem uint13_c {R : Env} (h : N214 R) (r : Rd) (w : Int) (h1 : 1 ≤ w) (h2 : w ≤ 7) : R.Mc 214 [.agg [.loc 0 1 0 0], .int .i64 w] (rdM R r) (.int .i64 (r.num w).1) (rdM R (r.num w).2) 1 :=
  h.o214.enterM 60 1 rfl rfl rfl fun X bb hfit hp => by
    repeat ((intro _u; clear _u); first | with_reducible first | refine cT ?_ | refine cF ?_ | refine cA ?_ | refine cB ?_ | refine aLn ?_ | refine cK ?_ | refine aS8 ?_ | refine wI ?_ | refine nD ?_ | refine aX rfl ?_ | refine vL rfl ?_)
    intro _u; clear _u
    refine cM false [0] (num_c h.n57 r w) ?_
    repeat ((intro _u; clear _u); first | refine eK ?_ | refine eP ?_)
    have hlt := num_lt r h1 (show w ≤ 8 by omega)
    have hp : (256 : Nat) ^ w.toNat ≤ 256 ^ 7 := Nat.pow_le_pow_right (by decide) (by omega)
    have : ((r.num w).1 : Int) < 9223372036854775808 := by omega
    repeat ((intro _u; clear _u); first | with_reducible first | refine cT ?_ | refine cF ?_ | refine cA ?_ | refine cB ?_ | refine aLn ?_ | refine cK ?_ | refine aS8 ?_ | refine wI ?_ | refine nD ?_ | refine aX rfl ?_ | refine vL rfl ?_)
    intro _u; clear _u
    exact rM [0]
theorem point13_c {R : Env} (h : N215 R) (r : Rd) : R.Mc 215 [.agg [.loc 0 1 0 0]] (rdM R r) (.agg (t3 (f3 r).1)) (rdM R (f3 r).2) 1 :=
  h.o215.enterM 60 1 rfl rfl rfl fun X bb hfit hp => by
    repeat ((intro _u; clear _u); first | with_reducible first | refine cT ?_ | refine cF ?_ | refine cA ?_ | refine cB ?_ | refine aLn ?_ | refine cK ?_ | refine aS8 ?_ | refine wI ?_ | refine nD ?_ | refine aX rfl ?_ | refine vL rfl ?_)
    intro _u; clear _u
    refine cM false [0] (int_c h.n76 r 2) ?_
    repeat ((intro _u; clear _u); first | refine eK ?_ | refine eP ?_)
    repeat ((intro _u; clear _u); first | with_reducible first | refine cT ?_ | refine cF ?_ | refine cA ?_ | refine cB ?_ | refine aLn ?_ | refine cK ?_ | refine aS8 ?_ | refine wI ?_ | refine nD ?_ | refine aX rfl ?_ | refine vL rfl ?_)
    intro _u; clear _u
    refine cM false [0] (int_c h.n76 (r.int 2).2 2) ?_
    repeat ((intro _u; clear _u); first | refine eK ?_ | refine eP ?_)
    repeat ((intro _u; clear _u); first | with_reducible first | refine cT ?_ | refine cF ?_ | refine cA ?_ | refine cB ?_ | refine aLn ?_ | refine cK ?_ | refine aS8 ?_ | refine wI ?_ | refine nD ?_ | refine aX rfl ?_ | refine vL rfl ?_)
    intro _u; clear _u
    refine cM false [0] (int_c h.n76 ((r.int 2).2.int 2).2 2) ?_
    repeat ((intro _u; clear _u); first | refine eK ?_ | refine eP ?_)
    repeat ((intro _u; clear _u); first | with_reducible first | refine cT ?_ | refine cF ?_ | refine cA ?_ | refine cB ?_ | refine aLn ?_ | refine cK ?_ | refine aS8 ?_ | refine wI ?_ | refine nD ?_ | refine aX rfl ?_ | refine vL rfl ?_)
    intro _u; clear _u
    exact rM [0]
theorem rread13_c {R : Env} (h : N216 R) (B : List UInt8) (r : Rd) (ok : RdOk B r) : R.Mc 216 [.loc 0 1 0 0] (rrdM R B r) (.agg (t3 (f3 r).1)) (rrdM R B (f3 r).2) 1 :=
  h.o216.enterM 60 1 rfl rfl rfl fun X bb hfit hp => by
    repeat ((intro _u; clear _u); first | with_reducible first | refine cT ?_ | refine cF ?_ | refine cA ?_ | refine cB ?_ | refine aLn ?_ | refine cK ?_ | refine aS8 ?_ | refine wI ?_ | refine nD ?_ | refine aX rfl ?_ | refine vL rfl ?_)
    intro _u; clear _u
    refine cM false [0] (rint_c h.n77 B r ok 2) ?_
    repeat ((intro _u; clear _u); first | refine eK ?_ | refine eP ?_)
    repeat ((intro _u; clear _u); first | with_reducible first | refine cT ?_ | refine cF ?_ | refine cA ?_ | refine cB ?_ | refine aLn ?_ | refine cK ?_ | refine aS8 ?_ | refine wI ?_ | refine nD ?_ | refine aX rfl ?_ | refine vL rfl ?_)
    intro _u; clear _u
    refine cM false [0] (rint_c h.n77 B (r.int 2).2 (ok.int 2) 2) ?_
    repeat ((intro _u; clear _u); first | refine eK ?_ | refine eP ?_)
    repeat ((intro _u; clear _u); first | with_reducible first | refine cT ?_ | refine cF ?_ | refine cA ?_ | refine cB ?_ | refine aLn ?_ | refine cK ?_ | refine aS8 ?_ | refine wI ?_ | refine nD ?_ | refine aX rfl ?_ | refine vL rfl ?_)
    intro _u; clear _u
    refine cM false [0] (rint_c h.n77 B ((r.int 2).2.int 2).2 ((ok.int 2).int 2) 2) ?_
    repeat ((intro _u; clear _u); first | refine eK ?_ | refine eP ?_)
    repeat ((intro _u; clear _u); first | with_reducible first | refine cT ?_ | refine cF ?_ | refine cA ?_ | refine cB ?_ | refine aLn ?_ | refine cK ?_ | refine aS8 ?_ | refine wI ?_ | refine nD ?_ | refine aX rfl ?_ | refine vL rfl ?_)
    intro _u; clear _u
    exact rM [0]
theorem RdOk.f3 {B : List UInt8} {r : Rd} (h : RdOk B r) : RdOk B (f3 r).2 := ((h.int 2).int 2).int 2
theorem RdOk.f2 {B : List UInt8} {r : Rd} (h : RdOk B r) : RdOk B (f2 r).2 := (h.num 2).num 2
theorem RdOk.ft {B : List UInt8} {r : Rd} (h : RdOk B r) : RdOk B (ft r).2 := ((h.num 1).num 1).num 1
theorem RdOk.rdN {B : List UInt8} {α : Type} {f : Rd → α × Rd} (hf : ∀ r, RdOk B r → RdOk B (f r).2) (n : Nat) : ∀ {r : Rd}, RdOk B r → RdOk B (rdN f n r).2 := by
  induction n with
  | zero => exact fun h => h
  | succ n ih => exact fun h => hf _ (ih h)

def zMs : Ms := ⟨[], [], []⟩
def mq (nv nt : Nat) (r : Rd) : Ms × Rd := (⟨(rdN f3 nv r).1, (rdN f2 nv (rdN f3 nv r).2).1, (rdN ft nt (rdN f2 nv (rdN f3 nv r).2).2).1⟩, (rdN ft nt (rdN f2 nv (rdN f3 nv r).2).2).2)
def mfin (q : Ms × Rd) : Ms × Int := if q.2.fin ≠ 0 then (zMs, q.2.fin) else if mchk q.1 ≠ 0 then (zMs, mchk q.1) else (q.1, 0)
def mdecd (b : List UInt8) : Ms × Int := mfin (mq ((⟨b, 0, true⟩ : Rd).num 1).1 (((⟨b, 0, true⟩ : Rd).num 1).2.num 1).1 (((⟨b, 0, true⟩ : Rd).num 1).2.num 1).2)
theorem mchk_v {u : List (Int × Int)} {t : List T3} : mchk ⟨[], u, t⟩ = if 64 < t.length then 3 else 5 := by
  unfold mchk
  by_cases h : 64 < t.length
  · rw [if_pos (.inr h), if_pos h]
  · rw [if_neg (by simp; omega), if_neg h, if_pos (.inl rfl)]
theorem mchk_t {v : List T3} {u : List (Int × Int)} : mchk ⟨v, u, []⟩ = if 64 < v.length then 3 else 5 := by
  unfold mchk
  by_cases h : 64 < v.length
  · rw [if_pos (.inl h), if_pos h]
  · rw [if_neg (by simp; omega), if_neg h, if_pos (.inr (.inl rfl))]

theorem mcheck_n {R : Env} (h : N193 R) : R.Pc 193 [.agg [.nils, .nils, .nils]] (.int .i64 5) :=
  h.o193.enter 60 rfl fun X bb hfit hp => by
    repeat ((intro _u; clear _u); first | with_reducible first | refine cT ?_ | refine cF ?_ | refine cA ?_ | refine cB ?_ | refine aLn ?_ | refine cK ?_ | refine aS8 ?_ | refine wI ?_ | refine nD ?_ | refine aX rfl ?_ | refine vL rfl ?_)
    intro _u; clear _u
    refine acnd_f (by decide) ?_
    repeat ((intro _u; clear _u); first | with_reducible first | refine cT ?_ | refine cF ?_ | refine cA ?_ | refine cB ?_ | refine aLn ?_ | refine cK ?_ | refine aS8 ?_ | refine wI ?_ | refine nD ?_ | refine aX rfl ?_ | refine vL rfl ?_)
    intro _u; clear _u
    refine acnd_f (by decide) ?_
    repeat ((intro _u; clear _u); first | with_reducible first | refine cT ?_ | refine cF ?_ | refine cA ?_ | refine cB ?_ | refine aLn ?_ | refine cK ?_ | refine aS8 ?_ | refine wI ?_ | refine nD ?_ | refine aX rfl ?_ | refine vL rfl ?_)
    intro _u; clear _u
    refine acnd_t (by decide) ?_
    repeat ((intro _u; clear _u); first | with_reducible first | refine cT ?_ | refine cF ?_ | refine cA ?_ | refine cB ?_ | refine aLn ?_ | refine cK ?_ | refine aS8 ?_ | refine wI ?_ | refine nD ?_ | refine aX rfl ?_ | refine vL rfl ?_)
    intro _u; clear _u
    exact rT
theorem mcheck_t {R : Env} (h : N193 R) (t : List T3) : R.Pc 193 [.agg [.nils, .nils, .isl 3 (slc3 t)]] (.int .i64 (if 64 < t.length then 3 else 5)) :=
  h.o193.enter 60 rfl fun X bb hfit hp => by
    repeat ((intro _u; clear _u); first | with_reducible first | refine cT ?_ | refine cF ?_ | refine cA ?_ | refine cB ?_ | refine aLn ?_ | refine cK ?_ | refine aS8 ?_ | refine wI ?_ | refine nD ?_ | refine aX rfl ?_ | refine vL rfl ?_)
    intro _u; clear _u
    refine acnd_f (by decide) ?_
    repeat ((intro _u; clear _u); first | with_reducible first | refine cT ?_ | refine cF ?_ | refine cA ?_ | refine cB ?_ | refine aLn ?_ | refine cK ?_ | refine aS8 ?_ | refine wI ?_ | refine nD ?_ | refine aX rfl ?_ | refine vL rfl ?_)
    intro _u; clear _u
    refine cS (fun h1 => ?_) (fun h1 => ?_)
    · rw [if_pos (by omega)]
      repeat ((intro _u; clear _u); first | with_reducible first | refine cT ?_ | refine cF ?_ | refine cA ?_ | refine cB ?_ | refine aLn ?_ | refine cK ?_ | refine aS8 ?_ | refine wI ?_ | refine nD ?_ | refine aX rfl ?_ | refine vL rfl ?_)
      intro _u; clear _u
      exact rT
    · rw [if_neg (by omega)]
      repeat ((intro _u; clear _u); first | with_reducible first | refine cT ?_ | refine cF ?_ | refine cA ?_ | refine cB ?_ | refine aLn ?_ | refine cK ?_ | refine aS8 ?_ | refine wI ?_ | refine nD ?_ | refine aX rfl ?_ | refine vL rfl ?_)
      intro _u; clear _u
      refine acnd_t (by decide) ?_
      repeat ((intro _u; clear _u); first | with_reducible first | refine cT ?_ | refine cF ?_ | refine cA ?_ | refine cB ?_ | refine aLn ?_ | refine cK ?_ | refine aS8 ?_ | refine wI ?_ | refine nD ?_ | refine aX rfl ?_ | refine vL rfl ?_)
      intro _u; clear _u
      exact rT
theorem mcheck_v {R : Env} (h : N193 R) (v : List T3) (u : List (Int × Int)) (hv : 1 ≤ v.length) : R.Pc 193 [.agg [.isl 3 (slc3 v), .isl 2 (slc2 u), .nils]] (.int .i64 (if 64 < v.length then 3 else 5)) :=
  h.o193.enter 60 rfl fun X bb hfit hp => by
    repeat ((intro _u; clear _u); first | with_reducible first | refine cT ?_ | refine cF ?_ | refine cA ?_ | refine cB ?_ | refine aLn ?_ | refine cK ?_ | refine aS8 ?_ | refine wI ?_ | refine nD ?_ | refine aX rfl ?_ | refine vL rfl ?_)
    intro _u; clear _u
    refine cS (fun h1 => ?_) (fun h1 => ?_)
    · rw [if_pos (by omega)]
      repeat ((intro _u; clear _u); first | with_reducible first | refine cT ?_ | refine cF ?_ | refine cA ?_ | refine cB ?_ | refine aLn ?_ | refine cK ?_ | refine aS8 ?_ | refine wI ?_ | refine nD ?_ | refine aX rfl ?_ | refine vL rfl ?_)
      intro _u; clear _u
      exact rT
    · rw [if_neg (by omega)]
      repeat ((intro _u; clear _u); first | with_reducible first | refine cT ?_ | refine cF ?_ | refine cA ?_ | refine cB ?_ | refine aLn ?_ | refine cK ?_ | refine aS8 ?_ | refine wI ?_ | refine nD ?_ | refine aX rfl ?_ | refine vL rfl ?_)
      intro _u; clear _u
      refine acnd_f (by decide) ?_
      repeat ((intro _u; clear _u); first | with_reducible first | refine cT ?_ | refine cF ?_ | refine cA ?_ | refine cB ?_ | refine aLn ?_ | refine cK ?_ | refine aS8 ?_ | refine wI ?_ | refine nD ?_ | refine aX rfl ?_ | refine vL rfl ?_)
      intro _u; clear _u
      refine acnd_f (by first | (rw [beq_eq_false_iff_ne]; omega) | (simp; omega)) ?_
      repeat ((intro _u; clear _u); first | with_reducible first | refine cT ?_ | refine cF ?_ | refine cA ?_ | refine cB ?_ | refine aLn ?_ | refine cK ?_ | refine aS8 ?_ | refine wI ?_ | refine nD ?_ | refine aX rfl ?_ | refine vL rfl ?_)
      intro _u; clear _u
      refine acnd_t (by decide) ?_
      repeat ((intro _u; clear _u); first | with_reducible first | refine cT ?_ | refine cF ?_ | refine cA ?_ | refine cB ?_ | refine aLn ?_ | refine cK ?_ | refine aS8 ?_ | refine wI ?_ | refine nD ?_ | refine aX rfl ?_ | refine vL rfl ?_)
      intro _u; clear _u
      exact rT

theorem rcheck13_n {R : Env} (h : N198 R) : R.Pc 198 [.agg [.nils, .nils, .nils]] (.int .i64 5) :=
  h.o198.enter 60 rfl fun X bb hfit hp => by
    repeat ((intro _u; clear _u); first | with_reducible first | refine cT ?_ | refine cF ?_ | refine cA ?_ | refine cB ?_ | refine aLn ?_ | refine cK ?_ | refine aS8 ?_ | refine wI ?_ | refine nD ?_ | refine aX rfl ?_ | refine vL rfl ?_)
    intro _u; clear _u
    refine acnd_f (by decide) ?_
    repeat ((intro _u; clear _u); first | with_reducible first | refine cT ?_ | refine cF ?_ | refine cA ?_ | refine cB ?_ | refine aLn ?_ | refine cK ?_ | refine aS8 ?_ | refine wI ?_ | refine nD ?_ | refine aX rfl ?_ | refine vL rfl ?_)
    intro _u; clear _u
    refine acnd_f (by decide) ?_
    repeat ((intro _u; clear _u); first | with_reducible first | refine cT ?_ | refine cF ?_ | refine cA ?_ | refine cB ?_ | refine aLn ?_ | refine cK ?_ | refine aS8 ?_ | refine wI ?_ | refine nD ?_ | refine aX rfl ?_ | refine vL rfl ?_)
    intro _u; clear _u
    refine acnd_t (by decide) ?_
    repeat ((intro _u; clear _u); first | with_reducible first | refine cT ?_ | refine cF ?_ | refine cA ?_ | refine cB ?_ | refine aLn ?_ | refine cK ?_ | refine aS8 ?_ | refine wI ?_ | refine nD ?_ | refine aX rfl ?_ | refine vL rfl ?_)
    intro _u; clear _u
    exact rT
theorem rcheck13_t {R : Env} (h : N198 R) (t : List T3) : R.Pc 198 [.agg [.nils, .nils, .isl 3 (slc3 t)]] (.int .i64 (if 64 < t.length then 3 else 5)) :=
  h.o198.enter 60 rfl fun X bb hfit hp => by
    repeat ((intro _u; clear _u); first | with_reducible first | refine cT ?_ | refine cF ?_ | refine cA ?_ | refine cB ?_ | refine aLn ?_ | refine cK ?_ | refine aS8 ?_ | refine wI ?_ | refine nD ?_ | refine aX rfl ?_ | refine vL rfl ?_)
    intro _u; clear _u
    refine acnd_f (by decide) ?_
    repeat ((intro _u; clear _u); first | with_reducible first | refine cT ?_ | refine cF ?_ | refine cA ?_ | refine cB ?_ | refine aLn ?_ | refine cK ?_ | refine aS8 ?_ | refine wI ?_ | refine nD ?_ | refine aX rfl ?_ | refine vL rfl ?_)
    intro _u; clear _u
    refine cS (fun h1 => ?_) (fun h1 => ?_)
    · rw [if_pos (by omega)]
      repeat ((intro _u; clear _u); first | with_reducible first | refine cT ?_ | refine cF ?_ | refine cA ?_ | refine cB ?_ | refine aLn ?_ | refine cK ?_ | refine aS8 ?_ | refine wI ?_ | refine nD ?_ | refine aX rfl ?_ | refine vL rfl ?_)
      intro _u; clear _u
      exact rT
    · rw [if_neg (by omega)]
      repeat ((intro _u; clear _u); first | with_reducible first | refine cT ?_ | refine cF ?_ | refine cA ?_ | refine cB ?_ | refine aLn ?_ | refine cK ?_ | refine aS8 ?_ | refine wI ?_ | refine nD ?_ | refine aX rfl ?_ | refine vL rfl ?_)
      intro _u; clear _u
      refine acnd_t (by decide) ?_
      repeat ((intro _u; clear _u); first | with_reducible first | refine cT ?_ | refine cF ?_ | refine cA ?_ | refine cB ?_ | refine aLn ?_ | refine cK ?_ | refine aS8 ?_ | refine wI ?_ | refine nD ?_ | refine aX rfl ?_ | refine vL rfl ?_)
      intro _u; clear _u
      exact rT
theorem rcheck13_v {R : Env} (h : N198 R) (v : List T3) (u : List (Int × Int)) (hv : 1 ≤ v.length) : R.Pc 198 [.agg [.isl 3 (slc3 v), .isl 2 (slc2 u), .nils]] (.int .i64 (if 64 < v.length then 3 else 5)) :=
  h.o198.enter 60 rfl fun X bb hfit hp => by
    repeat ((intro _u; clear _u); first | with_reducible first | refine cT ?_ | refine cF ?_ | refine cA ?_ | refine cB ?_ | refine aLn ?_ | refine cK ?_ | refine aS8 ?_ | refine wI ?_ | refine nD ?_ | refine aX rfl ?_ | refine vL rfl ?_)
    intro _u; clear _u
    refine cS (fun h1 => ?_) (fun h1 => ?_)
    · rw [if_pos (by omega)]
      repeat ((intro _u; clear _u); first | with_reducible first | refine cT ?_ | refine cF ?_ | refine cA ?_ | refine cB ?_ | refine aLn ?_ | refine cK ?_ | refine aS8 ?_ | refine wI ?_ | refine nD ?_ | refine aX rfl ?_ | refine vL rfl ?_)
      intro _u; clear _u
      exact rT
    · rw [if_neg (by omega)]
      repeat ((intro _u; clear _u); first | with_reducible first | refine cT ?_ | refine cF ?_ | refine cA ?_ | refine cB ?_ | refine aLn ?_ | refine cK ?_ | refine aS8 ?_ | refine wI ?_ | refine nD ?_ | refine aX rfl ?_ | refine vL rfl ?_)
      intro _u; clear _u
      refine acnd_f (by decide) ?_
      repeat ((intro _u; clear _u); first | with_reducible first | refine cT ?_ | refine cF ?_ | refine cA ?_ | refine cB ?_ | refine aLn ?_ | refine cK ?_ | refine aS8 ?_ | refine wI ?_ | refine nD ?_ | refine aX rfl ?_ | refine vL rfl ?_)
      intro _u; clear _u
      refine acnd_f (by first | (rw [beq_eq_false_iff_ne]; omega) | (simp; omega)) ?_
      repeat ((intro _u; clear _u); first | with_reducible first | refine cT ?_ | refine cF ?_ | refine cA ?_ | refine cB ?_ | refine aLn ?_ | refine cK ?_ | refine aS8 ?_ | refine wI ?_ | refine nD ?_ | refine aX rfl ?_ | refine vL rfl ?_)
      intro _u; clear _u
      refine acnd_t (by decide) ?_
      repeat ((intro _u; clear _u); first | with_reducible first | refine cT ?_ | refine cF ?_ | refine cA ?_ | refine cB ?_ | refine aLn ?_ | refine cK ?_ | refine aS8 ?_ | refine wI ?_ | refine nD ?_ | refine aX rfl ?_ | refine vL rfl ?_)
      intro _u; clear _u
      exact rT

set_option maxHeartbeats 1000000 in
theorem mdecode13_c {R : Env} (h : N202 R) (b : List UInt8) (hb : b.length ≤ 1073741824) : R.Pc 202 [.isl 1 (slc8 b)] (.tup [.agg (mdecd b).1.row, .int .i64 (mdecd b).2]) :=
  h.o202.enter 100 rfl fun X bb hfit hp => by
    repeat ((intro _u; clear _u); first | with_reducible first | refine cT ?_ | refine cF ?_ | refine cA ?_ | refine cB ?_ | refine aLn ?_ | refine cK ?_ | refine aS8 ?_ | refine wI ?_ | refine nD ?_ | refine aX rfl ?_ | refine vL rfl ?_)
    intro _u; clear _u
    refine cM false [] (new_c h.n56 b hb) ?_
    repeat ((intro _u; clear _u); first | refine eK ?_ | refine eP ?_)
    have c1 := uint13_c h.n214 ⟨b, 0, true⟩ 1 (by omega) (by omega)
    unfold mdecd
    have la : ((⟨b, 0, true⟩ : Rd).num 1).1 < 256 := num_lt _ (by omega) (by omega)
    generalize (⟨b, 0, true⟩ : Rd).num 1 = a at c1 la ⊢
    repeat ((intro _u; clear _u); first | with_reducible first | refine cT ?_ | refine cF ?_ | refine cA ?_ | refine cB ?_ | refine aLn ?_ | refine cK ?_ | refine aS8 ?_ | refine wI ?_ | refine nD ?_ | refine aX rfl ?_ | refine vL rfl ?_)
    intro _u; clear _u
    refine cM false [1] (c1) ?_
    repeat ((intro _u; clear _u); first | refine eK ?_ | refine eP ?_)
    have c2 := uint13_c h.n214 a.2 1 (by omega) (by omega)
    have lc : (a.2.num 1).1 < 256 := num_lt _ (by omega) (by omega)
    generalize a.2.num 1 = c at c2 lc ⊢
    repeat ((intro _u; clear _u); first | with_reducible first | refine cT ?_ | refine cF ?_ | refine cA ?_ | refine cB ?_ | refine aLn ?_ | refine cK ?_ | refine aS8 ?_ | refine wI ?_ | refine nD ?_ | refine aX rfl ?_ | refine vL rfl ?_)
    intro _u; clear _u
    refine cM false [1] (c2) ?_
    repeat ((intro _u; clear _u); first | refine eK ?_ | refine eP ?_)
    obtain ⟨nv, ra⟩ := a
    obtain ⟨nt, r2⟩ := c
    dsimp only at la lc c1 c2 ⊢
    obtain ⟨v, hv⟩ : ∃ v, rdN f3 nv r2 = v := ⟨_, rfl⟩
    obtain ⟨u, hu⟩ : ∃ u, rdN f2 nv v.2 = u := ⟨_, rfl⟩
    obtain ⟨t, ht⟩ : ∃ t, rdN ft nt u.2 = t := ⟨_, rfl⟩
    have hq : mq nv nt r2 = (⟨v.1, u.1, t.1⟩, t.2) := by unfold mq; rw [hv, hu, ht]
    rw [hq]
    clear hq c1 c2
    by_cases h0 : nv = 0
    · subst h0
      obtain rfl : v = ([], r2) := hv.symm
      obtain rfl : u = ([], r2) := hu.symm
      repeat ((intro _u; clear _u); first | with_reducible first | refine cT ?_ | refine cF ?_ | refine cA ?_ | refine cB ?_ | refine aLn ?_ | refine cK ?_ | refine aS8 ?_ | refine wI ?_ | refine nD ?_ | refine aX rfl ?_ | refine vL rfl ?_)
      intro _u; clear _u
      refine ILoop.one 100 ?_
      repeat ((intro _u; clear _u); first | with_reducible first | refine cT ?_ | refine cF ?_ | refine cA ?_ | refine cB ?_ | refine aLn ?_ | refine cK ?_ | refine aS8 ?_ | refine wI ?_ | refine nD ?_ | refine aX rfl ?_ | refine vL rfl ?_)
      intro _u; clear _u
      refine acnd_f (by simp) ?_
      repeat ((intro _u; clear _u); first | with_reducible first | refine cT ?_ | refine cF ?_ | refine cA ?_ | refine cB ?_ | refine aLn ?_ | refine cK ?_ | refine aS8 ?_ | refine wI ?_ | refine nD ?_ | refine aX rfl ?_ | refine vL rfl ?_)
      intro _u; clear _u
      refine ILoop.one 100 ?_
      repeat ((intro _u; clear _u); first | with_reducible first | refine cT ?_ | refine cF ?_ | refine cA ?_ | refine cB ?_ | refine aLn ?_ | refine cK ?_ | refine aS8 ?_ | refine wI ?_ | refine nD ?_ | refine aX rfl ?_ | refine vL rfl ?_)
      intro _u; clear _u
      refine acnd_f (by simp) ?_
      by_cases hn : nt = 0
      · subst hn
        obtain rfl : t = ([], r2) := ht.symm
        repeat ((intro _u; clear _u); first | with_reducible first | refine cT ?_ | refine cF ?_ | refine cA ?_ | refine cB ?_ | refine aLn ?_ | refine cK ?_ | refine aS8 ?_ | refine wI ?_ | refine nD ?_ | refine aX rfl ?_ | refine vL rfl ?_)
        intro _u; clear _u
        refine ILoop.one 100 ?_
        repeat ((intro _u; clear _u); first | with_reducible first | refine cT ?_ | refine cF ?_ | refine cA ?_ | refine cB ?_ | refine aLn ?_ | refine cK ?_ | refine aS8 ?_ | refine wI ?_ | refine nD ?_ | refine aX rfl ?_ | refine vL rfl ?_)
        intro _u; clear _u
        refine acnd_f (by simp) ?_
        repeat ((intro _u; clear _u); first | with_reducible first | refine cT ?_ | refine cF ?_ | refine cA ?_ | refine cB ?_ | refine aLn ?_ | refine cK ?_ | refine aS8 ?_ | refine wI ?_ | refine nD ?_ | refine aX rfl ?_ | refine vL rfl ?_)
        intro _u; clear _u
        refine cM false [1] (end_c h.n60 r2) ?_
        repeat ((intro _u; clear _u); first | refine eK ?_ | refine eP ?_)
        repeat ((intro _u; clear _u); first | with_reducible first | refine cT ?_ | refine cF ?_ | refine cA ?_ | refine cB ?_ | refine aLn ?_ | refine cK ?_ | refine aS8 ?_ | refine wI ?_ | refine nD ?_ | refine aX rfl ?_ | refine vL rfl ?_)
        intro _u; clear _u
        refine cS (fun h9 => ?_) (fun h9 => ?_)
        · rw [mfin, if_pos h9]
          repeat ((intro _u; clear _u); first | with_reducible first | refine cT ?_ | refine cF ?_ | refine cA ?_ | refine cB ?_ | refine aLn ?_ | refine cK ?_ | refine aS8 ?_ | refine wI ?_ | refine nD ?_ | refine aX rfl ?_ | refine vL rfl ?_)
          intro _u; clear _u
          exact rT
        · rw [mfin, if_neg (fun hh => hh h9)]
          repeat ((intro _u; clear _u); first | with_reducible first | refine cT ?_ | refine cF ?_ | refine cA ?_ | refine cB ?_ | refine aLn ?_ | refine cK ?_ | refine aS8 ?_ | refine wI ?_ | refine nD ?_ | refine aX rfl ?_ | refine vL rfl ?_)
          intro _u; clear _u
          refine ICall.pure h.n193.o193.hb (mcheck_n h.n193) rfl ?_
          have hc : mchk (⟨[], [], []⟩ : Ms) = 5 := by rw [mchk_v]; rfl
          have hne : mchk (⟨[], [], []⟩ : Ms) ≠ 0 := by rw [hc]; decide
          rw [if_pos hne, hc]
          repeat ((intro _u; clear _u); first | with_reducible first | refine cT ?_ | refine cF ?_ | refine cA ?_ | refine cB ?_ | refine aLn ?_ | refine cK ?_ | refine aS8 ?_ | refine wI ?_ | refine nD ?_ | refine aX rfl ?_ | refine vL rfl ?_)
          intro _u; clear _u
          refine acnd_t (by decide) ?_
          repeat ((intro _u; clear _u); first | with_reducible first | refine cT ?_ | refine cF ?_ | refine cA ?_ | refine cB ?_ | refine aLn ?_ | refine cK ?_ | refine aS8 ?_ | refine wI ?_ | refine nD ?_ | refine aX rfl ?_ | refine vL rfl ?_)
          intro _u; clear _u
          exact rT
      · repeat ((intro _u; clear _u); first | with_reducible first | refine cT ?_ | refine cF ?_ | refine cA ?_ | refine cB ?_ | refine aLn ?_ | refine cK ?_ | refine aS8 ?_ | refine wI ?_ | refine nD ?_ | refine aX rfl ?_ | refine vL rfl ?_)
        intro _u; clear _u
        refine ILoop.one 100 ?_
        repeat ((intro _u; clear _u); first | with_reducible first | refine cT ?_ | refine cF ?_ | refine cA ?_ | refine cB ?_ | refine aLn ?_ | refine cK ?_ | refine aS8 ?_ | refine wI ?_ | refine nD ?_ | refine aX rfl ?_ | refine vL rfl ?_)
        intro _u; clear _u
        refine acnd_t (by (simp; omega)) ?_
        have l0 : ((r2).num 1).1 < 256 := num_lt _ (by omega) (by omega)
        repeat ((intro _u; clear _u); first | with_reducible first | refine cT ?_ | refine cF ?_ | refine cA ?_ | refine cB ?_ | refine aLn ?_ | refine cK ?_ | refine aS8 ?_ | refine wI ?_ | refine nD ?_ | refine aX rfl ?_ | refine vL rfl ?_)
        intro _u; clear _u
        refine cM false [1] (uint13_c h.n214 (r2) 1 (by omega) (by omega)) ?_
        repeat ((intro _u; clear _u); first | refine eK ?_ | refine eP ?_)
        have l1 : (((r2).num 1).2.num 1).1 < 256 := num_lt _ (by omega) (by omega)
        repeat ((intro _u; clear _u); first | with_reducible first | refine cT ?_ | refine cF ?_ | refine cA ?_ | refine cB ?_ | refine aLn ?_ | refine cK ?_ | refine aS8 ?_ | refine wI ?_ | refine nD ?_ | refine aX rfl ?_ | refine vL rfl ?_)
        intro _u; clear _u
        refine cM false [1] (uint13_c h.n214 ((r2).num 1).2 1 (by omega) (by omega)) ?_
        repeat ((intro _u; clear _u); first | refine eK ?_ | refine eP ?_)
        have l2 : ((((r2).num 1).2.num 1).2.num 1).1 < 256 := num_lt _ (by omega) (by omega)
        repeat ((intro _u; clear _u); first | with_reducible first | refine cT ?_ | refine cF ?_ | refine cA ?_ | refine cB ?_ | refine aLn ?_ | refine cK ?_ | refine aS8 ?_ | refine wI ?_ | refine nD ?_ | refine aX rfl ?_ | refine vL rfl ?_)
        intro _u; clear _u
        refine cM false [1] (uint13_c h.n214 (((r2).num 1).2.num 1).2 1 (by omega) (by omega)) ?_
        repeat ((intro _u; clear _u); first | refine eK ?_ | refine eP ?_)
        repeat ((intro _u; clear _u); first | with_reducible first | refine cT ?_ | refine cF ?_ | refine cA ?_ | refine cB ?_ | refine aLn ?_ | refine cK ?_ | refine aS8 ?_ | refine wI ?_ | refine nD ?_ | refine aX rfl ?_ | refine vL rfl ?_)
        intro _u; clear _u
        refine lPa 100 (fun k : Nat => 1 ≤ k ∧ k ≤ nt) (fun k => ⟨[(2, .loc 0 1 0 0), (4, .loc 2 1 0 0), (7, .loc 3 1 0 0), (42, .int .i64 nt), (43, .int .i64 k)], [(0, .var (R.ty 25) [.nils, .nils, .nils]), (1, .var (R.ty 9) (Rd.row (rdN ft k r2).2)), (2, .var (R.ty 30) [.loc 1 1 0 0]), (3, .var (R.ty 25) [.nils, .nils, .osl 5 k]), (5, .arr (R.ty 13) 3 (slc3 (rdN ft k r2).1))], 6⟩) (fun k => nt - k) (1) ?_ ?_
        · exact ⟨Nat.le_refl _, by omega⟩
        · intro k hk
          dsimp only
          obtain ⟨hk1, hk2⟩ := hk
          have hl := rdN_len ft k r2
          have hS : rdN ft (k + 1) r2 = ((rdN ft k r2).1 ++ [(ft (rdN ft k r2).2).1], (ft (rdN ft k r2).2).2) := rfl
          repeat ((intro _u; clear _u); first | with_reducible first | refine cT ?_ | refine cF ?_ | refine cA ?_ | refine cB ?_ | refine aLn ?_ | refine cK ?_ | refine aS8 ?_ | refine wI ?_ | refine nD ?_ | refine aX rfl ?_ | refine vL rfl ?_)
          intro _u; clear _u
          refine cS (fun hlt => ?_) (fun hlt => ?_)
          · generalize hs : rdN ft k r2 = s at hl hS ⊢
            have l0 : ((s.2).num 1).1 < 256 := num_lt _ (by omega) (by omega)
            repeat ((intro _u; clear _u); first | with_reducible first | refine cT ?_ | refine cF ?_ | refine cA ?_ | refine cB ?_ | refine aLn ?_ | refine cK ?_ | refine aS8 ?_ | refine wI ?_ | refine nD ?_ | refine aX rfl ?_ | refine vL rfl ?_)
            intro _u; clear _u
            refine cM false [1] (uint13_c h.n214 (s.2) 1 (by omega) (by omega)) ?_
            repeat ((intro _u; clear _u); first | refine eK ?_ | refine eP ?_)
            have l1 : (((s.2).num 1).2.num 1).1 < 256 := num_lt _ (by omega) (by omega)
            repeat ((intro _u; clear _u); first | with_reducible first | refine cT ?_ | refine cF ?_ | refine cA ?_ | refine cB ?_ | refine aLn ?_ | refine cK ?_ | refine aS8 ?_ | refine wI ?_ | refine nD ?_ | refine aX rfl ?_ | refine vL rfl ?_)
            intro _u; clear _u
            refine cM false [1] (uint13_c h.n214 ((s.2).num 1).2 1 (by omega) (by omega)) ?_
            repeat ((intro _u; clear _u); first | refine eK ?_ | refine eP ?_)
            have l2 : ((((s.2).num 1).2.num 1).2.num 1).1 < 256 := num_lt _ (by omega) (by omega)
            repeat ((intro _u; clear _u); first | with_reducible first | refine cT ?_ | refine cF ?_ | refine cA ?_ | refine cB ?_ | refine aLn ?_ | refine cK ?_ | refine aS8 ?_ | refine wI ?_ | refine nD ?_ | refine aX rfl ?_ | refine vL rfl ?_)
            intro _u; clear _u
            refine cM false [1] (uint13_c h.n214 (((s.2).num 1).2.num 1).2 1 (by omega) (by omega)) ?_
            repeat ((intro _u; clear _u); first | refine eK ?_ | refine eP ?_)
            repeat ((intro _u; clear _u); first | with_reducible first | refine cT ?_ | refine cF ?_ | refine cA ?_ | refine cB ?_ | refine aLn ?_ | refine cK ?_ | refine aS8 ?_ | refine wI ?_ | refine nD ?_ | refine aX rfl ?_ | refine vL rfl ?_)
            intro _u; clear _u
            refine nX (k + 1) ?_ ?_ ⟨_, hp, rfl⟩ ?_ ?_
            · omega
            · omega
            · all_goals repeat' (first | exact True.intro | refine And.intro ?_ ?_ | (intro _u; clear _u) | (with_reducible first | refine eM ?_ ?_ | refine eF ?_ ?_ ?_ | refine eN ?_ | refine eL ?_ ?_ ?_ | refine eA ?_ ?_ | refine IWk.mk ⟨_, hp, rfl⟩ ?_ ?_) | refine IWk.mk ⟨_, hp, rfl⟩ ?_ ?_)
              all_goals first | with_reducible rfl | omega | exact Or.inl (by decide) | (simp; done) | rfl | skip
            · all_goals repeat' (first | exact True.intro | refine And.intro ?_ ?_ | (intro _u; clear _u) | (with_reducible first | refine eM ?_ ?_ | refine eF ?_ ?_ ?_ | refine eN ?_ | refine eL ?_ ?_ ?_ | refine eA ?_ ?_ | refine IWk.mk ⟨_, hp, rfl⟩ ?_ ?_) | refine IWk.mk ⟨_, hp, rfl⟩ ?_ ?_)
              all_goals first | with_reducible rfl | omega | exact Or.inl (by decide) | (simp; done) | rfl | skip
              all_goals first | (simp [hl]; done) | (rw [hS]; done) | (rw [hS]; rfl) | (rw [hS]; simp [slc3]; done) | (rw [hS]; simp [slc3]; rfl)
          · have hkn : k = nt := by omega
            rw [hkn, ht] at hl ⊢
            have hzt : (slc3 t.1).length = nt := by simp [hl]
            repeat ((intro _u; clear _u); first | with_reducible first | refine cT ?_ | refine cF ?_ | refine cA ?_ | refine cB ?_ | refine aLn ?_ | refine cK ?_ | refine aS8 ?_ | refine wI ?_ | refine nD ?_ | refine aX rfl ?_ | refine vL rfl ?_)
            intro _u; clear _u
            refine cM false [1] (end_c h.n60 t.2) ?_
            repeat ((intro _u; clear _u); first | refine eK ?_ | refine eP ?_)
            repeat ((intro _u; clear _u); first | with_reducible first | refine cT ?_ | refine cF ?_ | refine cA ?_ | refine cB ?_ | refine aLn ?_ | refine cK ?_ | refine aS8 ?_ | refine wI ?_ | refine nD ?_ | refine aX rfl ?_ | refine vL rfl ?_)
            intro _u; clear _u
            refine cS (fun h9 => ?_) (fun h9 => ?_)
            · rw [mfin, if_pos h9]
              repeat ((intro _u; clear _u); first | with_reducible first | refine cT ?_ | refine cF ?_ | refine cA ?_ | refine cB ?_ | refine aLn ?_ | refine cK ?_ | refine aS8 ?_ | refine wI ?_ | refine nD ?_ | refine aX rfl ?_ | refine vL rfl ?_)
              intro _u; clear _u
              exact rT
            · rw [mfin, if_neg (fun hh => hh h9)]
              repeat ((intro _u; clear _u); first | with_reducible first | refine cT ?_ | refine cF ?_ | refine cA ?_ | refine cB ?_ | refine aLn ?_ | refine cK ?_ | refine aS8 ?_ | refine wI ?_ | refine nD ?_ | refine aX rfl ?_ | refine vL rfl ?_)
              intro _u; clear _u
              refine ICall.let [5] rfl hp rfl ?_
              repeat ((intro _u; clear _u); first | refine eZ ?_ | refine FrzC.drop ?_)
              repeat ((intro _u; clear _u); first | with_reducible first | refine cT ?_ | refine cF ?_ | refine cA ?_ | refine cB ?_ | refine aLn ?_ | refine cK ?_ | refine aS8 ?_ | refine wI ?_ | refine nD ?_ | refine aX rfl ?_ | refine vL rfl ?_)
              intro _u; clear _u
              refine ICall.pure h.n193.o193.hb (mcheck_t h.n193 t.1) rfl ?_
              have hc : mchk (⟨[], [], t.1⟩ : Ms) = if 64 < t.1.length then 3 else 5 := mchk_v
              have hne : mchk (⟨[], [], t.1⟩ : Ms) ≠ 0 := by rw [hc]; split <;> decide
              rw [if_pos hne, hc]
              repeat ((intro _u; clear _u); first | with_reducible first | refine cT ?_ | refine cF ?_ | refine cA ?_ | refine cB ?_ | refine aLn ?_ | refine cK ?_ | refine aS8 ?_ | refine wI ?_ | refine nD ?_ | refine aX rfl ?_ | refine vL rfl ?_)
              intro _u; clear _u
              refine acnd_t (by (split <;> decide)) ?_
              repeat ((intro _u; clear _u); first | with_reducible first | refine cT ?_ | refine cF ?_ | refine cA ?_ | refine cB ?_ | refine aLn ?_ | refine cK ?_ | refine aS8 ?_ | refine wI ?_ | refine nD ?_ | refine aX rfl ?_ | refine vL rfl ?_)
              intro _u; clear _u
              exact rT
    · repeat ((intro _u; clear _u); first | with_reducible first | refine cT ?_ | refine cF ?_ | refine cA ?_ | refine cB ?_ | refine aLn ?_ | refine cK ?_ | refine aS8 ?_ | refine wI ?_ | refine nD ?_ | refine aX rfl ?_ | refine vL rfl ?_)
      intro _u; clear _u
      refine ILoop.one 100 ?_
      repeat ((intro _u; clear _u); first | with_reducible first | refine cT ?_ | refine cF ?_ | refine cA ?_ | refine cB ?_ | refine aLn ?_ | refine cK ?_ | refine aS8 ?_ | refine wI ?_ | refine nD ?_ | refine aX rfl ?_ | refine vL rfl ?_)
      intro _u; clear _u
      refine acnd_t (by (simp; omega)) ?_
      repeat ((intro _u; clear _u); first | with_reducible first | refine cT ?_ | refine cF ?_ | refine cA ?_ | refine cB ?_ | refine aLn ?_ | refine cK ?_ | refine aS8 ?_ | refine wI ?_ | refine nD ?_ | refine aX rfl ?_ | refine vL rfl ?_)
      intro _u; clear _u
      refine cM false [1] (point13_c h.n215 r2) ?_
      repeat ((intro _u; clear _u); first | refine eK ?_ | refine eP ?_)
      repeat ((intro _u; clear _u); first | with_reducible first | refine cT ?_ | refine cF ?_ | refine cA ?_ | refine cB ?_ | refine aLn ?_ | refine cK ?_ | refine aS8 ?_ | refine wI ?_ | refine nD ?_ | refine aX rfl ?_ | refine vL rfl ?_)
      intro _u; clear _u
      refine lPa 100 (fun k : Nat => 1 ≤ k ∧ k ≤ nv) (fun k => ⟨[(2, .loc 0 1 0 0), (4, .loc 2 1 0 0), (5, .int .i64 nv), (6, .int .i64 nt), (7, .loc 3 1 0 0), (17, .int .i64 nv), (18, .int .i64 k)], [(0, .var (R.ty 25) [.nils, .nils, .nils]), (1, .var (R.ty 9) (Rd.row (rdN f3 k r2).2)), (2, .var (R.ty 30) [.loc 1 1 0 0]), (3, .var (R.ty 25) [.osl 5 k, .nils, .nils]), (5, .arr (R.ty 26) 3 (slc3 (rdN f3 k r2).1))], 6⟩) (fun k => nv - k) (1) ?_ ?_
      · exact ⟨Nat.le_refl _, by omega⟩
      · intro k hk
        dsimp only
        obtain ⟨hk1, hk2⟩ := hk
        have hl := rdN_len f3 k r2
        have hS : rdN f3 (k + 1) r2 = ((rdN f3 k r2).1 ++ [(f3 (rdN f3 k r2).2).1], (f3 (rdN f3 k r2).2).2) := rfl
        repeat ((intro _u; clear _u); first | with_reducible first | refine cT ?_ | refine cF ?_ | refine cA ?_ | refine cB ?_ | refine aLn ?_ | refine cK ?_ | refine aS8 ?_ | refine wI ?_ | refine nD ?_ | refine aX rfl ?_ | refine vL rfl ?_)
        intro _u; clear _u
        refine cS (fun hlt => ?_) (fun hlt => ?_)
        · generalize hs : rdN f3 k r2 = s at hl hS ⊢
          repeat ((intro _u; clear _u); first | with_reducible first | refine cT ?_ | refine cF ?_ | refine cA ?_ | refine cB ?_ | refine aLn ?_ | refine cK ?_ | refine aS8 ?_ | refine wI ?_ | refine nD ?_ | refine aX rfl ?_ | refine vL rfl ?_)
          intro _u; clear _u
          refine cM false [1] (point13_c h.n215 s.2) ?_
          repeat ((intro _u; clear _u); first | refine eK ?_ | refine eP ?_)
          repeat ((intro _u; clear _u); first | with_reducible first | refine cT ?_ | refine cF ?_ | refine cA ?_ | refine cB ?_ | refine aLn ?_ | refine cK ?_ | refine aS8 ?_ | refine wI ?_ | refine nD ?_ | refine aX rfl ?_ | refine vL rfl ?_)
          intro _u; clear _u
          refine nX (k + 1) ?_ ?_ ⟨_, hp, rfl⟩ ?_ ?_
          · omega
          · omega
          · all_goals repeat' (first | exact True.intro | refine And.intro ?_ ?_ | (intro _u; clear _u) | (with_reducible first | refine eM ?_ ?_ | refine eF ?_ ?_ ?_ | refine eN ?_ | refine eL ?_ ?_ ?_ | refine eA ?_ ?_ | refine IWk.mk ⟨_, hp, rfl⟩ ?_ ?_) | refine IWk.mk ⟨_, hp, rfl⟩ ?_ ?_)
            all_goals first | with_reducible rfl | omega | exact Or.inl (by decide) | (simp; done) | rfl | skip
          · all_goals repeat' (first | exact True.intro | refine And.intro ?_ ?_ | (intro _u; clear _u) | (with_reducible first | refine eM ?_ ?_ | refine eF ?_ ?_ ?_ | refine eN ?_ | refine eL ?_ ?_ ?_ | refine eA ?_ ?_ | refine IWk.mk ⟨_, hp, rfl⟩ ?_ ?_) | refine IWk.mk ⟨_, hp, rfl⟩ ?_ ?_)
            all_goals first | with_reducible rfl | omega | exact Or.inl (by decide) | (simp; done) | rfl | skip
            all_goals first | (simp [hl]; done) | (rw [hS]; done) | (rw [hS]; rfl) | (rw [hS]; simp [slc3]; done) | (rw [hS]; simp [slc3]; rfl)
        · have hkn : k = nv := by omega
          rw [hkn, hv] at hl ⊢
          have hzv : (slc3 v.1).length = nv := by simp [hl]
          have hvl := hl
          repeat ((intro _u; clear _u); first | with_reducible first | refine cT ?_ | refine cF ?_ | refine cA ?_ | refine cB ?_ | refine aLn ?_ | refine cK ?_ | refine aS8 ?_ | refine wI ?_ | refine nD ?_ | refine aX rfl ?_ | refine vL rfl ?_)
          intro _u; clear _u
          refine ILoop.one 100 ?_
          repeat ((intro _u; clear _u); first | with_reducible first | refine cT ?_ | refine cF ?_ | refine cA ?_ | refine cB ?_ | refine aLn ?_ | refine cK ?_ | refine aS8 ?_ | refine wI ?_ | refine nD ?_ | refine aX rfl ?_ | refine vL rfl ?_)
          intro _u; clear _u
          refine acnd_t (by (simp; omega)) ?_
          have l0 : ((v.2).num 2).1 < 65536 := num_lt _ (by omega) (by omega)
          repeat ((intro _u; clear _u); first | with_reducible first | refine cT ?_ | refine cF ?_ | refine cA ?_ | refine cB ?_ | refine aLn ?_ | refine cK ?_ | refine aS8 ?_ | refine wI ?_ | refine nD ?_ | refine aX rfl ?_ | refine vL rfl ?_)
          intro _u; clear _u
          refine cM false [1] (uint13_c h.n214 (v.2) 2 (by omega) (by omega)) ?_
          repeat ((intro _u; clear _u); first | refine eK ?_ | refine eP ?_)
          have l1 : (((v.2).num 2).2.num 2).1 < 65536 := num_lt _ (by omega) (by omega)
          repeat ((intro _u; clear _u); first | with_reducible first | refine cT ?_ | refine cF ?_ | refine cA ?_ | refine cB ?_ | refine aLn ?_ | refine cK ?_ | refine aS8 ?_ | refine wI ?_ | refine nD ?_ | refine aX rfl ?_ | refine vL rfl ?_)
          intro _u; clear _u
          refine cM false [1] (uint13_c h.n214 ((v.2).num 2).2 2 (by omega) (by omega)) ?_
          repeat ((intro _u; clear _u); first | refine eK ?_ | refine eP ?_)
          repeat ((intro _u; clear _u); first | with_reducible first | refine cT ?_ | refine cF ?_ | refine cA ?_ | refine cB ?_ | refine aLn ?_ | refine cK ?_ | refine aS8 ?_ | refine wI ?_ | refine nD ?_ | refine aX rfl ?_ | refine vL rfl ?_)
          intro _u; clear _u
          refine lPa 100 (fun k : Nat => 1 ≤ k ∧ k ≤ nv) (fun k => ⟨[(2, .loc 0 1 0 0), (4, .loc 2 1 0 0), (6, .int .i64 nt), (7, .loc 3 1 0 0), (28, .int .i64 nv), (29, .int .i64 k)], [(0, .var (R.ty 25) [.nils, .nils, .nils]), (1, .var (R.ty 9) (Rd.row (rdN f2 k v.2).2)), (2, .var (R.ty 30) [.loc 1 1 0 0]), (3, .var (R.ty 25) [.osl 5 nv, .osl 7 k, .nils]), (5, .arr (R.ty 26) 3 (slc3 v.1)), (7, .arr (R.ty 18) 2 (slc2 (rdN f2 k v.2).1))], 8⟩) (fun k => nv - k) (1) ?_ ?_
          · exact ⟨Nat.le_refl _, by omega⟩
          · intro k hk
            dsimp only
            obtain ⟨hk1, hk2⟩ := hk
            have hl := rdN_len f2 k v.2
            have hS : rdN f2 (k + 1) v.2 = ((rdN f2 k v.2).1 ++ [(f2 (rdN f2 k v.2).2).1], (f2 (rdN f2 k v.2).2).2) := rfl
            repeat ((intro _u; clear _u); first | with_reducible first | refine cT ?_ | refine cF ?_ | refine cA ?_ | refine cB ?_ | refine aLn ?_ | refine cK ?_ | refine aS8 ?_ | refine wI ?_ | refine nD ?_ | refine aX rfl ?_ | refine vL rfl ?_)
            intro _u; clear _u
            refine cS (fun hlt => ?_) (fun hlt => ?_)
            · generalize hs : rdN f2 k v.2 = s at hl hS ⊢
              have l0 : ((s.2).num 2).1 < 65536 := num_lt _ (by omega) (by omega)
              repeat ((intro _u; clear _u); first | with_reducible first | refine cT ?_ | refine cF ?_ | refine cA ?_ | refine cB ?_ | refine aLn ?_ | refine cK ?_ | refine aS8 ?_ | refine wI ?_ | refine nD ?_ | refine aX rfl ?_ | refine vL rfl ?_)
              intro _u; clear _u
              refine cM false [1] (uint13_c h.n214 (s.2) 2 (by omega) (by omega)) ?_
              repeat ((intro _u; clear _u); first | refine eK ?_ | refine eP ?_)
              have l1 : (((s.2).num 2).2.num 2).1 < 65536 := num_lt _ (by omega) (by omega)
              repeat ((intro _u; clear _u); first | with_reducible first | refine cT ?_ | refine cF ?_ | refine cA ?_ | refine cB ?_ | refine aLn ?_ | refine cK ?_ | refine aS8 ?_ | refine wI ?_ | refine nD ?_ | refine aX rfl ?_ | refine vL rfl ?_)
              intro _u; clear _u
              refine cM false [1] (uint13_c h.n214 ((s.2).num 2).2 2 (by omega) (by omega)) ?_
              repeat ((intro _u; clear _u); first | refine eK ?_ | refine eP ?_)
              repeat ((intro _u; clear _u); first | with_reducible first | refine cT ?_ | refine cF ?_ | refine cA ?_ | refine cB ?_ | refine aLn ?_ | refine cK ?_ | refine aS8 ?_ | refine wI ?_ | refine nD ?_ | refine aX rfl ?_ | refine vL rfl ?_)
              intro _u; clear _u
              refine nX (k + 1) ?_ ?_ ⟨_, hp, rfl⟩ ?_ ?_
              · omega
              · omega
              · all_goals repeat' (first | exact True.intro | refine And.intro ?_ ?_ | (intro _u; clear _u) | (with_reducible first | refine eM ?_ ?_ | refine eF ?_ ?_ ?_ | refine eN ?_ | refine eL ?_ ?_ ?_ | refine eA ?_ ?_ | refine IWk.mk ⟨_, hp, rfl⟩ ?_ ?_) | refine IWk.mk ⟨_, hp, rfl⟩ ?_ ?_)
                all_goals first | with_reducible rfl | omega | exact Or.inl (by decide) | (simp; done) | rfl | skip
              · all_goals repeat' (first | exact True.intro | refine And.intro ?_ ?_ | (intro _u; clear _u) | (with_reducible first | refine eM ?_ ?_ | refine eF ?_ ?_ ?_ | refine eN ?_ | refine eL ?_ ?_ ?_ | refine eA ?_ ?_ | refine IWk.mk ⟨_, hp, rfl⟩ ?_ ?_) | refine IWk.mk ⟨_, hp, rfl⟩ ?_ ?_)
                all_goals first | with_reducible rfl | omega | exact Or.inl (by decide) | (simp; done) | rfl | skip
                all_goals first | (simp [hl]; done) | (rw [hS]; done) | (rw [hS]; rfl) | (rw [hS]; simp [slc2]; done) | (rw [hS]; simp [slc2]; rfl)
            · have hkn : k = nv := by omega
              rw [hkn, hu] at hl ⊢
              have hzu : (slc2 u.1).length = nv := by simp [hl]
              have hul := hl
              by_cases hn : nt = 0
              · subst hn
                obtain rfl : t = ([], u.2) := ht.symm
                repeat ((intro _u; clear _u); first | with_reducible first | refine cT ?_ | refine cF ?_ | refine cA ?_ | refine cB ?_ | refine aLn ?_ | refine cK ?_ | refine aS8 ?_ | refine wI ?_ | refine nD ?_ | refine aX rfl ?_ | refine vL rfl ?_)
                intro _u; clear _u
                refine ILoop.one 100 ?_
                repeat ((intro _u; clear _u); first | with_reducible first | refine cT ?_ | refine cF ?_ | refine cA ?_ | refine cB ?_ | refine aLn ?_ | refine cK ?_ | refine aS8 ?_ | refine wI ?_ | refine nD ?_ | refine aX rfl ?_ | refine vL rfl ?_)
                intro _u; clear _u
                refine acnd_f (by simp) ?_
                repeat ((intro _u; clear _u); first | with_reducible first | refine cT ?_ | refine cF ?_ | refine cA ?_ | refine cB ?_ | refine aLn ?_ | refine cK ?_ | refine aS8 ?_ | refine wI ?_ | refine nD ?_ | refine aX rfl ?_ | refine vL rfl ?_)
                intro _u; clear _u
                refine cM false [1] (end_c h.n60 u.2) ?_
                repeat ((intro _u; clear _u); first | refine eK ?_ | refine eP ?_)
                repeat ((intro _u; clear _u); first | with_reducible first | refine cT ?_ | refine cF ?_ | refine cA ?_ | refine cB ?_ | refine aLn ?_ | refine cK ?_ | refine aS8 ?_ | refine wI ?_ | refine nD ?_ | refine aX rfl ?_ | refine vL rfl ?_)
                intro _u; clear _u
                refine cS (fun h9 => ?_) (fun h9 => ?_)
                · rw [mfin, if_pos h9]
                  repeat ((intro _u; clear _u); first | with_reducible first | refine cT ?_ | refine cF ?_ | refine cA ?_ | refine cB ?_ | refine aLn ?_ | refine cK ?_ | refine aS8 ?_ | refine wI ?_ | refine nD ?_ | refine aX rfl ?_ | refine vL rfl ?_)
                  intro _u; clear _u
                  exact rT
                · rw [mfin, if_neg (fun hh => hh h9)]
                  repeat ((intro _u; clear _u); first | with_reducible first | refine cT ?_ | refine cF ?_ | refine cA ?_ | refine cB ?_ | refine aLn ?_ | refine cK ?_ | refine aS8 ?_ | refine wI ?_ | refine nD ?_ | refine aX rfl ?_ | refine vL rfl ?_)
                  intro _u; clear _u
                  refine ICall.let [5, 7] rfl hp rfl ?_
                  repeat ((intro _u; clear _u); first | refine eZ ?_ | refine FrzC.drop ?_)
                  repeat ((intro _u; clear _u); first | with_reducible first | refine cT ?_ | refine cF ?_ | refine cA ?_ | refine cB ?_ | refine aLn ?_ | refine cK ?_ | refine aS8 ?_ | refine wI ?_ | refine nD ?_ | refine aX rfl ?_ | refine vL rfl ?_)
                  intro _u; clear _u
                  refine ICall.pure h.n193.o193.hb (mcheck_v h.n193 v.1 u.1 (by omega)) rfl ?_
                  have hc : mchk (⟨v.1, u.1, []⟩ : Ms) = if 64 < v.1.length then 3 else 5 := mchk_t
                  have hne : mchk (⟨v.1, u.1, []⟩ : Ms) ≠ 0 := by rw [hc]; split <;> decide
                  rw [if_pos hne, hc]
                  repeat ((intro _u; clear _u); first | with_reducible first | refine cT ?_ | refine cF ?_ | refine cA ?_ | refine cB ?_ | refine aLn ?_ | refine cK ?_ | refine aS8 ?_ | refine wI ?_ | refine nD ?_ | refine aX rfl ?_ | refine vL rfl ?_)
                  intro _u; clear _u
                  refine acnd_t (by (split <;> decide)) ?_
                  repeat ((intro _u; clear _u); first | with_reducible first | refine cT ?_ | refine cF ?_ | refine cA ?_ | refine cB ?_ | refine aLn ?_ | refine cK ?_ | refine aS8 ?_ | refine wI ?_ | refine nD ?_ | refine aX rfl ?_ | refine vL rfl ?_)
                  intro _u; clear _u
                  exact rT
              · repeat ((intro _u; clear _u); first | with_reducible first | refine cT ?_ | refine cF ?_ | refine cA ?_ | refine cB ?_ | refine aLn ?_ | refine cK ?_ | refine aS8 ?_ | refine wI ?_ | refine nD ?_ | refine aX rfl ?_ | refine vL rfl ?_)
                intro _u; clear _u
                refine ILoop.one 100 ?_
                repeat ((intro _u; clear _u); first | with_reducible first | refine cT ?_ | refine cF ?_ | refine cA ?_ | refine cB ?_ | refine aLn ?_ | refine cK ?_ | refine aS8 ?_ | refine wI ?_ | refine nD ?_ | refine aX rfl ?_ | refine vL rfl ?_)
                intro _u; clear _u
                refine acnd_t (by (simp; omega)) ?_
                have l0 : ((u.2).num 1).1 < 256 := num_lt _ (by omega) (by omega)
                repeat ((intro _u; clear _u); first | with_reducible first | refine cT ?_ | refine cF ?_ | refine cA ?_ | refine cB ?_ | refine aLn ?_ | refine cK ?_ | refine aS8 ?_ | refine wI ?_ | refine nD ?_ | refine aX rfl ?_ | refine vL rfl ?_)
                intro _u; clear _u
                refine cM false [1] (uint13_c h.n214 (u.2) 1 (by omega) (by omega)) ?_
                repeat ((intro _u; clear _u); first | refine eK ?_ | refine eP ?_)
                have l1 : (((u.2).num 1).2.num 1).1 < 256 := num_lt _ (by omega) (by omega)
                repeat ((intro _u; clear _u); first | with_reducible first | refine cT ?_ | refine cF ?_ | refine cA ?_ | refine cB ?_ | refine aLn ?_ | refine cK ?_ | refine aS8 ?_ | refine wI ?_ | refine nD ?_ | refine aX rfl ?_ | refine vL rfl ?_)
                intro _u; clear _u
                refine cM false [1] (uint13_c h.n214 ((u.2).num 1).2 1 (by omega) (by omega)) ?_
                repeat ((intro _u; clear _u); first | refine eK ?_ | refine eP ?_)
                have l2 : ((((u.2).num 1).2.num 1).2.num 1).1 < 256 := num_lt _ (by omega) (by omega)
                repeat ((intro _u; clear _u); first | with_reducible first | refine cT ?_ | refine cF ?_ | refine cA ?_ | refine cB ?_ | refine aLn ?_ | refine cK ?_ | refine aS8 ?_ | refine wI ?_ | refine nD ?_ | refine aX rfl ?_ | refine vL rfl ?_)
                intro _u; clear _u
                refine cM false [1] (uint13_c h.n214 (((u.2).num 1).2.num 1).2 1 (by omega) (by omega)) ?_
                repeat ((intro _u; clear _u); first | refine eK ?_ | refine eP ?_)
                repeat ((intro _u; clear _u); first | with_reducible first | refine cT ?_ | refine cF ?_ | refine cA ?_ | refine cB ?_ | refine aLn ?_ | refine cK ?_ | refine aS8 ?_ | refine wI ?_ | refine nD ?_ | refine aX rfl ?_ | refine vL rfl ?_)
                intro _u; clear _u
                refine lPa 100 (fun k : Nat => 1 ≤ k ∧ k ≤ nt) (fun k => ⟨[(2, .loc 0 1 0 0), (4, .loc 2 1 0 0), (7, .loc 3 1 0 0), (42, .int .i64 nt), (43, .int .i64 k)], [(0, .var (R.ty 25) [.nils, .nils, .nils]), (1, .var (R.ty 9) (Rd.row (rdN ft k u.2).2)), (2, .var (R.ty 30) [.loc 1 1 0 0]), (3, .var (R.ty 25) [.osl 5 nv, .osl 7 nv, .osl 9 k]), (5, .arr (R.ty 26) 3 (slc3 v.1)), (7, .arr (R.ty 18) 2 (slc2 u.1)), (9, .arr (R.ty 13) 3 (slc3 (rdN ft k u.2).1))], 10⟩) (fun k => nt - k) (1) ?_ ?_
                · exact ⟨Nat.le_refl _, by omega⟩
                · intro k hk
                  dsimp only
                  obtain ⟨hk1, hk2⟩ := hk
                  have hl := rdN_len ft k u.2
                  have hS : rdN ft (k + 1) u.2 = ((rdN ft k u.2).1 ++ [(ft (rdN ft k u.2).2).1], (ft (rdN ft k u.2).2).2) := rfl
                  repeat ((intro _u; clear _u); first | with_reducible first | refine cT ?_ | refine cF ?_ | refine cA ?_ | refine cB ?_ | refine aLn ?_ | refine cK ?_ | refine aS8 ?_ | refine wI ?_ | refine nD ?_ | refine aX rfl ?_ | refine vL rfl ?_)
                  intro _u; clear _u
                  refine cS (fun hlt => ?_) (fun hlt => ?_)
                  · generalize hs : rdN ft k u.2 = s at hl hS ⊢
                    have l0 : ((s.2).num 1).1 < 256 := num_lt _ (by omega) (by omega)
                    repeat ((intro _u; clear _u); first | with_reducible first | refine cT ?_ | refine cF ?_ | refine cA ?_ | refine cB ?_ | refine aLn ?_ | refine cK ?_ | refine aS8 ?_ | refine wI ?_ | refine nD ?_ | refine aX rfl ?_ | refine vL rfl ?_)
                    intro _u; clear _u
                    refine cM false [1] (uint13_c h.n214 (s.2) 1 (by omega) (by omega)) ?_
                    repeat ((intro _u; clear _u); first | refine eK ?_ | refine eP ?_)
                    have l1 : (((s.2).num 1).2.num 1).1 < 256 := num_lt _ (by omega) (by omega)
                    repeat ((intro _u; clear _u); first | with_reducible first | refine cT ?_ | refine cF ?_ | refine cA ?_ | refine cB ?_ | refine aLn ?_ | refine cK ?_ | refine aS8 ?_ | refine wI ?_ | refine nD ?_ | refine aX rfl ?_ | refine vL rfl ?_)
                    intro _u; clear _u
                    refine cM false [1] (uint13_c h.n214 ((s.2).num 1).2 1 (by omega) (by omega)) ?_
                    repeat ((intro _u; clear _u); first | refine eK ?_ | refine eP ?_)
                    have l2 : ((((s.2).num 1).2.num 1).2.num 1).1 < 256 := num_lt _ (by omega) (by omega)
                    repeat ((intro _u; clear _u); first | with_reducible first | refine cT ?_ | refine cF ?_ | refine cA ?_ | refine cB ?_ | refine aLn ?_ | refine cK ?_ | refine aS8 ?_ | refine wI ?_ | refine nD ?_ | refine aX rfl ?_ | refine vL rfl ?_)
                    intro _u; clear _u
                    refine cM false [1] (uint13_c h.n214 (((s.2).num 1).2.num 1).2 1 (by omega) (by omega)) ?_
                    repeat ((intro _u; clear _u); first | refine eK ?_ | refine eP ?_)
                    repeat ((intro _u; clear _u); first | with_reducible first | refine cT ?_ | refine cF ?_ | refine cA ?_ | refine cB ?_ | refine aLn ?_ | refine cK ?_ | refine aS8 ?_ | refine wI ?_ | refine nD ?_ | refine aX rfl ?_ | refine vL rfl ?_)
                    intro _u; clear _u
                    refine nX (k + 1) ?_ ?_ ⟨_, hp, rfl⟩ ?_ ?_
                    · omega
                    · omega
                    · all_goals repeat' (first | exact True.intro | refine And.intro ?_ ?_ | (intro _u; clear _u) | (with_reducible first | refine eM ?_ ?_ | refine eF ?_ ?_ ?_ | refine eN ?_ | refine eL ?_ ?_ ?_ | refine eA ?_ ?_ | refine IWk.mk ⟨_, hp, rfl⟩ ?_ ?_) | refine IWk.mk ⟨_, hp, rfl⟩ ?_ ?_)
                      all_goals first | with_reducible rfl | omega | exact Or.inl (by decide) | (simp; done) | rfl | skip
                    · all_goals repeat' (first | exact True.intro | refine And.intro ?_ ?_ | (intro _u; clear _u) | (with_reducible first | refine eM ?_ ?_ | refine eF ?_ ?_ ?_ | refine eN ?_ | refine eL ?_ ?_ ?_ | refine eA ?_ ?_ | refine IWk.mk ⟨_, hp, rfl⟩ ?_ ?_) | refine IWk.mk ⟨_, hp, rfl⟩ ?_ ?_)
                      all_goals first | with_reducible rfl | omega | exact Or.inl (by decide) | (simp; done) | rfl | skip
                      all_goals first | (simp [hl]; done) | (rw [hS]; done) | (rw [hS]; rfl) | (rw [hS]; simp [slc3]; done) | (rw [hS]; simp [slc3]; rfl)
                  · have hkn : k = nt := by omega
                    rw [hkn, ht] at hl ⊢
                    have hzt : (slc3 t.1).length = nt := by simp [hl]
                    repeat ((intro _u; clear _u); first | with_reducible first | refine cT ?_ | refine cF ?_ | refine cA ?_ | refine cB ?_ | refine aLn ?_ | refine cK ?_ | refine aS8 ?_ | refine wI ?_ | refine nD ?_ | refine aX rfl ?_ | refine vL rfl ?_)
                    intro _u; clear _u
                    refine cM false [1] (end_c h.n60 t.2) ?_
                    repeat ((intro _u; clear _u); first | refine eK ?_ | refine eP ?_)
                    repeat ((intro _u; clear _u); first | with_reducible first | refine cT ?_ | refine cF ?_ | refine cA ?_ | refine cB ?_ | refine aLn ?_ | refine cK ?_ | refine aS8 ?_ | refine wI ?_ | refine nD ?_ | refine aX rfl ?_ | refine vL rfl ?_)
                    intro _u; clear _u
                    refine cS (fun h9 => ?_) (fun h9 => ?_)
                    · rw [mfin, if_pos h9]
                      repeat ((intro _u; clear _u); first | with_reducible first | refine cT ?_ | refine cF ?_ | refine cA ?_ | refine cB ?_ | refine aLn ?_ | refine cK ?_ | refine aS8 ?_ | refine wI ?_ | refine nD ?_ | refine aX rfl ?_ | refine vL rfl ?_)
                      intro _u; clear _u
                      exact rT
                    · rw [mfin, if_neg (fun hh => hh h9)]
                      repeat ((intro _u; clear _u); first | with_reducible first | refine cT ?_ | refine cF ?_ | refine cA ?_ | refine cB ?_ | refine aLn ?_ | refine cK ?_ | refine aS8 ?_ | refine wI ?_ | refine nD ?_ | refine aX rfl ?_ | refine vL rfl ?_)
                      intro _u; clear _u
                      refine ICall.let [5, 7, 9] rfl hp rfl ?_
                      repeat ((intro _u; clear _u); first | refine eZ ?_ | refine FrzC.drop ?_)
                      repeat ((intro _u; clear _u); first | with_reducible first | refine cT ?_ | refine cF ?_ | refine cA ?_ | refine cB ?_ | refine aLn ?_ | refine cK ?_ | refine aS8 ?_ | refine wI ?_ | refine nD ?_ | refine aX rfl ?_ | refine vL rfl ?_)
                      intro _u; clear _u
                      refine ICall.pure h.n193.o193.hb (mcheck_c h.n193 ⟨v.1, u.1, t.1⟩) rfl ?_
                      repeat ((intro _u; clear _u); first | with_reducible first | refine cT ?_ | refine cF ?_ | refine cA ?_ | refine cB ?_ | refine aLn ?_ | refine cK ?_ | refine aS8 ?_ | refine wI ?_ | refine nD ?_ | refine aX rfl ?_ | refine vL rfl ?_)
                      intro _u; clear _u
                      refine cS (fun h10 => ?_) (fun h10 => ?_)
                      · rw [if_pos h10]
                        repeat ((intro _u; clear _u); first | with_reducible first | refine cT ?_ | refine cF ?_ | refine cA ?_ | refine cB ?_ | refine aLn ?_ | refine cK ?_ | refine aS8 ?_ | refine wI ?_ | refine nD ?_ | refine aX rfl ?_ | refine vL rfl ?_)
                        intro _u; clear _u
                        exact rT
                      · rw [if_neg (fun hh => hh h10)]
                        repeat ((intro _u; clear _u); first | with_reducible first | refine cT ?_ | refine cF ?_ | refine cA ?_ | refine cB ?_ | refine aLn ?_ | refine cK ?_ | refine aS8 ?_ | refine wI ?_ | refine nD ?_ | refine aX rfl ?_ | refine vL rfl ?_)
                        intro _u; clear _u
                        exact rT

set_option maxHeartbeats 1000000 in
theorem rmdecode13_c {R : Env} (h : N203 R) (b : List UInt8) (hb : b.length ≤ 1073741824) : R.Pc 203 [.isl 1 (slc8 b)] (.tup [.agg (mdecd b).1.row, .int .i64 (mdecd b).2]) :=
  h.o203.enter 100 rfl fun X bb hfit hp => by
    have ok0 : RdOk b ⟨b, 0, true⟩ := .new hb
    have hb0 : (b.length : Int) - b.length = 0 := by omega
    have c1 := rnum_c h.n61 b ⟨b, 0, true⟩ ok0 1
    have oka := ok0.num 1
    unfold mdecd
    have la : ((⟨b, 0, true⟩ : Rd).num 1).1 < 256 := num_lt _ (by omega) (by omega)
    generalize (⟨b, 0, true⟩ : Rd).num 1 = a at c1 la oka ⊢
    repeat ((intro _u; clear _u); first | with_reducible first | refine cT ?_ | refine cF ?_ | refine cA ?_ | refine cB ?_ | refine aLn ?_ | refine cK ?_ | refine aS8 ?_ | refine wI ?_ | refine nD ?_ | refine aX rfl ?_ | refine vL rfl ?_)
    intro _u; clear _u
    refine cM false [1] (c1) ?_
    repeat ((intro _u; clear _u); first | refine eK ?_ | refine eP ?_)
    have c2 := rnum_c h.n61 b a.2 oka 1
    have ok2 := oka.num 1
    have lc : (a.2.num 1).1 < 256 := num_lt _ (by omega) (by omega)
    generalize a.2.num 1 = c at c2 lc ok2 ⊢
    repeat ((intro _u; clear _u); first | with_reducible first | refine cT ?_ | refine cF ?_ | refine cA ?_ | refine cB ?_ | refine aLn ?_ | refine cK ?_ | refine aS8 ?_ | refine wI ?_ | refine nD ?_ | refine aX rfl ?_ | refine vL rfl ?_)
    intro _u; clear _u
    refine cM false [1] (c2) ?_
    repeat ((intro _u; clear _u); first | refine eK ?_ | refine eP ?_)
    obtain ⟨nv, ra⟩ := a
    obtain ⟨nt, r2⟩ := c
    dsimp only at la lc c1 c2 ok2 ⊢
    obtain ⟨v, hv⟩ : ∃ v, rdN f3 nv r2 = v := ⟨_, rfl⟩
    obtain ⟨u, hu⟩ : ∃ u, rdN f2 nv v.2 = u := ⟨_, rfl⟩
    obtain ⟨t, ht⟩ : ∃ t, rdN ft nt u.2 = t := ⟨_, rfl⟩
    have hq : mq nv nt r2 = (⟨v.1, u.1, t.1⟩, t.2) := by unfold mq; rw [hv, hu, ht]
    rw [hq]
    clear hq c1 c2
    by_cases h0 : nv = 0
    · subst h0
      obtain rfl : v = ([], r2) := hv.symm
      obtain rfl : u = ([], r2) := hu.symm
      have oku : RdOk b r2 := ok2
      repeat ((intro _u; clear _u); first | with_reducible first | refine cT ?_ | refine cF ?_ | refine cA ?_ | refine cB ?_ | refine aLn ?_ | refine cK ?_ | refine aS8 ?_ | refine wI ?_ | refine nD ?_ | refine aX rfl ?_ | refine vL rfl ?_)
      intro _u; clear _u
      refine ILoop.one 100 ?_
      repeat ((intro _u; clear _u); first | with_reducible first | refine cT ?_ | refine cF ?_ | refine cA ?_ | refine cB ?_ | refine aLn ?_ | refine cK ?_ | refine aS8 ?_ | refine wI ?_ | refine nD ?_ | refine aX rfl ?_ | refine vL rfl ?_)
      intro _u; clear _u
      refine acnd_f (by simp) ?_
      repeat ((intro _u; clear _u); first | with_reducible first | refine cT ?_ | refine cF ?_ | refine cA ?_ | refine cB ?_ | refine aLn ?_ | refine cK ?_ | refine aS8 ?_ | refine wI ?_ | refine nD ?_ | refine aX rfl ?_ | refine vL rfl ?_)
      intro _u; clear _u
      refine ILoop.one 100 ?_
      repeat ((intro _u; clear _u); first | with_reducible first | refine cT ?_ | refine cF ?_ | refine cA ?_ | refine cB ?_ | refine aLn ?_ | refine cK ?_ | refine aS8 ?_ | refine wI ?_ | refine nD ?_ | refine aX rfl ?_ | refine vL rfl ?_)
      intro _u; clear _u
      refine acnd_f (by simp) ?_
      by_cases hn : nt = 0
      · subst hn
        obtain rfl : t = ([], r2) := ht.symm
        have okt : RdOk b r2 := ok2
        repeat ((intro _u; clear _u); first | with_reducible first | refine cT ?_ | refine cF ?_ | refine cA ?_ | refine cB ?_ | refine aLn ?_ | refine cK ?_ | refine aS8 ?_ | refine wI ?_ | refine nD ?_ | refine aX rfl ?_ | refine vL rfl ?_)
        intro _u; clear _u
        refine ILoop.one 100 ?_
        repeat ((intro _u; clear _u); first | with_reducible first | refine cT ?_ | refine cF ?_ | refine cA ?_ | refine cB ?_ | refine aLn ?_ | refine cK ?_ | refine aS8 ?_ | refine wI ?_ | refine nD ?_ | refine aX rfl ?_ | refine vL rfl ?_)
        intro _u; clear _u
        refine acnd_f (by simp) ?_
        repeat ((intro _u; clear _u); first | with_reducible first | refine cT ?_ | refine cF ?_ | refine cA ?_ | refine cB ?_ | refine aLn ?_ | refine cK ?_ | refine aS8 ?_ | refine wI ?_ | refine nD ?_ | refine aX rfl ?_ | refine vL rfl ?_)
        intro _u; clear _u
        refine cM false [1] (rend_c h.n69 b r2 okt) ?_
        repeat ((intro _u; clear _u); first | refine eK ?_ | refine eP ?_)
        repeat ((intro _u; clear _u); first | with_reducible first | refine cT ?_ | refine cF ?_ | refine cA ?_ | refine cB ?_ | refine aLn ?_ | refine cK ?_ | refine aS8 ?_ | refine wI ?_ | refine nD ?_ | refine aX rfl ?_ | refine vL rfl ?_)
        intro _u; clear _u
        refine cS (fun h9 => ?_) (fun h9 => ?_)
        · rw [mfin, if_pos h9]
          repeat ((intro _u; clear _u); first | with_reducible first | refine cT ?_ | refine cF ?_ | refine cA ?_ | refine cB ?_ | refine aLn ?_ | refine cK ?_ | refine aS8 ?_ | refine wI ?_ | refine nD ?_ | refine aX rfl ?_ | refine vL rfl ?_)
          intro _u; clear _u
          exact rT
        · rw [mfin, if_neg (fun hh => hh h9)]
          repeat ((intro _u; clear _u); first | with_reducible first | refine cT ?_ | refine cF ?_ | refine cA ?_ | refine cB ?_ | refine aLn ?_ | refine cK ?_ | refine aS8 ?_ | refine wI ?_ | refine nD ?_ | refine aX rfl ?_ | refine vL rfl ?_)
          intro _u; clear _u
          refine ICall.pure h.n198.o198.hb (rcheck13_n h.n198) rfl ?_
          have hc : mchk (⟨[], [], []⟩ : Ms) = 5 := by rw [mchk_v]; rfl
          have hne : mchk (⟨[], [], []⟩ : Ms) ≠ 0 := by rw [hc]; decide
          rw [if_pos hne, hc]
          repeat ((intro _u; clear _u); first | with_reducible first | refine cT ?_ | refine cF ?_ | refine cA ?_ | refine cB ?_ | refine aLn ?_ | refine cK ?_ | refine aS8 ?_ | refine wI ?_ | refine nD ?_ | refine aX rfl ?_ | refine vL rfl ?_)
          intro _u; clear _u
          refine acnd_t (by decide) ?_
          repeat ((intro _u; clear _u); first | with_reducible first | refine cT ?_ | refine cF ?_ | refine cA ?_ | refine cB ?_ | refine aLn ?_ | refine cK ?_ | refine aS8 ?_ | refine wI ?_ | refine nD ?_ | refine aX rfl ?_ | refine vL rfl ?_)
          intro _u; clear _u
          exact rT
      · repeat ((intro _u; clear _u); first | with_reducible first | refine cT ?_ | refine cF ?_ | refine cA ?_ | refine cB ?_ | refine aLn ?_ | refine cK ?_ | refine aS8 ?_ | refine wI ?_ | refine nD ?_ | refine aX rfl ?_ | refine vL rfl ?_)
        intro _u; clear _u
        refine ILoop.one 100 ?_
        repeat ((intro _u; clear _u); first | with_reducible first | refine cT ?_ | refine cF ?_ | refine cA ?_ | refine cB ?_ | refine aLn ?_ | refine cK ?_ | refine aS8 ?_ | refine wI ?_ | refine nD ?_ | refine aX rfl ?_ | refine vL rfl ?_)
        intro _u; clear _u
        refine acnd_t (by (simp; omega)) ?_
        have l0 : ((r2).num 1).1 < 256 := num_lt _ (by omega) (by omega)
        repeat ((intro _u; clear _u); first | with_reducible first | refine cT ?_ | refine cF ?_ | refine cA ?_ | refine cB ?_ | refine aLn ?_ | refine cK ?_ | refine aS8 ?_ | refine wI ?_ | refine nD ?_ | refine aX rfl ?_ | refine vL rfl ?_)
        intro _u; clear _u
        refine cM false [1] (rnum_c h.n61 b (r2) oku 1) ?_
        repeat ((intro _u; clear _u); first | refine eK ?_ | refine eP ?_)
        have l1 : (((r2).num 1).2.num 1).1 < 256 := num_lt _ (by omega) (by omega)
        repeat ((intro _u; clear _u); first | with_reducible first | refine cT ?_ | refine cF ?_ | refine cA ?_ | refine cB ?_ | refine aLn ?_ | refine cK ?_ | refine aS8 ?_ | refine wI ?_ | refine nD ?_ | refine aX rfl ?_ | refine vL rfl ?_)
        intro _u; clear _u
        refine cM false [1] (rnum_c h.n61 b ((r2).num 1).2 (oku.num 1) 1) ?_
        repeat ((intro _u; clear _u); first | refine eK ?_ | refine eP ?_)
        have l2 : ((((r2).num 1).2.num 1).2.num 1).1 < 256 := num_lt _ (by omega) (by omega)
        repeat ((intro _u; clear _u); first | with_reducible first | refine cT ?_ | refine cF ?_ | refine cA ?_ | refine cB ?_ | refine aLn ?_ | refine cK ?_ | refine aS8 ?_ | refine wI ?_ | refine nD ?_ | refine aX rfl ?_ | refine vL rfl ?_)
        intro _u; clear _u
        refine cM false [1] (rnum_c h.n61 b (((r2).num 1).2.num 1).2 ((oku.num 1).num 1) 1) ?_
        repeat ((intro _u; clear _u); first | refine eK ?_ | refine eP ?_)
        repeat ((intro _u; clear _u); first | with_reducible first | refine cT ?_ | refine cF ?_ | refine cA ?_ | refine cB ?_ | refine aLn ?_ | refine cK ?_ | refine aS8 ?_ | refine wI ?_ | refine nD ?_ | refine aX rfl ?_ | refine vL rfl ?_)
        intro _u; clear _u
        refine lPa 100 (fun k : Nat => 1 ≤ k ∧ k ≤ nt) (fun k => ⟨[(2, .loc 0 1 0 0), (4, .loc 1 1 0 0), (6, .int .i64 nt), (7, .loc 2 1 0 0), (12, .int .i64 k)], [(0, .var (R.ty 25) [.nils, .nils, .nils]), (1, .var (R.ty 8) [.isl 1 (slc8 b), .int .i64 (b.length - ((rdN ft k r2).2).l.length), .int .i64 ((rdN ft k r2).2).e]), (2, .var (R.ty 25) [.nils, .nils, .osl 4 k]), (4, .arr (R.ty 13) 3 (slc3 (rdN ft k r2).1))], 5⟩) (fun k => nt - k) (1) ?_ ?_
        · exact ⟨Nat.le_refl _, by omega⟩
        · intro k hk
          dsimp only
          obtain ⟨hk1, hk2⟩ := hk
          have hl := rdN_len ft k r2
          have hS : rdN ft (k + 1) r2 = ((rdN ft k r2).1 ++ [(ft (rdN ft k r2).2).1], (ft (rdN ft k r2).2).2) := rfl
          have oks := RdOk.rdN (f := ft) (fun _ => RdOk.ft) k oku
          repeat ((intro _u; clear _u); first | with_reducible first | refine cT ?_ | refine cF ?_ | refine cA ?_ | refine cB ?_ | refine aLn ?_ | refine cK ?_ | refine aS8 ?_ | refine wI ?_ | refine nD ?_ | refine aX rfl ?_ | refine vL rfl ?_)
          intro _u; clear _u
          refine cS (fun hlt => ?_) (fun hlt => ?_)
          · generalize hs : rdN ft k r2 = s at hl hS oks ⊢
            have l0 : ((s.2).num 1).1 < 256 := num_lt _ (by omega) (by omega)
            repeat ((intro _u; clear _u); first | with_reducible first | refine cT ?_ | refine cF ?_ | refine cA ?_ | refine cB ?_ | refine aLn ?_ | refine cK ?_ | refine aS8 ?_ | refine wI ?_ | refine nD ?_ | refine aX rfl ?_ | refine vL rfl ?_)
            intro _u; clear _u
            refine cM false [1] (rnum_c h.n61 b (s.2) oks 1) ?_
            repeat ((intro _u; clear _u); first | refine eK ?_ | refine eP ?_)
            have l1 : (((s.2).num 1).2.num 1).1 < 256 := num_lt _ (by omega) (by omega)
            repeat ((intro _u; clear _u); first | with_reducible first | refine cT ?_ | refine cF ?_ | refine cA ?_ | refine cB ?_ | refine aLn ?_ | refine cK ?_ | refine aS8 ?_ | refine wI ?_ | refine nD ?_ | refine aX rfl ?_ | refine vL rfl ?_)
            intro _u; clear _u
            refine cM false [1] (rnum_c h.n61 b ((s.2).num 1).2 (oks.num 1) 1) ?_
            repeat ((intro _u; clear _u); first | refine eK ?_ | refine eP ?_)
            have l2 : ((((s.2).num 1).2.num 1).2.num 1).1 < 256 := num_lt _ (by omega) (by omega)
            repeat ((intro _u; clear _u); first | with_reducible first | refine cT ?_ | refine cF ?_ | refine cA ?_ | refine cB ?_ | refine aLn ?_ | refine cK ?_ | refine aS8 ?_ | refine wI ?_ | refine nD ?_ | refine aX rfl ?_ | refine vL rfl ?_)
            intro _u; clear _u
            refine cM false [1] (rnum_c h.n61 b (((s.2).num 1).2.num 1).2 ((oks.num 1).num 1) 1) ?_
            repeat ((intro _u; clear _u); first | refine eK ?_ | refine eP ?_)
            repeat ((intro _u; clear _u); first | with_reducible first | refine cT ?_ | refine cF ?_ | refine cA ?_ | refine cB ?_ | refine aLn ?_ | refine cK ?_ | refine aS8 ?_ | refine wI ?_ | refine nD ?_ | refine aX rfl ?_ | refine vL rfl ?_)
            intro _u; clear _u
            refine nX (k + 1) ?_ ?_ ⟨_, hp, rfl⟩ ?_ ?_
            · omega
            · omega
            · all_goals repeat' (first | exact True.intro | refine And.intro ?_ ?_ | (intro _u; clear _u) | (with_reducible first | refine eM ?_ ?_ | refine eF ?_ ?_ ?_ | refine eN ?_ | refine eL ?_ ?_ ?_ | refine eA ?_ ?_ | refine IWk.mk ⟨_, hp, rfl⟩ ?_ ?_) | refine IWk.mk ⟨_, hp, rfl⟩ ?_ ?_)
              all_goals first | with_reducible rfl | omega | exact Or.inl (by decide) | (simp; done) | rfl | skip
            · all_goals repeat' (first | exact True.intro | refine And.intro ?_ ?_ | (intro _u; clear _u) | (with_reducible first | refine eM ?_ ?_ | refine eF ?_ ?_ ?_ | refine eN ?_ | refine eL ?_ ?_ ?_ | refine eA ?_ ?_ | refine IWk.mk ⟨_, hp, rfl⟩ ?_ ?_) | refine IWk.mk ⟨_, hp, rfl⟩ ?_ ?_)
              all_goals first | with_reducible rfl | omega | exact Or.inl (by decide) | (simp; done) | rfl | skip
              all_goals first | (simp [hl]; done) | (rw [hS]; done) | (rw [hS]; rfl) | (rw [hS]; simp [slc3]; done) | (rw [hS]; simp [slc3]; rfl)
          · have hkn : k = nt := by omega
            rw [hkn, ht] at hl oks ⊢
            have hzt : (slc3 t.1).length = nt := by simp [hl]
            have okt := oks
            repeat ((intro _u; clear _u); first | with_reducible first | refine cT ?_ | refine cF ?_ | refine cA ?_ | refine cB ?_ | refine aLn ?_ | refine cK ?_ | refine aS8 ?_ | refine wI ?_ | refine nD ?_ | refine aX rfl ?_ | refine vL rfl ?_)
            intro _u; clear _u
            refine cM false [1] (rend_c h.n69 b t.2 okt) ?_
            repeat ((intro _u; clear _u); first | refine eK ?_ | refine eP ?_)
            repeat ((intro _u; clear _u); first | with_reducible first | refine cT ?_ | refine cF ?_ | refine cA ?_ | refine cB ?_ | refine aLn ?_ | refine cK ?_ | refine aS8 ?_ | refine wI ?_ | refine nD ?_ | refine aX rfl ?_ | refine vL rfl ?_)
            intro _u; clear _u
            refine cS (fun h9 => ?_) (fun h9 => ?_)
            · rw [mfin, if_pos h9]
              repeat ((intro _u; clear _u); first | with_reducible first | refine cT ?_ | refine cF ?_ | refine cA ?_ | refine cB ?_ | refine aLn ?_ | refine cK ?_ | refine aS8 ?_ | refine wI ?_ | refine nD ?_ | refine aX rfl ?_ | refine vL rfl ?_)
              intro _u; clear _u
              exact rT
            · rw [mfin, if_neg (fun hh => hh h9)]
              repeat ((intro _u; clear _u); first | with_reducible first | refine cT ?_ | refine cF ?_ | refine cA ?_ | refine cB ?_ | refine aLn ?_ | refine cK ?_ | refine aS8 ?_ | refine wI ?_ | refine nD ?_ | refine aX rfl ?_ | refine vL rfl ?_)
              intro _u; clear _u
              refine ICall.let [4] rfl hp rfl ?_
              repeat ((intro _u; clear _u); first | refine eZ ?_ | refine FrzC.drop ?_)
              repeat ((intro _u; clear _u); first | with_reducible first | refine cT ?_ | refine cF ?_ | refine cA ?_ | refine cB ?_ | refine aLn ?_ | refine cK ?_ | refine aS8 ?_ | refine wI ?_ | refine nD ?_ | refine aX rfl ?_ | refine vL rfl ?_)
              intro _u; clear _u
              refine ICall.pure h.n198.o198.hb (rcheck13_t h.n198 t.1) rfl ?_
              have hc : mchk (⟨[], [], t.1⟩ : Ms) = if 64 < t.1.length then 3 else 5 := mchk_v
              have hne : mchk (⟨[], [], t.1⟩ : Ms) ≠ 0 := by rw [hc]; split <;> decide
              rw [if_pos hne, hc]
              repeat ((intro _u; clear _u); first | with_reducible first | refine cT ?_ | refine cF ?_ | refine cA ?_ | refine cB ?_ | refine aLn ?_ | refine cK ?_ | refine aS8 ?_ | refine wI ?_ | refine nD ?_ | refine aX rfl ?_ | refine vL rfl ?_)
              intro _u; clear _u
              refine acnd_t (by (split <;> decide)) ?_
              repeat ((intro _u; clear _u); first | with_reducible first | refine cT ?_ | refine cF ?_ | refine cA ?_ | refine cB ?_ | refine aLn ?_ | refine cK ?_ | refine aS8 ?_ | refine wI ?_ | refine nD ?_ | refine aX rfl ?_ | refine vL rfl ?_)
              intro _u; clear _u
              exact rT
    · repeat ((intro _u; clear _u); first | with_reducible first | refine cT ?_ | refine cF ?_ | refine cA ?_ | refine cB ?_ | refine aLn ?_ | refine cK ?_ | refine aS8 ?_ | refine wI ?_ | refine nD ?_ | refine aX rfl ?_ | refine vL rfl ?_)
      intro _u; clear _u
      refine ILoop.one 100 ?_
      repeat ((intro _u; clear _u); first | with_reducible first | refine cT ?_ | refine cF ?_ | refine cA ?_ | refine cB ?_ | refine aLn ?_ | refine cK ?_ | refine aS8 ?_ | refine wI ?_ | refine nD ?_ | refine aX rfl ?_ | refine vL rfl ?_)
      intro _u; clear _u
      refine acnd_t (by (simp; omega)) ?_
      repeat ((intro _u; clear _u); first | with_reducible first | refine cT ?_ | refine cF ?_ | refine cA ?_ | refine cB ?_ | refine aLn ?_ | refine cK ?_ | refine aS8 ?_ | refine wI ?_ | refine nD ?_ | refine aX rfl ?_ | refine vL rfl ?_)
      intro _u; clear _u
      refine cM false [1] (rread13_c h.n216 b r2 ok2) ?_
      repeat ((intro _u; clear _u); first | refine eK ?_ | refine eP ?_)
      repeat ((intro _u; clear _u); first | with_reducible first | refine cT ?_ | refine cF ?_ | refine cA ?_ | refine cB ?_ | refine aLn ?_ | refine cK ?_ | refine aS8 ?_ | refine wI ?_ | refine nD ?_ | refine aX rfl ?_ | refine vL rfl ?_)
      intro _u; clear _u
      refine lPa 100 (fun k : Nat => 1 ≤ k ∧ k ≤ nv) (fun k => ⟨[(2, .loc 0 1 0 0), (4, .loc 1 1 0 0), (5, .int .i64 nv), (6, .int .i64 nt), (7, .loc 2 1 0 0), (8, .int .i64 k)], [(0, .var (R.ty 25) [.nils, .nils, .nils]), (1, .var (R.ty 8) [.isl 1 (slc8 b), .int .i64 (b.length - ((rdN f3 k r2).2).l.length), .int .i64 ((rdN f3 k r2).2).e]), (2, .var (R.ty 25) [.osl 4 k, .nils, .nils]), (4, .arr (R.ty 26) 3 (slc3 (rdN f3 k r2).1))], 5⟩) (fun k => nv - k) (1) ?_ ?_
      · exact ⟨Nat.le_refl _, by omega⟩
      · intro k hk
        dsimp only
        obtain ⟨hk1, hk2⟩ := hk
        have hl := rdN_len f3 k r2
        have hS : rdN f3 (k + 1) r2 = ((rdN f3 k r2).1 ++ [(f3 (rdN f3 k r2).2).1], (f3 (rdN f3 k r2).2).2) := rfl
        have oks := RdOk.rdN (f := f3) (fun _ => RdOk.f3) k ok2
        repeat ((intro _u; clear _u); first | with_reducible first | refine cT ?_ | refine cF ?_ | refine cA ?_ | refine cB ?_ | refine aLn ?_ | refine cK ?_ | refine aS8 ?_ | refine wI ?_ | refine nD ?_ | refine aX rfl ?_ | refine vL rfl ?_)
        intro _u; clear _u
        refine cS (fun hlt => ?_) (fun hlt => ?_)
        · generalize hs : rdN f3 k r2 = s at hl hS oks ⊢
          repeat ((intro _u; clear _u); first | with_reducible first | refine cT ?_ | refine cF ?_ | refine cA ?_ | refine cB ?_ | refine aLn ?_ | refine cK ?_ | refine aS8 ?_ | refine wI ?_ | refine nD ?_ | refine aX rfl ?_ | refine vL rfl ?_)
          intro _u; clear _u
          refine cM false [1] (rread13_c h.n216 b s.2 oks) ?_
          repeat ((intro _u; clear _u); first | refine eK ?_ | refine eP ?_)
          repeat ((intro _u; clear _u); first | with_reducible first | refine cT ?_ | refine cF ?_ | refine cA ?_ | refine cB ?_ | refine aLn ?_ | refine cK ?_ | refine aS8 ?_ | refine wI ?_ | refine nD ?_ | refine aX rfl ?_ | refine vL rfl ?_)
          intro _u; clear _u
          refine nX (k + 1) ?_ ?_ ⟨_, hp, rfl⟩ ?_ ?_
          · omega
          · omega
          · all_goals repeat' (first | exact True.intro | refine And.intro ?_ ?_ | (intro _u; clear _u) | (with_reducible first | refine eM ?_ ?_ | refine eF ?_ ?_ ?_ | refine eN ?_ | refine eL ?_ ?_ ?_ | refine eA ?_ ?_ | refine IWk.mk ⟨_, hp, rfl⟩ ?_ ?_) | refine IWk.mk ⟨_, hp, rfl⟩ ?_ ?_)
            all_goals first | with_reducible rfl | omega | exact Or.inl (by decide) | (simp; done) | rfl | skip
          · all_goals repeat' (first | exact True.intro | refine And.intro ?_ ?_ | (intro _u; clear _u) | (with_reducible first | refine eM ?_ ?_ | refine eF ?_ ?_ ?_ | refine eN ?_ | refine eL ?_ ?_ ?_ | refine eA ?_ ?_ | refine IWk.mk ⟨_, hp, rfl⟩ ?_ ?_) | refine IWk.mk ⟨_, hp, rfl⟩ ?_ ?_)
            all_goals first | with_reducible rfl | omega | exact Or.inl (by decide) | (simp; done) | rfl | skip
            all_goals first | (simp [hl]; done) | (rw [hS]; done) | (rw [hS]; rfl) | (rw [hS]; simp [slc3]; done) | (rw [hS]; simp [slc3]; rfl)
        · have hkn : k = nv := by omega
          rw [hkn, hv] at hl oks ⊢
          have hzv : (slc3 v.1).length = nv := by simp [hl]
          have okv := oks
          have hvl := hl
          repeat ((intro _u; clear _u); first | with_reducible first | refine cT ?_ | refine cF ?_ | refine cA ?_ | refine cB ?_ | refine aLn ?_ | refine cK ?_ | refine aS8 ?_ | refine wI ?_ | refine nD ?_ | refine aX rfl ?_ | refine vL rfl ?_)
          intro _u; clear _u
          refine ILoop.one 100 ?_
          repeat ((intro _u; clear _u); first | with_reducible first | refine cT ?_ | refine cF ?_ | refine cA ?_ | refine cB ?_ | refine aLn ?_ | refine cK ?_ | refine aS8 ?_ | refine wI ?_ | refine nD ?_ | refine aX rfl ?_ | refine vL rfl ?_)
          intro _u; clear _u
          refine acnd_t (by (simp; omega)) ?_
          have l0 : ((v.2).num 2).1 < 65536 := num_lt _ (by omega) (by omega)
          repeat ((intro _u; clear _u); first | with_reducible first | refine cT ?_ | refine cF ?_ | refine cA ?_ | refine cB ?_ | refine aLn ?_ | refine cK ?_ | refine aS8 ?_ | refine wI ?_ | refine nD ?_ | refine aX rfl ?_ | refine vL rfl ?_)
          intro _u; clear _u
          refine cM false [1] (rnum_c h.n61 b (v.2) okv 2) ?_
          repeat ((intro _u; clear _u); first | refine eK ?_ | refine eP ?_)
          have l1 : (((v.2).num 2).2.num 2).1 < 65536 := num_lt _ (by omega) (by omega)
          repeat ((intro _u; clear _u); first | with_reducible first | refine cT ?_ | refine cF ?_ | refine cA ?_ | refine cB ?_ | refine aLn ?_ | refine cK ?_ | refine aS8 ?_ | refine wI ?_ | refine nD ?_ | refine aX rfl ?_ | refine vL rfl ?_)
          intro _u; clear _u
          refine cM false [1] (rnum_c h.n61 b ((v.2).num 2).2 (okv.num 2) 2) ?_
          repeat ((intro _u; clear _u); first | refine eK ?_ | refine eP ?_)
          repeat ((intro _u; clear _u); first | with_reducible first | refine cT ?_ | refine cF ?_ | refine cA ?_ | refine cB ?_ | refine aLn ?_ | refine cK ?_ | refine aS8 ?_ | refine wI ?_ | refine nD ?_ | refine aX rfl ?_ | refine vL rfl ?_)
          intro _u; clear _u
          refine lPa 100 (fun k : Nat => 1 ≤ k ∧ k ≤ nv) (fun k => ⟨[(2, .loc 0 1 0 0), (4, .loc 1 1 0 0), (5, .int .i64 nv), (6, .int .i64 nt), (7, .loc 2 1 0 0), (9, .int .i64 k)], [(0, .var (R.ty 25) [.nils, .nils, .nils]), (1, .var (R.ty 8) [.isl 1 (slc8 b), .int .i64 (b.length - ((rdN f2 k v.2).2).l.length), .int .i64 ((rdN f2 k v.2).2).e]), (2, .var (R.ty 25) [.osl 4 nv, .osl 6 k, .nils]), (4, .arr (R.ty 26) 3 (slc3 v.1)), (6, .arr (R.ty 18) 2 (slc2 (rdN f2 k v.2).1))], 7⟩) (fun k => nv - k) (1) ?_ ?_
          · exact ⟨Nat.le_refl _, by omega⟩
          · intro k hk
            dsimp only
            obtain ⟨hk1, hk2⟩ := hk
            have hl := rdN_len f2 k v.2
            have hS : rdN f2 (k + 1) v.2 = ((rdN f2 k v.2).1 ++ [(f2 (rdN f2 k v.2).2).1], (f2 (rdN f2 k v.2).2).2) := rfl
            have oks := RdOk.rdN (f := f2) (fun _ => RdOk.f2) k okv
            repeat ((intro _u; clear _u); first | with_reducible first | refine cT ?_ | refine cF ?_ | refine cA ?_ | refine cB ?_ | refine aLn ?_ | refine cK ?_ | refine aS8 ?_ | refine wI ?_ | refine nD ?_ | refine aX rfl ?_ | refine vL rfl ?_)
            intro _u; clear _u
            refine cS (fun hlt => ?_) (fun hlt => ?_)
            · generalize hs : rdN f2 k v.2 = s at hl hS oks ⊢
              have l0 : ((s.2).num 2).1 < 65536 := num_lt _ (by omega) (by omega)
              repeat ((intro _u; clear _u); first | with_reducible first | refine cT ?_ | refine cF ?_ | refine cA ?_ | refine cB ?_ | refine aLn ?_ | refine cK ?_ | refine aS8 ?_ | refine wI ?_ | refine nD ?_ | refine aX rfl ?_ | refine vL rfl ?_)
              intro _u; clear _u
              refine cM false [1] (rnum_c h.n61 b (s.2) oks 2) ?_
              repeat ((intro _u; clear _u); first | refine eK ?_ | refine eP ?_)
              have l1 : (((s.2).num 2).2.num 2).1 < 65536 := num_lt _ (by omega) (by omega)
              repeat ((intro _u; clear _u); first | with_reducible first | refine cT ?_ | refine cF ?_ | refine cA ?_ | refine cB ?_ | refine aLn ?_ | refine cK ?_ | refine aS8 ?_ | refine wI ?_ | refine nD ?_ | refine aX rfl ?_ | refine vL rfl ?_)
              intro _u; clear _u
              refine cM false [1] (rnum_c h.n61 b ((s.2).num 2).2 (oks.num 2) 2) ?_
              repeat ((intro _u; clear _u); first | refine eK ?_ | refine eP ?_)
              repeat ((intro _u; clear _u); first | with_reducible first | refine cT ?_ | refine cF ?_ | refine cA ?_ | refine cB ?_ | refine aLn ?_ | refine cK ?_ | refine aS8 ?_ | refine wI ?_ | refine nD ?_ | refine aX rfl ?_ | refine vL rfl ?_)
              intro _u; clear _u
              refine nX (k + 1) ?_ ?_ ⟨_, hp, rfl⟩ ?_ ?_
              · omega
              · omega
              · all_goals repeat' (first | exact True.intro | refine And.intro ?_ ?_ | (intro _u; clear _u) | (with_reducible first | refine eM ?_ ?_ | refine eF ?_ ?_ ?_ | refine eN ?_ | refine eL ?_ ?_ ?_ | refine eA ?_ ?_ | refine IWk.mk ⟨_, hp, rfl⟩ ?_ ?_) | refine IWk.mk ⟨_, hp, rfl⟩ ?_ ?_)
                all_goals first | with_reducible rfl | omega | exact Or.inl (by decide) | (simp; done) | rfl | skip
              · all_goals repeat' (first | exact True.intro | refine And.intro ?_ ?_ | (intro _u; clear _u) | (with_reducible first | refine eM ?_ ?_ | refine eF ?_ ?_ ?_ | refine eN ?_ | refine eL ?_ ?_ ?_ | refine eA ?_ ?_ | refine IWk.mk ⟨_, hp, rfl⟩ ?_ ?_) | refine IWk.mk ⟨_, hp, rfl⟩ ?_ ?_)
                all_goals first | with_reducible rfl | omega | exact Or.inl (by decide) | (simp; done) | rfl | skip
                all_goals first | (simp [hl]; done) | (rw [hS]; done) | (rw [hS]; rfl) | (rw [hS]; simp [slc2]; done) | (rw [hS]; simp [slc2]; rfl)
            · have hkn : k = nv := by omega
              rw [hkn, hu] at hl oks ⊢
              have hzu : (slc2 u.1).length = nv := by simp [hl]
              have oku := oks
              have hul := hl
              by_cases hn : nt = 0
              · subst hn
                obtain rfl : t = ([], u.2) := ht.symm
                have okt : RdOk b u.2 := oku
                repeat ((intro _u; clear _u); first | with_reducible first | refine cT ?_ | refine cF ?_ | refine cA ?_ | refine cB ?_ | refine aLn ?_ | refine cK ?_ | refine aS8 ?_ | refine wI ?_ | refine nD ?_ | refine aX rfl ?_ | refine vL rfl ?_)
                intro _u; clear _u
                refine ILoop.one 100 ?_
                repeat ((intro _u; clear _u); first | with_reducible first | refine cT ?_ | refine cF ?_ | refine cA ?_ | refine cB ?_ | refine aLn ?_ | refine cK ?_ | refine aS8 ?_ | refine wI ?_ | refine nD ?_ | refine aX rfl ?_ | refine vL rfl ?_)
                intro _u; clear _u
                refine acnd_f (by simp) ?_
                repeat ((intro _u; clear _u); first | with_reducible first | refine cT ?_ | refine cF ?_ | refine cA ?_ | refine cB ?_ | refine aLn ?_ | refine cK ?_ | refine aS8 ?_ | refine wI ?_ | refine nD ?_ | refine aX rfl ?_ | refine vL rfl ?_)
                intro _u; clear _u
                refine cM false [1] (rend_c h.n69 b u.2 okt) ?_
                repeat ((intro _u; clear _u); first | refine eK ?_ | refine eP ?_)
                repeat ((intro _u; clear _u); first | with_reducible first | refine cT ?_ | refine cF ?_ | refine cA ?_ | refine cB ?_ | refine aLn ?_ | refine cK ?_ | refine aS8 ?_ | refine wI ?_ | refine nD ?_ | refine aX rfl ?_ | refine vL rfl ?_)
                intro _u; clear _u
                refine cS (fun h9 => ?_) (fun h9 => ?_)
                · rw [mfin, if_pos h9]
                  repeat ((intro _u; clear _u); first | with_reducible first | refine cT ?_ | refine cF ?_ | refine cA ?_ | refine cB ?_ | refine aLn ?_ | refine cK ?_ | refine aS8 ?_ | refine wI ?_ | refine nD ?_ | refine aX rfl ?_ | refine vL rfl ?_)
                  intro _u; clear _u
                  exact rT
                · rw [mfin, if_neg (fun hh => hh h9)]
                  repeat ((intro _u; clear _u); first | with_reducible first | refine cT ?_ | refine cF ?_ | refine cA ?_ | refine cB ?_ | refine aLn ?_ | refine cK ?_ | refine aS8 ?_ | refine wI ?_ | refine nD ?_ | refine aX rfl ?_ | refine vL rfl ?_)
                  intro _u; clear _u
                  refine ICall.let [4, 6] rfl hp rfl ?_
                  repeat ((intro _u; clear _u); first | refine eZ ?_ | refine FrzC.drop ?_)
                  repeat ((intro _u; clear _u); first | with_reducible first | refine cT ?_ | refine cF ?_ | refine cA ?_ | refine cB ?_ | refine aLn ?_ | refine cK ?_ | refine aS8 ?_ | refine wI ?_ | refine nD ?_ | refine aX rfl ?_ | refine vL rfl ?_)
                  intro _u; clear _u
                  refine ICall.pure h.n198.o198.hb (rcheck13_v h.n198 v.1 u.1 (by omega)) rfl ?_
                  have hc : mchk (⟨v.1, u.1, []⟩ : Ms) = if 64 < v.1.length then 3 else 5 := mchk_t
                  have hne : mchk (⟨v.1, u.1, []⟩ : Ms) ≠ 0 := by rw [hc]; split <;> decide
                  rw [if_pos hne, hc]
                  repeat ((intro _u; clear _u); first | with_reducible first | refine cT ?_ | refine cF ?_ | refine cA ?_ | refine cB ?_ | refine aLn ?_ | refine cK ?_ | refine aS8 ?_ | refine wI ?_ | refine nD ?_ | refine aX rfl ?_ | refine vL rfl ?_)
                  intro _u; clear _u
                  refine acnd_t (by (split <;> decide)) ?_
                  repeat ((intro _u; clear _u); first | with_reducible first | refine cT ?_ | refine cF ?_ | refine cA ?_ | refine cB ?_ | refine aLn ?_ | refine cK ?_ | refine aS8 ?_ | refine wI ?_ | refine nD ?_ | refine aX rfl ?_ | refine vL rfl ?_)
                  intro _u; clear _u
                  exact rT
              · repeat ((intro _u; clear _u); first | with_reducible first | refine cT ?_ | refine cF ?_ | refine cA ?_ | refine cB ?_ | refine aLn ?_ | refine cK ?_ | refine aS8 ?_ | refine wI ?_ | refine nD ?_ | refine aX rfl ?_ | refine vL rfl ?_)
                intro _u; clear _u
                refine ILoop.one 100 ?_
                repeat ((intro _u; clear _u); first | with_reducible first | refine cT ?_ | refine cF ?_ | refine cA ?_ | refine cB ?_ | refine aLn ?_ | refine cK ?_ | refine aS8 ?_ | refine wI ?_ | refine nD ?_ | refine aX rfl ?_ | refine vL rfl ?_)
                intro _u; clear _u
                refine acnd_t (by (simp; omega)) ?_
                have l0 : ((u.2).num 1).1 < 256 := num_lt _ (by omega) (by omega)
                repeat ((intro _u; clear _u); first | with_reducible first | refine cT ?_ | refine cF ?_ | refine cA ?_ | refine cB ?_ | refine aLn ?_ | refine cK ?_ | refine aS8 ?_ | refine wI ?_ | refine nD ?_ | refine aX rfl ?_ | refine vL rfl ?_)
                intro _u; clear _u
                refine cM false [1] (rnum_c h.n61 b (u.2) oku 1) ?_
                repeat ((intro _u; clear _u); first | refine eK ?_ | refine eP ?_)
                have l1 : (((u.2).num 1).2.num 1).1 < 256 := num_lt _ (by omega) (by omega)
                repeat ((intro _u; clear _u); first | with_reducible first | refine cT ?_ | refine cF ?_ | refine cA ?_ | refine cB ?_ | refine aLn ?_ | refine cK ?_ | refine aS8 ?_ | refine wI ?_ | refine nD ?_ | refine aX rfl ?_ | refine vL rfl ?_)
                intro _u; clear _u
                refine cM false [1] (rnum_c h.n61 b ((u.2).num 1).2 (oku.num 1) 1) ?_
                repeat ((intro _u; clear _u); first | refine eK ?_ | refine eP ?_)
                have l2 : ((((u.2).num 1).2.num 1).2.num 1).1 < 256 := num_lt _ (by omega) (by omega)
                repeat ((intro _u; clear _u); first | with_reducible first | refine cT ?_ | refine cF ?_ | refine cA ?_ | refine cB ?_ | refine aLn ?_ | refine cK ?_ | refine aS8 ?_ | refine wI ?_ | refine nD ?_ | refine aX rfl ?_ | refine vL rfl ?_)
                intro _u; clear _u
                refine cM false [1] (rnum_c h.n61 b (((u.2).num 1).2.num 1).2 ((oku.num 1).num 1) 1) ?_
                repeat ((intro _u; clear _u); first | refine eK ?_ | refine eP ?_)
                repeat ((intro _u; clear _u); first | with_reducible first | refine cT ?_ | refine cF ?_ | refine cA ?_ | refine cB ?_ | refine aLn ?_ | refine cK ?_ | refine aS8 ?_ | refine wI ?_ | refine nD ?_ | refine aX rfl ?_ | refine vL rfl ?_)
                intro _u; clear _u
                refine lPa 100 (fun k : Nat => 1 ≤ k ∧ k ≤ nt) (fun k => ⟨[(2, .loc 0 1 0 0), (4, .loc 1 1 0 0), (6, .int .i64 nt), (7, .loc 2 1 0 0), (12, .int .i64 k)], [(0, .var (R.ty 25) [.nils, .nils, .nils]), (1, .var (R.ty 8) [.isl 1 (slc8 b), .int .i64 (b.length - ((rdN ft k u.2).2).l.length), .int .i64 ((rdN ft k u.2).2).e]), (2, .var (R.ty 25) [.osl 4 nv, .osl 6 nv, .osl 8 k]), (4, .arr (R.ty 26) 3 (slc3 v.1)), (6, .arr (R.ty 18) 2 (slc2 u.1)), (8, .arr (R.ty 13) 3 (slc3 (rdN ft k u.2).1))], 9⟩) (fun k => nt - k) (1) ?_ ?_
                · exact ⟨Nat.le_refl _, by omega⟩
                · intro k hk
                  dsimp only
                  obtain ⟨hk1, hk2⟩ := hk
                  have hl := rdN_len ft k u.2
                  have hS : rdN ft (k + 1) u.2 = ((rdN ft k u.2).1 ++ [(ft (rdN ft k u.2).2).1], (ft (rdN ft k u.2).2).2) := rfl
                  have oks := RdOk.rdN (f := ft) (fun _ => RdOk.ft) k oku
                  repeat ((intro _u; clear _u); first | with_reducible first | refine cT ?_ | refine cF ?_ | refine cA ?_ | refine cB ?_ | refine aLn ?_ | refine cK ?_ | refine aS8 ?_ | refine wI ?_ | refine nD ?_ | refine aX rfl ?_ | refine vL rfl ?_)
                  intro _u; clear _u
                  refine cS (fun hlt => ?_) (fun hlt => ?_)
                  · generalize hs : rdN ft k u.2 = s at hl hS oks ⊢
                    have l0 : ((s.2).num 1).1 < 256 := num_lt _ (by omega) (by omega)
                    repeat ((intro _u; clear _u); first | with_reducible first | refine cT ?_ | refine cF ?_ | refine cA ?_ | refine cB ?_ | refine aLn ?_ | refine cK ?_ | refine aS8 ?_ | refine wI ?_ | refine nD ?_ | refine aX rfl ?_ | refine vL rfl ?_)
                    intro _u; clear _u
                    refine cM false [1] (rnum_c h.n61 b (s.2) oks 1) ?_
                    repeat ((intro _u; clear _u); first | refine eK ?_ | refine eP ?_)
                    have l1 : (((s.2).num 1).2.num 1).1 < 256 := num_lt _ (by omega) (by omega)
                    repeat ((intro _u; clear _u); first | with_reducible first | refine cT ?_ | refine cF ?_ | refine cA ?_ | refine cB ?_ | refine aLn ?_ | refine cK ?_ | refine aS8 ?_ | refine wI ?_ | refine nD ?_ | refine aX rfl ?_ | refine vL rfl ?_)
                    intro _u; clear _u
                    refine cM false [1] (rnum_c h.n61 b ((s.2).num 1).2 (oks.num 1) 1) ?_
                    repeat ((intro _u; clear _u); first | refine eK ?_ | refine eP ?_)
                    have l2 : ((((s.2).num 1).2.num 1).2.num 1).1 < 256 := num_lt _ (by omega) (by omega)
                    repeat ((intro _u; clear _u); first | with_reducible first | refine cT ?_ | refine cF ?_ | refine cA ?_ | refine cB ?_ | refine aLn ?_ | refine cK ?_ | refine aS8 ?_ | refine wI ?_ | refine nD ?_ | refine aX rfl ?_ | refine vL rfl ?_)
                    intro _u; clear _u
                    refine cM false [1] (rnum_c h.n61 b (((s.2).num 1).2.num 1).2 ((oks.num 1).num 1) 1) ?_
                    repeat ((intro _u; clear _u); first | refine eK ?_ | refine eP ?_)
                    repeat ((intro _u; clear _u); first | with_reducible first | refine cT ?_ | refine cF ?_ | refine cA ?_ | refine cB ?_ | refine aLn ?_ | refine cK ?_ | refine aS8 ?_ | refine wI ?_ | refine nD ?_ | refine aX rfl ?_ | refine vL rfl ?_)
                    intro _u; clear _u
                    refine nX (k + 1) ?_ ?_ ⟨_, hp, rfl⟩ ?_ ?_
                    · omega
                    · omega
                    · all_goals repeat' (first | exact True.intro | refine And.intro ?_ ?_ | (intro _u; clear _u) | (with_reducible first | refine eM ?_ ?_ | refine eF ?_ ?_ ?_ | refine eN ?_ | refine eL ?_ ?_ ?_ | refine eA ?_ ?_ | refine IWk.mk ⟨_, hp, rfl⟩ ?_ ?_) | refine IWk.mk ⟨_, hp, rfl⟩ ?_ ?_)
                      all_goals first | with_reducible rfl | omega | exact Or.inl (by decide) | (simp; done) | rfl | skip
                    · all_goals repeat' (first | exact True.intro | refine And.intro ?_ ?_ | (intro _u; clear _u) | (with_reducible first | refine eM ?_ ?_ | refine eF ?_ ?_ ?_ | refine eN ?_ | refine eL ?_ ?_ ?_ | refine eA ?_ ?_ | refine IWk.mk ⟨_, hp, rfl⟩ ?_ ?_) | refine IWk.mk ⟨_, hp, rfl⟩ ?_ ?_)
                      all_goals first | with_reducible rfl | omega | exact Or.inl (by decide) | (simp; done) | rfl | skip
                      all_goals first | (simp [hl]; done) | (rw [hS]; done) | (rw [hS]; rfl) | (rw [hS]; simp [slc3]; done) | (rw [hS]; simp [slc3]; rfl)
                  · have hkn : k = nt := by omega
                    rw [hkn, ht] at hl oks ⊢
                    have hzt : (slc3 t.1).length = nt := by simp [hl]
                    have okt := oks
                    repeat ((intro _u; clear _u); first | with_reducible first | refine cT ?_ | refine cF ?_ | refine cA ?_ | refine cB ?_ | refine aLn ?_ | refine cK ?_ | refine aS8 ?_ | refine wI ?_ | refine nD ?_ | refine aX rfl ?_ | refine vL rfl ?_)
                    intro _u; clear _u
                    refine cM false [1] (rend_c h.n69 b t.2 okt) ?_
                    repeat ((intro _u; clear _u); first | refine eK ?_ | refine eP ?_)
                    repeat ((intro _u; clear _u); first | with_reducible first | refine cT ?_ | refine cF ?_ | refine cA ?_ | refine cB ?_ | refine aLn ?_ | refine cK ?_ | refine aS8 ?_ | refine wI ?_ | refine nD ?_ | refine aX rfl ?_ | refine vL rfl ?_)
                    intro _u; clear _u
                    refine cS (fun h9 => ?_) (fun h9 => ?_)
                    · rw [mfin, if_pos h9]
                      repeat ((intro _u; clear _u); first | with_reducible first | refine cT ?_ | refine cF ?_ | refine cA ?_ | refine cB ?_ | refine aLn ?_ | refine cK ?_ | refine aS8 ?_ | refine wI ?_ | refine nD ?_ | refine aX rfl ?_ | refine vL rfl ?_)
                      intro _u; clear _u
                      exact rT
                    · rw [mfin, if_neg (fun hh => hh h9)]
                      repeat ((intro _u; clear _u); first | with_reducible first | refine cT ?_ | refine cF ?_ | refine cA ?_ | refine cB ?_ | refine aLn ?_ | refine cK ?_ | refine aS8 ?_ | refine wI ?_ | refine nD ?_ | refine aX rfl ?_ | refine vL rfl ?_)
                      intro _u; clear _u
                      refine ICall.let [4, 6, 8] rfl hp rfl ?_
                      repeat ((intro _u; clear _u); first | refine eZ ?_ | refine FrzC.drop ?_)
                      repeat ((intro _u; clear _u); first | with_reducible first | refine cT ?_ | refine cF ?_ | refine cA ?_ | refine cB ?_ | refine aLn ?_ | refine cK ?_ | refine aS8 ?_ | refine wI ?_ | refine nD ?_ | refine aX rfl ?_ | refine vL rfl ?_)
                      intro _u; clear _u
                      refine ICall.pure h.n198.o198.hb (rcheck13_c h.n198 ⟨v.1, u.1, t.1⟩) rfl ?_
                      repeat ((intro _u; clear _u); first | with_reducible first | refine cT ?_ | refine cF ?_ | refine cA ?_ | refine cB ?_ | refine aLn ?_ | refine cK ?_ | refine aS8 ?_ | refine wI ?_ | refine nD ?_ | refine aX rfl ?_ | refine vL rfl ?_)
                      intro _u; clear _u
                      refine cS (fun h10 => ?_) (fun h10 => ?_)
                      · rw [if_pos h10]
                        repeat ((intro _u; clear _u); first | with_reducible first | refine cT ?_ | refine cF ?_ | refine cA ?_ | refine cB ?_ | refine aLn ?_ | refine cK ?_ | refine aS8 ?_ | refine wI ?_ | refine nD ?_ | refine aX rfl ?_ | refine vL rfl ?_)
                        intro _u; clear _u
                        exact rT
                      · rw [if_neg (fun hh => hh h10)]
                        repeat ((intro _u; clear _u); first | with_reducible first | refine cT ?_ | refine cF ?_ | refine cA ?_ | refine cB ?_ | refine aLn ?_ | refine cK ?_ | refine aS8 ?_ | refine wI ?_ | refine nD ?_ | refine aX rfl ?_ | refine vL rfl ?_)
                        intro _u; clear _u
                        exact rT
end Go.UM

/- What the library's functions hand back. -/


namespace Go.UM
open Go.AM
set_option maxRecDepth 4000

/-- bytes.Equal. -/
theorem eq8_c {R : Env} (h : N47 R) (a b : List UInt8) : R.Pc 47 [.isl 1 (slc8 a), .isl 1 (slc8 b)] (.bool (a == b)) :=
  h.o47.enter 60 rfl fun X bb hfit hp => by
    repeat ((intro _u; clear _u); first | with_reducible first | refine cT ?_ | refine cF ?_ | refine cA ?_ | refine cB ?_ | refine aLn ?_ | refine cK ?_ | refine aS8 ?_ | refine wI ?_ | refine nD ?_ | refine aX rfl ?_ | refine vL rfl ?_)
    intro _u; clear _u
    exact rT
end Go.UM

/- The statements of chapter 13. -/


namespace Go.UM
open Go.AM
set_option maxRecDepth 4000

def W13 : Ms := ⟨[⟨0, 0, 0⟩, ⟨5, 0, 0⟩, ⟨0, 7, 0⟩], [(0, 0), (0, 0), (0, 0)], [⟨0, 1, 2⟩]⟩
theorem W13_len : (menc W13).1.length = 35 := by decide +kernel
theorem W13_e : (menc W13).2 = 0 := by decide +kernel
theorem W13_bx : bx W13 = (z3, ⟨5, 7, 0⟩, 0) := by
  have : mchk W13 = 0 := by decide +kernel
  rw [bx, if_neg (by omega)]; rfl
theorem works13_c {R : Env} (h : N194 R) : R.Pc 194 [] (.bool true) :=
  h.o194.enter 100 rfl fun X bb hfit hp => by
    repeat ((intro _u; clear _u); first | with_reducible first | refine cT ?_ | refine cF ?_ | refine cA ?_ | refine cB ?_ | refine aLn ?_ | refine cK ?_ | refine aS8 ?_ | refine wI ?_ | refine nD ?_ | refine aX rfl ?_ | refine vL rfl ?_)
    intro _u; clear _u
    refine ICall.let [0, 1, 2] rfl hp rfl ?_
    repeat ((intro _u; clear _u); first | refine eZ ?_ | refine FrzC.drop ?_)
    repeat ((intro _u; clear _u); first | with_reducible first | refine cT ?_ | refine cF ?_ | refine cA ?_ | refine cB ?_ | refine aLn ?_ | refine cK ?_ | refine aS8 ?_ | refine wI ?_ | refine nD ?_ | refine aX rfl ?_ | refine vL rfl ?_)
    intro _u; clear _u
    refine ICall.pure h.n196.o196.hb (mencode_c h.n196 W13) rfl ?_
    have c2 := box_c h.n192 W13
    rw [W13_bx] at c2
    repeat ((intro _u; clear _u); first | with_reducible first | refine cT ?_ | refine cF ?_ | refine cA ?_ | refine cB ?_ | refine aLn ?_ | refine cK ?_ | refine aS8 ?_ | refine wI ?_ | refine nD ?_ | refine aX rfl ?_ | refine vL rfl ?_)
    intro _u; clear _u
    refine ICall.pure h.n192.o192.hb c2 rfl ?_
    repeat ((intro _u; clear _u); first | with_reducible first | refine cT ?_ | refine cF ?_ | refine cA ?_ | refine cB ?_ | refine aLn ?_ | refine cK ?_ | refine aS8 ?_ | refine wI ?_ | refine nD ?_ | refine aX rfl ?_ | refine vL rfl ?_)
    intro _u; clear _u
    refine acnd_t (by simp [W13_e]) ?_
    repeat ((intro _u; clear _u); first | with_reducible first | refine cT ?_ | refine cF ?_ | refine cA ?_ | refine cB ?_ | refine aLn ?_ | refine cK ?_ | refine aS8 ?_ | refine wI ?_ | refine nD ?_ | refine aX rfl ?_ | refine vL rfl ?_)
    intro _u; clear _u
    refine acnd_t (by simp [W13_len]) ?_
    repeat ((intro _u; clear _u); first | with_reducible first | refine cT ?_ | refine cF ?_ | refine cA ?_ | refine cB ?_ | refine aLn ?_ | refine cK ?_ | refine aS8 ?_ | refine wI ?_ | refine nD ?_ | refine aX rfl ?_ | refine vL rfl ?_)
    intro _u; clear _u
    refine acnd_t (by decide) ?_
    repeat ((intro _u; clear _u); first | with_reducible first | refine cT ?_ | refine cF ?_ | refine cA ?_ | refine cB ?_ | refine aLn ?_ | refine cK ?_ | refine aS8 ?_ | refine wI ?_ | refine nD ?_ | refine aX rfl ?_ | refine vL rfl ?_)
    intro _u; clear _u
    exact rT

theorem mencodes_law {R : Env} (h : N195 R) (m : Ms) : R.Pc 195 [.agg m.row] (.bool true) :=
  h.o195.enter 100 rfl fun X bb hfit hp => by
    repeat ((intro _u; clear _u); first | with_reducible first | refine cT ?_ | refine cF ?_ | refine cA ?_ | refine cB ?_ | refine aLn ?_ | refine cK ?_ | refine aS8 ?_ | refine wI ?_ | refine nD ?_ | refine aX rfl ?_ | refine vL rfl ?_)
    intro _u; clear _u
    refine ICall.pure h.n191.o191.hb (few13_c h.n191 m) rfl ?_
    generalize m.few = m
    repeat ((intro _u; clear _u); first | with_reducible first | refine cT ?_ | refine cF ?_ | refine cA ?_ | refine cB ?_ | refine aLn ?_ | refine cK ?_ | refine aS8 ?_ | refine wI ?_ | refine nD ?_ | refine aX rfl ?_ | refine vL rfl ?_)
    intro _u; clear _u
    refine ICall.pure h.n196.o196.hb (mencode_c h.n196 m) rfl ?_
    repeat ((intro _u; clear _u); first | with_reducible first | refine cT ?_ | refine cF ?_ | refine cA ?_ | refine cB ?_ | refine aLn ?_ | refine cK ?_ | refine aS8 ?_ | refine wI ?_ | refine nD ?_ | refine aX rfl ?_ | refine vL rfl ?_)
    intro _u; clear _u
    refine ICall.pure h.n197.o197.hb (rmencode_c h.n197 m) rfl ?_
    repeat ((intro _u; clear _u); first | with_reducible first | refine cT ?_ | refine cF ?_ | refine cA ?_ | refine cB ?_ | refine aLn ?_ | refine cK ?_ | refine aS8 ?_ | refine wI ?_ | refine nD ?_ | refine aX rfl ?_ | refine vL rfl ?_)
    intro _u; clear _u
    refine ICall.pure h.n193.o193.hb (mcheck_c h.n193 m) rfl ?_
    repeat ((intro _u; clear _u); first | with_reducible first | refine cT ?_ | refine cF ?_ | refine cA ?_ | refine cB ?_ | refine aLn ?_ | refine cK ?_ | refine aS8 ?_ | refine wI ?_ | refine nD ?_ | refine aX rfl ?_ | refine vL rfl ?_)
    intro _u; clear _u
    refine ICall.pure h.n198.o198.hb (rcheck13_c h.n198 m) rfl ?_
    repeat ((intro _u; clear _u); first | with_reducible first | refine cT ?_ | refine cF ?_ | refine cA ?_ | refine cB ?_ | refine aLn ?_ | refine cK ?_ | refine aS8 ?_ | refine wI ?_ | refine nD ?_ | refine aX rfl ?_ | refine vL rfl ?_)
    intro _u; clear _u
    refine acnd_t (by simp) ?_
    repeat ((intro _u; clear _u); first | with_reducible first | refine cT ?_ | refine cF ?_ | refine cA ?_ | refine cB ?_ | refine aLn ?_ | refine cK ?_ | refine aS8 ?_ | refine wI ?_ | refine nD ?_ | refine aX rfl ?_ | refine vL rfl ?_)
    intro _u; clear _u
    refine ICall.pure h.n47.o47.hb (eq8_c h.n47 (menc m).1 (menc m).1) rfl ?_
    repeat ((intro _u; clear _u); first | with_reducible first | refine cT ?_ | refine cF ?_ | refine cA ?_ | refine cB ?_ | refine aLn ?_ | refine cK ?_ | refine aS8 ?_ | refine wI ?_ | refine nD ?_ | refine aX rfl ?_ | refine vL rfl ?_)
    intro _u; clear _u
    refine acnd_t (by simp) ?_
    repeat ((intro _u; clear _u); first | with_reducible first | refine cT ?_ | refine cF ?_ | refine cA ?_ | refine cB ?_ | refine aLn ?_ | refine cK ?_ | refine aS8 ?_ | refine wI ?_ | refine nD ?_ | refine aX rfl ?_ | refine vL rfl ?_)
    intro _u; clear _u
    refine acnd_t (by simp) ?_
    repeat ((intro _u; clear _u); first | with_reducible first | refine cT ?_ | refine cF ?_ | refine cA ?_ | refine cB ?_ | refine aLn ?_ | refine cK ?_ | refine aS8 ?_ | refine wI ?_ | refine nD ?_ | refine aX rfl ?_ | refine vL rfl ?_)
    intro _u; clear _u
    refine ICall.pure h.n194.o194.hb (works13_c h.n194) rfl ?_
    repeat ((intro _u; clear _u); first | with_reducible first | refine cT ?_ | refine cF ?_ | refine cA ?_ | refine cB ?_ | refine aLn ?_ | refine cK ?_ | refine aS8 ?_ | refine wI ?_ | refine nD ?_ | refine aX rfl ?_ | refine vL rfl ?_)
    intro _u; clear _u
    exact rT

theorem mcorners_law {R : Env} (h : N199 R) (m : Ms) (k : Int) : R.Pc 199 [.agg m.row, .int .i64 k] (.bool true) :=
  h.o199.enter 100 rfl fun X bb hfit hp => by
    repeat ((intro _u; clear _u); first | with_reducible first | refine cT ?_ | refine cF ?_ | refine cA ?_ | refine cB ?_ | refine aLn ?_ | refine cK ?_ | refine aS8 ?_ | refine wI ?_ | refine nD ?_ | refine aX rfl ?_ | refine vL rfl ?_)
    intro _u; clear _u
    refine ICall.pure h.n191.o191.hb (few13_c h.n191 m) rfl ?_
    generalize m.few = m
    have c1 := corners_c h.n200 m k
    by_cases hc : mchk m = 0
    · rw [corn, if_neg (by omega)] at c1
      have may := mchk_may hc
      have mu := may.uv
      by_cases hk : k < 0 ∨ (m.t.length : Int) ≤ k
      · rw [if_pos hk] at c1
        repeat ((intro _u; clear _u); first | with_reducible first | refine cT ?_ | refine cF ?_ | refine cA ?_ | refine cB ?_ | refine aLn ?_ | refine cK ?_ | refine aS8 ?_ | refine wI ?_ | refine nD ?_ | refine aX rfl ?_ | refine vL rfl ?_)
        intro _u; clear _u
        refine ICall.pure h.n200.o200.hb c1 rfl ?_
        repeat ((intro _u; clear _u); first | with_reducible first | refine cT ?_ | refine cF ?_ | refine cA ?_ | refine cB ?_ | refine aLn ?_ | refine cK ?_ | refine aS8 ?_ | refine wI ?_ | refine nD ?_ | refine aX rfl ?_ | refine vL rfl ?_)
        intro _u; clear _u
        refine ICall.pure h.n198.o198.hb (rcheck13_c h.n198 m) rfl ?_
        repeat ((intro _u; clear _u); first | with_reducible first | refine cT ?_ | refine cF ?_ | refine cA ?_ | refine cB ?_ | refine aLn ?_ | refine cK ?_ | refine aS8 ?_ | refine wI ?_ | refine nD ?_ | refine aX rfl ?_ | refine vL rfl ?_)
        intro _u; clear _u
        refine acnd_f (by simpa using hc) ?_
        repeat ((intro _u; clear _u); first | with_reducible first | refine cT ?_ | refine cF ?_ | refine cA ?_ | refine cB ?_ | refine aLn ?_ | refine cK ?_ | refine aS8 ?_ | refine wI ?_ | refine nD ?_ | refine aX rfl ?_ | refine vL rfl ?_)
        intro _u; clear _u
        refine cS (fun h1 => ?_) (fun h1 => ?_)
        · repeat ((intro _u; clear _u); first | with_reducible first | refine cT ?_ | refine cF ?_ | refine cA ?_ | refine cB ?_ | refine aLn ?_ | refine cK ?_ | refine aS8 ?_ | refine wI ?_ | refine nD ?_ | refine aX rfl ?_ | refine vL rfl ?_)
          intro _u; clear _u
          refine acnd_t (by decide) ?_
          repeat ((intro _u; clear _u); first | with_reducible first | refine cT ?_ | refine cF ?_ | refine cA ?_ | refine cB ?_ | refine aLn ?_ | refine cK ?_ | refine aS8 ?_ | refine wI ?_ | refine nD ?_ | refine aX rfl ?_ | refine vL rfl ?_)
          intro _u; clear _u
          refine acnd_t (by decide) ?_
          repeat ((intro _u; clear _u); first | with_reducible first | refine cT ?_ | refine cF ?_ | refine cA ?_ | refine cB ?_ | refine aLn ?_ | refine cK ?_ | refine aS8 ?_ | refine wI ?_ | refine nD ?_ | refine aX rfl ?_ | refine vL rfl ?_)
          intro _u; clear _u
          refine ICall.pure h.n194.o194.hb (works13_c h.n194) rfl ?_
          repeat ((intro _u; clear _u); first | with_reducible first | refine cT ?_ | refine cF ?_ | refine cA ?_ | refine cB ?_ | refine aLn ?_ | refine cK ?_ | refine aS8 ?_ | refine wI ?_ | refine nD ?_ | refine aX rfl ?_ | refine vL rfl ?_)
          intro _u; clear _u
          exact rT
        · repeat ((intro _u; clear _u); first | with_reducible first | refine cT ?_ | refine cF ?_ | refine cA ?_ | refine cB ?_ | refine aLn ?_ | refine cK ?_ | refine aS8 ?_ | refine wI ?_ | refine nD ?_ | refine aX rfl ?_ | refine vL rfl ?_)
          intro _u; clear _u
          refine acnd_t (by simp; omega) ?_
          repeat ((intro _u; clear _u); first | with_reducible first | refine cT ?_ | refine cF ?_ | refine cA ?_ | refine cB ?_ | refine aLn ?_ | refine cK ?_ | refine aS8 ?_ | refine wI ?_ | refine nD ?_ | refine aX rfl ?_ | refine vL rfl ?_)
          intro _u; clear _u
          refine acnd_t (by decide) ?_
          repeat ((intro _u; clear _u); first | with_reducible first | refine cT ?_ | refine cF ?_ | refine cA ?_ | refine cB ?_ | refine aLn ?_ | refine cK ?_ | refine aS8 ?_ | refine wI ?_ | refine nD ?_ | refine aX rfl ?_ | refine vL rfl ?_)
          intro _u; clear _u
          refine acnd_t (by decide) ?_
          repeat ((intro _u; clear _u); first | with_reducible first | refine cT ?_ | refine cF ?_ | refine cA ?_ | refine cB ?_ | refine aLn ?_ | refine cK ?_ | refine aS8 ?_ | refine wI ?_ | refine nD ?_ | refine aX rfl ?_ | refine vL rfl ?_)
          intro _u; clear _u
          refine ICall.pure h.n194.o194.hb (works13_c h.n194) rfl ?_
          repeat ((intro _u; clear _u); first | with_reducible first | refine cT ?_ | refine cF ?_ | refine cA ?_ | refine cB ?_ | refine aLn ?_ | refine cK ?_ | refine aS8 ?_ | refine wI ?_ | refine nD ?_ | refine aX rfl ?_ | refine vL rfl ?_)
          intro _u; clear _u
          exact rT
      · rw [if_neg hk] at c1
        obtain ⟨t, ht⟩ : ∃ u, m.t[k.toNat]? = some u := ⟨_, List.getElem?_eq_getElem (by omega)⟩
        have hg : m.t.getD k.toNat z3 = t := by rw [List.getD_eq_getElem?_getD, ht]; rfl
        rw [hg] at c1
        have hpt := may.pt t (List.mem_of_getElem? ht)
        repeat ((intro _u; clear _u); first | with_reducible first | refine cT ?_ | refine cF ?_ | refine cA ?_ | refine cB ?_ | refine aLn ?_ | refine cK ?_ | refine aS8 ?_ | refine wI ?_ | refine nD ?_ | refine aX rfl ?_ | refine vL rfl ?_)
        intro _u; clear _u
        refine ICall.pure h.n200.o200.hb c1 rfl ?_
        repeat ((intro _u; clear _u); first | with_reducible first | refine cT ?_ | refine cF ?_ | refine cA ?_ | refine cB ?_ | refine aLn ?_ | refine cK ?_ | refine aS8 ?_ | refine wI ?_ | refine nD ?_ | refine aX rfl ?_ | refine vL rfl ?_)
        intro _u; clear _u
        refine ICall.pure h.n198.o198.hb (rcheck13_c h.n198 m) rfl ?_
        repeat ((intro _u; clear _u); first | with_reducible first | refine cT ?_ | refine cF ?_ | refine cA ?_ | refine cB ?_ | refine aLn ?_ | refine cK ?_ | refine aS8 ?_ | refine wI ?_ | refine nD ?_ | refine aX rfl ?_ | refine vL rfl ?_)
        intro _u; clear _u
        refine acnd_f (by simpa using hc) ?_
        repeat ((intro _u; clear _u); first | with_reducible first | refine cT ?_ | refine cF ?_ | refine cA ?_ | refine cB ?_ | refine aLn ?_ | refine cK ?_ | refine aS8 ?_ | refine wI ?_ | refine nD ?_ | refine aX rfl ?_ | refine vL rfl ?_)
        intro _u; clear _u
        refine acnd_f (by simp; omega) ?_
        repeat ((intro _u; clear _u); first | with_reducible first | refine cT ?_ | refine cF ?_ | refine cA ?_ | refine cB ?_ | refine aLn ?_ | refine cK ?_ | refine aS8 ?_ | refine wI ?_ | refine nD ?_ | refine aX rfl ?_ | refine vL rfl ?_)
        intro _u; clear _u
        refine acnd_f (by simp; omega) ?_
        repeat ((intro _u; clear _u); first | with_reducible first | refine cT ?_ | refine cF ?_ | refine cA ?_ | refine cB ?_ | refine aLn ?_ | refine cK ?_ | refine aS8 ?_ | refine wI ?_ | refine nD ?_ | refine aX rfl ?_ | refine vL rfl ?_)
        intro _u; clear _u
        refine eget_map ht ?_
        repeat ((intro _u; clear _u); first | with_reducible first | refine cT ?_ | refine cF ?_ | refine cA ?_ | refine cB ?_ | refine aLn ?_ | refine cK ?_ | refine aS8 ?_ | refine wI ?_ | refine nD ?_ | refine aX rfl ?_ | refine vL rfl ?_)
        intro _u; clear _u
        refine ILoop.one 100 ?_
        repeat ((intro _u; clear _u); first | with_reducible first | refine cT ?_ | refine cF ?_ | refine cA ?_ | refine cB ?_ | refine aLn ?_ | refine cK ?_ | refine aS8 ?_ | refine wI ?_ | refine nD ?_ | refine aX rfl ?_ | refine vL rfl ?_)
        intro _u; clear _u
        refine acnd_t (by decide) ?_
        repeat ((intro _u; clear _u); first | with_reducible first | refine cT ?_ | refine cF ?_ | refine cA ?_ | refine cB ?_ | refine aLn ?_ | refine cK ?_ | refine aS8 ?_ | refine wI ?_ | refine nD ?_ | refine aX rfl ?_ | refine vL rfl ?_)
        intro _u; clear _u
        refine eget_map (may.get (i := t.a) (by omega)) ?_
        repeat ((intro _u; clear _u); first | with_reducible first | refine cT ?_ | refine cF ?_ | refine cA ?_ | refine cB ?_ | refine aLn ?_ | refine cK ?_ | refine aS8 ?_ | refine wI ?_ | refine nD ?_ | refine aX rfl ?_ | refine vL rfl ?_)
        intro _u; clear _u
        refine acnd_f (by simp) ?_
        repeat ((intro _u; clear _u); first | with_reducible first | refine cT ?_ | refine cF ?_ | refine cA ?_ | refine cB ?_ | refine aLn ?_ | refine cK ?_ | refine aS8 ?_ | refine wI ?_ | refine nD ?_ | refine aX rfl ?_ | refine vL rfl ?_)
        intro _u; clear _u
        refine eget_map (may.getu (i := t.a) (by omega)) ?_
        repeat ((intro _u; clear _u); first | with_reducible first | refine cT ?_ | refine cF ?_ | refine cA ?_ | refine cB ?_ | refine aLn ?_ | refine cK ?_ | refine aS8 ?_ | refine wI ?_ | refine nD ?_ | refine aX rfl ?_ | refine vL rfl ?_)
        intro _u; clear _u
        refine acnd_f (by simp) ?_
        repeat ((intro _u; clear _u); first | with_reducible first | refine cT ?_ | refine cF ?_ | refine cA ?_ | refine cB ?_ | refine aLn ?_ | refine cK ?_ | refine aS8 ?_ | refine wI ?_ | refine nD ?_ | refine aX rfl ?_ | refine vL rfl ?_)
        intro _u; clear _u
        refine ILoop.one 100 ?_
        repeat ((intro _u; clear _u); first | with_reducible first | refine cT ?_ | refine cF ?_ | refine cA ?_ | refine cB ?_ | refine aLn ?_ | refine cK ?_ | refine aS8 ?_ | refine wI ?_ | refine nD ?_ | refine aX rfl ?_ | refine vL rfl ?_)
        intro _u; clear _u
        refine acnd_t (by decide) ?_
        repeat ((intro _u; clear _u); first | with_reducible first | refine cT ?_ | refine cF ?_ | refine cA ?_ | refine cB ?_ | refine aLn ?_ | refine cK ?_ | refine aS8 ?_ | refine wI ?_ | refine nD ?_ | refine aX rfl ?_ | refine vL rfl ?_)
        intro _u; clear _u
        refine eget_map (may.get (i := t.b) (by omega)) ?_
        repeat ((intro _u; clear _u); first | with_reducible first | refine cT ?_ | refine cF ?_ | refine cA ?_ | refine cB ?_ | refine aLn ?_ | refine cK ?_ | refine aS8 ?_ | refine wI ?_ | refine nD ?_ | refine aX rfl ?_ | refine vL rfl ?_)
        intro _u; clear _u
        refine acnd_f (by simp) ?_
        repeat ((intro _u; clear _u); first | with_reducible first | refine cT ?_ | refine cF ?_ | refine cA ?_ | refine cB ?_ | refine aLn ?_ | refine cK ?_ | refine aS8 ?_ | refine wI ?_ | refine nD ?_ | refine aX rfl ?_ | refine vL rfl ?_)
        intro _u; clear _u
        refine eget_map (may.getu (i := t.b) (by omega)) ?_
        repeat ((intro _u; clear _u); first | with_reducible first | refine cT ?_ | refine cF ?_ | refine cA ?_ | refine cB ?_ | refine aLn ?_ | refine cK ?_ | refine aS8 ?_ | refine wI ?_ | refine nD ?_ | refine aX rfl ?_ | refine vL rfl ?_)
        intro _u; clear _u
        refine acnd_f (by simp) ?_
        repeat ((intro _u; clear _u); first | with_reducible first | refine cT ?_ | refine cF ?_ | refine cA ?_ | refine cB ?_ | refine aLn ?_ | refine cK ?_ | refine aS8 ?_ | refine wI ?_ | refine nD ?_ | refine aX rfl ?_ | refine vL rfl ?_)
        intro _u; clear _u
        refine ILoop.one 100 ?_
        repeat ((intro _u; clear _u); first | with_reducible first | refine cT ?_ | refine cF ?_ | refine cA ?_ | refine cB ?_ | refine aLn ?_ | refine cK ?_ | refine aS8 ?_ | refine wI ?_ | refine nD ?_ | refine aX rfl ?_ | refine vL rfl ?_)
        intro _u; clear _u
        refine acnd_t (by decide) ?_
        repeat ((intro _u; clear _u); first | with_reducible first | refine cT ?_ | refine cF ?_ | refine cA ?_ | refine cB ?_ | refine aLn ?_ | refine cK ?_ | refine aS8 ?_ | refine wI ?_ | refine nD ?_ | refine aX rfl ?_ | refine vL rfl ?_)
        intro _u; clear _u
        refine eget_map (may.get (i := t.c) (by omega)) ?_
        repeat ((intro _u; clear _u); first | with_reducible first | refine cT ?_ | refine cF ?_ | refine cA ?_ | refine cB ?_ | refine aLn ?_ | refine cK ?_ | refine aS8 ?_ | refine wI ?_ | refine nD ?_ | refine aX rfl ?_ | refine vL rfl ?_)
        intro _u; clear _u
        refine acnd_f (by simp) ?_
        repeat ((intro _u; clear _u); first | with_reducible first | refine cT ?_ | refine cF ?_ | refine cA ?_ | refine cB ?_ | refine aLn ?_ | refine cK ?_ | refine aS8 ?_ | refine wI ?_ | refine nD ?_ | refine aX rfl ?_ | refine vL rfl ?_)
        intro _u; clear _u
        refine eget_map (may.getu (i := t.c) (by omega)) ?_
        repeat ((intro _u; clear _u); first | with_reducible first | refine cT ?_ | refine cF ?_ | refine cA ?_ | refine cB ?_ | refine aLn ?_ | refine cK ?_ | refine aS8 ?_ | refine wI ?_ | refine nD ?_ | refine aX rfl ?_ | refine vL rfl ?_)
        intro _u; clear _u
        refine acnd_f (by simp) ?_
        repeat ((intro _u; clear _u); first | with_reducible first | refine cT ?_ | refine cF ?_ | refine cA ?_ | refine cB ?_ | refine aLn ?_ | refine cK ?_ | refine aS8 ?_ | refine wI ?_ | refine nD ?_ | refine aX rfl ?_ | refine vL rfl ?_)
        intro _u; clear _u
        refine ILoop.one 100 ?_
        repeat ((intro _u; clear _u); first | with_reducible first | refine cT ?_ | refine cF ?_ | refine cA ?_ | refine cB ?_ | refine aLn ?_ | refine cK ?_ | refine aS8 ?_ | refine wI ?_ | refine nD ?_ | refine aX rfl ?_ | refine vL rfl ?_)
        intro _u; clear _u
        refine acnd_f (by decide) ?_
        repeat ((intro _u; clear _u); first | with_reducible first | refine cT ?_ | refine cF ?_ | refine cA ?_ | refine cB ?_ | refine aLn ?_ | refine cK ?_ | refine aS8 ?_ | refine wI ?_ | refine nD ?_ | refine aX rfl ?_ | refine vL rfl ?_)
        intro _u; clear _u
        refine acnd_t (by rfl) ?_
        repeat ((intro _u; clear _u); first | with_reducible first | refine cT ?_ | refine cF ?_ | refine cA ?_ | refine cB ?_ | refine aLn ?_ | refine cK ?_ | refine aS8 ?_ | refine wI ?_ | refine nD ?_ | refine aX rfl ?_ | refine vL rfl ?_)
        intro _u; clear _u
        refine ICall.pure h.n194.o194.hb (works13_c h.n194) rfl ?_
        repeat ((intro _u; clear _u); first | with_reducible first | refine cT ?_ | refine cF ?_ | refine cA ?_ | refine cB ?_ | refine aLn ?_ | refine cK ?_ | refine aS8 ?_ | refine wI ?_ | refine nD ?_ | refine aX rfl ?_ | refine vL rfl ?_)
        intro _u; clear _u
        exact rT
    · rw [corn, if_pos hc] at c1
      repeat ((intro _u; clear _u); first | with_reducible first | refine cT ?_ | refine cF ?_ | refine cA ?_ | refine cB ?_ | refine aLn ?_ | refine cK ?_ | refine aS8 ?_ | refine wI ?_ | refine nD ?_ | refine aX rfl ?_ | refine vL rfl ?_)
      intro _u; clear _u
      refine ICall.pure h.n200.o200.hb c1 rfl ?_
      repeat ((intro _u; clear _u); first | with_reducible first | refine cT ?_ | refine cF ?_ | refine cA ?_ | refine cB ?_ | refine aLn ?_ | refine cK ?_ | refine aS8 ?_ | refine wI ?_ | refine nD ?_ | refine aX rfl ?_ | refine vL rfl ?_)
      intro _u; clear _u
      refine ICall.pure h.n198.o198.hb (rcheck13_c h.n198 m) rfl ?_
      repeat ((intro _u; clear _u); first | with_reducible first | refine cT ?_ | refine cF ?_ | refine cA ?_ | refine cB ?_ | refine aLn ?_ | refine cK ?_ | refine aS8 ?_ | refine wI ?_ | refine nD ?_ | refine aX rfl ?_ | refine vL rfl ?_)
      intro _u; clear _u
      refine acnd_t (by simpa using hc) ?_
      repeat ((intro _u; clear _u); first | with_reducible first | refine cT ?_ | refine cF ?_ | refine cA ?_ | refine cB ?_ | refine aLn ?_ | refine cK ?_ | refine aS8 ?_ | refine wI ?_ | refine nD ?_ | refine aX rfl ?_ | refine vL rfl ?_)
      intro _u; clear _u
      refine acnd_t (by simp) ?_
      repeat ((intro _u; clear _u); first | with_reducible first | refine cT ?_ | refine cF ?_ | refine cA ?_ | refine cB ?_ | refine aLn ?_ | refine cK ?_ | refine aS8 ?_ | refine wI ?_ | refine nD ?_ | refine aX rfl ?_ | refine vL rfl ?_)
      intro _u; clear _u
      refine ICall.pure h.n194.o194.hb (works13_c h.n194) rfl ?_
      repeat ((intro _u; clear _u); first | with_reducible first | refine cT ?_ | refine cF ?_ | refine cA ?_ | refine cB ?_ | refine aLn ?_ | refine cK ?_ | refine aS8 ?_ | refine wI ?_ | refine nD ?_ | refine aX rfl ?_ | refine vL rfl ?_)
      intro _u; clear _u
      exact rT

def met (f : T3 → Int) (v : Int) (l : List T3) : Bool := l.any fun p => f p == v
theorem met_app (f : T3 → Int) (v : Int) (l r : List T3) : met f v (l ++ r) = (met f v l || met f v r) := by simp [met]
def Ms.mets (m : Ms) (k : Nat) : List AV := [.bool (met T3.a (m.lo m.t.length).a (m.cs k)), .bool (met T3.b (m.lo m.t.length).b (m.cs k)), .bool (met T3.c (m.lo m.t.length).c (m.cs k)),
  .bool (met T3.a (m.hi m.t.length).a (m.cs k)), .bool (met T3.b (m.hi m.t.length).b (m.cs k)), .bool (met T3.c (m.hi m.t.length).c (m.cs k))]
theorem Ms.f1_mem {m : Ms} (h : 1 ≤ m.t.length) : m.f1 ∈ m.cs m.t.length := by
  obtain ⟨t, ht⟩ : ∃ u, m.t[0]? = some u := ⟨_, List.getElem?_eq_getElem (by omega)⟩
  unfold Ms.cs Ms.f1
  rw [List.take_length, List.getD_eq_getElem?_getD, ht]
  exact List.mem_flatMap.2 ⟨t, List.mem_of_getElem? ht, by simp [Ms.tcs]⟩
theorem met_lo {f : T3 → Int} {l : List T3} {x : T3} (h : x ∈ l) : met f (mn f (f x) l) l = true := by
  unfold met
  rw [List.any_eq_true]
  rcases mn_met f l (f x) with e | ⟨p, hp, e⟩
  · exact ⟨x, h, by simp [e]⟩
  · exact ⟨p, hp, by simp [e]⟩
theorem met_hi {f : T3 → Int} {l : List T3} {x : T3} (h : x ∈ l) : met f (mx f (f x) l) l = true := by
  unfold met
  rw [List.any_eq_true]
  rcases mx_met f l (f x) with e | ⟨p, hp, e⟩
  · exact ⟨x, h, by simp [e]⟩
  · exact ⟨p, hp, by simp [e]⟩
theorem Ms.mets_all {m : Ms} (h : 1 ≤ m.t.length) : m.mets m.t.length = List.replicate 6 (.bool true) := by
  have hm := m.f1_mem h
  unfold Ms.mets Ms.lo Ms.hi
  dsimp only
  rw [met_lo (f := T3.a) hm, met_lo (f := T3.b) hm, met_lo (f := T3.c) hm, met_hi (f := T3.a) hm, met_hi (f := T3.b) hm, met_hi (f := T3.c) hm]
  rfl
theorem Ms.in_box {m : Ms} {k : Nat} {t : T3} (h : m.t[k]? = some t) {p : T3} (hp : p ∈ m.tcs t) : (m.lo m.t.length).a ≤ p.a ∧ (m.lo m.t.length).b ≤ p.b ∧ (m.lo m.t.length).c ≤ p.c ∧ p.a ≤ (m.hi m.t.length).a ∧ p.b ≤ (m.hi m.t.length).b ∧ p.c ≤ (m.hi m.t.length).c := by
  have hm : p ∈ m.cs m.t.length := by
    unfold Ms.cs
    rw [List.take_length]
    exact List.mem_flatMap.2 ⟨t, List.mem_of_getElem? h, hp⟩
  exact ⟨(mn_le _ _ _).2 p hm, (mn_le _ _ _).2 p hm, (mn_le _ _ _).2 p hm, (mx_le _ _ _).2 p hm, (mx_le _ _ _).2 p hm, (mx_le _ _ _).2 p hm⟩

def bJ (n j : Nat) (L : List T3) (p : T3) : List T3 := bif Nat.ble n j then L ++ [p] else L
def metJ (lo hi : T3) (L : List T3) (p : T3) (j : Nat) : List AV := [.bool (met T3.a lo.a (bJ 1 j L p)), .bool (met T3.b lo.b (bJ 2 j L p)), .bool (met T3.c lo.c (bJ 3 j L p)),
  .bool (met T3.a hi.a (bJ 4 j L p)), .bool (met T3.b hi.b (bJ 5 j L p)), .bool (met T3.c hi.c (bJ 6 j L p))]
theorem met_t {f : T3 → Int} {v : Int} {L : List T3} {p : T3} (h : met f v L = true) : true = met f v (L ++ [p]) := by rw [met_app, h]; rfl
theorem met_f {f : T3 → Int} {v : Int} {L : List T3} {p : T3} (h : met f v L = false) : (f p == v) = met f v (L ++ [p]) := by rw [met_app, h]; simp [met]

set_option maxHeartbeats 1000000 in
theorem mbox_law {R : Env} (h : N190 R) (m : Ms) : R.Pc 190 [.agg m.row] (.bool true) :=
  h.o190.enter 100 rfl fun X bb hfit hp => by
    repeat ((intro _u; clear _u); first | with_reducible first | refine cT ?_ | refine cF ?_ | refine cA ?_ | refine cB ?_ | refine aLn ?_ | refine cK ?_ | refine aS8 ?_ | refine wI ?_ | refine nD ?_ | refine aX rfl ?_ | refine vL rfl ?_)
    intro _u; clear _u
    refine ICall.pure h.n191.o191.hb (few13_c h.n191 m) rfl ?_
    generalize m.few = m
    have c1 := box_c h.n192 m
    by_cases hc : mchk m = 0
    · rw [bx, if_neg (by omega)] at c1
      repeat ((intro _u; clear _u); first | with_reducible first | refine cT ?_ | refine cF ?_ | refine cA ?_ | refine cB ?_ | refine aLn ?_ | refine cK ?_ | refine aS8 ?_ | refine wI ?_ | refine nD ?_ | refine aX rfl ?_ | refine vL rfl ?_)
      intro _u; clear _u
      refine ICall.pure h.n192.o192.hb c1 rfl ?_
      have may := mchk_may hc
      have mt := may.t
      repeat ((intro _u; clear _u); first | with_reducible first | refine cT ?_ | refine cF ?_ | refine cA ?_ | refine cB ?_ | refine aLn ?_ | refine cK ?_ | refine aS8 ?_ | refine wI ?_ | refine nD ?_ | refine aX rfl ?_ | refine vL rfl ?_)
      intro _u; clear _u
      refine acnd_f (by rfl) ?_
      repeat ((intro _u; clear _u); first | with_reducible first | refine cT ?_ | refine cF ?_ | refine cA ?_ | refine cB ?_ | refine aLn ?_ | refine cK ?_ | refine aS8 ?_ | refine wI ?_ | refine nD ?_ | refine aX rfl ?_ | refine vL rfl ?_)
      intro _u; clear _u
      refine lPa 100 (fun k : Nat => k ≤ m.t.length) (fun k => ⟨[(1, .loc 0 1 0 0), (3, .loc 1 1 0 0), (4, .loc 2 1 0 0), (6, .loc 3 1 0 0), (43, .isl 3 (slc3 m.t)), (44, .int .i64 m.t.length), (45, .int .i64 k)], [(3, .var (R.ty 27) (m.mets k)), (2, .var (R.ty 26) (t3 (m.hi m.t.length))), (1, .var (R.ty 26) (t3 (m.lo m.t.length))), (0, .var (R.ty 25) m.row)], 4⟩) (fun k => m.t.length - k) (0) ?_ ?_
      · exact Nat.zero_le _
      · intro k hk
        dsimp only
        repeat ((intro _u; clear _u); first | with_reducible first | refine cT ?_ | refine cF ?_ | refine cA ?_ | refine cB ?_ | refine aLn ?_ | refine cK ?_ | refine aS8 ?_ | refine wI ?_ | refine nD ?_ | refine aX rfl ?_ | refine vL rfl ?_)
        intro _u; clear _u
        refine cS (fun h2 => ?_) (fun h2 => ?_)
        · obtain ⟨t, ht⟩ : ∃ u_, m.t[k]? = some u_ := ⟨_, List.getElem?_eq_getElem (by first | omega | (simp <;> omega))⟩
          repeat ((intro _u; clear _u); first | with_reducible first | refine cT ?_ | refine cF ?_ | refine cA ?_ | refine cB ?_ | refine aLn ?_ | refine cK ?_ | refine aS8 ?_ | refine wI ?_ | refine nD ?_ | refine aX rfl ?_ | refine vL rfl ?_)
          intro _u; clear _u
          refine eget_map ht ?_
          have hpt := may.pt t (List.mem_of_getElem? ht)
          have i1 := m.in_box ht (p := m.pt t.a) (by simp [Ms.tcs])
          have i2 := m.in_box ht (p := m.pt t.b) (by simp [Ms.tcs])
          have i3 := m.in_box ht (p := m.pt t.c) (by simp [Ms.tcs])
          repeat ((intro _u; clear _u); first | with_reducible first | refine cT ?_ | refine cF ?_ | refine cA ?_ | refine cB ?_ | refine aLn ?_ | refine cK ?_ | refine aS8 ?_ | refine wI ?_ | refine nD ?_ | refine aX rfl ?_ | refine vL rfl ?_)
          intro _u; clear _u
          refine ILoop.one 100 ?_
          repeat ((intro _u; clear _u); first | with_reducible first | refine cT ?_ | refine cF ?_ | refine cA ?_ | refine cB ?_ | refine aLn ?_ | refine cK ?_ | refine aS8 ?_ | refine wI ?_ | refine nD ?_ | refine aX rfl ?_ | refine vL rfl ?_)
          intro _u; clear _u
          refine acnd_t (by decide) ?_
          repeat ((intro _u; clear _u); first | with_reducible first | refine cT ?_ | refine cF ?_ | refine cA ?_ | refine cB ?_ | refine aLn ?_ | refine cK ?_ | refine aS8 ?_ | refine wI ?_ | refine nD ?_ | refine aX rfl ?_ | refine vL rfl ?_)
          intro _u; clear _u
          refine eget_map (may.get (i := t.a) (by omega)) ?_
          repeat ((intro _u; clear _u); first | with_reducible first | refine cT ?_ | refine cF ?_ | refine cA ?_ | refine cB ?_ | refine aLn ?_ | refine cK ?_ | refine aS8 ?_ | refine wI ?_ | refine nD ?_ | refine aX rfl ?_ | refine vL rfl ?_)
          intro _u; clear _u
          refine acnd_f (by simp; omega) ?_
          repeat ((intro _u; clear _u); first | with_reducible first | refine cT ?_ | refine cF ?_ | refine cA ?_ | refine cB ?_ | refine aLn ?_ | refine cK ?_ | refine aS8 ?_ | refine wI ?_ | refine nD ?_ | refine aX rfl ?_ | refine vL rfl ?_)
          intro _u; clear _u
          refine acnd_f (by simp; omega) ?_
          repeat ((intro _u; clear _u); first | with_reducible first | refine cT ?_ | refine cF ?_ | refine cA ?_ | refine cB ?_ | refine aLn ?_ | refine cK ?_ | refine aS8 ?_ | refine wI ?_ | refine nD ?_ | refine aX rfl ?_ | refine vL rfl ?_)
          intro _u; clear _u
          refine acnd_f (by simp; omega) ?_
          repeat ((intro _u; clear _u); first | with_reducible first | refine cT ?_ | refine cF ?_ | refine cA ?_ | refine cB ?_ | refine aLn ?_ | refine cK ?_ | refine aS8 ?_ | refine wI ?_ | refine nD ?_ | refine aX rfl ?_ | refine vL rfl ?_)
          intro _u; clear _u
          refine acnd_f (by simp; omega) ?_
          repeat ((intro _u; clear _u); first | with_reducible first | refine cT ?_ | refine cF ?_ | refine cA ?_ | refine cB ?_ | refine aLn ?_ | refine cK ?_ | refine aS8 ?_ | refine wI ?_ | refine nD ?_ | refine aX rfl ?_ | refine vL rfl ?_)
          intro _u; clear _u
          refine acnd_f (by simp; omega) ?_
          repeat ((intro _u; clear _u); first | with_reducible first | refine cT ?_ | refine cF ?_ | refine cA ?_ | refine cB ?_ | refine aLn ?_ | refine cK ?_ | refine aS8 ?_ | refine wI ?_ | refine nD ?_ | refine aX rfl ?_ | refine vL rfl ?_)
          intro _u; clear _u
          refine acnd_f (by simp; omega) ?_
          repeat ((intro _u; clear _u); first | with_reducible first | refine cT ?_ | refine cF ?_ | refine cA ?_ | refine cB ?_ | refine aLn ?_ | refine cK ?_ | refine aS8 ?_ | refine wI ?_ | refine nD ?_ | refine aX rfl ?_ | refine vL rfl ?_)
          intro _u; clear _u
          refine lPa 100 (fun j : Nat => j ≤ 6) (fun j => ⟨[(1, .loc 0 1 0 0), (3, .loc 1 1 0 0), (4, .loc 2 1 0 0), (6, .loc 3 1 0 0), (43, .isl 3 (slc3 m.t)), (44, .int .i64 m.t.length), (45, .int .i64 k), (49, .agg (t3 t)), (50, .int .i64 0), (128, .agg [.bool ((m.pt t.a).a == (m.lo m.t.length).a), .bool ((m.pt t.a).b == (m.lo m.t.length).b), .bool ((m.pt t.a).c == (m.lo m.t.length).c), .bool ((m.pt t.a).a == (m.hi m.t.length).a), .bool ((m.pt t.a).b == (m.hi m.t.length).b), .bool ((m.pt t.a).c == (m.hi m.t.length).c)]), (129, .int .i64 j)], [(3, .var (R.ty 27) (metJ (m.lo m.t.length) (m.hi m.t.length) (m.cs k) (m.pt t.a) j)), (2, .var (R.ty 26) (t3 (m.hi m.t.length))), (1, .var (R.ty 26) (t3 (m.lo m.t.length))), (0, .var (R.ty 25) m.row)], 6⟩) (fun j => 6 - j) (0) ?_ ?_
          · exact Nat.zero_le _
          · intro j hj
            dsimp only
            by_cases hj6 : j = 6
            · subst hj6
              repeat ((intro _u; clear _u); first | with_reducible first | refine cT ?_ | refine cF ?_ | refine cA ?_ | refine cB ?_ | refine aLn ?_ | refine cK ?_ | refine aS8 ?_ | refine wI ?_ | refine nD ?_ | refine aX rfl ?_ | refine vL rfl ?_)
              intro _u; clear _u
              refine acnd_f (by decide) ?_
              repeat ((intro _u; clear _u); first | with_reducible first | refine cT ?_ | refine cF ?_ | refine cA ?_ | refine cB ?_ | refine aLn ?_ | refine cK ?_ | refine aS8 ?_ | refine wI ?_ | refine nD ?_ | refine aX rfl ?_ | refine vL rfl ?_)
              intro _u; clear _u
              refine ILoop.one 100 ?_
              repeat ((intro _u; clear _u); first | with_reducible first | refine cT ?_ | refine cF ?_ | refine cA ?_ | refine cB ?_ | refine aLn ?_ | refine cK ?_ | refine aS8 ?_ | refine wI ?_ | refine nD ?_ | refine aX rfl ?_ | refine vL rfl ?_)
              intro _u; clear _u
              refine acnd_t (by decide) ?_
              repeat ((intro _u; clear _u); first | with_reducible first | refine cT ?_ | refine cF ?_ | refine cA ?_ | refine cB ?_ | refine aLn ?_ | refine cK ?_ | refine aS8 ?_ | refine wI ?_ | refine nD ?_ | refine aX rfl ?_ | refine vL rfl ?_)
              intro _u; clear _u
              refine eget_map (may.get (i := t.b) (by omega)) ?_
              repeat ((intro _u; clear _u); first | with_reducible first | refine cT ?_ | refine cF ?_ | refine cA ?_ | refine cB ?_ | refine aLn ?_ | refine cK ?_ | refine aS8 ?_ | refine wI ?_ | refine nD ?_ | refine aX rfl ?_ | refine vL rfl ?_)
              intro _u; clear _u
              refine acnd_f (by simp; omega) ?_
              repeat ((intro _u; clear _u); first | with_reducible first | refine cT ?_ | refine cF ?_ | refine cA ?_ | refine cB ?_ | refine aLn ?_ | refine cK ?_ | refine aS8 ?_ | refine wI ?_ | refine nD ?_ | refine aX rfl ?_ | refine vL rfl ?_)
              intro _u; clear _u
              refine acnd_f (by simp; omega) ?_
              repeat ((intro _u; clear _u); first | with_reducible first | refine cT ?_ | refine cF ?_ | refine cA ?_ | refine cB ?_ | refine aLn ?_ | refine cK ?_ | refine aS8 ?_ | refine wI ?_ | refine nD ?_ | refine aX rfl ?_ | refine vL rfl ?_)
              intro _u; clear _u
              refine acnd_f (by simp; omega) ?_
              repeat ((intro _u; clear _u); first | with_reducible first | refine cT ?_ | refine cF ?_ | refine cA ?_ | refine cB ?_ | refine aLn ?_ | refine cK ?_ | refine aS8 ?_ | refine wI ?_ | refine nD ?_ | refine aX rfl ?_ | refine vL rfl ?_)
              intro _u; clear _u
              refine acnd_f (by simp; omega) ?_
              repeat ((intro _u; clear _u); first | with_reducible first | refine cT ?_ | refine cF ?_ | refine cA ?_ | refine cB ?_ | refine aLn ?_ | refine cK ?_ | refine aS8 ?_ | refine wI ?_ | refine nD ?_ | refine aX rfl ?_ | refine vL rfl ?_)
              intro _u; clear _u
              refine acnd_f (by simp; omega) ?_
              repeat ((intro _u; clear _u); first | with_reducible first | refine cT ?_ | refine cF ?_ | refine cA ?_ | refine cB ?_ | refine aLn ?_ | refine cK ?_ | refine aS8 ?_ | refine wI ?_ | refine nD ?_ | refine aX rfl ?_ | refine vL rfl ?_)
              intro _u; clear _u
              refine acnd_f (by simp; omega) ?_
              repeat ((intro _u; clear _u); first | with_reducible first | refine cT ?_ | refine cF ?_ | refine cA ?_ | refine cB ?_ | refine aLn ?_ | refine cK ?_ | refine aS8 ?_ | refine wI ?_ | refine nD ?_ | refine aX rfl ?_ | refine vL rfl ?_)
              intro _u; clear _u
              refine lPa 100 (fun j : Nat => j ≤ 6) (fun j => ⟨[(1, .loc 0 1 0 0), (3, .loc 1 1 0 0), (4, .loc 2 1 0 0), (6, .loc 3 1 0 0), (43, .isl 3 (slc3 m.t)), (44, .int .i64 m.t.length), (45, .int .i64 k), (49, .agg (t3 t)), (50, .int .i64 1), (128, .agg [.bool ((m.pt t.b).a == (m.lo m.t.length).a), .bool ((m.pt t.b).b == (m.lo m.t.length).b), .bool ((m.pt t.b).c == (m.lo m.t.length).c), .bool ((m.pt t.b).a == (m.hi m.t.length).a), .bool ((m.pt t.b).b == (m.hi m.t.length).b), .bool ((m.pt t.b).c == (m.hi m.t.length).c)]), (129, .int .i64 j)], [(3, .var (R.ty 27) (metJ (m.lo m.t.length) (m.hi m.t.length) (m.cs k ++ [m.pt t.a]) (m.pt t.b) j)), (2, .var (R.ty 26) (t3 (m.hi m.t.length))), (1, .var (R.ty 26) (t3 (m.lo m.t.length))), (0, .var (R.ty 25) m.row)], 7⟩) (fun j => 6 - j) (0) ?_ ?_
              · exact Nat.zero_le _
              · intro j hj
                dsimp only
                by_cases hj6 : j = 6
                · subst hj6
                  repeat ((intro _u; clear _u); first | with_reducible first | refine cT ?_ | refine cF ?_ | refine cA ?_ | refine cB ?_ | refine aLn ?_ | refine cK ?_ | refine aS8 ?_ | refine wI ?_ | refine nD ?_ | refine aX rfl ?_ | refine vL rfl ?_)
                  intro _u; clear _u
                  refine acnd_f (by decide) ?_
                  repeat ((intro _u; clear _u); first | with_reducible first | refine cT ?_ | refine cF ?_ | refine cA ?_ | refine cB ?_ | refine aLn ?_ | refine cK ?_ | refine aS8 ?_ | refine wI ?_ | refine nD ?_ | refine aX rfl ?_ | refine vL rfl ?_)
                  intro _u; clear _u
                  refine ILoop.one 100 ?_
                  repeat ((intro _u; clear _u); first | with_reducible first | refine cT ?_ | refine cF ?_ | refine cA ?_ | refine cB ?_ | refine aLn ?_ | refine cK ?_ | refine aS8 ?_ | refine wI ?_ | refine nD ?_ | refine aX rfl ?_ | refine vL rfl ?_)
                  intro _u; clear _u
                  refine acnd_t (by decide) ?_
                  repeat ((intro _u; clear _u); first | with_reducible first | refine cT ?_ | refine cF ?_ | refine cA ?_ | refine cB ?_ | refine aLn ?_ | refine cK ?_ | refine aS8 ?_ | refine wI ?_ | refine nD ?_ | refine aX rfl ?_ | refine vL rfl ?_)
                  intro _u; clear _u
                  refine eget_map (may.get (i := t.c) (by omega)) ?_
                  repeat ((intro _u; clear _u); first | with_reducible first | refine cT ?_ | refine cF ?_ | refine cA ?_ | refine cB ?_ | refine aLn ?_ | refine cK ?_ | refine aS8 ?_ | refine wI ?_ | refine nD ?_ | refine aX rfl ?_ | refine vL rfl ?_)
                  intro _u; clear _u
                  refine acnd_f (by simp; omega) ?_
                  repeat ((intro _u; clear _u); first | with_reducible first | refine cT ?_ | refine cF ?_ | refine cA ?_ | refine cB ?_ | refine aLn ?_ | refine cK ?_ | refine aS8 ?_ | refine wI ?_ | refine nD ?_ | refine aX rfl ?_ | refine vL rfl ?_)
                  intro _u; clear _u
                  refine acnd_f (by simp; omega) ?_
                  repeat ((intro _u; clear _u); first | with_reducible first | refine cT ?_ | refine cF ?_ | refine cA ?_ | refine cB ?_ | refine aLn ?_ | refine cK ?_ | refine aS8 ?_ | refine wI ?_ | refine nD ?_ | refine aX rfl ?_ | refine vL rfl ?_)
                  intro _u; clear _u
                  refine acnd_f (by simp; omega) ?_
                  repeat ((intro _u; clear _u); first | with_reducible first | refine cT ?_ | refine cF ?_ | refine cA ?_ | refine cB ?_ | refine aLn ?_ | refine cK ?_ | refine aS8 ?_ | refine wI ?_ | refine nD ?_ | refine aX rfl ?_ | refine vL rfl ?_)
                  intro _u; clear _u
                  refine acnd_f (by simp; omega) ?_
                  repeat ((intro _u; clear _u); first | with_reducible first | refine cT ?_ | refine cF ?_ | refine cA ?_ | refine cB ?_ | refine aLn ?_ | refine cK ?_ | refine aS8 ?_ | refine wI ?_ | refine nD ?_ | refine aX rfl ?_ | refine vL rfl ?_)
                  intro _u; clear _u
                  refine acnd_f (by simp; omega) ?_
                  repeat ((intro _u; clear _u); first | with_reducible first | refine cT ?_ | refine cF ?_ | refine cA ?_ | refine cB ?_ | refine aLn ?_ | refine cK ?_ | refine aS8 ?_ | refine wI ?_ | refine nD ?_ | refine aX rfl ?_ | refine vL rfl ?_)
                  intro _u; clear _u
                  refine acnd_f (by simp; omega) ?_
                  repeat ((intro _u; clear _u); first | with_reducible first | refine cT ?_ | refine cF ?_ | refine cA ?_ | refine cB ?_ | refine aLn ?_ | refine cK ?_ | refine aS8 ?_ | refine wI ?_ | refine nD ?_ | refine aX rfl ?_ | refine vL rfl ?_)
                  intro _u; clear _u
                  refine lPa 100 (fun j : Nat => j ≤ 6) (fun j => ⟨[(1, .loc 0 1 0 0), (3, .loc 1 1 0 0), (4, .loc 2 1 0 0), (6, .loc 3 1 0 0), (43, .isl 3 (slc3 m.t)), (44, .int .i64 m.t.length), (45, .int .i64 k), (49, .agg (t3 t)), (50, .int .i64 2), (128, .agg [.bool ((m.pt t.c).a == (m.lo m.t.length).a), .bool ((m.pt t.c).b == (m.lo m.t.length).b), .bool ((m.pt t.c).c == (m.lo m.t.length).c), .bool ((m.pt t.c).a == (m.hi m.t.length).a), .bool ((m.pt t.c).b == (m.hi m.t.length).b), .bool ((m.pt t.c).c == (m.hi m.t.length).c)]), (129, .int .i64 j)], [(3, .var (R.ty 27) (metJ (m.lo m.t.length) (m.hi m.t.length) (m.cs k ++ [m.pt t.a] ++ [m.pt t.b]) (m.pt t.c) j)), (2, .var (R.ty 26) (t3 (m.hi m.t.length))), (1, .var (R.ty 26) (t3 (m.lo m.t.length))), (0, .var (R.ty 25) m.row)], 8⟩) (fun j => 6 - j) (0) ?_ ?_
                  · exact Nat.zero_le _
                  · intro j hj
                    dsimp only
                    by_cases hj6 : j = 6
                    · subst hj6
                      repeat ((intro _u; clear _u); first | with_reducible first | refine cT ?_ | refine cF ?_ | refine cA ?_ | refine cB ?_ | refine aLn ?_ | refine cK ?_ | refine aS8 ?_ | refine wI ?_ | refine nD ?_ | refine aX rfl ?_ | refine vL rfl ?_)
                      intro _u; clear _u
                      refine acnd_f (by decide) ?_
                      repeat ((intro _u; clear _u); first | with_reducible first | refine cT ?_ | refine cF ?_ | refine cA ?_ | refine cB ?_ | refine aLn ?_ | refine cK ?_ | refine aS8 ?_ | refine wI ?_ | refine nD ?_ | refine aX rfl ?_ | refine vL rfl ?_)
                      intro _u; clear _u
                      refine ILoop.one 100 ?_
                      repeat ((intro _u; clear _u); first | with_reducible first | refine cT ?_ | refine cF ?_ | refine cA ?_ | refine cB ?_ | refine aLn ?_ | refine cK ?_ | refine aS8 ?_ | refine wI ?_ | refine nD ?_ | refine aX rfl ?_ | refine vL rfl ?_)
                      intro _u; clear _u
                      refine acnd_f (by decide) ?_
                      repeat ((intro _u; clear _u); first | with_reducible first | refine cT ?_ | refine cF ?_ | refine cA ?_ | refine cB ?_ | refine aLn ?_ | refine cK ?_ | refine aS8 ?_ | refine wI ?_ | refine nD ?_ | refine aX rfl ?_ | refine vL rfl ?_)
                      intro _u; clear _u
                      refine nX (k + 1) ?_ ?_ ⟨_, hp, rfl⟩ ?_ ?_
                      · omega
                      · omega
                      · all_goals repeat' (first | exact True.intro | refine And.intro ?_ ?_ | (intro _u; clear _u) | (with_reducible first | refine eM ?_ ?_ | refine eF ?_ ?_ ?_ | refine eN ?_ | refine eL ?_ ?_ ?_ | refine eA ?_ ?_ | refine IWk.mk ⟨_, hp, rfl⟩ ?_ ?_) | refine IWk.mk ⟨_, hp, rfl⟩ ?_ ?_)
                        all_goals first | with_reducible rfl | omega | exact Or.inl (by decide) | (simp; done) | rfl | skip
                      · all_goals repeat' (first | exact True.intro | refine And.intro ?_ ?_ | (intro _u; clear _u) | (with_reducible first | refine eM ?_ ?_ | refine eF ?_ ?_ ?_ | refine eN ?_ | refine eL ?_ ?_ ?_ | refine eA ?_ ?_ | refine IWk.mk ⟨_, hp, rfl⟩ ?_ ?_) | refine IWk.mk ⟨_, hp, rfl⟩ ?_ ?_)
                        all_goals first | with_reducible rfl | omega | exact Or.inl (by decide) | (simp; done) | rfl | skip
                        all_goals (rw [Ms.cs_succ ht]; simp [bJ, Ms.tcs]; rfl)
                    · obtain rfl | rfl | rfl | rfl | rfl | rfl : j = 0 ∨ j = 1 ∨ j = 2 ∨ j = 3 ∨ j = 4 ∨ j = 5 := by omega
                      · repeat ((intro _u; clear _u); first | with_reducible first | refine cT ?_ | refine cF ?_ | refine cA ?_ | refine cB ?_ | refine aLn ?_ | refine cK ?_ | refine aS8 ?_ | refine wI ?_ | refine nD ?_ | refine aX rfl ?_ | refine vL rfl ?_)
                        intro _u; clear _u
                        refine acnd_t (by decide) ?_
                        repeat ((intro _u; clear _u); first | with_reducible first | refine cT ?_ | refine cF ?_ | refine cA ?_ | refine cB ?_ | refine aLn ?_ | refine cK ?_ | refine aS8 ?_ | refine wI ?_ | refine nD ?_ | refine aX rfl ?_ | refine vL rfl ?_)
                        intro _u; clear _u
                        refine cS (fun hm => ?_) (fun hm => ?_)
                        · repeat ((intro _u; clear _u); first | with_reducible first | refine cT ?_ | refine cF ?_ | refine cA ?_ | refine cB ?_ | refine aLn ?_ | refine cK ?_ | refine aS8 ?_ | refine wI ?_ | refine nD ?_ | refine aX rfl ?_ | refine vL rfl ?_)
                          intro _u; clear _u
                          refine nX (1) ?_ ?_ ⟨_, hp, rfl⟩ ?_ ?_
                          · omega
                          · omega
                          · all_goals repeat' (first | exact True.intro | refine And.intro ?_ ?_ | (intro _u; clear _u) | (with_reducible first | refine eM ?_ ?_ | refine eF ?_ ?_ ?_ | refine eN ?_ | refine eL ?_ ?_ ?_ | refine eA ?_ ?_ | refine IWk.mk ⟨_, hp, rfl⟩ ?_ ?_) | refine IWk.mk ⟨_, hp, rfl⟩ ?_ ?_)
                            all_goals first | with_reducible rfl | omega | exact Or.inl (by decide) | (simp; done) | rfl | skip
                          · all_goals repeat' (first | exact True.intro | refine And.intro ?_ ?_ | (intro _u; clear _u) | (with_reducible first | refine eM ?_ ?_ | refine eF ?_ ?_ ?_ | refine eN ?_ | refine eL ?_ ?_ ?_ | refine eA ?_ ?_ | refine IWk.mk ⟨_, hp, rfl⟩ ?_ ?_) | refine IWk.mk ⟨_, hp, rfl⟩ ?_ ?_)
                            all_goals first | with_reducible rfl | omega | exact Or.inl (by decide) | (simp; done) | rfl | skip
                            exact met_t hm
                        · repeat ((intro _u; clear _u); first | with_reducible first | refine cT ?_ | refine cF ?_ | refine cA ?_ | refine cB ?_ | refine aLn ?_ | refine cK ?_ | refine aS8 ?_ | refine wI ?_ | refine nD ?_ | refine aX rfl ?_ | refine vL rfl ?_)
                          intro _u; clear _u
                          refine nX (1) ?_ ?_ ⟨_, hp, rfl⟩ ?_ ?_
                          · omega
                          · omega
                          · all_goals repeat' (first | exact True.intro | refine And.intro ?_ ?_ | (intro _u; clear _u) | (with_reducible first | refine eM ?_ ?_ | refine eF ?_ ?_ ?_ | refine eN ?_ | refine eL ?_ ?_ ?_ | refine eA ?_ ?_ | refine IWk.mk ⟨_, hp, rfl⟩ ?_ ?_) | refine IWk.mk ⟨_, hp, rfl⟩ ?_ ?_)
                            all_goals first | with_reducible rfl | omega | exact Or.inl (by decide) | (simp; done) | rfl | skip
                          · all_goals repeat' (first | exact True.intro | refine And.intro ?_ ?_ | (intro _u; clear _u) | (with_reducible first | refine eM ?_ ?_ | refine eF ?_ ?_ ?_ | refine eN ?_ | refine eL ?_ ?_ ?_ | refine eA ?_ ?_ | refine IWk.mk ⟨_, hp, rfl⟩ ?_ ?_) | refine IWk.mk ⟨_, hp, rfl⟩ ?_ ?_)
                            all_goals first | with_reducible rfl | omega | exact Or.inl (by decide) | (simp; done) | rfl | skip
                            exact met_f hm
                      · repeat ((intro _u; clear _u); first | with_reducible first | refine cT ?_ | refine cF ?_ | refine cA ?_ | refine cB ?_ | refine aLn ?_ | refine cK ?_ | refine aS8 ?_ | refine wI ?_ | refine nD ?_ | refine aX rfl ?_ | refine vL rfl ?_)
                        intro _u; clear _u
                        refine acnd_t (by decide) ?_
                        repeat ((intro _u; clear _u); first | with_reducible first | refine cT ?_ | refine cF ?_ | refine cA ?_ | refine cB ?_ | refine aLn ?_ | refine cK ?_ | refine aS8 ?_ | refine wI ?_ | refine nD ?_ | refine aX rfl ?_ | refine vL rfl ?_)
                        intro _u; clear _u
                        refine cS (fun hm => ?_) (fun hm => ?_)
                        · repeat ((intro _u; clear _u); first | with_reducible first | refine cT ?_ | refine cF ?_ | refine cA ?_ | refine cB ?_ | refine aLn ?_ | refine cK ?_ | refine aS8 ?_ | refine wI ?_ | refine nD ?_ | refine aX rfl ?_ | refine vL rfl ?_)
                          intro _u; clear _u
                          refine nX (2) ?_ ?_ ⟨_, hp, rfl⟩ ?_ ?_
                          · omega
                          · omega
                          · all_goals repeat' (first | exact True.intro | refine And.intro ?_ ?_ | (intro _u; clear _u) | (with_reducible first | refine eM ?_ ?_ | refine eF ?_ ?_ ?_ | refine eN ?_ | refine eL ?_ ?_ ?_ | refine eA ?_ ?_ | refine IWk.mk ⟨_, hp, rfl⟩ ?_ ?_) | refine IWk.mk ⟨_, hp, rfl⟩ ?_ ?_)
                            all_goals first | with_reducible rfl | omega | exact Or.inl (by decide) | (simp; done) | rfl | skip
                          · all_goals repeat' (first | exact True.intro | refine And.intro ?_ ?_ | (intro _u; clear _u) | (with_reducible first | refine eM ?_ ?_ | refine eF ?_ ?_ ?_ | refine eN ?_ | refine eL ?_ ?_ ?_ | refine eA ?_ ?_ | refine IWk.mk ⟨_, hp, rfl⟩ ?_ ?_) | refine IWk.mk ⟨_, hp, rfl⟩ ?_ ?_)
                            all_goals first | with_reducible rfl | omega | exact Or.inl (by decide) | (simp; done) | rfl | skip
                            exact met_t hm
                        · repeat ((intro _u; clear _u); first | with_reducible first | refine cT ?_ | refine cF ?_ | refine cA ?_ | refine cB ?_ | refine aLn ?_ | refine cK ?_ | refine aS8 ?_ | refine wI ?_ | refine nD ?_ | refine aX rfl ?_ | refine vL rfl ?_)
                          intro _u; clear _u
                          refine nX (2) ?_ ?_ ⟨_, hp, rfl⟩ ?_ ?_
                          · omega
                          · omega
                          · all_goals repeat' (first | exact True.intro | refine And.intro ?_ ?_ | (intro _u; clear _u) | (with_reducible first | refine eM ?_ ?_ | refine eF ?_ ?_ ?_ | refine eN ?_ | refine eL ?_ ?_ ?_ | refine eA ?_ ?_ | refine IWk.mk ⟨_, hp, rfl⟩ ?_ ?_) | refine IWk.mk ⟨_, hp, rfl⟩ ?_ ?_)
                            all_goals first | with_reducible rfl | omega | exact Or.inl (by decide) | (simp; done) | rfl | skip
                          · all_goals repeat' (first | exact True.intro | refine And.intro ?_ ?_ | (intro _u; clear _u) | (with_reducible first | refine eM ?_ ?_ | refine eF ?_ ?_ ?_ | refine eN ?_ | refine eL ?_ ?_ ?_ | refine eA ?_ ?_ | refine IWk.mk ⟨_, hp, rfl⟩ ?_ ?_) | refine IWk.mk ⟨_, hp, rfl⟩ ?_ ?_)
                            all_goals first | with_reducible rfl | omega | exact Or.inl (by decide) | (simp; done) | rfl | skip
                            exact met_f hm
                      · repeat ((intro _u; clear _u); first | with_reducible first | refine cT ?_ | refine cF ?_ | refine cA ?_ | refine cB ?_ | refine aLn ?_ | refine cK ?_ | refine aS8 ?_ | refine wI ?_ | refine nD ?_ | refine aX rfl ?_ | refine vL rfl ?_)
                        intro _u; clear _u
                        refine acnd_t (by decide) ?_
                        repeat ((intro _u; clear _u); first | with_reducible first | refine cT ?_ | refine cF ?_ | refine cA ?_ | refine cB ?_ | refine aLn ?_ | refine cK ?_ | refine aS8 ?_ | refine wI ?_ | refine nD ?_ | refine aX rfl ?_ | refine vL rfl ?_)
                        intro _u; clear _u
                        refine cS (fun hm => ?_) (fun hm => ?_)
                        · repeat ((intro _u; clear _u); first | with_reducible first | refine cT ?_ | refine cF ?_ | refine cA ?_ | refine cB ?_ | refine aLn ?_ | refine cK ?_ | refine aS8 ?_ | refine wI ?_ | refine nD ?_ | refine aX rfl ?_ | refine vL rfl ?_)
                          intro _u; clear _u
                          refine nX (3) ?_ ?_ ⟨_, hp, rfl⟩ ?_ ?_
                          · omega
                          · omega
                          · all_goals repeat' (first | exact True.intro | refine And.intro ?_ ?_ | (intro _u; clear _u) | (with_reducible first | refine eM ?_ ?_ | refine eF ?_ ?_ ?_ | refine eN ?_ | refine eL ?_ ?_ ?_ | refine eA ?_ ?_ | refine IWk.mk ⟨_, hp, rfl⟩ ?_ ?_) | refine IWk.mk ⟨_, hp, rfl⟩ ?_ ?_)
                            all_goals first | with_reducible rfl | omega | exact Or.inl (by decide) | (simp; done) | rfl | skip
                          · all_goals repeat' (first | exact True.intro | refine And.intro ?_ ?_ | (intro _u; clear _u) | (with_reducible first | refine eM ?_ ?_ | refine eF ?_ ?_ ?_ | refine eN ?_ | refine eL ?_ ?_ ?_ | refine eA ?_ ?_ | refine IWk.mk ⟨_, hp, rfl⟩ ?_ ?_) | refine IWk.mk ⟨_, hp, rfl⟩ ?_ ?_)
                            all_goals first | with_reducible rfl | omega | exact Or.inl (by decide) | (simp; done) | rfl | skip
                            exact met_t hm
                        · repeat ((intro _u; clear _u); first | with_reducible first | refine cT ?_ | refine cF ?_ | refine cA ?_ | refine cB ?_ | refine aLn ?_ | refine cK ?_ | refine aS8 ?_ | refine wI ?_ | refine nD ?_ | refine aX rfl ?_ | refine vL rfl ?_)
                          intro _u; clear _u
                          refine nX (3) ?_ ?_ ⟨_, hp, rfl⟩ ?_ ?_
                          · omega
                          · omega
                          · all_goals repeat' (first | exact True.intro | refine And.intro ?_ ?_ | (intro _u; clear _u) | (with_reducible first | refine eM ?_ ?_ | refine eF ?_ ?_ ?_ | refine eN ?_ | refine eL ?_ ?_ ?_ | refine eA ?_ ?_ | refine IWk.mk ⟨_, hp, rfl⟩ ?_ ?_) | refine IWk.mk ⟨_, hp, rfl⟩ ?_ ?_)
                            all_goals first | with_reducible rfl | omega | exact Or.inl (by decide) | (simp; done) | rfl | skip
                          · all_goals repeat' (first | exact True.intro | refine And.intro ?_ ?_ | (intro _u; clear _u) | (with_reducible first | refine eM ?_ ?_ | refine eF ?_ ?_ ?_ | refine eN ?_ | refine eL ?_ ?_ ?_ | refine eA ?_ ?_ | refine IWk.mk ⟨_, hp, rfl⟩ ?_ ?_) | refine IWk.mk ⟨_, hp, rfl⟩ ?_ ?_)
                            all_goals first | with_reducible rfl | omega | exact Or.inl (by decide) | (simp; done) | rfl | skip
                            exact met_f hm
                      · repeat ((intro _u; clear _u); first | with_reducible first | refine cT ?_ | refine cF ?_ | refine cA ?_ | refine cB ?_ | refine aLn ?_ | refine cK ?_ | refine aS8 ?_ | refine wI ?_ | refine nD ?_ | refine aX rfl ?_ | refine vL rfl ?_)
                        intro _u; clear _u
                        refine acnd_t (by decide) ?_
                        repeat ((intro _u; clear _u); first | with_reducible first | refine cT ?_ | refine cF ?_ | refine cA ?_ | refine cB ?_ | refine aLn ?_ | refine cK ?_ | refine aS8 ?_ | refine wI ?_ | refine nD ?_ | refine aX rfl ?_ | refine vL rfl ?_)
                        intro _u; clear _u
                        refine cS (fun hm => ?_) (fun hm => ?_)
                        · repeat ((intro _u; clear _u); first | with_reducible first | refine cT ?_ | refine cF ?_ | refine cA ?_ | refine cB ?_ | refine aLn ?_ | refine cK ?_ | refine aS8 ?_ | refine wI ?_ | refine nD ?_ | refine aX rfl ?_ | refine vL rfl ?_)
                          intro _u; clear _u
                          refine nX (4) ?_ ?_ ⟨_, hp, rfl⟩ ?_ ?_
                          · omega
                          · omega
                          · all_goals repeat' (first | exact True.intro | refine And.intro ?_ ?_ | (intro _u; clear _u) | (with_reducible first | refine eM ?_ ?_ | refine eF ?_ ?_ ?_ | refine eN ?_ | refine eL ?_ ?_ ?_ | refine eA ?_ ?_ | refine IWk.mk ⟨_, hp, rfl⟩ ?_ ?_) | refine IWk.mk ⟨_, hp, rfl⟩ ?_ ?_)
                            all_goals first | with_reducible rfl | omega | exact Or.inl (by decide) | (simp; done) | rfl | skip
                          · all_goals repeat' (first | exact True.intro | refine And.intro ?_ ?_ | (intro _u; clear _u) | (with_reducible first | refine eM ?_ ?_ | refine eF ?_ ?_ ?_ | refine eN ?_ | refine eL ?_ ?_ ?_ | refine eA ?_ ?_ | refine IWk.mk ⟨_, hp, rfl⟩ ?_ ?_) | refine IWk.mk ⟨_, hp, rfl⟩ ?_ ?_)
                            all_goals first | with_reducible rfl | omega | exact Or.inl (by decide) | (simp; done) | rfl | skip
                            exact met_t hm
                        · repeat ((intro _u; clear _u); first | with_reducible first | refine cT ?_ | refine cF ?_ | refine cA ?_ | refine cB ?_ | refine aLn ?_ | refine cK ?_ | refine aS8 ?_ | refine wI ?_ | refine nD ?_ | refine aX rfl ?_ | refine vL rfl ?_)
                          intro _u; clear _u
                          refine nX (4) ?_ ?_ ⟨_, hp, rfl⟩ ?_ ?_
                          · omega
                          · omega
                          · all_goals repeat' (first | exact True.intro | refine And.intro ?_ ?_ | (intro _u; clear _u) | (with_reducible first | refine eM ?_ ?_ | refine eF ?_ ?_ ?_ | refine eN ?_ | refine eL ?_ ?_ ?_ | refine eA ?_ ?_ | refine IWk.mk ⟨_, hp, rfl⟩ ?_ ?_) | refine IWk.mk ⟨_, hp, rfl⟩ ?_ ?_)
                            all_goals first | with_reducible rfl | omega | exact Or.inl (by decide) | (simp; done) | rfl | skip
                          · all_goals repeat' (first | exact True.intro | refine And.intro ?_ ?_ | (intro _u; clear _u) | (with_reducible first | refine eM ?_ ?_ | refine eF ?_ ?_ ?_ | refine eN ?_ | refine eL ?_ ?_ ?_ | refine eA ?_ ?_ | refine IWk.mk ⟨_, hp, rfl⟩ ?_ ?_) | refine IWk.mk ⟨_, hp, rfl⟩ ?_ ?_)
                            all_goals first | with_reducible rfl | omega | exact Or.inl (by decide) | (simp; done) | rfl | skip
                            exact met_f hm
                      · repeat ((intro _u; clear _u); first | with_reducible first | refine cT ?_ | refine cF ?_ | refine cA ?_ | refine cB ?_ | refine aLn ?_ | refine cK ?_ | refine aS8 ?_ | refine wI ?_ | refine nD ?_ | refine aX rfl ?_ | refine vL rfl ?_)
                        intro _u; clear _u
                        refine acnd_t (by decide) ?_
                        repeat ((intro _u; clear _u); first | with_reducible first | refine cT ?_ | refine cF ?_ | refine cA ?_ | refine cB ?_ | refine aLn ?_ | refine cK ?_ | refine aS8 ?_ | refine wI ?_ | refine nD ?_ | refine aX rfl ?_ | refine vL rfl ?_)
                        intro _u; clear _u
                        refine cS (fun hm => ?_) (fun hm => ?_)
                        · repeat ((intro _u; clear _u); first | with_reducible first | refine cT ?_ | refine cF ?_ | refine cA ?_ | refine cB ?_ | refine aLn ?_ | refine cK ?_ | refine aS8 ?_ | refine wI ?_ | refine nD ?_ | refine aX rfl ?_ | refine vL rfl ?_)
                          intro _u; clear _u
                          refine nX (5) ?_ ?_ ⟨_, hp, rfl⟩ ?_ ?_
                          · omega
                          · omega
                          · all_goals repeat' (first | exact True.intro | refine And.intro ?_ ?_ | (intro _u; clear _u) | (with_reducible first | refine eM ?_ ?_ | refine eF ?_ ?_ ?_ | refine eN ?_ | refine eL ?_ ?_ ?_ | refine eA ?_ ?_ | refine IWk.mk ⟨_, hp, rfl⟩ ?_ ?_) | refine IWk.mk ⟨_, hp, rfl⟩ ?_ ?_)
                            all_goals first | with_reducible rfl | omega | exact Or.inl (by decide) | (simp; done) | rfl | skip
                          · all_goals repeat' (first | exact True.intro | refine And.intro ?_ ?_ | (intro _u; clear _u) | (with_reducible first | refine eM ?_ ?_ | refine eF ?_ ?_ ?_ | refine eN ?_ | refine eL ?_ ?_ ?_ | refine eA ?_ ?_ | refine IWk.mk ⟨_, hp, rfl⟩ ?_ ?_) | refine IWk.mk ⟨_, hp, rfl⟩ ?_ ?_)
                            all_goals first | with_reducible rfl | omega | exact Or.inl (by decide) | (simp; done) | rfl | skip
                            exact met_t hm
                        · repeat ((intro _u; clear _u); first | with_reducible first | refine cT ?_ | refine cF ?_ | refine cA ?_ | refine cB ?_ | refine aLn ?_ | refine cK ?_ | refine aS8 ?_ | refine wI ?_ | refine nD ?_ | refine aX rfl ?_ | refine vL rfl ?_)
                          intro _u; clear _u
                          refine nX (5) ?_ ?_ ⟨_, hp, rfl⟩ ?_ ?_
                          · omega
                          · omega
                          · all_goals repeat' (first | exact True.intro | refine And.intro ?_ ?_ | (intro _u; clear _u) | (with_reducible first | refine eM ?_ ?_ | refine eF ?_ ?_ ?_ | refine eN ?_ | refine eL ?_ ?_ ?_ | refine eA ?_ ?_ | refine IWk.mk ⟨_, hp, rfl⟩ ?_ ?_) | refine IWk.mk ⟨_, hp, rfl⟩ ?_ ?_)
                            all_goals first | with_reducible rfl | omega | exact Or.inl (by decide) | (simp; done) | rfl | skip
                          · all_goals repeat' (first | exact True.intro | refine And.intro ?_ ?_ | (intro _u; clear _u) | (with_reducible first | refine eM ?_ ?_ | refine eF ?_ ?_ ?_ | refine eN ?_ | refine eL ?_ ?_ ?_ | refine eA ?_ ?_ | refine IWk.mk ⟨_, hp, rfl⟩ ?_ ?_) | refine IWk.mk ⟨_, hp, rfl⟩ ?_ ?_)
                            all_goals first | with_reducible rfl | omega | exact Or.inl (by decide) | (simp; done) | rfl | skip
                            exact met_f hm
                      · repeat ((intro _u; clear _u); first | with_reducible first | refine cT ?_ | refine cF ?_ | refine cA ?_ | refine cB ?_ | refine aLn ?_ | refine cK ?_ | refine aS8 ?_ | refine wI ?_ | refine nD ?_ | refine aX rfl ?_ | refine vL rfl ?_)
                        intro _u; clear _u
                        refine acnd_t (by decide) ?_
                        repeat ((intro _u; clear _u); first | with_reducible first | refine cT ?_ | refine cF ?_ | refine cA ?_ | refine cB ?_ | refine aLn ?_ | refine cK ?_ | refine aS8 ?_ | refine wI ?_ | refine nD ?_ | refine aX rfl ?_ | refine vL rfl ?_)
                        intro _u; clear _u
                        refine cS (fun hm => ?_) (fun hm => ?_)
                        · repeat ((intro _u; clear _u); first | with_reducible first | refine cT ?_ | refine cF ?_ | refine cA ?_ | refine cB ?_ | refine aLn ?_ | refine cK ?_ | refine aS8 ?_ | refine wI ?_ | refine nD ?_ | refine aX rfl ?_ | refine vL rfl ?_)
                          intro _u; clear _u
                          refine nX (6) ?_ ?_ ⟨_, hp, rfl⟩ ?_ ?_
                          · omega
                          · omega
                          · all_goals repeat' (first | exact True.intro | refine And.intro ?_ ?_ | (intro _u; clear _u) | (with_reducible first | refine eM ?_ ?_ | refine eF ?_ ?_ ?_ | refine eN ?_ | refine eL ?_ ?_ ?_ | refine eA ?_ ?_ | refine IWk.mk ⟨_, hp, rfl⟩ ?_ ?_) | refine IWk.mk ⟨_, hp, rfl⟩ ?_ ?_)
                            all_goals first | with_reducible rfl | omega | exact Or.inl (by decide) | (simp; done) | rfl | skip
                          · all_goals repeat' (first | exact True.intro | refine And.intro ?_ ?_ | (intro _u; clear _u) | (with_reducible first | refine eM ?_ ?_ | refine eF ?_ ?_ ?_ | refine eN ?_ | refine eL ?_ ?_ ?_ | refine eA ?_ ?_ | refine IWk.mk ⟨_, hp, rfl⟩ ?_ ?_) | refine IWk.mk ⟨_, hp, rfl⟩ ?_ ?_)
                            all_goals first | with_reducible rfl | omega | exact Or.inl (by decide) | (simp; done) | rfl | skip
                            exact met_t hm
                        · repeat ((intro _u; clear _u); first | with_reducible first | refine cT ?_ | refine cF ?_ | refine cA ?_ | refine cB ?_ | refine aLn ?_ | refine cK ?_ | refine aS8 ?_ | refine wI ?_ | refine nD ?_ | refine aX rfl ?_ | refine vL rfl ?_)
                          intro _u; clear _u
                          refine nX (6) ?_ ?_ ⟨_, hp, rfl⟩ ?_ ?_
                          · omega
                          · omega
                          · all_goals repeat' (first | exact True.intro | refine And.intro ?_ ?_ | (intro _u; clear _u) | (with_reducible first | refine eM ?_ ?_ | refine eF ?_ ?_ ?_ | refine eN ?_ | refine eL ?_ ?_ ?_ | refine eA ?_ ?_ | refine IWk.mk ⟨_, hp, rfl⟩ ?_ ?_) | refine IWk.mk ⟨_, hp, rfl⟩ ?_ ?_)
                            all_goals first | with_reducible rfl | omega | exact Or.inl (by decide) | (simp; done) | rfl | skip
                          · all_goals repeat' (first | exact True.intro | refine And.intro ?_ ?_ | (intro _u; clear _u) | (with_reducible first | refine eM ?_ ?_ | refine eF ?_ ?_ ?_ | refine eN ?_ | refine eL ?_ ?_ ?_ | refine eA ?_ ?_ | refine IWk.mk ⟨_, hp, rfl⟩ ?_ ?_) | refine IWk.mk ⟨_, hp, rfl⟩ ?_ ?_)
                            all_goals first | with_reducible rfl | omega | exact Or.inl (by decide) | (simp; done) | rfl | skip
                            exact met_f hm
                · obtain rfl | rfl | rfl | rfl | rfl | rfl : j = 0 ∨ j = 1 ∨ j = 2 ∨ j = 3 ∨ j = 4 ∨ j = 5 := by omega
                  · repeat ((intro _u; clear _u); first | with_reducible first | refine cT ?_ | refine cF ?_ | refine cA ?_ | refine cB ?_ | refine aLn ?_ | refine cK ?_ | refine aS8 ?_ | refine wI ?_ | refine nD ?_ | refine aX rfl ?_ | refine vL rfl ?_)
                    intro _u; clear _u
                    refine acnd_t (by decide) ?_
                    repeat ((intro _u; clear _u); first | with_reducible first | refine cT ?_ | refine cF ?_ | refine cA ?_ | refine cB ?_ | refine aLn ?_ | refine cK ?_ | refine aS8 ?_ | refine wI ?_ | refine nD ?_ | refine aX rfl ?_ | refine vL rfl ?_)
                    intro _u; clear _u
                    refine cS (fun hm => ?_) (fun hm => ?_)
                    · repeat ((intro _u; clear _u); first | with_reducible first | refine cT ?_ | refine cF ?_ | refine cA ?_ | refine cB ?_ | refine aLn ?_ | refine cK ?_ | refine aS8 ?_ | refine wI ?_ | refine nD ?_ | refine aX rfl ?_ | refine vL rfl ?_)
                      intro _u; clear _u
                      refine nX (1) ?_ ?_ ⟨_, hp, rfl⟩ ?_ ?_
                      · omega
                      · omega
                      · all_goals repeat' (first | exact True.intro | refine And.intro ?_ ?_ | (intro _u; clear _u) | (with_reducible first | refine eM ?_ ?_ | refine eF ?_ ?_ ?_ | refine eN ?_ | refine eL ?_ ?_ ?_ | refine eA ?_ ?_ | refine IWk.mk ⟨_, hp, rfl⟩ ?_ ?_) | refine IWk.mk ⟨_, hp, rfl⟩ ?_ ?_)
                        all_goals first | with_reducible rfl | omega | exact Or.inl (by decide) | (simp; done) | rfl | skip
                      · all_goals repeat' (first | exact True.intro | refine And.intro ?_ ?_ | (intro _u; clear _u) | (with_reducible first | refine eM ?_ ?_ | refine eF ?_ ?_ ?_ | refine eN ?_ | refine eL ?_ ?_ ?_ | refine eA ?_ ?_ | refine IWk.mk ⟨_, hp, rfl⟩ ?_ ?_) | refine IWk.mk ⟨_, hp, rfl⟩ ?_ ?_)
                        all_goals first | with_reducible rfl | omega | exact Or.inl (by decide) | (simp; done) | rfl | skip
                        exact met_t hm
                    · repeat ((intro _u; clear _u); first | with_reducible first | refine cT ?_ | refine cF ?_ | refine cA ?_ | refine cB ?_ | refine aLn ?_ | refine cK ?_ | refine aS8 ?_ | refine wI ?_ | refine nD ?_ | refine aX rfl ?_ | refine vL rfl ?_)
                      intro _u; clear _u
                      refine nX (1) ?_ ?_ ⟨_, hp, rfl⟩ ?_ ?_
                      · omega
                      · omega
                      · all_goals repeat' (first | exact True.intro | refine And.intro ?_ ?_ | (intro _u; clear _u) | (with_reducible first | refine eM ?_ ?_ | refine eF ?_ ?_ ?_ | refine eN ?_ | refine eL ?_ ?_ ?_ | refine eA ?_ ?_ | refine IWk.mk ⟨_, hp, rfl⟩ ?_ ?_) | refine IWk.mk ⟨_, hp, rfl⟩ ?_ ?_)
                        all_goals first | with_reducible rfl | omega | exact Or.inl (by decide) | (simp; done) | rfl | skip
                      · all_goals repeat' (first | exact True.intro | refine And.intro ?_ ?_ | (intro _u; clear _u) | (with_reducible first | refine eM ?_ ?_ | refine eF ?_ ?_ ?_ | refine eN ?_ | refine eL ?_ ?_ ?_ | refine eA ?_ ?_ | refine IWk.mk ⟨_, hp, rfl⟩ ?_ ?_) | refine IWk.mk ⟨_, hp, rfl⟩ ?_ ?_)
                        all_goals first | with_reducible rfl | omega | exact Or.inl (by decide) | (simp; done) | rfl | skip
                        exact met_f hm
                  · repeat ((intro _u; clear _u); first | with_reducible first | refine cT ?_ | refine cF ?_ | refine cA ?_ | refine cB ?_ | refine aLn ?_ | refine cK ?_ | refine aS8 ?_ | refine wI ?_ | refine nD ?_ | refine aX rfl ?_ | refine vL rfl ?_)
                    intro _u; clear _u
                    refine acnd_t (by decide) ?_
                    repeat ((intro _u; clear _u); first | with_reducible first | refine cT ?_ | refine cF ?_ | refine cA ?_ | refine cB ?_ | refine aLn ?_ | refine cK ?_ | refine aS8 ?_ | refine wI ?_ | refine nD ?_ | refine aX rfl ?_ | refine vL rfl ?_)
                    intro _u; clear _u
                    refine cS (fun hm => ?_) (fun hm => ?_)
                    · repeat ((intro _u; clear _u); first | with_reducible first | refine cT ?_ | refine cF ?_ | refine cA ?_ | refine cB ?_ | refine aLn ?_ | refine cK ?_ | refine aS8 ?_ | refine wI ?_ | refine nD ?_ | refine aX rfl ?_ | refine vL rfl ?_)
                      intro _u; clear _u
                      refine nX (2) ?_ ?_ ⟨_, hp, rfl⟩ ?_ ?_
                      · omega
                      · omega
                      · all_goals repeat' (first | exact True.intro | refine And.intro ?_ ?_ | (intro _u; clear _u) | (with_reducible first | refine eM ?_ ?_ | refine eF ?_ ?_ ?_ | refine eN ?_ | refine eL ?_ ?_ ?_ | refine eA ?_ ?_ | refine IWk.mk ⟨_, hp, rfl⟩ ?_ ?_) | refine IWk.mk ⟨_, hp, rfl⟩ ?_ ?_)
                        all_goals first | with_reducible rfl | omega | exact Or.inl (by decide) | (simp; done) | rfl | skip
                      · all_goals repeat' (first | exact True.intro | refine And.intro ?_ ?_ | (intro _u; clear _u) | (with_reducible first | refine eM ?_ ?_ | refine eF ?_ ?_ ?_ | refine eN ?_ | refine eL ?_ ?_ ?_ | refine eA ?_ ?_ | refine IWk.mk ⟨_, hp, rfl⟩ ?_ ?_) | refine IWk.mk ⟨_, hp, rfl⟩ ?_ ?_)
                        all_goals first | with_reducible rfl | omega | exact Or.inl (by decide) | (simp; done) | rfl | skip
                        exact met_t hm
                    · repeat ((intro _u; clear _u); first | with_reducible first | refine cT ?_ | refine cF ?_ | refine cA ?_ | refine cB ?_ | refine aLn ?_ | refine cK ?_ | refine aS8 ?_ | refine wI ?_ | refine nD ?_ | refine aX rfl ?_ | refine vL rfl ?_)
                      intro _u; clear _u
                      refine nX (2) ?_ ?_ ⟨_, hp, rfl⟩ ?_ ?_
                      · omega
                      · omega
                      · all_goals repeat' (first | exact True.intro | refine And.intro ?_ ?_ | (intro _u; clear _u) | (with_reducible first | refine eM ?_ ?_ | refine eF ?_ ?_ ?_ | refine eN ?_ | refine eL ?_ ?_ ?_ | refine eA ?_ ?_ | refine IWk.mk ⟨_, hp, rfl⟩ ?_ ?_) | refine IWk.mk ⟨_, hp, rfl⟩ ?_ ?_)
                        all_goals first | with_reducible rfl | omega | exact Or.inl (by decide) | (simp; done) | rfl | skip
                      · all_goals repeat' (first | exact True.intro | refine And.intro ?_ ?_ | (intro _u; clear _u) | (with_reducible first | refine eM ?_ ?_ | refine eF ?_ ?_ ?_ | refine eN ?_ | refine eL ?_ ?_ ?_ | refine eA ?_ ?_ | refine IWk.mk ⟨_, hp, rfl⟩ ?_ ?_) | refine IWk.mk ⟨_, hp, rfl⟩ ?_ ?_)
                        all_goals first | with_reducible rfl | omega | exact Or.inl (by decide) | (simp; done) | rfl | skip
                        exact met_f hm
                  · repeat ((intro _u; clear _u); first | with_reducible first | refine cT ?_ | refine cF ?_ | refine cA ?_ | refine cB ?_ | refine aLn ?_ | refine cK ?_ | refine aS8 ?_ | refine wI ?_ | refine nD ?_ | refine aX rfl ?_ | refine vL rfl ?_)
                    intro _u; clear _u
                    refine acnd_t (by decide) ?_
                    repeat ((intro _u; clear _u); first | with_reducible first | refine cT ?_ | refine cF ?_ | refine cA ?_ | refine cB ?_ | refine aLn ?_ | refine cK ?_ | refine aS8 ?_ | refine wI ?_ | refine nD ?_ | refine aX rfl ?_ | refine vL rfl ?_)
                    intro _u; clear _u
                    refine cS (fun hm => ?_) (fun hm => ?_)
                    · repeat ((intro _u; clear _u); first | with_reducible first | refine cT ?_ | refine cF ?_ | refine cA ?_ | refine cB ?_ | refine aLn ?_ | refine cK ?_ | refine aS8 ?_ | refine wI ?_ | refine nD ?_ | refine aX rfl ?_ | refine vL rfl ?_)
                      intro _u; clear _u
                      refine nX (3) ?_ ?_ ⟨_, hp, rfl⟩ ?_ ?_
                      · omega
                      · omega
                      · all_goals repeat' (first | exact True.intro | refine And.intro ?_ ?_ | (intro _u; clear _u) | (with_reducible first | refine eM ?_ ?_ | refine eF ?_ ?_ ?_ | refine eN ?_ | refine eL ?_ ?_ ?_ | refine eA ?_ ?_ | refine IWk.mk ⟨_, hp, rfl⟩ ?_ ?_) | refine IWk.mk ⟨_, hp, rfl⟩ ?_ ?_)
                        all_goals first | with_reducible rfl | omega | exact Or.inl (by decide) | (simp; done) | rfl | skip
                      · all_goals repeat' (first | exact True.intro | refine And.intro ?_ ?_ | (intro _u; clear _u) | (with_reducible first | refine eM ?_ ?_ | refine eF ?_ ?_ ?_ | refine eN ?_ | refine eL ?_ ?_ ?_ | refine eA ?_ ?_ | refine IWk.mk ⟨_, hp, rfl⟩ ?_ ?_) | refine IWk.mk ⟨_, hp, rfl⟩ ?_ ?_)
                        all_goals first | with_reducible rfl | omega | exact Or.inl (by decide) | (simp; done) | rfl | skip
                        exact met_t hm
                    · repeat ((intro _u; clear _u); first | with_reducible first | refine cT ?_ | refine cF ?_ | refine cA ?_ | refine cB ?_ | refine aLn ?_ | refine cK ?_ | refine aS8 ?_ | refine wI ?_ | refine nD ?_ | refine aX rfl ?_ | refine vL rfl ?_)
                      intro _u; clear _u
                      refine nX (3) ?_ ?_ ⟨_, hp, rfl⟩ ?_ ?_
                      · omega
                      · omega
                      · all_goals repeat' (first | exact True.intro | refine And.intro ?_ ?_ | (intro _u; clear _u) | (with_reducible first | refine eM ?_ ?_ | refine eF ?_ ?_ ?_ | refine eN ?_ | refine eL ?_ ?_ ?_ | refine eA ?_ ?_ | refine IWk.mk ⟨_, hp, rfl⟩ ?_ ?_) | refine IWk.mk ⟨_, hp, rfl⟩ ?_ ?_)
                        all_goals first | with_reducible rfl | omega | exact Or.inl (by decide) | (simp; done) | rfl | skip
                      · all_goals repeat' (first | exact True.intro | refine And.intro ?_ ?_ | (intro _u; clear _u) | (with_reducible first | refine eM ?_ ?_ | refine eF ?_ ?_ ?_ | refine eN ?_ | refine eL ?_ ?_ ?_ | refine eA ?_ ?_ | refine IWk.mk ⟨_, hp, rfl⟩ ?_ ?_) | refine IWk.mk ⟨_, hp, rfl⟩ ?_ ?_)
                        all_goals first | with_reducible rfl | omega | exact Or.inl (by decide) | (simp; done) | rfl | skip
                        exact met_f hm
                  · repeat ((intro _u; clear _u); first | with_reducible first | refine cT ?_ | refine cF ?_ | refine cA ?_ | refine cB ?_ | refine aLn ?_ | refine cK ?_ | refine aS8 ?_ | refine wI ?_ | refine nD ?_ | refine aX rfl ?_ | refine vL rfl ?_)
                    intro _u; clear _u
                    refine acnd_t (by decide) ?_
                    repeat ((intro _u; clear _u); first | with_reducible first | refine cT ?_ | refine cF ?_ | refine cA ?_ | refine cB ?_ | refine aLn ?_ | refine cK ?_ | refine aS8 ?_ | refine wI ?_ | refine nD ?_ | refine aX rfl ?_ | refine vL rfl ?_)
                    intro _u; clear _u
                    refine cS (fun hm => ?_) (fun hm => ?_)
                    · repeat ((intro _u; clear _u); first | with_reducible first | refine cT ?_ | refine cF ?_ | refine cA ?_ | refine cB ?_ | refine aLn ?_ | refine cK ?_ | refine aS8 ?_ | refine wI ?_ | refine nD ?_ | refine aX rfl ?_ | refine vL rfl ?_)
                      intro _u; clear _u
                      refine nX (4) ?_ ?_ ⟨_, hp, rfl⟩ ?_ ?_
                      · omega
                      · omega
                      · all_goals repeat' (first | exact True.intro | refine And.intro ?_ ?_ | (intro _u; clear _u) | (with_reducible first | refine eM ?_ ?_ | refine eF ?_ ?_ ?_ | refine eN ?_ | refine eL ?_ ?_ ?_ | refine eA ?_ ?_ | refine IWk.mk ⟨_, hp, rfl⟩ ?_ ?_) | refine IWk.mk ⟨_, hp, rfl⟩ ?_ ?_)
                        all_goals first | with_reducible rfl | omega | exact Or.inl (by decide) | (simp; done) | rfl | skip
                      · all_goals repeat' (first | exact True.intro | refine And.intro ?_ ?_ | (intro _u; clear _u) | (with_reducible first | refine eM ?_ ?_ | refine eF ?_ ?_ ?_ | refine eN ?_ | refine eL ?_ ?_ ?_ | refine eA ?_ ?_ | refine IWk.mk ⟨_, hp, rfl⟩ ?_ ?_) | refine IWk.mk ⟨_, hp, rfl⟩ ?_ ?_)
                        all_goals first | with_reducible rfl | omega | exact Or.inl (by decide) | (simp; done) | rfl | skip
                        exact met_t hm
                    · repeat ((intro _u; clear _u); first | with_reducible first | refine cT ?_ | refine cF ?_ | refine cA ?_ | refine cB ?_ | refine aLn ?_ | refine cK ?_ | refine aS8 ?_ | refine wI ?_ | refine nD ?_ | refine aX rfl ?_ | refine vL rfl ?_)
                      intro _u; clear _u
                      refine nX (4) ?_ ?_ ⟨_, hp, rfl⟩ ?_ ?_
                      · omega
                      · omega
                      · all_goals repeat' (first | exact True.intro | refine And.intro ?_ ?_ | (intro _u; clear _u) | (with_reducible first | refine eM ?_ ?_ | refine eF ?_ ?_ ?_ | refine eN ?_ | refine eL ?_ ?_ ?_ | refine eA ?_ ?_ | refine IWk.mk ⟨_, hp, rfl⟩ ?_ ?_) | refine IWk.mk ⟨_, hp, rfl⟩ ?_ ?_)
                        all_goals first | with_reducible rfl | omega | exact Or.inl (by decide) | (simp; done) | rfl | skip
                      · all_goals repeat' (first | exact True.intro | refine And.intro ?_ ?_ | (intro _u; clear _u) | (with_reducible first | refine eM ?_ ?_ | refine eF ?_ ?_ ?_ | refine eN ?_ | refine eL ?_ ?_ ?_ | refine eA ?_ ?_ | refine IWk.mk ⟨_, hp, rfl⟩ ?_ ?_) | refine IWk.mk ⟨_, hp, rfl⟩ ?_ ?_)
                        all_goals first | with_reducible rfl | omega | exact Or.inl (by decide) | (simp; done) | rfl | skip
                        exact met_f hm
                  · repeat ((intro _u; clear _u); first | with_reducible first | refine cT ?_ | refine cF ?_ | refine cA ?_ | refine cB ?_ | refine aLn ?_ | refine cK ?_ | refine aS8 ?_ | refine wI ?_ | refine nD ?_ | refine aX rfl ?_ | refine vL rfl ?_)
                    intro _u; clear _u
                    refine acnd_t (by decide) ?_
                    repeat ((intro _u; clear _u); first | with_reducible first | refine cT ?_ | refine cF ?_ | refine cA ?_ | refine cB ?_ | refine aLn ?_ | refine cK ?_ | refine aS8 ?_ | refine wI ?_ | refine nD ?_ | refine aX rfl ?_ | refine vL rfl ?_)
                    intro _u; clear _u
                    refine cS (fun hm => ?_) (fun hm => ?_)
                    · repeat ((intro _u; clear _u); first | with_reducible first | refine cT ?_ | refine cF ?_ | refine cA ?_ | refine cB ?_ | refine aLn ?_ | refine cK ?_ | refine aS8 ?_ | refine wI ?_ | refine nD ?_ | refine aX rfl ?_ | refine vL rfl ?_)
                      intro _u; clear _u
                      refine nX (5) ?_ ?_ ⟨_, hp, rfl⟩ ?_ ?_
                      · omega
                      · omega
                      · all_goals repeat' (first | exact True.intro | refine And.intro ?_ ?_ | (intro _u; clear _u) | (with_reducible first | refine eM ?_ ?_ | refine eF ?_ ?_ ?_ | refine eN ?_ | refine eL ?_ ?_ ?_ | refine eA ?_ ?_ | refine IWk.mk ⟨_, hp, rfl⟩ ?_ ?_) | refine IWk.mk ⟨_, hp, rfl⟩ ?_ ?_)
                        all_goals first | with_reducible rfl | omega | exact Or.inl (by decide) | (simp; done) | rfl | skip
                      · all_goals repeat' (first | exact True.intro | refine And.intro ?_ ?_ | (intro _u; clear _u) | (with_reducible first | refine eM ?_ ?_ | refine eF ?_ ?_ ?_ | refine eN ?_ | refine eL ?_ ?_ ?_ | refine eA ?_ ?_ | refine IWk.mk ⟨_, hp, rfl⟩ ?_ ?_) | refine IWk.mk ⟨_, hp, rfl⟩ ?_ ?_)
                        all_goals first | with_reducible rfl | omega | exact Or.inl (by decide) | (simp; done) | rfl | skip
                        exact met_t hm
                    · repeat ((intro _u; clear _u); first | with_reducible first | refine cT ?_ | refine cF ?_ | refine cA ?_ | refine cB ?_ | refine aLn ?_ | refine cK ?_ | refine aS8 ?_ | refine wI ?_ | refine nD ?_ | refine aX rfl ?_ | refine vL rfl ?_)
                      intro _u; clear _u
                      refine nX (5) ?_ ?_ ⟨_, hp, rfl⟩ ?_ ?_
                      · omega
                      · omega
                      · all_goals repeat' (first | exact True.intro | refine And.intro ?_ ?_ | (intro _u; clear _u) | (with_reducible first | refine eM ?_ ?_ | refine eF ?_ ?_ ?_ | refine eN ?_ | refine eL ?_ ?_ ?_ | refine eA ?_ ?_ | refine IWk.mk ⟨_, hp, rfl⟩ ?_ ?_) | refine IWk.mk ⟨_, hp, rfl⟩ ?_ ?_)
                        all_goals first | with_reducible rfl | omega | exact Or.inl (by decide) | (simp; done) | rfl | skip
                      · all_goals repeat' (first | exact True.intro | refine And.intro ?_ ?_ | (intro _u; clear _u) | (with_reducible first | refine eM ?_ ?_ | refine eF ?_ ?_ ?_ | refine eN ?_ | refine eL ?_ ?_ ?_ | refine eA ?_ ?_ | refine IWk.mk ⟨_, hp, rfl⟩ ?_ ?_) | refine IWk.mk ⟨_, hp, rfl⟩ ?_ ?_)
                        all_goals first | with_reducible rfl | omega | exact Or.inl (by decide) | (simp; done) | rfl | skip
                        exact met_f hm
                  · repeat ((intro _u; clear _u); first | with_reducible first | refine cT ?_ | refine cF ?_ | refine cA ?_ | refine cB ?_ | refine aLn ?_ | refine cK ?_ | refine aS8 ?_ | refine wI ?_ | refine nD ?_ | refine aX rfl ?_ | refine vL rfl ?_)
                    intro _u; clear _u
                    refine acnd_t (by decide) ?_
                    repeat ((intro _u; clear _u); first | with_reducible first | refine cT ?_ | refine cF ?_ | refine cA ?_ | refine cB ?_ | refine aLn ?_ | refine cK ?_ | refine aS8 ?_ | refine wI ?_ | refine nD ?_ | refine aX rfl ?_ | refine vL rfl ?_)
                    intro _u; clear _u
                    refine cS (fun hm => ?_) (fun hm => ?_)
                    · repeat ((intro _u; clear _u); first | with_reducible first | refine cT ?_ | refine cF ?_ | refine cA ?_ | refine cB ?_ | refine aLn ?_ | refine cK ?_ | refine aS8 ?_ | refine wI ?_ | refine nD ?_ | refine aX rfl ?_ | refine vL rfl ?_)
                      intro _u; clear _u
                      refine nX (6) ?_ ?_ ⟨_, hp, rfl⟩ ?_ ?_
                      · omega
                      · omega
                      · all_goals repeat' (first | exact True.intro | refine And.intro ?_ ?_ | (intro _u; clear _u) | (with_reducible first | refine eM ?_ ?_ | refine eF ?_ ?_ ?_ | refine eN ?_ | refine eL ?_ ?_ ?_ | refine eA ?_ ?_ | refine IWk.mk ⟨_, hp, rfl⟩ ?_ ?_) | refine IWk.mk ⟨_, hp, rfl⟩ ?_ ?_)
                        all_goals first | with_reducible rfl | omega | exact Or.inl (by decide) | (simp; done) | rfl | skip
                      · all_goals repeat' (first | exact True.intro | refine And.intro ?_ ?_ | (intro _u; clear _u) | (with_reducible first | refine eM ?_ ?_ | refine eF ?_ ?_ ?_ | refine eN ?_ | refine eL ?_ ?_ ?_ | refine eA ?_ ?_ | refine IWk.mk ⟨_, hp, rfl⟩ ?_ ?_) | refine IWk.mk ⟨_, hp, rfl⟩ ?_ ?_)
                        all_goals first | with_reducible rfl | omega | exact Or.inl (by decide) | (simp; done) | rfl | skip
                        exact met_t hm
                    · repeat ((intro _u; clear _u); first | with_reducible first | refine cT ?_ | refine cF ?_ | refine cA ?_ | refine cB ?_ | refine aLn ?_ | refine cK ?_ | refine aS8 ?_ | refine wI ?_ | refine nD ?_ | refine aX rfl ?_ | refine vL rfl ?_)
                      intro _u; clear _u
                      refine nX (6) ?_ ?_ ⟨_, hp, rfl⟩ ?_ ?_
                      · omega
                      · omega
                      · all_goals repeat' (first | exact True.intro | refine And.intro ?_ ?_ | (intro _u; clear _u) | (with_reducible first | refine eM ?_ ?_ | refine eF ?_ ?_ ?_ | refine eN ?_ | refine eL ?_ ?_ ?_ | refine eA ?_ ?_ | refine IWk.mk ⟨_, hp, rfl⟩ ?_ ?_) | refine IWk.mk ⟨_, hp, rfl⟩ ?_ ?_)
                        all_goals first | with_reducible rfl | omega | exact Or.inl (by decide) | (simp; done) | rfl | skip
                      · all_goals repeat' (first | exact True.intro | refine And.intro ?_ ?_ | (intro _u; clear _u) | (with_reducible first | refine eM ?_ ?_ | refine eF ?_ ?_ ?_ | refine eN ?_ | refine eL ?_ ?_ ?_ | refine eA ?_ ?_ | refine IWk.mk ⟨_, hp, rfl⟩ ?_ ?_) | refine IWk.mk ⟨_, hp, rfl⟩ ?_ ?_)
                        all_goals first | with_reducible rfl | omega | exact Or.inl (by decide) | (simp; done) | rfl | skip
                        exact met_f hm
            · obtain rfl | rfl | rfl | rfl | rfl | rfl : j = 0 ∨ j = 1 ∨ j = 2 ∨ j = 3 ∨ j = 4 ∨ j = 5 := by omega
              · repeat ((intro _u; clear _u); first | with_reducible first | refine cT ?_ | refine cF ?_ | refine cA ?_ | refine cB ?_ | refine aLn ?_ | refine cK ?_ | refine aS8 ?_ | refine wI ?_ | refine nD ?_ | refine aX rfl ?_ | refine vL rfl ?_)
                intro _u; clear _u
                refine acnd_t (by decide) ?_
                repeat ((intro _u; clear _u); first | with_reducible first | refine cT ?_ | refine cF ?_ | refine cA ?_ | refine cB ?_ | refine aLn ?_ | refine cK ?_ | refine aS8 ?_ | refine wI ?_ | refine nD ?_ | refine aX rfl ?_ | refine vL rfl ?_)
                intro _u; clear _u
                refine cS (fun hm => ?_) (fun hm => ?_)
                · repeat ((intro _u; clear _u); first | with_reducible first | refine cT ?_ | refine cF ?_ | refine cA ?_ | refine cB ?_ | refine aLn ?_ | refine cK ?_ | refine aS8 ?_ | refine wI ?_ | refine nD ?_ | refine aX rfl ?_ | refine vL rfl ?_)
                  intro _u; clear _u
                  refine nX (1) ?_ ?_ ⟨_, hp, rfl⟩ ?_ ?_
                  · omega
                  · omega
                  · all_goals repeat' (first | exact True.intro | refine And.intro ?_ ?_ | (intro _u; clear _u) | (with_reducible first | refine eM ?_ ?_ | refine eF ?_ ?_ ?_ | refine eN ?_ | refine eL ?_ ?_ ?_ | refine eA ?_ ?_ | refine IWk.mk ⟨_, hp, rfl⟩ ?_ ?_) | refine IWk.mk ⟨_, hp, rfl⟩ ?_ ?_)
                    all_goals first | with_reducible rfl | omega | exact Or.inl (by decide) | (simp; done) | rfl | skip
                  · all_goals repeat' (first | exact True.intro | refine And.intro ?_ ?_ | (intro _u; clear _u) | (with_reducible first | refine eM ?_ ?_ | refine eF ?_ ?_ ?_ | refine eN ?_ | refine eL ?_ ?_ ?_ | refine eA ?_ ?_ | refine IWk.mk ⟨_, hp, rfl⟩ ?_ ?_) | refine IWk.mk ⟨_, hp, rfl⟩ ?_ ?_)
                    all_goals first | with_reducible rfl | omega | exact Or.inl (by decide) | (simp; done) | rfl | skip
                    exact met_t hm
                · repeat ((intro _u; clear _u); first | with_reducible first | refine cT ?_ | refine cF ?_ | refine cA ?_ | refine cB ?_ | refine aLn ?_ | refine cK ?_ | refine aS8 ?_ | refine wI ?_ | refine nD ?_ | refine aX rfl ?_ | refine vL rfl ?_)
                  intro _u; clear _u
                  refine nX (1) ?_ ?_ ⟨_, hp, rfl⟩ ?_ ?_
                  · omega
                  · omega
                  · all_goals repeat' (first | exact True.intro | refine And.intro ?_ ?_ | (intro _u; clear _u) | (with_reducible first | refine eM ?_ ?_ | refine eF ?_ ?_ ?_ | refine eN ?_ | refine eL ?_ ?_ ?_ | refine eA ?_ ?_ | refine IWk.mk ⟨_, hp, rfl⟩ ?_ ?_) | refine IWk.mk ⟨_, hp, rfl⟩ ?_ ?_)
                    all_goals first | with_reducible rfl | omega | exact Or.inl (by decide) | (simp; done) | rfl | skip
                  · all_goals repeat' (first | exact True.intro | refine And.intro ?_ ?_ | (intro _u; clear _u) | (with_reducible first | refine eM ?_ ?_ | refine eF ?_ ?_ ?_ | refine eN ?_ | refine eL ?_ ?_ ?_ | refine eA ?_ ?_ | refine IWk.mk ⟨_, hp, rfl⟩ ?_ ?_) | refine IWk.mk ⟨_, hp, rfl⟩ ?_ ?_)
                    all_goals first | with_reducible rfl | omega | exact Or.inl (by decide) | (simp; done) | rfl | skip
                    exact met_f hm
              · repeat ((intro _u; clear _u); first | with_reducible first | refine cT ?_ | refine cF ?_ | refine cA ?_ | refine cB ?_ | refine aLn ?_ | refine cK ?_ | refine aS8 ?_ | refine wI ?_ | refine nD ?_ | refine aX rfl ?_ | refine vL rfl ?_)
                intro _u; clear _u
                refine acnd_t (by decide) ?_
                repeat ((intro _u; clear _u); first | with_reducible first | refine cT ?_ | refine cF ?_ | refine cA ?_ | refine cB ?_ | refine aLn ?_ | refine cK ?_ | refine aS8 ?_ | refine wI ?_ | refine nD ?_ | refine aX rfl ?_ | refine vL rfl ?_)
                intro _u; clear _u
                refine cS (fun hm => ?_) (fun hm => ?_)
                · repeat ((intro _u; clear _u); first | with_reducible first | refine cT ?_ | refine cF ?_ | refine cA ?_ | refine cB ?_ | refine aLn ?_ | refine cK ?_ | refine aS8 ?_ | refine wI ?_ | refine nD ?_ | refine aX rfl ?_ | refine vL rfl ?_)
                  intro _u; clear _u
                  refine nX (2) ?_ ?_ ⟨_, hp, rfl⟩ ?_ ?_
                  · omega
                  · omega
                  · all_goals repeat' (first | exact True.intro | refine And.intro ?_ ?_ | (intro _u; clear _u) | (with_reducible first | refine eM ?_ ?_ | refine eF ?_ ?_ ?_ | refine eN ?_ | refine eL ?_ ?_ ?_ | refine eA ?_ ?_ | refine IWk.mk ⟨_, hp, rfl⟩ ?_ ?_) | refine IWk.mk ⟨_, hp, rfl⟩ ?_ ?_)
                    all_goals first | with_reducible rfl | omega | exact Or.inl (by decide) | (simp; done) | rfl | skip
                  · all_goals repeat' (first | exact True.intro | refine And.intro ?_ ?_ | (intro _u; clear _u) | (with_reducible first | refine eM ?_ ?_ | refine eF ?_ ?_ ?_ | refine eN ?_ | refine eL ?_ ?_ ?_ | refine eA ?_ ?_ | refine IWk.mk ⟨_, hp, rfl⟩ ?_ ?_) | refine IWk.mk ⟨_, hp, rfl⟩ ?_ ?_)
                    all_goals first | with_reducible rfl | omega | exact Or.inl (by decide) | (simp; done) | rfl | skip
                    exact met_t hm
                · repeat ((intro _u; clear _u); first | with_reducible first | refine cT ?_ | refine cF ?_ | refine cA ?_ | refine cB ?_ | refine aLn ?_ | refine cK ?_ | refine aS8 ?_ | refine wI ?_ | refine nD ?_ | refine aX rfl ?_ | refine vL rfl ?_)
                  intro _u; clear _u
                  refine nX (2) ?_ ?_ ⟨_, hp, rfl⟩ ?_ ?_
                  · omega
                  · omega
                  · all_goals repeat' (first | exact True.intro | refine And.intro ?_ ?_ | (intro _u; clear _u) | (with_reducible first | refine eM ?_ ?_ | refine eF ?_ ?_ ?_ | refine eN ?_ | refine eL ?_ ?_ ?_ | refine eA ?_ ?_ | refine IWk.mk ⟨_, hp, rfl⟩ ?_ ?_) | refine IWk.mk ⟨_, hp, rfl⟩ ?_ ?_)
                    all_goals first | with_reducible rfl | omega | exact Or.inl (by decide) | (simp; done) | rfl | skip
                  · all_goals repeat' (first | exact True.intro | refine And.intro ?_ ?_ | (intro _u; clear _u) | (with_reducible first | refine eM ?_ ?_ | refine eF ?_ ?_ ?_ | refine eN ?_ | refine eL ?_ ?_ ?_ | refine eA ?_ ?_ | refine IWk.mk ⟨_, hp, rfl⟩ ?_ ?_) | refine IWk.mk ⟨_, hp, rfl⟩ ?_ ?_)
                    all_goals first | with_reducible rfl | omega | exact Or.inl (by decide) | (simp; done) | rfl | skip
                    exact met_f hm
              · repeat ((intro _u; clear _u); first | with_reducible first | refine cT ?_ | refine cF ?_ | refine cA ?_ | refine cB ?_ | refine aLn ?_ | refine cK ?_ | refine aS8 ?_ | refine wI ?_ | refine nD ?_ | refine aX rfl ?_ | refine vL rfl ?_)
                intro _u; clear _u
                refine acnd_t (by decide) ?_
                repeat ((intro _u; clear _u); first | with_reducible first | refine cT ?_ | refine cF ?_ | refine cA ?_ | refine cB ?_ | refine aLn ?_ | refine cK ?_ | refine aS8 ?_ | refine wI ?_ | refine nD ?_ | refine aX rfl ?_ | refine vL rfl ?_)
                intro _u; clear _u
                refine cS (fun hm => ?_) (fun hm => ?_)
                · repeat ((intro _u; clear _u); first | with_reducible first | refine cT ?_ | refine cF ?_ | refine cA ?_ | refine cB ?_ | refine aLn ?_ | refine cK ?_ | refine aS8 ?_ | refine wI ?_ | refine nD ?_ | refine aX rfl ?_ | refine vL rfl ?_)
                  intro _u; clear _u
                  refine nX (3) ?_ ?_ ⟨_, hp, rfl⟩ ?_ ?_
                  · omega
                  · omega
                  · all_goals repeat' (first | exact True.intro | refine And.intro ?_ ?_ | (intro _u; clear _u) | (with_reducible first | refine eM ?_ ?_ | refine eF ?_ ?_ ?_ | refine eN ?_ | refine eL ?_ ?_ ?_ | refine eA ?_ ?_ | refine IWk.mk ⟨_, hp, rfl⟩ ?_ ?_) | refine IWk.mk ⟨_, hp, rfl⟩ ?_ ?_)
                    all_goals first | with_reducible rfl | omega | exact Or.inl (by decide) | (simp; done) | rfl | skip
                  · all_goals repeat' (first | exact True.intro | refine And.intro ?_ ?_ | (intro _u; clear _u) | (with_reducible first | refine eM ?_ ?_ | refine eF ?_ ?_ ?_ | refine eN ?_ | refine eL ?_ ?_ ?_ | refine eA ?_ ?_ | refine IWk.mk ⟨_, hp, rfl⟩ ?_ ?_) | refine IWk.mk ⟨_, hp, rfl⟩ ?_ ?_)
                    all_goals first | with_reducible rfl | omega | exact Or.inl (by decide) | (simp; done) | rfl | skip
                    exact met_t hm
                · repeat ((intro _u; clear _u); first | with_reducible first | refine cT ?_ | refine cF ?_ | refine cA ?_ | refine cB ?_ | refine aLn ?_ | refine cK ?_ | refine aS8 ?_ | refine wI ?_ | refine nD ?_ | refine aX rfl ?_ | refine vL rfl ?_)
                  intro _u; clear _u
                  refine nX (3) ?_ ?_ ⟨_, hp, rfl⟩ ?_ ?_
                  · omega
                  · omega
                  · all_goals repeat' (first | exact True.intro | refine And.intro ?_ ?_ | (intro _u; clear _u) | (with_reducible first | refine eM ?_ ?_ | refine eF ?_ ?_ ?_ | refine eN ?_ | refine eL ?_ ?_ ?_ | refine eA ?_ ?_ | refine IWk.mk ⟨_, hp, rfl⟩ ?_ ?_) | refine IWk.mk ⟨_, hp, rfl⟩ ?_ ?_)
                    all_goals first | with_reducible rfl | omega | exact Or.inl (by decide) | (simp; done) | rfl | skip
                  · all_goals repeat' (first | exact True.intro | refine And.intro ?_ ?_ | (intro _u; clear _u) | (with_reducible first | refine eM ?_ ?_ | refine eF ?_ ?_ ?_ | refine eN ?_ | refine eL ?_ ?_ ?_ | refine eA ?_ ?_ | refine IWk.mk ⟨_, hp, rfl⟩ ?_ ?_) | refine IWk.mk ⟨_, hp, rfl⟩ ?_ ?_)
                    all_goals first | with_reducible rfl | omega | exact Or.inl (by decide) | (simp; done) | rfl | skip
                    exact met_f hm
              · repeat ((intro _u; clear _u); first | with_reducible first | refine cT ?_ | refine cF ?_ | refine cA ?_ | refine cB ?_ | refine aLn ?_ | refine cK ?_ | refine aS8 ?_ | refine wI ?_ | refine nD ?_ | refine aX rfl ?_ | refine vL rfl ?_)
                intro _u; clear _u
                refine acnd_t (by decide) ?_
                repeat ((intro _u; clear _u); first | with_reducible first | refine cT ?_ | refine cF ?_ | refine cA ?_ | refine cB ?_ | refine aLn ?_ | refine cK ?_ | refine aS8 ?_ | refine wI ?_ | refine nD ?_ | refine aX rfl ?_ | refine vL rfl ?_)
                intro _u; clear _u
                refine cS (fun hm => ?_) (fun hm => ?_)
                · repeat ((intro _u; clear _u); first | with_reducible first | refine cT ?_ | refine cF ?_ | refine cA ?_ | refine cB ?_ | refine aLn ?_ | refine cK ?_ | refine aS8 ?_ | refine wI ?_ | refine nD ?_ | refine aX rfl ?_ | refine vL rfl ?_)
                  intro _u; clear _u
                  refine nX (4) ?_ ?_ ⟨_, hp, rfl⟩ ?_ ?_
                  · omega
                  · omega
                  · all_goals repeat' (first | exact True.intro | refine And.intro ?_ ?_ | (intro _u; clear _u) | (with_reducible first | refine eM ?_ ?_ | refine eF ?_ ?_ ?_ | refine eN ?_ | refine eL ?_ ?_ ?_ | refine eA ?_ ?_ | refine IWk.mk ⟨_, hp, rfl⟩ ?_ ?_) | refine IWk.mk ⟨_, hp, rfl⟩ ?_ ?_)
                    all_goals first | with_reducible rfl | omega | exact Or.inl (by decide) | (simp; done) | rfl | skip
                  · all_goals repeat' (first | exact True.intro | refine And.intro ?_ ?_ | (intro _u; clear _u) | (with_reducible first | refine eM ?_ ?_ | refine eF ?_ ?_ ?_ | refine eN ?_ | refine eL ?_ ?_ ?_ | refine eA ?_ ?_ | refine IWk.mk ⟨_, hp, rfl⟩ ?_ ?_) | refine IWk.mk ⟨_, hp, rfl⟩ ?_ ?_)
                    all_goals first | with_reducible rfl | omega | exact Or.inl (by decide) | (simp; done) | rfl | skip
                    exact met_t hm
                · repeat ((intro _u; clear _u); first | with_reducible first | refine cT ?_ | refine cF ?_ | refine cA ?_ | refine cB ?_ | refine aLn ?_ | refine cK ?_ | refine aS8 ?_ | refine wI ?_ | refine nD ?_ | refine aX rfl ?_ | refine vL rfl ?_)
                  intro _u; clear _u
                  refine nX (4) ?_ ?_ ⟨_, hp, rfl⟩ ?_ ?_
                  · omega
                  · omega
                  · all_goals repeat' (first | exact True.intro | refine And.intro ?_ ?_ | (intro _u; clear _u) | (with_reducible first | refine eM ?_ ?_ | refine eF ?_ ?_ ?_ | refine eN ?_ | refine eL ?_ ?_ ?_ | refine eA ?_ ?_ | refine IWk.mk ⟨_, hp, rfl⟩ ?_ ?_) | refine IWk.mk ⟨_, hp, rfl⟩ ?_ ?_)
                    all_goals first | with_reducible rfl | omega | exact Or.inl (by decide) | (simp; done) | rfl | skip
                  · all_goals repeat' (first | exact True.intro | refine And.intro ?_ ?_ | (intro _u; clear _u) | (with_reducible first | refine eM ?_ ?_ | refine eF ?_ ?_ ?_ | refine eN ?_ | refine eL ?_ ?_ ?_ | refine eA ?_ ?_ | refine IWk.mk ⟨_, hp, rfl⟩ ?_ ?_) | refine IWk.mk ⟨_, hp, rfl⟩ ?_ ?_)
                    all_goals first | with_reducible rfl | omega | exact Or.inl (by decide) | (simp; done) | rfl | skip
                    exact met_f hm
              · repeat ((intro _u; clear _u); first | with_reducible first | refine cT ?_ | refine cF ?_ | refine cA ?_ | refine cB ?_ | refine aLn ?_ | refine cK ?_ | refine aS8 ?_ | refine wI ?_ | refine nD ?_ | refine aX rfl ?_ | refine vL rfl ?_)
                intro _u; clear _u
                refine acnd_t (by decide) ?_
                repeat ((intro _u; clear _u); first | with_reducible first | refine cT ?_ | refine cF ?_ | refine cA ?_ | refine cB ?_ | refine aLn ?_ | refine cK ?_ | refine aS8 ?_ | refine wI ?_ | refine nD ?_ | refine aX rfl ?_ | refine vL rfl ?_)
                intro _u; clear _u
                refine cS (fun hm => ?_) (fun hm => ?_)
                · repeat ((intro _u; clear _u); first | with_reducible first | refine cT ?_ | refine cF ?_ | refine cA ?_ | refine cB ?_ | refine aLn ?_ | refine cK ?_ | refine aS8 ?_ | refine wI ?_ | refine nD ?_ | refine aX rfl ?_ | refine vL rfl ?_)
                  intro _u; clear _u
                  refine nX (5) ?_ ?_ ⟨_, hp, rfl⟩ ?_ ?_
                  · omega
                  · omega
                  · all_goals repeat' (first | exact True.intro | refine And.intro ?_ ?_ | (intro _u; clear _u) | (with_reducible first | refine eM ?_ ?_ | refine eF ?_ ?_ ?_ | refine eN ?_ | refine eL ?_ ?_ ?_ | refine eA ?_ ?_ | refine IWk.mk ⟨_, hp, rfl⟩ ?_ ?_) | refine IWk.mk ⟨_, hp, rfl⟩ ?_ ?_)
                    all_goals first | with_reducible rfl | omega | exact Or.inl (by decide) | (simp; done) | rfl | skip
                  · all_goals repeat' (first | exact True.intro | refine And.intro ?_ ?_ | (intro _u; clear _u) | (with_reducible first | refine eM ?_ ?_ | refine eF ?_ ?_ ?_ | refine eN ?_ | refine eL ?_ ?_ ?_ | refine eA ?_ ?_ | refine IWk.mk ⟨_, hp, rfl⟩ ?_ ?_) | refine IWk.mk ⟨_, hp, rfl⟩ ?_ ?_)
                    all_goals first | with_reducible rfl | omega | exact Or.inl (by decide) | (simp; done) | rfl | skip
                    exact met_t hm
                · repeat ((intro _u; clear _u); first | with_reducible first | refine cT ?_ | refine cF ?_ | refine cA ?_ | refine cB ?_ | refine aLn ?_ | refine cK ?_ | refine aS8 ?_ | refine wI ?_ | refine nD ?_ | refine aX rfl ?_ | refine vL rfl ?_)
                  intro _u; clear _u
                  refine nX (5) ?_ ?_ ⟨_, hp, rfl⟩ ?_ ?_
                  · omega
                  · omega
                  · all_goals repeat' (first | exact True.intro | refine And.intro ?_ ?_ | (intro _u; clear _u) | (with_reducible first | refine eM ?_ ?_ | refine eF ?_ ?_ ?_ | refine eN ?_ | refine eL ?_ ?_ ?_ | refine eA ?_ ?_ | refine IWk.mk ⟨_, hp, rfl⟩ ?_ ?_) | refine IWk.mk ⟨_, hp, rfl⟩ ?_ ?_)
                    all_goals first | with_reducible rfl | omega | exact Or.inl (by decide) | (simp; done) | rfl | skip
                  · all_goals repeat' (first | exact True.intro | refine And.intro ?_ ?_ | (intro _u; clear _u) | (with_reducible first | refine eM ?_ ?_ | refine eF ?_ ?_ ?_ | refine eN ?_ | refine eL ?_ ?_ ?_ | refine eA ?_ ?_ | refine IWk.mk ⟨_, hp, rfl⟩ ?_ ?_) | refine IWk.mk ⟨_, hp, rfl⟩ ?_ ?_)
                    all_goals first | with_reducible rfl | omega | exact Or.inl (by decide) | (simp; done) | rfl | skip
                    exact met_f hm
              · repeat ((intro _u; clear _u); first | with_reducible first | refine cT ?_ | refine cF ?_ | refine cA ?_ | refine cB ?_ | refine aLn ?_ | refine cK ?_ | refine aS8 ?_ | refine wI ?_ | refine nD ?_ | refine aX rfl ?_ | refine vL rfl ?_)
                intro _u; clear _u
                refine acnd_t (by decide) ?_
                repeat ((intro _u; clear _u); first | with_reducible first | refine cT ?_ | refine cF ?_ | refine cA ?_ | refine cB ?_ | refine aLn ?_ | refine cK ?_ | refine aS8 ?_ | refine wI ?_ | refine nD ?_ | refine aX rfl ?_ | refine vL rfl ?_)
                intro _u; clear _u
                refine cS (fun hm => ?_) (fun hm => ?_)
                · repeat ((intro _u; clear _u); first | with_reducible first | refine cT ?_ | refine cF ?_ | refine cA ?_ | refine cB ?_ | refine aLn ?_ | refine cK ?_ | refine aS8 ?_ | refine wI ?_ | refine nD ?_ | refine aX rfl ?_ | refine vL rfl ?_)
                  intro _u; clear _u
                  refine nX (6) ?_ ?_ ⟨_, hp, rfl⟩ ?_ ?_
                  · omega
                  · omega
                  · all_goals repeat' (first | exact True.intro | refine And.intro ?_ ?_ | (intro _u; clear _u) | (with_reducible first | refine eM ?_ ?_ | refine eF ?_ ?_ ?_ | refine eN ?_ | refine eL ?_ ?_ ?_ | refine eA ?_ ?_ | refine IWk.mk ⟨_, hp, rfl⟩ ?_ ?_) | refine IWk.mk ⟨_, hp, rfl⟩ ?_ ?_)
                    all_goals first | with_reducible rfl | omega | exact Or.inl (by decide) | (simp; done) | rfl | skip
                  · all_goals repeat' (first | exact True.intro | refine And.intro ?_ ?_ | (intro _u; clear _u) | (with_reducible first | refine eM ?_ ?_ | refine eF ?_ ?_ ?_ | refine eN ?_ | refine eL ?_ ?_ ?_ | refine eA ?_ ?_ | refine IWk.mk ⟨_, hp, rfl⟩ ?_ ?_) | refine IWk.mk ⟨_, hp, rfl⟩ ?_ ?_)
                    all_goals first | with_reducible rfl | omega | exact Or.inl (by decide) | (simp; done) | rfl | skip
                    exact met_t hm
                · repeat ((intro _u; clear _u); first | with_reducible first | refine cT ?_ | refine cF ?_ | refine cA ?_ | refine cB ?_ | refine aLn ?_ | refine cK ?_ | refine aS8 ?_ | refine wI ?_ | refine nD ?_ | refine aX rfl ?_ | refine vL rfl ?_)
                  intro _u; clear _u
                  refine nX (6) ?_ ?_ ⟨_, hp, rfl⟩ ?_ ?_
                  · omega
                  · omega
                  · all_goals repeat' (first | exact True.intro | refine And.intro ?_ ?_ | (intro _u; clear _u) | (with_reducible first | refine eM ?_ ?_ | refine eF ?_ ?_ ?_ | refine eN ?_ | refine eL ?_ ?_ ?_ | refine eA ?_ ?_ | refine IWk.mk ⟨_, hp, rfl⟩ ?_ ?_) | refine IWk.mk ⟨_, hp, rfl⟩ ?_ ?_)
                    all_goals first | with_reducible rfl | omega | exact Or.inl (by decide) | (simp; done) | rfl | skip
                  · all_goals repeat' (first | exact True.intro | refine And.intro ?_ ?_ | (intro _u; clear _u) | (with_reducible first | refine eM ?_ ?_ | refine eF ?_ ?_ ?_ | refine eN ?_ | refine eL ?_ ?_ ?_ | refine eA ?_ ?_ | refine IWk.mk ⟨_, hp, rfl⟩ ?_ ?_) | refine IWk.mk ⟨_, hp, rfl⟩ ?_ ?_)
                    all_goals first | with_reducible rfl | omega | exact Or.inl (by decide) | (simp; done) | rfl | skip
                    exact met_f hm
        · have hk2 : k = m.t.length := by omega
          subst hk2
          rw [Ms.mets_all mt.1]
          repeat ((intro _u; clear _u); first | with_reducible first | refine cT ?_ | refine cF ?_ | refine cA ?_ | refine cB ?_ | refine aLn ?_ | refine cK ?_ | refine aS8 ?_ | refine wI ?_ | refine nD ?_ | refine aX rfl ?_ | refine vL rfl ?_)
          intro _u; clear _u
          refine acnd_t (by rfl) ?_
          repeat ((intro _u; clear _u); first | with_reducible first | refine cT ?_ | refine cF ?_ | refine cA ?_ | refine cB ?_ | refine aLn ?_ | refine cK ?_ | refine aS8 ?_ | refine wI ?_ | refine nD ?_ | refine aX rfl ?_ | refine vL rfl ?_)
          intro _u; clear _u
          refine ICall.pure h.n194.o194.hb (works13_c h.n194) rfl ?_
          repeat ((intro _u; clear _u); first | with_reducible first | refine cT ?_ | refine cF ?_ | refine cA ?_ | refine cB ?_ | refine aLn ?_ | refine cK ?_ | refine aS8 ?_ | refine wI ?_ | refine nD ?_ | refine aX rfl ?_ | refine vL rfl ?_)
          intro _u; clear _u
          exact rT
    · rw [bx, if_pos hc] at c1
      repeat ((intro _u; clear _u); first | with_reducible first | refine cT ?_ | refine cF ?_ | refine cA ?_ | refine cB ?_ | refine aLn ?_ | refine cK ?_ | refine aS8 ?_ | refine wI ?_ | refine nD ?_ | refine aX rfl ?_ | refine vL rfl ?_)
      intro _u; clear _u
      refine ICall.pure h.n192.o192.hb c1 rfl ?_
      repeat ((intro _u; clear _u); first | with_reducible first | refine cT ?_ | refine cF ?_ | refine cA ?_ | refine cB ?_ | refine aLn ?_ | refine cK ?_ | refine aS8 ?_ | refine wI ?_ | refine nD ?_ | refine aX rfl ?_ | refine vL rfl ?_)
      intro _u; clear _u
      refine acnd_t (by simpa using hc) ?_
      repeat ((intro _u; clear _u); first | with_reducible first | refine cT ?_ | refine cF ?_ | refine cA ?_ | refine cB ?_ | refine aLn ?_ | refine cK ?_ | refine aS8 ?_ | refine wI ?_ | refine nD ?_ | refine aX rfl ?_ | refine vL rfl ?_)
      intro _u; clear _u
      refine ICall.pure h.n193.o193.hb (mcheck_c h.n193 m) rfl ?_
      repeat ((intro _u; clear _u); first | with_reducible first | refine cT ?_ | refine cF ?_ | refine cA ?_ | refine cB ?_ | refine aLn ?_ | refine cK ?_ | refine aS8 ?_ | refine wI ?_ | refine nD ?_ | refine aX rfl ?_ | refine vL rfl ?_)
      intro _u; clear _u
      refine acnd_t (by simp) ?_
      repeat ((intro _u; clear _u); first | with_reducible first | refine cT ?_ | refine cF ?_ | refine cA ?_ | refine cB ?_ | refine aLn ?_ | refine cK ?_ | refine aS8 ?_ | refine wI ?_ | refine nD ?_ | refine aX rfl ?_ | refine vL rfl ?_)
      intro _u; clear _u
      refine acnd_t (by rfl) ?_
      repeat ((intro _u; clear _u); first | with_reducible first | refine cT ?_ | refine cF ?_ | refine cA ?_ | refine cB ?_ | refine aLn ?_ | refine cK ?_ | refine aS8 ?_ | refine wI ?_ | refine nD ?_ | refine aX rfl ?_ | refine vL rfl ?_)
      intro _u; clear _u
      refine acnd_t (by rfl) ?_
      repeat ((intro _u; clear _u); first | with_reducible first | refine cT ?_ | refine cF ?_ | refine cA ?_ | refine cB ?_ | refine aLn ?_ | refine cK ?_ | refine aS8 ?_ | refine wI ?_ | refine nD ?_ | refine aX rfl ?_ | refine vL rfl ?_)
      intro _u; clear _u
      refine ICall.pure h.n194.o194.hb (works13_c h.n194) rfl ?_
      repeat ((intro _u; clear _u); first | with_reducible first | refine cT ?_ | refine cF ?_ | refine cA ?_ | refine cB ?_ | refine aLn ?_ | refine cK ?_ | refine aS8 ?_ | refine wI ?_ | refine nD ?_ | refine aX rfl ?_ | refine vL rfl ?_)
      intro _u; clear _u
      exact rT
end Go.UM

/- The statements of chapter 13, part 2: there and back. -/


namespace Go.UM
open Go.AM
set_option maxRecDepth 4000


theorem same13_c {R : Env} (h : N204 R) (m : Ms) (h1 : m.v.length ≤ 1000) (h2 : m.uv.length ≤ 1000) (h3 : m.t.length ≤ 1000) : R.Pc 204 [.agg m.row, .agg m.row] (.bool true) :=
  h.o204.enter 100 rfl fun X bb hfit hp => by
    repeat ((intro _u; clear _u); first | with_reducible first | refine cT ?_ | refine cF ?_ | refine cA ?_ | refine cB ?_ | refine aLn ?_ | refine cK ?_ | refine aS8 ?_ | refine wI ?_ | refine nD ?_ | refine aX rfl ?_ | refine vL rfl ?_)
    intro _u; clear _u
    refine acnd_f (by simp) ?_
    repeat ((intro _u; clear _u); first | with_reducible first | refine cT ?_ | refine cF ?_ | refine cA ?_ | refine cB ?_ | refine aLn ?_ | refine cK ?_ | refine aS8 ?_ | refine wI ?_ | refine nD ?_ | refine aX rfl ?_ | refine vL rfl ?_)
    intro _u; clear _u
    refine acnd_f (by simp) ?_
    repeat ((intro _u; clear _u); first | with_reducible first | refine cT ?_ | refine cF ?_ | refine cA ?_ | refine cB ?_ | refine aLn ?_ | refine cK ?_ | refine aS8 ?_ | refine wI ?_ | refine nD ?_ | refine aX rfl ?_ | refine vL rfl ?_)
    intro _u; clear _u
    refine acnd_f (by simp) ?_
    repeat ((intro _u; clear _u); first | with_reducible first | refine cT ?_ | refine cF ?_ | refine cA ?_ | refine cB ?_ | refine aLn ?_ | refine cK ?_ | refine aS8 ?_ | refine wI ?_ | refine nD ?_ | refine aX rfl ?_ | refine vL rfl ?_)
    intro _u; clear _u
    refine lPa 100 (fun i : Nat => i ≤ m.v.length) (fun i => ⟨[(2, .loc 0 1 0 0), (3, .loc 1 1 0 0), (5, .int .i64 i)], [(1, .var (R.ty 25) m.row), (0, .var (R.ty 25) m.row)], 2⟩) (fun i => m.v.length - i) (0) ?_ ?_
    · exact Nat.zero_le _
    · intro i hi
      dsimp only
      repeat ((intro _u; clear _u); first | with_reducible first | refine cT ?_ | refine cF ?_ | refine cA ?_ | refine cB ?_ | refine aLn ?_ | refine cK ?_ | refine aS8 ?_ | refine wI ?_ | refine nD ?_ | refine aX rfl ?_ | refine vL rfl ?_)
      intro _u; clear _u
      refine cS (fun g1 => ?_) (fun g1 => ?_)
      · obtain ⟨x, hx⟩ : ∃ u_, m.v[i]? = some u_ := ⟨_, List.getElem?_eq_getElem (by first | omega | (simp <;> omega))⟩
        repeat ((intro _u; clear _u); first | with_reducible first | refine cT ?_ | refine cF ?_ | refine cA ?_ | refine cB ?_ | refine aLn ?_ | refine cK ?_ | refine aS8 ?_ | refine wI ?_ | refine nD ?_ | refine aX rfl ?_ | refine vL rfl ?_)
        intro _u; clear _u
        refine eget_map hx ?_
        repeat ((intro _u; clear _u); first | with_reducible first | refine cT ?_ | refine cF ?_ | refine cA ?_ | refine cB ?_ | refine aLn ?_ | refine cK ?_ | refine aS8 ?_ | refine wI ?_ | refine nD ?_ | refine aX rfl ?_ | refine vL rfl ?_)
        intro _u; clear _u
        refine eget_map hx ?_
        repeat ((intro _u; clear _u); first | with_reducible first | refine cT ?_ | refine cF ?_ | refine cA ?_ | refine cB ?_ | refine aLn ?_ | refine cK ?_ | refine aS8 ?_ | refine wI ?_ | refine nD ?_ | refine aX rfl ?_ | refine vL rfl ?_)
        intro _u; clear _u
        refine acnd_f (by simp) ?_
        repeat ((intro _u; clear _u); first | with_reducible first | refine cT ?_ | refine cF ?_ | refine cA ?_ | refine cB ?_ | refine aLn ?_ | refine cK ?_ | refine aS8 ?_ | refine wI ?_ | refine nD ?_ | refine aX rfl ?_ | refine vL rfl ?_)
        intro _u; clear _u
        refine nXa (i + 1) ?_ ?_
        · omega
        · omega
      · repeat ((intro _u; clear _u); first | with_reducible first | refine cT ?_ | refine cF ?_ | refine cA ?_ | refine cB ?_ | refine aLn ?_ | refine cK ?_ | refine aS8 ?_ | refine wI ?_ | refine nD ?_ | refine aX rfl ?_ | refine vL rfl ?_)
        intro _u; clear _u
        refine lPa 100 (fun i : Nat => i ≤ m.uv.length) (fun i => ⟨[(2, .loc 0 1 0 0), (3, .loc 1 1 0 0), (6, .int .i64 i)], [(1, .var (R.ty 25) m.row), (0, .var (R.ty 25) m.row)], 2⟩) (fun i => m.uv.length - i) (0) ?_ ?_
        · exact Nat.zero_le _
        · intro i hi
          dsimp only
          repeat ((intro _u; clear _u); first | with_reducible first | refine cT ?_ | refine cF ?_ | refine cA ?_ | refine cB ?_ | refine aLn ?_ | refine cK ?_ | refine aS8 ?_ | refine wI ?_ | refine nD ?_ | refine aX rfl ?_ | refine vL rfl ?_)
          intro _u; clear _u
          refine cS (fun g2 => ?_) (fun g2 => ?_)
          · obtain ⟨x, hx⟩ : ∃ u_, m.uv[i]? = some u_ := ⟨_, List.getElem?_eq_getElem (by first | omega | (simp <;> omega))⟩
            repeat ((intro _u; clear _u); first | with_reducible first | refine cT ?_ | refine cF ?_ | refine cA ?_ | refine cB ?_ | refine aLn ?_ | refine cK ?_ | refine aS8 ?_ | refine wI ?_ | refine nD ?_ | refine aX rfl ?_ | refine vL rfl ?_)
            intro _u; clear _u
            refine eget_map hx ?_
            repeat ((intro _u; clear _u); first | with_reducible first | refine cT ?_ | refine cF ?_ | refine cA ?_ | refine cB ?_ | refine aLn ?_ | refine cK ?_ | refine aS8 ?_ | refine wI ?_ | refine nD ?_ | refine aX rfl ?_ | refine vL rfl ?_)
            intro _u; clear _u
            refine eget_map hx ?_
            repeat ((intro _u; clear _u); first | with_reducible first | refine cT ?_ | refine cF ?_ | refine cA ?_ | refine cB ?_ | refine aLn ?_ | refine cK ?_ | refine aS8 ?_ | refine wI ?_ | refine nD ?_ | refine aX rfl ?_ | refine vL rfl ?_)
            intro _u; clear _u
            refine acnd_f (by simp) ?_
            repeat ((intro _u; clear _u); first | with_reducible first | refine cT ?_ | refine cF ?_ | refine cA ?_ | refine cB ?_ | refine aLn ?_ | refine cK ?_ | refine aS8 ?_ | refine wI ?_ | refine nD ?_ | refine aX rfl ?_ | refine vL rfl ?_)
            intro _u; clear _u
            refine nXa (i + 1) ?_ ?_
            · omega
            · omega
          · repeat ((intro _u; clear _u); first | with_reducible first | refine cT ?_ | refine cF ?_ | refine cA ?_ | refine cB ?_ | refine aLn ?_ | refine cK ?_ | refine aS8 ?_ | refine wI ?_ | refine nD ?_ | refine aX rfl ?_ | refine vL rfl ?_)
            intro _u; clear _u
            refine lPa 100 (fun i : Nat => i ≤ m.t.length) (fun i => ⟨[(2, .loc 0 1 0 0), (3, .loc 1 1 0 0), (7, .int .i64 i)], [(1, .var (R.ty 25) m.row), (0, .var (R.ty 25) m.row)], 2⟩) (fun i => m.t.length - i) (0) ?_ ?_
            · exact Nat.zero_le _
            · intro i hi
              dsimp only
              repeat ((intro _u; clear _u); first | with_reducible first | refine cT ?_ | refine cF ?_ | refine cA ?_ | refine cB ?_ | refine aLn ?_ | refine cK ?_ | refine aS8 ?_ | refine wI ?_ | refine nD ?_ | refine aX rfl ?_ | refine vL rfl ?_)
              intro _u; clear _u
              refine cS (fun g3 => ?_) (fun g3 => ?_)
              · obtain ⟨x, hx⟩ : ∃ u_, m.t[i]? = some u_ := ⟨_, List.getElem?_eq_getElem (by first | omega | (simp <;> omega))⟩
                repeat ((intro _u; clear _u); first | with_reducible first | refine cT ?_ | refine cF ?_ | refine cA ?_ | refine cB ?_ | refine aLn ?_ | refine cK ?_ | refine aS8 ?_ | refine wI ?_ | refine nD ?_ | refine aX rfl ?_ | refine vL rfl ?_)
                intro _u; clear _u
                refine eget_map hx ?_
                repeat ((intro _u; clear _u); first | with_reducible first | refine cT ?_ | refine cF ?_ | refine cA ?_ | refine cB ?_ | refine aLn ?_ | refine cK ?_ | refine aS8 ?_ | refine wI ?_ | refine nD ?_ | refine aX rfl ?_ | refine vL rfl ?_)
                intro _u; clear _u
                refine eget_map hx ?_
                repeat ((intro _u; clear _u); first | with_reducible first | refine cT ?_ | refine cF ?_ | refine cA ?_ | refine cB ?_ | refine aLn ?_ | refine cK ?_ | refine aS8 ?_ | refine wI ?_ | refine nD ?_ | refine aX rfl ?_ | refine vL rfl ?_)
                intro _u; clear _u
                refine acnd_f (by simp) ?_
                repeat ((intro _u; clear _u); first | with_reducible first | refine cT ?_ | refine cF ?_ | refine cA ?_ | refine cB ?_ | refine aLn ?_ | refine cK ?_ | refine aS8 ?_ | refine wI ?_ | refine nD ?_ | refine aX rfl ?_ | refine vL rfl ?_)
                intro _u; clear _u
                refine nXa (i + 1) ?_ ?_
                · omega
                · omega
              · repeat ((intro _u; clear _u); first | with_reducible first | refine cT ?_ | refine cF ?_ | refine cA ?_ | refine cB ?_ | refine aLn ?_ | refine cK ?_ | refine aS8 ?_ | refine wI ?_ | refine nD ?_ | refine aX rfl ?_ | refine vL rfl ?_)
                intro _u; clear _u
                exact rT

/-! ### What was written is read, what was read is written -/
theorem f3_fits : Fits f3 encP (fun p => (-32768 ≤ p.a ∧ p.a < 32768) ∧ (-32768 ≤ p.b ∧ p.b < 32768) ∧ (-32768 ≤ p.c ∧ p.c < 32768)) := by
  have i2 := int_fits (w := 2) (by omega) (by omega)
  have e : f3 = fun r => ((fun x : (Int × Int) × Int => (⟨x.1.1, x.1.2, x.2⟩ : T3)) ((((((r.int 2).1, ((r.int 2).2.int 2).1), (((r.int 2).2.int 2).2.int 2).1), (((r.int 2).2.int 2).2.int 2).2) : ((Int × Int) × Int) × Rd)).1, (((r.int 2).2.int 2).2.int 2).2) := rfl
  rw [e]
  refine ((i2.seq i2).seq i2).as (fun x : (Int × Int) × Int => (⟨x.1.1, x.1.2, x.2⟩ : T3)) (fun p : T3 => ((p.a, p.b), p.c)) _ _ (fun x hx => ?_) (fun x hx => ?_) (fun y hy => ?_)
  · simp [encP]
  · have e2 : ((256 : Int) ^ (2 : Int).toNat / 2) = 32768 := by decide
    simp only [e2] at hx ⊢
    omega
  · have e2 : ((256 : Int) ^ (2 : Int).toNat / 2) = 32768 := by decide
    simp only [e2]
    exact ⟨by simp [encP], by omega, by first | rfl | trivial⟩
theorem f2_fits : Fits f2 enc2 (fun x => (0 ≤ x.1 ∧ x.1 < 65536) ∧ (0 ≤ x.2 ∧ x.2 < 65536)) := by
  have i2 := num_fits (w := 2) (by omega) (by omega)
  have e : f2 = fun r => ((fun x : Nat × Nat => ((x.1 : Int), (x.2 : Int))) (((((r.num 2).1, ((r.num 2).2.num 2).1), ((r.num 2).2.num 2).2) : (Nat × Nat) × Rd)).1, ((r.num 2).2.num 2).2) := rfl
  rw [e]
  refine (i2.seq i2).as (fun x : Nat × Nat => ((x.1 : Int), (x.2 : Int))) (fun p : Int × Int => (p.1.toNat, p.2.toNat)) _ _ (fun x hx => ?_) (fun x hx => ?_) (fun y hy => ?_)
  · simp [enc2]
  · have e2 : (256 ^ (2 : Int).toNat : Nat) = 65536 := by decide
    simp only [e2] at hx ⊢
    omega
  · have e2 : (256 ^ (2 : Int).toNat : Nat) = 65536 := by decide
    simp only [e2]
    have h1 : ((y.1.toNat : Nat) : Int) = y.1 := by omega
    have h2 : ((y.2.toNat : Nat) : Int) = y.2 := by omega
    exact ⟨by simp [enc2, h1, h2], by omega, by rw [h1, h2]⟩
theorem enc_1 (x : Int) : enc 1 x = [u8 x] := by simp [enc, List.range_succ]
theorem ft_fits : Fits ft encT (fun p => (0 ≤ p.a ∧ p.a < 256) ∧ (0 ≤ p.b ∧ p.b < 256) ∧ (0 ≤ p.c ∧ p.c < 256)) := by
  have i2 := num_fits (w := 1) (by omega) (by omega)
  have e : ft = fun r => ((fun x : (Nat × Nat) × Nat => (⟨x.1.1, x.1.2, x.2⟩ : T3)) ((((((r.num 1).1, ((r.num 1).2.num 1).1), (((r.num 1).2.num 1).2.num 1).1), (((r.num 1).2.num 1).2.num 1).2) : ((Nat × Nat) × Nat) × Rd)).1, (((r.num 1).2.num 1).2.num 1).2) := rfl
  rw [e]
  have e1 : ∀ x : Int, enc (1 : Int).toNat x = [u8 x] := enc_1
  refine ((i2.seq i2).seq i2).as (fun x : (Nat × Nat) × Nat => (⟨x.1.1, x.1.2, x.2⟩ : T3)) (fun p : T3 => ((p.a.toNat, p.b.toNat), p.c.toNat)) _ _ (fun x hx => ?_) (fun x hx => ?_) (fun y hy => ?_)
  · simp only [e1]; simp [encT]
  · have e2 : (256 ^ (1 : Int).toNat : Nat) = 256 := by decide
    simp only [e2] at hx ⊢
    omega
  · have e2 : (256 ^ (1 : Int).toNat : Nat) = 256 := by decide
    simp only [e2]
    have h1 : ((y.a.toNat : Nat) : Int) = y.a := by omega
    have h2 : ((y.b.toNat : Nat) : Int) = y.b := by omega
    have h3 : ((y.c.toNat : Nat) : Int) = y.c := by omega
    refine ⟨by simp only [e1, h1, h2, h3]; simp [encT], by omega, ?_⟩
    rw [h1, h2, h3]

theorem mdecd_len (b : List UInt8) : (mdecd b).1.v.length ≤ 1000 ∧ (mdecd b).1.uv.length ≤ 1000 ∧ (mdecd b).1.t.length ≤ 1000 := by
  unfold mdecd mfin
  have la : ((⟨b, 0, true⟩ : Rd).num 1).1 < 256 := num_lt _ (by omega) (by omega)
  generalize (⟨b, 0, true⟩ : Rd).num 1 = a at la ⊢
  have lc : (a.2.num 1).1 < 256 := num_lt _ (by omega) (by omega)
  generalize a.2.num 1 = c at lc ⊢
  split
  · simp [zMs]
  · split
    · simp [zMs]
    · unfold mq
      simp only [rdN_len]
      omega

theorem mdecd_there {m : Ms} (h : mchk m = 0) : mdecd (mbytes m) = (m, 0) := by
  have may := mchk_may h
  have mv := may.v
  have mt := may.t
  have w8 : (u8 m.v.length).toNat = m.v.length := by have := u8_in (n := m.v.length) (by omega); omega
  have t8 : (u8 m.t.length).toNat = m.t.length := by have := u8_in (n := m.t.length) (by omega); omega
  have e : mbytes m = u8 m.v.length :: u8 m.t.length :: (m.v.flatMap encP ++ (m.uv.flatMap enc2 ++ (m.t.flatMap encT ++ []))) := by simp [mbytes]
  rw [e]
  unfold mdecd
  rw [num1]
  dsimp only
  rw [num1]
  dsimp only
  rw [w8, t8]
  have h1 := (rdN_fits f3_fits m.v.length).there m.v (m.uv.flatMap enc2 ++ (m.t.flatMap encT ++ [])) ⟨rfl, fun p hp => by have := may.pv p hp; omega⟩
  have h2 := (rdN_fits f2_fits m.v.length).there m.uv (m.t.flatMap encT ++ []) ⟨may.uv, fun p hp => by have := may.pu p hp; omega⟩
  have h3 := (rdN_fits ft_fits m.t.length).there m.t [] ⟨rfl, fun p hp => by have := may.pt p hp; omega⟩
  try dsimp only at h1 h2 h3
  unfold mq
  rw [h1]
  dsimp only
  rw [h2]
  dsimp only
  rw [h3]
  unfold mfin
  rw [if_neg (by simp [Rd.fin, Rd.err]), if_neg (by simpa using h)]

theorem fin_zero {r : Rd} (h : r.fin = 0) : r.e = 0 ∧ r.l = [] := by
  unfold Rd.fin at h
  split at h
  · rename_i h1; exact (h1 h).elim
  · rename_i h1
    split at h
    · cases h
    · rename_i h2
      unfold Rd.err at h1
      split at h1
      · exact (h1 (by decide)).elim
      · exact ⟨by omega, List.eq_nil_of_length_eq_zero (by omega)⟩

theorem mdecd_back {b : List UInt8} (h : (mdecd b).2 = 0) : menc (mdecd b).1 = (b, 0) := by
  have e : mdecd b = mfin (mq ((⟨b, 0, true⟩ : Rd).num 1).1 (((⟨b, 0, true⟩ : Rd).num 1).2.num 1).1 (((⟨b, 0, true⟩ : Rd).num 1).2.num 1).2) := rfl
  have n1 := num_fits (w := 1) (by omega) (by omega)
  have m0 := n1.made ⟨b, 0, true⟩ rfl
  have k0 := n1.back ⟨b, 0, true⟩ rfl
  have la : ((⟨b, 0, true⟩ : Rd).num 1).1 < 256 := num_lt _ (by omega) (by omega)
  try dsimp only at m0 k0
  generalize (⟨b, 0, true⟩ : Rd).num 1 = a at e m0 k0 la
  have m1 := n1.made a.2 m0
  have k1 := n1.back a.2 m0
  have lc : (a.2.num 1).1 < 256 := num_lt _ (by omega) (by omega)
  try dsimp only at m1 k1
  generalize a.2.num 1 = c at e m1 k1 lc
  have m2 := (rdN_fits f3_fits a.1).made c.2 m1
  have k2 := (rdN_fits f3_fits a.1).back c.2 m1
  have l2 := rdN_len f3 a.1 c.2
  try dsimp only at k2
  have hq : mq a.1 c.1 c.2 = (⟨(rdN f3 a.1 c.2).1, (rdN f2 a.1 (rdN f3 a.1 c.2).2).1, (rdN ft c.1 (rdN f2 a.1 (rdN f3 a.1 c.2).2).2).1⟩, (rdN ft c.1 (rdN f2 a.1 (rdN f3 a.1 c.2).2).2).2) := rfl
  generalize rdN f3 a.1 c.2 = v at m2 k2 l2 hq
  have m3 := (rdN_fits f2_fits a.1).made v.2 m2
  have k3 := (rdN_fits f2_fits a.1).back v.2 m2
  try dsimp only at k3
  generalize rdN f2 a.1 v.2 = u at m3 k3 hq
  have k4 := (rdN_fits ft_fits c.1).back u.2 m3
  have l4 := rdN_len ft c.1 u.2
  try dsimp only at k4
  generalize rdN ft c.1 u.2 = t at k4 l4 hq
  rw [hq] at e
  rw [e] at h ⊢
  unfold mfin at h ⊢
  by_cases h1 : t.2.fin = 0
  · rw [if_neg (fun hh => hh h1)] at h ⊢
    by_cases h2 : mchk (⟨v.1, u.1, t.1⟩ : Ms) = 0
    · rw [if_neg (fun hh => hh h2)] at h ⊢
      obtain ⟨f1, f2⟩ := fin_zero h1
      obtain ⟨g4, e4⟩ := k4 f1
      obtain ⟨g3, e3⟩ := k3 g4
      obtain ⟨g2, e2⟩ := k2 g3
      obtain ⟨g1, e1⟩ := k1 g2
      obtain ⟨g0, e0⟩ := k0 g1
      rw [menc, if_neg (by simpa using h2)]
      congr 1
      have q1 : ∀ x : Int, enc (1 : Int).toNat x = [u8 x] := enc_1
      rw [e0, e1, e2, e3, e4, f2, q1, q1]
      simp [mbytes, l2, l4]
    · rw [if_pos h2] at h
      exact (h2 h).elim
  · rw [if_pos h1] at h
    exact (h1 h).elim
theorem mdecd_bad {b : List UInt8} (h : (mdecd b).2 ≠ 0) : mdecd b = (zMs, (mdecd b).2) := by
  unfold mdecd mfin at h ⊢
  split
  · rfl
  · split
    · rfl
    · rename_i h1 h2
      rw [if_neg h1, if_neg h2] at h
      exact (h rfl).elim

/-! ### The laws -/
theorem mdecodes_law {R : Env} (h : N201 R) (b : List UInt8) : R.Pc 201 [.isl 1 (slc8 b)] (.bool true) :=
  h.o201.enter 100 rfl fun X bb hfit hp => by
    repeat ((intro _u; clear _u); first | with_reducible first | refine cT ?_ | refine cF ?_ | refine cA ?_ | refine cB ?_ | refine aLn ?_ | refine cK ?_ | refine aS8 ?_ | refine wI ?_ | refine nD ?_ | refine aX rfl ?_ | refine vL rfl ?_)
    intro _u; clear _u
    refine asub_eq (by exact cap8 b 900) ?_
    have hb : (b.take (Int.toNat 900)).length ≤ 1000 := by simp; omega
    generalize b.take (Int.toNat 900) = b at hb ⊢
    repeat ((intro _u; clear _u); first | with_reducible first | refine cT ?_ | refine cF ?_ | refine cA ?_ | refine cB ?_ | refine aLn ?_ | refine cK ?_ | refine aS8 ?_ | refine wI ?_ | refine nD ?_ | refine aX rfl ?_ | refine vL rfl ?_)
    intro _u; clear _u
    refine ICall.pure h.n202.o202.hb (mdecode13_c h.n202 b (by omega)) rfl ?_
    repeat ((intro _u; clear _u); first | with_reducible first | refine cT ?_ | refine cF ?_ | refine cA ?_ | refine cB ?_ | refine aLn ?_ | refine cK ?_ | refine aS8 ?_ | refine wI ?_ | refine nD ?_ | refine aX rfl ?_ | refine vL rfl ?_)
    intro _u; clear _u
    refine ICall.pure h.n203.o203.hb (rmdecode13_c h.n203 b (by omega)) rfl ?_
    have hl := mdecd_len b
    repeat ((intro _u; clear _u); first | with_reducible first | refine cT ?_ | refine cF ?_ | refine cA ?_ | refine cB ?_ | refine aLn ?_ | refine cK ?_ | refine aS8 ?_ | refine wI ?_ | refine nD ?_ | refine aX rfl ?_ | refine vL rfl ?_)
    intro _u; clear _u
    refine ICall.pure h.n204.o204.hb (same13_c h.n204 (mdecd b).1 hl.1 hl.2.1 hl.2.2) rfl ?_
    repeat ((intro _u; clear _u); first | with_reducible first | refine cT ?_ | refine cF ?_ | refine cA ?_ | refine cB ?_ | refine aLn ?_ | refine cK ?_ | refine aS8 ?_ | refine wI ?_ | refine nD ?_ | refine aX rfl ?_ | refine vL rfl ?_)
    intro _u; clear _u
    refine acnd_t (by simp) ?_
    repeat ((intro _u; clear _u); first | with_reducible first | refine cT ?_ | refine cF ?_ | refine cA ?_ | refine cB ?_ | refine aLn ?_ | refine cK ?_ | refine aS8 ?_ | refine wI ?_ | refine nD ?_ | refine aX rfl ?_ | refine vL rfl ?_)
    intro _u; clear _u
    refine ICall.pure h.n194.o194.hb (works13_c h.n194) rfl ?_
    repeat ((intro _u; clear _u); first | with_reducible first | refine cT ?_ | refine cF ?_ | refine cA ?_ | refine cB ?_ | refine aLn ?_ | refine cK ?_ | refine aS8 ?_ | refine wI ?_ | refine nD ?_ | refine aX rfl ?_ | refine vL rfl ?_)
    intro _u; clear _u
    exact rT


theorem mback_law {R : Env} (h : N205 R) (m : Ms) (b : List UInt8) : R.Pc 205 [.agg m.row, .isl 1 (slc8 b)] (.bool true) :=
  h.o205.enter 100 rfl fun X bb hfit hp => by
    repeat ((intro _u; clear _u); first | with_reducible first | refine cT ?_ | refine cF ?_ | refine cA ?_ | refine cB ?_ | refine aLn ?_ | refine cK ?_ | refine aS8 ?_ | refine wI ?_ | refine nD ?_ | refine aX rfl ?_ | refine vL rfl ?_)
    intro _u; clear _u
    refine ICall.pure h.n191.o191.hb (few13_c h.n191 m) rfl ?_
    generalize m.few = m
    repeat ((intro _u; clear _u); first | with_reducible first | refine cT ?_ | refine cF ?_ | refine cA ?_ | refine cB ?_ | refine aLn ?_ | refine cK ?_ | refine aS8 ?_ | refine wI ?_ | refine nD ?_ | refine aX rfl ?_ | refine vL rfl ?_)
    intro _u; clear _u
    refine asub_eq (by exact cap8 b 900) ?_
    have hb : (b.take (Int.toNat 900)).length ≤ 1000 := by simp; omega
    generalize b.take (Int.toNat 900) = b at hb ⊢
    have c1 := mencode_c h.n196 m
    by_cases hc : mchk m = 0
    · have may := mchk_may hc
      have mv := may.v
      have mt := may.t
      have mu := may.uv
      rw [menc, if_neg (by simpa using hc)] at c1
      repeat ((intro _u; clear _u); first | with_reducible first | refine cT ?_ | refine cF ?_ | refine cA ?_ | refine cB ?_ | refine aLn ?_ | refine cK ?_ | refine aS8 ?_ | refine wI ?_ | refine nD ?_ | refine aX rfl ?_ | refine vL rfl ?_)
      intro _u; clear _u
      refine ICall.pure h.n196.o196.hb c1 rfl ?_
      repeat ((intro _u; clear _u); first | with_reducible first | refine cT ?_ | refine cF ?_ | refine cA ?_ | refine cB ?_ | refine aLn ?_ | refine cK ?_ | refine aS8 ?_ | refine wI ?_ | refine nD ?_ | refine aX rfl ?_ | refine vL rfl ?_)
      intro _u; clear _u
      refine acnd_t (by rfl) ?_
      have c2 := mdecode13_c h.n202 (mbytes m) (by simp only [mbytes, List.length_append, len_P, len_2, len_T, List.length_cons, List.length_nil]; omega)
      rw [mdecd_there hc] at c2
      repeat ((intro _u; clear _u); first | with_reducible first | refine cT ?_ | refine cF ?_ | refine cA ?_ | refine cB ?_ | refine aLn ?_ | refine cK ?_ | refine aS8 ?_ | refine wI ?_ | refine nD ?_ | refine aX rfl ?_ | refine vL rfl ?_)
      intro _u; clear _u
      refine ICall.pure h.n202.o202.hb c2 rfl ?_
      repeat ((intro _u; clear _u); first | with_reducible first | refine cT ?_ | refine cF ?_ | refine cA ?_ | refine cB ?_ | refine aLn ?_ | refine cK ?_ | refine aS8 ?_ | refine wI ?_ | refine nD ?_ | refine aX rfl ?_ | refine vL rfl ?_)
      intro _u; clear _u
      refine acnd_f (by rfl) ?_
      repeat ((intro _u; clear _u); first | with_reducible first | refine cT ?_ | refine cF ?_ | refine cA ?_ | refine cB ?_ | refine aLn ?_ | refine cK ?_ | refine aS8 ?_ | refine wI ?_ | refine nD ?_ | refine aX rfl ?_ | refine vL rfl ?_)
      intro _u; clear _u
      refine ICall.pure h.n204.o204.hb (same13_c h.n204 m (by omega) (by omega) (by omega)) rfl ?_
      have c2 := mdecode13_c h.n202 b (by omega)
      by_cases he : (mdecd b).2 = 0
      · have hk := mdecd_back he
        have hu : mdecd b = ((mdecd b).1, 0) := by rw [← he]
        rw [hu] at c2
        generalize (mdecd b).1 = n at hk c2
        repeat ((intro _u; clear _u); first | with_reducible first | refine cT ?_ | refine cF ?_ | refine cA ?_ | refine cB ?_ | refine aLn ?_ | refine cK ?_ | refine aS8 ?_ | refine wI ?_ | refine nD ?_ | refine aX rfl ?_ | refine vL rfl ?_)
        intro _u; clear _u
        refine ICall.pure h.n202.o202.hb c2 rfl ?_
        repeat ((intro _u; clear _u); first | with_reducible first | refine cT ?_ | refine cF ?_ | refine cA ?_ | refine cB ?_ | refine aLn ?_ | refine cK ?_ | refine aS8 ?_ | refine wI ?_ | refine nD ?_ | refine aX rfl ?_ | refine vL rfl ?_)
        intro _u; clear _u
        refine acnd_f (by rfl) ?_
        have c3 := mencode_c h.n196 n
        rw [hk] at c3
        repeat ((intro _u; clear _u); first | with_reducible first | refine cT ?_ | refine cF ?_ | refine cA ?_ | refine cB ?_ | refine aLn ?_ | refine cK ?_ | refine aS8 ?_ | refine wI ?_ | refine nD ?_ | refine aX rfl ?_ | refine vL rfl ?_)
        intro _u; clear _u
        refine ICall.pure h.n196.o196.hb c3 rfl ?_
        repeat ((intro _u; clear _u); first | with_reducible first | refine cT ?_ | refine cF ?_ | refine cA ?_ | refine cB ?_ | refine aLn ?_ | refine cK ?_ | refine aS8 ?_ | refine wI ?_ | refine nD ?_ | refine aX rfl ?_ | refine vL rfl ?_)
        intro _u; clear _u
        refine acnd_t (by rfl) ?_
        repeat ((intro _u; clear _u); first | with_reducible first | refine cT ?_ | refine cF ?_ | refine cA ?_ | refine cB ?_ | refine aLn ?_ | refine cK ?_ | refine aS8 ?_ | refine wI ?_ | refine nD ?_ | refine aX rfl ?_ | refine vL rfl ?_)
        intro _u; clear _u
        refine ICall.pure h.n47.o47.hb (eq8_c h.n47 b b) rfl ?_
        repeat ((intro _u; clear _u); first | with_reducible first | refine cT ?_ | refine cF ?_ | refine cA ?_ | refine cB ?_ | refine aLn ?_ | refine cK ?_ | refine aS8 ?_ | refine wI ?_ | refine nD ?_ | refine aX rfl ?_ | refine vL rfl ?_)
        intro _u; clear _u
        refine acnd_t (by simp) ?_
        repeat ((intro _u; clear _u); first | with_reducible first | refine cT ?_ | refine cF ?_ | refine cA ?_ | refine cB ?_ | refine aLn ?_ | refine cK ?_ | refine aS8 ?_ | refine wI ?_ | refine nD ?_ | refine aX rfl ?_ | refine vL rfl ?_)
        intro _u; clear _u
        refine ICall.pure h.n194.o194.hb (works13_c h.n194) rfl ?_
        repeat ((intro _u; clear _u); first | with_reducible first | refine cT ?_ | refine cF ?_ | refine cA ?_ | refine cB ?_ | refine aLn ?_ | refine cK ?_ | refine aS8 ?_ | refine wI ?_ | refine nD ?_ | refine aX rfl ?_ | refine vL rfl ?_)
        intro _u; clear _u
        exact rT
      · rw [mdecd_bad he] at c2
        repeat ((intro _u; clear _u); first | with_reducible first | refine cT ?_ | refine cF ?_ | refine cA ?_ | refine cB ?_ | refine aLn ?_ | refine cK ?_ | refine aS8 ?_ | refine wI ?_ | refine nD ?_ | refine aX rfl ?_ | refine vL rfl ?_)
        intro _u; clear _u
        refine ICall.pure h.n202.o202.hb c2 rfl ?_
        repeat ((intro _u; clear _u); first | with_reducible first | refine cT ?_ | refine cF ?_ | refine cA ?_ | refine cB ?_ | refine aLn ?_ | refine cK ?_ | refine aS8 ?_ | refine wI ?_ | refine nD ?_ | refine aX rfl ?_ | refine vL rfl ?_)
        intro _u; clear _u
        refine acnd_t (by simpa using he) ?_
        repeat ((intro _u; clear _u); first | with_reducible first | refine cT ?_ | refine cF ?_ | refine cA ?_ | refine cB ?_ | refine aLn ?_ | refine cK ?_ | refine aS8 ?_ | refine wI ?_ | refine nD ?_ | refine aX rfl ?_ | refine vL rfl ?_)
        intro _u; clear _u
        refine iwr_eq (m := 0) rfl ?_
        repeat ((intro _u; clear _u); first | with_reducible first | refine cT ?_ | refine cF ?_ | refine cA ?_ | refine cB ?_ | refine aLn ?_ | refine cK ?_ | refine aS8 ?_ | refine wI ?_ | refine nD ?_ | refine aX rfl ?_ | refine vL rfl ?_)
        intro _u; clear _u
        refine acnd_t (by rfl) ?_
        repeat ((intro _u; clear _u); first | with_reducible first | refine cT ?_ | refine cF ?_ | refine cA ?_ | refine cB ?_ | refine aLn ?_ | refine cK ?_ | refine aS8 ?_ | refine wI ?_ | refine nD ?_ | refine aX rfl ?_ | refine vL rfl ?_)
        intro _u; clear _u
        refine ICall.pure h.n194.o194.hb (works13_c h.n194) rfl ?_
        repeat ((intro _u; clear _u); first | with_reducible first | refine cT ?_ | refine cF ?_ | refine cA ?_ | refine cB ?_ | refine aLn ?_ | refine cK ?_ | refine aS8 ?_ | refine wI ?_ | refine nD ?_ | refine aX rfl ?_ | refine vL rfl ?_)
        intro _u; clear _u
        exact rT
    · rw [menc, if_pos hc] at c1
      repeat ((intro _u; clear _u); first | with_reducible first | refine cT ?_ | refine cF ?_ | refine cA ?_ | refine cB ?_ | refine aLn ?_ | refine cK ?_ | refine aS8 ?_ | refine wI ?_ | refine nD ?_ | refine aX rfl ?_ | refine vL rfl ?_)
      intro _u; clear _u
      refine ICall.pure h.n196.o196.hb c1 rfl ?_
      repeat ((intro _u; clear _u); first | with_reducible first | refine cT ?_ | refine cF ?_ | refine cA ?_ | refine cB ?_ | refine aLn ?_ | refine cK ?_ | refine aS8 ?_ | refine wI ?_ | refine nD ?_ | refine aX rfl ?_ | refine vL rfl ?_)
      intro _u; clear _u
      refine acnd_f (by simpa using hc) ?_
      have c2 := mdecode13_c h.n202 b (by omega)
      by_cases he : (mdecd b).2 = 0
      · have hk := mdecd_back he
        have hu : mdecd b = ((mdecd b).1, 0) := by rw [← he]
        rw [hu] at c2
        generalize (mdecd b).1 = n at hk c2
        repeat ((intro _u; clear _u); first | with_reducible first | refine cT ?_ | refine cF ?_ | refine cA ?_ | refine cB ?_ | refine aLn ?_ | refine cK ?_ | refine aS8 ?_ | refine wI ?_ | refine nD ?_ | refine aX rfl ?_ | refine vL rfl ?_)
        intro _u; clear _u
        refine ICall.pure h.n202.o202.hb c2 rfl ?_
        repeat ((intro _u; clear _u); first | with_reducible first | refine cT ?_ | refine cF ?_ | refine cA ?_ | refine cB ?_ | refine aLn ?_ | refine cK ?_ | refine aS8 ?_ | refine wI ?_ | refine nD ?_ | refine aX rfl ?_ | refine vL rfl ?_)
        intro _u; clear _u
        refine acnd_f (by rfl) ?_
        have c3 := mencode_c h.n196 n
        rw [hk] at c3
        repeat ((intro _u; clear _u); first | with_reducible first | refine cT ?_ | refine cF ?_ | refine cA ?_ | refine cB ?_ | refine aLn ?_ | refine cK ?_ | refine aS8 ?_ | refine wI ?_ | refine nD ?_ | refine aX rfl ?_ | refine vL rfl ?_)
        intro _u; clear _u
        refine ICall.pure h.n196.o196.hb c3 rfl ?_
        repeat ((intro _u; clear _u); first | with_reducible first | refine cT ?_ | refine cF ?_ | refine cA ?_ | refine cB ?_ | refine aLn ?_ | refine cK ?_ | refine aS8 ?_ | refine wI ?_ | refine nD ?_ | refine aX rfl ?_ | refine vL rfl ?_)
        intro _u; clear _u
        refine acnd_t (by rfl) ?_
        repeat ((intro _u; clear _u); first | with_reducible first | refine cT ?_ | refine cF ?_ | refine cA ?_ | refine cB ?_ | refine aLn ?_ | refine cK ?_ | refine aS8 ?_ | refine wI ?_ | refine nD ?_ | refine aX rfl ?_ | refine vL rfl ?_)
        intro _u; clear _u
        refine ICall.pure h.n47.o47.hb (eq8_c h.n47 b b) rfl ?_
        repeat ((intro _u; clear _u); first | with_reducible first | refine cT ?_ | refine cF ?_ | refine cA ?_ | refine cB ?_ | refine aLn ?_ | refine cK ?_ | refine aS8 ?_ | refine wI ?_ | refine nD ?_ | refine aX rfl ?_ | refine vL rfl ?_)
        intro _u; clear _u
        refine acnd_t (by simp) ?_
        repeat ((intro _u; clear _u); first | with_reducible first | refine cT ?_ | refine cF ?_ | refine cA ?_ | refine cB ?_ | refine aLn ?_ | refine cK ?_ | refine aS8 ?_ | refine wI ?_ | refine nD ?_ | refine aX rfl ?_ | refine vL rfl ?_)
        intro _u; clear _u
        refine ICall.pure h.n194.o194.hb (works13_c h.n194) rfl ?_
        repeat ((intro _u; clear _u); first | with_reducible first | refine cT ?_ | refine cF ?_ | refine cA ?_ | refine cB ?_ | refine aLn ?_ | refine cK ?_ | refine aS8 ?_ | refine wI ?_ | refine nD ?_ | refine aX rfl ?_ | refine vL rfl ?_)
        intro _u; clear _u
        exact rT
      · rw [mdecd_bad he] at c2
        repeat ((intro _u; clear _u); first | with_reducible first | refine cT ?_ | refine cF ?_ | refine cA ?_ | refine cB ?_ | refine aLn ?_ | refine cK ?_ | refine aS8 ?_ | refine wI ?_ | refine nD ?_ | refine aX rfl ?_ | refine vL rfl ?_)
        intro _u; clear _u
        refine ICall.pure h.n202.o202.hb c2 rfl ?_
        repeat ((intro _u; clear _u); first | with_reducible first | refine cT ?_ | refine cF ?_ | refine cA ?_ | refine cB ?_ | refine aLn ?_ | refine cK ?_ | refine aS8 ?_ | refine wI ?_ | refine nD ?_ | refine aX rfl ?_ | refine vL rfl ?_)
        intro _u; clear _u
        refine acnd_t (by simpa using he) ?_
        repeat ((intro _u; clear _u); first | with_reducible first | refine cT ?_ | refine cF ?_ | refine cA ?_ | refine cB ?_ | refine aLn ?_ | refine cK ?_ | refine aS8 ?_ | refine wI ?_ | refine nD ?_ | refine aX rfl ?_ | refine vL rfl ?_)
        intro _u; clear _u
        refine iwr_eq (m := 0) rfl ?_
        repeat ((intro _u; clear _u); first | with_reducible first | refine cT ?_ | refine cF ?_ | refine cA ?_ | refine cB ?_ | refine aLn ?_ | refine cK ?_ | refine aS8 ?_ | refine wI ?_ | refine nD ?_ | refine aX rfl ?_ | refine vL rfl ?_)
        intro _u; clear _u
        refine acnd_t (by rfl) ?_
        repeat ((intro _u; clear _u); first | with_reducible first | refine cT ?_ | refine cF ?_ | refine cA ?_ | refine cB ?_ | refine aLn ?_ | refine cK ?_ | refine aS8 ?_ | refine wI ?_ | refine nD ?_ | refine aX rfl ?_ | refine vL rfl ?_)
        intro _u; clear _u
        refine ICall.pure h.n194.o194.hb (works13_c h.n194) rfl ?_
        repeat ((intro _u; clear _u); first | with_reducible first | refine cT ?_ | refine cF ?_ | refine cA ?_ | refine cB ?_ | refine aLn ?_ | refine cK ?_ | refine aS8 ?_ | refine wI ?_ | refine nD ?_ | refine aX rfl ?_ | refine vL rfl ?_)
        intro _u; clear _u
        exact rT
end Go.UM

/- What comes in, opened. -/


namespace Go.UM
open Go.AM

theorem open8 {T : TT} {n e : Nat} {es : List (List AV)} (hT : T.d e = .int .u8) (h : ∀ r ∈ es, cty T (n + 1) e r) : ∃ l : List UInt8, es = slc8 l := by
  obtain ⟨l, rfl, _⟩ := rows_map (f := fun c : UInt8 => [AV.int .u8 c.toNat]) (p := fun _ => True) (es := es) fun r hr => by
    have h1 := h r hr
    simp only [cty, hT] at h1
    obtain ⟨x, rfl, hx⟩ := h1
    have hx := wf_in hx
    simp only [inI] at hx
    refine ⟨u8 x, ?_, trivial⟩
    rw [← wr_u8, wr_in (k := .u8) hx]
  exact ⟨l, rfl⟩

theorem openK {T : TT} {n e : Nat} {k : IntKind} {es : List (List AV)} (hT : T.d e = .int k) (h : ∀ r ∈ es, cty T (n + 1) e r) : ∃ l : List Int, es = slcK k l ∧ ∀ x ∈ l, inI k x := by
  obtain ⟨l, rfl, hl⟩ := rows_map (f := fun c : Int => [AV.int k c]) (p := fun c => inI k c) (es := es) fun r hr => by
    have h1 := h r hr
    simp only [cty, hT] at h1
    obtain ⟨x, rfl, hx⟩ := h1
    exact ⟨x, rfl, wf_in hx⟩
  exact ⟨l, rfl, hl⟩
end Go.UM
