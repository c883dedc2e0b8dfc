/- Of the reckoning machine, and what is proved with it: texts joined by program. -/
import Derived.Test.YtcdmkciicdngdaaU0
import Derived.Test.YtcdmkciicdngdaaK2
set_option linter.all false

/- Package pack, part 2: short numbers; a plane packed. -/

namespace Go.UM
open Go.AM
set_option maxRecDepth 4000

def hib (n : Nat) : UInt8 := u8 (bit2 .or .u8 (wr .u8 n) 128)
def short (n : Nat) : List UInt8 := if h : n < 128 then [u8 n] else hib n :: short (n / 128)
decreasing_by omega
theorem short_small {n : Nat} (h : n < 128) : short n = [u8 n] := by rw [short, dif_pos h]
theorem short_big {n : Nat} (h : 128 ≤ n) : short n = hib n :: short (n / 128) := by rw [short, dif_neg (by omega)]
theorem short_pos (n : Nat) : 1 ≤ (short n).length := by
  rw [short]; split <;> simp
theorem hib_val (n : Nat) : ((hib n).toNat : Int) = bit2 .or .u8 (wr .u8 n) 128 := by
  unfold hib
  rw [← wr_u8]
  show wr .u8 (wr .u8 _) = wr .u8 _
  rw [wr_in (k := .u8)]
  rw [wr_u8]
  have := (u8 (((BitVec.ofInt (IntKind.bits .u8) (wr .u8 n)) ||| (BitVec.ofInt (IntKind.bits .u8) 128)).toNat : Int)).toNat_lt
  simp only [inI]; omega

theorem short_c {R : Env} (h : N187 R) (b : List UInt8) (n : Nat) (hn : n ≤ 4611686018427387903) (hl : (b ++ short n).length ≤ 1073741824) :
    R.Mc 187 [.osl 0 b.length, .int .i64 n] [(0, .arr (R.ty 4) 1 (slc8 b))] (.osl 0 (b ++ short n).length) [(0, .arr (R.ty 4) 1 (slc8 (b ++ short n)))] 1 :=
  h.o187.enterM 100 1 rfl rfl rfl fun X bb hfit hp => by
    repeat ((intro _u; clear _u); first | with_reducible first | refine cT ?_ | refine cF ?_ | refine cA ?_ | refine cB ?_ | refine aLn ?_ | refine cK ?_ | refine aS8 ?_ | refine wI ?_ | refine nD ?_ | refine aX rfl ?_ | refine vL rfl ?_)
    intro _u; clear _u
    refine lPa 100 (fun s : List UInt8 × Nat => s.1 ++ short s.2 = b ++ short n ∧ s.2 ≤ n) (fun s => ⟨[(0, .osl 0 s.1.length), (1, .int .i64 s.2)], [(0, .arr (R.ty 4) 1 (slc8 s.1))], 1⟩) (fun s => s.2) ((b, n)) ?_ ?_
    · exact ⟨rfl, Nat.le_refl _⟩
    · intro s hs
      obtain ⟨c, m⟩ := s
      obtain ⟨hs1, hs2⟩ := hs
      dsimp only at hs1 hs2 ⊢
      have hp1 := short_pos m
      have hcl : c.length + (short m).length ≤ 1073741824 := by rw [← List.length_append, hs1]; exact hl
      repeat ((intro _u; clear _u); first | with_reducible first | refine cT ?_ | refine cF ?_ | refine cA ?_ | refine cB ?_ | refine aLn ?_ | refine cK ?_ | refine aS8 ?_ | refine wI ?_ | refine nD ?_ | refine aX rfl ?_ | refine vL rfl ?_)
      intro _u; clear _u
      refine cS (fun h1 => ?_) (fun h1 => ?_)
      · rw [short_big (by omega)] at hs1
        repeat ((intro _u; clear _u); first | with_reducible first | refine cT ?_ | refine cF ?_ | refine cA ?_ | refine cB ?_ | refine aLn ?_ | refine cK ?_ | refine aS8 ?_ | refine wI ?_ | refine nD ?_ | refine aX rfl ?_ | refine vL rfl ?_)
        intro _u; clear _u
        refine iwr_any ?_
        repeat ((intro _u; clear _u); first | with_reducible first | refine cT ?_ | refine cF ?_ | refine cA ?_ | refine cB ?_ | refine aLn ?_ | refine cK ?_ | refine aS8 ?_ | refine wI ?_ | refine nD ?_ | refine aX rfl ?_ | refine vL rfl ?_)
        intro _u; clear _u
        refine nX ((c ++ [hib m], m / 128)) ?_ ?_ ⟨_, hp, rfl⟩ ?_ ?_
        · exact ⟨by simpa using hs1, by dsimp only; omega⟩
        · dsimp only; omega
        · all_goals repeat' (first | exact True.intro | refine And.intro ?_ ?_ | (intro _u; clear _u) | (with_reducible first | refine eM ?_ ?_ | refine eF ?_ ?_ ?_ | refine eN ?_ | refine eL ?_ ?_ ?_ | refine eA ?_ ?_ | refine IWk.mk ⟨_, hp, rfl⟩ ?_ ?_) | refine IWk.mk ⟨_, hp, rfl⟩ ?_ ?_)
          all_goals first | with_reducible rfl | omega | exact Or.inl (by decide) | (simp; done) | rfl | skip
          rw [shr_eq (by omega)]
          show (m : Int) / 128 = ((m / 128 : Nat) : Int)
          omega
        · all_goals repeat' (first | exact True.intro | refine And.intro ?_ ?_ | (intro _u; clear _u) | (with_reducible first | refine eM ?_ ?_ | refine eF ?_ ?_ ?_ | refine eN ?_ | refine eL ?_ ?_ ?_ | refine eA ?_ ?_ | refine IWk.mk ⟨_, hp, rfl⟩ ?_ ?_) | refine IWk.mk ⟨_, hp, rfl⟩ ?_ ?_)
          all_goals first | with_reducible rfl | omega | exact Or.inl (by decide) | (simp; done) | rfl | skip
          simp [slc8, hib_val]
      · rw [short_small (by omega)] at hs1
        rw [← hs1]
        have hu : ((u8 m).toNat : Int) = m := u8_in (by omega)
        repeat ((intro _u; clear _u); first | with_reducible first | refine cT ?_ | refine cF ?_ | refine cA ?_ | refine cB ?_ | refine aLn ?_ | refine cK ?_ | refine aS8 ?_ | refine wI ?_ | refine nD ?_ | refine aX rfl ?_ | refine vL rfl ?_)
        intro _u; clear _u
        refine rM [0] ?_
        all_goals repeat' (first | exact True.intro | refine And.intro ?_ ?_ | (intro _u; clear _u) | (with_reducible first | refine eM ?_ ?_ | refine eF ?_ ?_ ?_ | refine eN ?_ | refine eL ?_ ?_ ?_ | refine eA ?_ ?_ | refine IWk.mk ⟨_, hp, rfl⟩ ?_ ?_) | refine IWk.mk ⟨_, hp, rfl⟩ ?_ ?_)
        all_goals first | with_reducible rfl | omega | exact Or.inl (by decide) | (simp; done) | rfl | skip
        simp [slc8, hu]

/-! ### A plane packed -/
def zrun (l : List Int) : Nat := (l.takeWhile (· == 0)).length
def pk : List Int → List UInt8
  | [] => []
  | x :: r => if x = 0 then 0 :: (short (zrun r) ++ pk (r.drop (zrun r))) else short (zig x).toNat ++ pk r
termination_by l => l.length
decreasing_by
  · simp; omega
  · simp
def hdr (p : Pl) : List UInt8 := [u8 p.w, u8 p.h, u8 p.deep, u8 p.name.length] ++ p.name
def packed (p : Pl) : List UInt8 × Int := if pchk p = 0 then (hdr p ++ pk (dlt p), 0) else ([], pchk p)

theorem dlt_in (p : Pl) : ∀ x ∈ dlt p, -32768 ≤ x ∧ x ≤ 32767 := by
  intro x hx
  obtain ⟨i, _, rfl⟩ := List.mem_map.1 hx
  unfold dl1
  omega
theorem zig_val {x : Int} (h : -32768 ≤ x ∧ x ≤ 32767) : zig x = if x < 0 then -2 * x - 1 else 2 * x := by
  unfold zig
  split
  · rw [show wr .i64 (-2 * x) = -2 * x from wr_in (k := .i64) (by simp only [inI]; omega), wr_in (k := .i64) (by simp only [inI]; omega)]
  · rw [wr_in (k := .i64) (by simp only [inI]; omega)]
theorem drop_got {α : Type} {l : List α} {k : Nat} {x : α} (h : l[k]? = some x) : l.drop k = x :: l.drop (k + 1) := by
  obtain ⟨hk, rfl⟩ := List.getElem?_eq_some_iff.1 h
  exact List.drop_eq_getElem_cons hk

theorem zrun_eq : ∀ {l : List Int} {m : Nat}, (∀ j, j < m → l[j]? = some 0) → l[m]? ≠ some 0 → zrun l = m
  | [], 0, _, _ => rfl
  | [], m + 1, h, _ => by have := h 0 (by omega); simp at this
  | x :: r, 0, _, h2 => by
    have : x ≠ 0 := by simpa using h2
    simp [zrun, List.takeWhile_cons, this]
  | x :: r, m + 1, h, h2 => by
    have hx : x = 0 := by simpa using h 0 (by omega)
    have := zrun_eq (l := r) (m := m) (fun j hj => by simpa using h (j + 1) (by omega)) (by simpa using h2)
    simp only [zrun] at this ⊢
    rw [List.takeWhile_cons, if_pos (by simp [hx]), List.length_cons, this]


theorem pack_c {R : Env} (h : N164 R) (p : Pl) (hs : p.name.length ≤ 1073741824) (hl : (packed p).1.length ≤ 1073741824) : R.Pc 164 [.agg p.row] (.tup [.isl 1 (slc8 (packed p).1), .int .i64 (packed p).2]) :=
  h.o164.enter 100 rfl fun X bb hfit hp => by
    by_cases hc : pchk p = 0
    · have e1 : deltas p = (dlt p, 0) := by rw [deltas, if_pos hc]
      have e2 : packed p = (hdr p ++ pk (dlt p), 0) := by rw [packed, if_pos hc]
      have c1 := deltas_c h.n165 p hs
      rw [e1] at c1
      rw [e2] at hl ⊢
      have may := pchk_may hc
      have mw := may.w
      have mh := may.h
      have md := may.deep
      have hnl : p.name.length ≤ 16 := by
        have := may.name
        simp [named] at this
        omega
      have hll : (dlt p).length ≤ 16384 := by rw [dlt_len]; exact may.few
      repeat ((intro _u; clear _u); first | with_reducible first | refine cT ?_ | refine cF ?_ | refine cA ?_ | refine cB ?_ | refine aLn ?_ | refine cK ?_ | refine aS8 ?_ | refine wI ?_ | refine nD ?_ | refine aX rfl ?_ | refine vL rfl ?_)
      intro _u; clear _u
      refine ICall.pure h.n165.o165.hb c1 rfl ?_
      repeat ((intro _u; clear _u); first | with_reducible first | refine cT ?_ | refine cF ?_ | refine cA ?_ | refine cB ?_ | refine aLn ?_ | refine cK ?_ | refine aS8 ?_ | refine wI ?_ | refine nD ?_ | refine aX rfl ?_ | refine vL rfl ?_)
      intro _u; clear _u
      refine acnd_f (by rfl) ?_
      have hLb : ∀ x ∈ dlt p, -32768 ≤ x ∧ x ≤ 32767 := dlt_in p
      generalize dlt p = L at *
      have w8 : ((u8 p.w).toNat : Int) = p.w := u8_in (by omega)
      have h8 : ((u8 p.h).toNat : Int) = p.h := u8_in (by omega)
      have d8 : ((u8 p.deep).toNat : Int) = p.deep := u8_in (by omega)
      have n8 : ((u8 p.name.length).toNat : Int) = p.name.length := u8_in (by omega)
      dsimp only at hl
      repeat ((intro _u; clear _u); first | with_reducible first | refine cT ?_ | refine cF ?_ | refine cA ?_ | refine cB ?_ | refine aLn ?_ | refine cK ?_ | refine aS8 ?_ | refine wI ?_ | refine nD ?_ | refine aX rfl ?_ | refine vL rfl ?_)
      intro _u; clear _u
      refine ILoop.inv 100 (fun s : List UInt8 × Nat => s.1 ++ pk (L.drop s.2) = hdr p ++ pk L ∧ s.2 ≤ L.length) (fun s => ⟨[(4, .isl 1 (slcK .i64 L)), (6, .osl 1 s.1.length), (7, .int .i64 s.2)], [(1, .arr (R.ty 4) 1 (slc8 s.1))], 2⟩) (fun s => L.length - s.2) ((hdr p, 0)) ?_ ⟨⟨_, hp, rfl⟩, ?_, ?_⟩ ?_
      · exact ⟨by simp, Nat.zero_le _⟩
      · all_goals repeat' (first | exact True.intro | refine And.intro ?_ ?_ | (intro _u; clear _u) | (with_reducible first | refine eM ?_ ?_ | refine eF ?_ ?_ ?_ | refine eN ?_ | refine eL ?_ ?_ ?_ | refine eA ?_ ?_ | refine IWk.mk ⟨_, hp, rfl⟩ ?_ ?_) | refine IWk.mk ⟨_, hp, rfl⟩ ?_ ?_)
        all_goals first | with_reducible rfl | omega | exact Or.inl (by decide) | (simp; done) | rfl | skip
        simp [hdr]
      · all_goals repeat' (first | exact True.intro | refine And.intro ?_ ?_ | (intro _u; clear _u) | (with_reducible first | refine eM ?_ ?_ | refine eF ?_ ?_ ?_ | refine eN ?_ | refine eL ?_ ?_ ?_ | refine eA ?_ ?_ | refine IWk.mk ⟨_, hp, rfl⟩ ?_ ?_) | refine IWk.mk ⟨_, hp, rfl⟩ ?_ ?_)
        all_goals first | with_reducible rfl | omega | exact Or.inl (by decide) | (simp; done) | rfl | skip
        simp [hdr, slc8, w8, h8, d8, n8]
      · intro s hs
        obtain ⟨c, i⟩ := s
        obtain ⟨hs1, hs2⟩ := hs
        dsimp only at hs1 hs2 ⊢
        repeat ((intro _u; clear _u); first | with_reducible first | refine cT ?_ | refine cF ?_ | refine cA ?_ | refine cB ?_ | refine aLn ?_ | refine cK ?_ | refine aS8 ?_ | refine wI ?_ | refine nD ?_ | refine aX rfl ?_ | refine vL rfl ?_)
        intro _u; clear _u
        refine cS (fun h1 => ?_) (fun h1 => ?_)
        · obtain ⟨x, hx⟩ : ∃ u_, L[i]? = some u_ := ⟨_, List.getElem?_eq_getElem (by first | omega | (simp <;> omega))⟩
          repeat ((intro _u; clear _u); first | with_reducible first | refine cT ?_ | refine cF ?_ | refine cA ?_ | refine cB ?_ | refine aLn ?_ | refine cK ?_ | refine aS8 ?_ | refine wI ?_ | refine nD ?_ | refine aX rfl ?_ | refine vL rfl ?_)
          intro _u; clear _u
          refine eget_map hx ?_
          have xb := hLb x (List.mem_of_getElem? hx)
          rw [drop_got hx] at hs1
          repeat ((intro _u; clear _u); first | with_reducible first | refine cT ?_ | refine cF ?_ | refine cA ?_ | refine cB ?_ | refine aLn ?_ | refine cK ?_ | refine aS8 ?_ | refine wI ?_ | refine nD ?_ | refine aX rfl ?_ | refine vL rfl ?_)
          intro _u; clear _u
          refine cS (fun h2 => ?_) (fun h2 => ?_)
          · rw [pk, if_neg h2, ← List.append_assoc] at hs1
            have c2 := zig_c h.n168 x
            have hzn : zig x = ((zig x).toNat : Int) := by rw [zig_val xb]; split <;> omega
            have hzl : (zig x).toNat ≤ 131072 := by rw [zig_val xb]; split <;> omega
            rw [hzn] at c2
            generalize (zig x).toNat = n at *
            have hcl : (c ++ short n).length ≤ 1073741824 := by rw [← hs1, List.length_append] at hl; omega
            repeat ((intro _u; clear _u); first | with_reducible first | refine cT ?_ | refine cF ?_ | refine cA ?_ | refine cB ?_ | refine aLn ?_ | refine cK ?_ | refine aS8 ?_ | refine wI ?_ | refine nD ?_ | refine aX rfl ?_ | refine vL rfl ?_)
            intro _u; clear _u
            refine eget_map hx ?_
            repeat ((intro _u; clear _u); first | with_reducible first | refine cT ?_ | refine cF ?_ | refine cA ?_ | refine cB ?_ | refine aLn ?_ | refine cK ?_ | refine aS8 ?_ | refine wI ?_ | refine nD ?_ | refine aX rfl ?_ | refine vL rfl ?_)
            intro _u; clear _u
            refine ICall.pure h.n168.o168.hb c2 rfl ?_
            repeat ((intro _u; clear _u); first | with_reducible first | refine cT ?_ | refine cF ?_ | refine cA ?_ | refine cB ?_ | refine aLn ?_ | refine cK ?_ | refine aS8 ?_ | refine wI ?_ | refine nD ?_ | refine aX rfl ?_ | refine vL rfl ?_)
            intro _u; clear _u
            refine cM false [1] (short_c h.n187 c n (by omega) hcl) ?_
            repeat ((intro _u; clear _u); first | refine eK ?_ | refine eP ?_)
            repeat ((intro _u; clear _u); first | with_reducible first | refine cT ?_ | refine cF ?_ | refine cA ?_ | refine cB ?_ | refine aLn ?_ | refine cK ?_ | refine aS8 ?_ | refine wI ?_ | refine nD ?_ | refine aX rfl ?_ | refine vL rfl ?_)
            intro _u; clear _u
            refine nXa ((c ++ short n, i + 1)) ?_ ?_
            · exact ⟨hs1, by dsimp only; omega⟩
            · dsimp only; omega
          · rw [pk, if_pos h2] at hs1
            repeat ((intro _u; clear _u); first | with_reducible first | refine cT ?_ | refine cF ?_ | refine cA ?_ | refine cB ?_ | refine aLn ?_ | refine cK ?_ | refine aS8 ?_ | refine wI ?_ | refine nD ?_ | refine aX rfl ?_ | refine vL rfl ?_)
            intro _u; clear _u
            refine lPa 100 (fun n : Nat => i + n ≤ L.length ∧ ∀ j, j < n → L[i + j]? = some 0) (fun n => ⟨[(4, .isl 1 (slcK .i64 L)), (6, .osl 1 c.length), (7, .int .i64 i), (8, .int .i64 n)], [(1, .arr (R.ty 4) 1 (slc8 c))], 2⟩) (fun n => L.length - n) (0) ?_ ?_
            · exact ⟨by omega, fun j hj => by omega⟩
            · intro n hn
              obtain ⟨hn1, hn2⟩ := hn
              dsimp only
              repeat ((intro _u; clear _u); first | with_reducible first | refine cT ?_ | refine cF ?_ | refine cA ?_ | refine cB ?_ | refine aLn ?_ | refine cK ?_ | refine aS8 ?_ | refine wI ?_ | refine nD ?_ | refine aX rfl ?_ | refine vL rfl ?_)
              intro _u; clear _u
              refine cS (fun h3 => ?_) (fun h3 => ?_)
              · obtain ⟨y, hy⟩ : ∃ u_, L[((i:Int)+n).toNat]? = some u_ := ⟨_, List.getElem?_eq_getElem (by first | omega | (simp <;> omega))⟩
                repeat ((intro _u; clear _u); first | with_reducible first | refine cT ?_ | refine cF ?_ | refine cA ?_ | refine cB ?_ | refine aLn ?_ | refine cK ?_ | refine aS8 ?_ | refine wI ?_ | refine nD ?_ | refine aX rfl ?_ | refine vL rfl ?_)
                intro _u; clear _u
                refine eget_map hy ?_
                rw [show ((i : Int) + n).toNat = i + n by omega] at hy
                repeat ((intro _u; clear _u); first | with_reducible first | refine cT ?_ | refine cF ?_ | refine cA ?_ | refine cB ?_ | refine aLn ?_ | refine cK ?_ | refine aS8 ?_ | refine wI ?_ | refine nD ?_ | refine aX rfl ?_ | refine vL rfl ?_)
                intro _u; clear _u
                refine cS (fun h4 => ?_) (fun h4 => ?_)
                · repeat ((intro _u; clear _u); first | with_reducible first | refine cT ?_ | refine cF ?_ | refine cA ?_ | refine cB ?_ | refine aLn ?_ | refine cK ?_ | refine aS8 ?_ | refine wI ?_ | refine nD ?_ | refine aX rfl ?_ | refine vL rfl ?_)
                  intro _u; clear _u
                  refine nXa (n + 1) ?_ ?_
                  · refine ⟨by omega, fun j hj => ?_⟩
                    by_cases e : j = n
                    · rw [e, hy, h4]
                    · exact hn2 j (by omega)
                  · omega
                · have hn0 : 1 ≤ n := by
                    rcases Nat.eq_zero_or_pos n with e | e
                    · rw [e, Nat.add_zero, hx] at hy
                      exact (h4 ((Option.some.inj hy).symm.trans h2)).elim
                    · exact e
                  have hz : zrun (L.drop (i + 1)) = n - 1 := zrun_eq (fun j hj => by rw [List.getElem?_drop, show i + 1 + j = i + (j + 1) by omega]; exact hn2 _ (by omega)) (by rw [List.getElem?_drop, show i + 1 + (n - 1) = i + n by omega, hy]; simpa using h4)
                  rw [hz, List.drop_drop, show i + 1 + (n - 1) = i + n by omega] at hs1
                  have hs3 : (c ++ [0] ++ short (n - 1)) ++ pk (L.drop (i + n)) = hdr p ++ pk L := by rw [← hs1]; simp
                  have hcl : (c ++ [0] ++ short (n - 1)).length ≤ 1073741824 := by rw [← hs3, List.length_append] at hl; omega
                  have hcl2 : c.length + 1 ≤ 1073741824 := by simp at hcl; omega
                  repeat ((intro _u; clear _u); first | with_reducible first | refine cT ?_ | refine cF ?_ | refine cA ?_ | refine cB ?_ | refine aLn ?_ | refine cK ?_ | refine aS8 ?_ | refine wI ?_ | refine nD ?_ | refine aX rfl ?_ | refine vL rfl ?_)
                  rw [show slc8 c ++ [[AV.int .u8 0]] = slc8 (c ++ [0]) by simp [slc8]]
                  repeat ((intro _u; clear _u); first | with_reducible first | refine cT ?_ | refine cF ?_ | refine cA ?_ | refine cB ?_ | refine aLn ?_ | refine cK ?_ | refine aS8 ?_ | refine wI ?_ | refine nD ?_ | refine aX rfl ?_ | refine vL rfl ?_)
                  intro _u; clear _u
                  refine cM false [1] (short_c h.n187 (c ++ [0]) (n - 1) (by omega) hcl) ?_
                  repeat ((intro _u; clear _u); first | refine eK ?_ | refine eP ?_)
                  repeat ((intro _u; clear _u); first | with_reducible first | refine cT ?_ | refine cF ?_ | refine cA ?_ | refine cB ?_ | refine aLn ?_ | refine cK ?_ | refine aS8 ?_ | refine wI ?_ | refine nD ?_ | refine aX rfl ?_ | refine vL rfl ?_)
                  intro _u; clear _u
                  refine nXa ((c ++ [0] ++ short (n - 1), i + n)) ?_ ?_
                  · exact ⟨hs3, by dsimp only; omega⟩
                  · dsimp only; omega
              · have hn0 : 1 ≤ n := by omega
                have hz : zrun (L.drop (i + 1)) = n - 1 := zrun_eq (fun j hj => by rw [List.getElem?_drop, show i + 1 + j = i + (j + 1) by omega]; exact hn2 _ (by omega)) (by rw [List.getElem?_drop, show i + 1 + (n - 1) = i + n by omega, List.getElem?_eq_none (by omega)]; simp)
                rw [hz, List.drop_drop, show i + 1 + (n - 1) = i + n by omega] at hs1
                have hs3 : (c ++ [0] ++ short (n - 1)) ++ pk (L.drop (i + n)) = hdr p ++ pk L := by rw [← hs1]; simp
                have hcl : (c ++ [0] ++ short (n - 1)).length ≤ 1073741824 := by rw [← hs3, List.length_append] at hl; omega
                have hcl2 : c.length + 1 ≤ 1073741824 := by simp at hcl; omega
                repeat ((intro _u; clear _u); first | with_reducible first | refine cT ?_ | refine cF ?_ | refine cA ?_ | refine cB ?_ | refine aLn ?_ | refine cK ?_ | refine aS8 ?_ | refine wI ?_ | refine nD ?_ | refine aX rfl ?_ | refine vL rfl ?_)
                rw [show slc8 c ++ [[AV.int .u8 0]] = slc8 (c ++ [0]) by simp [slc8]]
                repeat ((intro _u; clear _u); first | with_reducible first | refine cT ?_ | refine cF ?_ | refine cA ?_ | refine cB ?_ | refine aLn ?_ | refine cK ?_ | refine aS8 ?_ | refine wI ?_ | refine nD ?_ | refine aX rfl ?_ | refine vL rfl ?_)
                intro _u; clear _u
                refine cM false [1] (short_c h.n187 (c ++ [0]) (n - 1) (by omega) hcl) ?_
                repeat ((intro _u; clear _u); first | refine eK ?_ | refine eP ?_)
                repeat ((intro _u; clear _u); first | with_reducible first | refine cT ?_ | refine cF ?_ | refine cA ?_ | refine cB ?_ | refine aLn ?_ | refine cK ?_ | refine aS8 ?_ | refine wI ?_ | refine nD ?_ | refine aX rfl ?_ | refine vL rfl ?_)
                intro _u; clear _u
                refine nXa ((c ++ [0] ++ short (n - 1), i + n)) ?_ ?_
                · exact ⟨hs3, by dsimp only; omega⟩
                · dsimp only; omega
        · rw [List.drop_of_length_le (by omega), pk, List.append_nil] at hs1
          rw [← hs1]
          repeat ((intro _u; clear _u); first | with_reducible first | refine cT ?_ | refine cF ?_ | refine cA ?_ | refine cB ?_ | refine aLn ?_ | refine cK ?_ | refine aS8 ?_ | refine wI ?_ | refine nD ?_ | refine aX rfl ?_ | refine vL rfl ?_)
          intro _u; clear _u
          exact rT
    · have e1 : deltas p = ([], pchk p) := by rw [deltas, if_neg hc]
      have e2 : packed p = ([], pchk p) := by rw [packed, if_neg hc]
      have c1 := deltas_c h.n165 p hs
      rw [e1] at c1
      rw [e2]
      repeat ((intro _u; clear _u); first | with_reducible first | refine cT ?_ | refine cF ?_ | refine cA ?_ | refine cB ?_ | refine aLn ?_ | refine cK ?_ | refine aS8 ?_ | refine wI ?_ | refine nD ?_ | refine aX rfl ?_ | refine vL rfl ?_)
      intro _u; clear _u
      refine ICall.pure h.n165.o165.hb c1 rfl ?_
      repeat ((intro _u; clear _u); first | with_reducible first | refine cT ?_ | refine cF ?_ | refine cA ?_ | refine cB ?_ | refine aLn ?_ | refine cK ?_ | refine aS8 ?_ | refine wI ?_ | refine nD ?_ | refine aX rfl ?_ | refine vL rfl ?_)
      intro _u; clear _u
      refine acnd_t (by simpa using hc) ?_
      repeat ((intro _u; clear _u); first | with_reducible first | refine cT ?_ | refine cF ?_ | refine cA ?_ | refine cB ?_ | refine aLn ?_ | refine cK ?_ | refine aS8 ?_ | refine wI ?_ | refine nD ?_ | refine aX rfl ?_ | refine vL rfl ?_)
      intro _u; clear _u
      exact rT
end Go.UM

/- What the library's functions hand back. -/


namespace Go.UM
open Go.AM
set_option maxRecDepth 4000

/-- bytes.Equal. -/
theorem eq8_c {R : Env} (h : N47 R) (a b : List UInt8) : R.Pc 47 [.isl 1 (slc8 a), .isl 1 (slc8 b)] (.bool (a == b)) :=
  h.o47.enter 60 rfl fun X bb hfit hp => by
    repeat ((intro _u; clear _u); first | with_reducible first | refine cT ?_ | refine cF ?_ | refine cA ?_ | refine cB ?_ | refine aLn ?_ | refine cK ?_ | refine aS8 ?_ | refine wI ?_ | refine nD ?_ | refine aX rfl ?_ | refine vL rfl ?_)
    intro _u; clear _u
    exact rT
end Go.UM

/- The statements of chapter 39. -/



namespace Go.UM
open Go.AM
set_option maxRecDepth 4000

def P10 : Pl := ⟨10, 10, 1, [65], List.replicate 100 3⟩
theorem packed10 : packed P10 = ([10, 10, 1, 1, 65, 6, 0, 98], 0) := by
  have h1 : pchk P10 = 0 := by decide +kernel
  have h2 : dlt P10 = 3 :: 0 :: List.replicate 98 0 := by decide +kernel
  have h3 : zrun (List.replicate 98 0) = 98 := by decide +kernel
  rw [packed, if_pos h1, h2, pk, if_neg (by decide), pk, if_pos rfl, h3, show (List.replicate 98 (0 : Int)).drop 98 = [] by decide +kernel, pk, short_small (n := 98) (by decide), show (zig 3).toNat = 6 by decide +kernel, short_small (n := 6) (by decide)]
  rfl

theorem works39_c {R : Env} (h : N166 R) : R.Pc 166 [] (.bool true) :=
  h.o166.enter 100 rfl fun X bb hfit hp => by
    repeat ((intro _u; clear _u); first | with_reducible first | refine cT ?_ | refine cF ?_ | refine cA ?_ | refine cB ?_ | refine aLn ?_ | refine cK ?_ | refine aS8 ?_ | refine wI ?_ | refine nD ?_ | refine aX rfl ?_ | refine vL rfl ?_)
    intro _u; clear _u
    refine ILoop.one 100 ?_
    repeat ((intro _u; clear _u); first | with_reducible first | refine cT ?_ | refine cF ?_ | refine cA ?_ | refine cB ?_ | refine aLn ?_ | refine cK ?_ | refine aS8 ?_ | refine wI ?_ | refine nD ?_ | refine aX rfl ?_ | refine vL rfl ?_)
    intro _u; clear _u
    refine acnd_t (by decide) ?_
    repeat ((intro _u; clear _u); first | with_reducible first | refine cT ?_ | refine cF ?_ | refine cA ?_ | refine cB ?_ | refine aLn ?_ | refine cK ?_ | refine aS8 ?_ | refine wI ?_ | refine nD ?_ | refine aX rfl ?_ | refine vL rfl ?_)
    intro _u; clear _u
    refine lPa 100 (fun k : Nat => 1 ≤ k ∧ k ≤ 100) (fun k => ⟨[(1, .loc 0 1 0 0), (5, .int .i64 k)], [(2, .arr (R.ty 10) 1 (slcK .i64 (List.replicate k 3))), (0, .var (R.ty 20) [.int .i64 10, .int .i64 10, .int .i64 1, .str [65], .osl 2 k])], 3⟩) (fun k => 100 - k) (1) ?_ ?_
    · exact ⟨by omega, by omega⟩
    · intro k hk
      dsimp only
      repeat ((intro _u; clear _u); first | with_reducible first | refine cT ?_ | refine cF ?_ | refine cA ?_ | refine cB ?_ | refine aLn ?_ | refine cK ?_ | refine aS8 ?_ | refine wI ?_ | refine nD ?_ | refine aX rfl ?_ | refine vL rfl ?_)
      intro _u; clear _u
      refine cS (fun h1 => ?_) (fun h1 => ?_)
      · repeat ((intro _u; clear _u); first | with_reducible first | refine cT ?_ | refine cF ?_ | refine cA ?_ | refine cB ?_ | refine aLn ?_ | refine cK ?_ | refine aS8 ?_ | refine wI ?_ | refine nD ?_ | refine aX rfl ?_ | refine vL rfl ?_)
        intro _u; clear _u
        refine nX (k + 1) ?_ ?_ ⟨_, hp, rfl⟩ ?_ ?_
        · omega
        · omega
        · all_goals repeat' (first | exact True.intro | refine And.intro ?_ ?_ | (intro _u; clear _u) | (with_reducible first | refine eM ?_ ?_ | refine eF ?_ ?_ ?_ | refine eN ?_ | refine eL ?_ ?_ ?_ | refine eA ?_ ?_ | refine IWk.mk ⟨_, hp, rfl⟩ ?_ ?_) | refine IWk.mk ⟨_, hp, rfl⟩ ?_ ?_)
          all_goals first | with_reducible rfl | omega | exact Or.inl (by decide) | (simp; done) | rfl | skip
        · all_goals repeat' (first | exact True.intro | refine And.intro ?_ ?_ | (intro _u; clear _u) | (with_reducible first | refine eM ?_ ?_ | refine eF ?_ ?_ ?_ | refine eN ?_ | refine eL ?_ ?_ ?_ | refine eA ?_ ?_ | refine IWk.mk ⟨_, hp, rfl⟩ ?_ ?_) | refine IWk.mk ⟨_, hp, rfl⟩ ?_ ?_)
          all_goals first | with_reducible rfl | omega | exact Or.inl (by decide) | (simp; done) | rfl | skip
          simp [slcK, List.replicate_succ']
      · obtain rfl : k = 100 := by omega
        repeat ((intro _u; clear _u); first | with_reducible first | refine cT ?_ | refine cF ?_ | refine cA ?_ | refine cB ?_ | refine aLn ?_ | refine cK ?_ | refine aS8 ?_ | refine wI ?_ | refine nD ?_ | refine aX rfl ?_ | refine vL rfl ?_)
        intro _u; clear _u
        refine ICall.let [2] rfl hp rfl ?_
        repeat ((intro _u; clear _u); first | refine eZ ?_ | refine FrzC.drop ?_)
        have c1 := pack_c h.n164 P10 (by decide) (by rw [packed10]; decide)
        rw [packed10] at c1
        repeat ((intro _u; clear _u); first | with_reducible first | refine cT ?_ | refine cF ?_ | refine cA ?_ | refine cB ?_ | refine aLn ?_ | refine cK ?_ | refine aS8 ?_ | refine wI ?_ | refine nD ?_ | refine aX rfl ?_ | refine vL rfl ?_)
        intro _u; clear _u
        refine ICall.pure h.n164.o164.hb c1 rfl ?_
        repeat ((intro _u; clear _u); first | with_reducible first | refine cT ?_ | refine cF ?_ | refine cA ?_ | refine cB ?_ | refine aLn ?_ | refine cK ?_ | refine aS8 ?_ | refine wI ?_ | refine nD ?_ | refine aX rfl ?_ | refine vL rfl ?_)
        intro _u; clear _u
        refine acnd_t (by rfl) ?_
        repeat ((intro _u; clear _u); first | with_reducible first | refine cT ?_ | refine cF ?_ | refine cA ?_ | refine cB ?_ | refine aLn ?_ | refine cK ?_ | refine aS8 ?_ | refine wI ?_ | refine nD ?_ | refine aX rfl ?_ | refine vL rfl ?_)
        intro _u; clear _u
        refine cM true [] ((eq8_c h.n47 [10, 10, 1, 1, 65, 6, 0, 98] [10, 10, 1, 1, 65, 6, 0, 98]).mc h.n47.o47.hb) ?_
        repeat ((intro _u; clear _u); first | refine eK ?_ | refine eP ?_)
        repeat ((intro _u; clear _u); first | with_reducible first | refine cT ?_ | refine cF ?_ | refine cA ?_ | refine cB ?_ | refine aLn ?_ | refine cK ?_ | refine aS8 ?_ | refine wI ?_ | refine nD ?_ | refine aX rfl ?_ | refine vL rfl ?_)
        intro _u; clear _u
        exact rT

theorem zig_small {x : Int} (h : -2147483648 ≤ x ∧ x ≤ 2147483647) : zig x = if x < 0 then -2 * x - 1 else 2 * x := by
  unfold zig
  split
  · rw [show wr .i64 (-2 * x) = -2 * x from wr_in (k := .i64) (by simp only [inI]; omega), wr_in (k := .i64) (by simp only [inI]; omega)]
  · rw [wr_in (k := .i64) (by simp only [inI]; omega)]

theorem zag_law {R : Env} (h : N167 R) (k : Int) (hk : inI .i32 k) : R.Pc 167 [.int .i32 k] (.bool true) :=
  h.o167.enter 100 rfl fun X bb hfit hp => by
    simp only [inI] at hk
    have z1 := zig_small hk
    have z2 : zag (zig k) = k := by
      rw [z1]; unfold zag; split <;> split <;> omega
    have z3 : 0 ≤ zig k ∧ zig k ≤ 4294967296 := by rw [z1]; split <;> omega
    have c2 := zag_c h.n169 (zig k) (by simp only [inI]; omega)
    rw [z2] at c2
    repeat ((intro _u; clear _u); first | with_reducible first | refine cT ?_ | refine cF ?_ | refine cA ?_ | refine cB ?_ | refine aLn ?_ | refine cK ?_ | refine aS8 ?_ | refine wI ?_ | refine nD ?_ | refine aX rfl ?_ | refine vL rfl ?_)
    intro _u; clear _u
    refine ICall.pure h.n168.o168.hb (zig_c h.n168 k) rfl ?_
    repeat ((intro _u; clear _u); first | with_reducible first | refine cT ?_ | refine cF ?_ | refine cA ?_ | refine cB ?_ | refine aLn ?_ | refine cK ?_ | refine aS8 ?_ | refine wI ?_ | refine nD ?_ | refine aX rfl ?_ | refine vL rfl ?_)
    intro _u; clear _u
    refine ICall.pure h.n169.o169.hb c2 rfl ?_
    repeat ((intro _u; clear _u); first | with_reducible first | refine cT ?_ | refine cF ?_ | refine cA ?_ | refine cB ?_ | refine aLn ?_ | refine cK ?_ | refine aS8 ?_ | refine wI ?_ | refine nD ?_ | refine aX rfl ?_ | refine vL rfl ?_)
    intro _u; clear _u
    refine acnd_f (by simp) ?_
    repeat ((intro _u; clear _u); first | with_reducible first | refine cT ?_ | refine cF ?_ | refine cA ?_ | refine cB ?_ | refine aLn ?_ | refine cK ?_ | refine aS8 ?_ | refine wI ?_ | refine nD ?_ | refine aX rfl ?_ | refine vL rfl ?_)
    intro _u; clear _u
    refine ICall.pure h.n168.o168.hb (zig_c h.n168 k) rfl ?_
    repeat ((intro _u; clear _u); first | with_reducible first | refine cT ?_ | refine cF ?_ | refine cA ?_ | refine cB ?_ | refine aLn ?_ | refine cK ?_ | refine aS8 ?_ | refine wI ?_ | refine nD ?_ | refine aX rfl ?_ | refine vL rfl ?_)
    intro _u; clear _u
    refine acnd_f (by simp; omega) ?_
    repeat ((intro _u; clear _u); first | with_reducible first | refine cT ?_ | refine cF ?_ | refine cA ?_ | refine cB ?_ | refine aLn ?_ | refine cK ?_ | refine aS8 ?_ | refine wI ?_ | refine nD ?_ | refine aX rfl ?_ | refine vL rfl ?_)
    intro _u; clear _u
    refine cS (fun h1 => ?_) (fun h1 => ?_)
    · repeat ((intro _u; clear _u); first | with_reducible first | refine cT ?_ | refine cF ?_ | refine cA ?_ | refine cB ?_ | refine aLn ?_ | refine cK ?_ | refine aS8 ?_ | refine wI ?_ | refine nD ?_ | refine aX rfl ?_ | refine vL rfl ?_)
      intro _u; clear _u
      refine ICall.pure h.n166.o166.hb (works39_c h.n166) rfl ?_
      repeat ((intro _u; clear _u); first | with_reducible first | refine cT ?_ | refine cF ?_ | refine cA ?_ | refine cB ?_ | refine aLn ?_ | refine cK ?_ | refine aS8 ?_ | refine wI ?_ | refine nD ?_ | refine aX rfl ?_ | refine vL rfl ?_)
      intro _u; clear _u
      exact rT
    · have z4 : zag k = k / 2 ∨ zag k = -(k / 2) - 1 := by unfold zag; split <;> (try split) <;> omega
      have z5 := zig_small (x := zag k) (by omega)
      have z6 : zig (zag k) = k := by
        rw [z5]; unfold zag; repeat' split
        all_goals omega
      have c3 := zig_c h.n168 (zag k)
      rw [z6] at c3
      repeat ((intro _u; clear _u); first | with_reducible first | refine cT ?_ | refine cF ?_ | refine cA ?_ | refine cB ?_ | refine aLn ?_ | refine cK ?_ | refine aS8 ?_ | refine wI ?_ | refine nD ?_ | refine aX rfl ?_ | refine vL rfl ?_)
      intro _u; clear _u
      refine ICall.pure h.n169.o169.hb (zag_c h.n169 k (by simp only [inI]; omega)) rfl ?_
      repeat ((intro _u; clear _u); first | with_reducible first | refine cT ?_ | refine cF ?_ | refine cA ?_ | refine cB ?_ | refine aLn ?_ | refine cK ?_ | refine aS8 ?_ | refine wI ?_ | refine nD ?_ | refine aX rfl ?_ | refine vL rfl ?_)
      intro _u; clear _u
      refine ICall.pure h.n168.o168.hb c3 rfl ?_
      repeat ((intro _u; clear _u); first | with_reducible first | refine cT ?_ | refine cF ?_ | refine cA ?_ | refine cB ?_ | refine aLn ?_ | refine cK ?_ | refine aS8 ?_ | refine wI ?_ | refine nD ?_ | refine aX rfl ?_ | refine vL rfl ?_)
      intro _u; clear _u
      refine acnd_t (by simp) ?_
      repeat ((intro _u; clear _u); first | with_reducible first | refine cT ?_ | refine cF ?_ | refine cA ?_ | refine cB ?_ | refine aLn ?_ | refine cK ?_ | refine aS8 ?_ | refine wI ?_ | refine nD ?_ | refine aX rfl ?_ | refine vL rfl ?_)
      intro _u; clear _u
      refine ICall.pure h.n166.o166.hb (works39_c h.n166) rfl ?_
      repeat ((intro _u; clear _u); first | with_reducible first | refine cT ?_ | refine cF ?_ | refine cA ?_ | refine cB ?_ | refine aLn ?_ | refine cK ?_ | refine aS8 ?_ | refine wI ?_ | refine nD ?_ | refine aX rfl ?_ | refine vL rfl ?_)
      intro _u; clear _u
      exact rT
end Go.UM

/- The statements of chapter 39, part 4: PackDeltas. -/


namespace Go.UM
open Go.AM
set_option maxRecDepth 4000


theorem rexp_n {R : Env} (h : N183 R) (a w d : Int) (nm : List UInt8) (hw : 1 ≤ w ∧ w ≤ 64) (hd : 1 ≤ d ∧ d ≤ 4) : R.Pc 183 [.agg [.int .i64 w, .int .i64 a, .int .i64 d, .str nm, .nils], .nils, .int .i64 0] (.int .i64 0) :=
  h.o183.enter 100 rfl fun X bb hfit hp => by
    repeat ((intro _u; clear _u); first | with_reducible first | refine cT ?_ | refine cF ?_ | refine cA ?_ | refine cB ?_ | refine aLn ?_ | refine cK ?_ | refine aS8 ?_ | refine wI ?_ | refine nD ?_ | refine aX rfl ?_ | refine vL rfl ?_)
    intro _u; clear _u
    rw [Int.zero_tdiv]
    refine wI ?_
    repeat ((intro _u; clear _u); first | with_reducible first | refine cT ?_ | refine cF ?_ | refine cA ?_ | refine cB ?_ | refine aLn ?_ | refine cK ?_ | refine aS8 ?_ | refine wI ?_ | refine nD ?_ | refine aX rfl ?_ | refine vL rfl ?_)
    intro _u; clear _u
    rw [Int.zero_tdiv]
    refine wI ?_
    repeat ((intro _u; clear _u); first | with_reducible first | refine cT ?_ | refine cF ?_ | refine cA ?_ | refine cB ?_ | refine aLn ?_ | refine cK ?_ | refine aS8 ?_ | refine wI ?_ | refine nD ?_ | refine aX rfl ?_ | refine vL rfl ?_)
    intro _u; clear _u
    rw [Int.zero_tdiv]
    refine wI ?_
    repeat ((intro _u; clear _u); first | with_reducible first | refine cT ?_ | refine cF ?_ | refine cA ?_ | refine cB ?_ | refine aLn ?_ | refine cK ?_ | refine aS8 ?_ | refine wI ?_ | refine nD ?_ | refine aX rfl ?_ | refine vL rfl ?_)
    rw [Int.zero_tmod, Int.zero_tmod]
    repeat ((intro _u; clear _u); first | with_reducible first | refine cT ?_ | refine cF ?_ | refine cA ?_ | refine cB ?_ | refine aLn ?_ | refine cK ?_ | refine aS8 ?_ | refine wI ?_ | refine nD ?_ | refine aX rfl ?_ | refine vL rfl ?_)
    intro _u; clear _u
    refine acnd_t (by decide) ?_
    repeat ((intro _u; clear _u); first | with_reducible first | refine cT ?_ | refine cF ?_ | refine cA ?_ | refine cB ?_ | refine aLn ?_ | refine cK ?_ | refine aS8 ?_ | refine wI ?_ | refine nD ?_ | refine aX rfl ?_ | refine vL rfl ?_)
    intro _u; clear _u
    refine acnd_t (by decide) ?_
    repeat ((intro _u; clear _u); first | with_reducible first | refine cT ?_ | refine cF ?_ | refine cA ?_ | refine cB ?_ | refine aLn ?_ | refine cK ?_ | refine aS8 ?_ | refine wI ?_ | refine nD ?_ | refine aX rfl ?_ | refine vL rfl ?_)
    intro _u; clear _u
    exact rT

theorem rwhole_c {R : Env} (h : N174 R) (p : Pl) (ds : List Int) (hs : p.name.length ≤ 1073741824) (hl : ds.length ≤ 1073741824) : R.Pc 174 [.agg p.row, .isl 1 (slcK .i64 ds)] (.tup [.agg (whole p ds).1.row, .int .i64 (whole p ds).2]) :=
  h.o174.enter 100 rfl fun X bb hfit hp => by
    generalize hq : whole p ds = q
    by_cases hb : dimBad p
    · rw [whole_d hb] at hq
      unfold dimBad at hb
      repeat ((intro _u; clear _u); first | with_reducible first | refine cT ?_ | refine cF ?_ | refine cA ?_ | refine cB ?_ | refine aLn ?_ | refine cK ?_ | refine aS8 ?_ | refine wI ?_ | refine nD ?_ | refine aX rfl ?_ | refine vL rfl ?_)
      intro _u; clear _u
      refine cS (fun h1 => ?_) (fun h1 => ?_)
      · subst hq
        repeat ((intro _u; clear _u); first | with_reducible first | refine cT ?_ | refine cF ?_ | refine cA ?_ | refine cB ?_ | refine aLn ?_ | refine cK ?_ | refine aS8 ?_ | refine wI ?_ | refine nD ?_ | refine aX rfl ?_ | refine vL rfl ?_)
        intro _u; clear _u
        exact rT
      · repeat ((intro _u; clear _u); first | with_reducible first | refine cT ?_ | refine cF ?_ | refine cA ?_ | refine cB ?_ | refine aLn ?_ | refine cK ?_ | refine aS8 ?_ | refine wI ?_ | refine nD ?_ | refine aX rfl ?_ | refine vL rfl ?_)
        intro _u; clear _u
        refine cS (fun h2 => ?_) (fun h2 => ?_)
        · subst hq
          repeat ((intro _u; clear _u); first | with_reducible first | refine cT ?_ | refine cF ?_ | refine cA ?_ | refine cB ?_ | refine aLn ?_ | refine cK ?_ | refine aS8 ?_ | refine wI ?_ | refine nD ?_ | refine aX rfl ?_ | refine vL rfl ?_)
          intro _u; clear _u
          exact rT
        · repeat ((intro _u; clear _u); first | with_reducible first | refine cT ?_ | refine cF ?_ | refine cA ?_ | refine cB ?_ | refine aLn ?_ | refine cK ?_ | refine aS8 ?_ | refine wI ?_ | refine nD ?_ | refine aX rfl ?_ | refine vL rfl ?_)
          intro _u; clear _u
          refine cS (fun h3 => ?_) (fun h3 => ?_)
          · subst hq
            repeat ((intro _u; clear _u); first | with_reducible first | refine cT ?_ | refine cF ?_ | refine cA ?_ | refine cB ?_ | refine aLn ?_ | refine cK ?_ | refine aS8 ?_ | refine wI ?_ | refine nD ?_ | refine aX rfl ?_ | refine vL rfl ?_)
            intro _u; clear _u
            exact rT
          · repeat ((intro _u; clear _u); first | with_reducible first | refine cT ?_ | refine cF ?_ | refine cA ?_ | refine cB ?_ | refine aLn ?_ | refine cK ?_ | refine aS8 ?_ | refine wI ?_ | refine nD ?_ | refine aX rfl ?_ | refine vL rfl ?_)
            intro _u; clear _u
            refine cS (fun h4 => ?_) (fun h4 => ?_)
            · subst hq
              repeat ((intro _u; clear _u); first | with_reducible first | refine cT ?_ | refine cF ?_ | refine cA ?_ | refine cB ?_ | refine aLn ?_ | refine cK ?_ | refine aS8 ?_ | refine wI ?_ | refine nD ?_ | refine aX rfl ?_ | refine vL rfl ?_)
              intro _u; clear _u
              exact rT
            · repeat ((intro _u; clear _u); first | with_reducible first | refine cT ?_ | refine cF ?_ | refine cA ?_ | refine cB ?_ | refine aLn ?_ | refine cK ?_ | refine aS8 ?_ | refine wI ?_ | refine nD ?_ | refine aX rfl ?_ | refine vL rfl ?_)
              intro _u; clear _u
              refine cS (fun h5 => ?_) (fun h5 => ?_)
              · subst hq
                repeat ((intro _u; clear _u); first | with_reducible first | refine cT ?_ | refine cF ?_ | refine cA ?_ | refine cB ?_ | refine aLn ?_ | refine cK ?_ | refine aS8 ?_ | refine wI ?_ | refine nD ?_ | refine aX rfl ?_ | refine vL rfl ?_)
                intro _u; clear _u
                exact rT
              · repeat ((intro _u; clear _u); first | with_reducible first | refine cT ?_ | refine cF ?_ | refine cA ?_ | refine cB ?_ | refine aLn ?_ | refine cK ?_ | refine aS8 ?_ | refine wI ?_ | refine nD ?_ | refine aX rfl ?_ | refine vL rfl ?_)
                intro _u; clear _u
                refine acnd_t (by (simp; omega)) ?_
                subst hq
                repeat ((intro _u; clear _u); first | with_reducible first | refine cT ?_ | refine cF ?_ | refine cA ?_ | refine cB ?_ | refine aLn ?_ | refine cK ?_ | refine aS8 ?_ | refine wI ?_ | refine nD ?_ | refine aX rfl ?_ | refine vL rfl ?_)
                intro _u; clear _u
                exact rT
    · have hb' := hb
      unfold dimBad at hb'
      repeat ((intro _u; clear _u); first | with_reducible first | refine cT ?_ | refine cF ?_ | refine cA ?_ | refine cB ?_ | refine aLn ?_ | refine cK ?_ | refine aS8 ?_ | refine wI ?_ | refine nD ?_ | refine aX rfl ?_ | refine vL rfl ?_)
      intro _u; clear _u
      refine acnd_f (by simp; omega) ?_
      repeat ((intro _u; clear _u); first | with_reducible first | refine cT ?_ | refine cF ?_ | refine cA ?_ | refine cB ?_ | refine aLn ?_ | refine cK ?_ | refine aS8 ?_ | refine wI ?_ | refine nD ?_ | refine aX rfl ?_ | refine vL rfl ?_)
      intro _u; clear _u
      refine acnd_f (by simp; omega) ?_
      repeat ((intro _u; clear _u); first | with_reducible first | refine cT ?_ | refine cF ?_ | refine cA ?_ | refine cB ?_ | refine aLn ?_ | refine cK ?_ | refine aS8 ?_ | refine wI ?_ | refine nD ?_ | refine aX rfl ?_ | refine vL rfl ?_)
      intro _u; clear _u
      refine acnd_f (by simp; omega) ?_
      repeat ((intro _u; clear _u); first | with_reducible first | refine cT ?_ | refine cF ?_ | refine cA ?_ | refine cB ?_ | refine aLn ?_ | refine cK ?_ | refine aS8 ?_ | refine wI ?_ | refine nD ?_ | refine aX rfl ?_ | refine vL rfl ?_)
      intro _u; clear _u
      refine acnd_f (by simp; omega) ?_
      repeat ((intro _u; clear _u); first | with_reducible first | refine cT ?_ | refine cF ?_ | refine cA ?_ | refine cB ?_ | refine aLn ?_ | refine cK ?_ | refine aS8 ?_ | refine wI ?_ | refine nD ?_ | refine aX rfl ?_ | refine vL rfl ?_)
      intro _u; clear _u
      refine acnd_f (by simp; omega) ?_
      repeat ((intro _u; clear _u); first | with_reducible first | refine cT ?_ | refine cF ?_ | refine cA ?_ | refine cB ?_ | refine aLn ?_ | refine cK ?_ | refine aS8 ?_ | refine wI ?_ | refine nD ?_ | refine aX rfl ?_ | refine vL rfl ?_)
      intro _u; clear _u
      refine acnd_f (by simp; omega) ?_
      have b1 : 1 ≤ p.w * p.h ∧ p.w * p.h ≤ 4096 := ⟨by have := Int.mul_le_mul (show 1 ≤ p.w by omega) (show 1 ≤ p.h by omega) (by omega) (by omega); omega, by have := Int.mul_le_mul (show p.w ≤ 64 by omega) (show p.h ≤ 64 by omega) (by omega) (by omega); omega⟩
      have b2 : 1 ≤ p.w * p.h * p.deep ∧ p.w * p.h * p.deep ≤ 16384 := ⟨by have := Int.mul_le_mul b1.1 (show 1 ≤ p.deep by omega) (by omega) (by omega); omega, by have := Int.mul_le_mul b1.2 (show p.deep ≤ 4 by omega) (by omega) (by omega); omega⟩
      have hw : 1 ≤ p.w ∧ p.w ≤ 64 := by omega
      have hd : 1 ≤ p.deep ∧ p.deep ≤ 4 := by omega
      repeat ((intro _u; clear _u); first | with_reducible first | refine cT ?_ | refine cF ?_ | refine cA ?_ | refine cB ?_ | refine aLn ?_ | refine cK ?_ | refine aS8 ?_ | refine wI ?_ | refine nD ?_ | refine aX rfl ?_ | refine vL rfl ?_)
      intro _u; clear _u
      refine cS (fun h2 => ?_) (fun h2 => ?_)
      · rw [whole_l h2] at hq
        subst hq
        repeat ((intro _u; clear _u); first | with_reducible first | refine cT ?_ | refine cF ?_ | refine cA ?_ | refine cB ?_ | refine aLn ?_ | refine cK ?_ | refine aS8 ?_ | refine wI ?_ | refine nD ?_ | refine aX rfl ?_ | refine vL rfl ?_)
        intro _u; clear _u
        exact rT
      · repeat ((intro _u; clear _u); first | with_reducible first | refine cT ?_ | refine cF ?_ | refine cA ?_ | refine cB ?_ | refine aLn ?_ | refine cK ?_ | refine aS8 ?_ | refine wI ?_ | refine nD ?_ | refine aX rfl ?_ | refine vL rfl ?_)
        intro _u; clear _u
        refine ILoop.one 100 ?_
        repeat ((intro _u; clear _u); first | with_reducible first | refine cT ?_ | refine cF ?_ | refine cA ?_ | refine cB ?_ | refine aLn ?_ | refine cK ?_ | refine aS8 ?_ | refine wI ?_ | refine nD ?_ | refine aX rfl ?_ | refine vL rfl ?_)
        intro _u; clear _u
        refine acnd_t (by simp; omega) ?_
        obtain ⟨x, hx⟩ : ∃ u_, ds[0]? = some u_ := ⟨_, List.getElem?_eq_getElem (by first | omega | (simp <;> omega))⟩
        repeat ((intro _u; clear _u); first | with_reducible first | refine cT ?_ | refine cF ?_ | refine cA ?_ | refine cB ?_ | refine aLn ?_ | refine cK ?_ | refine aS8 ?_ | refine wI ?_ | refine nD ?_ | refine aX rfl ?_ | refine vL rfl ?_)
        intro _u; clear _u
        refine eget_map hx ?_
        repeat ((intro _u; clear _u); first | with_reducible first | refine cT ?_ | refine cF ?_ | refine cA ?_ | refine cB ?_ | refine aLn ?_ | refine cK ?_ | refine aS8 ?_ | refine wI ?_ | refine nD ?_ | refine aX rfl ?_ | refine vL rfl ?_)
        intro _u; clear _u
        refine cS (fun h3 => ?_) (fun h3 => ?_)
        · rw [whole_b hx (by simp [bad16]; omega)] at hq
          subst hq
          repeat ((intro _u; clear _u); first | with_reducible first | refine cT ?_ | refine cF ?_ | refine cA ?_ | refine cB ?_ | refine aLn ?_ | refine cK ?_ | refine aS8 ?_ | refine wI ?_ | refine nD ?_ | refine aX rfl ?_ | refine vL rfl ?_)
          intro _u; clear _u
          exact rT
        · repeat ((intro _u; clear _u); first | with_reducible first | refine cT ?_ | refine cF ?_ | refine cA ?_ | refine cB ?_ | refine aLn ?_ | refine cK ?_ | refine aS8 ?_ | refine wI ?_ | refine nD ?_ | refine aX rfl ?_ | refine vL rfl ?_)
          intro _u; clear _u
          refine eget_map hx ?_
          repeat ((intro _u; clear _u); first | with_reducible first | refine cT ?_ | refine cF ?_ | refine cA ?_ | refine cB ?_ | refine aLn ?_ | refine cK ?_ | refine aS8 ?_ | refine wI ?_ | refine nD ?_ | refine aX rfl ?_ | refine vL rfl ?_)
          intro _u; clear _u
          refine cS (fun h4 => ?_) (fun h4 => ?_)
          · rw [whole_b hx (by simp [bad16]; omega)] at hq
            subst hq
            repeat ((intro _u; clear _u); first | with_reducible first | refine cT ?_ | refine cF ?_ | refine cA ?_ | refine cB ?_ | refine aLn ?_ | refine cK ?_ | refine aS8 ?_ | refine wI ?_ | refine nD ?_ | refine aX rfl ?_ | refine vL rfl ?_)
            intro _u; clear _u
            exact rT
          · have c1 := rexp_n h.n183 p.h p.w p.deep p.name hw hd
            have e0 : exv p [] (0 : Nat) = 0 := by
              unfold exv; repeat' split
              all_goals first | rfl | simp [atp]
            repeat ((intro _u; clear _u); first | with_reducible first | refine cT ?_ | refine cF ?_ | refine cA ?_ | refine cB ?_ | refine aLn ?_ | refine cK ?_ | refine aS8 ?_ | refine wI ?_ | refine nD ?_ | refine aX rfl ?_ | refine vL rfl ?_)
            intro _u; clear _u
            refine ICall.pure h.n183.o183.hb c1 rfl ?_
            repeat ((intro _u; clear _u); first | with_reducible first | refine cT ?_ | refine cF ?_ | refine cA ?_ | refine cB ?_ | refine aLn ?_ | refine cK ?_ | refine aS8 ?_ | refine wI ?_ | refine nD ?_ | refine aX rfl ?_ | refine vL rfl ?_)
            intro _u; clear _u
            refine eget_map hx ?_
            repeat ((intro _u; clear _u); first | with_reducible first | refine cT ?_ | refine cF ?_ | refine cA ?_ | refine cB ?_ | refine aLn ?_ | refine cK ?_ | refine aS8 ?_ | refine wI ?_ | refine nD ?_ | refine aX rfl ?_ | refine vL rfl ?_)
            intro _u; clear _u
            refine ICall.pure h.n184.o184.hb (modulo_c h.n184 (0 + x)) rfl ?_
            have w1 : wacc p (ds.take 1) = [(0 + x) % 65536] := by
              rw [wacc_succ (k := 0) hx]
              show [] ++ [(exv p [] (0 : Nat) + x) % 65536] = _
              rw [e0]; rfl
            repeat ((intro _u; clear _u); first | with_reducible first | refine cT ?_ | refine cF ?_ | refine cA ?_ | refine cB ?_ | refine aLn ?_ | refine cK ?_ | refine aS8 ?_ | refine wI ?_ | refine nD ?_ | refine aX rfl ?_ | refine vL rfl ?_)
            intro _u; clear _u
            refine ILoop.inv 100 (fun k : Nat => 1 ≤ k ∧ k ≤ ds.length ∧ (ds.take k).any bad16 = false) (fun k => ⟨[(1, .isl 1 (slcK .i64 ds)), (4, .loc 1 1 0 0), (6, .loc 2 1 0 0), (7, .int .i64 k)], [(4, .arr (R.ty 10) 1 (slcK .i64 (wacc p (ds.take k)))), (1, .var (R.ty 20) [.int .i64 0, .int .i64 0, .int .i64 0, .str [], .nils]), (2, .var (R.ty 20) [.int .i64 p.w, .int .i64 p.h, .int .i64 p.deep, .str p.name, .osl 4 (wacc p (ds.take k)).length])], 5⟩) (fun k => ds.length - k) (1) ?_ ⟨⟨_, hp, rfl⟩, ?_, ?_⟩ ?_
            · exact ⟨by omega, by omega, by rw [any_take_succ2 hx]; simp [bad16]; omega⟩
            · all_goals repeat' (first | exact True.intro | refine And.intro ?_ ?_ | (intro _u; clear _u) | (with_reducible first | refine eM ?_ ?_ | refine eF ?_ ?_ ?_ | refine eN ?_ | refine eL ?_ ?_ ?_ | refine eA ?_ ?_ | refine IWk.mk ⟨_, hp, rfl⟩ ?_ ?_) | refine IWk.mk ⟨_, hp, rfl⟩ ?_ ?_)
              all_goals first | with_reducible rfl | omega | exact Or.inl (by decide) | (simp; done) | rfl | skip
            · all_goals repeat' (first | exact True.intro | refine And.intro ?_ ?_ | (intro _u; clear _u) | (with_reducible first | refine eM ?_ ?_ | refine eF ?_ ?_ ?_ | refine eN ?_ | refine eL ?_ ?_ ?_ | refine eA ?_ ?_ | refine IWk.mk ⟨_, hp, rfl⟩ ?_ ?_) | refine IWk.mk ⟨_, hp, rfl⟩ ?_ ?_)
              all_goals first | with_reducible rfl | omega | exact Or.inl (by decide) | (simp; done) | rfl | skip
              all_goals (rw [w1]; rfl)
            · intro k hk
              dsimp only
              obtain ⟨hk1, hk2, hk3⟩ := hk
              have wl := wacc_len p (ds.take k)
              have wi := wacc_in p (ds.take k)
              rw [List.length_take, Nat.min_eq_left hk2] at wl
              repeat ((intro _u; clear _u); first | with_reducible first | refine cT ?_ | refine cF ?_ | refine cA ?_ | refine cB ?_ | refine aLn ?_ | refine cK ?_ | refine aS8 ?_ | refine wI ?_ | refine nD ?_ | refine aX rfl ?_ | refine vL rfl ?_)
              intro _u; clear _u
              refine cS (fun h5 => ?_) (fun h5 => ?_)
              · obtain ⟨y, hy⟩ : ∃ u_, ds[k]? = some u_ := ⟨_, List.getElem?_eq_getElem (by first | omega | (simp <;> omega))⟩
                repeat ((intro _u; clear _u); first | with_reducible first | refine cT ?_ | refine cF ?_ | refine cA ?_ | refine cB ?_ | refine aLn ?_ | refine cK ?_ | refine aS8 ?_ | refine wI ?_ | refine nD ?_ | refine aX rfl ?_ | refine vL rfl ?_)
                intro _u; clear _u
                refine eget_map hy ?_
                have hws := wacc_succ (p := p) hy
                rw [wl] at hws
                generalize wacc p (ds.take k) = es at wl wi hws ⊢
                repeat ((intro _u; clear _u); first | with_reducible first | refine cT ?_ | refine cF ?_ | refine cA ?_ | refine cB ?_ | refine aLn ?_ | refine cK ?_ | refine aS8 ?_ | refine wI ?_ | refine nD ?_ | refine aX rfl ?_ | refine vL rfl ?_)
                intro _u; clear _u
                refine cS (fun h6 => ?_) (fun h6 => ?_)
                · rw [whole_b hy (by simp [bad16]; omega)] at hq
                  subst hq
                  repeat ((intro _u; clear _u); first | with_reducible first | refine cT ?_ | refine cF ?_ | refine cA ?_ | refine cB ?_ | refine aLn ?_ | refine cK ?_ | refine aS8 ?_ | refine wI ?_ | refine nD ?_ | refine aX rfl ?_ | refine vL rfl ?_)
                  intro _u; clear _u
                  exact rT
                · repeat ((intro _u; clear _u); first | with_reducible first | refine cT ?_ | refine cF ?_ | refine cA ?_ | refine cB ?_ | refine aLn ?_ | refine cK ?_ | refine aS8 ?_ | refine wI ?_ | refine nD ?_ | refine aX rfl ?_ | refine vL rfl ?_)
                  intro _u; clear _u
                  refine eget_map hy ?_
                  repeat ((intro _u; clear _u); first | with_reducible first | refine cT ?_ | refine cF ?_ | refine cA ?_ | refine cB ?_ | refine aLn ?_ | refine cK ?_ | refine aS8 ?_ | refine wI ?_ | refine nD ?_ | refine aX rfl ?_ | refine vL rfl ?_)
                  intro _u; clear _u
                  refine cS (fun h7 => ?_) (fun h7 => ?_)
                  · rw [whole_b hy (by simp [bad16]; omega)] at hq
                    subst hq
                    repeat ((intro _u; clear _u); first | with_reducible first | refine cT ?_ | refine cF ?_ | refine cA ?_ | refine cB ?_ | refine aLn ?_ | refine cK ?_ | refine aS8 ?_ | refine wI ?_ | refine nD ?_ | refine aX rfl ?_ | refine vL rfl ?_)
                    intro _u; clear _u
                    exact rT
                  · have c1 : R.Pc 183 [.agg (Pl.row ⟨p.w, p.h, p.deep, p.name, es⟩), .isl 1 (slcK .i64 es), .int .i64 k] (.int .i64 (exv p es k)) := rexp_c h.n183 ⟨p.w, p.h, p.deep, p.name, es⟩ hw hd es wi k (by omega) (by omega)
                    repeat ((intro _u; clear _u); first | with_reducible first | refine cT ?_ | refine cF ?_ | refine cA ?_ | refine cB ?_ | refine aLn ?_ | refine cK ?_ | refine aS8 ?_ | refine wI ?_ | refine nD ?_ | refine aX rfl ?_ | refine vL rfl ?_)
                    intro _u; clear _u
                    refine cM true [] (c1.mc h.n183.o183.hb) ?_
                    repeat ((intro _u; clear _u); first | refine eK ?_ | refine eP ?_)
                    have e3 := exv_in wi (p := p) (k : Int)
                    repeat ((intro _u; clear _u); first | with_reducible first | refine cT ?_ | refine cF ?_ | refine cA ?_ | refine cB ?_ | refine aLn ?_ | refine cK ?_ | refine aS8 ?_ | refine wI ?_ | refine nD ?_ | refine aX rfl ?_ | refine vL rfl ?_)
                    intro _u; clear _u
                    refine eget_map hy ?_
                    repeat ((intro _u; clear _u); first | with_reducible first | refine cT ?_ | refine cF ?_ | refine cA ?_ | refine cB ?_ | refine aLn ?_ | refine cK ?_ | refine aS8 ?_ | refine wI ?_ | refine nD ?_ | refine aX rfl ?_ | refine vL rfl ?_)
                    intro _u; clear _u
                    refine ICall.pure h.n184.o184.hb (modulo_c h.n184 (exv p es k + y)) rfl ?_
                    repeat ((intro _u; clear _u); first | with_reducible first | refine cT ?_ | refine cF ?_ | refine cA ?_ | refine cB ?_ | refine aLn ?_ | refine cK ?_ | refine aS8 ?_ | refine wI ?_ | refine nD ?_ | refine aX rfl ?_ | refine vL rfl ?_)
                    intro _u; clear _u
                    refine nX (k + 1) ?_ ?_ ⟨_, hp, rfl⟩ ?_ ?_
                    · exact ⟨by omega, by omega, by rw [any_take_succ2 hy, hk3]; simp [bad16]; omega⟩
                    · omega
                    · all_goals repeat' (first | exact True.intro | refine And.intro ?_ ?_ | (intro _u; clear _u) | (with_reducible first | refine eM ?_ ?_ | refine eF ?_ ?_ ?_ | refine eN ?_ | refine eL ?_ ?_ ?_ | refine eA ?_ ?_ | refine IWk.mk ⟨_, hp, rfl⟩ ?_ ?_) | refine IWk.mk ⟨_, hp, rfl⟩ ?_ ?_)
                      all_goals first | with_reducible rfl | omega | exact Or.inl (by decide) | (simp; done) | rfl | skip
                    · all_goals repeat' (first | exact True.intro | refine And.intro ?_ ?_ | (intro _u; clear _u) | (with_reducible first | refine eM ?_ ?_ | refine eF ?_ ?_ ?_ | refine eN ?_ | refine eL ?_ ?_ ?_ | refine eA ?_ ?_ | refine IWk.mk ⟨_, hp, rfl⟩ ?_ ?_) | refine IWk.mk ⟨_, hp, rfl⟩ ?_ ?_)
                      all_goals first | with_reducible rfl | omega | exact Or.inl (by decide) | (simp; done) | rfl | skip
                      all_goals (rw [hws]; simp [slcK])
              · have hkl : k = ds.length := by omega
                subst hkl
                rw [List.take_length] at wl wi hk3 ⊢
                rw [whole, if_neg (by rw [hk3]; simp; exact ⟨hb, by omega⟩)] at hq
                repeat ((intro _u; clear _u); first | with_reducible first | refine cT ?_ | refine cF ?_ | refine cA ?_ | refine cB ?_ | refine aLn ?_ | refine cK ?_ | refine aS8 ?_ | refine wI ?_ | refine nD ?_ | refine aX rfl ?_ | refine vL rfl ?_)
                intro _u; clear _u
                refine ICall.let [4] rfl hp rfl ?_
                repeat ((intro _u; clear _u); first | refine eZ ?_ | refine FrzC.drop ?_)
                repeat ((intro _u; clear _u); first | with_reducible first | refine cT ?_ | refine cF ?_ | refine cA ?_ | refine cB ?_ | refine aLn ?_ | refine cK ?_ | refine aS8 ?_ | refine wI ?_ | refine nD ?_ | refine aX rfl ?_ | refine vL rfl ?_)
                intro _u; clear _u
                refine ICall.pure h.n162.o162.hb (rpcheck_c h.n162 ⟨p.w, p.h, p.deep, p.name, wacc p ds⟩ hs) rfl ?_
                repeat ((intro _u; clear _u); first | with_reducible first | refine cT ?_ | refine cF ?_ | refine cA ?_ | refine cB ?_ | refine aLn ?_ | refine cK ?_ | refine aS8 ?_ | refine wI ?_ | refine nD ?_ | refine aX rfl ?_ | refine vL rfl ?_)
                intro _u; clear _u
                refine cS (fun h6 => ?_) (fun h6 => ?_)
                · rw [if_neg h6] at hq
                  subst hq
                  repeat ((intro _u; clear _u); first | with_reducible first | refine cT ?_ | refine cF ?_ | refine cA ?_ | refine cB ?_ | refine aLn ?_ | refine cK ?_ | refine aS8 ?_ | refine wI ?_ | refine nD ?_ | refine aX rfl ?_ | refine vL rfl ?_)
                  intro _u; clear _u
                  exact rT
                · rw [if_pos h6] at hq
                  subst hq
                  repeat ((intro _u; clear _u); first | with_reducible first | refine cT ?_ | refine cF ?_ | refine cA ?_ | refine cB ?_ | refine aLn ?_ | refine cK ?_ | refine aS8 ?_ | refine wI ?_ | refine nD ?_ | refine aX rfl ?_ | refine vL rfl ?_)
                  intro _u; clear _u
                  exact rT

theorem ints_c {R : Env} (h : N145 R) (l : List Int) (hl : l.length ≤ 1073741824) : R.Pc 145 [.isl 1 (slcK .i64 l), .isl 1 (slcK .i64 l)] (.bool true) :=
  h.o145.enter 100 rfl fun X bb hfit hp => by
    repeat ((intro _u; clear _u); first | with_reducible first | refine cT ?_ | refine cF ?_ | refine cA ?_ | refine cB ?_ | refine aLn ?_ | refine cK ?_ | refine aS8 ?_ | refine wI ?_ | refine nD ?_ | refine aX rfl ?_ | refine vL rfl ?_)
    intro _u; clear _u
    refine acnd_f (by simp) ?_
    repeat ((intro _u; clear _u); first | with_reducible first | refine cT ?_ | refine cF ?_ | refine cA ?_ | refine cB ?_ | refine aLn ?_ | refine cK ?_ | refine aS8 ?_ | refine wI ?_ | refine nD ?_ | refine aX rfl ?_ | refine vL rfl ?_)
    intro _u; clear _u
    refine lPa 100 (fun i : Nat => i ≤ l.length) (fun i => ⟨[(0, .isl 1 (slcK .i64 l)), (1, .isl 1 (slcK .i64 l)), (5, .int .i64 i)], [], 0⟩) (fun i => l.length - i) (0) ?_ ?_
    · exact Nat.zero_le _
    · intro i hi
      dsimp only
      repeat ((intro _u; clear _u); first | with_reducible first | refine cT ?_ | refine cF ?_ | refine cA ?_ | refine cB ?_ | refine aLn ?_ | refine cK ?_ | refine aS8 ?_ | refine wI ?_ | refine nD ?_ | refine aX rfl ?_ | refine vL rfl ?_)
      intro _u; clear _u
      refine cS (fun h1 => ?_) (fun h1 => ?_)
      · obtain ⟨x, hx⟩ : ∃ u_, l[i]? = some u_ := ⟨_, List.getElem?_eq_getElem (by first | omega | (simp <;> omega))⟩
        repeat ((intro _u; clear _u); first | with_reducible first | refine cT ?_ | refine cF ?_ | refine cA ?_ | refine cB ?_ | refine aLn ?_ | refine cK ?_ | refine aS8 ?_ | refine wI ?_ | refine nD ?_ | refine aX rfl ?_ | refine vL rfl ?_)
        intro _u; clear _u
        refine eget_map hx ?_
        repeat ((intro _u; clear _u); first | with_reducible first | refine cT ?_ | refine cF ?_ | refine cA ?_ | refine cB ?_ | refine aLn ?_ | refine cK ?_ | refine aS8 ?_ | refine wI ?_ | refine nD ?_ | refine aX rfl ?_ | refine vL rfl ?_)
        intro _u; clear _u
        refine eget_map hx ?_
        repeat ((intro _u; clear _u); first | with_reducible first | refine cT ?_ | refine cF ?_ | refine cA ?_ | refine cB ?_ | refine aLn ?_ | refine cK ?_ | refine aS8 ?_ | refine wI ?_ | refine nD ?_ | refine aX rfl ?_ | refine vL rfl ?_)
        intro _u; clear _u
        refine acnd_f (by simp) ?_
        repeat ((intro _u; clear _u); first | with_reducible first | refine cT ?_ | refine cF ?_ | refine cA ?_ | refine cB ?_ | refine aLn ?_ | refine cK ?_ | refine aS8 ?_ | refine wI ?_ | refine nD ?_ | refine aX rfl ?_ | refine vL rfl ?_)
        intro _u; clear _u
        refine nXa (i + 1) ?_ ?_
        · omega
        · omega
      · repeat ((intro _u; clear _u); first | with_reducible first | refine cT ?_ | refine cF ?_ | refine cA ?_ | refine cB ?_ | refine aLn ?_ | refine cK ?_ | refine aS8 ?_ | refine wI ?_ | refine nD ?_ | refine aX rfl ?_ | refine vL rfl ?_)
        intro _u; clear _u
        exact rT
theorem same30_c {R : Env} (h : N175 R) (p : Pl) (hl : p.data.length ≤ 1073741824) : R.Pc 175 [.agg p.row, .agg p.row] (.bool true) :=
  h.o175.enter 100 rfl fun X bb hfit hp => by
    repeat ((intro _u; clear _u); first | with_reducible first | refine cT ?_ | refine cF ?_ | refine cA ?_ | refine cB ?_ | refine aLn ?_ | refine cK ?_ | refine aS8 ?_ | refine wI ?_ | refine nD ?_ | refine aX rfl ?_ | refine vL rfl ?_)
    intro _u; clear _u
    refine acnd_t (by simp) ?_
    repeat ((intro _u; clear _u); first | with_reducible first | refine cT ?_ | refine cF ?_ | refine cA ?_ | refine cB ?_ | refine aLn ?_ | refine cK ?_ | refine aS8 ?_ | refine wI ?_ | refine nD ?_ | refine aX rfl ?_ | refine vL rfl ?_)
    intro _u; clear _u
    refine acnd_t (by simp) ?_
    repeat ((intro _u; clear _u); first | with_reducible first | refine cT ?_ | refine cF ?_ | refine cA ?_ | refine cB ?_ | refine aLn ?_ | refine cK ?_ | refine aS8 ?_ | refine wI ?_ | refine nD ?_ | refine aX rfl ?_ | refine vL rfl ?_)
    intro _u; clear _u
    refine acnd_t (by simp) ?_
    repeat ((intro _u; clear _u); first | with_reducible first | refine cT ?_ | refine cF ?_ | refine cA ?_ | refine cB ?_ | refine aLn ?_ | refine cK ?_ | refine aS8 ?_ | refine wI ?_ | refine nD ?_ | refine aX rfl ?_ | refine vL rfl ?_)
    intro _u; clear _u
    refine acnd_t (by simp) ?_
    repeat ((intro _u; clear _u); first | with_reducible first | refine cT ?_ | refine cF ?_ | refine cA ?_ | refine cB ?_ | refine aLn ?_ | refine cK ?_ | refine aS8 ?_ | refine wI ?_ | refine nD ?_ | refine aX rfl ?_ | refine vL rfl ?_)
    intro _u; clear _u
    refine ICall.pure h.n145.o145.hb (ints_c h.n145 p.data hl) rfl ?_
    repeat ((intro _u; clear _u); first | with_reducible first | refine cT ?_ | refine cF ?_ | refine cA ?_ | refine cB ?_ | refine aLn ?_ | refine cK ?_ | refine aS8 ?_ | refine wI ?_ | refine nD ?_ | refine aX rfl ?_ | refine vL rfl ?_)
    intro _u; clear _u
    exact rT

theorem rzig_c {R : Env} (h : N176 R) (n : Int) : R.Pc 176 [.int .i64 n] (.int .i64 (zig n)) :=
  h.o176.enter 60 rfl fun X bb hfit hp => by
    unfold zig
    repeat ((intro _u; clear _u); first | with_reducible first | refine cT ?_ | refine cF ?_ | refine cA ?_ | refine cB ?_ | refine aLn ?_ | refine cK ?_ | refine aS8 ?_ | refine wI ?_ | refine nD ?_ | refine aX rfl ?_ | refine vL rfl ?_)
    intro _u; clear _u
    refine cS (fun h1 => ?_) (fun h1 => ?_)
    · rw [if_neg (by omega)]
      repeat ((intro _u; clear _u); first | with_reducible first | refine cT ?_ | refine cF ?_ | refine cA ?_ | refine cB ?_ | refine aLn ?_ | refine cK ?_ | refine aS8 ?_ | refine wI ?_ | refine nD ?_ | refine aX rfl ?_ | refine vL rfl ?_)
      intro _u; clear _u
      refine iwr_any ?_
      repeat ((intro _u; clear _u); first | with_reducible first | refine cT ?_ | refine cF ?_ | refine cA ?_ | refine cB ?_ | refine aLn ?_ | refine cK ?_ | refine aS8 ?_ | refine wI ?_ | refine nD ?_ | refine aX rfl ?_ | refine vL rfl ?_)
      intro _u; clear _u
      refine rT ?_
      all_goals repeat' (first | exact True.intro | refine And.intro ?_ ?_ | (intro _u; clear _u) | (with_reducible first | refine eM ?_ ?_ | refine eF ?_ ?_ ?_ | refine eN ?_ | refine eL ?_ ?_ ?_ | refine eA ?_ ?_ | refine IWk.mk ⟨_, hp, rfl⟩ ?_ ?_) | refine IWk.mk ⟨_, hp, rfl⟩ ?_ ?_)
      all_goals first | with_reducible rfl | omega | exact Or.inl (by decide) | (simp; done) | rfl | skip
      rw [show n + n = 2 * n by omega]
    · rw [if_pos (by omega)]
      repeat ((intro _u; clear _u); first | with_reducible first | refine cT ?_ | refine cF ?_ | refine cA ?_ | refine cB ?_ | refine aLn ?_ | refine cK ?_ | refine aS8 ?_ | refine wI ?_ | refine nD ?_ | refine aX rfl ?_ | refine vL rfl ?_)
      intro _u; clear _u
      refine iwr_any ?_
      repeat ((intro _u; clear _u); first | with_reducible first | refine cT ?_ | refine cF ?_ | refine cA ?_ | refine cB ?_ | refine aLn ?_ | refine cK ?_ | refine aS8 ?_ | refine wI ?_ | refine nD ?_ | refine aX rfl ?_ | refine vL rfl ?_)
      intro _u; clear _u
      refine iwr_any ?_
      repeat ((intro _u; clear _u); first | with_reducible first | refine cT ?_ | refine cF ?_ | refine cA ?_ | refine cB ?_ | refine aLn ?_ | refine cK ?_ | refine aS8 ?_ | refine wI ?_ | refine nD ?_ | refine aX rfl ?_ | refine vL rfl ?_)
      intro _u; clear _u
      refine iwr_any ?_
      repeat ((intro _u; clear _u); first | with_reducible first | refine cT ?_ | refine cF ?_ | refine cA ?_ | refine cB ?_ | refine aLn ?_ | refine cK ?_ | refine aS8 ?_ | refine wI ?_ | refine nD ?_ | refine aX rfl ?_ | refine vL rfl ?_)
      intro _u; clear _u
      refine rT ?_
      all_goals repeat' (first | exact True.intro | refine And.intro ?_ ?_ | (intro _u; clear _u) | (with_reducible first | refine eM ?_ ?_ | refine eF ?_ ?_ ?_ | refine eN ?_ | refine eL ?_ ?_ ?_ | refine eA ?_ ?_ | refine IWk.mk ⟨_, hp, rfl⟩ ?_ ?_) | refine IWk.mk ⟨_, hp, rfl⟩ ?_ ?_)
      all_goals first | with_reducible rfl | omega | exact Or.inl (by decide) | (simp; done) | rfl | skip
      simp only [wr, IntKind.wrap, IntKind.bits, IntKind.signed]
      simp
      omega
theorem rzag_c {R : Env} (h : N177 R) (n : Int) (hn : inI .i64 n) : R.Pc 177 [.int .i64 n] (.int .i64 (zag n)) :=
  h.o177.enter 60 rfl fun X bb hfit hp => by
    simp only [inI] at hn
    unfold zag
    repeat ((intro _u; clear _u); first | with_reducible first | refine cT ?_ | refine cF ?_ | refine cA ?_ | refine cB ?_ | refine aLn ?_ | refine cK ?_ | refine aS8 ?_ | refine wI ?_ | refine nD ?_ | refine aX rfl ?_ | refine vL rfl ?_)
    intro _u; clear _u
    refine cS (fun h1 => ?_) (fun h1 => ?_)
    · rw [if_pos h1]
      repeat ((intro _u; clear _u); first | with_reducible first | refine cT ?_ | refine cF ?_ | refine cA ?_ | refine cB ?_ | refine aLn ?_ | refine cK ?_ | refine aS8 ?_ | refine wI ?_ | refine nD ?_ | refine aX rfl ?_ | refine vL rfl ?_)
      intro _u; clear _u
      exact rT
    · rw [if_neg (by omega)]
      have e1 : n.tmod 2 = n % 2 := Int.tmod_eq_emod_of_nonneg (by omega)
      have e2 : n.tdiv 2 = n / 2 := Int.tdiv_eq_ediv_of_nonneg (by omega)
      repeat ((intro _u; clear _u); first | with_reducible first | refine cT ?_ | refine cF ?_ | refine cA ?_ | refine cB ?_ | refine aLn ?_ | refine cK ?_ | refine aS8 ?_ | refine wI ?_ | refine nD ?_ | refine aX rfl ?_ | refine vL rfl ?_)
      rw [e1]
      repeat ((intro _u; clear _u); first | with_reducible first | refine cT ?_ | refine cF ?_ | refine cA ?_ | refine cB ?_ | refine aLn ?_ | refine cK ?_ | refine aS8 ?_ | refine wI ?_ | refine nD ?_ | refine aX rfl ?_ | refine vL rfl ?_)
      intro _u; clear _u
      refine cS (fun h2 => ?_) (fun h2 => ?_)
      · rw [if_neg (by omega)]
        repeat ((intro _u; clear _u); first | with_reducible first | refine cT ?_ | refine cF ?_ | refine cA ?_ | refine cB ?_ | refine aLn ?_ | refine cK ?_ | refine aS8 ?_ | refine wI ?_ | refine nD ?_ | refine aX rfl ?_ | refine vL rfl ?_)
        rw [e2]
        repeat ((intro _u; clear _u); first | with_reducible first | refine cT ?_ | refine cF ?_ | refine cA ?_ | refine cB ?_ | refine aLn ?_ | refine cK ?_ | refine aS8 ?_ | refine wI ?_ | refine nD ?_ | refine aX rfl ?_ | refine vL rfl ?_)
        intro _u; clear _u
        exact rT
      · rw [if_pos (by omega)]
        repeat ((intro _u; clear _u); first | with_reducible first | refine cT ?_ | refine cF ?_ | refine cA ?_ | refine cB ?_ | refine aLn ?_ | refine cK ?_ | refine aS8 ?_ | refine wI ?_ | refine nD ?_ | refine aX rfl ?_ | refine vL rfl ?_)
        rw [e2]
        repeat ((intro _u; clear _u); first | with_reducible first | refine cT ?_ | refine cF ?_ | refine cA ?_ | refine cB ?_ | refine aLn ?_ | refine cK ?_ | refine aS8 ?_ | refine wI ?_ | refine nD ?_ | refine aX rfl ?_ | refine vL rfl ?_)
        intro _u; clear _u
        exact rT

def Pl.few (p : Pl) : Pl := ⟨p.w, p.h, p.deep, p.name.take 20, p.data.take 150⟩
theorem few39_c {R : Env} (h : N171 R) (p : Pl) : R.Pc 171 [.agg p.row] (.agg p.few.row) :=
  h.o171.enter 100 rfl fun X bb hfit hp => by
    repeat ((intro _u; clear _u); first | with_reducible first | refine cT ?_ | refine cF ?_ | refine cA ?_ | refine cB ?_ | refine aLn ?_ | refine cK ?_ | refine aS8 ?_ | refine wI ?_ | refine nD ?_ | refine aX rfl ?_ | refine vL rfl ?_)
    intro _u; clear _u
    refine asub_eq (by exact capK .i64 _ _) ?_
    repeat ((intro _u; clear _u); first | with_reducible first | refine cT ?_ | refine cF ?_ | refine cA ?_ | refine cB ?_ | refine aLn ?_ | refine cK ?_ | refine aS8 ?_ | refine wI ?_ | refine nD ?_ | refine aX rfl ?_ | refine vL rfl ?_)
    intro _u; clear _u
    refine asub_eq (by exact take_cap _ _) ?_
    repeat ((intro _u; clear _u); first | with_reducible first | refine cT ?_ | refine cF ?_ | refine cA ?_ | refine cB ?_ | refine aLn ?_ | refine cK ?_ | refine aS8 ?_ | refine wI ?_ | refine nD ?_ | refine aX rfl ?_ | refine vL rfl ?_)
    intro _u; clear _u
    exact rT

theorem pdeltas_law {R : Env} (h : N170 R) (p : Pl) (ds : List Int) (n : Int) (hn : inI .i64 n) : R.Pc 170 [.agg p.row, .isl 1 (slcK .i64 ds), .int .i64 n] (.bool true) :=
  h.o170.enter 100 rfl fun X bb hfit hp => by
    repeat ((intro _u; clear _u); first | with_reducible first | refine cT ?_ | refine cF ?_ | refine cA ?_ | refine cB ?_ | refine aLn ?_ | refine cK ?_ | refine aS8 ?_ | refine wI ?_ | refine nD ?_ | refine aX rfl ?_ | refine vL rfl ?_)
    intro _u; clear _u
    refine ICall.pure h.n171.o171.hb (few39_c h.n171 p) rfl ?_
    have hs : p.few.name.length ≤ 1073741824 := by simp [Pl.few]; omega
    have hd : p.few.data.length ≤ 150 := by simp [Pl.few]; omega
    generalize p.few = p at hs hd ⊢
    repeat ((intro _u; clear _u); first | with_reducible first | refine cT ?_ | refine cF ?_ | refine cA ?_ | refine cB ?_ | refine aLn ?_ | refine cK ?_ | refine aS8 ?_ | refine wI ?_ | refine nD ?_ | refine aX rfl ?_ | refine vL rfl ?_)
    intro _u; clear _u
    refine asub_eq (by exact capK .i64 _ _) ?_
    have hl : (ds.take (Int.toNat 150)).length ≤ 150 := by simp; omega
    generalize ds.take (Int.toNat 150) = ds at hl ⊢
    repeat ((intro _u; clear _u); first | with_reducible first | refine cT ?_ | refine cF ?_ | refine cA ?_ | refine cB ?_ | refine aLn ?_ | refine cK ?_ | refine aS8 ?_ | refine wI ?_ | refine nD ?_ | refine aX rfl ?_ | refine vL rfl ?_)
    intro _u; clear _u
    refine ICall.pure h.n165.o165.hb (deltas_c h.n165 p hs) rfl ?_
    repeat ((intro _u; clear _u); first | with_reducible first | refine cT ?_ | refine cF ?_ | refine cA ?_ | refine cB ?_ | refine aLn ?_ | refine cK ?_ | refine aS8 ?_ | refine wI ?_ | refine nD ?_ | refine aX rfl ?_ | refine vL rfl ?_)
    intro _u; clear _u
    refine ICall.pure h.n172.o172.hb (rdeltas_c h.n172 p hs) rfl ?_
    repeat ((intro _u; clear _u); first | with_reducible first | refine cT ?_ | refine cF ?_ | refine cA ?_ | refine cB ?_ | refine aLn ?_ | refine cK ?_ | refine aS8 ?_ | refine wI ?_ | refine nD ?_ | refine aX rfl ?_ | refine vL rfl ?_)
    intro _u; clear _u
    refine ICall.pure h.n173.o173.hb (whole_c h.n173 p ds hs (by omega)) rfl ?_
    repeat ((intro _u; clear _u); first | with_reducible first | refine cT ?_ | refine cF ?_ | refine cA ?_ | refine cB ?_ | refine aLn ?_ | refine cK ?_ | refine aS8 ?_ | refine wI ?_ | refine nD ?_ | refine aX rfl ?_ | refine vL rfl ?_)
    intro _u; clear _u
    refine ICall.pure h.n174.o174.hb (rwhole_c h.n174 p ds hs (by omega)) rfl ?_
    have hdl : (deltas p).1.length ≤ 1073741824 := by unfold deltas; split <;> simp; omega
    have hwl : (whole p ds).1.data.length ≤ 1073741824 := by
      unfold whole
      split
      · simp [zPl]
      · split
        · show (wacc p ds).length ≤ _
          rw [wacc_len]; omega
        · simp [zPl]
    repeat ((intro _u; clear _u); first | with_reducible first | refine cT ?_ | refine cF ?_ | refine cA ?_ | refine cB ?_ | refine aLn ?_ | refine cK ?_ | refine aS8 ?_ | refine wI ?_ | refine nD ?_ | refine aX rfl ?_ | refine vL rfl ?_)
    intro _u; clear _u
    refine ICall.pure h.n145.o145.hb (ints_c h.n145 (deltas p).1 hdl) rfl ?_
    repeat ((intro _u; clear _u); first | with_reducible first | refine cT ?_ | refine cF ?_ | refine cA ?_ | refine cB ?_ | refine aLn ?_ | refine cK ?_ | refine aS8 ?_ | refine wI ?_ | refine nD ?_ | refine aX rfl ?_ | refine vL rfl ?_)
    intro _u; clear _u
    refine acnd_t (by simp) ?_
    repeat ((intro _u; clear _u); first | with_reducible first | refine cT ?_ | refine cF ?_ | refine cA ?_ | refine cB ?_ | refine aLn ?_ | refine cK ?_ | refine aS8 ?_ | refine wI ?_ | refine nD ?_ | refine aX rfl ?_ | refine vL rfl ?_)
    intro _u; clear _u
    refine ICall.pure h.n175.o175.hb (same30_c h.n175 (whole p ds).1 hwl) rfl ?_
    repeat ((intro _u; clear _u); first | with_reducible first | refine cT ?_ | refine cF ?_ | refine cA ?_ | refine cB ?_ | refine aLn ?_ | refine cK ?_ | refine aS8 ?_ | refine wI ?_ | refine nD ?_ | refine aX rfl ?_ | refine vL rfl ?_)
    intro _u; clear _u
    refine acnd_t (by simp) ?_
    repeat ((intro _u; clear _u); first | with_reducible first | refine cT ?_ | refine cF ?_ | refine cA ?_ | refine cB ?_ | refine aLn ?_ | refine cK ?_ | refine aS8 ?_ | refine wI ?_ | refine nD ?_ | refine aX rfl ?_ | refine vL rfl ?_)
    intro _u; clear _u
    refine ICall.pure h.n168.o168.hb (zig_c h.n168 n) rfl ?_
    repeat ((intro _u; clear _u); first | with_reducible first | refine cT ?_ | refine cF ?_ | refine cA ?_ | refine cB ?_ | refine aLn ?_ | refine cK ?_ | refine aS8 ?_ | refine wI ?_ | refine nD ?_ | refine aX rfl ?_ | refine vL rfl ?_)
    intro _u; clear _u
    refine ICall.pure h.n176.o176.hb (rzig_c h.n176 n) rfl ?_
    repeat ((intro _u; clear _u); first | with_reducible first | refine cT ?_ | refine cF ?_ | refine cA ?_ | refine cB ?_ | refine aLn ?_ | refine cK ?_ | refine aS8 ?_ | refine wI ?_ | refine nD ?_ | refine aX rfl ?_ | refine vL rfl ?_)
    intro _u; clear _u
    refine acnd_t (by simp) ?_
    repeat ((intro _u; clear _u); first | with_reducible first | refine cT ?_ | refine cF ?_ | refine cA ?_ | refine cB ?_ | refine aLn ?_ | refine cK ?_ | refine aS8 ?_ | refine wI ?_ | refine nD ?_ | refine aX rfl ?_ | refine vL rfl ?_)
    intro _u; clear _u
    refine ICall.pure h.n169.o169.hb (zag_c h.n169 n hn) rfl ?_
    repeat ((intro _u; clear _u); first | with_reducible first | refine cT ?_ | refine cF ?_ | refine cA ?_ | refine cB ?_ | refine aLn ?_ | refine cK ?_ | refine aS8 ?_ | refine wI ?_ | refine nD ?_ | refine aX rfl ?_ | refine vL rfl ?_)
    intro _u; clear _u
    refine ICall.pure h.n177.o177.hb (rzag_c h.n177 n hn) rfl ?_
    repeat ((intro _u; clear _u); first | with_reducible first | refine cT ?_ | refine cF ?_ | refine cA ?_ | refine cB ?_ | refine aLn ?_ | refine cK ?_ | refine aS8 ?_ | refine wI ?_ | refine nD ?_ | refine aX rfl ?_ | refine vL rfl ?_)
    intro _u; clear _u
    refine acnd_t (by simp) ?_
    repeat ((intro _u; clear _u); first | with_reducible first | refine cT ?_ | refine cF ?_ | refine cA ?_ | refine cB ?_ | refine aLn ?_ | refine cK ?_ | refine aS8 ?_ | refine wI ?_ | refine nD ?_ | refine aX rfl ?_ | refine vL rfl ?_)
    intro _u; clear _u
    refine ICall.pure h.n166.o166.hb (works39_c h.n166) rfl ?_
    repeat ((intro _u; clear _u); first | with_reducible first | refine cT ?_ | refine cF ?_ | refine cA ?_ | refine cB ?_ | refine aLn ?_ | refine cK ?_ | refine aS8 ?_ | refine wI ?_ | refine nD ?_ | refine aX rfl ?_ | refine vL rfl ?_)
    intro _u; clear _u
    exact rT
end Go.UM

/- What comes in, opened. -/


namespace Go.UM
open Go.AM

theorem open8 {T : TT} {n e : Nat} {es : List (List AV)} (hT : T.d e = .int .u8) (h : ∀ r ∈ es, cty T (n + 1) e r) : ∃ l : List UInt8, es = slc8 l := by
  obtain ⟨l, rfl, _⟩ := rows_map (f := fun c : UInt8 => [AV.int .u8 c.toNat]) (p := fun _ => True) (es := es) fun r hr => by
    have h1 := h r hr
    simp only [cty, hT] at h1
    obtain ⟨x, rfl, hx⟩ := h1
    have hx := wf_in hx
    simp only [inI] at hx
    refine ⟨u8 x, ?_, trivial⟩
    rw [← wr_u8, wr_in (k := .u8) hx]
  exact ⟨l, rfl⟩

theorem openK {T : TT} {n e : Nat} {k : IntKind} {es : List (List AV)} (hT : T.d e = .int k) (h : ∀ r ∈ es, cty T (n + 1) e r) : ∃ l : List Int, es = slcK k l ∧ ∀ x ∈ l, inI k x := by
  obtain ⟨l, rfl, hl⟩ := rows_map (f := fun c : Int => [AV.int k c]) (p := fun c => inI k c) (es := es) fun r hr => by
    have h1 := h r hr
    simp only [cty, hT] at h1
    obtain ⟨x, rfl, hx⟩ := h1
    exact ⟨x, rfl, wf_in hx⟩
  exact ⟨l, rfl, hl⟩
end Go.UM
