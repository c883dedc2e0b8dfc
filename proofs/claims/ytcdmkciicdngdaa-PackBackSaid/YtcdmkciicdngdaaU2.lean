/- Of the reckoning machine, and what is proved with it: texts joined by program. -/
import Derived.Test.YtcdmkciicdngdaaU1
import Derived.Test.YtcdmkciicdngdaaK2
import Derived.Test.YtcdmkciicdngdaaU0
set_option linter.all false

/- The statements of chapter 39, part 5: PackBack. -/


namespace Go.UM
open Go.AM
set_option maxRecDepth 4000

def slP (l : List Pl) : List (List AV) := l.map Pl.row
@[simp] theorem slP_nil : slP [] = [] := rfl
@[simp] theorem slP_length (l : List Pl) : (slP l).length = l.length := by simp [slP]
@[simp] theorem slP_append (a b : List Pl) : slP (a ++ b) = slP a ++ slP b := by simp [slP]
@[simp] theorem slP_NmL (l : List Pl) : NmL (slP l) := by simp [slP, Pl.row]
instance {l : List Pl} : LenOf (slP l) l.length := ⟨slP_length l⟩

def one39 (p : Pl) : List UInt8 := [u8 (packed p).1.length, u8 (((packed p).1.length : Int) / 256), u8 (((packed p).1.length : Int) / 65536)] ++ (packed p).1
def allb (l : List Pl) : List UInt8 := l.flatMap one39
structure Fine (p : Pl) : Prop where
  c : pchk p = 0
  n : p.data.length ≤ 150
theorem Fine.name {p : Pl} (h : Fine p) : p.name.length ≤ 16 := by
  have := (pchk_may h.c).name
  simp [named] at this
  omega
theorem Fine.packed {p : Pl} (h : Fine p) : packed p = ((packed p).1, 0) := by
  unfold Go.UM.packed; rw [if_pos h.c]
theorem Fine.len {p : Pl} (h : Fine p) : (Go.UM.packed p).1.length ≤ 620 := by
  have hn := h.name
  have h1 := pk_len (dlt p).length (dlt p) rfl (by rw [dlt_len]; have := h.n; omega) (dlt_in p)
  unfold Go.UM.packed
  rw [if_pos h.c]
  rw [dlt_len] at h1
  have := h.n
  simp [hdr]; omega
theorem one_len {p : Pl} (h : Fine p) : (one39 p).length ≤ 623 := by
  have := h.len
  simp [one39]; omega
theorem allb_len {l : List Pl} (h : ∀ p ∈ l, Fine p) : (allb l).length ≤ 623 * l.length := by
  induction l with
  | nil => simp [allb]
  | cons x r ih =>
    have h1 := one_len (h x (by simp))
    have h2 := ih (fun p hp => h p (by simp [hp]))
    simp only [allb, List.flatMap_cons, List.length_append, List.length_cons] at h2 ⊢
    omega

theorem three_bytes (n : Nat) : [AV.int .u8 (wr .u8 (n : Int))] :: [AV.int .u8 (wr .u8 (shrI .i64 (n : Int) 8))] :: [AV.int .u8 (wr .u8 (shrI .i64 (n : Int) 16))] :: [] = slc8 [u8 (n : Int), u8 ((n : Int) / 256), u8 ((n : Int) / 65536)] := by
  rw [shr_eq (by omega), shr_eq (by omega)]
  simp [slc8, wr_u8, IntKind.bits]

theorem all_c {R : Env} (h : N180 R) (l : List Pl) (hf : ∀ p ∈ l, Fine p) (hl : l.length ≤ 6) (h0 : 1 ≤ l.length) : R.Pc 180 [.isl 5 (slP l)] (.tup [.isl 1 (slc8 (allb l)), .int .i64 0]) :=
  h.o180.enter 100 rfl fun X bb hfit hp => by
    obtain ⟨q, hq⟩ : ∃ u, l[0]? = some u := ⟨_, List.getElem?_eq_getElem (by omega)⟩
    have fq := hf q (List.mem_of_getElem? hq)
    have hqn := fq.name
    have hql := fq.len
    repeat ((intro _u; clear _u); first | with_reducible first | refine cT ?_ | refine cF ?_ | refine cA ?_ | refine cB ?_ | refine aLn ?_ | refine cK ?_ | refine aS8 ?_ | refine wI ?_ | refine nD ?_ | refine aX rfl ?_ | refine vL rfl ?_)
    intro _u; clear _u
    refine ILoop.one 100 ?_
    repeat ((intro _u; clear _u); first | with_reducible first | refine cT ?_ | refine cF ?_ | refine cA ?_ | refine cB ?_ | refine aLn ?_ | refine cK ?_ | refine aS8 ?_ | refine wI ?_ | refine nD ?_ | refine aX rfl ?_ | refine vL rfl ?_)
    intro _u; clear _u
    refine acnd_t (by simp; omega) ?_
    repeat ((intro _u; clear _u); first | with_reducible first | refine cT ?_ | refine cF ?_ | refine cA ?_ | refine cB ?_ | refine aLn ?_ | refine cK ?_ | refine aS8 ?_ | refine wI ?_ | refine nD ?_ | refine aX rfl ?_ | refine vL rfl ?_)
    intro _u; clear _u
    refine eget_map hq ?_
    have c1 := pack_c h.n164 q (by omega) (by omega)
    rw [fq.packed] at c1
    repeat ((intro _u; clear _u); first | with_reducible first | refine cT ?_ | refine cF ?_ | refine cA ?_ | refine cB ?_ | refine aLn ?_ | refine cK ?_ | refine aS8 ?_ | refine wI ?_ | refine nD ?_ | refine aX rfl ?_ | refine vL rfl ?_)
    intro _u; clear _u
    refine ICall.pure h.n164.o164.hb c1 rfl ?_
    repeat ((intro _u; clear _u); first | with_reducible first | refine cT ?_ | refine cF ?_ | refine cA ?_ | refine cB ?_ | refine aLn ?_ | refine cK ?_ | refine aS8 ?_ | refine wI ?_ | refine nD ?_ | refine aX rfl ?_ | refine vL rfl ?_)
    intro _u; clear _u
    refine acnd_f (by rfl) ?_
    repeat ((intro _u; clear _u); first | with_reducible first | refine cT ?_ | refine cF ?_ | refine cA ?_ | refine cB ?_ | refine aLn ?_ | refine cK ?_ | refine aS8 ?_ | refine wI ?_ | refine nD ?_ | refine aX rfl ?_ | refine vL rfl ?_)
    intro _u; clear _u
    refine acnd_f (by simp; omega) ?_
    repeat ((intro _u; clear _u); first | with_reducible first | refine cT ?_ | refine cF ?_ | refine cA ?_ | refine cB ?_ | refine aLn ?_ | refine cK ?_ | refine aS8 ?_ | refine wI ?_ | refine nD ?_ | refine aX rfl ?_ | refine vL rfl ?_)
    intro _u; clear _u
    refine iwr_any ?_
    repeat ((intro _u; clear _u); first | with_reducible first | refine cT ?_ | refine cF ?_ | refine cA ?_ | refine cB ?_ | refine aLn ?_ | refine cK ?_ | refine aS8 ?_ | refine wI ?_ | refine nD ?_ | refine aX rfl ?_ | refine vL rfl ?_)
    intro _u; clear _u
    refine iwr_any ?_
    repeat ((intro _u; clear _u); first | with_reducible first | refine cT ?_ | refine cF ?_ | refine cA ?_ | refine cB ?_ | refine aLn ?_ | refine cK ?_ | refine aS8 ?_ | refine wI ?_ | refine nD ?_ | refine aX rfl ?_ | refine vL rfl ?_)
    intro _u; clear _u
    refine iwr_any ?_
    repeat ((intro _u; clear _u); first | with_reducible first | refine cT ?_ | refine cF ?_ | refine cA ?_ | refine cB ?_ | refine aLn ?_ | refine cK ?_ | refine aS8 ?_ | refine wI ?_ | refine nD ?_ | refine aX rfl ?_ | refine vL rfl ?_)
    rw [three_bytes]
    have e1 : allb (l.take 1) = one39 q := by rw [take_succ_get hq]; simp [allb]
    repeat ((intro _u; clear _u); first | with_reducible first | refine cT ?_ | refine cF ?_ | refine cA ?_ | refine cB ?_ | refine aLn ?_ | refine cK ?_ | refine aS8 ?_ | refine wI ?_ | refine nD ?_ | refine aX rfl ?_ | refine vL rfl ?_)
    intro _u; clear _u
    refine ILoop.inv 100 (fun k : Nat => 1 ≤ k ∧ k ≤ l.length) (fun k => ⟨[(4, .osl 2 (allb (l.take k)).length), (9, .isl 5 (slP l)), (10, .int .i64 l.length), (11, .int .i64 k)], [(2, .arr (R.ty 4) 1 (slc8 (allb (l.take k))))], 3⟩) (fun k => l.length - k) (1) ?_ ⟨⟨_, hp, rfl⟩, ?_, ?_⟩ ?_
    · exact ⟨Nat.le_refl _, h0⟩
    · all_goals repeat' (first | exact True.intro | refine And.intro ?_ ?_ | (intro _u; clear _u) | (with_reducible first | refine eM ?_ ?_ | refine eF ?_ ?_ ?_ | refine eN ?_ | refine eL ?_ ?_ ?_ | refine eA ?_ ?_ | refine IWk.mk ⟨_, hp, rfl⟩ ?_ ?_) | refine IWk.mk ⟨_, hp, rfl⟩ ?_ ?_)
      all_goals first | with_reducible rfl | omega | exact Or.inl (by decide) | (simp; done) | rfl | skip
      all_goals (rw [e1]; first | (simp [one39]; done) | (simp only [one39, slc8_append, List.append_assoc]; done) | (simp [one39]; omega))
    · all_goals repeat' (first | exact True.intro | refine And.intro ?_ ?_ | (intro _u; clear _u) | (with_reducible first | refine eM ?_ ?_ | refine eF ?_ ?_ ?_ | refine eN ?_ | refine eL ?_ ?_ ?_ | refine eA ?_ ?_ | refine IWk.mk ⟨_, hp, rfl⟩ ?_ ?_) | refine IWk.mk ⟨_, hp, rfl⟩ ?_ ?_)
      all_goals first | with_reducible rfl | omega | exact Or.inl (by decide) | (simp; done) | rfl | skip
      all_goals (rw [e1]; first | (simp [one39]; done) | (simp only [one39, slc8_append, List.append_assoc]; done) | (simp [one39]; omega))
    · intro k hk
      dsimp only
      repeat ((intro _u; clear _u); first | with_reducible first | refine cT ?_ | refine cF ?_ | refine cA ?_ | refine cB ?_ | refine aLn ?_ | refine cK ?_ | refine aS8 ?_ | refine wI ?_ | refine nD ?_ | refine aX rfl ?_ | refine vL rfl ?_)
      intro _u; clear _u
      refine cS (fun h1 => ?_) (fun h1 => ?_)
      · obtain ⟨y, hy⟩ : ∃ u_, l[k]? = some u_ := ⟨_, List.getElem?_eq_getElem (by first | omega | (simp <;> omega))⟩
        repeat ((intro _u; clear _u); first | with_reducible first | refine cT ?_ | refine cF ?_ | refine cA ?_ | refine cB ?_ | refine aLn ?_ | refine cK ?_ | refine aS8 ?_ | refine wI ?_ | refine nD ?_ | refine aX rfl ?_ | refine vL rfl ?_)
        intro _u; clear _u
        refine eget_map hy ?_
        have fp := hf y (List.mem_of_getElem? hy)
        have hpn := fp.name
        have hpl := fp.len
        have c1 := pack_c h.n164 y (by omega) (by omega)
        rw [fp.packed] at c1
        repeat ((intro _u; clear _u); first | with_reducible first | refine cT ?_ | refine cF ?_ | refine cA ?_ | refine cB ?_ | refine aLn ?_ | refine cK ?_ | refine aS8 ?_ | refine wI ?_ | refine nD ?_ | refine aX rfl ?_ | refine vL rfl ?_)
        intro _u; clear _u
        refine ICall.pure h.n164.o164.hb c1 rfl ?_
        repeat ((intro _u; clear _u); first | with_reducible first | refine cT ?_ | refine cF ?_ | refine cA ?_ | refine cB ?_ | refine aLn ?_ | refine cK ?_ | refine aS8 ?_ | refine wI ?_ | refine nD ?_ | refine aX rfl ?_ | refine vL rfl ?_)
        intro _u; clear _u
        refine acnd_f (by rfl) ?_
        repeat ((intro _u; clear _u); first | with_reducible first | refine cT ?_ | refine cF ?_ | refine cA ?_ | refine cB ?_ | refine aLn ?_ | refine cK ?_ | refine aS8 ?_ | refine wI ?_ | refine nD ?_ | refine aX rfl ?_ | refine vL rfl ?_)
        intro _u; clear _u
        refine acnd_f (by simp; omega) ?_
        have hal := allb_len (l := l.take k) (fun p hp => hf p (List.mem_of_mem_take hp))
        have htk : (l.take k).length ≤ 6 := by simp; omega
        have hs : allb (l.take (k + 1)) = allb (l.take k) ++ one39 y := by rw [take_succ_get hy]; simp [allb]
        generalize allb (l.take k) = C at hal hs ⊢
        repeat ((intro _u; clear _u); first | with_reducible first | refine cT ?_ | refine cF ?_ | refine cA ?_ | refine cB ?_ | refine aLn ?_ | refine cK ?_ | refine aS8 ?_ | refine wI ?_ | refine nD ?_ | refine aX rfl ?_ | refine vL rfl ?_)
        intro _u; clear _u
        refine iwr_any ?_
        repeat ((intro _u; clear _u); first | with_reducible first | refine cT ?_ | refine cF ?_ | refine cA ?_ | refine cB ?_ | refine aLn ?_ | refine cK ?_ | refine aS8 ?_ | refine wI ?_ | refine nD ?_ | refine aX rfl ?_ | refine vL rfl ?_)
        intro _u; clear _u
        refine iwr_any ?_
        repeat ((intro _u; clear _u); first | with_reducible first | refine cT ?_ | refine cF ?_ | refine cA ?_ | refine cB ?_ | refine aLn ?_ | refine cK ?_ | refine aS8 ?_ | refine wI ?_ | refine nD ?_ | refine aX rfl ?_ | refine vL rfl ?_)
        intro _u; clear _u
        refine iwr_any ?_
        repeat ((intro _u; clear _u); first | with_reducible first | refine cT ?_ | refine cF ?_ | refine cA ?_ | refine cB ?_ | refine aLn ?_ | refine cK ?_ | refine aS8 ?_ | refine wI ?_ | refine nD ?_ | refine aX rfl ?_ | refine vL rfl ?_)
        rw [three_bytes]
        repeat ((intro _u; clear _u); first | with_reducible first | refine cT ?_ | refine cF ?_ | refine cA ?_ | refine cB ?_ | refine aLn ?_ | refine cK ?_ | refine aS8 ?_ | refine wI ?_ | refine nD ?_ | refine aX rfl ?_ | refine vL rfl ?_)
        intro _u; clear _u
        refine nX (k + 1) ?_ ?_ ⟨_, hp, rfl⟩ ?_ ?_
        · omega
        · omega
        · all_goals repeat' (first | exact True.intro | refine And.intro ?_ ?_ | (intro _u; clear _u) | (with_reducible first | refine eM ?_ ?_ | refine eF ?_ ?_ ?_ | refine eN ?_ | refine eL ?_ ?_ ?_ | refine eA ?_ ?_ | refine IWk.mk ⟨_, hp, rfl⟩ ?_ ?_) | refine IWk.mk ⟨_, hp, rfl⟩ ?_ ?_)
          all_goals first | with_reducible rfl | omega | exact Or.inl (by decide) | (simp; done) | rfl | skip
          all_goals (rw [hs]; first | (simp [one39]; done) | (simp only [one39, slc8_append, List.append_assoc]; done) | (simp [one39]; omega))
        · all_goals repeat' (first | exact True.intro | refine And.intro ?_ ?_ | (intro _u; clear _u) | (with_reducible first | refine eM ?_ ?_ | refine eF ?_ ?_ ?_ | refine eN ?_ | refine eL ?_ ?_ ?_ | refine eA ?_ ?_ | refine IWk.mk ⟨_, hp, rfl⟩ ?_ ?_) | refine IWk.mk ⟨_, hp, rfl⟩ ?_ ?_)
          all_goals first | with_reducible rfl | omega | exact Or.inl (by decide) | (simp; done) | rfl | skip
          all_goals (rw [hs]; first | (simp [one39]; done) | (simp only [one39, slc8_append, List.append_assoc]; done) | (simp [one39]; omega))
      · rw [List.take_of_length_le (by omega)]
        repeat ((intro _u; clear _u); first | with_reducible first | refine cT ?_ | refine cF ?_ | refine cA ?_ | refine cB ?_ | refine aLn ?_ | refine cK ?_ | refine aS8 ?_ | refine wI ?_ | refine nD ?_ | refine aX rfl ?_ | refine vL rfl ?_)
        intro _u; clear _u
        exact rT
theorem all_n {R : Env} (h : N180 R) : R.Pc 180 [.nils] (.tup [.isl 1 (slc8 []), .int .i64 0]) :=
  h.o180.enter 100 rfl fun X bb hfit hp => by
    repeat ((intro _u; clear _u); first | with_reducible first | refine cT ?_ | refine cF ?_ | refine cA ?_ | refine cB ?_ | refine aLn ?_ | refine cK ?_ | refine aS8 ?_ | refine wI ?_ | refine nD ?_ | refine aX rfl ?_ | refine vL rfl ?_)
    intro _u; clear _u
    refine ILoop.one 100 ?_
    repeat ((intro _u; clear _u); first | with_reducible first | refine cT ?_ | refine cF ?_ | refine cA ?_ | refine cB ?_ | refine aLn ?_ | refine cK ?_ | refine aS8 ?_ | refine wI ?_ | refine nD ?_ | refine aX rfl ?_ | refine vL rfl ?_)
    intro _u; clear _u
    refine acnd_f (by decide) ?_
    repeat ((intro _u; clear _u); first | with_reducible first | refine cT ?_ | refine cF ?_ | refine cA ?_ | refine cB ?_ | refine aLn ?_ | refine cK ?_ | refine aS8 ?_ | refine wI ?_ | refine nD ?_ | refine aX rfl ?_ | refine vL rfl ?_)
    intro _u; clear _u
    exact rT

theorem u8_rem (n : Int) : ((u8 n).toNat : Int) = n % 256 := by
  rw [← wr_u8]
  simp only [wr, IntKind.wrap, IntKind.bits, IntKind.signed]
  simp
theorem or_n {n : Nat} (h : n < 16777216) : bit2 .or .i64 (bit2 .or .i64 (((u8 (n : Int)).toNat : Nat) : Int) (shlI .i64 (((u8 ((n : Int) / 256)).toNat : Nat) : Int) 8)) (shlI .i64 (((u8 ((n : Int) / 65536)).toNat : Nat) : Int) 16) = n := by
  have e1 : (((u8 (n : Int)).toNat : Nat) : Int) = ((n % 256 : Nat) : Int) := by rw [u8_rem]; omega
  have e2 : (((u8 ((n : Int) / 256)).toNat : Nat) : Int) = ((n / 256 % 256 : Nat) : Int) := by rw [u8_rem]; omega
  have e3 : (((u8 ((n : Int) / 65536)).toNat : Nat) : Int) = ((n / 65536 : Nat) : Int) := by rw [u8_rem]; omega
  rw [e1, e2, e3]
  have s1 : shlI .i64 ((n / 256 % 256 : Nat) : Int) 8 = ((2 ^ 8 * (n / 256 % 256) : Nat) : Int) := by
    simp only [shlI, IntKind.wrap, IntKind.bits, IntKind.signed]; simp; omega
  have s2 : shlI .i64 ((n / 65536 : Nat) : Int) 16 = ((2 ^ 16 * (n / 65536) : Nat) : Int) := by
    simp only [shlI, IntKind.wrap, IntKind.bits, IntKind.signed]; simp; omega
  have o1 : bit2 .or .i64 ((n % 256 : Nat) : Int) ((2 ^ 8 * (n / 256 % 256) : Nat) : Int) = ((2 ^ 8 * (n / 256 % 256) + n % 256 : Nat) : Int) := by
    rw [or_i64 ⟨by omega, by omega⟩ ⟨by omega, by omega⟩, Int.toNat_natCast, Int.toNat_natCast, Nat.or_comm, ← Nat.two_pow_add_eq_or_of_lt (by omega : n % 256 < 2 ^ 8)]
  rw [s1, s2, o1, or_i64 ⟨by omega, by omega⟩ ⟨by omega, by omega⟩, Int.toNat_natCast, Int.toNat_natCast, Nat.or_comm, ← Nat.two_pow_add_eq_or_of_lt (by omega : 2 ^ 8 * (n / 256 % 256) + n % 256 < 2 ^ 16)]
  omega

theorem split_go {p : Pl} (rest : List UInt8) : ∃ c, c = (packed p).1 ∧ one39 p ++ rest = u8 (c.length : Int) :: u8 ((c.length : Int) / 256) :: u8 ((c.length : Int) / 65536) :: (c ++ rest) := ⟨_, rfl, by simp [one39]⟩



theorem split_c {R : Env} (h : N181 R) (l : List Pl) (hf : ∀ p ∈ l, Fine p) (hl : l.length ≤ 6) : R.Pc 181 [.isl 1 (slc8 (allb l))] (.tup [.isl 5 (slP l), .int .i64 0]) :=
  h.o181.enter 100 rfl fun X bb hfit hp => by
    repeat ((intro _u; clear _u); first | with_reducible first | refine cT ?_ | refine cF ?_ | refine cA ?_ | refine cB ?_ | refine aLn ?_ | refine cK ?_ | refine aS8 ?_ | refine wI ?_ | refine nD ?_ | refine aX rfl ?_ | refine vL rfl ?_)
    intro _u; clear _u
    refine ILoop.one 100 ?_
    by_cases hl0 : l = []
    · subst hl0
      repeat ((intro _u; clear _u); first | with_reducible first | refine cT ?_ | refine cF ?_ | refine cA ?_ | refine cB ?_ | refine aLn ?_ | refine cK ?_ | refine aS8 ?_ | refine wI ?_ | refine nD ?_ | refine aX rfl ?_ | refine vL rfl ?_)
      intro _u; clear _u
      refine acnd_f (by decide) ?_
      repeat ((intro _u; clear _u); first | with_reducible first | refine cT ?_ | refine cF ?_ | refine cA ?_ | refine cB ?_ | refine aLn ?_ | refine cK ?_ | refine aS8 ?_ | refine wI ?_ | refine nD ?_ | refine aX rfl ?_ | refine vL rfl ?_)
      intro _u; clear _u
      exact rT
    · have h0 : 1 ≤ l.length := by
        rcases Nat.eq_zero_or_pos l.length with e | e
        · exact (hl0 (List.eq_nil_of_length_eq_zero e)).elim
        · exact e
      obtain ⟨y, hy⟩ : ∃ u, l[0]? = some u := ⟨_, List.getElem?_eq_getElem (by omega)⟩
      have fp := hf y (List.mem_of_getElem? hy)
      obtain ⟨k, hk⟩ : ∃ k, k = 0 := ⟨0, rfl⟩
      rw [← hk] at hy
      rw [show allb l = allb (l.drop k) by rw [hk]; rfl]
      obtain ⟨c, hc, hb⟩ := split_go (p := y) (allb (l.drop (k + 1)))
      have hcl := fp.len
      have hcu := unp_packed fp.c
      have hlen : (u8 (c.length : Int) :: u8 ((c.length : Int) / 256) :: u8 ((c.length : Int) / 65536) :: (c ++ allb (l.drop (k + 1)))).length = 3 + c.length + (allb (l.drop (k + 1))).length := by simp; omega
      rw [drop_got hy, show allb (y :: l.drop (k + 1)) = one39 y ++ allb (l.drop (k + 1)) by simp [allb], hb]
      rw [← hc] at hcl hcu
      have hd3 : (u8 (c.length : Int) :: u8 ((c.length : Int) / 256) :: u8 ((c.length : Int) / 65536) :: (c ++ allb (l.drop (k + 1)))).drop (3 + c.length) = allb (l.drop (k + 1)) := by rw [Nat.add_comm]; simp
      have ht3 : ((u8 (c.length : Int) :: u8 ((c.length : Int) / 256) :: u8 ((c.length : Int) / 65536) :: (c ++ allb (l.drop (k + 1)))).take (3 + c.length)).drop 3 = c := by rw [Nat.add_comm]; simp
      have g0 : (u8 (c.length : Int) :: u8 ((c.length : Int) / 256) :: u8 ((c.length : Int) / 65536) :: (c ++ allb (l.drop (k + 1))))[0]? = some (u8 (c.length : Int)) := rfl
      have g1 : (u8 (c.length : Int) :: u8 ((c.length : Int) / 256) :: u8 ((c.length : Int) / 65536) :: (c ++ allb (l.drop (k + 1))))[1]? = some (u8 ((c.length : Int) / 256)) := rfl
      have g2 : (u8 (c.length : Int) :: u8 ((c.length : Int) / 256) :: u8 ((c.length : Int) / 65536) :: (c ++ allb (l.drop (k + 1))))[2]? = some (u8 ((c.length : Int) / 65536)) := rfl
      have hor := or_n (n := c.length) (by omega)
      have t0 := (u8 (c.length : Int)).toNat_lt
      have t1 := (u8 ((c.length : Int) / 256)).toNat_lt
      have t2 := (u8 ((c.length : Int) / 65536)).toNat_lt
      have hB : 3 + c.length + (allb (l.drop (k + 1))).length ≤ 1073741824 := by
        have := allb_len (l := l.drop (k + 1)) (fun p hp => hf p (List.mem_of_mem_drop hp))
        simp at this
        omega
      generalize u8 (c.length : Int) :: u8 ((c.length : Int) / 256) :: u8 ((c.length : Int) / 65536) :: (c ++ allb (l.drop (k + 1))) = B at hlen hd3 ht3 g0 g1 g2 ⊢
      repeat ((intro _u; clear _u); first | with_reducible first | refine cT ?_ | refine cF ?_ | refine cA ?_ | refine cB ?_ | refine aLn ?_ | refine cK ?_ | refine aS8 ?_ | refine wI ?_ | refine nD ?_ | refine aX rfl ?_ | refine vL rfl ?_)
      intro _u; clear _u
      refine acnd_t (by simp; omega) ?_
      repeat ((intro _u; clear _u); first | with_reducible first | refine cT ?_ | refine cF ?_ | refine cA ?_ | refine cB ?_ | refine aLn ?_ | refine cK ?_ | refine aS8 ?_ | refine wI ?_ | refine nD ?_ | refine aX rfl ?_ | refine vL rfl ?_)
      intro _u; clear _u
      refine acnd_f (by simp; omega) ?_
      repeat ((intro _u; clear _u); first | with_reducible first | refine cT ?_ | refine cF ?_ | refine cA ?_ | refine cB ?_ | refine aLn ?_ | refine cK ?_ | refine aS8 ?_ | refine wI ?_ | refine nD ?_ | refine aX rfl ?_ | refine vL rfl ?_)
      intro _u; clear _u
      refine eget_map g0 ?_
      repeat ((intro _u; clear _u); first | with_reducible first | refine cT ?_ | refine cF ?_ | refine cA ?_ | refine cB ?_ | refine aLn ?_ | refine cK ?_ | refine aS8 ?_ | refine wI ?_ | refine nD ?_ | refine aX rfl ?_ | refine vL rfl ?_)
      intro _u; clear _u
      refine eget_map g1 ?_
      repeat ((intro _u; clear _u); first | with_reducible first | refine cT ?_ | refine cF ?_ | refine cA ?_ | refine cB ?_ | refine aLn ?_ | refine cK ?_ | refine aS8 ?_ | refine wI ?_ | refine nD ?_ | refine aX rfl ?_ | refine vL rfl ?_)
      intro _u; clear _u
      refine eget_map g2 ?_
      repeat ((intro _u; clear _u); first | with_reducible first | refine cT ?_ | refine cF ?_ | refine cA ?_ | refine cB ?_ | refine aLn ?_ | refine cK ?_ | refine aS8 ?_ | refine wI ?_ | refine nD ?_ | refine aX rfl ?_ | refine vL rfl ?_)
      rw [hor]
      repeat ((intro _u; clear _u); first | with_reducible first | refine cT ?_ | refine cF ?_ | refine cA ?_ | refine cB ?_ | refine aLn ?_ | refine cK ?_ | refine aS8 ?_ | refine wI ?_ | refine nD ?_ | refine aX rfl ?_ | refine vL rfl ?_)
      intro _u; clear _u
      refine acnd_f (by simp; omega) ?_
      repeat ((intro _u; clear _u); first | with_reducible first | refine cT ?_ | refine cF ?_ | refine cA ?_ | refine cB ?_ | refine aLn ?_ | refine cK ?_ | refine aS8 ?_ | refine wI ?_ | refine nD ?_ | refine aX rfl ?_ | refine vL rfl ?_)
      intro _u; clear _u
      refine asub_eq (by rw [slc8_take, slc8_drop, show ((3 : Int) + (c.length : Int)).toNat = 3 + c.length by omega, show Int.toNat 3 = 3 from rfl, ht3]) ?_
      have c9 := unpack_c h.n179 c (by omega)
      rw [hcu] at c9
      repeat ((intro _u; clear _u); first | with_reducible first | refine cT ?_ | refine cF ?_ | refine cA ?_ | refine cB ?_ | refine aLn ?_ | refine cK ?_ | refine aS8 ?_ | refine wI ?_ | refine nD ?_ | refine aX rfl ?_ | refine vL rfl ?_)
      intro _u; clear _u
      refine ICall.pure h.n179.o179.hb c9 rfl ?_
      repeat ((intro _u; clear _u); first | with_reducible first | refine cT ?_ | refine cF ?_ | refine cA ?_ | refine cB ?_ | refine aLn ?_ | refine cK ?_ | refine aS8 ?_ | refine wI ?_ | refine nD ?_ | refine aX rfl ?_ | refine vL rfl ?_)
      intro _u; clear _u
      refine acnd_f (by rfl) ?_
      repeat ((intro _u; clear _u); first | with_reducible first | refine cT ?_ | refine cF ?_ | refine cA ?_ | refine cB ?_ | refine aLn ?_ | refine cK ?_ | refine aS8 ?_ | refine wI ?_ | refine nD ?_ | refine aX rfl ?_ | refine vL rfl ?_)
      intro _u; clear _u
      refine asub_eq (by rw [slc8_drop, show ((3 : Int) + (c.length : Int)).toNat = 3 + c.length by omega, hd3]) ?_
      repeat ((intro _u; clear _u); first | with_reducible first | refine cT ?_ | refine cF ?_ | refine cA ?_ | refine cB ?_ | refine aLn ?_ | refine cK ?_ | refine aS8 ?_ | refine wI ?_ | refine nD ?_ | refine aX rfl ?_ | refine vL rfl ?_)
      intro _u; clear _u
      refine ILoop.inv 100 (fun k : Nat => 1 ≤ k ∧ k ≤ l.length) (fun k => ⟨[(0, .isl 1 (slc8 (allb (l.drop k)))), (4, .osl 2 k)], [(2, .arr (R.ty 20) 5 (slP (l.take k)))], 3⟩) (fun k => l.length - k) (1) ?_ ⟨⟨_, hp, rfl⟩, ?_, ?_⟩ ?_
      · exact ⟨Nat.le_refl _, h0⟩
      · all_goals repeat' (first | exact True.intro | refine And.intro ?_ ?_ | (intro _u; clear _u) | (with_reducible first | refine eM ?_ ?_ | refine eF ?_ ?_ ?_ | refine eN ?_ | refine eL ?_ ?_ ?_ | refine eA ?_ ?_ | refine IWk.mk ⟨_, hp, rfl⟩ ?_ ?_) | refine IWk.mk ⟨_, hp, rfl⟩ ?_ ?_)
        all_goals first | with_reducible rfl | omega | exact Or.inl (by decide) | (simp; done) | rfl | skip
        all_goals (rw [hk])
      · all_goals repeat' (first | exact True.intro | refine And.intro ?_ ?_ | (intro _u; clear _u) | (with_reducible first | refine eM ?_ ?_ | refine eF ?_ ?_ ?_ | refine eN ?_ | refine eL ?_ ?_ ?_ | refine eA ?_ ?_ | refine IWk.mk ⟨_, hp, rfl⟩ ?_ ?_) | refine IWk.mk ⟨_, hp, rfl⟩ ?_ ?_)
        all_goals first | with_reducible rfl | omega | exact Or.inl (by decide) | (simp; done) | rfl | skip
        all_goals (rw [take_succ_get (k := 0) (by rw [← hk]; exact hy)]; simp [slP, Pl.row])
      · intro k hk
        dsimp only
        by_cases hkl : k = l.length
        · rw [hkl, List.drop_of_length_le (Nat.le_refl _), List.take_of_length_le (Nat.le_refl _)]
          repeat ((intro _u; clear _u); first | with_reducible first | refine cT ?_ | refine cF ?_ | refine cA ?_ | refine cB ?_ | refine aLn ?_ | refine cK ?_ | refine aS8 ?_ | refine wI ?_ | refine nD ?_ | refine aX rfl ?_ | refine vL rfl ?_)
          intro _u; clear _u
          refine acnd_f (by decide) ?_
          repeat ((intro _u; clear _u); first | with_reducible first | refine cT ?_ | refine cF ?_ | refine cA ?_ | refine cB ?_ | refine aLn ?_ | refine cK ?_ | refine aS8 ?_ | refine wI ?_ | refine nD ?_ | refine aX rfl ?_ | refine vL rfl ?_)
          intro _u; clear _u
          exact rT
        · obtain ⟨y, hy⟩ : ∃ u, l[k]? = some u := ⟨_, List.getElem?_eq_getElem (by omega)⟩
          have fp := hf y (List.mem_of_getElem? hy)
          obtain ⟨c, hc, hb⟩ := split_go (p := y) (allb (l.drop (k + 1)))
          have hcl := fp.len
          have hcu := unp_packed fp.c
          have hlen : (u8 (c.length : Int) :: u8 ((c.length : Int) / 256) :: u8 ((c.length : Int) / 65536) :: (c ++ allb (l.drop (k + 1)))).length = 3 + c.length + (allb (l.drop (k + 1))).length := by simp; omega
          rw [drop_got hy, show allb (y :: l.drop (k + 1)) = one39 y ++ allb (l.drop (k + 1)) by simp [allb], hb]
          rw [← hc] at hcl hcu
          have hd3 : (u8 (c.length : Int) :: u8 ((c.length : Int) / 256) :: u8 ((c.length : Int) / 65536) :: (c ++ allb (l.drop (k + 1)))).drop (3 + c.length) = allb (l.drop (k + 1)) := by rw [Nat.add_comm]; simp
          have ht3 : ((u8 (c.length : Int) :: u8 ((c.length : Int) / 256) :: u8 ((c.length : Int) / 65536) :: (c ++ allb (l.drop (k + 1)))).take (3 + c.length)).drop 3 = c := by rw [Nat.add_comm]; simp
          have g0 : (u8 (c.length : Int) :: u8 ((c.length : Int) / 256) :: u8 ((c.length : Int) / 65536) :: (c ++ allb (l.drop (k + 1))))[0]? = some (u8 (c.length : Int)) := rfl
          have g1 : (u8 (c.length : Int) :: u8 ((c.length : Int) / 256) :: u8 ((c.length : Int) / 65536) :: (c ++ allb (l.drop (k + 1))))[1]? = some (u8 ((c.length : Int) / 256)) := rfl
          have g2 : (u8 (c.length : Int) :: u8 ((c.length : Int) / 256) :: u8 ((c.length : Int) / 65536) :: (c ++ allb (l.drop (k + 1))))[2]? = some (u8 ((c.length : Int) / 65536)) := rfl
          have hor := or_n (n := c.length) (by omega)
          have t0 := (u8 (c.length : Int)).toNat_lt
          have t1 := (u8 ((c.length : Int) / 256)).toNat_lt
          have t2 := (u8 ((c.length : Int) / 65536)).toNat_lt
          have hB : 3 + c.length + (allb (l.drop (k + 1))).length ≤ 1073741824 := by
            have := allb_len (l := l.drop (k + 1)) (fun p hp => hf p (List.mem_of_mem_drop hp))
            simp at this
            omega
          generalize u8 (c.length : Int) :: u8 ((c.length : Int) / 256) :: u8 ((c.length : Int) / 65536) :: (c ++ allb (l.drop (k + 1))) = B at hlen hd3 ht3 g0 g1 g2 ⊢
          repeat ((intro _u; clear _u); first | with_reducible first | refine cT ?_ | refine cF ?_ | refine cA ?_ | refine cB ?_ | refine aLn ?_ | refine cK ?_ | refine aS8 ?_ | refine wI ?_ | refine nD ?_ | refine aX rfl ?_ | refine vL rfl ?_)
          intro _u; clear _u
          refine acnd_t (by simp; omega) ?_
          repeat ((intro _u; clear _u); first | with_reducible first | refine cT ?_ | refine cF ?_ | refine cA ?_ | refine cB ?_ | refine aLn ?_ | refine cK ?_ | refine aS8 ?_ | refine wI ?_ | refine nD ?_ | refine aX rfl ?_ | refine vL rfl ?_)
          intro _u; clear _u
          refine acnd_f (by simp; omega) ?_
          repeat ((intro _u; clear _u); first | with_reducible first | refine cT ?_ | refine cF ?_ | refine cA ?_ | refine cB ?_ | refine aLn ?_ | refine cK ?_ | refine aS8 ?_ | refine wI ?_ | refine nD ?_ | refine aX rfl ?_ | refine vL rfl ?_)
          intro _u; clear _u
          refine eget_map g0 ?_
          repeat ((intro _u; clear _u); first | with_reducible first | refine cT ?_ | refine cF ?_ | refine cA ?_ | refine cB ?_ | refine aLn ?_ | refine cK ?_ | refine aS8 ?_ | refine wI ?_ | refine nD ?_ | refine aX rfl ?_ | refine vL rfl ?_)
          intro _u; clear _u
          refine eget_map g1 ?_
          repeat ((intro _u; clear _u); first | with_reducible first | refine cT ?_ | refine cF ?_ | refine cA ?_ | refine cB ?_ | refine aLn ?_ | refine cK ?_ | refine aS8 ?_ | refine wI ?_ | refine nD ?_ | refine aX rfl ?_ | refine vL rfl ?_)
          intro _u; clear _u
          refine eget_map g2 ?_
          repeat ((intro _u; clear _u); first | with_reducible first | refine cT ?_ | refine cF ?_ | refine cA ?_ | refine cB ?_ | refine aLn ?_ | refine cK ?_ | refine aS8 ?_ | refine wI ?_ | refine nD ?_ | refine aX rfl ?_ | refine vL rfl ?_)
          rw [hor]
          repeat ((intro _u; clear _u); first | with_reducible first | refine cT ?_ | refine cF ?_ | refine cA ?_ | refine cB ?_ | refine aLn ?_ | refine cK ?_ | refine aS8 ?_ | refine wI ?_ | refine nD ?_ | refine aX rfl ?_ | refine vL rfl ?_)
          intro _u; clear _u
          refine acnd_f (by simp; omega) ?_
          repeat ((intro _u; clear _u); first | with_reducible first | refine cT ?_ | refine cF ?_ | refine cA ?_ | refine cB ?_ | refine aLn ?_ | refine cK ?_ | refine aS8 ?_ | refine wI ?_ | refine nD ?_ | refine aX rfl ?_ | refine vL rfl ?_)
          intro _u; clear _u
          refine asub_eq (by rw [slc8_take, slc8_drop, show ((3 : Int) + (c.length : Int)).toNat = 3 + c.length by omega, show Int.toNat 3 = 3 from rfl, ht3]) ?_
          have c9 := unpack_c h.n179 c (by omega)
          rw [hcu] at c9
          repeat ((intro _u; clear _u); first | with_reducible first | refine cT ?_ | refine cF ?_ | refine cA ?_ | refine cB ?_ | refine aLn ?_ | refine cK ?_ | refine aS8 ?_ | refine wI ?_ | refine nD ?_ | refine aX rfl ?_ | refine vL rfl ?_)
          intro _u; clear _u
          refine ICall.pure h.n179.o179.hb c9 rfl ?_
          repeat ((intro _u; clear _u); first | with_reducible first | refine cT ?_ | refine cF ?_ | refine cA ?_ | refine cB ?_ | refine aLn ?_ | refine cK ?_ | refine aS8 ?_ | refine wI ?_ | refine nD ?_ | refine aX rfl ?_ | refine vL rfl ?_)
          intro _u; clear _u
          refine acnd_f (by rfl) ?_
          repeat ((intro _u; clear _u); first | with_reducible first | refine cT ?_ | refine cF ?_ | refine cA ?_ | refine cB ?_ | refine aLn ?_ | refine cK ?_ | refine aS8 ?_ | refine wI ?_ | refine nD ?_ | refine aX rfl ?_ | refine vL rfl ?_)
          intro _u; clear _u
          refine asub_eq (by rw [slc8_drop, show ((3 : Int) + (c.length : Int)).toNat = 3 + c.length by omega, hd3]) ?_
          repeat ((intro _u; clear _u); first | with_reducible first | refine cT ?_ | refine cF ?_ | refine cA ?_ | refine cB ?_ | refine aLn ?_ | refine cK ?_ | refine aS8 ?_ | refine wI ?_ | refine nD ?_ | refine aX rfl ?_ | refine vL rfl ?_)
          intro _u; clear _u
          refine nX (k + 1) ?_ ?_ ⟨_, hp, rfl⟩ ?_ ?_
          · omega
          · omega
          · all_goals repeat' (first | exact True.intro | refine And.intro ?_ ?_ | (intro _u; clear _u) | (with_reducible first | refine eM ?_ ?_ | refine eF ?_ ?_ ?_ | refine eN ?_ | refine eL ?_ ?_ ?_ | refine eA ?_ ?_ | refine IWk.mk ⟨_, hp, rfl⟩ ?_ ?_) | refine IWk.mk ⟨_, hp, rfl⟩ ?_ ?_)
            all_goals first | with_reducible rfl | omega | exact Or.inl (by decide) | (simp; done) | rfl | skip
            all_goals (simp; omega)
          · all_goals repeat' (first | exact True.intro | refine And.intro ?_ ?_ | (intro _u; clear _u) | (with_reducible first | refine eM ?_ ?_ | refine eF ?_ ?_ ?_ | refine eN ?_ | refine eL ?_ ?_ ?_ | refine eA ?_ ?_ | refine IWk.mk ⟨_, hp, rfl⟩ ?_ ?_) | refine IWk.mk ⟨_, hp, rfl⟩ ?_ ?_)
            all_goals first | with_reducible rfl | omega | exact Or.inl (by decide) | (simp; done) | rfl | skip
            all_goals (rw [take_succ_get hy]; simp [slP, Pl.row])
end Go.UM

/- The statements of chapter 39, part 6: PackBack. -/

namespace Go.UM
open Go.AM
set_option maxRecDepth 4000

def goods (l : List Pl) : List Pl := (l.map Pl.few).filter fun p => pchk p == 0
theorem goods_yes {l : List Pl} {i : Nat} {y : Pl} (h : l[i]? = some y) (hc : pchk y.few = 0) : goods (l.take (i + 1)) = goods (l.take i) ++ [y.few] := by
  unfold goods
  rw [take_succ_get h]
  simp [hc]
theorem goods_no {l : List Pl} {i : Nat} {y : Pl} (h : l[i]? = some y) (hc : ¬ pchk y.few = 0) : goods (l.take (i + 1)) = goods (l.take i) := by
  unfold goods
  rw [take_succ_get h]
  simp [hc]
theorem goods_fine {l : List Pl} : ∀ p ∈ goods l, Fine p := by
  intro p hp
  obtain ⟨h1, h2⟩ := List.mem_filter.1 hp
  obtain ⟨q, _, rfl⟩ := List.mem_map.1 h1
  exact ⟨by simpa using h2, by simp [Pl.few]; omega⟩
theorem goods_len (l : List Pl) : (goods l).length ≤ l.length := by
  unfold goods
  have := List.length_filter_le (fun p => pchk p == 0) (l.map Pl.few)
  simpa using this





set_option maxHeartbeats 1000000 in
theorem pback39_law {R : Env} (h : N178 R) (l : List Pl) (b : List UInt8) : R.Pc 178 [.isl 5 (slP l), .isl 1 (slc8 b)] (.bool true) :=
  h.o178.enter 100 rfl fun X bb hfit hp => by
    repeat ((intro _u; clear _u); first | with_reducible first | refine cT ?_ | refine cF ?_ | refine cA ?_ | refine cB ?_ | refine aLn ?_ | refine cK ?_ | refine aS8 ?_ | refine wI ?_ | refine nD ?_ | refine aX rfl ?_ | refine vL rfl ?_)
    intro _u; clear _u
    refine asub_eq (by exact cap8 b 500) ?_
    have hb : (b.take (Int.toNat 500)).length ≤ 1000 := by simp; omega
    generalize b.take (Int.toNat 500) = b at hb ⊢
    repeat ((intro _u; clear _u); first | with_reducible first | refine cT ?_ | refine cF ?_ | refine cA ?_ | refine cB ?_ | refine aLn ?_ | refine cK ?_ | refine aS8 ?_ | refine wI ?_ | refine nD ?_ | refine aX rfl ?_ | refine vL rfl ?_)
    intro _u; clear _u
    refine lPa 100 (Sum.elim (fun i : Nat => i ≤ 6 ∧ i ≤ l.length ∧ goods (l.take i) = []) (fun i : Nat => i ≤ 6 ∧ i ≤ l.length ∧ 1 ≤ (goods (l.take i)).length)) (Sum.elim (fun i => ⟨[(0, .isl 5 (slP l)), (1, .isl 1 (slc8 b)), (5, .nils), (6, .int .i64 i)], [], 0⟩) (fun i => ⟨[(0, .isl 5 (slP l)), (1, .isl 1 (slc8 b)), (5, .osl 2 (goods (l.take i)).length), (6, .int .i64 i)], [(2, .arr (R.ty 20) 5 (slP (goods (l.take i))))], 3⟩)) (Sum.elim (fun i => 6 - i) (fun i => 6 - i)) (.inl 0) ?_ ?_
    · exact ⟨by omega, by omega, rfl⟩
    · rintro (i | i) ⟨hv1, hv2, hv3⟩
      · dsimp only [Sum.elim_inl]
        repeat ((intro _u; clear _u); first | with_reducible first | refine cT ?_ | refine cF ?_ | refine cA ?_ | refine cB ?_ | refine aLn ?_ | refine cK ?_ | refine aS8 ?_ | refine wI ?_ | refine nD ?_ | refine aX rfl ?_ | refine vL rfl ?_)
        intro _u; clear _u
        refine cS (fun a1 => ?_) (fun a1 => ?_)
        · repeat ((intro _u; clear _u); first | with_reducible first | refine cT ?_ | refine cF ?_ | refine cA ?_ | refine cB ?_ | refine aLn ?_ | refine cK ?_ | refine aS8 ?_ | refine wI ?_ | refine nD ?_ | refine aX rfl ?_ | refine vL rfl ?_)
          intro _u; clear _u
          refine cS (fun a2 => ?_) (fun a2 => ?_)
          · obtain ⟨y, hy⟩ : ∃ u_, l[i]? = some u_ := ⟨_, List.getElem?_eq_getElem (by first | omega | (simp <;> omega))⟩
            repeat ((intro _u; clear _u); first | with_reducible first | refine cT ?_ | refine cF ?_ | refine cA ?_ | refine cB ?_ | refine aLn ?_ | refine cK ?_ | refine aS8 ?_ | refine wI ?_ | refine nD ?_ | refine aX rfl ?_ | refine vL rfl ?_)
            intro _u; clear _u
            refine eget_map hy ?_
            have hfn : y.few.name.length ≤ 20 := by simp [Pl.few]; omega
            have hfd : y.few.data.length ≤ 150 := by simp [Pl.few]; omega
            repeat ((intro _u; clear _u); first | with_reducible first | refine cT ?_ | refine cF ?_ | refine cA ?_ | refine cB ?_ | refine aLn ?_ | refine cK ?_ | refine aS8 ?_ | refine wI ?_ | refine nD ?_ | refine aX rfl ?_ | refine vL rfl ?_)
            intro _u; clear _u
            refine ICall.pure h.n171.o171.hb (few39_c h.n171 y) rfl ?_
            have c1 := pack_c h.n164 y.few (by omega) (by have := packed_len y.few; omega)
            by_cases hc : pchk y.few = 0
            · have ff : Fine y.few := ⟨hc, hfd⟩
              rw [ff.packed] at c1
              repeat ((intro _u; clear _u); first | with_reducible first | refine cT ?_ | refine cF ?_ | refine cA ?_ | refine cB ?_ | refine aLn ?_ | refine cK ?_ | refine aS8 ?_ | refine wI ?_ | refine nD ?_ | refine aX rfl ?_ | refine vL rfl ?_)
              intro _u; clear _u
              refine ICall.pure h.n164.o164.hb c1 rfl ?_
              repeat ((intro _u; clear _u); first | with_reducible first | refine cT ?_ | refine cF ?_ | refine cA ?_ | refine cB ?_ | refine aLn ?_ | refine cK ?_ | refine aS8 ?_ | refine wI ?_ | refine nD ?_ | refine aX rfl ?_ | refine vL rfl ?_)
              intro _u; clear _u
              refine acnd_f (by rfl) ?_
              have c2 := unpack_c h.n179 (packed y.few).1 (by have := ff.len; omega)
              rw [unp_packed hc] at c2
              repeat ((intro _u; clear _u); first | with_reducible first | refine cT ?_ | refine cF ?_ | refine cA ?_ | refine cB ?_ | refine aLn ?_ | refine cK ?_ | refine aS8 ?_ | refine wI ?_ | refine nD ?_ | refine aX rfl ?_ | refine vL rfl ?_)
              intro _u; clear _u
              refine ICall.pure h.n179.o179.hb c2 rfl ?_
              repeat ((intro _u; clear _u); first | with_reducible first | refine cT ?_ | refine cF ?_ | refine cA ?_ | refine cB ?_ | refine aLn ?_ | refine cK ?_ | refine aS8 ?_ | refine wI ?_ | refine nD ?_ | refine aX rfl ?_ | refine vL rfl ?_)
              intro _u; clear _u
              refine acnd_f (by rfl) ?_
              repeat ((intro _u; clear _u); first | with_reducible first | refine cT ?_ | refine cF ?_ | refine cA ?_ | refine cB ?_ | refine aLn ?_ | refine cK ?_ | refine aS8 ?_ | refine wI ?_ | refine nD ?_ | refine aX rfl ?_ | refine vL rfl ?_)
              intro _u; clear _u
              refine ICall.pure h.n175.o175.hb (same30_c h.n175 y.few (by omega)) rfl ?_
              have hg := goods_yes hy hc
              repeat ((intro _u; clear _u); first | with_reducible first | refine cT ?_ | refine cF ?_ | refine cA ?_ | refine cB ?_ | refine aLn ?_ | refine cK ?_ | refine aS8 ?_ | refine wI ?_ | refine nD ?_ | refine aX rfl ?_ | refine vL rfl ?_)
              intro _u; clear _u
              refine nX (.inr (i + 1)) ?_ ?_ ⟨_, hp, rfl⟩ ?_ ?_
              · exact ⟨by omega, by omega, by rw [hg]; simp⟩
              · dsimp only [Sum.elim_inl, Sum.elim_inr]; omega
              · all_goals repeat' (first | exact True.intro | refine And.intro ?_ ?_ | (intro _u; clear _u) | (with_reducible first | refine eM ?_ ?_ | refine eF ?_ ?_ ?_ | refine eN ?_ | refine eL ?_ ?_ ?_ | refine eA ?_ ?_ | refine IWk.mk ⟨_, hp, rfl⟩ ?_ ?_) | refine IWk.mk ⟨_, hp, rfl⟩ ?_ ?_)
                all_goals first | with_reducible rfl | omega | exact Or.inl (by decide) | (simp; done) | rfl | skip
                all_goals (rw [hg]; simp [hv3, slP, Pl.row])
              · all_goals repeat' (first | exact True.intro | refine And.intro ?_ ?_ | (intro _u; clear _u) | (with_reducible first | refine eM ?_ ?_ | refine eF ?_ ?_ ?_ | refine eN ?_ | refine eL ?_ ?_ ?_ | refine eA ?_ ?_ | refine IWk.mk ⟨_, hp, rfl⟩ ?_ ?_) | refine IWk.mk ⟨_, hp, rfl⟩ ?_ ?_)
                all_goals first | with_reducible rfl | omega | exact Or.inl (by decide) | (simp; done) | rfl | skip
                all_goals (rw [hg]; simp [hv3, slP, Pl.row])
            · have e2 : packed y.few = ([], pchk y.few) := by unfold packed; rw [if_neg hc]
              rw [e2] at c1
              repeat ((intro _u; clear _u); first | with_reducible first | refine cT ?_ | refine cF ?_ | refine cA ?_ | refine cB ?_ | refine aLn ?_ | refine cK ?_ | refine aS8 ?_ | refine wI ?_ | refine nD ?_ | refine aX rfl ?_ | refine vL rfl ?_)
              intro _u; clear _u
              refine ICall.pure h.n164.o164.hb c1 rfl ?_
              repeat ((intro _u; clear _u); first | with_reducible first | refine cT ?_ | refine cF ?_ | refine cA ?_ | refine cB ?_ | refine aLn ?_ | refine cK ?_ | refine aS8 ?_ | refine wI ?_ | refine nD ?_ | refine aX rfl ?_ | refine vL rfl ?_)
              intro _u; clear _u
              refine acnd_t (by simpa using hc) ?_
              have hg := goods_no hy hc
              repeat ((intro _u; clear _u); first | with_reducible first | refine cT ?_ | refine cF ?_ | refine cA ?_ | refine cB ?_ | refine aLn ?_ | refine cK ?_ | refine aS8 ?_ | refine wI ?_ | refine nD ?_ | refine aX rfl ?_ | refine vL rfl ?_)
              intro _u; clear _u
              refine nX (.inl (i + 1)) ?_ ?_ ⟨_, hp, rfl⟩ ?_ ?_
              · exact ⟨by omega, by omega, by rw [hg]; exact hv3⟩
              · dsimp only [Sum.elim_inl, Sum.elim_inr]; omega
              · all_goals repeat' (first | exact True.intro | refine And.intro ?_ ?_ | (intro _u; clear _u) | (with_reducible first | refine eM ?_ ?_ | refine eF ?_ ?_ ?_ | refine eN ?_ | refine eL ?_ ?_ ?_ | refine eA ?_ ?_ | refine IWk.mk ⟨_, hp, rfl⟩ ?_ ?_) | refine IWk.mk ⟨_, hp, rfl⟩ ?_ ?_)
                all_goals first | with_reducible rfl | omega | exact Or.inl (by decide) | (simp; done) | rfl | skip
                all_goals (rw [hg])
              · all_goals repeat' (first | exact True.intro | refine And.intro ?_ ?_ | (intro _u; clear _u) | (with_reducible first | refine eM ?_ ?_ | refine eF ?_ ?_ ?_ | refine eN ?_ | refine eL ?_ ?_ ?_ | refine eA ?_ ?_ | refine IWk.mk ⟨_, hp, rfl⟩ ?_ ?_) | refine IWk.mk ⟨_, hp, rfl⟩ ?_ ?_)
                all_goals first | with_reducible rfl | omega | exact Or.inl (by decide) | (simp; done) | rfl | skip
                all_goals (rw [hg])
          · repeat ((intro _u; clear _u); first | with_reducible first | refine cT ?_ | refine cF ?_ | refine cA ?_ | refine cB ?_ | refine aLn ?_ | refine cK ?_ | refine aS8 ?_ | refine wI ?_ | refine nD ?_ | refine aX rfl ?_ | refine vL rfl ?_)
            intro _u; clear _u
            refine ICall.pure h.n180.o180.hb (all_n h.n180) rfl ?_
            have c2 := split_c h.n181 [] (fun p hp => by cases hp) (by simp)
            repeat ((intro _u; clear _u); first | with_reducible first | refine cT ?_ | refine cF ?_ | refine cA ?_ | refine cB ?_ | refine aLn ?_ | refine cK ?_ | refine aS8 ?_ | refine wI ?_ | refine nD ?_ | refine aX rfl ?_ | refine vL rfl ?_)
            intro _u; clear _u
            refine ICall.pure h.n181.o181.hb c2 rfl ?_
            repeat ((intro _u; clear _u); first | with_reducible first | refine cT ?_ | refine cF ?_ | refine cA ?_ | refine cB ?_ | refine aLn ?_ | refine cK ?_ | refine aS8 ?_ | refine wI ?_ | refine nD ?_ | refine aX rfl ?_ | refine vL rfl ?_)
            intro _u; clear _u
            refine acnd_f (by rfl) ?_
            repeat ((intro _u; clear _u); first | with_reducible first | refine cT ?_ | refine cF ?_ | refine cA ?_ | refine cB ?_ | refine aLn ?_ | refine cK ?_ | refine aS8 ?_ | refine wI ?_ | refine nD ?_ | refine aX rfl ?_ | refine vL rfl ?_)
            intro _u; clear _u
            refine acnd_f (by rfl) ?_
            repeat ((intro _u; clear _u); first | with_reducible first | refine cT ?_ | refine cF ?_ | refine cA ?_ | refine cB ?_ | refine aLn ?_ | refine cK ?_ | refine aS8 ?_ | refine wI ?_ | refine nD ?_ | refine aX rfl ?_ | refine vL rfl ?_)
            intro _u; clear _u
            refine acnd_f (by rfl) ?_
            repeat ((intro _u; clear _u); first | with_reducible first | refine cT ?_ | refine cF ?_ | refine cA ?_ | refine cB ?_ | refine aLn ?_ | refine cK ?_ | refine aS8 ?_ | refine wI ?_ | refine nD ?_ | refine aX rfl ?_ | refine vL rfl ?_)
            intro _u; clear _u
            refine ILoop.one 100 ?_
            repeat ((intro _u; clear _u); first | with_reducible first | refine cT ?_ | refine cF ?_ | refine cA ?_ | refine cB ?_ | refine aLn ?_ | refine cK ?_ | refine aS8 ?_ | refine wI ?_ | refine nD ?_ | refine aX rfl ?_ | refine vL rfl ?_)
            intro _u; clear _u
            refine acnd_f (by rfl) ?_
            have c3 := unpack_c h.n179 b (by omega)
            by_cases he : (unp b).2 = 0
            · have hk := unp_good he
              have hu : unp b = ((unp b).1, 0) := by rw [← he]
              rw [hu] at c3
              generalize (unp b).1 = n at hk c3
              have hc0 : pchk n = 0 := by
                unfold packed at hk
                split at hk
                · assumption
                · exact congrArg Prod.snd hk
              have hnn : n.name.length ≤ 16 := by
                have := (pchk_may hc0).name
                simp [named] at this
                omega
              repeat ((intro _u; clear _u); first | with_reducible first | refine cT ?_ | refine cF ?_ | refine cA ?_ | refine cB ?_ | refine aLn ?_ | refine cK ?_ | refine aS8 ?_ | refine wI ?_ | refine nD ?_ | refine aX rfl ?_ | refine vL rfl ?_)
              intro _u; clear _u
              refine ICall.pure h.n179.o179.hb c3 rfl ?_
              repeat ((intro _u; clear _u); first | with_reducible first | refine cT ?_ | refine cF ?_ | refine cA ?_ | refine cB ?_ | refine aLn ?_ | refine cK ?_ | refine aS8 ?_ | refine wI ?_ | refine nD ?_ | refine aX rfl ?_ | refine vL rfl ?_)
              intro _u; clear _u
              refine acnd_f (by rfl) ?_
              have c4 := pack_c h.n164 n (by omega) (by rw [hk]; dsimp only; omega)
              rw [hk] at c4
              repeat ((intro _u; clear _u); first | with_reducible first | refine cT ?_ | refine cF ?_ | refine cA ?_ | refine cB ?_ | refine aLn ?_ | refine cK ?_ | refine aS8 ?_ | refine wI ?_ | refine nD ?_ | refine aX rfl ?_ | refine vL rfl ?_)
              intro _u; clear _u
              refine ICall.pure h.n164.o164.hb c4 rfl ?_
              repeat ((intro _u; clear _u); first | with_reducible first | refine cT ?_ | refine cF ?_ | refine cA ?_ | refine cB ?_ | refine aLn ?_ | refine cK ?_ | refine aS8 ?_ | refine wI ?_ | refine nD ?_ | refine aX rfl ?_ | refine vL rfl ?_)
              intro _u; clear _u
              refine acnd_t (by rfl) ?_
              repeat ((intro _u; clear _u); first | with_reducible first | refine cT ?_ | refine cF ?_ | refine cA ?_ | refine cB ?_ | refine aLn ?_ | refine cK ?_ | refine aS8 ?_ | refine wI ?_ | refine nD ?_ | refine aX rfl ?_ | refine vL rfl ?_)
              intro _u; clear _u
              refine ICall.pure h.n47.o47.hb (eq8_c h.n47 b b) rfl ?_
              repeat ((intro _u; clear _u); first | with_reducible first | refine cT ?_ | refine cF ?_ | refine cA ?_ | refine cB ?_ | refine aLn ?_ | refine cK ?_ | refine aS8 ?_ | refine wI ?_ | refine nD ?_ | refine aX rfl ?_ | refine vL rfl ?_)
              intro _u; clear _u
              refine acnd_t (by simp) ?_
              repeat ((intro _u; clear _u); first | with_reducible first | refine cT ?_ | refine cF ?_ | refine cA ?_ | refine cB ?_ | refine aLn ?_ | refine cK ?_ | refine aS8 ?_ | refine wI ?_ | refine nD ?_ | refine aX rfl ?_ | refine vL rfl ?_)
              intro _u; clear _u
              refine ICall.pure h.n166.o166.hb (works39_c h.n166) rfl ?_
              repeat ((intro _u; clear _u); first | with_reducible first | refine cT ?_ | refine cF ?_ | refine cA ?_ | refine cB ?_ | refine aLn ?_ | refine cK ?_ | refine aS8 ?_ | refine wI ?_ | refine nD ?_ | refine aX rfl ?_ | refine vL rfl ?_)
              intro _u; clear _u
              exact rT
            · have hu : unp b = (zPl, (unp b).2) := by rw [← unp_bad he]
              rw [hu] at c3
              repeat ((intro _u; clear _u); first | with_reducible first | refine cT ?_ | refine cF ?_ | refine cA ?_ | refine cB ?_ | refine aLn ?_ | refine cK ?_ | refine aS8 ?_ | refine wI ?_ | refine nD ?_ | refine aX rfl ?_ | refine vL rfl ?_)
              intro _u; clear _u
              refine ICall.pure h.n179.o179.hb c3 rfl ?_
              repeat ((intro _u; clear _u); first | with_reducible first | refine cT ?_ | refine cF ?_ | refine cA ?_ | refine cB ?_ | refine aLn ?_ | refine cK ?_ | refine aS8 ?_ | refine wI ?_ | refine nD ?_ | refine aX rfl ?_ | refine vL rfl ?_)
              intro _u; clear _u
              refine acnd_t (by simpa using he) ?_
              repeat ((intro _u; clear _u); first | with_reducible first | refine cT ?_ | refine cF ?_ | refine cA ?_ | refine cB ?_ | refine aLn ?_ | refine cK ?_ | refine aS8 ?_ | refine wI ?_ | refine nD ?_ | refine aX rfl ?_ | refine vL rfl ?_)
              intro _u; clear _u
              refine acnd_t (by rfl) ?_
              repeat ((intro _u; clear _u); first | with_reducible first | refine cT ?_ | refine cF ?_ | refine cA ?_ | refine cB ?_ | refine aLn ?_ | refine cK ?_ | refine aS8 ?_ | refine wI ?_ | refine nD ?_ | refine aX rfl ?_ | refine vL rfl ?_)
              intro _u; clear _u
              refine ICall.pure h.n166.o166.hb (works39_c h.n166) rfl ?_
              repeat ((intro _u; clear _u); first | with_reducible first | refine cT ?_ | refine cF ?_ | refine cA ?_ | refine cB ?_ | refine aLn ?_ | refine cK ?_ | refine aS8 ?_ | refine wI ?_ | refine nD ?_ | refine aX rfl ?_ | refine vL rfl ?_)
              intro _u; clear _u
              exact rT
        · repeat ((intro _u; clear _u); first | with_reducible first | refine cT ?_ | refine cF ?_ | refine cA ?_ | refine cB ?_ | refine aLn ?_ | refine cK ?_ | refine aS8 ?_ | refine wI ?_ | refine nD ?_ | refine aX rfl ?_ | refine vL rfl ?_)
          intro _u; clear _u
          refine ICall.pure h.n180.o180.hb (all_n h.n180) rfl ?_
          have c2 := split_c h.n181 [] (fun p hp => by cases hp) (by simp)
          repeat ((intro _u; clear _u); first | with_reducible first | refine cT ?_ | refine cF ?_ | refine cA ?_ | refine cB ?_ | refine aLn ?_ | refine cK ?_ | refine aS8 ?_ | refine wI ?_ | refine nD ?_ | refine aX rfl ?_ | refine vL rfl ?_)
          intro _u; clear _u
          refine ICall.pure h.n181.o181.hb c2 rfl ?_
          repeat ((intro _u; clear _u); first | with_reducible first | refine cT ?_ | refine cF ?_ | refine cA ?_ | refine cB ?_ | refine aLn ?_ | refine cK ?_ | refine aS8 ?_ | refine wI ?_ | refine nD ?_ | refine aX rfl ?_ | refine vL rfl ?_)
          intro _u; clear _u
          refine acnd_f (by rfl) ?_
          repeat ((intro _u; clear _u); first | with_reducible first | refine cT ?_ | refine cF ?_ | refine cA ?_ | refine cB ?_ | refine aLn ?_ | refine cK ?_ | refine aS8 ?_ | refine wI ?_ | refine nD ?_ | refine aX rfl ?_ | refine vL rfl ?_)
          intro _u; clear _u
          refine acnd_f (by rfl) ?_
          repeat ((intro _u; clear _u); first | with_reducible first | refine cT ?_ | refine cF ?_ | refine cA ?_ | refine cB ?_ | refine aLn ?_ | refine cK ?_ | refine aS8 ?_ | refine wI ?_ | refine nD ?_ | refine aX rfl ?_ | refine vL rfl ?_)
          intro _u; clear _u
          refine acnd_f (by rfl) ?_
          repeat ((intro _u; clear _u); first | with_reducible first | refine cT ?_ | refine cF ?_ | refine cA ?_ | refine cB ?_ | refine aLn ?_ | refine cK ?_ | refine aS8 ?_ | refine wI ?_ | refine nD ?_ | refine aX rfl ?_ | refine vL rfl ?_)
          intro _u; clear _u
          refine ILoop.one 100 ?_
          repeat ((intro _u; clear _u); first | with_reducible first | refine cT ?_ | refine cF ?_ | refine cA ?_ | refine cB ?_ | refine aLn ?_ | refine cK ?_ | refine aS8 ?_ | refine wI ?_ | refine nD ?_ | refine aX rfl ?_ | refine vL rfl ?_)
          intro _u; clear _u
          refine acnd_f (by rfl) ?_
          have c3 := unpack_c h.n179 b (by omega)
          by_cases he : (unp b).2 = 0
          · have hk := unp_good he
            have hu : unp b = ((unp b).1, 0) := by rw [← he]
            rw [hu] at c3
            generalize (unp b).1 = n at hk c3
            have hc0 : pchk n = 0 := by
              unfold packed at hk
              split at hk
              · assumption
              · exact congrArg Prod.snd hk
            have hnn : n.name.length ≤ 16 := by
              have := (pchk_may hc0).name
              simp [named] at this
              omega
            repeat ((intro _u; clear _u); first | with_reducible first | refine cT ?_ | refine cF ?_ | refine cA ?_ | refine cB ?_ | refine aLn ?_ | refine cK ?_ | refine aS8 ?_ | refine wI ?_ | refine nD ?_ | refine aX rfl ?_ | refine vL rfl ?_)
            intro _u; clear _u
            refine ICall.pure h.n179.o179.hb c3 rfl ?_
            repeat ((intro _u; clear _u); first | with_reducible first | refine cT ?_ | refine cF ?_ | refine cA ?_ | refine cB ?_ | refine aLn ?_ | refine cK ?_ | refine aS8 ?_ | refine wI ?_ | refine nD ?_ | refine aX rfl ?_ | refine vL rfl ?_)
            intro _u; clear _u
            refine acnd_f (by rfl) ?_
            have c4 := pack_c h.n164 n (by omega) (by rw [hk]; dsimp only; omega)
            rw [hk] at c4
            repeat ((intro _u; clear _u); first | with_reducible first | refine cT ?_ | refine cF ?_ | refine cA ?_ | refine cB ?_ | refine aLn ?_ | refine cK ?_ | refine aS8 ?_ | refine wI ?_ | refine nD ?_ | refine aX rfl ?_ | refine vL rfl ?_)
            intro _u; clear _u
            refine ICall.pure h.n164.o164.hb c4 rfl ?_
            repeat ((intro _u; clear _u); first | with_reducible first | refine cT ?_ | refine cF ?_ | refine cA ?_ | refine cB ?_ | refine aLn ?_ | refine cK ?_ | refine aS8 ?_ | refine wI ?_ | refine nD ?_ | refine aX rfl ?_ | refine vL rfl ?_)
            intro _u; clear _u
            refine acnd_t (by rfl) ?_
            repeat ((intro _u; clear _u); first | with_reducible first | refine cT ?_ | refine cF ?_ | refine cA ?_ | refine cB ?_ | refine aLn ?_ | refine cK ?_ | refine aS8 ?_ | refine wI ?_ | refine nD ?_ | refine aX rfl ?_ | refine vL rfl ?_)
            intro _u; clear _u
            refine ICall.pure h.n47.o47.hb (eq8_c h.n47 b b) rfl ?_
            repeat ((intro _u; clear _u); first | with_reducible first | refine cT ?_ | refine cF ?_ | refine cA ?_ | refine cB ?_ | refine aLn ?_ | refine cK ?_ | refine aS8 ?_ | refine wI ?_ | refine nD ?_ | refine aX rfl ?_ | refine vL rfl ?_)
            intro _u; clear _u
            refine acnd_t (by simp) ?_
            repeat ((intro _u; clear _u); first | with_reducible first | refine cT ?_ | refine cF ?_ | refine cA ?_ | refine cB ?_ | refine aLn ?_ | refine cK ?_ | refine aS8 ?_ | refine wI ?_ | refine nD ?_ | refine aX rfl ?_ | refine vL rfl ?_)
            intro _u; clear _u
            refine ICall.pure h.n166.o166.hb (works39_c h.n166) rfl ?_
            repeat ((intro _u; clear _u); first | with_reducible first | refine cT ?_ | refine cF ?_ | refine cA ?_ | refine cB ?_ | refine aLn ?_ | refine cK ?_ | refine aS8 ?_ | refine wI ?_ | refine nD ?_ | refine aX rfl ?_ | refine vL rfl ?_)
            intro _u; clear _u
            exact rT
          · have hu : unp b = (zPl, (unp b).2) := by rw [← unp_bad he]
            rw [hu] at c3
            repeat ((intro _u; clear _u); first | with_reducible first | refine cT ?_ | refine cF ?_ | refine cA ?_ | refine cB ?_ | refine aLn ?_ | refine cK ?_ | refine aS8 ?_ | refine wI ?_ | refine nD ?_ | refine aX rfl ?_ | refine vL rfl ?_)
            intro _u; clear _u
            refine ICall.pure h.n179.o179.hb c3 rfl ?_
            repeat ((intro _u; clear _u); first | with_reducible first | refine cT ?_ | refine cF ?_ | refine cA ?_ | refine cB ?_ | refine aLn ?_ | refine cK ?_ | refine aS8 ?_ | refine wI ?_ | refine nD ?_ | refine aX rfl ?_ | refine vL rfl ?_)
            intro _u; clear _u
            refine acnd_t (by simpa using he) ?_
            repeat ((intro _u; clear _u); first | with_reducible first | refine cT ?_ | refine cF ?_ | refine cA ?_ | refine cB ?_ | refine aLn ?_ | refine cK ?_ | refine aS8 ?_ | refine wI ?_ | refine nD ?_ | refine aX rfl ?_ | refine vL rfl ?_)
            intro _u; clear _u
            refine acnd_t (by rfl) ?_
            repeat ((intro _u; clear _u); first | with_reducible first | refine cT ?_ | refine cF ?_ | refine cA ?_ | refine cB ?_ | refine aLn ?_ | refine cK ?_ | refine aS8 ?_ | refine wI ?_ | refine nD ?_ | refine aX rfl ?_ | refine vL rfl ?_)
            intro _u; clear _u
            refine ICall.pure h.n166.o166.hb (works39_c h.n166) rfl ?_
            repeat ((intro _u; clear _u); first | with_reducible first | refine cT ?_ | refine cF ?_ | refine cA ?_ | refine cB ?_ | refine aLn ?_ | refine cK ?_ | refine aS8 ?_ | refine wI ?_ | refine nD ?_ | refine aX rfl ?_ | refine vL rfl ?_)
            intro _u; clear _u
            exact rT
      · dsimp only [Sum.elim_inr]
        have hgl := goods_len (l.take i)
        have hgl2 : (l.take i).length ≤ 6 := by simp; omega
        repeat ((intro _u; clear _u); first | with_reducible first | refine cT ?_ | refine cF ?_ | refine cA ?_ | refine cB ?_ | refine aLn ?_ | refine cK ?_ | refine aS8 ?_ | refine wI ?_ | refine nD ?_ | refine aX rfl ?_ | refine vL rfl ?_)
        intro _u; clear _u
        refine cS (fun a1 => ?_) (fun a1 => ?_)
        · repeat ((intro _u; clear _u); first | with_reducible first | refine cT ?_ | refine cF ?_ | refine cA ?_ | refine cB ?_ | refine aLn ?_ | refine cK ?_ | refine aS8 ?_ | refine wI ?_ | refine nD ?_ | refine aX rfl ?_ | refine vL rfl ?_)
          intro _u; clear _u
          refine cS (fun a2 => ?_) (fun a2 => ?_)
          · obtain ⟨y, hy⟩ : ∃ u_, l[i]? = some u_ := ⟨_, List.getElem?_eq_getElem (by first | omega | (simp <;> omega))⟩
            repeat ((intro _u; clear _u); first | with_reducible first | refine cT ?_ | refine cF ?_ | refine cA ?_ | refine cB ?_ | refine aLn ?_ | refine cK ?_ | refine aS8 ?_ | refine wI ?_ | refine nD ?_ | refine aX rfl ?_ | refine vL rfl ?_)
            intro _u; clear _u
            refine eget_map hy ?_
            have hfn : y.few.name.length ≤ 20 := by simp [Pl.few]; omega
            have hfd : y.few.data.length ≤ 150 := by simp [Pl.few]; omega
            repeat ((intro _u; clear _u); first | with_reducible first | refine cT ?_ | refine cF ?_ | refine cA ?_ | refine cB ?_ | refine aLn ?_ | refine cK ?_ | refine aS8 ?_ | refine wI ?_ | refine nD ?_ | refine aX rfl ?_ | refine vL rfl ?_)
            intro _u; clear _u
            refine ICall.pure h.n171.o171.hb (few39_c h.n171 y) rfl ?_
            have c1 := pack_c h.n164 y.few (by omega) (by have := packed_len y.few; omega)
            by_cases hc : pchk y.few = 0
            · have ff : Fine y.few := ⟨hc, hfd⟩
              rw [ff.packed] at c1
              repeat ((intro _u; clear _u); first | with_reducible first | refine cT ?_ | refine cF ?_ | refine cA ?_ | refine cB ?_ | refine aLn ?_ | refine cK ?_ | refine aS8 ?_ | refine wI ?_ | refine nD ?_ | refine aX rfl ?_ | refine vL rfl ?_)
              intro _u; clear _u
              refine ICall.pure h.n164.o164.hb c1 rfl ?_
              repeat ((intro _u; clear _u); first | with_reducible first | refine cT ?_ | refine cF ?_ | refine cA ?_ | refine cB ?_ | refine aLn ?_ | refine cK ?_ | refine aS8 ?_ | refine wI ?_ | refine nD ?_ | refine aX rfl ?_ | refine vL rfl ?_)
              intro _u; clear _u
              refine acnd_f (by rfl) ?_
              have c2 := unpack_c h.n179 (packed y.few).1 (by have := ff.len; omega)
              rw [unp_packed hc] at c2
              repeat ((intro _u; clear _u); first | with_reducible first | refine cT ?_ | refine cF ?_ | refine cA ?_ | refine cB ?_ | refine aLn ?_ | refine cK ?_ | refine aS8 ?_ | refine wI ?_ | refine nD ?_ | refine aX rfl ?_ | refine vL rfl ?_)
              intro _u; clear _u
              refine ICall.pure h.n179.o179.hb c2 rfl ?_
              repeat ((intro _u; clear _u); first | with_reducible first | refine cT ?_ | refine cF ?_ | refine cA ?_ | refine cB ?_ | refine aLn ?_ | refine cK ?_ | refine aS8 ?_ | refine wI ?_ | refine nD ?_ | refine aX rfl ?_ | refine vL rfl ?_)
              intro _u; clear _u
              refine acnd_f (by rfl) ?_
              repeat ((intro _u; clear _u); first | with_reducible first | refine cT ?_ | refine cF ?_ | refine cA ?_ | refine cB ?_ | refine aLn ?_ | refine cK ?_ | refine aS8 ?_ | refine wI ?_ | refine nD ?_ | refine aX rfl ?_ | refine vL rfl ?_)
              intro _u; clear _u
              refine ICall.pure h.n175.o175.hb (same30_c h.n175 y.few (by omega)) rfl ?_
              have hg := goods_yes hy hc
              repeat ((intro _u; clear _u); first | with_reducible first | refine cT ?_ | refine cF ?_ | refine cA ?_ | refine cB ?_ | refine aLn ?_ | refine cK ?_ | refine aS8 ?_ | refine wI ?_ | refine nD ?_ | refine aX rfl ?_ | refine vL rfl ?_)
              intro _u; clear _u
              refine nX (.inr (i + 1)) ?_ ?_ ⟨_, hp, rfl⟩ ?_ ?_
              · exact ⟨by omega, by omega, by rw [hg]; simp⟩
              · dsimp only [Sum.elim_inl, Sum.elim_inr]; omega
              · all_goals repeat' (first | exact True.intro | refine And.intro ?_ ?_ | (intro _u; clear _u) | (with_reducible first | refine eM ?_ ?_ | refine eF ?_ ?_ ?_ | refine eN ?_ | refine eL ?_ ?_ ?_ | refine eA ?_ ?_ | refine IWk.mk ⟨_, hp, rfl⟩ ?_ ?_) | refine IWk.mk ⟨_, hp, rfl⟩ ?_ ?_)
                all_goals first | with_reducible rfl | omega | exact Or.inl (by decide) | (simp; done) | rfl | skip
                all_goals (rw [hg]; simp [slP, Pl.row])
              · all_goals repeat' (first | exact True.intro | refine And.intro ?_ ?_ | (intro _u; clear _u) | (with_reducible first | refine eM ?_ ?_ | refine eF ?_ ?_ ?_ | refine eN ?_ | refine eL ?_ ?_ ?_ | refine eA ?_ ?_ | refine IWk.mk ⟨_, hp, rfl⟩ ?_ ?_) | refine IWk.mk ⟨_, hp, rfl⟩ ?_ ?_)
                all_goals first | with_reducible rfl | omega | exact Or.inl (by decide) | (simp; done) | rfl | skip
                all_goals (rw [hg]; simp [slP, Pl.row])
            · have e2 : packed y.few = ([], pchk y.few) := by unfold packed; rw [if_neg hc]
              rw [e2] at c1
              repeat ((intro _u; clear _u); first | with_reducible first | refine cT ?_ | refine cF ?_ | refine cA ?_ | refine cB ?_ | refine aLn ?_ | refine cK ?_ | refine aS8 ?_ | refine wI ?_ | refine nD ?_ | refine aX rfl ?_ | refine vL rfl ?_)
              intro _u; clear _u
              refine ICall.pure h.n164.o164.hb c1 rfl ?_
              repeat ((intro _u; clear _u); first | with_reducible first | refine cT ?_ | refine cF ?_ | refine cA ?_ | refine cB ?_ | refine aLn ?_ | refine cK ?_ | refine aS8 ?_ | refine wI ?_ | refine nD ?_ | refine aX rfl ?_ | refine vL rfl ?_)
              intro _u; clear _u
              refine acnd_t (by simpa using hc) ?_
              have hg := goods_no hy hc
              repeat ((intro _u; clear _u); first | with_reducible first | refine cT ?_ | refine cF ?_ | refine cA ?_ | refine cB ?_ | refine aLn ?_ | refine cK ?_ | refine aS8 ?_ | refine wI ?_ | refine nD ?_ | refine aX rfl ?_ | refine vL rfl ?_)
              intro _u; clear _u
              refine nX (.inr (i + 1)) ?_ ?_ ⟨_, hp, rfl⟩ ?_ ?_
              · exact ⟨by omega, by omega, by rw [hg]; exact hv3⟩
              · dsimp only [Sum.elim_inl, Sum.elim_inr]; omega
              · all_goals repeat' (first | exact True.intro | refine And.intro ?_ ?_ | (intro _u; clear _u) | (with_reducible first | refine eM ?_ ?_ | refine eF ?_ ?_ ?_ | refine eN ?_ | refine eL ?_ ?_ ?_ | refine eA ?_ ?_ | refine IWk.mk ⟨_, hp, rfl⟩ ?_ ?_) | refine IWk.mk ⟨_, hp, rfl⟩ ?_ ?_)
                all_goals first | with_reducible rfl | omega | exact Or.inl (by decide) | (simp; done) | rfl | skip
                all_goals (rw [hg])
              · all_goals repeat' (first | exact True.intro | refine And.intro ?_ ?_ | (intro _u; clear _u) | (with_reducible first | refine eM ?_ ?_ | refine eF ?_ ?_ ?_ | refine eN ?_ | refine eL ?_ ?_ ?_ | refine eA ?_ ?_ | refine IWk.mk ⟨_, hp, rfl⟩ ?_ ?_) | refine IWk.mk ⟨_, hp, rfl⟩ ?_ ?_)
                all_goals first | with_reducible rfl | omega | exact Or.inl (by decide) | (simp; done) | rfl | skip
                all_goals (rw [hg])
          · have hgl := goods_len (l.take i)
            have hgl2 : (l.take i).length ≤ 6 := by simp; omega
            obtain ⟨G, hG⟩ : ∃ G, goods (l.take i) = G := ⟨_, rfl⟩
            have goods_fine : ∀ p ∈ G, Fine p := hG ▸ goods_fine
            rw [hG] at hgl hv3 ⊢
            replace hgl : G.length ≤ 6 := by omega
            have hg1 : 1 ≤ G.length := hv3
            have hGm : G = G := rfl
            repeat ((intro _u; clear _u); first | with_reducible first | refine cT ?_ | refine cF ?_ | refine cA ?_ | refine cB ?_ | refine aLn ?_ | refine cK ?_ | refine aS8 ?_ | refine wI ?_ | refine nD ?_ | refine aX rfl ?_ | refine vL rfl ?_)
            intro _u; clear _u
            refine ICall.let [2] rfl hp rfl ?_
            repeat ((intro _u; clear _u); first | refine eZ ?_ | refine FrzC.drop ?_)
            repeat ((intro _u; clear _u); first | with_reducible first | refine cT ?_ | refine cF ?_ | refine cA ?_ | refine cB ?_ | refine aLn ?_ | refine cK ?_ | refine aS8 ?_ | refine wI ?_ | refine nD ?_ | refine aX rfl ?_ | refine vL rfl ?_)
            intro _u; clear _u
            refine ICall.pure h.n180.o180.hb (all_c h.n180 G goods_fine hgl hg1) rfl ?_
            repeat ((intro _u; clear _u); first | with_reducible first | refine cT ?_ | refine cF ?_ | refine cA ?_ | refine cB ?_ | refine aLn ?_ | refine cK ?_ | refine aS8 ?_ | refine wI ?_ | refine nD ?_ | refine aX rfl ?_ | refine vL rfl ?_)
            intro _u; clear _u
            refine ICall.pure h.n181.o181.hb (split_c h.n181 G goods_fine hgl) rfl ?_
            repeat ((intro _u; clear _u); first | with_reducible first | refine cT ?_ | refine cF ?_ | refine cA ?_ | refine cB ?_ | refine aLn ?_ | refine cK ?_ | refine aS8 ?_ | refine wI ?_ | refine nD ?_ | refine aX rfl ?_ | refine vL rfl ?_)
            intro _u; clear _u
            refine acnd_f (by rfl) ?_
            repeat ((intro _u; clear _u); first | with_reducible first | refine cT ?_ | refine cF ?_ | refine cA ?_ | refine cB ?_ | refine aLn ?_ | refine cK ?_ | refine aS8 ?_ | refine wI ?_ | refine nD ?_ | refine aX rfl ?_ | refine vL rfl ?_)
            intro _u; clear _u
            refine acnd_f (by rfl) ?_
            repeat ((intro _u; clear _u); first | with_reducible first | refine cT ?_ | refine cF ?_ | refine cA ?_ | refine cB ?_ | refine aLn ?_ | refine cK ?_ | refine aS8 ?_ | refine wI ?_ | refine nD ?_ | refine aX rfl ?_ | refine vL rfl ?_)
            intro _u; clear _u
            refine acnd_f (by simp) ?_
            repeat ((intro _u; clear _u); first | with_reducible first | refine cT ?_ | refine cF ?_ | refine cA ?_ | refine cB ?_ | refine aLn ?_ | refine cK ?_ | refine aS8 ?_ | refine wI ?_ | refine nD ?_ | refine aX rfl ?_ | refine vL rfl ?_)
            intro _u; clear _u
            refine lPa 100 (fun k : Nat => k ≤ G.length) (fun k => ⟨[(1, .isl 1 (slc8 b)), (5, .isl 5 (slP G)), (14, .isl 5 (slP G)), (89, .int .i64 G.length), (90, .int .i64 k)], [], 3⟩) (fun k => G.length - k) (0) ?_ ?_
            · exact Nat.zero_le _
            · intro k hk
              dsimp only
              repeat ((intro _u; clear _u); first | with_reducible first | refine cT ?_ | refine cF ?_ | refine cA ?_ | refine cB ?_ | refine aLn ?_ | refine cK ?_ | refine aS8 ?_ | refine wI ?_ | refine nD ?_ | refine aX rfl ?_ | refine vL rfl ?_)
              intro _u; clear _u
              refine cS (fun hk2 => ?_) (fun hk2 => ?_)
              · obtain ⟨z, hz⟩ : ∃ u_, G[k]? = some u_ := ⟨_, List.getElem?_eq_getElem (by first | omega | (simp <;> omega))⟩
                repeat ((intro _u; clear _u); first | with_reducible first | refine cT ?_ | refine cF ?_ | refine cA ?_ | refine cB ?_ | refine aLn ?_ | refine cK ?_ | refine aS8 ?_ | refine wI ?_ | refine nD ?_ | refine aX rfl ?_ | refine vL rfl ?_)
                intro _u; clear _u
                refine eget_map hz ?_
                repeat ((intro _u; clear _u); first | with_reducible first | refine cT ?_ | refine cF ?_ | refine cA ?_ | refine cB ?_ | refine aLn ?_ | refine cK ?_ | refine aS8 ?_ | refine wI ?_ | refine nD ?_ | refine aX rfl ?_ | refine vL rfl ?_)
                intro _u; clear _u
                refine eget_map hz ?_
                have fz := goods_fine z (List.mem_of_getElem? hz)
                repeat ((intro _u; clear _u); first | with_reducible first | refine cT ?_ | refine cF ?_ | refine cA ?_ | refine cB ?_ | refine aLn ?_ | refine cK ?_ | refine aS8 ?_ | refine wI ?_ | refine nD ?_ | refine aX rfl ?_ | refine vL rfl ?_)
                intro _u; clear _u
                refine ICall.pure h.n175.o175.hb (same30_c h.n175 z (by have := fz.n; omega)) rfl ?_
                repeat ((intro _u; clear _u); first | with_reducible first | refine cT ?_ | refine cF ?_ | refine cA ?_ | refine cB ?_ | refine aLn ?_ | refine cK ?_ | refine aS8 ?_ | refine wI ?_ | refine nD ?_ | refine aX rfl ?_ | refine vL rfl ?_)
                intro _u; clear _u
                refine nXa (k + 1) ?_ ?_
                · omega
                · omega
              · have c3 := unpack_c h.n179 b (by omega)
                by_cases he : (unp b).2 = 0
                · have hk := unp_good he
                  have hu : unp b = ((unp b).1, 0) := by rw [← he]
                  rw [hu] at c3
                  generalize (unp b).1 = n at hk c3
                  have hc0 : pchk n = 0 := by
                    unfold packed at hk
                    split at hk
                    · assumption
                    · exact congrArg Prod.snd hk
                  have hnn : n.name.length ≤ 16 := by
                    have := (pchk_may hc0).name
                    simp [named] at this
                    omega
                  repeat ((intro _u; clear _u); first | with_reducible first | refine cT ?_ | refine cF ?_ | refine cA ?_ | refine cB ?_ | refine aLn ?_ | refine cK ?_ | refine aS8 ?_ | refine wI ?_ | refine nD ?_ | refine aX rfl ?_ | refine vL rfl ?_)
                  intro _u; clear _u
                  refine ICall.pure h.n179.o179.hb c3 rfl ?_
                  repeat ((intro _u; clear _u); first | with_reducible first | refine cT ?_ | refine cF ?_ | refine cA ?_ | refine cB ?_ | refine aLn ?_ | refine cK ?_ | refine aS8 ?_ | refine wI ?_ | refine nD ?_ | refine aX rfl ?_ | refine vL rfl ?_)
                  intro _u; clear _u
                  refine acnd_f (by rfl) ?_
                  have c4 := pack_c h.n164 n (by omega) (by rw [hk]; dsimp only; omega)
                  rw [hk] at c4
                  repeat ((intro _u; clear _u); first | with_reducible first | refine cT ?_ | refine cF ?_ | refine cA ?_ | refine cB ?_ | refine aLn ?_ | refine cK ?_ | refine aS8 ?_ | refine wI ?_ | refine nD ?_ | refine aX rfl ?_ | refine vL rfl ?_)
                  intro _u; clear _u
                  refine ICall.pure h.n164.o164.hb c4 rfl ?_
                  repeat ((intro _u; clear _u); first | with_reducible first | refine cT ?_ | refine cF ?_ | refine cA ?_ | refine cB ?_ | refine aLn ?_ | refine cK ?_ | refine aS8 ?_ | refine wI ?_ | refine nD ?_ | refine aX rfl ?_ | refine vL rfl ?_)
                  intro _u; clear _u
                  refine acnd_t (by rfl) ?_
                  repeat ((intro _u; clear _u); first | with_reducible first | refine cT ?_ | refine cF ?_ | refine cA ?_ | refine cB ?_ | refine aLn ?_ | refine cK ?_ | refine aS8 ?_ | refine wI ?_ | refine nD ?_ | refine aX rfl ?_ | refine vL rfl ?_)
                  intro _u; clear _u
                  refine ICall.pure h.n47.o47.hb (eq8_c h.n47 b b) rfl ?_
                  repeat ((intro _u; clear _u); first | with_reducible first | refine cT ?_ | refine cF ?_ | refine cA ?_ | refine cB ?_ | refine aLn ?_ | refine cK ?_ | refine aS8 ?_ | refine wI ?_ | refine nD ?_ | refine aX rfl ?_ | refine vL rfl ?_)
                  intro _u; clear _u
                  refine acnd_t (by simp) ?_
                  repeat ((intro _u; clear _u); first | with_reducible first | refine cT ?_ | refine cF ?_ | refine cA ?_ | refine cB ?_ | refine aLn ?_ | refine cK ?_ | refine aS8 ?_ | refine wI ?_ | refine nD ?_ | refine aX rfl ?_ | refine vL rfl ?_)
                  intro _u; clear _u
                  refine ICall.pure h.n166.o166.hb (works39_c h.n166) rfl ?_
                  repeat ((intro _u; clear _u); first | with_reducible first | refine cT ?_ | refine cF ?_ | refine cA ?_ | refine cB ?_ | refine aLn ?_ | refine cK ?_ | refine aS8 ?_ | refine wI ?_ | refine nD ?_ | refine aX rfl ?_ | refine vL rfl ?_)
                  intro _u; clear _u
                  exact rT
                · have hu : unp b = (zPl, (unp b).2) := by rw [← unp_bad he]
                  rw [hu] at c3
                  repeat ((intro _u; clear _u); first | with_reducible first | refine cT ?_ | refine cF ?_ | refine cA ?_ | refine cB ?_ | refine aLn ?_ | refine cK ?_ | refine aS8 ?_ | refine wI ?_ | refine nD ?_ | refine aX rfl ?_ | refine vL rfl ?_)
                  intro _u; clear _u
                  refine ICall.pure h.n179.o179.hb c3 rfl ?_
                  repeat ((intro _u; clear _u); first | with_reducible first | refine cT ?_ | refine cF ?_ | refine cA ?_ | refine cB ?_ | refine aLn ?_ | refine cK ?_ | refine aS8 ?_ | refine wI ?_ | refine nD ?_ | refine aX rfl ?_ | refine vL rfl ?_)
                  intro _u; clear _u
                  refine acnd_t (by simpa using he) ?_
                  repeat ((intro _u; clear _u); first | with_reducible first | refine cT ?_ | refine cF ?_ | refine cA ?_ | refine cB ?_ | refine aLn ?_ | refine cK ?_ | refine aS8 ?_ | refine wI ?_ | refine nD ?_ | refine aX rfl ?_ | refine vL rfl ?_)
                  intro _u; clear _u
                  refine acnd_t (by rfl) ?_
                  repeat ((intro _u; clear _u); first | with_reducible first | refine cT ?_ | refine cF ?_ | refine cA ?_ | refine cB ?_ | refine aLn ?_ | refine cK ?_ | refine aS8 ?_ | refine wI ?_ | refine nD ?_ | refine aX rfl ?_ | refine vL rfl ?_)
                  intro _u; clear _u
                  refine ICall.pure h.n166.o166.hb (works39_c h.n166) rfl ?_
                  repeat ((intro _u; clear _u); first | with_reducible first | refine cT ?_ | refine cF ?_ | refine cA ?_ | refine cB ?_ | refine aLn ?_ | refine cK ?_ | refine aS8 ?_ | refine wI ?_ | refine nD ?_ | refine aX rfl ?_ | refine vL rfl ?_)
                  intro _u; clear _u
                  exact rT
        · have hgl := goods_len (l.take i)
          have hgl2 : (l.take i).length ≤ 6 := by simp; omega
          obtain ⟨G, hG⟩ : ∃ G, goods (l.take i) = G := ⟨_, rfl⟩
          have goods_fine : ∀ p ∈ G, Fine p := hG ▸ goods_fine
          rw [hG] at hgl hv3 ⊢
          replace hgl : G.length ≤ 6 := by omega
          have hg1 : 1 ≤ G.length := hv3
          have hGm : G = G := rfl
          repeat ((intro _u; clear _u); first | with_reducible first | refine cT ?_ | refine cF ?_ | refine cA ?_ | refine cB ?_ | refine aLn ?_ | refine cK ?_ | refine aS8 ?_ | refine wI ?_ | refine nD ?_ | refine aX rfl ?_ | refine vL rfl ?_)
          intro _u; clear _u
          refine ICall.let [2] rfl hp rfl ?_
          repeat ((intro _u; clear _u); first | refine eZ ?_ | refine FrzC.drop ?_)
          repeat ((intro _u; clear _u); first | with_reducible first | refine cT ?_ | refine cF ?_ | refine cA ?_ | refine cB ?_ | refine aLn ?_ | refine cK ?_ | refine aS8 ?_ | refine wI ?_ | refine nD ?_ | refine aX rfl ?_ | refine vL rfl ?_)
          intro _u; clear _u
          refine ICall.pure h.n180.o180.hb (all_c h.n180 G goods_fine hgl hg1) rfl ?_
          repeat ((intro _u; clear _u); first | with_reducible first | refine cT ?_ | refine cF ?_ | refine cA ?_ | refine cB ?_ | refine aLn ?_ | refine cK ?_ | refine aS8 ?_ | refine wI ?_ | refine nD ?_ | refine aX rfl ?_ | refine vL rfl ?_)
          intro _u; clear _u
          refine ICall.pure h.n181.o181.hb (split_c h.n181 G goods_fine hgl) rfl ?_
          repeat ((intro _u; clear _u); first | with_reducible first | refine cT ?_ | refine cF ?_ | refine cA ?_ | refine cB ?_ | refine aLn ?_ | refine cK ?_ | refine aS8 ?_ | refine wI ?_ | refine nD ?_ | refine aX rfl ?_ | refine vL rfl ?_)
          intro _u; clear _u
          refine acnd_f (by rfl) ?_
          repeat ((intro _u; clear _u); first | with_reducible first | refine cT ?_ | refine cF ?_ | refine cA ?_ | refine cB ?_ | refine aLn ?_ | refine cK ?_ | refine aS8 ?_ | refine wI ?_ | refine nD ?_ | refine aX rfl ?_ | refine vL rfl ?_)
          intro _u; clear _u
          refine acnd_f (by rfl) ?_
          repeat ((intro _u; clear _u); first | with_reducible first | refine cT ?_ | refine cF ?_ | refine cA ?_ | refine cB ?_ | refine aLn ?_ | refine cK ?_ | refine aS8 ?_ | refine wI ?_ | refine nD ?_ | refine aX rfl ?_ | refine vL rfl ?_)
          intro _u; clear _u
          refine acnd_f (by simp) ?_
          repeat ((intro _u; clear _u); first | with_reducible first | refine cT ?_ | refine cF ?_ | refine cA ?_ | refine cB ?_ | refine aLn ?_ | refine cK ?_ | refine aS8 ?_ | refine wI ?_ | refine nD ?_ | refine aX rfl ?_ | refine vL rfl ?_)
          intro _u; clear _u
          refine lPa 100 (fun k : Nat => k ≤ G.length) (fun k => ⟨[(1, .isl 1 (slc8 b)), (5, .isl 5 (slP G)), (14, .isl 5 (slP G)), (89, .int .i64 G.length), (90, .int .i64 k)], [], 3⟩) (fun k => G.length - k) (0) ?_ ?_
          · exact Nat.zero_le _
          · intro k hk
            dsimp only
            repeat ((intro _u; clear _u); first | with_reducible first | refine cT ?_ | refine cF ?_ | refine cA ?_ | refine cB ?_ | refine aLn ?_ | refine cK ?_ | refine aS8 ?_ | refine wI ?_ | refine nD ?_ | refine aX rfl ?_ | refine vL rfl ?_)
            intro _u; clear _u
            refine cS (fun hk2 => ?_) (fun hk2 => ?_)
            · obtain ⟨z, hz⟩ : ∃ u_, G[k]? = some u_ := ⟨_, List.getElem?_eq_getElem (by first | omega | (simp <;> omega))⟩
              repeat ((intro _u; clear _u); first | with_reducible first | refine cT ?_ | refine cF ?_ | refine cA ?_ | refine cB ?_ | refine aLn ?_ | refine cK ?_ | refine aS8 ?_ | refine wI ?_ | refine nD ?_ | refine aX rfl ?_ | refine vL rfl ?_)
              intro _u; clear _u
              refine eget_map hz ?_
              repeat ((intro _u; clear _u); first | with_reducible first | refine cT ?_ | refine cF ?_ | refine cA ?_ | refine cB ?_ | refine aLn ?_ | refine cK ?_ | refine aS8 ?_ | refine wI ?_ | refine nD ?_ | refine aX rfl ?_ | refine vL rfl ?_)
              intro _u; clear _u
              refine eget_map hz ?_
              have fz := goods_fine z (List.mem_of_getElem? hz)
              repeat ((intro _u; clear _u); first | with_reducible first | refine cT ?_ | refine cF ?_ | refine cA ?_ | refine cB ?_ | refine aLn ?_ | refine cK ?_ | refine aS8 ?_ | refine wI ?_ | refine nD ?_ | refine aX rfl ?_ | refine vL rfl ?_)
              intro _u; clear _u
              refine ICall.pure h.n175.o175.hb (same30_c h.n175 z (by have := fz.n; omega)) rfl ?_
              repeat ((intro _u; clear _u); first | with_reducible first | refine cT ?_ | refine cF ?_ | refine cA ?_ | refine cB ?_ | refine aLn ?_ | refine cK ?_ | refine aS8 ?_ | refine wI ?_ | refine nD ?_ | refine aX rfl ?_ | refine vL rfl ?_)
              intro _u; clear _u
              refine nXa (k + 1) ?_ ?_
              · omega
              · omega
            · have c3 := unpack_c h.n179 b (by omega)
              by_cases he : (unp b).2 = 0
              · have hk := unp_good he
                have hu : unp b = ((unp b).1, 0) := by rw [← he]
                rw [hu] at c3
                generalize (unp b).1 = n at hk c3
                have hc0 : pchk n = 0 := by
                  unfold packed at hk
                  split at hk
                  · assumption
                  · exact congrArg Prod.snd hk
                have hnn : n.name.length ≤ 16 := by
                  have := (pchk_may hc0).name
                  simp [named] at this
                  omega
                repeat ((intro _u; clear _u); first | with_reducible first | refine cT ?_ | refine cF ?_ | refine cA ?_ | refine cB ?_ | refine aLn ?_ | refine cK ?_ | refine aS8 ?_ | refine wI ?_ | refine nD ?_ | refine aX rfl ?_ | refine vL rfl ?_)
                intro _u; clear _u
                refine ICall.pure h.n179.o179.hb c3 rfl ?_
                repeat ((intro _u; clear _u); first | with_reducible first | refine cT ?_ | refine cF ?_ | refine cA ?_ | refine cB ?_ | refine aLn ?_ | refine cK ?_ | refine aS8 ?_ | refine wI ?_ | refine nD ?_ | refine aX rfl ?_ | refine vL rfl ?_)
                intro _u; clear _u
                refine acnd_f (by rfl) ?_
                have c4 := pack_c h.n164 n (by omega) (by rw [hk]; dsimp only; omega)
                rw [hk] at c4
                repeat ((intro _u; clear _u); first | with_reducible first | refine cT ?_ | refine cF ?_ | refine cA ?_ | refine cB ?_ | refine aLn ?_ | refine cK ?_ | refine aS8 ?_ | refine wI ?_ | refine nD ?_ | refine aX rfl ?_ | refine vL rfl ?_)
                intro _u; clear _u
                refine ICall.pure h.n164.o164.hb c4 rfl ?_
                repeat ((intro _u; clear _u); first | with_reducible first | refine cT ?_ | refine cF ?_ | refine cA ?_ | refine cB ?_ | refine aLn ?_ | refine cK ?_ | refine aS8 ?_ | refine wI ?_ | refine nD ?_ | refine aX rfl ?_ | refine vL rfl ?_)
                intro _u; clear _u
                refine acnd_t (by rfl) ?_
                repeat ((intro _u; clear _u); first | with_reducible first | refine cT ?_ | refine cF ?_ | refine cA ?_ | refine cB ?_ | refine aLn ?_ | refine cK ?_ | refine aS8 ?_ | refine wI ?_ | refine nD ?_ | refine aX rfl ?_ | refine vL rfl ?_)
                intro _u; clear _u
                refine ICall.pure h.n47.o47.hb (eq8_c h.n47 b b) rfl ?_
                repeat ((intro _u; clear _u); first | with_reducible first | refine cT ?_ | refine cF ?_ | refine cA ?_ | refine cB ?_ | refine aLn ?_ | refine cK ?_ | refine aS8 ?_ | refine wI ?_ | refine nD ?_ | refine aX rfl ?_ | refine vL rfl ?_)
                intro _u; clear _u
                refine acnd_t (by simp) ?_
                repeat ((intro _u; clear _u); first | with_reducible first | refine cT ?_ | refine cF ?_ | refine cA ?_ | refine cB ?_ | refine aLn ?_ | refine cK ?_ | refine aS8 ?_ | refine wI ?_ | refine nD ?_ | refine aX rfl ?_ | refine vL rfl ?_)
                intro _u; clear _u
                refine ICall.pure h.n166.o166.hb (works39_c h.n166) rfl ?_
                repeat ((intro _u; clear _u); first | with_reducible first | refine cT ?_ | refine cF ?_ | refine cA ?_ | refine cB ?_ | refine aLn ?_ | refine cK ?_ | refine aS8 ?_ | refine wI ?_ | refine nD ?_ | refine aX rfl ?_ | refine vL rfl ?_)
                intro _u; clear _u
                exact rT
              · have hu : unp b = (zPl, (unp b).2) := by rw [← unp_bad he]
                rw [hu] at c3
                repeat ((intro _u; clear _u); first | with_reducible first | refine cT ?_ | refine cF ?_ | refine cA ?_ | refine cB ?_ | refine aLn ?_ | refine cK ?_ | refine aS8 ?_ | refine wI ?_ | refine nD ?_ | refine aX rfl ?_ | refine vL rfl ?_)
                intro _u; clear _u
                refine ICall.pure h.n179.o179.hb c3 rfl ?_
                repeat ((intro _u; clear _u); first | with_reducible first | refine cT ?_ | refine cF ?_ | refine cA ?_ | refine cB ?_ | refine aLn ?_ | refine cK ?_ | refine aS8 ?_ | refine wI ?_ | refine nD ?_ | refine aX rfl ?_ | refine vL rfl ?_)
                intro _u; clear _u
                refine acnd_t (by simpa using he) ?_
                repeat ((intro _u; clear _u); first | with_reducible first | refine cT ?_ | refine cF ?_ | refine cA ?_ | refine cB ?_ | refine aLn ?_ | refine cK ?_ | refine aS8 ?_ | refine wI ?_ | refine nD ?_ | refine aX rfl ?_ | refine vL rfl ?_)
                intro _u; clear _u
                refine acnd_t (by rfl) ?_
                repeat ((intro _u; clear _u); first | with_reducible first | refine cT ?_ | refine cF ?_ | refine cA ?_ | refine cB ?_ | refine aLn ?_ | refine cK ?_ | refine aS8 ?_ | refine wI ?_ | refine nD ?_ | refine aX rfl ?_ | refine vL rfl ?_)
                intro _u; clear _u
                refine ICall.pure h.n166.o166.hb (works39_c h.n166) rfl ?_
                repeat ((intro _u; clear _u); first | with_reducible first | refine cT ?_ | refine cF ?_ | refine cA ?_ | refine cB ?_ | refine aLn ?_ | refine cK ?_ | refine aS8 ?_ | refine wI ?_ | refine nD ?_ | refine aX rfl ?_ | refine vL rfl ?_)
                intro _u; clear _u
                exact rT
end Go.UM

/- What comes in, opened. -/


namespace Go.UM
open Go.AM

theorem open8 {T : TT} {n e : Nat} {es : List (List AV)} (hT : T.d e = .int .u8) (h : ∀ r ∈ es, cty T (n + 1) e r) : ∃ l : List UInt8, es = slc8 l := by
  obtain ⟨l, rfl, _⟩ := rows_map (f := fun c : UInt8 => [AV.int .u8 c.toNat]) (p := fun _ => True) (es := es) fun r hr => by
    have h1 := h r hr
    simp only [cty, hT] at h1
    obtain ⟨x, rfl, hx⟩ := h1
    have hx := wf_in hx
    simp only [inI] at hx
    refine ⟨u8 x, ?_, trivial⟩
    rw [← wr_u8, wr_in (k := .u8) hx]
  exact ⟨l, rfl⟩

theorem openK {T : TT} {n e : Nat} {k : IntKind} {es : List (List AV)} (hT : T.d e = .int k) (h : ∀ r ∈ es, cty T (n + 1) e r) : ∃ l : List Int, es = slcK k l ∧ ∀ x ∈ l, inI k x := by
  obtain ⟨l, rfl, hl⟩ := rows_map (f := fun c : Int => [AV.int k c]) (p := fun c => inI k c) (es := es) fun r hr => by
    have h1 := h r hr
    simp only [cty, hT] at h1
    obtain ⟨x, rfl, hx⟩ := h1
    exact ⟨x, rfl, wf_in hx⟩
  exact ⟨l, rfl, hl⟩
end Go.UM
