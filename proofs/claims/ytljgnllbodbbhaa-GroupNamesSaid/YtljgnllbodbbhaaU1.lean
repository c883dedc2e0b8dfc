/- Of the reckoning machine, and what is proved with it: texts joined by program. -/
import Derived.Test.YtljgnllbodbbhaaU0
import Derived.Test.YtljgnllbodbbhaaK3
set_option linter.all false

namespace Go.UM
open Go.AM
set_option maxRecDepth 4000
def slA (l : List Af) : List (List AV) := l.map Af.row
@[simp] theorem slA_length (l : List Af) : (slA l).length = l.length := by simp [slA]
@[simp] theorem slA_NmL (l : List Af) : NmL (slA l) := by simp [slA]
@[simp] theorem slA_FlL (l : List Af) : FlL (slA l) := by simp [slA]
instance {l : List Af} : LenOf (slA l) l.length := ⟨slA_length l⟩
theorem axes4_c {R : Env} (h : N227 R) (l : List T3) (hl : l.length ≤ 1000) : R.Pc 227 [.isl 3 (slc3 l)] (.agg (axes4 l).row) :=
  h.o227.enter 100 rfl fun X bb hfit hp => by
    refine sh ?_
    refine ICall.pure h.n221.o221.hb (same4_c h.n221) rfl ?_
    match l, hl with
    | [], _ =>
      refine sh ?_
      refine ILoop.one 100 ?_
      refine sh ?_
      refine acnd_f (by simp) ?_
      refine sh ?_
      refine acnd_f (by simp) ?_
      refine sh ?_
      exact rT
    | [x], _ =>
      refine sh ?_
      refine ILoop.one 100 ?_
      refine sh ?_
      refine acnd_t (by simp) ?_
      refine sh ?_
      refine eget_map (show ([x] : List T3)[0]? = some x from rfl) ?_
      refine sh ?_
      refine acnd_t (by decide) ?_
      refine sh ?_
      refine ILoop.one 100 ?_
      refine sh ?_
      refine acnd_f (by simp) ?_
      refine sh ?_
      refine acnd_f (by simp) ?_
      refine sh ?_
      exact rT
    | [x, y], _ =>
      refine sh ?_
      refine ILoop.one 100 ?_
      refine sh ?_
      refine acnd_t (by simp) ?_
      refine sh ?_
      refine eget_map (show ([x, y] : List T3)[0]? = some x from rfl) ?_
      refine sh ?_
      refine acnd_t (by decide) ?_
      refine sh ?_
      refine ILoop.one 100 ?_
      refine sh ?_
      refine acnd_t (by simp) ?_
      refine sh ?_
      refine eget_map (show ([x, y] : List T3)[1]? = some y from rfl) ?_
      refine sh ?_
      refine acnd_t (by decide) ?_
      refine sh ?_
      refine ILoop.one 100 ?_
      refine sh ?_
      refine acnd_f (by simp) ?_
      refine sh ?_
      refine acnd_f (by simp) ?_
      refine sh ?_
      exact rT
    | [x, y, z], _ =>
      refine sh ?_
      refine ILoop.one 100 ?_
      refine sh ?_
      refine acnd_t (by simp) ?_
      refine sh ?_
      refine eget_map (show ([x, y, z] : List T3)[0]? = some x from rfl) ?_
      refine sh ?_
      refine acnd_t (by decide) ?_
      refine sh ?_
      refine ILoop.one 100 ?_
      refine sh ?_
      refine acnd_t (by simp) ?_
      refine sh ?_
      refine eget_map (show ([x, y, z] : List T3)[1]? = some y from rfl) ?_
      refine sh ?_
      refine acnd_t (by decide) ?_
      refine sh ?_
      refine ILoop.one 100 ?_
      refine sh ?_
      refine acnd_t (by simp) ?_
      refine sh ?_
      refine eget_map (show ([x, y, z] : List T3)[2]? = some z from rfl) ?_
      refine sh ?_
      refine acnd_t (by decide) ?_
      refine sh ?_
      refine ILoop.one 100 ?_
      refine sh ?_
      refine acnd_f (by simp) ?_
      refine sh ?_
      refine acnd_f (by simp) ?_
      refine sh ?_
      exact rT
    | x :: y :: z :: t :: r, hl =>
      simp only [List.length_cons] at hl
      refine sh ?_
      refine ILoop.one 100 ?_
      refine sh ?_
      refine acnd_t (by (simp; omega)) ?_
      refine sh ?_
      refine eget_map (show (x :: y :: z :: t :: r : List T3)[0]? = some x from rfl) ?_
      refine sh ?_
      refine acnd_t (by decide) ?_
      refine sh ?_
      refine ILoop.one 100 ?_
      refine sh ?_
      refine acnd_t (by (simp; omega)) ?_
      refine sh ?_
      refine eget_map (show (x :: y :: z :: t :: r : List T3)[1]? = some y from rfl) ?_
      refine sh ?_
      refine acnd_t (by decide) ?_
      refine sh ?_
      refine ILoop.one 100 ?_
      refine sh ?_
      refine acnd_t (by (simp; omega)) ?_
      refine sh ?_
      refine eget_map (show (x :: y :: z :: t :: r : List T3)[2]? = some z from rfl) ?_
      refine sh ?_
      refine acnd_t (by decide) ?_
      refine sh ?_
      refine lPa 100 (fun k : Nat => 3 ≤ k ∧ k ≤ r.length + 4) (fun k => ⟨[(0, .isl 3 (slc3 (x :: y :: z :: t :: r))), (2, .loc 0 1 0 0), (3, .loc 1 1 0 0), (7, .isl 3 (slc3 (x :: y :: z :: t :: r))), (8, .int .i64 (r.length + 4 : Nat)), (9, .int .i64 k)], [(1, .var (R.ty 33) (cols x y z z3).row), (0, .var (R.ty 33) [.int .i64 0, .int .i64 0, .int .i64 0, .int .i64 0, .int .i64 0, .int .i64 0, .int .i64 0, .int .i64 0, .int .i64 0, .int .i64 0, .int .i64 0, .int .i64 0])], 2⟩) (fun k => r.length + 4 - k) (3) ?_ ?_
      · omega
      · intro k hk
        dsimp only
        refine sh ?_
        refine cS (fun h4 => ?_) (fun h4 => ?_)
        · obtain ⟨u, hu⟩ : ∃ u, (x :: y :: z :: t :: r : List T3)[k]? = some u := ⟨_, List.getElem?_eq_getElem (by simp; omega)⟩
          refine sh ?_
          refine eget_map hu ?_
          refine sh ?_
          refine acnd_f (by (simp; omega)) ?_
          refine sh ?_
          refine nXa (k + 1) ?_ ?_
          · omega
          · omega
        · refine sh ?_
          refine acnd_t (by (simp; omega)) ?_
          refine sh ?_
          refine eget_map (show (x :: y :: z :: t :: r : List T3)[3]? = some t from rfl) ?_
          refine sh ?_
          exact rT
theorem then4_succ {l : List Af} {k : Nat} {g : Af} (h : l[k]? = some g) (hk : 1 ≤ k) : then4 (l.take (k + 1)) = comp4 (then4 (l.take k)) g := by
  match l, k, h, hk with
  | f :: r, m + 1, h, _ =>
    have h : r[m]? = some g := by simpa using h
    rw [List.take_succ_cons, List.take_succ_cons, take_succ_get h]
    simp [then4, List.foldl_append]
theorem then4_one {l : List Af} {g : Af} (h : l[0]? = some g) : then4 (l.take 1) = g := by
  match l, h with
  | f :: r, h =>
    have h : f = g := by simpa using h
    simp [then4, h]
theorem then4_c {R : Env} (h : N238 R) (l : List Af) (hl : l.length ≤ 1000) (hi : ∀ a ∈ l, a.I) : R.Pc 238 [.isl 12 (slA l)] (.agg (then4 l).row) :=
  h.o238.enter 100 rfl fun X bb hfit hp => by
    refine sh ?_
    refine ICall.pure h.n221.o221.hb (same4_c h.n221) rfl ?_
    refine sh ?_
    refine lPa 100 (fun s : Nat × Af => s.1 ≤ l.length ∧ s.2.I ∧ then4 (l.take s.1) = s.2) (fun s => ⟨[(2, .loc 0 1 0 0), (3, .loc 1 1 0 0), (7, .isl 12 (slA l)), (8, .int .i64 l.length), (9, .int .i64 s.1)], [(1, .var (R.ty 33) s.2.row), (0, .var (R.ty 33) [.int .i64 0, .int .i64 0, .int .i64 0, .int .i64 0, .int .i64 0, .int .i64 0, .int .i64 0, .int .i64 0, .int .i64 0, .int .i64 0, .int .i64 0, .int .i64 0])], 2⟩) (fun s => l.length - s.1) ((0, same4)) ?_ ?_
    · exact ⟨Nat.zero_le _, same_in, rfl⟩
    · rintro ⟨k, f⟩ ⟨h1, h2, h3⟩
      dsimp only at h1 h2 h3 ⊢
      refine sh ?_
      refine cS (fun h4 => ?_) (fun h4 => ?_)
      · obtain ⟨g, hg⟩ : ∃ u_, l[k]? = some u_ := ⟨_, List.getElem?_eq_getElem (by first | omega | (simp <;> omega))⟩
        refine sh ?_
        refine eget_map hg ?_
        have ig := hi g (List.mem_of_getElem? hg)
        by_cases h0 : k = 0
        · subst h0
          refine sh ?_
          refine acnd_t (by rfl) ?_
          refine sh ?_
          refine nXa ((1, g)) ?_ ?_
          · exact ⟨by omega, ig, then4_one hg⟩
          · omega
        · refine sh ?_
          refine acnd_f (by (simp; omega)) ?_
          refine sh ?_
          refine ICall.pure h.n258.o258.hb (col4_c h.n258 f 0 (by omega)) rfl ?_
          refine sh ?_
          refine ICall.pure h.n231.o231.hb (turn4_c h.n231 ig (h2.cl 0)) rfl ?_
          refine sh ?_
          refine ICall.pure h.n258.o258.hb (col4_c h.n258 f 1 (by omega)) rfl ?_
          refine sh ?_
          refine ICall.pure h.n231.o231.hb (turn4_c h.n231 ig (h2.cl 1)) rfl ?_
          refine sh ?_
          refine ICall.pure h.n258.o258.hb (col4_c h.n258 f 2 (by omega)) rfl ?_
          refine sh ?_
          refine ICall.pure h.n231.o231.hb (turn4_c h.n231 ig (h2.cl 2)) rfl ?_
          refine sh ?_
          refine ICall.pure h.n233.o233.hb (apply4_c h.n233 ig h2.t) rfl ?_
          refine sh ?_
          refine cM true [] ((axes4_c h.n227 [turn4 g (f.cl 0), turn4 g (f.cl 1), turn4 g (f.cl 2), apply4 g f.t] (by simp)).mc h.n227.o227.hb) ?_
          repeat ((intro _u; clear _u); first | refine eK ?_ | refine eP ?_)
          refine sh ?_
          refine nXa ((k + 1, comp4 f g)) ?_ ?_
          · exact ⟨by omega, comp_in f g, by rw [then4_succ hg (by omega), h3]⟩
          · omega
      · rw [List.take_of_length_le (by omega)] at h3
        rw [h3]
        refine sh ?_
        exact rT
end Go.UM

namespace Go.UM
open Go.AM
set_option maxRecDepth 4000
structure Gr where
  par : Int
  t : Af
  mesh : Int
  mat : Int
  tex : Int
def Gr.row (g : Gr) : List AV := [.int .i64 g.par, .int .i64 g.t.m0, .int .i64 g.t.m1, .int .i64 g.t.m2, .int .i64 g.t.m3, .int .i64 g.t.m4, .int .i64 g.t.m5, .int .i64 g.t.m6, .int .i64 g.t.m7, .int .i64 g.t.m8, .int .i64 g.t.t.a, .int .i64 g.t.t.b, .int .i64 g.t.t.c, .int .i64 g.mesh, .int .i64 g.mat, .int .i64 g.tex]
def slG (l : List Gr) : List (List AV) := l.map Gr.row
@[simp] theorem slG_length (l : List Gr) : (slG l).length = l.length := by simp [slG]
@[simp] theorem slG_append (a b : List Gr) : slG (a ++ b) = slG a ++ slG b := by simp [slG]
@[simp] theorem slG_NmL (l : List Gr) : NmL (slG l) := by simp [slG, Gr.row]
@[simp] theorem slG_FlL (l : List Gr) : FlL (slG l) := by simp [slG, Gr.row]
instance {l : List Gr} : LenOf (slG l) l.length := ⟨slG_length l⟩
theorem slG_take (l : List Gr) (k : Nat) : (slG l).take k = slG (l.take k) := by simp [slG, List.map_take]
theorem capG (b : List Gr) (m : Int) : (slG b).take (min (b.length : Int) m).toNat = slG (b.take m.toNat) := by rw [slG_take, take_cap]
def hbad (g : Gr) (h : Int) : Bool := decide (h < 0) || decide (65536 < h) || (g.mesh == 0 && h != 0)
def gown (g : Gr) (i : Nat) : Int := if g.par < -1 ∨ (i : Int) ≤ g.par then 5 else if [g.mesh, g.mat, g.tex].any (hbad g) = true then 5 else 0
def dstep (ds : List Int) (g : Gr) : Int := if 0 ≤ g.par then 1 + ds.getD g.par.toNat 0 else 1
def gdep (l : List Gr) : List Int := l.foldl (fun ds g => ds ++ [dstep ds g]) []
def gerr (ds : List Int) (g : Gr) : Int := if gown g ds.length ≠ 0 then gown g ds.length else if 16 < dstep ds g then 3 else chk4 g.t
def gfst : List Int → List Gr → Int
  | _, [] => 0
  | ds, g :: r => if gerr ds g ≠ 0 then gerr ds g else gfst (ds ++ [dstep ds g]) r
def gchk (l : List Gr) : Int := if 256 < l.length then 3 else gfst [] l
theorem gdep_snoc {l : List Gr} {k : Nat} {g : Gr} (h : l[k]? = some g) : gdep (l.take (k + 1)) = gdep (l.take k) ++ [dstep (gdep (l.take k)) g] := by
  rw [take_succ_get h]; simp [gdep, List.foldl_append]
@[simp] theorem gdep_len (l : List Gr) : (gdep l).length = l.length := by
  have : ∀ (l : List Gr) (ds : List Int), (l.foldl (fun ds g => ds ++ [dstep ds g]) ds).length = ds.length + l.length := by
    intro l
    induction l with
    | nil => intro ds; rfl
    | cons g r ih => intro ds; rw [List.foldl_cons, ih]; simp; omega
  simpa [gdep] using this l []
theorem drop_at {α : Type} {l : List α} {k : Nat} {x : α} (h : l[k]? = some x) : l.drop k = x :: l.drop (k + 1) := by
  obtain ⟨h1, h2⟩ := List.getElem?_eq_some_iff.1 h
  rw [List.drop_eq_getElem_cons h1, h2]
theorem gfst_nil (ds : List Int) : gfst ds [] = 0 := rfl
def Ahead (l : List Gr) : Prop := ∀ (j : Nat) (g : Gr), l[j]? = some g → -1 ≤ g.par ∧ g.par < j
theorem gown0 {g : Gr} {i : Nat} (h : gown g i = 0) : -1 ≤ g.par ∧ g.par < i := by
  unfold gown at h
  split at h
  · simp at h
  · omega
theorem gerr0 {ds : List Int} {g : Gr} (h : gerr ds g = 0) : gown g ds.length = 0 ∧ dstep ds g ≤ 16 ∧ chk4 g.t = 0 := by
  unfold gerr at h
  split at h
  · rename_i hn; exact absurd h hn
  · rename_i hn
    have hn : gown g ds.length = 0 := Classical.not_not.1 hn
    split at h
    · simp at h
    · exact ⟨hn, by omega, h⟩
theorem gfst_drop {l : List Gr} : ∀ {k : Nat}, k ≤ l.length → gfst (gdep (l.take k)) (l.drop k) = 0 → ∀ (j : Nat) (g : Gr), k ≤ j → l[j]? = some g → gerr (gdep (l.take j)) g = 0 := by
  intro k hk h j g hj hg
  have hlt : j < l.length := (List.getElem?_eq_some_iff.1 hg).1
  generalize hm : l.length - k = m
  induction m generalizing k with
  | zero => omega
  | succ m ih =>
    have hkl : k < l.length := by omega
    have hx := List.getElem?_eq_getElem hkl
    rw [drop_at hx, gfst] at h
    split at h
    · rename_i hn; exact absurd h hn
    · rename_i hn
      by_cases e : k = j
      · subst e
        rw [hx] at hg
        cases hg
        exact Classical.not_not.1 hn
      · refine ih (k := k + 1) (by omega) ?_ (by omega) (by omega)
        rw [gdep_snoc hx]; exact h
theorem gchk_all {l : List Gr} (h : gchk l = 0) : l.length ≤ 256 ∧ ∀ (j : Nat) (g : Gr), l[j]? = some g → gerr (gdep (l.take j)) g = 0 := by
  unfold gchk at h
  split at h
  · simp at h
  · refine ⟨by omega, fun j g hg => gfst_drop (k := 0) (Nat.zero_le _) (by simpa [gdep] using h) j g (Nat.zero_le _) hg⟩
theorem gchk_ahead {l : List Gr} (h : gchk l = 0) : Ahead l := fun j g hg => by
  have hlt : j < l.length := (List.getElem?_eq_some_iff.1 hg).1
  have := gown0 (gerr0 ((gchk_all h).2 j g hg)).1
  rwa [gdep_len, List.length_take, Nat.min_eq_left (Nat.le_of_lt hlt)] at this
theorem dstep_le {ds : List Int} {g : Gr} (h : ∀ d ∈ ds, 1 ≤ d ∧ d ≤ 16) : 1 ≤ dstep ds g ∧ dstep ds g ≤ 17 := by
  unfold dstep
  split
  · rw [List.getD_eq_getElem?_getD]
    cases hg : ds[g.par.toNat]? with
    | none => simp
    | some d =>
      have := h d (List.mem_of_getElem? hg)
      simp only [Option.getD_some]; omega
  · omega
def gds (l : List Gr) : List Int := if gchk l = 0 then gdep l else []
def wayN (l : List Gr) : Nat → List Af
  | 0 => []
  | k + 1 => match l[k]? with
    | some g => g.t :: wayN l (min k (g.par + 1).toNat)
    | none => []
termination_by n => n
theorem wayN_succ {l : List Gr} {k : Nat} {g : Gr} (h : l[k]? = some g) (hp : g.par < k) : wayN l (k + 1) = g.t :: wayN l (g.par + 1).toNat := by
  rw [wayN]
  simp only [h]
  rw [Nat.min_eq_right (by omega)]
theorem wayN_zero (l : List Gr) : wayN l 0 = [] := by rw [wayN]
theorem wayN_len (l : List Gr) : ∀ n, (wayN l n).length ≤ n := by
  intro n
  induction n using Nat.strongRecOn with
  | ind n ih =>
    cases n with
    | zero => rw [wayN]; simp
    | succ k =>
      rw [wayN]
      split
      · rename_i g hg
        have := ih (min k (g.par + 1).toNat) (by omega)
        simp only [List.length_cons]; omega
      · simp
theorem wayN_I {l : List Gr} (hl : ∀ g ∈ l, g.t.I) : ∀ n, ∀ a ∈ wayN l n, a.I := by
  intro n
  induction n using Nat.strongRecOn with
  | ind n ih =>
    cases n with
    | zero => rw [wayN]; intro a ha; simp at ha
    | succ k =>
      rw [wayN]
      split
      · rename_i g hg
        intro a ha
        rcases List.mem_cons.1 ha with rfl | ha
        · exact hl g (List.mem_of_getElem? hg)
        · exact ih _ (by omega) a ha
      · intro a ha; simp at ha
def gworld (l : List Gr) (i : Int) : Af := then4 (wayN l (i + 1).toNat)
end Go.UM

namespace Go.UM
open Go.AM
set_option maxRecDepth 4000
theorem gfew_c {R : Env} (h : N326 R) (l : List Gr) : R.Pc 326 [.isl 16 (slG l)] (.isl 16 (slG (l.take 30))) :=
  h.o326.enter 100 rfl fun X bb hfit hp => by
    refine sh ?_
    refine asub_eq (by exact capG l 30) ?_
    refine sh ?_
    exact rT
theorem gown_c {R : Env} (h : N359 R) (g : Gr) (i : Nat) : R.Pc 359 [.agg g.row, .int .i64 i] (.int .i64 (gown g i)) :=
  h.o359.enter 100 rfl fun X bb hfit hp => by
    generalize hq : gown g i = q
    unfold gown at hq
    refine sh ?_
    refine cS (fun h1 => ?_) (fun h1 => ?_)
    · rw [if_pos (.inl h1)] at hq
      subst hq
      refine sh ?_
      exact rT
    · refine sh ?_
      refine cS (fun h2 => ?_) (fun h2 => ?_)
      · rw [if_pos (.inr h2)] at hq
        subst hq
        refine sh ?_
        exact rT
      · rw [if_neg (by omega)] at hq
        refine sh ?_
        refine lPa 100 (fun k : Nat => k ≤ 3 ∧ ([g.mesh, g.mat, g.tex].take k).any (hbad g) = false) (fun k => ⟨[(2, .loc 0 1 0 0), (24, .osl 1 3), (25, .int .i64 3), (26, .int .i64 k)], [(1, .arr (R.ty 10) 1 (slcK .i64 [g.mesh, g.mat, g.tex])), (0, .var (R.ty 43) g.row)], 2⟩) (fun k => 3 - k) (0) ?_ ?_
        · exact ⟨by omega, rfl⟩
        · rintro k ⟨h3, h4⟩
          dsimp only at h3 h4 ⊢
          refine sh ?_
          refine cS (fun h5 => ?_) (fun h5 => ?_)
          · obtain ⟨x, hx⟩ : ∃ x, [g.mesh, g.mat, g.tex][k]? = some x := ⟨_, List.getElem?_eq_getElem (by simp; omega)⟩
            refine sh ?_
            refine aelt_map (by simp) hx ?_
            have hb : hbad g x = (decide (x < 0) || decide (65536 < x) || (g.mesh == 0 && x != 0)) := rfl
            have fin : hbad g x = true → q = 5 := fun e => by
              rw [if_pos (List.any_eq_true.2 ⟨x, List.mem_of_getElem? hx, e⟩)] at hq; exact hq.symm
            have go : hbad g x = false → ([g.mesh, g.mat, g.tex].take (k + 1)).any (hbad g) = false := fun e => by
              rw [take_succ_get hx, List.any_append, h4]; simp [e]
            have h5' : k < 3 := by omega
            refine sh ?_
            refine cS (fun g1 => ?_) (fun g1 => ?_)
            · rw [fin (by rw [hb]; simp; omega)]
              refine sh ?_
              exact rT
            · refine sh ?_
              refine cS (fun g2 => ?_) (fun g2 => ?_)
              · rw [fin (by rw [hb]; simp; omega)]
                refine sh ?_
                exact rT
              · refine sh ?_
                refine cS (fun g3 => ?_) (fun g3 => ?_)
                · refine sh ?_
                  refine cS (fun g4 => ?_) (fun g4 => ?_)
                  · rw [fin (by rw [hb, g3]; simp; omega)]
                    refine sh ?_
                    exact rT
                  · refine sh ?_
                    refine nXa (k + 1) ?_ ?_
                    · exact ⟨by omega, go (by rw [hb, g4]; simp)⟩
                    · omega
                · refine sh ?_
                  refine nXa (k + 1) ?_ ?_
                  · exact ⟨by omega, go (by rw [hb]; simp; omega)⟩
                  · omega
          · rw [show k = 3 by omega] at h4
            rw [if_neg (by rw [List.take_of_length_le (by simp)] at h4; rw [h4]; simp)] at hq
            subst hq
            refine sh ?_
            exact rT
end Go.UM

namespace Go.UM
open Go.AM
set_option maxRecDepth 4000
theorem gerr_at {l : List Gr} {k : Nat} {g : Gr} (hg : l[k]? = some g) : gerr (gdep (l.take k)) g = if gown g k ≠ 0 then gown g k else if 16 < dstep (gdep (l.take k)) g then 3 else chk4 g.t := by
  have hlt : k < l.length := (List.getElem?_eq_some_iff.1 hg).1
  unfold gerr
  rw [gdep_len, List.length_take, Nat.min_eq_left (Nat.le_of_lt hlt)]
theorem gfst_at {l : List Gr} {k : Nat} {g : Gr} (hg : l[k]? = some g) : gfst (gdep (l.take k)) (l.drop k) = if gerr (gdep (l.take k)) g ≠ 0 then gerr (gdep (l.take k)) g else gfst (gdep (l.take (k + 1))) (l.drop (k + 1)) := by
  rw [drop_at hg, gfst, gdep_snoc hg]
theorem gdep_mem {l : List Gr} {k : Nat} {g : Gr} (hg : l[k]? = some g) (h : ∀ d ∈ gdep (l.take k), 1 ≤ d ∧ d ≤ 16) (h16 : ¬ 16 < dstep (gdep (l.take k)) g) : ∀ d ∈ gdep (l.take (k + 1)), 1 ≤ d ∧ d ≤ 16 := by
  intro d hd
  rw [gdep_snoc hg] at hd
  rcases List.mem_append.1 hd with hd | hd
  · exact h d hd
  · have := dstep_le (g := g) h
    simp at hd
    omega
theorem depths_c {R : Env} (h : N350 R) (l : List Gr) (hl : l.length ≤ 1000) (hi : ∀ g ∈ l, g.t.I) : R.Pc 350 [.isl 16 (slG l)] (.tup [.isl 1 (slcK .i64 (gds l)), .int .i64 (gchk l)]) :=
  h.o350.enter 200 rfl fun X bb hfit hp => by
    generalize hq : gchk l = q
    generalize hqd : gds l = qd
    unfold gds at hqd
    rw [hq] at hqd
    have fin : ∀ {e : Int}, q = e → e ≠ 0 → AV.tup [.isl 1 (slcK .i64 qd), .int .i64 q] = .tup [.isl 1 [], .int .i64 e] := by
      rintro e rfl hne
      rw [← hqd, if_neg hne]; rfl
    unfold gchk at hq
    refine sh ?_
    refine cS (fun h0 => ?_) (fun h0 => ?_)
    · rw [if_pos (by omega)] at hq
      rw [fin hq.symm (by decide)]
      refine sh ?_
      exact rT
    · rw [if_neg (by omega)] at hq
      refine sh ?_
      refine lPa 200 (fun k : Nat => k ≤ l.length ∧ (∀ d ∈ gdep (l.take k), 1 ≤ d ∧ d ≤ 16) ∧ gfst (gdep (l.take k)) (l.drop k) = q) (fun k => ⟨[(4, .osl 0 k), (13, .isl 16 (slG l)), (14, .int .i64 l.length), (15, .int .i64 k)], [(0, .arr (R.ty 10) 1 (slcK .i64 (gdep (l.take k))))], 1⟩) (fun k => l.length - k) (0) ?_ ?_
      · exact ⟨by omega, by intro d hd; simp [gdep] at hd, by simpa [gdep] using hq⟩
      · rintro k ⟨h1, h2, h3⟩
        dsimp only at h1 h2 h3 ⊢
        have hlen : (gdep (l.take k)).length = k := by rw [gdep_len, List.length_take]; omega
        refine sh ?_
        refine cS (fun h4 => ?_) (fun h4 => ?_)
        · obtain ⟨g, hg⟩ : ∃ u_, l[k]? = some u_ := ⟨_, List.getElem?_eq_getElem (by first | omega | (simp <;> omega))⟩
          refine sh ?_
          refine eget_map hg ?_
          have e2 := gerr_at hg
          rw [gfst_at hg] at h3
          refine sh ?_
          refine ICall.pure h.n359.o359.hb (gown_c h.n359 g k) rfl ?_
          refine sh ?_
          refine cS (fun c0 => ?_) (fun c0 => ?_)
          · rw [if_pos c0] at e2
            rw [e2, if_pos c0] at h3
            rw [fin h3.symm c0]
            refine sh ?_
            exact rT
          · have hpar := gown0 c0
            refine sh ?_
            refine cS (fun c2 => ?_) (fun c2 => ?_)
            · obtain ⟨d0, hd0⟩ : ∃ d0, (gdep (l.take k))[g.par.toNat]? = some d0 := ⟨_, List.getElem?_eq_getElem (by omega)⟩
              have hd : dstep (gdep (l.take k)) g = 1 + d0 := by unfold dstep; rw [if_pos c2, List.getD_eq_getElem?_getD, hd0]; rfl
              have hr := h2 d0 (List.mem_of_getElem? hd0)
              refine sh ?_
              refine aelt_map (by simp [hlen]) hd0 ?_
              refine sh ?_
              refine cS (fun c3 => ?_) (fun c3 => ?_)
              · rw [if_neg (by simpa using c0), if_pos (by rw [hd]; omega)] at e2
                rw [e2, if_pos (by decide)] at h3
                rw [fin h3.symm (by decide)]
                refine sh ?_
                exact rT
              · refine sh ?_
                refine ICall.pure h.n235.o235.hb (check4_c h.n235 (hi g (List.mem_of_getElem? hg))) rfl ?_
                refine sh ?_
                refine cS (fun c1 => ?_) (fun c1 => ?_)
                · rw [if_neg (by simpa using c0), if_neg (by rw [hd]; omega)] at e2
                  rw [e2, if_pos c1] at h3
                  rw [fin h3.symm c1]
                  refine sh ?_
                  exact rT
                · rw [if_neg (by simpa using c0), if_neg (by rw [hd]; omega), c1] at e2
                  rw [e2, if_neg (by simp)] at h3
                  refine sh ?_
                  refine nX (k + 1) ?_ ?_ ⟨_, hp, rfl⟩ ?_ ?_
                  · exact ⟨by omega, gdep_mem hg h2 (by rw [hd]; omega), h3⟩
                  · omega
                  · all_goals repeat' (first | exact True.intro | refine And.intro ?_ ?_ | (intro _u; clear _u) | (with_reducible first | refine eM ?_ ?_ | refine eF ?_ ?_ ?_ | refine eN ?_ | refine eL ?_ ?_ ?_ | refine eA ?_ ?_ | refine IWk.mk ⟨_, hp, rfl⟩ ?_ ?_) | refine IWk.mk ⟨_, hp, rfl⟩ ?_ ?_)
                    all_goals first | with_reducible rfl | omega | exact Or.inl (by decide) | (simp; done) | rfl | skip
                    simp; omega
                  · all_goals repeat' (first | exact True.intro | refine And.intro ?_ ?_ | (intro _u; clear _u) | (with_reducible first | refine eM ?_ ?_ | refine eF ?_ ?_ ?_ | refine eN ?_ | refine eL ?_ ?_ ?_ | refine eA ?_ ?_ | refine IWk.mk ⟨_, hp, rfl⟩ ?_ ?_) | refine IWk.mk ⟨_, hp, rfl⟩ ?_ ?_)
                    all_goals first | with_reducible rfl | omega | exact Or.inl (by decide) | (simp; done) | rfl | skip
                    rw [gdep_snoc hg, hd, slcK_append]
                    rfl
            · have hd : dstep (gdep (l.take k)) g = 1 := by unfold dstep; rw [if_neg (by omega)]
              refine sh ?_
              refine acnd_f (by decide) ?_
              refine sh ?_
              refine ICall.pure h.n235.o235.hb (check4_c h.n235 (hi g (List.mem_of_getElem? hg))) rfl ?_
              refine sh ?_
              refine cS (fun c1 => ?_) (fun c1 => ?_)
              · rw [if_neg (by simpa using c0), if_neg (by rw [hd]; omega)] at e2
                rw [e2, if_pos c1] at h3
                rw [fin h3.symm c1]
                refine sh ?_
                exact rT
              · rw [if_neg (by simpa using c0), if_neg (by rw [hd]; omega), c1] at e2
                rw [e2, if_neg (by simp)] at h3
                refine sh ?_
                refine nX (k + 1) ?_ ?_ ⟨_, hp, rfl⟩ ?_ ?_
                · exact ⟨by omega, gdep_mem hg h2 (by rw [hd]; omega), h3⟩
                · omega
                · all_goals repeat' (first | exact True.intro | refine And.intro ?_ ?_ | (intro _u; clear _u) | (with_reducible first | refine eM ?_ ?_ | refine eF ?_ ?_ ?_ | refine eN ?_ | refine eL ?_ ?_ ?_ | refine eA ?_ ?_ | refine IWk.mk ⟨_, hp, rfl⟩ ?_ ?_) | refine IWk.mk ⟨_, hp, rfl⟩ ?_ ?_)
                  all_goals first | with_reducible rfl | omega | exact Or.inl (by decide) | (simp; done) | rfl | skip
                  simp; omega
                · all_goals repeat' (first | exact True.intro | refine And.intro ?_ ?_ | (intro _u; clear _u) | (with_reducible first | refine eM ?_ ?_ | refine eF ?_ ?_ ?_ | refine eN ?_ | refine eL ?_ ?_ ?_ | refine eA ?_ ?_ | refine IWk.mk ⟨_, hp, rfl⟩ ?_ ?_) | refine IWk.mk ⟨_, hp, rfl⟩ ?_ ?_)
                  all_goals first | with_reducible rfl | omega | exact Or.inl (by decide) | (simp; done) | rfl | skip
                  rw [gdep_snoc hg, hd, slcK_append]
                  rfl
        · rw [show k = l.length by omega] at h3 ⊢
          rw [List.drop_length, gfst_nil] at h3
          subst h3
          rw [if_pos rfl] at hqd
          subst hqd
          rw [List.take_length]
          refine sh ?_
          exact rT
end Go.UM

namespace Go.UM
open Go.AM
set_option maxRecDepth 4000
theorem gcheck_c {R : Env} (h : N330 R) (l : List Gr) (hl : l.length ≤ 1000) (hi : ∀ g ∈ l, g.t.I) : R.Pc 330 [.isl 16 (slG l)] (.int .i64 (gchk l)) :=
  h.o330.enter 100 rfl fun X bb hfit hp => by
    refine sh ?_
    refine ICall.pure h.n350.o350.hb (depths_c h.n350 l hl hi) rfl ?_
    refine sh ?_
    exact rT
end Go.UM

namespace Go.UM
open Go.AM
set_option maxRecDepth 4000
def z4 : Af := ⟨0, 0, 0, 0, 0, 0, 0, 0, 0, z3⟩
theorem gworld_c {R : Env} (h : N348 R) (l : List Gr) (hl : l.length ≤ 900) (hi : ∀ g ∈ l, g.t.I) (hA : Ahead l) (i : Int) (h0 : -1 ≤ i) (h1 : i < l.length) : R.Pc 348 [.isl 16 (slG l), .int .i64 i] (.agg (gworld l i).row) :=
  h.o348.enter 100 rfl fun X bb hfit hp => by
    generalize hW : wayN l (i + 1).toNat = W
    have hWl : W.length ≤ 901 := by have := wayN_len l (i + 1).toNat; rw [hW] at this; omega
    have hWi : ∀ a ∈ W, a.I := by rw [← hW]; exact wayN_I hi _
    refine sh ?_
    refine lPa 100 (fun s : Int × List Af => (-1 ≤ s.1 ∧ s.1 < l.length ∧ s.1 ≤ i) ∧ s.2 ++ wayN l (s.1 + 1).toNat = W) (fun s => ⟨[(0, .isl 16 (slG l)), (1, .int .i64 s.1), (4, .loc 0 1 0 0), (5, .osl 1 s.2.length)], [(1, .arr (R.ty 33) 12 (slA s.2)), (0, .var (R.ty 33) z4.row)], 2⟩) (fun s => (s.1 + 1).toNat) ((i, [])) ?_ ?_
    · exact ⟨⟨h0, h1, by simp⟩, by rw [← hW]; rfl⟩
    · rintro ⟨k, w⟩ ⟨h2, h3⟩
      dsimp only at h2 h3 ⊢
      have hwl : w.length ≤ 1000 := by
        have := congrArg List.length h3
        rw [List.length_append] at this
        omega
      refine sh ?_
      refine cS (fun h4 => ?_) (fun h4 => ?_)
      · obtain ⟨g, hg⟩ : ∃ g, l[k.toNat]? = some g := ⟨_, List.getElem?_eq_getElem (by omega)⟩
        have hpar := hA _ g hg
        refine sh ?_
        refine eget_map hg ?_
        refine sh ?_
        refine eget_map hg ?_
        refine sh ?_
        refine nX ((g.par, w ++ [g.t])) ?_ ?_ ⟨_, hp, rfl⟩ ?_ ?_
        · refine ⟨by dsimp only; omega, ?_⟩
          rw [show (k + 1).toNat = k.toNat + 1 by omega, wayN_succ hg (by omega)] at h3
          dsimp only
          rw [← h3]; simp
        · dsimp only; omega
        · all_goals repeat' (first | exact True.intro | refine And.intro ?_ ?_ | (intro _u; clear _u) | (with_reducible first | refine eM ?_ ?_ | refine eF ?_ ?_ ?_ | refine eN ?_ | refine eL ?_ ?_ ?_ | refine eA ?_ ?_ | refine IWk.mk ⟨_, hp, rfl⟩ ?_ ?_) | refine IWk.mk ⟨_, hp, rfl⟩ ?_ ?_)
          all_goals first | with_reducible rfl | omega | exact Or.inl (by decide) | (simp; done) | rfl | skip
        · all_goals repeat' (first | exact True.intro | refine And.intro ?_ ?_ | (intro _u; clear _u) | (with_reducible first | refine eM ?_ ?_ | refine eF ?_ ?_ ?_ | refine eN ?_ | refine eL ?_ ?_ ?_ | refine eA ?_ ?_ | refine IWk.mk ⟨_, hp, rfl⟩ ?_ ?_) | refine IWk.mk ⟨_, hp, rfl⟩ ?_ ?_)
          all_goals first | with_reducible rfl | omega | exact Or.inl (by decide) | (simp; done) | rfl | skip
          simp [slA, Af.row]
      · rw [show (k + 1).toNat = 0 by omega, wayN_zero, List.append_nil] at h3
        subst h3
        refine sh ?_
        refine cM true [] ((then4_c h.n238 w hwl hWi).mc h.n238.o238.hb) ?_
        repeat ((intro _u; clear _u); first | refine eK ?_ | refine eP ?_)
        unfold gworld
        rw [hW]
        refine sh ?_
        exact rT
end Go.UM

namespace Go.UM
open Go.AM
set_option maxRecDepth 4000
structure In where
  mesh : Int
  mat : Int
  tex : Int
  n : Int
  t : Af
def In.row (x : In) : List AV := [.int .i64 x.mesh, .int .i64 x.mat, .int .i64 x.tex, .int .i64 x.n, .int .i64 x.t.m0, .int .i64 x.t.m1, .int .i64 x.t.m2, .int .i64 x.t.m3, .int .i64 x.t.m4, .int .i64 x.t.m5, .int .i64 x.t.m6, .int .i64 x.t.m7, .int .i64 x.t.m8, .int .i64 x.t.t.a, .int .i64 x.t.t.b, .int .i64 x.t.t.c]
def sIn (l : List In) : List (List AV) := l.map In.row
@[simp] theorem sIn_length (l : List In) : (sIn l).length = l.length := by simp [sIn]
@[simp] theorem sIn_append (a b : List In) : sIn (a ++ b) = sIn a ++ sIn b := by simp [sIn]
@[simp] theorem sIn_NmL (l : List In) : NmL (sIn l) := by simp [sIn, In.row]
@[simp] theorem sIn_FlL (l : List In) : FlL (sIn l) := by simp [sIn, In.row]
instance {l : List In} : LenOf (sIn l) l.length := ⟨sIn_length l⟩
def keyG (g : Gr) : T3 := ⟨g.mesh, g.mat, g.tex⟩
def hitK (g : Gr) (k : T3) : Bool := (g.mesh == k.a) && ((g.mat == k.b) && ((g.tex == k.c) && true))
theorem hitK_eq {g : Gr} {k : T3} : hitK g k = true ↔ k = keyG g := by
  unfold hitK keyG
  obtain ⟨a, b, c⟩ := k
  simp only [Bool.and_eq_true, beq_iff_eq, and_true, T3.mk.injEq]
  exact ⟨fun ⟨h1, h2, h3⟩ => ⟨h1.symm, h2.symm, h3.symm⟩, fun ⟨h1, h2, h3⟩ => ⟨h1.symm, h2.symm, h3.symm⟩⟩
theorem hitK_ne {g : Gr} {k : T3} : hitK g k = false ↔ k ≠ keyG g := by rw [← Bool.not_eq_true, ne_eq, hitK_eq]
def cntK (l : List Gr) (k : T3) : Nat := l.countP fun g => hitK g k
def kadd (ks : List T3) (g : Gr) : List T3 := if g.mesh = 0 then ks else if ks.any (hitK g) = true then ks else ks ++ [keyG g]
def keysK (l : List Gr) : List T3 := l.foldl kadd []
def mrow (l : List Gr) (k : T3) : List AV := [.int .i64 k.a, .int .i64 k.b, .int .i64 k.c, .int .i64 (cntK l k)]
def mes (l : List Gr) : List (List AV) := (keysK l).map (mrow l)
theorem keysK_snoc (l : List Gr) (g : Gr) : keysK (l ++ [g]) = kadd (keysK l) g := by simp [keysK, List.foldl_append]
theorem cntK_snoc (l : List Gr) (g : Gr) (k : T3) : cntK (l ++ [g]) k = cntK l k + if hitK g k = true then 1 else 0 := by
  simp only [cntK, List.countP_append, List.countP_cons, List.countP_nil, Nat.zero_add]
theorem cntK_le (l : List Gr) (k : T3) : cntK l k ≤ l.length := List.countP_le_length
theorem keysK_all (l : List Gr) : (∀ g ∈ l, g.mesh ≠ 0 → keyG g ∈ keysK l) ∧ (keysK l).Nodup ∧ (keysK l).length ≤ l.length ∧ ∀ k ∈ keysK l, k.a ≠ 0 := by
  have : ∀ (n : Nat) (l : List Gr), l.length = n → (∀ g ∈ l, g.mesh ≠ 0 → keyG g ∈ keysK l) ∧ (keysK l).Nodup ∧ (keysK l).length ≤ l.length ∧ ∀ k ∈ keysK l, k.a ≠ 0 := by
    intro n
    induction n with
    | zero =>
      intro l hl
      have : l = [] := List.eq_nil_of_length_eq_zero hl
      subst this
      exact ⟨by simp, by simp [keysK], by simp [keysK], by simp [keysK]⟩
    | succ n ih =>
      intro l hl
      obtain ⟨r, g, rfl⟩ : ∃ r g, l = r ++ [g] := ⟨l.dropLast, l.getLast (by intro e; subst e; simp at hl), (List.dropLast_concat_getLast _).symm⟩
      obtain ⟨i1, i2, i3, i4⟩ := ih r (by simpa using hl)
      rw [keysK_snoc]
      unfold kadd
      by_cases h0 : g.mesh = 0
      · rw [if_pos h0]
        refine ⟨fun g' hg' hm => ?_, i2, by simp; omega, i4⟩
        rcases List.mem_append.1 hg' with h | h
        · exact i1 g' h hm
        · simp at h; subst h; exact (hm h0).elim
      · rw [if_neg h0]
        by_cases ha : (keysK r).any (hitK g) = true
        · rw [if_pos ha]
          refine ⟨fun g' hg' hm => ?_, i2, by simp; omega, i4⟩
          rcases List.mem_append.1 hg' with h | h
          · exact i1 g' h hm
          · simp at h; subst h
            obtain ⟨k, hk, hh⟩ := List.any_eq_true.1 ha
            rw [← hitK_eq.1 hh]; exact hk
        · rw [if_neg ha]
          have hno : keyG g ∉ keysK r := fun hk => ha (List.any_eq_true.2 ⟨_, hk, hitK_eq.2 rfl⟩)
          refine ⟨fun g' hg' hm => ?_, ?_, by simp; omega, fun k hk => ?_⟩
          · rcases List.mem_append.1 hg' with h | h
            · exact List.mem_append_left _ (i1 g' h hm)
            · simp at h; subst h; simp
          · rw [List.nodup_append]
            refine ⟨i2, by simp, fun a ha b hb => ?_⟩
            simp at hb; subst hb
            exact fun e => hno (e ▸ ha)
          · rcases List.mem_append.1 hk with h | h
            · exact i4 k h
            · simp at h; subst h; exact h0
  exact this _ l rfl
theorem cntK_zero {l : List Gr} {g : Gr} (h0 : g.mesh ≠ 0) (h : (keysK l).any (hitK g) = false) : cntK l (keyG g) = 0 := by
  unfold cntK
  rw [List.countP_eq_zero]
  intro g' hg' hh
  have e : keyG g = keyG g' := hitK_eq.1 hh
  have hm : g'.mesh ≠ 0 := by
    have : (keyG g).a = (keyG g').a := by rw [e]
    intro h'; exact h0 (this.trans h')
  have hk := (keysK_all l).1 g' hg' hm
  have : (keysK l).any (hitK g) = true := List.any_eq_true.2 ⟨_, hk, hitK_eq.2 e.symm⟩
  rw [h] at this; simp at this
theorem mes_g64 (l : List Gr) : ∀ r ∈ mes l, g64 r = true := by
  intro r hr
  obtain ⟨k, _, rfl⟩ := List.mem_map.1 hr
  rfl
@[simp] theorem mes_NmL (l : List Gr) : NmL (mes l) := by simp [mes, mrow]
theorem mfind_no {g : Gr} {f : T3 → Int} : ∀ {ks : List T3}, ks.any (hitK g) = false → mfind [.int .i64 g.mesh, .int .i64 g.mat, .int .i64 g.tex] (ks.map fun k => [.int .i64 k.a, .int .i64 k.b, .int .i64 k.c, .int .i64 (f k)]) = none
  | [], _ => rfl
  | k :: ks, h => by
    simp only [List.any_cons, Bool.or_eq_false_iff] at h
    have e : kvB [.int .i64 g.mesh, .int .i64 g.mat, .int .i64 g.tex] [.int .i64 k.a, .int .i64 k.b, .int .i64 k.c, .int .i64 (f k)] = hitK g k := rfl
    simp only [List.map_cons, mfind, e, h.1, Bool.false_eq_true, if_false, mfind_no h.2, Option.map_none]
theorem mfind_yes {g : Gr} {f : T3 → Int} : ∀ {ks : List T3}, ks.any (hitK g) = true → ∃ i, ks[i]? = some (keyG g) ∧ mfind [.int .i64 g.mesh, .int .i64 g.mat, .int .i64 g.tex] (ks.map fun k => [.int .i64 k.a, .int .i64 k.b, .int .i64 k.c, .int .i64 (f k)]) = some (i, [.int .i64 (f (keyG g))])
  | [], h => by simp at h
  | k :: ks, h => by
    have e : kvB [.int .i64 g.mesh, .int .i64 g.mat, .int .i64 g.tex] [.int .i64 k.a, .int .i64 k.b, .int .i64 k.c, .int .i64 (f k)] = hitK g k := rfl
    by_cases hk : hitK g k = true
    · have := hitK_eq.1 hk
      subst this
      exact ⟨0, rfl, by simp only [List.map_cons, mfind, e, hk, if_true]; rfl⟩
    · simp only [List.any_cons, Bool.or_eq_true, hk, Bool.false_eq_true, false_or] at h
      obtain ⟨i, h1, h2⟩ := mfind_yes (f := f) h
      exact ⟨i + 1, by simpa using h1, by simp only [List.map_cons, mfind, e, if_neg hk, h2, Option.map_some]⟩
theorem cnt_at {l : List Gr} {g : Gr} (h0 : g.mesh ≠ 0) : cntV (mfind [.int .i64 g.mesh, .int .i64 g.mat, .int .i64 g.tex] (mes l)) = .int .i64 (cntK l (keyG g)) := by
  by_cases h : (keysK l).any (hitK g) = true
  · obtain ⟨i, _, h2⟩ := mfind_yes (f := fun k => (cntK l k : Int)) h
    show cntV (mfind _ ((keysK l).map (mrow l))) = _
    have e : (keysK l).map (mrow l) = (keysK l).map fun k => [.int .i64 k.a, .int .i64 k.b, .int .i64 k.c, .int .i64 ((cntK l k : Nat) : Int)] := rfl
    rw [e, h2]; rfl
  · have h : (keysK l).any (hitK g) = false := by simpa using h
    have e : (keysK l).map (mrow l) = (keysK l).map fun k => [.int .i64 k.a, .int .i64 k.b, .int .i64 k.c, .int .i64 ((cntK l k : Nat) : Int)] := rfl
    show cntV (mfind _ ((keysK l).map (mrow l))) = _
    rw [e, mfind_no h, cntK_zero h0 h]; rfl
theorem mrow_other {l : List Gr} {g : Gr} {k : T3} (h : k ≠ keyG g) : mrow (l ++ [g]) k = mrow l k := by
  have : hitK g k = false := hitK_ne.2 h
  simp only [mrow, cntK_snoc, this, Bool.false_eq_true, if_false, Nat.add_zero]
theorem mrow_this {l : List Gr} {g : Gr} : mrow (l ++ [g]) (keyG g) = [.int .i64 g.mesh, .int .i64 g.mat, .int .i64 g.tex, .int .i64 ((cntK l (keyG g) : Int) + 1)] := by
  have : hitK g (keyG g) = true := hitK_eq.2 rfl
  simp only [mrow, cntK_snoc, this, if_true]
  simp [keyG]
theorem mes_yes {l : List Gr} {g : Gr} {i : Nat} (h0 : g.mesh ≠ 0) (h : (keysK l)[i]? = some (keyG g)) : mes (l ++ [g]) = (mes l).set i [.int .i64 g.mesh, .int .i64 g.mat, .int .i64 g.tex, .int .i64 ((cntK l (keyG g) : Int) + 1)] := by
  have ha : (keysK l).any (hitK g) = true := List.any_eq_true.2 ⟨_, List.mem_of_getElem? h, hitK_eq.2 rfl⟩
  have hk : keysK (l ++ [g]) = keysK l := by rw [keysK_snoc, kadd, if_neg h0, if_pos ha]
  unfold mes
  rw [hk, ← mrow_this]
  apply List.ext_getElem?
  intro j
  by_cases e : i = j
  · subst e
    have hlt := (List.getElem?_eq_some_iff.1 h).1
    rw [List.getElem?_set_self (by simpa using hlt), List.getElem?_map, h]; rfl
  · rw [List.getElem?_set_ne e, List.getElem?_map, List.getElem?_map]
    cases hj : (keysK l)[j]? with
    | none => rfl
    | some k =>
      have hne : k ≠ keyG g := by
        intro ek
        have hn := (keysK_all l).2.1
        have h1 := List.getElem?_eq_some_iff.1 h
        have h2 := List.getElem?_eq_some_iff.1 hj
        obtain ⟨h1a, h1b⟩ := h1
        obtain ⟨h2a, h2b⟩ := h2
        have hp := List.pairwise_iff_getElem.1 hn
        rcases Nat.lt_or_gt_of_ne e with hlt | hlt
        · exact hp i j h1a h2a hlt (by rw [h1b, h2b, ek])
        · exact hp j i h2a h1a hlt (by rw [h1b, h2b, ek])
      simp only [Option.map_some, mrow_other hne]
theorem mes_no {l : List Gr} {g : Gr} (h0 : g.mesh ≠ 0) (h : (keysK l).any (hitK g) = false) : mes (l ++ [g]) = mes l ++ [[.int .i64 g.mesh, .int .i64 g.mat, .int .i64 g.tex, .int .i64 ((cntK l (keyG g) : Int) + 1)]] := by
  have hk : keysK (l ++ [g]) = keysK l ++ [keyG g] := by rw [keysK_snoc, kadd, if_neg h0, if_neg (by rw [h]; simp)]
  unfold mes
  rw [hk, ← mrow_this, List.map_append]
  congr 1
  refine List.map_congr_left fun k hk => mrow_other fun e => ?_
  have : (keysK l).any (hitK g) = true := List.any_eq_true.2 ⟨k, hk, hitK_eq.2 e⟩
  rw [h] at this; simp at this
theorem mes_skip {l : List Gr} {g : Gr} (h0 : g.mesh = 0) : mes (l ++ [g]) = mes l := by
  have hk : keysK (l ++ [g]) = keysK l := by rw [keysK_snoc, kadd, if_pos h0]
  unfold mes
  rw [hk]
  refine List.map_congr_left fun k hk => mrow_other fun e => ?_
  have := (keysK_all l).2.2.2 k hk
  rw [e] at this
  exact this h0
theorem mes_len (l : List Gr) : (mes l).length ≤ l.length := by
  unfold mes
  rw [List.length_map]
  exact (keysK_all l).2.2.1
theorem then4_in {l : List Af} (h : ∀ a ∈ l, a.I) : (then4 l).I := by
  cases l with
  | nil => exact same_in
  | cons f r =>
    have : ∀ (r : List Af) (s : Af), s.I → (r.foldl comp4 s).I := by
      intro r
      induction r with
      | nil => exact fun s hs => hs
      | cons g r ih => exact fun s _ => ih _ (comp_in _ _)
    exact this r f (h f (by simp))
theorem gworld_in {l : List Gr} (hi : ∀ g ∈ l, g.t.I) (i : Int) : (gworld l i).I := then4_in (wayN_I hi _)
def flF (l : List Gr) : Nat → List Gr → List In → List In × Int
  | _, [], acc => (acc, 0)
  | i, g :: r, acc => if g.mesh = 0 then flF l (i + 1) r acc else if chk4 (gworld l i) ≠ 0 then ([], chk4 (gworld l i)) else flF l (i + 1) r (acc ++ [⟨g.mesh, g.mat, g.tex, cntK (l.take i) (keyG g), gworld l i⟩])
def flat4 (l : List Gr) : List In × Int := if gchk l ≠ 0 then ([], gchk l) else flF l 0 l []
end Go.UM

namespace Go.UM
open Go.AM
set_option maxRecDepth 4000
theorem afv {kc : List AV} {es : List (List AV)} {K : AV → Prop} {c : AV} (g : ∀ r ∈ es, g64 r = true) (e : cntV (mfind kc es) = c) (k : K c) : AFv kc es K := ⟨g, by rw [e]; exact k⟩
theorem afg {kc : List AV} {es : List (List AV)} {K : Option (Nat × List AV) → Prop} {q : Option (Nat × List AV)} (g : ∀ r ∈ es, g64 r = true) (e : mfind kc es = q) (k : K q) : AFg kc es K := ⟨g, by rw [e]; exact k⟩
theorem aen {es : List (List AV)} {j : Int} {K : Nat → List AV → Prop} (i : Nat) (r : List AV) (h1 : j = i) (h2 : es[i]? = some r) (k : K i r) : AEn es j K := ⟨⟨i, r, h1, h2, k⟩⟩
theorem gflatten_c {R : Env} (h : N327 R) (l : List Gr) (hl : l.length ≤ 900) (hi : ∀ g ∈ l, g.t.I) : R.Pc 327 [.isl 16 (slG l)] (.tup [.isl 16 (sIn (flat4 l).1), .int .i64 (flat4 l).2]) :=
  h.o327.enter 200 rfl fun X bb hfit hp => by
    generalize hq : flat4 l = q
    unfold flat4 at hq
    refine sh ?_
    refine ICall.pure h.n330.o330.hb (gcheck_c h.n330 l (by omega) hi) rfl ?_
    refine sh ?_
    refine cS (fun h1 => ?_) (fun h1 => ?_)
    · rw [if_pos h1] at hq
      subst hq
      refine sh ?_
      exact rT
    · rw [if_neg (by simpa using h1)] at hq
      have hA := gchk_ahead h1
      refine sh ?_
      refine lPa 200 (fun s : Nat × List In => (s.1 ≤ l.length ∧ s.2.length ≤ s.1) ∧ flF l s.1 (l.drop s.1) s.2 = q) (fun s => ⟨[(0, .isl 16 (slG l)), (5, .omap 0), (6, .osl 1 s.2.length), (18, .isl 16 (slG l)), (19, .int .i64 l.length), (20, .int .i64 s.1)], [(1, .arr (R.ty 44) 16 (sIn s.2)), (0, .map 3 true false true 4 (mes (l.take s.1)))], 2⟩) (fun s => l.length - s.1) ((0, [])) ?_ ?_
      · exact ⟨⟨by omega, by simp⟩, by simpa using hq⟩
      · rintro ⟨k, acc⟩ ⟨h2, h3⟩
        dsimp only at h2 h3 ⊢
        refine sh ?_
        refine cS (fun h4 => ?_) (fun h4 => ?_)
        · obtain ⟨g, hg⟩ : ∃ u_, l[k]? = some u_ := ⟨_, List.getElem?_eq_getElem (by first | omega | (simp <;> omega))⟩
          refine sh ?_
          refine eget_map hg ?_
          rw [drop_at hg, flF] at h3
          have hsn := take_succ_get hg
          refine sh ?_
          refine cS (fun h5 => ?_) (fun h5 => ?_)
          · rw [if_pos h5] at h3
            refine sh ?_
            refine nX ((k + 1, acc)) ?_ ?_ ⟨_, hp, rfl⟩ ?_ ?_
            · exact ⟨by dsimp only; omega, h3⟩
            · dsimp only; omega
            · all_goals repeat' (first | exact True.intro | refine And.intro ?_ ?_ | (intro _u; clear _u) | (with_reducible first | refine eM ?_ ?_ | refine eF ?_ ?_ ?_ | refine eN ?_ | refine eL ?_ ?_ ?_ | refine eA ?_ ?_ | refine IWk.mk ⟨_, hp, rfl⟩ ?_ ?_) | refine IWk.mk ⟨_, hp, rfl⟩ ?_ ?_)
              all_goals first | with_reducible rfl | omega | exact Or.inl (by decide) | (simp; done) | rfl | skip
            · all_goals repeat' (first | exact True.intro | refine And.intro ?_ ?_ | (intro _u; clear _u) | (with_reducible first | refine eM ?_ ?_ | refine eF ?_ ?_ ?_ | refine eN ?_ | refine eL ?_ ?_ ?_ | refine eA ?_ ?_ | refine IWk.mk ⟨_, hp, rfl⟩ ?_ ?_) | refine IWk.mk ⟨_, hp, rfl⟩ ?_ ?_)
              all_goals first | with_reducible rfl | omega | exact Or.inl (by decide) | (simp; done) | rfl | skip
              rw [hsn, mes_skip h5]
          · rw [if_neg h5] at h3
            refine sh ?_
            refine ICall.pure h.n348.o348.hb (gworld_c h.n348 l hl hi hA k (by omega) (by omega)) rfl ?_
            refine sh ?_
            refine ICall.pure h.n235.o235.hb (check4_c h.n235 (gworld_in hi k)) rfl ?_
            refine sh ?_
            refine cS (fun h6 => ?_) (fun h6 => ?_)
            · rw [if_pos h6] at h3
              subst h3
              refine sh ?_
              exact rT
            · rw [if_neg (by simpa using h6)] at h3
              refine sh ?_
              refine afv (mes_g64 _) (cnt_at h5) ?_
              refine sh ?_
              refine afv (mes_g64 _) (cnt_at h5) ?_
              have hcl := cntK_le (l.take k) (keyG g)
              rw [List.length_take] at hcl
              have hml := mes_len (l.take k)
              rw [List.length_take] at hml
              by_cases ha : (keysK (l.take k)).any (hitK g) = true
              · obtain ⟨i, hi1, hi2⟩ := mfind_yes (f := fun x => ((cntK (l.take k) x : Nat) : Int)) ha
                refine sh ?_
                refine afg (mes_g64 _) hi2 ?_
                refine sh ?_
                refine aen i (mrow (l.take k) (keyG g)) rfl (by rw [mes, List.getElem?_map, hi1]; rfl) ?_
                refine sh ?_
                refine nX ((k + 1, acc ++ [⟨g.mesh, g.mat, g.tex, cntK (l.take k) (keyG g), gworld l k⟩])) ?_ ?_ ⟨_, hp, rfl⟩ ?_ ?_
                · exact ⟨by simp; omega, h3⟩
                · dsimp only; omega
                · all_goals repeat' (first | exact True.intro | refine And.intro ?_ ?_ | (intro _u; clear _u) | (with_reducible first | refine eM ?_ ?_ | refine eF ?_ ?_ ?_ | refine eN ?_ | refine eL ?_ ?_ ?_ | refine eA ?_ ?_ | refine IWk.mk ⟨_, hp, rfl⟩ ?_ ?_) | refine IWk.mk ⟨_, hp, rfl⟩ ?_ ?_)
                  all_goals first | with_reducible rfl | omega | exact Or.inl (by decide) | (simp; done) | rfl | skip
                · all_goals repeat' (first | exact True.intro | refine And.intro ?_ ?_ | (intro _u; clear _u) | (with_reducible first | refine eM ?_ ?_ | refine eF ?_ ?_ ?_ | refine eN ?_ | refine eL ?_ ?_ ?_ | refine eA ?_ ?_ | refine IWk.mk ⟨_, hp, rfl⟩ ?_ ?_) | refine IWk.mk ⟨_, hp, rfl⟩ ?_ ?_)
                  all_goals first | with_reducible rfl | omega | exact Or.inl (by decide) | (simp; done) | rfl | skip
                  · simp [In.row, sIn]
                  · rw [hsn, mes_yes h5 hi1]; rfl
                  · exact .inr (NmL_set (mes_NmL _) rfl)
              · have ha : (keysK (l.take k)).any (hitK g) = false := by simpa using ha
                refine sh ?_
                refine afg (mes_g64 _) (mfind_no (f := fun x => ((cntK (l.take k) x : Nat) : Int)) ha) ?_
                refine sh ?_
                refine aen (mes (l.take k)).length [.int .i64 g.mesh, .int .i64 g.mat, .int .i64 g.tex, .int .i64 0] rfl (by rw [List.getElem?_append_right (Nat.le_refl _), Nat.sub_self]; rfl) ?_
                refine sh ?_
                refine nX ((k + 1, acc ++ [⟨g.mesh, g.mat, g.tex, cntK (l.take k) (keyG g), gworld l k⟩])) ?_ ?_ ⟨_, hp, rfl⟩ ?_ ?_
                · exact ⟨by simp; omega, h3⟩
                · dsimp only; omega
                · all_goals repeat' (first | exact True.intro | refine And.intro ?_ ?_ | (intro _u; clear _u) | (with_reducible first | refine eM ?_ ?_ | refine eF ?_ ?_ ?_ | refine eN ?_ | refine eL ?_ ?_ ?_ | refine eA ?_ ?_ | refine IWk.mk ⟨_, hp, rfl⟩ ?_ ?_) | refine IWk.mk ⟨_, hp, rfl⟩ ?_ ?_)
                  all_goals first | with_reducible rfl | omega | exact Or.inl (by decide) | (simp; done) | rfl | skip
                · all_goals repeat' (first | exact True.intro | refine And.intro ?_ ?_ | (intro _u; clear _u) | (with_reducible first | refine eM ?_ ?_ | refine eF ?_ ?_ ?_ | refine eN ?_ | refine eL ?_ ?_ ?_ | refine eA ?_ ?_ | refine IWk.mk ⟨_, hp, rfl⟩ ?_ ?_) | refine IWk.mk ⟨_, hp, rfl⟩ ?_ ?_)
                  all_goals first | with_reducible rfl | omega | exact Or.inl (by decide) | (simp; done) | rfl | skip
                  · simp [In.row, sIn]
                  · rw [hsn, mes_no h5 ha]; simp
        · rw [show k = l.length by omega, List.drop_length, flF] at h3
          subst h3
          refine sh ?_
          exact rT
end Go.UM

namespace Go.UM
open Go.AM
set_option maxRecDepth 4000
def atG (x y z : Int) : Af := move4 (vof ⟨x, y, z⟩)
theorem at41_c {R : Env} (h : N349 R) {x y z : Int} (hx : (⟨x, y, z⟩ : T3).I) : R.Pc 349 [.int .i64 x, .int .i64 y, .int .i64 z] (.agg (atG x y z).row) :=
  h.o349.enter 100 rfl fun X bb hfit hp => by
    refine sh ?_
    refine ICall.pure h.n249.o249.hb (vofp_c h.n249 hx) rfl ?_
    refine sh ?_
    refine ICall.pure h.n223.o223.hb (move4_c h.n223 (vof ⟨x, y, z⟩)) rfl ?_
    refine sh ?_
    exact rT
def exG : List Gr := [⟨-1, atG 10 0 0, 0, 0, 0⟩, ⟨0, atG 1 2 3, 5, 6, 0⟩]
theorem exG_flat : flat4 exG = ([⟨5, 6, 0, 0, atG 11 2 3⟩], 0) := by
  have w : gworld exG 1 = atG 11 2 3 := by
    unfold gworld
    rw [show ((1 : Int) + 1).toNat = 1 + 1 from rfl, wayN_succ (l := exG) (k := 1) (g := ⟨0, atG 1 2 3, 5, 6, 0⟩) rfl (by decide), show ((0 : Int) + 1).toNat = 0 + 1 from rfl,
      wayN_succ (l := exG) (k := 0) (g := ⟨-1, atG 10 0 0, 0, 0, 0⟩) rfl (by decide), show ((-1 : Int) + 1).toNat = 0 from rfl, wayN_zero]
    rfl
  have hc : gchk exG = 0 := by decide
  unfold flat4
  rw [hc, if_neg (by simp)]
  show flF exG 0 exG [] = _
  have e1 : flF exG 0 exG [] = flF exG 1 [⟨0, atG 1 2 3, 5, 6, 0⟩] [] := by
    conv => lhs; unfold exG
    rw [flF, if_pos rfl]; rfl
  rw [e1, flF, if_neg (by decide)]
  rw [show ((1 : Nat) : Int) = 1 from rfl, w, if_neg (by decide), flF]
  rfl
theorem works41_c {R : Env} (h : N328 R) : R.Pc 328 [] (.bool true) :=
  h.o328.enter 100 rfl fun X bb hfit hp => by
    refine sh ?_
    refine ICall.pure h.n349.o349.hb (at41_c h.n349 (x := 10) (y := 0) (z := 0) ⟨⟨by decide, by decide⟩, ⟨by decide, by decide⟩, ⟨by decide, by decide⟩⟩) rfl ?_
    refine sh ?_
    refine ICall.pure h.n349.o349.hb (at41_c h.n349 (x := 1) (y := 2) (z := 3) ⟨⟨by decide, by decide⟩, ⟨by decide, by decide⟩, ⟨by decide, by decide⟩⟩) rfl ?_
    have c := gflatten_c h.n327 exG (by decide) (by
      intro g hg
      simp only [exG, List.mem_cons, List.not_mem_nil, or_false] at hg
      have ia : ∀ x y z, (atG x y z).I := fun x y z => by
        refine ⟨?_, ?_, ?_, ?_, ?_, ?_, ?_, ?_, ?_, vof_in _⟩ <;> (simp only [atG, move4, i64_iff]; omega)
      rcases hg with rfl | rfl <;> exact ia _ _ _)
    rw [exG_flat] at c
    refine sh ?_
    refine ICall.let [0] rfl hp rfl ?_
    repeat ((intro _u; clear _u); first | refine eZ ?_ | refine eZ ?_ (by simp; omega) | refine FrzC.drop ?_)
    refine sh ?_
    refine ICall.pure h.n327.o327.hb c rfl ?_
    refine sh ?_
    refine acnd_t (by rfl) ?_
    refine sh ?_
    refine acnd_t (by rfl) ?_
    refine sh ?_
    refine eget_map (show ([⟨5, 6, 0, 0, atG 11 2 3⟩] : List In)[0]? = some _ from rfl) ?_
    refine sh ?_
    refine ICall.pure h.n349.o349.hb (at41_c h.n349 (x := 11) (y := 2) (z := 3) ⟨⟨by decide, by decide⟩, ⟨by decide, by decide⟩, ⟨by decide, by decide⟩⟩) rfl ?_
    refine sh ?_
    exact rT
end Go.UM

namespace Go.UM
open Go.AM
set_option maxRecDepth 4000
theorem flF_I {l : List Gr} (hi : ∀ g ∈ l, g.t.I) : ∀ {r : List Gr} {i : Nat} {acc : List In}, (∀ x ∈ acc, x.t.I) → ∀ x ∈ (flF l i r acc).1, x.t.I
  | [], i, acc, h => h
  | g :: r, i, acc, h => by
    rw [flF]
    split
    · exact flF_I hi h
    · split
      · intro x hx; simp at hx
      · refine flF_I hi fun x hx => ?_
        rcases List.mem_append.1 hx with hx | hx
        · exact h x hx
        · simp at hx; subst hx; exact gworld_in hi _
theorem flat_I {l : List Gr} (hi : ∀ g ∈ l, g.t.I) : ∀ x ∈ (flat4 l).1, x.t.I := by
  unfold flat4
  split
  · intro x hx; simp at hx
  · exact flF_I hi (fun x hx => by simp at hx)
theorem flF_len {l : List Gr} : ∀ {r : List Gr} {i : Nat} {acc : List In}, (flF l i r acc).1.length ≤ acc.length + r.length
  | [], i, acc => by simp [flF]
  | g :: r, i, acc => by
    rw [flF]
    split
    · have := flF_len (l := l) (r := r) (i := i + 1) (acc := acc); simp only [List.length_cons]; omega
    · split
      · simp
      · have := flF_len (l := l) (r := r) (i := i + 1) (acc := acc ++ [⟨g.mesh, g.mat, g.tex, cntK (l.take i) (keyG g), gworld l i⟩])
        simp only [List.length_append, List.length_cons, List.length_nil] at this ⊢; omega
theorem flat_len (l : List Gr) : (flat4 l).1.length ≤ l.length := by
  unfold flat4
  split
  · simp
  · have := flF_len (l := l) (r := l) (i := 0) (acc := []); simpa using this
end Go.UM

namespace Go.UM
open Go.AM
set_option maxRecDepth 4000
def i8 (x : Int) : Prop := -128 ≤ x ∧ x ≤ 127
structure M9 where
  (m0 m1 m2 m3 m4 m5 m6 m7 m8 : Int)
structure M9.Ok (m : M9) : Prop where
  m0 : i8 m.m0
  m1 : i8 m.m1
  m2 : i8 m.m2
  m3 : i8 m.m3
  m4 : i8 m.m4
  m5 : i8 m.m5
  m6 : i8 m.m6
  m7 : i8 m.m7
  m8 : i8 m.m8
def M9.want (m : M9) (t q : T3) : T3 := ⟨m.m0 * q.a + m.m1 * q.b + m.m2 * q.c + t.a, m.m3 * q.a + m.m4 * q.b + m.m5 * q.c + t.b, m.m6 * q.a + m.m7 * q.b + m.m8 * q.c + t.c⟩
def i16 (x : Int) : Prop := -32768 ≤ x ∧ x ≤ 32767
end Go.UM

namespace Go.UM
open Go.AM
set_option maxRecDepth 4000
end Go.UM

namespace Go.UM
open Go.AM
set_option maxRecDepth 4000
end Go.UM

namespace Go.UM
open Go.AM
set_option maxRecDepth 4000
def p2 (x : Int × Int) : List AV := [.int .i64 x.1, .int .i64 x.2]
def slc2 (l : List (Int × Int)) : List (List AV) := l.map p2
@[simp] theorem slc2_nil : slc2 [] = [] := rfl
@[simp] theorem slc2_length (l : List (Int × Int)) : (slc2 l).length = l.length := by simp [slc2]
@[simp] theorem slc2_append (a b : List (Int × Int)) : slc2 (a ++ b) = slc2 a ++ slc2 b := by simp [slc2]
@[simp] theorem slc2_NmL (l : List (Int × Int)) : NmL (slc2 l) := by simp [slc2, p2]
@[simp] theorem slc2_FlL (l : List (Int × Int)) : FlL (slc2 l) := by simp [slc2, p2]
instance {l : List (Int × Int)} : LenOf (slc2 l) l.length := ⟨slc2_length l⟩
structure Ms where
  v : List T3
  uv : List (Int × Int)
  t : List T3
def Ms.row (m : Ms) : List AV := [.isl 3 (slc3 m.v), .isl 2 (slc2 m.uv), .isl 3 (slc3 m.t)]
def off3 (p : T3) : Bool := !(decide (-4096 ≤ p.a ∧ p.a ≤ 4096 ∧ -4096 ≤ p.b ∧ p.b ≤ 4096 ∧ -4096 ≤ p.c ∧ p.c ≤ 4096))
def bad2 (x : Int × Int) : Bool := !(decide (0 ≤ x.1 ∧ x.1 ≤ 65535 ∧ 0 ≤ x.2 ∧ x.2 ≤ 65535))
def badT (n : Nat) (t : T3) : Bool := !(decide (0 ≤ t.a ∧ t.a < n ∧ 0 ≤ t.b ∧ t.b < n ∧ 0 ≤ t.c ∧ t.c < n ∧ t.a ≠ t.b ∧ t.b ≠ t.c ∧ t.c ≠ t.a))
def mchk (m : Ms) : Int :=
  if 64 < m.v.length ∨ 64 < m.t.length then 3
  else if m.v.length = 0 ∨ m.t.length = 0 ∨ m.uv.length ≠ m.v.length then 5
  else if m.v.any off3 = true then 8
  else if m.uv.any bad2 = true ∨ m.t.any (badT m.v.length) = true then 5 else 0
def fidx {α : Type} (l : List α) (p : α → Bool) : Int := if l.any p = true then (l.findIdx p : Int) else -1
theorem fidx_at {α : Type} {p : α → Bool} {x : α} : ∀ {l : List α} {i : Nat}, l[i]? = some x → p x = true → (l.take i).any p = false → l.findIdx p = i
  | [], _, h, _, _ => by simp at h
  | a :: r, 0, h, hp, _ => by simp at h; subst h; simp [List.findIdx_cons, hp]
  | a :: r, i + 1, h, hp, hn => by
    simp only [List.take_succ_cons, List.any_cons, Bool.or_eq_false_iff] at hn
    rw [List.findIdx_cons, hn.1, fidx_at (l := r) (i := i) (by simpa using h) hp hn.2]
    rfl
theorem any_at {α : Type} {p : α → Bool} {l : List α} {i : Nat} {x : α} (h : l[i]? = some x) (hp : p x = true) : l.any p = true := List.any_eq_true.2 ⟨x, List.mem_of_getElem? h, hp⟩
theorem any_take_succ' {α : Type} {l : List α} {k : Nat} {x : α} {p : α → Bool} (h : l[k]? = some x) : (l.take (k + 1)).any p = ((l.take k).any p || p x) := by
  rw [take_succ_get h]; simp
theorem fidx_ge {α : Type} {l : List α} {p : α → Bool} : decide (fidx l p ≥ 0) = l.any p := by
  unfold fidx
  split
  · rename_i h; rw [h]; simp
  · rename_i h; simp at h ⊢; exact h
theorem idx217_c {R : Env} (h : N217 R) (g : Nat) (hb : HasBody R.P (R.ft g)) (l : List T3) (p : T3 → Bool) (hc : ∀ x ∈ l, R.Pc g [.agg (t3 x)] (.bool (p x))) (hl : l.length ≤ 1073741824) : R.Pc 217 [.isl 3 (slc3 l), R.cl g []] (.int .i64 (fidx l p)) :=
  h.o217.enter 100 rfl fun X bb hfit hp => by
    refine sh ?_
    refine lPa 100 (fun i : Nat => i ≤ l.length ∧ (l.take i).any p = false) (fun i => ⟨[(0, .isl 3 (slc3 l)), (1, R.cl g []), (7, .int .i64 l.length), (8, .int .i64 i)], [], 0⟩) (fun i => l.length - i) (0) ?_ ?_
    · exact ⟨Nat.zero_le _, by simp⟩
    · intro i hi
      dsimp only
      refine sh ?_
      refine cS (fun h1 => ?_) (fun h1 => ?_)
      · obtain ⟨x, hx⟩ : ∃ u_, l[i]? = some u_ := ⟨_, List.getElem?_eq_getElem (by first | omega | (simp <;> omega))⟩
        refine sh ?_
        refine eget_map hx ?_
        refine sh ?_
        refine ICall.pure hb (hc x (List.mem_of_getElem? hx)) rfl ?_
        refine sh ?_
        refine cS (fun h2 => ?_) (fun h2 => ?_)
        · refine sh ?_
          refine rT ?_
          all_goals repeat' (first | exact True.intro | refine And.intro ?_ ?_ | (intro _u; clear _u) | (with_reducible first | refine eM ?_ ?_ | refine eF ?_ ?_ ?_ | refine eN ?_ | refine eL ?_ ?_ ?_ | refine eA ?_ ?_ | refine IWk.mk ⟨_, hp, rfl⟩ ?_ ?_) | refine IWk.mk ⟨_, hp, rfl⟩ ?_ ?_)
          all_goals first | with_reducible rfl | omega | exact Or.inl (by decide) | (simp; done) | rfl | skip
          unfold fidx
          rw [if_pos (any_at hx h2), fidx_at hx h2 hi.2]
        · refine sh ?_
          refine nXa (i + 1) ?_ ?_
          · refine ⟨by omega, ?_⟩
            rw [any_take_succ' hx, hi.2, h2]; rfl
          · omega
      · refine sh ?_
        refine rT ?_
        all_goals repeat' (first | exact True.intro | refine And.intro ?_ ?_ | (intro _u; clear _u) | (with_reducible first | refine eM ?_ ?_ | refine eF ?_ ?_ ?_ | refine eN ?_ | refine eL ?_ ?_ ?_ | refine eA ?_ ?_ | refine IWk.mk ⟨_, hp, rfl⟩ ?_ ?_) | refine IWk.mk ⟨_, hp, rfl⟩ ?_ ?_)
        all_goals first | with_reducible rfl | omega | exact Or.inl (by decide) | (simp; done) | rfl | skip
        unfold fidx
        have h3 := hi.2
        rw [List.take_of_length_le (by omega)] at h3
        rw [if_neg (by simp [h3])]
theorem cont209_c {R : Env} (h : N209 R) (g : Nat) (hb : HasBody R.P (R.ft g)) (l : List T3) (p : T3 → Bool) (hc : ∀ x ∈ l, R.Pc g [.agg (t3 x)] (.bool (p x))) (hl : l.length ≤ 1073741824) : R.Pc 209 [.isl 3 (slc3 l), R.cl g []] (.bool (l.any p)) :=
  h.o209.enter 100 rfl fun X bb hfit hp => by
    refine sh ?_
    refine ICall.pure h.n217.o217.hb (idx217_c h.n217 g hb l p hc hl) rfl ?_
    refine sh ?_
    refine rT ?_
    all_goals repeat' (first | exact True.intro | refine And.intro ?_ ?_ | (intro _u; clear _u) | (with_reducible first | refine eM ?_ ?_ | refine eF ?_ ?_ ?_ | refine eN ?_ | refine eL ?_ ?_ ?_ | refine eA ?_ ?_ | refine IWk.mk ⟨_, hp, rfl⟩ ?_ ?_) | refine IWk.mk ⟨_, hp, rfl⟩ ?_ ?_)
    all_goals first | with_reducible rfl | omega | exact Or.inl (by decide) | (simp; done) | rfl | skip
    exact fidx_ge
theorem idx218_c {R : Env} (h : N218 R) (g : Nat) (hb : HasBody R.P (R.ft g)) (l : List (Int × Int)) (p : Int × Int → Bool) (hc : ∀ x ∈ l, R.Pc g [.agg (p2 x)] (.bool (p x))) (hl : l.length ≤ 1073741824) : R.Pc 218 [.isl 2 (slc2 l), R.cl g []] (.int .i64 (fidx l p)) :=
  h.o218.enter 100 rfl fun X bb hfit hp => by
    refine sh ?_
    refine lPa 100 (fun i : Nat => i ≤ l.length ∧ (l.take i).any p = false) (fun i => ⟨[(0, .isl 2 (slc2 l)), (1, R.cl g []), (7, .int .i64 l.length), (8, .int .i64 i)], [], 0⟩) (fun i => l.length - i) (0) ?_ ?_
    · exact ⟨Nat.zero_le _, by simp⟩
    · intro i hi
      dsimp only
      refine sh ?_
      refine cS (fun h1 => ?_) (fun h1 => ?_)
      · obtain ⟨x, hx⟩ : ∃ u_, l[i]? = some u_ := ⟨_, List.getElem?_eq_getElem (by first | omega | (simp <;> omega))⟩
        refine sh ?_
        refine eget_map hx ?_
        refine sh ?_
        refine ICall.pure hb (hc x (List.mem_of_getElem? hx)) rfl ?_
        refine sh ?_
        refine cS (fun h2 => ?_) (fun h2 => ?_)
        · refine sh ?_
          refine rT ?_
          all_goals repeat' (first | exact True.intro | refine And.intro ?_ ?_ | (intro _u; clear _u) | (with_reducible first | refine eM ?_ ?_ | refine eF ?_ ?_ ?_ | refine eN ?_ | refine eL ?_ ?_ ?_ | refine eA ?_ ?_ | refine IWk.mk ⟨_, hp, rfl⟩ ?_ ?_) | refine IWk.mk ⟨_, hp, rfl⟩ ?_ ?_)
          all_goals first | with_reducible rfl | omega | exact Or.inl (by decide) | (simp; done) | rfl | skip
          unfold fidx
          rw [if_pos (any_at hx h2), fidx_at hx h2 hi.2]
        · refine sh ?_
          refine nXa (i + 1) ?_ ?_
          · refine ⟨by omega, ?_⟩
            rw [any_take_succ' hx, hi.2, h2]; rfl
          · omega
      · refine sh ?_
        refine rT ?_
        all_goals repeat' (first | exact True.intro | refine And.intro ?_ ?_ | (intro _u; clear _u) | (with_reducible first | refine eM ?_ ?_ | refine eF ?_ ?_ ?_ | refine eN ?_ | refine eL ?_ ?_ ?_ | refine eA ?_ ?_ | refine IWk.mk ⟨_, hp, rfl⟩ ?_ ?_) | refine IWk.mk ⟨_, hp, rfl⟩ ?_ ?_)
        all_goals first | with_reducible rfl | omega | exact Or.inl (by decide) | (simp; done) | rfl | skip
        unfold fidx
        have h3 := hi.2
        rw [List.take_of_length_le (by omega)] at h3
        rw [if_neg (by simp [h3])]
theorem cont210_c {R : Env} (h : N210 R) (g : Nat) (hb : HasBody R.P (R.ft g)) (l : List (Int × Int)) (p : Int × Int → Bool) (hc : ∀ x ∈ l, R.Pc g [.agg (p2 x)] (.bool (p x))) (hl : l.length ≤ 1073741824) : R.Pc 210 [.isl 2 (slc2 l), R.cl g []] (.bool (l.any p)) :=
  h.o210.enter 100 rfl fun X bb hfit hp => by
    refine sh ?_
    refine ICall.pure h.n218.o218.hb (idx218_c h.n218 g hb l p hc hl) rfl ?_
    refine sh ?_
    refine rT ?_
    all_goals repeat' (first | exact True.intro | refine And.intro ?_ ?_ | (intro _u; clear _u) | (with_reducible first | refine eM ?_ ?_ | refine eF ?_ ?_ ?_ | refine eN ?_ | refine eL ?_ ?_ ?_ | refine eA ?_ ?_ | refine IWk.mk ⟨_, hp, rfl⟩ ?_ ?_) | refine IWk.mk ⟨_, hp, rfl⟩ ?_ ?_)
    all_goals first | with_reducible rfl | omega | exact Or.inl (by decide) | (simp; done) | rfl | skip
    exact fidx_ge
def msM (R : Env) (m : Ms) : IMem := [(0, .var (R.ty 25) m.row)]
theorem idx219_c {R : Env} (h : N219 R) (g : Nat) (l : List T3) (p : T3 → Bool) (m : Ms) (hc : ∀ x ∈ l, R.Mc g [.agg (t3 x), .loc 0 1 0 0] (msM R m) (.bool (p x)) (msM R m) 1) (hl : l.length ≤ 1073741824) :
    R.Mc 219 [.isl 3 (slc3 l), R.cl g [.loc 0 1 0 0]] (msM R m) (.int .i64 (fidx l p)) (msM R m) 1 :=
  h.o219.enterM 100 1 rfl rfl rfl fun X bb hfit hp => by
    refine sh ?_
    refine lPa 100 (fun i : Nat => i ≤ l.length ∧ (l.take i).any p = false) (fun i => ⟨[(0, .isl 3 (slc3 l)), (1, R.cl g [.loc 0 1 0 0]), (7, .int .i64 l.length), (8, .int .i64 i)], msM R m, 1⟩) (fun i => l.length - i) (0) ?_ ?_
    · exact ⟨Nat.zero_le _, by simp⟩
    · intro i hi
      dsimp only
      refine sh ?_
      refine cS (fun h1 => ?_) (fun h1 => ?_)
      · obtain ⟨x, hx⟩ : ∃ u_, l[i]? = some u_ := ⟨_, List.getElem?_eq_getElem (by first | omega | (simp <;> omega))⟩
        refine sh ?_
        refine eget_map hx ?_
        refine sh ?_
        refine cM false [0] (hc x (List.mem_of_getElem? hx)) ?_
        repeat ((intro _u; clear _u); first | refine eK ?_ | refine eP ?_)
        refine sh ?_
        refine cS (fun h2 => ?_) (fun h2 => ?_)
        · refine sh ?_
          refine rM [0] ?_
          all_goals repeat' (first | exact True.intro | refine And.intro ?_ ?_ | (intro _u; clear _u) | (with_reducible first | refine eM ?_ ?_ | refine eF ?_ ?_ ?_ | refine eN ?_ | refine eL ?_ ?_ ?_ | refine eA ?_ ?_ | refine IWk.mk ⟨_, hp, rfl⟩ ?_ ?_) | refine IWk.mk ⟨_, hp, rfl⟩ ?_ ?_)
          all_goals first | with_reducible rfl | omega | exact Or.inl (by decide) | (simp; done) | rfl | skip
          unfold fidx
          rw [if_pos (any_at hx h2), fidx_at hx h2 hi.2]
        · refine sh ?_
          refine nXa (i + 1) ?_ ?_
          · refine ⟨by omega, ?_⟩
            rw [any_take_succ' hx, hi.2, h2]; rfl
          · omega
      · refine sh ?_
        refine rM [0] ?_
        all_goals repeat' (first | exact True.intro | refine And.intro ?_ ?_ | (intro _u; clear _u) | (with_reducible first | refine eM ?_ ?_ | refine eF ?_ ?_ ?_ | refine eN ?_ | refine eL ?_ ?_ ?_ | refine eA ?_ ?_ | refine IWk.mk ⟨_, hp, rfl⟩ ?_ ?_) | refine IWk.mk ⟨_, hp, rfl⟩ ?_ ?_)
        all_goals first | with_reducible rfl | omega | exact Or.inl (by decide) | (simp; done) | rfl | skip
        unfold fidx
        have h3 := hi.2
        rw [List.take_of_length_le (by omega)] at h3
        rw [if_neg (by simp [h3])]
theorem cont211_c {R : Env} (h : N211 R) (g : Nat) (l : List T3) (p : T3 → Bool) (m : Ms) (hc : ∀ x ∈ l, R.Mc g [.agg (t3 x), .loc 0 1 0 0] (msM R m) (.bool (p x)) (msM R m) 1) (hl : l.length ≤ 1073741824) :
    R.Mc 211 [.isl 3 (slc3 l), R.cl g [.loc 0 1 0 0]] (msM R m) (.bool (l.any p)) (msM R m) 1 :=
  h.o211.enterM 100 1 rfl rfl rfl fun X bb hfit hp => by
    refine sh ?_
    refine cM false [0] (idx219_c h.n219 g l p m hc hl) ?_
    repeat ((intro _u; clear _u); first | refine eK ?_ | refine eP ?_)
    refine sh ?_
    refine rM [0] ?_
    all_goals repeat' (first | exact True.intro | refine And.intro ?_ ?_ | (intro _u; clear _u) | (with_reducible first | refine eM ?_ ?_ | refine eF ?_ ?_ ?_ | refine eN ?_ | refine eL ?_ ?_ ?_ | refine eA ?_ ?_ | refine IWk.mk ⟨_, hp, rfl⟩ ?_ ?_) | refine IWk.mk ⟨_, hp, rfl⟩ ?_ ?_)
    all_goals first | with_reducible rfl | omega | exact Or.inl (by decide) | (simp; done) | rfl | skip
    exact fidx_ge
theorem off_c {R : Env} (h : N206 R) (p : T3) : R.Pc 206 [.agg (t3 p)] (.bool (off3 p)) :=
  h.o206.enter 60 rfl fun X bb hfit hp => by
    unfold off3
    refine sh ?_
    refine cS (fun h1 => ?_) (fun h1 => ?_)
    · refine sh ?_
      refine rT ?_
      all_goals repeat' (first | exact True.intro | refine And.intro ?_ ?_ | (intro _u; clear _u) | (with_reducible first | refine eM ?_ ?_ | refine eF ?_ ?_ ?_ | refine eN ?_ | refine eL ?_ ?_ ?_ | refine eA ?_ ?_ | refine IWk.mk ⟨_, hp, rfl⟩ ?_ ?_) | refine IWk.mk ⟨_, hp, rfl⟩ ?_ ?_)
      all_goals first | with_reducible rfl | omega | exact Or.inl (by decide) | (simp; done) | rfl | skip
      simp; omega
    · refine sh ?_
      refine rT ?_
      all_goals repeat' (first | exact True.intro | refine And.intro ?_ ?_ | (intro _u; clear _u) | (with_reducible first | refine eM ?_ ?_ | refine eF ?_ ?_ ?_ | refine eN ?_ | refine eL ?_ ?_ ?_ | refine eA ?_ ?_ | refine IWk.mk ⟨_, hp, rfl⟩ ?_ ?_) | refine IWk.mk ⟨_, hp, rfl⟩ ?_ ?_)
      all_goals first | with_reducible rfl | omega | exact Or.inl (by decide) | (simp; done) | rfl | skip
      rw [Bool.eq_iff_iff]; simp only [Bool.not_eq_true', decide_eq_true_eq, decide_eq_false_iff_not]; omega
theorem pair_c {R : Env} (h : N207 R) (p : Int × Int) : R.Pc 207 [.agg (p2 p)] (.bool (bad2 p)) :=
  h.o207.enter 60 rfl fun X bb hfit hp => by
    unfold bad2
    refine sh ?_
    refine cS (fun h1 => ?_) (fun h1 => ?_)
    · refine sh ?_
      refine rT ?_
      all_goals repeat' (first | exact True.intro | refine And.intro ?_ ?_ | (intro _u; clear _u) | (with_reducible first | refine eM ?_ ?_ | refine eF ?_ ?_ ?_ | refine eN ?_ | refine eL ?_ ?_ ?_ | refine eA ?_ ?_ | refine IWk.mk ⟨_, hp, rfl⟩ ?_ ?_) | refine IWk.mk ⟨_, hp, rfl⟩ ?_ ?_)
      all_goals first | with_reducible rfl | omega | exact Or.inl (by decide) | (simp; done) | rfl | skip
      simp; omega
    · refine sh ?_
      refine rT ?_
      all_goals repeat' (first | exact True.intro | refine And.intro ?_ ?_ | (intro _u; clear _u) | (with_reducible first | refine eM ?_ ?_ | refine eF ?_ ?_ ?_ | refine eN ?_ | refine eL ?_ ?_ ?_ | refine eA ?_ ?_ | refine IWk.mk ⟨_, hp, rfl⟩ ?_ ?_) | refine IWk.mk ⟨_, hp, rfl⟩ ?_ ?_)
      all_goals first | with_reducible rfl | omega | exact Or.inl (by decide) | (simp; done) | rfl | skip
      rw [Bool.eq_iff_iff]; simp only [Bool.not_eq_true', decide_eq_true_eq, decide_eq_false_iff_not]; omega
theorem tri_c {R : Env} (h : N208 R) (m : Ms) (p : T3) : R.Mc 208 [.agg (t3 p), .loc 0 1 0 0] (msM R m) (.bool (badT m.v.length p)) (msM R m) 1 :=
  h.o208.enterM 60 1 rfl rfl rfl fun X bb hfit hp => by
    unfold badT
    refine sh ?_
    refine cS (fun h1 => ?_) (fun h1 => ?_)
    · refine sh ?_
      refine rM [0] ?_
      all_goals repeat' (first | exact True.intro | refine And.intro ?_ ?_ | (intro _u; clear _u) | (with_reducible first | refine eM ?_ ?_ | refine eF ?_ ?_ ?_ | refine eN ?_ | refine eL ?_ ?_ ?_ | refine eA ?_ ?_ | refine IWk.mk ⟨_, hp, rfl⟩ ?_ ?_) | refine IWk.mk ⟨_, hp, rfl⟩ ?_ ?_)
      all_goals first | with_reducible rfl | omega | exact Or.inl (by decide) | (simp; done) | rfl | skip
      simp; omega
    · refine sh ?_
      refine cS (fun h2 => ?_) (fun h2 => ?_)
      · refine sh ?_
        refine rM [0] ?_
        all_goals repeat' (first | exact True.intro | refine And.intro ?_ ?_ | (intro _u; clear _u) | (with_reducible first | refine eM ?_ ?_ | refine eF ?_ ?_ ?_ | refine eN ?_ | refine eL ?_ ?_ ?_ | refine eA ?_ ?_ | refine IWk.mk ⟨_, hp, rfl⟩ ?_ ?_) | refine IWk.mk ⟨_, hp, rfl⟩ ?_ ?_)
        all_goals first | with_reducible rfl | omega | exact Or.inl (by decide) | (simp; done) | rfl | skip
        simp; omega
      · refine sh ?_
        refine cS (fun h3 => ?_) (fun h3 => ?_)
        · refine sh ?_
          refine rM [0] ?_
          all_goals repeat' (first | exact True.intro | refine And.intro ?_ ?_ | (intro _u; clear _u) | (with_reducible first | refine eM ?_ ?_ | refine eF ?_ ?_ ?_ | refine eN ?_ | refine eL ?_ ?_ ?_ | refine eA ?_ ?_ | refine IWk.mk ⟨_, hp, rfl⟩ ?_ ?_) | refine IWk.mk ⟨_, hp, rfl⟩ ?_ ?_)
          all_goals first | with_reducible rfl | omega | exact Or.inl (by decide) | (simp; done) | rfl | skip
          simp; omega
        · refine sh ?_
          refine cS (fun h4 => ?_) (fun h4 => ?_)
          · refine sh ?_
            refine rM [0] ?_
            all_goals repeat' (first | exact True.intro | refine And.intro ?_ ?_ | (intro _u; clear _u) | (with_reducible first | refine eM ?_ ?_ | refine eF ?_ ?_ ?_ | refine eN ?_ | refine eL ?_ ?_ ?_ | refine eA ?_ ?_ | refine IWk.mk ⟨_, hp, rfl⟩ ?_ ?_) | refine IWk.mk ⟨_, hp, rfl⟩ ?_ ?_)
            all_goals first | with_reducible rfl | omega | exact Or.inl (by decide) | (simp; done) | rfl | skip
            simp; omega
          · refine sh ?_
            refine rM [0] ?_
            all_goals repeat' (first | exact True.intro | refine And.intro ?_ ?_ | (intro _u; clear _u) | (with_reducible first | refine eM ?_ ?_ | refine eF ?_ ?_ ?_ | refine eN ?_ | refine eL ?_ ?_ ?_ | refine eA ?_ ?_ | refine IWk.mk ⟨_, hp, rfl⟩ ?_ ?_) | refine IWk.mk ⟨_, hp, rfl⟩ ?_ ?_)
            all_goals first | with_reducible rfl | omega | exact Or.inl (by decide) | (simp; done) | rfl | skip
            rw [Bool.eq_iff_iff]; simp only [Bool.not_eq_true', decide_eq_true_eq, decide_eq_false_iff_not, beq_iff_eq]; omega
theorem mcheck_c {R : Env} (h : N193 R) (m : Ms) : R.Pc 193 [.agg m.row] (.int .i64 (mchk m)) :=
  h.o193.enter 100 rfl fun X bb hfit hp => by
    unfold mchk
    refine sh ?_
    refine cS (fun h1 => ?_) (fun h1 => ?_)
    · rw [if_pos (.inl (by omega))]
      refine sh ?_
      exact rT
    · refine sh ?_
      refine cS (fun h2 => ?_) (fun h2 => ?_)
      · rw [if_pos (.inr (by omega))]
        refine sh ?_
        exact rT
      · rw [if_neg (by omega)]
        refine sh ?_
        refine cS (fun h3 => ?_) (fun h3 => ?_)
        · rw [if_pos (.inl (by omega))]
          refine sh ?_
          exact rT
        · refine sh ?_
          refine cS (fun h4 => ?_) (fun h4 => ?_)
          · rw [if_pos (.inr (.inl (by omega)))]
            refine sh ?_
            exact rT
          · refine sh ?_
            refine cS (fun h5 => ?_) (fun h5 => ?_)
            · rw [if_pos (.inr (.inr (by omega)))]
              refine sh ?_
              exact rT
            · rw [if_neg (by omega)]
              refine sh ?_
              refine ICall.pure h.n209.o209.hb (cont209_c h.n209 206 h.n206.o206.hb m.v off3 (fun x _ => off_c h.n206 x) (by omega)) rfl ?_
              refine sh ?_
              refine cS (fun h6 => ?_) (fun h6 => ?_)
              · rw [if_pos h6]
                refine sh ?_
                exact rT
              · rw [if_neg (by rw [h6]; decide)]
                refine sh ?_
                refine ICall.pure h.n210.o210.hb (cont210_c h.n210 207 h.n207.o207.hb m.uv bad2 (fun x _ => pair_c h.n207 x) (by omega)) rfl ?_
                refine sh ?_
                refine cS (fun h7 => ?_) (fun h7 => ?_)
                · rw [if_pos (.inl h7)]
                  refine sh ?_
                  exact rT
                · refine sh ?_
                  refine cM false [0] (cont211_c h.n211 208 m.t (badT m.v.length) m (fun x _ => tri_c h.n208 m x) (by omega)) ?_
                  repeat ((intro _u; clear _u); first | refine eK ?_ | refine eP ?_)
                  refine sh ?_
                  refine cS (fun h8 => ?_) (fun h8 => ?_)
                  · rw [if_pos (.inr h8)]
                    refine sh ?_
                    exact rT
                  · rw [if_neg (by rw [h7, h8]; decide)]
                    refine sh ?_
                    exact rT
end Go.UM

namespace Go.UM
open Go.AM
set_option maxRecDepth 4000
theorem clone8_c {R : Env} (h : N62 R) (l : List UInt8) (hl : l.length ≤ 1073741824) :
    R.Mc 62 [.isl 1 (slc8 l)] [] (.osl 0 l.length) [(0, .arr (R.ty 4) 1 (slc8 l))] 1 :=
  h.o62.enterM 60 0 rfl rfl rfl fun X b hfit hp => by
    refine sh ?_
    refine ANil.mk (fun hn => ?_) ?_
    · have : l = [] := by simpa [slc8] using hn
      subst this
      refine sh ?_
      exact rM [50]
    · refine sh ?_
      exact rM [0]
def enc (w : Nat) (x : Int) : List UInt8 := (List.range w).map fun i => u8 (x / 256 ^ i)
def puts (b : List UInt8) (w : Int) (n : List Int) : List UInt8 × Int :=
  if w < 1 ∨ 8 < w then ([], 2) else if n.any (fun x => decide (256 ^ w.toNat ≤ x)) = true then ([], 3) else (b ++ n.flatMap (enc w.toNat), 0)
theorem flatMap_len (w : Nat) : ∀ l : List Int, (l.flatMap (enc w)).length = w * l.length
  | [] => by simp
  | x :: r => by simp [flatMap_len w r, enc, Nat.mul_add]; omega
theorem put_room {b : List UInt8} {n : List Int} {w : Int} {k : Nat} {i : Nat} {x : Int} (hl : b.length + 8 * n.length ≤ 1073741824) (hw : w ≤ 8) (hw1 : 1 ≤ w) (hk : (k : Int) < n.length) (hi : (i : Int) < w) : (b ++ (n.take k).flatMap (enc w.toNat) ++ enc i x).length + 1 ≤ 1073741824 := by
  have h1 : w.toNat * (n.take k).length ≤ 8 * k := Nat.mul_le_mul (by omega) (by simp; omega)
  simp only [List.length_append, flatMap_len]
  have : (enc i x).length = i := by simp [enc]
  omega
theorem enc_succ (i : Nat) (x : Int) : enc (i + 1) x = enc i x ++ [u8 (x / 256 ^ i)] := by simp [enc, List.range_succ]
@[simp] theorem enc_zero (x : Int) : enc 0 x = [] := rfl
@[simp] theorem enc_length (w : Nat) (x : Int) : (enc w x).length = w := by simp [enc]
theorem shr_enc {x : Int} {i : Nat} (hx : 0 ≤ x) (hi : i < 8) : shrI .u64 x (8 * (i : Int)) = x / 256 ^ i := by
  rw [shr_eq hx]
  have h : (8 * (i : Int)).toNat = 8 * i := by omega
  rw [h, show min (8 * i) (IntKind.bits .u64) = 8 * i by simp [IntKind.bits]; omega, Int.pow_mul]
  rfl
theorem shr_big {x w : Int} (hx : 0 ≤ x) (h1 : 1 ≤ w) (h8 : w < 8) : 0 < shrI .u64 x (8 * w) ↔ 256 ^ w.toNat ≤ x := by
  obtain ⟨i, rfl⟩ : ∃ i : Nat, w = i := ⟨w.toNat, by omega⟩
  rw [shr_enc hx (by omega), Int.toNat_natCast]
  have hp : (0 : Int) < 256 ^ i := Int.pow_pos (by decide)
  constructor
  · intro h
    have := (Int.le_ediv_iff_mul_le hp).1 (show 1 ≤ x / 256 ^ i from h)
    rwa [Int.one_mul] at this
  · intro h
    show 1 ≤ x / 256 ^ i
    exact (Int.le_ediv_iff_mul_le hp).2 (by rw [Int.one_mul]; exact h)
theorem any_take_succ {n : List Int} {k : Nat} {x : Int} {p : Int → Bool} (h : n[k]? = some x) : (n.take (k + 1)).any p = ((n.take k).any p || p x) := by
  rw [take_succ_get h]; simp
theorem puts_bad {b : List UInt8} {w : Int} {n : List Int} {x : Int} (h1 : 1 ≤ w) (h2 : w ≤ 8) (hx : x ∈ n) (h : 256 ^ w.toNat ≤ x) : puts b w n = ([], 3) := by
  unfold puts
  rw [if_neg (by omega), if_pos]
  simp only [List.any_eq_true, decide_eq_true_eq]
  exact ⟨x, hx, h⟩
theorem puts_ok {b : List UInt8} {w : Int} {n : List Int} (h1 : 1 ≤ w) (h2 : w ≤ 8) (h : n.any (fun x => decide (256 ^ w.toNat ≤ x)) = false) : puts b w n = (b ++ n.flatMap (enc w.toNat), 0) := by
  unfold puts
  rw [if_neg (by omega), if_neg (by rw [h]; decide)]
theorem put_c {R : Env} (h : N54 R) (b : List UInt8) (w : Int) (n : List Int) (hl : b.length + 8 * n.length ≤ 1073741824) (hn : ∀ x ∈ n, 0 ≤ x ∧ x ≤ 18446744073709551615) :
    R.Mc 54 [.isl 1 (slc8 b), .int .i64 w, .isl 1 (slcK .u64 n)] [] (.tup [.osl 0 (puts b w n).1.length, .int .i64 (puts b w n).2]) [(0, .arr (R.ty 4) 1 (slc8 (puts b w n).1))] 1 :=
  h.o54.enterM 100 0 rfl rfl rfl fun X bb hfit hp => by
    generalize hq : puts b w n = q
    refine sh ?_
    refine cS (fun h1 => ?_) (fun h1 => ?_)
    · rw [puts, if_pos (.inl h1)] at hq
      subst hq
      refine sh ?_
      exact rM [50]
    · refine sh ?_
      refine cS (fun h2 => ?_) (fun h2 => ?_)
      · rw [puts, if_pos (.inr h2)] at hq
        subst hq
        refine sh ?_
        exact rM [50]
      · refine sh ?_
        refine cM false [] (clone8_c h.n62 b (by omega)) ?_
        repeat ((intro _u; clear _u); first | refine eK ?_ | refine eP ?_)
        refine sh ?_
        refine lPa 100 (fun k : Nat => k ≤ n.length ∧ (n.take k).any (fun x => decide (256 ^ w.toNat ≤ x)) = false) (fun k => ⟨[(1, .int .i64 w), (8, .osl 0 (b ++ (n.take k).flatMap (enc w.toNat)).length), (20, .isl 1 (slcK .u64 n)), (21, .int .i64 n.length), (22, .int .i64 k)], [(0, .arr (R.ty 4) 1 (slc8 (b ++ (n.take k).flatMap (enc w.toNat))))], 1⟩) (fun k => n.length - k) (0) ?_ ?_
        · exact ⟨Nat.zero_le _, by simp⟩
        · intro k hk
          dsimp only
          refine sh ?_
          refine cS (fun h3 => ?_) (fun h3 => ?_)
          · obtain ⟨x, hx⟩ : ∃ u_, n[k]? = some u_ := ⟨_, List.getElem?_eq_getElem (by first | omega | (simp <;> omega))⟩
            refine sh ?_
            refine eget_map hx ?_
            have hxk := hx
            have hx := hn x (List.mem_of_getElem? hxk)
            refine sh ?_
            refine cS (fun h4 => ?_) (fun h4 => ?_)
            · refine sh ?_
              refine cS (fun h5 => ?_) (fun h5 => ?_)
              · rw [puts_bad (by omega) (by omega) (List.mem_of_getElem? hxk) ((shr_big hx.1 (by omega) h4).1 h5)] at hq
                subst hq
                refine sh ?_
                exact rM [50]
              · have hnb : ¬ 256 ^ w.toNat ≤ x := fun hb => absurd ((shr_big hx.1 (by omega) h4).2 hb) (by omega)
                refine sh ?_
                refine lPa 100 (fun i : Nat => (i : Int) ≤ w) (fun i => ⟨[(1, .int .i64 w), (8, .osl 0 (b ++ (n.take k).flatMap (enc w.toNat) ++ enc i x).length), (10, .int .u64 x), (20, .isl 1 (slcK .u64 n)), (21, .int .i64 n.length), (22, .int .i64 k), (35, .int .i64 w), (36, .int .i64 i)], [(0, .arr (R.ty 4) 1 (slc8 (b ++ (n.take k).flatMap (enc w.toNat) ++ enc i x)))], 1⟩) (fun i => w.toNat - i) (0) ?_ ?_
                · show (0 : Int) ≤ w
                  omega
                · intro i hi
                  dsimp only
                  refine sh ?_
                  refine cS (fun h6 => ?_) (fun h6 => ?_)
                  · refine sh ?_
                    rw [shr_enc hx.1 (by omega)]
                    refine iwr_any ?_
                    refine sh ?_
                    refine ⟨by rw [slc8_length]; exact put_room hl h2 h1 h3 h6, ?_⟩
                    refine sh ?_
                    refine nX (i + 1) ?_ ?_ ⟨_, hp, rfl⟩ ?_ ?_
                    · omega
                    · omega
                    · all_goals repeat' (first | exact True.intro | refine And.intro ?_ ?_ | (intro _u; clear _u) | (with_reducible first | refine eM ?_ ?_ | refine eF ?_ ?_ ?_ | refine eN ?_ | refine eL ?_ ?_ ?_ | refine eA ?_ ?_ | refine IWk.mk ⟨_, hp, rfl⟩ ?_ ?_) | refine IWk.mk ⟨_, hp, rfl⟩ ?_ ?_)
                      all_goals first | with_reducible rfl | omega | exact Or.inl (by decide) | (simp; done) | rfl | skip
                    · all_goals repeat' (first | exact True.intro | refine And.intro ?_ ?_ | (intro _u; clear _u) | (with_reducible first | refine eM ?_ ?_ | refine eF ?_ ?_ ?_ | refine eN ?_ | refine eL ?_ ?_ ?_ | refine eA ?_ ?_ | refine IWk.mk ⟨_, hp, rfl⟩ ?_ ?_) | refine IWk.mk ⟨_, hp, rfl⟩ ?_ ?_)
                      all_goals first | with_reducible rfl | omega | exact Or.inl (by decide) | (simp; done) | rfl | skip
                      simp [enc_succ]
                  · refine sh ?_
                    refine nX (k + 1) ?_ ?_ ⟨_, hp, rfl⟩ ?_ ?_
                    · refine ⟨by omega, ?_⟩
                      rw [any_take_succ hxk, hk.2, decide_eq_false hnb]; rfl
                    · omega
                    · all_goals repeat' (first | exact True.intro | refine And.intro ?_ ?_ | (intro _u; clear _u) | (with_reducible first | refine eM ?_ ?_ | refine eF ?_ ?_ ?_ | refine eN ?_ | refine eL ?_ ?_ ?_ | refine eA ?_ ?_ | refine IWk.mk ⟨_, hp, rfl⟩ ?_ ?_) | refine IWk.mk ⟨_, hp, rfl⟩ ?_ ?_)
                      all_goals first | with_reducible rfl | omega | exact Or.inl (by decide) | (simp; done) | rfl | skip
                      rw [take_succ_get hxk, show i = w.toNat by omega]; simp
                    · all_goals repeat' (first | exact True.intro | refine And.intro ?_ ?_ | (intro _u; clear _u) | (with_reducible first | refine eM ?_ ?_ | refine eF ?_ ?_ ?_ | refine eN ?_ | refine eL ?_ ?_ ?_ | refine eA ?_ ?_ | refine IWk.mk ⟨_, hp, rfl⟩ ?_ ?_) | refine IWk.mk ⟨_, hp, rfl⟩ ?_ ?_)
                      all_goals first | with_reducible rfl | omega | exact Or.inl (by decide) | (simp; done) | rfl | skip
                      rw [take_succ_get hxk, show i = w.toNat by omega]; simp
            · have hnb : ¬ 256 ^ w.toNat ≤ x := by rw [show w.toNat = 8 by omega]; omega
              refine sh ?_
              refine lPa 100 (fun i : Nat => (i : Int) ≤ w) (fun i => ⟨[(1, .int .i64 w), (8, .osl 0 (b ++ (n.take k).flatMap (enc w.toNat) ++ enc i x).length), (10, .int .u64 x), (20, .isl 1 (slcK .u64 n)), (21, .int .i64 n.length), (22, .int .i64 k), (35, .int .i64 w), (36, .int .i64 i)], [(0, .arr (R.ty 4) 1 (slc8 (b ++ (n.take k).flatMap (enc w.toNat) ++ enc i x)))], 1⟩) (fun i => w.toNat - i) (0) ?_ ?_
              · show (0 : Int) ≤ w
                omega
              · intro i hi
                dsimp only
                refine sh ?_
                refine cS (fun h6 => ?_) (fun h6 => ?_)
                · refine sh ?_
                  rw [shr_enc hx.1 (by omega)]
                  refine iwr_any ?_
                  refine sh ?_
                  refine ⟨by rw [slc8_length]; exact put_room hl h2 h1 h3 h6, ?_⟩
                  refine sh ?_
                  refine nX (i + 1) ?_ ?_ ⟨_, hp, rfl⟩ ?_ ?_
                  · omega
                  · omega
                  · all_goals repeat' (first | exact True.intro | refine And.intro ?_ ?_ | (intro _u; clear _u) | (with_reducible first | refine eM ?_ ?_ | refine eF ?_ ?_ ?_ | refine eN ?_ | refine eL ?_ ?_ ?_ | refine eA ?_ ?_ | refine IWk.mk ⟨_, hp, rfl⟩ ?_ ?_) | refine IWk.mk ⟨_, hp, rfl⟩ ?_ ?_)
                    all_goals first | with_reducible rfl | omega | exact Or.inl (by decide) | (simp; done) | rfl | skip
                  · all_goals repeat' (first | exact True.intro | refine And.intro ?_ ?_ | (intro _u; clear _u) | (with_reducible first | refine eM ?_ ?_ | refine eF ?_ ?_ ?_ | refine eN ?_ | refine eL ?_ ?_ ?_ | refine eA ?_ ?_ | refine IWk.mk ⟨_, hp, rfl⟩ ?_ ?_) | refine IWk.mk ⟨_, hp, rfl⟩ ?_ ?_)
                    all_goals first | with_reducible rfl | omega | exact Or.inl (by decide) | (simp; done) | rfl | skip
                    simp [enc_succ]
                · refine sh ?_
                  refine nX (k + 1) ?_ ?_ ⟨_, hp, rfl⟩ ?_ ?_
                  · refine ⟨by omega, ?_⟩
                    rw [any_take_succ hxk, hk.2, decide_eq_false hnb]; rfl
                  · omega
                  · all_goals repeat' (first | exact True.intro | refine And.intro ?_ ?_ | (intro _u; clear _u) | (with_reducible first | refine eM ?_ ?_ | refine eF ?_ ?_ ?_ | refine eN ?_ | refine eL ?_ ?_ ?_ | refine eA ?_ ?_ | refine IWk.mk ⟨_, hp, rfl⟩ ?_ ?_) | refine IWk.mk ⟨_, hp, rfl⟩ ?_ ?_)
                    all_goals first | with_reducible rfl | omega | exact Or.inl (by decide) | (simp; done) | rfl | skip
                    rw [take_succ_get hxk, show i = w.toNat by omega]; simp
                  · all_goals repeat' (first | exact True.intro | refine And.intro ?_ ?_ | (intro _u; clear _u) | (with_reducible first | refine eM ?_ ?_ | refine eF ?_ ?_ ?_ | refine eN ?_ | refine eL ?_ ?_ ?_ | refine eA ?_ ?_ | refine IWk.mk ⟨_, hp, rfl⟩ ?_ ?_) | refine IWk.mk ⟨_, hp, rfl⟩ ?_ ?_)
                    all_goals first | with_reducible rfl | omega | exact Or.inl (by decide) | (simp; done) | rfl | skip
                    rw [take_succ_get hxk, show i = w.toNat by omega]; simp
          · have hkn : n.take k = n := List.take_of_length_le (by omega)
            rw [hkn] at hk ⊢
            rw [puts_ok (by omega) (by omega) hk.2] at hq
            subst hq
            refine sh ?_
            exact rM [0]
end Go.UM

namespace Go.UM
open Go.AM
set_option maxRecDepth 4000
def signs (b : List UInt8) (w : Int) (n : List Int) : List UInt8 × Int :=
  if w < 1 ∨ 8 < w then ([], 2) else if n.any (fun x => decide (x < -(256 ^ w.toNat / 2)) || decide (256 ^ w.toNat / 2 ≤ x)) = true then ([], 3) else puts b w (n.map fun x => x % 256 ^ w.toNat)
theorem signs_bad {b : List UInt8} {w : Int} {n : List Int} {x : Int} (h1 : 1 ≤ w) (h2 : w ≤ 8) (hx : x ∈ n) (h : x < -(256 ^ w.toNat / 2) ∨ 256 ^ w.toNat / 2 ≤ x) : signs b w n = ([], 3) := by
  unfold signs
  rw [if_neg (by omega), if_pos]
  simp only [List.any_eq_true, Bool.or_eq_true, decide_eq_true_eq]
  exact ⟨x, hx, h⟩
theorem signs_ok {b : List UInt8} {w : Int} {n : List Int} (h1 : 1 ≤ w) (h2 : w ≤ 8) (h : n.any (fun x => decide (x < -(256 ^ w.toNat / 2)) || decide (256 ^ w.toNat / 2 ≤ x)) = false) : signs b w n = puts b w (n.map fun x => x % 256 ^ w.toNat) := by
  unfold signs
  rw [if_neg (by omega), if_neg (by rw [h]; decide)]
theorem sx_back {w x : Int} (h1 : 1 ≤ w) (h2 : w ≤ 8) (hx : inI .i64 x) : (shrI .i64 (shlI .i64 x (64 - 8 * w)) (64 - 8 * w) = x) ↔ ¬ (x < -(256 ^ w.toNat / 2) ∨ 256 ^ w.toNat / 2 ≤ x) := by
  simp only [inI] at hx
  obtain h | h | h | h | h | h | h | h : w = 1 ∨ w = 2 ∨ w = 3 ∨ w = 4 ∨ w = 5 ∨ w = 6 ∨ w = 7 ∨ w = 8 := by omega
  all_goals subst h
  all_goals (simp only [shrI, shlI, IntKind.wrap, IntKind.bits, IntKind.signed]; simp [Int.fdiv_eq_ediv]; omega)
theorem ux_bits {w x : Int} (h1 : 1 ≤ w) (h2 : w ≤ 8) (hx : inI .i64 x) : shrI .u64 (shlI .u64 (wr .u64 x) (64 - 8 * w)) (64 - 8 * w) = x % 256 ^ w.toNat := by
  simp only [inI] at hx
  obtain h | h | h | h | h | h | h | h : w = 1 ∨ w = 2 ∨ w = 3 ∨ w = 4 ∨ w = 5 ∨ w = 6 ∨ w = 7 ∨ w = 8 := by omega
  all_goals subst h
  all_goals (simp only [wr, shrI, shlI, IntKind.wrap, IntKind.bits, IntKind.signed]; simp [Int.fdiv_eq_ediv] <;> omega)
theorem puts_mod {b : List UInt8} {w : Int} {n : List Int} (h1 : 1 ≤ w) (h2 : w ≤ 8) : ∀ x ∈ n.map (fun x => x % 256 ^ w.toNat), 0 ≤ x ∧ x ≤ 18446744073709551615 := by
  intro x hx
  obtain ⟨y, _, rfl⟩ := List.mem_map.1 hx
  obtain h | h | h | h | h | h | h | h : w = 1 ∨ w = 2 ∨ w = 3 ∨ w = 4 ∨ w = 5 ∨ w = 6 ∨ w = 7 ∨ w = 8 := by omega
  all_goals (subst h; simp <;> omega)
theorem signed_c {R : Env} (h : N71 R) (b : List UInt8) (w : Int) (n : List Int) (hl : b.length + 8 * n.length ≤ 1073741824) (hn : ∀ x ∈ n, inI .i64 x) :
    R.Mc 71 [.isl 1 (slc8 b), .int .i64 w, .isl 1 (slcK .i64 n)] [] (.tup [.osl 0 (signs b w n).1.length, .int .i64 (signs b w n).2]) [(0, .arr (R.ty 4) 1 (slc8 (signs b w n).1))] 1 :=
  h.o71.enterM 100 0 rfl rfl rfl fun X bb hfit hp => by
    generalize hq : signs b w n = q
    refine sh ?_
    refine cS (fun h1 => ?_) (fun h1 => ?_)
    · rw [signs, if_pos (.inl h1)] at hq
      subst hq
      refine sh ?_
      exact rM [50]
    · refine sh ?_
      refine cS (fun h2 => ?_) (fun h2 => ?_)
      · rw [signs, if_pos (.inr h2)] at hq
        subst hq
        refine sh ?_
        exact rM [50]
      · refine sh ?_
        refine lPa 100 (fun k : Nat => k ≤ n.length ∧ (n.take k).any (fun x => decide (x < -(256 ^ w.toNat / 2)) || decide (256 ^ w.toNat / 2 ≤ x)) = false) (fun k => ⟨[(0, .isl 1 (slc8 b)), (1, .int .i64 w), (8, .osl 0 ((n.take k).map fun x => x % 256 ^ w.toNat).length), (18, .isl 1 (slcK .i64 n)), (19, .int .i64 n.length), (20, .int .i64 k)], [(0, .arr (R.ty 6) 1 (slcK .u64 ((n.take k).map fun x => x % 256 ^ w.toNat)))], 1⟩) (fun k => n.length - k) (0) ?_ ?_
        · exact ⟨Nat.zero_le _, by simp⟩
        · intro k hk
          dsimp only
          refine sh ?_
          refine cS (fun h3 => ?_) (fun h3 => ?_)
          · obtain ⟨x, hx⟩ : ∃ u_, n[k]? = some u_ := ⟨_, List.getElem?_eq_getElem (by first | omega | (simp <;> omega))⟩
            refine sh ?_
            refine eget_map hx ?_
            have hxk := hx
            have hx := hn x (List.mem_of_getElem? hxk)
            have hsx := sx_back (by omega) h2 hx
            refine sh ?_
            refine cS (fun h4 => ?_) (fun h4 => ?_)
            · rw [signs_bad (by omega) (by omega) (List.mem_of_getElem? hxk) (Decidable.not_not.1 fun hb => h4 (hsx.2 hb))] at hq
              subst hq
              refine sh ?_
              exact rM [50]
            · refine sh ?_
              refine iwr_any ?_
              refine sh ?_
              rw [ux_bits (by omega) h2 hx]
              refine nX (k + 1) ?_ ?_ ⟨_, hp, rfl⟩ ?_ ?_
              · refine ⟨by omega, ?_⟩
                rw [any_take_succ hxk, hk.2]
                have := hsx.1 h4
                simp only [Bool.false_or, Bool.or_eq_false_iff, decide_eq_false_iff_not]
                omega
              · omega
              · all_goals repeat' (first | exact True.intro | refine And.intro ?_ ?_ | (intro _u; clear _u) | (with_reducible first | refine eM ?_ ?_ | refine eF ?_ ?_ ?_ | refine eN ?_ | refine eL ?_ ?_ ?_ | refine eA ?_ ?_ | refine IWk.mk ⟨_, hp, rfl⟩ ?_ ?_) | refine IWk.mk ⟨_, hp, rfl⟩ ?_ ?_)
                all_goals first | with_reducible rfl | omega | exact Or.inl (by decide) | (simp; done) | rfl | skip
                rw [take_succ_get hxk]; simp
              · all_goals repeat' (first | exact True.intro | refine And.intro ?_ ?_ | (intro _u; clear _u) | (with_reducible first | refine eM ?_ ?_ | refine eF ?_ ?_ ?_ | refine eN ?_ | refine eL ?_ ?_ ?_ | refine eA ?_ ?_ | refine IWk.mk ⟨_, hp, rfl⟩ ?_ ?_) | refine IWk.mk ⟨_, hp, rfl⟩ ?_ ?_)
                all_goals first | with_reducible rfl | omega | exact Or.inl (by decide) | (simp; done) | rfl | skip
                rw [take_succ_get hxk]; simp [slcK]
          · have hkn : n.take k = n := List.take_of_length_le (by omega)
            rw [hkn] at hk ⊢
            rw [signs_ok (by omega) (by omega) hk.2] at hq
            subst hq
            refine sh ?_
            refine cM true [] (put_c h.n54 b w (n.map fun x => x % 256 ^ w.toNat) (by simpa using hl) (puts_mod (b := b) (by omega) h2)) ?_
            repeat ((intro _u; clear _u); first | refine eK ?_ | refine eP ?_)
            refine sh ?_
            exact rM [1]
structure Rd where
  l : List UInt8
  e : Int
  made : Bool
def Rd.row (r : Rd) : List AV := [.isl 1 (slc8 r.l), .int .i64 r.e, .bool r.made]
def Rd.off (r : Rd) : Bool := !r.made || decide (r.e ≠ 0)
def Rd.take (r : Rd) (n : Int) : List UInt8 × Rd :=
  if r.made = false ∨ r.e ≠ 0 then ([], r) else if n < 0 then ([], { r with e := 2 }) else if (r.l.length : Int) < n then ([], { r with e := 4 }) else (r.l.take n.toNat, { r with l := r.l.drop n.toNat })
def Rd.num (r : Rd) (w : Int) : Nat × Rd := let t := r.take (if w < 1 ∨ 8 < w then -1 else w); (le t.1, t.2)
def sx (w : Int) (n : Nat) : Int := if 2 * n < 256 ^ w.toNat then n else n - 256 ^ w.toNat
def Rd.int (r : Rd) (w : Int) : Int × Rd := (if w < 1 ∨ 8 < w then 0 else sx w (r.num w).1, (r.num w).2)
def Rd.err (r : Rd) : Int := if r.made = false then 1 else r.e
def Rd.fin (r : Rd) : Int := if r.err ≠ 0 then r.err else if 0 < r.l.length then 5 else 0
end Go.UM

namespace Go.UM
open Go.AM
set_option maxRecDepth 4000
structure RdOk (B : List UInt8) (r : Rd) : Prop where
  m : B.length ≤ 1073741824
  s : r.l = B.drop (B.length - r.l.length)
  made : r.made = true
theorem RdOk.len {B : List UInt8} {r : Rd} (h : RdOk B r) : r.l.length ≤ B.length := by rw [h.s]; simp
theorem RdOk.take {B : List UInt8} {r : Rd} (h : RdOk B r) (n : Int) : RdOk B (r.take n).2 := by
  unfold Rd.take
  split
  · exact h
  · split
    · exact ⟨h.m, h.s, h.made⟩
    · split
      · exact ⟨h.m, h.s, h.made⟩
      · refine ⟨h.m, ?_, h.made⟩
        have h1 := h.s
        have h2 := h.len
        simp only [List.length_drop]
        conv => lhs; rw [h1]
        rw [List.drop_drop]
        congr 1
        omega
theorem RdOk.num {B : List UInt8} {r : Rd} (h : RdOk B r) (w : Int) : RdOk B (r.num w).2 := h.take _
theorem RdOk.int {B : List UInt8} {r : Rd} (h : RdOk B r) (w : Int) : RdOk B (r.int w).2 := h.num w
theorem RdOk.err {B : List UInt8} {r : Rd} (h : RdOk B r) (e : Int) : RdOk B { r with e := e } := ⟨h.m, h.s, h.made⟩
theorem RdOk.new {B : List UInt8} (h : B.length ≤ 1073741824) : RdOk B ⟨B, 0, true⟩ := ⟨h, by simp, rfl⟩
end Go.UM

namespace Go.UM
open Go.AM
set_option maxRecDepth 4000
theorem puts_in {b : List UInt8} {w : Int} {n : List Int} (h1 : 1 ≤ w) (h2 : w ≤ 8) (h : ∀ x ∈ n, 0 ≤ x ∧ x < 256 ^ w.toNat) : puts b w n = (b ++ n.flatMap (enc w.toNat), 0) :=
  puts_ok h1 h2 (by
    rw [List.any_eq_false]
    intro x hx
    have := h x hx
    simp; omega)
structure Fits {α : Type} (f : Rd → α × Rd) (g : α → List UInt8) (ok : α → Prop) : Prop where
  made : ∀ r : Rd, r.made = true → (f r).2.made = true
  good : ∀ r : Rd, ok (f r).1
  back : ∀ r : Rd, r.made = true → (f r).2.e = 0 → r.e = 0 ∧ r.l = g (f r).1 ++ (f r).2.l
  there : ∀ (x : α) (l : List UInt8), ok x → f ⟨g x ++ l, 0, true⟩ = (x, ⟨l, 0, true⟩)
def rdN {α : Type} (f : Rd → α × Rd) : Nat → Rd → List α × Rd
  | 0, r => ([], r)
  | n + 1, r => ((rdN f n r).1 ++ [(f (rdN f n r).2).1], (f (rdN f n r).2).2)
theorem Fits.seq {α β : Type} {f : Rd → α × Rd} {g : α → List UInt8} {ok : α → Prop} {f' : Rd → β × Rd} {g' : β → List UInt8} {ok' : β → Prop} (h : Fits f g ok) (h' : Fits f' g' ok') :
    Fits (fun r => (((f r).1, (f' (f r).2).1), (f' (f r).2).2)) (fun x : α × β => g x.1 ++ g' x.2) (fun x => ok x.1 ∧ ok' x.2) := by
  refine ⟨fun r hm => h'.made _ (h.made r hm), fun r => ⟨h.good r, h'.good _⟩, fun r hm he => ?_, fun x l hx => ?_⟩
  · have h1 := h'.back _ (h.made r hm) he
    have h2 := h.back r hm h1.1
    exact ⟨h2.1, by rw [h2.2, h1.2, List.append_assoc]⟩
  · rw [List.append_assoc, h.there x.1 _ hx.1]
    rw [h'.there x.2 l hx.2]
theorem Fits.as {α β : Type} {f : Rd → α × Rd} {g : α → List UInt8} {ok : α → Prop} (h : Fits f g ok) (to : α → β) (of : β → α) (g' : β → List UInt8) (ok' : β → Prop)
    (h1 : ∀ x, ok x → g' (to x) = g x) (h2 : ∀ x, ok x → ok' (to x)) (h3 : ∀ y, ok' y → g' y = g (of y) ∧ ok (of y) ∧ to (of y) = y) : Fits (fun r => (to (f r).1, (f r).2)) g' ok' := by
  refine ⟨h.made, fun r => h2 _ (h.good r), fun r hm he => ?_, fun y l hy => ?_⟩
  · have := h.back r hm he
    exact ⟨this.1, by rw [this.2, h1 _ (h.good r)]⟩
  · have h4 := h3 y hy
    rw [h4.1, h.there _ _ h4.2.1, h4.2.2]
end Go.UM

namespace Go.UM
open Go.AM
set_option maxRecDepth 4000
structure Ms.Ok (m : Ms) : Prop where
  v : ∀ p ∈ m.v, inI .i64 p.a ∧ inI .i64 p.b ∧ inI .i64 p.c
  uv : ∀ p ∈ m.uv, inI .i64 p.1 ∧ inI .i64 p.2
  t : ∀ p ∈ m.t, inI .i64 p.a ∧ inI .i64 p.b ∧ inI .i64 p.c
structure Ms.May (m : Ms) : Prop where
  v : 1 ≤ m.v.length ∧ m.v.length ≤ 64
  t : 1 ≤ m.t.length ∧ m.t.length ≤ 64
  uv : m.uv.length = m.v.length
  pv : ∀ p ∈ m.v, -4096 ≤ p.a ∧ p.a ≤ 4096 ∧ -4096 ≤ p.b ∧ p.b ≤ 4096 ∧ -4096 ≤ p.c ∧ p.c ≤ 4096
  pu : ∀ x ∈ m.uv, 0 ≤ x.1 ∧ x.1 ≤ 65535 ∧ 0 ≤ x.2 ∧ x.2 ≤ 65535
  pt : ∀ t ∈ m.t, 0 ≤ t.a ∧ t.a < m.v.length ∧ 0 ≤ t.b ∧ t.b < m.v.length ∧ 0 ≤ t.c ∧ t.c < m.v.length ∧ t.a ≠ t.b ∧ t.b ≠ t.c ∧ t.c ≠ t.a
theorem mchk_may {m : Ms} (h : mchk m = 0) : m.May := by
  unfold mchk at h
  split at h
  · cases h
  · split at h
    · cases h
    · split at h
      · cases h
      · split at h
        · cases h
        · rename_i h1 h2 h3 h4
          simp only [not_or, Bool.not_eq_true, List.any_eq_false] at h3 h4
          refine ⟨by omega, by omega, by omega, fun p hp => ?_, fun p hp => ?_, fun p hp => ?_⟩
          · have := h3 p hp; simpa [off3] using this
          · have := h4.1 p hp; simpa [bad2] using this
          · have := h4.2 p hp; simpa [badT] using this
theorem Ms.May.chk {m : Ms} (h : m.May) : mchk m = 0 := by
  unfold mchk
  have h1 := h.v
  have h2 := h.t
  have h3 := h.uv
  rw [if_neg (by omega), if_neg (by omega), if_neg, if_neg]
  · simp only [not_or, Bool.not_eq_true, List.any_eq_false]
    exact ⟨fun p hp => by have := h.pu p hp; simpa [bad2] using this, fun p hp => by have := h.pt p hp; simpa [badT] using this⟩
  · simp only [Bool.not_eq_true, List.any_eq_false]
    exact fun p hp => by have := h.pv p hp; simpa [off3] using this
def encP (p : T3) : List UInt8 := enc 2 (p.a % 65536) ++ enc 2 (p.b % 65536) ++ enc 2 (p.c % 65536)
def enc2 (x : Int × Int) : List UInt8 := enc 2 x.1 ++ enc 2 x.2
def encT (t : T3) : List UInt8 := [u8 t.a, u8 t.b, u8 t.c]
def mbytes (m : Ms) : List UInt8 := [u8 m.v.length, u8 m.t.length] ++ m.v.flatMap encP ++ m.uv.flatMap enc2 ++ m.t.flatMap encT
def menc (m : Ms) : List UInt8 × Int := if mchk m ≠ 0 then ([], mchk m) else (mbytes m, 0)
theorem flat_succ {α : Type} {l : List α} {k : Nat} {x : α} {f : α → List UInt8} (h : l[k]? = some x) : (l.take (k + 1)).flatMap f = (l.take k).flatMap f ++ f x := by
  rw [take_succ_get h]; simp
theorem signs_pt {b : List UInt8} {p : T3} (h : -4096 ≤ p.a ∧ p.a ≤ 4096 ∧ -4096 ≤ p.b ∧ p.b ≤ 4096 ∧ -4096 ≤ p.c ∧ p.c ≤ 4096) : signs b 2 [p.a, p.b, p.c] = (b ++ encP p, 0) := by
  rw [signs_ok (by decide) (by decide), puts_ok (by decide) (by decide)]
  · simp [encP]
  · simp; omega
  · simp; omega
theorem puts_uv {b : List UInt8} {x : Int × Int} (h : 0 ≤ x.1 ∧ x.1 ≤ 65535 ∧ 0 ≤ x.2 ∧ x.2 ≤ 65535) : puts b 2 [x.1, x.2] = (b ++ enc2 x, 0) := by
  rw [puts_ok (by decide) (by decide)]
  · simp [enc2]
  · simp; omega
theorem len_P {l : List T3} : (l.flatMap encP).length = 6 * l.length := by
  induction l with
  | nil => rfl
  | cons x r ih => simp [encP] at ih ⊢; omega
theorem len_2 {l : List (Int × Int)} : (l.flatMap enc2).length = 4 * l.length := by
  induction l with
  | nil => rfl
  | cons x r ih => simp [enc2] at ih ⊢; omega
theorem len_T {l : List T3} : (l.flatMap encT).length = 3 * l.length := by
  induction l with
  | nil => rfl
  | cons x r ih => simp [encT] at ih ⊢; omega
theorem mencode_c {R : Env} (h : N196 R) (m : Ms) : R.Pc 196 [.agg m.row] (.tup [.isl 1 (slc8 (menc m).1), .int .i64 (menc m).2]) :=
  h.o196.enter 100 rfl fun X bb hfit hp => by
    refine sh ?_
    refine ICall.pure h.n193.o193.hb (mcheck_c h.n193 m) rfl ?_
    generalize hq : menc m = q
    refine sh ?_
    refine cS (fun h1 => ?_) (fun h1 => ?_)
    · rw [menc, if_pos h1] at hq
      subst hq
      refine sh ?_
      exact rT
    · rw [menc, if_neg (by simpa using h1)] at hq
      subst hq
      have may := mchk_may h1
      have mv := may.v
      have mt := may.t
      have mu := may.uv
      have w8 : ((u8 m.v.length).toNat : Int) = m.v.length := u8_in (by omega)
      have t8 : ((u8 m.t.length).toNat : Int) = m.t.length := u8_in (by omega)
      refine sh ?_
      refine ILoop.inv 100 (fun i : Nat => i ≤ m.v.length) (fun i => ⟨[(1, .loc 0 1 0 0), (5, .osl 1 ([u8 m.v.length, u8 m.t.length] ++ (m.v.take i).flatMap encP).length), (27, .isl 3 (slc3 m.v)), (28, .int .i64 m.v.length), (29, .int .i64 i)], [(1, .arr (R.ty 4) 1 (slc8 ([u8 m.v.length, u8 m.t.length] ++ (m.v.take i).flatMap encP))), (0, .var (R.ty 25) m.row)], 2⟩) (fun i => m.v.length - i) (0) ?_ ⟨⟨_, hp, rfl⟩, ?_, ?_⟩ ?_
      · exact Nat.zero_le _
      · all_goals repeat' (first | exact True.intro | refine And.intro ?_ ?_ | (intro _u; clear _u) | (with_reducible first | refine eM ?_ ?_ | refine eF ?_ ?_ ?_ | refine eN ?_ | refine eL ?_ ?_ ?_ | refine eA ?_ ?_ | refine IWk.mk ⟨_, hp, rfl⟩ ?_ ?_) | refine IWk.mk ⟨_, hp, rfl⟩ ?_ ?_)
        all_goals first | with_reducible rfl | omega | exact Or.inl (by decide) | (simp; done) | rfl | skip
      · all_goals repeat' (first | exact True.intro | refine And.intro ?_ ?_ | (intro _u; clear _u) | (with_reducible first | refine eM ?_ ?_ | refine eF ?_ ?_ ?_ | refine eN ?_ | refine eL ?_ ?_ ?_ | refine eA ?_ ?_ | refine IWk.mk ⟨_, hp, rfl⟩ ?_ ?_) | refine IWk.mk ⟨_, hp, rfl⟩ ?_ ?_)
        all_goals first | with_reducible rfl | omega | exact Or.inl (by decide) | (simp; done) | rfl | skip
        simp [slc8, w8, t8]
      · intro i hi
        dsimp only
        refine sh ?_
        refine cS (fun h2 => ?_) (fun h2 => ?_)
        · obtain ⟨y, hy⟩ : ∃ u_, m.v[i]? = some u_ := ⟨_, List.getElem?_eq_getElem (by first | omega | (simp <;> omega))⟩
          refine sh ?_
          refine eget_map hy ?_
          have hyy := may.pv y (List.mem_of_getElem? hy)
          have c1 := signed_c h.n71 ([u8 m.v.length, u8 m.t.length] ++ (m.v.take i).flatMap encP) 2 [y.a, y.b, y.c] (by simp only [List.length_append, len_P, List.length_take, List.length_cons, List.length_nil]; omega) (by simp [inI]; omega)
          rw [signs_pt hyy] at c1
          refine sh ?_
          refine cM true [] (c1) ?_
          repeat ((intro _u; clear _u); first | refine eK ?_ | refine eP ?_)
          refine sh ?_
          refine nRm [0, 4] (i + 1) ?_ ?_ ?_
          · omega
          · omega
          · all_goals repeat' (first | exact True.intro | refine And.intro ?_ ?_ | (intro _u; clear _u) | (with_reducible first | refine eM ?_ ?_ | refine eF ?_ ?_ ?_ | refine eN ?_ | refine eL ?_ ?_ ?_ | refine eA ?_ ?_ | refine IWk.mk ⟨_, hp, rfl⟩ ?_ ?_) | refine IWk.mk ⟨_, hp, rfl⟩ ?_ ?_)
            all_goals first | with_reducible rfl | omega | exact Or.inl (by decide) | (simp; done) | rfl | skip
            rw [flat_succ hy]; simp
            rw [flat_succ hy]; simp
        · rw [show m.v.take i = m.v from List.take_of_length_le (by omega)]
          have hB : ([u8 m.v.length, u8 m.t.length] ++ m.v.flatMap encP).length ≤ 400 := by
            simp only [List.length_append, len_P, List.length_cons, List.length_nil]; omega
          have e : mbytes m = [u8 m.v.length, u8 m.t.length] ++ m.v.flatMap encP ++ m.uv.flatMap enc2 ++ m.t.flatMap encT := rfl
          rw [e]
          generalize [u8 m.v.length, u8 m.t.length] ++ m.v.flatMap encP = B at hB ⊢
          refine sh ?_
          refine lPa 100 (fun i : Nat => i ≤ m.uv.length) (fun i => ⟨[(1, .loc 0 1 0 0), (5, .osl 1 (B ++ (m.uv.take i).flatMap enc2).length), (47, .isl 2 (slc2 m.uv)), (48, .int .i64 m.uv.length), (49, .int .i64 i)], [(1, .arr (R.ty 4) 1 (slc8 (B ++ (m.uv.take i).flatMap enc2))), (0, .var (R.ty 25) m.row)], 2⟩) (fun i => m.uv.length - i) (0) ?_ ?_
          · exact Nat.zero_le _
          · intro i hi
            dsimp only
            refine sh ?_
            refine cS (fun h3 => ?_) (fun h3 => ?_)
            · obtain ⟨x, hx⟩ : ∃ u_, m.uv[i]? = some u_ := ⟨_, List.getElem?_eq_getElem (by first | omega | (simp <;> omega))⟩
              refine sh ?_
              refine eget_map hx ?_
              have hxx := may.pu x (List.mem_of_getElem? hx)
              have c1 := put_c h.n54 (B ++ (m.uv.take i).flatMap enc2) 2 [x.1, x.2] (by simp only [List.length_append, len_2, List.length_take, List.length_cons, List.length_nil]; omega) (by simp; omega)
              rw [puts_uv hxx] at c1
              refine sh ?_
              refine cM true [] (c1) ?_
              repeat ((intro _u; clear _u); first | refine eK ?_ | refine eP ?_)
              refine sh ?_
              refine nRm [0, 4] (i + 1) ?_ ?_ ?_
              · omega
              · omega
              · all_goals repeat' (first | exact True.intro | refine And.intro ?_ ?_ | (intro _u; clear _u) | (with_reducible first | refine eM ?_ ?_ | refine eF ?_ ?_ ?_ | refine eN ?_ | refine eL ?_ ?_ ?_ | refine eA ?_ ?_ | refine IWk.mk ⟨_, hp, rfl⟩ ?_ ?_) | refine IWk.mk ⟨_, hp, rfl⟩ ?_ ?_)
                all_goals first | with_reducible rfl | omega | exact Or.inl (by decide) | (simp; done) | rfl | skip
                rw [flat_succ hx]; simp
                rw [flat_succ hx]; simp
            · rw [show m.uv.take i = m.uv from List.take_of_length_le (by omega)]
              have hB2 : (B ++ m.uv.flatMap enc2).length ≤ 800 := by
                simp only [List.length_append, len_2]; omega
              generalize B ++ m.uv.flatMap enc2 = C at hB2 ⊢
              refine sh ?_
              refine lPa 100 (fun i : Nat => i ≤ m.t.length) (fun i => ⟨[(5, .osl 1 (C ++ (m.t.take i).flatMap encT).length), (67, .isl 3 (slc3 m.t)), (68, .int .i64 m.t.length), (69, .int .i64 i)], [(1, .arr (R.ty 4) 1 (slc8 (C ++ (m.t.take i).flatMap encT)))], 2⟩) (fun i => m.t.length - i) (0) ?_ ?_
              · exact Nat.zero_le _
              · intro i hi
                dsimp only
                refine sh ?_
                refine cS (fun h4 => ?_) (fun h4 => ?_)
                · obtain ⟨y, hy⟩ : ∃ u_, m.t[i]? = some u_ := ⟨_, List.getElem?_eq_getElem (by first | omega | (simp <;> omega))⟩
                  refine sh ?_
                  refine eget_map hy ?_
                  have hyy := may.pt y (List.mem_of_getElem? hy)
                  refine sh ?_
                  refine nD ?_ (by simp only [slc8_length, List.length_append, len_T, List.length_take]; simp; omega)
                  refine sh ?_
                  refine nX (i + 1) ?_ ?_ ⟨_, hp, rfl⟩ ?_ ?_
                  · omega
                  · omega
                  · all_goals repeat' (first | exact True.intro | refine And.intro ?_ ?_ | (intro _u; clear _u) | (with_reducible first | refine eM ?_ ?_ | refine eF ?_ ?_ ?_ | refine eN ?_ | refine eL ?_ ?_ ?_ | refine eA ?_ ?_ | refine IWk.mk ⟨_, hp, rfl⟩ ?_ ?_) | refine IWk.mk ⟨_, hp, rfl⟩ ?_ ?_)
                    all_goals first | with_reducible rfl | omega | exact Or.inl (by decide) | (simp; done) | rfl | skip
                    rw [flat_succ hy]; simp [encT]
                  · all_goals repeat' (first | exact True.intro | refine And.intro ?_ ?_ | (intro _u; clear _u) | (with_reducible first | refine eM ?_ ?_ | refine eF ?_ ?_ ?_ | refine eN ?_ | refine eL ?_ ?_ ?_ | refine eA ?_ ?_ | refine IWk.mk ⟨_, hp, rfl⟩ ?_ ?_) | refine IWk.mk ⟨_, hp, rfl⟩ ?_ ?_)
                    all_goals first | with_reducible rfl | omega | exact Or.inl (by decide) | (simp; done) | rfl | skip
                    rw [flat_succ hy]; simp [encT, slc8]
                    refine ⟨(u8_in ?_).symm, (u8_in ?_).symm, (u8_in ?_).symm⟩ <;> omega
                · rw [show m.t.take i = m.t from List.take_of_length_le (by omega)]
                  refine sh ?_
                  exact rT
end Go.UM

namespace Go.UM
open Go.AM
set_option maxRecDepth 4000
end Go.UM

namespace Go.UM
open Go.AM
set_option maxRecDepth 4000
structure Mat where
  k : Int
  c : T3
  r : Int
def Mat.row (m : Mat) : List AV := [.int .i64 m.k, .int .i64 m.c.a, .int .i64 m.c.b, .int .i64 m.c.c, .int .i64 m.r]
structure Lig where
  k : Int
  c : T3
  p : T3
  u : T3
  v : T3
def Lig.row (l : Lig) : List AV := [.int .i64 l.k, .int .i64 l.c.a, .int .i64 l.c.b, .int .i64 l.c.c, .int .i64 l.p.a, .int .i64 l.p.b, .int .i64 l.p.c, .int .i64 l.u.a, .int .i64 l.u.b, .int .i64 l.u.c, .int .i64 l.v.a, .int .i64 l.v.b, .int .i64 l.v.c]
def outs (n x : Int) : Bool := decide (x < 0 ∨ n < x)
def matk (m : Mat) : Int := if m.k < 0 ∨ 4 < m.k ∨ m.r < 0 ∨ 65535 < m.r ∨ m.c.a < 0 ∨ 65535 < m.c.a ∨ m.c.b < 0 ∨ 65535 < m.c.b ∨ m.c.c < 0 ∨ 65535 < m.c.c then 5 else 0
def topM (R : Env) (n : Int) : IMem := [(0, .var (R.ty 10) [.int .i64 n])]
theorem outs_c {R : Env} (h : N322 R) (n x : Int) : R.Mc 322 [.int .i64 x, .loc 0 1 0 0] (topM R n) (.bool (outs n x)) (topM R n) 1 :=
  h.o322.enterM 60 1 rfl rfl rfl fun X bb hfit hp => by
    unfold outs
    refine sh ?_
    refine cS (fun h1 => ?_) (fun h1 => ?_)
    · refine sh ?_
      refine rM [0] ?_
      all_goals repeat' (first | exact True.intro | refine And.intro ?_ ?_ | (intro _u; clear _u) | (with_reducible first | refine eM ?_ ?_ | refine eF ?_ ?_ ?_ | refine eN ?_ | refine eL ?_ ?_ ?_ | refine eA ?_ ?_ | refine IWk.mk ⟨_, hp, rfl⟩ ?_ ?_) | refine IWk.mk ⟨_, hp, rfl⟩ ?_ ?_)
      all_goals first | with_reducible rfl | omega | exact Or.inl (by decide) | (simp; done) | rfl | skip
      simp; omega
    · refine sh ?_
      refine rM [0] ?_
      all_goals repeat' (first | exact True.intro | refine And.intro ?_ ?_ | (intro _u; clear _u) | (with_reducible first | refine eM ?_ ?_ | refine eF ?_ ?_ ?_ | refine eN ?_ | refine eL ?_ ?_ ?_ | refine eA ?_ ?_ | refine IWk.mk ⟨_, hp, rfl⟩ ?_ ?_) | refine IWk.mk ⟨_, hp, rfl⟩ ?_ ?_)
      all_goals first | with_reducible rfl | omega | exact Or.inl (by decide) | (simp; done) | rfl | skip
      rw [Bool.eq_iff_iff]; simp only [decide_eq_true_eq]; omega
theorem idx324_c {R : Env} (h : N324 R) (g : Nat) (l : List Int) (p : Int → Bool) (n : Int) (hc : ∀ x ∈ l, R.Mc g [.int .i64 x, .loc 0 1 0 0] (topM R n) (.bool (p x)) (topM R n) 1) (hl : l.length ≤ 1073741824) :
    R.Mc 324 [.isl 1 (slcK .i64 l), R.cl g [.loc 0 1 0 0]] (topM R n) (.int .i64 (fidx l p)) (topM R n) 1 :=
  h.o324.enterM 100 1 rfl rfl rfl fun X bb hfit hp => by
    refine sh ?_
    refine lPa 100 (fun i : Nat => i ≤ l.length ∧ (l.take i).any p = false) (fun i => ⟨[(0, .isl 1 (slcK .i64 l)), (1, R.cl g [.loc 0 1 0 0]), (7, .int .i64 l.length), (8, .int .i64 i)], topM R n, 1⟩) (fun i => l.length - i) (0) ?_ ?_
    · exact ⟨Nat.zero_le _, by simp⟩
    · intro i hi
      dsimp only
      refine sh ?_
      refine cS (fun h1 => ?_) (fun h1 => ?_)
      · obtain ⟨x, hx⟩ : ∃ u_, l[i]? = some u_ := ⟨_, List.getElem?_eq_getElem (by first | omega | (simp <;> omega))⟩
        refine sh ?_
        refine eget_map hx ?_
        refine sh ?_
        refine cM false [0] (hc x (List.mem_of_getElem? hx)) ?_
        repeat ((intro _u; clear _u); first | refine eK ?_ | refine eP ?_)
        refine sh ?_
        refine cS (fun h2 => ?_) (fun h2 => ?_)
        · refine sh ?_
          refine rM [0] ?_
          all_goals repeat' (first | exact True.intro | refine And.intro ?_ ?_ | (intro _u; clear _u) | (with_reducible first | refine eM ?_ ?_ | refine eF ?_ ?_ ?_ | refine eN ?_ | refine eL ?_ ?_ ?_ | refine eA ?_ ?_ | refine IWk.mk ⟨_, hp, rfl⟩ ?_ ?_) | refine IWk.mk ⟨_, hp, rfl⟩ ?_ ?_)
          all_goals first | with_reducible rfl | omega | exact Or.inl (by decide) | (simp; done) | rfl | skip
          unfold fidx
          rw [if_pos (any_at hx h2), fidx_at hx h2 hi.2]
        · refine sh ?_
          refine nXa (i + 1) ?_ ?_
          · refine ⟨by omega, ?_⟩
            rw [any_take_succ' hx, hi.2, h2]; rfl
          · omega
      · refine sh ?_
        refine rM [0] ?_
        all_goals repeat' (first | exact True.intro | refine And.intro ?_ ?_ | (intro _u; clear _u) | (with_reducible first | refine eM ?_ ?_ | refine eF ?_ ?_ ?_ | refine eN ?_ | refine eL ?_ ?_ ?_ | refine eA ?_ ?_ | refine IWk.mk ⟨_, hp, rfl⟩ ?_ ?_) | refine IWk.mk ⟨_, hp, rfl⟩ ?_ ?_)
        all_goals first | with_reducible rfl | omega | exact Or.inl (by decide) | (simp; done) | rfl | skip
        unfold fidx
        have h3 := hi.2
        rw [List.take_of_length_le (by omega)] at h3
        rw [if_neg (by simp [h3])]
theorem cont323_c {R : Env} (h : N323 R) (g : Nat) (l : List Int) (p : Int → Bool) (n : Int) (hc : ∀ x ∈ l, R.Mc g [.int .i64 x, .loc 0 1 0 0] (topM R n) (.bool (p x)) (topM R n) 1) (hl : l.length ≤ 1073741824) :
    R.Mc 323 [.isl 1 (slcK .i64 l), R.cl g [.loc 0 1 0 0]] (topM R n) (.bool (l.any p)) (topM R n) 1 :=
  h.o323.enterM 100 1 rfl rfl rfl fun X bb hfit hp => by
    refine sh ?_
    refine cM false [0] (idx324_c h.n324 g l p n hc hl) ?_
    repeat ((intro _u; clear _u); first | refine eK ?_ | refine eP ?_)
    refine sh ?_
    refine rM [0] ?_
    all_goals repeat' (first | exact True.intro | refine And.intro ?_ ?_ | (intro _u; clear _u) | (with_reducible first | refine eM ?_ ?_ | refine eF ?_ ?_ ?_ | refine eN ?_ | refine eL ?_ ?_ ?_ | refine eA ?_ ?_ | refine IWk.mk ⟨_, hp, rfl⟩ ?_ ?_) | refine IWk.mk ⟨_, hp, rfl⟩ ?_ ?_)
    all_goals first | with_reducible rfl | omega | exact Or.inl (by decide) | (simp; done) | rfl | skip
    exact fidx_ge
theorem outside_c {R : Env} (h : N307 R) (n : Int) (l : List Int) (hl : l.length ≤ 1073741824) : R.Pc 307 [.int .i64 n, .isl 1 (slcK .i64 l)] (.bool (l.any (outs n))) :=
  h.o307.enter 100 rfl fun X bb hfit hp => by
    refine sh ?_
    refine cM false [0] (cont323_c h.n323 322 l (outs n) n (fun x _ => outs_c h.n322 n x) hl) ?_
    repeat ((intro _u; clear _u); first | refine eK ?_ | refine eP ?_)
    refine sh ?_
    exact rT
theorem matk_c {R : Env} (h : N290 R) (m : Mat) : R.Pc 290 [.agg m.row] (.int .i64 (matk m)) :=
  h.o290.enter 100 rfl fun X bb hfit hp => by
    generalize hq : matk m = q
    refine sh ?_
    refine cM true [] ((outside_c h.n307 4 [m.k] (by simp)).mc h.n307.o307.hb) ?_
    repeat ((intro _u; clear _u); first | refine eK ?_ | refine eP ?_)
    refine sh ?_
    refine cS (fun h1 => ?_) (fun h1 => ?_)
    · simp [outs] at h1
      rw [matk, if_pos (by omega)] at hq
      subst hq
      refine sh ?_
      exact rT
    · refine sh ?_
      refine cM true [] ((outside_c h.n307 65535 [m.c.a, m.c.b, m.c.c, m.r] (by simp)).mc h.n307.o307.hb) ?_
      repeat ((intro _u; clear _u); first | refine eK ?_ | refine eP ?_)
      refine sh ?_
      refine cS (fun h2 => ?_) (fun h2 => ?_)
      · simp [outs] at h2
        rw [matk, if_pos (by omega)] at hq
        subst hq
        refine sh ?_
        exact rT
      · simp [outs] at h1 h2
        rw [matk, if_neg (by omega)] at hq
        subst hq
        refine sh ?_
        exact rT
def z3b (p : T3) : Bool := p.a == 0 && (p.b == 0 && p.c == 0)
def ligk (l : Lig) : Int := if l.k < 0 ∨ 2 < l.k ∨ l.c.a < 0 ∨ 1048576 < l.c.a ∨ l.c.b < 0 ∨ 1048576 < l.c.b ∨ l.c.c < 0 ∨ 1048576 < l.c.c then 5
  else if off3 l.p = true ∨ off3 l.u = true ∨ off3 l.v = true then 8
  else if l.k = 2 ∧ z3b l.p = false ∨ l.k ≠ 1 ∧ (z3b l.u = false ∨ z3b l.v = false) then 5 else 0
theorem off308_c {R : Env} (h : N308 R) (p : T3) : R.Pc 308 [.agg (t3 p)] (.bool (off3 p)) :=
  h.o308.enter 60 rfl fun X bb hfit hp => by
    unfold off3
    refine sh ?_
    refine cS (fun h1 => ?_) (fun h1 => ?_)
    · refine sh ?_
      refine rT ?_
      all_goals repeat' (first | exact True.intro | refine And.intro ?_ ?_ | (intro _u; clear _u) | (with_reducible first | refine eM ?_ ?_ | refine eF ?_ ?_ ?_ | refine eN ?_ | refine eL ?_ ?_ ?_ | refine eA ?_ ?_ | refine IWk.mk ⟨_, hp, rfl⟩ ?_ ?_) | refine IWk.mk ⟨_, hp, rfl⟩ ?_ ?_)
      all_goals first | with_reducible rfl | omega | exact Or.inl (by decide) | (simp; done) | rfl | skip
      simp; omega
    · refine sh ?_
      refine rT ?_
      all_goals repeat' (first | exact True.intro | refine And.intro ?_ ?_ | (intro _u; clear _u) | (with_reducible first | refine eM ?_ ?_ | refine eF ?_ ?_ ?_ | refine eN ?_ | refine eL ?_ ?_ ?_ | refine eA ?_ ?_ | refine IWk.mk ⟨_, hp, rfl⟩ ?_ ?_) | refine IWk.mk ⟨_, hp, rfl⟩ ?_ ?_)
      all_goals first | with_reducible rfl | omega | exact Or.inl (by decide) | (simp; done) | rfl | skip
      rw [Bool.eq_iff_iff]; simp only [Bool.not_eq_true', decide_eq_true_eq, decide_eq_false_iff_not]; omega
theorem ligk_c {R : Env} (h : N292 R) (l : Lig) : R.Pc 292 [.agg l.row] (.int .i64 (ligk l)) :=
  h.o292.enter 100 rfl fun X bb hfit hp => by
    generalize hq : ligk l = q
    refine sh ?_
    refine ICall.let [0] rfl hp rfl ?_
    repeat ((intro _u; clear _u); first | refine eZ ?_ | refine eZ ?_ (by simp; omega) | refine FrzC.drop ?_)
    refine sh ?_
    refine cM true [] ((outside_c h.n307 2 [l.k] (by simp)).mc h.n307.o307.hb) ?_
    repeat ((intro _u; clear _u); first | refine eK ?_ | refine eP ?_)
    refine sh ?_
    refine cS (fun h1 => ?_) (fun h1 => ?_)
    · simp [outs] at h1
      rw [ligk, if_pos (by omega)] at hq
      subst hq
      refine sh ?_
      exact rT
    · refine sh ?_
      refine ICall.pure h.n307.o307.hb (outside_c h.n307 1048576 [l.c.a, l.c.b, l.c.c] (by simp)) rfl ?_
      refine sh ?_
      refine cS (fun h2 => ?_) (fun h2 => ?_)
      · simp [outs] at h2
        rw [ligk, if_pos (by omega)] at hq
        subst hq
        refine sh ?_
        exact rT
      · simp [outs] at h1 h2
        rw [ligk, if_neg (by omega)] at hq
        refine sh ?_
        refine ICall.pure h.n308.o308.hb (off308_c h.n308 l.p) rfl ?_
        refine sh ?_
        refine cS (fun h3 => ?_) (fun h3 => ?_)
        · rw [if_pos (.inl h3)] at hq
          subst hq
          refine sh ?_
          exact rT
        · refine sh ?_
          refine ICall.pure h.n308.o308.hb (off308_c h.n308 l.u) rfl ?_
          refine sh ?_
          refine cS (fun h4 => ?_) (fun h4 => ?_)
          · rw [if_pos (.inr (.inl h4))] at hq
            subst hq
            refine sh ?_
            exact rT
          · refine sh ?_
            refine ICall.pure h.n308.o308.hb (off308_c h.n308 l.v) rfl ?_
            refine sh ?_
            refine cS (fun h5 => ?_) (fun h5 => ?_)
            · rw [if_pos (.inr (.inr h5))] at hq
              subst hq
              refine sh ?_
              exact rT
            · rw [if_neg (by simp [h3, h4, h5])] at hq
              refine sh ?_
              refine cS (fun h6 => ?_) (fun h6 => ?_)
              · refine sh ?_
                refine cS (fun h7 => ?_) (fun h7 => ?_)
                · rw [if_pos (.inl ⟨h6, h7⟩)] at hq
                  subst hq
                  refine sh ?_
                  exact rT
                · refine sh ?_
                  refine cS (fun h8 => ?_) (fun h8 => ?_)
                  · rw [if_pos (.inr ⟨by omega, .inl h8⟩)] at hq
                    subst hq
                    refine sh ?_
                    exact rT
                  · refine sh ?_
                    refine cS (fun h9 => ?_) (fun h9 => ?_)
                    · rw [if_pos (.inr ⟨by omega, .inr h9⟩)] at hq
                      subst hq
                      refine sh ?_
                      exact rT
                    · rw [if_neg (by simp [z3b, h7, h8, h9])] at hq
                      subst hq
                      refine sh ?_
                      exact rT
              · refine sh ?_
                refine cS (fun h7 => ?_) (fun h7 => ?_)
                · refine sh ?_
                  refine cS (fun h8 => ?_) (fun h8 => ?_)
                  · rw [if_pos (.inr ⟨by omega, .inl h8⟩)] at hq
                    subst hq
                    refine sh ?_
                    exact rT
                  · refine sh ?_
                    refine cS (fun h9 => ?_) (fun h9 => ?_)
                    · rw [if_pos (.inr ⟨by omega, .inr h9⟩)] at hq
                      subst hq
                      refine sh ?_
                      exact rT
                    · rw [if_neg (by simp [z3b, h6, h8, h9])] at hq
                      subst hq
                      refine sh ?_
                      exact rT
                · have h10 : l.k = 1 := by omega
                  rw [if_neg (by simp [h10])] at hq
                  subst hq
                  refine sh ?_
                  exact rT
end Go.UM

namespace Go.UM
open Go.AM
set_option maxRecDepth 4000
def idx (l : List Int) (x : Int) : Int := if x ∈ l then (l.idxOf x : Int) else -1
theorem idxOf_at {x : Int} : ∀ {l : List Int} {i : Nat}, l[i]? = some x → x ∉ l.take i → l.idxOf x = i
  | [], _, h, _ => by simp at h
  | a :: r, 0, h, _ => by simp at h; simp [h]
  | a :: r, i + 1, h, hn => by
    simp only [List.take_succ_cons, List.mem_cons, not_or] at hn
    rw [List.idxOf_cons]
    have : (a == x) = false := by simpa using fun e => hn.1 e.symm
    rw [this, idxOf_at (by simpa using h) hn.2]
    rfl
theorem index_c {R : Env} (h : N106 R) (l : List Int) (x : Int) (hl : l.length ≤ 1073741824) : R.Pc 106 [.isl 1 (slcK .i64 l), .int .i64 x] (.int .i64 (idx l x)) :=
  h.o106.enter 100 rfl fun X bb hfit hp => by
    refine sh ?_
    refine lPa 100 (fun i : Nat => i ≤ l.length ∧ x ∉ l.take i) (fun i => ⟨[(0, .isl 1 (slcK .i64 l)), (1, .int .i64 x), (7, .int .i64 l.length), (8, .int .i64 i)], [], 0⟩) (fun i => l.length - i) (0) ?_ ?_
    · exact ⟨Nat.zero_le _, by simp⟩
    · intro i hi
      dsimp only
      refine sh ?_
      refine cS (fun h1 => ?_) (fun h1 => ?_)
      · obtain ⟨y, hy⟩ : ∃ u_, l[i]? = some u_ := ⟨_, List.getElem?_eq_getElem (by first | omega | (simp <;> omega))⟩
        refine sh ?_
        refine eget_map hy ?_
        refine sh ?_
        refine cS (fun h2 => ?_) (fun h2 => ?_)
        · subst h2
          refine sh ?_
          refine rT ?_
          all_goals repeat' (first | exact True.intro | refine And.intro ?_ ?_ | (intro _u; clear _u) | (with_reducible first | refine eM ?_ ?_ | refine eF ?_ ?_ ?_ | refine eN ?_ | refine eL ?_ ?_ ?_ | refine eA ?_ ?_ | refine IWk.mk ⟨_, hp, rfl⟩ ?_ ?_) | refine IWk.mk ⟨_, hp, rfl⟩ ?_ ?_)
          all_goals first | with_reducible rfl | omega | exact Or.inl (by decide) | (simp; done) | rfl | skip
          unfold idx
          rw [if_pos (List.mem_of_getElem? hy), idxOf_at hy hi.2]
        · refine sh ?_
          refine nXa (i + 1) ?_ ?_
          · refine ⟨by omega, ?_⟩
            rw [take_succ_get hy]
            simp only [List.mem_append, List.mem_singleton, not_or]
            exact ⟨hi.2, h2⟩
          · omega
      · refine sh ?_
        refine rT ?_
        all_goals repeat' (first | exact True.intro | refine And.intro ?_ ?_ | (intro _u; clear _u) | (with_reducible first | refine eM ?_ ?_ | refine eF ?_ ?_ ?_ | refine eN ?_ | refine eL ?_ ?_ ?_ | refine eA ?_ ?_ | refine IWk.mk ⟨_, hp, rfl⟩ ?_ ?_) | refine IWk.mk ⟨_, hp, rfl⟩ ?_ ?_)
        all_goals first | with_reducible rfl | omega | exact Or.inl (by decide) | (simp; done) | rfl | skip
        unfold idx
        rw [if_neg]
        rw [← List.take_of_length_le (l := l) (i := i) (by omega)]
        exact hi.2
theorem contains_c {R : Env} (h : N100 R) (l : List Int) (x : Int) (hl : l.length ≤ 1073741824) : R.Pc 100 [.isl 1 (slcK .i64 l), .int .i64 x] (.bool (decide (x ∈ l))) :=
  h.o100.enter 100 rfl fun X bb hfit hp => by
    refine sh ?_
    refine ICall.pure h.n106.o106.hb (index_c h.n106 l x hl) rfl ?_
    refine sh ?_
    refine rT ?_
    all_goals repeat' (first | exact True.intro | refine And.intro ?_ ?_ | (intro _u; clear _u) | (with_reducible first | refine eM ?_ ?_ | refine eF ?_ ?_ ?_ | refine eN ?_ | refine eL ?_ ?_ ?_ | refine eA ?_ ?_ | refine IWk.mk ⟨_, hp, rfl⟩ ?_ ?_) | refine IWk.mk ⟨_, hp, rfl⟩ ?_ ?_)
    all_goals first | with_reducible rfl | omega | exact Or.inl (by decide) | (simp; done) | rfl | skip
    unfold idx
    by_cases hx : x ∈ l
    · rw [if_pos hx]; simp [hx]
    · rw [if_neg hx]; simp [hx]
end Go.UM

namespace Go.UM
open Go.AM
set_option maxRecDepth 4000
structure Tex where
  side : Int
  t : List T3
def Tex.row (x : Tex) : List AV := [.int .i64 x.side, .isl 3 (slc3 x.t)]
def T3.good (x : T3) : Bool := decide (0 ≤ x.a) && decide (0 ≤ x.b) && decide (0 ≤ x.c) && decide (x.a ≤ 255) && decide (x.b ≤ 255) && decide (x.c ≤ 255)
theorem T3.good_iff (x : T3) : x.good = true ↔ (0 ≤ x.a ∧ x.a ≤ 255) ∧ (0 ≤ x.b ∧ x.b ≤ 255) ∧ 0 ≤ x.c ∧ x.c ≤ 255 := by
  simp only [T3.good, Bool.and_eq_true, decide_eq_true_eq]
  omega
def sides : List Int := [1, 2, 4, 8, 16]
def tchk (x : Tex) : Int := if x.side ∉ sides ∨ (x.t.length : Int) ≠ x.side * x.side then 5 else if x.t.all T3.good = true then 0 else 5
theorem tchk_in {x : Tex} (h : x.side ∈ sides) : x.side = 1 ∨ x.side = 2 ∨ x.side = 4 ∨ x.side = 8 ∨ x.side = 16 := by
  simpa [sides] using h
theorem tchk_bad {x : Tex} {y : T3} (hy : y ∈ x.t) (h : y.good = false) : tchk x = 5 := by
  unfold tchk
  split
  · rfl
  · rw [if_neg]
    intro ha
    rw [List.all_eq_true.1 ha y hy] at h
    exact Bool.noConfusion h
theorem all_take_succ {α : Type} {n : List α} {k : Nat} {x : α} {p : α → Bool} (h : n[k]? = some x) : (n.take (k + 1)).all p = ((n.take k).all p && p x) := by
  rw [take_succ_get h]; simp
theorem tchk_c {R : Env} (h : N84 R) (x : Tex) (hl : x.t.length ≤ 1073741824) : R.Pc 84 [.agg x.row] (.int .i64 (tchk x)) :=
  h.o84.enter 100 rfl fun X bb hfit hp => by
    refine sh ?_
    refine cM true [] ((contains_c h.n100 sides x.side (by decide)).mc h.n100.o100.hb) ?_
    repeat ((intro _u; clear _u); first | refine eK ?_ | refine eP ?_)
    generalize hq : tchk x = q
    refine sh ?_
    refine cS (fun h1 => ?_) (fun h1 => ?_)
    · rw [tchk, if_pos (.inl h1)] at hq
      subst hq
      refine sh ?_
      exact rT
    · have h2 := tchk_in h1
      have hsq : x.side * x.side ≤ 256 ∧ 0 ≤ x.side * x.side := by
        rcases h2 with h | h | h | h | h <;> rw [h] <;> decide
      refine sh ?_
      refine cS (fun h3 => ?_) (fun h3 => ?_)
      · rw [tchk, if_pos (.inr h3)] at hq
        subst hq
        refine sh ?_
        exact rT
      · have hz : ¬ (x.side ∉ sides ∨ (x.t.length : Int) ≠ x.side * x.side) := by simp [h1, h3]
        refine sh ?_
        refine lPa 100 (fun i : Nat => i ≤ x.t.length ∧ (x.t.take i).all T3.good = true) (fun i => ⟨[(22, .isl 3 (slc3 x.t)), (23, .int .i64 x.t.length), (24, .int .i64 i)], [], 10⟩) (fun i => x.t.length - i) (0) ?_ ?_
        · exact ⟨Nat.zero_le _, rfl⟩
        · intro i hi
          dsimp only
          refine sh ?_
          refine cS (fun h4 => ?_) (fun h4 => ?_)
          · obtain ⟨y, hy⟩ : ∃ u_, x.t[i]? = some u_ := ⟨_, List.getElem?_eq_getElem (by first | omega | (simp <;> omega))⟩
            refine sh ?_
            refine eget_map hy ?_
            have hyg := T3.good_iff y
            refine sh ?_
            refine cS (fun h5 => ?_) (fun h5 => ?_)
            · have hb : y.good = false := by rw [Bool.eq_false_iff, ne_eq, hyg]; omega
              rw [tchk_bad (List.mem_of_getElem? hy) hb] at hq
              subst hq
              refine sh ?_
              exact rT
            · refine sh ?_
              refine cS (fun h6 => ?_) (fun h6 => ?_)
              · have hb : y.good = false := by rw [Bool.eq_false_iff, ne_eq, hyg]; omega
                rw [tchk_bad (List.mem_of_getElem? hy) hb] at hq
                subst hq
                refine sh ?_
                exact rT
              · refine sh ?_
                refine nXa (i + 1) ?_ ?_
                · refine ⟨by omega, ?_⟩
                  rw [all_take_succ hy, hi.2, Bool.true_and, hyg]
                  omega
                · omega
          · rw [tchk, if_neg hz, if_pos] at hq
            · subst hq
              refine sh ?_
              exact rT
            · have := hi.2
              rwa [List.take_of_length_le (by omega)] at this
end Go.UM

namespace Go.UM
open Go.AM
set_option maxRecDepth 4000
structure TexOk (t : Tex) : Prop where
  s : t.side ∈ sides
  l : (t.t.length : Int) = t.side * t.side
  g : t.t.all T3.good = true
theorem tchk_ok {t : Tex} (h : tchk t = 0) : TexOk t := by
  unfold tchk at h
  split at h
  · exact absurd h (by decide)
  · rename_i h1
    split at h
    · rename_i h2
      simp only [not_or, Decidable.not_not] at h1
      exact ⟨h1.1, h1.2, h2⟩
    · exact absurd h (by decide)
theorem TexOk.chk {t : Tex} (h : TexOk t) : tchk t = 0 := by
  unfold tchk
  rw [if_neg (by simp [h.s, h.l]), if_pos h.g]
def Tex.ix (t : Tex) (x y : Int) : Nat := (y % t.side * t.side + x % t.side).toNat
def Tex.at (t : Tex) (x y : Int) : T3 := t.t.getD (t.ix x y) ⟨0, 0, 0⟩
theorem TexOk.ix {t : Tex} (h : TexOk t) (x y : Int) : 0 ≤ y % t.side ∧ y % t.side < t.side ∧ 0 ≤ x % t.side ∧ x % t.side < t.side ∧ t.side ≤ 16 ∧ 1 ≤ t.side ∧ 0 ≤ y % t.side * t.side ∧ y % t.side * t.side + x % t.side < t.side * t.side ∧ t.side * t.side ≤ 256 := by
  have hs := tchk_in h.s
  have h1 : 1 ≤ t.side ∧ t.side ≤ 16 := by omega
  have h2 := Int.emod_nonneg y (show t.side ≠ 0 by omega)
  have h3 := Int.emod_lt_of_pos y (show 0 < t.side by omega)
  have h4 := Int.emod_nonneg x (show t.side ≠ 0 by omega)
  have h5 := Int.emod_lt_of_pos x (show 0 < t.side by omega)
  have h6 : y % t.side * t.side ≤ (t.side - 1) * t.side := Int.mul_le_mul_of_nonneg_right (by omega) (by omega)
  have h7 : 0 ≤ y % t.side * t.side := Int.mul_nonneg h2 (by omega)
  have h8 : t.side * t.side ≤ 16 * 16 := Int.mul_le_mul h1.2 h1.2 (by omega) (by decide)
  rw [Int.sub_mul] at h6
  exact ⟨h2, h3, h4, h5, h1.2, h1.1, h7, by omega, by omega⟩
def avg (a b c d : T3) : T3 := ⟨(a.a + b.a + c.a + d.a + 2) / 4, (a.b + b.b + c.b + d.b + 2) / 4, (a.c + b.c + c.c + d.c + 2) / 4⟩
def Tex.next (t : Tex) (s i : Int) : T3 := avg (t.at (2 * (i % s)) (2 * (i / s))) (t.at (2 * (i % s) + 1) (2 * (i / s))) (t.at (2 * (i % s)) (2 * (i / s) + 1)) (t.at (2 * (i % s) + 1) (2 * (i / s) + 1))
def texs (l : List T3) : List UInt8 := l.flatMap fun x => [u8 x.a, u8 x.b, u8 x.c]
def tencs (t : Tex) : List UInt8 × Int := if tchk t ≠ 0 then ([], tchk t) else (u8 t.side :: texs t.t, 0)
theorem texs_len : ∀ l : List T3, (texs l).length = 3 * l.length
  | [] => rfl
  | x :: r => by
    have := texs_len r
    simp only [texs, List.flatMap_cons, List.length_append, List.length_cons, List.length_nil] at this ⊢
    omega
theorem texs_succ {l : List T3} {k : Nat} {x : T3} (h : l[k]? = some x) : texs (l.take (k + 1)) = texs (l.take k) ++ [u8 x.a, u8 x.b, u8 x.c] := by
  rw [take_succ_get h]; simp [texs]
theorem tencode_c {R : Env} (h : N82 R) (t : Tex) (hl : t.t.length ≤ 1073741824) : R.Pc 82 [.agg t.row] (.tup [.isl 1 (slc8 (tencs t).1), .int .i64 (tencs t).2]) :=
  h.o82.enter 200 rfl fun X bb hfit hp => by
    refine sh ?_
    refine ICall.pure h.n84.o84.hb (tchk_c h.n84 t hl) rfl ?_
    generalize hq : tencs t = q
    refine sh ?_
    refine cS (fun h1 => ?_) (fun h1 => ?_)
    · rw [tencs, if_pos h1] at hq
      subst hq
      refine sh ?_
      exact rT
    · have ok := tchk_ok h1
      rw [tencs, if_neg (by simpa using h1)] at hq
      subst hq
      have hs := tchk_in ok.s
      have htl : t.t.length ≤ 256 := by
        have := ok.l
        rcases hs with h | h | h | h | h <;> rw [h] at this <;> omega
      refine sh ?_
      refine ILoop.inv 200 (fun i : Nat => i ≤ t.t.length) (fun i => ⟨[(5, .osl 1 (u8 t.side :: texs (t.t.take i)).length), (18, .isl 3 (slc3 t.t)), (19, .int .i64 t.t.length), (20, .int .i64 i)], [(1, .arr (R.ty 4) 1 (slc8 (u8 t.side :: texs (t.t.take i))))], 2⟩) (fun i => t.t.length - i) (0) ?_ ⟨⟨_, hp, rfl⟩, ?_, ?_⟩ ?_
      · exact Nat.zero_le _
      · all_goals repeat' (first | exact True.intro | refine And.intro ?_ ?_ | (intro _u; clear _u) | (with_reducible first | refine eM ?_ ?_ | refine eF ?_ ?_ ?_ | refine eN ?_ | refine eL ?_ ?_ ?_ | refine eA ?_ ?_ | refine IWk.mk ⟨_, hp, rfl⟩ ?_ ?_) | refine IWk.mk ⟨_, hp, rfl⟩ ?_ ?_)
        all_goals first | with_reducible rfl | omega | exact Or.inl (by decide) | (simp; done) | rfl | skip
      · all_goals repeat' (first | exact True.intro | refine And.intro ?_ ?_ | (intro _u; clear _u) | (with_reducible first | refine eM ?_ ?_ | refine eF ?_ ?_ ?_ | refine eN ?_ | refine eL ?_ ?_ ?_ | refine eA ?_ ?_ | refine IWk.mk ⟨_, hp, rfl⟩ ?_ ?_) | refine IWk.mk ⟨_, hp, rfl⟩ ?_ ?_)
        all_goals first | with_reducible rfl | omega | exact Or.inl (by decide) | (simp; done) | rfl | skip
        simp [slc8, texs, u8_in (n := t.side) (by omega)]
      · intro i hi
        dsimp only
        refine sh ?_
        refine cS (fun h2 => ?_) (fun h2 => ?_)
        · obtain ⟨y, hy⟩ : ∃ u_, t.t[i]? = some u_ := ⟨_, List.getElem?_eq_getElem (by first | omega | (simp <;> omega))⟩
          refine sh ?_
          refine eget_map hy ?_
          refine sh ?_
          refine iwr_any ?_
          refine sh ?_
          refine iwr_any ?_
          refine sh ?_
          refine iwr_any ?_
          refine sh ?_
          refine nD ?_ (by have := texs_len (t.t.take i); simp only [List.length_take] at this; simp; omega)
          refine sh ?_
          refine nX (i + 1) ?_ ?_ ⟨_, hp, rfl⟩ ?_ ?_
          · omega
          · omega
          · all_goals repeat' (first | exact True.intro | refine And.intro ?_ ?_ | (intro _u; clear _u) | (with_reducible first | refine eM ?_ ?_ | refine eF ?_ ?_ ?_ | refine eN ?_ | refine eL ?_ ?_ ?_ | refine eA ?_ ?_ | refine IWk.mk ⟨_, hp, rfl⟩ ?_ ?_) | refine IWk.mk ⟨_, hp, rfl⟩ ?_ ?_)
            all_goals first | with_reducible rfl | omega | exact Or.inl (by decide) | (simp; done) | rfl | skip
            rw [texs_succ hy]; simp
          · all_goals repeat' (first | exact True.intro | refine And.intro ?_ ?_ | (intro _u; clear _u) | (with_reducible first | refine eM ?_ ?_ | refine eF ?_ ?_ ?_ | refine eN ?_ | refine eL ?_ ?_ ?_ | refine eA ?_ ?_ | refine IWk.mk ⟨_, hp, rfl⟩ ?_ ?_) | refine IWk.mk ⟨_, hp, rfl⟩ ?_ ?_)
            all_goals first | with_reducible rfl | omega | exact Or.inl (by decide) | (simp; done) | rfl | skip
            rw [texs_succ hy]; simp [slc8, wr_u8]
        · rw [List.take_of_length_le (by omega)]
          refine sh ?_
          exact rT
end Go.UM

namespace Go.UM
open Go.AM
set_option maxRecDepth 4000
end Go.UM

namespace Go.UM
open Go.AM
set_option maxRecDepth 4000
structure As where
  k : Int
  m : Ms
  x : Tex
  mt : Mat
  li : Lig
def As.row (a : As) : List AV := [.int .i64 a.k, .isl 3 (slc3 a.m.v), .isl 2 (slc2 a.m.uv), .isl 3 (slc3 a.m.t), .int .i64 a.x.side, .isl 3 (slc3 a.x.t),
  .int .i64 a.mt.k, .int .i64 a.mt.c.a, .int .i64 a.mt.c.b, .int .i64 a.mt.c.c, .int .i64 a.mt.r,
  .int .i64 a.li.k, .int .i64 a.li.c.a, .int .i64 a.li.c.b, .int .i64 a.li.c.c, .int .i64 a.li.p.a, .int .i64 a.li.p.b, .int .i64 a.li.p.c, .int .i64 a.li.u.a, .int .i64 a.li.u.b, .int .i64 a.li.u.c, .int .i64 a.li.v.a, .int .i64 a.li.v.b, .int .i64 a.li.v.c]
def matb (m : Mat) : List UInt8 := [u8 m.k] ++ enc 2 m.c.a ++ enc 2 m.c.b ++ enc 2 m.c.c ++ enc 2 m.r
def ligb (l : Lig) : List UInt8 := [u8 l.k] ++ (enc 4 l.c.a ++ enc 4 l.c.b ++ enc 4 l.c.c) ++ encP l.p ++ encP l.u ++ encP l.v
def own (a : As) : Int := if a.k = 1 then mchk a.m else if a.k = 2 then tchk a.x else if a.k = 3 then matk a.mt else if a.k = 4 then ligk a.li else 12
def abytes (a : As) : List UInt8 := if a.k = 1 then (menc a.m).1 else if a.k = 2 then (tencs a.x).1 else if a.k = 3 then matb a.mt else ligb a.li
theorem off3_in {p : T3} (h : off3 p = false) : -4096 ≤ p.a ∧ p.a ≤ 4096 ∧ -4096 ≤ p.b ∧ p.b ≤ 4096 ∧ -4096 ≤ p.c ∧ p.c ≤ 4096 := by simpa [off3] using h
structure Lig.May (l : Lig) : Prop where
  k : 0 ≤ l.k ∧ l.k ≤ 2
  c : 0 ≤ l.c.a ∧ l.c.a ≤ 1048576 ∧ 0 ≤ l.c.b ∧ l.c.b ≤ 1048576 ∧ 0 ≤ l.c.c ∧ l.c.c ≤ 1048576
  p : -4096 ≤ l.p.a ∧ l.p.a ≤ 4096 ∧ -4096 ≤ l.p.b ∧ l.p.b ≤ 4096 ∧ -4096 ≤ l.p.c ∧ l.p.c ≤ 4096
  u : -4096 ≤ l.u.a ∧ l.u.a ≤ 4096 ∧ -4096 ≤ l.u.b ∧ l.u.b ≤ 4096 ∧ -4096 ≤ l.u.c ∧ l.u.c ≤ 4096
  v : -4096 ≤ l.v.a ∧ l.v.a ≤ 4096 ∧ -4096 ≤ l.v.b ∧ l.v.b ≤ 4096 ∧ -4096 ≤ l.v.c ∧ l.v.c ≤ 4096
theorem ligk_may {l : Lig} (h : ligk l = 0) : l.May := by
  unfold ligk at h
  split at h
  · cases h
  · split at h
    · cases h
    · rename_i h1 h2
      simp only [not_or, Bool.not_eq_true] at h2
      exact ⟨by omega, by omega, off3_in h2.1, off3_in h2.2.1, off3_in h2.2.2⟩
theorem matk_may {m : Mat} (h : matk m = 0) : 0 ≤ m.k ∧ m.k ≤ 4 ∧ 0 ≤ m.r ∧ m.r ≤ 65535 ∧ 0 ≤ m.c.a ∧ m.c.a ≤ 65535 ∧ 0 ≤ m.c.b ∧ m.c.b ≤ 65535 ∧ 0 ≤ m.c.c ∧ m.c.c ≤ 65535 := by
  unfold matk at h
  split at h
  · cases h
  · omega
theorem put1_c {R : Env} (h : N54 R) (b : List UInt8) (x : Int) (hl : b.length ≤ 1000) (hx : 0 ≤ x ∧ x ≤ 65535) :
    R.Mc 54 [.isl 1 (slc8 b), .int .i64 2, .isl 1 (slcK .u64 [x])] [] (.tup [.osl 0 (b ++ enc 2 x).length, .int .i64 0]) [(0, .arr (R.ty 4) 1 (slc8 (b ++ enc 2 x)))] 1 := by
  have c := put_c h b 2 [x] (by simp; omega) (by simp; omega)
  rw [puts_in (by decide) (by decide) (by simp; omega)] at c
  simpa using c
theorem put3_c {R : Env} (h : N54 R) (b : List UInt8) (x y z : Int) (hl : b.length ≤ 1000) (hx : 0 ≤ x ∧ x ≤ 1048576 ∧ 0 ≤ y ∧ y ≤ 1048576 ∧ 0 ≤ z ∧ z ≤ 1048576) :
    R.Mc 54 [.isl 1 (slc8 b), .int .i64 4, .isl 1 (slcK .u64 [x, y, z])] [] (.tup [.osl 0 (b ++ (enc 4 x ++ enc 4 y ++ enc 4 z)).length, .int .i64 0]) [(0, .arr (R.ty 4) 1 (slc8 (b ++ (enc 4 x ++ enc 4 y ++ enc 4 z))))] 1 := by
  have c := put_c h b 4 [x, y, z] (by simp; omega) (by simp; omega)
  rw [puts_in (by decide) (by decide) (by simp; omega)] at c
  simpa using c
theorem sgn3_c {R : Env} (h : N71 R) (b : List UInt8) (p : T3) (hl : b.length ≤ 1000) (ok : -4096 ≤ p.a ∧ p.a ≤ 4096 ∧ -4096 ≤ p.b ∧ p.b ≤ 4096 ∧ -4096 ≤ p.c ∧ p.c ≤ 4096) :
    R.Mc 71 [.isl 1 (slc8 b), .int .i64 2, .isl 1 (slcK .i64 [p.a, p.b, p.c])] [] (.tup [.osl 0 (b ++ encP p).length, .int .i64 0]) [(0, .arr (R.ty 4) 1 (slc8 (b ++ encP p)))] 1 := by
  have c := signed_c h b 2 [p.a, p.b, p.c] (by simp; omega) (by simp [inI]; omega)
  rwa [signs_pt ok] at c
def Mat.four (m : Mat) : List Int := [m.c.a, m.c.b, m.c.c, m.r]
def Lig.three (l : Lig) : List T3 := [l.p, l.u, l.v]
@[simp] theorem four_length (m : Mat) : m.four.length = 4 := rfl
@[simp] theorem three_length (l : Lig) : l.three.length = 3 := rfl
theorem len_e2 : ∀ l : List Int, (l.flatMap (enc 2)).length = 2 * l.length
  | [] => rfl
  | x :: r => by have := len_e2 r; simp at this ⊢; omega
@[simp] theorem encP_length (p : T3) : (encP p).length = 6 := by simp [encP]
theorem encode_c {R : Env} (h : N311 R) (a : As) (hl : a.x.t.length ≤ 1073741824) (ok : own a = 0) : R.Pc 311 [.agg a.row] (.isl 1 (slc8 (abytes a))) :=
  h.o311.enter 200 rfl fun X bb hfit hp => by
    generalize hq : abytes a = q
    unfold own at ok
    refine sh ?_
    refine cS (fun h1 => ?_) (fun h1 => ?_)
    · rw [abytes, if_pos h1] at hq
      subst hq
      refine sh ?_
      refine ICall.pure h.n196.o196.hb (mencode_c h.n196 a.m) rfl ?_
      refine sh ?_
      exact rT
    · rw [if_neg h1] at ok
      refine sh ?_
      refine cS (fun h2 => ?_) (fun h2 => ?_)
      · rw [abytes, if_neg h1, if_pos h2] at hq
        subst hq
        refine sh ?_
        refine ICall.pure h.n82.o82.hb (tencode_c h.n82 a.x hl) rfl ?_
        refine sh ?_
        exact rT
      · rw [if_neg h2] at ok
        refine sh ?_
        refine cS (fun h3 => ?_) (fun h3 => ?_)
        · rw [abytes, if_neg h1, if_neg h2, if_pos h3] at hq
          subst hq
          rw [if_pos h3] at ok
          have may := matk_may ok
          have w8 : ((u8 a.mt.k).toNat : Int) = a.mt.k := u8_in (by omega)
          refine sh ?_
          refine ILoop.inv 100 (fun i : Nat => i ≤ 4) (fun i => ⟨[(8, .osl 2 ([u8 a.mt.k] ++ (a.mt.four.take i).flatMap (enc 2)).length), (55, .isl 1 (slcK .i64 a.mt.four)), (56, .int .i64 4), (57, .int .i64 i)], [(2, .arr (R.ty 4) 1 (slc8 ([u8 a.mt.k] ++ (a.mt.four.take i).flatMap (enc 2))))], 3⟩) (fun i => 4 - i) (0) ?_ ⟨⟨_, hp, rfl⟩, ?_, ?_⟩ ?_
          · exact Nat.zero_le _
          · all_goals repeat' (first | exact True.intro | refine And.intro ?_ ?_ | (intro _u; clear _u) | (with_reducible first | refine eM ?_ ?_ | refine eF ?_ ?_ ?_ | refine eN ?_ | refine eL ?_ ?_ ?_ | refine eA ?_ ?_ | refine IWk.mk ⟨_, hp, rfl⟩ ?_ ?_) | refine IWk.mk ⟨_, hp, rfl⟩ ?_ ?_)
            all_goals first | with_reducible rfl | omega | exact Or.inl (by decide) | (simp; done) | rfl | skip
          · all_goals repeat' (first | exact True.intro | refine And.intro ?_ ?_ | (intro _u; clear _u) | (with_reducible first | refine eM ?_ ?_ | refine eF ?_ ?_ ?_ | refine eN ?_ | refine eL ?_ ?_ ?_ | refine eA ?_ ?_ | refine IWk.mk ⟨_, hp, rfl⟩ ?_ ?_) | refine IWk.mk ⟨_, hp, rfl⟩ ?_ ?_)
            all_goals first | with_reducible rfl | omega | exact Or.inl (by decide) | (simp; done) | rfl | skip
            simp [slc8, w8]
          · intro i hi
            dsimp only
            refine sh ?_
            refine cS (fun h4 => ?_) (fun h4 => ?_)
            · obtain ⟨x, hx⟩ : ∃ u_, a.mt.four[i]? = some u_ := ⟨_, List.getElem?_eq_getElem (by first | omega | (simp <;> omega))⟩
              refine sh ?_
              refine eget_map hx ?_
              have hxx : 0 ≤ x ∧ x ≤ 65535 := by
                have := List.mem_of_getElem? hx
                simp only [Mat.four, List.mem_cons, List.not_mem_nil, or_false] at this
                rcases this with e | e | e | e <;> subst e <;> omega
              refine sh ?_
              refine cM true [] (put1_c h.n54 ([u8 a.mt.k] ++ (a.mt.four.take i).flatMap (enc 2)) x (by simp only [List.length_append, len_e2, List.length_take]; simp; omega) hxx) ?_
              repeat ((intro _u; clear _u); first | refine eK ?_ | refine eP ?_)
              refine sh ?_
              refine nRm [0, 1, 4] (i + 1) ?_ ?_ ?_
              · omega
              · omega
              · all_goals repeat' (first | exact True.intro | refine And.intro ?_ ?_ | (intro _u; clear _u) | (with_reducible first | refine eM ?_ ?_ | refine eF ?_ ?_ ?_ | refine eN ?_ | refine eL ?_ ?_ ?_ | refine eA ?_ ?_ | refine IWk.mk ⟨_, hp, rfl⟩ ?_ ?_) | refine IWk.mk ⟨_, hp, rfl⟩ ?_ ?_)
                all_goals first | with_reducible rfl | omega | exact Or.inl (by decide) | (simp; done) | rfl | skip
                rw [flat_succ hx]; simp
                rw [flat_succ hx]; simp
            · rw [show a.mt.four.take i = a.mt.four from List.take_of_length_le (by simp; omega)]
              refine sh ?_
              exact rT
        · rw [abytes, if_neg h1, if_neg h2, if_neg h3] at hq
          subst hq
          have h4 : a.k = 4 := by
            by_cases h4 : a.k = 4
            · exact h4
            · rw [if_neg h3, if_neg h4] at ok; cases ok
          rw [if_neg h3, if_pos h4] at ok
          have may := ligk_may ok
          have mk := may.k
          have mc := may.c
          have w8 : ((u8 a.li.k).toNat : Int) = a.li.k := u8_in (by omega)
          have c1 := put3_c h.n54 [u8 a.li.k] a.li.c.a a.li.c.b a.li.c.c (by simp) mc
          rw [show slc8 [u8 a.li.k] = [[.int .u8 a.li.k]] by simp [slc8, w8]] at c1
          refine sh ?_
          refine cM true [] (c1) ?_
          repeat ((intro _u; clear _u); first | refine eK ?_ | refine eP ?_)
          refine sh ?_
          refine lPa 100 (fun i : Nat => i ≤ 3) (fun i => ⟨[(12, .osl 4 ([u8 a.li.k] ++ (enc 4 a.li.c.a ++ enc 4 a.li.c.b ++ enc 4 a.li.c.c) ++ (a.li.three.take i).flatMap encP).length), (100, .isl 3 (slc3 a.li.three)), (101, .int .i64 3), (102, .int .i64 i)], [(4, .arr (R.ty 4) 1 (slc8 ([u8 a.li.k] ++ (enc 4 a.li.c.a ++ enc 4 a.li.c.b ++ enc 4 a.li.c.c) ++ (a.li.three.take i).flatMap encP)))], 5⟩) (fun i => 3 - i) (0) ?_ ?_
          · exact Nat.zero_le _
          · intro i hi
            dsimp only
            refine sh ?_
            refine cS (fun h5 => ?_) (fun h5 => ?_)
            · obtain ⟨x, hx⟩ : ∃ u_, a.li.three[i]? = some u_ := ⟨_, List.getElem?_eq_getElem (by first | omega | (simp <;> omega))⟩
              refine sh ?_
              refine eget_map hx ?_
              have hxx : -4096 ≤ x.a ∧ x.a ≤ 4096 ∧ -4096 ≤ x.b ∧ x.b ≤ 4096 ∧ -4096 ≤ x.c ∧ x.c ≤ 4096 := by
                have := List.mem_of_getElem? hx
                simp only [Lig.three, List.mem_cons, List.not_mem_nil, or_false] at this
                rcases this with e | e | e <;> subst e
                · exact may.p
                · exact may.u
                · exact may.v
              refine sh ?_
              refine cM true [] (sgn3_c h.n71 ([u8 a.li.k] ++ (enc 4 a.li.c.a ++ enc 4 a.li.c.b ++ enc 4 a.li.c.c) ++ (a.li.three.take i).flatMap encP) x (by simp only [List.length_append, len_P, List.length_take]; simp; omega) hxx) ?_
              repeat ((intro _u; clear _u); first | refine eK ?_ | refine eP ?_)
              refine sh ?_
              refine nRm [0, 1, 2, 3, 7] (i + 1) ?_ ?_ ?_
              · omega
              · omega
              · all_goals repeat' (first | exact True.intro | refine And.intro ?_ ?_ | (intro _u; clear _u) | (with_reducible first | refine eM ?_ ?_ | refine eF ?_ ?_ ?_ | refine eN ?_ | refine eL ?_ ?_ ?_ | refine eA ?_ ?_ | refine IWk.mk ⟨_, hp, rfl⟩ ?_ ?_) | refine IWk.mk ⟨_, hp, rfl⟩ ?_ ?_)
                all_goals first | with_reducible rfl | omega | exact Or.inl (by decide) | (simp; done) | rfl | skip
                rw [flat_succ hx]; simp
                rw [flat_succ hx]; simp
            · rw [show a.li.three.take i = a.li.three from List.take_of_length_le (by simp; omega)]
              refine sh ?_
              exact rT
end Go.UM

namespace Go.UM
open Go.AM
structure Mf where
  (id kind label m0 m1 m2 m3 m4 m5 m6 m7 first last size chunks : Int)
def Mf.row (m : Mf) : List AV := [.int .u64 m.id, .int .i64 m.kind, .int .u32 m.label, .int .u8 m.m0, .int .u8 m.m1, .int .u8 m.m2, .int .u8 m.m3, .int .u8 m.m4, .int .u8 m.m5, .int .u8 m.m6, .int .u8 m.m7,
  .int .u32 m.first, .int .u32 m.last, .int .i64 m.size, .int .i64 m.chunks]
def Mf.mask (m : Mf) : Nat → Int
  | 0 => m.m0 | 1 => m.m1 | 2 => m.m2 | 3 => m.m3 | 4 => m.m4 | 5 => m.m5 | 6 => m.m6 | 7 => m.m7 | _ => 0
structure Mf.Ok (m : Mf) : Prop where
  id : inI .u64 m.id
  kind : inI .i64 m.kind
  label : inI .u32 m.label
  mask : ∀ i, 0 ≤ m.mask i ∧ m.mask i ≤ 255
  first : inI .u32 m.first
  last : inI .u32 m.last
  size : inI .i64 m.size
  chunks : inI .i64 m.chunks
end Go.UM

namespace Go.UM
open Go.AM
set_option maxRecDepth 4000
structure Rw where
  h : Int
  f : Mf
  a : As
def Rw.row (r : Rw) : List AV := [.int .i64 r.h, .int .u64 r.f.id, .int .i64 r.f.kind, .int .u32 r.f.label, .int .u8 r.f.m0, .int .u8 r.f.m1, .int .u8 r.f.m2, .int .u8 r.f.m3, .int .u8 r.f.m4, .int .u8 r.f.m5, .int .u8 r.f.m6, .int .u8 r.f.m7,
  .int .u32 r.f.first, .int .u32 r.f.last, .int .i64 r.f.size, .int .i64 r.f.chunks, .int .i64 r.a.k, .isl 3 (slc3 r.a.m.v), .isl 2 (slc2 r.a.m.uv), .isl 3 (slc3 r.a.m.t), .int .i64 r.a.x.side, .isl 3 (slc3 r.a.x.t),
  .int .i64 r.a.mt.k, .int .i64 r.a.mt.c.a, .int .i64 r.a.mt.c.b, .int .i64 r.a.mt.c.c, .int .i64 r.a.mt.r,
  .int .i64 r.a.li.k, .int .i64 r.a.li.c.a, .int .i64 r.a.li.c.b, .int .i64 r.a.li.c.c, .int .i64 r.a.li.p.a, .int .i64 r.a.li.p.b, .int .i64 r.a.li.p.c, .int .i64 r.a.li.u.a, .int .i64 r.a.li.u.b, .int .i64 r.a.li.u.c, .int .i64 r.a.li.v.a, .int .i64 r.a.li.v.b, .int .i64 r.a.li.v.c]
end Go.UM

namespace Go.UM
open Go.AM
set_option maxRecDepth 4000
deriving instance DecidableEq for T3
deriving instance DecidableEq for Mat
deriving instance DecidableEq for Lig
theorem T3.eq_iff {x y : T3} : (x.a == y.a && (x.b == y.b && x.c == y.c)) = true ↔ x = y := by
  cases x; cases y; simp
theorem T3.ne_iff {x y : T3} : (x.a == y.a && (x.b == y.b && x.c == y.c)) = false ↔ x ≠ y := by
  rw [← Bool.not_eq_true, T3.eq_iff]
theorem P2.eq_iff {x y : Int × Int} : (x.1 == y.1 && x.2 == y.2) = true ↔ x = y := by
  cases x; cases y; simp
theorem P2.ne_iff {x y : Int × Int} : (x.1 == y.1 && x.2 == y.2) = false ↔ x ≠ y := by
  rw [← Bool.not_eq_true, P2.eq_iff]
theorem ne_at {α : Type} {l l' : List α} {i : Nat} {x y : α} (h : l[i]? = some x) (h' : l'[i]? = some y) (hn : x ≠ y) : l ≠ l' := by
  intro e; subst e; rw [h] at h'; exact hn (Option.some.inj h')
theorem take_eq_succ {α : Type} {l l' : List α} {i : Nat} {x : α} (h : l[i]? = some x) (h' : l'[i]? = some x) (e : l.take i = l'.take i) : l.take (i + 1) = l'.take (i + 1) := by
  rw [take_succ_get h, take_succ_get h', e]
theorem eq_of_take {α : Type} {l l' : List α} {i : Nat} (h : l.take i = l'.take i) (hi : l.length ≤ i) (e : l.length = l'.length) : l = l' := by
  rwa [List.take_of_length_le hi, List.take_of_length_le (by omega)] at h
theorem alk315_c {R : Env} (h : N315 R) (l l' : List T3) (hl : l.length ≤ 1073741824) : R.Pc 315 [.isl 3 (slc3 l), .isl 3 (slc3 l')] (.bool (decide (l = l'))) :=
  h.o315.enter 100 rfl fun X bb hfit hp => by
    refine sh ?_
    refine cS (fun h1 => ?_) (fun h1 => ?_)
    · refine sh ?_
      refine rT ?_
      all_goals repeat' (first | exact True.intro | refine And.intro ?_ ?_ | (intro _u; clear _u) | (with_reducible first | refine eM ?_ ?_ | refine eF ?_ ?_ ?_ | refine eN ?_ | refine eL ?_ ?_ ?_ | refine eA ?_ ?_ | refine IWk.mk ⟨_, hp, rfl⟩ ?_ ?_) | refine IWk.mk ⟨_, hp, rfl⟩ ?_ ?_)
      all_goals first | with_reducible rfl | omega | exact Or.inl (by decide) | (simp; done) | rfl | skip
      refine (decide_eq_false ?_).symm
      exact fun e => h1 (by simp [e])
    · refine sh ?_
      refine lPa 100 (fun i : Nat => i ≤ l.length ∧ l.take i = l'.take i) (fun i => ⟨[(0, .isl 3 (slc3 l)), (1, .isl 3 (slc3 l')), (12, .int .i64 l.length), (13, .int .i64 i)], [], 0⟩) (fun i => l.length - i) (0) ?_ ?_
      · exact ⟨Nat.zero_le _, rfl⟩
      · intro i hi
        dsimp only
        refine sh ?_
        refine cS (fun h2 => ?_) (fun h2 => ?_)
        · obtain ⟨x, hx⟩ : ∃ u, l[i]? = some u := ⟨_, List.getElem?_eq_getElem (by omega)⟩
          obtain ⟨y, hy⟩ : ∃ u, l'[i]? = some u := ⟨_, List.getElem?_eq_getElem (by omega)⟩
          refine sh ?_
          refine eget_map hx ?_
          refine sh ?_
          refine eget_map hy ?_
          refine sh ?_
          refine cS (fun h3 => ?_) (fun h3 => ?_)
          · refine sh ?_
            refine rT ?_
            all_goals repeat' (first | exact True.intro | refine And.intro ?_ ?_ | (intro _u; clear _u) | (with_reducible first | refine eM ?_ ?_ | refine eF ?_ ?_ ?_ | refine eN ?_ | refine eL ?_ ?_ ?_ | refine eA ?_ ?_ | refine IWk.mk ⟨_, hp, rfl⟩ ?_ ?_) | refine IWk.mk ⟨_, hp, rfl⟩ ?_ ?_)
            all_goals first | with_reducible rfl | omega | exact Or.inl (by decide) | (simp; done) | rfl | skip
            refine (decide_eq_false ?_).symm
            exact ne_at hx hy (T3.ne_iff.1 h3)
          · have e := T3.eq_iff.1 h3
            subst e
            refine sh ?_
            refine nXa (i + 1) ?_ ?_
            · exact ⟨by omega, take_eq_succ hx hy hi.2⟩
            · omega
        · refine sh ?_
          refine rT ?_
          all_goals repeat' (first | exact True.intro | refine And.intro ?_ ?_ | (intro _u; clear _u) | (with_reducible first | refine eM ?_ ?_ | refine eF ?_ ?_ ?_ | refine eN ?_ | refine eL ?_ ?_ ?_ | refine eA ?_ ?_ | refine IWk.mk ⟨_, hp, rfl⟩ ?_ ?_) | refine IWk.mk ⟨_, hp, rfl⟩ ?_ ?_)
          all_goals first | with_reducible rfl | omega | exact Or.inl (by decide) | (simp; done) | rfl | skip
          refine (decide_eq_true ?_).symm
          exact eq_of_take hi.2 (by omega) (by omega)
theorem alk317_c {R : Env} (h : N317 R) (l l' : List T3) (hl : l.length ≤ 1073741824) : R.Pc 317 [.isl 3 (slc3 l), .isl 3 (slc3 l')] (.bool (decide (l = l'))) :=
  h.o317.enter 100 rfl fun X bb hfit hp => by
    refine sh ?_
    refine cS (fun h1 => ?_) (fun h1 => ?_)
    · refine sh ?_
      refine rT ?_
      all_goals repeat' (first | exact True.intro | refine And.intro ?_ ?_ | (intro _u; clear _u) | (with_reducible first | refine eM ?_ ?_ | refine eF ?_ ?_ ?_ | refine eN ?_ | refine eL ?_ ?_ ?_ | refine eA ?_ ?_ | refine IWk.mk ⟨_, hp, rfl⟩ ?_ ?_) | refine IWk.mk ⟨_, hp, rfl⟩ ?_ ?_)
      all_goals first | with_reducible rfl | omega | exact Or.inl (by decide) | (simp; done) | rfl | skip
      refine (decide_eq_false ?_).symm
      exact fun e => h1 (by simp [e])
    · refine sh ?_
      refine lPa 100 (fun i : Nat => i ≤ l.length ∧ l.take i = l'.take i) (fun i => ⟨[(0, .isl 3 (slc3 l)), (1, .isl 3 (slc3 l')), (12, .int .i64 l.length), (13, .int .i64 i)], [], 0⟩) (fun i => l.length - i) (0) ?_ ?_
      · exact ⟨Nat.zero_le _, rfl⟩
      · intro i hi
        dsimp only
        refine sh ?_
        refine cS (fun h2 => ?_) (fun h2 => ?_)
        · obtain ⟨x, hx⟩ : ∃ u, l[i]? = some u := ⟨_, List.getElem?_eq_getElem (by omega)⟩
          obtain ⟨y, hy⟩ : ∃ u, l'[i]? = some u := ⟨_, List.getElem?_eq_getElem (by omega)⟩
          refine sh ?_
          refine eget_map hx ?_
          refine sh ?_
          refine eget_map hy ?_
          refine sh ?_
          refine cS (fun h3 => ?_) (fun h3 => ?_)
          · refine sh ?_
            refine rT ?_
            all_goals repeat' (first | exact True.intro | refine And.intro ?_ ?_ | (intro _u; clear _u) | (with_reducible first | refine eM ?_ ?_ | refine eF ?_ ?_ ?_ | refine eN ?_ | refine eL ?_ ?_ ?_ | refine eA ?_ ?_ | refine IWk.mk ⟨_, hp, rfl⟩ ?_ ?_) | refine IWk.mk ⟨_, hp, rfl⟩ ?_ ?_)
            all_goals first | with_reducible rfl | omega | exact Or.inl (by decide) | (simp; done) | rfl | skip
            refine (decide_eq_false ?_).symm
            exact ne_at hx hy (T3.ne_iff.1 h3)
          · have e := T3.eq_iff.1 h3
            subst e
            refine sh ?_
            refine nXa (i + 1) ?_ ?_
            · exact ⟨by omega, take_eq_succ hx hy hi.2⟩
            · omega
        · refine sh ?_
          refine rT ?_
          all_goals repeat' (first | exact True.intro | refine And.intro ?_ ?_ | (intro _u; clear _u) | (with_reducible first | refine eM ?_ ?_ | refine eF ?_ ?_ ?_ | refine eN ?_ | refine eL ?_ ?_ ?_ | refine eA ?_ ?_ | refine IWk.mk ⟨_, hp, rfl⟩ ?_ ?_) | refine IWk.mk ⟨_, hp, rfl⟩ ?_ ?_)
          all_goals first | with_reducible rfl | omega | exact Or.inl (by decide) | (simp; done) | rfl | skip
          refine (decide_eq_true ?_).symm
          exact eq_of_take hi.2 (by omega) (by omega)
theorem alk316_c {R : Env} (h : N316 R) (l l' : List (Int × Int)) (hl : l.length ≤ 1073741824) : R.Pc 316 [.isl 2 (slc2 l), .isl 2 (slc2 l')] (.bool (decide (l = l'))) :=
  h.o316.enter 100 rfl fun X bb hfit hp => by
    refine sh ?_
    refine cS (fun h1 => ?_) (fun h1 => ?_)
    · refine sh ?_
      refine rT ?_
      all_goals repeat' (first | exact True.intro | refine And.intro ?_ ?_ | (intro _u; clear _u) | (with_reducible first | refine eM ?_ ?_ | refine eF ?_ ?_ ?_ | refine eN ?_ | refine eL ?_ ?_ ?_ | refine eA ?_ ?_ | refine IWk.mk ⟨_, hp, rfl⟩ ?_ ?_) | refine IWk.mk ⟨_, hp, rfl⟩ ?_ ?_)
      all_goals first | with_reducible rfl | omega | exact Or.inl (by decide) | (simp; done) | rfl | skip
      refine (decide_eq_false ?_).symm
      exact fun e => h1 (by simp [e])
    · refine sh ?_
      refine lPa 100 (fun i : Nat => i ≤ l.length ∧ l.take i = l'.take i) (fun i => ⟨[(0, .isl 2 (slc2 l)), (1, .isl 2 (slc2 l')), (12, .int .i64 l.length), (13, .int .i64 i)], [], 0⟩) (fun i => l.length - i) (0) ?_ ?_
      · exact ⟨Nat.zero_le _, rfl⟩
      · intro i hi
        dsimp only
        refine sh ?_
        refine cS (fun h2 => ?_) (fun h2 => ?_)
        · obtain ⟨x, hx⟩ : ∃ u, l[i]? = some u := ⟨_, List.getElem?_eq_getElem (by omega)⟩
          obtain ⟨y, hy⟩ : ∃ u, l'[i]? = some u := ⟨_, List.getElem?_eq_getElem (by omega)⟩
          refine sh ?_
          refine eget_map hx ?_
          refine sh ?_
          refine eget_map hy ?_
          refine sh ?_
          refine cS (fun h3 => ?_) (fun h3 => ?_)
          · refine sh ?_
            refine rT ?_
            all_goals repeat' (first | exact True.intro | refine And.intro ?_ ?_ | (intro _u; clear _u) | (with_reducible first | refine eM ?_ ?_ | refine eF ?_ ?_ ?_ | refine eN ?_ | refine eL ?_ ?_ ?_ | refine eA ?_ ?_ | refine IWk.mk ⟨_, hp, rfl⟩ ?_ ?_) | refine IWk.mk ⟨_, hp, rfl⟩ ?_ ?_)
            all_goals first | with_reducible rfl | omega | exact Or.inl (by decide) | (simp; done) | rfl | skip
            refine (decide_eq_false ?_).symm
            exact ne_at hx hy (P2.ne_iff.1 h3)
          · have e := P2.eq_iff.1 h3
            subst e
            refine sh ?_
            refine nXa (i + 1) ?_ ?_
            · exact ⟨by omega, take_eq_succ hx hy hi.2⟩
            · omega
        · refine sh ?_
          refine rT ?_
          all_goals repeat' (first | exact True.intro | refine And.intro ?_ ?_ | (intro _u; clear _u) | (with_reducible first | refine eM ?_ ?_ | refine eF ?_ ?_ ?_ | refine eN ?_ | refine eL ?_ ?_ ?_ | refine eA ?_ ?_ | refine IWk.mk ⟨_, hp, rfl⟩ ?_ ?_) | refine IWk.mk ⟨_, hp, rfl⟩ ?_ ?_)
          all_goals first | with_reducible rfl | omega | exact Or.inl (by decide) | (simp; done) | rfl | skip
          refine (decide_eq_true ?_).symm
          exact eq_of_take hi.2 (by omega) (by omega)
theorem Mat.eq_iff {x y : Mat} : (x.k == y.k && (x.c.a == y.c.a && (x.c.b == y.c.b && (x.c.c == y.c.c && x.r == y.r)))) = true ↔ x = y := by
  obtain ⟨_, ⟨_, _, _⟩, _⟩ := x; obtain ⟨_, ⟨_, _, _⟩, _⟩ := y; simp [and_assoc]
theorem Mat.ne_iff {x y : Mat} : (x.k == y.k && (x.c.a == y.c.a && (x.c.b == y.c.b && (x.c.c == y.c.c && x.r == y.r)))) = false ↔ x ≠ y := by
  rw [← Bool.not_eq_true, Mat.eq_iff]
theorem Lig.eq_iff {x y : Lig} : (x.k == y.k && (x.c.a == y.c.a && (x.c.b == y.c.b && (x.c.c == y.c.c && (x.p.a == y.p.a && (x.p.b == y.p.b && (x.p.c == y.p.c && (x.u.a == y.u.a && (x.u.b == y.u.b && (x.u.c == y.u.c && (x.v.a == y.v.a && (x.v.b == y.v.b && x.v.c == y.v.c)))))))))))) = true ↔ x = y := by
  obtain ⟨_, ⟨_, _, _⟩, ⟨_, _, _⟩, ⟨_, _, _⟩, ⟨_, _, _⟩⟩ := x; obtain ⟨_, ⟨_, _, _⟩, ⟨_, _, _⟩, ⟨_, _, _⟩, ⟨_, _, _⟩⟩ := y; simp [and_assoc]
theorem Lig.ne_iff {x y : Lig} : (x.k == y.k && (x.c.a == y.c.a && (x.c.b == y.c.b && (x.c.c == y.c.c && (x.p.a == y.p.a && (x.p.b == y.p.b && (x.p.c == y.p.c && (x.u.a == y.u.a && (x.u.b == y.u.b && (x.u.c == y.u.c && (x.v.a == y.v.a && (x.v.b == y.v.b && x.v.c == y.v.c)))))))))))) = false ↔ x ≠ y := by
  rw [← Bool.not_eq_true, Lig.eq_iff]
structure As.Few (a : As) : Prop where
  v : a.m.v.length ≤ 1000
  uv : a.m.uv.length ≤ 1000
  t : a.m.t.length ≤ 1000
  x : a.x.t.length ≤ 1000
def asame (a b : As) : Bool := decide (a.k = b.k ∧ a.mt = b.mt ∧ a.li = b.li ∧ a.x.side = b.x.side ∧ a.m.v = b.m.v ∧ a.m.uv = b.m.uv ∧ a.m.t = b.m.t ∧ a.x.t = b.x.t)
theorem same_c {R : Env} (h : N298 R) (a b : As) (f : a.Few) : R.Pc 298 [.agg a.row, .agg b.row] (.bool (asame a b)) :=
  h.o298.enter 100 rfl fun X bb hfit hp => by
    refine sh ?_
    refine cS (fun h1 => ?_) (fun h1 => ?_)
    · refine sh ?_
      refine rT ?_
      all_goals repeat' (first | exact True.intro | refine And.intro ?_ ?_ | (intro _u; clear _u) | (with_reducible first | refine eM ?_ ?_ | refine eF ?_ ?_ ?_ | refine eN ?_ | refine eL ?_ ?_ ?_ | refine eA ?_ ?_ | refine IWk.mk ⟨_, hp, rfl⟩ ?_ ?_) | refine IWk.mk ⟨_, hp, rfl⟩ ?_ ?_)
      all_goals first | with_reducible rfl | omega | exact Or.inl (by decide) | (simp; done) | rfl | skip
      exact (decide_eq_false fun e => h1 e.1).symm
    · refine sh ?_
      refine cS (fun h2 => ?_) (fun h2 => ?_)
      · refine sh ?_
        refine rT ?_
        all_goals repeat' (first | exact True.intro | refine And.intro ?_ ?_ | (intro _u; clear _u) | (with_reducible first | refine eM ?_ ?_ | refine eF ?_ ?_ ?_ | refine eN ?_ | refine eL ?_ ?_ ?_ | refine eA ?_ ?_ | refine IWk.mk ⟨_, hp, rfl⟩ ?_ ?_) | refine IWk.mk ⟨_, hp, rfl⟩ ?_ ?_)
        all_goals first | with_reducible rfl | omega | exact Or.inl (by decide) | (simp; done) | rfl | skip
        exact (decide_eq_false fun e => Mat.ne_iff.1 h2 e.2.1).symm
      · refine sh ?_
        refine cS (fun h3 => ?_) (fun h3 => ?_)
        · refine sh ?_
          refine rT ?_
          all_goals repeat' (first | exact True.intro | refine And.intro ?_ ?_ | (intro _u; clear _u) | (with_reducible first | refine eM ?_ ?_ | refine eF ?_ ?_ ?_ | refine eN ?_ | refine eL ?_ ?_ ?_ | refine eA ?_ ?_ | refine IWk.mk ⟨_, hp, rfl⟩ ?_ ?_) | refine IWk.mk ⟨_, hp, rfl⟩ ?_ ?_)
          all_goals first | with_reducible rfl | omega | exact Or.inl (by decide) | (simp; done) | rfl | skip
          exact (decide_eq_false fun e => Lig.ne_iff.1 h3 e.2.2.1).symm
        · refine sh ?_
          refine cS (fun h4 => ?_) (fun h4 => ?_)
          · refine sh ?_
            refine rT ?_
            all_goals repeat' (first | exact True.intro | refine And.intro ?_ ?_ | (intro _u; clear _u) | (with_reducible first | refine eM ?_ ?_ | refine eF ?_ ?_ ?_ | refine eN ?_ | refine eL ?_ ?_ ?_ | refine eA ?_ ?_ | refine IWk.mk ⟨_, hp, rfl⟩ ?_ ?_) | refine IWk.mk ⟨_, hp, rfl⟩ ?_ ?_)
            all_goals first | with_reducible rfl | omega | exact Or.inl (by decide) | (simp; done) | rfl | skip
            exact (decide_eq_false fun e => h4 e.2.2.2.1).symm
          · refine sh ?_
            refine ICall.pure h.n315.o315.hb (alk315_c h.n315 a.m.v b.m.v (by have := f.v; omega)) rfl ?_
            refine sh ?_
            refine cS (fun h5 => ?_) (fun h5 => ?_)
            · refine sh ?_
              refine ICall.pure h.n316.o316.hb (alk316_c h.n316 a.m.uv b.m.uv (by have := f.uv; omega)) rfl ?_
              refine sh ?_
              refine cS (fun h6 => ?_) (fun h6 => ?_)
              · refine sh ?_
                refine ICall.pure h.n317.o317.hb (alk317_c h.n317 a.m.t b.m.t (by have := f.t; omega)) rfl ?_
                refine sh ?_
                refine cS (fun h7 => ?_) (fun h7 => ?_)
                · refine sh ?_
                  refine ICall.pure h.n317.o317.hb (alk317_c h.n317 a.x.t b.x.t (by have := f.x; omega)) rfl ?_
                  refine sh ?_
                  refine rT ?_
                  all_goals repeat' (first | exact True.intro | refine And.intro ?_ ?_ | (intro _u; clear _u) | (with_reducible first | refine eM ?_ ?_ | refine eF ?_ ?_ ?_ | refine eN ?_ | refine eL ?_ ?_ ?_ | refine eA ?_ ?_ | refine IWk.mk ⟨_, hp, rfl⟩ ?_ ?_) | refine IWk.mk ⟨_, hp, rfl⟩ ?_ ?_)
                  all_goals first | with_reducible rfl | omega | exact Or.inl (by decide) | (simp; done) | rfl | skip
                  simp [asame, h1, Mat.eq_iff.1 h2, Lig.eq_iff.1 h3, h4, h5, h6, h7]
                · refine sh ?_
                  refine rT ?_
                  all_goals repeat' (first | exact True.intro | refine And.intro ?_ ?_ | (intro _u; clear _u) | (with_reducible first | refine eM ?_ ?_ | refine eF ?_ ?_ ?_ | refine eN ?_ | refine eL ?_ ?_ ?_ | refine eA ?_ ?_ | refine IWk.mk ⟨_, hp, rfl⟩ ?_ ?_) | refine IWk.mk ⟨_, hp, rfl⟩ ?_ ?_)
                  all_goals first | with_reducible rfl | omega | exact Or.inl (by decide) | (simp; done) | rfl | skip
                  exact (decide_eq_false fun e => h7 e.2.2.2.2.2.2.1).symm
              · refine sh ?_
                refine rT ?_
                all_goals repeat' (first | exact True.intro | refine And.intro ?_ ?_ | (intro _u; clear _u) | (with_reducible first | refine eM ?_ ?_ | refine eF ?_ ?_ ?_ | refine eN ?_ | refine eL ?_ ?_ ?_ | refine eA ?_ ?_ | refine IWk.mk ⟨_, hp, rfl⟩ ?_ ?_) | refine IWk.mk ⟨_, hp, rfl⟩ ?_ ?_)
                all_goals first | with_reducible rfl | omega | exact Or.inl (by decide) | (simp; done) | rfl | skip
                exact (decide_eq_false fun e => h6 e.2.2.2.2.2.1).symm
            · refine sh ?_
              refine rT ?_
              all_goals repeat' (first | exact True.intro | refine And.intro ?_ ?_ | (intro _u; clear _u) | (with_reducible first | refine eM ?_ ?_ | refine eF ?_ ?_ ?_ | refine eN ?_ | refine eL ?_ ?_ ?_ | refine eA ?_ ?_ | refine IWk.mk ⟨_, hp, rfl⟩ ?_ ?_) | refine IWk.mk ⟨_, hp, rfl⟩ ?_ ?_)
              all_goals first | with_reducible rfl | omega | exact Or.inl (by decide) | (simp; done) | rfl | skip
              exact (decide_eq_false fun e => h5 e.2.2.2.2.1).symm
end Go.UM

namespace Go.UM
open Go.AM
set_option maxRecDepth 4000
def cap (k : Int) : Int := if k = 1 then 2048 else if k = 2 then 1024 else if k = 3 ∨ k = 4 then 64 else 0
theorem cap_c {R : Env} (h : N37 R) (k : Int) : R.Pc 37 [.int .i64 k] (.int .i64 (cap k)) :=
  h.o37.enter 60 rfl fun X b hfit hp => by
    refine sh ?_
    refine cS (fun h1 => ?_) (fun h1 => ?_)
    · refine sh ?_
      refine rT ?_
      all_goals repeat' (first | exact True.intro | refine And.intro ?_ ?_ | (intro _u; clear _u) | (with_reducible first | refine eM ?_ ?_ | refine eF ?_ ?_ ?_ | refine eN ?_ | refine eL ?_ ?_ ?_ | refine eA ?_ ?_ | refine IWk.mk ⟨_, hp, rfl⟩ ?_ ?_) | refine IWk.mk ⟨_, hp, rfl⟩ ?_ ?_)
      all_goals first | with_reducible rfl | omega | exact Or.inl (by decide) | (simp; done) | rfl | skip
      simp [cap]; omega
    · refine sh ?_
      refine cS (fun h2 => ?_) (fun h2 => ?_)
      · refine sh ?_
        refine rT ?_
        all_goals repeat' (first | exact True.intro | refine And.intro ?_ ?_ | (intro _u; clear _u) | (with_reducible first | refine eM ?_ ?_ | refine eF ?_ ?_ ?_ | refine eN ?_ | refine eL ?_ ?_ ?_ | refine eA ?_ ?_ | refine IWk.mk ⟨_, hp, rfl⟩ ?_ ?_) | refine IWk.mk ⟨_, hp, rfl⟩ ?_ ?_)
        all_goals first | with_reducible rfl | omega | exact Or.inl (by decide) | (simp; done) | rfl | skip
        simp [cap]; omega
      · refine st ?_
        obtain h3 | h3 | h3 | h3 | h3 : k = 0 ∨ k = 1 ∨ k = 2 ∨ k = 3 ∨ k = 4 := by omega
        all_goals subst h3
        · refine sh ?_
          exact rT
        · refine sh ?_
          exact rT
        · refine sh ?_
          exact rT
        · refine sh ?_
          exact rT
        · refine sh ?_
          exact rT
end Go.UM

namespace Go.UM
open Go.AM
set_option maxRecDepth 4000
def zMs0 : Ms := ⟨[], [], []⟩
def zTx : Tex := ⟨0, []⟩
def zMat : Mat := ⟨0, z3, 0⟩
def zLig : Lig := ⟨0, z3, z3, z3, z3⟩
def As.zero (k : Int) : As := ⟨k, zMs0, zTx, zMat, zLig⟩
theorem zfew (k : Int) : (As.zero k).Few := by refine ⟨?_, ?_, ?_, ?_⟩ <;> simp [As.zero, zMs0, zTx]
def As.bare (a : As) : As := if a.k = 1 then { a with m := zMs0 } else if a.k = 2 then { a with x := zTx } else if a.k = 3 then { a with mt := zMat } else if a.k = 4 then { a with li := zLig } else a
def achk (a : As) : Int := if own a ≠ 0 then own a else if asame a.bare (As.zero a.k) = false then 5 else if cap a.k < (abytes a).length then 9 else 0
theorem own_c {R : Env} (h : N309 R) (a : As) (fx : a.x.t.length ≤ 1000) : R.Pc 309 [.agg a.row] (.int .i64 (own a)) :=
  h.o309.enter 100 rfl fun X bb hfit hp => by
    unfold own
    refine sh ?_
    refine cS (fun h1 => ?_) (fun h1 => ?_)
    · rw [if_pos h1]
      refine sh ?_
      refine ICall.pure h.n193.o193.hb (mcheck_c h.n193 a.m) rfl ?_
      refine sh ?_
      exact rT
    · rw [if_neg h1]
      refine sh ?_
      refine cS (fun h2 => ?_) (fun h2 => ?_)
      · rw [if_pos h2]
        refine sh ?_
        refine ICall.pure h.n84.o84.hb (tchk_c h.n84 a.x (by omega)) rfl ?_
        refine sh ?_
        exact rT
      · rw [if_neg h2]
        refine sh ?_
        refine cS (fun h3 => ?_) (fun h3 => ?_)
        · rw [if_pos h3]
          refine sh ?_
          refine ICall.pure h.n290.o290.hb (matk_c h.n290 a.mt) rfl ?_
          refine sh ?_
          exact rT
        · rw [if_neg h3]
          refine sh ?_
          refine cS (fun h4 => ?_) (fun h4 => ?_)
          · rw [if_pos h4]
            refine sh ?_
            refine ICall.pure h.n292.o292.hb (ligk_c h.n292 a.li) rfl ?_
            refine sh ?_
            exact rT
          · rw [if_neg h4]
            refine sh ?_
            exact rT
theorem bare_c {R : Env} (h : N310 R) (a : As) : R.Pc 310 [.agg a.row] (.agg a.bare.row) :=
  h.o310.enter 100 rfl fun X bb hfit hp => by
    unfold As.bare
    refine sh ?_
    refine cS (fun h1 => ?_) (fun h1 => ?_)
    · rw [if_pos h1]
      refine sh ?_
      exact rT
    · rw [if_neg h1]
      refine sh ?_
      refine cS (fun h2 => ?_) (fun h2 => ?_)
      · rw [if_pos h2]
        refine sh ?_
        exact rT
      · rw [if_neg h2]
        refine sh ?_
        refine cS (fun h3 => ?_) (fun h3 => ?_)
        · rw [if_pos h3]
          refine sh ?_
          exact rT
        · rw [if_neg h3]
          refine sh ?_
          refine cS (fun h4 => ?_) (fun h4 => ?_)
          · rw [if_pos h4]
            refine sh ?_
            exact rT
          · rw [if_neg h4]
            refine sh ?_
            exact rT
theorem As.Few.bare {a : As} (f : a.Few) : a.bare.Few := by
  unfold As.bare
  obtain ⟨f1, f2, f3, f4⟩ := f
  split
  · exact ⟨by simp [zMs0], by simp [zMs0], by simp [zMs0], f4⟩
  · split
    · exact ⟨f1, f2, f3, by simp [zTx]⟩
    · split
      · exact ⟨f1, f2, f3, f4⟩
      · split <;> exact ⟨f1, f2, f3, f4⟩
theorem acheckX_c {R : Env} (h : N294 R) (a : As) (fx : a.x.t.length ≤ 1000) (f : a.bare.Few) : R.Pc 294 [.agg a.row] (.int .i64 (achk a)) :=
  h.o294.enter 100 rfl fun X bb hfit hp => by
    refine sh ?_
    refine ICall.pure h.n309.o309.hb (own_c h.n309 a fx) rfl ?_
    generalize hq : achk a = q
    refine sh ?_
    refine cS (fun h1 => ?_) (fun h1 => ?_)
    · rw [achk, if_pos h1] at hq
      subst hq
      refine sh ?_
      exact rT
    · rw [achk, if_neg (by simpa using h1)] at hq
      have ok := h1
      refine sh ?_
      refine cM false [] ((bare_c h.n310 a).mc h.n310.o310.hb) ?_
      repeat ((intro _u; clear _u); first | refine eK ?_ | refine eP ?_)
      refine sh ?_
      refine cM false [] ((same_c h.n298 a.bare (As.zero a.k) f).mc h.n298.o298.hb) ?_
      repeat ((intro _u; clear _u); first | refine eK ?_ | refine eP ?_)
      refine sh ?_
      refine cS (fun h2 => ?_) (fun h2 => ?_)
      · rw [if_pos (by simpa using h2)] at hq
        subst hq
        refine sh ?_
        exact rT
      · rw [if_neg (by simpa using h2)] at hq
        refine sh ?_
        refine ICall.pure h.n311.o311.hb (encode_c h.n311 a (by omega) ok) rfl ?_
        refine sh ?_
        refine ICall.pure h.n37.o37.hb (cap_c h.n37 a.k) rfl ?_
        refine sh ?_
        refine cS (fun h3 => ?_) (fun h3 => ?_)
        · rw [if_pos h3] at hq
          subst hq
          refine sh ?_
          exact rT
        · rw [if_neg (by omega)] at hq
          subst hq
          refine sh ?_
          exact rT
end Go.UM

namespace Go.UM
open Go.AM
set_option maxRecDepth 4000
structure Tb where
  rows : List Rw
  ins : List In
def rwE (r : Rw) : List AV := .int .i64 r.h :: r.row
def rwL (l : List Rw) : List (List AV) := l.map rwE
@[simp] theorem rwL_length (l : List Rw) : (rwL l).length = l.length := by simp [rwL]
@[simp] theorem rwL_append (a b : List Rw) : rwL (a ++ b) = rwL a ++ rwL b := by simp [rwL]
@[simp] theorem rwL_NmL (l : List Rw) : NmL (rwL l) := by simp [rwL, rwE, Rw.row]
def rget (l : List Rw) (h : Int) : Option Rw := l.find? fun r => r.h == h
def sameN (x y : In) : Bool := x.mesh == y.mesh && (x.mat == y.mat && (x.tex == y.tex && x.n == y.n))
def iget (l : List In) (x : In) : Option In := l.find? fun y => sameN x y
theorem row_ok {h : Int} {l : List Rw} : ∀ e ∈ rwL l, kvOk [.i] [.int .i64 h] e = true := by
  intro e he
  obtain ⟨r, _, rfl⟩ := List.mem_map.1 he
  rfl
theorem row_find (h : Int) : ∀ l : List Rw, ∃ i : Nat, mfind [.int .i64 h] (rwL l) = (rget l h).map fun r => (i, r.row)
  | [] => ⟨0, rfl⟩
  | r :: l => by
    obtain ⟨i, hi⟩ := row_find h l
    have e : kvB [.int .i64 h] (rwE r) = (r.h == h) := by
      show ((h == r.h) && true) = _
      rw [Bool.and_true]; exact Bool.beq_comm
    by_cases hh : (r.h == h) = true
    · refine ⟨0, ?_⟩
      show (if kvB [.int .i64 h] (rwE r) then some (0, (rwE r).drop 1) else _) = _
      rw [e, if_pos hh]; simp only [rget, List.find?_cons, hh]; rfl
    · refine ⟨i + 1, ?_⟩
      show (if kvB [.int .i64 h] (rwE r) then some (0, (rwE r).drop 1) else (mfind [.int .i64 h] (rwL l)).map fun q => (q.1 + 1, q.2)) = _
      rw [e, if_neg hh, hi]; simp only [rget, List.find?_cons, hh]
      cases List.find? (fun r => r.h == h) l <;> rfl
theorem afdR {h : Int} {l : List Rw} {K : Option (Nat × List AV) → Prop} (k : ∀ i : Nat, K ((rget l h).map fun r => (i, r.row))) : AFd [.i] [.int .i64 h] (rwL l) K := by
  obtain ⟨i, hi⟩ := row_find h l
  exact ⟨row_ok, by rw [hi]; exact k i⟩
theorem in_ok {x : In} {l : List In} : ∀ e ∈ sIn l, kvOk [.i, .i, .i, .i] [.int .i64 x.mesh, .int .i64 x.mat, .int .i64 x.tex, .int .i64 x.n] e = true := by
  intro e he
  obtain ⟨r, _, rfl⟩ := List.mem_map.1 he
  rfl
theorem in_find (x : In) : ∀ l : List In, ∃ i : Nat, mfind [.int .i64 x.mesh, .int .i64 x.mat, .int .i64 x.tex, .int .i64 x.n] (sIn l) = (iget l x).map fun r => (i, r.t.row)
  | [] => ⟨0, rfl⟩
  | r :: l => by
    obtain ⟨i, hi⟩ := in_find x l
    have e : kvB [.int .i64 x.mesh, .int .i64 x.mat, .int .i64 x.tex, .int .i64 x.n] r.row = sameN x r := by
      show (x.mesh == r.mesh && (x.mat == r.mat && (x.tex == r.tex && (x.n == r.n && true)))) = _
      rw [Bool.and_true]; rfl
    by_cases hh : sameN x r = true
    · refine ⟨0, ?_⟩
      show (if kvB [.int .i64 x.mesh, .int .i64 x.mat, .int .i64 x.tex, .int .i64 x.n] r.row then some (0, r.row.drop 4) else _) = _
      rw [e, if_pos hh]; simp only [iget, List.find?_cons, hh]; rfl
    · refine ⟨i + 1, ?_⟩
      show (if kvB [.int .i64 x.mesh, .int .i64 x.mat, .int .i64 x.tex, .int .i64 x.n] r.row then some (0, r.row.drop 4) else (mfind _ (sIn l)).map fun q => (q.1 + 1, q.2)) = _
      rw [e, if_neg hh, hi]; simp only [iget, List.find?_cons, hh]
      cases List.find? (fun y => sameN x y) l <;> rfl
theorem afdI {x : In} {l : List In} {K : Option (Nat × List AV) → Prop} (k : ∀ i : Nat, K ((iget l x).map fun r => (i, r.t.row))) : AFd [.i, .i, .i, .i] [.int .i64 x.mesh, .int .i64 x.mat, .int .i64 x.tex, .int .i64 x.n] (sIn l) K := by
  obtain ⟨i, hi⟩ := in_find x l
  exact ⟨in_ok, by rw [hi]; exact k i⟩
abbrev tabM (R : Env) (d1 d2 : Bool) (t : Tb) : IMem := [(0, .map 1 false true d1 41 (rwL t.rows)), (1, .map 4 true true d2 16 (sIn t.ins)), (2, .var (R.ty 47) [.omap 0, .omap 1])]
theorem tnew_c {R : Env} (h : N345 R) : R.Mc 345 [] [] (.loc 2 1 0 0) (tabM R true true ⟨[], []⟩) 3 :=
  h.o345.enterM 60 0 rfl rfl rfl fun X bb hfit hp => by
    refine sh ?_
    exact rM [0, 1, 2]
theorem tnone_c {R : Env} (h : N355 R) (d1 d2 : Bool) (t : Tb) : R.Mc 355 [.loc 2 1 0 0] (tabM R d1 d2 t) (.bool false) (tabM R d1 d2 t) 3 :=
  h.o355.enterM 60 3 rfl rfl rfl fun X bb hfit hp => by
    unfold tabM
    refine sh ?_
    exact rM [0, 1, 2]
theorem of_c {R : Env} (h : N358 R) (x : In) : R.Pc 358 [.agg x.row] (.agg [.int .i64 x.mesh, .int .i64 x.mat, .int .i64 x.tex, .int .i64 x.n]) :=
  h.o358.enter 60 rfl fun X bb hfit hp => by
    refine sh ?_
    exact rT
def tparts (l : List Rw) (x : In) : Int :=
  match rget l x.mesh with
  | none => 11
  | some a => match rget l x.mat with
    | none => 11
    | some b => if x.tex = 0 then (if a.f.kind ≠ 1 ∨ b.f.kind ≠ 3 then 12 else 0) else match rget l x.tex with
      | none => 11
      | some c => if a.f.kind ≠ 1 ∨ b.f.kind ≠ 3 ∨ c.f.kind ≠ 2 then 12 else 0
def pL (x : In) : List (List AV) := [[.int .i64 x.mesh, .int .i64 1], [.int .i64 x.mat, .int .i64 3], [.int .i64 x.tex, .int .i64 2]]
theorem pAt {x : In} {i : Nat} {r : List AV} {K : List AV → Prop} (h : (pL x)[i]? = some r) (k : K r) : AElt [[.int .i64 x.mesh, .int .i64 1], [.int .i64 x.mat, .int .i64 3], [.int .i64 x.tex, .int .i64 2]] 3 i K :=
  aelt_map (f := fun x : List AV => x) (l := pL x) rfl h k
set_option maxHeartbeats 4000000 in
theorem parts_c {R : Env} (h : N357 R) (d1 d2 : Bool) (t : Tb) (x : In) : R.Mc 357 [.loc 2 1 0 0, .agg x.row] (tabM R d1 d2 t) (.int .i64 (tparts t.rows x)) (tabM R d1 d2 t) 3 :=
  h.o357.enterM 100 3 rfl rfl rfl fun X bb hfit hp => by
    unfold tabM
    have hq : ∃ q, tparts t.rows x = q := ⟨_, rfl⟩
    obtain ⟨q, hq⟩ := hq
    rw [hq]
    unfold tparts at hq
    refine sh ?_
    refine ILoop.one 100 ?_
    refine sh ?_
    refine acnd_t (by rfl) ?_
    refine sh ?_
    refine pAt (i := 0) rfl ?_
    refine sh ?_
    refine afdR fun i => ?_
    cases ha : rget t.rows x.mesh with
    | none =>
      rw [ha] at hq
      refine sh ?_
      refine acnd_f (by decide) ?_
      subst hq
      refine sh ?_
      exact rM [0, 1, 2]
    | some a =>
      rw [ha] at hq
      dsimp only [Option.map_some] at hq ⊢
      refine sh ?_
      refine acnd_f (by decide) ?_
      refine sh ?_
      refine cS (fun k1 => ?_) (fun k1 => ?_)
      · refine sh ?_
        refine ILoop.one 100 ?_
        refine sh ?_
        refine acnd_t (by rfl) ?_
        refine sh ?_
        refine pAt (i := 1) rfl ?_
        refine sh ?_
        refine afdR fun i => ?_
        cases hb : rget t.rows x.mat with
        | none =>
          rw [hb] at hq
          refine sh ?_
          refine acnd_f (by decide) ?_
          subst hq
          refine sh ?_
          exact rM [0, 1, 2]
        | some b =>
          rw [hb] at hq
          dsimp only [Option.map_some] at hq ⊢
          refine sh ?_
          refine acnd_f (by decide) ?_
          refine sh ?_
          refine cS (fun k2 => ?_) (fun k2 => ?_)
          · refine sh ?_
            refine ILoop.one 100 ?_
            refine sh ?_
            refine acnd_t (by rfl) ?_
            refine sh ?_
            refine pAt (i := 2) rfl ?_
            refine sh ?_
            refine afdR fun i => ?_
            by_cases hx : x.tex = 0
            · rw [if_pos hx] at hq
              cases rget t.rows x.tex <;> dsimp only [Option.map_some, Option.map_none]
              · refine sh ?_
                refine acnd_t (by decide) ?_
                refine sh ?_
                refine acnd_t (by simp; exact hx) ?_
                first | rw [if_pos (by omega)] at hq | rw [if_neg (by omega)] at hq
                refine sh ?_
                refine ILoop.one 100 ?_
                refine sh ?_
                refine acnd_f (by rfl) ?_
                subst hq
                refine sh ?_
                exact rM [0, 1, 2]
              · refine sh ?_
                refine acnd_t (by decide) ?_
                refine sh ?_
                refine acnd_t (by simp; exact hx) ?_
                first | rw [if_pos (by omega)] at hq | rw [if_neg (by omega)] at hq
                refine sh ?_
                refine ILoop.one 100 ?_
                refine sh ?_
                refine acnd_f (by rfl) ?_
                subst hq
                refine sh ?_
                exact rM [0, 1, 2]
            · rw [if_neg hx] at hq
              cases hc : rget t.rows x.tex with
              | none =>
                rw [hc] at hq
                refine sh ?_
                refine acnd_t (by decide) ?_
                refine sh ?_
                refine acnd_f (by simp; exact hx) ?_
                subst hq
                refine sh ?_
                exact rM [0, 1, 2]
              | some c =>
                rw [hc] at hq
                dsimp only [Option.map_some] at hq ⊢
                refine sh ?_
                refine acnd_t (by decide) ?_
                refine sh ?_
                refine acnd_f (by simp; exact hx) ?_
                refine sh ?_
                refine cS (fun k3 => ?_) (fun k3 => ?_)
                · first | rw [if_pos (by omega)] at hq | rw [if_neg (by omega)] at hq
                  refine sh ?_
                  refine ILoop.one 100 ?_
                  refine sh ?_
                  refine acnd_f (by rfl) ?_
                  subst hq
                  refine sh ?_
                  exact rM [0, 1, 2]
                · first | rw [if_pos (by omega)] at hq | rw [if_neg (by omega)] at hq
                  refine sh ?_
                  refine ILoop.one 100 ?_
                  refine sh ?_
                  refine acnd_f (by rfl) ?_
                  subst hq
                  refine sh ?_
                  exact rM [0, 1, 2]
          · refine sh ?_
            refine ILoop.one 100 ?_
            refine sh ?_
            refine acnd_t (by rfl) ?_
            refine sh ?_
            refine pAt (i := 2) rfl ?_
            refine sh ?_
            refine afdR fun i => ?_
            by_cases hx : x.tex = 0
            · rw [if_pos hx] at hq
              cases rget t.rows x.tex <;> dsimp only [Option.map_some, Option.map_none]
              · refine sh ?_
                refine acnd_t (by decide) ?_
                refine sh ?_
                refine acnd_t (by simp; exact hx) ?_
                first | rw [if_pos (by omega)] at hq | rw [if_neg (by omega)] at hq
                refine sh ?_
                refine ILoop.one 100 ?_
                refine sh ?_
                refine acnd_f (by rfl) ?_
                subst hq
                refine sh ?_
                exact rM [0, 1, 2]
              · refine sh ?_
                refine acnd_t (by decide) ?_
                refine sh ?_
                refine acnd_t (by simp; exact hx) ?_
                first | rw [if_pos (by omega)] at hq | rw [if_neg (by omega)] at hq
                refine sh ?_
                refine ILoop.one 100 ?_
                refine sh ?_
                refine acnd_f (by rfl) ?_
                subst hq
                refine sh ?_
                exact rM [0, 1, 2]
            · rw [if_neg hx] at hq
              cases hc : rget t.rows x.tex with
              | none =>
                rw [hc] at hq
                refine sh ?_
                refine acnd_t (by decide) ?_
                refine sh ?_
                refine acnd_f (by simp; exact hx) ?_
                subst hq
                refine sh ?_
                exact rM [0, 1, 2]
              | some c =>
                rw [hc] at hq
                dsimp only [Option.map_some] at hq ⊢
                refine sh ?_
                refine acnd_t (by decide) ?_
                refine sh ?_
                refine acnd_f (by simp; exact hx) ?_
                refine sh ?_
                refine cS (fun k3 => ?_) (fun k3 => ?_)
                · first | rw [if_pos (by omega)] at hq | rw [if_neg (by omega)] at hq
                  refine sh ?_
                  refine ILoop.one 100 ?_
                  refine sh ?_
                  refine acnd_f (by rfl) ?_
                  subst hq
                  refine sh ?_
                  exact rM [0, 1, 2]
                · first | rw [if_pos (by omega)] at hq | rw [if_neg (by omega)] at hq
                  refine sh ?_
                  refine ILoop.one 100 ?_
                  refine sh ?_
                  refine acnd_f (by rfl) ?_
                  subst hq
                  refine sh ?_
                  exact rM [0, 1, 2]
      · refine sh ?_
        refine ILoop.one 100 ?_
        refine sh ?_
        refine acnd_t (by rfl) ?_
        refine sh ?_
        refine pAt (i := 1) rfl ?_
        refine sh ?_
        refine afdR fun i => ?_
        cases hb : rget t.rows x.mat with
        | none =>
          rw [hb] at hq
          refine sh ?_
          refine acnd_f (by decide) ?_
          subst hq
          refine sh ?_
          exact rM [0, 1, 2]
        | some b =>
          rw [hb] at hq
          dsimp only [Option.map_some] at hq ⊢
          refine sh ?_
          refine acnd_f (by decide) ?_
          refine sh ?_
          refine cS (fun k2 => ?_) (fun k2 => ?_)
          · refine sh ?_
            refine ILoop.one 100 ?_
            refine sh ?_
            refine acnd_t (by rfl) ?_
            refine sh ?_
            refine pAt (i := 2) rfl ?_
            refine sh ?_
            refine afdR fun i => ?_
            by_cases hx : x.tex = 0
            · rw [if_pos hx] at hq
              cases rget t.rows x.tex <;> dsimp only [Option.map_some, Option.map_none]
              · refine sh ?_
                refine acnd_t (by decide) ?_
                refine sh ?_
                refine acnd_t (by simp; exact hx) ?_
                first | rw [if_pos (by omega)] at hq | rw [if_neg (by omega)] at hq
                refine sh ?_
                refine ILoop.one 100 ?_
                refine sh ?_
                refine acnd_f (by rfl) ?_
                subst hq
                refine sh ?_
                exact rM [0, 1, 2]
              · refine sh ?_
                refine acnd_t (by decide) ?_
                refine sh ?_
                refine acnd_t (by simp; exact hx) ?_
                first | rw [if_pos (by omega)] at hq | rw [if_neg (by omega)] at hq
                refine sh ?_
                refine ILoop.one 100 ?_
                refine sh ?_
                refine acnd_f (by rfl) ?_
                subst hq
                refine sh ?_
                exact rM [0, 1, 2]
            · rw [if_neg hx] at hq
              cases hc : rget t.rows x.tex with
              | none =>
                rw [hc] at hq
                refine sh ?_
                refine acnd_t (by decide) ?_
                refine sh ?_
                refine acnd_f (by simp; exact hx) ?_
                subst hq
                refine sh ?_
                exact rM [0, 1, 2]
              | some c =>
                rw [hc] at hq
                dsimp only [Option.map_some] at hq ⊢
                refine sh ?_
                refine acnd_t (by decide) ?_
                refine sh ?_
                refine acnd_f (by simp; exact hx) ?_
                refine sh ?_
                refine cS (fun k3 => ?_) (fun k3 => ?_)
                · first | rw [if_pos (by omega)] at hq | rw [if_neg (by omega)] at hq
                  refine sh ?_
                  refine ILoop.one 100 ?_
                  refine sh ?_
                  refine acnd_f (by rfl) ?_
                  subst hq
                  refine sh ?_
                  exact rM [0, 1, 2]
                · first | rw [if_pos (by omega)] at hq | rw [if_neg (by omega)] at hq
                  refine sh ?_
                  refine ILoop.one 100 ?_
                  refine sh ?_
                  refine acnd_f (by rfl) ?_
                  subst hq
                  refine sh ?_
                  exact rM [0, 1, 2]
          · refine sh ?_
            refine ILoop.one 100 ?_
            refine sh ?_
            refine acnd_t (by rfl) ?_
            refine sh ?_
            refine pAt (i := 2) rfl ?_
            refine sh ?_
            refine afdR fun i => ?_
            by_cases hx : x.tex = 0
            · rw [if_pos hx] at hq
              cases rget t.rows x.tex <;> dsimp only [Option.map_some, Option.map_none]
              · refine sh ?_
                refine acnd_t (by decide) ?_
                refine sh ?_
                refine acnd_t (by simp; exact hx) ?_
                first | rw [if_pos (by omega)] at hq | rw [if_neg (by omega)] at hq
                refine sh ?_
                refine ILoop.one 100 ?_
                refine sh ?_
                refine acnd_f (by rfl) ?_
                subst hq
                refine sh ?_
                exact rM [0, 1, 2]
              · refine sh ?_
                refine acnd_t (by decide) ?_
                refine sh ?_
                refine acnd_t (by simp; exact hx) ?_
                first | rw [if_pos (by omega)] at hq | rw [if_neg (by omega)] at hq
                refine sh ?_
                refine ILoop.one 100 ?_
                refine sh ?_
                refine acnd_f (by rfl) ?_
                subst hq
                refine sh ?_
                exact rM [0, 1, 2]
            · rw [if_neg hx] at hq
              cases hc : rget t.rows x.tex with
              | none =>
                rw [hc] at hq
                refine sh ?_
                refine acnd_t (by decide) ?_
                refine sh ?_
                refine acnd_f (by simp; exact hx) ?_
                subst hq
                refine sh ?_
                exact rM [0, 1, 2]
              | some c =>
                rw [hc] at hq
                dsimp only [Option.map_some] at hq ⊢
                refine sh ?_
                refine acnd_t (by decide) ?_
                refine sh ?_
                refine acnd_f (by simp; exact hx) ?_
                refine sh ?_
                refine cS (fun k3 => ?_) (fun k3 => ?_)
                · first | rw [if_pos (by omega)] at hq | rw [if_neg (by omega)] at hq
                  refine sh ?_
                  refine ILoop.one 100 ?_
                  refine sh ?_
                  refine acnd_f (by rfl) ?_
                  subst hq
                  refine sh ?_
                  exact rM [0, 1, 2]
                · first | rw [if_pos (by omega)] at hq | rw [if_neg (by omega)] at hq
                  refine sh ?_
                  refine ILoop.one 100 ?_
                  refine sh ?_
                  refine acnd_f (by rfl) ?_
                  subst hq
                  refine sh ?_
                  exact rM [0, 1, 2]
end Go.UM

namespace Go.UM
open Go.AM
set_option maxRecDepth 4000
def f3 (r : Rd) : T3 × Rd := (⟨(r.int 2).1, ((r.int 2).2.int 2).1, (((r.int 2).2.int 2).2.int 2).1⟩, (((r.int 2).2.int 2).2.int 2).2)
def f2 (r : Rd) : (Int × Int) × Rd := (((r.num 2).1, ((r.num 2).2.num 2).1), ((r.num 2).2.num 2).2)
def ft (r : Rd) : T3 × Rd := (⟨(r.num 1).1, ((r.num 1).2.num 1).1, (((r.num 1).2.num 1).2.num 1).1⟩, (((r.num 1).2.num 1).2.num 1).2)
theorem RdOk.f3 {B : List UInt8} {r : Rd} (h : RdOk B r) : RdOk B (f3 r).2 := ((h.int 2).int 2).int 2
theorem RdOk.f2 {B : List UInt8} {r : Rd} (h : RdOk B r) : RdOk B (f2 r).2 := (h.num 2).num 2
theorem RdOk.ft {B : List UInt8} {r : Rd} (h : RdOk B r) : RdOk B (ft r).2 := ((h.num 1).num 1).num 1
theorem RdOk.rdN {B : List UInt8} {α : Type} {f : Rd → α × Rd} (hf : ∀ r, RdOk B r → RdOk B (f r).2) (n : Nat) : ∀ {r : Rd}, RdOk B r → RdOk B (rdN f n r).2 := by
  induction n with
  | zero => exact fun h => h
  | succ n ih => exact fun h => hf _ (ih h)
def zMs : Ms := ⟨[], [], []⟩
def mq (nv nt : Nat) (r : Rd) : Ms × Rd := (⟨(rdN f3 nv r).1, (rdN f2 nv (rdN f3 nv r).2).1, (rdN ft nt (rdN f2 nv (rdN f3 nv r).2).2).1⟩, (rdN ft nt (rdN f2 nv (rdN f3 nv r).2).2).2)
def mfin (q : Ms × Rd) : Ms × Int := if q.2.fin ≠ 0 then (zMs, q.2.fin) else if mchk q.1 ≠ 0 then (zMs, mchk q.1) else (q.1, 0)
def mdecd (b : List UInt8) : Ms × Int := mfin (mq ((⟨b, 0, true⟩ : Rd).num 1).1 (((⟨b, 0, true⟩ : Rd).num 1).2.num 1).1 (((⟨b, 0, true⟩ : Rd).num 1).2.num 1).2)
end Go.UM

namespace Go.UM
open Go.AM
set_option maxRecDepth 4000
def tri : List UInt8 → List T3
  | a :: b :: c :: r => ⟨a.toNat, b.toNat, c.toNat⟩ :: tri r
  | _ => []
def zTex : Tex := ⟨0, []⟩
def tdec (b : List UInt8) : Tex × Int := match b with
  | [] => (zTex, 4)
  | s :: rest => if rest.length < 3 * (s.toNat * s.toNat) then (zTex, 4) else if 3 * (s.toNat * s.toNat) < rest.length then (zTex, 5) else
    if tchk ⟨s.toNat, tri rest⟩ ≠ 0 then (zTex, tchk ⟨s.toNat, tri rest⟩) else (⟨s.toNat, tri rest⟩, 0)
end Go.UM

namespace Go.UM
open Go.AM
set_option maxRecDepth 4000
def fw (w : Int) (r : Rd) : T3 × Rd := (⟨(r.num w).1, ((r.num w).2.num w).1, (((r.num w).2.num w).2.num w).1⟩, (((r.num w).2.num w).2.num w).2)
theorem RdOk.fw {B : List UInt8} {r : Rd} (h : RdOk B r) (w : Int) : RdOk B (fw w r).2 := ((h.num w).num w).num w
def matd (r : Rd) : Mat × Rd := (⟨(r.num 1).1, (fw 2 (r.num 1).2).1, ((fw 2 (r.num 1).2).2.num 2).1⟩, ((fw 2 (r.num 1).2).2.num 2).2)
def ligd (r : Rd) : Lig × Rd := (⟨(r.num 1).1, (fw 4 (r.num 1).2).1, (f3 (fw 4 (r.num 1).2).2).1, (f3 (f3 (fw 4 (r.num 1).2).2).2).1, (f3 (f3 (f3 (fw 4 (r.num 1).2).2).2).2).1⟩, (f3 (f3 (f3 (fw 4 (r.num 1).2).2).2).2).2)
def apart (k : Int) (b : List UInt8) : As × Int :=
  if k = 1 then ({ As.zero k with m := (mdecd b).1 }, (mdecd b).2)
  else if k = 2 then ({ As.zero k with x := (tdec b).1 }, (tdec b).2)
  else if k = 3 then ({ As.zero k with mt := (matd ⟨b, 0, true⟩).1 }, (matd ⟨b, 0, true⟩).2.fin)
  else if k = 4 then ({ As.zero k with li := (ligd ⟨b, 0, true⟩).1 }, (ligd ⟨b, 0, true⟩).2.fin)
  else (As.zero k, 0)
end Go.UM

namespace Go.UM
open Go.AM
set_option maxRecDepth 4000
end Go.UM

namespace Go.UM
open Go.AM
set_option maxRecDepth 4000
theorem asame_eq {a b : As} (h : asame a b = true) : a = b := by
  simp only [asame, decide_eq_true_eq] at h
  obtain ⟨ak, ⟨_, _, _⟩, ⟨_, _⟩, am, al⟩ := a
  obtain ⟨bk, ⟨_, _, _⟩, ⟨_, _⟩, bm, bl⟩ := b
  dsimp only at h
  obtain ⟨rfl, rfl, rfl, rfl, rfl, rfl, rfl, rfl⟩ := h
  rfl
theorem achk_zero {a : As} (h : achk a = 0) : own a = 0 ∧ a.bare = As.zero a.k ∧ (abytes a).length ≤ cap a.k := by
  unfold achk at h
  split at h
  · rename_i h1; exact absurd h h1
  · rename_i h1
    split at h
    · cases h
    · rename_i h2
      split at h
      · cases h
      · rename_i h3
        exact ⟨by simpa using h1, asame_eq (by simpa using h2), by omega⟩
end Go.UM

namespace Go.UM
open Go.AM
set_option maxRecDepth 4000
theorem clone26_c {R : Env} (h : N361 R) (l : List T3) (hl : l.length ≤ 1073741824) : R.Mc 361 [.isl 3 (slc3 l)] [] (.osl 0 l.length) [(0, .arr (R.ty 26) 3 (slc3 l))] 1 :=
  h.o361.enterM 60 0 rfl rfl rfl fun X b hfit hp => by
    refine sh ?_
    refine ANil.mk (fun hn => ?_) ?_
    · have : l = [] := by simpa [slc3] using hn
      subst this
      refine sh ?_
      exact rM [50]
    · refine sh ?_
      exact rM [0]
theorem clone18_c {R : Env} (h : N362 R) (l : List (Int × Int)) (hl : l.length ≤ 1073741824) : R.Mc 362 [.isl 2 (slc2 l)] [] (.osl 0 l.length) [(0, .arr (R.ty 18) 2 (slc2 l))] 1 :=
  h.o362.enterM 60 0 rfl rfl rfl fun X b hfit hp => by
    refine sh ?_
    refine ANil.mk (fun hn => ?_) ?_
    · have : l = [] := by simpa [slc2] using hn
      subst this
      refine sh ?_
      exact rM [50]
    · refine sh ?_
      exact rM [0]
theorem clone13_c {R : Env} (h : N101 R) (l : List T3) (hl : l.length ≤ 1073741824) : R.Mc 101 [.isl 3 (slc3 l)] [] (.osl 0 l.length) [(0, .arr (R.ty 13) 3 (slc3 l))] 1 :=
  h.o101.enterM 60 0 rfl rfl rfl fun X b hfit hp => by
    refine sh ?_
    refine ANil.mk (fun hn => ?_) ?_
    · have : l = [] := by simpa [slc3] using hn
      subst this
      refine sh ?_
      exact rM [50]
    · refine sh ?_
      exact rM [0]
theorem clone26p_c {R : Env} (h : N361 R) (l : List T3) (hl : l.length ≤ 1073741824) : R.Pc 361 [.isl 3 (slc3 l)] (.isl 3 (slc3 l)) := (clone26_c h l hl).pc fZ
theorem clone18p_c {R : Env} (h : N362 R) (l : List (Int × Int)) (hl : l.length ≤ 1073741824) : R.Pc 362 [.isl 2 (slc2 l)] (.isl 2 (slc2 l)) := (clone18_c h l hl).pc fZ
theorem clone13p_c {R : Env} (h : N101 R) (l : List T3) (hl : l.length ≤ 1073741824) : R.Pc 101 [.isl 3 (slc3 l)] (.isl 3 (slc3 l)) := (clone13_c h l hl).pc fZ
theorem copied_c' {R : Env} (h : N356 R) (a : As) (f : a.Few) : R.Pc 356 [.agg a.row] (.agg a.row) :=
  h.o356.enter 100 rfl fun X bb hfit hp => by
    obtain ⟨f1, f2, f3, f4⟩ := f
    refine sh ?_
    refine ICall.pure h.n361.o361.hb (clone26p_c h.n361 a.m.v (by omega)) rfl ?_
    refine sh ?_
    refine ICall.pure h.n362.o362.hb (clone18p_c h.n362 a.m.uv (by omega)) rfl ?_
    refine sh ?_
    refine ICall.pure h.n101.o101.hb (clone13p_c h.n101 a.m.t (by omega)) rfl ?_
    refine sh ?_
    refine ICall.pure h.n101.o101.hb (clone13p_c h.n101 a.x.t (by omega)) rfl ?_
    refine sh ?_
    exact rT
theorem mchk_len {m : Ms} (h : mchk m = 0) : m.v.length ≤ 64 ∧ m.t.length ≤ 64 ∧ m.uv.length = m.v.length ∧ m.v.any off3 = false := by
  unfold mchk at h
  split at h
  · cases h
  · split at h
    · cases h
    · split at h
      · cases h
      · rename_i h1 h2 h3
        exact ⟨by omega, by omega, by omega, by simpa using h3⟩
theorem achk_few {a : As} (h : achk a = 0) (hx : a.x.t.length ≤ 1000) : a.Few := by
  obtain ⟨ow, hb, _⟩ := achk_zero h
  by_cases k : a.k = 1
  · rw [own, if_pos k] at ow
    obtain ⟨h1, h2, h3, _⟩ := mchk_len ow
    exact ⟨by omega, by omega, by omega, hx⟩
  · have e : a.m = zMs0 := by
      have e1 : a.bare.m = (As.zero a.k).m := by rw [hb]
      have e2 : a.bare.m = a.m := by unfold As.bare; rw [if_neg k]; repeat' split
                                     all_goals rfl
      rw [← e2, e1]; rfl
    exact ⟨by rw [e]; simp [zMs0], by rw [e]; simp [zMs0], by rw [e]; simp [zMs0], hx⟩
def tload (t : Tb) (hd : Int) (f : Mf) (a : As) : Tb × Int :=
  if hd < 1 ∨ 65536 < hd then (t, 2) else if (rget t.rows hd).isSome = true then (t, 10) else if achk a ≠ 0 then (t, achk a) else if f.kind ≠ a.k then (t, 12) else (⟨t.rows ++ [⟨hd, f, a⟩], t.ins⟩, 0)
set_option maxHeartbeats 4000000 in
theorem load_c {R : Env} (h : N346 R) (d1 d2 : Bool) (t : Tb) (hd : Int) (f : Mf) (a : As) (fx : a.x.t.length ≤ 1000) (fb : a.bare.Few) (hn : t.rows.length ≤ 1000000) :
    R.Mc 346 [.loc 2 1 0 0, .int .i64 hd, .agg f.row, .agg a.row] (tabM R d1 d2 t) (.int .i64 (tload t hd f a).2) (tabM R d1 d2 (tload t hd f a).1) 3 :=
  h.o346.enterM 100 3 rfl rfl rfl fun X bb hfit hp => by
    generalize hq : tload t hd f a = q
    unfold tload at hq
    unfold tabM
    refine sh ?_
    refine cM false [0, 1, 2] (tnone_c h.n355 d1 d2 t) ?_
    repeat ((intro _u; clear _u); first | refine eK ?_ | refine eP ?_)
    refine sh ?_
    refine cS (fun h1 => ?_) (fun h1 => ?_)
    · rw [if_pos (by omega)] at hq
      subst hq
      refine sh ?_
      exact rM [0, 1, 2]
    · refine sh ?_
      refine cS (fun h2 => ?_) (fun h2 => ?_)
      · rw [if_pos (by omega)] at hq
        subst hq
        refine sh ?_
        exact rM [0, 1, 2]
      · rw [if_neg (by omega)] at hq
        refine sh ?_
        refine afdR fun i => ?_
        cases hr : rget t.rows hd with
        | some r =>
          rw [hr, if_pos (show (some r).isSome = true from rfl)] at hq
          dsimp only [Option.map_some]
          subst hq
          refine sh ?_
          exact rM [0, 1, 2]
        | none =>
          rw [hr, if_neg (by simp)] at hq
          dsimp only [Option.map_none]
          refine sh ?_
          refine ICall.pure h.n294.o294.hb (acheckX_c h.n294 a fx fb) rfl ?_
          refine sh ?_
          refine cS (fun h3 => ?_) (fun h3 => ?_)
          · rw [if_pos h3] at hq
            subst hq
            refine sh ?_
            exact rM [0, 1, 2]
          · rw [if_neg (by simpa using h3)] at hq
            refine sh ?_
            refine cS (fun h4 => ?_) (fun h4 => ?_)
            · rw [if_pos h4] at hq
              subst hq
              refine sh ?_
              exact rM [0, 1, 2]
            · rw [if_neg (by simpa using h4)] at hq
              refine sh ?_
              refine ICall.pure h.n356.o356.hb (copied_c' h.n356 a (achk_few h3 fx)) rfl ?_
              refine sh ?_
              refine afdR fun i => ?_
              rw [hr]
              dsimp only [Option.map_none]
              subst hq
              refine sh ?_
              refine rM [0, 1, 2] ?_
              all_goals repeat' (first | exact True.intro | refine And.intro ?_ ?_ | (intro _u; clear _u) | (with_reducible first | refine eM ?_ ?_ | refine eF ?_ ?_ ?_ | refine eN ?_ | refine eL ?_ ?_ ?_ | refine eA ?_ ?_ | refine IWk.mk ⟨_, hp, rfl⟩ ?_ ?_) | refine IWk.mk ⟨_, hp, rfl⟩ ?_ ?_)
              all_goals first | with_reducible rfl | omega | exact Or.inl (by decide) | (simp; done) | rfl | skip
              all_goals (simp [rwL, rwE, Rw.row])
def offs (x : Af) (l : List T3) : Int := ((l.map fun v => (place4 x v).2).find? fun e => e != 0).getD 0
def tput (t : Tb) (x : In) : Tb × Int :=
  if x.n < 0 ∨ 65536 < x.n then (t, 2) else if tparts t.rows x ≠ 0 then (t, tparts t.rows x) else if (iget t.ins x).isSome = true then (t, 10)
  else match rget t.rows x.mesh with
    | none => (t, 11)
    | some r => if offs x.t r.a.m.v ≠ 0 then (t, offs x.t r.a.m.v) else (⟨t.rows, t.ins ++ [x]⟩, 0)
theorem offs_at {x : Af} {l : List T3} {k : Nat} {v : T3} (h : l[k]? = some v) (h1 : ∀ (j : Nat) (u : T3), j < k → l[j]? = some u → (place4 x u).2 = 0) (h2 : (place4 x v).2 ≠ 0) : offs x l = (place4 x v).2 := by
  unfold offs
  induction l generalizing k with
  | nil => simp at h
  | cons a r ih =>
    cases k with
    | zero =>
      simp at h; subst h
      simp [List.find?_cons, h2]
    | succ k =>
      have e := h1 0 a (by omega) rfl
      simp only [List.map_cons, List.find?_cons, e, bne_self_eq_false]
      exact ih (k := k) (by simpa using h) (fun j u hj hu => h1 (j + 1) u (by omega) (by simpa using hu))
theorem offs_none {x : Af} {l : List T3} (h : ∀ (j : Nat) (u : T3), j < l.length → l[j]? = some u → (place4 x u).2 = 0) : offs x l = 0 := by
  unfold offs
  induction l with
  | nil => rfl
  | cons a r ih =>
    have e := h 0 a (by simp) rfl
    simp only [List.map_cons, List.find?_cons, e, bne_self_eq_false]
    exact ih fun j u hj hu => h (j + 1) u (by simpa using hj) (by simpa using hu)
theorem tparts_some {l : List Rw} {x : In} (h : tparts l x = 0) : ∃ r, rget l x.mesh = some r ∧ r.f.kind = 1 := by
  unfold tparts at h
  cases hr : rget l x.mesh with
  | none => rw [hr] at h; cases h
  | some r =>
    rw [hr] at h
    refine ⟨r, rfl, ?_⟩
    dsimp only at h
    cases hb : rget l x.mat with
    | none => rw [hb] at h; cases h
    | some b =>
      rw [hb] at h
      dsimp only at h
      by_cases hx : x.tex = 0
      · rw [if_pos hx] at h
        by_cases k : r.f.kind = 1
        · exact k
        · rw [if_pos (.inl k)] at h; cases h
      · rw [if_neg hx] at h
        cases hc : rget l x.tex with
        | none => rw [hc] at h; cases h
        | some c =>
          rw [hc] at h
          dsimp only at h
          by_cases k : r.f.kind = 1
          · exact k
          · rw [if_pos (.inl k)] at h; cases h
structure RwOk (r : Rw) : Prop where
  h : 1 ≤ r.h ∧ r.h ≤ 65536
  a : achk r.a = 0
  k : r.f.kind = r.a.k
  x : r.a.x.t.length ≤ 1000
theorem rget_mem {l : List Rw} {h : Int} {r : Rw} (e : rget l h = some r) : r ∈ l ∧ r.h = h := ⟨List.mem_of_find?_eq_some e, by simpa using List.find?_some e⟩
theorem RwOk.verts {r : Rw} (o : RwOk r) (h : r.f.kind = 1) : r.a.m.v.length ≤ 64 ∧ ∀ v ∈ r.a.m.v, off3 v = false := by
  have k1 : r.a.k = 1 := o.k.symm.trans h
  have ow := (achk_zero o.a).1
  rw [own, if_pos k1] at ow
  obtain ⟨h1, _, _, h4⟩ := mchk_len ow
  exact ⟨h1, fun v hv => by
    have := List.any_eq_false.1 h4 v hv
    simpa using this⟩
theorem off3_I {v : T3} (h : off3 v = false) : v.I := by
  have := off3_in h
  exact ⟨by simp only [inI]; omega, by simp only [inI]; omega, by simp only [inI]; omega⟩
set_option maxHeartbeats 4000000 in
theorem tput_c {R : Env} (h : N347 R) (d1 d2 : Bool) (t : Tb) (x : In) (ok : ∀ r ∈ t.rows, RwOk r) (hx : x.t.I) (hn : t.ins.length ≤ 1000000) :
    R.Mc 347 [.loc 2 1 0 0, .agg x.row] (tabM R d1 d2 t) (.int .i64 (tput t x).2) (tabM R d1 d2 (tput t x).1) 3 :=
  h.o347.enterM 100 3 rfl rfl rfl fun X bb hfit hp => by
    generalize hq : tput t x = q
    unfold tput at hq
    unfold tabM
    refine sh ?_
    refine cM false [0, 1, 2] (tnone_c h.n355 d1 d2 t) ?_
    repeat ((intro _u; clear _u); first | refine eK ?_ | refine eP ?_)
    refine sh ?_
    refine cS (fun h1 => ?_) (fun h1 => ?_)
    · rw [if_pos (by omega)] at hq
      subst hq
      refine sh ?_
      exact rM [0, 1, 2]
    · refine sh ?_
      refine cS (fun h2 => ?_) (fun h2 => ?_)
      · rw [if_pos (by omega)] at hq
        subst hq
        refine sh ?_
        exact rM [0, 1, 2]
      · rw [if_neg (by omega)] at hq
        refine sh ?_
        refine cM false [0, 1, 2] (parts_c h.n357 d1 d2 t x) ?_
        repeat ((intro _u; clear _u); first | refine eK ?_ | refine eP ?_)
        refine sh ?_
        refine cS (fun h3 => ?_) (fun h3 => ?_)
        · rw [if_pos h3] at hq
          subst hq
          refine sh ?_
          exact rM [0, 1, 2]
        · rw [if_neg (by simpa using h3)] at hq
          obtain ⟨r, hr, hk⟩ := tparts_some h3
          have hvs := (ok r (rget_mem hr).1).verts hk
          refine sh ?_
          refine ICall.pure h.n358.o358.hb (of_c h.n358 x) rfl ?_
          refine sh ?_
          refine afdI fun i => ?_
          cases hi : iget t.ins x with
          | some y =>
            rw [hi, if_pos (show (some y).isSome = true from rfl)] at hq
            dsimp only [Option.map_some]
            subst hq
            refine sh ?_
            exact rM [0, 1, 2]
          | none =>
            rw [hi, if_neg (by simp), hr] at hq
            dsimp only at hq
            dsimp only [Option.map_none]
            refine sh ?_
            refine afdR fun i => ?_
            rw [hr]
            dsimp only [Option.map_some]
            refine sh ?_
            refine lPa 100 (fun k : Nat => k ≤ r.a.m.v.length ∧ ∀ (j : Nat) (u : T3), j < k → r.a.m.v[j]? = some u → (place4 x.t u).2 = 0) (fun k => ⟨[(0, .loc 2 1 0 0), (3, .loc 3 1 0 0), (50, .isl 3 (slc3 r.a.m.v)), (51, .int .i64 r.a.m.v.length), (52, .int .i64 k)], [(3, .var (R.ty 44) x.row), (0, .map 1 false true d1 41 (rwL t.rows)), (1, .map 4 true true d2 16 (sIn t.ins)), (2, .var (R.ty 47) [.omap 0, .omap 1])], 4⟩) (fun k => r.a.m.v.length - k) (0) ?_ ?_
            · exact ⟨Nat.zero_le _, fun j u hj => absurd hj (Nat.not_lt_zero j)⟩
            · intro k hk
              dsimp only
              have hlen := hvs.1
              refine sh ?_
              refine cS (fun h4 => ?_) (fun h4 => ?_)
              · obtain ⟨v, hv⟩ : ∃ u_, r.a.m.v[k]? = some u_ := ⟨_, List.getElem?_eq_getElem (by first | omega | (simp <;> omega))⟩
                refine sh ?_
                refine eget_map hv ?_
                refine sh ?_
                refine ICall.pure h.n241.o241.hb (place4_c h.n241 hx (off3_I (hvs.2 v (List.mem_of_getElem? hv)))) rfl ?_
                refine sh ?_
                refine cS (fun h5 => ?_) (fun h5 => ?_)
                · rw [if_pos (by rw [offs_at hv hk.2 h5]; exact h5), offs_at hv hk.2 h5] at hq
                  subst hq
                  refine sh ?_
                  exact rM [0, 1, 2]
                · refine sh ?_
                  refine nXa (k + 1) ?_ ?_
                  · refine ⟨by omega, fun j u hj hu => ?_⟩
                    by_cases e : j = k
                    · subst e
                      rw [hv] at hu
                      cases hu
                      exact h5
                    · exact hk.2 j u (by omega) hu
                  · omega
              · rw [offs_none (fun j u hj => hk.2 j u (by omega)), if_neg (by simp)] at hq
                refine sh ?_
                refine ICall.pure h.n358.o358.hb (of_c h.n358 x) rfl ?_
                refine sh ?_
                refine afdI fun i => ?_
                rw [hi]
                dsimp only [Option.map_none]
                subst hq
                refine sh ?_
                refine rM [0, 1, 2] ?_
                all_goals repeat' (first | exact True.intro | refine And.intro ?_ ?_ | (intro _u; clear _u) | (with_reducible first | refine eM ?_ ?_ | refine eF ?_ ?_ ?_ | refine eN ?_ | refine eL ?_ ?_ ?_ | refine eA ?_ ?_ | refine IWk.mk ⟨_, hp, rfl⟩ ?_ ?_) | refine IWk.mk ⟨_, hp, rfl⟩ ?_ ?_)
                all_goals first | with_reducible rfl | omega | exact Or.inl (by decide) | (simp; done) | rfl | skip
                all_goals (simp [sIn, In.row])
end Go.UM

namespace Go.UM
open Go.AM
set_option maxRecDepth 4000
def keyI (x : In) : T3 := ⟨x.mesh, x.mat, x.tex⟩
structure Nm (p : List Gr) (acc : List In) : Prop where
  lt : ∀ y ∈ acc, y.n < (cntK p (keyI y) : Int)
  ne : ∀ (i j : Nat) (x y : In), i < j → acc[i]? = some x → acc[j]? = some y → sameN x y = false ∧ sameN y x = false
theorem sameN_iff {x y : In} : sameN x y = true ↔ keyI x = keyI y ∧ x.n = y.n := by
  obtain ⟨x1, x2, x3, x4, _⟩ := x
  obtain ⟨y1, y2, y3, y4, _⟩ := y
  simp [sameN, keyI, and_assoc]
theorem Nm.skip {p : List Gr} {g : Gr} {acc : List In} (h : Nm p acc) : Nm (p ++ [g]) acc :=
  ⟨fun y hy => by have := h.lt y hy; rw [cntK_snoc]; omega, h.ne⟩
theorem Nm.snoc {p : List Gr} {g : Gr} {acc : List In} {t : Af} (h : Nm p acc) : Nm (p ++ [g]) (acc ++ [⟨g.mesh, g.mat, g.tex, cntK p (keyG g), t⟩]) := by
  have far : ∀ y ∈ acc, sameN y ⟨g.mesh, g.mat, g.tex, cntK p (keyG g), t⟩ = false ∧ sameN ⟨g.mesh, g.mat, g.tex, cntK p (keyG g), t⟩ y = false := by
    intro y hy
    have := h.lt y hy
    constructor
    · rw [← Bool.not_eq_true, sameN_iff]
      rintro ⟨e1, e2⟩
      rw [e1] at this
      have e3 : keyI ⟨g.mesh, g.mat, g.tex, cntK p (keyG g), t⟩ = keyG g := rfl
      rw [e3] at this
      simp only at e2
      omega
    · rw [← Bool.not_eq_true, sameN_iff]
      rintro ⟨e1, e2⟩
      rw [← e1] at this
      have e3 : keyI ⟨g.mesh, g.mat, g.tex, cntK p (keyG g), t⟩ = keyG g := rfl
      rw [e3] at this
      simp only at e2
      omega
  refine ⟨fun y hy => ?_, fun i j x y hij hx hy => ?_⟩
  · rcases List.mem_append.1 hy with hy | hy
    · have := h.lt y hy
      rw [cntK_snoc]; omega
    · simp only [List.mem_singleton] at hy
      subst hy
      have e : hitK g (keyG g) = true := hitK_eq.2 rfl
      show (cntK p (keyG g) : Int) < (cntK (p ++ [g]) (keyG g) : Int)
      rw [cntK_snoc, if_pos e]; omega
  · rw [List.getElem?_append] at hx hy
    split at hx
    · split at hy
      · exact h.ne i j x y hij hx hy
      · have hj : j - acc.length = 0 := by
          have := (List.getElem?_eq_some_iff.1 hy).1
          simp at this; omega
        rw [hj] at hy
        simp at hy
        subst hy
        exact far x (List.mem_of_getElem? hx)
    · have h1 := (List.getElem?_eq_some_iff.1 hx).1
      split at hy
      · omega
      · have h2 := (List.getElem?_eq_some_iff.1 hy).1
        simp at h1 h2; omega
theorem flF_nm {l : List Gr} : ∀ {r : List Gr} {i : Nat} {acc : List In}, l.drop i = r → Nm (l.take i) acc → ∃ p, Nm p (flF l i r acc).1
  | [], i, acc, _, h => ⟨_, h⟩
  | g :: r, i, acc, hd, h => by
    have hg : l[i]? = some g := by rw [← List.head?_drop, hd]; rfl
    have hd' : l.drop (i + 1) = r := by rw [← List.tail_drop, hd]; rfl
    have ht := take_succ_get hg
    unfold flF
    split
    · exact flF_nm hd' (by rw [ht]; exact h.skip)
    · split
      · exact ⟨[], by simp, by simp⟩
      · exact flF_nm hd' (by rw [ht]; exact h.snoc)
theorem flat_ne {l : List Gr} {i j : Nat} {x y : In} (hij : i < j) (hx : (flat4 l).1[i]? = some x) (hy : (flat4 l).1[j]? = some y) : sameN y x = false := by
  unfold flat4 at hx hy
  split at hx
  · simp at hx
  · rename_i h0
    rw [if_neg h0] at hy
    obtain ⟨p, hp⟩ := flF_nm (l := l) (i := 0) (acc := []) rfl ⟨by simp, by simp⟩
    exact (hp.ne i j x y hij hx hy).2
theorem offs_ne (x : Af) (l : List T3) : offs x l ≠ 10 := by
  have key : ∀ v, (place4 x v).2 ≠ 10 := fun v => by
    unfold place4
    split
    · simp only [chk4]
      repeat' split
      all_goals simp
    · unfold snap4
      split <;> simp
  unfold offs
  cases h : (l.map fun v => (place4 x v).2).find? fun e => e != 0 with
  | none => simp
  | some e =>
    obtain ⟨v, _, rfl⟩ := List.mem_map.1 (List.mem_of_find?_eq_some h)
    exact key v
theorem tparts_ne (l : List Rw) (x : In) : tparts l x ≠ 10 := by
  unfold tparts
  repeat' split
  all_goals simp
theorem tput_ne {t : Tb} {x : In} (h : iget t.ins x = none) : (tput t x).2 ≠ 10 := by
  unfold tput
  split
  · simp
  · split
    · exact tparts_ne _ _
    · rw [h, if_neg (by simp)]
      split
      · simp
      · split
        · exact offs_ne _ _
        · simp
theorem tput_ins {t : Tb} {x : In} : (tput t x).1.rows = t.rows ∧ ((tput t x).1.ins = t.ins ∨ (tput t x).1.ins = t.ins ++ [x]) := by
  unfold tput
  repeat' split
  all_goals simp
theorem tload_rows {t : Tb} {hd : Int} {f : Mf} {a : As} (ok : ∀ r ∈ t.rows, RwOk r) (hx : a.x.t.length ≤ 1000) : (∀ r ∈ (tload t hd f a).1.rows, RwOk r) ∧ (tload t hd f a).1.ins = t.ins ∧ (tload t hd f a).1.rows.length ≤ t.rows.length + 1 := by
  unfold tload
  split
  · exact ⟨ok, rfl, by simp⟩
  · split
    · exact ⟨ok, rfl, by simp⟩
    · split
      · exact ⟨ok, rfl, by simp⟩
      · split
        · exact ⟨ok, rfl, by simp⟩
        · rename_i h1 h2 h3 h4
          refine ⟨fun r hr => ?_, rfl, by simp⟩
          rcases List.mem_append.1 hr with hr | hr
          · exact ok r hr
          · simp only [List.mem_singleton] at hr
            subst hr
            exact ⟨by simp only; omega, by simpa using h3, by simpa using h4, hx⟩
def kMf (k : Int) : Mf := ⟨0, k, 0, 0, 0, 0, 0, 0, 0, 0, 0, 0, 0, 0, 0⟩
def mAs (m : Ms) : As := { As.zero 1 with m := m }
theorem mAs_few (m : Ms) : (mAs m).bare.Few := by
  refine ⟨?_, ?_, ?_, ?_⟩ <;> simp [mAs, As.bare, As.zero, zMs0, zTx]
set_option maxHeartbeats 1000000 in
theorem names41_c {R : Env} (h : N344 R) (l : List Gr) (hi : ∀ g ∈ l, g.t.I) (m : Ms) : R.Pc 344 [.isl 16 (slG l), .agg m.row] (.bool true) :=
  h.o344.enter 300 rfl fun X bb hfit hp => by
    refine sh ?_
    refine ICall.pure h.n326.o326.hb (gfew_c h.n326 l) rfl ?_
    have hl : (l.take 30).length ≤ 30 := by simp; omega
    have hi : ∀ g ∈ l.take 30, g.t.I := fun g hg => hi g (List.mem_of_mem_take hg)
    generalize l.take 30 = l at *
    refine sh ?_
    refine ICall.pure h.n327.o327.hb (gflatten_c h.n327 l (by omega) hi) rfl ?_
    refine sh ?_
    refine cS (fun h1 => ?_) (fun h1 => ?_)
    · refine sh ?_
      refine ICall.pure h.n328.o328.hb (works41_c h.n328) rfl ?_
      refine sh ?_
      exact rT
    · have hA := flat_len l
      have hI := flat_I hi
      have hD := fun {i j : Nat} {x y : In} => flat_ne (l := l) (i := i) (j := j) (x := x) (y := y)
      generalize (flat4 l).1 = A at hA hI hD ⊢
      refine sh ?_
      refine cM false [] (tnew_c h.n345) ?_
      repeat ((intro _u; clear _u); first | refine eK ?_ | refine eP ?_)
      have z0 : (0 : Nat) ≤ A.length := Nat.zero_le _
      refine sh ?_
      refine lPa 300 (fun s : Nat × Tb => (s.1 ≤ A.length ∧ s.2.ins = [] ∧ s.2.rows.length ≤ 2 * s.1) ∧ ∀ r ∈ s.2.rows, RwOk r) (fun s => ⟨[(3, .loc 0 1 0 0), (5, .isl 16 (sIn A)), (7, .loc 3 1 0 0), (25, .isl 16 (sIn A)), (26, .int .i64 A.length), (27, .int .i64 s.1)], [(0, .var (R.ty 25) m.row), (1, .map 1 false true true 41 (rwL s.2.rows)), (2, .map 4 true true true 16 (sIn s.2.ins)), (3, .var (R.ty 47) [.omap 1, .omap 2])], 4⟩) (fun s => A.length - s.1) ((0, ⟨[], []⟩)) ?_ ?_
      · exact ⟨⟨z0, rfl, by simp⟩, by simp⟩
      · rintro ⟨k, t⟩ ⟨⟨h2, h3, h4⟩, h5⟩
        dsimp only at h2 h3 h4 h5 ⊢
        refine sh ?_
        refine cS (fun h6 => ?_) (fun h6 => ?_)
        · obtain ⟨x, hx⟩ : ∃ u_, A[k]? = some u_ := ⟨_, List.getElem?_eq_getElem (by first | omega | (simp <;> omega))⟩
          refine sh ?_
          refine eget_map hx ?_
          refine sh ?_
          refine cM false [1, 2, 3] (load_c h.n346 true true t x.mesh (kMf 1) (mAs m) (by simp [mAs, As.zero, zTx]) (mAs_few m) (by omega)) ?_
          repeat ((intro _u; clear _u); first | refine eK ?_ | refine eP ?_)
          obtain ⟨l1, l2, l3⟩ := tload_rows (t := t) (hd := x.mesh) (f := kMf 1) (a := mAs m) h5 (by simp [mAs, As.zero, zTx])
          generalize (tload t x.mesh (kMf 1) (mAs m)).1 = t1 at l1 l2 l3 ⊢
          refine sh ?_
          refine cM false [1, 2, 3] (load_c h.n346 true true t1 x.mat (kMf 3) (As.zero 3) (by simp [As.zero, zTx]) (zfew 3).bare (by omega)) ?_
          repeat ((intro _u; clear _u); first | refine eK ?_ | refine eP ?_)
          obtain ⟨l4, l5, l6⟩ := tload_rows (t := t1) (hd := x.mat) (f := kMf 3) (a := As.zero 3) l1 (by simp [As.zero, zTx])
          generalize (tload t1 x.mat (kMf 3) (As.zero 3)).1 = t2 at l4 l5 l6 ⊢
          refine sh ?_
          refine nXa ((k + 1, t2)) ?_ ?_
          · exact ⟨⟨by dsimp only; omega, by rw [l5, l2, h3], by dsimp only; omega⟩, l4⟩
          · dsimp only; omega
        · refine sh ?_
          refine ILoop.inv 300 (fun s : Nat × List In => (s.1 ≤ A.length ∧ s.2.length ≤ s.1) ∧ ∀ y ∈ s.2, ∃ j, j < s.1 ∧ A[j]? = some y) (fun s => ⟨[(7, .loc 3 1 0 0), (45, .isl 16 (sIn A)), (46, .int .i64 A.length), (47, .int .i64 s.1)], [(0, .var (R.ty 25) m.row), (1, .map 1 false true true 41 (rwL t.rows)), (2, .map 4 true true true 16 (sIn s.2)), (3, .var (R.ty 47) [.omap 1, .omap 2])], 4⟩) (fun s => A.length - s.1) ((0, [])) ?_ ⟨⟨_, hp, rfl⟩, ?_, ?_⟩ ?_
          · exact ⟨⟨z0, by simp⟩, by simp⟩
          · all_goals repeat' (first | exact True.intro | refine And.intro ?_ ?_ | (intro _u; clear _u) | (with_reducible first | refine eM ?_ ?_ | refine eF ?_ ?_ ?_ | refine eN ?_ | refine eL ?_ ?_ ?_ | refine eA ?_ ?_ | refine IWk.mk ⟨_, hp, rfl⟩ ?_ ?_) | refine IWk.mk ⟨_, hp, rfl⟩ ?_ ?_)
            all_goals first | with_reducible rfl | omega | exact Or.inl (by decide) | (simp; done) | rfl | skip
          · all_goals repeat' (first | exact True.intro | refine And.intro ?_ ?_ | (intro _u; clear _u) | (with_reducible first | refine eM ?_ ?_ | refine eF ?_ ?_ ?_ | refine eN ?_ | refine eL ?_ ?_ ?_ | refine eA ?_ ?_ | refine IWk.mk ⟨_, hp, rfl⟩ ?_ ?_) | refine IWk.mk ⟨_, hp, rfl⟩ ?_ ?_)
            all_goals first | with_reducible rfl | omega | exact Or.inl (by decide) | (simp; done) | rfl | skip
            all_goals (rw [h3])
          · rintro ⟨k, ins⟩ ⟨⟨g2, g3⟩, g4⟩
            dsimp only at g2 g3 g4 ⊢
            refine sh ?_
            refine cS (fun h7 => ?_) (fun h7 => ?_)
            · obtain ⟨x, hx⟩ : ∃ u_, A[k]? = some u_ := ⟨_, List.getElem?_eq_getElem (by first | omega | (simp <;> omega))⟩
              refine sh ?_
              refine eget_map hx ?_
              have hn : iget ins x = none := by
                rw [iget, List.find?_eq_none]
                intro y hy
                obtain ⟨j, hj, hy⟩ := g4 y hy
                simp [hD hj hy hx]
              refine sh ?_
              refine cM false [1, 2, 3] (tput_c h.n347 true true ⟨t.rows, ins⟩ x h5 (hI x (List.mem_of_getElem? hx)) (by dsimp only; omega)) ?_
              repeat ((intro _u; clear _u); first | refine eK ?_ | refine eP ?_)
              have he := tput_ne (t := ⟨t.rows, ins⟩) (x := x) hn
              obtain ⟨p1, p2⟩ := tput_ins (t := ⟨t.rows, ins⟩) (x := x)
              rw [p1]
              refine sh ?_
              refine acnd_f (by simpa using he) ?_
              generalize (tput ⟨t.rows, ins⟩ x).1.ins = ins' at p2 ⊢
              refine sh ?_
              refine nXa ((k + 1, ins')) ?_ ?_
              · dsimp only at p2 ⊢
                rcases p2 with rfl | rfl
                · exact ⟨⟨by omega, by omega⟩, fun y hy => by obtain ⟨j, hj, e⟩ := g4 y hy; exact ⟨j, by omega, e⟩⟩
                · refine ⟨⟨by omega, by simp; omega⟩, fun y hy => ?_⟩
                  rcases List.mem_append.1 hy with hy | hy
                  · obtain ⟨j, hj, e⟩ := g4 y hy; exact ⟨j, by omega, e⟩
                  · simp only [List.mem_singleton] at hy
                    subst hy
                    exact ⟨k, by omega, hx⟩
              · dsimp only; omega
            · refine sh ?_
              refine ICall.pure h.n328.o328.hb (works41_c h.n328) rfl ?_
              refine sh ?_
              exact rT
end Go.UM

namespace Go.UM
open Go.AM
end Go.UM
