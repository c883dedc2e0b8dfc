/- Of the reckoning machine, and what is proved with it: texts joined by program. -/
import Derived.Test.YtljgnllbodbbhaaU0
import Derived.Test.YtljgnllbodbbhaaK3
set_option linter.all false

namespace Go.UM
open Go.AM
set_option maxRecDepth 4000
def slA (l : List Af) : List (List AV) := l.map Af.row
@[simp] theorem slA_length (l : List Af) : (slA l).length = l.length := by simp [slA]
@[simp] theorem slA_NmL (l : List Af) : NmL (slA l) := by simp [slA]
@[simp] theorem slA_FlL (l : List Af) : FlL (slA l) := by simp [slA]
instance {l : List Af} : LenOf (slA l) l.length := ⟨slA_length l⟩
theorem axes4_c {R : Env} (h : N227 R) (l : List T3) (hl : l.length ≤ 1000) : R.Pc 227 [.isl 3 (slc3 l)] (.agg (axes4 l).row) :=
  h.o227.enter 100 rfl fun X bb hfit hp => by
    refine sh ?_
    refine ICall.pure h.n221.o221.hb (same4_c h.n221) rfl ?_
    match l, hl with
    | [], _ =>
      refine sh ?_
      refine ILoop.one 100 ?_
      refine sh ?_
      refine acnd_f (by simp) ?_
      refine sh ?_
      refine acnd_f (by simp) ?_
      refine sh ?_
      exact rT
    | [x], _ =>
      refine sh ?_
      refine ILoop.one 100 ?_
      refine sh ?_
      refine acnd_t (by simp) ?_
      refine sh ?_
      refine eget_map (show ([x] : List T3)[0]? = some x from rfl) ?_
      refine sh ?_
      refine acnd_t (by decide) ?_
      refine sh ?_
      refine ILoop.one 100 ?_
      refine sh ?_
      refine acnd_f (by simp) ?_
      refine sh ?_
      refine acnd_f (by simp) ?_
      refine sh ?_
      exact rT
    | [x, y], _ =>
      refine sh ?_
      refine ILoop.one 100 ?_
      refine sh ?_
      refine acnd_t (by simp) ?_
      refine sh ?_
      refine eget_map (show ([x, y] : List T3)[0]? = some x from rfl) ?_
      refine sh ?_
      refine acnd_t (by decide) ?_
      refine sh ?_
      refine ILoop.one 100 ?_
      refine sh ?_
      refine acnd_t (by simp) ?_
      refine sh ?_
      refine eget_map (show ([x, y] : List T3)[1]? = some y from rfl) ?_
      refine sh ?_
      refine acnd_t (by decide) ?_
      refine sh ?_
      refine ILoop.one 100 ?_
      refine sh ?_
      refine acnd_f (by simp) ?_
      refine sh ?_
      refine acnd_f (by simp) ?_
      refine sh ?_
      exact rT
    | [x, y, z], _ =>
      refine sh ?_
      refine ILoop.one 100 ?_
      refine sh ?_
      refine acnd_t (by simp) ?_
      refine sh ?_
      refine eget_map (show ([x, y, z] : List T3)[0]? = some x from rfl) ?_
      refine sh ?_
      refine acnd_t (by decide) ?_
      refine sh ?_
      refine ILoop.one 100 ?_
      refine sh ?_
      refine acnd_t (by simp) ?_
      refine sh ?_
      refine eget_map (show ([x, y, z] : List T3)[1]? = some y from rfl) ?_
      refine sh ?_
      refine acnd_t (by decide) ?_
      refine sh ?_
      refine ILoop.one 100 ?_
      refine sh ?_
      refine acnd_t (by simp) ?_
      refine sh ?_
      refine eget_map (show ([x, y, z] : List T3)[2]? = some z from rfl) ?_
      refine sh ?_
      refine acnd_t (by decide) ?_
      refine sh ?_
      refine ILoop.one 100 ?_
      refine sh ?_
      refine acnd_f (by simp) ?_
      refine sh ?_
      refine acnd_f (by simp) ?_
      refine sh ?_
      exact rT
    | x :: y :: z :: t :: r, hl =>
      simp only [List.length_cons] at hl
      refine sh ?_
      refine ILoop.one 100 ?_
      refine sh ?_
      refine acnd_t (by (simp; omega)) ?_
      refine sh ?_
      refine eget_map (show (x :: y :: z :: t :: r : List T3)[0]? = some x from rfl) ?_
      refine sh ?_
      refine acnd_t (by decide) ?_
      refine sh ?_
      refine ILoop.one 100 ?_
      refine sh ?_
      refine acnd_t (by (simp; omega)) ?_
      refine sh ?_
      refine eget_map (show (x :: y :: z :: t :: r : List T3)[1]? = some y from rfl) ?_
      refine sh ?_
      refine acnd_t (by decide) ?_
      refine sh ?_
      refine ILoop.one 100 ?_
      refine sh ?_
      refine acnd_t (by (simp; omega)) ?_
      refine sh ?_
      refine eget_map (show (x :: y :: z :: t :: r : List T3)[2]? = some z from rfl) ?_
      refine sh ?_
      refine acnd_t (by decide) ?_
      refine sh ?_
      refine lPa 100 (fun k : Nat => 3 ≤ k ∧ k ≤ r.length + 4) (fun k => ⟨[(0, .isl 3 (slc3 (x :: y :: z :: t :: r))), (2, .loc 0 1 0 0), (3, .loc 1 1 0 0), (7, .isl 3 (slc3 (x :: y :: z :: t :: r))), (8, .int .i64 (r.length + 4 : Nat)), (9, .int .i64 k)], [(1, .var (R.ty 33) (cols x y z z3).row), (0, .var (R.ty 33) [.int .i64 0, .int .i64 0, .int .i64 0, .int .i64 0, .int .i64 0, .int .i64 0, .int .i64 0, .int .i64 0, .int .i64 0, .int .i64 0, .int .i64 0, .int .i64 0])], 2⟩) (fun k => r.length + 4 - k) (3) ?_ ?_
      · omega
      · intro k hk
        dsimp only
        refine sh ?_
        refine cS (fun h4 => ?_) (fun h4 => ?_)
        · obtain ⟨u, hu⟩ : ∃ u, (x :: y :: z :: t :: r : List T3)[k]? = some u := ⟨_, List.getElem?_eq_getElem (by simp; omega)⟩
          refine sh ?_
          refine eget_map hu ?_
          refine sh ?_
          refine acnd_f (by (simp; omega)) ?_
          refine sh ?_
          refine nXa (k + 1) ?_ ?_
          · omega
          · omega
        · refine sh ?_
          refine acnd_t (by (simp; omega)) ?_
          refine sh ?_
          refine eget_map (show (x :: y :: z :: t :: r : List T3)[3]? = some t from rfl) ?_
          refine sh ?_
          exact rT
theorem raxes4_c {R : Env} (h : N228 R) (l : List T3) (hl : l.length ≤ 1000) : R.Pc 228 [.isl 3 (slc3 l)] (.agg (axes4 l).row) :=
  h.o228.enter 100 rfl fun X bb hfit hp => by
    refine sh ?_
    refine ICall.pure h.n222.o222.hb (rsame4_c h.n222) rfl ?_
    match l, hl with
    | [], _ =>
      refine sh ?_
      refine ILoop.one 100 ?_
      refine sh ?_
      refine acnd_f (by simp) ?_
      refine sh ?_
      refine acnd_f (by simp) ?_
      refine sh ?_
      exact rT
    | [x], _ =>
      refine sh ?_
      refine ILoop.one 100 ?_
      refine sh ?_
      refine acnd_t (by simp) ?_
      refine sh ?_
      refine acnd_t (by decide) ?_
      refine sh ?_
      refine eget_map (show ([x] : List T3)[0]? = some x from rfl) ?_
      refine sh ?_
      refine eget_map (show ([x] : List T3)[0]? = some x from rfl) ?_
      refine sh ?_
      refine eget_map (show ([x] : List T3)[0]? = some x from rfl) ?_
      refine sh ?_
      refine ILoop.one 100 ?_
      refine sh ?_
      refine acnd_f (by simp) ?_
      refine sh ?_
      refine acnd_f (by simp) ?_
      refine sh ?_
      exact rT
    | [x, y], _ =>
      refine sh ?_
      refine ILoop.one 100 ?_
      refine sh ?_
      refine acnd_t (by simp) ?_
      refine sh ?_
      refine acnd_t (by decide) ?_
      refine sh ?_
      refine eget_map (show ([x, y] : List T3)[0]? = some x from rfl) ?_
      refine sh ?_
      refine eget_map (show ([x, y] : List T3)[0]? = some x from rfl) ?_
      refine sh ?_
      refine eget_map (show ([x, y] : List T3)[0]? = some x from rfl) ?_
      refine sh ?_
      refine ILoop.one 100 ?_
      refine sh ?_
      refine acnd_t (by simp) ?_
      refine sh ?_
      refine acnd_t (by decide) ?_
      refine sh ?_
      refine eget_map (show ([x, y] : List T3)[1]? = some y from rfl) ?_
      refine sh ?_
      refine eget_map (show ([x, y] : List T3)[1]? = some y from rfl) ?_
      refine sh ?_
      refine eget_map (show ([x, y] : List T3)[1]? = some y from rfl) ?_
      refine sh ?_
      refine ILoop.one 100 ?_
      refine sh ?_
      refine acnd_f (by simp) ?_
      refine sh ?_
      refine acnd_f (by simp) ?_
      refine sh ?_
      exact rT
    | [x, y, z], _ =>
      refine sh ?_
      refine ILoop.one 100 ?_
      refine sh ?_
      refine acnd_t (by simp) ?_
      refine sh ?_
      refine acnd_t (by decide) ?_
      refine sh ?_
      refine eget_map (show ([x, y, z] : List T3)[0]? = some x from rfl) ?_
      refine sh ?_
      refine eget_map (show ([x, y, z] : List T3)[0]? = some x from rfl) ?_
      refine sh ?_
      refine eget_map (show ([x, y, z] : List T3)[0]? = some x from rfl) ?_
      refine sh ?_
      refine ILoop.one 100 ?_
      refine sh ?_
      refine acnd_t (by simp) ?_
      refine sh ?_
      refine acnd_t (by decide) ?_
      refine sh ?_
      refine eget_map (show ([x, y, z] : List T3)[1]? = some y from rfl) ?_
      refine sh ?_
      refine eget_map (show ([x, y, z] : List T3)[1]? = some y from rfl) ?_
      refine sh ?_
      refine eget_map (show ([x, y, z] : List T3)[1]? = some y from rfl) ?_
      refine sh ?_
      refine ILoop.one 100 ?_
      refine sh ?_
      refine acnd_t (by simp) ?_
      refine sh ?_
      refine acnd_t (by decide) ?_
      refine sh ?_
      refine eget_map (show ([x, y, z] : List T3)[2]? = some z from rfl) ?_
      refine sh ?_
      refine eget_map (show ([x, y, z] : List T3)[2]? = some z from rfl) ?_
      refine sh ?_
      refine eget_map (show ([x, y, z] : List T3)[2]? = some z from rfl) ?_
      refine sh ?_
      refine ILoop.one 100 ?_
      refine sh ?_
      refine acnd_f (by simp) ?_
      refine sh ?_
      refine acnd_f (by simp) ?_
      refine sh ?_
      exact rT
    | x :: y :: z :: t :: r, hl =>
      simp only [List.length_cons] at hl
      refine sh ?_
      refine ILoop.one 100 ?_
      refine sh ?_
      refine acnd_t (by (simp; omega)) ?_
      refine sh ?_
      refine acnd_t (by decide) ?_
      refine sh ?_
      refine eget_map (show (x :: y :: z :: t :: r : List T3)[0]? = some x from rfl) ?_
      refine sh ?_
      refine eget_map (show (x :: y :: z :: t :: r : List T3)[0]? = some x from rfl) ?_
      refine sh ?_
      refine eget_map (show (x :: y :: z :: t :: r : List T3)[0]? = some x from rfl) ?_
      refine sh ?_
      refine ILoop.one 100 ?_
      refine sh ?_
      refine acnd_t (by (simp; omega)) ?_
      refine sh ?_
      refine acnd_t (by decide) ?_
      refine sh ?_
      refine eget_map (show (x :: y :: z :: t :: r : List T3)[1]? = some y from rfl) ?_
      refine sh ?_
      refine eget_map (show (x :: y :: z :: t :: r : List T3)[1]? = some y from rfl) ?_
      refine sh ?_
      refine eget_map (show (x :: y :: z :: t :: r : List T3)[1]? = some y from rfl) ?_
      refine sh ?_
      refine ILoop.one 100 ?_
      refine sh ?_
      refine acnd_t (by (simp; omega)) ?_
      refine sh ?_
      refine acnd_t (by decide) ?_
      refine sh ?_
      refine eget_map (show (x :: y :: z :: t :: r : List T3)[2]? = some z from rfl) ?_
      refine sh ?_
      refine eget_map (show (x :: y :: z :: t :: r : List T3)[2]? = some z from rfl) ?_
      refine sh ?_
      refine eget_map (show (x :: y :: z :: t :: r : List T3)[2]? = some z from rfl) ?_
      refine sh ?_
      refine ILoop.one 100 ?_
      refine sh ?_
      refine acnd_t (by (simp; omega)) ?_
      refine sh ?_
      refine acnd_f (by decide) ?_
      refine sh ?_
      refine acnd_t (by (simp; omega)) ?_
      refine sh ?_
      refine eget_map (show (x :: y :: z :: t :: r : List T3)[3]? = some t from rfl) ?_
      refine sh ?_
      exact rT
theorem then4_succ {l : List Af} {k : Nat} {g : Af} (h : l[k]? = some g) (hk : 1 ≤ k) : then4 (l.take (k + 1)) = comp4 (then4 (l.take k)) g := by
  match l, k, h, hk with
  | f :: r, m + 1, h, _ =>
    have h : r[m]? = some g := by simpa using h
    rw [List.take_succ_cons, List.take_succ_cons, take_succ_get h]
    simp [then4, List.foldl_append]
theorem then4_one {l : List Af} {g : Af} (h : l[0]? = some g) : then4 (l.take 1) = g := by
  match l, h with
  | f :: r, h =>
    have h : f = g := by simpa using h
    simp [then4, h]
theorem then4_c {R : Env} (h : N238 R) (l : List Af) (hl : l.length ≤ 1000) (hi : ∀ a ∈ l, a.I) : R.Pc 238 [.isl 12 (slA l)] (.agg (then4 l).row) :=
  h.o238.enter 100 rfl fun X bb hfit hp => by
    refine sh ?_
    refine ICall.pure h.n221.o221.hb (same4_c h.n221) rfl ?_
    refine sh ?_
    refine lPa 100 (fun s : Nat × Af => s.1 ≤ l.length ∧ s.2.I ∧ then4 (l.take s.1) = s.2) (fun s => ⟨[(2, .loc 0 1 0 0), (3, .loc 1 1 0 0), (7, .isl 12 (slA l)), (8, .int .i64 l.length), (9, .int .i64 s.1)], [(1, .var (R.ty 33) s.2.row), (0, .var (R.ty 33) [.int .i64 0, .int .i64 0, .int .i64 0, .int .i64 0, .int .i64 0, .int .i64 0, .int .i64 0, .int .i64 0, .int .i64 0, .int .i64 0, .int .i64 0, .int .i64 0])], 2⟩) (fun s => l.length - s.1) ((0, same4)) ?_ ?_
    · exact ⟨Nat.zero_le _, same_in, rfl⟩
    · rintro ⟨k, f⟩ ⟨h1, h2, h3⟩
      dsimp only at h1 h2 h3 ⊢
      refine sh ?_
      refine cS (fun h4 => ?_) (fun h4 => ?_)
      · obtain ⟨g, hg⟩ : ∃ u_, l[k]? = some u_ := ⟨_, List.getElem?_eq_getElem (by first | omega | (simp <;> omega))⟩
        refine sh ?_
        refine eget_map hg ?_
        have ig := hi g (List.mem_of_getElem? hg)
        by_cases h0 : k = 0
        · subst h0
          refine sh ?_
          refine acnd_t (by rfl) ?_
          refine sh ?_
          refine nXa ((1, g)) ?_ ?_
          · exact ⟨by omega, ig, then4_one hg⟩
          · omega
        · refine sh ?_
          refine acnd_f (by (simp; omega)) ?_
          refine sh ?_
          refine ICall.pure h.n258.o258.hb (col4_c h.n258 f 0 (by omega)) rfl ?_
          refine sh ?_
          refine ICall.pure h.n231.o231.hb (turn4_c h.n231 ig (h2.cl 0)) rfl ?_
          refine sh ?_
          refine ICall.pure h.n258.o258.hb (col4_c h.n258 f 1 (by omega)) rfl ?_
          refine sh ?_
          refine ICall.pure h.n231.o231.hb (turn4_c h.n231 ig (h2.cl 1)) rfl ?_
          refine sh ?_
          refine ICall.pure h.n258.o258.hb (col4_c h.n258 f 2 (by omega)) rfl ?_
          refine sh ?_
          refine ICall.pure h.n231.o231.hb (turn4_c h.n231 ig (h2.cl 2)) rfl ?_
          refine sh ?_
          refine ICall.pure h.n233.o233.hb (apply4_c h.n233 ig h2.t) rfl ?_
          refine sh ?_
          refine cM true [] ((axes4_c h.n227 [turn4 g (f.cl 0), turn4 g (f.cl 1), turn4 g (f.cl 2), apply4 g f.t] (by simp)).mc h.n227.o227.hb) ?_
          repeat ((intro _u; clear _u); first | refine eK ?_ | refine eP ?_)
          refine sh ?_
          refine nXa ((k + 1, comp4 f g)) ?_ ?_
          · exact ⟨by omega, comp_in f g, by rw [then4_succ hg (by omega), h3]⟩
          · omega
      · rw [List.take_of_length_le (by omega)] at h3
        rw [h3]
        refine sh ?_
        exact rT
theorem rthen4_c {R : Env} (h : N239 R) (l : List Af) (hl : l.length ≤ 1000) (hi : ∀ a ∈ l, a.I) : R.Pc 239 [.isl 12 (slA l)] (.agg (then4 l).row) :=
  h.o239.enter 100 rfl fun X bb hfit hp => by
    by_cases h0 : l = []
    · subst h0
      refine sh ?_
      refine acnd_t (by simp) ?_
      refine sh ?_
      refine ICall.pure h.n222.o222.hb (rsame4_c h.n222) rfl ?_
      refine sh ?_
      exact rT
    · have h1 : 1 ≤ l.length := Nat.one_le_iff_ne_zero.2 fun e => h0 (List.eq_nil_of_length_eq_zero e)
      refine sh ?_
      refine acnd_f (by (simp; omega)) ?_
      obtain ⟨z, hz⟩ : ∃ u_, l[0]? = some u_ := ⟨_, List.getElem?_eq_getElem (by first | omega | (simp <;> omega))⟩
      refine sh ?_
      refine eget_map hz ?_
      refine sh ?_
      refine lPa 100 (fun s : Nat × Af => (1 ≤ s.1 ∧ s.1 ≤ l.length) ∧ s.2.I ∧ then4 (l.take s.1) = s.2) (fun s => ⟨[(0, .isl 12 (slA l)), (2, .loc 0 1 0 0), (3, .loc 1 1 0 0), (4, .int .i64 s.1)], [(1, .var (R.ty 33) s.2.row), (0, .var (R.ty 33) [.int .i64 0, .int .i64 0, .int .i64 0, .int .i64 0, .int .i64 0, .int .i64 0, .int .i64 0, .int .i64 0, .int .i64 0, .int .i64 0, .int .i64 0, .int .i64 0])], 2⟩) (fun s => l.length - s.1) ((1, z)) ?_ ?_
      · exact ⟨⟨Nat.le_refl _, h1⟩, hi z (List.mem_of_getElem? hz), then4_one hz⟩
      · rintro ⟨k, f⟩ ⟨⟨h2, h3⟩, h4, h5⟩
        dsimp only at h2 h3 h4 h5 ⊢
        refine sh ?_
        refine cS (fun h6 => ?_) (fun h6 => ?_)
        · obtain ⟨g, hg⟩ : ∃ g, l[k]? = some g := ⟨_, List.getElem?_eq_getElem (by omega)⟩
          have ig := hi g (List.mem_of_getElem? hg)
          refine sh ?_
          refine ILoop.one 100 ?_
          refine sh ?_
          refine acnd_t (by decide) ?_
          refine sh ?_
          refine eget_map hg ?_
          refine sh ?_
          refine ICall.pure h.n232.o232.hb (rturn4_c h.n232 ig (h4.cl 0)) rfl ?_
          refine sh ?_
          refine ILoop.one 100 ?_
          refine sh ?_
          refine acnd_t (by decide) ?_
          refine sh ?_
          refine eget_map hg ?_
          refine sh ?_
          refine ICall.pure h.n232.o232.hb (rturn4_c h.n232 ig (h4.cl 1)) rfl ?_
          refine sh ?_
          refine ILoop.one 100 ?_
          refine sh ?_
          refine acnd_t (by decide) ?_
          refine sh ?_
          refine eget_map hg ?_
          refine sh ?_
          refine ICall.pure h.n232.o232.hb (rturn4_c h.n232 ig (h4.cl 2)) rfl ?_
          refine sh ?_
          refine ILoop.one 100 ?_
          refine sh ?_
          refine acnd_f (by decide) ?_
          refine sh ?_
          refine eget_map hg ?_
          refine sh ?_
          refine ICall.pure h.n234.o234.hb (rapply4_c h.n234 ig h4.t) rfl ?_
          refine sh ?_
          refine cM true [] ((raxes4_c h.n228 [turn4 g (f.cl 0), turn4 g (f.cl 1), turn4 g (f.cl 2), apply4 g f.t] (by simp)).mc h.n228.o228.hb) ?_
          repeat ((intro _u; clear _u); first | refine eK ?_ | refine eP ?_)
          refine sh ?_
          refine nXa ((k + 1, comp4 f g)) ?_ ?_
          · exact ⟨by omega, comp_in f g, by rw [then4_succ hg (by omega), h5]⟩
          · omega
        · rw [List.take_of_length_le (by omega)] at h5
          rw [h5]
          refine sh ?_
          exact rT
end Go.UM

namespace Go.UM
open Go.AM
set_option maxRecDepth 4000
structure Gr where
  par : Int
  t : Af
  mesh : Int
  mat : Int
  tex : Int
def Gr.row (g : Gr) : List AV := [.int .i64 g.par, .int .i64 g.t.m0, .int .i64 g.t.m1, .int .i64 g.t.m2, .int .i64 g.t.m3, .int .i64 g.t.m4, .int .i64 g.t.m5, .int .i64 g.t.m6, .int .i64 g.t.m7, .int .i64 g.t.m8, .int .i64 g.t.t.a, .int .i64 g.t.t.b, .int .i64 g.t.t.c, .int .i64 g.mesh, .int .i64 g.mat, .int .i64 g.tex]
def slG (l : List Gr) : List (List AV) := l.map Gr.row
@[simp] theorem slG_length (l : List Gr) : (slG l).length = l.length := by simp [slG]
@[simp] theorem slG_append (a b : List Gr) : slG (a ++ b) = slG a ++ slG b := by simp [slG]
@[simp] theorem slG_NmL (l : List Gr) : NmL (slG l) := by simp [slG, Gr.row]
@[simp] theorem slG_FlL (l : List Gr) : FlL (slG l) := by simp [slG, Gr.row]
instance {l : List Gr} : LenOf (slG l) l.length := ⟨slG_length l⟩
theorem slG_take (l : List Gr) (k : Nat) : (slG l).take k = slG (l.take k) := by simp [slG, List.map_take]
theorem capG (b : List Gr) (m : Int) : (slG b).take (min (b.length : Int) m).toNat = slG (b.take m.toNat) := by rw [slG_take, take_cap]
def hbad (g : Gr) (h : Int) : Bool := decide (h < 0) || decide (65536 < h) || (g.mesh == 0 && h != 0)
def gown (g : Gr) (i : Nat) : Int := if g.par < -1 ∨ (i : Int) ≤ g.par then 5 else if [g.mesh, g.mat, g.tex].any (hbad g) = true then 5 else 0
def dstep (ds : List Int) (g : Gr) : Int := if 0 ≤ g.par then 1 + ds.getD g.par.toNat 0 else 1
def gdep (l : List Gr) : List Int := l.foldl (fun ds g => ds ++ [dstep ds g]) []
def gerr (ds : List Int) (g : Gr) : Int := if gown g ds.length ≠ 0 then gown g ds.length else if 16 < dstep ds g then 3 else chk4 g.t
def gfst : List Int → List Gr → Int
  | _, [] => 0
  | ds, g :: r => if gerr ds g ≠ 0 then gerr ds g else gfst (ds ++ [dstep ds g]) r
def gchk (l : List Gr) : Int := if 256 < l.length then 3 else gfst [] l
theorem gdep_snoc {l : List Gr} {k : Nat} {g : Gr} (h : l[k]? = some g) : gdep (l.take (k + 1)) = gdep (l.take k) ++ [dstep (gdep (l.take k)) g] := by
  rw [take_succ_get h]; simp [gdep, List.foldl_append]
@[simp] theorem gdep_len (l : List Gr) : (gdep l).length = l.length := by
  have : ∀ (l : List Gr) (ds : List Int), (l.foldl (fun ds g => ds ++ [dstep ds g]) ds).length = ds.length + l.length := by
    intro l
    induction l with
    | nil => intro ds; rfl
    | cons g r ih => intro ds; rw [List.foldl_cons, ih]; simp; omega
  simpa [gdep] using this l []
theorem gdep_take {l : List Gr} {j k : Nat} (h : j < k) (hk : k ≤ l.length) : (gdep (l.take k)).getD j 0 = (gdep l).getD j 0 := by
  have pre : ∀ (r : List Gr) (ds : List Int), ∃ x, r.foldl (fun ds g => ds ++ [dstep ds g]) ds = ds ++ x := by
    intro r
    induction r with
    | nil => intro ds; exact ⟨[], by simp⟩
    | cons g r ih => intro ds; obtain ⟨x, hx⟩ := ih (ds ++ [dstep ds g]); exact ⟨[dstep ds g] ++ x, by rw [List.foldl_cons, hx]; simp⟩
  have e : gdep l = (l.drop k).foldl (fun ds g => ds ++ [dstep ds g]) (gdep (l.take k)) := by
    conv => lhs; rw [← List.take_append_drop k l]
    simp only [gdep, List.foldl_append]
  obtain ⟨x, hx⟩ := pre (l.drop k) (gdep (l.take k))
  rw [e, hx]
  have hl : (gdep (l.take k)).length = k := by rw [gdep_len, List.length_take]; omega
  rw [List.getD_eq_getElem?_getD, List.getD_eq_getElem?_getD, List.getElem?_append_left (by omega)]
theorem drop_at {α : Type} {l : List α} {k : Nat} {x : α} (h : l[k]? = some x) : l.drop k = x :: l.drop (k + 1) := by
  obtain ⟨h1, h2⟩ := List.getElem?_eq_some_iff.1 h
  rw [List.drop_eq_getElem_cons h1, h2]
theorem gfst_nil (ds : List Int) : gfst ds [] = 0 := rfl
def Ahead (l : List Gr) : Prop := ∀ (j : Nat) (g : Gr), l[j]? = some g → -1 ≤ g.par ∧ g.par < j
theorem gown0 {g : Gr} {i : Nat} (h : gown g i = 0) : -1 ≤ g.par ∧ g.par < i := by
  unfold gown at h
  split at h
  · simp at h
  · omega
theorem gerr0 {ds : List Int} {g : Gr} (h : gerr ds g = 0) : gown g ds.length = 0 ∧ dstep ds g ≤ 16 ∧ chk4 g.t = 0 := by
  unfold gerr at h
  split at h
  · rename_i hn; exact absurd h hn
  · rename_i hn
    have hn : gown g ds.length = 0 := Classical.not_not.1 hn
    split at h
    · simp at h
    · exact ⟨hn, by omega, h⟩
theorem gfst_drop {l : List Gr} : ∀ {k : Nat}, k ≤ l.length → gfst (gdep (l.take k)) (l.drop k) = 0 → ∀ (j : Nat) (g : Gr), k ≤ j → l[j]? = some g → gerr (gdep (l.take j)) g = 0 := by
  intro k hk h j g hj hg
  have hlt : j < l.length := (List.getElem?_eq_some_iff.1 hg).1
  generalize hm : l.length - k = m
  induction m generalizing k with
  | zero => omega
  | succ m ih =>
    have hkl : k < l.length := by omega
    have hx := List.getElem?_eq_getElem hkl
    rw [drop_at hx, gfst] at h
    split at h
    · rename_i hn; exact absurd h hn
    · rename_i hn
      by_cases e : k = j
      · subst e
        rw [hx] at hg
        cases hg
        exact Classical.not_not.1 hn
      · refine ih (k := k + 1) (by omega) ?_ (by omega) (by omega)
        rw [gdep_snoc hx]; exact h
theorem gchk_all {l : List Gr} (h : gchk l = 0) : l.length ≤ 256 ∧ ∀ (j : Nat) (g : Gr), l[j]? = some g → gerr (gdep (l.take j)) g = 0 := by
  unfold gchk at h
  split at h
  · simp at h
  · refine ⟨by omega, fun j g hg => gfst_drop (k := 0) (Nat.zero_le _) (by simpa [gdep] using h) j g (Nat.zero_le _) hg⟩
theorem gchk_ahead {l : List Gr} (h : gchk l = 0) : Ahead l := fun j g hg => by
  have hlt : j < l.length := (List.getElem?_eq_some_iff.1 hg).1
  have := gown0 (gerr0 ((gchk_all h).2 j g hg)).1
  rwa [gdep_len, List.length_take, Nat.min_eq_left (Nat.le_of_lt hlt)] at this
theorem dstep_le {ds : List Int} {g : Gr} (h : ∀ d ∈ ds, 1 ≤ d ∧ d ≤ 16) : 1 ≤ dstep ds g ∧ dstep ds g ≤ 17 := by
  unfold dstep
  split
  · rw [List.getD_eq_getElem?_getD]
    cases hg : ds[g.par.toNat]? with
    | none => simp
    | some d =>
      have := h d (List.mem_of_getElem? hg)
      simp only [Option.getD_some]; omega
  · omega
def gds (l : List Gr) : List Int := if gchk l = 0 then gdep l else []
def wayN (l : List Gr) : Nat → List Af
  | 0 => []
  | k + 1 => match l[k]? with
    | some g => g.t :: wayN l (min k (g.par + 1).toNat)
    | none => []
termination_by n => n
theorem wayN_succ {l : List Gr} {k : Nat} {g : Gr} (h : l[k]? = some g) (hp : g.par < k) : wayN l (k + 1) = g.t :: wayN l (g.par + 1).toNat := by
  rw [wayN]
  simp only [h]
  rw [Nat.min_eq_right (by omega)]
theorem wayN_zero (l : List Gr) : wayN l 0 = [] := by rw [wayN]
theorem wayN_len (l : List Gr) : ∀ n, (wayN l n).length ≤ n := by
  intro n
  induction n using Nat.strongRecOn with
  | ind n ih =>
    cases n with
    | zero => rw [wayN]; simp
    | succ k =>
      rw [wayN]
      split
      · rename_i g hg
        have := ih (min k (g.par + 1).toNat) (by omega)
        simp only [List.length_cons]; omega
      · simp
theorem wayN_I {l : List Gr} (hl : ∀ g ∈ l, g.t.I) : ∀ n, ∀ a ∈ wayN l n, a.I := by
  intro n
  induction n using Nat.strongRecOn with
  | ind n ih =>
    cases n with
    | zero => rw [wayN]; intro a ha; simp at ha
    | succ k =>
      rw [wayN]
      split
      · rename_i g hg
        intro a ha
        rcases List.mem_cons.1 ha with rfl | ha
        · exact hl g (List.mem_of_getElem? hg)
        · exact ih _ (by omega) a ha
      · intro a ha; simp at ha
def gworld (l : List Gr) (i : Int) : Af := then4 (wayN l (i + 1).toNat)
end Go.UM

namespace Go.UM
open Go.AM
set_option maxRecDepth 4000
theorem gfew_c {R : Env} (h : N326 R) (l : List Gr) : R.Pc 326 [.isl 16 (slG l)] (.isl 16 (slG (l.take 30))) :=
  h.o326.enter 100 rfl fun X bb hfit hp => by
    refine sh ?_
    refine asub_eq (by exact capG l 30) ?_
    refine sh ?_
    exact rT
theorem gown_c {R : Env} (h : N359 R) (g : Gr) (i : Nat) : R.Pc 359 [.agg g.row, .int .i64 i] (.int .i64 (gown g i)) :=
  h.o359.enter 100 rfl fun X bb hfit hp => by
    generalize hq : gown g i = q
    unfold gown at hq
    refine sh ?_
    refine cS (fun h1 => ?_) (fun h1 => ?_)
    · rw [if_pos (.inl h1)] at hq
      subst hq
      refine sh ?_
      exact rT
    · refine sh ?_
      refine cS (fun h2 => ?_) (fun h2 => ?_)
      · rw [if_pos (.inr h2)] at hq
        subst hq
        refine sh ?_
        exact rT
      · rw [if_neg (by omega)] at hq
        refine sh ?_
        refine lPa 100 (fun k : Nat => k ≤ 3 ∧ ([g.mesh, g.mat, g.tex].take k).any (hbad g) = false) (fun k => ⟨[(2, .loc 0 1 0 0), (24, .osl 1 3), (25, .int .i64 3), (26, .int .i64 k)], [(1, .arr (R.ty 10) 1 (slcK .i64 [g.mesh, g.mat, g.tex])), (0, .var (R.ty 43) g.row)], 2⟩) (fun k => 3 - k) (0) ?_ ?_
        · exact ⟨by omega, rfl⟩
        · rintro k ⟨h3, h4⟩
          dsimp only at h3 h4 ⊢
          refine sh ?_
          refine cS (fun h5 => ?_) (fun h5 => ?_)
          · obtain ⟨x, hx⟩ : ∃ x, [g.mesh, g.mat, g.tex][k]? = some x := ⟨_, List.getElem?_eq_getElem (by simp; omega)⟩
            refine sh ?_
            refine aelt_map (by simp) hx ?_
            have hb : hbad g x = (decide (x < 0) || decide (65536 < x) || (g.mesh == 0 && x != 0)) := rfl
            have fin : hbad g x = true → q = 5 := fun e => by
              rw [if_pos (List.any_eq_true.2 ⟨x, List.mem_of_getElem? hx, e⟩)] at hq; exact hq.symm
            have go : hbad g x = false → ([g.mesh, g.mat, g.tex].take (k + 1)).any (hbad g) = false := fun e => by
              rw [take_succ_get hx, List.any_append, h4]; simp [e]
            have h5' : k < 3 := by omega
            refine sh ?_
            refine cS (fun g1 => ?_) (fun g1 => ?_)
            · rw [fin (by rw [hb]; simp; omega)]
              refine sh ?_
              exact rT
            · refine sh ?_
              refine cS (fun g2 => ?_) (fun g2 => ?_)
              · rw [fin (by rw [hb]; simp; omega)]
                refine sh ?_
                exact rT
              · refine sh ?_
                refine cS (fun g3 => ?_) (fun g3 => ?_)
                · refine sh ?_
                  refine cS (fun g4 => ?_) (fun g4 => ?_)
                  · rw [fin (by rw [hb, g3]; simp; omega)]
                    refine sh ?_
                    exact rT
                  · refine sh ?_
                    refine nXa (k + 1) ?_ ?_
                    · exact ⟨by omega, go (by rw [hb, g4]; simp)⟩
                    · omega
                · refine sh ?_
                  refine nXa (k + 1) ?_ ?_
                  · exact ⟨by omega, go (by rw [hb]; simp; omega)⟩
                  · omega
          · rw [show k = 3 by omega] at h4
            rw [if_neg (by rw [List.take_of_length_le (by simp)] at h4; rw [h4]; simp)] at hq
            subst hq
            refine sh ?_
            exact rT
end Go.UM

namespace Go.UM
open Go.AM
set_option maxRecDepth 4000
theorem gerr_at {l : List Gr} {k : Nat} {g : Gr} (hg : l[k]? = some g) : gerr (gdep (l.take k)) g = if gown g k ≠ 0 then gown g k else if 16 < dstep (gdep (l.take k)) g then 3 else chk4 g.t := by
  have hlt : k < l.length := (List.getElem?_eq_some_iff.1 hg).1
  unfold gerr
  rw [gdep_len, List.length_take, Nat.min_eq_left (Nat.le_of_lt hlt)]
theorem gfst_at {l : List Gr} {k : Nat} {g : Gr} (hg : l[k]? = some g) : gfst (gdep (l.take k)) (l.drop k) = if gerr (gdep (l.take k)) g ≠ 0 then gerr (gdep (l.take k)) g else gfst (gdep (l.take (k + 1))) (l.drop (k + 1)) := by
  rw [drop_at hg, gfst, gdep_snoc hg]
theorem gdep_mem {l : List Gr} {k : Nat} {g : Gr} (hg : l[k]? = some g) (h : ∀ d ∈ gdep (l.take k), 1 ≤ d ∧ d ≤ 16) (h16 : ¬ 16 < dstep (gdep (l.take k)) g) : ∀ d ∈ gdep (l.take (k + 1)), 1 ≤ d ∧ d ≤ 16 := by
  intro d hd
  rw [gdep_snoc hg] at hd
  rcases List.mem_append.1 hd with hd | hd
  · exact h d hd
  · have := dstep_le (g := g) h
    simp at hd
    omega
theorem depths_c {R : Env} (h : N350 R) (l : List Gr) (hl : l.length ≤ 1000) (hi : ∀ g ∈ l, g.t.I) : R.Pc 350 [.isl 16 (slG l)] (.tup [.isl 1 (slcK .i64 (gds l)), .int .i64 (gchk l)]) :=
  h.o350.enter 200 rfl fun X bb hfit hp => by
    generalize hq : gchk l = q
    generalize hqd : gds l = qd
    unfold gds at hqd
    rw [hq] at hqd
    have fin : ∀ {e : Int}, q = e → e ≠ 0 → AV.tup [.isl 1 (slcK .i64 qd), .int .i64 q] = .tup [.isl 1 [], .int .i64 e] := by
      rintro e rfl hne
      rw [← hqd, if_neg hne]; rfl
    unfold gchk at hq
    refine sh ?_
    refine cS (fun h0 => ?_) (fun h0 => ?_)
    · rw [if_pos (by omega)] at hq
      rw [fin hq.symm (by decide)]
      refine sh ?_
      exact rT
    · rw [if_neg (by omega)] at hq
      refine sh ?_
      refine lPa 200 (fun k : Nat => k ≤ l.length ∧ (∀ d ∈ gdep (l.take k), 1 ≤ d ∧ d ≤ 16) ∧ gfst (gdep (l.take k)) (l.drop k) = q) (fun k => ⟨[(4, .osl 0 k), (13, .isl 16 (slG l)), (14, .int .i64 l.length), (15, .int .i64 k)], [(0, .arr (R.ty 10) 1 (slcK .i64 (gdep (l.take k))))], 1⟩) (fun k => l.length - k) (0) ?_ ?_
      · exact ⟨by omega, by intro d hd; simp [gdep] at hd, by simpa [gdep] using hq⟩
      · rintro k ⟨h1, h2, h3⟩
        dsimp only at h1 h2 h3 ⊢
        have hlen : (gdep (l.take k)).length = k := by rw [gdep_len, List.length_take]; omega
        refine sh ?_
        refine cS (fun h4 => ?_) (fun h4 => ?_)
        · obtain ⟨g, hg⟩ : ∃ u_, l[k]? = some u_ := ⟨_, List.getElem?_eq_getElem (by first | omega | (simp <;> omega))⟩
          refine sh ?_
          refine eget_map hg ?_
          have e2 := gerr_at hg
          rw [gfst_at hg] at h3
          refine sh ?_
          refine ICall.pure h.n359.o359.hb (gown_c h.n359 g k) rfl ?_
          refine sh ?_
          refine cS (fun c0 => ?_) (fun c0 => ?_)
          · rw [if_pos c0] at e2
            rw [e2, if_pos c0] at h3
            rw [fin h3.symm c0]
            refine sh ?_
            exact rT
          · have hpar := gown0 c0
            refine sh ?_
            refine cS (fun c2 => ?_) (fun c2 => ?_)
            · obtain ⟨d0, hd0⟩ : ∃ d0, (gdep (l.take k))[g.par.toNat]? = some d0 := ⟨_, List.getElem?_eq_getElem (by omega)⟩
              have hd : dstep (gdep (l.take k)) g = 1 + d0 := by unfold dstep; rw [if_pos c2, List.getD_eq_getElem?_getD, hd0]; rfl
              have hr := h2 d0 (List.mem_of_getElem? hd0)
              refine sh ?_
              refine aelt_map (by simp [hlen]) hd0 ?_
              refine sh ?_
              refine cS (fun c3 => ?_) (fun c3 => ?_)
              · rw [if_neg (by simpa using c0), if_pos (by rw [hd]; omega)] at e2
                rw [e2, if_pos (by decide)] at h3
                rw [fin h3.symm (by decide)]
                refine sh ?_
                exact rT
              · refine sh ?_
                refine ICall.pure h.n235.o235.hb (check4_c h.n235 (hi g (List.mem_of_getElem? hg))) rfl ?_
                refine sh ?_
                refine cS (fun c1 => ?_) (fun c1 => ?_)
                · rw [if_neg (by simpa using c0), if_neg (by rw [hd]; omega)] at e2
                  rw [e2, if_pos c1] at h3
                  rw [fin h3.symm c1]
                  refine sh ?_
                  exact rT
                · rw [if_neg (by simpa using c0), if_neg (by rw [hd]; omega), c1] at e2
                  rw [e2, if_neg (by simp)] at h3
                  refine sh ?_
                  refine nX (k + 1) ?_ ?_ ⟨_, hp, rfl⟩ ?_ ?_
                  · exact ⟨by omega, gdep_mem hg h2 (by rw [hd]; omega), h3⟩
                  · omega
                  · all_goals repeat' (first | exact True.intro | refine And.intro ?_ ?_ | (intro _u; clear _u) | (with_reducible first | refine eM ?_ ?_ | refine eF ?_ ?_ ?_ | refine eN ?_ | refine eL ?_ ?_ ?_ | refine eA ?_ ?_ | refine IWk.mk ⟨_, hp, rfl⟩ ?_ ?_) | refine IWk.mk ⟨_, hp, rfl⟩ ?_ ?_)
                    all_goals first | with_reducible rfl | omega | exact Or.inl (by decide) | (simp; done) | rfl | skip
                    simp; omega
                  · all_goals repeat' (first | exact True.intro | refine And.intro ?_ ?_ | (intro _u; clear _u) | (with_reducible first | refine eM ?_ ?_ | refine eF ?_ ?_ ?_ | refine eN ?_ | refine eL ?_ ?_ ?_ | refine eA ?_ ?_ | refine IWk.mk ⟨_, hp, rfl⟩ ?_ ?_) | refine IWk.mk ⟨_, hp, rfl⟩ ?_ ?_)
                    all_goals first | with_reducible rfl | omega | exact Or.inl (by decide) | (simp; done) | rfl | skip
                    rw [gdep_snoc hg, hd, slcK_append]
                    rfl
            · have hd : dstep (gdep (l.take k)) g = 1 := by unfold dstep; rw [if_neg (by omega)]
              refine sh ?_
              refine acnd_f (by decide) ?_
              refine sh ?_
              refine ICall.pure h.n235.o235.hb (check4_c h.n235 (hi g (List.mem_of_getElem? hg))) rfl ?_
              refine sh ?_
              refine cS (fun c1 => ?_) (fun c1 => ?_)
              · rw [if_neg (by simpa using c0), if_neg (by rw [hd]; omega)] at e2
                rw [e2, if_pos c1] at h3
                rw [fin h3.symm c1]
                refine sh ?_
                exact rT
              · rw [if_neg (by simpa using c0), if_neg (by rw [hd]; omega), c1] at e2
                rw [e2, if_neg (by simp)] at h3
                refine sh ?_
                refine nX (k + 1) ?_ ?_ ⟨_, hp, rfl⟩ ?_ ?_
                · exact ⟨by omega, gdep_mem hg h2 (by rw [hd]; omega), h3⟩
                · omega
                · all_goals repeat' (first | exact True.intro | refine And.intro ?_ ?_ | (intro _u; clear _u) | (with_reducible first | refine eM ?_ ?_ | refine eF ?_ ?_ ?_ | refine eN ?_ | refine eL ?_ ?_ ?_ | refine eA ?_ ?_ | refine IWk.mk ⟨_, hp, rfl⟩ ?_ ?_) | refine IWk.mk ⟨_, hp, rfl⟩ ?_ ?_)
                  all_goals first | with_reducible rfl | omega | exact Or.inl (by decide) | (simp; done) | rfl | skip
                  simp; omega
                · all_goals repeat' (first | exact True.intro | refine And.intro ?_ ?_ | (intro _u; clear _u) | (with_reducible first | refine eM ?_ ?_ | refine eF ?_ ?_ ?_ | refine eN ?_ | refine eL ?_ ?_ ?_ | refine eA ?_ ?_ | refine IWk.mk ⟨_, hp, rfl⟩ ?_ ?_) | refine IWk.mk ⟨_, hp, rfl⟩ ?_ ?_)
                  all_goals first | with_reducible rfl | omega | exact Or.inl (by decide) | (simp; done) | rfl | skip
                  rw [gdep_snoc hg, hd, slcK_append]
                  rfl
        · rw [show k = l.length by omega] at h3 ⊢
          rw [List.drop_length, gfst_nil] at h3
          subst h3
          rw [if_pos rfl] at hqd
          subst hqd
          rw [List.take_length]
          refine sh ?_
          exact rT
end Go.UM

namespace Go.UM
open Go.AM
set_option maxRecDepth 4000
theorem gcheck_c {R : Env} (h : N330 R) (l : List Gr) (hl : l.length ≤ 1000) (hi : ∀ g ∈ l, g.t.I) : R.Pc 330 [.isl 16 (slG l)] (.int .i64 (gchk l)) :=
  h.o330.enter 100 rfl fun X bb hfit hp => by
    refine sh ?_
    refine ICall.pure h.n350.o350.hb (depths_c h.n350 l hl hi) rfl ?_
    refine sh ?_
    exact rT
def deep4 (l : List Gr) (i : Int) : Int × Int := if gchk l ≠ 0 then (0, gchk l) else if i < 0 ∨ (l.length : Int) ≤ i then (0, 2) else ((gdep l).getD i.toNat 0, 0)
theorem gdeep_c {R : Env} (h : N331 R) (l : List Gr) (hl : l.length ≤ 1000) (hi : ∀ g ∈ l, g.t.I) (i : Int) : R.Pc 331 [.isl 16 (slG l), .int .i64 i] (.tup [.int .i64 (deep4 l i).1, .int .i64 (deep4 l i).2]) :=
  h.o331.enter 100 rfl fun X bb hfit hp => by
    generalize hq : deep4 l i = q
    unfold deep4 at hq
    refine sh ?_
    refine ICall.pure h.n350.o350.hb (depths_c h.n350 l hl hi) rfl ?_
    refine sh ?_
    refine cS (fun h1 => ?_) (fun h1 => ?_)
    · rw [if_pos h1] at hq
      subst hq
      refine sh ?_
      exact rT
    · rw [if_neg (by simpa using h1)] at hq
      refine sh ?_
      refine cS (fun h2 => ?_) (fun h2 => ?_)
      · rw [if_pos (.inl h2)] at hq
        subst hq
        refine sh ?_
        exact rT
      · refine sh ?_
        refine cS (fun h3 => ?_) (fun h3 => ?_)
        · rw [if_pos (.inr h3)] at hq
          subst hq
          refine sh ?_
          exact rT
        · rw [if_neg (by omega)] at hq
          subst hq
          have e : gds l = gdep l := if_pos h1
          rw [e]
          obtain ⟨d, hd⟩ : ∃ d, (gdep l)[i.toNat]? = some d := ⟨_, List.getElem?_eq_getElem (by rw [gdep_len]; omega)⟩
          refine sh ?_
          refine eget_map hd ?_
          rw [List.getD_eq_getElem?_getD, hd]
          refine sh ?_
          exact rT
def hofr (x : Int) : Bool := decide (x < 0) || decide (65536 < x)
theorem handle_c {R : Env} (h : N351 R) (x : Int) : R.Pc 351 [.int .i64 x] (.bool (!hofr x)) :=
  h.o351.enter 100 rfl fun X bb hfit hp => by
    refine sh ?_
    refine cS (fun h1 => ?_) (fun h1 => ?_)
    · have e : (!hofr x) = decide (x ≤ 65536) := by
        unfold hofr
        rw [Bool.eq_iff_iff]
        simp
        omega
      rw [e]
      refine sh ?_
      exact rT
    · have e : (!hofr x) = false := by
        unfold hofr
        simp [h1]
      rw [e]
      refine sh ?_
      exact rT
theorem gown_alt (g : Gr) (i : Nat) : gown g i = if g.par < -1 ∨ (i : Int) ≤ g.par then 5 else if (hofr g.mesh || hofr g.mat || hofr g.tex || (g.mesh == 0 && (g.mat != 0 || g.tex != 0))) = true then 5 else 0 := by
  have e : [g.mesh, g.mat, g.tex].any (hbad g) = (hofr g.mesh || hofr g.mat || hofr g.tex || (g.mesh == 0 && (g.mat != 0 || g.tex != 0))) := by
    simp only [List.any_cons, List.any_nil, hbad, hofr, Bool.or_false]
    by_cases h0 : g.mesh = 0
    · simp only [h0, beq_self_eq_true, Bool.true_and]
      generalize (decide (g.mat < 0) || decide (65536 < g.mat)) = a
      generalize (decide (g.tex < 0) || decide (65536 < g.tex)) = b
      generalize (g.mat != 0) = c
      generalize (g.tex != 0) = d
      cases a <;> cases b <;> cases c <;> cases d <;> rfl
    · have : (g.mesh == 0) = false := by simpa using h0
      simp only [this, Bool.false_and, Bool.or_false]
      generalize (decide (g.mat < 0) || decide (65536 < g.mat)) = a
      generalize (decide (g.tex < 0) || decide (65536 < g.tex)) = b
      generalize (decide (g.mesh < 0) || decide (65536 < g.mesh)) = c
      cases a <;> cases b <;> cases c <;> rfl
  unfold gown
  rw [e]
theorem gdep_at {l : List Gr} {i : Nat} {g : Gr} (hg : l[i]? = some g) (hp : g.par < i) : (gdep l).getD i 0 = if 0 ≤ g.par then 1 + (gdep l).getD g.par.toNat 0 else 1 := by
  have hlt : i < l.length := (List.getElem?_eq_some_iff.1 hg).1
  rw [← gdep_take (k := i + 1) (by omega) (by omega), gdep_snoc hg]
  have hl : (gdep (l.take i)).length = i := by rw [gdep_len, List.length_take]; omega
  rw [List.getD_eq_getElem?_getD, List.getElem?_append_right (by omega), hl, Nat.sub_self]
  simp only [List.getElem?_cons_zero, Option.getD_some, dstep]
  split
  · rw [gdep_take (k := i) (by omega) (by omega)]
  · rfl
theorem gdep_step {l : List Gr} {i : Nat} {g : Gr} (hg : l[i]? = some g) : (gdep l).getD i 0 = dstep (gdep (l.take i)) g := by
  have hlt : i < l.length := (List.getElem?_eq_some_iff.1 hg).1
  rw [← gdep_take (k := i + 1) (by omega) (by omega), gdep_snoc hg]
  have hl : (gdep (l.take i)).length = i := by rw [gdep_len, List.length_take]; omega
  rw [List.getD_eq_getElem?_getD, List.getElem?_append_right (by omega), hl, Nat.sub_self]
  rfl
theorem gdep_bd {l : List Gr} : ∀ (i : Nat), i < l.length → (∀ (j : Nat) (g : Gr), j ≤ i → l[j]? = some g → -1 ≤ g.par ∧ g.par < j) → 1 ≤ (gdep l).getD i 0 ∧ (gdep l).getD i 0 ≤ i + 1 := by
  intro i
  induction i using Nat.strongRecOn with
  | ind i ih =>
    intro hi hA
    have hg := List.getElem?_eq_getElem hi
    have hp := hA i _ (Nat.le_refl _) hg
    rw [gdep_at hg hp.2]
    split
    · have := ih l[i].par.toNat (by omega) (by omega) (fun j g hj hg => hA j g (by omega) hg)
      omega
    · omega
theorem rdepth_c {R : Env} (h : N336 R) (l : List Gr) (hl : l.length ≤ 1000) : ∀ (i : Nat), i < l.length → (∀ (j : Nat) (g : Gr), j ≤ i → l[j]? = some g → -1 ≤ g.par ∧ g.par < j) → R.Pc 336 [.isl 16 (slG l), .int .i64 i] (.int .i64 ((gdep l).getD i 0)) := by
  intro i
  induction i using Nat.strongRecOn with
  | ind i ih =>
    intro hi hA
    obtain ⟨g, hg⟩ : ∃ g, l[i]? = some g := ⟨_, List.getElem?_eq_getElem hi⟩
    have hp := hA i _ (Nat.le_refl _) hg
    have e := gdep_at hg hp.2
    refine h.o336.enter 100 rfl fun X bb hfit hp' => ?_
    refine sh ?_
    refine eget_map hg ?_
    refine sh ?_
    refine cS (fun h1 => ?_) (fun h1 => ?_)
    · rw [if_neg (by omega)] at e
      rw [e]
      refine sh ?_
      exact rT
    · rw [if_pos (by omega)] at e
      refine sh ?_
      refine eget_map hg ?_
      have hb := gdep_bd (l := l) g.par.toNat (by omega) (fun j g hj hg => hA j g (by omega) hg)
      have c := ih g.par.toNat (by omega) (by omega) (fun j g hj hg => hA j g (by omega) hg)
      rw [Int.toNat_of_nonneg h1] at c
      refine sh ?_
      refine ICall.pure h.o336.hb c rfl ?_
      rw [e]
      refine sh ?_
      exact rT
theorem rgcheck_c {R : Env} (h : N334 R) (l : List Gr) (hl : l.length ≤ 1000) (hi : ∀ g ∈ l, g.t.I) : R.Pc 334 [.isl 16 (slG l)] (.int .i64 (gchk l)) :=
  h.o334.enter 200 rfl fun X bb hfit hp => by
    generalize hq : gchk l = q
    unfold gchk at hq
    refine sh ?_
    refine cS (fun h0 => ?_) (fun h0 => ?_)
    · rw [if_pos (by omega)] at hq
      subst hq
      refine sh ?_
      exact rT
    · rw [if_neg (by omega)] at hq
      refine sh ?_
      refine lPa 200 (fun k : Nat => k ≤ l.length ∧ (∀ (j : Nat) (g : Gr), j < k → l[j]? = some g → gerr (gdep (l.take j)) g = 0) ∧ gfst (gdep (l.take k)) (l.drop k) = q) (fun k => ⟨[(0, .isl 16 (slG l)), (3, .int .i64 k)], [], 0⟩) (fun k => l.length - k) (0) ?_ ?_
      · exact ⟨by omega, by intro j g hj; omega, by simpa [gdep] using hq⟩
      · rintro k ⟨h1, h2, h3⟩
        dsimp only at h1 h2 h3 ⊢
        refine sh ?_
        refine cS (fun h4 => ?_) (fun h4 => ?_)
        · obtain ⟨g, hg⟩ : ∃ u_, l[k]? = some u_ := ⟨_, List.getElem?_eq_getElem (by first | omega | (simp <;> omega))⟩
          refine sh ?_
          refine eget_map hg ?_
          have e2 := gerr_at hg
          rw [gfst_at hg] at h3
          have bad : gown g k = 5 → q = 5 := fun e => by
            rw [e, if_pos (by decide)] at e2
            rw [e2, if_pos (by decide)] at h3
            exact h3.symm
          have eo := gown_alt g k
          refine sh ?_
          refine cS (fun c1 => ?_) (fun c1 => ?_)
          · rw [bad (by rw [eo, if_pos (.inl c1)])]
            refine sh ?_
            exact rT
          · refine sh ?_
            refine cS (fun c2 => ?_) (fun c2 => ?_)
            · rw [bad (by rw [eo, if_pos (.inr c2)])]
              refine sh ?_
              exact rT
            · rw [if_neg (by omega)] at eo
              refine sh ?_
              refine ICall.pure h.n351.o351.hb (handle_c h.n351 g.mesh) rfl ?_
              refine sh ?_
              refine cS (fun c3 => ?_) (fun c3 => ?_)
              · rw [bad (by rw [eo, c3]; rfl)]
                refine sh ?_
                exact rT
              · refine sh ?_
                refine ICall.pure h.n351.o351.hb (handle_c h.n351 g.mat) rfl ?_
                refine sh ?_
                refine cS (fun c4 => ?_) (fun c4 => ?_)
                · rw [bad (by rw [eo, c3, c4]; rfl)]
                  refine sh ?_
                  exact rT
                · refine sh ?_
                  refine ICall.pure h.n351.o351.hb (handle_c h.n351 g.tex) rfl ?_
                  refine sh ?_
                  refine cS (fun c5 => ?_) (fun c5 => ?_)
                  · rw [bad (by rw [eo, c3, c4, c5]; rfl)]
                    refine sh ?_
                    exact rT
                  · rw [c3, c4, c5] at eo
                    simp only [Bool.false_or] at eo
                    refine sh ?_
                    refine cS (fun c6 => ?_) (fun c6 => ?_)
                    · refine sh ?_
                      refine cS (fun c7 => ?_) (fun c7 => ?_)
                      · rw [bad (by rw [eo]; simp [c6, c7])]
                        refine sh ?_
                        exact rT
                      · refine sh ?_
                        refine cS (fun c8 => ?_) (fun c8 => ?_)
                        · rw [bad (by rw [eo]; simp [c6, c8])]
                          refine sh ?_
                          exact rT
                        · have c0 : gown g k = 0 := by rw [eo]; simp [c7, c8]
                          have hA : ∀ (j : Nat) (g : Gr), j ≤ k → l[j]? = some g → -1 ≤ g.par ∧ g.par < j := by
                            intro j g' hj hg'
                            by_cases e : j = k
                            · subst e
                              rw [hg] at hg'
                              cases hg'
                              exact gown0 c0
                            · have := gown0 (gerr0 (h2 j g' (by omega) hg')).1
                              rwa [gdep_len, List.length_take, Nat.min_eq_left (by omega)] at this
                          refine sh ?_
                          refine ICall.pure h.n336.o336.hb (rdepth_c h.n336 l hl k (by omega) hA) rfl ?_
                          rw [gdep_step hg]
                          refine sh ?_
                          refine cS (fun d1 => ?_) (fun d1 => ?_)
                          · rw [if_neg (by simpa using c0), if_pos (by omega)] at e2
                            rw [e2, if_pos (by decide)] at h3
                            subst h3
                            refine sh ?_
                            exact rT
                          · rw [if_neg (by simpa using c0), if_neg (by omega)] at e2
                            refine sh ?_
                            refine ICall.pure h.n236.o236.hb (rcheck4_c h.n236 (hi g (List.mem_of_getElem? hg))) rfl ?_
                            refine sh ?_
                            refine cS (fun d2 => ?_) (fun d2 => ?_)
                            · rw [e2, if_pos d2] at h3
                              subst h3
                              refine sh ?_
                              exact rT
                            · rw [e2, if_neg (by simpa using d2)] at h3
                              refine sh ?_
                              refine nXa (k + 1) ?_ ?_
                              · refine ⟨by omega, fun j g' hj hg' => ?_, h3⟩
                                by_cases e : j = k
                                · subst e
                                  rw [hg] at hg'
                                  cases hg'
                                  rw [e2]; exact d2
                                · exact h2 j g' (by omega) hg'
                              · omega
                    · have c0 : gown g k = 0 := by rw [eo]; simp [c6]
                      have hA : ∀ (j : Nat) (g : Gr), j ≤ k → l[j]? = some g → -1 ≤ g.par ∧ g.par < j := by
                        intro j g' hj hg'
                        by_cases e : j = k
                        · subst e
                          rw [hg] at hg'
                          cases hg'
                          exact gown0 c0
                        · have := gown0 (gerr0 (h2 j g' (by omega) hg')).1
                          rwa [gdep_len, List.length_take, Nat.min_eq_left (by omega)] at this
                      refine sh ?_
                      refine ICall.pure h.n336.o336.hb (rdepth_c h.n336 l hl k (by omega) hA) rfl ?_
                      rw [gdep_step hg]
                      refine sh ?_
                      refine cS (fun d1 => ?_) (fun d1 => ?_)
                      · rw [if_neg (by simpa using c0), if_pos (by omega)] at e2
                        rw [e2, if_pos (by decide)] at h3
                        subst h3
                        refine sh ?_
                        exact rT
                      · rw [if_neg (by simpa using c0), if_neg (by omega)] at e2
                        refine sh ?_
                        refine ICall.pure h.n236.o236.hb (rcheck4_c h.n236 (hi g (List.mem_of_getElem? hg))) rfl ?_
                        refine sh ?_
                        refine cS (fun d2 => ?_) (fun d2 => ?_)
                        · rw [e2, if_pos d2] at h3
                          subst h3
                          refine sh ?_
                          exact rT
                        · rw [e2, if_neg (by simpa using d2)] at h3
                          refine sh ?_
                          refine nXa (k + 1) ?_ ?_
                          · refine ⟨by omega, fun j g' hj hg' => ?_, h3⟩
                            by_cases e : j = k
                            · subst e
                              rw [hg] at hg'
                              cases hg'
                              rw [e2]; exact d2
                            · exact h2 j g' (by omega) hg'
                          · omega
        · rw [show k = l.length by omega] at h3
          rw [List.drop_length, gfst_nil] at h3
          subst h3
          refine sh ?_
          exact rT
end Go.UM

namespace Go.UM
open Go.AM
set_option maxRecDepth 4000
def z4 : Af := ⟨0, 0, 0, 0, 0, 0, 0, 0, 0, z3⟩
theorem gworld_c {R : Env} (h : N348 R) (l : List Gr) (hl : l.length ≤ 900) (hi : ∀ g ∈ l, g.t.I) (hA : Ahead l) (i : Int) (h0 : -1 ≤ i) (h1 : i < l.length) : R.Pc 348 [.isl 16 (slG l), .int .i64 i] (.agg (gworld l i).row) :=
  h.o348.enter 100 rfl fun X bb hfit hp => by
    generalize hW : wayN l (i + 1).toNat = W
    have hWl : W.length ≤ 901 := by have := wayN_len l (i + 1).toNat; rw [hW] at this; omega
    have hWi : ∀ a ∈ W, a.I := by rw [← hW]; exact wayN_I hi _
    refine sh ?_
    refine lPa 100 (fun s : Int × List Af => (-1 ≤ s.1 ∧ s.1 < l.length ∧ s.1 ≤ i) ∧ s.2 ++ wayN l (s.1 + 1).toNat = W) (fun s => ⟨[(0, .isl 16 (slG l)), (1, .int .i64 s.1), (4, .loc 0 1 0 0), (5, .osl 1 s.2.length)], [(1, .arr (R.ty 33) 12 (slA s.2)), (0, .var (R.ty 33) z4.row)], 2⟩) (fun s => (s.1 + 1).toNat) ((i, [])) ?_ ?_
    · exact ⟨⟨h0, h1, by simp⟩, by rw [← hW]; rfl⟩
    · rintro ⟨k, w⟩ ⟨h2, h3⟩
      dsimp only at h2 h3 ⊢
      have hwl : w.length ≤ 1000 := by
        have := congrArg List.length h3
        rw [List.length_append] at this
        omega
      refine sh ?_
      refine cS (fun h4 => ?_) (fun h4 => ?_)
      · obtain ⟨g, hg⟩ : ∃ g, l[k.toNat]? = some g := ⟨_, List.getElem?_eq_getElem (by omega)⟩
        have hpar := hA _ g hg
        refine sh ?_
        refine eget_map hg ?_
        refine sh ?_
        refine eget_map hg ?_
        refine sh ?_
        refine nX ((g.par, w ++ [g.t])) ?_ ?_ ⟨_, hp, rfl⟩ ?_ ?_
        · refine ⟨by dsimp only; omega, ?_⟩
          rw [show (k + 1).toNat = k.toNat + 1 by omega, wayN_succ hg (by omega)] at h3
          dsimp only
          rw [← h3]; simp
        · dsimp only; omega
        · all_goals repeat' (first | exact True.intro | refine And.intro ?_ ?_ | (intro _u; clear _u) | (with_reducible first | refine eM ?_ ?_ | refine eF ?_ ?_ ?_ | refine eN ?_ | refine eL ?_ ?_ ?_ | refine eA ?_ ?_ | refine IWk.mk ⟨_, hp, rfl⟩ ?_ ?_) | refine IWk.mk ⟨_, hp, rfl⟩ ?_ ?_)
          all_goals first | with_reducible rfl | omega | exact Or.inl (by decide) | (simp; done) | rfl | skip
        · all_goals repeat' (first | exact True.intro | refine And.intro ?_ ?_ | (intro _u; clear _u) | (with_reducible first | refine eM ?_ ?_ | refine eF ?_ ?_ ?_ | refine eN ?_ | refine eL ?_ ?_ ?_ | refine eA ?_ ?_ | refine IWk.mk ⟨_, hp, rfl⟩ ?_ ?_) | refine IWk.mk ⟨_, hp, rfl⟩ ?_ ?_)
          all_goals first | with_reducible rfl | omega | exact Or.inl (by decide) | (simp; done) | rfl | skip
          simp [slA, Af.row]
      · rw [show (k + 1).toNat = 0 by omega, wayN_zero, List.append_nil] at h3
        subst h3
        refine sh ?_
        refine cM true [] ((then4_c h.n238 w hwl hWi).mc h.n238.o238.hb) ?_
        repeat ((intro _u; clear _u); first | refine eK ?_ | refine eP ?_)
        unfold gworld
        rw [hW]
        refine sh ?_
        exact rT
theorem rgworld_c {R : Env} (h : N337 R) (l : List Gr) (hl : l.length ≤ 900) (hi : ∀ g ∈ l, g.t.I) (hA : Ahead l) (i : Int) (h0 : -1 ≤ i) (h1 : i < l.length) : R.Pc 337 [.isl 16 (slG l), .int .i64 i] (.agg (gworld l i).row) :=
  h.o337.enter 100 rfl fun X bb hfit hp => by
    generalize hW : wayN l (i + 1).toNat = W
    have hWl : W.length ≤ 901 := by have := wayN_len l (i + 1).toNat; rw [hW] at this; omega
    have hWi : ∀ a ∈ W, a.I := by rw [← hW]; exact wayN_I hi _
    refine sh ?_
    refine lPa 100 (fun s : Int × List Af => (-1 ≤ s.1 ∧ s.1 < l.length ∧ s.1 ≤ i) ∧ s.2 ++ wayN l (s.1 + 1).toNat = W) (fun s => ⟨[(0, .isl 16 (slG l)), (1, .int .i64 s.1), (4, .loc 0 1 0 0), (5, .osl 1 s.2.length)], [(1, .arr (R.ty 33) 12 (slA s.2)), (0, .var (R.ty 33) z4.row)], 2⟩) (fun s => (s.1 + 1).toNat) ((i, [])) ?_ ?_
    · exact ⟨⟨h0, h1, by simp⟩, by rw [← hW]; rfl⟩
    · rintro ⟨k, w⟩ ⟨h2, h3⟩
      dsimp only at h2 h3 ⊢
      have hwl : w.length ≤ 1000 := by
        have := congrArg List.length h3
        rw [List.length_append] at this
        omega
      refine sh ?_
      refine cS (fun h4 => ?_) (fun h4 => ?_)
      · obtain ⟨g, hg⟩ : ∃ g, l[k.toNat]? = some g := ⟨_, List.getElem?_eq_getElem (by omega)⟩
        have hpar := hA _ g hg
        refine sh ?_
        refine eget_map hg ?_
        refine sh ?_
        refine eget_map hg ?_
        refine sh ?_
        refine nX ((g.par, w ++ [g.t])) ?_ ?_ ⟨_, hp, rfl⟩ ?_ ?_
        · refine ⟨by dsimp only; omega, ?_⟩
          rw [show (k + 1).toNat = k.toNat + 1 by omega, wayN_succ hg (by omega)] at h3
          dsimp only
          rw [← h3]; simp
        · dsimp only; omega
        · all_goals repeat' (first | exact True.intro | refine And.intro ?_ ?_ | (intro _u; clear _u) | (with_reducible first | refine eM ?_ ?_ | refine eF ?_ ?_ ?_ | refine eN ?_ | refine eL ?_ ?_ ?_ | refine eA ?_ ?_ | refine IWk.mk ⟨_, hp, rfl⟩ ?_ ?_) | refine IWk.mk ⟨_, hp, rfl⟩ ?_ ?_)
          all_goals first | with_reducible rfl | omega | exact Or.inl (by decide) | (simp; done) | rfl | skip
        · all_goals repeat' (first | exact True.intro | refine And.intro ?_ ?_ | (intro _u; clear _u) | (with_reducible first | refine eM ?_ ?_ | refine eF ?_ ?_ ?_ | refine eN ?_ | refine eL ?_ ?_ ?_ | refine eA ?_ ?_ | refine IWk.mk ⟨_, hp, rfl⟩ ?_ ?_) | refine IWk.mk ⟨_, hp, rfl⟩ ?_ ?_)
          all_goals first | with_reducible rfl | omega | exact Or.inl (by decide) | (simp; done) | rfl | skip
          simp [slA, Af.row]
      · rw [show (k + 1).toNat = 0 by omega, wayN_zero, List.append_nil] at h3
        subst h3
        refine sh ?_
        refine cM true [] ((rthen4_c h.n239 w hwl hWi).mc h.n239.o239.hb) ?_
        repeat ((intro _u; clear _u); first | refine eK ?_ | refine eP ?_)
        unfold gworld
        rw [hW]
        refine sh ?_
        exact rT
def world4 (l : List Gr) (i : Int) : Af × Int := if gchk l ≠ 0 then (z4, gchk l) else if i < 0 ∨ (l.length : Int) ≤ i then (z4, 2) else (gworld l i, 0)
theorem gWorld_c {R : Env} (h : N332 R) (l : List Gr) (hl : l.length ≤ 900) (hi : ∀ g ∈ l, g.t.I) (i : Int) : R.Pc 332 [.isl 16 (slG l), .int .i64 i] (.tup [.agg (world4 l i).1.row, .int .i64 (world4 l i).2]) :=
  h.o332.enter 100 rfl fun X bb hfit hp => by
    generalize hq : world4 l i = q
    unfold world4 at hq
    refine sh ?_
    refine ICall.pure h.n330.o330.hb (gcheck_c h.n330 l (by omega) hi) rfl ?_
    refine sh ?_
    refine cS (fun h1 => ?_) (fun h1 => ?_)
    · rw [if_pos h1] at hq
      subst hq
      refine sh ?_
      exact rT
    · rw [if_neg (by simpa using h1)] at hq
      refine sh ?_
      refine cS (fun h2 => ?_) (fun h2 => ?_)
      · rw [if_pos (.inl h2)] at hq
        subst hq
        refine sh ?_
        exact rT
      · refine sh ?_
        refine cS (fun h3 => ?_) (fun h3 => ?_)
        · rw [if_pos (.inr h3)] at hq
          subst hq
          refine sh ?_
          exact rT
        · rw [if_neg (by omega)] at hq
          subst hq
          refine sh ?_
          refine ICall.pure h.n348.o348.hb (gworld_c h.n348 l hl hi (gchk_ahead h1) i (by omega) (by omega)) rfl ?_
          refine sh ?_
          exact rT
def bstep (i : Int) (bs : List Bool) (g : Gr) : Bool := decide (0 ≤ g.par) && (g.par == i || bs.getD g.par.toNat false)
def bels (i : Int) (l : List Gr) : List Bool := l.foldl (fun bs g => bs ++ [bstep i bs g]) []
def slB (l : List Bool) : List (List AV) := l.map fun b => [.bool b]
@[simp] theorem slB_length (l : List Bool) : (slB l).length = l.length := by simp [slB]
@[simp] theorem slB_NmL (l : List Bool) : NmL (slB l) := by simp [slB]
theorem bels_snoc {i : Int} {l : List Gr} {k : Nat} {g : Gr} (h : l[k]? = some g) : bels i (l.take (k + 1)) = bels i (l.take k) ++ [bstep i (bels i (l.take k)) g] := by
  rw [take_succ_get h]; simp [bels, List.foldl_append]
@[simp] theorem bels_len (i : Int) (l : List Gr) : (bels i l).length = l.length := by
  have : ∀ (l : List Gr) (bs : List Bool), (l.foldl (fun bs g => bs ++ [bstep i bs g]) bs).length = bs.length + l.length := by
    intro l
    induction l with
    | nil => intro ds; rfl
    | cons g r ih => intro ds; rw [List.foldl_cons, ih]; simp; omega
  simpa [bels] using this l []
theorem bels_take {i : Int} {l : List Gr} {j k : Nat} (h : j < k) (hk : k ≤ l.length) : (bels i (l.take k)).getD j false = (bels i l).getD j false := by
  have pre : ∀ (r : List Gr) (bs : List Bool), ∃ x, r.foldl (fun bs g => bs ++ [bstep i bs g]) bs = bs ++ x := by
    intro r
    induction r with
    | nil => intro ds; exact ⟨[], by simp⟩
    | cons g r ih => intro ds; obtain ⟨x, hx⟩ := ih (ds ++ [bstep i ds g]); exact ⟨[bstep i ds g] ++ x, by rw [List.foldl_cons, hx]; simp⟩
  have e : bels i l = (l.drop k).foldl (fun bs g => bs ++ [bstep i bs g]) (bels i (l.take k)) := by
    conv => lhs; rw [← List.take_append_drop k l]
    simp only [bels, List.foldl_append]
  obtain ⟨x, hx⟩ := pre (l.drop k) (bels i (l.take k))
  rw [e, hx]
  have hl : (bels i (l.take k)).length = k := by rw [bels_len, List.length_take]; omega
  rw [List.getD_eq_getElem?_getD, List.getD_eq_getElem?_getD, List.getElem?_append_left (by omega)]
theorem bels_step {i : Int} {l : List Gr} {k : Nat} {g : Gr} (hg : l[k]? = some g) : (bels i l).getD k false = bstep i (bels i (l.take k)) g := by
  have hlt : k < l.length := (List.getElem?_eq_some_iff.1 hg).1
  rw [← bels_take (k := k + 1) (by omega) (by omega), bels_snoc hg]
  have hl : (bels i (l.take k)).length = k := by rw [bels_len, List.length_take]; omega
  rw [List.getD_eq_getElem?_getD, List.getElem?_append_right (by omega), hl, Nat.sub_self]
  rfl
theorem bels_at {i : Int} {l : List Gr} {k : Nat} {g : Gr} (hg : l[k]? = some g) (hp : g.par < k) : (bels i l).getD k false = (decide (0 ≤ g.par) && (g.par == i || (bels i l).getD g.par.toNat false)) := by
  have hlt : k < l.length := (List.getElem?_eq_some_iff.1 hg).1
  rw [bels_step hg]
  unfold bstep
  by_cases h : 0 ≤ g.par
  · rw [bels_take (k := k) (by omega) (by omega)]
  · simp [h]
def bout (i : Int) (l : List Gr) : Nat → List Int
  | 0 => []
  | k + 1 => if (bels i l).getD k false = true then bout i l k ++ [(k : Int)] else bout i l k
theorem bout_len (i : Int) (l : List Gr) : ∀ k, (bout i l k).length ≤ k
  | 0 => by simp [bout]
  | k + 1 => by
    have := bout_len i l k
    unfold bout
    split <;> simp <;> omega
def flags (i : Int) (l : List Gr) (k : Nat) : List Bool := bels i (l.take k) ++ List.replicate (l.length - k) false
theorem flags_len (i : Int) {l : List Gr} {k : Nat} (h : k ≤ l.length) : (flags i l k).length = l.length := by simp [flags]; omega
theorem flags_at (i : Int) {l : List Gr} {j k : Nat} (h : j < k) (hk : k ≤ l.length) : (flags i l k)[j]? = some ((bels i l).getD j false) := by
  have hl : (bels i (l.take k)).length = k := by rw [bels_len, List.length_take]; omega
  unfold flags
  rw [List.getElem?_append_left (by omega), ← bels_take h hk, List.getD_eq_getElem?_getD, List.getElem?_eq_getElem (by omega)]
  rfl
theorem flags_no {i : Int} {l : List Gr} {k : Nat} (hk : k < l.length) (h : (bels i l).getD k false = false) : flags i l (k + 1) = flags i l k := by
  have hg := List.getElem?_eq_getElem hk
  unfold flags
  rw [bels_snoc hg, ← bels_step hg, h, show l.length - k = (l.length - (k + 1)) + 1 by omega, List.replicate_succ]
  simp
theorem flags_yes {i : Int} {l : List Gr} {k : Nat} (hk : k < l.length) (h : (bels i l).getD k false = true) : flags i l (k + 1) = (flags i l k).set k true := by
  have hg := List.getElem?_eq_getElem hk
  have hl : (bels i (l.take k)).length = k := by rw [bels_len, List.length_take]; omega
  unfold flags
  rw [bels_snoc hg, ← bels_step hg, h, show l.length - k = (l.length - (k + 1)) + 1 by omega, List.replicate_succ, List.set_append_right _ _ (by omega), hl, Nat.sub_self]
  simp
theorem slB_set (l : List Bool) (k : Nat) (b : Bool) : (slB l).set k [.bool b] = slB (l.set k b) := by simp [slB, List.map_set]
theorem rgbelow_c {R : Env} (h : N335 R) (l : List Gr) (hl : l.length ≤ 900) (hA : Ahead l) (k : Nat) (hk : k < l.length) (i : Int) : R.Pc 335 [.isl 16 (slG l), .int .i64 k, .int .i64 i] (.bool ((bels i l).getD k false)) :=
  h.o335.enter 100 rfl fun X bb hfit hp => by
    generalize hB : (bels i l).getD k false = B
    refine sh ?_
    refine lPa 100 (fun j : Int => (-1 ≤ j ∧ j ≤ k) ∧ (decide (0 ≤ j) && (bels i l).getD j.toNat false) = B) (fun j => ⟨[(0, .isl 16 (slG l)), (1, .int .i64 j), (2, .int .i64 i)], [], 0⟩) (fun j => (j + 1).toNat) ((k : Int)) ?_ ?_
    · exact ⟨by omega, by rw [← hB]; simp⟩
    · rintro j ⟨h1, h2⟩
      dsimp only at h1 h2 ⊢
      refine sh ?_
      refine cS (fun h3 => ?_) (fun h3 => ?_)
      · obtain ⟨g, hg⟩ : ∃ g, l[j.toNat]? = some g := ⟨_, List.getElem?_eq_getElem (by omega)⟩
        have hpar := hA _ g hg
        have e := bels_at (i := i) hg (by omega)
        refine sh ?_
        refine eget_map hg ?_
        rw [e] at h2
        refine sh ?_
        refine cS (fun h4 => ?_) (fun h4 => ?_)
        · refine sh ?_
          refine cS (fun h5 => ?_) (fun h5 => ?_)
          · rw [← h2]
            simp [h3, h4, show 0 ≤ i by omega]
            refine sh ?_
            exact rT
          · refine sh ?_
            refine nXa (g.par) ?_ ?_
            · refine ⟨by omega, ?_⟩
              rw [← h2]
              simp [show ¬ 0 ≤ g.par by omega]
            · omega
        · refine sh ?_
          refine nXa (g.par) ?_ ?_
          · refine ⟨by omega, ?_⟩
            rw [← h2]
            simp [h3, show (g.par == i) = false by simpa using h4]
          · omega
      · rw [← h2]
        simp [show ¬ 0 ≤ j by omega]
        refine sh ?_
        exact rT
def below4 (l : List Gr) (i : Int) : List Int × Int := if gchk l ≠ 0 then ([], gchk l) else if i < 0 ∨ (l.length : Int) ≤ i then ([], 2) else (bout i l l.length, 0)
theorem gbelow_c {R : Env} (h : N333 R) (l : List Gr) (hl : l.length ≤ 900) (hi : ∀ g ∈ l, g.t.I) (i : Int) : R.Pc 333 [.isl 16 (slG l), .int .i64 i] (.tup [.isl 1 (slcK .i64 (below4 l i).1), .int .i64 (below4 l i).2]) :=
  h.o333.enter 200 rfl fun X bb hfit hp => by
    generalize hq : below4 l i = q
    unfold below4 at hq
    refine sh ?_
    refine ICall.pure h.n330.o330.hb (gcheck_c h.n330 l (by omega) hi) rfl ?_
    refine sh ?_
    refine cS (fun h1 => ?_) (fun h1 => ?_)
    · rw [if_pos h1] at hq
      subst hq
      refine sh ?_
      exact rT
    · rw [if_neg (by simpa using h1)] at hq
      have hA := gchk_ahead h1
      refine sh ?_
      refine cS (fun h2 => ?_) (fun h2 => ?_)
      · rw [if_pos (.inl h2)] at hq
        subst hq
        refine sh ?_
        exact rT
      · refine sh ?_
        refine cS (fun h3 => ?_) (fun h3 => ?_)
        · rw [if_pos (.inr h3)] at hq
          subst hq
          refine sh ?_
          exact rT
        · rw [if_neg (by omega)] at hq
          subst hq
          refine sh ?_
          refine amk_n l.length rfl rfl (by omega) ?_
          refine sh ?_
          refine ILoop.inv 200 (fun k : Nat => k ≤ l.length) (fun k => ⟨[(1, .int .i64 i), (7, .osl 1 (bout i l k).length), (8, .osl 0 l.length), (27, .isl 16 (slG l)), (28, .int .i64 l.length), (29, .int .i64 k)], [(1, .arr (R.ty 10) 1 (slcK .i64 (bout i l k))), (0, .arr (R.ty 46) 1 (slB (flags i l k)))], 2⟩) (fun k => l.length - k) (0) ?_ ⟨⟨_, hp, rfl⟩, ?_, ?_⟩ ?_
          · omega
          · all_goals repeat' (first | exact True.intro | refine And.intro ?_ ?_ | (intro _u; clear _u) | (with_reducible first | refine eM ?_ ?_ | refine eF ?_ ?_ ?_ | refine eN ?_ | refine eL ?_ ?_ ?_ | refine eA ?_ ?_ | refine IWk.mk ⟨_, hp, rfl⟩ ?_ ?_) | refine IWk.mk ⟨_, hp, rfl⟩ ?_ ?_)
            all_goals first | with_reducible rfl | omega | exact Or.inl (by decide) | (simp; done) | rfl | skip
          · all_goals repeat' (first | exact True.intro | refine And.intro ?_ ?_ | (intro _u; clear _u) | (with_reducible first | refine eM ?_ ?_ | refine eF ?_ ?_ ?_ | refine eN ?_ | refine eL ?_ ?_ ?_ | refine eA ?_ ?_ | refine IWk.mk ⟨_, hp, rfl⟩ ?_ ?_) | refine IWk.mk ⟨_, hp, rfl⟩ ?_ ?_)
            all_goals first | with_reducible rfl | omega | exact Or.inl (by decide) | (simp; done) | rfl | skip
            simp [flags, bels, slB]
          · intro k h6
            dsimp only
            refine sh ?_
            refine cS (fun h7 => ?_) (fun h7 => ?_)
            · obtain ⟨g, hg⟩ : ∃ u_, l[k]? = some u_ := ⟨_, List.getElem?_eq_getElem (by first | omega | (simp <;> omega))⟩
              refine sh ?_
              refine eget_map hg ?_
              have hpar := hA _ g hg
              have e := bels_at (i := i) hg (by omega)
              refine sh ?_
              refine cS (fun c1 => ?_) (fun c1 => ?_)
              · refine sh ?_
                refine cS (fun c2 => ?_) (fun c2 => ?_)
                · have hf : (bels i l).getD k false = true := by rw [e]; simp [c1, c2]; omega
                  obtain ⟨b0, hb0⟩ : ∃ b0, (flags i l k)[k]? = some b0 := ⟨_, List.getElem?_eq_getElem (by rw [flags_len i h6]; omega)⟩
                  refine sh ?_
                  refine ⟨⟨(slB_length _).trans (flags_len i h6), by omega, by omega⟩, ?_⟩
                  refine sh ?_
                  refine aelt_map ((slB_length _).trans (flags_len i h6)) hb0 ?_
                  have hm : bout i l (k + 1) = bout i l k ++ [(k : Int)] := by simp only [bout]; rw [if_pos hf]
                  have hbl := bout_len i l k
                  refine sh ?_
                  refine nX (k + 1) ?_ ?_ ⟨_, hp, rfl⟩ ?_ ?_
                  · omega
                  · omega
                  · all_goals repeat' (first | exact True.intro | refine And.intro ?_ ?_ | (intro _u; clear _u) | (with_reducible first | refine eM ?_ ?_ | refine eF ?_ ?_ ?_ | refine eN ?_ | refine eL ?_ ?_ ?_ | refine eA ?_ ?_ | refine IWk.mk ⟨_, hp, rfl⟩ ?_ ?_) | refine IWk.mk ⟨_, hp, rfl⟩ ?_ ?_)
                    all_goals first | with_reducible rfl | omega | exact Or.inl (by decide) | (simp; done) | rfl | skip
                    rw [hm]; simp
                  · all_goals repeat' (first | exact True.intro | refine And.intro ?_ ?_ | (intro _u; clear _u) | (with_reducible first | refine eM ?_ ?_ | refine eF ?_ ?_ ?_ | refine eN ?_ | refine eL ?_ ?_ ?_ | refine eA ?_ ?_ | refine IWk.mk ⟨_, hp, rfl⟩ ?_ ?_) | refine IWk.mk ⟨_, hp, rfl⟩ ?_ ?_)
                    all_goals first | with_reducible rfl | omega | exact Or.inl (by decide) | (simp; done) | rfl | skip
                    · rw [hm, slcK_append]; rfl
                    · rw [slB_set, flags_yes (by omega) hf, Int.toNat_natCast]
                    · exact .inr (NmL_set (slB_NmL _) rfl)
                · have hb := flags_at i (l := l) (j := g.par.toNat) (k := k) (by omega) h6
                  refine sh ?_
                  refine ⟨⟨(slB_length _).trans (flags_len i h6), by omega, by omega⟩, ?_⟩
                  refine sh ?_
                  refine aelt_map ((slB_length _).trans (flags_len i h6)) hb ?_
                  refine sh ?_
                  refine cS (fun c3 => ?_) (fun c3 => ?_)
                  · have hf : (bels i l).getD k false = true := by rw [e, c3]; simp [c1]
                    obtain ⟨b0, hb0⟩ : ∃ b0, (flags i l k)[k]? = some b0 := ⟨_, List.getElem?_eq_getElem (by rw [flags_len i h6]; omega)⟩
                    refine sh ?_
                    refine ⟨⟨(slB_length _).trans (flags_len i h6), by omega, by omega⟩, ?_⟩
                    refine sh ?_
                    refine aelt_map ((slB_length _).trans (flags_len i h6)) hb0 ?_
                    have hm : bout i l (k + 1) = bout i l k ++ [(k : Int)] := by simp only [bout]; rw [if_pos hf]
                    have hbl := bout_len i l k
                    refine sh ?_
                    refine nX (k + 1) ?_ ?_ ⟨_, hp, rfl⟩ ?_ ?_
                    · omega
                    · omega
                    · all_goals repeat' (first | exact True.intro | refine And.intro ?_ ?_ | (intro _u; clear _u) | (with_reducible first | refine eM ?_ ?_ | refine eF ?_ ?_ ?_ | refine eN ?_ | refine eL ?_ ?_ ?_ | refine eA ?_ ?_ | refine IWk.mk ⟨_, hp, rfl⟩ ?_ ?_) | refine IWk.mk ⟨_, hp, rfl⟩ ?_ ?_)
                      all_goals first | with_reducible rfl | omega | exact Or.inl (by decide) | (simp; done) | rfl | skip
                      rw [hm]; simp
                    · all_goals repeat' (first | exact True.intro | refine And.intro ?_ ?_ | (intro _u; clear _u) | (with_reducible first | refine eM ?_ ?_ | refine eF ?_ ?_ ?_ | refine eN ?_ | refine eL ?_ ?_ ?_ | refine eA ?_ ?_ | refine IWk.mk ⟨_, hp, rfl⟩ ?_ ?_) | refine IWk.mk ⟨_, hp, rfl⟩ ?_ ?_)
                      all_goals first | with_reducible rfl | omega | exact Or.inl (by decide) | (simp; done) | rfl | skip
                      · rw [hm, slcK_append]; rfl
                      · rw [slB_set, flags_yes (by omega) hf, Int.toNat_natCast]
                      · exact .inr (NmL_set (slB_NmL _) rfl)
                  · have hf : (bels i l).getD k false = false := by rw [e, c3]; simp [c2]
                    refine sh ?_
                    refine nX (k + 1) ?_ ?_ ⟨_, hp, rfl⟩ ?_ ?_
                    · omega
                    · omega
                    · all_goals repeat' (first | exact True.intro | refine And.intro ?_ ?_ | (intro _u; clear _u) | (with_reducible first | refine eM ?_ ?_ | refine eF ?_ ?_ ?_ | refine eN ?_ | refine eL ?_ ?_ ?_ | refine eA ?_ ?_ | refine IWk.mk ⟨_, hp, rfl⟩ ?_ ?_) | refine IWk.mk ⟨_, hp, rfl⟩ ?_ ?_)
                      all_goals first | with_reducible rfl | omega | exact Or.inl (by decide) | (simp; done) | rfl | skip
                      simp only [bout]; rw [if_neg (by rw [hf]; simp)]
                    · all_goals repeat' (first | exact True.intro | refine And.intro ?_ ?_ | (intro _u; clear _u) | (with_reducible first | refine eM ?_ ?_ | refine eF ?_ ?_ ?_ | refine eN ?_ | refine eL ?_ ?_ ?_ | refine eA ?_ ?_ | refine IWk.mk ⟨_, hp, rfl⟩ ?_ ?_) | refine IWk.mk ⟨_, hp, rfl⟩ ?_ ?_)
                      all_goals first | with_reducible rfl | omega | exact Or.inl (by decide) | (simp; done) | rfl | skip
                      · simp only [bout]; rw [if_neg (by rw [hf]; simp)]
                      · rw [flags_no (by omega) hf]
              · have hf : (bels i l).getD k false = false := by rw [e]; simp; omega
                refine sh ?_
                refine nX (k + 1) ?_ ?_ ⟨_, hp, rfl⟩ ?_ ?_
                · omega
                · omega
                · all_goals repeat' (first | exact True.intro | refine And.intro ?_ ?_ | (intro _u; clear _u) | (with_reducible first | refine eM ?_ ?_ | refine eF ?_ ?_ ?_ | refine eN ?_ | refine eL ?_ ?_ ?_ | refine eA ?_ ?_ | refine IWk.mk ⟨_, hp, rfl⟩ ?_ ?_) | refine IWk.mk ⟨_, hp, rfl⟩ ?_ ?_)
                  all_goals first | with_reducible rfl | omega | exact Or.inl (by decide) | (simp; done) | rfl | skip
                  simp only [bout]; rw [if_neg (by rw [hf]; simp)]
                · all_goals repeat' (first | exact True.intro | refine And.intro ?_ ?_ | (intro _u; clear _u) | (with_reducible first | refine eM ?_ ?_ | refine eF ?_ ?_ ?_ | refine eN ?_ | refine eL ?_ ?_ ?_ | refine eA ?_ ?_ | refine IWk.mk ⟨_, hp, rfl⟩ ?_ ?_) | refine IWk.mk ⟨_, hp, rfl⟩ ?_ ?_)
                  all_goals first | with_reducible rfl | omega | exact Or.inl (by decide) | (simp; done) | rfl | skip
                  · simp only [bout]; rw [if_neg (by rw [hf]; simp)]
                  · rw [flags_no (by omega) hf]
            · rw [show k = l.length by omega]
              refine sh ?_
              exact rT
end Go.UM

namespace Go.UM
open Go.AM
set_option maxRecDepth 4000
structure In where
  mesh : Int
  mat : Int
  tex : Int
  n : Int
  t : Af
def In.row (x : In) : List AV := [.int .i64 x.mesh, .int .i64 x.mat, .int .i64 x.tex, .int .i64 x.n, .int .i64 x.t.m0, .int .i64 x.t.m1, .int .i64 x.t.m2, .int .i64 x.t.m3, .int .i64 x.t.m4, .int .i64 x.t.m5, .int .i64 x.t.m6, .int .i64 x.t.m7, .int .i64 x.t.m8, .int .i64 x.t.t.a, .int .i64 x.t.t.b, .int .i64 x.t.t.c]
def sIn (l : List In) : List (List AV) := l.map In.row
@[simp] theorem sIn_length (l : List In) : (sIn l).length = l.length := by simp [sIn]
@[simp] theorem sIn_append (a b : List In) : sIn (a ++ b) = sIn a ++ sIn b := by simp [sIn]
@[simp] theorem sIn_NmL (l : List In) : NmL (sIn l) := by simp [sIn, In.row]
@[simp] theorem sIn_FlL (l : List In) : FlL (sIn l) := by simp [sIn, In.row]
instance {l : List In} : LenOf (sIn l) l.length := ⟨sIn_length l⟩
def keyG (g : Gr) : T3 := ⟨g.mesh, g.mat, g.tex⟩
def hitK (g : Gr) (k : T3) : Bool := (g.mesh == k.a) && ((g.mat == k.b) && ((g.tex == k.c) && true))
theorem hitK_eq {g : Gr} {k : T3} : hitK g k = true ↔ k = keyG g := by
  unfold hitK keyG
  obtain ⟨a, b, c⟩ := k
  simp only [Bool.and_eq_true, beq_iff_eq, and_true, T3.mk.injEq]
  exact ⟨fun ⟨h1, h2, h3⟩ => ⟨h1.symm, h2.symm, h3.symm⟩, fun ⟨h1, h2, h3⟩ => ⟨h1.symm, h2.symm, h3.symm⟩⟩
theorem hitK_ne {g : Gr} {k : T3} : hitK g k = false ↔ k ≠ keyG g := by rw [← Bool.not_eq_true, ne_eq, hitK_eq]
def cntK (l : List Gr) (k : T3) : Nat := l.countP fun g => hitK g k
def kadd (ks : List T3) (g : Gr) : List T3 := if g.mesh = 0 then ks else if ks.any (hitK g) = true then ks else ks ++ [keyG g]
def keysK (l : List Gr) : List T3 := l.foldl kadd []
def mrow (l : List Gr) (k : T3) : List AV := [.int .i64 k.a, .int .i64 k.b, .int .i64 k.c, .int .i64 (cntK l k)]
def mes (l : List Gr) : List (List AV) := (keysK l).map (mrow l)
theorem keysK_snoc (l : List Gr) (g : Gr) : keysK (l ++ [g]) = kadd (keysK l) g := by simp [keysK, List.foldl_append]
theorem cntK_snoc (l : List Gr) (g : Gr) (k : T3) : cntK (l ++ [g]) k = cntK l k + if hitK g k = true then 1 else 0 := by
  simp only [cntK, List.countP_append, List.countP_cons, List.countP_nil, Nat.zero_add]
theorem cntK_le (l : List Gr) (k : T3) : cntK l k ≤ l.length := List.countP_le_length
theorem keysK_all (l : List Gr) : (∀ g ∈ l, g.mesh ≠ 0 → keyG g ∈ keysK l) ∧ (keysK l).Nodup ∧ (keysK l).length ≤ l.length ∧ ∀ k ∈ keysK l, k.a ≠ 0 := by
  have : ∀ (n : Nat) (l : List Gr), l.length = n → (∀ g ∈ l, g.mesh ≠ 0 → keyG g ∈ keysK l) ∧ (keysK l).Nodup ∧ (keysK l).length ≤ l.length ∧ ∀ k ∈ keysK l, k.a ≠ 0 := by
    intro n
    induction n with
    | zero =>
      intro l hl
      have : l = [] := List.eq_nil_of_length_eq_zero hl
      subst this
      exact ⟨by simp, by simp [keysK], by simp [keysK], by simp [keysK]⟩
    | succ n ih =>
      intro l hl
      obtain ⟨r, g, rfl⟩ : ∃ r g, l = r ++ [g] := ⟨l.dropLast, l.getLast (by intro e; subst e; simp at hl), (List.dropLast_concat_getLast _).symm⟩
      obtain ⟨i1, i2, i3, i4⟩ := ih r (by simpa using hl)
      rw [keysK_snoc]
      unfold kadd
      by_cases h0 : g.mesh = 0
      · rw [if_pos h0]
        refine ⟨fun g' hg' hm => ?_, i2, by simp; omega, i4⟩
        rcases List.mem_append.1 hg' with h | h
        · exact i1 g' h hm
        · simp at h; subst h; exact (hm h0).elim
      · rw [if_neg h0]
        by_cases ha : (keysK r).any (hitK g) = true
        · rw [if_pos ha]
          refine ⟨fun g' hg' hm => ?_, i2, by simp; omega, i4⟩
          rcases List.mem_append.1 hg' with h | h
          · exact i1 g' h hm
          · simp at h; subst h
            obtain ⟨k, hk, hh⟩ := List.any_eq_true.1 ha
            rw [← hitK_eq.1 hh]; exact hk
        · rw [if_neg ha]
          have hno : keyG g ∉ keysK r := fun hk => ha (List.any_eq_true.2 ⟨_, hk, hitK_eq.2 rfl⟩)
          refine ⟨fun g' hg' hm => ?_, ?_, by simp; omega, fun k hk => ?_⟩
          · rcases List.mem_append.1 hg' with h | h
            · exact List.mem_append_left _ (i1 g' h hm)
            · simp at h; subst h; simp
          · rw [List.nodup_append]
            refine ⟨i2, by simp, fun a ha b hb => ?_⟩
            simp at hb; subst hb
            exact fun e => hno (e ▸ ha)
          · rcases List.mem_append.1 hk with h | h
            · exact i4 k h
            · simp at h; subst h; exact h0
  exact this _ l rfl
theorem cntK_zero {l : List Gr} {g : Gr} (h0 : g.mesh ≠ 0) (h : (keysK l).any (hitK g) = false) : cntK l (keyG g) = 0 := by
  unfold cntK
  rw [List.countP_eq_zero]
  intro g' hg' hh
  have e : keyG g = keyG g' := hitK_eq.1 hh
  have hm : g'.mesh ≠ 0 := by
    have : (keyG g).a = (keyG g').a := by rw [e]
    intro h'; exact h0 (this.trans h')
  have hk := (keysK_all l).1 g' hg' hm
  have : (keysK l).any (hitK g) = true := List.any_eq_true.2 ⟨_, hk, hitK_eq.2 e.symm⟩
  rw [h] at this; simp at this
theorem mes_g64 (l : List Gr) : ∀ r ∈ mes l, g64 r = true := by
  intro r hr
  obtain ⟨k, _, rfl⟩ := List.mem_map.1 hr
  rfl
@[simp] theorem mes_NmL (l : List Gr) : NmL (mes l) := by simp [mes, mrow]
theorem mfind_no {g : Gr} {f : T3 → Int} : ∀ {ks : List T3}, ks.any (hitK g) = false → mfind [.int .i64 g.mesh, .int .i64 g.mat, .int .i64 g.tex] (ks.map fun k => [.int .i64 k.a, .int .i64 k.b, .int .i64 k.c, .int .i64 (f k)]) = none
  | [], _ => rfl
  | k :: ks, h => by
    simp only [List.any_cons, Bool.or_eq_false_iff] at h
    have e : kvB [.int .i64 g.mesh, .int .i64 g.mat, .int .i64 g.tex] [.int .i64 k.a, .int .i64 k.b, .int .i64 k.c, .int .i64 (f k)] = hitK g k := rfl
    simp only [List.map_cons, mfind, e, h.1, Bool.false_eq_true, if_false, mfind_no h.2, Option.map_none]
theorem mfind_yes {g : Gr} {f : T3 → Int} : ∀ {ks : List T3}, ks.any (hitK g) = true → ∃ i, ks[i]? = some (keyG g) ∧ mfind [.int .i64 g.mesh, .int .i64 g.mat, .int .i64 g.tex] (ks.map fun k => [.int .i64 k.a, .int .i64 k.b, .int .i64 k.c, .int .i64 (f k)]) = some (i, [.int .i64 (f (keyG g))])
  | [], h => by simp at h
  | k :: ks, h => by
    have e : kvB [.int .i64 g.mesh, .int .i64 g.mat, .int .i64 g.tex] [.int .i64 k.a, .int .i64 k.b, .int .i64 k.c, .int .i64 (f k)] = hitK g k := rfl
    by_cases hk : hitK g k = true
    · have := hitK_eq.1 hk
      subst this
      exact ⟨0, rfl, by simp only [List.map_cons, mfind, e, hk, if_true]; rfl⟩
    · simp only [List.any_cons, Bool.or_eq_true, hk, Bool.false_eq_true, false_or] at h
      obtain ⟨i, h1, h2⟩ := mfind_yes (f := f) h
      exact ⟨i + 1, by simpa using h1, by simp only [List.map_cons, mfind, e, if_neg hk, h2, Option.map_some]⟩
theorem cnt_at {l : List Gr} {g : Gr} (h0 : g.mesh ≠ 0) : cntV (mfind [.int .i64 g.mesh, .int .i64 g.mat, .int .i64 g.tex] (mes l)) = .int .i64 (cntK l (keyG g)) := by
  by_cases h : (keysK l).any (hitK g) = true
  · obtain ⟨i, _, h2⟩ := mfind_yes (f := fun k => (cntK l k : Int)) h
    show cntV (mfind _ ((keysK l).map (mrow l))) = _
    have e : (keysK l).map (mrow l) = (keysK l).map fun k => [.int .i64 k.a, .int .i64 k.b, .int .i64 k.c, .int .i64 ((cntK l k : Nat) : Int)] := rfl
    rw [e, h2]; rfl
  · have h : (keysK l).any (hitK g) = false := by simpa using h
    have e : (keysK l).map (mrow l) = (keysK l).map fun k => [.int .i64 k.a, .int .i64 k.b, .int .i64 k.c, .int .i64 ((cntK l k : Nat) : Int)] := rfl
    show cntV (mfind _ ((keysK l).map (mrow l))) = _
    rw [e, mfind_no h, cntK_zero h0 h]; rfl
theorem mrow_other {l : List Gr} {g : Gr} {k : T3} (h : k ≠ keyG g) : mrow (l ++ [g]) k = mrow l k := by
  have : hitK g k = false := hitK_ne.2 h
  simp only [mrow, cntK_snoc, this, Bool.false_eq_true, if_false, Nat.add_zero]
theorem mrow_this {l : List Gr} {g : Gr} : mrow (l ++ [g]) (keyG g) = [.int .i64 g.mesh, .int .i64 g.mat, .int .i64 g.tex, .int .i64 ((cntK l (keyG g) : Int) + 1)] := by
  have : hitK g (keyG g) = true := hitK_eq.2 rfl
  simp only [mrow, cntK_snoc, this, if_true]
  simp [keyG]
theorem mes_yes {l : List Gr} {g : Gr} {i : Nat} (h0 : g.mesh ≠ 0) (h : (keysK l)[i]? = some (keyG g)) : mes (l ++ [g]) = (mes l).set i [.int .i64 g.mesh, .int .i64 g.mat, .int .i64 g.tex, .int .i64 ((cntK l (keyG g) : Int) + 1)] := by
  have ha : (keysK l).any (hitK g) = true := List.any_eq_true.2 ⟨_, List.mem_of_getElem? h, hitK_eq.2 rfl⟩
  have hk : keysK (l ++ [g]) = keysK l := by rw [keysK_snoc, kadd, if_neg h0, if_pos ha]
  unfold mes
  rw [hk, ← mrow_this]
  apply List.ext_getElem?
  intro j
  by_cases e : i = j
  · subst e
    have hlt := (List.getElem?_eq_some_iff.1 h).1
    rw [List.getElem?_set_self (by simpa using hlt), List.getElem?_map, h]; rfl
  · rw [List.getElem?_set_ne e, List.getElem?_map, List.getElem?_map]
    cases hj : (keysK l)[j]? with
    | none => rfl
    | some k =>
      have hne : k ≠ keyG g := by
        intro ek
        have hn := (keysK_all l).2.1
        have h1 := List.getElem?_eq_some_iff.1 h
        have h2 := List.getElem?_eq_some_iff.1 hj
        obtain ⟨h1a, h1b⟩ := h1
        obtain ⟨h2a, h2b⟩ := h2
        have hp := List.pairwise_iff_getElem.1 hn
        rcases Nat.lt_or_gt_of_ne e with hlt | hlt
        · exact hp i j h1a h2a hlt (by rw [h1b, h2b, ek])
        · exact hp j i h2a h1a hlt (by rw [h1b, h2b, ek])
      simp only [Option.map_some, mrow_other hne]
theorem mes_no {l : List Gr} {g : Gr} (h0 : g.mesh ≠ 0) (h : (keysK l).any (hitK g) = false) : mes (l ++ [g]) = mes l ++ [[.int .i64 g.mesh, .int .i64 g.mat, .int .i64 g.tex, .int .i64 ((cntK l (keyG g) : Int) + 1)]] := by
  have hk : keysK (l ++ [g]) = keysK l ++ [keyG g] := by rw [keysK_snoc, kadd, if_neg h0, if_neg (by rw [h]; simp)]
  unfold mes
  rw [hk, ← mrow_this, List.map_append]
  congr 1
  refine List.map_congr_left fun k hk => mrow_other fun e => ?_
  have : (keysK l).any (hitK g) = true := List.any_eq_true.2 ⟨k, hk, hitK_eq.2 e⟩
  rw [h] at this; simp at this
theorem mes_skip {l : List Gr} {g : Gr} (h0 : g.mesh = 0) : mes (l ++ [g]) = mes l := by
  have hk : keysK (l ++ [g]) = keysK l := by rw [keysK_snoc, kadd, if_pos h0]
  unfold mes
  rw [hk]
  refine List.map_congr_left fun k hk => mrow_other fun e => ?_
  have := (keysK_all l).2.2.2 k hk
  rw [e] at this
  exact this h0
theorem mes_len (l : List Gr) : (mes l).length ≤ l.length := by
  unfold mes
  rw [List.length_map]
  exact (keysK_all l).2.2.1
theorem then4_in {l : List Af} (h : ∀ a ∈ l, a.I) : (then4 l).I := by
  cases l with
  | nil => exact same_in
  | cons f r =>
    have : ∀ (r : List Af) (s : Af), s.I → (r.foldl comp4 s).I := by
      intro r
      induction r with
      | nil => exact fun s hs => hs
      | cons g r ih => exact fun s _ => ih _ (comp_in _ _)
    exact this r f (h f (by simp))
theorem gworld_in {l : List Gr} (hi : ∀ g ∈ l, g.t.I) (i : Int) : (gworld l i).I := then4_in (wayN_I hi _)
def flF (l : List Gr) : Nat → List Gr → List In → List In × Int
  | _, [], acc => (acc, 0)
  | i, g :: r, acc => if g.mesh = 0 then flF l (i + 1) r acc else if chk4 (gworld l i) ≠ 0 then ([], chk4 (gworld l i)) else flF l (i + 1) r (acc ++ [⟨g.mesh, g.mat, g.tex, cntK (l.take i) (keyG g), gworld l i⟩])
def flat4 (l : List Gr) : List In × Int := if gchk l ≠ 0 then ([], gchk l) else flF l 0 l []
end Go.UM

namespace Go.UM
open Go.AM
set_option maxRecDepth 4000
theorem afv {kc : List AV} {es : List (List AV)} {K : AV → Prop} {c : AV} (g : ∀ r ∈ es, g64 r = true) (e : cntV (mfind kc es) = c) (k : K c) : AFv kc es K := ⟨g, by rw [e]; exact k⟩
theorem afg {kc : List AV} {es : List (List AV)} {K : Option (Nat × List AV) → Prop} {q : Option (Nat × List AV)} (g : ∀ r ∈ es, g64 r = true) (e : mfind kc es = q) (k : K q) : AFg kc es K := ⟨g, by rw [e]; exact k⟩
theorem aen {es : List (List AV)} {j : Int} {K : Nat → List AV → Prop} (i : Nat) (r : List AV) (h1 : j = i) (h2 : es[i]? = some r) (k : K i r) : AEn es j K := ⟨⟨i, r, h1, h2, k⟩⟩
theorem gflatten_c {R : Env} (h : N327 R) (l : List Gr) (hl : l.length ≤ 900) (hi : ∀ g ∈ l, g.t.I) : R.Pc 327 [.isl 16 (slG l)] (.tup [.isl 16 (sIn (flat4 l).1), .int .i64 (flat4 l).2]) :=
  h.o327.enter 200 rfl fun X bb hfit hp => by
    generalize hq : flat4 l = q
    unfold flat4 at hq
    refine sh ?_
    refine ICall.pure h.n330.o330.hb (gcheck_c h.n330 l (by omega) hi) rfl ?_
    refine sh ?_
    refine cS (fun h1 => ?_) (fun h1 => ?_)
    · rw [if_pos h1] at hq
      subst hq
      refine sh ?_
      exact rT
    · rw [if_neg (by simpa using h1)] at hq
      have hA := gchk_ahead h1
      refine sh ?_
      refine lPa 200 (fun s : Nat × List In => (s.1 ≤ l.length ∧ s.2.length ≤ s.1) ∧ flF l s.1 (l.drop s.1) s.2 = q) (fun s => ⟨[(0, .isl 16 (slG l)), (5, .omap 0), (6, .osl 1 s.2.length), (18, .isl 16 (slG l)), (19, .int .i64 l.length), (20, .int .i64 s.1)], [(1, .arr (R.ty 44) 16 (sIn s.2)), (0, .map 3 true false true 4 (mes (l.take s.1)))], 2⟩) (fun s => l.length - s.1) ((0, [])) ?_ ?_
      · exact ⟨⟨by omega, by simp⟩, by simpa using hq⟩
      · rintro ⟨k, acc⟩ ⟨h2, h3⟩
        dsimp only at h2 h3 ⊢
        refine sh ?_
        refine cS (fun h4 => ?_) (fun h4 => ?_)
        · obtain ⟨g, hg⟩ : ∃ u_, l[k]? = some u_ := ⟨_, List.getElem?_eq_getElem (by first | omega | (simp <;> omega))⟩
          refine sh ?_
          refine eget_map hg ?_
          rw [drop_at hg, flF] at h3
          have hsn := take_succ_get hg
          refine sh ?_
          refine cS (fun h5 => ?_) (fun h5 => ?_)
          · rw [if_pos h5] at h3
            refine sh ?_
            refine nX ((k + 1, acc)) ?_ ?_ ⟨_, hp, rfl⟩ ?_ ?_
            · exact ⟨by dsimp only; omega, h3⟩
            · dsimp only; omega
            · all_goals repeat' (first | exact True.intro | refine And.intro ?_ ?_ | (intro _u; clear _u) | (with_reducible first | refine eM ?_ ?_ | refine eF ?_ ?_ ?_ | refine eN ?_ | refine eL ?_ ?_ ?_ | refine eA ?_ ?_ | refine IWk.mk ⟨_, hp, rfl⟩ ?_ ?_) | refine IWk.mk ⟨_, hp, rfl⟩ ?_ ?_)
              all_goals first | with_reducible rfl | omega | exact Or.inl (by decide) | (simp; done) | rfl | skip
            · all_goals repeat' (first | exact True.intro | refine And.intro ?_ ?_ | (intro _u; clear _u) | (with_reducible first | refine eM ?_ ?_ | refine eF ?_ ?_ ?_ | refine eN ?_ | refine eL ?_ ?_ ?_ | refine eA ?_ ?_ | refine IWk.mk ⟨_, hp, rfl⟩ ?_ ?_) | refine IWk.mk ⟨_, hp, rfl⟩ ?_ ?_)
              all_goals first | with_reducible rfl | omega | exact Or.inl (by decide) | (simp; done) | rfl | skip
              rw [hsn, mes_skip h5]
          · rw [if_neg h5] at h3
            refine sh ?_
            refine ICall.pure h.n348.o348.hb (gworld_c h.n348 l hl hi hA k (by omega) (by omega)) rfl ?_
            refine sh ?_
            refine ICall.pure h.n235.o235.hb (check4_c h.n235 (gworld_in hi k)) rfl ?_
            refine sh ?_
            refine cS (fun h6 => ?_) (fun h6 => ?_)
            · rw [if_pos h6] at h3
              subst h3
              refine sh ?_
              exact rT
            · rw [if_neg (by simpa using h6)] at h3
              refine sh ?_
              refine afv (mes_g64 _) (cnt_at h5) ?_
              refine sh ?_
              refine afv (mes_g64 _) (cnt_at h5) ?_
              have hcl := cntK_le (l.take k) (keyG g)
              rw [List.length_take] at hcl
              have hml := mes_len (l.take k)
              rw [List.length_take] at hml
              by_cases ha : (keysK (l.take k)).any (hitK g) = true
              · obtain ⟨i, hi1, hi2⟩ := mfind_yes (f := fun x => ((cntK (l.take k) x : Nat) : Int)) ha
                refine sh ?_
                refine afg (mes_g64 _) hi2 ?_
                refine sh ?_
                refine aen i (mrow (l.take k) (keyG g)) rfl (by rw [mes, List.getElem?_map, hi1]; rfl) ?_
                refine sh ?_
                refine nX ((k + 1, acc ++ [⟨g.mesh, g.mat, g.tex, cntK (l.take k) (keyG g), gworld l k⟩])) ?_ ?_ ⟨_, hp, rfl⟩ ?_ ?_
                · exact ⟨by simp; omega, h3⟩
                · dsimp only; omega
                · all_goals repeat' (first | exact True.intro | refine And.intro ?_ ?_ | (intro _u; clear _u) | (with_reducible first | refine eM ?_ ?_ | refine eF ?_ ?_ ?_ | refine eN ?_ | refine eL ?_ ?_ ?_ | refine eA ?_ ?_ | refine IWk.mk ⟨_, hp, rfl⟩ ?_ ?_) | refine IWk.mk ⟨_, hp, rfl⟩ ?_ ?_)
                  all_goals first | with_reducible rfl | omega | exact Or.inl (by decide) | (simp; done) | rfl | skip
                · all_goals repeat' (first | exact True.intro | refine And.intro ?_ ?_ | (intro _u; clear _u) | (with_reducible first | refine eM ?_ ?_ | refine eF ?_ ?_ ?_ | refine eN ?_ | refine eL ?_ ?_ ?_ | refine eA ?_ ?_ | refine IWk.mk ⟨_, hp, rfl⟩ ?_ ?_) | refine IWk.mk ⟨_, hp, rfl⟩ ?_ ?_)
                  all_goals first | with_reducible rfl | omega | exact Or.inl (by decide) | (simp; done) | rfl | skip
                  · simp [In.row, sIn]
                  · rw [hsn, mes_yes h5 hi1]; rfl
                  · exact .inr (NmL_set (mes_NmL _) rfl)
              · have ha : (keysK (l.take k)).any (hitK g) = false := by simpa using ha
                refine sh ?_
                refine afg (mes_g64 _) (mfind_no (f := fun x => ((cntK (l.take k) x : Nat) : Int)) ha) ?_
                refine sh ?_
                refine aen (mes (l.take k)).length [.int .i64 g.mesh, .int .i64 g.mat, .int .i64 g.tex, .int .i64 0] rfl (by rw [List.getElem?_append_right (Nat.le_refl _), Nat.sub_self]; rfl) ?_
                refine sh ?_
                refine nX ((k + 1, acc ++ [⟨g.mesh, g.mat, g.tex, cntK (l.take k) (keyG g), gworld l k⟩])) ?_ ?_ ⟨_, hp, rfl⟩ ?_ ?_
                · exact ⟨by simp; omega, h3⟩
                · dsimp only; omega
                · all_goals repeat' (first | exact True.intro | refine And.intro ?_ ?_ | (intro _u; clear _u) | (with_reducible first | refine eM ?_ ?_ | refine eF ?_ ?_ ?_ | refine eN ?_ | refine eL ?_ ?_ ?_ | refine eA ?_ ?_ | refine IWk.mk ⟨_, hp, rfl⟩ ?_ ?_) | refine IWk.mk ⟨_, hp, rfl⟩ ?_ ?_)
                  all_goals first | with_reducible rfl | omega | exact Or.inl (by decide) | (simp; done) | rfl | skip
                · all_goals repeat' (first | exact True.intro | refine And.intro ?_ ?_ | (intro _u; clear _u) | (with_reducible first | refine eM ?_ ?_ | refine eF ?_ ?_ ?_ | refine eN ?_ | refine eL ?_ ?_ ?_ | refine eA ?_ ?_ | refine IWk.mk ⟨_, hp, rfl⟩ ?_ ?_) | refine IWk.mk ⟨_, hp, rfl⟩ ?_ ?_)
                  all_goals first | with_reducible rfl | omega | exact Or.inl (by decide) | (simp; done) | rfl | skip
                  · simp [In.row, sIn]
                  · rw [hsn, mes_no h5 ha]; simp
        · rw [show k = l.length by omega, List.drop_length, flF] at h3
          subst h3
          refine sh ?_
          exact rT
end Go.UM

namespace Go.UM
open Go.AM
set_option maxRecDepth 4000
def atG (x y z : Int) : Af := move4 (vof ⟨x, y, z⟩)
theorem at41_c {R : Env} (h : N349 R) {x y z : Int} (hx : (⟨x, y, z⟩ : T3).I) : R.Pc 349 [.int .i64 x, .int .i64 y, .int .i64 z] (.agg (atG x y z).row) :=
  h.o349.enter 100 rfl fun X bb hfit hp => by
    refine sh ?_
    refine ICall.pure h.n249.o249.hb (vofp_c h.n249 hx) rfl ?_
    refine sh ?_
    refine ICall.pure h.n223.o223.hb (move4_c h.n223 (vof ⟨x, y, z⟩)) rfl ?_
    refine sh ?_
    exact rT
def exG : List Gr := [⟨-1, atG 10 0 0, 0, 0, 0⟩, ⟨0, atG 1 2 3, 5, 6, 0⟩]
theorem exG_flat : flat4 exG = ([⟨5, 6, 0, 0, atG 11 2 3⟩], 0) := by
  have w : gworld exG 1 = atG 11 2 3 := by
    unfold gworld
    rw [show ((1 : Int) + 1).toNat = 1 + 1 from rfl, wayN_succ (l := exG) (k := 1) (g := ⟨0, atG 1 2 3, 5, 6, 0⟩) rfl (by decide), show ((0 : Int) + 1).toNat = 0 + 1 from rfl,
      wayN_succ (l := exG) (k := 0) (g := ⟨-1, atG 10 0 0, 0, 0, 0⟩) rfl (by decide), show ((-1 : Int) + 1).toNat = 0 from rfl, wayN_zero]
    rfl
  have hc : gchk exG = 0 := by decide
  unfold flat4
  rw [hc, if_neg (by simp)]
  show flF exG 0 exG [] = _
  have e1 : flF exG 0 exG [] = flF exG 1 [⟨0, atG 1 2 3, 5, 6, 0⟩] [] := by
    conv => lhs; unfold exG
    rw [flF, if_pos rfl]; rfl
  rw [e1, flF, if_neg (by decide)]
  rw [show ((1 : Nat) : Int) = 1 from rfl, w, if_neg (by decide), flF]
  rfl
theorem works41_c {R : Env} (h : N328 R) : R.Pc 328 [] (.bool true) :=
  h.o328.enter 100 rfl fun X bb hfit hp => by
    refine sh ?_
    refine ICall.pure h.n349.o349.hb (at41_c h.n349 (x := 10) (y := 0) (z := 0) ⟨⟨by decide, by decide⟩, ⟨by decide, by decide⟩, ⟨by decide, by decide⟩⟩) rfl ?_
    refine sh ?_
    refine ICall.pure h.n349.o349.hb (at41_c h.n349 (x := 1) (y := 2) (z := 3) ⟨⟨by decide, by decide⟩, ⟨by decide, by decide⟩, ⟨by decide, by decide⟩⟩) rfl ?_
    have c := gflatten_c h.n327 exG (by decide) (by
      intro g hg
      simp only [exG, List.mem_cons, List.not_mem_nil, or_false] at hg
      have ia : ∀ x y z, (atG x y z).I := fun x y z => by
        refine ⟨?_, ?_, ?_, ?_, ?_, ?_, ?_, ?_, ?_, vof_in _⟩ <;> (simp only [atG, move4, i64_iff]; omega)
      rcases hg with rfl | rfl <;> exact ia _ _ _)
    rw [exG_flat] at c
    refine sh ?_
    refine ICall.let [0] rfl hp rfl ?_
    repeat ((intro _u; clear _u); first | refine eZ ?_ | refine eZ ?_ (by simp; omega) | refine FrzC.drop ?_)
    refine sh ?_
    refine ICall.pure h.n327.o327.hb c rfl ?_
    refine sh ?_
    refine acnd_t (by rfl) ?_
    refine sh ?_
    refine acnd_t (by rfl) ?_
    refine sh ?_
    refine eget_map (show ([⟨5, 6, 0, 0, atG 11 2 3⟩] : List In)[0]? = some _ from rfl) ?_
    refine sh ?_
    refine ICall.pure h.n349.o349.hb (at41_c h.n349 (x := 11) (y := 2) (z := 3) ⟨⟨by decide, by decide⟩, ⟨by decide, by decide⟩, ⟨by decide, by decide⟩⟩) rfl ?_
    refine sh ?_
    exact rT
end Go.UM

namespace Go.UM
open Go.AM
set_option maxRecDepth 4000
theorem dot_x {v : T3} (hv : v.I) : dot ax0 v = v.a ∧ dot ax1 v = v.b ∧ dot ax2 v = v.c ∧ dot v ax0 = v.a ∧ dot v ax1 = v.b ∧ dot v ax2 = v.c := by
  obtain ⟨ha, hb, hc⟩ := hv
  have z0 : tadd 0 0 = 0 := rfl
  simp only [dot, ax0, ax1, ax2, tmul1 ha, tmul1 hb, tmul1 hc, tmul_1 ha, tmul_1 hb, tmul_1 hc, tmul0, tmul_0, tadd0 ha, tadd0 hb, tadd0 hc, tadd_0 ha, tadd_0 hb, tadd_0 hc, z0, and_self]
theorem dot_0 (v : T3) : dot v z3 = 0 := by simp only [dot, z3, tmul_0]; rfl
theorem comp_l {a : Af} (ha : a.I) : comp4 same4 a = a := by
  obtain ⟨_, _, _, x0, x1, x2⟩ := dot_x (ha.rw 0)
  obtain ⟨_, _, _, y0, y1, y2⟩ := dot_x (ha.rw 1)
  obtain ⟨_, _, _, w0, w1, w2⟩ := dot_x (ha.rw 2)
  unfold comp4
  rw [show same4.cl 0 = ax0 from rfl, show same4.cl 1 = ax1 from rfl, show same4.cl 2 = ax2 from rfl, show same4.t = z3 from rfl]
  have e0 : turn4 a ax0 = a.cl 0 := by unfold turn4; rw [x0, y0, w0]; rfl
  have e1 : turn4 a ax1 = a.cl 1 := by unfold turn4; rw [x1, y1, w1]; rfl
  have e2 : turn4 a ax2 = a.cl 2 := by unfold turn4; rw [x2, y2, w2]; rfl
  have e3 : apply4 a z3 = a.t := by
    unfold apply4 turn4
    rw [dot_0, dot_0, dot_0]
    exact vadd0 ha.t
  rw [e0, e1, e2, e3]; rfl
def i8 (x : Int) : Prop := -128 ≤ x ∧ x ≤ 127
structure M9 where
  (m0 m1 m2 m3 m4 m5 m6 m7 m8 : Int)
def M9.want (m : M9) (t q : T3) : T3 := ⟨m.m0 * q.a + m.m1 * q.b + m.m2 * q.c + t.a, m.m3 * q.a + m.m4 * q.b + m.m5 * q.c + t.b, m.m6 * q.a + m.m7 * q.b + m.m8 * q.c + t.c⟩
def i16 (x : Int) : Prop := -32768 ≤ x ∧ x ≤ 32767
end Go.UM

namespace Go.UM
open Go.AM
set_option maxRecDepth 4000
theorem bout_pre (i : Int) (l : List Gr) : ∀ {n m : Nat}, n ≤ m → ∃ t, bout i l m = bout i l n ++ t
  | n, 0, h => ⟨[], by rw [show n = 0 by omega]; simp⟩
  | n, m + 1, h => by
    by_cases e : n = m + 1
    · exact ⟨[], by rw [e]; simp⟩
    · obtain ⟨t, ht⟩ := bout_pre i l (n := n) (m := m) (by omega)
      rw [bout, ht]
      split
      · exact ⟨t ++ [(m : Int)], by simp⟩
      · exact ⟨t, rfl⟩
theorem bout_get {i : Int} {l : List Gr} {n m : Nat} (h : n < m) (hf : (bels i l).getD n false = true) : (bout i l m)[(bout i l n).length]? = some (n : Int) := by
  obtain ⟨t, ht⟩ := bout_pre i l (n := n + 1) (m := m) (by omega)
  rw [ht, bout, if_pos hf]; simp
theorem checks41_c {R : Env} (h : N329 R) (l : List Gr) (hi : ∀ g ∈ l, g.t.I) (i : Int) : R.Pc 329 [.isl 16 (slG l), .int .i64 i] (.bool true) :=
  h.o329.enter 300 rfl fun X bb hfit hp => by
    refine sh ?_
    refine ICall.pure h.n326.o326.hb (gfew_c h.n326 l) rfl ?_
    have hl : (l.take 30).length ≤ 30 := by simp; omega
    have hi : ∀ g ∈ l.take 30, g.t.I := fun g hg => hi g (List.mem_of_mem_take hg)
    generalize l.take 30 = l at *
    refine sh ?_
    refine ICall.pure h.n330.o330.hb (gcheck_c h.n330 l (by omega) hi) rfl ?_
    have c1 := gdeep_c h.n331 l (by omega) hi i
    have c2 := gWorld_c h.n332 l (by omega) hi i
    have c3 := gbelow_c h.n333 l (by omega) hi i
    by_cases h0 : gchk l = 0
    · by_cases hr : i < 0 ∨ (l.length : Int) ≤ i
      · have e1 : deep4 l i = (0, 2) := by unfold deep4; rw [if_neg (by simpa using h0), if_pos hr]
        have e2 : world4 l i = (z4, 2) := by unfold world4; rw [if_neg (by simpa using h0), if_pos hr]
        have e3 : below4 l i = ([], 2) := by unfold below4; rw [if_neg (by simpa using h0), if_pos hr]
        rw [e1] at c1
        rw [e2] at c2
        rw [e3] at c3
        refine sh ?_
        refine ICall.pure h.n331.o331.hb c1 rfl ?_
        refine sh ?_
        refine ICall.pure h.n332.o332.hb c2 rfl ?_
        refine sh ?_
        refine ICall.pure h.n333.o333.hb c3 rfl ?_
        refine sh ?_
        refine ICall.pure h.n334.o334.hb (rgcheck_c h.n334 l (by omega) hi) rfl ?_
        refine sh ?_
        refine acnd_f (by simp) ?_
        refine sh ?_
        refine acnd_f (by simpa using h0) ?_
        refine sh ?_
        refine cS (fun r1 => ?_) (fun r1 => ?_)
        · refine sh ?_
          refine acnd_t (by rfl) ?_
          refine sh ?_
          refine acnd_t (by rfl) ?_
          refine sh ?_
          refine acnd_t (by rfl) ?_
          refine sh ?_
          refine acnd_t (by rfl) ?_
          refine sh ?_
          refine ICall.pure h.n328.o328.hb (works41_c h.n328) rfl ?_
          refine sh ?_
          exact rT
        · refine sh ?_
          refine acnd_t (by (simp; omega)) ?_
          refine sh ?_
          refine acnd_t (by rfl) ?_
          refine sh ?_
          refine acnd_t (by rfl) ?_
          refine sh ?_
          refine acnd_t (by rfl) ?_
          refine sh ?_
          refine acnd_t (by rfl) ?_
          refine sh ?_
          refine ICall.pure h.n328.o328.hb (works41_c h.n328) rfl ?_
          refine sh ?_
          exact rT
      · obtain ⟨m, rfl⟩ : ∃ m : Nat, i = m := ⟨i.toNat, by omega⟩
        have hA := gchk_ahead h0
        have e1 : deep4 l m = ((gdep l).getD m 0, 0) := by unfold deep4; rw [if_neg (by simpa using h0), if_neg hr]; rfl
        have e2 : world4 l m = (gworld l m, 0) := by unfold world4; rw [if_neg (by simpa using h0), if_neg hr]
        have e3 : below4 l m = (bout m l l.length, 0) := by unfold below4; rw [if_neg (by simpa using h0), if_neg hr]
        rw [e1] at c1
        rw [e2] at c2
        rw [e3] at c3
        refine sh ?_
        refine ICall.pure h.n331.o331.hb c1 rfl ?_
        refine sh ?_
        refine ICall.pure h.n332.o332.hb c2 rfl ?_
        refine sh ?_
        refine ICall.pure h.n333.o333.hb c3 rfl ?_
        refine sh ?_
        refine ICall.pure h.n334.o334.hb (rgcheck_c h.n334 l (by omega) hi) rfl ?_
        refine sh ?_
        refine acnd_f (by simp) ?_
        refine sh ?_
        refine acnd_f (by simpa using h0) ?_
        refine sh ?_
        refine acnd_f (by simp) ?_
        refine sh ?_
        refine acnd_f (by (simp; omega)) ?_
        refine sh ?_
        refine lPa 200 (fun n : Nat => n ≤ l.length) (fun n => ⟨[(0, .isl 16 (slG l)), (1, .int .i64 m), (6, .int .i64 ((gdep l).getD m 0)), (7, .int .i64 0), (8, .loc 0 1 0 0), (9, .int .i64 0), (10, .isl 1 (slcK .i64 (bout m l l.length))), (11, .int .i64 0), (12, .int .i64 (bout m l n).length), (94, .int .i64 l.length), (95, .int .i64 n)], [(0, .var (R.ty 33) (gworld l m).row)], 1⟩) (fun n => l.length - n) (0) ?_ ?_
        · omega
        · intro n hn
          dsimp only
          refine sh ?_
          refine cS (fun h1 => ?_) (fun h1 => ?_)
          · refine sh ?_
            refine ICall.pure h.n335.o335.hb (rgbelow_c h.n335 l (by omega) hA n (by omega) m) rfl ?_
            have hbl := bout_len m l n
            refine sh ?_
            refine cS (fun h2 => ?_) (fun h2 => ?_)
            · have hg := bout_get (n := n) (m := l.length) (by omega) h2
              have hlt := (List.getElem?_eq_some_iff.1 hg).1
              refine sh ?_
              refine acnd_f (by (simp; omega)) ?_
              refine sh ?_
              refine eget_map hg ?_
              refine sh ?_
              refine acnd_f (by simp) ?_
              refine sh ?_
              refine nX (n + 1) ?_ ?_ ⟨_, hp, rfl⟩ ?_ ?_
              · omega
              · omega
              · all_goals repeat' (first | exact True.intro | refine And.intro ?_ ?_ | (intro _u; clear _u) | (with_reducible first | refine eM ?_ ?_ | refine eF ?_ ?_ ?_ | refine eN ?_ | refine eL ?_ ?_ ?_ | refine eA ?_ ?_ | refine IWk.mk ⟨_, hp, rfl⟩ ?_ ?_) | refine IWk.mk ⟨_, hp, rfl⟩ ?_ ?_)
                all_goals first | with_reducible rfl | omega | exact Or.inl (by decide) | (simp; done) | rfl | skip
                rw [bout, if_pos h2]
                first | rfl | (simp; done) | simp
              · all_goals repeat' (first | exact True.intro | refine And.intro ?_ ?_ | (intro _u; clear _u) | (with_reducible first | refine eM ?_ ?_ | refine eF ?_ ?_ ?_ | refine eN ?_ | refine eL ?_ ?_ ?_ | refine eA ?_ ?_ | refine IWk.mk ⟨_, hp, rfl⟩ ?_ ?_) | refine IWk.mk ⟨_, hp, rfl⟩ ?_ ?_)
                all_goals first | with_reducible rfl | omega | exact Or.inl (by decide) | (simp; done) | rfl | skip
            · refine sh ?_
              refine nX (n + 1) ?_ ?_ ⟨_, hp, rfl⟩ ?_ ?_
              · omega
              · omega
              · all_goals repeat' (first | exact True.intro | refine And.intro ?_ ?_ | (intro _u; clear _u) | (with_reducible first | refine eM ?_ ?_ | refine eF ?_ ?_ ?_ | refine eN ?_ | refine eL ?_ ?_ ?_ | refine eA ?_ ?_ | refine IWk.mk ⟨_, hp, rfl⟩ ?_ ?_) | refine IWk.mk ⟨_, hp, rfl⟩ ?_ ?_)
                all_goals first | with_reducible rfl | omega | exact Or.inl (by decide) | (simp; done) | rfl | skip
                rw [bout, if_neg (by rw [h2]; simp)]
              · all_goals repeat' (first | exact True.intro | refine And.intro ?_ ?_ | (intro _u; clear _u) | (with_reducible first | refine eM ?_ ?_ | refine eF ?_ ?_ ?_ | refine eN ?_ | refine eL ?_ ?_ ?_ | refine eA ?_ ?_ | refine IWk.mk ⟨_, hp, rfl⟩ ?_ ?_) | refine IWk.mk ⟨_, hp, rfl⟩ ?_ ?_)
                all_goals first | with_reducible rfl | omega | exact Or.inl (by decide) | (simp; done) | rfl | skip
          · rw [show n = l.length by omega]
            refine sh ?_
            refine acnd_t (by rfl) ?_
            refine sh ?_
            refine acnd_t (by rfl) ?_
            refine sh ?_
            refine acnd_t (by rfl) ?_
            refine sh ?_
            refine acnd_t (by simp) ?_
            refine sh ?_
            refine ICall.pure h.n336.o336.hb (rdepth_c h.n336 l (by omega) m (by omega) (fun j g _ hg => hA j g hg)) rfl ?_
            refine sh ?_
            refine acnd_t (by simp) ?_
            refine sh ?_
            refine ICall.pure h.n337.o337.hb (rgworld_c h.n337 l (by omega) hi hA m (by omega) (by omega)) rfl ?_
            refine sh ?_
            refine acnd_t (by simp) ?_
            refine sh ?_
            refine ICall.pure h.n328.o328.hb (works41_c h.n328) rfl ?_
            refine sh ?_
            exact rT
    · have e1 : deep4 l i = (0, gchk l) := by unfold deep4; rw [if_pos h0]
      have e2 : world4 l i = (z4, gchk l) := by unfold world4; rw [if_pos h0]
      have e3 : below4 l i = ([], gchk l) := by unfold below4; rw [if_pos h0]
      rw [e1] at c1
      rw [e2] at c2
      rw [e3] at c3
      refine sh ?_
      refine ICall.pure h.n331.o331.hb c1 rfl ?_
      refine sh ?_
      refine ICall.pure h.n332.o332.hb c2 rfl ?_
      refine sh ?_
      refine ICall.pure h.n333.o333.hb c3 rfl ?_
      refine sh ?_
      refine ICall.pure h.n334.o334.hb (rgcheck_c h.n334 l (by omega) hi) rfl ?_
      refine sh ?_
      refine acnd_f (by simp) ?_
      refine sh ?_
      refine acnd_t (by simpa using h0) ?_
      refine sh ?_
      refine acnd_t (by simp) ?_
      refine sh ?_
      refine acnd_t (by simp) ?_
      refine sh ?_
      refine acnd_t (by simp) ?_
      refine sh ?_
      refine acnd_t (by rfl) ?_
      refine sh ?_
      refine acnd_t (by rfl) ?_
      refine sh ?_
      refine ICall.pure h.n328.o328.hb (works41_c h.n328) rfl ?_
      refine sh ?_
      exact rT
theorem bels_lt {l : List Gr} (hA : Ahead l) {k : Nat} : ∀ {j : Nat}, j < l.length → (bels (k : Int) l).getD j false = true → k < j := by
  intro j
  induction j using Nat.strongRecOn with
  | ind j ih =>
    intro hj h
    obtain ⟨g, hg⟩ : ∃ g, l[j]? = some g := ⟨_, List.getElem?_eq_getElem hj⟩
    have hp := hA j g hg
    rw [bels_at hg (by omega)] at h
    simp only [Bool.and_eq_true, decide_eq_true_eq, Bool.or_eq_true, beq_iff_eq] at h
    rcases h.2 with h2 | h2
    · omega
    · have := ih g.par.toNat (by omega) (by omega) h2
      omega
theorem bels_trans {l : List Gr} (hA : Ahead l) {k : Nat} {i : Int} (hk : (bels i l).getD k false = true) : ∀ {j : Nat}, j < l.length → (bels (k : Int) l).getD j false = true → (bels i l).getD j false = true := by
  intro j
  induction j using Nat.strongRecOn with
  | ind j ih =>
    intro hj h
    obtain ⟨g, hg⟩ : ∃ g, l[j]? = some g := ⟨_, List.getElem?_eq_getElem hj⟩
    have hp := hA j g hg
    rw [bels_at hg (by omega)] at h ⊢
    simp only [Bool.and_eq_true, decide_eq_true_eq, Bool.or_eq_true, beq_iff_eq] at h ⊢
    refine ⟨h.1, ?_⟩
    rcases h.2 with h2 | h2
    · right; rw [h2, Int.toNat_natCast]; exact hk
    · right; exact ih g.par.toNat (by omega) (by omega) h2
theorem bout_lt {l : List Gr} (hA : Ahead l) {k : Nat} {i : Int} (hk : (bels i l).getD k false = true) : ∀ {n : Nat}, n ≤ l.length → (bout k l n).length + (if k < n then 1 else 0) ≤ (bout i l n).length := by
  intro n
  induction n with
  | zero => intro _; simp [bout]
  | succ n ih =>
    intro hn
    have ih := ih (by omega)
    simp only [bout]
    by_cases h1 : (bels (k : Int) l).getD n false = true
    · have := bels_lt hA (by omega) h1
      have h2 := bels_trans hA hk (by omega) h1
      rw [if_pos h1, if_pos h2]
      rw [if_pos (by omega)] at ih ⊢
      simp only [List.length_append, List.length_singleton]; omega
    · rw [if_neg h1]
      by_cases e : k = n
      · subst e
        rw [if_pos hk, if_pos (by omega)]
        rw [if_neg (by omega)] at ih
        simp only [List.length_append, List.length_singleton]; omega
      · have e2 : (if k < n + 1 then 1 else 0) = (if k < n then 1 else 0) := by
          by_cases h : k < n
          · rw [if_pos h, if_pos (by omega)]
          · rw [if_neg h, if_neg (by omega)]
        rw [e2]
        by_cases h3 : (bels i l).getD n false = true
        · rw [if_pos h3]
          simp only [List.length_append, List.length_singleton]; omega
        · rw [if_neg h3]; exact ih
theorem gdep_below {l : List Gr} (hA : Ahead l) {i : Nat} : ∀ {k : Nat}, k < l.length → (bels (i : Int) l).getD k false = true → (gdep l).getD i 0 + 1 ≤ (gdep l).getD k 0 := by
  intro k
  induction k using Nat.strongRecOn with
  | ind k ih =>
    intro hk h
    obtain ⟨g, hg⟩ : ∃ g, l[k]? = some g := ⟨_, List.getElem?_eq_getElem hk⟩
    have hp := hA k g hg
    rw [bels_at hg (by omega)] at h
    simp only [Bool.and_eq_true, decide_eq_true_eq, Bool.or_eq_true, beq_iff_eq] at h
    rw [gdep_at hg (by omega), if_pos h.1]
    rcases h.2 with h2 | h2
    · rw [h2, Int.toNat_natCast]; omega
    · have := ih g.par.toNat (by omega) (by omega) h2
      omega
theorem bout_mem {i : Int} {l : List Gr} : ∀ {n : Nat} {x : Int}, x ∈ bout i l n → ∃ k : Nat, x = k ∧ k < n ∧ (bels i l).getD k false = true
  | 0, x, h => by simp [bout] at h
  | n + 1, x, h => by
    simp only [bout] at h
    split at h
    · rename_i hf
      rcases List.mem_append.1 h with h | h
      · obtain ⟨k, h1, h2, h3⟩ := bout_mem h
        exact ⟨k, h1, by omega, h3⟩
      · simp at h
        exact ⟨n, h, by omega, hf⟩
    · obtain ⟨k, h1, h2, h3⟩ := bout_mem h
      exact ⟨k, h1, by omega, h3⟩
theorem world_same {l : List Gr} (hi : ∀ g ∈ l, g.t.I) (hA : Ahead l) {k : Nat} {g : Gr} (hg : l[k]? = some g) {i : Nat} (hpar : g.par = i) (hs : g.t = same4) : gworld l k = gworld l i := by
  have hik : i < k := by have := hA k g hg; omega
  have hlt : k < l.length := (List.getElem?_eq_some_iff.1 hg).1
  obtain ⟨f, hf⟩ : ∃ f, l[i]? = some f := ⟨_, List.getElem?_eq_getElem (by omega)⟩
  unfold gworld
  rw [show ((k : Int) + 1).toNat = k + 1 by omega, wayN_succ hg (by omega), hpar, hs]
  rw [show ((i : Int) + 1).toNat = i + 1 by omega, wayN_succ hf (hA i f hf).2]
  show then4 (same4 :: f.t :: _) = _
  simp only [then4, List.foldl_cons]
  rw [comp_l (hi f (List.mem_of_getElem? hf))]
theorem tmod_bd {i n : Int} (h : 0 < n) : -n < i.tmod n ∧ i.tmod n < n := by
  constructor
  · have := Int.lt_tmod_of_pos i h; omega
  · exact Int.tmod_lt_of_pos i h
theorem af_same {a : Af} (h : a.m0 = 4294967296 ∧ a.m1 = 0 ∧ a.m2 = 0 ∧ a.m3 = 0 ∧ a.m4 = 4294967296 ∧ a.m5 = 0 ∧ a.m6 = 0 ∧ a.m7 = 0 ∧ a.m8 = 4294967296 ∧ a.t.a = 0 ∧ a.t.b = 0 ∧ a.t.c = 0) : a = same4 := by
  obtain ⟨m0, m1, m2, m3, m4, m5, m6, m7, m8, ⟨x, y, z⟩⟩ := a
  simp only at h
  obtain ⟨rfl, rfl, rfl, rfl, rfl, rfl, rfl, rfl, rfl, rfl, rfl, rfl⟩ := h
  rfl
theorem below41_c {R : Env} (h : N338 R) (l : List Gr) (hi : ∀ g ∈ l, g.t.I) (i : Int) : R.Pc 338 [.isl 16 (slG l), .int .i64 i] (.bool true) :=
  h.o338.enter 300 rfl fun X bb hfit hp => by
    refine sh ?_
    refine ICall.pure h.n326.o326.hb (gfew_c h.n326 l) rfl ?_
    have hl : (l.take 30).length ≤ 30 := by simp; omega
    have hi : ∀ g ∈ l.take 30, g.t.I := fun g hg => hi g (List.mem_of_mem_take hg)
    generalize l.take 30 = l at *
    refine sh ?_
    refine cS (fun h0 => ?_) (fun h0 => ?_)
    · refine sh ?_
      refine ICall.pure h.n328.o328.hb (works41_c h.n328) rfl ?_
      refine sh ?_
      exact rT
    · have hb := tmod_bd (i := i) (n := l.length) (by omega)
      have hj0 : 0 ≤ (i.tmod l.length + l.length).tmod l.length := Int.tmod_nonneg _ (by omega)
      have hj1 := (tmod_bd (i := i.tmod l.length + l.length) (n := l.length) (by omega)).2
      generalize hm : (i.tmod l.length + l.length).tmod (l.length : Int) = j at hj0 hj1
      obtain ⟨m, rfl⟩ : ∃ m : Nat, j = m := ⟨j.toNat, by omega⟩
      refine st ?_
      rw [hm]
      have c3 := gbelow_c h.n333 l (by omega) hi m
      by_cases h1 : gchk l = 0
      · have hA := gchk_ahead h1
        have hlt : m < l.length := by omega
        have hr : ∀ {k : Nat}, k < l.length → ¬ ((k : Int) < 0 ∨ (l.length : Int) ≤ k) := fun {k} hk => by omega
        have e1 : ∀ {k : Nat}, k < l.length → deep4 l k = ((gdep l).getD k 0, 0) := fun {k} hk => by unfold deep4; rw [if_neg (by simpa using h1), if_neg (hr hk)]; rfl
        have e2 : ∀ {k : Nat}, k < l.length → world4 l k = (gworld l k, 0) := fun {k} hk => by unfold world4; rw [if_neg (by simpa using h1), if_neg (hr hk)]
        have e3 : ∀ {k : Nat}, k < l.length → below4 l k = (bout k l l.length, 0) := fun {k} hk => by unfold below4; rw [if_neg (by simpa using h1), if_neg (hr hk)]
        rw [e3 hlt] at c3
        refine sh ?_
        refine ICall.pure h.n333.o333.hb c3 rfl ?_
        refine sh ?_
        refine acnd_f (by rfl) ?_
        have c1 := gdeep_c h.n331 l (by omega) hi m
        rw [e1 hlt] at c1
        refine sh ?_
        refine ICall.pure h.n331.o331.hb c1 rfl ?_
        have c2 := gWorld_c h.n332 l (by omega) hi m
        rw [e2 hlt] at c2
        refine sh ?_
        refine ICall.pure h.n332.o332.hb c2 rfl ?_
        have hbl := bout_len m l l.length
        have hdm := gdep_bd (l := l) m hlt (fun j g _ hg => hA j g hg)
        refine sh ?_
        refine lPa 200 (fun n : Nat => n ≤ (bout m l l.length).length) (fun n => ⟨[(0, .isl 16 (slG l)), (1, .int .i64 m), (5, .isl 1 (slcK .i64 (bout m l l.length))), (7, .int .i64 ((gdep l).getD m 0)), (9, .loc 0 1 0 0), (61, .isl 1 (slcK .i64 (bout m l l.length))), (62, .int .i64 (bout m l l.length).length), (63, .int .i64 n)], [(0, .var (R.ty 33) (gworld l m).row)], 1⟩) (fun n => (bout m l l.length).length - n) (0) ?_ ?_
        · omega
        · intro n hn
          dsimp only
          refine sh ?_
          refine cS (fun h2 => ?_) (fun h2 => ?_)
          · obtain ⟨x, hx⟩ : ∃ x, (bout m l l.length)[n]? = some x := ⟨_, List.getElem?_eq_getElem (by omega)⟩
            obtain ⟨k, rfl, hk, hf⟩ := bout_mem (List.mem_of_getElem? hx)
            obtain ⟨g, hg⟩ : ∃ g, l[k]? = some g := ⟨_, List.getElem?_eq_getElem hk⟩
            refine sh ?_
            refine eget_map hx ?_
            have d1 := gdeep_c h.n331 l (by omega) hi k
            rw [e1 hk] at d1
            refine sh ?_
            refine ICall.pure h.n331.o331.hb d1 rfl ?_
            have d3 := gbelow_c h.n333 l (by omega) hi k
            rw [e3 hk] at d3
            refine sh ?_
            refine ICall.pure h.n333.o333.hb d3 rfl ?_
            have hdb := gdep_below hA hk hf
            have hbt := bout_lt hA hf (Nat.le_refl l.length)
            rw [if_pos hk] at hbt
            refine sh ?_
            refine acnd_f (by rfl) ?_
            refine sh ?_
            refine acnd_f (by rfl) ?_
            refine sh ?_
            refine acnd_f (by (simp only [decide_eq_false_iff_not]; omega)) ?_
            refine sh ?_
            refine acnd_f (by (simp only [decide_eq_false_iff_not]; omega)) ?_
            refine sh ?_
            refine eget_map hg ?_
            refine sh ?_
            refine cS (fun h3 => ?_) (fun h3 => ?_)
            · have d2 := gWorld_c h.n332 l (by omega) hi k
              rw [e2 hk] at d2
              refine sh ?_
              refine ICall.pure h.n332.o332.hb d2 rfl ?_
              have hdk : (gdep l).getD k 0 = (gdep l).getD m 0 + 1 := by
                rw [gdep_at hg (hA k g hg).2, if_pos (by omega), h3, Int.toNat_natCast]; omega
              rw [hdk]
              refine sh ?_
              refine acnd_f (by simp) ?_
              refine sh ?_
              refine eget_map hg ?_
              refine sh ?_
              refine ICall.pure h.n221.o221.hb (same4_c h.n221) rfl ?_
              refine sh ?_
              refine cS (fun h4 => ?_) (fun h4 => ?_)
              · have hs : g.t = same4 := af_same (by simpa [same4, z3, and_assoc] using h4)
                rw [world_same hi hA hg h3 hs]
                refine sh ?_
                refine acnd_f (by simp) ?_
                refine sh ?_
                refine nXa (n + 1) ?_ ?_
                · omega
                · omega
              · refine sh ?_
                refine nXa (n + 1) ?_ ?_
                · omega
                · omega
            · refine sh ?_
              refine nXa (n + 1) ?_ ?_
              · omega
              · omega
          · refine sh ?_
            refine ICall.pure h.n328.o328.hb (works41_c h.n328) rfl ?_
            refine sh ?_
            exact rT
      · have e3 : below4 l m = ([], gchk l) := by unfold below4; rw [if_pos h1]
        rw [e3] at c3
        refine sh ?_
        refine ICall.pure h.n333.o333.hb c3 rfl ?_
        refine sh ?_
        refine acnd_t (by simpa using h1) ?_
        refine sh ?_
        refine acnd_t (by rfl) ?_
        refine sh ?_
        refine ICall.pure h.n328.o328.hb (works41_c h.n328) rfl ?_
        refine sh ?_
        exact rT
end Go.UM

namespace Go.UM
open Go.AM
end Go.UM

namespace Go.UM
open Go.AM
set_option maxRecDepth 4000
theorem flF_err {l : List Gr} : ∀ {r : List Gr} {i : Nat} {acc : List In}, (flF l i r acc).2 ≠ 0 → (flF l i r acc).1 = []
  | [], i, acc, h => by simp [flF] at h
  | g :: r, i, acc, h => by
    rw [flF] at h ⊢
    split
    · rename_i h0; rw [if_pos h0] at h; exact flF_err h
    · rename_i h0
      rw [if_neg h0] at h
      split
      · rfl
      · rename_i h1; rw [if_neg h1] at h; exact flF_err h
theorem flat_err {l : List Gr} (h : (flat4 l).2 ≠ 0) : (flat4 l).1 = [] := by
  unfold flat4 at h ⊢
  split
  · rfl
  · rename_i h0; rw [if_neg h0] at h; exact flF_err h
def mvA (m : T3) (a : Af) : Af := { a with t := vadd a.t m }
def mvG (m : T3) (g : Gr) : Gr := if g.par = -1 then { g with t := mvA m g.t } else g
def mvI (m : T3) (x : In) : In := { x with t := mvA m x.t }
theorem mvG_par (m : T3) (g : Gr) : (mvG m g).par = g.par := by unfold mvG; split <;> rfl
theorem mvG_mesh (m : T3) (g : Gr) : (mvG m g).mesh = g.mesh := by unfold mvG; split <;> rfl
theorem mvG_key (m : T3) (g : Gr) : keyG (mvG m g) = keyG g := by unfold mvG keyG; split <;> rfl
theorem mvG_hit (m : T3) (g : Gr) (k : T3) : hitK (mvG m g) k = hitK g k := by unfold mvG hitK; split <;> rfl
theorem mvG_I {m : T3} {g : Gr} (h : g.t.I) : (mvG m g).t.I := by
  unfold mvG
  split
  · exact ⟨h.m0, h.m1, h.m2, h.m3, h.m4, h.m5, h.m6, h.m7, h.m8, vadd_in _ _⟩
  · exact h
theorem mostT_le {v : T3} {B : Int} (hv : v.I) (h : mostT v ≤ B) (hB : B < 9223372036854775807) : (-B ≤ v.a ∧ v.a ≤ B) ∧ (-B ≤ v.b ∧ v.b ≤ B) ∧ (-B ≤ v.c ∧ v.c ≤ B) := by
  have one : ∀ {x : Int}, I64 x → sizeI x ≤ B → -B ≤ x ∧ x ≤ B := by
    intro x hx h
    unfold sizeI sat at h
    rw [i64_iff] at hx
    repeat' split at h
    all_goals omega
  unfold mostT at h
  exact ⟨one hv.1 (by omega), one hv.2.1 (by omega), one hv.2.2 (by omega)⟩
theorem tadd_assoc3 {a t m : Int} (ht : -281474976710656 ≤ t ∧ t ≤ 281474976710656) (hm : -281474976710656 ≤ m ∧ m ≤ 281474976710656) (h : -562949953421312 ≤ tadd a t ∧ tadd a t ≤ 562949953421312) : tadd a (tadd t m) = tadd (tadd a t) m := by
  unfold tadd sat at h ⊢
  repeat' split at h
  all_goals (repeat' split) <;> omega
def Lo (v : T3) : Prop := (-281474976710656 ≤ v.a ∧ v.a ≤ 281474976710656) ∧ (-281474976710656 ≤ v.b ∧ v.b ≤ 281474976710656) ∧ (-281474976710656 ≤ v.c ∧ v.c ≤ 281474976710656)
theorem vadd_assoc3 {a t m : T3} (ht : Lo t) (hm : Lo m) (h : mostT (vadd a t) ≤ 562949953421312) : vadd a (vadd t m) = vadd (vadd a t) m := by
  obtain ⟨h1, h2, h3⟩ := mostT_le (vadd_in a t) h (by decide)
  simp only [vadd] at h1 h2 h3 ⊢
  rw [tadd_assoc3 ht.1 hm.1 h1, tadd_assoc3 ht.2.1 hm.2.1 h2, tadd_assoc3 ht.2.2 hm.2.2 h3]
theorem turn_mv (m : T3) (a : Af) (v : T3) : turn4 (mvA m a) v = turn4 a v := rfl
theorem comp_mv {m : T3} {f r : Af} (hr : Lo r.t) (hm : Lo m) (h : mostT (comp4 f r).t ≤ 562949953421312) : comp4 f (mvA m r) = mvA m (comp4 f r) := by
  have e : apply4 (mvA m r) f.t = vadd (apply4 r f.t) m := by
    unfold apply4
    rw [turn_mv]
    exact vadd_assoc3 (a := turn4 r f.t) hr hm h
  unfold comp4
  rw [turn_mv, turn_mv, turn_mv, e]
  rfl
theorem then4_snoc (p : List Af) (r : Af) (hp : p ≠ []) : then4 (p ++ [r]) = comp4 (then4 p) r := by
  cases p with
  | nil => exact (hp rfl).elim
  | cons f q => simp [then4, List.foldl_append]
theorem way_mv {l : List Gr} (hA : Ahead l) (m : T3) : ∀ (n : Nat), 0 < n → n ≤ l.length → ∃ p g, g ∈ l ∧ wayN l n = p ++ [g.t] ∧ wayN (l.map (mvG m)) n = p ++ [mvA m g.t] := by
  intro n
  induction n using Nat.strongRecOn with
  | ind n ih =>
    intro h0 hn
    obtain ⟨k, rfl⟩ : ∃ k, n = k + 1 := ⟨n - 1, by omega⟩
    obtain ⟨g, hg⟩ : ∃ g, l[k]? = some g := ⟨_, List.getElem?_eq_getElem (by omega)⟩
    have hpar := hA k g hg
    have hg' : (l.map (mvG m))[k]? = some (mvG m g) := by rw [List.getElem?_map, hg]; rfl
    rw [wayN_succ hg hpar.2, wayN_succ hg' (by rw [mvG_par]; exact hpar.2), mvG_par]
    by_cases hr : g.par = -1
    · refine ⟨[], g, List.mem_of_getElem? hg, ?_, ?_⟩
      · rw [hr]; show g.t :: wayN l 0 = _; rw [wayN_zero]; rfl
      · rw [hr]; show (mvG m g).t :: wayN _ 0 = _; rw [wayN_zero]; unfold mvG; rw [if_pos hr]; rfl
    · obtain ⟨p, r, h1, h2, h3⟩ := ih (g.par + 1).toNat (by omega) (by omega) (by omega)
      refine ⟨g.t :: p, r, h1, by rw [h2]; rfl, ?_⟩
      rw [h3]
      unfold mvG
      rw [if_neg hr]; rfl
theorem gworld_mv {l : List Gr} (hA : Ahead l) {m : T3} (hm : Lo m) (hl : ∀ g ∈ l, Lo g.t.t) {i : Nat} (hi : i < l.length) (hc : chk4 (gworld l i) = 0) : gworld (l.map (mvG m)) i = mvA m (gworld l i) := by
  obtain ⟨p, g, h1, h2, h3⟩ := way_mv hA m (i + 1) (by omega) (by omega)
  have hw : mostT (gworld l i).t ≤ 562949953421312 := by
    unfold chk4 at hc
    split at hc
    · simp at hc
    · split at hc
      · simp at hc
      · omega
  unfold gworld at hw ⊢
  rw [show ((i : Int) + 1).toNat = i + 1 by omega] at hw ⊢
  rw [h2] at hw ⊢
  rw [h3]
  by_cases hp : p = []
  · subst hp; rfl
  · rw [then4_snoc p _ hp] at hw ⊢
    rw [then4_snoc p _ hp]
    exact comp_mv (hl g h1) hm hw
theorem cntK_mv (m : T3) (l : List Gr) (k : T3) : cntK (l.map (mvG m)) k = cntK l k := by
  unfold cntK
  rw [List.countP_map]
  congr 1
  funext g
  exact mvG_hit m g k
theorem flF_mv {l : List Gr} (hA : Ahead l) {m : T3} (hm : Lo m) (hl : ∀ g ∈ l, Lo g.t.t) : ∀ (n i : Nat) (acc : List In), n + i = l.length → (flF l i (l.drop i) acc).2 = 0 → (flF (l.map (mvG m)) i ((l.map (mvG m)).drop i) (acc.map (mvI m))).2 = 0 →
    (flF (l.map (mvG m)) i ((l.map (mvG m)).drop i) (acc.map (mvI m))).1 = (flF l i (l.drop i) acc).1.map (mvI m)
  | 0, i, acc, hn, _, _ => by
    rw [List.drop_of_length_le (l := l.map (mvG m)) (by simp; omega), List.drop_of_length_le (l := l) (by omega), flF, flF]
  | n + 1, i, acc, hn, h1, h2 => by
    obtain ⟨g, hg⟩ : ∃ g, l[i]? = some g := ⟨_, List.getElem?_eq_getElem (by omega)⟩
    have hg' : (l.map (mvG m))[i]? = some (mvG m g) := by rw [List.getElem?_map, hg]; rfl
    rw [drop_at hg, flF] at h1
    rw [drop_at hg', flF] at h2
    rw [drop_at hg', flF, drop_at hg, flF]
    rw [mvG_mesh] at h2 ⊢
    by_cases h0 : g.mesh = 0
    · rw [if_pos h0] at h1 h2 ⊢
      rw [if_pos h0]
      exact flF_mv hA hm hl n (i + 1) acc (by omega) h1 h2
    · rw [if_neg h0] at h1 h2 ⊢
      rw [if_neg h0]
      by_cases hc : chk4 (gworld l i) = 0
      · have hw := gworld_mv hA hm hl (i := i) (by omega) hc
        rw [if_neg (by simpa using hc)] at h1
        by_cases hc' : chk4 (gworld (l.map (mvG m)) i) = 0
        · rw [if_neg (by simpa using hc')] at h2
          rw [if_neg (by simpa using hc'), if_neg (by simpa using hc)]
          have e : (⟨g.mesh, (mvG m g).mat, (mvG m g).tex, cntK ((l.map (mvG m)).take i) (keyG (mvG m g)), gworld (l.map (mvG m)) i⟩ : In) = mvI m ⟨g.mesh, g.mat, g.tex, cntK (l.take i) (keyG g), gworld l i⟩ := by
            rw [← List.map_take, cntK_mv, mvG_key, hw]
            unfold mvI mvG
            split <;> rfl
          rw [e] at h2 ⊢
          have := flF_mv hA hm hl n (i + 1) (acc ++ [⟨g.mesh, g.mat, g.tex, cntK (l.take i) (keyG g), gworld l i⟩]) (by omega) h1
          rw [List.map_append] at this
          exact this h2
        · rw [if_pos hc'] at h2
          exact (hc' h2).elim
      · rw [if_pos hc] at h1
        exact (hc h1).elim
theorem flat_mv {l : List Gr} {m : T3} (hm : Lo m) (hl : ∀ g ∈ l, Lo g.t.t) (h1 : (flat4 l).2 = 0) (h2 : (flat4 (l.map (mvG m))).2 = 0) : (flat4 (l.map (mvG m))).1 = (flat4 l).1.map (mvI m) := by
  unfold flat4 at h1 h2 ⊢
  split at h1
  · rename_i h; exact (h h1).elim
  · rename_i h
    have hc : gchk l = 0 := Classical.not_not.1 h
    split at h2
    · rename_i h'; exact (h' h2).elim
    · rename_i h'
      rw [if_neg h', if_neg h]
      exact flF_mv (gchk_ahead hc) hm hl l.length 0 [] (by omega) h1 h2
theorem flF_I {l : List Gr} (hi : ∀ g ∈ l, g.t.I) : ∀ {r : List Gr} {i : Nat} {acc : List In}, (∀ x ∈ acc, x.t.I) → ∀ x ∈ (flF l i r acc).1, x.t.I
  | [], i, acc, h => h
  | g :: r, i, acc, h => by
    rw [flF]
    split
    · exact flF_I hi h
    · split
      · intro x hx; simp at hx
      · refine flF_I hi fun x hx => ?_
        rcases List.mem_append.1 hx with hx | hx
        · exact h x hx
        · simp at hx; subst hx; exact gworld_in hi _
theorem flat_I {l : List Gr} (hi : ∀ g ∈ l, g.t.I) : ∀ x ∈ (flat4 l).1, x.t.I := by
  unfold flat4
  split
  · intro x hx; simp at hx
  · exact flF_I hi (fun x hx => by simp at hx)
theorem flF_len {l : List Gr} : ∀ {r : List Gr} {i : Nat} {acc : List In}, (flF l i r acc).1.length ≤ acc.length + r.length
  | [], i, acc => by simp [flF]
  | g :: r, i, acc => by
    rw [flF]
    split
    · have := flF_len (l := l) (r := r) (i := i + 1) (acc := acc); simp only [List.length_cons]; omega
    · split
      · simp
      · have := flF_len (l := l) (r := r) (i := i + 1) (acc := acc ++ [⟨g.mesh, g.mat, g.tex, cntK (l.take i) (keyG g), gworld l i⟩])
        simp only [List.length_append, List.length_cons, List.length_nil] at this ⊢; omega
theorem flat_len (l : List Gr) : (flat4 l).1.length ≤ l.length := by
  unfold flat4
  split
  · simp
  · have := flF_len (l := l) (r := l) (i := 0) (acc := []); simpa using this
end Go.UM

namespace Go.UM
open Go.AM
set_option maxRecDepth 4000
theorem vof_small {x y z : Int} (hx : -32768 ≤ x ∧ x ≤ 32767) (hy : -32768 ≤ y ∧ y ≤ 32767) (hz : -32768 ≤ z ∧ z ≤ 32767) : Lo (vof ⟨x, y, z⟩) := by
  have one : ∀ {v : Int}, (-32768 ≤ v ∧ v ≤ 32767) → -281474976710656 ≤ sat (v * 4294967296) ∧ sat (v * 4294967296) ≤ 281474976710656 := by
    intro v hv
    rw [sat_id (by rw [i64_iff]; omega)]; omega
  exact ⟨one hx, one hy, one hz⟩
theorem mvI_at {m : T3} {l : List In} {i : Nat} {x : In} (h : l[i]? = some x) : (l.map (mvI m))[i]? = some (mvI m x) := by rw [List.getElem?_map, h]; rfl
theorem moves41_c {R : Env} (h : N325 R) (l : List Gr) (hi : ∀ g ∈ l, g.t.I) (q : T3) (hq : (-32768 ≤ q.a ∧ q.a ≤ 32767) ∧ (-32768 ≤ q.b ∧ q.b ≤ 32767) ∧ (-32768 ≤ q.c ∧ q.c ≤ 32767)) :
    R.Pc 325 [.isl 16 (slG l), .agg [.int .i16 q.a, .int .i16 q.b, .int .i16 q.c]] (.bool true) :=
  h.o325.enter 300 rfl fun X bb hfit hp => by
    obtain ⟨x, y, z⟩ := q
    obtain ⟨hx, hy, hz⟩ := hq
    simp only at hx hy hz
    refine sh ?_
    refine ICall.pure h.n326.o326.hb (gfew_c h.n326 l) rfl ?_
    have hl : (l.take 30).length ≤ 30 := by simp; omega
    have hi : ∀ g ∈ l.take 30, g.t.I := fun g hg => hi g (List.mem_of_mem_take hg)
    generalize l.take 30 = l at *
    have c1 := gflatten_c h.n327 l (by omega) hi
    refine sh ?_
    refine ICall.pure h.n327.o327.hb c1 rfl ?_
    refine sh ?_
    refine cS (fun h1 => ?_) (fun h1 => ?_)
    · have e := flat_err (l := l) (by simpa using h1)
      rw [e]
      refine sh ?_
      refine acnd_t (by rfl) ?_
      refine sh ?_
      refine ICall.pure h.n328.o328.hb (works41_c h.n328) rfl ?_
      refine sh ?_
      exact rT
    · have cv := vofp_c h.n249 (p := ⟨x, y, z⟩) ⟨by show I64 x; rw [i64_iff]; omega, by show I64 y; rw [i64_iff]; omega, by show I64 z; rw [i64_iff]; omega⟩
      refine sh ?_
      refine ICall.pure h.n249.o249.hb cv rfl ?_
      have hm := vof_small hx hy hz
      have hmi := vof_in ⟨x, y, z⟩
      generalize vof ⟨x, y, z⟩ = m at *
      refine sh ?_
      refine lPa 200 (fun k : Nat => k ≤ l.length ∧ ∀ (j : Nat) (g : Gr), j < k → l[j]? = some g → Lo g.t.t) (fun k => ⟨[(5, .isl 16 (sIn (flat4 l).1)), (7, .loc 1 1 0 0), (8, .osl 2 k), (41, .isl 16 (slG l)), (42, .int .i64 l.length), (43, .int .i64 k)], [(2, .arr (R.ty 43) 16 (slG ((l.take k).map (mvG m)))), (1, .var (R.ty 31) (t3 m))], 3⟩) (fun k => l.length - k) (0) ?_ ?_
      · exact ⟨by omega, fun j g hj => by omega⟩
      · rintro k ⟨h2, h3⟩
        dsimp only at h2 h3 ⊢
        refine sh ?_
        refine cS (fun h4 => ?_) (fun h4 => ?_)
        · obtain ⟨g, hg⟩ : ∃ u_, l[k]? = some u_ := ⟨_, List.getElem?_eq_getElem (by first | omega | (simp <;> omega))⟩
          refine sh ?_
          refine eget_map hg ?_
          have hgi := hi g (List.mem_of_getElem? hg)
          refine sh ?_
          refine ICall.pure h.n256.o256.hb (vmost_c h.n256 hgi.t) rfl ?_
          refine sh ?_
          refine ICall.pure h.n248.o248.hb (fof_c h.n248 (n := 65536) ⟨by decide, by decide⟩) rfl ?_
          refine sh ?_
          refine cS (fun h5 => ?_) (fun h5 => ?_)
          · refine sh ?_
            refine ICall.pure h.n328.o328.hb (works41_c h.n328) rfl ?_
            refine sh ?_
            exact rT
          · rw [show sat (65536 * 4294967296) = 281474976710656 by decide] at h5
            have hlo : Lo g.t.t := mostT_le hgi.t h5 (by decide)
            have hV : ∀ (j : Nat) (g : Gr), j < k + 1 → l[j]? = some g → Lo g.t.t := fun j g' hj hg' => by
              by_cases e : j = k
              · subst e
                rw [hg] at hg'
                cases hg'
                exact hlo
              · exact h3 j g' (by omega) hg'
            refine sh ?_
            refine cS (fun h6 => ?_) (fun h6 => ?_)
            · have ca := vadd_c h.n246 [g.t.t, m] (by simp) (by intro v hv; simp at hv; rcases hv with rfl | rfl; exact hgi.t; exact hmi)
              rw [show [g.t.t, m].foldl vadd z3 = vadd g.t.t m by simp only [List.foldl_cons, List.foldl_nil, vadd0 hgi.t]] at ca
              refine sh ?_
              refine cM true [] (ca.mc h.n246.o246.hb) ?_
              repeat ((intro _u; clear _u); first | refine eK ?_ | refine eP ?_)
              refine sh ?_
              refine nX (k + 1) ?_ ?_ ⟨_, hp, rfl⟩ ?_ ?_
              · exact ⟨by omega, hV⟩
              · omega
              · all_goals repeat' (first | exact True.intro | refine And.intro ?_ ?_ | (intro _u; clear _u) | (with_reducible first | refine eM ?_ ?_ | refine eF ?_ ?_ ?_ | refine eN ?_ | refine eL ?_ ?_ ?_ | refine eA ?_ ?_ | refine IWk.mk ⟨_, hp, rfl⟩ ?_ ?_) | refine IWk.mk ⟨_, hp, rfl⟩ ?_ ?_)
                all_goals first | with_reducible rfl | omega | exact Or.inl (by decide) | (simp; done) | rfl | skip
                simp; omega
              · all_goals repeat' (first | exact True.intro | refine And.intro ?_ ?_ | (intro _u; clear _u) | (with_reducible first | refine eM ?_ ?_ | refine eF ?_ ?_ ?_ | refine eN ?_ | refine eL ?_ ?_ ?_ | refine eA ?_ ?_ | refine IWk.mk ⟨_, hp, rfl⟩ ?_ ?_) | refine IWk.mk ⟨_, hp, rfl⟩ ?_ ?_)
                all_goals first | with_reducible rfl | omega | exact Or.inl (by decide) | (simp; done) | rfl | skip
                rw [take_succ_get hg, List.map_append, slG_append]
                simp [slG, mvG, h6, mvA, Gr.row]
            · refine sh ?_
              refine nX (k + 1) ?_ ?_ ⟨_, hp, rfl⟩ ?_ ?_
              · exact ⟨by omega, hV⟩
              · omega
              · all_goals repeat' (first | exact True.intro | refine And.intro ?_ ?_ | (intro _u; clear _u) | (with_reducible first | refine eM ?_ ?_ | refine eF ?_ ?_ ?_ | refine eN ?_ | refine eL ?_ ?_ ?_ | refine eA ?_ ?_ | refine IWk.mk ⟨_, hp, rfl⟩ ?_ ?_) | refine IWk.mk ⟨_, hp, rfl⟩ ?_ ?_)
                all_goals first | with_reducible rfl | omega | exact Or.inl (by decide) | (simp; done) | rfl | skip
                simp; omega
              · all_goals repeat' (first | exact True.intro | refine And.intro ?_ ?_ | (intro _u; clear _u) | (with_reducible first | refine eM ?_ ?_ | refine eF ?_ ?_ ?_ | refine eN ?_ | refine eL ?_ ?_ ?_ | refine eA ?_ ?_ | refine IWk.mk ⟨_, hp, rfl⟩ ?_ ?_) | refine IWk.mk ⟨_, hp, rfl⟩ ?_ ?_)
                all_goals first | with_reducible rfl | omega | exact Or.inl (by decide) | (simp; done) | rfl | skip
                rw [take_succ_get hg, List.map_append, slG_append]
                simp [slG, mvG, h6, Gr.row]
        · have hk : k = l.length := by omega
          subst hk
          have hlo : ∀ g ∈ l, Lo g.t.t := fun g hg => by
            obtain ⟨j, hj, rfl⟩ := List.getElem_of_mem hg
            exact h3 j _ hj (List.getElem?_eq_getElem hj)
          rw [List.take_length]
          refine sh ?_
          refine ICall.let [2] rfl hp rfl ?_
          repeat ((intro _u; clear _u); first | refine eZ ?_ | refine eZ ?_ (by simp; omega) | refine FrzC.drop ?_)
          have c2 := gflatten_c h.n327 (l.map (mvG m)) (by simp; omega) (by intro g hg; obtain ⟨g0, hg0, rfl⟩ := List.mem_map.1 hg; exact mvG_I (hi g0 hg0))
          refine sh ?_
          refine ICall.pure h.n327.o327.hb c2 rfl ?_
          refine sh ?_
          refine cS (fun h7 => ?_) (fun h7 => ?_)
          · refine sh ?_
            refine ICall.pure h.n328.o328.hb (works41_c h.n328) rfl ?_
            refine sh ?_
            exact rT
          · have e := flat_mv hm hlo h1 h7
            rw [e]
            refine sh ?_
            refine acnd_f (by simp) ?_
            have hfl := flat_len l
            refine sh ?_
            refine lPa 100 (fun k : Nat => k ≤ (flat4 l).1.length) (fun k => ⟨[(5, .isl 16 (sIn (flat4 l).1)), (7, .loc 1 1 0 0), (11, .isl 16 (sIn ((flat4 l).1.map (mvI m)))), (84, .int .i64 (flat4 l).1.length), (85, .int .i64 k)], [(1, .var (R.ty 31) (t3 m))], 3⟩) (fun k => (flat4 l).1.length - k) (0) ?_ ?_
            · omega
            · intro k hk
              dsimp only
              refine sh ?_
              refine cS (fun h8 => ?_) (fun h8 => ?_)
              · obtain ⟨x, hx⟩ : ∃ x, (flat4 l).1[k]? = some x := ⟨_, List.getElem?_eq_getElem (by omega)⟩
                have hxi := flat_I hi x (List.mem_of_getElem? hx)
                refine sh ?_
                refine eget_map hx ?_
                have ca := vadd_c h.n246 [x.t.t, m] (by simp) (by intro v hv; simp at hv; rcases hv with rfl | rfl; exact hxi.t; exact hmi)
                rw [show [x.t.t, m].foldl vadd z3 = vadd x.t.t m by simp only [List.foldl_cons, List.foldl_nil, vadd0 hxi.t]] at ca
                refine sh ?_
                refine cM true [] (ca.mc h.n246.o246.hb) ?_
                repeat ((intro _u; clear _u); first | refine eK ?_ | refine eP ?_)
                refine sh ?_
                refine eget_map (mvI_at (m := m) hx) ?_
                refine sh ?_
                refine acnd_f (by simp [mvI, mvA]) ?_
                refine sh ?_
                refine nXa (k + 1) ?_ ?_
                · omega
                · omega
              · refine sh ?_
                refine ICall.pure h.n328.o328.hb (works41_c h.n328) rfl ?_
                refine sh ?_
                exact rT
end Go.UM
