/- Of the reckoning machine, and what is proved with it: texts joined by program. -/
import Derived.Test.YthnphjpjgcmdbaaK0
import Derived.Laws.StructEq
import Derived.ChangeKeysEq
import Derived.Laws.Cover3
import Derived.Laws.Pointers
import Derived.Laws.BytesString
import Derived.Laws.MakeOwn
import Derived.Lib.ConvBytes
set_option linter.all false

/- The abstract machine 'AM', part 17: functions: how a body's run becomes a contract, and how a contract serves at a call. -/

namespace Go.AM
open Go.RowKit
variable {P : Program} {T : TT} {X : Ctx}

def noPlace : Place := fun _ => none
def noLens : Lens := fun _ => none

/-- THE CONTRACT of a function that leaves alone what was there: called with what 'args' says it hands back what 'av' says. -/
def PCalls (P : Program) (f : Nat) (args : List AV) (av : AV) : Prop :=
  ∀ I w vs, (∀ g, I g → g < w.heap.size) → RepL noPlace noLens I w NoName args vs →
    Calls P f vs.toArray w fun e w1 => ∃ v I1, e = .returned v ∧ Below w.heap.size w w1 ∧ (∀ g, I g → I1 g) ∧ (∀ g, I1 g → g < w1.heap.size) ∧ (∀ g, g < w.heap.size → I1 g → I g) ∧ Rep noPlace noLens I1 w1 NoName av v

mutual
theorem under_of_names {N : Nat → Prop} : ∀ (a : AV), (∀ m ∈ a.names, N m) → a.under N
  | .loc n len i off, h => by simpa [AV.under] using h n (by simp [AV.names])
  | .osl n len, h => by simpa [AV.under] using h n (by simp [AV.names])
  | .vsl n len i off cnt, h => by simpa [AV.under] using h n (by simp [AV.names])
  | .clo f cs, h => by simpa [AV.under] using underL_of_names cs (fun m hm => h m (by simpa [AV.names] using hm))
  | .agg cs, h => by simpa [AV.under] using underL_of_names cs (fun m hm => h m (by simpa [AV.names] using hm))
  | .tup cs, h => by simpa [AV.under] using underL_of_names cs (fun m hm => h m (by simpa [AV.names] using hm))
  | .int .., _ => by simp [AV.under]
  | .bool .., _ => by simp [AV.under]
  | .str .., _ => by simp [AV.under]
  | .nilp, _ => by simp [AV.under]
  | .nils, _ => by simp [AV.under]
  | .nilf, _ => by simp [AV.under]
  | .nili, _ => by simp [AV.under]
  | .isl .., _ => by simp [AV.under]
  | .iptr .., _ => by simp [AV.under]
  | .bad, _ => by simp [AV.under]
theorem underL_of_names {N : Nat → Prop} : ∀ (cs : List AV), (∀ m ∈ AV.namesL cs, N m) → AV.underL N cs
  | [], _ => by simp [AV.underL]
  | c :: cs, h => by
    simp only [AV.underL]
    exact ⟨under_of_names c (fun m hm => h m (by simp [AV.namesL, hm])), underL_of_names cs (fun m hm => h m (by simp [AV.namesL, hm]))⟩
end

/-- A value without names stands by itself. -/
theorem Rep.alone {ρ : Place} {L : Lens} {I : Nat → Prop} {w : World} {N : Nat → Prop} {a : AV} {v : Value} (h : Rep ρ L I w N a v) (hn : a.names = []) (ρ' : Place) (L' : Lens) : Rep ρ' L' I w NoName a v :=
  (h.low (N' := NoName) (under_of_names a (fun m hm => by rw [hn] at hm; simp at hm))).bare (fun _ h => h) ρ' L'

theorem names_getD {cs : List AV} (h : AV.namesL cs = []) (j : Nat) : (cs.getD j .bad).names = [] := by
  induction cs generalizing j with
  | nil => simp [AV.names]
  | cons c cs ih =>
    simp only [AV.namesL, List.append_eq_nil_iff] at h
    cases j with
    | zero => simpa using h.1
    | succ j => simpa using ih h.2 j

theorem RepL.alone {ρ : Place} {L : Lens} {I : Nat → Prop} {w : World} {N : Nat → Prop} {as : List AV} {vs : List Value} (h : RepL ρ L I w N as vs) (hn : AV.namesL as = []) (ρ' : Place) (L' : Lens) : RepL ρ' L' I w NoName as vs :=
  ⟨h.1, fun j hj => (h.2 j hj).alone (names_getD hn j) ρ' L'⟩

theorem PCalls.callL {f : Nat} {args : List AV} {av : AV} (h : PCalls P f args av) (hn : AV.namesL args = []) (M : MemF) : CallL P X f args M av [] [] := by
  refine ⟨fun p hp => by simp at hp, fun M' N ρ I w vs hW _ _ hR => ?_⟩
  refine (h I w vs hW.lt (hR.alone hn _ _)).mono ?_
  rintro e w1 ⟨v, I1, rfl, hb, h1, h2, h3, hr⟩
  obtain ⟨E, W⟩ := hW.ext (w' := w1) (I' := I1) hb.os hb.tape hb.output hb.size hb.block h1 h2 h3
  refine ⟨v, rfl, ρ, I1, E, by rw [naddL_nil]; exact W, ?_⟩
  exact ((hr.bare (fun _ h => h) ρ (lens M')).wide (fun _ h => h.elim))

/-- What the machine asks of a callee besides: it has a body. -/
def HasBody (P : Program) (f : Nat) : Prop := ∃ fn, P.funcs[f]? = some fn ∧ (fn.name == "runtime.NumGoroutine") = false ∧ fn.body.isNone = false

/-! ### Results -/
def aresL (T : TT) : List ResultVar → Frm → Mem → (List AV → Prop) → Prop
  | [], _, _, K => K []
  | .tmp t :: r, F, M, K => aresL T r F M fun vs => K (look F t :: vs)
  | .cell a t :: r, F, M, K => chk (T.d t).ok (aload T t (look F a) M fun v => aresL T r F M fun vs => K (v :: vs))

def one (vs : List AV) : AV := match vs with
  | [v] => v
  | vs => .tup vs

/-- A value as it stands when the local blocks are let go: nobody writes to them any more. -/
def frz (M : Mem) : AV → AV
  | .osl n len => match mget M n with
    | some b => bif b.es.length == len then .isl b.sz b.es else .bad
    | none => .bad
  | v => v
def frzL (M : Mem) : List AV → List AV
  | [] => []
  | c :: cs => frz M c :: frzL M cs
def frzV (M : Mem) : AV → AV
  | .agg cs => .agg (frzL M cs)
  | v => frz M v
def frzT (M : Mem) : AV → AV
  | .tup vs => .tup (vs.map (frzV M))
  | v => frzV M v
/-- The elements of what is let go have no names of local blocks in them. -/
def frzC (M : Mem) : AV → Prop
  | .osl n _ => match mget M n with
    | some b => ∀ e ∈ b.es, AV.namesL e = []
    | none => True
  | _ => True
def frzCL (M : Mem) : List AV → Prop
  | [] => True
  | c :: cs => frzC M c ∧ frzCL M cs
def frzCV (M : Mem) : AV → Prop
  | .agg cs => frzCL M cs
  | v => frzC M v
def frzCVL (M : Mem) : List AV → Prop
  | [] => True
  | c :: cs => frzCV M c ∧ frzCVL M cs
def frzCT (M : Mem) : AV → Prop
  | .tup vs => frzCVL M vs
  | v => frzCV M v

/-- What is asked where a function returns. -/
def RetP (T : TT) (rs : List ResultVar) (av : AV) (S : St) : Prop :=
  aresL T rs S.F S.M fun vs => frzT S.M (one vs) = av ∧ AV.names av = [] ∧ frzCT S.M (one vs)

section
variable {I : Nat → Prop} {w : World} {ρ : Place} {M : Mem} {N : Nat → Prop}

theorem frz_sound (hW : Wok X ρ I (mget M) N w) {a : AV} {v : Value} (h : Rep ρ (lens (mget M)) I w N a v) (hc : frzC M a) :
    Rep ρ (lens (mget M)) (fun g => I g ∨ ∃ n cap b, mget M n = some b ∧ ρ n = some (g, cap)) w N (frz M a) v := by
  have base : ∀ a v, Rep ρ (lens (mget M)) I w N a v → Rep ρ (lens (mget M)) (fun g => I g ∨ ∃ n cap b, mget M n = some b ∧ ρ n = some (g, cap)) w N a v := by
    intro a v h
    exact h.evo (NX := N) ⟨fun _ _ _ _ _ _ => rfl, fun _ len _ _ h => ⟨len, h, Nat.le_refl _⟩, fun b hb => .inl hb, fun _ _ => rfl⟩ (fun _ h => h)
  cases a with
  | osl n len =>
    simp only [frz]
    simp only [frzC] at hc
    cases hb : mget M n with
    | none => exact .bad _
    | some b =>
      rw [hb] at hc
      simp only
      by_cases hl : b.es.length = len
      · subst hl
        simp only [beq_self_eq_true, cond_true]
        have hal : lens (mget M) n = some (b.es.length, b.sz) := by rw [lens_some]; exact ⟨b, hb, rfl, rfl⟩
        have B := hW.blk n b hb
        obtain ⟨hn, ⟨h0, q, hv⟩ | ⟨g, cap, hρ, hv⟩⟩ := rep_osl h hal
        · have he := B.virt h0
          rw [hv, he]
          exact .islNil _ _ _ (by simp [maxLen])
        · obtain ⟨cs, fr, hg, hfr, hnI, hown, hlc, hcm, hcs, hcc⟩ := B.real g cap hρ
          rw [hv]
          refine .isl b.sz b.es g 0 cap (fun i j => (cs[i * b.sz + j]?).getD undef) hlc hcm (.inr ⟨n, cap, b, hb, hρ⟩) B.even (fun i j hi hj => ?_) (fun i j hi hj => ?_) (fun i j hi hj => ?_)
          · obtain ⟨u, hu, h1, _⟩ := hcc i j hi hj
            rw [hu]; exact h1
          · obtain ⟨u, hu, h1, _⟩ := hcc i j hi hj
            simp only [World.cell?, hg, Nat.zero_add, hu]; rfl
          · obtain ⟨u, hu, h1, hr⟩ := hcc i j hi hj
            rw [hu]
            have hel : b.es.getD i [] = b.es[i] := by simp [List.getD_eq_getElem?_getD, hi]
            exact (base _ _ hr).alone (names_getD (by rw [hel]; exact hc _ (List.getElem_mem _)) j) _ _
      · have hbq : (b.es.length == len) = false := by simpa using hl
        rw [hbq]
        exact .bad _
  | _ => exact base _ _ h

theorem frzL_sound (hW : Wok X ρ I (mget M) N w) : ∀ {cs : List AV} {vs : List Value}, vs.length = cs.length → (∀ j, j < cs.length → Rep ρ (lens (mget M)) I w N (cs.getD j .bad) (vs.getD j default)) → frzCL M cs →
    (frzL M cs).length = cs.length ∧ ∀ j, j < cs.length → Rep ρ (lens (mget M)) (fun g => I g ∨ ∃ n cap b, mget M n = some b ∧ ρ n = some (g, cap)) w N ((frzL M cs).getD j .bad) (vs.getD j default)
  | [], vs, _, _, _ => ⟨rfl, fun j hj => by simp at hj⟩
  | c :: cs, [], h, _, _ => by simp at h
  | c :: cs, v :: vs, h, hr, hc => by
    obtain ⟨h1, h2⟩ := frzL_sound hW (cs := cs) (vs := vs) (by simpa using h) (fun j hj => by simpa using hr (j + 1) (by simpa using hj)) hc.2
    refine ⟨by simp [frzL, h1], fun j hj => ?_⟩
    cases j with
    | zero => simpa [frzL] using frz_sound hW (by simpa using hr 0 (by simp)) hc.1
    | succ j => simpa [frzL] using h2 j (by simpa using hj)

theorem frzV_sound (hW : Wok X ρ I (mget M) N w) {a : AV} {v : Value} (h : Rep ρ (lens (mget M)) I w N a v) (hc : frzCV M a) :
    Rep ρ (lens (mget M)) (fun g => I g ∨ ∃ n cap b, mget M n = some b ∧ ρ n = some (g, cap)) w N (frzV M a) v := by
  cases a with
  | agg cs =>
    cases h with
    | agg _ vs hl h1 hr =>
      obtain ⟨h2, h3⟩ := frzL_sound hW hl hr hc
      exact .agg _ vs (by rw [h2]; exact hl) h1 (fun j hj => h3 j (by omega))
  | _ => exact frz_sound hW h hc

theorem frzT_sound (hW : Wok X ρ I (mget M) N w) {a : AV} {v : Value} (h : Rep ρ (lens (mget M)) I w N a v) (hc : frzCT M a) :
    Rep ρ (lens (mget M)) (fun g => I g ∨ ∃ n cap b, mget M n = some b ∧ ρ n = some (g, cap)) w N (frzT M a) v := by
  cases a with
  | tup cs =>
    cases h with
    | tup _ vs hl hr =>
      refine .tup _ vs (by simpa using hl) (fun j hj => ?_)
      have hj' : j < cs.length := by simpa using hj
      have e : (cs.map (frzV M)).getD j .bad = frzV M (cs.getD j .bad) := by simp [List.getD_eq_getElem?_getD, hj']
      rw [e]
      refine frzV_sound hW (hr j hj') ?_
      simp only [frzCT] at hc
      clear hr hl hj e
      induction cs generalizing j with
      | nil => simp at hj'
      | cons c cs ih =>
        cases j with
        | zero => simpa using hc.1
        | succ j => simpa using ih hc.2 j (by simpa using hj')
  | _ => exact frzV_sound hW h hc

/-- What one result is read from. -/
def resStep (tmps : Array Value) : ResultVar → Sem Value
  | .tmp t => pure (tmps.getD t undef)
  | .cell a t => do loadVar t (← asAddr (tmps.getD a undef))

theorem aresL_sound (hT : TTok P T) (hW : Wok X ρ I (mget M) N w) {F : Frm} {tmps : Array Value} (hF : ∀ i, Rep ρ (lens (mget M)) I w N (look F i) (tmps.getD i undef)) : ∀ {rs : List ResultVar} {K : List AV → Prop}, aresL T rs F M K →
    ∃ avs vs, K avs ∧ RepL ρ (lens (mget M)) I w N avs vs ∧ (rs.mapM (resStep tmps)).run P w = .ok vs w ∧ vs.length = rs.length
  | [], K, h => ⟨[], [], h, ⟨rfl, fun j hj => by simp at hj⟩, rfl, rfl⟩
  | .tmp t :: r, K, h => by
    obtain ⟨avs, vs, h1, h2, h3, h4⟩ := aresL_sound hT hW hF (rs := r) h
    refine ⟨_, tmps.getD t undef :: vs, h1, ⟨by simp [h2.1], fun j hj => ?_⟩, ?_, by simp [h4]⟩
    · cases j with
      | zero => simpa using hF t
      | succ j => simpa using h2.2 j (by simpa using hj)
    · simp only [List.mapM_cons, Sem.run_bind, Sem.run_pure, Result.andThen_ok, resStep, h3]
  | .cell a t :: r, K, h => by
    simp only [aresL] at h
    obtain ⟨hok, h⟩ := chk_elim h
    have hload : ∃ av, (∃ v ad, tmps.getD a undef = .pointer (some ad) ∧ (loadVar t ad).run P w = .ok v w ∧ Rep ρ (lens (mget M)) I w N av v) ∧ aresL T r F M fun vs => K (av :: vs) := by
      cases hl : look F a with
      | loc n len i off =>
        rw [hl] at h
        simp only [aload, alive] at h
        cases hb : mget M n with
        | none => rw [hb] at h; exact h.elim
        | some b =>
          rw [hb] at h
          obtain ⟨hc1, h2⟩ := chk_elim h
          obtain ⟨av, ha1, ha2, ha3, hk⟩ := apart_elim h2
          have hlen : b.es.length = len := by simpa using hc1
          have hal : lens (mget M) n = some (len, b.sz) := by rw [lens_some]; exact ⟨b, hb, hlen, rfl⟩
          have hr := hF a
          rw [hl] at hr
          obtain ⟨hn, g, cap, hρ, hv⟩ := rep_loc hr hal
          obtain ⟨f, hf⟩ := (hW.blk n b hb).row hρ i
          obtain ⟨v, hv1, hv2⟩ := run_loadVar_part (K := fun _ => True) hT hok (off := off) f hf ha1 ha2 ha3
          exact ⟨av, ⟨v, _, hv, hv1, hv2⟩, hk⟩
      | iptr e off =>
        rw [hl] at h
        simp only [aload] at h
        obtain ⟨av, ha1, ha2, ha3, hk⟩ := apart_elim h
        have hr := hF a
        rw [hl] at hr
        generalize hvv : tmps.getD a undef = vv at hr
        cases hr with
        | iptr _ _ b q c hI h1 hcell hr =>
          obtain ⟨v, hv1, hv2⟩ := run_loadVar_part (K := fun _ => True) (N := N) hT hok (off := off) c (fun j hj => ⟨hcell j hj, h1 j hj, (hr j hj).wide (fun _ h => h.elim)⟩) ha1 ha2 ha3
          exact ⟨av, ⟨v, _, rfl, hv1, hv2⟩, hk⟩
      | _ => rw [hl] at h; exact h.elim
    obtain ⟨av, ⟨v, ad, hv, hrun, hrep⟩, hk⟩ := hload
    obtain ⟨avs, vs, h1, h2, h3, h4⟩ := aresL_sound hT hW hF (rs := r) hk
    refine ⟨_, v :: vs, h1, ⟨by simp [h2.1], fun j hj => ?_⟩, ?_, by simp [h4]⟩
    · cases j with
      | zero => simpa using hrep
      | succ j => simpa using h2.2 j (by simpa using hj)
    · simp only [List.mapM_cons, Sem.run_bind, Sem.run_pure, Result.andThen_ok, resStep, hv, asAddr, hrun, h3]

theorem one_rep {I : Nat → Prop} {w : World} {ρ : Place} {L : Lens} {N : Nat → Prop} {avs : List AV} {vs : List Value} (h : RepL ρ L I w N avs vs) :
    Rep ρ L I w N (one avs) (if h : vs.toArray.size = 1 then vs.toArray[0] else .tuple vs.toArray) := by
  obtain ⟨hl, hr⟩ := h
  cases avs with
  | nil =>
    cases vs with
    | nil => exact .tup [] [] rfl (fun j hj => by simp at hj)
    | cons _ _ => simp at hl
  | cons a r =>
    cases vs with
    | nil => simp at hl
    | cons v q =>
      cases r with
      | nil =>
        cases q with
        | nil => exact hr 0 (by simp)
        | cons _ _ => simp at hl
      | cons b r =>
        cases q with
        | nil => simp at hl
        | cons u q =>
          have : ¬ (v :: u :: q).toArray.size = 1 := by simp
          rw [dif_neg this]
          exact .tup _ _ hl hr

/-- The results of a function, at its end. -/
theorem results_sound (hT : TTok P T) (hW : Wok X ρ I (mget M) N w) {F : Frm} {tmps : Array Value} (hF : ∀ i, Rep ρ (lens (mget M)) I w N (look F i) (tmps.getD i undef)) {fn : Func} {K : List AV → Prop} (h : aresL T fn.results.toList F M K) :
    ∃ avs v, K avs ∧ (results fn tmps).run P w = .ok v w ∧ Rep ρ (lens (mget M)) I w N (one avs) v := by
  obtain ⟨avs, vs, h1, h2, h3, h4⟩ := aresL_sound hT hW hF h
  have hrun : (results fn tmps).run P w = .ok (if h : vs.toArray.size = 1 then vs.toArray[0] else .tuple vs.toArray) w := by
    unfold results
    have e : ∀ g : ResultVar → Sem Value, (∀ r, g r = resStep tmps r) → (List.mapM g fn.results.toList).run P w = .ok vs w := fun g hg => by rw [funext hg]; exact h3
    simp only [Sem.run_bind, Array.mapM_eq_mapM_toList, Sem.run_map]
    rw [e _ (fun r => by cases r <;> rfl)]
    simp only [Result.andThen_ok, Sem.run_pure]
  refine ⟨avs, _, h1, hrun, ?_⟩
  exact one_rep h2
end

def argF (i : Nat) : List AV → Frm
  | [] => []
  | a :: r => (i, a) :: argF (i + 1) r

theorem look_argF : ∀ (as : List AV) (i j : Nat), look (argF i as) j = if i ≤ j ∧ j < i + as.length then as.getD (j - i) .bad else .bad
  | [], i, j => by simp only [argF, look, List.length_nil]; rw [if_neg (by omega)]
  | a :: r, i, j => by
    by_cases h : j = i
    · subst h; simp [argF, look]
    · have hb : (j == i) = false := by simpa using h
      simp only [argF, look, hb, cond_false, look_argF r (i + 1) j, List.length_cons]
      by_cases h2 : i + 1 ≤ j ∧ j < i + 1 + r.length
      · rw [if_pos h2, if_pos (by omega)]
        have : j - i = (j - (i + 1)) + 1 := by omega
        rw [this]; simp
      · rw [if_neg h2, if_neg (by omega)]

/-- The context of a function that leaves alone what was there. -/
def pctx (w : World) (I : Nat → Prop) (size : Nat) : Ctx := ⟨w, 0, I, size, noPlace, noLens⟩

mutual
/-- No slice in it is longer than a slice can be. -/
def AV.fit : AV → Prop
  | .isl _ es => es.length ≤ maxLen ∧ AV.fitE es
  | .agg cs => AV.fitL cs
  | .tup cs => AV.fitL cs
  | .clo _ cs => AV.fitL cs
  | .iptr e _ => AV.fitL e
  | _ => True
def AV.fitL : List AV → Prop
  | [] => True
  | c :: r => AV.fit c ∧ AV.fitL r
def AV.fitE : List (List AV) → Prop
  | [] => True
  | e :: r => AV.fitL e ∧ AV.fitE r
end

theorem fitL_of : ∀ (cs : List AV), (∀ j, j < cs.length → (cs.getD j .bad).fit) → AV.fitL cs
  | [], _ => by simp [AV.fitL]
  | c :: r, h => by
    simp only [AV.fitL]
    exact ⟨by simpa using h 0 (by simp), fitL_of r (fun j hj => by simpa using h (j + 1) (by simpa using hj))⟩
theorem fitE_iff : ∀ (es : List (List AV)), AV.fitE es ↔ ∀ e ∈ es, AV.fitL e
  | [] => by simp [AV.fitE]
  | e :: r => by simp [AV.fitE, fitE_iff r]

theorem Rep.fit {ρ : Place} {L : Lens} {I : Nat → Prop} {w : World} {N : Nat → Prop} {a : AV} {v : Value} (h : Rep ρ L I w N a v) : a.fit := by
  induction h with
  | islNil => simp [AV.fit, AV.fitE]
  | isl sz es b o cap c hl hc hI hs h1 hcell hr ih =>
    simp only [AV.fit]
    refine ⟨by omega, (fitE_iff es).2 fun e he => ?_⟩
    obtain ⟨i, hi, rfl⟩ := List.getElem_of_mem he
    have hel : es.getD i [] = es[i] := by simp [List.getD_eq_getElem?_getD, hi]
    refine fitL_of _ fun j hj => ?_
    have := ih i j hi (by rw [← hs _ (List.getElem_mem hi)]; exact hj)
    rwa [hel] at this
  | iptr e off b o c hI h1 hcell hr ih => simp only [AV.fit]; exact fitL_of _ ih
  | clo f caps vs hl hr ih => simp only [AV.fit]; exact fitL_of _ ih
  | agg cs vs hl h1 hr ih => simp only [AV.fit]; exact fitL_of _ ih
  | tup cs vs hl hr ih => simp only [AV.fit]; exact fitL_of _ ih
  | _ => simp [AV.fit]

theorem RepL.fit {ρ : Place} {L : Lens} {I : Nat → Prop} {w : World} {N : Nat → Prop} {as : List AV} {vs : List Value} (h : RepL ρ L I w N as vs) : AV.fitL as :=
  fitL_of _ fun j hj => (h.2 j hj).fit

/-- A BODY's RUN IS A CONTRACT. -/
theorem enter (hT : PT P T) {f : Nat} {fn : Func} {c : Code} {args : List AV} {av : AV} (hf : P.funcs[f]? = some fn) (hb : fn.body = some c) (hsz : args.length ≤ fn.ntmps)
    (h : ∀ X b a w, AV.fitL args → X.p = 0 → X.size = fn.ntmps → Sat X ⟨argF 0 args, [], 0⟩ a w → Outc P X b (RetP T fn.results.toList av) [.code c] a w) : PCalls P f args av := by
  intro I w vs hI hR cs
  let X := pctx w I fn.ntmps
  let b : Frame := { (default : Frame) with fn := f, kind := .normal }
  let a : Act := { tmps := vs.toArray ++ Array.replicate (fn.ntmps - vs.toArray.size) undef, defers := [] }
  have henter : Frame.enter P f vs.toArray .normal = b.at a [.code c] := by simp [Frame.enter, Frame.at, hf, hb, b, a]
  have hW : Wok X noPlace I (mget []) (· < 0) w := ⟨fun n b h => by simp [mget] at h, fun n m b b' g c c' h => by simp [mget] at h, fun _ h => h, hI, fun _ _ h => h,
    ⟨rfl, rfl, rfl, Nat.le_refl _, fun _ _ _ => rfl⟩, fun n h => absurd h (Nat.not_lt_zero n), fun g ⟨n, _, h, _⟩ => absurd h (Nat.not_lt_zero n), fun n _ _ h => absurd h (Nat.not_lt_zero n)⟩
  have hS : Sat X ⟨argF 0 args, [], 0⟩ a w := by
    refine ⟨noPlace, I, hW, fun i => ?_, rfl, ?_⟩
    · show Rep _ _ _ _ _ (look (argF 0 args) i) _
      rw [look_argF]
      by_cases hi : 0 ≤ i ∧ i < 0 + args.length
      · rw [if_pos hi]
        have hlt : i < vs.length := by rw [hR.1]; omega
        have e : a.tmps.getD i undef = vs.getD i default := by
          simp only [a]
          rw [Array.getD_eq_getD_getElem?, Array.getElem?_append_left (by simpa using hlt)]
          simp [List.getD_eq_getElem?_getD, hlt]
        rw [e]
        exact ((hR.2 i (by omega)).bare (fun _ h => h) _ _).wide (fun _ h => h.elim)
      · rw [if_neg hi]; exact .bad _
    · show a.tmps.size = fn.ntmps
      have := hR.1
      simp [a]; omega
  obtain ⟨a', w', S', ⟨ρ', I', W', F'⟩, h1 | h1⟩ := h X b a w hR.fit rfl rfl hS cs
  · obtain ⟨todo, hst, hret⟩ := h1
    obtain ⟨avs, v, ⟨hav, hnm, hfc⟩, hrun, hrep⟩ := results_sound hT.tt W' F'.rep hret
    have hfz := frzT_sound W' hrep hfc
    rw [hav] at hfz
    refine ⟨.returned v, w', { b.at a' todo with mode := .returning }, ⟨v, fun g => I' g ∨ ∃ n cap b, mget S'.M n = some b ∧ ρ' n = some (g, cap), rfl, ?_, ?_, ?_, ?_, ?_⟩, ?_, rfl, ?_⟩
    · exact ⟨W'.keeps.os, W'.keeps.tape, W'.keeps.output, W'.keeps.size, fun k hk => W'.keeps.block k hk (fun ⟨n, _, h, _⟩ => absurd h (Nat.not_lt_zero n))⟩
    · exact fun g hg => .inl (W'.imm g hg)
    · rintro g (hg | ⟨n, cap, b, hb, hρ⟩)
      · exact W'.lt g hg
      · obtain ⟨cs, fr, hc, _⟩ := (W'.blk n b hb).real g cap hρ
        exact (Array.getElem?_eq_some_iff.1 hc).1
    · rintro g hg (h | ⟨n, cap, b, hb, hρ⟩)
      · exact W'.old g hg h
      · obtain ⟨cs, fr, hc, _, _, hown, _⟩ := (W'.blk n b hb).real g cap hρ
        rcases hown with ⟨h, _⟩ | h
        · exact absurd h (Nat.not_lt_zero _)
        · exact absurd hg (Nat.not_lt.2 h)
    · exact hfz.alone hnm _ _
    · rw [henter]; show Steps P _ _; simpa [It.item] using hst
    · exact ⟨rfl, F'.defers, rfl, fn, hf, hrun⟩
  · obtain ⟨c', post, k', hsuf, _⟩ := h1
    rcases List.suffix_cons_iff.1 hsuf with h | h
    · simp at h
    · simp at h

end Go.AM

/- The abstract machine 'AM', part 18: the table of a program's types. -/

namespace Go.AM
open Go.RowKit

def tdOf : TypeDesc → TD
  | .bool => .bool
  | .int k => .int k
  | .string => .str
  | .pointer e => .ptr e
  | .slice e => .slice e
  | .array n e => .arr n e
  | .map k e => .map k e
  | .struct fs => .struct (fs.toList.map fun f => (f.offset, f.type))
  | .func .. => .func
  | .interface _ => .iface
  | .tuple _ => .tup
  | _ => .other

def ttD (P : Program) (t : Nat) : TD := match P.underlying t, P.info? t with
  | some D, some i => bif Nat.ble i.bytes 131072 && i.zero.isSome then tdOf D else .other
  | _, _ => .other
def ttS (P : Program) (t : Nat) : Nat := match P.info? t with
  | some i => i.size
  | none => 0
def ttZ (P : Program) (t : Nat) : AV := match P.info? t with
  | some i => (match i.zero with
    | some z => ofV z
    | none => .bad)
  | none => .bad

/-- The table of the program's types. -/
def ttOf (P : Program) : TT := ⟨ttD P, ttS P, ttZ P⟩

theorem tdOf_fits : ∀ D : TypeDesc, tdOf D ≠ .other → (tdOf D).fits D := by
  intro D h
  cases D <;> simp_all [tdOf, TD.fits]

theorem ttOf_ok (P : Program) : TTok P (ttOf P) := by
  intro t ht
  simp only [ttOf, ttD] at ht
  cases hD : P.underlying t with
  | none => rw [hD] at ht; exact (ht rfl).elim
  | some D =>
    cases hi : P.info? t with
    | none => rw [hD, hi] at ht; exact (ht rfl).elim
    | some i =>
      rw [hD, hi] at ht
      simp only at ht
      cases hc : Nat.ble i.bytes 131072 && i.zero.isSome with
      | false => rw [hc] at ht; exact (ht rfl).elim
      | true =>
        rw [hc] at ht
        simp only [Bool.and_eq_true, Option.isSome_iff_exists] at hc
        obtain ⟨hb, z, hz⟩ := hc
        refine ⟨D, i, z, rfl, ?_, rfl, ?_, Nat.le_of_ble_eq_true hb, hz, ?_⟩
        · simp only [ttOf, ttD, hD, hi, hz, hb, Option.isSome_some, Bool.and_self, cond_true]
          exact tdOf_fits D ht
        · simp only [ttOf, ttS, hi]
        · simp only [ttOf, ttZ, hi, hz]

def ttL (ds : List TD) (ss : List Nat) (zs : List AV) : TT := ⟨fun t => ds.getD t .other, fun t => ss.getD t 0, fun t => zs.getD t .bad⟩

theorem ttL_ok {P : Program} {ds : List TD} {ss : List Nat} {zs : List AV} (n : Nat) (h1 : (List.range n).map (ttD P) = ds) (h2 : (List.range n).map (ttS P) = ss) (h3 : (List.range n).map (ttZ P) = zs) : TTok P (ttL ds ss zs) := by
  subst h1; subst h2; subst h3
  intro t ht
  have hlt : t < n := by
    refine Classical.byContradiction fun h => ht ?_
    simp [ttL, List.getD_eq_getElem?_getD, h]
  have := ttOf_ok P t (by simpa [ttL, ttOf, List.getD_eq_getElem?_getD, hlt] using ht)
  simpa [ttL, ttOf, List.getD_eq_getElem?_getD, hlt] using this

theorem ptOf {P : Program} (h : P.follows .mixedOrders = true) : PT P (ttOf P) := ⟨ttOf_ok P, h⟩

end Go.AM

/- The abstract machine 'AM': values held against each other, cell by cell. -/



namespace Go.AM
open Go.RowKit

/-- The kinds of cells that are held against each other. -/
inductive LK where
  | i | b | s

def repLK (n : Nat) (l : List LK) : List LK := (List.replicate n l).flatten

def lksF (P : Program) (f : Nat → Option (List LK)) : List Field → Nat → Option (List LK)
  | [], _ => some []
  | x :: r, off => if x.name != "_" && x.offset == off then (match f x.type, P.info? x.type with
    | some l, some i => if i.size == l.length then (lksF P f r (off + l.length)).map (l ++ ·) else none
    | _, _ => none) else none

/-- The cells of a type that can be held against each other. -/
def lks (P : Program) : Nat → Nat → Option (List LK)
  | 0, _ => none
  | d + 1, t => match P.underlying t with
    | some .bool => some [.b]
    | some (.int _) => some [.i]
    | some .string => some [.s]
    | some (.struct fs) => if P.stoodInHeld t then none else lksF P (lks P d) fs.toList 0
    | some (.array n e) => (match lks P d e, P.info? e with
      | some l, some i => if i.size == l.length then some (repLK n l) else none
      | _, _ => none)
    | _ => none

def isAggT (P : Program) (t : Nat) : Bool := match P.underlying t with
  | some (.struct _) => true
  | some (.array _ _) => true
  | _ => false

/-- Two cells of a kind, and whether they are the same. -/
inductive LkV : LK → Value → Value → Bool → Prop
  | i (k : IntKind) (x y : Int) : LkV .i (.int k x) (.int k y) (x == y)
  | b (x y : Bool) : LkV .b (.bool x) (.bool y) (x == y)
  | s (x y : List UInt8) : LkV .s (.string ⟨x.toArray⟩) (.string ⟨y.toArray⟩) (x == y)

inductive All4 : List LK → List Value → List Value → List Bool → Prop
  | nil : All4 [] [] [] []
  | cons {l ls v vs u us r rs} (h : LkV l v u r) (t : All4 ls vs us rs) : All4 (l :: ls) (v :: vs) (u :: us) (r :: rs)

theorem All4.split : ∀ {l1 l2 : List LK} {vs us : List Value} {rs : List Bool}, All4 (l1 ++ l2) vs us rs →
    ∃ v1 v2 u1 u2 r1 r2, vs = v1 ++ v2 ∧ us = u1 ++ u2 ∧ rs = r1 ++ r2 ∧ All4 l1 v1 u1 r1 ∧ All4 l2 v2 u2 r2 ∧ v1.length = l1.length ∧ u1.length = l1.length
  | [], l2, vs, us, rs, h => ⟨[], vs, [], us, [], rs, rfl, rfl, rfl, .nil, h, rfl, rfl⟩
  | a :: l1, l2, _, _, _, .cons (v := v) (u := u) (r := r) h t => by
    obtain ⟨v1, v2, u1, u2, r1, r2, rfl, rfl, rfl, h1, h2, h3, h4⟩ := t.split (l1 := l1)
    exact ⟨v :: v1, v2, u :: u1, u2, r :: r1, r2, rfl, rfl, rfl, .cons h h1, h2, by simp [h3], by simp [h4]⟩

def valOf (ag : Bool) (vs : List Value) : Value := if ag then .agg vs.toArray else vs.headD default

theorem run_isAgg_of {P : Program} {w : World} {t : Nat} {D : TypeDesc} (h : P.underlying t = some D) : (isAgg t).run P w = .ok (isAggT P t) w := by
  unfold isAgg isAggT
  simp only [Sem.run_bind, run_underlying h, Result.andThen_ok, h]
  cases D <;> rfl

theorem run_part_at {P : Program} {w : World} {t : Nat} {D : TypeDesc} {i : TypeInfo} (h : P.underlying t = some D) (hi : P.info? t = some i) {pre mid post : List Value} (hm : mid.length = i.size) (h1 : isAggT P t = false → mid.length = 1) :
    (part t (pre ++ (mid ++ post)).toArray pre.length).run P w = .ok (valOf (isAggT P t) mid) w := by
  unfold part
  simp only [Sem.run_bind, run_isAgg_of h, Result.andThen_ok]
  cases hag : isAggT P t with
  | true =>
    simp only [if_pos, Sem.run_bind, run_sizeOf' hi, Result.andThen_ok, Sem.run_pure, valOf]
    have : (pre ++ (mid ++ post)).toArray.extract pre.length (pre.length + i.size) = mid.toArray := by
      apply Array.ext'
      simp [← hm]
    rw [this]
  | false =>
    obtain ⟨v, rfl⟩ : ∃ v, mid = [v] := List.length_eq_one_iff.1 (h1 hag)
    simp [valOf]

theorem lks_one {P : Program} : ∀ {d t : Nat} {ls : List LK}, lks P d t = some ls → isAggT P t = false → ls.length = 1
  | 0, _, _, h, _ => by simp [lks] at h
  | d + 1, t, ls, h, ha => by
    unfold lks at h
    unfold isAggT at ha
    split at h <;> simp_all <;> first | (rw [← h]; rfl) | skip

theorem lks_u {P : Program} : ∀ {d t : Nat} {ls : List LK}, lks P d t = some ls → ∃ D, P.underlying t = some D
  | 0, _, _, h => by simp [lks] at h
  | d + 1, t, ls, h => by
    unfold lks at h
    cases hu : P.underlying t with
    | none => rw [hu] at h; simp at h
    | some D => exact ⟨D, rfl⟩

theorem run_equalIn_lks {P : Program} : ∀ (d : Nat) (m t : Nat) (ls : List LK) (w : World) (vs us : List Value) (rs : List Bool), lks P d t = some ls → All4 ls vs us rs →
    (Op.equalIn (d + m) t (valOf (isAggT P t) vs) (valOf (isAggT P t) us)).run P w = .ok (rs.all id) w
  | 0, _, _, _, _, _, _, _, h, _ => by simp [lks] at h
  | d + 1, m, t, ls, w, vs, us, rs, h, hv => by
    have e : d + 1 + m = (d + m) + 1 := by omega
    rw [e]
    have ih := run_equalIn_lks (P := P) d m
    unfold lks at h
    cases hu : P.underlying t with
    | none => rw [hu] at h; simp at h
    | some D =>
      rw [hu] at h
      cases D <;> simp only [reduceCtorEq] at h
      case bool =>
        obtain rfl : [LK.b] = ls := by simpa using h
        have ha : isAggT P t = false := by simp [isAggT, hu]
        rcases hv with _ | ⟨hl, ht⟩
        cases hl; cases ht
        rw [ha]
        simp only [valOf, Bool.false_eq_true, if_false, List.headD_cons]
        rw [run_equalIn_bool' _ _ _ _ _ hu]; simp
      case int k =>
        obtain rfl : [LK.i] = ls := by simpa using h
        have ha : isAggT P t = false := by simp [isAggT, hu]
        rcases hv with _ | ⟨hl, ht⟩
        cases hl; cases ht
        rw [ha]
        simp only [valOf, Bool.false_eq_true, if_false, List.headD_cons]
        rw [run_equalIn_int _ _ _ _ _ _ _ hu]; simp
      case string =>
        obtain rfl : [LK.s] = ls := by simpa using h
        have ha : isAggT P t = false := by simp [isAggT, hu]
        rcases hv with _ | ⟨hl, ht⟩
        cases hl; cases ht
        rw [ha]
        simp only [valOf, Bool.false_eq_true, if_false, List.headD_cons]
        rw [run_equalIn_string _ _ _ _ _ hu]
        simp [ByteArray.toList_eq]
      case struct fs =>
        have ha : isAggT P t = true := by simp [isAggT, hu]
        have hfs : P.fieldsOf t = fs := by simp [Program.fieldsOf, hu]
        cases hst : P.stoodInHeld t with
        | true => simp [hst] at h
        | false =>
          simp only [hst, Bool.false_eq_true, if_false] at h
          rw [ha]
          simp only [valOf, if_pos]
          rw [run_equalIn_struct w (d + m) t _ _ (by rw [hfs]; exact hu) hst, hfs]
          have go : ∀ (fl : List Field) (off : Nat) (ls : List LK) (w : World) (p q vs us : List Value) (rs : List Bool), lksF P (lks P d) fl off = some ls → All4 ls vs us rs → p.length = off → q.length = off →
              (Op.eqFields (d + m) (p ++ vs).toArray (q ++ us).toArray fl).run P w = .ok (rs.all id) w := by
            intro fl
            induction fl with
            | nil =>
              intro off ls w p q vs us rs hl hv _ _
              obtain rfl : [] = ls := by simpa [lksF] using hl
              cases hv
              simp [Op.eqFields]
            | cons f fl ihf =>
              intro off ls w p q vs us rs hl hv hp hq
              simp only [lksF] at hl
              split at hl
              · rename_i hc
                simp only [Bool.and_eq_true, bne_iff_ne, ne_eq, beq_iff_eq] at hc
                split at hl
                · rename_i l i hl1 hi1
                  split at hl
                  · rename_i hsz
                    have hsz : i.size = l.length := by simpa using hsz
                    obtain ⟨l2, hl2, rfl⟩ : ∃ l2, lksF P (lks P d) fl (off + l.length) = some l2 ∧ l ++ l2 = ls := by
                      simpa using hl
                    obtain ⟨v1, v2, u1, u2, r1, r2, rfl, rfl, rfl, h1, h2, h3, h4⟩ := hv.split
                    obtain ⟨D, hD⟩ := lks_u hl1
                    have p1 := run_part_at (w := w) hD hi1 (pre := p) (mid := v1) (post := v2) (by omega) (fun h => by rw [h3]; exact lks_one hl1 h)
                    have p2 := run_part_at (w := w) hD hi1 (pre := q) (mid := u1) (post := u2) (by omega) (fun h => by rw [h4]; exact lks_one hl1 h)
                    rw [hp, ← hc.2] at p1
                    rw [hq, ← hc.2] at p2
                    simp only [Op.eqFields, if_pos hc.1, ne_eq, hc.1, not_false_eq_true, Sem.run_bind, p1, p2, Result.andThen_ok, ih _ _ _ _ _ _ hl1 h1]
                    have h5 := ihf (off + l.length) l2 w (p ++ v1) (q ++ u1) v2 u2 r2 hl2 h2 (by simp; omega) (by simp; omega)
                    rw [List.append_assoc, List.append_assoc] at h5
                    simp only [if_true, Sem.run_bind, p1, p2, Result.andThen_ok, ih _ _ _ _ _ _ hl1 h1]
                    cases hr : r1.all id with
                    | true => simp only [Bool.not_true, Bool.false_eq_true, if_false, h5, List.all_append, hr, Bool.true_and]
                    | false => simp only [Bool.not_false, if_true, Sem.run_pure, List.all_append, hr, Bool.false_and]
                  · simp at hl
                · simp at hl
              · simp at hl
          exact go fs.toList 0 ls w [] [] vs us rs h hv rfl rfl
      case array n e =>
        have ha : isAggT P t = true := by simp [isAggT, hu]
        split at h
        · rename_i l i hl1 hi1
          split at h
          · rename_i hsz
            have hsz : i.size = l.length := by simpa using hsz
            obtain rfl : repLK n l = ls := by simpa using h
            rw [ha]
            simp only [valOf, if_pos]
            rw [run_equalIn_array w (d + m) _ _ hu hi1]
            have hc : P.cellsOf e = l.length := by simp [Program.cellsOf, hi1, hsz]
            rw [hc]
            obtain ⟨D, hD⟩ := lks_u hl1
            have go : ∀ (k j : Nat) (w : World) (p q vs us : List Value) (rs : List Bool), All4 (repLK k l) vs us rs → p.length = j * l.length → q.length = j * l.length →
                (Op.eqItems (d + m) e l.length (p ++ vs).toArray (q ++ us).toArray (List.range' j k)).run P w = .ok (rs.all id) w := by
              intro k
              induction k with
              | zero =>
                intro j w p q vs us rs hv _ _
                simp only [repLK, List.replicate_zero, List.flatten_nil] at hv
                cases hv
                simp [Op.eqItems]
              | succ k ihk =>
                intro j w p q vs us rs hv hp hq
                have e1 : repLK (k + 1) l = l ++ repLK k l := by simp [repLK, List.replicate_succ]
                rw [e1] at hv
                obtain ⟨v1, v2, u1, u2, r1, r2, rfl, rfl, rfl, h1, h2, h3, h4⟩ := hv.split
                have p1 := run_part_at (w := w) hD hi1 (pre := p) (mid := v1) (post := v2) (by omega) (fun h => by rw [h3]; exact lks_one hl1 h)
                have p2 := run_part_at (w := w) hD hi1 (pre := q) (mid := u1) (post := u2) (by omega) (fun h => by rw [h4]; exact lks_one hl1 h)
                rw [hp] at p1
                rw [hq] at p2
                have h5 := ihk (j + 1) w (p ++ v1) (q ++ u1) v2 u2 r2 h2 (by rw [List.length_append, hp, h3, Nat.succ_mul]) (by rw [List.length_append, hq, h4, Nat.succ_mul])
                rw [List.append_assoc, List.append_assoc] at h5
                simp only [List.range'_succ, Op.eqItems, Sem.run_bind, p1, p2, Result.andThen_ok, ih _ _ _ _ _ _ hl1 h1]
                cases hr : r1.all id with
                | true => simp only [Bool.not_true, Bool.false_eq_true, if_false, h5, List.all_append, hr, Bool.true_and]
                | false => simp only [Bool.not_false, if_true, Sem.run_pure, List.all_append, hr, Bool.false_and]
            rw [List.range_eq_range']
            exact go n 0 w [] [] vs us rs hv (by simp) (by simp)
          · simp at h
        · simp at h
end Go.AM

/- The abstract machine 'AM', part 15: equality, strings, nil. -/

namespace Go.AM
open Go.RowKit
variable {P : Program} {T : TT} {X : Ctx} {o : Oper} {F : Frm} {M : MemF}

inductive LkA : LK → AV → AV → Bool → Prop
  | i (k : IntKind) (x y : Int) : LkA .i (.int k x) (.int k y) (x == y)
  | b (x y : Bool) : LkA .b (.bool x) (.bool y) (x == y)
  | s (x y : List UInt8) : LkA .s (.str x) (.str y) (x == y)

inductive AllA : List LK → List AV → List AV → List Bool → Prop
  | nil : AllA [] [] [] []
  | cons {l ls v vs u us r rs} (h : LkA l v u r) (t : AllA ls vs us rs) : AllA (l :: ls) (v :: vs) (u :: us) (r :: rs)

theorem LkA.val {ρ : Place} {L : Lens} {I : Nat → Prop} {w : World} {N : Nat → Prop} {l : LK} {a b : AV} {r : Bool} {v u : Value} (h : LkA l a b r) (h1 : Rep ρ L I w N a v) (h2 : Rep ρ L I w N b u) : LkV l v u r := by
  cases h with
  | i k x y => rw [rep_int h1, rep_int h2]; exact .i k x y
  | b x y => rw [rep_bool h1, rep_bool h2]; exact .b x y
  | s x y => rw [rep_str h1, rep_str h2]; exact .s x y

theorem AllA.val {ρ : Place} {L : Lens} {I : Nat → Prop} {w : World} {N : Nat → Prop} : ∀ {ls : List LK} {as bs : List AV} {rs : List Bool} {vs us : List Value}, AllA ls as bs rs → vs.length = as.length → us.length = bs.length →
    (∀ j, j < as.length → Rep ρ L I w N (as.getD j .bad) (vs.getD j default)) → (∀ j, j < bs.length → Rep ρ L I w N (bs.getD j .bad) (us.getD j default)) → All4 ls vs us rs
  | _, _, _, _, [], [], .nil, _, _, _, _ => .nil
  | _, _, _, _, v :: vs, u :: us, .cons h t, hv, hu, h1, h2 =>
    .cons (h.val (by simpa using h1 0 (by simp)) (by simpa using h2 0 (by simp))) (t.val (by simpa using hv) (by simpa using hu)
      (fun j hj => by simpa using h1 (j + 1) (by simpa using hj)) (fun j hj => by simpa using h2 (j + 1) (by simpa using hj)))
  | _, _, _, _, _ :: _, [], .nil, hv, _, _, _ => by simp at hv
  | _, _, _, _, [], _ :: _, .nil, _, hu, _, _ => by simp at hu
  | _, _, _, _, _ :: _, _ :: _, .nil, hv, _, _, _ => by simp at hv
  | _, _, _, _, [], _, .cons _ _, hv, _, _, _ => by simp at hv
  | _, _, _, _, _ :: _, [], .cons _ _, _, hu, _, _ => by simp at hu

theorem does_eq_agg {neg : Bool} {t yt : TypeId} {x y : Operand} {d : Nat} (hd : d ≤ 10000) {ls : List LK} {as bs : List AV} {rs : List Bool} (ho : o.op = .binOp (if neg then .neq else .eql) t x y yt) (hg : P.eqGuardType P.depth t = false) (ha : isAggT P t = true)
    (hl : lks P d t = some ls) (hx : ev F x = .agg as) (hy : ev F y = .agg bs) (h : AllA ls as bs rs) : Does P X o F M (.bool (if neg then !(rs.all id) else rs.all id)) [] [] := by
  have hx' : x ∈ o.op.operands.toList := by simp [ho, Op.operands]
  have hy' : y ∈ o.op.operands.toList := by simp [ho, Op.operands]
  refine does_value fun M' N ρ I ac w hW hU hN => ?_
  have r1 := rep_op hU x hx'
  have r2 := rep_op hU y hy'
  rw [hx] at r1
  rw [hy] at r2
  generalize hv : ac.eval x = v at r1
  generalize hu : ac.eval y = u at r2
  cases r1 with
  | agg _ vs hvl hv1 hvr =>
    cases r2 with
    | agg _ us hul hu1 hur =>
      have h4 := h.val hvl hul hvr hur
      have e := run_equalIn_lks d (10000 - d) t ls w vs us rs hl h4
      rw [ha] at e
      simp only [valOf, if_true] at e
      have e2 : d + (10000 - d) = 10000 := by omega
      rw [e2] at e
      refine ⟨_, ?_, .bool _⟩
      have g := run_eqGuard_agg w (if neg then .neq else .eql) t x y vs.toArray us.toArray hg
      cases neg <;> simp_all [execOp, Sem.run_bind, run_eql_struct, run_neq_struct]

theorem does_eq_bool {neg : Bool} {t yt : TypeId} {x y : Operand} {a b : Bool} (ho : o.op = .binOp (if neg then .neq else .eql) t x y yt) (hu : P.underlying t = some .bool) (hx : ev F x = .bool a) (hy : ev F y = .bool b) :
    Does P X o F M (.bool (if neg then a != b else a == b)) [] [] := by
  have hx' : x ∈ o.op.operands.toList := by simp [ho, Op.operands]
  have hy' : y ∈ o.op.operands.toList := by simp [ho, Op.operands]
  refine does_value fun M' N ρ I ac w hW hU hN => ⟨_, ?_, .bool _⟩
  have r1 := rep_bool (hx ▸ rep_op hU x hx')
  have r2 := rep_bool (hy ▸ rep_op hU y hy')
  have e := run_equal_bool w t a b hu
  cases neg <;> simp [execOp, ho, r1, r2, Sem.run_bind, eqGuard, binOp, e, bne]

/-- Strings. -/
def astr (op : BinOp) (a b : List UInt8) (K : AV → Prop) : Prop :=
  match op with
  | .add => (a.length + b.length ≤ 9223372036854775807) ∧ K (.str (a ++ b))
  | .eql => K (.bool (a == b))
  | .neq => K (.bool !(a == b))
  | .lss => K (.bool (Op.bytesLess a b))
  | .leq => K (.bool (Op.bytesLess a b || a == b))
  | .gtr => K (.bool !(Op.bytesLess a b || a == b))
  | .geq => K (.bool !(Op.bytesLess a b))
  | _ => False

theorem does_str {op : BinOp} {t yt : TypeId} {x y : Operand} {a b : List UInt8} {K : AV → Prop} (ho : o.op = .binOp op t x y yt) (hx : ev F x = .str a) (hy : ev F y = .str b) (h : astr op a b K) : ∃ av, Does P X o F M av [] [] ∧ K av := by
  have hx' : x ∈ o.op.operands.toList := by simp [ho, Op.operands]
  have hy' : y ∈ o.op.operands.toList := by simp [ho, Op.operands]
  have go : ∀ av v, (∀ ρ L I w N, Rep ρ L I w N av v) → (∀ w, (Op.stringOp op ⟨a.toArray⟩ ⟨b.toArray⟩).run P w = .ok v w) → K av → ∃ av, Does P X o F M av [] [] ∧ K av := by
    intro av v hr hrun hk
    refine ⟨av, does_value fun M' N ρ I ac w hW hU hN => ⟨v, ?_, hr _ _ _ _ _⟩, hk⟩
    have r1 := rep_str (hx ▸ rep_op hU x hx')
    have r2 := rep_str (hy ▸ rep_op hU y hy')
    have g : (eqGuard op t x y (.string ⟨a.toArray⟩) (.string ⟨b.toArray⟩)).run P w = .ok () w := by
      unfold eqGuard; cases op <;> simp
    have e : binOp op t (.string ⟨a.toArray⟩) (.string ⟨b.toArray⟩) = Op.stringOp op ⟨a.toArray⟩ ⟨b.toArray⟩ := by cases op <;> rfl
    simp only [execOp, ho, r1, r2, Sem.run_bind, g, Result.andThen_ok, e, hrun, Sem.run_pure]
  have tl : ∀ l : List UInt8, (⟨l.toArray⟩ : ByteArray).toList = l := fun l => by rw [ByteArray.toList_eq]
  cases op <;> simp only [astr] at h <;> try exact h.elim
  case add =>
    refine go _ (.string ⟨(a ++ b).toArray⟩) (fun _ _ _ _ _ => .str _) (fun w => ?_) h.2
    have e : (⟨a.toArray⟩ : ByteArray) ++ ⟨b.toArray⟩ = ⟨(a ++ b).toArray⟩ := by
      apply ByteArray.ext
      simp
    have h1 := h.1
    have hs : ¬ ((((⟨a.toArray⟩ : ByteArray).size + (⟨b.toArray⟩ : ByteArray).size : Nat) : Int) > IntKind.i64.max) := by
      show ¬ (((a.toArray.size + b.toArray.size : Nat) : Int) > 9223372036854775807)
      simp only [List.size_toArray]
      omega
    simp only [Op.stringOp, if_neg hs, e, Sem.run_pure]
  all_goals exact go _ _ (fun _ _ _ _ _ => .bool _) (fun w => by simp only [Op.stringOp, tl, Sem.run_pure]) h

/-- Is it nil? -/
def isNil : AV → Option Bool
  | .nilp => some true
  | .loc .. => some false
  | .iptr .. => some false
  | _ => none

end Go.AM

/- The abstract machine 'AM', part 16: nil, empty slices, elements of values, bytes as strings. -/




namespace Go.AM
open Go.RowKit
variable {P : Program} {T : TT} {X : Ctx} {o : Oper} {F : Frm} {M : MemF}

/-! ### Nil -/
theorem run_isnil_slice {neg : Bool} {t e : TypeId} {y : Operand} {x : Operand} {q : Option Addr} {l c : Nat} {w : World} (hu : P.underlying t = some (.slice e)) :
    (do eqGuard (if neg then .neq else .eql) t x y (.slice q l c) (.slice none 0 0); binOp (if neg then .neq else .eql) t (.slice q l c) (.slice none 0 0) : Sem Value).run P w = .ok (.bool (if neg then !q.isNone else q.isNone)) w := by
  have e1 := run_equal_slice_nil w t e q l c hu
  cases neg <;> simp [Sem.run_bind, eqGuard, binOp, e1]

theorem run_isnil_ptr {neg : Bool} {t e : TypeId} {y : Operand} {x : Operand} {q : Option Addr} {w : World} (hu : P.underlying t = some (.pointer e)) :
    (do eqGuard (if neg then .neq else .eql) t x y (.pointer q) (.pointer none); binOp (if neg then .neq else .eql) t (.pointer q) (.pointer none) : Sem Value).run P w = .ok (.bool (if neg then !q.isNone else q.isNone)) w := by
  have e0 : P.pointee t = e := by simp [Program.pointee, hu]
  have e1 := run_equal_pointer_nil w t q (by rw [e0]; exact hu)
  cases neg <;> simp [Sem.run_bind, eqGuard, binOp, e1]

/-- A pointer: is it nil? -/
theorem does_nil_ptr {neg : Bool} {t e yt : TypeId} {x : Operand} {b : Bool} {Ml : Mem} (hM : M = mget Ml) (ho : o.op = .binOp (if neg then .neq else .eql) t x (.const (.pointer none)) yt) (hu : P.underlying t = some (.pointer e))
    (hx : (ev F x = .nilp ∧ b = true) ∨ ((∃ r q, ev F x = .iptr r q) ∧ b = false) ∨ (∃ n len i q bl, ev F x = .loc n len i q ∧ mget Ml n = some bl ∧ bl.es.length = len) ∧ b = false) : Does P X o F M (.bool (if neg then !b else b)) [] [] := by
  have hx' : x ∈ o.op.operands.toList := by simp [ho, Op.operands]
  refine does_value fun M' N ρ I ac w hW hU hN => ?_
  have r1 := rep_op hU x hx'
  have key : ∃ q : Option Addr, ac.eval x = .pointer q ∧ q.isNone = b := by
    rcases hx with ⟨h, rfl⟩ | ⟨⟨r, q, h⟩, rfl⟩ | ⟨⟨n, len, i, q, bl, h, hb, hl⟩, rfl⟩
    · rw [h] at r1
      generalize ac.eval x = v at r1
      cases r1
      exact ⟨none, rfl, rfl⟩
    · rw [h] at r1
      generalize ac.eval x = v at r1
      cases r1
      exact ⟨_, rfl, rfl⟩
    · rw [h] at r1
      obtain ⟨sl, hsl, hns⟩ := names_op (F := F) x hx' (n := n) (by rw [h]; simp [AV.names])
      have hMn : M' n = some bl := (hN sl hsl n hns).trans (by rw [hM]; exact hb)
      have hal : lens M' n = some (len, bl.sz) := by rw [lens_some]; exact ⟨bl, hMn, hl, rfl⟩
      obtain ⟨_, g, cap, _, hv⟩ := rep_loc r1 hal
      exact ⟨_, hv, rfl⟩
  obtain ⟨q, hv, hq⟩ := key
  refine ⟨_, ?_, .bool _⟩
  have e1 := run_isnil_ptr (P := P) (neg := neg) (y := .const (.pointer none)) (x := x) (q := q) (w := w) hu
  rw [hq] at e1
  have hc : ac.eval (.const (.pointer none)) = .pointer none := rfl
  simp only [execOp, ho, hv, hc]
  simp only [Sem.run_bind] at e1 ⊢
  rw [e1]
  simp

/-- A slice that nobody writes to: is it nil? -/
theorem yield_nil_isl {neg : Bool} {t e yt : TypeId} {x : Operand} {s : Nat} {es : List (List AV)} (ho : o.op = .binOp (if neg then .neq else .eql) t x (.const (.slice none 0 0)) yt) (hu : P.underlying t = some (.slice e)) (hx : ev F x = .isl s es)
    {M' : MemF} {N : Nat → Prop} {ρ : Place} {I : Nat → Prop} {a : Act} {w : World} (hW : Wok X ρ I M' N w) (hU : ∀ s ∈ uses o.op, Rep ρ (lens M') I w N (look F s) (a.tmps.getD s undef)) :
    ∃ b : Bool, (b = true → es = []) ∧ Yield P X o a M' N ρ I w (.bool (if neg then !b else b)) [] := by
  have hx' : x ∈ o.op.operands.toList := by simp [ho, Op.operands]
  have r1 := rep_op hU x hx'
  rw [hx] at r1
  have key : ∃ (q : Option Addr) (c : Nat), a.eval x = .slice q es.length c ∧ (q.isNone = true → es = []) := by
    generalize a.eval x = v at r1
    cases r1 with
    | islNil _ q cap => exact ⟨q, cap, rfl, fun _ => rfl⟩
    | isl _ _ b o cap c hl => exact ⟨_, cap, rfl, fun h => by simp at h⟩
  obtain ⟨q, c, hv, hq⟩ := key
  refine ⟨q.isNone, hq, ?_⟩
  have e1 := run_isnil_slice (P := P) (neg := neg) (y := .const (.slice none 0 0)) (x := x) (q := q) (l := es.length) (c := c) (w := w) hu
  have hr : (execOp a.eval o).run P w = .ok (.value (.bool (if neg then !q.isNone else q.isNone))) w := by
    have hc : a.eval (.const (.slice none 0 0)) = .slice none 0 0 := rfl
    simp only [execOp, ho, hv, hc]
    simp only [Sem.run_bind] at e1 ⊢
    rw [e1]
    simp
  unfold Yield
  rw [hr]
  exact Post.value hW (.bool _)

/-! ### An empty slice without room -/
theorem does_clip0 (hT : TTok P T) {t e : Nat} {x h m : Operand} {k k' : IntKind} {n : Nat} (ht : T.d t = .slice e) (hok : (T.d e).ok = true) (ho : o.op = .slice t x none (some h) (some m)) (hh : ev F h = .int k 0) (hm : ev F m = .int k' 0)
    (hx : ∃ s es, ev F x = .isl s es) : Does P X o F M (.osl n 0) [(n, ⟨e, T.s e, []⟩)] [n] := by
  have hx' : x ∈ o.op.operands.toList := by simp [ho, Op.operands]
  have hh' : h ∈ o.op.operands.toList := by simp [ho, Op.operands]
  have hm' : m ∈ o.op.operands.toList := by simp [ho, Op.operands]
  obtain ⟨D, it, z, hD, hf, _⟩ := hT t (by rw [ht]; simp)
  have hD' := fits_slice ht hf
  subst hD'
  obtain ⟨_, ie, _, _, _, hie, hes, _⟩ := hT e (TD.ok_ne hok)
  obtain ⟨s, es, hx⟩ := hx
  refine ⟨fun p hp => .inl (by simp at hp; simp [hp]), fun M' N ρ I ac w hW hU hN hF => ?_⟩
  have hn : ¬ N n := hF n (by simp)
  have r1 := rep_op hU x hx'
  have r2 := rep_int (hh ▸ rep_op hU h hh')
  have r3 := rep_int (hm ▸ rep_op hU m hm')
  rw [hx] at r1
  obtain ⟨q, cap, hv, hle⟩ := isl_len r1
  have hb : (Instr.sliceBounds true es.length cap (none : Option Value) (some (.int k 0)) (some (.int k' 0))).run P w = .ok (0, 0, 0) w := by
    have e1 := run_sliceBound (P := P) (k := k') (i := 0) (y := cap) (c := .slice3Acap) (w := w) ⟨by omega, by omega⟩
    have e2 := run_sliceBound (P := P) (k := k) (i := 0) (y := 0) (c := .slice3B) (w := w) ⟨by omega, by omega⟩
    simp [Instr.sliceBounds, e1, e2, Sem.run_bind, Instr.sliceBound, asIntOf]
  have hrun := run_sliceAt (a := q) (len := es.length) hD hie hb
  obtain ⟨E, W⟩ := hW.virt hn e (T.s e)
  unfold Yield
  have hr : (execOp ac.eval o).run P w = .ok (.value (.slice q 0 0)) w := by
    simp only [execOp, ho, Option.map_none, Option.map_some, hv, r2, r3, Sem.run_bind, hrun]
    simp
  rw [hr]
  refine ⟨_, I, E, by rw [naddL_one]; exact W, ?_⟩
  refine .osl n _ _ (.inr ⟨_, List.mem_singleton.2 rfl⟩) rfl fun l sz' hl' => ?_
  change lens (mupd M' n _) n = _ at hl'
  rw [lens_mset, if_pos rfl] at hl'
  simp at hl'
  exact ⟨by simp, fun _ => .inl ⟨by simp, q, rfl⟩⟩

/-! ### An element of an array's value, a byte of a string -/
theorem does_indexV (hT : TTok P T) {t m e : Nat} {x ix : Operand} {cs : List AV} {k : IntKind} {j : Int} {K : AV → Prop} (ht : T.d t = .arr m e) (hok : (T.d e).ok = true) (ho : o.op = .index t x ix) (hx : ev F x = .agg cs) (hi : ev F ix = .int k j)
    (hj : 0 ≤ j ∧ j < (m : Int)) (h : apart (T.d e).ag (T.s e) (j.toNat * T.s e) cs K) : ∃ av, Does P X o F M av [] [] ∧ K av := by
  have hx' : x ∈ o.op.operands.toList := by simp [ho, Op.operands]
  have hi' : ix ∈ o.op.operands.toList := by simp [ho, Op.operands]
  obtain ⟨D, it, z, hD, hf, _⟩ := hT t (by rw [ht]; simp)
  have hD' := fits_arr ht hf
  subst hD'
  obtain ⟨De, ie, _, hDe, hfe, hie, hes, _⟩ := hT e (TD.ok_ne hok)
  obtain ⟨av, h1, h2, h3, h4⟩ := apart_elim h
  refine ⟨av, does_value fun M' N ρ I ac w hW hU hN => ?_, h4⟩
  have r1 := rep_op hU x hx'
  have r2 := rep_int (hi ▸ rep_op hU ix hi')
  rw [hx] at r1
  generalize hv : ac.eval x = v at r1
  generalize hoff : j.toNat * T.s e = off at h1 h2
  have hle : off + T.s e ≤ cs.length ∨ T.s e = 0 := by
    simp only [List.length_take, List.length_drop] at h1; omega
  cases r1 with
  | agg _ vs hvl hv1 hvr =>
    have hpart : ∃ u, (part e vs.toArray off).run P w = .ok u w ∧ Rep ρ (lens M') I w N av u := by
      unfold part
      simp only [Sem.run_bind, run_isAgg' hDe hfe, Result.andThen_ok]
      cases hag : (T.d e).ag with
      | true =>
        simp only [if_pos, Sem.run_bind, run_sizeOf' hie, Result.andThen_ok, Sem.run_pure]
        refine ⟨_, rfl, ?_⟩
        rw [h2, hag, if_pos rfl, hes]
        have hex : vs.toArray.extract off (off + T.s e) = ((vs.drop off).take (T.s e)).toArray := by
          apply Array.ext'
          simp
        rw [hex]
        refine .agg _ _ (by rw [h1]; simp only [List.length_take, List.length_drop]; omega) (fun u hu => hv1 u (List.mem_of_mem_drop (List.mem_of_mem_take hu))) (fun i hi => ?_)
        rw [h1] at hi
        rw [getD_take_drop _ _ _ _ _ hi, getD_take_drop _ _ _ _ _ hi]
        exact hvr (off + i) (by omega)
      | false =>
        have h5 := h3 hag
        have hlt : off < cs.length := by omega
        have hlt' : off < vs.length := by omega
        simp only [Bool.false_eq_true, if_false]
        have : vs.toArray[off]? = some vs[off] := by simp [hlt']
        rw [this]
        refine ⟨_, Sem.run_pure _ _ _, ?_⟩
        rw [h2, hag, h5]
        have e1 : ((cs.drop off).take 1).headD .bad = cs.getD off .bad := by
          rw [List.drop_eq_getElem_cons hlt, List.take_succ_cons]
          simp [List.getD_eq_getElem?_getD, hlt]
        simp only [Bool.false_eq_true, if_false, e1]
        have := hvr off hlt
        rwa [show vs.getD off default = vs[off] by simp [List.getD_eq_getElem?_getD, hlt']] at this
    obtain ⟨u, hu, hr⟩ := hpart
    refine ⟨u, ?_, hr⟩
    simp only [execOp, ho, hv, r2, Instr.index, asIntOf, Sem.run_bind, Sem.run_pure, Result.andThen_ok, run_underlying hD, if_pos hj, run_sizeOf' hie, hes, hoff, hu]

theorem does_indexT (hT : TTok P T) {t : Nat} {x ix : Operand} {s : List UInt8} {k : IntKind} {j : Int} (ht : T.d t = .str) (ho : o.op = .index t x ix) (hx : ev F x = .str s) (hi : ev F ix = .int k j) (hj : 0 ≤ j ∧ j < (s.length : Int)) :
    Does P X o F M (.int .u8 (s.getD j.toNat 0).toNat) [] [] := by
  have hx' : x ∈ o.op.operands.toList := by simp [ho, Op.operands]
  have hi' : ix ∈ o.op.operands.toList := by simp [ho, Op.operands]
  obtain ⟨D, it, z, hD, hf, _⟩ := hT t (by rw [ht]; simp)
  have hD' := fits_str ht hf
  subst hD'
  refine does_value fun M' N ρ I ac w hW hU hN => ⟨_, ?_, .int _ _⟩
  have r1 := rep_str (hx ▸ rep_op hU x hx')
  have r2 := rep_int (hi ▸ rep_op hU ix hi')
  have hlt : j.toNat < s.length := by omega
  have e1 : (⟨s.toArray⟩ : ByteArray)[j.toNat]? = some s[j.toNat] := by
    have hsz : j.toNat < (⟨s.toArray⟩ : ByteArray).size := by show j.toNat < s.toArray.size; simpa using hlt
    rw [getElem?_pos (⟨s.toArray⟩ : ByteArray) j.toNat hsz]
    rfl
  simp only [execOp, ho, r1, r2, Instr.index, asIntOf, Sem.run_bind, Sem.run_pure, Result.andThen_ok, run_underlying hD, if_pos hj.1, e1]
  simp [List.getD_eq_getElem?_getD, hlt]

/-! ### Bytes as a string -/
theorem foldl_push (s : List UInt8) : ∀ r : ByteArray, (s.map fun c => ((c.toNat : Int))).foldl (fun r n => r.push (UInt8.ofNat n.toNat)) r = ⟨(r.data.toList ++ s).toArray⟩ := by
  induction s with
  | nil => intro r; simp
  | cons c s ih =>
    intro r
    simp only [List.map_cons, List.foldl_cons, ih]
    congr 1
    simp [ByteArray.push]

theorem does_b2s (hT : TTok P T) {s t e : Nat} {x : Operand} {Ml : Mem} {K : AV → Prop} (hM : M = mget Ml) (hs : T.d s = .slice e) (he : T.d e = .int .u8) (ht : T.d t = .str) (ho : o.op = .convert s t x) (hns : ¬ ∃ q, ev F x = .str q)
    (h : asrc Ml 1 (ev F x) fun xs => ∃ b : List UInt8, xs = b.map (fun c => [AV.int .u8 c.toNat]) ∧ K (.str b)) : ∃ av, Does P X o F M av [] [] ∧ K av := by
  have hx : x ∈ o.op.operands.toList := by simp [ho, Op.operands]
  obtain ⟨D, _, _, hD, hf, _⟩ := hT s (by rw [hs]; simp)
  have := fits_slice hs hf
  subst this
  obtain ⟨D, _, _, hDe, hf, _⟩ := hT e (by rw [he]; simp)
  have := fits_int he hf
  subst this
  obtain ⟨D, _, _, hDt, hf, _⟩ := hT t (by rw [ht]; simp)
  have := fits_str ht hf
  subst this
  obtain ⟨xs, ⟨b, rfl, hk⟩, hsrc⟩ := asrc_sound (X := X) (o := o) (tx := s) hT hM hx (.inl ⟨_, hD⟩) (fun h => (hns h).elim) (fun _ => ⟨_, hD⟩) h
  refine ⟨_, does_value fun M' N ρ I ac w hW hU hN => ?_, hk⟩
  obtain ⟨vs, hS, hL, -⟩ := hsrc M' N ρ I ac w hW hU hN
  have hvs : vs = b.map fun c => Value.int .u8 (c.toNat : Int) := by
    apply List.ext_getElem
    · rw [hL.1]; simp
    · intro i h1 h2
      have hi : i < b.length := by simpa using h2
      obtain ⟨u, hu, hr⟩ := hL.2.2 i 0 (by simpa using hi) (by omega)
      rw [Nat.mul_one, Nat.add_zero, List.getElem?_eq_getElem h1] at hu
      simp only [Option.some.injEq] at hu
      have e1 : ((b.map fun c => [AV.int .u8 (c.toNat : Int)]).getD i []).getD 0 .bad = .int .u8 (b[i].toNat : Int) := by
        simp [List.getD_eq_getElem?_getD, hi]
      rw [e1] at hr
      rw [hu, rep_int hr.2]
      simp
  have hsl : ∃ q l c, ac.eval x = .slice q l c := by
    have r1 := rep_op hU x hx
    cases hxx : ev F x with
    | isl s es => rw [hxx] at r1; obtain ⟨q, cap, hv, _⟩ := isl_len r1; exact ⟨_, _, _, hv⟩
    | nils =>
      rw [hxx] at r1
      generalize ac.eval x = v at r1
      cases r1
      exact ⟨_, _, _, rfl⟩
    | osl n len =>
      rw [hxx] at h r1
      simp only [asrc, alive] at h
      cases hb : mget Ml n with
      | none => rw [hb] at h; exact h.elim
      | some bl =>
        rw [hb] at h
        obtain ⟨hc1, _⟩ := chk_elim h
        have hl : bl.es.length = len := by simpa using hc1
        obtain ⟨sl, hsl, hns⟩ := names_op (F := F) x hx (n := n) (by rw [hxx]; simp [AV.names])
        have hMn : M' n = some bl := (hN sl hsl n hns).trans (by rw [hM]; exact hb)
        have hal : lens M' n = some (len, bl.sz) := by rw [lens_some]; exact ⟨bl, hMn, hl, rfl⟩
        obtain ⟨_, ⟨_, q, hv⟩ | ⟨g, cap, _, hv⟩⟩ := rep_osl r1 hal
        · exact ⟨_, _, _, hv⟩
        · exact ⟨_, _, _, hv⟩
    | vsl n len i off cnt =>
      rw [hxx] at h r1
      simp only [asrc, alive] at h
      cases hb : mget Ml n with
      | none => rw [hb] at h; exact h.elim
      | some bl =>
        rw [hb] at h
        obtain ⟨hc1, _⟩ := chk_elim h
        have hl : bl.es.length = len := by simpa using hc1
        obtain ⟨sl, hsl, hns⟩ := names_op (F := F) x hx (n := n) (by rw [hxx]; simp [AV.names])
        have hMn : M' n = some bl := (hN sl hsl n hns).trans (by rw [hM]; exact hb)
        have hal : lens M' n = some (len, bl.sz) := by rw [lens_some]; exact ⟨bl, hMn, hl, rfl⟩
        obtain ⟨_, g, cap, c, _, hv, _⟩ := rep_vsl r1 hal
        exact ⟨_, _, _, hv⟩
    | str q => exact (hns ⟨q, hxx⟩).elim
    | _ => rw [hxx] at h; exact h.elim
  obtain ⟨q, l, c, hv⟩ := hsl
  have hl : l = b.length := by
    have := hS.len w
    rw [hv] at this
    simpa [Builtin.lenOf] using this
  refine ⟨.string ⟨b.toArray⟩, ?_, .str _⟩
  have hrun : (Conv.bytesToString (ac.eval x)).run P w = .ok (.string ⟨b.toArray⟩) w := by
    rw [hv]
    cases q with
    | none =>
      have hc := hS.cells
      rw [hv, hvs] at hc
      have : b = [] := by
        simp [Builtin.firstCells] at hc
        exact hc
      subst this
      simp [Conv.bytesToString]
      rfl
    | some a =>
      have hc := hS.cells
      rw [hv, hvs] at hc
      simp only [Builtin.firstCells, List.length_map, Nat.mul_one] at hc
      have := run_bytesToString (P := P) w a l c (b.map fun c => (c.toNat : Int)) (by rw [hl, hc]; simp [List.map_map, Function.comp_def])
      rw [this, foldl_push]
      simp
  simp only [execOp, ho, convert, Sem.run_bind, run_underlying hD, run_underlying hDt, Result.andThen_ok]
  have e9 : ∀ v : Value, v = ac.eval x → True := fun _ _ => trivial
  rw [hv] at hrun ⊢
  simp only [Sem.run_bind, run_underlying hDe, Result.andThen_ok, hrun, Sem.run_pure]

end Go.AM

/- The abstract machine 'AM', part 17: slices of arrays, copy, make, the bytes of a string. -/



namespace Go.AM
open Go.RowKit
variable {P : Program} {T : TT} {X : Ctx} {o : Oper} {F : Frm} {M : MemF}

/-! ### An array, as a slice -/
theorem rep_vsl_mk {ρ : Place} {L : Lens} {I : Nat → Prop} {w : World} {N : Nat → Prop} {n len i off sz g cap cnt c : Nat} (hn : N n) (hl : L n = some (len, sz)) (hρ : ρ n = some (g, cap)) (h1 : cnt ≤ c) (h2 : c ≤ maxLen) :
    Rep ρ L I w N (.vsl n len i off cnt) (.slice (some ⟨g, i * sz + off, none⟩) cnt c) :=
  .vsl n len i off cnt _ hn rfl fun l sz' h => by
    rw [hl] at h
    simp only [Option.some.injEq, Prod.mk.injEq] at h
    obtain ⟨rfl, rfl⟩ := h
    exact ⟨Nat.le_refl _, fun _ => ⟨g, cap, c, hρ, rfl, h1, h2⟩⟩

theorem run_sliceAt_arr {t m e : Nat} {ie : TypeInfo} {a : Addr} {w : World} (hD : P.underlying t = some (.array m e)) (hi' : P.info? e = some ie) :
    (Instr.sliceAt t (.pointer (some a)) none none none).run P w = .ok (.slice (some a) m m) w := by
  have : a.add 0 = a := by simp [Addr.add]
  simp [Instr.sliceAt, Sem.run_bind, run_underlying hD, Instr.sureAddr, Instr.sliceBounds, run_sizeOf' hi', this]

theorem does_slcA_loc (hT : TTok P T) {t m e n len i off : Nat} {x : Operand} {Ml : Mem} {b : Blk} (hM : M = mget Ml) (ht : T.d t = .arr m e) (hok : (T.d e).ok = true) (ho : o.op = .slice t x none none none) (hm : m ≤ maxLen)
    (hxx : ev F x = .loc n len i off) (hb : mget Ml n = some b) (hl : b.es.length = len) : Does P X o F M (.vsl n len i off m) [] [] := by
  have hx : x ∈ o.op.operands.toList := by simp [ho, Op.operands]
  obtain ⟨D, it, z, hD, hf, _⟩ := hT t (by rw [ht]; simp)
  have hD' := fits_arr ht hf
  subst hD'
  obtain ⟨De, ie, _, hDe, hfe, hie, hes, _⟩ := hT e (TD.ok_ne hok)
  refine does_value fun M' N ρ I a w hW hU hN => ?_
  have r1 := rep_op hU x hx
  rw [hxx] at r1
  obtain ⟨sl, hsl, hns⟩ := names_op (F := F) x hx (n := n) (by rw [hxx]; simp [AV.names])
  have hMn : M' n = some b := (hN sl hsl n hns).trans (by rw [hM]; exact hb)
  have hal : lens M' n = some (len, b.sz) := by rw [lens_some]; exact ⟨b, hMn, hl, rfl⟩
  obtain ⟨hn, g, cap, hρ, hv⟩ := rep_loc r1 hal
  refine ⟨_, ?_, rep_vsl_mk hn hal hρ (Nat.le_refl m) hm⟩
  simp only [execOp, ho, hv, Option.map_none, Sem.run_bind, run_sliceAt_arr hD hie, Result.andThen_ok, Sem.run_pure]

theorem does_slcA_imm (hT : TTok P T) {t m e off : Nat} {x : Operand} {r : List AV} (ht : T.d t = .arr m e) (hok : (T.d e).ok = true) (ho : o.op = .slice t x none none none) (hm : m ≤ maxLen)
    (hxx : ev F x = .iptr r off) (hfit : off + m * T.s e ≤ r.length) : Does P X o F M (.isl (T.s e) (chop (T.s e) m (r.drop off))) [] [] := by
  have hx : x ∈ o.op.operands.toList := by simp [ho, Op.operands]
  obtain ⟨D, it, z, hD, hf, _⟩ := hT t (by rw [ht]; simp)
  have hD' := fits_arr ht hf
  subst hD'
  obtain ⟨De, ie, _, hDe, hfe, hie, hes, _⟩ := hT e (TD.ok_ne hok)
  refine does_value fun M' N ρ I a w hW hU hN => ?_
  have r1 := rep_op hU x hx
  rw [hxx] at r1
  generalize hv : a.eval x = v at r1
  cases r1 with
  | iptr _ _ b q c hI h1 hcell hr =>
    refine ⟨.slice (some ⟨b, q + off, none⟩) m m, ?_, ?_⟩
    · simp only [execOp, ho, hv, Option.map_none, Sem.run_bind, run_sliceAt_arr hD hie, Result.andThen_ok, Sem.run_pure]
    · have hlen : (chop (T.s e) m (r.drop off)).length = m := chop_length
      have hlt : ∀ i j, i < m → j < T.s e → off + (i * T.s e + j) < r.length := fun i j hi hj => by
        have := idx_lt (sz := T.s e) hi hj
        omega
      have key := Rep.isl (ρ := ρ) (L := lens M') (I := I) (w := w) (N := N) (T.s e) (chop (T.s e) m (r.drop off)) b (q + off) m (fun i j => c (off + (i * T.s e + j))) (by rw [hlen]; exact Nat.le_refl _) hm hI
        (fun l hl => by
          obtain ⟨p, hp, rfl⟩ := List.mem_iff_getElem.1 hl
          rw [hlen] at hp
          have e1 := chop_getD (sz := T.s e) (r := r.drop off) hp
          rw [List.getD_eq_getElem?_getD, List.getElem?_eq_getElem (by rw [hlen]; exact hp), Option.getD_some] at e1
          rw [e1]
          have : (p + 1) * T.s e ≤ m * T.s e := Nat.mul_le_mul_right _ hp
          rw [Nat.add_mul, Nat.one_mul] at this
          simp only [List.length_take, List.length_drop]; omega)
        (fun i j hi hj => h1 _ (hlt i j (by rwa [hlen] at hi) hj))
        (fun i j hi hj => by
          have := hcell _ (hlt i j (by rwa [hlen] at hi) hj)
          rwa [show q + off + i * T.s e + j = q + (off + (i * T.s e + j)) by omega])
        (fun i j hi hj => by
          rw [hlen] at hi
          have := hr _ (hlt i j hi hj)
          rw [chop_getD hi, getD_take_drop _ _ _ _ _ hj]
          simpa only [List.getD_eq_getElem?_getD, List.getElem?_drop] using this)
      rwa [hlen] at key

/-! ### Cells written into a part of a local block -/
theorem blk_store {ρ : Place} {I : Nat → Prop} {M' : MemF} {N : Nat → Prop} {w : World} (hW : Wok X ρ I M' N w) {n i off g cap : Nat} {b : Blk} {avs : List AV} {vals : List Value} (hMn : M' n = some b) (hρ : ρ n = some (g, cap)) (hi' : i < b.es.length)
    (hcl : vals.length = avs.length) (hc1' : ∀ u ∈ vals, u.oneCell' = true) (hcr : ∀ j, j < avs.length → Rep ρ (lens M') I w N (avs.getD j .bad) (vals.getD j default)) (hoff : off + avs.length ≤ b.sz) :
    (storeCells ⟨g, i * b.sz + off, none⟩ vals).run P w = .ok () (w.setCells g (i * b.sz + off) vals) ∧
    ∃ ρ1, Evo N ρ (lens M') I w ρ1 (lens (mups M' [(n, ⟨b.ty, b.sz, b.es.set i (splice off avs (b.es.getD i []))⟩)])) I (w.setCells g (i * b.sz + off) vals) ∧
      Wok X ρ1 I (mups M' [(n, ⟨b.ty, b.sz, b.es.set i (splice off avs (b.es.getD i []))⟩)]) (naddL N [(n, ⟨b.ty, b.sz, b.es.set i (splice off avs (b.es.getD i []))⟩)]) (w.setCells g (i * b.sz + off) vals) := by
  have B := hW.blk n b hMn
  obtain ⟨cs, fr, hg, hfr, hnI, hown, hlc, hcm, hcs, hc⟩ := B.real g cap hρ
  have hel : (b.es.getD i []).length = b.sz := by
    rw [List.getD_eq_getElem?_getD, List.getElem?_eq_getElem hi', Option.getD_some]
    exact B.even _ (List.getElem_mem _)
  have hrow : i * b.sz + b.sz ≤ cs.size := by
    rw [hcs]
    calc i * b.sz + b.sz = (i + 1) * b.sz := by rw [Nat.add_mul, Nat.one_mul]
      _ ≤ cap * b.sz := Nat.mul_le_mul_right _ (by omega)
  have hin : ∀ j, j < b.sz → i * b.sz + j < cs.size := fun j hj => by omega
  have hcellat : ∀ k, w.cell? ⟨g, k, none⟩ = cs[k]? := fun k => by simp [World.cell?, hg]
  have hnf : ∀ k, k < cs.size → w.frozen? ⟨g, k, none⟩ = false := fun k hk => by
    have := hfr k hk
    simp only [World.frozen?, hg]
    simpa using this
  refine ⟨?_, ?_⟩
  · have hst := run_storeCells_cells (P := P) g (i * b.sz + off) vals 0 w
      (fun j hj => by
        rw [Nat.add_zero, hcellat, Nat.add_assoc, Array.getElem?_eq_getElem (hin (off + j) (by omega))]; rfl)
      (fun j hj => by rw [Nat.add_zero, Nat.add_assoc]; exact hnf _ (hin (off + j) (by omega)))
      hc1'
    rwa [Nat.add_zero] at hst
  · obtain ⟨cs', h1, h2, h3⟩ := heap_setCells g b.ty fr vals (i * b.sz + off) w cs hg (by rw [hcl]; omega)
    have key : ∀ p q, p < b.es.length → q < b.sz → ∃ u, cs'[p * b.sz + q]? = some u ∧ u.oneCell' = true ∧ Rep ρ (lens M') I w N (((b.es.set i (splice off avs (b.es.getD i []))).getD p []).getD q .bad) u := by
      intro p q hp hq
      rw [h3, hcl]
      by_cases hpi : p = i
      · subst hpi
        have e1 : (b.es.set p (splice off avs (b.es.getD p []))).getD p [] = splice off avs (b.es.getD p []) := by
          simp [List.getD_eq_getElem?_getD, hp]
        rw [e1, splice_getD _ _ _ _ (by omega)]
        by_cases hqr : off ≤ q ∧ q < off + avs.length
        · rw [if_pos (by omega), if_pos hqr]
          have e2 : p * b.sz + q - (p * b.sz + off) = q - off := by omega
          rw [e2]
          have hq' : q - off < vals.length := by rw [hcl]; omega
          refine ⟨vals[q - off], List.getElem?_eq_getElem hq', hc1' _ (List.getElem_mem _), ?_⟩
          have := hcr (q - off) (by omega)
          rwa [List.getD_eq_getElem?_getD (l := vals), List.getElem?_eq_getElem hq', Option.getD_some] at this
        · rw [if_neg (by omega), if_neg hqr]
          exact hc p q hp hq
      · have e1 : (b.es.set i (splice off avs (b.es.getD i []))).getD p [] = b.es.getD p [] := by
          simp [List.getD_eq_getElem?_getD, List.getElem?_set, Ne.symm hpi]
        rw [e1]
        rw [if_neg]
        · exact hc p q hp hq
        · rintro ⟨ha, hb'⟩
          rcases Nat.lt_or_gt_of_ne hpi with hlt | hgt
          · have : (p + 1) * b.sz ≤ i * b.sz := Nat.mul_le_mul_right _ hlt
            rw [Nat.add_mul, Nat.one_mul] at this
            omega
          · have : (i + 1) * b.sz ≤ p * b.sz := Nat.mul_le_mul_right _ hgt
            rw [Nat.add_mul, Nat.one_mul] at this
            omega
    have hdead : ∀ b0, M' n = some b0 → b0 = b := fun b0 h0 => by rw [hMn] at h0; exact (Option.some.inj h0).symm
    obtain ⟨E, W⟩ := hW.put (w' := w.setCells g (i * b.sz + off) vals) n ⟨b.ty, b.sz, b.es.set i (splice off avs (b.es.getD i []))⟩ g cap cs' fr
      (os_setCells _ _ _ _) (tape_setCells _ _ _ _) (out_setCells _ _ _ _) (by rw [size_setCells]; exact Nat.le_refl _) (fun k _ hk => heap_setCells_ne g _ _ _ _ hk) h1 (fun q hq => hfr q (by omega))
      (.inr ⟨cap, hρ, b, hMn⟩) (fun b0 h0 => by rw [hdead b0 h0]; exact ⟨rfl, by simp, fun _ => hρ⟩) (fun _ => ⟨b, hMn⟩)
      (fun e he => by
        rcases List.mem_or_eq_of_mem_set he with he | rfl
        · exact B.even e he
        · show (splice _ _ _).length = b.sz
          unfold splice
          rw [List.length_append, List.length_append, List.length_take, List.length_drop, hel]; omega)
      (by simpa using hlc) hcm (by rw [h2]; exact hcs) (by simpa using key)
    exact ⟨_, E, by rw [naddL_one]; exact W⟩

theorem flat_len {sz : Nat} : ∀ {xs : List (List AV)}, (∀ e ∈ xs, e.length = sz) → xs.flatten.length = xs.length * sz
  | [], _ => by simp
  | e :: r, h => by
    rw [List.flatten_cons, List.length_append, flat_len (fun e he => h e (List.mem_cons_of_mem _ he)), h e List.mem_cons_self, List.length_cons, Nat.add_mul, Nat.one_mul, Nat.add_comm]

theorem flat_getD {sz : Nat} : ∀ {xs : List (List AV)} {k : Nat}, (∀ e ∈ xs, e.length = sz) → k < xs.length * sz → ∃ p q, p < xs.length ∧ q < sz ∧ k = p * sz + q ∧ xs.flatten.getD k .bad = (xs.getD p []).getD q .bad
  | [], k, _, hk => by simp at hk
  | e :: r, k, h, hk => by
    have he := h e List.mem_cons_self
    by_cases hlt : k < sz
    · refine ⟨0, k, by simp, hlt, by simp, ?_⟩
      simp only [List.flatten_cons, List.getD_eq_getElem?_getD, List.getElem?_append_left (show k < e.length by omega), List.getElem?_cons_zero, Option.getD_some]
    · rw [List.length_cons, Nat.add_mul, Nat.one_mul] at hk
      obtain ⟨p, q, hp, hq, hkk, hg⟩ := flat_getD (xs := r) (k := k - sz) (fun e he => h e (List.mem_cons_of_mem _ he)) (by omega)
      refine ⟨p + 1, q, by simpa using hp, hq, by rw [Nat.add_mul, Nat.one_mul]; omega, ?_⟩
      rw [List.getD_cons_succ, ← hg]
      simp only [List.flatten_cons, List.getD_eq_getElem?_getD, List.getElem?_append_right (show e.length ≤ k by omega), he]

/-- copy. -/
theorem does_copy (hT : TTok P T) {x y : Operand} {t t' e n len i off cnt : Nat} {Ml : Mem} {b : Blk} {K : List (List AV) → Prop} (hM : M = mget Ml) (ho : o.op = .call { callee := .builtin .copy, args := #[x, y], argTypes := #[t, t'] })
    (ht : T.d t = .slice e) (hok : (T.d e).ok = true) (hxx : ev F x = .vsl n len i off cnt) (hb : mget Ml n = some b) (hl : b.es.length = len) (hi : i < b.es.length) (hfit : off + cnt * T.s e ≤ b.sz)
    (hk : (∃ e, P.underlying t' = some (.slice e)) ∨ P.underlying t' = some .string) (hks : (∃ s, ev F y = .str s) → P.underlying t' = some .string) (hkl : (¬ ∃ s, ev F y = .str s) → ∃ e, P.underlying t' = some (.slice e)) (h : asrc Ml (T.s e) (ev F y) K) :
    ∃ xs, K xs ∧ Does P X o F M (.int .i64 ((min xs.length cnt : Nat) : Int)) [(n, ⟨b.ty, b.sz, b.es.set i (splice off ((xs.take cnt).flatten) (b.es.getD i []))⟩)] [] ∧ n ∈ (ev F x).names := by
  have hx : x ∈ o.op.operands.toList := by simp [ho, Op.operands, Call.operands]
  have hy : y ∈ o.op.operands.toList := by simp [ho, Op.operands, Call.operands]
  obtain ⟨D, it, z, hD, hf, _⟩ := hT t (by rw [ht]; simp)
  have hD' := fits_slice ht hf
  subst hD'
  obtain ⟨De, ie, _, hDe, hfe, hie, hes, _⟩ := hT e (TD.ok_ne hok)
  obtain ⟨xs, hkx, hsrc⟩ := asrc_sound (X := X) (o := o) hT hM hy hk hks hkl h
  obtain ⟨sl, hsl, hns⟩ := names_op (F := F) x hx (n := n) (by rw [hxx]; simp [AV.names])
  refine ⟨xs, hkx, ⟨fun p hp => .inr ⟨sl, hsl, by simp at hp; rw [hp]; exact hns⟩, fun M' N ρ I a w hW hU hN _ => ?_⟩, by rw [hxx]; simp [AV.names]⟩
  have r1 := rep_op hU x hx
  rw [hxx] at r1
  have hMn : M' n = some b := (hN sl hsl n hns).trans (by rw [hM]; exact hb)
  have hal : lens M' n = some (len, b.sz) := by rw [lens_some]; exact ⟨b, hMn, hl, rfl⟩
  obtain ⟨hn, g, cap, c, hρ, hv, _⟩ := rep_vsl r1 hal
  obtain ⟨vs, hS, hL, hPre⟩ := hsrc M' N ρ I a w hW hU hN
  have htl : (xs.take cnt).length = min cnt xs.length := List.length_take
  have hev : ∀ e' ∈ xs.take cnt, e'.length = T.s e := fun e' he => hL.2.1 e' (List.mem_of_mem_take he)
  have hfl := flat_len hev
  have hle : min xs.length cnt * T.s e ≤ cnt * T.s e := Nat.mul_le_mul_right _ (Nat.min_le_right _ _)
  have hle2 : min xs.length cnt * T.s e ≤ xs.length * T.s e := Nat.mul_le_mul_right _ (Nat.min_le_left _ _)
  rw [htl, Nat.min_comm] at hfl
  have hvl : (vs.take (min xs.length cnt * T.s e)).length = ((xs.take cnt).flatten).length := by
    rw [hfl, List.length_take, hL.1]; omega
  have hone : ∀ u ∈ vs.take (min xs.length cnt * T.s e), u.oneCell' = true := fun u hu => hL.one u (List.mem_of_mem_take hu)
  obtain ⟨hst, ρ1, E, W⟩ := blk_store (P := P) hW (off := off) (avs := (xs.take cnt).flatten) (vals := vs.take (min xs.length cnt * T.s e)) hMn hρ hi hvl hone (fun k hk' => by
      rw [hfl] at hk'
      obtain ⟨p, q, hp, hq, hkk, hg⟩ := flat_getD (xs := xs.take cnt) (k := k) hev (by rw [htl, Nat.min_comm]; exact hk')
      rw [htl] at hp
      obtain ⟨u, hu, _, hr⟩ := hL.2.2 p q (by omega) hq
      rw [hg]
      have e1 : (xs.take cnt).getD p [] = xs.getD p [] := by
        simp only [List.getD_eq_getElem?_getD, List.getElem?_take]
        rw [if_pos (by omega)]
      have e2 : (vs.take (min xs.length cnt * T.s e)).getD k default = u := by
        rw [List.getD_eq_getElem?_getD, List.getElem?_take, if_pos hk', hkk, hu]; rfl
      rw [e1, e2]; exact hr) (by rw [hfl]; omega)
  unfold Yield
  have hrun : (execOp a.eval o).run P w = .ok (.value (.int .i64 ((min xs.length cnt : Nat) : Int))) (w.setCells g (i * b.sz + off) (vs.take (min xs.length cnt * T.s e))) := by
    have hp := hPre (min xs.length cnt) (Nat.min_le_left _ _)
    rw [run_builtin_of ho]
    have e0 : (Array.map a.eval #[x, y]) = #[a.eval x, a.eval y] := by simp
    have em : Nat.min xs.length cnt = min xs.length cnt := rfl
    simp only [e0, builtin, hv, Builtin.copy_, Sem.run_bind, run_underlying hD, Result.andThen_ok, hS.len, run_sizeOf' hie, hes, em, hp, Sem.run_pure, List.toList_toArray, hst, goInt]
    simp [hst, run_underlying hD, hS.len, run_sizeOf' hie, hes, hp, goInt, em]
  rw [hrun]
  exact ⟨ρ1, I, E, W, .int _ _⟩

/-! ### make -/
theorem does_mks (hT : TTok P T) {n t e len : Nat} {x y : Operand} {k k' : IntKind} (ho : o.op = .makeSlice t x y) (ht : T.d t = .slice e) (hok : (T.d e).ok = true) (hs : solid (T.z e) = true) (hl : (cells (T.z e)).length = T.s e) (hz : T.s e ≠ 0)
    (hx : ev F x = .int k len) (hy : ev F y = .int k' len) (hlen : len ≤ big) : Does P X o F M (.osl n len) [(n, ⟨e, T.s e, List.replicate len (cells (T.z e))⟩)] [n] := by
  have hx' : x ∈ o.op.operands.toList := by simp [ho, Op.operands]
  have hy' : y ∈ o.op.operands.toList := by simp [ho, Op.operands]
  obtain ⟨D, it, z, hD, hf, hi, hsz, _⟩ := hT t (by rw [ht]; simp)
  have hD' := fits_slice ht hf
  subst hD'
  obtain ⟨_, ie, ze, _, _, hie, hes, hby, hze, hzz⟩ := hT e (TD.ok_ne hok)
  refine does_newrow (cap := len) (by simp) (fun M' N ρ I a w hW hU => ?_)
  have hc : CellsOk ρ (lens M') I w N (cells (T.z e)) ze.cells := by rw [hzz]; exact CellsOk.of_value (rep_ofV _ _ _ _ _ ze) (by rw [← hzz]; exact hs)
  have r1 := rep_int (hx ▸ rep_op hU x hx')
  have r2 := rep_int (hy ▸ rep_op hU y hy')
  have hmax : len ≤ maxLen := by simp only [maxLen, big] at *; omega
  have hrow := RowsOk.zeros (n := len) hc hl hz
  refine ⟨madeCells ze.cells (len * ie.size), ?_, by rw [size_madeCells, hes], Nat.le_refl _, hmax, by rw [hes]; exact hrow⟩
  have hb : (ie.bytes : Int) * (len : Int) ≤ 281474976710656 := by
    have h1 : ie.bytes * len ≤ 131072 * 1073741824 := Nat.mul_le_mul hby hlen
    have h2 : ((ie.bytes * len : Nat) : Int) ≤ 281474976710656 := by omega
    rwa [Int.natCast_mul] at h2
  have h3 := run_make (P := P) w t e ie ze hD hie hze k k' (len : Int) (len : Int) (by omega) (Int.le_refl _) hb (by simp only [big] at hlen; omega)
  simp only [execOp, ho, r1, r2, Sem.run_bind, h3, Result.andThen_ok, Sem.run_pure, Int.toNat_natCast]

/-! ### The bytes of a string -/
theorem does_s2b (hT : TTok P T) {n s t e : Nat} {x : Operand} {l : List UInt8} (ho : o.op = .convert s t x) (hs : T.d s = .str) (ht : T.d t = .slice e) (he : T.d e = .int .u8) (hx : ev F x = .str l) (hlen : l.length ≤ big) :
    Does P X o F M (.osl n l.length) [(n, ⟨e, 1, l.map fun c => [AV.int .u8 c.toNat]⟩)] [n] := by
  have hx' : x ∈ o.op.operands.toList := by simp [ho, Op.operands]
  obtain ⟨D, _, _, hDs, hf, _⟩ := hT s (by rw [hs]; simp)
  have := fits_str hs hf
  subst this
  obtain ⟨D, _, _, hDt, hf, _⟩ := hT t (by rw [ht]; simp)
  have := fits_slice ht hf
  subst this
  obtain ⟨D, _, _, hDe, hf, _⟩ := hT e (by rw [he]; simp)
  have := fits_int he hf
  subst this
  refine ⟨fun p hp => .inl (by simp at hp; simp [hp]), fun M' N ρ I ac w hW hU hN hF => ?_⟩
  have hn : ¬ N n := hF n (by simp)
  have r1 := rep_str (hx ▸ rep_op hU x hx')
  have hd : ∀ b0, M' n = some b0 → False := fun b0 h0 => hn (hW.blk n b0 h0).lt
  have hsz : (⟨l.toArray⟩ : ByteArray).size = l.length := by show l.toArray.size = _; simp
  have hge := grownCap_ge w l.length 0 e
  have hcm := grownCap_le_maxLen w l.length 0 e (by simp only [maxLen, big] at *; omega)
  have hcs : (Lib.bytesCells w e ⟨l.toArray⟩).size = grownCap w l.length 0 e := by
    simp only [Lib.bytesCells, Array.size_append, Array.size_map, Array.size_replicate, hsz, List.size_toArray]; omega
  have hrow : ∀ i j, i < l.length → j < 1 → ∃ u, (Lib.bytesCells w e ⟨l.toArray⟩)[i * 1 + j]? = some u ∧ u.oneCell' = true ∧ Rep ρ (lens M') I w N (((l.map fun c => [AV.int .u8 (c.toNat : Int)]).getD i []).getD j .bad) u := by
    intro i j hi hj
    have hj0 : j = 0 := by omega
    subst hj0
    refine ⟨.int .u8 (l[i].toNat : Int), ?_, rfl, ?_⟩
    · rw [Nat.mul_one, Nat.add_zero, Lib.bytesCells, Array.getElem?_append_left (by simpa using hi)]
      simp [hi]
    · have : ((l.map fun c => [AV.int .u8 (c.toNat : Int)]).getD i []).getD 0 .bad = .int .u8 (l[i].toNat : Int) := by simp [List.getD_eq_getElem?_getD, hi]
      rw [this]; exact .int _ _
  obtain ⟨E, W⟩ := hW.put (w' := Lib.bytesWorld w e ⟨l.toArray⟩) n ⟨e, 1, l.map fun c => [AV.int .u8 (c.toNat : Int)]⟩ w.heap.size (grownCap w l.length 0 e) (Lib.bytesCells w e ⟨l.toArray⟩) ((Lib.bytesCells w e ⟨l.toArray⟩).size, (Lib.bytesCells w e ⟨l.toArray⟩).size + 1)
    rfl rfl rfl (by rw [Lib.bytesWorld_size]; omega) (fun k hk _ => Lib.bytesWorld_at_old w e _ k hk) (Lib.bytesWorld_at_new w e _) (fun o h1 h2 => by omega)
    (.inl (Nat.le_refl _)) (fun b0 h0 => (hd b0 h0).elim) (fun h => (hn h).elim) (fun r hr => by obtain ⟨_, _, rfl⟩ := List.mem_map.1 hr; rfl) (by simpa using hge) hcm (by rw [hcs]; simp) (by simpa using hrow)
  unfold Yield
  have hrun : (execOp ac.eval o).run P w = .ok (.value (.slice (some ⟨w.heap.size, 0, none⟩) l.length (grownCap w l.length 0 e))) (Lib.bytesWorld w e ⟨l.toArray⟩) := by
    have := Lib.run_convert_string_bytes (P := P) w s t e ⟨l.toArray⟩ hDs hDt hDe
    simp only [execOp, ho, r1, Sem.run_bind, this, Result.andThen_ok, Sem.run_pure, hsz]
  rw [hrun]
  refine ⟨_, I, E, by rw [naddL_one]; exact W, ?_⟩
  refine rep_osl_mk (sz := 1) (.inr ⟨_, List.mem_singleton.2 rfl⟩) ?_ (by simp [pset])
  show lens (mupd M' n _) n = _
  rw [lens_mset, if_pos rfl]; simp

end Go.AM

/- The abstract machine 'AM', part 18: append of so many zeros. -/

namespace Go.AM
open Go.RowKit
variable {P : Program} {T : TT} {X : Ctx} {o : Oper} {F : Frm} {M : MemF}

section
variable {w : World} {t tx ty e : TypeId} {i : TypeInfo} {z : Value} {k k' : IntKind} {n : Nat}

theorem zeroCells_nil {zz : Array Value} {m : Nat} (h : m * zz.size = 0) : Builtin.zeroCells zz m = #[] := by
  simp [Builtin.zeroCells, h]

theorem wrap_small (h : n ≤ big) : IntKind.i64.wrap (n : Int) = n := by
  simp only [big] at h
  simp only [IntKind.wrap, IntKind.bits, IntKind.signed]; simp; omega

theorem run_appZ_room (ht : P.underlying t = some (.slice e)) (hx : P.underlying tx = some (.int k)) (hi : P.info? e = some i) (hz : i.zero = some z) (hzs : z.cells.size = i.size) (hn : n ≤ big) (hby : i.bytes ≤ 131072)
    (base : Option Addr) (sLen sCap : Nat) (hroom : sLen + n ≤ sCap) (w' : World)
    (hst : ∀ a, base = some a → (storeCells (a.add (sLen * i.size)) (Builtin.zeroCells z.cells n).toList).run P w = .ok () w') (h0 : base = none → w' = w) :
    (Builtin.append_ #[t, tx] ty #[.slice base sLen sCap, .int k' n]).run P w = .ok (.slice base (sLen + n) sCap) w' := by
  have h48 : ¬ (281474976710656 < (n : Int) * (i.bytes : Int)) := by
    have h1 : n * i.bytes ≤ 1073741824 * 131072 := Nat.mul_le_mul hn hby
    have h2 : ((n * i.bytes : Nat) : Int) ≤ 281474976710656 := by omega
    rw [Int.natCast_mul] at h2; omega
  have hneg : ¬ ((n : Int) < 0) := by omega
  have hap : (if n * i.size = 0 then (pure #[] : Sem (Array Value)) else do pure (Builtin.zeroCells (← zeroValue e).cells n)).run P w = .ok (Builtin.zeroCells z.cells n) w := by
    split
    · rename_i h
      rw [zeroCells_nil (by rw [hzs]; exact h)]; simp
    · simp [zeroValue, typeInfo, hi, hz]
  cases base with
  | none =>
    have := h0 rfl
    subst this
    simp [Builtin.append_, run_underlying ht, run_underlying hx, sizeOf, typeInfo, zeroValue, hz, hi, wrap_small hn, hneg, h48, hroom, asInt, asIntOf]
  | some a =>
    have hst := hst a rfl
    simp [Builtin.append_, run_underlying ht, run_underlying hx, sizeOf, typeInfo, zeroValue, hz, hi, wrap_small hn, hneg, h48, hroom, asInt, asIntOf] at hap hst ⊢
    by_cases h : n * i.size = 0
    · have h2 := hap h
      rw [h2] at hst
      simp [h, hst]
    · simp [h, hst]

theorem run_appZ_grow (ht : P.underlying t = some (.slice e)) (hx : P.underlying tx = some (.int k)) (hi : P.info? e = some i) (hz : i.zero = some z) (hzs : z.cells.size = i.size) (hn : n ≤ big) (hby : i.bytes ≤ 131072)
    (base : Option Addr) (sLen sCap : Nat) (olds : List Value) (hold : (Builtin.firstCells i.size sLen (.slice base sLen sCap)).run P w.drew = .ok olds.toArray w.drew)
    (hg : sCap < sLen + n) (h63 : ((sLen + n : Nat) : Int) ≤ 9223372036854775807) (hfit : Builtin.nextslicecap (sLen + n) sCap * i.bytes ≤ 281474976710656) :
    (Builtin.append_ #[t, tx] ty #[.slice base sLen sCap, .int k' n]).run P w = .ok (.slice (some ⟨w.heap.size, 0, none⟩) (sLen + n) (grownCap w (sLen + n) sCap e))
        (w.drew.alloc (.cells ((olds ++ (Builtin.zeroCells z.cells n).toList).toArray ++ Builtin.zeroCells z.cells (grownCap w (sLen + n) sCap e - (sLen + n))) e)) := by
  have h48 : ¬ (281474976710656 < (n : Int) * (i.bytes : Int)) := by
    have h1 : n * i.bytes ≤ 1073741824 * 131072 := Nat.mul_le_mul hn hby
    have h2 : ((n * i.bytes : Nat) : Int) ≤ 281474976710656 := by omega
    rw [Int.natCast_mul] at h2; omega
  have hneg : ¬ ((n : Int) < 0) := by omega
  have hnr : ¬ (sLen + n ≤ sCap) := by omega
  have h63' : ¬ (9223372036854775807 < ((sLen : Int) + (n : Int))) := by omega
  have h48' : ¬ (281474976710656 < Builtin.nextslicecap (sLen + n) sCap * i.bytes) := by omega
  have hap : (if n * i.size = 0 then (pure #[] : Sem (Array Value)) else do pure (Builtin.zeroCells (← zeroValue e).cells n)).run P w.drew = .ok (Builtin.zeroCells z.cells n) w.drew := by
    split
    · rename_i h
      rw [zeroCells_nil (by rw [hzs]; exact h)]; simp
    · simp [zeroValue, typeInfo, hi, hz]
  simp [Builtin.append_, run_underlying ht, run_underlying hx, sizeOf, typeInfo, zeroValue, hi, hz, wrap_small hn, hneg, h48, hnr, h63', h48', asInt, asIntOf, Question.forced, hold, newRow, grownCap] at hap ⊢
  by_cases h : n * i.size = 0
  · have h2 := hap h
    simp [h, h2]
  · simp [h]
    congr 2
    apply Array.ext'
    simp [List.append_assoc]
end

/-- The elements of so many zeros. -/
theorem zero_list {ρ : Place} {L : Lens} {I : Nat → Prop} {w : World} {N : Nat → Prop} {z : Value} {a : AV} {sz n : Nat} (h : CellsOk ρ L I w N (cells a) z.cells) (hl : (cells a).length = sz) (hpos : sz ≠ 0) :
    ListOk ρ L I w N sz (List.replicate n (cells a)) (Builtin.zeroCells z.cells n).toList := by
  have hz : z.cells.size = sz := by rw [h.1, hl]
  have hr := RowsOk.zeros (n := n) h hl hpos
  have e : Builtin.zeroCells z.cells n = (Array.range (n * sz)).map (z.cells[· % z.cells.size]!) := by simp only [Builtin.zeroCells, hz]
  rw [e]
  refine ⟨by simp, hr.2.1, fun i j hi hj => ?_⟩
  obtain ⟨u, hu, h1⟩ := hr.2.2 i j hi hj
  exact ⟨u, by rw [Array.getElem?_toList]; exact hu, h1⟩

/-- Append of so many zeros. -/
def aappendZ (T : TT) (t : Nat) (s x : AV) (S : St) (K : AV → Mem → Nat → Prop) : Prop :=
  match T.d t, x with
  | .slice e, .int _ m =>
    (match s with
    | .osl n len => alive S.M n len fun b => chk (b.sz == T.s e && b.ty == e) ((0 ≤ m ∧ len + m.toNat ≤ big) ∧
        K (.osl n (len + m.toNat)) (mset S.M n ⟨b.ty, b.sz, b.es ++ List.replicate m.toNat (cells (T.z e))⟩) S.nx)
    | .nils => (0 ≤ m ∧ m.toNat ≤ big) ∧ K (.osl S.nx m.toNat) (mset S.M S.nx ⟨e, T.s e, List.replicate m.toNat (cells (T.z e))⟩) (S.nx + 1)
    | _ => False)
  | _, _ => False

theorem does_appendZ (hT : TTok P T) {s x : Operand} {t t' nx : Nat} {Ml : Mem} {K : AV → Mem → Nat → Prop} (hM : M = mget Ml) (ho : o.op = .call { callee := .builtin .append, args := #[s, x], argTypes := #[t, t'] })
    (hok : ∀ e, T.d t = .slice e → (T.d e).ok = true ∧ solid (T.z e) = true ∧ (cells (T.z e)).length = T.s e ∧ T.s e ≠ 0) (hint : ∃ k, T.d t' = .int k)
    (h : aappendZ T t (ev F s) (ev F x) ⟨F, Ml, nx⟩ K) :
    ∃ av n b nw nx', Does P X o F M av [(n, b)] nw ∧ K av (mset Ml n b) nx' ∧ ((nw = [nx] ∧ nx' = nx + 1 ∧ n = nx) ∨ (nx' = nx ∧ nw = [] ∧ n ∈ (ev F s).names)) := by
  have hs : s ∈ o.op.operands.toList := by simp [ho, Op.operands, Call.operands]
  have hx : x ∈ o.op.operands.toList := by simp [ho, Op.operands, Call.operands]
  unfold aappendZ at h
  cases ht : T.d t with
  | slice e =>
    cases hxv : ev F x with
    | int kx m =>
      rw [ht, hxv] at h
      simp only at h
      obtain ⟨D, it, z0, hD, hf, _⟩ := hT t (by rw [ht]; simp)
      have hD' := fits_slice ht hf
      subst hD'
      obtain ⟨hoke, hsol, hcl, hpos⟩ := hok e ht
      obtain ⟨_, ie, z, _, _, hie, hes, hby, hz, hzz⟩ := hT e (TD.ok_ne hoke)
      obtain ⟨k', hk'⟩ := hint
      obtain ⟨D', _, _, hDx, hfx, _⟩ := hT t' (by rw [hk']; simp)
      have := fits_int hk' hfx
      subst this
      have hzs : z.cells.size = T.s e := by
        have := (CellsOk.of_value (ρ := fun _ => none) (L := fun _ => none) (I := fun _ => False) (w := default) (N := NoName) (rep_ofV _ _ _ _ _ z) (by rw [← hzz]; exact hsol)).1
        rw [this, ← hzz, hcl]
      have hzs' : z.cells.size = ie.size := by rw [hzs, hes]
      have hfit : ∀ need old, old < need → need ≤ big → Builtin.nextslicecap need old * ie.bytes ≤ 281474976710656 := fun need old h1 h2 => by
        refine growslice_fits h1 ?_
        calc need * ie.bytes ≤ big * 131072 := Nat.mul_le_mul h2 hby
          _ = 140737488355328 := by simp [big]
      have hcells : ∀ (ρ : Place) (L : Lens) (I : Nat → Prop) (w : World) (N : Nat → Prop), CellsOk ρ L I w N (cells (T.z e)) z.cells := fun ρ L I w N => by rw [hzz]; exact CellsOk.of_value (rep_ofV _ _ _ _ _ z) (by rw [← hzz]; exact hsol)
      cases hss : ev F s with
      | osl n len =>
        rw [hss] at h
        simp only [alive] at h
        cases hb : mget Ml n with
        | none => rw [hb] at h; exact h.elim
        | some b =>
          rw [hb] at h
          obtain ⟨hc1, h2⟩ := chk_elim h
          obtain ⟨hc2, ⟨hm0, hbig⟩, hk⟩ := chk_elim h2
          have hl : b.es.length = len := by simpa using hc1
          simp only [Bool.and_eq_true, beq_iff_eq] at hc2
          obtain ⟨hsz, hty⟩ := hc2
          generalize hmn : m.toNat = q at *
          obtain rfl : m = (q : Int) := by omega
          obtain ⟨sl, hsl, hns⟩ := names_op (F := F) s hs (n := n) (by rw [hss]; simp [AV.names])
          refine ⟨_, n, _, [], nx, ?_, hk, .inr ⟨rfl, rfl, by simp [AV.names]⟩⟩
          refine ⟨fun p hp => .inr ⟨sl, hsl, by simp at hp; rw [hp]; exact hns⟩, fun M' N ρ I a w hW hU hN _ => ?_⟩
          have hMn : M' n = some b := (hN sl hsl n hns).trans (by rw [hM]; exact hb)
          have hal : lens M' n = some (b.es.length, b.sz) := by rw [lens_some]; exact ⟨b, hMn, rfl, rfl⟩
          have hL := zero_list (n := q) (hcells ρ (lens M') I w N) hcl hpos
          have hqb : q ≤ big := by omega
          have r1 := rep_op hU s hs
          rw [hss] at r1
          have r2 := rep_int (hxv ▸ rep_op hU x hx)
          subst hl
          obtain ⟨hn, h2⟩ := rep_osl r1 hal
          unfold Yield
          rw [run_builtin_append ho, r2]
          rw [← hsz] at hL
          have hxl : (List.replicate q (cells (T.z e))).length = q := by simp
          rcases h2 with ⟨h0, r, hv⟩ | ⟨g, cap, hρ, hv⟩
          · have hB := hW.blk n b hMn
            have he : b.es = [] := hB.virt h0
            rw [hv]
            by_cases hx0 : q = 0
            · subst hx0
              have hz0 : (Builtin.zeroCells z.cells 0).toList = [] := by rw [zeroCells_nil (by simp)]
              have hrun := run_appZ_room (P := P) (w := w) (t := t) (tx := t') (ty := o.type) (k' := kx) hD hDx hie hz hzs' hqb hby r 0 0 (by simp) w (fun a ha => by rw [hz0]; simp [storeCells]) (fun _ => rfl)
              rw [hrun]
              refine ⟨ρ, I, ?_, ?_, ?_⟩
              · show Evo N ρ (lens M') I w ρ (lens (mupd M' n _)) I w
                have : (⟨b.ty, b.sz, b.es ++ List.replicate 0 (cells (T.z e))⟩ : Blk) = b := by cases b; simp
                rw [this, mupd_same hMn]; exact Evo.refl _ _ _ _ _
              · show Wok X ρ I (mupd M' n _) _ w
                have : (⟨b.ty, b.sz, b.es ++ List.replicate 0 (cells (T.z e))⟩ : Blk) = b := by cases b; simp
                rw [this, mupd_same hMn]
                have hN' : naddL N [(n, b)] = N := by
                  rw [naddL_one]; funext m; simp only [nadd, eq_iff_iff]
                  exact ⟨fun h => h.elim (fun e => e ▸ hn) id, .inr⟩
                rw [naddL_one] at hN' ⊢
                rw [hN']; exact hW
              · refine .osl n _ _ (.inl hn) rfl fun l sz' hl' => ?_
                have : (⟨b.ty, b.sz, b.es ++ List.replicate 0 (cells (T.z e))⟩ : Blk) = b := by cases b; simp
                rw [this] at hl'
                change lens (mupd M' n b) n = _ at hl'
                rw [lens_mset, if_pos rfl] at hl'
                simp at hl'
                exact ⟨by omega, fun _ => .inl ⟨h0, r, rfl⟩⟩
            · have hfc0 : (Builtin.firstCells ie.size 0 (.slice r 0 0)).run P w.drew = .ok #[] w.drew := by
                cases r with
                | none => exact run_firstCells_none w.drew ie.size 0 0 0
                | some a => exact run_firstCells_some w.drew ie.size 0 a 0 0 [] (by simp) (fun j v hv => by simp at hv)
              have hrun := run_appZ_grow (P := P) (w := w) (t := t) (tx := t') (ty := o.type) (k' := kx) (n := q) hD hDx hie hz hzs' hqb hby r 0 0 [] hfc0 (by omega) (by simp [big] at hqb ⊢; omega) (hfit _ _ (by omega) (by omega))
              rw [hrun]
              have hpost := app_grow (X := X) (e := e) (olds := []) (old := 0) (z := z) hW (fun _ => ⟨b, hMn⟩) (fun b0 h0 => by rw [hMn] at h0; cases h0; exact ⟨rfl, he⟩) (by rw [hxl]; omega) ⟨by simp, by simp, fun i j hi => by simp at hi⟩ hL (by rw [hzs, hsz]) (by rw [hxl]; simpa using hqb)
              have e1 : b.es.length + q = ([] : List (List AV)).length + (List.replicate q (cells (T.z e))).length := by rw [he, hxl]
              have e2 : (⟨b.ty, b.sz, b.es ++ List.replicate q (cells (T.z e))⟩ : Blk) = ⟨e, b.sz, [] ++ List.replicate q (cells (T.z e))⟩ := by rw [he, hty]
              have e3 : 0 + q = ([] : List (List AV)).length + (List.replicate q (cells (T.z e))).length := by rw [hxl]; rfl
              rw [e1, e2, e3]
              exact hpost
          · rw [hv]
            by_cases hroom : b.es.length + q ≤ cap
            · obtain ⟨g1, g2, g3⟩ := app_room hW hMn hρ hL (by rw [hxl]; exact hroom)
              have hone : ∀ u ∈ (Builtin.zeroCells z.cells q).toList, u.oneCell' = true := hL.one
              have hst := run_storeCells_cells (P := P) g (0 + b.es.length * b.sz) _ 0 w (by simpa using g1) (by simpa using g2) hone
              have hrun := run_appZ_room (P := P) (w := w) (t := t) (tx := t') (ty := o.type) (k' := kx) hD hDx hie hz hzs' hqb hby (some ⟨g, 0, none⟩) b.es.length cap hroom (w.setCells g (0 + b.es.length * b.sz) (Builtin.zeroCells z.cells q).toList)
                (fun a ha => by
                  cases ha
                  rw [addr_add, hes, ← hsz]
                  simpa using hst) (fun h => by cases h)
              rw [hrun]
              rw [hxl] at g3
              exact g3
            · have hB := hW.blk n b hMn
              obtain ⟨olds, ho1, ho2⟩ := hB.list hρ
              have hfc : (Builtin.firstCells ie.size b.es.length (.slice (some ⟨g, 0, none⟩) b.es.length cap)).run P w.drew = .ok olds.toArray w.drew :=
                run_firstCells_some (P := P) w.drew ie.size b.es.length _ _ _ _ (by rw [hes, ← hsz]; exact ho1.1) (fun k u hu => by rw [addr_add, Nat.zero_add]; exact ho2 k u hu)
              have hrun := run_appZ_grow (P := P) (w := w) (t := t) (tx := t') (ty := o.type) (k' := kx) (n := q) hD hDx hie hz hzs' hqb hby _ b.es.length cap olds hfc (by omega) (by simp [big] at hbig ⊢; omega) (hfit _ _ (by omega) hbig)
              rw [hrun]
              have hpost := app_grow (X := X) (e := e) (old := cap) (z := z) hW (fun _ => ⟨b, hMn⟩) (fun b0 h0 => by rw [hMn] at h0; cases h0; exact ⟨rfl, rfl⟩)
                (by
                  have hcap : b.es.length ≤ cap := by obtain ⟨_, _, _, _, _, _, hh, _⟩ := hB.real g cap hρ; exact hh
                  rw [hxl]; omega) ho1 hL (by rw [hzs, hsz]) (by rw [hxl]; exact hbig)
              rw [hxl] at hpost
              rw [← hty] at hpost ⊢
              exact hpost
      | nils =>
        rw [hss] at h
        obtain ⟨⟨hm0, hbig⟩, hk⟩ := h
        generalize hmn : m.toNat = q at *
        obtain rfl : m = (q : Int) := by omega
        refine ⟨_, nx, _, [nx], nx + 1, ?_, hk, .inl ⟨rfl, rfl, rfl⟩⟩
        refine ⟨fun p hp => .inl (by simp at hp; simp [hp]), fun M' N ρ I a w hW hU hN hF => ?_⟩
        have hn : ¬ N nx := hF nx (by simp)
        have hL := zero_list (n := q) (hcells ρ (lens M') I w N) hcl hpos
        have r1 := rep_op hU s hs
        have r2 := rep_int (hxv ▸ rep_op hU x hx)
        rw [hss] at r1
        generalize hv : a.eval s = v at r1
        cases r1
        unfold Yield
        rw [run_builtin_append ho, hv, r2]
        have hxl : (List.replicate q (cells (T.z e))).length = q := by simp
        by_cases hx0 : q = 0
        · subst hx0
          have hrun := run_appZ_room (P := P) (w := w) (t := t) (tx := t') (ty := o.type) (k' := kx) hD hDx hie hz hzs' hbig hby none 0 0 (by simp) w (fun a ha => by cases ha) (fun _ => rfl)
          rw [hrun]
          obtain ⟨E, W⟩ := hW.virt hn e (T.s e)
          refine ⟨_, I, E, by rw [naddL_one]; exact W, ?_⟩
          refine .osl nx _ _ (.inr ⟨_, List.mem_singleton.2 rfl⟩) rfl fun l sz' hl' => ?_
          change lens (mupd M' nx _) nx = _ at hl'
          rw [lens_mset, if_pos rfl] at hl'
          simp at hl'
          exact ⟨by omega, fun _ => .inl ⟨by simp, none, rfl⟩⟩
        · have hrun := run_appZ_grow (P := P) (w := w) (t := t) (tx := t') (ty := o.type) (k' := kx) (n := q) hD hDx hie hz hzs' hbig hby none 0 0 [] (run_firstCells_none w.drew ie.size 0 0 0) (by omega) (by simp [big] at hbig ⊢; omega) (hfit _ _ (by omega) (by omega))
          rw [hrun]
          have hpost := app_grow (X := X) (n := nx) (e := e) (olds := []) (es0 := []) (old := 0) (z := z) hW (fun h => (hn h).elim) (fun b0 h0 => (hn (hW.blk nx b0 h0).lt).elim) (by rw [hxl]; omega) ⟨by simp, by simp, fun i j hi => by simp at hi⟩ hL hzs (by rw [hxl]; simpa using hbig)
          have e1 : q = ([] : List (List AV)).length + (List.replicate q (cells (T.z e))).length := by rw [hxl]; simp
          have e2 : (⟨e, T.s e, List.replicate q (cells (T.z e))⟩ : Blk) = ⟨e, T.s e, [] ++ List.replicate q (cells (T.z e))⟩ := by simp
          have e3 : 0 + q = ([] : List (List AV)).length + (List.replicate q (cells (T.z e))).length := by rw [hxl]; rfl
          rw [e2, e3]
          show Post X M' N ρ I w (.osl nx q) _ _ _
          have : AV.osl nx q = .osl nx (([] : List (List AV)).length + (List.replicate q (cells (T.z e))).length) := by rw [← e1]
          rw [this]
          exact hpost
      | _ => rw [hss] at h; exact h.elim
    | _ => rw [ht, hxv] at h; exact h.elim
  | _ => rw [ht] at h; exact h.elim
end Go.AM

/- The reckoning machine 'IM', part 1: resolved code, and functions in continuation style, made to be reckoned by the unifier alone. -/

namespace Go.AM
open Go.RowKit

/-- The program, its types, and the numbers that functions and types have in it. -/
structure Env where
  P : Program
  T : TT
  ok : PT P T
  ft : Nat → Nat
  ty : Nat → Nat

/-- An operand: a slot, a constant, a function. -/
inductive Sc where
  | t (n : Nat)
  | k (v : AV)
  | f (g : Nat)

/-- An operation, all types resolved. -/
inductive IOp where
  | mv (x : Sc)
  | pick (c a b : Sc)
  | alloc (ty : Nat) (z : List AV)
  | box (ty : Nat) (x : Sc)
  | build (z : List AV) (ps : List (Nat × Nat × Sc))
  | bslice (ty sz len : Nat) (z : List AV) (ps : List (Nat × Sc))
  | load (ag : Bool) (n : Nat) (x : Sc)
  | store (n : Nat) (x v : Sc)
  | nilck (x : Sc)
  | bin (op : BinOp) (x y : Sc)
  | eqb (neg : Bool) (x y : Sc)
  | isn (neg : Bool) (x : Sc)
  | isnS (neg : Bool) (x : Sc)
  | clip0 (ty sz : Nat) (x : Sc)
  | eqa (neg : Bool) (ls : List LK) (x y : Sc)
  | bst (op : BinOp) (x y : Sc)
  | un (op : UnOp) (x : Sc)
  | conv (k : IntKind) (x : Sc)
  | sstr (x : Sc)
  | s2b (ty : Nat) (x : Sc)
  | b2s (x : Sc)
  | mkf (g : Nat) (cs : List Sc)
  | fldA (off : Nat) (x : Sc)
  | fldV (ag : Bool) (off n : Nat) (x : Sc)
  | idxS (sz : Nat) (x i : Sc)
  | idxA (m sz : Nat) (x i : Sc)
  | idxV (ag : Bool) (m sz : Nat) (x i : Sc)
  | idxT (x i : Sc)
  | slcS (ty sz : Nat) (x : Sc) (lo hi mx : Option Sc)
  | slcA (m sz : Nat) (x : Sc) (lo hi mx : Option Sc)
  | slcT (x : Sc) (lo hi : Option Sc)
  | ext (x : Sc) (i : Nat)
  | call (g : Nat) (as : List Sc)
  | callv (f : Sc) (as : List Sc)
  | callr (f : Sc) (as : List Sc)
  | callw (f : Sc) (as : List Sc)
  | callx (g : Nat) (as : List Sc)
  | lenA (n : Nat)
  | lenS (x : Sc)
  | lenT (x : Sc)
  | mm (mx : Bool) (as : List Sc)
  | app (ty sz : Nat) (s x : Sc)
  | appT (ty : Nat) (s x : Sc)
  | appZ (ty sz : Nat) (z : List AV) (s x : Sc)
  | mks (ty sz : Nat) (z : List AV) (l c : Sc)
  | copy (sz : Nat) (x y : Sc)

structure IOper where
  d : Option Nat
  g : Option (Nat × Bool)
  o : IOp

inductive ICode where
  | skip
  | ret
  | exit (id : Nat)
  | ops (l : List IOper)
  | draw (ms : List Nat) (us : List (List Nat)) (l : List IOper)
  | seq (a b : ICode)
  | cond (c : Sc) (a b : ICode)
  | block (id : Nat) (c : ICode)
  | loop (c : ICode)
  | keep (ls : List Nat) (c : ICode)
  | scope (c : ICode)

inductive IRes where
  | t (n : Nat)
  | cell (a : Nat) (ag : Bool) (n : Nat)

structure IFn where
  np : Nat
  rs : List IRes
  body : ICode

/-- A local block: a variable, or the elements of a slice. -/
inductive IBlk where
  | var (ty : Nat) (row : List AV)
  | arr (ty sz : Nat) (es : List (List AV))

def IBlk.blk : IBlk → Blk
  | .var ty row => ⟨ty, row.length, [row]⟩
  | .arr ty sz es => ⟨ty, sz, es⟩

abbrev IMem := List (Nat × IBlk)

def toM : IMem → Mem
  | [] => []
  | (n, b) :: r => (n, b.blk) :: toM r

/-! Heads: what is to be decided by the proof. -/
structure ACnd (b : Bool) (X Y : Prop) : Prop where
  t : b = true → X
  f : b = false → Y

structure IWr (k : IntKind) (n : Int) (K : Int → Prop) : Prop where
  h : K (wr k n)

structure EGet (es : List (List AV)) (i : Nat) (K : List AV → Prop) : Prop where
  h : K (es.getD i [])

/-- An index of an array, which is to be told as a number. -/
structure AIx (i : Int) (m : Nat) (K : Nat → Prop) : Prop where
  h : (0 ≤ i ∧ i < (m : Int)) ∧ K i.toNat

theorem ACnd.sound {b : Bool} {X Y : Prop} (h : ACnd b X Y) : (b = true ∧ X) ∨ (b = false ∧ Y) := by
  cases b
  · exact .inr ⟨rfl, h.f rfl⟩
  · exact .inl ⟨rfl, h.t rfl⟩

/-! Continuation style. -/
abbrev KS := Frm → IMem → Nat → Prop

def lookK : Frm → Nat → (AV → Prop) → Prop
  | [], _, K => K .bad
  | (j, v) :: r, i, K => bif Nat.beq i j then K v else lookK r i K

theorem beq_beq (a b : Nat) : Nat.beq a b = (a == b) := by
  by_cases h : a = b
  · subst h; simp
  · have : (a == b) = false := by simpa using h
    rw [this]; exact Bool.eq_false_iff.2 (fun e => h (Nat.eq_of_beq_eq_true e))

theorem lookK_eq : ∀ (F : Frm) (i : Nat) (K : AV → Prop), lookK F i K = K (look F i)
  | [], _, _ => rfl
  | (j, v) :: r, i, K => by
    simp only [lookK, look, beq_beq]
    cases i == j
    · exact lookK_eq r i K
    · rfl

def Env.cl (R : Env) (g : Nat) (cs : List AV) : AV := .clo (R.ft g) cs

def evK (R : Env) (F : Frm) : Sc → (AV → Prop) → Prop
  | .t n, K => lookK F n K
  | .k v, K => K v
  | .f g, K => K (R.cl g [])

def scv (R : Env) (F : Frm) : Sc → AV
  | .t n => look F n
  | .k v => v
  | .f g => R.cl g []

theorem evK_eq (R : Env) (F : Frm) (x : Sc) (K : AV → Prop) : evK R F x K = K (scv R F x) := by
  cases x
  · exact lookK_eq _ _ _
  · rfl
  · rfl

def evLK (R : Env) (F : Frm) : List Sc → (List AV → Prop) → Prop
  | [], K => K []
  | x :: r, K => evK R F x fun v => evLK R F r fun l => K (v :: l)

theorem evLK_eq (R : Env) (F : Frm) : ∀ (l : List Sc) (K : List AV → Prop), evLK R F l K = K (l.map (scv R F))
  | [], _ => rfl
  | x :: r, K => by simp only [evLK, evK_eq, evLK_eq R F r, List.map_cons]

def evOK (R : Env) (F : Frm) : Option Sc → (Option AV → Prop) → Prop
  | none, K => K none
  | some x, K => evK R F x fun v => K (some v)

theorem evOK_eq (R : Env) (F : Frm) (x : Option Sc) (K : Option AV → Prop) : evOK R F x K = K (x.map (scv R F)) := by
  cases x
  · rfl
  · simp only [evOK, evK_eq, Option.map_some]

def finK (d : Option Nat) (v : AV) (F : Frm) (M : IMem) (nx : Nat) (K : KS) : Prop :=
  match d with
  | none => K F M nx
  | some i => K ((i, v) :: F) M nx

/-- The frame, but for what is of no more use. -/
def keepK (F : Frm) : List Nat → (Frm → Prop) → Prop
  | [], K => K []
  | i :: r, K => lookK F i fun v => keepK F r fun F' => K ((i, v) :: F')

theorem keepK_elim {F : Frm} : ∀ {l : List Nat} {K : Frm → Prop}, keepK F l K → ∃ F', (∀ i, look F' i = look F i ∨ look F' i = .bad) ∧ K F'
  | [], K, h => ⟨[], fun _ => .inr rfl, h⟩
  | i :: r, K, h => by
    simp only [keepK, lookK_eq] at h
    obtain ⟨F', h1, h2⟩ := keepK_elim (l := r) (K := fun F' => K ((i, look F i) :: F')) h
    refine ⟨(i, look F i) :: F', fun j => ?_, h2⟩
    by_cases e : j = i
    · subst e; left; simp [look]
    · have : (j == i) = false := by simpa using e
      simp only [look, this, cond_false]
      exact h1 j

theorem finK_eq (d : Option Nat) (v : AV) (F : Frm) (M : IMem) (nx : Nat) (K : KS) : finK d v F M nx K = K (updF F d v) M nx := by cases d <;> rfl

def igetK : IMem → Nat → (IBlk → Prop) → Prop
  | [], _, _ => False
  | (m, b) :: r, n, K => bif Nat.beq n m then K b else igetK r n K

theorem igetK_elim : ∀ {M : IMem} {n : Nat} {K : IBlk → Prop}, igetK M n K → ∃ b, mget (toM M) n = some b.blk ∧ K b
  | [], _, _, h => h.elim
  | (m, b) :: r, n, K, h => by
    simp only [igetK, beq_beq] at h
    simp only [toM, mget]
    cases hb : n == m with
    | true => rw [hb] at h; exact ⟨b, rfl, h⟩
    | false => rw [hb] at h; exact igetK_elim (M := r) h

def isetK : IMem → Nat → IBlk → (IMem → Prop) → Prop
  | [], n, b, K => K [(n, b)]
  | (m, c) :: r, n, b, K => bif Nat.beq n m then K ((m, b) :: r) else isetK r n b fun r' => K ((m, c) :: r')

theorem isetK_elim : ∀ {M : IMem} {n : Nat} {b : IBlk} {K : IMem → Prop}, isetK M n b K → ∃ M', toM M' = mset (toM M) n b.blk ∧ K M'
  | [], n, b, K, h => ⟨_, rfl, h⟩
  | (m, c) :: r, n, b, K, h => by
    simp only [isetK, beq_beq] at h
    simp only [toM, mset]
    cases hb : n == m with
    | true => rw [hb] at h; exact ⟨_, rfl, h⟩
    | false =>
      rw [hb] at h
      obtain ⟨M', h1, h2⟩ := isetK_elim (M := r) (K := fun r' => K ((m, c) :: r')) h
      exact ⟨_, by simp only [toM, h1]; rfl, h2⟩

/-- A new block stands ahead of the others. -/
theorem toM_new (M : IMem) (n : Nat) (b : IBlk) : mget (toM ((n, b) :: M)) = mget (mset (toM M) n b.blk) := by
  funext m
  rw [mget_mset]
  simp only [toM, mget]
  by_cases h : m = n
  · subst h; simp
  · have : (m == n) = false := by simpa using h
    simp [this, h]

def takeK : Nat → List AV → (List AV → Prop) → Prop
  | 0, _, K => K []
  | n + 1, c :: r, K => takeK n r fun l => K (c :: l)
  | _ + 1, [], _ => False

theorem takeK_elim : ∀ {n : Nat} {cs : List AV} {K : List AV → Prop}, takeK n cs K → (cs.take n).length = n ∧ K (cs.take n)
  | 0, _, _, h => ⟨rfl, h⟩
  | n + 1, c :: r, K, h => by
    obtain ⟨h1, h2⟩ := takeK_elim (K := fun l => K (c :: l)) h
    exact ⟨by simp only [List.take_succ_cons, List.length_cons, h1], by simpa using h2⟩
  | _ + 1, [], _, h => h.elim

def headK (n : Nat) (cs : List AV) (K : AV → Prop) : Prop :=
  match n, cs with
  | 1, c :: _ => K c
  | _, _ => False

def partK0 (ag : Bool) (n : Nat) (cs : List AV) (K : AV → Prop) : Prop :=
  match ag with
  | true => takeK n cs fun l => K (.agg l)
  | false => headK n cs K

def partK (ag : Bool) (n : Nat) : Nat → List AV → (AV → Prop) → Prop
  | 0, cs, K => partK0 ag n cs K
  | off + 1, _ :: r, K => partK ag n off r K
  | _ + 1, [], _ => False

theorem partK_elim {ag : Bool} {n : Nat} : ∀ {off : Nat} {cs : List AV} {K : AV → Prop}, partK ag n off cs K → apart ag n off cs K
  | 0, cs, K, h => by
    simp only [partK, partK0] at h
    simp only [apart, List.drop_zero]
    cases ag with
    | true =>
      simp only at h
      obtain ⟨h1, h2⟩ := takeK_elim h
      exact chk_intro (by simp only [h1, beq_self_eq_true]) h2
    | false =>
      simp only [headK] at h
      split at h
      · exact chk_intro rfl (chk_intro rfl h)
      · exact False.elim h
  | off + 1, c :: r, K, h => by
    have := partK_elim (off := off) (cs := r) h
    simpa [apart] using this
  | _ + 1, [], _, h => h.elim

def overK : List AV → List AV → (List AV → Prop) → Prop
  | [], cs, K => K cs
  | v :: r, _ :: cs, K => overK r cs fun l => K (v :: l)
  | _ :: _, [], _ => False

def spliceK : Nat → List AV → List AV → (List AV → Prop) → Prop
  | 0, vs, cs, K => overK vs cs K
  | off + 1, vs, c :: cs, K => spliceK off vs cs fun l => K (c :: l)
  | _ + 1, _, [], _ => False

theorem overK_elim : ∀ {vs cs : List AV} {K : List AV → Prop}, overK vs cs K → vs.length ≤ cs.length ∧ K (vs ++ cs.drop vs.length)
  | [], cs, K, h => ⟨Nat.zero_le _, by simpa [overK] using h⟩
  | v :: r, c :: cs, K, h => by
    obtain ⟨h1, h2⟩ := overK_elim (vs := r) (cs := cs) (K := fun l => K (v :: l)) h
    exact ⟨by simpa using h1, by simpa using h2⟩
  | _ :: _, [], _, h => h.elim

theorem spliceK_elim : ∀ {off : Nat} {vs cs : List AV} {K : List AV → Prop}, spliceK off vs cs K → off + vs.length ≤ cs.length ∧ K (splice off vs cs)
  | 0, vs, cs, K, h => by
    obtain ⟨h1, h2⟩ := overK_elim h
    exact ⟨by omega, by simpa [splice] using h2⟩
  | off + 1, vs, c :: cs, K, h => by
    obtain ⟨h1, h2⟩ := spliceK_elim (off := off) (vs := vs) (cs := cs) (K := fun l => K (c :: l)) h
    refine ⟨by simp only [List.length_cons]; omega, ?_⟩
    have e : splice (off + 1) vs (c :: cs) = c :: splice off vs cs := by
      simp only [splice, List.take_succ_cons, List.cons_append]
      congr 3
      rw [show off + 1 + vs.length = (off + vs.length) + 1 by omega, List.drop_succ_cons]
    rw [e]; exact h2
  | _ + 1, _, [], _, h => h.elim

/-- The cells of a value. -/
def cellsK (v : AV) (K : List AV → Prop) : Prop :=
  match v with
  | .agg cs => K cs
  | .bad => False
  | .tup _ => False
  | .int k n => K [.int k n]
  | .bool b => K [.bool b]
  | .str s => K [.str s]
  | .nilp => K [.nilp]
  | .nils => K [.nils]
  | .nilf => K [.nilf]
  | .nili => K [.nili]
  | .loc n len i off => K [.loc n len i off]
  | .osl n len => K [.osl n len]
  | .vsl n len i off cnt => K [.vsl n len i off cnt]
  | .isl sz es => K [.isl sz es]
  | .iptr e off => K [.iptr e off]
  | .clo f cs => K [.clo f cs]

theorem cellsK_elim {v : AV} {K : List AV → Prop} (h : cellsK v K) : solid v = true ∧ K (cells v) := by
  cases v <;> first | exact ⟨rfl, h⟩ | exact h.elim

/-- So many. -/
def lenIs (vs : List AV) (n : Nat) (K : Prop) : Prop := bif Nat.beq vs.length n then K else False
theorem lenIs_elim {vs : List AV} {n : Nat} {K : Prop} (h : lenIs vs n K) : vs.length = n ∧ K := by
  unfold lenIs at h
  cases hb : Nat.beq vs.length n with
  | true => rw [hb] at h; exact ⟨Nat.eq_of_beq_eq_true hb, h⟩
  | false => rw [hb] at h; exact h.elim

def bldK (R : Env) (F : Frm) : List (Nat × Nat × Sc) → List AV → (List AV → Prop) → Prop
  | [], cs, K => K cs
  | (off, n, x) :: r, cs, K => evK R F x fun v => cellsK v fun vs => lenIs vs n (spliceK off vs cs fun cs' => bldK R F r cs' K)

def setK : Nat → List AV → List (List AV) → (List (List AV) → Prop) → Prop
  | 0, v, _ :: r, K => K (v :: r)
  | n + 1, v, e :: r, K => setK n v r fun l => K (e :: l)
  | _, _, [], _ => False

theorem setK_elim : ∀ {i : Nat} {v : List AV} {es : List (List AV)} {K : List (List AV) → Prop}, setK i v es K → i < es.length ∧ K (es.set i v)
  | 0, v, e :: r, K, h => ⟨by simp, h⟩
  | n + 1, v, e :: r, K, h => by
    obtain ⟨h1, h2⟩ := setK_elim (K := fun l => K (e :: l)) h
    exact ⟨by simpa using h1, by simpa using h2⟩
  | 0, _, [], _, h => h.elim
  | _ + 1, _, [], _, h => h.elim

def repK (z : List AV) : Nat → (List (List AV) → Prop) → Prop
  | 0, K => K []
  | n + 1, K => repK z n fun l => K (z :: l)

theorem repK_elim {z : List AV} : ∀ {n : Nat} {K : List (List AV) → Prop}, repK z n K → K (List.replicate n z)
  | 0, _, h => h
  | n + 1, K, h => by
    have := repK_elim (K := fun l => K (z :: l)) h
    simpa [List.replicate_succ] using this

/-- A row from a cell on; a row cut into elements. -/
def dropK : Nat → List AV → (List AV → Prop) → Prop
  | 0, r, K => K r
  | n + 1, _ :: r, K => dropK n r K
  | _ + 1, [], _ => False
def cutK : Nat → List AV → (List AV → List AV → Prop) → Prop
  | 0, r, K => K [] r
  | n + 1, c :: r, K => cutK n r fun l r' => K (c :: l) r'
  | _ + 1, [], _ => False
def chopK (sz : Nat) : Nat → List AV → (List (List AV) → Prop) → Prop
  | 0, _, K => K []
  | n + 1, r, K => cutK sz r fun l r' => chopK sz n r' fun es => K (l :: es)

theorem dropK_elim : ∀ {n : Nat} {r : List AV} {K : List AV → Prop}, dropK n r K → n ≤ r.length ∧ K (r.drop n)
  | 0, _, _, h => ⟨Nat.zero_le _, h⟩
  | n + 1, c :: r, K, h => by
    obtain ⟨h1, h2⟩ := dropK_elim (n := n) (r := r) h
    exact ⟨by simpa using h1, by simpa using h2⟩
  | _ + 1, [], _, h => h.elim
theorem cutK_elim : ∀ {n : Nat} {r : List AV} {K : List AV → List AV → Prop}, cutK n r K → n ≤ r.length ∧ K (r.take n) (r.drop n)
  | 0, _, _, h => ⟨Nat.zero_le _, h⟩
  | n + 1, c :: r, K, h => by
    obtain ⟨h1, h2⟩ := cutK_elim (n := n) (r := r) (K := fun l r' => K (c :: l) r') h
    exact ⟨by simpa using h1, by simpa using h2⟩
  | _ + 1, [], _, h => h.elim
theorem chopK_elim {sz : Nat} : ∀ {n : Nat} {r : List AV} {K : List (List AV) → Prop}, chopK sz n r K → n * sz ≤ r.length ∧ K (chop sz n r)
  | 0, _, _, h => ⟨by simp, h⟩
  | n + 1, r, K, h => by
    obtain ⟨h1, h2⟩ := cutK_elim h
    obtain ⟨h3, h4⟩ := chopK_elim (n := n) (r := r.drop sz) (K := fun es => K (r.take sz :: es)) h2
    refine ⟨?_, h4⟩
    rw [List.length_drop] at h3
    rw [Nat.add_mul, Nat.one_mul]; omega

def fillK (R : Env) (F : Frm) (sz : Nat) : List (Nat × Sc) → List (List AV) → (List (List AV) → Prop) → Prop
  | [], es, K => K es
  | (i, x) :: r, es, K => evK R F x fun v => cellsK v fun vs => lenIs vs sz (setK i vs es fun es' => fillK R F sz r es' K)

end Go.AM

/- The reckoning machine 'IM', part 1b: values when the local blocks are let go. -/


namespace Go.AM
open Go.RowKit
variable {X : Ctx}

theorem names_mem_namesL {cs : List AV} {j n : Nat} (hj : j < cs.length) (hn : n ∈ (cs.getD j .bad).names) : n ∈ AV.namesL cs := by
  induction cs generalizing j with
  | nil => simp at hj
  | cons c cs ih =>
    simp only [AV.namesL, List.mem_append]
    cases j with
    | zero => left; simpa using hn
    | succ j => right; exact ih (j := j) (by simpa using hj) (by simpa using hn)

/-- What a value may stand as when the local blocks are let go: nobody writes to them any more. -/
inductive Fz (D : Nat → Prop) (M : Mem) : AV → AV → Prop
  | same (v : AV) (h : v.names = []) : Fz D M v v
  | nils (sz : Nat) : Fz D M .nils (.isl sz [])
  | osl (n : Nat) (b : Blk) (es : List (List AV)) (hD : D n) (hb : mget M n = some b) (hl : es.length = b.es.length) (hs : ∀ i, i < es.length → (es.getD i []).length = (b.es.getD i []).length)
      (h : ∀ i j, i < es.length → j < b.sz → Fz D M ((b.es.getD i []).getD j .bad) ((es.getD i []).getD j .bad)) : Fz D M (.osl n b.es.length) (.isl b.sz es)
  | loc (n i off : Nat) (b : Blk) (row : List AV) (hD : D n) (hb : mget M n = some b) (hi : i < b.es.length) (hl : row.length = (b.es.getD i []).length)
      (h : ∀ j, j < b.sz → Fz D M ((b.es.getD i []).getD j .bad) (row.getD j .bad)) : Fz D M (.loc n b.es.length i off) (.iptr row off)
  | clo (f : Nat) (cs ds : List AV) (hl : ds.length = cs.length) (h : ∀ j, j < cs.length → Fz D M (cs.getD j .bad) (ds.getD j .bad)) : Fz D M (.clo f cs) (.clo f ds)
  | agg (cs ds : List AV) (hl : ds.length = cs.length) (h : ∀ j, j < cs.length → Fz D M (cs.getD j .bad) (ds.getD j .bad)) : Fz D M (.agg cs) (.agg ds)
  | tup (cs ds : List AV) (hl : ds.length = cs.length) (h : ∀ j, j < cs.length → Fz D M (cs.getD j .bad) (ds.getD j .bad)) : Fz D M (.tup cs) (.tup ds)

theorem namesL_nil_of : ∀ {cs : List AV}, (∀ j, j < cs.length → (cs.getD j .bad).names = []) → AV.namesL cs = []
  | [], _ => rfl
  | c :: r, h => by
    simp only [AV.namesL, List.append_eq_nil_iff]
    exact ⟨by simpa using h 0 (by simp), namesL_nil_of (fun j hj => by simpa using h (j + 1) (by simpa using hj))⟩

theorem Fz.names {D : Nat → Prop} {M : Mem} {v a : AV} (h : Fz D M v a) : a.names = [] := by
  induction h with
  | same v h => exact h
  | nils => rfl
  | osl => rfl
  | loc => rfl
  | clo f cs ds hl h ih => simp only [AV.names]; exact namesL_nil_of (fun j hj => ih j (by omega))
  | agg cs ds hl h ih => simp only [AV.names]; exact namesL_nil_of (fun j hj => ih j (by omega))
  | tup cs ds hl h ih => simp only [AV.names]; exact namesL_nil_of (fun j hj => ih j (by omega))

theorem Fz.sound {D : Nat → Prop} {M : Mem} {ρ : Place} {I : Nat → Prop} {w : World} {N : Nat → Prop} (hW : Wok X ρ I (mget M) N w) {v a : AV} (h : Fz D M v a) : ∀ {u : Value}, Rep ρ (lens (mget M)) I w N v u →
    Rep noPlace noLens (fun g => I g ∨ ∃ n cap b, D n ∧ mget M n = some b ∧ ρ n = some (g, cap)) w NoName a u := by
  have E : Evo N ρ (lens (mget M)) I w ρ (lens (mget M)) (fun g => I g ∨ ∃ n cap b, D n ∧ mget M n = some b ∧ ρ n = some (g, cap)) w := ⟨fun _ _ _ _ _ _ => rfl, fun _ len _ _ h => ⟨len, h, Nat.le_refl _⟩, fun b hb => .inl hb, fun _ _ => rfl⟩
  induction h with
  | same v h => exact fun hr => (hr.evo E (fun _ h => h)).alone h _ _
  | nils sz =>
    intro u hr
    cases hr
    exact .islNil _ _ _ (by simp [maxLen])
  | osl n b es hD hb hl hs h ih =>
    intro u hr
    have hal : lens (mget M) n = some (b.es.length, b.sz) := by rw [lens_some]; exact ⟨b, hb, rfl, rfl⟩
    have B := hW.blk n b hb
    obtain ⟨hn, ⟨h0, q, hv⟩ | ⟨g, cap, hρ, hv⟩⟩ := rep_osl hr hal
    · have he := B.virt h0
      rw [he] at hl
      have he' : es = [] := List.eq_nil_of_length_eq_zero (by simpa using hl)
      rw [hv, he']
      exact .islNil _ _ _ (by simp [maxLen])
    · obtain ⟨cs, fr, hg, hfr, hnI, hown, hlc, hcm, hcs, hcc⟩ := B.real g cap hρ
      rw [hv, ← hl]
      refine .isl b.sz es g 0 cap (fun i j => (cs[i * b.sz + j]?).getD undef) (by omega) hcm (.inr ⟨n, cap, b, hD, hb, hρ⟩) (fun e he => ?_) (fun i j hi hj => ?_) (fun i j hi hj => ?_) (fun i j hi hj => ?_)
      · obtain ⟨i, hi, rfl⟩ := List.getElem_of_mem he
        have h1 := hs i hi
        have h2 : es.getD i [] = es[i] := by simp [List.getD_eq_getElem?_getD, hi]
        have h3 : b.es.getD i [] = b.es[i]'(by omega) := by simp [List.getD_eq_getElem?_getD, show i < b.es.length by omega]
        rw [← h2, h1, h3]
        exact B.even _ (List.getElem_mem _)
      · obtain ⟨u, hu, h1, _⟩ := hcc i j (by omega) hj
        rw [hu]; exact h1
      · obtain ⟨u, hu, h1, _⟩ := hcc i j (by omega) hj
        simp only [World.cell?, hg, Nat.zero_add, hu]; rfl
      · obtain ⟨u, hu, h1, hr⟩ := hcc i j (by omega) hj
        rw [hu]
        exact ih i j hi hj hr
  | loc n i off b row hD hb hi hl h ih =>
    intro u hr
    have hal : lens (mget M) n = some (b.es.length, b.sz) := by rw [lens_some]; exact ⟨b, hb, rfl, rfl⟩
    have B := hW.blk n b hb
    obtain ⟨hn, g, cap, hρ, hv⟩ := rep_loc hr hal
    obtain ⟨cs, fr, hg, hfr, hnI, hown, hlc, hcm, hcs, hcc⟩ := B.real g cap hρ
    have hrow : (b.es.getD i []).length = b.sz := by
      have h3 : b.es.getD i [] = b.es[i] := by simp [List.getD_eq_getElem?_getD, hi]
      rw [h3]; exact B.even _ (List.getElem_mem _)
    rw [hv]
    refine .iptr row off g (i * b.sz) (fun j => (cs[i * b.sz + j]?).getD undef) (.inr ⟨n, cap, b, hD, hb, hρ⟩) (fun j hj => ?_) (fun j hj => ?_) (fun j hj => ?_)
    · obtain ⟨u, hu, h1, _⟩ := hcc i j hi (by omega)
      rw [hu]; exact h1
    · obtain ⟨u, hu, h1, _⟩ := hcc i j hi (by omega)
      simp only [World.cell?, hg, hu]; rfl
    · obtain ⟨u, hu, h1, hr⟩ := hcc i j hi (by omega)
      rw [hu]
      exact ih j (by omega) hr
  | clo f cs ds hl h ih =>
    intro u hr
    cases hr with
    | clo _ _ vs hvl hr => exact .clo f ds vs (by omega) (fun j hj => ih j (by omega) (hr j (by omega)))
  | agg cs ds hl h ih =>
    intro u hr
    cases hr with
    | agg _ vs hvl h1 hr => exact .agg ds vs (by omega) h1 (fun j hj => ih j (by omega) (hr j (by omega)))
  | tup cs ds hl h ih =>
    intro u hr
    cases hr with
    | tup _ vs hvl hr => exact .tup ds vs (by omega) (fun j hj => ih j (by omega) (hr j (by omega)))

end Go.AM

/- The reckoning machine 'IM', part 8: what a state may be taken for. -/

namespace Go.AM
open Go.RowKit
variable {R : Env} {X : Ctx}

/-- What a value may be taken for in a later state: M' are the blocks that go on; names from nx on are new. -/
inductive Mt (D : Nat → Prop) (M M' : Mem) (nx : Nat) : AV → AV → Prop
  | same (v : AV) : Mt D M M' nx v v
  | drop (v : AV) : Mt D M M' nx v .bad
  | fz (v a : AV) (h : Fz D M v a) : Mt D M M' nx v a
  | virt (n : Nat) (b : Blk) (hb : mget M' n = some b) (he : b.es = []) (hn : nx ≤ n) : Mt D M M' nx .nils (.osl n 0)
  | clo (f : Nat) (cs ds : List AV) (hl : ds.length = cs.length) (h : ∀ j, j < cs.length → Mt D M M' nx (cs.getD j .bad) (ds.getD j .bad)) : Mt D M M' nx (.clo f cs) (.clo f ds)
  | agg (cs ds : List AV) (hl : ds.length = cs.length) (h : ∀ j, j < cs.length → Mt D M M' nx (cs.getD j .bad) (ds.getD j .bad)) : Mt D M M' nx (.agg cs) (.agg ds)
  | tup (cs ds : List AV) (hl : ds.length = cs.length) (h : ∀ j, j < cs.length → Mt D M M' nx (cs.getD j .bad) (ds.getD j .bad)) : Mt D M M' nx (.tup cs) (.tup ds)

structure MtB (D : Nat → Prop) (M M' : Mem) (nx : Nat) (b b' : Blk) : Prop where
  ty : b.ty = b'.ty
  sz : b.sz = b'.sz
  len : b.es.length = b'.es.length
  row : ∀ i, i < b.es.length → (b.es.getD i []).length = (b'.es.getD i []).length
  cell : ∀ i j, i < b.es.length → j < b.sz → Mt D M M' nx ((b.es.getD i []).getD j .bad) ((b'.es.getD i []).getD j .bad)

def Und (nx : Nat) (b : Blk) : Prop := ∀ e ∈ b.es, AV.underL (· < nx) e

/-- The state S may be taken for S'. -/
structure Wk (X : Ctx) (S S' : St) : Prop where
  p : X.p ≤ S'.nx
  F : ∀ i, look S'.F i = .bad ∨ (Mt (fun n => X.p ≤ n ∧ mget S'.M n = none) S.M S'.M S.nx (look S.F i) (look S'.F i) ∧ (S.nx ≤ S'.nx ∨ (look S'.F i).under (· < S'.nx)))
  M : ∀ n b', mget S'.M n = some b' → ((∃ b, mget S.M n = some b ∧ MtB (fun n => X.p ≤ n ∧ mget S'.M n = none) S.M S'.M S.nx b b') ∧ (S.nx ≤ S'.nx ∨ (n < S'.nx ∧ Und S'.nx b'))) ∨ (mget S.M n = none ∧ S.nx ≤ n ∧ n < S'.nx ∧ b'.es = [])

def wkPl (S : St) (ρ : Place) : Place := fun n => if S.nx ≤ n then none else ρ n
def wkI (X : Ctx) (S S' : St) (ρ : Place) (I : Nat → Prop) : Nat → Prop := fun g => I g ∨ ∃ n cap b, (X.p ≤ n ∧ mget S'.M n = none) ∧ mget S.M n = some b ∧ ρ n = some (g, cap)

theorem wk_full {S S' : St} (h : Wk X S S') {w : World} {ρ : Place} {I : Nat → Prop} (W : Wok X ρ I (mget S.M) (· < S.nx) w) :
    Wok X (wkPl S ρ) (wkI X S S' ρ I) (mget S'.M) (· < S'.nx) w ∧ ∀ v a u, Rep ρ (lens (mget S.M)) I w (· < S.nx) v u → Mt (fun n => X.p ≤ n ∧ mget S'.M n = none) S.M S'.M S.nx v a → (S.nx ≤ S'.nx ∨ a.under (· < S'.nx)) → Rep (wkPl S ρ) (lens (mget S'.M)) (wkI X S S' ρ I) w (· < S'.nx) a u := by
  obtain ⟨hp, hF, hM⟩ := h
  let D : Nat → Prop := fun n => X.p ≤ n ∧ mget S'.M n = none
  let ρ' : Place := wkPl S ρ
  let I' : Nat → Prop := wkI X S S' ρ I
  have hlt : ∀ n b, mget S.M n = some b → n < S.nx := fun n b h => (W.blk n b h).lt
  have hlens : ∀ n len sz, n < S.nx → lens (mget S'.M) n = some (len, sz) → lens (mget S.M) n = some (len, sz) := by
    intro n len sz hn hl
    obtain ⟨b', hb', rfl, rfl⟩ := lens_some.1 hl
    rcases hM n b' hb' with ⟨⟨b, hb, hB⟩, _⟩ | ⟨_, h2, _⟩
    · exact lens_some.2 ⟨b, hb, hB.len, hB.sz⟩
    · omega
  have E : Evo (· < S.nx) ρ (lens (mget S.M)) I w ρ' (lens (mget S'.M)) I' w := by
    refine ⟨fun n _ _ hn _ _ => ?_, fun n len sz hn h => ⟨len, hlens n len sz hn h, Nat.le_refl _⟩, fun b hb => .inl hb, fun _ _ => rfl⟩
    have : ¬ S.nx ≤ n := by have : n < S.nx := hn; omega
    simp [ρ', wkPl, this]
  -- the names that may be about: all
  have rM : ∀ v a, Mt D S.M S'.M S.nx v a → ∀ u, Rep ρ (lens (mget S.M)) I w (· < S.nx) v u → Rep ρ' (lens (mget S'.M)) I' w (fun _ => True) a u := by
    intro v a hm
    induction hm with
    | same v => exact fun u hr => (hr.evo E (fun _ h => h)).wide (fun _ _ => trivial)
    | drop v => exact fun u _ => .bad u
    | fz v a h => exact fun u hr => ((h.sound W hr).bare (fun _ h => h) _ _).wide (fun _ h => h.elim)
    | virt n b hb he hn =>
      intro u hr
      cases hr
      refine .osl n 0 _ trivial rfl fun l sz hl => ?_
      obtain ⟨b', hb', rfl, rfl⟩ := lens_some.1 hl
      rw [hb] at hb'
      cases hb'
      rw [he]
      exact ⟨Nat.le_refl _, fun _ => .inl ⟨by simp [ρ', wkPl, hn], none, rfl⟩⟩
    | clo f cs ds hl h ih =>
      intro u hr
      cases hr with
      | clo _ _ vs hvl hr => exact .clo f ds vs (by omega) (fun j hj => ih j (by omega) _ (hr j (by omega)))
    | agg cs ds hl h ih =>
      intro u hr
      cases hr with
      | agg _ vs hvl h1 hr => exact .agg ds vs (by omega) h1 (fun j hj => ih j (by omega) _ (hr j (by omega)))
    | tup cs ds hl h ih =>
      intro u hr
      cases hr with
      | tup _ vs hvl hr => exact .tup ds vs (by omega) (fun j hj => ih j (by omega) _ (hr j (by omega)))
  have bound : ∀ v a, Mt D S.M S'.M S.nx v a → (∀ m ∈ v.names, m < S.nx) → S.nx ≤ S'.nx → ∀ m ∈ a.names, m < S'.nx := by
    intro v a hm
    induction hm with
    | same v => exact fun h hle m hm => by have := h m hm; omega
    | drop v => intro _ _ m hm; simp [AV.names] at hm
    | fz v a h => intro _ _ m hm; rw [h.names] at hm; simp at hm
    | virt n b hb he hn =>
      intro _ hle m hm
      simp [AV.names] at hm
      subst hm
      rcases hM m b hb with ⟨⟨b0, hb0, _⟩, _⟩ | ⟨_, _, h, _⟩
      · have := hlt m b0 hb0; omega
      · exact h
    | clo f cs ds hl h ih =>
      intro hv hle m hm
      simp only [AV.names] at hm
      obtain ⟨j, hj, hmj⟩ := mem_namesL hm
      exact ih j (by omega) (fun m hm => hv m (by simp only [AV.names]; exact names_mem_namesL (by omega) hm)) hle m hmj
    | agg cs ds hl h ih =>
      intro hv hle m hm
      simp only [AV.names] at hm
      obtain ⟨j, hj, hmj⟩ := mem_namesL hm
      exact ih j (by omega) (fun m hm => hv m (by simp only [AV.names]; exact names_mem_namesL (by omega) hm)) hle m hmj
    | tup cs ds hl h ih =>
      intro hv hle m hm
      simp only [AV.names] at hm
      obtain ⟨j, hj, hmj⟩ := mem_namesL hm
      exact ih j (by omega) (fun m hm => hv m (by simp only [AV.names]; exact names_mem_namesL (by omega) hm)) hle m hmj
  have low : ∀ v a u, Rep ρ (lens (mget S.M)) I w (· < S.nx) v u → Mt D S.M S'.M S.nx v a → (S.nx ≤ S'.nx ∨ a.under (· < S'.nx)) → Rep ρ' (lens (mget S'.M)) I' w (· < S'.nx) a u := by
    intro v a u hr hm h
    refine (rM v a hm u hr).low ?_
    rcases h with h | h
    · exact under_of_names a (fun m hm' => bound v a hm (fun m hm => rep_names hr m hm) h m hm')
    · exact h
  refine ⟨⟨fun n b' hb' => ?_, fun n m b b' g c c' hb hb' h1 h2 => ?_, fun g hg => .inl (W.imm g hg), ?_, ?_, W.keeps, fun n hn => by show n < S'.nx; omega, W.fp0, W.par_evo E⟩, low⟩
  · rcases hM n b' hb' with ⟨⟨b, hb, hB⟩, hu⟩ | ⟨h0, h1, hn, h2⟩
    · have B := W.blk n b hb
      have hnlt := hlt n b hb
      have hn : n < S'.nx := by rcases hu with h | h <;> omega
      have hu : S.nx ≤ S'.nx ∨ Und S'.nx b' := hu.imp id (fun h => h.2)
      have hρ' : wkPl S ρ n = ρ n := by simp only [wkPl]; rw [if_neg (by omega)]
      refine ⟨hn, fun e he => ?_, fun h0 => ?_, fun g cap hρ => ?_⟩
      · obtain ⟨i, hi, rfl⟩ := List.getElem_of_mem he
        have h1 : i < b.es.length := by have := hB.len; omega
        have h3 := hB.row i h1
        have h4 := B.even b.es[i] (List.getElem_mem _)
        rw [List.getD_eq_getElem?_getD, List.getD_eq_getElem?_getD, List.getElem?_eq_getElem hi, List.getElem?_eq_getElem h1, Option.getD_some, Option.getD_some] at h3
        have := hB.sz
        omega
      · rw [hρ'] at h0
        have h3 := B.virt h0
        have := hB.len
        rw [h3] at this
        exact List.eq_nil_of_length_eq_zero (by simpa using this.symm)
      · rw [hρ'] at hρ
        obtain ⟨cs, fr, hg, hfr, hnI, hown, hlc, hcm, hcs, hcc⟩ := B.real g cap hρ
        have e1 := hB.len
        have e2 := hB.sz
        refine ⟨cs, fr, by rw [← hB.ty]; exact hg, hfr, ?_, hown, by omega, hcm, by rw [← hB.sz]; exact hcs, fun i j hi hj => ?_⟩
        · rintro (h | ⟨m, c', bm, ⟨_, hdm⟩, hbm, hρm⟩)
          · exact hnI h
          · have := W.inj n m b bm g cap c' hb hbm hρ hρm
            subst this
            rw [hb'] at hdm; simp at hdm
        · obtain ⟨u, hu1, hu2, hr⟩ := hcc i j (by omega) (by omega)
          refine ⟨u, by rw [← hB.sz]; exact hu1, hu2, ?_⟩
          refine low _ _ _ hr (hB.cell i j (by omega) (by omega)) ?_
          rcases hu with hu | hu
          · exact .inl hu
          · right
            have hmem : b'.es.getD i [] ∈ b'.es := by
              rw [List.getD_eq_getElem?_getD, List.getElem?_eq_getElem hi, Option.getD_some]; exact List.getElem_mem _
            have hel : (b'.es.getD i []).length = b.sz := by
              rw [← hB.row i (by omega), List.getD_eq_getElem?_getD, List.getElem?_eq_getElem (show i < b.es.length by omega), Option.getD_some]
              exact B.even _ (List.getElem_mem _)
            exact AV.underL_getD _ _ (hu _ hmem) (by omega)
    · refine ⟨hn, fun e he => by rw [h2] at he; simp at he, fun _ => h2, fun g cap hρ => ?_⟩
      change wkPl S ρ n = _ at hρ
      simp only [wkPl, if_pos h1] at hρ
      simp at hρ
  · have o1 : S.nx ≤ n → False := fun h => by simp only [wkPl, if_pos h] at h1; simp at h1
    have o2 : S.nx ≤ m → False := fun h => by simp only [wkPl, if_pos h] at h2; simp at h2
    have e1 : ρ n = some (g, c) := by simpa [wkPl, show ¬ S.nx ≤ n from o1] using h1
    have e2 : ρ m = some (g, c') := by simpa [wkPl, show ¬ S.nx ≤ m from o2] using h2
    rcases hM n b hb with ⟨⟨b0, hb0, _⟩, _⟩ | ⟨_, h, _⟩
    · rcases hM m b' hb' with ⟨⟨b1, hb1, _⟩, _⟩ | ⟨_, h, _⟩
      · exact W.inj n m b0 b1 g c c' hb0 hb1 e1 e2
      · exact (o2 h).elim
    · exact (o1 h).elim
  · rintro g (hg | ⟨n, cap, b, _, hb, hρ⟩)
    · exact W.lt g hg
    · obtain ⟨cs, fr, hc, _⟩ := (W.blk n b hb).real g cap hρ
      exact (Array.getElem?_eq_some_iff.1 hc).1
  · rintro g hg (h | ⟨n, cap, b, ⟨hpn, _⟩, hb, hρ⟩)
    · exact W.old g hg h
    · obtain ⟨cs, fr, hc, _, _, hown, _⟩ := (W.blk n b hb).real g cap hρ
      rcases hown with ⟨h, _⟩ | h
      · exact absurd h (Nat.not_lt.2 hpn)
      · exact absurd hg (Nat.not_lt.2 h)

theorem wk_ok {S S' : St} (h : Wk X S S') {a : Act} {w : World} {ρ : Place} {I : Nat → Prop} (W : Wok X ρ I (mget S.M) (· < S.nx) w) (F : FrmOk ρ I w X S a) :
    Wok X (wkPl S ρ) (wkI X S S' ρ I) (mget S'.M) (· < S'.nx) w ∧ FrmOk (wkPl S ρ) (wkI X S S' ρ I) w X S' a := by
  obtain ⟨h1, low⟩ := wk_full h W
  refine ⟨h1, fun i => ?_, F.defers, F.size⟩
  rcases h.F i with h | ⟨hm, hu⟩
  · rw [h]; exact .bad _
  · exact low _ _ _ (F.rep i) hm hu

theorem sat_wk {S S' : St} (h : Wk X S S') {a : Act} {w : World} (hS : Sat X S a w) : Sat X S' a w := by
  obtain ⟨ρ, I, W, F⟩ := hS
  obtain ⟨W', F'⟩ := wk_ok h W F
  exact ⟨_, _, W', F'⟩

end Go.AM

/- The reckoning machine 'IM', part 2: what each operation does. -/

namespace Go.AM
open Go.RowKit

/-- The element i of a slice of length len. -/
structure AElt (es : List (List AV)) (len i : Nat) (K : List AV → Prop) : Prop where
  len : es.length = len
  h : K (es.getD i [])

/-- The number j of an array's value. -/
structure VIx (ag : Bool) (m sz : Nat) (cs : List AV) (j : Int) (K : AV → Prop) : Prop where
  lt : 0 ≤ j ∧ j < (m : Int)
  h : apart ag sz (j.toNat * sz) cs K

/-- A part of a list: it may be told in another way. -/
structure ASub {α : Type} (xs : List α) (K : List α → Prop) : Prop where
  h : K xs

/-- How many: told in another way. -/
structure ALen (es : List (List AV)) (K : Nat → Prop) : Prop where
  h : K es.length

/-- What is copied: the cells, told in another way, and how many elements. -/
structure ACp (es : List (List AV)) (cnt : Nat) (K : List AV → Nat → Prop) : Prop where
  h : K ((es.take cnt).flatten) (min es.length cnt)

/-- How many are made: told as a number. -/
structure AMk (a b : Int) (K : Nat → Prop) : Prop where
  h : (0 ≤ a ∧ a ≤ 1073741824 ∧ a = b) ∧ K a.toNat

/-- Bytes that are a string's. -/
structure AStr (es : List (List AV)) (K : List UInt8 → Prop) : Prop where
  h : ∃ s : List UInt8, es = s.map (fun c => [AV.int .u8 c.toNat]) ∧ K s

/-- A slice is held against nil: an empty one may be nil. -/
structure ANil {α : Type} (es : List α) (Y N : Prop) : Prop where
  y : es = [] → Y
  n : N

/-- A call: the machine stops here till a contract is given. -/
structure ICallL (R : Env) (X : Ctx) (f : Nat) (args : List AV) (F : Frm) (M : IMem) (nx : Nat) (d : Option Nat) (K : KS) : Prop where
  body : HasBody R.P f
  h : ∃ av ws nw nx' M', CallL R.P X f args (mget (toM M)) av ws nw ∧ (nx ≤ nx' ∧ ∀ n ∈ nw, nx ≤ n ∧ n < nx') ∧ mget (toM M') = mget (msets (toM M) ws) ∧ finK d av F M' nx' K

/-- A call, told by what it does to the whole state. -/
structure ICallG (R : Env) (X : Ctx) (f : Nat) (args : List AV) (F : Frm) (M : IMem) (nx : Nat) (d : Option Nat) (K : KS) : Prop where
  body : HasBody R.P f
  h : ∃ F' M' nx', K F' M' nx' ∧ ∀ ρ I (a : Act) w vs, (∀ x, d = some x → x < X.size) → Wok X ρ I (mget (toM M)) (· < nx) w → FrmOk ρ I w X ⟨F, toM M, nx⟩ a → RepL ρ (lens (mget (toM M))) I w (· < nx) args vs →
    Calls R.P f vs.toArray w fun e w1 => ∃ v, e = .returned v ∧ Sat X ⟨F', toM M', nx'⟩ (a.put d v) w1

/-- A call that leaves all local blocks as they were. -/
structure ICallR (R : Env) (X : Ctx) (f : Nat) (args : List AV) (F : Frm) (M : IMem) (nx : Nat) (d : Option Nat) (K : KS) : Prop where
  body : HasBody R.P f
  h : ∃ av ws nw nx' M', CallL R.P X f args (mget (toM M)) av ws nw ∧ (∀ p ∈ ws, p.1 ∈ nw) ∧ (nx ≤ nx' ∧ ∀ n ∈ nw, nx ≤ n ∧ n < nx') ∧ mget (toM M') = mget (msets (toM M) ws) ∧ finK d av F M' nx' K

/-- The names that are written in the row of a local variable. -/
def rch1 : IMem → Nat → List Nat
  | [], _ => []
  | (m, b) :: r, n => bif Nat.beq n m then (match b with
    | .var _ row => AV.namesL row
    | .arr _ _ _ => []) else rch1 r n
def rch (M : IMem) : List Nat → List Nat
  | [] => []
  | n :: r => n :: (rch1 M n ++ rch M r)
/-- A call that may look into what its arguments name, and into what the variables that they name have. -/
structure ICallW (R : Env) (X : Ctx) (f : Nat) (args : List AV) (F : Frm) (M : IMem) (nx : Nat) (d : Option Nat) (K : KS) : Prop where
  body : HasBody R.P f
  h : ∃ av ws nw nx' M', CallR R.P X f args (rch M (AV.namesL args)) (mget (toM M)) av ws nw ∧ (nx ≤ nx' ∧ ∀ n ∈ nw, nx ≤ n ∧ n < nx') ∧ mget (toM M') = mget (msets (toM M) ws) ∧ finK d av F M' nx' K

/-- A call of a function that has no body: the model's entry answers at once. -/
def XCalls (P : Program) (f : Nat) (args : List AV) (av : AV) : Prop :=
  ∀ (ρ : Place) (L : Lens) (I : Nat → Prop) (N : Nat → Prop) (w : World) (vs : List Value), RepL ρ L I w N args vs → ∃ v, (callFunc f vs.toArray).run P w = .ok (.value v) w ∧ Rep ρ L I w N av v
structure ICallX (R : Env) (f : Nat) (args : List AV) (F : Frm) (M : IMem) (nx : Nat) (d : Option Nat) (K : KS) : Prop where
  h : ∃ av, XCalls R.P f args av ∧ finK d av F M nx K

structure ICall (R : Env) (X : Ctx) (lo : Bool) (f : Nat) (args : List AV) (F : Frm) (M : IMem) (nx : Nat) (d : Option Nat) (K : KS) : Prop where
  h : ICallL R X f args F M nx d K ∨ (lo = false ∧ ICallG R X f args F M nx d K)

def pickK (v : AV) (X Y : Prop) : Prop :=
  match v with
  | .bool t => True → ACnd t X Y
  | _ => False

/-- The block is alive, of length len. -/
def aliveK (M : IMem) (n len : Nat) (K : IBlk → Prop) : Prop :=
  igetK M n fun b => match b with
    | .var ty row => bif Nat.beq len 1 then K (.var ty row) else False
    | .arr ty sz es => True → es.length = len ∧ K (.arr ty sz es)

def loadK (ag : Bool) (n : Nat) (v : AV) (M : IMem) (K : AV → Prop) : Prop :=
  match v with
  | .loc nm len i off => igetK M nm fun b => match b with
    | .var _ row => bif Nat.beq len 1 then (bif Nat.beq i 0 then partK ag n off row K else False) else False
    | .arr _ _ es => True → AElt es len i fun row => partK ag n off row K
  | .iptr e off => partK ag n off e K
  | _ => False

def storeK (a : AV) (cs : List AV) (M : IMem) (K : IMem → Prop) : Prop :=
  match a with
  | .loc nm len i off => igetK M nm fun b => match b with
    | .var ty row => bif Nat.beq len 1 then (bif Nat.beq i 0 then spliceK off cs row fun row' => isetK M nm (.var ty row') K else False) else False
    | .arr ty sz es => True → AElt es len i fun row => spliceK off cs row fun row' => isetK M nm (.arr ty sz (es.set i row')) K
  | _ => False

def keqK (k k' : IntKind) (X : Prop) : Prop := bif keq k k' then X else False

def binK (op : BinOp) (v u : AV) (K : AV → Prop) : Prop :=
  match v, u with
  | .int k a, .int k' b =>
    match op with
    | .shl => True → 0 ≤ b ∧ K (.int k (shlI k a b))
    | .shr => True → 0 ≤ b ∧ K (.int k (shrI k a b))
    | .add => keqK k k' (True → IWr k (a + b) fun m => K (.int k m))
    | .sub => keqK k k' (True → IWr k (a - b) fun m => K (.int k m))
    | .mul => keqK k k' (True → IWr k (a * b) fun m => K (.int k m))
    | .quo => keqK k k' (True → b ≠ 0 ∧ (True → IWr k (a.tdiv b) fun m => K (.int k m)))
    | .rem => keqK k k' (True → b ≠ 0 ∧ K (.int k (a.tmod b)))
    | .and => keqK k k' (K (.int k (bit2 .and k a b)))
    | .or => keqK k k' (K (.int k (bit2 .or k a b)))
    | .xor => keqK k k' (K (.int k (bit2 .xor k a b)))
    | .andNot => keqK k k' (K (.int k (bit2 .andNot k a b)))
    | .eql => keqK k k' (K (.bool (a == b)))
    | .neq => keqK k k' (K (.bool (a != b)))
    | .lss => keqK k k' (K (.bool (decide (a < b))))
    | .leq => keqK k k' (K (.bool (decide (a ≤ b))))
    | .gtr => keqK k k' (K (.bool (decide (a > b))))
    | .geq => keqK k k' (K (.bool (decide (a ≥ b))))
  | _, _ => False

def eqcK (l : LK) (a b : AV) (K : Bool → Prop) : Prop :=
  match l, a, b with
  | .i, .int k x, .int k' y => bif keq k k' then K (x == y) else False
  | .b, .bool x, .bool y => K (x == y)
  | .s, .str x, .str y => K (x == y)
  | _, _, _ => False

def eqaK : List LK → List AV → List AV → (Bool → Prop) → Prop
  | l :: r, a :: as, b :: bs, K => eqcK l a b fun t => (match r with
    | [] => eqaK r as bs fun _ => K t
    | _ => eqaK r as bs fun u => K (t && u))
  | [], [], [], K => K true
  | _, _, _, _ => False

def negK (neg : Bool) (K : AV → Prop) (r : Bool) : Prop :=
  match neg with
  | true => K (.bool !r)
  | false => K (.bool r)

def bstK (op : BinOp) (a b : List UInt8) (K : AV → Prop) : Prop :=
  match op with
  | .add => True → (a.length + b.length ≤ 9223372036854775807) ∧ K (.str (a ++ b))
  | .eql => K (.bool (a == b))
  | .neq => K (.bool !(a == b))
  | .lss => K (.bool (Op.bytesLess a b))
  | .leq => K (.bool (Op.bytesLess a b || a == b))
  | .gtr => K (.bool !(Op.bytesLess a b || a == b))
  | .geq => K (.bool !(Op.bytesLess a b))
  | _ => False

def unK (op : UnOp) (v : AV) (K : AV → Prop) : Prop :=
  match op, v with
  | .neg, .int k n => True → IWr k (0 - n) fun m => K (.int k m)
  | .xor, .int k n => K (.int k (bit2 .xor k (if k.signed then -1 else k.max) n))
  | .not, .bool b => K (.bool !b)
  | _, _ => False

def idxSK (sz : Nat) (v ix : AV) (M : IMem) (K : AV → Prop) : Prop :=
  match ix with
  | .int _ j => (match v with
    | .isl s es => bif Nat.beq s sz then (True → (0 ≤ j ∧ j < es.length) ∧ (True → EGet es j.toNat fun row => K (.iptr row 0))) else False
    | .osl nm len => igetK M nm fun b => (match b with
      | .arr _ s es => bif Nat.beq s sz then (True → (es.length = len ∧ 0 ≤ j ∧ j < len) ∧ K (.loc nm len j.toNat 0)) else False
      | .var .. => False)
    | .vsl nm len i off cnt => aliveK M nm len fun _ => True → AIx j cnt fun c => K (.loc nm len i (off + c * sz))
    | _ => False)
  | _ => False

def idxAK (m sz : Nat) (v ix : AV) (M : IMem) (K : AV → Prop) : Prop :=
  match ix with
  | .int _ j => (match v with
    | .loc nm len i off => aliveK M nm len fun _ => True → AIx j m fun c => K (.loc nm len i (off + c * sz))
    | .iptr row off => True → AIx j m fun c => K (.iptr row (off + c * sz))
    | _ => False)
  | _ => False

def mmF (mx : Bool) (k : IntKind) (a : Int) : List AV → (AV → Prop) → Prop
  | [], K => K (.int k a)
  | .int _ b :: r, K => (match mx with
    | true => mmF mx k (max a b) r K
    | false => mmF mx k (min a b) r K)
  | _, _ => False

def mmK (mx : Bool) (as : List AV) (K : AV → Prop) : Prop :=
  match as with
  | .int k a :: r => mmF mx k a r K
  | _ => False

/-- The elements that 'append' takes. -/
def asrcK (sz : Nat) (x : AV) (M : IMem) (K : List (List AV) → Prop) : Prop :=
  match x with
  | .isl s es => bif Nat.beq s sz then K es else False
  | .nils => K []
  | .osl n len => igetK M n fun b => (match b with
    | .arr _ s es => bif Nat.beq s sz then (True → es.length = len ∧ K es) else False
    | .var .. => False)
  | .vsl n len i off cnt => igetK M n fun b => (match b with
    | .var _ row => bif Nat.beq len 1 then (bif Nat.beq i 0 then (bif Nat.beq sz 0 then False else dropK off row fun r => chopK sz cnt r K) else False) else False
    | .arr .. => False)
  | _ => False

/-- Elements copied into a part of a variable. -/
def copyK (sz : Nat) (v : AV) (M : IMem) (src : (List (List AV) → Prop) → Prop) (K : Nat → IMem → Prop) : Prop :=
  match v with
  | .vsl n len i off cnt => igetK M n fun b => (match b with
    | .var ty row => bif Nat.beq len 1 then (bif Nat.beq i 0 then (bif Nat.ble (off + cnt * sz) row.length then src fun xs => True → ACp xs cnt fun vs k => spliceK off vs row fun row' => isetK M n (.var ty row') fun M' => K k M' else False) else False) else False
    | .arr .. => False)
  | _ => False

def asrcTK (x : AV) (K : List (List AV) → Prop) : Prop :=
  match x with
  | .str s => K (s.map fun c => [.int .u8 c.toNat])
  | _ => False

def appK (ty sz : Nat) (s : AV) (src : (List (List AV) → Prop) → Prop) (M : IMem) (nx : Nat) (K : AV → IMem → Nat → Prop) : Prop :=
  match s with
  | .osl n len => igetK M n fun b => (match b with
    | .arr t z es => bif Nat.beq z sz then (True → (t = ty ∧ es.length = len) ∧ src fun xs => True → es.length + xs.length ≤ 1073741824 ∧ isetK M n (.arr t z (es ++ xs)) fun M' => K (.osl n (es ++ xs).length) M' nx) else False
    | .var .. => False)
  | .nils => src fun xs => True → xs.length ≤ 1073741824 ∧ K (.osl nx xs.length) ((nx, .arr ty sz xs) :: M) (nx + 1)
  | _ => False

/-- So many zeros behind a slice. -/
def appZK (ty sz : Nat) (z : List AV) (s x : AV) (M : IMem) (nx : Nat) (K : AV → IMem → Nat → Prop) : Prop :=
  match x with
  | .int _ m => (match s with
    | .osl n len => igetK M n fun b => (match b with
      | .arr t q es => bif Nat.beq q sz then (True → (t = ty ∧ es.length = len) ∧ (True → AMk m m fun k => True → es.length + k ≤ 1073741824 ∧ isetK M n (.arr t q (es ++ List.replicate k z)) fun M' => K (.osl n (es ++ List.replicate k z).length) M' nx)) else False
      | .var .. => False)
    | .nils => True → AMk m m fun k => K (.osl nx k) ((nx, .arr ty sz (List.replicate k z)) :: M) (nx + 1)
    | _ => False)
  | _ => False

def slcSK (sz : Nat) (v : AV) (lo hi mx : Option AV) (K : AV → Prop) : Prop :=
  match v with
  | .isl s es => bif Nat.beq s sz then (match lo, hi, mx with
    | none, some (.int _ h), none => True → (0 ≤ h ∧ h ≤ es.length) ∧ (True → ASub (es.take h.toNat) fun xs => K (.isl sz xs))
    | some (.int _ l), none, none => True → (0 ≤ l ∧ l ≤ es.length) ∧ (True → ASub (es.drop l.toNat) fun xs => K (.isl sz xs))
    | some (.int _ l), some (.int _ h), none => True → (0 ≤ l ∧ l ≤ h ∧ h ≤ es.length) ∧ (True → ASub ((es.take h.toNat).drop l.toNat) fun xs => K (.isl sz xs))
    | none, some (.int _ h), some (.int _ m) => True → (0 ≤ h ∧ h ≤ m ∧ m ≤ es.length) ∧ (True → ASub (es.take h.toNat) fun xs => K (.isl sz xs))
    | _, _, _ => False) else False
  | _ => False

def slcTK (v : AV) (lo hi : Option AV) (K : AV → Prop) : Prop :=
  match v with
  | .str s => (match lo, hi with
    | none, some (.int _ h) => True → (0 ≤ h ∧ h ≤ s.length) ∧ (True → ASub (s.take h.toNat) fun xs => K (.str xs))
    | some (.int _ l), none => True → (0 ≤ l ∧ l ≤ s.length) ∧ (True → ASub (s.drop l.toNat) fun xs => K (.str xs))
    | some (.int _ l), some (.int _ h) => True → (0 ≤ l ∧ l ≤ h ∧ h ≤ s.length) ∧ (True → ASub ((s.take h.toNat).drop l.toNat) fun xs => K (.str xs))
    | _, _ => False)
  | _ => False

def lenSK (v : AV) (M : IMem) (K : AV → Prop) : Prop :=
  match v with
  | .isl _ es => True → ALen es fun n => K (.int .i64 n)
  | .osl n len => aliveK M n len fun _ => K (.int .i64 len)
  | .vsl n len _ _ cnt => aliveK M n len fun _ => K (.int .i64 cnt)
  | .nils => K (.int .i64 0)
  | _ => False

/-- A cell out of a tuple. -/
def extK : Nat → List AV → (AV → Prop) → Prop
  | 0, v :: _, K => K v
  | n + 1, _ :: r, K => extK n r K
  | _, [], _ => False

def iop (R : Env) (X : Ctx) (lo : Bool) (i : IOp) (d : Option Nat) (F : Frm) (M : IMem) (nx : Nat) (K : KS) : Prop :=
  match i with
  | .mv x => evK R F x fun v => finK d v F M nx K
  | .pick c a b => evK R F c fun v => pickK v (evK R F a fun u => finK d u F M nx K) (evK R F b fun u => finK d u F M nx K)
  | .alloc ty z => finK d (.loc nx 1 0 0) F ((nx, .var (R.ty ty) z) :: M) (nx + 1) K
  | .box ty x => evK R F x fun v => cellsK v fun cs => finK d (.loc nx 1 0 0) F ((nx, .var (R.ty ty) cs) :: M) (nx + 1) K
  | .build z ps => bldK R F ps z fun cs => finK d (.agg cs) F M nx K
  | .bslice ty sz len z ps => repK z len fun es => fillK R F sz ps es fun es' => finK d (.osl nx len) F ((nx, .arr (R.ty ty) sz es') :: M) (nx + 1) K
  | .load ag n x => evK R F x fun v => loadK ag n v M fun u => finK d u F M nx K
  | .store n x v => evK R F x fun a => evK R F v fun u => cellsK u fun cs => lenIs cs n (storeK a cs M fun M' => finK d (.tup []) F M' nx K)
  | .nilck x => evK R F x fun v => (match v with
    | .loc nm len i q => aliveK M nm len fun _ => finK d (.loc nm len i q) F M nx K
    | .iptr e q => finK d (.iptr e q) F M nx K
    | .clo f cs => finK d (.clo f cs) F M nx K
    | _ => False)
  | .bin op x y => evK R F x fun v => evK R F y fun u => binK op v u fun r => finK d r F M nx K
  | .eqb neg x y => evK R F x fun v => evK R F y fun u => (match v, u with
    | .bool a, .bool b => (match neg with
      | true => finK d (.bool (a != b)) F M nx K
      | false => finK d (.bool (a == b)) F M nx K)
    | _, _ => False)
  | .eqa neg ls x y => evK R F x fun v => evK R F y fun u => (match v, u with
    | .agg as, .agg bs => eqaK ls as bs (negK neg fun r => finK d r F M nx K)
    | _, _ => False)
  | .bst op x y => evK R F x fun v => evK R F y fun u => (match v, u with
    | .str a, .str b => bstK op a b fun r => finK d r F M nx K
    | _, _ => False)
  | .un op x => evK R F x fun v => unK op v fun r => finK d r F M nx K
  | .conv k x => evK R F x fun v => (match v with
    | .int _ n => True → IWr k n fun m => finK d (.int k m) F M nx K
    | _ => False)
  | .sstr x => evK R F x fun v => (match v with
    | .str s => finK d (.str s) F M nx K
    | _ => False)
  | .mkf g cs => evLK R F cs fun l => finK d (R.cl g l) F M nx K
  | .fldA off x => evK R F x fun v => (match v with
    | .loc nm len i q => aliveK M nm len fun _ => finK d (.loc nm len i (q + off)) F M nx K
    | .iptr e q => finK d (.iptr e (q + off)) F M nx K
    | _ => False)
  | .idxS sz x i => evK R F x fun v => evK R F i fun ix => idxSK sz v ix M fun r => finK d r F M nx K
  | .idxA m sz x i => evK R F x fun v => evK R F i fun ix => idxAK m sz v ix M fun r => finK d r F M nx K
  | .slcS _ sz x lo hi mx => evK R F x fun v => evOK R F lo fun l => evOK R F hi fun h => evOK R F mx fun m => slcSK sz v l h m fun r => finK d r F M nx K
  | .slcT x lo hi => evK R F x fun v => evOK R F lo fun l => evOK R F hi fun h => slcTK v l h fun r => finK d r F M nx K
  | .ext x i => evK R F x fun v => (match v with
    | .tup vs => extK i vs fun r => finK d r F M nx K
    | _ => False)
  | .call g as => evLK R F as fun l => True → ICall R X lo (R.ft g) l F M nx d K
  | .callv f as => evK R F f fun v => (match v with
    | .clo g caps => evLK R F as fun l => True → ICall R X lo g (l ++ caps) F M nx d K
    | _ => False)
  | .callx g as => evLK R F as fun l => True → ICallX R (R.ft g) l F M nx d K
  | .callr f as => evK R F f fun v => (match v with
    | .clo g caps => evLK R F as fun l => True → ICallR R X g (l ++ caps) F M nx d K
    | _ => False)
  | .callw f as => evK R F f fun v => (match v with
    | .clo g caps => evLK R F as fun l => (match lo with
      | true => True → ICallW R X g (l ++ caps) F M nx d K
      | false => False)
    | _ => False)
  | .isn neg x => evK R F x fun v => (match v with
    | .nilp => (match neg with
      | true => finK d (.bool false) F M nx K
      | false => finK d (.bool true) F M nx K)
    | .iptr _ _ => finK d (.bool neg) F M nx K
    | .loc nm len _ _ => aliveK M nm len fun _ => finK d (.bool neg) F M nx K
    | _ => False)
  | .isnS neg x => evK R F x fun v => (match v with
    | .isl _ es => (match lo with
      | true => False
      | false => True → ANil es (match neg with
        | true => finK d (.bool false) F M nx K
        | false => finK d (.bool true) F M nx K) (finK d (.bool neg) F M nx K))
    | _ => False)
  | .clip0 ty sz x => evK R F x fun v => (match v with
    | .isl _ _ => finK d (.osl nx 0) F ((nx, .arr (R.ty ty) sz []) :: M) (nx + 1) K
    | _ => False)
  | .idxV ag m sz x i => evK R F x fun v => evK R F i fun ix => (match v, ix with
    | .agg cs, .int _ j => True → VIx ag m sz cs j fun r => finK d r F M nx K
    | _, _ => False)
  | .idxT x i => evK R F x fun v => evK R F i fun ix => (match v, ix with
    | .str s, .int _ j => True → (0 ≤ j ∧ j < (s.length : Int)) ∧ finK d (.int .u8 (s.getD j.toNat 0).toNat) F M nx K
    | _, _ => False)
  | .b2s x => evK R F x fun v => asrcK 1 v M fun es => True → AStr es fun s => finK d (.str s) F M nx K
  | .slcA m sz x lo hi mx => (match lo, hi, mx with
    | none, none, none => evK R F x fun v => (match v with
      | .loc nm len i off => aliveK M nm len fun _ => finK d (.vsl nm len i off m) F M nx K
      | .iptr r off => bif Nat.beq sz 0 then False else dropK off r fun r' => chopK sz m r' fun es => finK d (.isl sz es) F M nx K
      | _ => False)
    | _, _, _ => False)
  | .copy sz x y => evK R F x fun v => evK R F y fun u => copyK sz v M (asrcK sz u M) fun n M' => finK d (.int .i64 n) F M' nx K
  | .mks ty sz z l c => evK R F l fun v => evK R F c fun u => (match v, u with
    | .int _ a, .int _ b => True → AMk a b fun n => finK d (.osl nx n) F ((nx, .arr (R.ty ty) sz (List.replicate n z)) :: M) (nx + 1) K
    | _, _ => False)
  | .s2b ty x => evK R F x fun v => (match v with
    | .str s => True → s.length ≤ 1073741824 ∧ finK d (.osl nx s.length) F ((nx, .arr (R.ty ty) 1 (s.map fun c => [.int .u8 c.toNat])) :: M) (nx + 1) K
    | _ => False)
  | .lenA n => finK d (.int .i64 n) F M nx K
  | .lenS x => evK R F x fun v => lenSK v M fun r => finK d r F M nx K
  | .lenT x => evK R F x fun v => (match v with
    | .str s => finK d (.int .i64 s.length) F M nx K
    | _ => False)
  | .mm mx as => evLK R F as fun l => mmK mx l fun r => finK d r F M nx K
  | .app ty sz s x => evK R F s fun v => evK R F x fun u => appK (R.ty ty) sz v (asrcK sz u M) M nx fun r M' nx' => finK d r F M' nx' K
  | .appZ ty sz z s x => evK R F s fun v => evK R F x fun u => appZK (R.ty ty) sz z v u M nx fun r M' nx' => finK d r F M' nx' K
  | .appT ty s x => evK R F s fun v => evK R F x fun u => appK (R.ty ty) 1 v (asrcTK u) M nx fun r M' nx' => finK d r F M' nx' K
  | _ => False

/-! ### Which operation of the program it is. -/
def seq0 (a b : AV) : Bool :=
  match a, b with
  | .int k n, .int k' n' => keq k k' && decide (n = n')
  | .bool x, .bool y => x == y
  | .str s, .str t => decide (s = t)
  | .nilp, .nilp => true
  | .nils, .nils => true
  | .nilf, .nilf => true
  | .nili, .nili => true
  | _, _ => false
def seqL : List AV → List AV → Bool
  | [], [] => true
  | a :: r, b :: s => seq0 a b && seqL r s
  | _, _ => false
def seqV (a b : AV) : Bool :=
  match a, b with
  | .agg cs, .agg ds => seqL cs ds
  | .tup cs, .tup ds => seqL cs ds
  | a, b => seq0 a b

theorem seq0_eq {a b : AV} (h : seq0 a b = true) : a = b := by
  cases a <;> cases b <;> simp_all [seq0]
  exact keq_eq h.1
theorem seqL_eq : ∀ {a b : List AV}, seqL a b = true → a = b
  | [], [], _ => rfl
  | a :: r, b :: s, h => by
    simp only [seqL, Bool.and_eq_true] at h
    rw [seq0_eq h.1, seqL_eq h.2]
  | [], _ :: _, h => by simp [seqL] at h
  | _ :: _, [], h => by simp [seqL] at h
theorem seqV_eq {a b : AV} (h : seqV a b = true) : a = b := by
  unfold seqV at h
  split at h
  · rw [seqL_eq h]
  · rw [seqL_eq h]
  · exact seq0_eq h

def msc (R : Env) : Operand → Sc → Bool
  | .tmp t, .t n => Nat.beq t n
  | .const v, .k u => seqV (ofV v) u
  | .func f, .f g => Nat.beq (R.ft g) f
  | _, _ => false

def mscL (R : Env) : List Operand → List Sc → Bool
  | [], [] => true
  | x :: r, y :: s => msc R x y && mscL R r s
  | _, _ => false

def mscO (R : Env) : Option Operand → Option Sc → Bool
  | none, none => true
  | some x, some y => msc R x y
  | _, _ => false

theorem msc_eq {R : Env} {F : Frm} {x : Operand} {y : Sc} (h : msc R x y = true) : ev F x = scv R F y := by
  cases x <;> cases y <;> simp only [msc] at h <;> first | (simp at h; done) | skip
  · rw [Nat.eq_of_beq_eq_true h]; rfl
  · exact seqV_eq h
  · simp only [ev, scv, Env.cl, Nat.eq_of_beq_eq_true h]

theorem mscL_eq {R : Env} {F : Frm} : ∀ {xs : List Operand} {ys : List Sc}, mscL R xs ys = true → evL F xs = ys.map (scv R F)
  | [], [], _ => rfl
  | x :: r, y :: s, h => by
    simp only [mscL, Bool.and_eq_true] at h
    simp only [evL, List.map_cons, msc_eq (F := F) h.1, mscL_eq h.2]
  | [], _ :: _, h => by simp [mscL] at h
  | _ :: _, [], h => by simp [mscL] at h

theorem mscO_eq {R : Env} {F : Frm} {x : Option Operand} {y : Option Sc} (h : mscO R x y = true) : evO F x = y.map (scv R F) := by
  cases x <;> cases y <;> simp only [mscO] at h <;> first | (simp at h; done) | rfl | skip
  simp only [evO, Option.map_some, msc_eq (F := F) h]

/-- The parts of a struct. -/
def mpsS (R : Env) (fs : List (Nat × Nat)) : List (Nat × Operand) → List (Nat × Nat × Sc) → Bool
  | [], [] => true
  | (i, x) :: r, (off, n, y) :: s => (match fs[i]? with
    | some (o, t) => Nat.beq o off && Nat.beq (R.T.s t) n && !Nat.beq n 0
    | none => false) && msc R x y && mpsS R fs r s
  | _, _ => false
def mpsA (R : Env) (sz : Nat) : List (Nat × Operand) → List (Nat × Nat × Sc) → Bool
  | [], [] => true
  | (i, x) :: r, (off, n, y) :: s => Nat.beq (i * sz) off && Nat.beq sz n && !Nat.beq n 0 && msc R x y && mpsA R sz r s
  | _, _ => false
def mpsE (R : Env) : List (Nat × Operand) → List (Nat × Sc) → Bool
  | [], [] => true
  | (i, x) :: r, (j, y) :: s => Nat.beq i j && msc R x y && mpsE R r s
  | _, _ => false

def beqB (a b : Bool) : Bool := match a, b with
  | true, true => true
  | false, false => true
  | _, _ => false
theorem beqB_eq {a b : Bool} (h : beqB a b = true) : a = b := by cases a <;> cases b <;> simp_all [beqB]

def bno : BinOp → Nat
  | .add => 0 | .sub => 1 | .mul => 2 | .quo => 3 | .rem => 4 | .and => 5 | .or => 6 | .xor => 7 | .shl => 8 | .shr => 9 | .andNot => 10 | .eql => 11 | .neq => 12 | .lss => 13 | .leq => 14 | .gtr => 15 | .geq => 16
theorem bno_eq {a b : BinOp} (h : Nat.beq (bno a) (bno b) = true) : a = b := by
  have := Nat.eq_of_beq_eq_true h
  cases a <;> cases b <;> first | rfl | (simp [bno] at this)
def uno : UnOp → Nat
  | .neg => 0 | .not => 1 | .xor => 2 | .plus => 3
theorem uno_eq {a b : UnOp} (h : Nat.beq (uno a) (uno b) = true) : a = b := by
  have := Nat.eq_of_beq_eq_true h
  cases a <;> cases b <;> first | rfl | (simp [uno] at this)

def is0 : Option Operand → Bool
  | some (.const (.int _ (.ofNat 0))) => true
  | _ => false
theorem is0_eq {b : Option Operand} (h : is0 b = true) : ∃ k, b = some (.const (.int k 0)) := by
  unfold is0 at h
  split at h
  · exact ⟨_, rfl⟩
  · simp at h

def isEq (op : BinOp) (neg : Bool) : Bool :=
  match op, neg with
  | .eql, false => true
  | .neq, true => true
  | _, _ => false
theorem isEq_eq {op : BinOp} {neg : Bool} (h : isEq op neg = true) : op = if neg then .neq else .eql := by cases op <;> cases neg <;> simp_all [isEq]

def lkEq : List LK → List LK → Bool
  | [], [] => true
  | .i :: r, .i :: s => lkEq r s
  | .b :: r, .b :: s => lkEq r s
  | .s :: r, .s :: s => lkEq r s
  | _, _ => false
theorem lkEq_eq : ∀ {a b : List LK}, lkEq a b = true → a = b
  | [], [], _ => rfl
  | .i :: r, .i :: s, h => by rw [lkEq_eq (a := r) (b := s) h]
  | .b :: r, .b :: s, h => by rw [lkEq_eq (a := r) (b := s) h]
  | .s :: r, .s :: s, h => by rw [lkEq_eq (a := r) (b := s) h]

def mcall (R : Env) (c : Call) (i : IOp) : Bool :=
  match c.callee, i with
  | .value f, .call g as => msc R f (.f g) && mscL R c.args.toList as
  | .value f, .callv y as => msc R f y && mscL R c.args.toList as
  | .value f, .callr y as => msc R f y && mscL R c.args.toList as
  | .value f, .callw y as => msc R f y && mscL R c.args.toList as
  | .value f, .callx g as => msc R f (.f g) && mscL R c.args.toList as
  | .builtin .len, .lenA n => (match c.args.toList, c.argTypes.toList with
    | [_], [t] => (match R.T.d t with
      | .arr m _ => Nat.beq m n
      | _ => false)
    | _, _ => false)
  | .builtin .len, .lenS y => (match c.args.toList, c.argTypes.toList with
    | [x], [t] => msc R x y && (match R.T.d t with
      | .slice _ => true
      | _ => false)
    | _, _ => false)
  | .builtin .len, .lenT y => (match c.args.toList, c.argTypes.toList with
    | [x], [t] => msc R x y && (match R.T.d t with
      | .str => true
      | _ => false)
    | _, _ => false)
  | .builtin .min, .mm false as => mscL R c.args.toList as
  | .builtin .max, .mm true as => mscL R c.args.toList as
  | .builtin .append, .app ty sz s y => (match c.args.toList, c.argTypes.toList with
    | [x1, x2], [t, t'] => msc R x1 s && msc R x2 y && (match R.T.d t, R.T.d t' with
      | .slice e, .slice _ => Nat.beq (R.ty ty) e && Nat.beq (R.T.s e) sz && (R.T.d e).ok && solid (R.T.z e) && Nat.beq (cells (R.T.z e)).length (R.T.s e)
      | _, _ => false)
    | _, _ => false)
  | .builtin .copy, .copy sz s y => (match c.args.toList, c.argTypes.toList with
    | [x1, x2], [t, t'] => msc R x1 s && msc R x2 y && (match R.T.d t, R.T.d t' with
      | .slice e, .slice _ => Nat.beq (R.T.s e) sz && (R.T.d e).ok
      | _, _ => false)
    | _, _ => false)
  | .builtin .append, .appZ ty sz z s y => (match c.args.toList, c.argTypes.toList with
    | [x1, x2], [t, t'] => msc R x1 s && msc R x2 y && (match R.T.d t, R.T.d t' with
      | .slice e, .int _ => Nat.beq (R.ty ty) e && Nat.beq (R.T.s e) sz && (R.T.d e).ok && solid (R.T.z e) && Nat.beq (cells (R.T.z e)).length (R.T.s e) && seqL (cells (R.T.z e)) z && !Nat.beq sz 0
      | _, _ => false)
    | _, _ => false)
  | .builtin .append, .appT ty s y => (match c.args.toList, c.argTypes.toList with
    | [x1, x2], [t, t'] => msc R x1 s && msc R x2 y && (match R.T.d t, R.T.d t' with
      | .slice e, .str => Nat.beq (R.ty ty) e && Nat.beq (R.T.s e) 1 && (R.T.d e).ok && solid (R.T.z e) && Nat.beq (cells (R.T.z e)).length (R.T.s e)
      | _, _ => false)
    | _, _ => false)
  | _, _ => false

def mop (R : Env) (o : Op) (i : IOp) : Bool :=
  match o, i with
  | .move x, .mv y => msc R x y
  | .assign x, .mv y => msc R x y
  | .pick c a b, .pick c' a' b' => msc R c c' && msc R a a' && msc R b b'
  | .alloc t, .alloc ty z => Nat.beq (R.ty ty) t && (R.T.d t).ok && solid (R.T.z t) && seqL (cells (R.T.z t)) z
  | .box t x, .box ty y => Nat.beq (R.ty ty) t && msc R x y
  | .build t ps, .build z qs => solid (R.T.z t) && Nat.beq (cells (R.T.z t)).length (R.T.s t) && seqL (cells (R.T.z t)) z && (match R.T.d t with
    | .struct fs => fsok R.T.d fs && mpsS R fs ps.toList qs
    | .arr _ e => (R.T.d e).ok && mpsA R (R.T.s e) ps.toList qs
    | _ => false)
  | .buildSlice t len ps, .bslice ty sz len' z qs => (match R.T.d t with
    | .slice e => Nat.beq (R.ty ty) e && Nat.beq (R.T.s e) sz && Nat.beq len len' && (R.T.d e).ok && solid (R.T.z e) && seqL (cells (R.T.z e)) z && Nat.beq (cells (R.T.z e)).length sz && !Nat.beq sz 0 && Nat.ble (len * sz) 16777216 && mpsE R ps.toList qs
    | _ => false)
  | .load t a, .load ag n y => (R.T.d t).ok && beqB (R.T.d t).ag ag && Nat.beq (R.T.s t) n && msc R a y
  | .store t a x, .store n y u => (R.T.d t).ok && Nat.beq (R.T.s t) n && !Nat.beq n 0 && msc R a y && msc R x u
  | .nilCheck x, .nilck y => msc R x y
  | .binOp op _ x y _, .bin op' x' y' => Nat.beq (bno op) (bno op') && msc R x x' && msc R y y'
  | .binOp op t x y _, .eqb neg x' y' => isEq op neg && msc R x x' && msc R y y' && (match R.P.underlying t with
    | some .bool => true
    | _ => false)
  | .binOp op t x y _, .eqa neg ls x' y' => isEq op neg && msc R x x' && msc R y y' && !R.P.eqGuardType R.P.depth t && isAggT R.P t && (match lks R.P 8 t with
    | some l => lkEq l ls
    | none => false)
  | .binOp op _ x y _, .bst op' x' y' => Nat.beq (bno op) (bno op') && msc R x x' && msc R y y'
  | .unOp op _ x, .un op' x' => Nat.beq (uno op) (uno op') && msc R x x'
  | .convert s t x, .conv k y => (R.T.d s).ok && (match R.T.d t with
    | .int k' => keq k' k
    | _ => false) && msc R x y
  | .convert s t x, .sstr y => (R.T.d s).ok && (match R.T.d t with
    | .str => true
    | _ => false) && msc R x y
  | .makeFunc (.func f) first caps, .mkf g cs => first.isEmpty && Nat.beq (R.ft g) f && mscL R caps.toList cs
  | .fieldAddr s x f, .fldA off y => msc R x y && (match R.T.d s with
    | .struct fs => (match fs[f]? with
      | some (o, ft) => Nat.beq o off && (R.T.d ft).ok && !Nat.beq (R.T.s ft) 0
      | none => false)
    | _ => false)
  | .indexAddr t x j, .idxS sz y i => msc R x y && msc R j i && (match R.T.d t with
    | .slice e => Nat.beq (R.T.s e) sz && (R.T.d e).ok
    | _ => false)
  | .indexAddr t x j, .idxA m sz y i => msc R x y && msc R j i && (match R.T.d t with
    | .arr k e => Nat.beq k m && Nat.beq (R.T.s e) sz && (R.T.d e).ok
    | _ => false)
  | .slice t x a b c, .slcS ty sz y l h m => msc R x y && mscO R a l && mscO R b h && mscO R c m && (match R.T.d t with
    | .slice e => Nat.beq (R.ty ty) e && Nat.beq (R.T.s e) sz && (R.T.d e).ok
    | _ => false)
  | .slice t x a b c, .slcA m sz y l h mx => msc R x y && a.isNone && b.isNone && c.isNone && l.isNone && h.isNone && mx.isNone && Nat.ble m 1000000 && (match R.T.d t with
    | .arr k e => Nat.beq k m && Nat.beq (R.T.s e) sz && (R.T.d e).ok
    | _ => false)
  | .makeSlice t l c, .mks ty sz z l' c' => msc R l l' && msc R c c' && (match R.T.d t with
    | .slice e => Nat.beq (R.ty ty) e && Nat.beq (R.T.s e) sz && (R.T.d e).ok && solid (R.T.z e) && seqL (cells (R.T.z e)) z && Nat.beq (cells (R.T.z e)).length sz && !Nat.beq sz 0
    | _ => false)
  | .convert s t x, .s2b ty y => msc R x y && (match R.T.d s, R.T.d t with
    | .str, .slice e => Nat.beq (R.ty ty) e && (match R.T.d e with
      | .int .u8 => true
      | _ => false)
    | _, _ => false)
  | .slice t x a b c, .slcT y l h => msc R x y && mscO R a l && mscO R b h && c.isNone && (match R.T.d t with
    | .str => true
    | _ => false)
  | .binOp op t x (.const c) _, .isn neg x' => isEq op neg && msc R x x' && (match c, R.P.underlying t with
    | .pointer none, some (.pointer _) => true
    | _, _ => false)
  | .binOp op t x (.const c) _, .isnS neg x' => isEq op neg && msc R x x' && (match c, R.P.underlying t with
    | .slice none 0 0, some (.slice _) => true
    | _, _ => false)
  | .slice t x a b c, .clip0 ty sz y => msc R x y && a.isNone && is0 b && is0 c && (match R.T.d t with
    | .slice e => Nat.beq (R.ty ty) e && Nat.beq (R.T.s e) sz && (R.T.d e).ok
    | _ => false)
  | .index t x j, .idxV ag m sz y i => msc R x y && msc R j i && (match R.T.d t with
    | .arr k e => Nat.beq k m && Nat.beq (R.T.s e) sz && (R.T.d e).ok && beqB (R.T.d e).ag ag
    | _ => false)
  | .index t x j, .idxT y i => msc R x y && msc R j i && (match R.T.d t with
    | .str => true
    | _ => false)
  | .convert s t x, .b2s y => msc R x y && (match R.T.d s, R.T.d t with
    | .slice e, .str => (match R.T.d e with
      | .int .u8 => true
      | _ => false)
    | _, _ => false)
  | .extract x i, .ext y j => msc R x y && Nat.beq i j
  | .call c, i => mcall R c i
  | _, _ => false

end Go.AM

/- The reckoning machine 'IM', part 3: what it says of an operation is so. -/

namespace Go.AM
open Go.RowKit
variable {R : Env} {X : Ctx}

/-- What is known behind an operation. -/
def StepL (R : Env) (X : Ctx) (o : Oper) (F : Frm) (M : IMem) (nx : Nat) (K : KS) : Prop :=
  ∃ av ws nw nx' M', Does R.P X o F (mget (toM M)) av ws nw ∧ (∀ p ∈ ws, p.1 ∈ nw ∨ p.1 ∈ wnames F o.op) ∧ (nx ≤ nx' ∧ ∀ n ∈ nw, nx ≤ n ∧ n < nx') ∧ mget (toM M') = mget (msets (toM M) ws) ∧ K (updF F o.dst av) M' nx'

/-- A call that is told by what it does to the whole state. -/
def StepC (R : Env) (X : Ctx) (o : Oper) (F : Frm) (M : IMem) (nx : Nat) (K : KS) : Prop :=
  ∃ F' M' nx', K F' M' nx' ∧ ∀ ρ I (a : Act) w, (∀ x, o.dst = some x → x < X.size) → Wok X ρ I (mget (toM M)) (· < nx) w → FrmOk ρ I w X ⟨F, toM M, nx⟩ a →
    ∃ g vs, (execOp a.eval o).run R.P w = .ok (.enter g vs) w ∧ Calls R.P g vs w fun e w1 => ∃ v, e = .returned v ∧ Sat X ⟨F', toM M', nx'⟩ (a.put o.dst v) w1

/-- A value that the world decides. -/
def StepB (R : Env) (X : Ctx) (o : Oper) (F : Frm) (M : IMem) (nx : Nat) (K : KS) : Prop :=
  ∀ ρ I (a : Act) w, Wok X ρ I (mget (toM M)) (· < nx) w → FrmOk ρ I w X ⟨F, toM M, nx⟩ a → ∃ av, Yield R.P X o a (mget (toM M)) (· < nx) ρ I w av [] ∧ K (updF F o.dst av) M nx

def StepG (R : Env) (X : Ctx) (lo : Bool) (o : Oper) (F : Frm) (M : IMem) (nx : Nat) (K : KS) : Prop :=
  StepL R X o F M nx K ∨ (lo = false ∧ (StepC R X o F M nx K ∨ StepB R X o F M nx K))

section
variable {o : Oper} {F : Frm} {M : IMem} {nx : Nat} {K : KS}

theorem finK_to {d : Option Nat} {v : AV} (h : finK d v F M nx K) : K (updF F d v) M nx := by cases d <;> exact h

theorem StepL.value {av : AV} (h : Does R.P X o F (mget (toM M)) av [] []) (k : finK o.dst av F M nx K) : StepL R X o F M nx K :=
  ⟨av, [], [], nx, M, h, fun p hp => by simp at hp, ⟨Nat.le_refl _, fun n hn => by simp at hn⟩, rfl, finK_to k⟩

theorem StepL.value' (h : ∃ av, Does R.P X o F (mget (toM M)) av [] [] ∧ finK o.dst av F M nx K) : StepL R X o F M nx K := by
  obtain ⟨av, h1, h2⟩ := h
  exact .value h1 h2

theorem StepL.new {av : AV} {b : IBlk} (h : Does R.P X o F (mget (toM M)) av [(nx, b.blk)] [nx]) (k : finK o.dst av F ((nx, b) :: M) (nx + 1) K) : StepL R X o F M nx K :=
  ⟨av, [(nx, b.blk)], [nx], nx + 1, (nx, b) :: M, h, fun p hp => by simp at hp; simp [hp], ⟨by omega, fun n hn => by simp at hn; omega⟩, toM_new M nx b, finK_to k⟩

theorem StepL.write {av : AV} {n : Nat} {b : Blk} {M' : IMem} (h : Does R.P X o F (mget (toM M)) av [(n, b)] []) (hn : n ∈ wnames F o.op) (e : toM M' = mset (toM M) n b) (k : finK o.dst av F M' nx K) : StepL R X o F M nx K :=
  ⟨av, [(n, b)], [], nx, M', h, fun p hp => by simp at hp; rw [hp]; exact .inr hn, ⟨Nat.le_refl _, fun n hn => by simp at hn⟩, by rw [e]; rfl, finK_to k⟩
end

theorem aliveK_elim {M : IMem} {n len : Nat} {K : IBlk → Prop} (h : aliveK M n len K) : ∃ b : IBlk, mget (toM M) n = some b.blk ∧ b.blk.es.length = len ∧ K b := by
  have hh := igetK_elim h; clear h; obtain ⟨b, hb, h⟩ := hh
  cases b with
  | var ty row =>
    simp only at h
    cases hl : Nat.beq len 1 with
    | true => rw [hl] at h; exact ⟨_, hb, (Nat.eq_of_beq_eq_true hl).symm, h⟩
    | false => rw [hl] at h; exact h.elim
  | arr ty sz es =>
    obtain ⟨h1, h2⟩ := h trivial
    exact ⟨_, hb, h1, h2⟩

theorem alive_of {M : Mem} {n len : Nat} {b : Blk} {K : Blk → Prop} (h : mget M n = some b) (hl : b.es.length = len) (k : K b) : alive M n len K := by
  simp only [alive, h]
  exact chk_intro (by simpa using hl) k

theorem loadK_elim {T : TT} {t n : Nat} {ag : Bool} (hag : (T.d t).ag = ag) (hn : T.s t = n) {v : AV} {M : IMem} {K : AV → Prop} (h : loadK ag n v M K) : aload T t v (toM M) K := by
  subst hag; subst hn
  cases v with
  | loc nm len i off =>
    have hh := igetK_elim h; clear h; obtain ⟨b, hb, h⟩ := hh
    cases b with
    | var ty row =>
      simp only at h
      cases hl : Nat.beq len 1 with
      | false => rw [hl] at h; exact h.elim
      | true =>
        rw [hl] at h
        simp only [cond_true] at h
        cases hi : Nat.beq i 0 with
        | false => rw [hi] at h; exact h.elim
        | true =>
          rw [hi] at h
          obtain rfl := Nat.eq_of_beq_eq_true hl
          obtain rfl := Nat.eq_of_beq_eq_true hi
          exact alive_of hb rfl (partK_elim h)
    | arr ty sz es =>
      obtain ⟨h1, h2⟩ := h trivial
      exact alive_of hb h1 (partK_elim h2)
  | iptr e off => exact partK_elim h
  | _ => exact h.elim

theorem splice_length {off : Nat} {vs cs : List AV} (h : off + vs.length ≤ cs.length) : (splice off vs cs).length = cs.length := by
  simp only [splice, List.length_append, List.length_take, List.length_drop]; omega

theorem storeK_elim {T : TT} {t : Nat} {a v : AV} {M : IMem} {K : IMem → Prop} (hs : solid v = true) (hn : (cells v).length = T.s t) (hz : T.s t ≠ 0) (h : storeK a (cells v) M K) : astore T t a v (toM M) (fun Mm => ∃ M', toM M' = Mm ∧ K M') := by
  have hz' : (T.s t == 0) = false := by simpa using hz
  cases a with
  | loc nm len i off =>
    have hh := igetK_elim h; clear h; obtain ⟨b, hb, h⟩ := hh
    cases b with
    | var ty row =>
      simp only at h
      cases hl : Nat.beq len 1 with
      | false => rw [hl] at h; exact h.elim
      | true =>
        rw [hl] at h
        simp only [cond_true] at h
        cases hi : Nat.beq i 0 with
        | false => rw [hi] at h; exact h.elim
        | true =>
          rw [hi] at h
          obtain rfl := Nat.eq_of_beq_eq_true hl
          obtain rfl := Nat.eq_of_beq_eq_true hi
          obtain ⟨h1, h2⟩ := spliceK_elim h
          obtain ⟨M', h3, h4⟩ := isetK_elim h2
          refine alive_of hb rfl (chk_intro ?_ ⟨M', ?_, h4⟩)
          · have : (((row.drop off).take (cells v).length).length == (cells v).length) = true := by simp; omega
            simp only [hs, hn, hz', IBlk.blk, List.getD_cons_zero, Bool.true_and, Bool.and_eq_true, beq_self_eq_true, Bool.not_false]
            rw [← hn]; exact this
          · rw [h3]
            simp only [IBlk.blk, splice_length h1]
            rfl
    | arr ty sz es =>
      obtain ⟨h0, h⟩ := h trivial
      obtain ⟨h1, h2⟩ := spliceK_elim h
      obtain ⟨M', h3, h4⟩ := isetK_elim h2
      refine alive_of hb h0 (chk_intro ?_ ⟨M', h3, h4⟩)
      have : ((((es.getD i []).drop off).take (cells v).length).length == (cells v).length) = true := by simp only [List.length_take, List.length_drop, beq_iff_eq]; omega
      simp only [hs, hn, hz', IBlk.blk, Bool.true_and, Bool.and_eq_true, beq_self_eq_true, Bool.not_false]
      rw [← hn]; exact this
  | _ => exact h.elim

theorem keqK_elim {k k' : IntKind} {Y : Prop} (h : keqK k k' Y) : chk (keq k k') Y := by
  unfold keqK at h; unfold chk; exact h

theorem binK_elim {op : BinOp} {v u : AV} {K : AV → Prop} (h : binK op v u K) : abin op v u K := by
  cases v with
  | int k a =>
    cases u with
    | int k' b =>
      cases op <;> simp only [binK] at h <;> simp only [abin]
      case shl => exact h trivial
      case shr => exact h trivial
      case quo =>
        obtain ⟨h1, h2⟩ := chk_elim (keqK_elim h)
        exact ⟨(h2 trivial).1, chk_intro h1 ((h2 trivial).2 trivial).h⟩
      case rem =>
        obtain ⟨h1, h2⟩ := chk_elim (keqK_elim h)
        exact ⟨(h2 trivial).1, chk_intro h1 (h2 trivial).2⟩
      all_goals
        obtain ⟨h1, h2⟩ := chk_elim (keqK_elim h)
        first
          | exact chk_intro h1 h2
          | exact chk_intro h1 (h2 trivial).h
    | _ => cases op <;> exact h.elim
  | _ => cases op <;> exact h.elim

theorem unK_elim {op : UnOp} {v : AV} {K : AV → Prop} (h : unK op v K) : aun op v K := by
  cases op <;> cases v <;> simp only [unK] at h <;> simp only [aun] <;> first | exact (h trivial).h | exact h

theorem idxSK_elim {T : TT} {t e sz : Nat} (ht : T.d t = .slice e) (hs : T.s e = sz) {v ix : AV} {M : IMem} {K : AV → Prop} (h : idxSK sz v ix M K) : aidx T t v ix (toM M) K := by
  subst hs
  cases ix with
  | int k j =>
    simp only [idxSK] at h
    simp only [aidx, ht]
    cases v with
    | isl s es =>
      simp only at h ⊢
      rw [beq_beq] at h
      cases hc : s == T.s e with
      | false => rw [hc] at h; exact h.elim
      | true =>
        rw [hc] at h
        obtain ⟨h1, h2⟩ := h trivial
        exact chk_intro rfl ⟨h1, (h2 trivial).h⟩
    | osl nm len =>
      simp only at h ⊢
      have hh := igetK_elim h; clear h; obtain ⟨b, hb, h⟩ := hh
      cases b with
      | var => exact h.elim
      | arr ty s es =>
        simp only at h
        rw [beq_beq] at h
        cases hc : s == T.s e with
        | false => rw [hc] at h; exact h.elim
        | true =>
          rw [hc] at h
          obtain ⟨⟨h0, h1⟩, h2⟩ := h trivial
          exact alive_of hb h0 (chk_intro hc ⟨h1, h2⟩)
    | vsl nm len i off cnt =>
      simp only at h ⊢
      obtain ⟨b, hb, hl, h⟩ := aliveK_elim h
      obtain ⟨h1, h2⟩ := (h trivial).h
      exact alive_of hb hl ⟨h1, h2⟩
    | _ => exact h.elim
  | _ => exact h.elim

theorem idxAK_elim {T : TT} {t e sz m : Nat} (ht : T.d t = .arr m e) (hs : T.s e = sz) {v ix : AV} {M : IMem} {K : AV → Prop} (h : idxAK m sz v ix M K) : aidx T t v ix (toM M) K := by
  subst hs
  cases ix with
  | int k j =>
    simp only [idxAK] at h
    simp only [aidx, ht]
    cases v with
    | loc nm len i off =>
      simp only at h ⊢
      obtain ⟨b, hb, hl, h⟩ := aliveK_elim h
      obtain ⟨h1, h2⟩ := (h trivial).h
      exact alive_of hb hl ⟨h1, h2⟩
    | iptr row off =>
      obtain ⟨h1, h2⟩ := (h trivial).h
      exact ⟨h1, h2⟩
    | _ => exact h.elim
  | _ => exact h.elim

theorem mmF_elim {mx : Bool} {k : IntKind} : ∀ {r : List AV} {a : Int} {K : AV → Prop}, mmF mx k a r K → (if mx then amaxF k a r else aminF k a r) ≠ .bad ∧ K (if mx then amaxF k a r else aminF k a r)
  | [], a, K, h => by cases mx <;> exact ⟨by simp [amaxF, aminF], h⟩
  | x :: r, a, K, h => by
    cases x with
    | int k' b => cases mx <;> exact mmF_elim (r := r) h
    | _ => exact h.elim

theorem mmK_elim {mx : Bool} {as : List AV} {K : AV → Prop} (h : mmK mx as K) : (if mx then amax as else amin as) ≠ .bad ∧ K (if mx then amax as else amin as) := by
  cases as with
  | nil => exact h.elim
  | cons x r =>
    cases x with
    | int k a => cases mx <;> exact mmF_elim h
    | _ => exact h.elim

theorem asrcK_elim {sz : Nat} {x : AV} {M : IMem} {K : List (List AV) → Prop} (h : asrcK sz x M K) : asrc (toM M) sz x K := by
  cases x with
  | isl s es =>
    simp only [asrcK, beq_beq] at h
    simp only [asrc]
    cases hc : s == sz with
    | false => rw [hc] at h; exact h.elim
    | true => rw [hc] at h; exact chk_intro rfl h
  | nils => exact h
  | osl n len =>
    have hh := igetK_elim h; clear h; obtain ⟨b, hb, h⟩ := hh
    cases b with
    | var => exact h.elim
    | arr ty s es =>
      simp only [beq_beq] at h
      cases hc : s == sz with
      | false => rw [hc] at h; exact h.elim
      | true =>
        rw [hc] at h
        obtain ⟨h1, h2⟩ := h trivial
        exact alive_of hb h1 (chk_intro hc h2)
  | vsl n len i off cnt =>
    have hh := igetK_elim h; clear h; obtain ⟨b, hb, h⟩ := hh
    cases b with
    | arr => exact h.elim
    | var ty row =>
      simp only at h
      cases hl : Nat.beq len 1 with
      | false => rw [hl] at h; exact h.elim
      | true =>
        cases hi : Nat.beq i 0 with
        | false => rw [hl, hi] at h; exact h.elim
        | true =>
          cases hz : Nat.beq sz 0 with
          | true => rw [hl, hi, hz] at h; exact h.elim
          | false =>
            rw [hl, hi, hz] at h
            simp only [cond_true, cond_false] at h
            obtain rfl := Nat.eq_of_beq_eq_true hl
            obtain rfl := Nat.eq_of_beq_eq_true hi
            obtain ⟨h1, h2⟩ := dropK_elim h
            obtain ⟨h3, h4⟩ := chopK_elim h2
            rw [List.length_drop] at h3
            refine alive_of hb rfl (chk_intro ?_ h4)
            rw [beq_beq] at hz
            simp only [IBlk.blk, List.length_singleton, hz, Bool.not_false, Bool.and_true, Bool.and_eq_true, Nat.blt_eq, Nat.ble_eq]
            omega
  | _ => exact h.elim

/-- copy -/
theorem copyK_elim {sz : Nat} {v : AV} {M : IMem} {src : (List (List AV) → Prop) → Prop} {K : Nat → IMem → Prop} (h : copyK sz v M src K) :
    ∃ n off cnt ty row, v = .vsl n 1 0 off cnt ∧ mget (toM M) n = some (IBlk.var ty row).blk ∧ off + cnt * sz ≤ row.length ∧
      src fun xs => True → ACp xs cnt fun vs k => spliceK off vs row fun row' => isetK M n (.var ty row') fun M' => K k M' := by
  cases v with
  | vsl n len i off cnt =>
    have hh := igetK_elim h; clear h; obtain ⟨b, hb, h⟩ := hh
    cases b with
    | arr => exact h.elim
    | var ty row =>
      simp only at h
      cases hl : Nat.beq len 1 with
      | false => rw [hl] at h; exact h.elim
      | true =>
        cases hi : Nat.beq i 0 with
        | false => rw [hl, hi] at h; exact h.elim
        | true =>
          cases hz : Nat.ble (off + cnt * sz) row.length with
          | false => rw [hl, hi, hz] at h; exact h.elim
          | true =>
            rw [hl, hi, hz] at h
            obtain rfl := Nat.eq_of_beq_eq_true hl
            obtain rfl := Nat.eq_of_beq_eq_true hi
            exact ⟨n, off, cnt, ty, row, rfl, hb, Nat.le_of_ble_eq_true hz, h⟩
  | _ => exact h.elim

theorem asrc_mono {M : Mem} {sz : Nat} {x : AV} {K K' : List (List AV) → Prop} (hk : ∀ xs, K xs → K' xs) (h : asrc M sz x K) : asrc M sz x K' := by
  revert h
  unfold asrc
  cases x <;> simp only
  case nils => exact hk _
  case str => intro h; obtain ⟨a, b⟩ := chk_elim h; exact chk_intro a (hk _ b)
  case isl => intro h; obtain ⟨a, b⟩ := chk_elim h; exact chk_intro a (hk _ b)
  case osl =>
    intro h
    simp only [alive] at h ⊢
    split at h
    · obtain ⟨a, b⟩ := chk_elim h
      obtain ⟨c, d⟩ := chk_elim b
      exact chk_intro a (chk_intro c (hk _ d))
    · exact h.elim
  case vsl =>
    intro h
    simp only [alive] at h ⊢
    split at h
    · obtain ⟨a, b⟩ := chk_elim h
      obtain ⟨c, d⟩ := chk_elim b
      exact chk_intro a (chk_intro c (hk _ d))
    · exact h.elim
  all_goals exact id

theorem appK_elim {T : TT} {t e ty sz : Nat} (ht : T.d t = .slice e) (hty : ty = e) (hs : T.s e = sz) {s x : AV} {src : (List (List AV) → Prop) → Prop} {F : Frm} {M : IMem} {nx : Nat} (hsrc : ∀ K, src K → asrc (toM M) sz x K) {K : AV → IMem → Nat → Prop} (h : appK ty sz s src M nx K) :
    aappend T t s x ⟨F, toM M, nx⟩ (fun av Mm nx' => ∃ M', mget (toM M') = mget Mm ∧ K av M' nx') := by
  subst hty; subst hs
  simp only [aappend, ht]
  cases s with
  | osl n len =>
    have hh := igetK_elim h; clear h; obtain ⟨b, hb, h⟩ := hh
    cases b with
    | var => exact h.elim
    | arr t' z es =>
      simp only [beq_beq] at h
      cases hc : z == T.s ty with
      | false => rw [hc] at h; exact h.elim
      | true =>
        rw [hc] at h
        obtain ⟨⟨h1, h2⟩, h⟩ := h trivial
        have h' := hsrc _ h
        subst h1; subst h2
        refine alive_of hb rfl (chk_intro (by simp only [IBlk.blk, hc, beq_self_eq_true, Bool.and_self]) ?_)
        refine asrc_mono ?_ h'
        intro xs hx
        obtain ⟨h3, h4⟩ := hx trivial
        obtain ⟨M', h5, h6⟩ := isetK_elim h4
        refine ⟨by simp only [big]; exact h3, M', by rw [h5]; rfl, ?_⟩
        rw [List.length_append] at h6
        exact h6
  | nils =>
    have h' := hsrc _ h
    refine asrc_mono ?_ h'
    intro xs hx
    obtain ⟨h3, h4⟩ := hx trivial
    exact ⟨h3, _, toM_new M nx _, h4⟩
  | _ => exact h.elim

theorem appZK_elim {T : TT} {t e ty sz : Nat} {z : List AV} (ht : T.d t = .slice e) (hty : ty = e) (hs : T.s e = sz) (hz : cells (T.z e) = z) {s x : AV} {F : Frm} {M : IMem} {nx : Nat} {K : AV → IMem → Nat → Prop} (h : appZK ty sz z s x M nx K) :
    aappendZ T t s x ⟨F, toM M, nx⟩ (fun av Mm nx' => ∃ M', mget (toM M') = mget Mm ∧ K av M' nx') := by
  subst hty; subst hs; subst hz
  simp only [aappendZ, ht]
  cases x with
  | int k m =>
    cases s with
    | osl n len =>
      have hh := igetK_elim h; clear h; obtain ⟨b, hb, h⟩ := hh
      cases b with
      | var => exact h.elim
      | arr t' z es =>
        simp only [beq_beq] at h
        cases hc : z == T.s ty with
        | false => rw [hc] at h; exact h.elim
        | true =>
          rw [hc] at h
          obtain ⟨⟨h1, h2⟩, g1⟩ := h trivial
          obtain ⟨⟨h3, h4, -⟩, g2⟩ := (g1 trivial).h
          obtain ⟨h5, g3⟩ := g2 trivial
          subst h1; subst h2
          refine alive_of hb rfl (chk_intro (by simp only [IBlk.blk, hc, beq_self_eq_true, Bool.and_self]) ?_)
          obtain ⟨M', h6, h7⟩ := isetK_elim g3
          refine ⟨⟨h3, by simp only [big]; exact h5⟩, M', by rw [h6]; rfl, ?_⟩
          rw [List.length_append, List.length_replicate] at h7
          exact h7
    | nils =>
      obtain ⟨⟨h3, h4, -⟩, h⟩ := (h trivial).h
      exact ⟨⟨h3, by simp only [big]; omega⟩, _, toM_new M nx _, h⟩
    | _ => exact h.elim
  | _ => exact h.elim

end Go.AM

/- The reckoning machine 'IM', part 4: each operation. -/

namespace Go.AM
open Go.RowKit
variable {R : Env} {X : Ctx}

theorem and4 {a b : Bool} (h : (a && b) = true) : a = true ∧ b = true := by simpa using h

theorem bldS {F : Frm} {fs : List (Nat × Nat)} {K : List AV → Prop} : ∀ {ps : List (Nat × Operand)} {qs : List (Nat × Nat × Sc)} {cs : List AV}, mpsS R fs ps qs = true → bldK R F qs cs K → fillS R.T.s fs (evP F ps) cs K
  | [], [], cs, _, h => h
  | (i, x) :: r, (off, n, y) :: s, cs, hm, h => by
    simp only [mpsS, Bool.and_eq_true] at hm
    obtain ⟨⟨h1, h2⟩, h3⟩ := hm
    simp only [evP, fillS]
    cases hf : fs[i]? with
    | none => rw [hf] at h1; simp at h1
    | some q =>
      obtain ⟨o, t⟩ := q
      rw [hf] at h1
      simp only [Bool.and_eq_true, Bool.not_eq_true'] at h1
      obtain ⟨⟨ho, ht⟩, hn⟩ := h1
      obtain rfl := Nat.eq_of_beq_eq_true ho
      have ht := Nat.eq_of_beq_eq_true ht
      simp only [bldK, evK_eq] at h
      rw [← msc_eq (F := F) h2] at h
      obtain ⟨hs, h⟩ := cellsK_elim h
      obtain ⟨hl, h⟩ := lenIs_elim h
      obtain ⟨hle, h⟩ := spliceK_elim h
      have hn0 : n ≠ 0 := by intro e; subst e; simp at hn
      refine chk_intro ?_ (bldS h3 h)
      simp only [hs, hl, ht, Bool.true_and, Bool.and_eq_true, Bool.not_eq_true', beq_eq_false_iff_ne, ne_eq, beq_iff_eq]
      refine ⟨⟨hn0, trivial⟩, ?_⟩
      simp only [List.length_take, List.length_drop]; omega
  | [], _ :: _, _, hm, _ => by simp [mpsS] at hm
  | _ :: _, [], _, hm, _ => by simp [mpsS] at hm

theorem bldA {F : Frm} {sz : Nat} {K : List AV → Prop} : ∀ {ps : List (Nat × Operand)} {qs : List (Nat × Nat × Sc)} {cs : List AV}, mpsA R sz ps qs = true → bldK R F qs cs K → fillA sz (evP F ps) cs K
  | [], [], cs, _, h => h
  | (i, x) :: r, (off, n, y) :: s, cs, hm, h => by
    simp only [mpsA, Bool.and_eq_true, Bool.not_eq_true'] at hm
    obtain ⟨⟨⟨⟨ho, ht⟩, hn⟩, h2⟩, h3⟩ := hm
    simp only [evP, fillA]
    obtain rfl := Nat.eq_of_beq_eq_true ho
    obtain rfl := Nat.eq_of_beq_eq_true ht
    simp only [bldK, evK_eq] at h
    rw [← msc_eq (F := F) h2] at h
    obtain ⟨hs, h⟩ := cellsK_elim h
    obtain ⟨hl, h⟩ := lenIs_elim h
    obtain ⟨hle, h⟩ := spliceK_elim h
    have hn0 : sz ≠ 0 := by intro e; subst e; simp at hn
    refine chk_intro ?_ (bldA h3 h)
    simp only [hs, hl, Bool.true_and, Bool.and_eq_true, Bool.not_eq_true', beq_eq_false_iff_ne, ne_eq, beq_iff_eq]
    refine ⟨⟨hn0, trivial⟩, ?_⟩
    simp only [List.length_take, List.length_drop]; omega
  | [], _ :: _, _, hm, _ => by simp [mpsA] at hm
  | _ :: _, [], _, hm, _ => by simp [mpsA] at hm

theorem bldE {F : Frm} {sz : Nat} {K : List (List AV) → Prop} : ∀ {ps : List (Nat × Operand)} {qs : List (Nat × Sc)} {es : List (List AV)}, mpsE R ps qs = true → fillK R F sz qs es K → fillE sz (evP F ps) es K
  | [], [], cs, _, h => h
  | (i, x) :: r, (j, y) :: s, es, hm, h => by
    simp only [mpsE, Bool.and_eq_true] at hm
    obtain ⟨⟨ho, h2⟩, h3⟩ := hm
    simp only [evP, fillE]
    obtain rfl := Nat.eq_of_beq_eq_true ho
    simp only [fillK, evK_eq] at h
    rw [← msc_eq (F := F) h2] at h
    obtain ⟨hs, h⟩ := cellsK_elim h
    obtain ⟨hl, h⟩ := lenIs_elim h
    obtain ⟨hle, h⟩ := setK_elim h
    refine chk_intro ?_ (bldE h3 h)
    have : ((es.drop i).take 1).length = 1 := by simp only [List.length_take, List.length_drop]; omega
    simp only [hs, hl, this, Bool.true_and, beq_self_eq_true]
  | [], _ :: _, _, hm, _ => by simp [mpsE] at hm
  | _ :: _, [], _, hm, _ => by simp [mpsE] at hm

theorem extK_elim {K : AV → Prop} : ∀ {i : Nat} {vs : List AV}, extK i vs K → i < vs.length ∧ K (vs.getD i .bad)
  | 0, v :: r, h => ⟨by simp, h⟩
  | n + 1, v :: r, h => by
    obtain ⟨h1, h2⟩ := extK_elim (i := n) (vs := r) h
    exact ⟨by simpa using h1, by simpa using h2⟩
  | 0, [], h => h.elim
  | _ + 1, [], h => h.elim

theorem eqcK_elim {l : LK} {a b : AV} {K : Bool → Prop} (h : eqcK l a b K) : ∃ r, LkA l a b r ∧ K r := by
  cases l <;> cases a <;> try exact h.elim
  all_goals cases b <;> try exact h.elim
  · rename_i k x k' y
    simp only [eqcK] at h
    cases hk : keq k k' with
    | false => rw [hk] at h; exact h.elim
    | true =>
      rw [hk] at h
      obtain rfl := keq_eq hk
      exact ⟨_, .i k x y, h⟩
  · exact ⟨_, .b _ _, h⟩
  · exact ⟨_, .s _ _, h⟩

theorem eqaK_elim : ∀ {ls : List LK} {as bs : List AV} {K : Bool → Prop}, eqaK ls as bs K → ∃ rs, AllA ls as bs rs ∧ K (rs.all id)
  | l :: [], a :: as, b :: bs, K, h => by
    simp only [eqaK] at h
    obtain ⟨t, h1, h⟩ := eqcK_elim h
    obtain ⟨rs, h2, h3⟩ := eqaK_elim (ls := []) (as := as) (bs := bs) h
    cases h2
    exact ⟨[t], .cons h1 .nil, by simpa using h3⟩
  | l :: l2 :: r, a :: as, b :: bs, K, h => by
    simp only [eqaK] at h
    obtain ⟨t, h1, h⟩ := eqcK_elim h
    obtain ⟨rs, h2, h3⟩ := eqaK_elim (ls := l2 :: r) (as := as) (bs := bs) h
    exact ⟨t :: rs, .cons h1 h2, by simpa using h3⟩
  | [], [], [], K, h => ⟨[], .nil, h⟩
  | [], _ :: _, _, _, h => h.elim
  | [], [], _ :: _, _, h => h.elim
  | _ :: _, [], _, _, h => h.elim
  | _ :: _, _ :: _, [], _, h => h.elim

theorem bstK_elim {op : BinOp} {a b : List UInt8} {K : AV → Prop} (h : bstK op a b K) : astr op a b K := by
  cases op <;> first | exact h | exact h trivial

theorem ICallL.step {o : Oper} {F : Frm} {M : IMem} {nx : Nat} {K : KS} {f : Operand} {as : Array Operand} {ts : Array TypeId} {g : Nat} {caps : List AV} {args : List AV}
    (ho : o.op = .call { callee := .value f, args := as, argTypes := ts }) (hf : ev F f = .clo g caps) (ha : evL F as.toList ++ caps = args) (h : ICallL R X g args F M nx o.dst K) : StepL R X o F M nx K := by
  obtain ⟨hb, av, ws, nw, nx', M', h1, h2, h3, h4⟩ := h
  subst ha
  refine ⟨av, ws, nw, nx', M', does_call ho hf hb h1, fun p hp => (h1.1 p hp).imp id (fun h => ?_), h2, h3, finK_to h4⟩
  simp only [wnames, ho, hf]; exact h

theorem ICallG.step {o : Oper} {F : Frm} {M : IMem} {nx : Nat} {K : KS} {f : Operand} {as : Array Operand} {ts : Array TypeId} {g : Nat} {caps : List AV} {args : List AV}
    (ho : o.op = .call { callee := .value f, args := as, argTypes := ts }) (hf : ev F f = .clo g caps) (ha : evL F as.toList ++ caps = args) (h : ICallG R X g args F M nx o.dst K) : StepC R X o F M nx K := by
  obtain ⟨⟨fn, hfn, hname, hbody⟩, F', M', nx', hk, h⟩ := h
  subst ha
  refine ⟨F', M', nx', hk, fun ρ I a w hd W Fo => ?_⟩
  have r1 := rep_ev (F := F) (a := a) f (fun s _ => Fo.rep s)
  rw [hf] at r1
  generalize hv : a.eval f = v at r1
  cases r1 with
  | clo _ _ us hl hr =>
    have hR := (repL_evL (F := F) (ρ := ρ) (L := lens (mget (toM M))) (I := I) (w := w) (N := (· < nx)) (a := a) as.toList (fun x _ => rep_ev x (fun s _ => Fo.rep s))).append (⟨hl, hr⟩ : RepL ρ (lens (mget (toM M))) I w (· < nx) caps us)
    refine ⟨g, _, ?_, h ρ I a w _ hd W Fo hR⟩
    have e : (as.map a.eval) ++ us.toArray = (as.toList.map a.eval ++ us).toArray := by apply Array.ext'; simp
    have hname' : ¬ fn.name = "runtime.NumGoroutine" := by simpa using hname
    have hbody' : ¬ fn.body = none := by intro h; rw [h] at hbody; simp at hbody
    simp [execOp, ho, resolve, hv, Deferred.ofValue, invoke, callFunc, hfn, hname', hbody', e]

theorem ICallR.step {o : Oper} {F : Frm} {M : IMem} {nx : Nat} {d : Option Nat} {K : KS} {f : Operand} {as : Array Operand} {ts : Array TypeId} {g : Nat} {caps : List AV} {args : List AV}
    (ho : o.op = .call { callee := .value f, args := as, argTypes := ts }) (hf : ev F f = .clo g caps) (ha : evL F as.toList ++ caps = args) (h : ICallR R X g args F M nx d K) :
    ∃ av ws nw nx' M', Does R.P X o F (mget (toM M)) av ws nw ∧ (∀ p ∈ ws, p.1 ∈ nw) ∧ (nx ≤ nx' ∧ ∀ n ∈ nw, nx ≤ n ∧ n < nx') ∧ mget (toM M') = mget (msets (toM M) ws) ∧ finK d av F M' nx' K := by
  obtain ⟨hb, av, ws, nw, nx', M', h1, h2, h3, h4, h5⟩ := h
  subst ha
  exact ⟨av, ws, nw, nx', M', does_call ho hf hb h1, h2, h3, h4, h5⟩

theorem mem_rch {M : IMem} {n : Nat} : ∀ {l : List Nat}, n ∈ l → n ∈ rch M l
  | a :: r, h => by
    rcases List.mem_cons.1 h with rfl | h
    · exact List.mem_cons_self
    · exact List.mem_cons_of_mem _ (List.mem_append_right _ (mem_rch h))
theorem rch_mono {M : IMem} {n : Nat} : ∀ {l l' : List Nat}, (∀ n ∈ l, n ∈ l') → n ∈ rch M l → n ∈ rch M l'
  | [], _, _, h => by simp [rch] at h
  | a :: r, l', hs, h => by
    simp only [rch, List.mem_cons, List.mem_append] at h
    have one : ∀ {k : List Nat}, a ∈ k → ∀ m ∈ rch1 M a, m ∈ rch M k := by
      intro k
      induction k with
      | nil => intro h; simp at h
      | cons b k ih =>
        intro h m hm
        simp only [rch, List.mem_cons, List.mem_append]
        rcases List.mem_cons.1 h with rfl | h
        · exact .inr (.inl hm)
        · exact .inr (.inr (ih h m hm))
    rcases h with rfl | h | h
    · exact mem_rch (hs _ List.mem_cons_self)
    · exact one (hs a List.mem_cons_self) n h
    · exact rch_mono (fun m hm => hs m (List.mem_cons_of_mem _ hm)) h
theorem mem_rdn' {F : Frm} {n : Nat} : ∀ {l : List Nat}, n ∈ rdn F l ↔ ∃ s ∈ l, n ∈ (look F s).names
  | [] => by simp [rdn]
  | s :: r => by simp [rdn, mem_rdn' (l := r)]
theorem ICallW.step {o : Oper} {F : Frm} {M : IMem} {nx : Nat} {d : Option Nat} {K : KS} {f : Operand} {as : Array Operand} {ts : Array TypeId} {g : Nat} {caps : List AV} {args : List AV}
    (ho : o.op = .call { callee := .value f, args := as, argTypes := ts }) (hf : ev F f = .clo g caps) (ha : evL F as.toList ++ caps = args) (h : ICallW R X g args F M nx d K) :
    ∃ av ws nw nx' M', DoesR R.P X o F (mget (toM M)) (rch M (rdn F (uses o.op))) av ws nw ∧ (∀ p ∈ ws, p.1 ∈ nw ∨ p.1 ∈ rch M (AV.namesL args)) ∧ (nx ≤ nx' ∧ ∀ n ∈ nw, nx ≤ n ∧ n < nx') ∧ mget (toM M') = mget (msets (toM M) ws) ∧ finK d av F M' nx' K := by
  obtain ⟨hb, av, ws, nw, nx', M', h1, h3, h4, h5⟩ := h
  subst ha
  refine ⟨av, ws, nw, nx', M', does_callR ho hf hb h1 (fun n hn => rch_mono (fun m hm => mem_rdn'.2 (names_call ho hf m hm)) hn) (fun s hs n hn => mem_rch (mem_rdn'.2 ⟨s, hs, hn⟩)), fun p hp => (h1.1 p hp).imp id And.left, h3, h4, h5⟩

theorem ICallX.step {o : Oper} {F : Frm} {M : IMem} {nx : Nat} {d : Option Nat} {K : KS} {f : Operand} {as : Array Operand} {ts : Array TypeId} {g : Nat} {caps : List AV} {args : List AV}
    (ho : o.op = .call { callee := .value f, args := as, argTypes := ts }) (hf : ev F f = .clo g caps) (ha : evL F as.toList ++ caps = args) (h : ICallX R g args F M nx d K) : ∃ av, Does R.P X o F (mget (toM M)) av [] [] ∧ finK d av F M nx K := by
  obtain ⟨av, h1, h2⟩ := h
  subst ha
  refine ⟨av, ⟨fun p hp => by simp at hp, fun M' N ρ I a w hW hU hN hF => ?_⟩, h2⟩
  have hfo : f ∈ o.op.operands.toList := by simp [ho, Op.operands, Call.operands]
  have hao : ∀ x ∈ as.toList, x ∈ o.op.operands.toList := fun x hx => by
    simp only [ho, Op.operands, Call.operands, Array.toList_append]
    exact List.mem_append_right _ hx
  have r1 := rep_op hU f hfo
  rw [hf] at r1
  generalize hv : a.eval f = v at r1
  cases r1 with
  | clo _ _ us hl hr =>
    have hR := (repL_evL (F := F) (ρ := ρ) (L := lens M') (I := I) (w := w) (N := N) (a := a) as.toList (fun x hx => rep_op hU x (hao x hx))).append (⟨hl, hr⟩ : RepL ρ (lens M') I w N caps us)
    obtain ⟨v, hc, hr⟩ := h1 ρ (lens M') I N w _ hR
    have e : (as.map a.eval) ++ us.toArray = (as.toList.map a.eval ++ us).toArray := by apply Array.ext'; simp
    have hrun : (execOp a.eval o).run R.P w = .ok (.value v) w := by
      rw [← hc]
      simp [execOp, ho, resolve, hv, Deferred.ofValue, invoke, e]
    unfold Yield
    rw [hrun]
    exact .value hW hr

theorem ICall.step {lo : Bool} {o : Oper} {F : Frm} {M : IMem} {nx : Nat} {K : KS} {f : Operand} {fo : Sc} {as : Array Operand} {is : List Sc} {ts : Array TypeId} {g : Nat} {caps : List AV}
    (ho : o.op = .call { callee := .value f, args := as, argTypes := ts }) (hm : msc R f fo = true) (hl : mscL R as.toList is = true) (hf : scv R F fo = .clo g caps) (h : ICall R X lo g (is.map (scv R F) ++ caps) F M nx o.dst K) : StepG R X lo o F M nx K := by
  rcases h.h with h | ⟨h0, h⟩
  · exact .inl (h.step ho (by rw [msc_eq hm]; exact hf) (by rw [mscL_eq hl]))
  · exact .inr ⟨h0, .inl (h.step ho (by rw [msc_eq hm]; exact hf) (by rw [mscL_eq hl]))⟩

theorem arr1 {α : Type} {a : Array α} {x : α} (h : a.toList = [x]) : a = #[x] := by apply Array.ext'; simpa using h
theorem arr2 {α : Type} {a : Array α} {x y : α} (h : a.toList = [x, y]) : a = #[x, y] := by apply Array.ext'; simpa using h

def isW : IOp → Bool
  | .callw _ _ => true
  | _ => false
theorem mcall_sound {lo : Bool} {o : Oper} {c : Call} {i : IOp} {F : Frm} {M : IMem} {nx : Nat} {K : KS} (ho : o.op = .call c) (hm : mcall R c i = true) (hw : isW i = true → lo = false) (h : iop R X lo i o.dst F M nx K) : StepG R X lo o F M nx K := by
  have hT := R.ok.tt
  obtain ⟨cal, args, ts⟩ := c
  cases cal with
  | value f =>
    cases i with
    | call g as =>
      simp only [mcall, Bool.and_eq_true] at hm
      simp only [iop, evLK_eq] at h
      refine ICall.step ho hm.1 hm.2 rfl ?_
      rw [List.append_nil]
      exact h trivial
    | callv y as =>
      simp only [mcall, Bool.and_eq_true] at hm
      simp only [iop, evLK_eq, evK_eq] at h
      cases hy : scv R F y with
      | clo g caps =>
        rw [hy] at h
        exact ICall.step ho hm.1 hm.2 hy (h trivial)
      | _ => rw [hy] at h; exact h.elim
    | callx g as =>
      simp only [mcall, Bool.and_eq_true] at hm
      simp only [iop, evLK_eq] at h
      obtain ⟨av, h1, h2⟩ := (h trivial).step (o := o) (caps := []) ho (by rw [msc_eq hm.1]; rfl) (by rw [mscL_eq hm.2, List.append_nil])
      exact .inl (.value h1 h2)
    | callr y as =>
      simp only [mcall, Bool.and_eq_true] at hm
      simp only [iop, evLK_eq, evK_eq] at h
      cases hy : scv R F y with
      | clo g caps =>
        rw [hy] at h
        obtain ⟨av, ws, nw, nx', M', h1, h2, h3, h4, h5⟩ := (h trivial).step (o := o) ho (by rw [msc_eq hm.1]; exact hy) (by rw [mscL_eq hm.2])
        exact .inl ⟨av, ws, nw, nx', M', h1, fun p hp => .inl (h2 p hp), h3, h4, finK_to h5⟩
      | _ => rw [hy] at h; exact h.elim
    | callw y as =>
      have hw := hw rfl
      subst hw
      simp only [iop, evLK_eq, evK_eq] at h
      cases hy : scv R F y with
      | clo g caps => rw [hy] at h; exact h.elim
      | _ => rw [hy] at h; exact h.elim
    | _ => simp [mcall] at hm
  | invoke r m => cases i <;> simp [mcall] at hm
  | builtin b =>
    left
    cases i with
    | lenA n =>
      cases b <;> simp only [mcall] at hm <;> try (simp at hm; done)
      split at hm
      · rename_i x t hx ht
        obtain rfl := arr1 hx
        obtain rfl := arr1 ht
        split at hm
        · rename_i m e hd
          obtain rfl := Nat.eq_of_beq_eq_true hm
          exact .value' (does_len (K := fun v => finK o.dst v F M nx K) hT rfl ho (by rw [hd]; exact h))
        · simp at hm
      · simp at hm
    | lenS y =>
      cases b <;> simp only [mcall] at hm <;> try (simp at hm; done)
      split at hm
      · rename_i x t hx ht
        obtain rfl := arr1 hx
        obtain rfl := arr1 ht
        simp only [Bool.and_eq_true] at hm
        obtain ⟨h1, hm⟩ := hm
        split at hm
        · rename_i e hd
          refine .value' (does_len (K := fun v => finK o.dst v F M nx K) hT rfl ho ?_)
          rw [hd]
          simp only [iop, evK_eq] at h
          rw [← msc_eq (F := F) h1] at h
          simp only
          cases hv : ev F x with
          | isl s es => rw [hv] at h; exact (h trivial).h
          | nils => rw [hv] at h; exact h
          | osl n len =>
            rw [hv] at h
            simp only [lenSK] at h
            obtain ⟨b, hb, hl, h⟩ := aliveK_elim h
            exact alive_of hb hl h
          | vsl n len i off cnt =>
            rw [hv] at h
            simp only [lenSK] at h
            obtain ⟨b, hb, hl, h⟩ := aliveK_elim h
            exact alive_of hb hl h
          | _ => rw [hv] at h; exact h.elim
        · simp at hm
      · simp at hm
    | lenT y =>
      cases b <;> simp only [mcall] at hm <;> try (simp at hm; done)
      split at hm
      · rename_i x t hx ht
        obtain rfl := arr1 hx
        obtain rfl := arr1 ht
        simp only [Bool.and_eq_true] at hm
        obtain ⟨h1, hm⟩ := hm
        split at hm
        · rename_i hd
          refine .value' (does_len (K := fun v => finK o.dst v F M nx K) hT rfl ho ?_)
          rw [hd]
          simp only [iop, evK_eq] at h
          rw [← msc_eq (F := F) h1] at h
          simp only
          cases hv : ev F x with
          | str s => rw [hv] at h; exact h
          | _ => rw [hv] at h; exact h.elim
        · simp at hm
      · simp at hm
    | mm mx as =>
      simp only [iop, evLK_eq] at h
      obtain ⟨h1, h2⟩ := mmK_elim h
      cases b <;> cases mx <;> simp only [mcall] at hm <;> try (simp at hm; done)
      · rw [← mscL_eq (F := F) hm] at h1 h2
        exact .value (does_minmax (mx := true) ho h1) h2
      · rw [← mscL_eq (F := F) hm] at h1 h2
        exact .value (does_minmax (mx := false) ho h1) h2
    | app ty sz s y =>
      cases b <;> simp only [mcall] at hm <;> try (simp at hm; done)
      split at hm
      · rename_i x1 x2 t t' hx ht
        obtain rfl := arr2 hx
        obtain rfl := arr2 ht
        simp only [Bool.and_eq_true] at hm
        obtain ⟨⟨h1, h2⟩, hm⟩ := hm
        split at hm
        · rename_i e e' hd hd'
          simp only [Bool.and_eq_true] at hm
          obtain ⟨⟨⟨⟨hty, hsz⟩, hok⟩, hsol⟩, hcl⟩ := hm
          simp only [iop, evK_eq] at h
          rw [← msc_eq (F := F) h1, ← msc_eq (F := F) h2] at h
          have hns : ¬ ∃ q, ev F x2 = .str q := by
            rintro ⟨q, hq⟩
            rw [hq] at h
            unfold appK at h
            split at h
            · obtain ⟨b, _, h⟩ := igetK_elim h
              cases b with
              | var => exact h.elim
              | arr t z es =>
                simp only at h
                cases hz : Nat.beq z sz with
                | false => rw [hz] at h; exact h.elim
                | true => rw [hz] at h; exact (h trivial).2.elim
            · exact h.elim
            · exact h.elim
          have h3 := appK_elim hd (Nat.eq_of_beq_eq_true hty) (Nat.eq_of_beq_eq_true hsz) (F := F) (x := ev F x2) (src := asrcK sz (ev F x2) M) (fun K h => asrcK_elim h) h
          obtain ⟨av, n, b, nw, nx', h4, ⟨M', h5, h6⟩, h7⟩ := does_append (X := X) hT rfl ho
            (fun e' he => by rw [hd] at he; cases he; exact ⟨hok, hsol, Nat.eq_of_beq_eq_true hcl⟩) (fun hq => (hns hq).elim) (fun _ => ⟨e', hd'⟩) h3
          refine ⟨av, [(n, b)], nw, nx', M', h4, ?_, ?_, h5, finK_to h6⟩
          · rcases h7 with ⟨rfl, _, rfl⟩ | ⟨_, _, hn⟩
            · exact fun p hp => by simp at hp; simp [hp]
            · exact fun p hp => by simp only [List.mem_singleton] at hp; rw [hp]; simp only [wnames, ho]; exact .inr hn
          · rcases h7 with ⟨rfl, rfl, _⟩ | ⟨rfl, rfl, _⟩
            · exact ⟨by simp, fun n hn => by simp at hn; subst hn; simp⟩
            · exact ⟨Nat.le_refl _, fun n hn => by simp at hn⟩
        · simp at hm
      · simp at hm
    | appZ ty sz z s y =>
      cases b <;> simp only [mcall] at hm <;> try (simp at hm; done)
      split at hm
      · rename_i x1 x2 t t' hx ht
        obtain rfl := arr2 hx
        obtain rfl := arr2 ht
        simp only [Bool.and_eq_true] at hm
        obtain ⟨⟨h1, h2⟩, hm⟩ := hm
        split at hm
        · rename_i e k' hd hd'
          simp only [Bool.and_eq_true, Bool.not_eq_true'] at hm
          obtain ⟨⟨⟨⟨⟨⟨hty, hsz⟩, hok⟩, hsol⟩, hcl⟩, hzz⟩, hpos⟩ := hm
          simp only [iop, evK_eq] at h
          rw [← msc_eq (F := F) h1, ← msc_eq (F := F) h2] at h
          have h3 := appZK_elim hd (Nat.eq_of_beq_eq_true hty) (Nat.eq_of_beq_eq_true hsz) (seqL_eq hzz) (F := F) h
          have hp0 : R.T.s e ≠ 0 := by rw [Nat.eq_of_beq_eq_true hsz]; intro e'; rw [e'] at hpos; simp at hpos
          obtain ⟨av, n, b, nw, nx', h4, ⟨M', h5, h6⟩, h7⟩ := does_appendZ (X := X) hT rfl ho
            (fun e' he => by rw [hd] at he; cases he; exact ⟨hok, hsol, Nat.eq_of_beq_eq_true hcl, hp0⟩) ⟨k', hd'⟩ h3
          refine ⟨av, [(n, b)], nw, nx', M', h4, ?_, ?_, h5, finK_to h6⟩
          · rcases h7 with ⟨rfl, _, rfl⟩ | ⟨_, _, hn⟩
            · exact fun p hp => by simp at hp; simp [hp]
            · exact fun p hp => by simp only [List.mem_singleton] at hp; rw [hp]; simp only [wnames, ho]; exact .inr hn
          · rcases h7 with ⟨rfl, rfl, _⟩ | ⟨rfl, rfl, _⟩
            · exact ⟨by simp, fun n hn => by simp at hn; subst hn; simp⟩
            · exact ⟨Nat.le_refl _, fun n hn => by simp at hn⟩
        · simp at hm
      · simp at hm
    | copy sz s y =>
      cases b <;> simp only [mcall] at hm <;> try (simp at hm; done)
      split at hm
      · rename_i x1 x2 t t' hx ht
        obtain rfl := arr2 hx
        obtain rfl := arr2 ht
        simp only [Bool.and_eq_true] at hm
        obtain ⟨⟨h1, h2⟩, hm⟩ := hm
        split at hm
        · rename_i e e' hd hd'
          simp only [Bool.and_eq_true] at hm
          obtain ⟨hsz, hok⟩ := hm
          obtain rfl := Nat.eq_of_beq_eq_true hsz
          simp only [iop, evK_eq] at h
          rw [← msc_eq (F := F) h1, ← msc_eq (F := F) h2] at h
          obtain ⟨n, off, cnt, ty, row, hv, hb, hfit, h⟩ := copyK_elim h
          have hns : ¬ ∃ q, ev F x2 = .str q := by
            rintro ⟨q, hq⟩
            rw [hq] at h
            exact h.elim
          obtain ⟨D, _, _, hD, hf, _⟩ := hT t' (by rw [hd']; simp)
          have hD := fits_slice hd' hf ▸ hD
          obtain ⟨xs, hk, hdoes, hn⟩ := does_copy (X := X) (M := mget (toM M)) hT rfl ho hd hok hv hb rfl (by simp [IBlk.blk]) hfit (.inl ⟨_, hD⟩) (fun hq => (hns hq).elim) (fun _ => ⟨_, hD⟩) (asrcK_elim h)
          have hk := (hk trivial).h
          obtain ⟨h5, h6⟩ := spliceK_elim hk
          obtain ⟨M', h7, h8⟩ := isetK_elim h6
          refine .write hdoes (by simp only [wnames, ho]; exact hn) ?_ h8
          rw [h7]
          simp only [IBlk.blk, splice_length h5]
          rfl
        · simp at hm
      · simp at hm
    | appT ty s y =>
      cases b <;> simp only [mcall] at hm <;> try (simp at hm; done)
      split at hm
      · rename_i x1 x2 t t' hx ht
        obtain rfl := arr2 hx
        obtain rfl := arr2 ht
        simp only [Bool.and_eq_true] at hm
        obtain ⟨⟨h1, h2⟩, hm⟩ := hm
        split at hm
        · rename_i e hd hd'
          simp only [Bool.and_eq_true] at hm
          obtain ⟨⟨⟨⟨hty, hsz⟩, hok⟩, hsol⟩, hcl⟩ := hm
          simp only [iop, evK_eq] at h
          rw [← msc_eq (F := F) h1, ← msc_eq (F := F) h2] at h
          have hsrc : ∀ K, asrcTK (ev F x2) K → asrc (toM M) 1 (ev F x2) K := by
            intro K h
            cases hv : ev F x2 with
            | str q => rw [hv] at h; exact chk_intro rfl h
            | _ => rw [hv] at h; exact h.elim
          have hs : ∃ q, ev F x2 = .str q := by
            cases hv : ev F x2 with
            | str q => exact ⟨q, rfl⟩
            | _ =>
              rw [hv] at h
              unfold appK at h
              split at h
              · obtain ⟨b, _, h⟩ := igetK_elim h
                cases b with
                | var => exact h.elim
                | arr t z es =>
                  simp only at h
                  cases hz : Nat.beq z 1 with
                  | false => rw [hz] at h; exact h.elim
                  | true => rw [hz] at h; exact (h trivial).2.elim
              · exact h.elim
              · exact h.elim
          have h3 := appK_elim hd (Nat.eq_of_beq_eq_true hty) (Nat.eq_of_beq_eq_true hsz) (F := F) (x := ev F x2) (src := asrcTK (ev F x2)) hsrc h
          obtain ⟨av, n, b, nw, nx', h4, ⟨M', h5, h6⟩, h7⟩ := does_append (X := X) hT rfl ho
            (fun e' he => by rw [hd] at he; cases he; exact ⟨hok, hsol, Nat.eq_of_beq_eq_true hcl⟩) (fun _ => hd') (fun hq => (hq hs).elim) h3
          refine ⟨av, [(n, b)], nw, nx', M', h4, ?_, ?_, h5, finK_to h6⟩
          · rcases h7 with ⟨rfl, _, rfl⟩ | ⟨_, _, hn⟩
            · exact fun p hp => by simp at hp; simp [hp]
            · exact fun p hp => by simp only [List.mem_singleton] at hp; rw [hp]; simp only [wnames, ho]; exact .inr hn
          · rcases h7 with ⟨rfl, rfl, _⟩ | ⟨rfl, rfl, _⟩
            · exact ⟨by simp, fun n hn => by simp at hn; subst hn; simp⟩
            · exact ⟨Nat.le_refl _, fun n hn => by simp at hn⟩
        · simp at hm
      · simp at hm
    | _ => cases b <;> simp [mcall] at hm

theorem slcSK_elim {T : TT} {t e sz : Nat} (ht : T.d t = .slice e) (hs : T.s e = sz) (hok : (T.d e).ok = true) {v : AV} {lo hi mx : Option AV} {M : Mem} {K : AV → Prop} (h : slcSK sz v lo hi mx K) : aslice T t v lo hi mx M K := by
  subst hs
  simp only [aslice, ht]
  refine chk_intro hok ?_
  cases v with
  | isl s es =>
    simp only [slcSK, beq_beq] at h
    cases hc : s == T.s e with
    | false => rw [hc] at h; exact h.elim
    | true =>
      rw [hc] at h
      have hse : s = T.s e := by simpa using hc
      subst hse
      refine chk_intro hc ?_
      revert h
      simp only [cond_true]
      split <;> first | exact fun h => ⟨(h trivial).1, ((h trivial).2 trivial).h⟩ | exact False.elim
  | _ => exact h.elim

theorem slcTK_elim {T : TT} {t : Nat} (ht : T.d t = .str) {v : AV} {lo hi : Option AV} {M : Mem} {K : AV → Prop} (h : slcTK v lo hi K) : aslice T t v lo hi none M K := by
  simp only [aslice, ht]
  cases v with
  | str s =>
    simp only [slcTK] at h
    revert h
    simp only
    split <;> first | exact fun h => ⟨(h trivial).1, ((h trivial).2 trivial).h⟩ | exact False.elim
  | _ => exact h.elim

/-- WHAT THE MACHINE SAYS OF AN OPERATION IS SO. -/
theorem iop_sound {lo : Bool} {o : Oper} {i : IOp} {F : Frm} {M : IMem} {nx : Nat} {K : KS} (hm : mop R o.op i = true) (hw : isW i = true → lo = false) (h : iop R X lo i o.dst F M nx K) : StepG R X lo o F M nx K := by
  have hT := R.ok.tt
  cases ho : o.op with
  | call c =>
    rw [ho] at hm
    have hm' : mcall R c i = true := by cases i <;> simpa [mop] using hm
    exact mcall_sound ho hm' hw h
  | move x =>
    rw [ho] at hm; left
    cases i <;> simp only [mop] at hm <;> try (simp at hm; done)
    simp only [iop, evK_eq] at h
    rw [← msc_eq (F := F) hm] at h
    exact .value (does_move (.inl ho)) h
  | assign x =>
    rw [ho] at hm; left
    cases i <;> simp only [mop] at hm <;> try (simp at hm; done)
    simp only [iop, evK_eq] at h
    rw [← msc_eq (F := F) hm] at h
    exact .value (does_move (.inr ho)) h
  | pick c x y =>
    rw [ho] at hm; left
    cases i <;> simp only [mop] at hm <;> try (simp at hm; done)
    simp only [Bool.and_eq_true] at hm
    simp only [iop, evK_eq] at h
    rw [← msc_eq (F := F) hm.1.1, ← msc_eq (F := F) hm.1.2, ← msc_eq (F := F) hm.2] at h
    cases hc : ev F c with
    | bool t =>
      rw [hc] at h
      refine .value (does_pick ho hc) ?_
      rcases (h trivial).sound with ⟨e, h1⟩ | ⟨e, h1⟩
      · rw [e]; exact h1
      · rw [e]; exact h1
    | _ => rw [hc] at h; exact h.elim
  | alloc t =>
    rw [ho] at hm; left
    cases i <;> simp only [mop] at hm <;> try (simp at hm; done)
    simp only [Bool.and_eq_true] at hm
    obtain ⟨⟨⟨h1, h2⟩, h3⟩, h4⟩ := hm
    have h1 := Nat.eq_of_beq_eq_true h1
    have h4 := seqL_eq h4
    refine StepL.new (b := .var t (cells (R.T.z t))) (does_alloc hT ho h2 h3) ?_
    simp only [iop, h1] at h
    rw [h4]; exact h
  | box t x =>
    rw [ho] at hm; left
    cases i <;> simp only [mop] at hm <;> try (simp at hm; done)
    simp only [Bool.and_eq_true] at hm
    have h1 := Nat.eq_of_beq_eq_true hm.1
    simp only [iop, evK_eq, h1] at h
    rw [← msc_eq (F := F) hm.2] at h
    obtain ⟨hs, h⟩ := cellsK_elim h
    exact StepL.new (b := .var t (cells (ev F x))) (does_box ho hs) h
  | build t ps =>
    rw [ho] at hm; left
    cases i <;> simp only [mop] at hm <;> try (simp at hm; done)
    simp only [Bool.and_eq_true] at hm
    obtain ⟨⟨⟨h1, h2⟩, h3⟩, h4⟩ := hm
    have h2 := Nat.eq_of_beq_eq_true h2
    have h3 := seqL_eq h3
    simp only [iop] at h
    rw [← h3] at h
    refine .value' (does_build (K := fun v => finK o.dst v F M nx K) hT ho ?_)
    unfold abuild
    split at h4
    · rename_i fs hd
      simp only [Bool.and_eq_true] at h4
      rw [hd]
      exact chk_intro (by simp only [h4.1, h1, h2, beq_self_eq_true, Bool.and_self]) (bldS h4.2 h)
    · rename_i k e hd
      simp only [Bool.and_eq_true] at h4
      rw [hd]
      exact chk_intro (by simp only [h4.1, h1, h2, beq_self_eq_true, Bool.and_self]) (bldA h4.2 h)
    · simp at h4
  | buildSlice t len ps =>
    rw [ho] at hm; left
    cases i <;> simp only [mop] at hm <;> try (simp at hm; done)
    split at hm
    · rename_i e hd
      simp only [Bool.and_eq_true, Bool.not_eq_true'] at hm
      obtain ⟨⟨⟨⟨⟨⟨⟨⟨⟨h1, h2⟩, h3⟩, h4⟩, h5⟩, h6⟩, h7⟩, h8⟩, h9⟩, h10⟩ := hm
      have h1 := Nat.eq_of_beq_eq_true h1
      have h2 := Nat.eq_of_beq_eq_true h2
      have h3 := Nat.eq_of_beq_eq_true h3
      have h6 := seqL_eq h6
      have h7 := Nat.eq_of_beq_eq_true h7
      have h9 := Nat.le_of_ble_eq_true h9
      have h8 : R.T.s e ≠ 0 := by intro e'; rw [← h2, e'] at h8; simp at h8
      simp only [iop] at h
      have h := repK_elim h
      rw [← h6, ← h3, ← h2] at h
      obtain ⟨es, h11, h12⟩ := fillE_det ps.toList _ (bldE h10 h)
      rw [h1, h2] at h12
      rw [← h2] at h9 h12 h7
      refine StepL.new (b := .arr e (R.T.s e) es) (does_buildSlice (X := X) hT ho hd h4 h5 h7 h8 h9 h11).1 h12
    · simp at hm
  | load t a =>
    rw [ho] at hm; left
    cases i <;> simp only [mop] at hm <;> try (simp at hm; done)
    simp only [Bool.and_eq_true] at hm
    obtain ⟨⟨⟨h1, h2⟩, h3⟩, h4⟩ := hm
    simp only [iop, evK_eq] at h
    rw [← msc_eq (F := F) h4] at h
    exact .value' (does_load (K := fun v => finK o.dst v F M nx K) hT rfl h1 ho (loadK_elim (beqB_eq h2) (Nat.eq_of_beq_eq_true h3) h))
  | store t a x =>
    rw [ho] at hm; left
    cases i <;> simp only [mop] at hm <;> try (simp at hm; done)
    simp only [Bool.and_eq_true, Bool.not_eq_true'] at hm
    obtain ⟨⟨⟨⟨h1, h2⟩, h3⟩, h4⟩, h5⟩ := hm
    have h2 := Nat.eq_of_beq_eq_true h2
    simp only [iop, evK_eq] at h
    rw [← msc_eq (F := F) h4, ← msc_eq (F := F) h5] at h
    obtain ⟨hs, h⟩ := cellsK_elim h
    obtain ⟨hl, h⟩ := lenIs_elim h
    have hz : R.T.s t ≠ 0 := by intro e; rw [← h2, e] at h3; simp at h3
    obtain ⟨n, b, h6, h7, ⟨M', h8, h9⟩, _⟩ := does_store (X := X) hT rfl h1 ho (storeK_elim (t := t) hs (by rw [hl, h2]) hz h)
    exact .write h6 (by rw [ho]; exact h7) h8 h9
  | nilCheck x =>
    rw [ho] at hm; left
    cases i <;> simp only [mop] at hm <;> try (simp at hm; done)
    simp only [iop, evK_eq] at h
    rw [← msc_eq (F := F) hm] at h
    refine .value' (does_nilCheck (K := fun v => finK o.dst v F M nx K) rfl ho ?_)
    cases hv : ev F x with
    | loc nm len i q =>
      rw [hv] at h
      obtain ⟨b, hb, hl, h⟩ := aliveK_elim h
      exact .inl ⟨_, _, _, _, rfl, alive_of hb hl h⟩
    | iptr e q => rw [hv] at h; exact .inr (.inl ⟨_, _, rfl, h⟩)
    | clo f cs => rw [hv] at h; exact .inr (.inr ⟨_, _, rfl, h⟩)
    | _ => rw [hv] at h; exact h.elim
  | binOp op xt x y yt =>
    rw [ho] at hm
    by_cases hisn1 : ∃ neg x', i = .isn neg x'
    · obtain ⟨neg, x', rfl⟩ := hisn1
      cases y with
      | const c =>
        simp only [mop, Bool.and_eq_true] at hm
        obtain ⟨⟨h1, h2⟩, h3⟩ := hm
        have h1 := isEq_eq h1
        rw [h1] at ho
        simp only [iop, evK_eq] at h
        rw [← msc_eq (F := F) h2] at h
        split at h3
        · rename_i e hu
          left
          cases hv : ev F x with
          | nilp =>
            rw [hv] at h
            refine .value (does_nil_ptr (Ml := toM M) (b := true) rfl ho hu (.inl ⟨hv, rfl⟩)) ?_
            cases neg <;> exact h
          | iptr r q =>
            rw [hv] at h
            refine .value (does_nil_ptr (Ml := toM M) (b := false) rfl ho hu (.inr (.inl ⟨⟨_, _, hv⟩, rfl⟩))) ?_
            cases neg <;> exact h
          | loc nm len i q =>
            rw [hv] at h
            obtain ⟨bl, hb, hl, h⟩ := aliveK_elim h
            refine .value (does_nil_ptr (Ml := toM M) (b := false) rfl ho hu (.inr (.inr ⟨⟨_, _, _, _, _, hv, hb, hl⟩, rfl⟩))) ?_
            cases neg <;> exact h
          | _ => rw [hv] at h; exact h.elim
        · simp at h3
      | _ => simp [mop] at hm
    by_cases hisn2 : ∃ neg x', i = .isnS neg x'
    · obtain ⟨neg, x', rfl⟩ := hisn2
      cases y with
      | const c =>
        simp only [mop, Bool.and_eq_true] at hm
        obtain ⟨⟨h1, h2⟩, h3⟩ := hm
        have h1 := isEq_eq h1
        rw [h1] at ho
        simp only [iop, evK_eq] at h
        rw [← msc_eq (F := F) h2] at h
        split at h3
        · rename_i e hu
          cases hv : ev F x with
          | isl s es =>
            rw [hv] at h
            cases lo with
            | true => exact h.elim
            | false =>
              refine .inr ⟨rfl, .inr fun ρ I a w W Fo => ?_⟩
              obtain ⟨b, hb, hy⟩ := yield_nil_isl (X := X) (neg := neg) ho hu hv W (fun s _ => Fo.rep s)
              refine ⟨_, hy, ?_⟩
              have hh := h trivial
              cases b with
              | true => have := hh.y (hb rfl); cases neg <;> exact finK_to this
              | false => have := finK_to hh.n; cases neg <;> exact this
          | _ => rw [hv] at h; exact h.elim
        · simp at h3
      | _ => simp [mop] at hm
    left
    cases i <;> first | exact (hisn1 ⟨_, _, rfl⟩).elim | exact (hisn2 ⟨_, _, rfl⟩).elim | (simp only [mop] at hm) <;> try (simp at hm; done)
    all_goals clear hisn1 hisn2
    · simp only [Bool.and_eq_true] at hm
      obtain rfl := bno_eq hm.1.1
      simp only [iop, evK_eq] at h
      rw [← msc_eq (F := F) hm.1.2, ← msc_eq (F := F) hm.2] at h
      exact .value' (does_bin (K := fun v => finK o.dst v F M nx K) ho (binK_elim h))
    · rename_i neg x' y'
      simp only [Bool.and_eq_true] at hm
      obtain ⟨⟨⟨h1, h2⟩, h3⟩, h4⟩ := hm
      have h1 := isEq_eq h1
      split at h4
      · rename_i hu
        simp only [iop, evK_eq] at h
        rw [← msc_eq (F := F) h2, ← msc_eq (F := F) h3] at h
        cases hv : ev F x with
        | bool a =>
          cases hv' : ev F y with
          | bool b =>
            rw [hv, hv'] at h
            refine .value (does_eq_bool (neg := neg) (by rw [ho, h1]) hu hv hv') ?_
            cases neg <;> exact h
          | _ => rw [hv, hv'] at h; exact h.elim
        | _ => rw [hv] at h; exact h.elim
      · simp at h4
    · rename_i neg ls x' y'
      simp only [Bool.and_eq_true, Bool.not_eq_true'] at hm
      obtain ⟨⟨⟨⟨⟨h1, h2⟩, h3⟩, hg⟩, ha⟩, h4⟩ := hm
      have h1 := isEq_eq h1
      split at h4
      · rename_i l hl
        obtain rfl := lkEq_eq h4
        simp only [iop, evK_eq] at h
        rw [← msc_eq (F := F) h2, ← msc_eq (F := F) h3] at h
        cases hv : ev F x with
        | agg as =>
          cases hv' : ev F y with
          | agg bs =>
            rw [hv, hv'] at h
            obtain ⟨rs, h5, h6⟩ := eqaK_elim h
            refine .value (does_eq_agg (neg := neg) (d := 8) (by omega) (by rw [ho, h1]) hg ha hl hv hv' h5) ?_
            cases neg <;> exact h6
          | _ => rw [hv, hv'] at h; exact h.elim
        | _ => rw [hv] at h; exact h.elim
      · simp at h4
    · simp only [Bool.and_eq_true] at hm
      obtain rfl := bno_eq hm.1.1
      simp only [iop, evK_eq] at h
      rw [← msc_eq (F := F) hm.1.2, ← msc_eq (F := F) hm.2] at h
      cases hv : ev F x with
      | str a =>
        cases hv' : ev F y with
        | str b =>
          rw [hv, hv'] at h
          exact .value' (does_str (K := fun v => finK o.dst v F M nx K) ho hv hv' (bstK_elim h))
        | _ => rw [hv, hv'] at h; exact h.elim
      | _ => rw [hv] at h; exact h.elim
  | unOp op xt x =>
    rw [ho] at hm; left
    cases i <;> simp only [mop] at hm <;> try (simp at hm; done)
    simp only [Bool.and_eq_true] at hm
    obtain rfl := uno_eq hm.1
    simp only [iop, evK_eq] at h
    rw [← msc_eq (F := F) hm.2] at h
    exact .value' (does_un (K := fun v => finK o.dst v F M nx K) ho (unK_elim h))
  | convert s t x =>
    rw [ho] at hm; left
    cases i <;> simp only [mop] at hm <;> try (simp at hm; done)
    · simp only [Bool.and_eq_true] at hm
      obtain ⟨⟨h1, h2⟩, h3⟩ := hm
      split at h2
      · rename_i k' hd
        obtain rfl := keq_eq h2
        simp only [iop, evK_eq] at h
        rw [← msc_eq (F := F) h3] at h
        refine .value' (does_conv (K := fun v => finK o.dst v F M nx K) hT ho h1 ?_)
        rw [hd]
        cases hv : ev F x with
        | int k n => rw [hv] at h; exact (h trivial).h
        | _ => rw [hv] at h; exact h.elim
      · simp at h2
    · simp only [Bool.and_eq_true] at hm
      obtain ⟨⟨h1, h2⟩, h3⟩ := hm
      split at h2
      · rename_i hd
        simp only [iop, evK_eq] at h
        rw [← msc_eq (F := F) h3] at h
        refine .value' (does_conv (K := fun v => finK o.dst v F M nx K) hT ho h1 ?_)
        rw [hd]
        cases hv : ev F x with
        | str q => rw [hv] at h; exact h
        | _ => rw [hv] at h; exact h.elim
      · simp at h2
    · simp only [Bool.and_eq_true] at hm
      obtain ⟨h1, hm⟩ := hm
      split at hm
      · rename_i e hd hd'
        simp only [Bool.and_eq_true] at hm
        obtain ⟨h2, hm⟩ := hm
        split at hm
        · rename_i hde
          simp only [iop, evK_eq, Nat.eq_of_beq_eq_true h2] at h
          rw [← msc_eq (F := F) h1] at h
          cases hv : ev F x with
          | str q =>
            rw [hv] at h
            obtain ⟨h3, h4⟩ := h trivial
            exact StepL.new (b := .arr e 1 (q.map fun c => [AV.int .u8 c.toNat])) (does_s2b (X := X) hT ho hd hd' hde hv h3) h4
          | _ => rw [hv] at h; exact h.elim
        · simp at hm
      · simp at hm
    · simp only [Bool.and_eq_true] at hm
      obtain ⟨h1, hm⟩ := hm
      split at hm
      · rename_i e hd hd'
        split at hm
        · rename_i hde
          simp only [iop, evK_eq] at h
          rw [← msc_eq (F := F) h1] at h
          refine .value' (does_b2s (K := fun v => finK o.dst v F M nx K) (Ml := toM M) hT rfl hd hde hd' ho ?_ ?_)
          · rintro ⟨q, hq⟩
            rw [hq] at h
            exact h.elim
          · refine asrc_mono ?_ (asrcK_elim h)
            intro xs hx
            obtain ⟨s, h1, h2⟩ := (hx trivial).h
            exact ⟨s, h1, h2⟩
        · simp at hm
      · simp at hm
  | makeFunc fn first caps =>
    rw [ho] at hm; left
    cases fn with
    | func f =>
      cases i <;> simp only [mop] at hm <;> try (simp at hm; done)
      simp only [Bool.and_eq_true] at hm
      obtain ⟨⟨h1, h2⟩, h3⟩ := hm
      have h2 := Nat.eq_of_beq_eq_true h2
      simp only [iop, evLK_eq, Env.cl, h2] at h
      rw [← mscL_eq (F := F) h3] at h
      exact .value (does_makeFunc ho h1) h
    | _ => cases i <;> simp [mop] at hm
  | fieldAddr s x f =>
    rw [ho] at hm; left
    cases i <;> simp only [mop] at hm <;> try (simp at hm; done)
    simp only [Bool.and_eq_true] at hm
    obtain ⟨h1, hm⟩ := hm
    split at hm
    · rename_i fs hs
      split at hm
      · rename_i o' ft hf
        simp only [Bool.and_eq_true, Bool.not_eq_true'] at hm
        obtain ⟨⟨h2, h3⟩, h4⟩ := hm
        obtain rfl := Nat.eq_of_beq_eq_true h2
        simp only [iop, evK_eq] at h
        rw [← msc_eq (F := F) h1] at h
        have h4 : (R.T.s ft == 0) = false := by rw [← beq_beq]; exact h4
        cases hv : ev F x with
        | loc nm len i q =>
          rw [hv] at h
          obtain ⟨b, hb, hl, h⟩ := aliveK_elim h
          exact .value (does_field hT ho hs hf h4 (TD.ok_ne h3) (.inl ⟨nm, len, i, q, b.blk, hv, hb, hl, rfl⟩)) h
        | iptr e q =>
          rw [hv] at h
          exact .value (does_field hT ho hs hf h4 (TD.ok_ne h3) (.inr ⟨e, q, hv, rfl⟩)) h
        | _ => rw [hv] at h; exact h.elim
      · simp at hm
    · simp at hm
  | indexAddr t x j =>
    rw [ho] at hm; left
    cases i <;> simp only [mop] at hm <;> try (simp at hm; done)
    · simp only [Bool.and_eq_true] at hm
      obtain ⟨⟨h1, h2⟩, hm⟩ := hm
      split at hm
      · rename_i e hd
        simp only [Bool.and_eq_true] at hm
        simp only [iop, evK_eq] at h
        rw [← msc_eq (F := F) h1, ← msc_eq (F := F) h2] at h
        exact .value' (does_index (K := fun v => finK o.dst v F M nx K) hT rfl (fun e' he => by rw [hd] at he; cases he; exact hm.2) (fun m e' he => by rw [hd] at he; cases he) ho (idxSK_elim hd (Nat.eq_of_beq_eq_true hm.1) h))
      · simp at hm
    · simp only [Bool.and_eq_true] at hm
      obtain ⟨⟨h1, h2⟩, hm⟩ := hm
      split at hm
      · rename_i k e hd
        simp only [Bool.and_eq_true] at hm
        obtain ⟨⟨h3, h4⟩, h5⟩ := hm
        obtain rfl := Nat.eq_of_beq_eq_true h3
        simp only [iop, evK_eq] at h
        rw [← msc_eq (F := F) h1, ← msc_eq (F := F) h2] at h
        exact .value' (does_index (K := fun v => finK o.dst v F M nx K) hT rfl (fun e' he => by rw [hd] at he; cases he) (fun m e' he => by rw [hd] at he; cases he; exact h5) ho (idxAK_elim hd (Nat.eq_of_beq_eq_true h4) h))
      · simp at hm
  | slice t x a b c =>
    rw [ho] at hm; left
    cases i <;> simp only [mop] at hm <;> try (simp at hm; done)
    · simp only [Bool.and_eq_true] at hm
      obtain ⟨⟨⟨⟨h1, h2⟩, h3⟩, h4⟩, hm⟩ := hm
      split at hm
      · rename_i e hd
        simp only [Bool.and_eq_true] at hm
        obtain ⟨⟨h5, h6⟩, h7⟩ := hm
        obtain rfl := Nat.eq_of_beq_eq_true h6
        obtain rfl : a = none := by simpa using h2
        obtain ⟨k, rfl⟩ := is0_eq h3
        obtain ⟨k', rfl⟩ := is0_eq h4
        simp only [iop, evK_eq, Nat.eq_of_beq_eq_true h5] at h
        rw [← msc_eq (F := F) h1] at h
        cases hv : ev F x with
        | isl s es =>
          rw [hv] at h
          exact StepL.new (b := .arr e (R.T.s e) []) (does_clip0 (X := X) (F := F) (M := mget (toM M)) (n := nx) hT hd h7 ho rfl rfl ⟨s, es, hv⟩) h
        | _ => rw [hv] at h; exact h.elim
      · simp at hm
    · simp only [Bool.and_eq_true] at hm
      obtain ⟨⟨⟨⟨h1, h2⟩, h3⟩, h4⟩, hm⟩ := hm
      split at hm
      · rename_i e hd
        simp only [Bool.and_eq_true] at hm
        simp only [iop, evK_eq, evOK_eq] at h
        rw [← msc_eq (F := F) h1, ← mscO_eq (F := F) h2, ← mscO_eq (F := F) h3, ← mscO_eq (F := F) h4] at h
        exact .value' (does_slice (K := fun v => finK o.dst v F M nx K) (Ml := toM M) hT ho (slcSK_elim hd (Nat.eq_of_beq_eq_true hm.1.2) hm.2 h))
      · simp at hm
    · simp only [Bool.and_eq_true] at hm
      obtain ⟨⟨⟨⟨⟨⟨⟨⟨h1, h2⟩, h3⟩, h4⟩, h5⟩, h6⟩, h7⟩, h8⟩, hm⟩ := hm
      obtain rfl : a = none := by simpa using h2
      obtain rfl : b = none := by simpa using h3
      obtain rfl : c = none := by simpa using h4
      rename_i m sz y l hh mx
      obtain rfl : l = none := by simpa using h5
      obtain rfl : hh = none := by simpa using h6
      obtain rfl : mx = none := by simpa using h7
      have hmx : m ≤ maxLen := by
        have := Nat.le_of_ble_eq_true h8
        simp only [maxLen]; omega
      split at hm
      · rename_i k e hd
        simp only [Bool.and_eq_true] at hm
        obtain ⟨⟨h9, h10⟩, h11⟩ := hm
        obtain rfl := Nat.eq_of_beq_eq_true h9
        obtain rfl := Nat.eq_of_beq_eq_true h10
        simp only [iop, evK_eq] at h
        rw [← msc_eq (F := F) h1] at h
        cases hv : ev F x with
        | loc nm len i off =>
          rw [hv] at h
          obtain ⟨b, hb, hl, h⟩ := aliveK_elim h
          exact .value (does_slcA_loc hT rfl hd h11 ho hmx hv hb hl) h
        | iptr r off =>
          rw [hv] at h
          simp only at h
          cases hz : Nat.beq (R.T.s e) 0 with
          | true => rw [hz] at h; exact h.elim
          | false =>
            rw [hz] at h
            obtain ⟨h12, h13⟩ := dropK_elim h
            obtain ⟨h14, h15⟩ := chopK_elim h13
            rw [List.length_drop] at h14
            exact .value (does_slcA_imm hT hd h11 ho hmx hv (by omega)) h15
        | _ => rw [hv] at h; exact h.elim
      · simp at hm
    · simp only [Bool.and_eq_true] at hm
      obtain ⟨⟨⟨⟨h1, h2⟩, h3⟩, h4⟩, hm⟩ := hm
      split at hm
      · rename_i hd
        simp only [iop, evK_eq, evOK_eq] at h
        rw [← msc_eq (F := F) h1, ← mscO_eq (F := F) h2, ← mscO_eq (F := F) h3] at h
        cases c with
        | some => simp at h4
        | none => exact .value' (does_slice (K := fun v => finK o.dst v F M nx K) (Ml := toM M) hT ho (slcTK_elim hd h))
      · simp at hm
  | makeSlice t l c =>
    rw [ho] at hm; left
    cases i <;> simp only [mop] at hm <;> try (simp at hm; done)
    simp only [Bool.and_eq_true] at hm
    obtain ⟨⟨h1, h2⟩, hm⟩ := hm
    split at hm
    · rename_i e hd
      simp only [Bool.and_eq_true, Bool.not_eq_true'] at hm
      obtain ⟨⟨⟨⟨⟨⟨h3, h4⟩, h5⟩, h6⟩, h7⟩, h8⟩, h9⟩ := hm
      obtain rfl := Nat.eq_of_beq_eq_true h4
      have h7 := seqL_eq h7
      have h8 := Nat.eq_of_beq_eq_true h8
      have hz : R.T.s e ≠ 0 := by intro e'; rw [e'] at h9; simp at h9
      simp only [iop, evK_eq, Nat.eq_of_beq_eq_true h3] at h
      rw [← msc_eq (F := F) h1, ← msc_eq (F := F) h2] at h
      cases hv : ev F l with
      | int k x =>
        cases hv' : ev F c with
        | int k' y =>
          rw [hv, hv'] at h
          obtain ⟨⟨h10, h11, h12⟩, h13⟩ := (h trivial).h
          obtain ⟨n, rfl⟩ : ∃ n : Nat, x = n := ⟨x.toNat, by omega⟩
          rw [← h12] at hv'
          rw [Int.toNat_natCast] at h13
          have := does_mks (X := X) (M := mget (toM M)) (n := nx) hT ho hd h5 h6 h8 hz hv hv' (by simp only [big]; omega)
          rw [h7] at this
          exact StepL.new (b := .arr e (R.T.s e) _) this h13
        | _ => rw [hv, hv'] at h; exact h.elim
      | _ => rw [hv] at h; exact h.elim
    · simp at hm
  | index t x j =>
    rw [ho] at hm; left
    cases i <;> simp only [mop] at hm <;> try (simp at hm; done)
    · rename_i ag m sz x' j'
      simp only [Bool.and_eq_true] at hm
      obtain ⟨⟨h1, h2⟩, hm⟩ := hm
      split at hm
      · rename_i k e hd
        simp only [Bool.and_eq_true] at hm
        obtain ⟨⟨⟨h3, h4⟩, h5⟩, h6⟩ := hm
        obtain rfl := Nat.eq_of_beq_eq_true h3
        obtain rfl := Nat.eq_of_beq_eq_true h4
        obtain rfl := beqB_eq h6
        simp only [iop, evK_eq] at h
        rw [← msc_eq (F := F) h1, ← msc_eq (F := F) h2] at h
        cases hv : ev F x with
        | agg cs =>
          cases hv' : ev F j with
          | int k' j' =>
            rw [hv, hv'] at h
            have hh := h trivial
            exact .value' (does_indexV (K := fun v => finK o.dst v F M nx K) hT hd h5 ho hv hv' hh.lt hh.h)
          | _ => rw [hv, hv'] at h; exact h.elim
        | _ => rw [hv] at h; exact h.elim
      · simp at hm
    · simp only [Bool.and_eq_true] at hm
      obtain ⟨⟨h1, h2⟩, hm⟩ := hm
      split at hm
      · rename_i hd
        simp only [iop, evK_eq] at h
        rw [← msc_eq (F := F) h1, ← msc_eq (F := F) h2] at h
        cases hv : ev F x with
        | str s =>
          cases hv' : ev F j with
          | int k' j' =>
            rw [hv, hv'] at h
            have hh := h trivial
            exact .value (does_indexT hT hd ho hv hv' hh.1) hh.2
          | _ => rw [hv, hv'] at h; exact h.elim
        | _ => rw [hv] at h; exact h.elim
      · simp at hm
  | extract x j =>
    rw [ho] at hm; left
    cases i <;> simp only [mop] at hm <;> try (simp at hm; done)
    simp only [Bool.and_eq_true] at hm
    obtain ⟨h1, h2⟩ := hm
    obtain rfl := Nat.eq_of_beq_eq_true h2
    simp only [iop, evK_eq] at h
    rw [← msc_eq (F := F) h1] at h
    cases hv : ev F x with
    | tup vs =>
      rw [hv] at h
      obtain ⟨h3, h4⟩ := extK_elim h
      exact .value (does_extract ho hv h3) h4
    | _ => rw [hv] at h; exact h.elim
  | _ => rw [ho] at hm; cases i <;> simp [mop] at hm

end Go.AM

/- The reckoning machine 'IM', part 5: a body's run. -/


namespace Go.AM
open Go.RowKit
variable {R : Env} {X : Ctx}

/-! ### The machine -/
inductive IIt where
  | code (c : ICode)
  | blk (id : Nat)
  | inl (c : ICode)
  | rnd (post : KS)
  | scp

def guardK (g : Option (Nat × Bool)) (F : Frm) (run skip : Frm → Prop) : Prop :=
  match g with
  | none => run F
  | some (s, want) => lookK F s fun v => match v with
    | .bool t => (match want with
      | true => True → ACnd t (run ((s, .bool true) :: F)) (skip ((s, .bool false) :: F))
      | false => True → ACnd t (skip ((s, .bool true) :: F)) (run ((s, .bool false) :: F)))
    | .tup [] => skip F
    | _ => False

/- The recursions are written with their recursors: so the elaborator and the kernel come to the same terms. -/
noncomputable def opsC (R : Env) (X : Ctx) (o : IOper) (_ : List IOper) (ih : KS) : KS := fun F M nx =>
  guardK o.g F (fun F => iop R X false o.o o.d F M nx ih) (fun F => finK o.d (.tup []) F M nx ih)
noncomputable def irunOps (R : Env) (X : Ctx) (K : KS) (l : List IOper) : KS := List.rec (motive := fun _ => KS) K (opsC R X) l
theorem irunOps_cons {R : Env} {X : Ctx} {K : KS} {o : IOper} {r : List IOper} {F : Frm} {M : IMem} {nx : Nat} : irunOps R X K (o :: r) F M nx =
    guardK o.g F (fun F => iop R X false o.o o.d F M nx (irunOps R X K r)) (fun F => finK o.d (.tup []) F M nx (irunOps R X K r)) := rfl

/-- The names of local blocks that an operation may write to. -/
def iwn (R : Env) (F : Frm) (M : IMem) : IOp → List Nat
  | .store _ a _ => (scv R F a).names
  | .app _ _ s _ => (scv R F s).names
  | .appT _ s _ => (scv R F s).names
  | .appZ _ _ _ s _ => (scv R F s).names
  | .copy _ s _ => (scv R F s).names
  | .call _ as => AV.namesL (as.map (scv R F))
  | .callw f as => (match scv R F f with
    | .clo _ caps => rch M (AV.namesL (as.map (scv R F) ++ caps))
    | _ => [])
  | .callv f as => (match scv R F f with
    | .clo _ caps => AV.namesL (as.map (scv R F) ++ caps)
    | _ => [])
  | _ => []

/-- The names of local blocks that an operation may look into. -/
def ird (F : Frm) (M : IMem) (u : List Nat) : IOp → List Nat
  | .callw _ _ => rch M (rdn F u)
  | _ => rdn F u

/-- An address (1), a store (2), or anything else. -/
def ikd : IOp → Nat
  | .fldA _ _ => 1
  | .idxS _ _ _ => 1
  | .idxA _ _ _ _ => 1
  | .store _ _ _ => 2
  | _ => 0
def confM (ms : List Nat) (log : List LogE) : Bool := log.all fun x => log.all fun y => Nat.beq x.i y.i || pairOk ms x y || okAddr log x || okAddr log y

/-- A statement that draws its order. -/
structure IConf (ms : List Nat) (log : List LogE) (Y : Prop) : Prop where
  ok : confM ms log = true
  h : Y

abbrev DS := List (List Nat) → Nat → List LogE → Option (Nat × List Nat × List Nat × Nat × Nat) → KS
noncomputable def drwN (K : KS) (ms : List Nat) : DS := fun us _ log p F M nx => match us with
  | [] => True → IConf ms (pendE p nx log) (K F M nx)
  | _ :: _ => False
noncomputable def drwC (R : Env) (X : Ctx) (o : IOper) (_ : List IOper) (ih : DS) : DS := fun us i log p F M nx => match us with
  | [] => False
  | u :: q => guardK o.g F
      (fun F => iop R X true o.o o.d F M nx (ih q (i + 1) (pendE p nx log) (some (i, ird F M u o.o, iwn R F M o.o, nx, ikd o.o))))
      (fun F => finK o.d (.tup []) F M nx (ih q (i + 1) (pendE p nx log) none))
noncomputable def idraw (R : Env) (X : Ctx) (K : KS) (ms : List Nat) (l : List IOper) : DS := List.rec (motive := fun _ => DS) (drwN K ms) (drwC R X) l
theorem idraw_cons {R : Env} {X : Ctx} {K : KS} {ms : List Nat} {o : IOper} {r : List IOper} {u : List Nat} {q : List (List Nat)} {i : Nat} {log : List LogE} {p : Option (Nat × List Nat × List Nat × Nat × Nat)} {F : Frm} {M : IMem} {nx : Nat} :
    idraw R X K ms (o :: r) (u :: q) i log p F M nx = guardK o.g F
      (fun F => iop R X true o.o o.d F M nx (idraw R X K ms r q (i + 1) (pendE p nx log) (some (i, ird F M u o.o, iwn R F M o.o, nx, ikd o.o))))
      (fun F => finK o.d (.tup []) F M nx (idraw R X K ms r q (i + 1) (pendE p nx log) none)) := rfl
theorem idraw_nil {R : Env} {X : Ctx} {K : KS} {ms : List Nat} {i : Nat} {log : List LogE} {p : Option (Nat × List Nat × List Nat × Nat × Nat)} {F : Frm} {M : IMem} {nx : Nat} :
    idraw R X K ms [] [] i log p F M nx = (True → IConf ms (pendE p nx log) (K F M nx)) := rfl

def iunwK (id : Nat) : List IIt → (List IIt → Prop) → Prop
  | .blk id' :: k, K => bif Nat.beq id' id then K k else iunwK id k K
  | _ :: k, K => iunwK id k K
  | [], _ => False

def knownF (c : Sc) (b : Bool) (F : Frm) : Frm :=
  match c with
  | .t s => (s, .bool b) :: F
  | _ => F

/-! ### Which code of the program it is -/
def mdst : Option Nat → Option Nat → Bool
  | none, none => true
  | some a, some b => Nat.beq a b
  | _, _ => false
def mgd (all : Array Oper) (g g' : Option (Nat × Bool)) : Bool :=
  match g, g' with
  | none, none => true
  | some (j, w), some (s, w') => beqB w w' && (match all[j]? with
    | some o => mdst o.dst (some s)
    | none => false)
  | _, _ => false
def mopers (R : Env) (all : Array Oper) : List Oper → List IOper → Bool
  | [], [] => true
  | o :: r, i :: s => mdst o.dst i.d && mgd all o.guard i.g && mop R o.op i.o && mopers R all r s
  | _, _ => false
def natsEq : List Nat → List Nat → Bool
  | [], [] => true
  | a :: r, b :: s => Nat.beq a b && natsEq r s
  | _, _ => false
def usEq : List Oper → List (List Nat) → Bool
  | [], [] => true
  | o :: r, u :: s => natsEq (usesO o.op.operands.toList) u && usEq r s
  | _, _ => false
def mcode (R : Env) : Code → ICode → Bool
  | .skip, .skip => true
  | .label _, .skip => true
  | .ret, .ret => true
  | .exit a, .exit b => Nat.beq a b
  | .region _ ops false, .ops l => mopers R ops ops.toList l
  | .region _ ops true, .draw ms us l => mopers R ops ops.toList l && drawOk ops && natsEq (masks ops.toList []) ms && usEq ops.toList us
  | .seq a b, .seq c d => mcode R a c && mcode R b d
  | .cond x a b, .cond y c d => msc R x y && mcode R a c && mcode R b d
  | .block i c, .block j d => Nat.beq i j && mcode R c d
  | .loop c, .loop d => mcode R c d
  | .scope c, .scope d => mcode R c d
  | a, .keep _ d => mcode R a d
  | _, _ => false

/-- A predicate of states, as the run's end has it. -/
def PS (Q : KS) : St → Prop := fun S => ∃ F M nx, S = ⟨F, toM M, nx⟩ ∧ Q F M nx

def mits (R : Env) : List It → List IIt → Prop
  | [], [] => True
  | .code c :: r, .code i :: s => mcode R c i = true ∧ mits R r s
  | .blk a :: r, .blk b :: s => a = b ∧ mits R r s
  | .inl c :: r, .inl i :: s => mcode R c i = true ∧ mits R r s
  | .rnd _ p :: r, .rnd q :: s => p = PS q ∧ mits R r s
  | .scp _ :: r, .scp :: s => mits R r s
  | _, _ => False

/-- A loop: the machine stops here till an invariant is given. -/
structure ILoop (R : Env) (X : Ctx) (b : Frame) (Q : KS) (c : ICode) (k : List IIt) (F : Frm) (M : IMem) (nx : Nat) : Prop where
  h : ∀ c' ks, mcode R c' c = true → mits R ks k → ALoop R.P X b (PS Q) c' ks ⟨F, toM M, nx⟩

noncomputable def irunC (R : Env) (X : Ctx) (b : Frame) (Q : KS) (ih : List IIt → KS) (c : ICode) (k : List IIt) : KS := fun F M nx => match c with
  | .skip => ih k F M nx
  | .ret => Q F M nx
  | .exit id => iunwK id k fun k' => ih k' F M nx
  | .ops l => irunOps R X (ih k) l F M nx
  | .draw ms us l => idraw R X (ih k) ms l us 0 [] none F M nx
  | .seq x y => ih (.code x :: .code y :: k) F M nx
  | .cond c x y => evK R F c fun v => pickK v (ih (.code x :: k) (knownF c true F) M nx) (ih (.code y :: k) (knownF c false F) M nx)
  | .block id c => ih (.code c :: .blk id :: k) F M nx
  | .loop c => True → ILoop R X b Q c k F M nx
  | .keep ls c => keepK F ls fun F' => ih (.code c :: k) F' M nx
  | .scope c => ih (.code c :: .scp :: k) F M nx
noncomputable def irunS (R : Env) (X : Ctx) (b : Frame) (Q : KS) (_ : Nat) (ih : List IIt → KS) (is : List IIt) : KS := fun F M nx => match is with
  | [] => Q F M nx
  | .blk _ :: k => ih k F M nx
  | .inl c :: k => True → ILoop R X b Q c k F M nx
  | .rnd post :: _ => post F M nx
  | .scp :: k => ih k F M nx
  | .code c :: k => irunC R X b Q ih c k F M nx
noncomputable def irun (R : Env) (X : Ctx) (b : Frame) (Q : KS) (n : Nat) : List IIt → KS := Nat.rec (motive := fun _ => List IIt → KS) (fun _ _ _ _ => False) (irunS R X b Q) n
theorem irun_cond {R : Env} {X : Ctx} {b : Frame} {Q : KS} {n : Nat} {c : Sc} {x y : ICode} {k : List IIt} {F : Frm} {M : IMem} {nx : Nat} : irun R X b Q (n + 1) (.code (.cond c x y) :: k) F M nx =
    evK R F c fun v => pickK v (irun R X b Q n (.code x :: k) (knownF c true F) M nx) (irun R X b Q n (.code y :: k) (knownF c false F) M nx) := rfl

/-! ### It is so -/
theorem sat_ext {S S' : St} {a : Act} {w : World} (hF : look S.F = look S'.F) (hM : mget S.M = mget S'.M) (hn : S.nx = S'.nx) (h : Sat X S a w) : Sat X S' a w := by
  obtain ⟨F, M, nx⟩ := S
  obtain ⟨F', M', nx'⟩ := S'
  simp only at hF hM hn
  subst hn
  obtain ⟨ρ, I, W, Fo⟩ := h
  refine ⟨ρ, I, ?_, fun i => ?_, Fo.defers, Fo.size⟩
  · show Wok X ρ I (mget M') (· < nx) w
    rw [← hM]; exact W
  · have := Fo.rep i
    simp only at this ⊢
    rw [← hM, ← hF]; exact this

theorem mdst_eq {a b : Option Nat} (h : mdst a b = true) : a = b := by
  cases a <;> cases b <;> simp only [mdst] at h <;> first | rfl | (simp at h; done) | rw [Nat.eq_of_beq_eq_true h]

theorem mgd_some {all : Array Oper} {j s : Nat} {w w' : Bool} (h : mgd all (some (j, w)) (some (s, w')) = true) : w = w' ∧ (all[j]?).bind (·.dst) = some s := by
  simp only [mgd, Bool.and_eq_true] at h
  refine ⟨beqB_eq h.1, ?_⟩
  have h2 := h.2
  split at h2
  · rename_i o ho
    rw [ho]; exact mdst_eq h2
  · simp at h2

theorem guardK_sound {o : Oper} {all : Array Oper} {g : Option (Nat × Bool)} {F : Frm} {M : Mem} {nx : Nat} {run skip : Frm → Prop} {a : Act} {w : World} (hm : mgd all o.guard g = true)
    (hS : Sat X ⟨F, M, nx⟩ a w) (h : guardK g F run skip) : ∃ F', Sat X ⟨F', M, nx⟩ a w ∧ ((Region.wanted o (yielded all a.tmps) = true ∧ run F') ∨ (Region.wanted o (yielded all a.tmps) = false ∧ skip F')) := by
  cases hg : o.guard with
  | none =>
    rw [hg] at hm
    cases g with
    | some p => simp [mgd] at hm
    | none => exact ⟨F, hS, .inl ⟨by simp [Region.wanted, hg], h⟩⟩
  | some p =>
    obtain ⟨j, want⟩ := p
    rw [hg] at hm
    cases g with
    | none => simp [mgd] at hm
    | some q =>
      obtain ⟨s, want'⟩ := q
      obtain ⟨rfl, hs⟩ := mgd_some hm
      simp only [guardK, lookK_eq] at h
      have hy := yielded_of (tmps := a.tmps) hs
      have hw : Region.wanted o (yielded all a.tmps) = (yielded all a.tmps j == some want) := by simp [Region.wanted, hg]
      obtain ⟨ρ, I, W, Fo⟩ := id hS
      have hr := Fo.rep s
      simp only at hr
      cases hl : look F s with
      | bool t =>
        rw [hl] at h hr
        have hv := rep_bool hr
        rw [getD_bool hv] at hy
        simp only at hy h
        cases want with
        | true =>
          rcases (h trivial).sound with ⟨rfl, h1⟩ | ⟨rfl, h1⟩
          · exact ⟨_, sat_known hS hv, .inl ⟨by rw [hw, hy]; rfl, h1⟩⟩
          · exact ⟨_, sat_known hS hv, .inr ⟨by rw [hw, hy]; rfl, h1⟩⟩
        | false =>
          rcases (h trivial).sound with ⟨rfl, h1⟩ | ⟨rfl, h1⟩
          · exact ⟨_, sat_known hS hv, .inr ⟨by rw [hw, hy]; rfl, h1⟩⟩
          · exact ⟨_, sat_known hS hv, .inl ⟨by rw [hw, hy]; rfl, h1⟩⟩
      | tup vs =>
        rw [hl] at h hr
        cases vs with
        | cons _ _ => exact h.elim
        | nil =>
          generalize hv : a.tmps.getD s undef = v at hr
          cases hr with
          | tup _ us hle hh =>
            have hus : us = [] := List.eq_nil_of_length_eq_zero (by simpa using hle)
            subst hus
            have hyn : yielded all a.tmps j = none := by
              rw [hy]
              cases ht : a.tmps[s]? with
              | none => rfl
              | some v =>
                rw [Array.getD_eq_getD_getElem?, ht] at hv
                simp at hv
                rw [hv]
            exact ⟨F, hS, .inr ⟨by rw [hw, hyn]; rfl, h⟩⟩
      | _ => rw [hl] at h; exact h.elim

theorem stepL_sat {o : Oper} {F : Frm} {M : IMem} {nx : Nat} {K : KS} (h : StepL R X o F M nx K) {all : Array Oper} {i : Nat} {rest : List Nat} {b : Frame} {k : List Item} {cs : List Frame} {a : Act} {w : World} (ho : all[i]? = some o) (hd : ∀ x, o.dst = some x → x < X.size)
    (hw : Region.wanted o (yielded all a.tmps) = true) (hS : Sat X ⟨F, toM M, nx⟩ a w) :
    ∃ F' M' nx', K F' M' nx' ∧ ∃ a' w', Sat X ⟨F', toM M', nx'⟩ a' w' ∧ Steps R.P (lone (b.at a (.inRegion all (i :: rest) :: k)) cs w) (lone (b.at a' (.inRegion all rest :: k)) cs w') := by
  obtain ⟨av, ws, nw, nx', M', hdoes, _, ⟨hle, hnw⟩, hM, hk⟩ := h
  obtain ⟨ρ, I, W, Fo⟩ := hS
  have hnames : ∀ s, ∀ m ∈ (look F s).names, m < nx := fun s m hm => rep_names (Fo.rep s) m hm
  have hy := hdoes.2 (mget (toM M)) (· < nx) ρ I a w W (fun s _ => Fo.rep s) (fun _ _ _ _ => rfl) (fun m hm => by have := (hnw m hm).1; omega)
  have hws : ∀ p ∈ ws, p.1 < nx' := fun p hp => by
    rcases hdoes.1 p hp with h | ⟨s, _, hs⟩
    · exact (hnw _ h).2
    · have := hnames s _ hs; omega
  obtain ⟨v, w1, hp, hst⟩ := op_step (b := b) (rest := rest) (k := k) (cs := cs) ho hw hy
  have hS2 := sat_put (S := ⟨F, toM M, nx⟩) (nw := nw) Fo hws hle hd hp
  exact ⟨_, M', nx', hk, _, w1, sat_ext (S := ⟨updF F o.dst av, msets (toM M) ws, nx'⟩) rfl hM.symm rfl hS2, hst⟩

theorem stepC_sat {o : Oper} {F : Frm} {M : IMem} {nx : Nat} {K : KS} (h : StepC R X o F M nx K) {all : Array Oper} {i : Nat} {rest : List Nat} {b : Frame} {k : List Item} {cs : List Frame} {a : Act} {w : World} (ho : all[i]? = some o) (hd : ∀ x, o.dst = some x → x < X.size)
    (hw : Region.wanted o (yielded all a.tmps) = true) (hS : Sat X ⟨F, toM M, nx⟩ a w) :
    ∃ F' M' nx', K F' M' nx' ∧ ∃ a' w', Sat X ⟨F', toM M', nx'⟩ a' w' ∧ Steps R.P (lone (b.at a (.inRegion all (i :: rest) :: k)) cs w) (lone (b.at a' (.inRegion all rest :: k)) cs w') := by
  obtain ⟨F', M', nx', hk, h⟩ := h
  obtain ⟨ρ, I, W, Fo⟩ := hS
  obtain ⟨g, vs, hr, hc⟩ := h ρ I a w hd W Fo
  have hg := stepG_op (P := R.P) (b := b) (k := k) (cs := cs) (w := w) (rest := rest) ho hw
  have hfin : ∀ v, (b.at a (.inRegion all (i :: rest) :: k)).finish v = b.at (a.put o.dst v) (.inRegion all rest :: k) := by
    intro v; rw [Frame.finish_at, ho]; rfl
  obtain ⟨e, w'', fr, hR, hsteps, _, hleave⟩ := hc (b.at a (.inRegion all (i :: rest) :: k) :: cs)
  obtain ⟨v, rfl, hp⟩ := hR
  have henter : step R.P (lone (b.at a (.inRegion all (i :: rest) :: k)) cs w) =
      .next (lone (Frame.enter R.P g vs .normal) (b.at a (.inRegion all (i :: rest) :: k) :: cs) w) :=
    step_lone_go (by rw [hg]; simp [stepG.apply, hr, Frame.at])
  refine ⟨F', M', nx', hk, _, w'', hp, .head henter (hsteps.trans (.one ?_))⟩
  rw [← hfin]; exact step_leave_returned hleave

theorem stepB_sat {o : Oper} {F : Frm} {M : IMem} {nx : Nat} {K : KS} (h : StepB R X o F M nx K) {all : Array Oper} {i : Nat} {rest : List Nat} {b : Frame} {k : List Item} {cs : List Frame} {a : Act} {w : World} (ho : all[i]? = some o) (hd : ∀ x, o.dst = some x → x < X.size)
    (hw : Region.wanted o (yielded all a.tmps) = true) (hS : Sat X ⟨F, toM M, nx⟩ a w) :
    ∃ F' M' nx', K F' M' nx' ∧ ∃ a' w', Sat X ⟨F', toM M', nx'⟩ a' w' ∧ Steps R.P (lone (b.at a (.inRegion all (i :: rest) :: k)) cs w) (lone (b.at a' (.inRegion all rest :: k)) cs w') := by
  obtain ⟨ρ, I, W, Fo⟩ := hS
  obtain ⟨av, hy, hk⟩ := h ρ I a w W Fo
  obtain ⟨v, w1, hp, hst⟩ := op_step (b := b) (rest := rest) (k := k) (cs := cs) ho hw hy
  have hS2 := sat_put (S := ⟨F, toM M, nx⟩) (nw := []) (nx' := nx) (d := o.dst) Fo (fun p hp => by simp at hp) (Nat.le_refl _) hd hp
  exact ⟨_, M, nx, hk, _, w1, hS2, hst⟩

theorem iops_sound {b : Frame} {Q : St → Prop} {ks : List It} {K : KS} {all : Array Oper} (hK : ∀ F M nx a w, K F M nx → Sat X ⟨F, toM M, nx⟩ a w → Outc R.P X b Q ks a w) : ∀ (rest : List Oper) (is : List IOper) (i : Nat) (F : Frm) (M : IMem) (nx : Nat) (a : Act) (w : World),
    rest = all.toList.drop i → rest.all (opOk X.size) = true → mopers R all rest is = true → irunOps R X K is F M nx → Sat X ⟨F, toM M, nx⟩ a w → Outc R.P X b Q (.ops all i rest [] :: ks) a w
  | [], [], i, F, M, nx, a, w, _, _, _, h, hS => Outc.steps (ks' := ks) (fun cs => .one step_region_end) (fun c p k' h => suf_drop h) (hK F M nx a w h hS)
  | o :: rest, io :: is, i, F, M, nx, a, w, hrest, hall, hm, h, hS => by
    have ho : all[i]? = some o := by
      have : (all.toList.drop i)[0]? = some o := by rw [← hrest]; rfl
      simpa using this
    have hrest' : rest = all.toList.drop (i + 1) := by
      have : (o :: rest).drop 1 = (all.toList.drop i).drop 1 := by rw [hrest]
      simpa [List.drop_drop] using this
    simp only [List.all_cons, Bool.and_eq_true] at hall
    have hdst : ∀ x, o.dst = some x → x < X.size := by
      intro x hx
      have := hall.1
      simp only [opOk, hx] at this
      simpa using this
    simp only [mopers, Bool.and_eq_true] at hm
    obtain ⟨⟨⟨hd, hg⟩, ho'⟩, hm'⟩ := hm
    have hd := mdst_eq hd
    have hitem : (It.ops all i (o :: rest) []).item = .inRegion all (i :: List.range' (i + 1) rest.length) := by
      simp [It.item, List.range'_succ]
    rw [irunOps_cons] at h
    obtain ⟨F', hS', ⟨hw, hrun⟩ | ⟨hw, hskip⟩⟩ := guardK_sound hg hS h
    · rw [← hd] at hrun
      have hstep := iop_sound ho' (fun _ => rfl) hrun
      intro cs
      have hst2 : ∃ F2 M2 nx2, irunOps R X K is F2 M2 nx2 ∧ ∃ a' w', Sat X ⟨F2, toM M2, nx2⟩ a' w' ∧ Steps R.P (lone (b.at a (.inRegion all (i :: List.range' (i + 1) rest.length) :: ks.map It.item)) cs w) (lone (b.at a' (.inRegion all (List.range' (i + 1) rest.length) :: ks.map It.item)) cs w') := by
        rcases hstep with hstep | ⟨_, hstep | hstep⟩
        · exact stepL_sat hstep ho hdst hw hS'
        · exact stepC_sat hstep ho hdst hw hS'
        · exact stepB_sat hstep ho hdst hw hS'
      obtain ⟨F2, M2, nx2, hk, a', w', hS2, hst⟩ := hst2
      obtain ⟨a3, w3, S3, hSat, h1 | h1⟩ := iops_sound hK rest is (i + 1) F2 M2 nx2 a' w' hrest' hall.2 hm' hk hS2 cs
      · obtain ⟨todo, h2, h3⟩ := h1
        refine ⟨a3, w3, S3, hSat, .inl ⟨todo, ?_, h3⟩⟩
        rw [List.map_cons, hitem]
        exact hst.trans h2
      · obtain ⟨c, post, k', h2, h3, h4⟩ := h1
        refine ⟨a3, w3, S3, hSat, .inr ⟨c, post, k', suf_cons (by simp) h2, ?_, h4⟩⟩
        rw [List.map_cons, hitem]
        exact hst.trans h3
    · obtain ⟨ρ, I, W, Fo⟩ := hS'
      have hp : Post X (mget (toM M)) (· < nx) ρ I w (.tup []) [] undef w := Post.value W (.tup [] [] rfl (fun j hj => by simp at hj))
      have hS2 := sat_put (S := ⟨F', toM M, nx⟩) (nw := []) (d := o.dst) Fo (fun p hp => by simp at hp) (Nat.le_refl _) hdst hp
      rw [← hd] at hskip
      refine Outc.steps (ks' := .ops all (i + 1) rest [] :: ks) (fun cs => .one ?_) (fun c p k' h => suf_cons (by simp) h) (iops_sound hK rest is (i + 1) _ M nx _ w hrest' hall.2 hm' (finK_to hskip) hS2)
      rw [List.map_cons, hitem]
      have hst := step_op_skip (P := R.P) (b := b) (a := a) (k := ks.map It.item) (cs := cs) (w := w) (ops := all) (i := i) (rest := List.range' (i + 1) rest.length) (by simp [ho, hw])
      simp only [ho, Option.bind_some] at hst
      exact hst
  | [], _ :: _, _, _, _, _, _, _, _, _, hm, _, _ => by simp [mopers] at hm
  | _ :: _, [], _, _, _, _, _, _, _, _, hm, _, _ => by simp [mopers] at hm

end Go.AM
