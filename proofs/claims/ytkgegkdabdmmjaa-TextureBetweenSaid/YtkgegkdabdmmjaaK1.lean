/- Of the reckoning machine, and what is proved with it: texts joined by program. -/
import Derived.Test.YtkgegkdabdmmjaaK0
import Derived.Laws.StructEq
import Derived.ChangeKeysEq
import Derived.Laws.Cover3
import Derived.Laws.Pointers
import Derived.Laws.BytesString
import Derived.Laws.MakeOwn
import Derived.Lib.ConvBytes
import Derived.WideKeyRuns
import Derived.RangeFuncRecord
set_option linter.all false

namespace Go.AM
open Go.RowKit
variable {P : Program} {T : TT} {X : Ctx}
theorem sat_putI {S : St} {a : Act} {w w1 : World} {ρ : Place} {I : Nat → Prop} (hF : FrmOk ρ I w X S a) {av : AV} {ws : List (Nat × Blk)} {v : Value} {nx' : Nat} {nw : List Nat} {d : Option Nat}
    (hws : ∀ p ∈ ws, p.1 < nx') (hle : S.nx ≤ nx') (hd : ∀ x, d = some x → x < X.size) (hp : Post X (mget S.M) (· < S.nx) ρ I w av ws v w1) :
    ∃ ρ1 I1, (∀ g, I g → I1 g) ∧ (∀ g, I g → w1.heap[g]? = w.heap[g]?) ∧ Wok X ρ1 I1 (mget (msets S.M ws)) (· < nx') w1 ∧ FrmOk ρ1 I1 w1 X ⟨updF S.F d av, msets S.M ws, nx'⟩ (a.put d v) := by
  obtain ⟨ρ1, I1, E, W, R⟩ := hp
  have hN : ∀ m, naddL (· < S.nx) ws m → m < nx' := by
    rintro m (h | ⟨b, h⟩)
    · have : m < S.nx := h
      omega
    · exact hws _ h
  have hM : mget (msets S.M ws) = mups (mget S.M) ws := mget_msets ws S.M
  refine ⟨ρ1, I1, E.imm, E.cell, ?_, ?_, ?_, ?_⟩
  · show Wok X ρ1 I1 (mget (msets S.M ws)) (· < nx') w1
    rw [hM]
    refine ⟨fun n b hb => ?_, W.inj, W.imm, W.lt, W.old, W.keeps, fun n hn => hN n (W.pn n hn), W.fp0, W.par⟩
    have B := W.blk n b hb
    refine ⟨hN n B.lt, B.even, B.virt, fun g cap hρ => ?_⟩
    obtain ⟨cs, fr, hc1, hcf, hc2, hc3, hc4, hc5, hc6, hc7⟩ := B.real g cap hρ
    refine ⟨cs, fr, hc1, hcf, hc2, hc3, hc4, hc5, hc6, fun i j hi hj => ?_⟩
    obtain ⟨u, hu, hu1, hr⟩ := hc7 i j hi hj
    exact ⟨u, hu, hu1, hr.wide hN⟩
  · intro i
    show Rep ρ1 (lens (mget (msets S.M ws))) I1 w1 (· < nx') (look (updF S.F d av) i) ((a.put d v).tmps.getD i undef)
    rw [hM]
    rcases put_look (a := a) (d := d) (v := v) (F := S.F) (av := av) (i := i) hF.size hd with ⟨h1, h2⟩ | ⟨h1, h2⟩
    · rw [h1, h2]; exact R.wide hN
    · rw [h1, h2]; exact ((hF.rep i).evo E (fun _ h => h)).wide (fun m h => by have : m < S.nx := h; show m < nx'; omega)
  · cases d <;> exact hF.defers.evo E
  · cases d with
    | none => exact hF.size
    | some x => simpa [Act.put] using hF.size
theorem sat_put {S : St} {a : Act} {w w1 : World} {ρ : Place} {I : Nat → Prop} (hF : FrmOk ρ I w X S a) {av : AV} {ws : List (Nat × Blk)} {v : Value} {nx' : Nat} {nw : List Nat} {d : Option Nat}
    (hws : ∀ p ∈ ws, p.1 < nx') (hle : S.nx ≤ nx') (hd : ∀ x, d = some x → x < X.size) (hp : Post X (mget S.M) (· < S.nx) ρ I w av ws v w1) : Sat X ⟨updF S.F d av, msets S.M ws, nx'⟩ (a.put d v) w1 := by
  obtain ⟨ρ1, I1, _, _, h1, h2⟩ := sat_putI (nw := nw) hF hws hle hd hp
  exact ⟨ρ1, I1, h1, h2⟩
theorem put_self {a : Act} {F : Frm} {b : Bool} {s : Nat} (h : a.tmps.getD s undef = .bool b) (i : Nat) : look ((s, AV.bool b) :: F) i = AV.bool b ∧ a.tmps.getD i undef = .bool b ∨ look ((s, AV.bool b) :: F) i = look F i := by
  by_cases e : i = s
  · subst e; exact .inl ⟨by simp [look], h⟩
  · have hb : (i == s) = false := by simpa using e
    exact .inr (by simp [look, hb])
theorem sat_known {S : St} {a : Act} {w : World} {s : Nat} {b : Bool} (h : Sat X S a w) (hv : a.tmps.getD s undef = .bool b) : Sat X ⟨(s, .bool b) :: S.F, S.M, S.nx⟩ a w := by
  obtain ⟨ρ, I, W, F⟩ := h
  refine ⟨ρ, I, W, fun i => ?_, F.defers, F.size⟩
  rcases put_self (F := S.F) hv i with ⟨h1, h2⟩ | h1
  · rw [h1, h2]; exact .bool _
  · rw [h1]; exact F.rep i
theorem Outc.steps {b : Frame} {R : St → Prop} {ks ks' : List It} {a a' : Act} {w w' : World} (hs : ∀ cs, Steps P (lone (b.atR a (ks.map It.item)) cs w) (lone (b.atR a' (ks'.map It.item)) cs w')) (hsub : ∀ c post k', (It.rnd c post :: k') <:+ ks' → (It.rnd c post :: k') <:+ ks)
    (h : Outc P X b R ks' a' w') : Outc P X b R ks a w := by
  intro cs
  obtain ⟨a2, w2, S2, hS, h1 | h1⟩ := h cs
  · obtain ⟨todo, hl, h2, h3⟩ := h1
    exact ⟨a2, w2, S2, hS, .inl ⟨todo, hl, (hs cs).trans h2, h3⟩⟩
  · obtain ⟨c, post, k', h2, h3, h4⟩ := h1
    exact ⟨a2, w2, S2, hS, .inr ⟨c, post, k', hsub _ _ _ h2, (hs cs).trans h3, h4⟩⟩
section
variable {b : Frame} {a : Act} {w : World} {k : List Item} {cs : List Frame}
theorem step_scope {c : Code} : step P (lone (b.atR a (.code (.scope c) :: k)) cs w) = .next (lone (b.atR a (.code c :: .inScope c :: k)) cs w) :=
  step_lone_go (by simp [stepG, stepG.exec, Frame.atR])
theorem step_inScope {c : Code} : step P (lone (b.atR a (.inScope c :: k)) cs w) = .next (lone (b.atR a k) cs w) :=
  step_lone_go (by simp [stepG, stepG.exec, Frame.atR])
end
theorem leave_step {b : Frame} {a : Act} {w : World} {cs : List Frame} {todo : List Item} (hb : b.roundOf = none) (h : LeavesT b.roundOf.isSome todo) : Steps P (lone (b.atR a todo) cs w) (lone { b.atR a todo with mode := .returning } cs w) := by
  rcases h with rfl | ⟨_, k, rfl⟩
  · exact .one (stepR_end hb)
  · exact .one (stepR_ret hb)
theorem leave_defers {b : Frame} {a : Act} {w : World} {cs : List Frame} {todo : List Item} {ρ : Place} {I : Nat → Prop} {M : MemF} {N : Nat → Prop} (W : Wok X ρ I M N w) (hd : DefOk I w X a.defers) :
    ∃ w1, Steps P (lone { b.atR a todo with mode := .returning } cs w) (lone { b.atR { a with defers := [] } todo with mode := .returning } cs w1) ∧ Wok X ρ I M N w1 ∧
      ∀ N' av v, Rep ρ (lens M) I w N' av v → Rep ρ (lens M) I w1 N' av v := by
  obtain ⟨Ds, h1, h2, h3⟩ := hd
  obtain ⟨tm, ds⟩ := a
  simp only at h1
  subst h1
  induction Ds generalizing w with
  | nil => exact ⟨w, .refl _ _, W, fun _ _ _ h => h⟩
  | cons D Ds ih =>
    obtain ⟨k1, k2, k3⟩ := h3 D List.mem_cons_self
    rw [List.nodup_cons] at h2
    have W' := W.turn (.deferred none) (noCells_def k3) k2 k1
    obtain ⟨w1, s1, s2, s3⟩ := ih W' h2.2 (fun D' hD' => by
      obtain ⟨q1, q2, q3⟩ := h3 D' (List.mem_cons_of_mem _ hD')
      exact ⟨q1, q2, (putObj_other (fun e => h2.1 (by rw [← e]; exact hD'))).trans q3⟩)
    refine ⟨w1, .head (step_lone_go ?_) s1, s2, fun N' av v h => s3 _ _ _ (h.turn _ (noCells_def k3))⟩
    simp [stepG, unwind, Frame.atR, run_takeDeferred k3]
theorem suf_cons {c : Stp} {post : St → Prop} {k' k : List It} {x y : It} (hx : ∀ c p, x ≠ .rnd c p) (h : (It.rnd c post :: k') <:+ x :: k) : (It.rnd c post :: k') <:+ y :: k := by
  rcases List.suffix_cons_iff.1 h with h | h
  · exact (hx c post (List.cons.inj h).1.symm).elim
  · exact h.trans (List.suffix_cons _ _)
theorem suf_drop {c : Stp} {post : St → Prop} {k' k : List It} {y : It} (h : (It.rnd c post :: k') <:+ k) : (It.rnd c post :: k') <:+ y :: k := h.trans (List.suffix_cons _ _)
theorem unw_suffix {id : Nat} : ∀ {k k' : List It}, unw id k = some k' → k' <:+ k ∧ exitTo id (k.map It.item) = some (k'.map It.item)
  | [], k', h => by simp [unw] at h
  | .blk id' :: k, k', h => by
    simp only [unw] at h
    by_cases hid : id' = id
    · subst hid
      simp at h
      subst h
      exact ⟨List.suffix_cons _ _, by simp [It.item, exitTo]⟩
    · have hb : (id' == id) = false := by simpa using hid
      rw [hb] at h
      obtain ⟨h1, h2⟩ := unw_suffix (k := k) h
      exact ⟨h1.trans (List.suffix_cons _ _), by simp [It.item, exitTo, hb, h2]⟩
  | .code c :: k, k', h => by
    obtain ⟨h1, h2⟩ := unw_suffix (k := k) h
    exact ⟨h1.trans (List.suffix_cons _ _), by simp [It.item, exitTo, h2]⟩
  | .inl c :: k, k', h => by
    obtain ⟨h1, h2⟩ := unw_suffix (k := k) h
    exact ⟨h1.trans (List.suffix_cons _ _), by simp [It.item, exitTo, h2]⟩
  | .rnd c p :: k, k', h => by
    obtain ⟨h1, h2⟩ := unw_suffix (k := k) h
    exact ⟨h1.trans (List.suffix_cons _ _), by cases c <;> simp [It.item, Stp.item, exitTo, h2]⟩
  | .scp c :: k, k', h => by
    obtain ⟨h1, h2⟩ := unw_suffix (k := k) h
    exact ⟨h1.trans (List.suffix_cons _ _), by simp [It.item, exitTo, h2]⟩
  | .ops all i r gd :: k, k', h => by
    obtain ⟨h1, h2⟩ := unw_suffix (k := k) h
    exact ⟨h1.trans (List.suffix_cons _ _), by simp [It.item, exitTo, h2]⟩
theorem unw_ok {size id : Nat} {nr : Bool} {k k' : List It} (h : unw id k = some k') (hk : ∀ x ∈ k, ItOk size nr x) : ∀ x ∈ k', ItOk size nr x := fun x hx => hk x ((unw_suffix h).1.subset hx)
theorem suf_code {c0 : Code} {c : Stp} {post : St → Prop} {k' k : List It} (h : (It.rnd c post :: k') <:+ .code c0 :: .inl c0 :: k) : (It.rnd c post :: k') <:+ .inl c0 :: k := by
  rcases List.suffix_cons_iff.1 h with h | h
  · simp at h
  · exact h
theorem suf_code2 {c0 c1 : Code} {c : Stp} {post : St → Prop} {k' k : List It} (h : (It.rnd c post :: k') <:+ .code c0 :: .inl c0 :: k) : (It.rnd c post :: k') <:+ .code c1 :: k := by
  rcases List.suffix_cons_iff.1 h with h | h
  · simp at h
  · exact suf_cons (by simp) h
end Go.AM

namespace Go.AM
open Go.RowKit
variable {P : Program} {T : TT} {X : Ctx}
def noPlace : Place := fun _ => none
def noLens : Lens := fun _ => none
def PCalls (P : Program) (f : Nat) (args : List AV) (av : AV) : Prop :=
  ∀ I w vs, (∀ g, I g → g < w.heap.size) → RepL noPlace noLens I w NoName args vs →
    Calls P f vs.toArray w fun e w1 => ∃ v I1, e = .returned v ∧ Below w.heap.size w w1 ∧ (∀ g, I g → I1 g) ∧ (∀ g, I1 g → g < w1.heap.size) ∧ (∀ g, g < w.heap.size → I1 g → I g) ∧ Rep noPlace noLens I1 w1 NoName av v
mutual
theorem under_of_names {N : Nat → Prop} : ∀ (a : AV), (∀ m ∈ a.names, N m) → a.under N
  | .loc n len i off, h => by simpa [AV.under] using h n (by simp [AV.names])
  | .osl n len, h => by simpa [AV.under] using h n (by simp [AV.names])
  | .vsl n len i off cnt, h => by simpa [AV.under] using h n (by simp [AV.names])
  | .omap n, h => by simpa [AV.under] using h n (by simp [AV.names])
  | .clo f cs, h => by simpa [AV.under] using underL_of_names cs (fun m hm => h m (by simpa [AV.names] using hm))
  | .agg cs, h => by simpa [AV.under] using underL_of_names cs (fun m hm => h m (by simpa [AV.names] using hm))
  | .tup cs, h => by simpa [AV.under] using underL_of_names cs (fun m hm => h m (by simpa [AV.names] using hm))
  | .int .., _ => by simp [AV.under]
  | .bool .., _ => by simp [AV.under]
  | .str .., _ => by simp [AV.under]
  | .nilp, _ => by simp [AV.under]
  | .nils, _ => by simp [AV.under]
  | .nilf, _ => by simp [AV.under]
  | .nili, _ => by simp [AV.under]
  | .isl .., _ => by simp [AV.under]
  | .iptr .., _ => by simp [AV.under]
  | .bad, _ => by simp [AV.under]
theorem underL_of_names {N : Nat → Prop} : ∀ (cs : List AV), (∀ m ∈ AV.namesL cs, N m) → AV.underL N cs
  | [], _ => by simp [AV.underL]
  | c :: cs, h => by
    simp only [AV.underL]
    exact ⟨under_of_names c (fun m hm => h m (by simp [AV.namesL, hm])), underL_of_names cs (fun m hm => h m (by simp [AV.namesL, hm]))⟩
end
theorem Rep.alone {ρ : Place} {L : Lens} {I : Nat → Prop} {w : World} {N : Nat → Prop} {a : AV} {v : Value} (h : Rep ρ L I w N a v) (hn : a.names = []) (ρ' : Place) (L' : Lens) : Rep ρ' L' I w NoName a v :=
  (h.low (N' := NoName) (under_of_names a (fun m hm => by rw [hn] at hm; simp at hm))).bare (fun _ h => h) ρ' L'
theorem names_getD {cs : List AV} (h : AV.namesL cs = []) (j : Nat) : (cs.getD j .bad).names = [] := by
  induction cs generalizing j with
  | nil => simp [AV.names]
  | cons c cs ih =>
    simp only [AV.namesL, List.append_eq_nil_iff] at h
    cases j with
    | zero => simpa using h.1
    | succ j => simpa using ih h.2 j
theorem RepL.alone {ρ : Place} {L : Lens} {I : Nat → Prop} {w : World} {N : Nat → Prop} {as : List AV} {vs : List Value} (h : RepL ρ L I w N as vs) (hn : AV.namesL as = []) (ρ' : Place) (L' : Lens) : RepL ρ' L' I w NoName as vs :=
  ⟨h.1, fun j hj => (h.2 j hj).alone (names_getD hn j) ρ' L'⟩
theorem PCalls.callL {f : Nat} {args : List AV} {av : AV} (h : PCalls P f args av) (hn : AV.namesL args = []) (M : MemF) : CallL P X f args M av [] [] := by
  refine ⟨fun p hp => by simp at hp, fun M' N ρ I w vs hW _ _ hR => ?_⟩
  refine (h I w vs hW.lt (hR.alone hn _ _)).mono ?_
  rintro e w1 ⟨v, I1, rfl, hb, h1, h2, h3, hr⟩
  obtain ⟨E, W⟩ := hW.ext (w' := w1) (I' := I1) hb.os hb.tape hb.output hb.size hb.block h1 h2 h3
  refine ⟨v, rfl, ρ, I1, E, by rw [naddL_nil]; exact W, ?_⟩
  exact ((hr.bare (fun _ h => h) ρ (lens M')).wide (fun _ h => h.elim))
def HasBody (P : Program) (f : Nat) : Prop := ∃ fn, P.funcs[f]? = some fn ∧ (fn.name == "runtime.NumGoroutine") = false ∧ fn.body.isNone = false
def aresL (T : TT) : List ResultVar → Frm → Mem → (List AV → Prop) → Prop
  | [], _, _, K => K []
  | .tmp t :: r, F, M, K => aresL T r F M fun vs => K (look F t :: vs)
  | .cell a t :: r, F, M, K => chk (T.d t).ok (aload T t (look F a) M fun v => aresL T r F M fun vs => K (v :: vs))
def one (vs : List AV) : AV := match vs with
  | [v] => v
  | vs => .tup vs
section
variable {I : Nat → Prop} {w : World} {ρ : Place} {M : Mem} {N : Nat → Prop}
def resStep (tmps : Array Value) : ResultVar → Sem Value
  | .tmp t => pure (tmps.getD t undef)
  | .cell a t => do loadVar t (← asAddr (tmps.getD a undef))
theorem aresL_sound (hT : TTok P T) (hW : Wok X ρ I (mget M) N w) {F : Frm} {tmps : Array Value} (hF : ∀ i, Rep ρ (lens (mget M)) I w N (look F i) (tmps.getD i undef)) : ∀ {rs : List ResultVar} {K : List AV → Prop}, aresL T rs F M K →
    ∃ avs vs, K avs ∧ RepL ρ (lens (mget M)) I w N avs vs ∧ (rs.mapM (resStep tmps)).run P w = .ok vs w ∧ vs.length = rs.length
  | [], K, h => ⟨[], [], h, ⟨rfl, fun j hj => by simp at hj⟩, rfl, rfl⟩
  | .tmp t :: r, K, h => by
    obtain ⟨avs, vs, h1, h2, h3, h4⟩ := aresL_sound hT hW hF (rs := r) h
    refine ⟨_, tmps.getD t undef :: vs, h1, ⟨by simp [h2.1], fun j hj => ?_⟩, ?_, by simp [h4]⟩
    · cases j with
      | zero => simpa using hF t
      | succ j => simpa using h2.2 j (by simpa using hj)
    · simp only [List.mapM_cons, Sem.run_bind, Sem.run_pure, Result.andThen_ok, resStep, h3]
  | .cell a t :: r, K, h => by
    simp only [aresL] at h
    obtain ⟨hok, h⟩ := chk_elim h
    have hload : ∃ av, (∃ v ad, tmps.getD a undef = .pointer (some ad) ∧ (loadVar t ad).run P w = .ok v w ∧ Rep ρ (lens (mget M)) I w N av v) ∧ aresL T r F M fun vs => K (av :: vs) := by
      cases hl : look F a with
      | loc n len i off =>
        rw [hl] at h
        simp only [aload, alive] at h
        cases hb : mget M n with
        | none => rw [hb] at h; exact h.elim
        | some b =>
          rw [hb] at h
          obtain ⟨hc1, hmp, h2⟩ := chk_elim h
          obtain ⟨av, ha1, ha2, ha3, hk⟩ := apart_elim h2
          have hlen : b.ln = len := by simpa using hc1
          have hal : lens (mget M) n = some (len, b.sz) := by rw [lens_some]; exact ⟨b, hb, hlen, rfl⟩
          have hr := hF a
          rw [hl] at hr
          obtain ⟨hn, g, cap, hρ, hv⟩ := rep_loc hr hal
          obtain ⟨f, hf⟩ := (hW.blk n b hb).row hmp hρ i
          obtain ⟨v, hv1, hv2⟩ := run_loadVar_part (K := fun _ => True) hT hok (off := off) f hf ha1 ha2 ha3
          exact ⟨av, ⟨v, _, hv, hv1, hv2⟩, hk⟩
      | iptr e off =>
        rw [hl] at h
        simp only [aload] at h
        obtain ⟨av, ha1, ha2, ha3, hk⟩ := apart_elim h
        have hr := hF a
        rw [hl] at hr
        generalize hvv : tmps.getD a undef = vv at hr
        cases hr with
        | iptr _ _ b q c hI h1 hcell hr =>
          obtain ⟨v, hv1, hv2⟩ := run_loadVar_part (K := fun _ => True) (N := N) hT hok (off := off) c (fun j hj => ⟨hcell j hj, h1 j hj, (hr j hj).wide (fun _ h => h.elim)⟩) ha1 ha2 ha3
          exact ⟨av, ⟨v, _, rfl, hv1, hv2⟩, hk⟩
      | _ => rw [hl] at h; exact h.elim
    obtain ⟨av, ⟨v, ad, hv, hrun, hrep⟩, hk⟩ := hload
    obtain ⟨avs, vs, h1, h2, h3, h4⟩ := aresL_sound hT hW hF (rs := r) hk
    refine ⟨_, v :: vs, h1, ⟨by simp [h2.1], fun j hj => ?_⟩, ?_, by simp [h4]⟩
    · cases j with
      | zero => simpa using hrep
      | succ j => simpa using h2.2 j (by simpa using hj)
    · simp only [List.mapM_cons, Sem.run_bind, Sem.run_pure, Result.andThen_ok, resStep, hv, asAddr, hrun, h3]
theorem one_rep {I : Nat → Prop} {w : World} {ρ : Place} {L : Lens} {N : Nat → Prop} {avs : List AV} {vs : List Value} (h : RepL ρ L I w N avs vs) :
    Rep ρ L I w N (one avs) (if h : vs.toArray.size = 1 then vs.toArray[0] else .tuple vs.toArray) := by
  obtain ⟨hl, hr⟩ := h
  cases avs with
  | nil =>
    cases vs with
    | nil => exact .tup [] [] rfl (fun j hj => by simp at hj)
    | cons _ _ => simp at hl
  | cons a r =>
    cases vs with
    | nil => simp at hl
    | cons v q =>
      cases r with
      | nil =>
        cases q with
        | nil => exact hr 0 (by simp)
        | cons _ _ => simp at hl
      | cons b r =>
        cases q with
        | nil => simp at hl
        | cons u q =>
          have : ¬ (v :: u :: q).toArray.size = 1 := by simp
          rw [dif_neg this]
          exact .tup _ _ hl hr
theorem results_sound (hT : TTok P T) (hW : Wok X ρ I (mget M) N w) {F : Frm} {tmps : Array Value} (hF : ∀ i, Rep ρ (lens (mget M)) I w N (look F i) (tmps.getD i undef)) {fn : Func} {K : List AV → Prop} (h : aresL T fn.results.toList F M K) :
    ∃ avs v, K avs ∧ (results fn tmps).run P w = .ok v w ∧ Rep ρ (lens (mget M)) I w N (one avs) v := by
  obtain ⟨avs, vs, h1, h2, h3, h4⟩ := aresL_sound hT hW hF h
  have hrun : (results fn tmps).run P w = .ok (if h : vs.toArray.size = 1 then vs.toArray[0] else .tuple vs.toArray) w := by
    unfold results
    have e : ∀ g : ResultVar → Sem Value, (∀ r, g r = resStep tmps r) → (List.mapM g fn.results.toList).run P w = .ok vs w := fun g hg => by rw [funext hg]; exact h3
    simp only [Sem.run_bind, Array.mapM_eq_mapM_toList, Sem.run_map]
    rw [e _ (fun r => by cases r <;> rfl)]
    simp only [Result.andThen_ok, Sem.run_pure]
  refine ⟨avs, _, h1, hrun, ?_⟩
  exact one_rep h2
end
def argF (i : Nat) : List AV → Frm
  | [] => []
  | a :: r => (i, a) :: argF (i + 1) r
theorem look_argF : ∀ (as : List AV) (i j : Nat), look (argF i as) j = if i ≤ j ∧ j < i + as.length then as.getD (j - i) .bad else .bad
  | [], i, j => by simp only [argF, look, List.length_nil]; rw [if_neg (by omega)]
  | a :: r, i, j => by
    by_cases h : j = i
    · subst h; simp [argF, look]
    · have hb : (j == i) = false := by simpa using h
      simp only [argF, look, hb, cond_false, look_argF r (i + 1) j, List.length_cons]
      by_cases h2 : i + 1 ≤ j ∧ j < i + 1 + r.length
      · rw [if_pos h2, if_pos (by omega)]
        have : j - i = (j - (i + 1)) + 1 := by omega
        rw [this]; simp
      · rw [if_neg h2, if_neg (by omega)]
def pctx (w : World) (I : Nat → Prop) (size : Nat) : Ctx := ⟨w, 0, I, size, noPlace, noLens⟩
mutual
def AV.fit : AV → Prop
  | .isl _ es => es.length ≤ maxLen ∧ AV.fitE es
  | .agg cs => AV.fitL cs
  | .tup cs => AV.fitL cs
  | .clo _ cs => AV.fitL cs
  | .iptr e _ => AV.fitL e
  | _ => True
def AV.fitL : List AV → Prop
  | [] => True
  | c :: r => AV.fit c ∧ AV.fitL r
def AV.fitE : List (List AV) → Prop
  | [] => True
  | e :: r => AV.fitL e ∧ AV.fitE r
end
theorem fitL_of : ∀ (cs : List AV), (∀ j, j < cs.length → (cs.getD j .bad).fit) → AV.fitL cs
  | [], _ => by simp [AV.fitL]
  | c :: r, h => by
    simp only [AV.fitL]
    exact ⟨by simpa using h 0 (by simp), fitL_of r (fun j hj => by simpa using h (j + 1) (by simpa using hj))⟩
theorem fitE_iff : ∀ (es : List (List AV)), AV.fitE es ↔ ∀ e ∈ es, AV.fitL e
  | [] => by simp [AV.fitE]
  | e :: r => by simp [AV.fitE, fitE_iff r]
theorem Rep.fit {ρ : Place} {L : Lens} {I : Nat → Prop} {w : World} {N : Nat → Prop} {a : AV} {v : Value} (h : Rep ρ L I w N a v) : a.fit := by
  induction h with
  | islNil => simp [AV.fit, AV.fitE]
  | isl sz es b o cap c hl hc hI hs h1 hcell hr ih =>
    simp only [AV.fit]
    refine ⟨by omega, (fitE_iff es).2 fun e he => ?_⟩
    obtain ⟨i, hi, rfl⟩ := List.getElem_of_mem he
    have hel : es.getD i [] = es[i] := by simp [List.getD_eq_getElem?_getD, hi]
    refine fitL_of _ fun j hj => ?_
    have := ih i j hi (by rw [← hs _ (List.getElem_mem hi)]; exact hj)
    rwa [hel] at this
  | iptr e off b o c hI h1 hcell hr ih => simp only [AV.fit]; exact fitL_of _ ih
  | clo f caps vs hl hr ih => simp only [AV.fit]; exact fitL_of _ ih
  | yld f caps vs hl hr ih => simp only [AV.fit]; exact fitL_of _ ih
  | agg cs vs hl h1 hr ih => simp only [AV.fit]; exact fitL_of _ ih
  | tup cs vs hl hr ih => simp only [AV.fit]; exact fitL_of _ ih
  | _ => simp [AV.fit]
theorem RepL.fit {ρ : Place} {L : Lens} {I : Nat → Prop} {w : World} {N : Nat → Prop} {as : List AV} {vs : List Value} (h : RepL ρ L I w N as vs) : AV.fitL as :=
  fitL_of _ fun j hj => (h.2 j hj).fit
end Go.AM

namespace Go.AM
open Go.RowKit
def tdOf : TypeDesc → TD
  | .bool => .bool
  | .int k => .int k
  | .string => .str
  | .pointer e => .ptr e
  | .slice e => .slice e
  | .array n e => .arr n e
  | .map k e => .map k e
  | .struct fs => .struct (fs.toList.map fun f => (f.offset, f.type))
  | .func .. => .func
  | .interface _ => .iface
  | .tuple _ => .tup
  | _ => .other
def ttD (P : Program) (t : Nat) : TD := match P.underlying t, P.info? t with
  | some D, some i => bif Nat.ble i.bytes 131072 && i.zero.isSome then tdOf D else .other
  | _, _ => .other
def ttS (P : Program) (t : Nat) : Nat := match P.info? t with
  | some i => i.size
  | none => 0
def ttZ (P : Program) (t : Nat) : AV := match P.info? t with
  | some i => (match i.zero with
    | some z => ofV z
    | none => .bad)
  | none => .bad
def ttOf (P : Program) : TT := ⟨ttD P, ttS P, ttZ P⟩
theorem tdOf_fits : ∀ D : TypeDesc, tdOf D ≠ .other → (tdOf D).fits D := by
  intro D h
  cases D <;> simp_all [tdOf, TD.fits]
theorem ttOf_ok (P : Program) : TTok P (ttOf P) := by
  intro t ht
  simp only [ttOf, ttD] at ht
  cases hD : P.underlying t with
  | none => rw [hD] at ht; exact (ht rfl).elim
  | some D =>
    cases hi : P.info? t with
    | none => rw [hD, hi] at ht; exact (ht rfl).elim
    | some i =>
      rw [hD, hi] at ht
      simp only at ht
      cases hc : Nat.ble i.bytes 131072 && i.zero.isSome with
      | false => rw [hc] at ht; exact (ht rfl).elim
      | true =>
        rw [hc] at ht
        simp only [Bool.and_eq_true, Option.isSome_iff_exists] at hc
        obtain ⟨hb, z, hz⟩ := hc
        refine ⟨D, i, z, rfl, ?_, rfl, ?_, Nat.le_of_ble_eq_true hb, hz, ?_⟩
        · simp only [ttOf, ttD, hD, hi, hz, hb, Option.isSome_some, Bool.and_self, cond_true]
          exact tdOf_fits D ht
        · simp only [ttOf, ttS, hi]
        · simp only [ttOf, ttZ, hi, hz]
def ttL (ds : List TD) (ss : List Nat) (zs : List AV) : TT := ⟨fun t => ds.getD t .other, fun t => ss.getD t 0, fun t => zs.getD t .bad⟩
theorem ttL_ok {P : Program} {ds : List TD} {ss : List Nat} {zs : List AV} (n : Nat) (h1 : (List.range n).map (ttD P) = ds) (h2 : (List.range n).map (ttS P) = ss) (h3 : (List.range n).map (ttZ P) = zs) : TTok P (ttL ds ss zs) := by
  subst h1; subst h2; subst h3
  intro t ht
  have hlt : t < n := by
    refine Classical.byContradiction fun h => ht ?_
    simp [ttL, List.getD_eq_getElem?_getD, h]
  have := ttOf_ok P t (by simpa [ttL, ttOf, List.getD_eq_getElem?_getD, hlt] using ht)
  simpa [ttL, ttOf, List.getD_eq_getElem?_getD, hlt] using this
end Go.AM

namespace Go.AM
open Go.RowKit
inductive LK where
  | i | b | s
def repLK (n : Nat) (l : List LK) : List LK := (List.replicate n l).flatten
def lksF (P : Program) (f : Nat → Option (List LK)) : List Field → Nat → Option (List LK)
  | [], _ => some []
  | x :: r, off => if x.name != "_" && x.offset == off then (match f x.type, P.info? x.type with
    | some l, some i => if i.size == l.length then (lksF P f r (off + l.length)).map (l ++ ·) else none
    | _, _ => none) else none
def lks (P : Program) : Nat → Nat → Option (List LK)
  | 0, _ => none
  | d + 1, t => match P.underlying t with
    | some .bool => some [.b]
    | some (.int _) => some [.i]
    | some .string => some [.s]
    | some (.struct fs) => if P.stoodInHeld t then none else lksF P (lks P d) fs.toList 0
    | some (.array n e) => (match lks P d e, P.info? e with
      | some l, some i => if i.size == l.length then some (repLK n l) else none
      | _, _ => none)
    | _ => none
def isAggT (P : Program) (t : Nat) : Bool := match P.underlying t with
  | some (.struct _) => true
  | some (.array _ _) => true
  | _ => false
inductive LkV : LK → Value → Value → Bool → Prop
  | i (k : IntKind) (x y : Int) : LkV .i (.int k x) (.int k y) (x == y)
  | b (x y : Bool) : LkV .b (.bool x) (.bool y) (x == y)
  | s (x y : List UInt8) : LkV .s (.string ⟨x.toArray⟩) (.string ⟨y.toArray⟩) (x == y)
inductive All4 : List LK → List Value → List Value → List Bool → Prop
  | nil : All4 [] [] [] []
  | cons {l ls v vs u us r rs} (h : LkV l v u r) (t : All4 ls vs us rs) : All4 (l :: ls) (v :: vs) (u :: us) (r :: rs)
theorem All4.split : ∀ {l1 l2 : List LK} {vs us : List Value} {rs : List Bool}, All4 (l1 ++ l2) vs us rs →
    ∃ v1 v2 u1 u2 r1 r2, vs = v1 ++ v2 ∧ us = u1 ++ u2 ∧ rs = r1 ++ r2 ∧ All4 l1 v1 u1 r1 ∧ All4 l2 v2 u2 r2 ∧ v1.length = l1.length ∧ u1.length = l1.length
  | [], l2, vs, us, rs, h => ⟨[], vs, [], us, [], rs, rfl, rfl, rfl, .nil, h, rfl, rfl⟩
  | a :: l1, l2, _, _, _, .cons (v := v) (u := u) (r := r) h t => by
    obtain ⟨v1, v2, u1, u2, r1, r2, rfl, rfl, rfl, h1, h2, h3, h4⟩ := t.split (l1 := l1)
    exact ⟨v :: v1, v2, u :: u1, u2, r :: r1, r2, rfl, rfl, rfl, .cons h h1, h2, by simp [h3], by simp [h4]⟩
def valOf (ag : Bool) (vs : List Value) : Value := if ag then .agg vs.toArray else vs.headD default
theorem run_isAgg_of {P : Program} {w : World} {t : Nat} {D : TypeDesc} (h : P.underlying t = some D) : (isAgg t).run P w = .ok (isAggT P t) w := by
  unfold isAgg isAggT
  simp only [Sem.run_bind, run_underlying h, Result.andThen_ok, h]
  cases D <;> rfl
theorem run_part_at {P : Program} {w : World} {t : Nat} {D : TypeDesc} {i : TypeInfo} (h : P.underlying t = some D) (hi : P.info? t = some i) {pre mid post : List Value} (hm : mid.length = i.size) (h1 : isAggT P t = false → mid.length = 1) :
    (part t (pre ++ (mid ++ post)).toArray pre.length).run P w = .ok (valOf (isAggT P t) mid) w := by
  unfold part
  simp only [Sem.run_bind, run_isAgg_of h, Result.andThen_ok]
  cases hag : isAggT P t with
  | true =>
    simp only [if_pos, Sem.run_bind, run_sizeOf' hi, Result.andThen_ok, Sem.run_pure, valOf]
    have : (pre ++ (mid ++ post)).toArray.extract pre.length (pre.length + i.size) = mid.toArray := by
      apply Array.ext'
      simp [← hm]
    rw [this]
  | false =>
    obtain ⟨v, rfl⟩ : ∃ v, mid = [v] := List.length_eq_one_iff.1 (h1 hag)
    simp [valOf]
theorem lks_one {P : Program} : ∀ {d t : Nat} {ls : List LK}, lks P d t = some ls → isAggT P t = false → ls.length = 1
  | 0, _, _, h, _ => by simp [lks] at h
  | d + 1, t, ls, h, ha => by
    unfold lks at h
    unfold isAggT at ha
    split at h <;> simp_all <;> first | (rw [← h]; rfl) | skip
theorem lks_u {P : Program} : ∀ {d t : Nat} {ls : List LK}, lks P d t = some ls → ∃ D, P.underlying t = some D
  | 0, _, _, h => by simp [lks] at h
  | d + 1, t, ls, h => by
    unfold lks at h
    cases hu : P.underlying t with
    | none => rw [hu] at h; simp at h
    | some D => exact ⟨D, rfl⟩
theorem run_equalIn_lks {P : Program} : ∀ (d : Nat) (m t : Nat) (ls : List LK) (w : World) (vs us : List Value) (rs : List Bool), lks P d t = some ls → All4 ls vs us rs →
    (Op.equalIn (d + m) t (valOf (isAggT P t) vs) (valOf (isAggT P t) us)).run P w = .ok (rs.all id) w
  | 0, _, _, _, _, _, _, _, h, _ => by simp [lks] at h
  | d + 1, m, t, ls, w, vs, us, rs, h, hv => by
    have e : d + 1 + m = (d + m) + 1 := by omega
    rw [e]
    have ih := run_equalIn_lks (P := P) d m
    unfold lks at h
    cases hu : P.underlying t with
    | none => rw [hu] at h; simp at h
    | some D =>
      rw [hu] at h
      cases D <;> simp only [reduceCtorEq] at h
      case bool =>
        obtain rfl : [LK.b] = ls := by simpa using h
        have ha : isAggT P t = false := by simp [isAggT, hu]
        rcases hv with _ | ⟨hl, ht⟩
        cases hl; cases ht
        rw [ha]
        simp only [valOf, Bool.false_eq_true, if_false, List.headD_cons]
        rw [run_equalIn_bool' _ _ _ _ _ hu]; simp
      case int k =>
        obtain rfl : [LK.i] = ls := by simpa using h
        have ha : isAggT P t = false := by simp [isAggT, hu]
        rcases hv with _ | ⟨hl, ht⟩
        cases hl; cases ht
        rw [ha]
        simp only [valOf, Bool.false_eq_true, if_false, List.headD_cons]
        rw [run_equalIn_int _ _ _ _ _ _ _ hu]; simp
      case string =>
        obtain rfl : [LK.s] = ls := by simpa using h
        have ha : isAggT P t = false := by simp [isAggT, hu]
        rcases hv with _ | ⟨hl, ht⟩
        cases hl; cases ht
        rw [ha]
        simp only [valOf, Bool.false_eq_true, if_false, List.headD_cons]
        rw [run_equalIn_string _ _ _ _ _ hu]
        simp [ByteArray.toList_eq]
      case struct fs =>
        have ha : isAggT P t = true := by simp [isAggT, hu]
        have hfs : P.fieldsOf t = fs := by simp [Program.fieldsOf, hu]
        cases hst : P.stoodInHeld t with
        | true => simp [hst] at h
        | false =>
          simp only [hst, Bool.false_eq_true, if_false] at h
          rw [ha]
          simp only [valOf, if_pos]
          rw [run_equalIn_struct w (d + m) t _ _ (by rw [hfs]; exact hu) hst, hfs]
          have go : ∀ (fl : List Field) (off : Nat) (ls : List LK) (w : World) (p q vs us : List Value) (rs : List Bool), lksF P (lks P d) fl off = some ls → All4 ls vs us rs → p.length = off → q.length = off →
              (Op.eqFields (d + m) (p ++ vs).toArray (q ++ us).toArray fl).run P w = .ok (rs.all id) w := by
            intro fl
            induction fl with
            | nil =>
              intro off ls w p q vs us rs hl hv _ _
              obtain rfl : [] = ls := by simpa [lksF] using hl
              cases hv
              simp [Op.eqFields]
            | cons f fl ihf =>
              intro off ls w p q vs us rs hl hv hp hq
              simp only [lksF] at hl
              split at hl
              · rename_i hc
                simp only [Bool.and_eq_true, bne_iff_ne, ne_eq, beq_iff_eq] at hc
                split at hl
                · rename_i l i hl1 hi1
                  split at hl
                  · rename_i hsz
                    have hsz : i.size = l.length := by simpa using hsz
                    obtain ⟨l2, hl2, rfl⟩ : ∃ l2, lksF P (lks P d) fl (off + l.length) = some l2 ∧ l ++ l2 = ls := by
                      simpa using hl
                    obtain ⟨v1, v2, u1, u2, r1, r2, rfl, rfl, rfl, h1, h2, h3, h4⟩ := hv.split
                    obtain ⟨D, hD⟩ := lks_u hl1
                    have p1 := run_part_at (w := w) hD hi1 (pre := p) (mid := v1) (post := v2) (by omega) (fun h => by rw [h3]; exact lks_one hl1 h)
                    have p2 := run_part_at (w := w) hD hi1 (pre := q) (mid := u1) (post := u2) (by omega) (fun h => by rw [h4]; exact lks_one hl1 h)
                    rw [hp, ← hc.2] at p1
                    rw [hq, ← hc.2] at p2
                    simp only [Op.eqFields, if_pos hc.1, ne_eq, hc.1, not_false_eq_true, Sem.run_bind, p1, p2, Result.andThen_ok, ih _ _ _ _ _ _ hl1 h1]
                    have h5 := ihf (off + l.length) l2 w (p ++ v1) (q ++ u1) v2 u2 r2 hl2 h2 (by simp; omega) (by simp; omega)
                    rw [List.append_assoc, List.append_assoc] at h5
                    simp only [if_true, Sem.run_bind, p1, p2, Result.andThen_ok, ih _ _ _ _ _ _ hl1 h1]
                    cases hr : r1.all id with
                    | true => simp only [Bool.not_true, Bool.false_eq_true, if_false, h5, List.all_append, hr, Bool.true_and]
                    | false => simp only [Bool.not_false, if_true, Sem.run_pure, List.all_append, hr, Bool.false_and]
                  · simp at hl
                · simp at hl
              · simp at hl
          exact go fs.toList 0 ls w [] [] vs us rs h hv rfl rfl
      case array n e =>
        have ha : isAggT P t = true := by simp [isAggT, hu]
        split at h
        · rename_i l i hl1 hi1
          split at h
          · rename_i hsz
            have hsz : i.size = l.length := by simpa using hsz
            obtain rfl : repLK n l = ls := by simpa using h
            rw [ha]
            simp only [valOf, if_pos]
            rw [run_equalIn_array w (d + m) _ _ hu hi1]
            have hc : P.cellsOf e = l.length := by simp [Program.cellsOf, hi1, hsz]
            rw [hc]
            obtain ⟨D, hD⟩ := lks_u hl1
            have go : ∀ (k j : Nat) (w : World) (p q vs us : List Value) (rs : List Bool), All4 (repLK k l) vs us rs → p.length = j * l.length → q.length = j * l.length →
                (Op.eqItems (d + m) e l.length (p ++ vs).toArray (q ++ us).toArray (List.range' j k)).run P w = .ok (rs.all id) w := by
              intro k
              induction k with
              | zero =>
                intro j w p q vs us rs hv _ _
                simp only [repLK, List.replicate_zero, List.flatten_nil] at hv
                cases hv
                simp [Op.eqItems]
              | succ k ihk =>
                intro j w p q vs us rs hv hp hq
                have e1 : repLK (k + 1) l = l ++ repLK k l := by simp [repLK, List.replicate_succ]
                rw [e1] at hv
                obtain ⟨v1, v2, u1, u2, r1, r2, rfl, rfl, rfl, h1, h2, h3, h4⟩ := hv.split
                have p1 := run_part_at (w := w) hD hi1 (pre := p) (mid := v1) (post := v2) (by omega) (fun h => by rw [h3]; exact lks_one hl1 h)
                have p2 := run_part_at (w := w) hD hi1 (pre := q) (mid := u1) (post := u2) (by omega) (fun h => by rw [h4]; exact lks_one hl1 h)
                rw [hp] at p1
                rw [hq] at p2
                have h5 := ihk (j + 1) w (p ++ v1) (q ++ u1) v2 u2 r2 h2 (by rw [List.length_append, hp, h3, Nat.succ_mul]) (by rw [List.length_append, hq, h4, Nat.succ_mul])
                rw [List.append_assoc, List.append_assoc] at h5
                simp only [List.range'_succ, Op.eqItems, Sem.run_bind, p1, p2, Result.andThen_ok, ih _ _ _ _ _ _ hl1 h1]
                cases hr : r1.all id with
                | true => simp only [Bool.not_true, Bool.false_eq_true, if_false, h5, List.all_append, hr, Bool.true_and]
                | false => simp only [Bool.not_false, if_true, Sem.run_pure, List.all_append, hr, Bool.false_and]
            rw [List.range_eq_range']
            exact go n 0 w [] [] vs us rs hv (by simp) (by simp)
          · simp at h
        · simp at h
end Go.AM

namespace Go.AM
open Go.RowKit
variable {P : Program} {T : TT} {X : Ctx} {o : Oper} {F : Frm} {M : MemF}
inductive LkA : LK → AV → AV → Bool → Prop
  | i (k : IntKind) (x y : Int) : LkA .i (.int k x) (.int k y) (x == y)
  | b (x y : Bool) : LkA .b (.bool x) (.bool y) (x == y)
  | s (x y : List UInt8) : LkA .s (.str x) (.str y) (x == y)
inductive AllA : List LK → List AV → List AV → List Bool → Prop
  | nil : AllA [] [] [] []
  | cons {l ls v vs u us r rs} (h : LkA l v u r) (t : AllA ls vs us rs) : AllA (l :: ls) (v :: vs) (u :: us) (r :: rs)
theorem LkA.val {ρ : Place} {L : Lens} {I : Nat → Prop} {w : World} {N : Nat → Prop} {l : LK} {a b : AV} {r : Bool} {v u : Value} (h : LkA l a b r) (h1 : Rep ρ L I w N a v) (h2 : Rep ρ L I w N b u) : LkV l v u r := by
  cases h with
  | i k x y => rw [rep_int h1, rep_int h2]; exact .i k x y
  | b x y => rw [rep_bool h1, rep_bool h2]; exact .b x y
  | s x y => rw [rep_str h1, rep_str h2]; exact .s x y
theorem AllA.val {ρ : Place} {L : Lens} {I : Nat → Prop} {w : World} {N : Nat → Prop} : ∀ {ls : List LK} {as bs : List AV} {rs : List Bool} {vs us : List Value}, AllA ls as bs rs → vs.length = as.length → us.length = bs.length →
    (∀ j, j < as.length → Rep ρ L I w N (as.getD j .bad) (vs.getD j default)) → (∀ j, j < bs.length → Rep ρ L I w N (bs.getD j .bad) (us.getD j default)) → All4 ls vs us rs
  | _, _, _, _, [], [], .nil, _, _, _, _ => .nil
  | _, _, _, _, v :: vs, u :: us, .cons h t, hv, hu, h1, h2 =>
    .cons (h.val (by simpa using h1 0 (by simp)) (by simpa using h2 0 (by simp))) (t.val (by simpa using hv) (by simpa using hu)
      (fun j hj => by simpa using h1 (j + 1) (by simpa using hj)) (fun j hj => by simpa using h2 (j + 1) (by simpa using hj)))
  | _, _, _, _, _ :: _, [], .nil, hv, _, _, _ => by simp at hv
  | _, _, _, _, [], _ :: _, .nil, _, hu, _, _ => by simp at hu
  | _, _, _, _, _ :: _, _ :: _, .nil, hv, _, _, _ => by simp at hv
  | _, _, _, _, [], _, .cons _ _, hv, _, _, _ => by simp at hv
  | _, _, _, _, _ :: _, [], .cons _ _, _, hu, _, _ => by simp at hu
theorem does_eq_agg {neg : Bool} {t yt : TypeId} {x y : Operand} {d : Nat} (hd : d ≤ 10000) {ls : List LK} {as bs : List AV} {rs : List Bool} (ho : o.op = .binOp (if neg then .neq else .eql) t x y yt) (hg : P.eqGuardType P.depth t = false) (ha : isAggT P t = true)
    (hl : lks P d t = some ls) (hx : ev F x = .agg as) (hy : ev F y = .agg bs) (h : AllA ls as bs rs) : Does P X o F M (.bool (if neg then !(rs.all id) else rs.all id)) [] [] := by
  have hx' : x ∈ o.op.operands.toList := by simp [ho, Op.operands]
  have hy' : y ∈ o.op.operands.toList := by simp [ho, Op.operands]
  refine does_value fun M' N ρ I ac w hW hU hN => ?_
  have r1 := rep_op hU x hx'
  have r2 := rep_op hU y hy'
  rw [hx] at r1
  rw [hy] at r2
  generalize hv : ac.eval x = v at r1
  generalize hu : ac.eval y = u at r2
  cases r1 with
  | agg _ vs hvl hv1 hvr =>
    cases r2 with
    | agg _ us hul hu1 hur =>
      have h4 := h.val hvl hul hvr hur
      have e := run_equalIn_lks d (10000 - d) t ls w vs us rs hl h4
      rw [ha] at e
      simp only [valOf, if_true] at e
      have e2 : d + (10000 - d) = 10000 := by omega
      rw [e2] at e
      refine ⟨_, ?_, .bool _⟩
      have g := run_eqGuard_agg w (if neg then .neq else .eql) t x y vs.toArray us.toArray hg
      cases neg <;> simp_all [execOp, Sem.run_bind, run_eql_struct, run_neq_struct]
theorem does_eq_bool {neg : Bool} {t yt : TypeId} {x y : Operand} {a b : Bool} (ho : o.op = .binOp (if neg then .neq else .eql) t x y yt) (hu : P.underlying t = some .bool) (hx : ev F x = .bool a) (hy : ev F y = .bool b) :
    Does P X o F M (.bool (if neg then a != b else a == b)) [] [] := by
  have hx' : x ∈ o.op.operands.toList := by simp [ho, Op.operands]
  have hy' : y ∈ o.op.operands.toList := by simp [ho, Op.operands]
  refine does_value fun M' N ρ I ac w hW hU hN => ⟨_, ?_, .bool _⟩
  have r1 := rep_bool (hx ▸ rep_op hU x hx')
  have r2 := rep_bool (hy ▸ rep_op hU y hy')
  have e := run_equal_bool w t a b hu
  cases neg <;> simp [execOp, ho, r1, r2, Sem.run_bind, eqGuard, binOp, e, bne]
def astr (op : BinOp) (a b : List UInt8) (K : AV → Prop) : Prop :=
  match op with
  | .add => (a.length + b.length ≤ 9223372036854775807) ∧ K (.str (a ++ b))
  | .eql => K (.bool (a == b))
  | .neq => K (.bool !(a == b))
  | .lss => K (.bool (Op.bytesLess a b))
  | .leq => K (.bool (Op.bytesLess a b || a == b))
  | .gtr => K (.bool !(Op.bytesLess a b || a == b))
  | .geq => K (.bool !(Op.bytesLess a b))
  | _ => False
theorem does_str {op : BinOp} {t yt : TypeId} {x y : Operand} {a b : List UInt8} {K : AV → Prop} (ho : o.op = .binOp op t x y yt) (hx : ev F x = .str a) (hy : ev F y = .str b) (h : astr op a b K) : ∃ av, Does P X o F M av [] [] ∧ K av := by
  have hx' : x ∈ o.op.operands.toList := by simp [ho, Op.operands]
  have hy' : y ∈ o.op.operands.toList := by simp [ho, Op.operands]
  have go : ∀ av v, (∀ ρ L I w N, Rep ρ L I w N av v) → (∀ w, (Op.stringOp op ⟨a.toArray⟩ ⟨b.toArray⟩).run P w = .ok v w) → K av → ∃ av, Does P X o F M av [] [] ∧ K av := by
    intro av v hr hrun hk
    refine ⟨av, does_value fun M' N ρ I ac w hW hU hN => ⟨v, ?_, hr _ _ _ _ _⟩, hk⟩
    have r1 := rep_str (hx ▸ rep_op hU x hx')
    have r2 := rep_str (hy ▸ rep_op hU y hy')
    have g : (eqGuard op t x y (.string ⟨a.toArray⟩) (.string ⟨b.toArray⟩)).run P w = .ok () w := by
      unfold eqGuard; cases op <;> simp
    have e : binOp op t (.string ⟨a.toArray⟩) (.string ⟨b.toArray⟩) = Op.stringOp op ⟨a.toArray⟩ ⟨b.toArray⟩ := by cases op <;> rfl
    simp only [execOp, ho, r1, r2, Sem.run_bind, g, Result.andThen_ok, e, hrun, Sem.run_pure]
  have tl : ∀ l : List UInt8, (⟨l.toArray⟩ : ByteArray).toList = l := fun l => by rw [ByteArray.toList_eq]
  cases op <;> simp only [astr] at h <;> try exact h.elim
  case add =>
    refine go _ (.string ⟨(a ++ b).toArray⟩) (fun _ _ _ _ _ => .str _) (fun w => ?_) h.2
    have e : (⟨a.toArray⟩ : ByteArray) ++ ⟨b.toArray⟩ = ⟨(a ++ b).toArray⟩ := by
      apply ByteArray.ext
      simp
    have h1 := h.1
    have hs : ¬ ((((⟨a.toArray⟩ : ByteArray).size + (⟨b.toArray⟩ : ByteArray).size : Nat) : Int) > IntKind.i64.max) := by
      show ¬ (((a.toArray.size + b.toArray.size : Nat) : Int) > 9223372036854775807)
      simp only [List.size_toArray]
      omega
    simp only [Op.stringOp, if_neg hs, e, Sem.run_pure]
  all_goals exact go _ _ (fun _ _ _ _ _ => .bool _) (fun w => by simp only [Op.stringOp, tl, Sem.run_pure]) h
end Go.AM

namespace Go.AM
open Go.RowKit
variable {P : Program} {T : TT} {X : Ctx} {o : Oper} {F : Frm} {M : MemF}
theorem run_isnil_slice {neg : Bool} {t e : TypeId} {y : Operand} {x : Operand} {q : Option Addr} {l c : Nat} {w : World} (hu : P.underlying t = some (.slice e)) :
    (do eqGuard (if neg then .neq else .eql) t x y (.slice q l c) (.slice none 0 0); binOp (if neg then .neq else .eql) t (.slice q l c) (.slice none 0 0) : Sem Value).run P w = .ok (.bool (if neg then !q.isNone else q.isNone)) w := by
  have e1 := run_equal_slice_nil w t e q l c hu
  cases neg <;> simp [Sem.run_bind, eqGuard, binOp, e1]
theorem run_isnil_ptr {neg : Bool} {t e : TypeId} {y : Operand} {x : Operand} {q : Option Addr} {w : World} (hu : P.underlying t = some (.pointer e)) :
    (do eqGuard (if neg then .neq else .eql) t x y (.pointer q) (.pointer none); binOp (if neg then .neq else .eql) t (.pointer q) (.pointer none) : Sem Value).run P w = .ok (.bool (if neg then !q.isNone else q.isNone)) w := by
  have e0 : P.pointee t = e := by simp [Program.pointee, hu]
  have e1 := run_equal_pointer_nil w t q (by rw [e0]; exact hu)
  cases neg <;> simp [Sem.run_bind, eqGuard, binOp, e1]
theorem does_nil_ptr {neg : Bool} {t e yt : TypeId} {x : Operand} {b : Bool} {Ml : Mem} (hM : M = mget Ml) (ho : o.op = .binOp (if neg then .neq else .eql) t x (.const (.pointer none)) yt) (hu : P.underlying t = some (.pointer e))
    (hx : (ev F x = .nilp ∧ b = true) ∨ ((∃ r q, ev F x = .iptr r q) ∧ b = false) ∨ (∃ n len i q bl, ev F x = .loc n len i q ∧ mget Ml n = some bl ∧ bl.ln = len) ∧ b = false) : Does P X o F M (.bool (if neg then !b else b)) [] [] := by
  have hx' : x ∈ o.op.operands.toList := by simp [ho, Op.operands]
  refine does_value fun M' N ρ I ac w hW hU hN => ?_
  have r1 := rep_op hU x hx'
  have key : ∃ q : Option Addr, ac.eval x = .pointer q ∧ q.isNone = b := by
    rcases hx with ⟨h, rfl⟩ | ⟨⟨r, q, h⟩, rfl⟩ | ⟨⟨n, len, i, q, bl, h, hb, hl⟩, rfl⟩
    · rw [h] at r1
      generalize ac.eval x = v at r1
      cases r1
      exact ⟨none, rfl, rfl⟩
    · rw [h] at r1
      generalize ac.eval x = v at r1
      cases r1
      exact ⟨_, rfl, rfl⟩
    · rw [h] at r1
      obtain ⟨sl, hsl, hns⟩ := names_op (F := F) x hx' (n := n) (by rw [h]; simp [AV.names])
      have hMn : M' n = some bl := (hN sl hsl n hns).trans (by rw [hM]; exact hb)
      have hal : lens M' n = some (len, bl.sz) := by rw [lens_some]; exact ⟨bl, hMn, hl, rfl⟩
      obtain ⟨_, g, cap, _, hv⟩ := rep_loc r1 hal
      exact ⟨_, hv, rfl⟩
  obtain ⟨q, hv, hq⟩ := key
  refine ⟨_, ?_, .bool _⟩
  have e1 := run_isnil_ptr (P := P) (neg := neg) (y := .const (.pointer none)) (x := x) (q := q) (w := w) hu
  rw [hq] at e1
  have hc : ac.eval (.const (.pointer none)) = .pointer none := rfl
  simp only [execOp, ho, hv, hc]
  simp only [Sem.run_bind] at e1 ⊢
  rw [e1]
  simp
theorem yield_nil_isl {neg : Bool} {t e yt : TypeId} {x : Operand} {s : Nat} {es : List (List AV)} (ho : o.op = .binOp (if neg then .neq else .eql) t x (.const (.slice none 0 0)) yt) (hu : P.underlying t = some (.slice e)) (hx : ev F x = .isl s es)
    {M' : MemF} {N : Nat → Prop} {ρ : Place} {I : Nat → Prop} {a : Act} {w : World} (hW : Wok X ρ I M' N w) (hU : ∀ s ∈ uses o.op, Rep ρ (lens M') I w N (look F s) (a.tmps.getD s undef)) :
    ∃ b : Bool, (b = true → es = []) ∧ Yield P X o a M' N ρ I w (.bool (if neg then !b else b)) [] := by
  have hx' : x ∈ o.op.operands.toList := by simp [ho, Op.operands]
  have r1 := rep_op hU x hx'
  rw [hx] at r1
  have key : ∃ (q : Option Addr) (c : Nat), a.eval x = .slice q es.length c ∧ (q.isNone = true → es = []) := by
    generalize a.eval x = v at r1
    cases r1 with
    | islNil _ q cap => exact ⟨q, cap, rfl, fun _ => rfl⟩
    | isl _ _ b o cap c hl => exact ⟨_, cap, rfl, fun h => by simp at h⟩
  obtain ⟨q, c, hv, hq⟩ := key
  refine ⟨q.isNone, hq, ?_⟩
  have e1 := run_isnil_slice (P := P) (neg := neg) (y := .const (.slice none 0 0)) (x := x) (q := q) (l := es.length) (c := c) (w := w) hu
  have hr : (execOp a.eval o).run P w = .ok (.value (.bool (if neg then !q.isNone else q.isNone))) w := by
    have hc : a.eval (.const (.slice none 0 0)) = .slice none 0 0 := rfl
    simp only [execOp, ho, hv, hc]
    simp only [Sem.run_bind] at e1 ⊢
    rw [e1]
    simp
  unfold Yield
  rw [hr]
  exact Post.value hW (.bool _)
theorem does_clip0 (hT : TTok P T) {t e : Nat} {x h m : Operand} {k k' : IntKind} {n : Nat} (ht : T.d t = .slice e) (hok : (T.d e).ok = true) (ho : o.op = .slice t x none (some h) (some m)) (hh : ev F h = .int k 0) (hm : ev F m = .int k' 0)
    (hx : ∃ s es, ev F x = .isl s es) : Does P X o F M (.osl n 0) [(n, ⟨e, T.s e, [], none⟩)] [n] := by
  have hx' : x ∈ o.op.operands.toList := by simp [ho, Op.operands]
  have hh' : h ∈ o.op.operands.toList := by simp [ho, Op.operands]
  have hm' : m ∈ o.op.operands.toList := by simp [ho, Op.operands]
  obtain ⟨D, it, z, hD, hf, _⟩ := hT t (by rw [ht]; simp)
  have hD' := fits_slice ht hf
  subst hD'
  obtain ⟨_, ie, _, _, _, hie, hes, _⟩ := hT e (TD.ok_ne hok)
  obtain ⟨s, es, hx⟩ := hx
  refine ⟨fun p hp => .inl (by simp at hp; simp [hp]), fun M' N ρ I ac w hW hU hN hF => ?_⟩
  have hn : ¬ N n := hF n (by simp)
  have r1 := rep_op hU x hx'
  have r2 := rep_int (hh ▸ rep_op hU h hh')
  have r3 := rep_int (hm ▸ rep_op hU m hm')
  rw [hx] at r1
  obtain ⟨q, cap, hv, hle⟩ := isl_len r1
  have hb : (Instr.sliceBounds true es.length cap (none : Option Value) (some (.int k 0)) (some (.int k' 0))).run P w = .ok (0, 0, 0) w := by
    have e1 := run_sliceBound (P := P) (k := k') (i := 0) (y := cap) (c := .slice3Acap) (w := w) ⟨by omega, by omega⟩
    have e2 := run_sliceBound (P := P) (k := k) (i := 0) (y := 0) (c := .slice3B) (w := w) ⟨by omega, by omega⟩
    simp [Instr.sliceBounds, e1, e2, Sem.run_bind, Instr.sliceBound, asIntOf]
  have hrun := run_sliceAt (a := q) (len := es.length) hD hie hb
  obtain ⟨E, W⟩ := hW.virt hn e (T.s e)
  unfold Yield
  have hr : (execOp ac.eval o).run P w = .ok (.value (.slice q 0 0)) w := by
    simp only [execOp, ho, Option.map_none, Option.map_some, hv, r2, r3, Sem.run_bind, hrun]
    simp
  rw [hr]
  refine ⟨_, I, E, by rw [naddL_one]; exact W, ?_⟩
  refine .osl n _ _ (.inr ⟨_, List.mem_singleton.2 rfl⟩) rfl fun l sz' hl' => ?_
  change lens (mupd M' n _) n = _ at hl'
  rw [lens_mset, if_pos rfl] at hl'
  simp at hl'
  exact ⟨by simp, fun _ => .inl ⟨by simp, q, rfl⟩⟩
theorem does_indexV (hT : TTok P T) {t m e : Nat} {x ix : Operand} {cs : List AV} {k : IntKind} {j : Int} {K : AV → Prop} (ht : T.d t = .arr m e) (hok : (T.d e).ok = true) (ho : o.op = .index t x ix) (hx : ev F x = .agg cs) (hi : ev F ix = .int k j)
    (hj : 0 ≤ j ∧ j < (m : Int)) (h : apart (T.d e).ag (T.s e) (j.toNat * T.s e) cs K) : ∃ av, Does P X o F M av [] [] ∧ K av := by
  have hx' : x ∈ o.op.operands.toList := by simp [ho, Op.operands]
  have hi' : ix ∈ o.op.operands.toList := by simp [ho, Op.operands]
  obtain ⟨D, it, z, hD, hf, _⟩ := hT t (by rw [ht]; simp)
  have hD' := fits_arr ht hf
  subst hD'
  obtain ⟨De, ie, _, hDe, hfe, hie, hes, _⟩ := hT e (TD.ok_ne hok)
  obtain ⟨av, h1, h2, h3, h4⟩ := apart_elim h
  refine ⟨av, does_value fun M' N ρ I ac w hW hU hN => ?_, h4⟩
  have r1 := rep_op hU x hx'
  have r2 := rep_int (hi ▸ rep_op hU ix hi')
  rw [hx] at r1
  generalize hv : ac.eval x = v at r1
  generalize hoff : j.toNat * T.s e = off at h1 h2
  have hle : off + T.s e ≤ cs.length ∨ T.s e = 0 := by
    simp only [List.length_take, List.length_drop] at h1; omega
  cases r1 with
  | agg _ vs hvl hv1 hvr =>
    have hpart : ∃ u, (part e vs.toArray off).run P w = .ok u w ∧ Rep ρ (lens M') I w N av u := by
      unfold part
      simp only [Sem.run_bind, run_isAgg' hDe hfe, Result.andThen_ok]
      cases hag : (T.d e).ag with
      | true =>
        simp only [if_pos, Sem.run_bind, run_sizeOf' hie, Result.andThen_ok, Sem.run_pure]
        refine ⟨_, rfl, ?_⟩
        rw [h2, hag, if_pos rfl, hes]
        have hex : vs.toArray.extract off (off + T.s e) = ((vs.drop off).take (T.s e)).toArray := by
          apply Array.ext'
          simp
        rw [hex]
        refine .agg _ _ (by rw [h1]; simp only [List.length_take, List.length_drop]; omega) (fun u hu => hv1 u (List.mem_of_mem_drop (List.mem_of_mem_take hu))) (fun i hi => ?_)
        rw [h1] at hi
        rw [getD_take_drop _ _ _ _ _ hi, getD_take_drop _ _ _ _ _ hi]
        exact hvr (off + i) (by omega)
      | false =>
        have h5 := h3 hag
        have hlt : off < cs.length := by omega
        have hlt' : off < vs.length := by omega
        simp only [Bool.false_eq_true, if_false]
        have : vs.toArray[off]? = some vs[off] := by simp [hlt']
        rw [this]
        refine ⟨_, Sem.run_pure _ _ _, ?_⟩
        rw [h2, hag, h5]
        have e1 : ((cs.drop off).take 1).headD .bad = cs.getD off .bad := by
          rw [List.drop_eq_getElem_cons hlt, List.take_succ_cons]
          simp [List.getD_eq_getElem?_getD, hlt]
        simp only [Bool.false_eq_true, if_false, e1]
        have := hvr off hlt
        rwa [show vs.getD off default = vs[off] by simp [List.getD_eq_getElem?_getD, hlt']] at this
    obtain ⟨u, hu, hr⟩ := hpart
    refine ⟨u, ?_, hr⟩
    simp only [execOp, ho, hv, r2, Instr.index, asIntOf, Sem.run_bind, Sem.run_pure, Result.andThen_ok, run_underlying hD, if_pos hj, run_sizeOf' hie, hes, hoff, hu]
theorem does_indexT (hT : TTok P T) {t : Nat} {x ix : Operand} {s : List UInt8} {k : IntKind} {j : Int} (ht : T.d t = .str) (ho : o.op = .index t x ix) (hx : ev F x = .str s) (hi : ev F ix = .int k j) (hj : 0 ≤ j ∧ j < (s.length : Int)) :
    Does P X o F M (.int .u8 (s.getD j.toNat 0).toNat) [] [] := by
  have hx' : x ∈ o.op.operands.toList := by simp [ho, Op.operands]
  have hi' : ix ∈ o.op.operands.toList := by simp [ho, Op.operands]
  obtain ⟨D, it, z, hD, hf, _⟩ := hT t (by rw [ht]; simp)
  have hD' := fits_str ht hf
  subst hD'
  refine does_value fun M' N ρ I ac w hW hU hN => ⟨_, ?_, .int _ _⟩
  have r1 := rep_str (hx ▸ rep_op hU x hx')
  have r2 := rep_int (hi ▸ rep_op hU ix hi')
  have hlt : j.toNat < s.length := by omega
  have e1 : (⟨s.toArray⟩ : ByteArray)[j.toNat]? = some s[j.toNat] := by
    have hsz : j.toNat < (⟨s.toArray⟩ : ByteArray).size := by show j.toNat < s.toArray.size; simpa using hlt
    rw [getElem?_pos (⟨s.toArray⟩ : ByteArray) j.toNat hsz]
    rfl
  simp only [execOp, ho, r1, r2, Instr.index, asIntOf, Sem.run_bind, Sem.run_pure, Result.andThen_ok, run_underlying hD, if_pos hj.1, e1]
  simp [List.getD_eq_getElem?_getD, hlt]
theorem foldl_push (s : List UInt8) : ∀ r : ByteArray, (s.map fun c => ((c.toNat : Int))).foldl (fun r n => r.push (UInt8.ofNat n.toNat)) r = ⟨(r.data.toList ++ s).toArray⟩ := by
  induction s with
  | nil => intro r; simp
  | cons c s ih =>
    intro r
    simp only [List.map_cons, List.foldl_cons, ih]
    congr 1
    simp [ByteArray.push]
theorem does_b2s (hT : TTok P T) {s t e : Nat} {x : Operand} {Ml : Mem} {K : AV → Prop} (hM : M = mget Ml) (hs : T.d s = .slice e) (he : T.d e = .int .u8) (ht : T.d t = .str) (ho : o.op = .convert s t x) (hns : ¬ ∃ q, ev F x = .str q)
    (h : asrc Ml 1 (ev F x) fun xs => ∃ b : List UInt8, xs = b.map (fun c => [AV.int .u8 c.toNat]) ∧ K (.str b)) : ∃ av, Does P X o F M av [] [] ∧ K av := by
  have hx : x ∈ o.op.operands.toList := by simp [ho, Op.operands]
  obtain ⟨D, _, _, hD, hf, _⟩ := hT s (by rw [hs]; simp)
  have := fits_slice hs hf
  subst this
  obtain ⟨D, _, _, hDe, hf, _⟩ := hT e (by rw [he]; simp)
  have := fits_int he hf
  subst this
  obtain ⟨D, _, _, hDt, hf, _⟩ := hT t (by rw [ht]; simp)
  have := fits_str ht hf
  subst this
  obtain ⟨xs, ⟨b, rfl, hk⟩, hsrc⟩ := asrc_sound (X := X) (o := o) (tx := s) hT hM hx (.inl ⟨_, hD⟩) (fun h => (hns h).elim) (fun _ => ⟨_, hD⟩) h
  refine ⟨_, does_value fun M' N ρ I ac w hW hU hN => ?_, hk⟩
  obtain ⟨vs, hS, hL, -⟩ := hsrc M' N ρ I ac w hW hU hN
  have hvs : vs = b.map fun c => Value.int .u8 (c.toNat : Int) := by
    apply List.ext_getElem
    · rw [hL.1]; simp
    · intro i h1 h2
      have hi : i < b.length := by simpa using h2
      obtain ⟨u, hu, hr⟩ := hL.2.2 i 0 (by simpa using hi) (by omega)
      rw [Nat.mul_one, Nat.add_zero, List.getElem?_eq_getElem h1] at hu
      simp only [Option.some.injEq] at hu
      have e1 : ((b.map fun c => [AV.int .u8 (c.toNat : Int)]).getD i []).getD 0 .bad = .int .u8 (b[i].toNat : Int) := by
        simp [List.getD_eq_getElem?_getD, hi]
      rw [e1] at hr
      rw [hu, rep_int hr.2]
      simp
  have hsl : ∃ q l c, ac.eval x = .slice q l c := by
    have r1 := rep_op hU x hx
    cases hxx : ev F x with
    | isl s es => rw [hxx] at r1; obtain ⟨q, cap, hv, _⟩ := isl_len r1; exact ⟨_, _, _, hv⟩
    | nils =>
      rw [hxx] at r1
      generalize ac.eval x = v at r1
      cases r1
      exact ⟨_, _, _, rfl⟩
    | osl n len =>
      rw [hxx] at h r1
      simp only [asrc, alive] at h
      cases hb : mget Ml n with
      | none => rw [hb] at h; exact h.elim
      | some bl =>
        rw [hb] at h
        obtain ⟨hc1, hmp, _⟩ := chk_elim h
        have hl : bl.ln = len := by simpa using hc1
        obtain ⟨sl, hsl, hns⟩ := names_op (F := F) x hx (n := n) (by rw [hxx]; simp [AV.names])
        have hMn : M' n = some bl := (hN sl hsl n hns).trans (by rw [hM]; exact hb)
        have hal : lens M' n = some (len, bl.sz) := by rw [lens_some]; exact ⟨bl, hMn, hl, rfl⟩
        obtain ⟨_, ⟨_, q, hv⟩ | ⟨g, cap, _, hv⟩⟩ := rep_osl r1 hal
        · exact ⟨_, _, _, hv⟩
        · exact ⟨_, _, _, hv⟩
    | vsl n len i off cnt =>
      rw [hxx] at h r1
      simp only [asrc, alive] at h
      cases hb : mget Ml n with
      | none => rw [hb] at h; exact h.elim
      | some bl =>
        rw [hb] at h
        obtain ⟨hc1, hmp, _⟩ := chk_elim h
        have hl : bl.ln = len := by simpa using hc1
        obtain ⟨sl, hsl, hns⟩ := names_op (F := F) x hx (n := n) (by rw [hxx]; simp [AV.names])
        have hMn : M' n = some bl := (hN sl hsl n hns).trans (by rw [hM]; exact hb)
        have hal : lens M' n = some (len, bl.sz) := by rw [lens_some]; exact ⟨bl, hMn, hl, rfl⟩
        obtain ⟨_, g, cap, c, _, hv, _⟩ := rep_vsl r1 hal
        exact ⟨_, _, _, hv⟩
    | str q => exact (hns ⟨q, hxx⟩).elim
    | _ => rw [hxx] at h; exact h.elim
  obtain ⟨q, l, c, hv⟩ := hsl
  have hl : l = b.length := by
    have := hS.len w
    rw [hv] at this
    simpa [Builtin.lenOf] using this
  refine ⟨.string ⟨b.toArray⟩, ?_, .str _⟩
  have hrun : (Conv.bytesToString (ac.eval x)).run P w = .ok (.string ⟨b.toArray⟩) w := by
    rw [hv]
    cases q with
    | none =>
      have hc := hS.cells
      rw [hv, hvs] at hc
      have : b = [] := by
        simp [Builtin.firstCells] at hc
        exact hc
      subst this
      simp [Conv.bytesToString]
      rfl
    | some a =>
      have hc := hS.cells
      rw [hv, hvs] at hc
      simp only [Builtin.firstCells, List.length_map, Nat.mul_one] at hc
      have := run_bytesToString (P := P) w a l c (b.map fun c => (c.toNat : Int)) (by rw [hl, hc]; simp [List.map_map, Function.comp_def])
      rw [this, foldl_push]
      simp
  simp only [execOp, ho, convert, Sem.run_bind, run_underlying hD, run_underlying hDt, Result.andThen_ok]
  have e9 : ∀ v : Value, v = ac.eval x → True := fun _ _ => trivial
  rw [hv] at hrun ⊢
  simp only [Sem.run_bind, run_underlying hDe, Result.andThen_ok, hrun, Sem.run_pure]
end Go.AM

namespace Go.AM
open Go.RowKit
variable {P : Program} {T : TT} {X : Ctx} {o : Oper} {F : Frm} {M : MemF}
theorem rep_vsl_mk {ρ : Place} {L : Lens} {I : Nat → Prop} {w : World} {N : Nat → Prop} {n len i off sz g cap cnt c : Nat} (hn : N n) (hl : L n = some (len, sz)) (hρ : ρ n = some (g, cap)) (h1 : cnt ≤ c) (h2 : c ≤ maxLen) :
    Rep ρ L I w N (.vsl n len i off cnt) (.slice (some ⟨g, i * sz + off, none⟩) cnt c) :=
  .vsl n len i off cnt _ hn rfl fun l sz' h => by
    rw [hl] at h
    simp only [Option.some.injEq, Prod.mk.injEq] at h
    obtain ⟨rfl, rfl⟩ := h
    exact ⟨Nat.le_refl _, fun _ => ⟨g, cap, c, hρ, rfl, h1, h2⟩⟩
theorem run_sliceAt_arr {t m e : Nat} {ie : TypeInfo} {a : Addr} {w : World} (hD : P.underlying t = some (.array m e)) (hi' : P.info? e = some ie) :
    (Instr.sliceAt t (.pointer (some a)) none none none).run P w = .ok (.slice (some a) m m) w := by
  have : a.add 0 = a := by simp [Addr.add]
  simp [Instr.sliceAt, Sem.run_bind, run_underlying hD, Instr.sureAddr, Instr.sliceBounds, run_sizeOf' hi', this]
theorem does_slcA_loc (hT : TTok P T) {t m e n len i off : Nat} {x : Operand} {Ml : Mem} {b : Blk} (hM : M = mget Ml) (ht : T.d t = .arr m e) (hok : (T.d e).ok = true) (ho : o.op = .slice t x none none none) (hm : m ≤ maxLen)
    (hxx : ev F x = .loc n len i off) (hb : mget Ml n = some b) (hl : b.ln = len) : Does P X o F M (.vsl n len i off m) [] [] := by
  have hx : x ∈ o.op.operands.toList := by simp [ho, Op.operands]
  obtain ⟨D, it, z, hD, hf, _⟩ := hT t (by rw [ht]; simp)
  have hD' := fits_arr ht hf
  subst hD'
  obtain ⟨De, ie, _, hDe, hfe, hie, hes, _⟩ := hT e (TD.ok_ne hok)
  refine does_value fun M' N ρ I a w hW hU hN => ?_
  have r1 := rep_op hU x hx
  rw [hxx] at r1
  obtain ⟨sl, hsl, hns⟩ := names_op (F := F) x hx (n := n) (by rw [hxx]; simp [AV.names])
  have hMn : M' n = some b := (hN sl hsl n hns).trans (by rw [hM]; exact hb)
  have hal : lens M' n = some (len, b.sz) := by rw [lens_some]; exact ⟨b, hMn, hl, rfl⟩
  obtain ⟨hn, g, cap, hρ, hv⟩ := rep_loc r1 hal
  refine ⟨_, ?_, rep_vsl_mk hn hal hρ (Nat.le_refl m) hm⟩
  simp only [execOp, ho, hv, Option.map_none, Sem.run_bind, run_sliceAt_arr hD hie, Result.andThen_ok, Sem.run_pure]
theorem does_slcA_imm (hT : TTok P T) {t m e off : Nat} {x : Operand} {r : List AV} (ht : T.d t = .arr m e) (hok : (T.d e).ok = true) (ho : o.op = .slice t x none none none) (hm : m ≤ maxLen)
    (hxx : ev F x = .iptr r off) (hfit : off + m * T.s e ≤ r.length) : Does P X o F M (.isl (T.s e) (chop (T.s e) m (r.drop off))) [] [] := by
  have hx : x ∈ o.op.operands.toList := by simp [ho, Op.operands]
  obtain ⟨D, it, z, hD, hf, _⟩ := hT t (by rw [ht]; simp)
  have hD' := fits_arr ht hf
  subst hD'
  obtain ⟨De, ie, _, hDe, hfe, hie, hes, _⟩ := hT e (TD.ok_ne hok)
  refine does_value fun M' N ρ I a w hW hU hN => ?_
  have r1 := rep_op hU x hx
  rw [hxx] at r1
  generalize hv : a.eval x = v at r1
  cases r1 with
  | iptr _ _ b q c hI h1 hcell hr =>
    refine ⟨.slice (some ⟨b, q + off, none⟩) m m, ?_, ?_⟩
    · simp only [execOp, ho, hv, Option.map_none, Sem.run_bind, run_sliceAt_arr hD hie, Result.andThen_ok, Sem.run_pure]
    · have hlen : (chop (T.s e) m (r.drop off)).length = m := chop_length
      have hlt : ∀ i j, i < m → j < T.s e → off + (i * T.s e + j) < r.length := fun i j hi hj => by
        have := idx_lt (sz := T.s e) hi hj
        omega
      have key := Rep.isl (ρ := ρ) (L := lens M') (I := I) (w := w) (N := N) (T.s e) (chop (T.s e) m (r.drop off)) b (q + off) m (fun i j => c (off + (i * T.s e + j))) (by rw [hlen]; exact Nat.le_refl _) hm hI
        (fun l hl => by
          obtain ⟨p, hp, rfl⟩ := List.mem_iff_getElem.1 hl
          rw [hlen] at hp
          have e1 := chop_getD (sz := T.s e) (r := r.drop off) hp
          rw [List.getD_eq_getElem?_getD, List.getElem?_eq_getElem (by rw [hlen]; exact hp), Option.getD_some] at e1
          rw [e1]
          have : (p + 1) * T.s e ≤ m * T.s e := Nat.mul_le_mul_right _ hp
          rw [Nat.add_mul, Nat.one_mul] at this
          simp only [List.length_take, List.length_drop]; omega)
        (fun i j hi hj => h1 _ (hlt i j (by rwa [hlen] at hi) hj))
        (fun i j hi hj => by
          have := hcell _ (hlt i j (by rwa [hlen] at hi) hj)
          rwa [show q + off + i * T.s e + j = q + (off + (i * T.s e + j)) by omega])
        (fun i j hi hj => by
          rw [hlen] at hi
          have := hr _ (hlt i j hi hj)
          rw [chop_getD hi, getD_take_drop _ _ _ _ _ hj]
          simpa only [List.getD_eq_getElem?_getD, List.getElem?_drop] using this)
      rwa [hlen] at key
theorem blk_store {ρ : Place} {I : Nat → Prop} {M' : MemF} {N : Nat → Prop} {w : World} (hW : Wok X ρ I M' N w) {n i off g cap : Nat} {b : Blk} {avs : List AV} {vals : List Value} (hMn : M' n = some b) (hmp : b.mp = none) (hρ : ρ n = some (g, cap)) (hi' : i < b.es.length)
    (hcl : vals.length = avs.length) (hc1' : ∀ u ∈ vals, u.oneCell' = true) (hcr : ∀ j, j < avs.length → Rep ρ (lens M') I w N (avs.getD j .bad) (vals.getD j default)) (hoff : off + avs.length ≤ b.sz) :
    (storeCells ⟨g, i * b.sz + off, none⟩ vals).run P w = .ok () (w.setCells g (i * b.sz + off) vals) ∧
    ∃ ρ1, Evo N ρ (lens M') I w ρ1 (lens (mups M' [(n, ⟨b.ty, b.sz, b.es.set i (splice off avs (b.es.getD i [])), none⟩)])) I (w.setCells g (i * b.sz + off) vals) ∧
      Wok X ρ1 I (mups M' [(n, ⟨b.ty, b.sz, b.es.set i (splice off avs (b.es.getD i [])), none⟩)]) (naddL N [(n, ⟨b.ty, b.sz, b.es.set i (splice off avs (b.es.getD i [])), none⟩)]) (w.setCells g (i * b.sz + off) vals) := by
  have B := hW.blk n b hMn
  obtain ⟨cs, fr, hg, hfr, hnI, hown, hlc, hcm, hcs, hc⟩ := B.real g cap hρ
  have hg := hg.cells hmp
  have hlb := Blk.ln_of hmp
  have hel : (b.es.getD i []).length = b.sz := by
    rw [List.getD_eq_getElem?_getD, List.getElem?_eq_getElem hi', Option.getD_some]
    exact B.even _ (List.getElem_mem _)
  have hrow : i * b.sz + b.sz ≤ cs.size := by
    rw [hcs]
    calc i * b.sz + b.sz = (i + 1) * b.sz := by rw [Nat.add_mul, Nat.one_mul]
      _ ≤ cap * b.sz := Nat.mul_le_mul_right _ (by omega)
  have hin : ∀ j, j < b.sz → i * b.sz + j < cs.size := fun j hj => by omega
  have hcellat : ∀ k, w.cell? ⟨g, k, none⟩ = cs[k]? := fun k => by simp [World.cell?, hg]
  have hnf : ∀ k, k < cs.size → w.frozen? ⟨g, k, none⟩ = false := fun k hk => by
    have := hfr k hk
    simp only [World.frozen?, hg]
    simpa using this
  refine ⟨?_, ?_⟩
  · have hst := run_storeCells_cells (P := P) g (i * b.sz + off) vals 0 w
      (fun j hj => by
        rw [Nat.add_zero, hcellat, Nat.add_assoc, Array.getElem?_eq_getElem (hin (off + j) (by omega))]; rfl)
      (fun j hj => by rw [Nat.add_zero, Nat.add_assoc]; exact hnf _ (hin (off + j) (by omega)))
      hc1'
    rwa [Nat.add_zero] at hst
  · obtain ⟨cs', h1, h2, h3⟩ := heap_setCells g b.ty fr vals (i * b.sz + off) w cs hg (by rw [hcl]; omega)
    have key : ∀ p q, p < b.es.length → q < b.sz → ∃ u, cs'[p * b.sz + q]? = some u ∧ u.oneCell' = true ∧ Rep ρ (lens M') I w N (((b.es.set i (splice off avs (b.es.getD i []))).getD p []).getD q .bad) u := by
      intro p q hp hq
      rw [h3, hcl]
      by_cases hpi : p = i
      · subst hpi
        have e1 : (b.es.set p (splice off avs (b.es.getD p []))).getD p [] = splice off avs (b.es.getD p []) := by
          simp [List.getD_eq_getElem?_getD, hp]
        rw [e1, splice_getD _ _ _ _ (by omega)]
        by_cases hqr : off ≤ q ∧ q < off + avs.length
        · rw [if_pos (by omega), if_pos hqr]
          have e2 : p * b.sz + q - (p * b.sz + off) = q - off := by omega
          rw [e2]
          have hq' : q - off < vals.length := by rw [hcl]; omega
          refine ⟨vals[q - off], List.getElem?_eq_getElem hq', hc1' _ (List.getElem_mem _), ?_⟩
          have := hcr (q - off) (by omega)
          rwa [List.getD_eq_getElem?_getD (l := vals), List.getElem?_eq_getElem hq', Option.getD_some] at this
        · rw [if_neg (by omega), if_neg hqr]
          exact hc p q hp hq
      · have e1 : (b.es.set i (splice off avs (b.es.getD i []))).getD p [] = b.es.getD p [] := by
          simp [List.getD_eq_getElem?_getD, List.getElem?_set, Ne.symm hpi]
        rw [e1]
        rw [if_neg]
        · exact hc p q hp hq
        · rintro ⟨ha, hb'⟩
          rcases Nat.lt_or_gt_of_ne hpi with hlt | hgt
          · have : (p + 1) * b.sz ≤ i * b.sz := Nat.mul_le_mul_right _ hlt
            rw [Nat.add_mul, Nat.one_mul] at this
            omega
          · have : (i + 1) * b.sz ≤ p * b.sz := Nat.mul_le_mul_right _ hgt
            rw [Nat.add_mul, Nat.one_mul] at this
            omega
    have hdead : ∀ b0, M' n = some b0 → b0 = b := fun b0 h0 => by rw [hMn] at h0; exact (Option.some.inj h0).symm
    obtain ⟨E, W⟩ := hW.put (w' := w.setCells g (i * b.sz + off) vals) n ⟨b.ty, b.sz, b.es.set i (splice off avs (b.es.getD i [])), none⟩ g cap cs' fr
      (os_setCells _ _ _ _) (tape_setCells _ _ _ _) (out_setCells _ _ _ _) (by rw [size_setCells]; exact Nat.le_refl _) (fun k _ hk => heap_setCells_ne g _ _ _ _ hk) h1 (fun q hq => hfr q (by omega))
      (.inr ⟨cap, hρ, b, hMn⟩) (fun b0 h0 => by rw [hdead b0 h0, hlb]; exact ⟨rfl, by simp [Blk.ln], fun _ => hρ⟩) (fun _ => ⟨b, hMn⟩)
      (fun e he => by
        rcases List.mem_or_eq_of_mem_set he with he | rfl
        · exact B.even e he
        · show (splice _ _ _).length = b.sz
          unfold splice
          rw [List.length_append, List.length_append, List.length_take, List.length_drop, hel]; omega)
      (by simpa using hlc) hcm (by rw [h2]; exact hcs) (by simpa using key)
    exact ⟨_, E, by rw [naddL_one]; exact W⟩
theorem flat_len {sz : Nat} : ∀ {xs : List (List AV)}, (∀ e ∈ xs, e.length = sz) → xs.flatten.length = xs.length * sz
  | [], _ => by simp
  | e :: r, h => by
    rw [List.flatten_cons, List.length_append, flat_len (fun e he => h e (List.mem_cons_of_mem _ he)), h e List.mem_cons_self, List.length_cons, Nat.add_mul, Nat.one_mul, Nat.add_comm]
theorem flat_getD {sz : Nat} : ∀ {xs : List (List AV)} {k : Nat}, (∀ e ∈ xs, e.length = sz) → k < xs.length * sz → ∃ p q, p < xs.length ∧ q < sz ∧ k = p * sz + q ∧ xs.flatten.getD k .bad = (xs.getD p []).getD q .bad
  | [], k, _, hk => by simp at hk
  | e :: r, k, h, hk => by
    have he := h e List.mem_cons_self
    by_cases hlt : k < sz
    · refine ⟨0, k, by simp, hlt, by simp, ?_⟩
      simp only [List.flatten_cons, List.getD_eq_getElem?_getD, List.getElem?_append_left (show k < e.length by omega), List.getElem?_cons_zero, Option.getD_some]
    · rw [List.length_cons, Nat.add_mul, Nat.one_mul] at hk
      obtain ⟨p, q, hp, hq, hkk, hg⟩ := flat_getD (xs := r) (k := k - sz) (fun e he => h e (List.mem_cons_of_mem _ he)) (by omega)
      refine ⟨p + 1, q, by simpa using hp, hq, by rw [Nat.add_mul, Nat.one_mul]; omega, ?_⟩
      rw [List.getD_cons_succ, ← hg]
      simp only [List.flatten_cons, List.getD_eq_getElem?_getD, List.getElem?_append_right (show e.length ≤ k by omega), he]
theorem does_copy (hT : TTok P T) {x y : Operand} {t t' e n len i off cnt : Nat} {Ml : Mem} {b : Blk} {K : List (List AV) → Prop} (hM : M = mget Ml) (ho : o.op = .call { callee := .builtin .copy, args := #[x, y], argTypes := #[t, t'] })
    (ht : T.d t = .slice e) (hok : (T.d e).ok = true) (hxx : ev F x = .vsl n len i off cnt) (hb : mget Ml n = some b) (hmp : b.mp = none) (hl : b.ln = len) (hi : i < b.es.length) (hfit : off + cnt * T.s e ≤ b.sz)
    (hk : (∃ e, P.underlying t' = some (.slice e)) ∨ P.underlying t' = some .string) (hks : (∃ s, ev F y = .str s) → P.underlying t' = some .string) (hkl : (¬ ∃ s, ev F y = .str s) → ∃ e, P.underlying t' = some (.slice e)) (h : asrc Ml (T.s e) (ev F y) K) :
    ∃ xs, K xs ∧ Does P X o F M (.int .i64 ((min xs.length cnt : Nat) : Int)) [(n, ⟨b.ty, b.sz, b.es.set i (splice off ((xs.take cnt).flatten) (b.es.getD i [])), none⟩)] [] ∧ n ∈ (ev F x).names := by
  have hx : x ∈ o.op.operands.toList := by simp [ho, Op.operands, Call.operands]
  have hy : y ∈ o.op.operands.toList := by simp [ho, Op.operands, Call.operands]
  obtain ⟨D, it, z, hD, hf, _⟩ := hT t (by rw [ht]; simp)
  have hD' := fits_slice ht hf
  subst hD'
  obtain ⟨De, ie, _, hDe, hfe, hie, hes, _⟩ := hT e (TD.ok_ne hok)
  obtain ⟨xs, hkx, hsrc⟩ := asrc_sound (X := X) (o := o) hT hM hy hk hks hkl h
  obtain ⟨sl, hsl, hns⟩ := names_op (F := F) x hx (n := n) (by rw [hxx]; simp [AV.names])
  refine ⟨xs, hkx, ⟨fun p hp => .inr ⟨sl, hsl, by simp at hp; rw [hp]; exact hns⟩, fun M' N ρ I a w hW hU hN _ => ?_⟩, by rw [hxx]; simp [AV.names]⟩
  have r1 := rep_op hU x hx
  rw [hxx] at r1
  have hMn : M' n = some b := (hN sl hsl n hns).trans (by rw [hM]; exact hb)
  have hal : lens M' n = some (len, b.sz) := by rw [lens_some]; exact ⟨b, hMn, hl, rfl⟩
  obtain ⟨hn, g, cap, c, hρ, hv, _⟩ := rep_vsl r1 hal
  obtain ⟨vs, hS, hL, hPre⟩ := hsrc M' N ρ I a w hW hU hN
  have htl : (xs.take cnt).length = min cnt xs.length := List.length_take
  have hev : ∀ e' ∈ xs.take cnt, e'.length = T.s e := fun e' he => hL.2.1 e' (List.mem_of_mem_take he)
  have hfl := flat_len hev
  have hle : min xs.length cnt * T.s e ≤ cnt * T.s e := Nat.mul_le_mul_right _ (Nat.min_le_right _ _)
  have hle2 : min xs.length cnt * T.s e ≤ xs.length * T.s e := Nat.mul_le_mul_right _ (Nat.min_le_left _ _)
  rw [htl, Nat.min_comm] at hfl
  have hvl : (vs.take (min xs.length cnt * T.s e)).length = ((xs.take cnt).flatten).length := by
    rw [hfl, List.length_take, hL.1]; omega
  have hone : ∀ u ∈ vs.take (min xs.length cnt * T.s e), u.oneCell' = true := fun u hu => hL.one u (List.mem_of_mem_take hu)
  obtain ⟨hst, ρ1, E, W⟩ := blk_store (P := P) hW (off := off) (avs := (xs.take cnt).flatten) (vals := vs.take (min xs.length cnt * T.s e)) hMn hmp hρ hi hvl hone (fun k hk' => by
      rw [hfl] at hk'
      obtain ⟨p, q, hp, hq, hkk, hg⟩ := flat_getD (xs := xs.take cnt) (k := k) hev (by rw [htl, Nat.min_comm]; exact hk')
      rw [htl] at hp
      obtain ⟨u, hu, _, hr⟩ := hL.2.2 p q (by omega) hq
      rw [hg]
      have e1 : (xs.take cnt).getD p [] = xs.getD p [] := by
        simp only [List.getD_eq_getElem?_getD, List.getElem?_take]
        rw [if_pos (by omega)]
      have e2 : (vs.take (min xs.length cnt * T.s e)).getD k default = u := by
        rw [List.getD_eq_getElem?_getD, List.getElem?_take, if_pos hk', hkk, hu]; rfl
      rw [e1, e2]; exact hr) (by rw [hfl]; omega)
  unfold Yield
  have hrun : (execOp a.eval o).run P w = .ok (.value (.int .i64 ((min xs.length cnt : Nat) : Int))) (w.setCells g (i * b.sz + off) (vs.take (min xs.length cnt * T.s e))) := by
    have hp := hPre (min xs.length cnt) (Nat.min_le_left _ _)
    rw [run_builtin_of ho]
    have e0 : (Array.map a.eval #[x, y]) = #[a.eval x, a.eval y] := by simp
    have em : Nat.min xs.length cnt = min xs.length cnt := rfl
    simp only [e0, builtin, hv, Builtin.copy_, Sem.run_bind, run_underlying hD, Result.andThen_ok, hS.len, run_sizeOf' hie, hes, em, hp, Sem.run_pure, List.toList_toArray, hst, goInt]
    simp [hst, run_underlying hD, hS.len, run_sizeOf' hie, hes, hp, goInt, em]
  rw [hrun]
  exact ⟨ρ1, I, E, W, .int _ _⟩
theorem does_mks (hT : TTok P T) {n t e len : Nat} {x y : Operand} {k k' : IntKind} (ho : o.op = .makeSlice t x y) (ht : T.d t = .slice e) (hok : (T.d e).ok = true) (hs : solid (T.z e) = true) (hl : (cells (T.z e)).length = T.s e) (hz : T.s e ≠ 0)
    (hx : ev F x = .int k len) (hy : ev F y = .int k' len) (hlen : len ≤ big) : Does P X o F M (.osl n len) [(n, ⟨e, T.s e, List.replicate len (cells (T.z e)), none⟩)] [n] := by
  have hx' : x ∈ o.op.operands.toList := by simp [ho, Op.operands]
  have hy' : y ∈ o.op.operands.toList := by simp [ho, Op.operands]
  obtain ⟨D, it, z, hD, hf, hi, hsz, _⟩ := hT t (by rw [ht]; simp)
  have hD' := fits_slice ht hf
  subst hD'
  obtain ⟨_, ie, ze, _, _, hie, hes, hby, hze, hzz⟩ := hT e (TD.ok_ne hok)
  refine does_newrow (cap := len) (by simp) (fun M' N ρ I a w hW hU => ?_)
  have hc : CellsOk ρ (lens M') I w N (cells (T.z e)) ze.cells := by rw [hzz]; exact CellsOk.of_value (rep_ofV _ _ _ _ _ ze) (by rw [← hzz]; exact hs)
  have r1 := rep_int (hx ▸ rep_op hU x hx')
  have r2 := rep_int (hy ▸ rep_op hU y hy')
  have hmax : len ≤ maxLen := by simp only [maxLen, big] at *; omega
  have hrow := RowsOk.zeros (n := len) hc hl hz
  refine ⟨madeCells ze.cells (len * ie.size), ?_, by rw [size_madeCells, hes], Nat.le_refl _, hmax, by rw [hes]; exact hrow⟩
  have hb : (ie.bytes : Int) * (len : Int) ≤ 281474976710656 := by
    have h1 : ie.bytes * len ≤ 131072 * 1073741824 := Nat.mul_le_mul hby hlen
    have h2 : ((ie.bytes * len : Nat) : Int) ≤ 281474976710656 := by omega
    rwa [Int.natCast_mul] at h2
  have h3 := run_make (P := P) w t e ie ze hD hie hze k k' (len : Int) (len : Int) (by omega) (Int.le_refl _) hb (by simp only [big] at hlen; omega)
  simp only [execOp, ho, r1, r2, Sem.run_bind, h3, Result.andThen_ok, Sem.run_pure, Int.toNat_natCast]
theorem does_s2b (hT : TTok P T) {n s t e : Nat} {x : Operand} {l : List UInt8} (ho : o.op = .convert s t x) (hs : T.d s = .str) (ht : T.d t = .slice e) (he : T.d e = .int .u8) (hx : ev F x = .str l) (hlen : l.length ≤ big) :
    Does P X o F M (.osl n l.length) [(n, ⟨e, 1, l.map fun c => [AV.int .u8 c.toNat], none⟩)] [n] := by
  have hx' : x ∈ o.op.operands.toList := by simp [ho, Op.operands]
  obtain ⟨D, _, _, hDs, hf, _⟩ := hT s (by rw [hs]; simp)
  have := fits_str hs hf
  subst this
  obtain ⟨D, _, _, hDt, hf, _⟩ := hT t (by rw [ht]; simp)
  have := fits_slice ht hf
  subst this
  obtain ⟨D, _, _, hDe, hf, _⟩ := hT e (by rw [he]; simp)
  have := fits_int he hf
  subst this
  refine ⟨fun p hp => .inl (by simp at hp; simp [hp]), fun M' N ρ I ac w hW hU hN hF => ?_⟩
  have hn : ¬ N n := hF n (by simp)
  have r1 := rep_str (hx ▸ rep_op hU x hx')
  have hd : ∀ b0, M' n = some b0 → False := fun b0 h0 => hn (hW.blk n b0 h0).lt
  have hsz : (⟨l.toArray⟩ : ByteArray).size = l.length := by show l.toArray.size = _; simp
  have hge := grownCap_ge w l.length 0 e
  have hcm := grownCap_le_maxLen w l.length 0 e (by simp only [maxLen, big] at *; omega)
  have hcs : (Lib.bytesCells w e ⟨l.toArray⟩).size = grownCap w l.length 0 e := by
    simp only [Lib.bytesCells, Array.size_append, Array.size_map, Array.size_replicate, hsz, List.size_toArray]; omega
  have hrow : ∀ i j, i < l.length → j < 1 → ∃ u, (Lib.bytesCells w e ⟨l.toArray⟩)[i * 1 + j]? = some u ∧ u.oneCell' = true ∧ Rep ρ (lens M') I w N (((l.map fun c => [AV.int .u8 (c.toNat : Int)]).getD i []).getD j .bad) u := by
    intro i j hi hj
    have hj0 : j = 0 := by omega
    subst hj0
    refine ⟨.int .u8 (l[i].toNat : Int), ?_, rfl, ?_⟩
    · rw [Nat.mul_one, Nat.add_zero, Lib.bytesCells, Array.getElem?_append_left (by simpa using hi)]
      simp [hi]
    · have : ((l.map fun c => [AV.int .u8 (c.toNat : Int)]).getD i []).getD 0 .bad = .int .u8 (l[i].toNat : Int) := by simp [List.getD_eq_getElem?_getD, hi]
      rw [this]; exact .int _ _
  obtain ⟨E, W⟩ := hW.put (w' := Lib.bytesWorld w e ⟨l.toArray⟩) n ⟨e, 1, l.map fun c => [AV.int .u8 (c.toNat : Int)], none⟩ w.heap.size (grownCap w l.length 0 e) (Lib.bytesCells w e ⟨l.toArray⟩) ((Lib.bytesCells w e ⟨l.toArray⟩).size, (Lib.bytesCells w e ⟨l.toArray⟩).size + 1)
    rfl rfl rfl (by rw [Lib.bytesWorld_size]; omega) (fun k hk _ => Lib.bytesWorld_at_old w e _ k hk) (Lib.bytesWorld_at_new w e _) (fun o h1 h2 => by omega)
    (.inl (Nat.le_refl _)) (fun b0 h0 => (hd b0 h0).elim) (fun h => (hn h).elim) (fun r hr => by obtain ⟨_, _, rfl⟩ := List.mem_map.1 hr; rfl) (by simpa using hge) hcm (by rw [hcs]; simp) (by simpa using hrow)
  unfold Yield
  have hrun : (execOp ac.eval o).run P w = .ok (.value (.slice (some ⟨w.heap.size, 0, none⟩) l.length (grownCap w l.length 0 e))) (Lib.bytesWorld w e ⟨l.toArray⟩) := by
    have := Lib.run_convert_string_bytes (P := P) w s t e ⟨l.toArray⟩ hDs hDt hDe
    simp only [execOp, ho, r1, Sem.run_bind, this, Result.andThen_ok, Sem.run_pure, hsz]
  rw [hrun]
  refine ⟨_, I, E, by rw [naddL_one]; exact W, ?_⟩
  refine rep_osl_mk (sz := 1) (.inr ⟨_, List.mem_singleton.2 rfl⟩) ?_ (by simp [pset])
  show lens (mupd M' n _) n = _
  rw [lens_mset, if_pos rfl]; simp [Blk.ln]
end Go.AM

namespace Go.AM
open Go.RowKit
variable {P : Program} {T : TT} {X : Ctx} {o : Oper} {F : Frm} {M : MemF}
section
variable {w : World} {t tx ty e : TypeId} {i : TypeInfo} {z : Value} {k k' : IntKind} {n : Nat}
theorem zeroCells_nil {zz : Array Value} {m : Nat} (h : m * zz.size = 0) : Builtin.zeroCells zz m = #[] := by
  simp [Builtin.zeroCells, h]
theorem wrap_small (h : n ≤ big) : IntKind.i64.wrap (n : Int) = n := by
  simp only [big] at h
  simp only [IntKind.wrap, IntKind.bits, IntKind.signed]; simp; omega
theorem run_appZ_room (ht : P.underlying t = some (.slice e)) (hx : P.underlying tx = some (.int k)) (hi : P.info? e = some i) (hz : i.zero = some z) (hzs : z.cells.size = i.size) (hn : n ≤ big) (hby : i.bytes ≤ 131072)
    (base : Option Addr) (sLen sCap : Nat) (hroom : sLen + n ≤ sCap) (w' : World)
    (hst : ∀ a, base = some a → (storeCells (a.add (sLen * i.size)) (Builtin.zeroCells z.cells n).toList).run P w = .ok () w') (h0 : base = none → w' = w) :
    (Builtin.append_ #[t, tx] ty #[.slice base sLen sCap, .int k' n]).run P w = .ok (.slice base (sLen + n) sCap) w' := by
  have h48 : ¬ (281474976710656 < (n : Int) * (i.bytes : Int)) := by
    have h1 : n * i.bytes ≤ 1073741824 * 131072 := Nat.mul_le_mul hn hby
    have h2 : ((n * i.bytes : Nat) : Int) ≤ 281474976710656 := by omega
    rw [Int.natCast_mul] at h2; omega
  have hneg : ¬ ((n : Int) < 0) := by omega
  have hap : (if n * i.size = 0 then (pure #[] : Sem (Array Value)) else do pure (Builtin.zeroCells (← zeroValue e).cells n)).run P w = .ok (Builtin.zeroCells z.cells n) w := by
    split
    · rename_i h
      rw [zeroCells_nil (by rw [hzs]; exact h)]; simp
    · simp [zeroValue, typeInfo, hi, hz]
  cases base with
  | none =>
    have := h0 rfl
    subst this
    simp [Builtin.append_, run_underlying ht, run_underlying hx, sizeOf, typeInfo, zeroValue, hz, hi, wrap_small hn, hneg, h48, hroom, asInt, asIntOf]
  | some a =>
    have hst := hst a rfl
    simp [Builtin.append_, run_underlying ht, run_underlying hx, sizeOf, typeInfo, zeroValue, hz, hi, wrap_small hn, hneg, h48, hroom, asInt, asIntOf] at hap hst ⊢
    by_cases h : n * i.size = 0
    · have h2 := hap h
      rw [h2] at hst
      simp [h, hst]
    · simp [h, hst]
theorem run_appZ_grow (ht : P.underlying t = some (.slice e)) (hx : P.underlying tx = some (.int k)) (hi : P.info? e = some i) (hz : i.zero = some z) (hzs : z.cells.size = i.size) (hn : n ≤ big) (hby : i.bytes ≤ 131072)
    (base : Option Addr) (sLen sCap : Nat) (olds : List Value) (hold : (Builtin.firstCells i.size sLen (.slice base sLen sCap)).run P w.drew = .ok olds.toArray w.drew)
    (hg : sCap < sLen + n) (h63 : ((sLen + n : Nat) : Int) ≤ 9223372036854775807) (hfit : Builtin.nextslicecap (sLen + n) sCap * i.bytes ≤ 281474976710656) :
    (Builtin.append_ #[t, tx] ty #[.slice base sLen sCap, .int k' n]).run P w = .ok (.slice (some ⟨w.heap.size, 0, none⟩) (sLen + n) (grownCap w (sLen + n) sCap e))
        (w.drew.alloc (.cells ((olds ++ (Builtin.zeroCells z.cells n).toList).toArray ++ Builtin.zeroCells z.cells (grownCap w (sLen + n) sCap e - (sLen + n))) e)) := by
  have h48 : ¬ (281474976710656 < (n : Int) * (i.bytes : Int)) := by
    have h1 : n * i.bytes ≤ 1073741824 * 131072 := Nat.mul_le_mul hn hby
    have h2 : ((n * i.bytes : Nat) : Int) ≤ 281474976710656 := by omega
    rw [Int.natCast_mul] at h2; omega
  have hneg : ¬ ((n : Int) < 0) := by omega
  have hnr : ¬ (sLen + n ≤ sCap) := by omega
  have h63' : ¬ (9223372036854775807 < ((sLen : Int) + (n : Int))) := by omega
  have h48' : ¬ (281474976710656 < Builtin.nextslicecap (sLen + n) sCap * i.bytes) := by omega
  have hap : (if n * i.size = 0 then (pure #[] : Sem (Array Value)) else do pure (Builtin.zeroCells (← zeroValue e).cells n)).run P w.drew = .ok (Builtin.zeroCells z.cells n) w.drew := by
    split
    · rename_i h
      rw [zeroCells_nil (by rw [hzs]; exact h)]; simp
    · simp [zeroValue, typeInfo, hi, hz]
  simp [Builtin.append_, run_underlying ht, run_underlying hx, sizeOf, typeInfo, zeroValue, hi, hz, wrap_small hn, hneg, h48, hnr, h63', h48', asInt, asIntOf, Question.forced, hold, newRow, grownCap] at hap ⊢
  by_cases h : n * i.size = 0
  · have h2 := hap h
    simp [h, h2]
  · simp [h]
    congr 2
    apply Array.ext'
    simp [List.append_assoc]
end
theorem zero_list {ρ : Place} {L : Lens} {I : Nat → Prop} {w : World} {N : Nat → Prop} {z : Value} {a : AV} {sz n : Nat} (h : CellsOk ρ L I w N (cells a) z.cells) (hl : (cells a).length = sz) (hpos : sz ≠ 0) :
    ListOk ρ L I w N sz (List.replicate n (cells a)) (Builtin.zeroCells z.cells n).toList := by
  have hz : z.cells.size = sz := by rw [h.1, hl]
  have hr := RowsOk.zeros (n := n) h hl hpos
  have e : Builtin.zeroCells z.cells n = (Array.range (n * sz)).map (z.cells[· % z.cells.size]!) := by simp only [Builtin.zeroCells, hz]
  rw [e]
  refine ⟨by simp, hr.2.1, fun i j hi hj => ?_⟩
  obtain ⟨u, hu, h1⟩ := hr.2.2 i j hi hj
  exact ⟨u, by rw [Array.getElem?_toList]; exact hu, h1⟩
def aappendZ (T : TT) (t : Nat) (s x : AV) (S : St) (K : AV → Mem → Nat → Prop) : Prop :=
  match T.d t, x with
  | .slice e, .int _ m =>
    (match s with
    | .osl n len => alive S.M n len fun b => chk (b.sz == T.s e && b.ty == e) ((0 ≤ m ∧ len + m.toNat ≤ big) ∧
        K (.osl n (len + m.toNat)) (mset S.M n ⟨b.ty, b.sz, b.es ++ List.replicate m.toNat (cells (T.z e)), none⟩) S.nx)
    | .nils => (0 ≤ m ∧ m.toNat ≤ big) ∧ K (.osl S.nx m.toNat) (mset S.M S.nx ⟨e, T.s e, List.replicate m.toNat (cells (T.z e)), none⟩) (S.nx + 1)
    | _ => False)
  | _, _ => False
theorem does_appendZ (hT : TTok P T) {s x : Operand} {t t' nx : Nat} {Ml : Mem} {K : AV → Mem → Nat → Prop} (hM : M = mget Ml) (ho : o.op = .call { callee := .builtin .append, args := #[s, x], argTypes := #[t, t'] })
    (hok : ∀ e, T.d t = .slice e → (T.d e).ok = true ∧ solid (T.z e) = true ∧ (cells (T.z e)).length = T.s e ∧ T.s e ≠ 0) (hint : ∃ k, T.d t' = .int k)
    (h : aappendZ T t (ev F s) (ev F x) ⟨F, Ml, nx⟩ K) :
    ∃ av n b nw nx', Does P X o F M av [(n, b)] nw ∧ K av (mset Ml n b) nx' ∧ ((nw = [nx] ∧ nx' = nx + 1 ∧ n = nx) ∨ (nx' = nx ∧ nw = [] ∧ n ∈ (ev F s).names)) := by
  have hs : s ∈ o.op.operands.toList := by simp [ho, Op.operands, Call.operands]
  have hx : x ∈ o.op.operands.toList := by simp [ho, Op.operands, Call.operands]
  unfold aappendZ at h
  cases ht : T.d t with
  | slice e =>
    cases hxv : ev F x with
    | int kx m =>
      rw [ht, hxv] at h
      simp only at h
      obtain ⟨D, it, z0, hD, hf, _⟩ := hT t (by rw [ht]; simp)
      have hD' := fits_slice ht hf
      subst hD'
      obtain ⟨hoke, hsol, hcl, hpos⟩ := hok e ht
      obtain ⟨_, ie, z, _, _, hie, hes, hby, hz, hzz⟩ := hT e (TD.ok_ne hoke)
      obtain ⟨k', hk'⟩ := hint
      obtain ⟨D', _, _, hDx, hfx, _⟩ := hT t' (by rw [hk']; simp)
      have := fits_int hk' hfx
      subst this
      have hzs : z.cells.size = T.s e := by
        have := (CellsOk.of_value (ρ := fun _ => none) (L := fun _ => none) (I := fun _ => False) (w := default) (N := NoName) (rep_ofV _ _ _ _ _ z) (by rw [← hzz]; exact hsol)).1
        rw [this, ← hzz, hcl]
      have hzs' : z.cells.size = ie.size := by rw [hzs, hes]
      have hfit : ∀ need old, old < need → need ≤ big → Builtin.nextslicecap need old * ie.bytes ≤ 281474976710656 := fun need old h1 h2 => by
        refine growslice_fits h1 ?_
        calc need * ie.bytes ≤ big * 131072 := Nat.mul_le_mul h2 hby
          _ = 140737488355328 := by simp [big]
      have hcells : ∀ (ρ : Place) (L : Lens) (I : Nat → Prop) (w : World) (N : Nat → Prop), CellsOk ρ L I w N (cells (T.z e)) z.cells := fun ρ L I w N => by rw [hzz]; exact CellsOk.of_value (rep_ofV _ _ _ _ _ z) (by rw [← hzz]; exact hsol)
      cases hss : ev F s with
      | osl n len =>
        rw [hss] at h
        simp only [alive] at h
        cases hb : mget Ml n with
        | none => rw [hb] at h; exact h.elim
        | some b =>
          rw [hb] at h
          obtain ⟨hc1, hmp, h2⟩ := chk_elim h
          obtain ⟨hc2, ⟨hm0, hbig⟩, hk⟩ := chk_elim h2
          have hl : b.es.length = len := (Blk.ln_of hmp).symm.trans (by simpa using hc1)
          simp only [Bool.and_eq_true, beq_iff_eq] at hc2
          obtain ⟨hsz, hty⟩ := hc2
          generalize hmn : m.toNat = q at *
          obtain rfl : m = (q : Int) := by omega
          obtain ⟨sl, hsl, hns⟩ := names_op (F := F) s hs (n := n) (by rw [hss]; simp [AV.names])
          refine ⟨_, n, _, [], nx, ?_, hk, .inr ⟨rfl, rfl, by simp [AV.names]⟩⟩
          refine ⟨fun p hp => .inr ⟨sl, hsl, by simp at hp; rw [hp]; exact hns⟩, fun M' N ρ I a w hW hU hN _ => ?_⟩
          have hMn : M' n = some b := (hN sl hsl n hns).trans (by rw [hM]; exact hb)
          have hal : lens M' n = some (b.es.length, b.sz) := by rw [lens_some]; exact ⟨b, hMn, Blk.ln_of hmp, rfl⟩
          have hL := zero_list (n := q) (hcells ρ (lens M') I w N) hcl hpos
          have hqb : q ≤ big := by omega
          have r1 := rep_op hU s hs
          rw [hss] at r1
          have r2 := rep_int (hxv ▸ rep_op hU x hx)
          subst hl
          obtain ⟨hn, h2⟩ := rep_osl r1 hal
          unfold Yield
          rw [run_builtin_append ho, r2]
          rw [← hsz] at hL
          have hxl : (List.replicate q (cells (T.z e))).length = q := by simp
          rcases h2 with ⟨h0, r, hv⟩ | ⟨g, cap, hρ, hv⟩
          · have hB := hW.blk n b hMn
            have he : b.es = [] := hB.virt h0
            rw [hv]
            by_cases hx0 : q = 0
            · subst hx0
              have hz0 : (Builtin.zeroCells z.cells 0).toList = [] := by rw [zeroCells_nil (by simp)]
              have hrun := run_appZ_room (P := P) (w := w) (t := t) (tx := t') (ty := o.type) (k' := kx) hD hDx hie hz hzs' hqb hby r 0 0 (by simp) w (fun a ha => by rw [hz0]; simp [storeCells]) (fun _ => rfl)
              rw [hrun]
              refine ⟨ρ, I, ?_, ?_, ?_⟩
              · show Evo N ρ (lens M') I w ρ (lens (mupd M' n _)) I w
                have : (⟨b.ty, b.sz, b.es ++ List.replicate 0 (cells (T.z e)), none⟩ : Blk) = b := by have := hmp; cases b; simp_all
                rw [this, mupd_same hMn]; exact Evo.refl _ _ _ _ _
              · show Wok X ρ I (mupd M' n _) _ w
                have : (⟨b.ty, b.sz, b.es ++ List.replicate 0 (cells (T.z e)), none⟩ : Blk) = b := by have := hmp; cases b; simp_all
                rw [this, mupd_same hMn]
                have hN' : naddL N [(n, b)] = N := by
                  rw [naddL_one]; funext m; simp only [nadd, eq_iff_iff]
                  exact ⟨fun h => h.elim (fun e => e ▸ hn) id, .inr⟩
                rw [naddL_one] at hN' ⊢
                rw [hN']; exact hW
              · refine .osl n _ _ (.inl hn) rfl fun l sz' hl' => ?_
                have : (⟨b.ty, b.sz, b.es ++ List.replicate 0 (cells (T.z e)), none⟩ : Blk) = b := by have := hmp; cases b; simp_all
                rw [this] at hl'
                change lens (mupd M' n b) n = _ at hl'
                rw [lens_mset, if_pos rfl, Blk.ln_of hmp] at hl'
                simp at hl'
                exact ⟨by omega, fun _ => .inl ⟨h0, r, rfl⟩⟩
            · have hfc0 : (Builtin.firstCells ie.size 0 (.slice r 0 0)).run P w.drew = .ok #[] w.drew := by
                cases r with
                | none => exact run_firstCells_none w.drew ie.size 0 0 0
                | some a => exact run_firstCells_some w.drew ie.size 0 a 0 0 [] (by simp) (fun j v hv => by simp at hv)
              have hrun := run_appZ_grow (P := P) (w := w) (t := t) (tx := t') (ty := o.type) (k' := kx) (n := q) hD hDx hie hz hzs' hqb hby r 0 0 [] hfc0 (by omega) (by simp [big] at hqb ⊢; omega) (hfit _ _ (by omega) (by omega))
              rw [hrun]
              have hpost := app_grow (X := X) (e := e) (olds := []) (old := 0) (z := z) hW (fun _ => ⟨b, hMn⟩) (fun b0 h0 => by rw [hMn] at h0; cases h0; exact ⟨rfl, he, hmp⟩) (by rw [hxl]; omega) ⟨by simp, by simp, fun i j hi => by simp at hi⟩ hL (by rw [hzs, hsz]) (by rw [hxl]; simpa using hqb)
              have e1 : b.es.length + q = ([] : List (List AV)).length + (List.replicate q (cells (T.z e))).length := by rw [he, hxl]
              have e2 : (⟨b.ty, b.sz, b.es ++ List.replicate q (cells (T.z e)), none⟩ : Blk) = ⟨e, b.sz, [] ++ List.replicate q (cells (T.z e)), none⟩ := by rw [he, hty]
              have e3 : 0 + q = ([] : List (List AV)).length + (List.replicate q (cells (T.z e))).length := by rw [hxl]; rfl
              rw [e1, e2, e3]
              exact hpost
          · rw [hv]
            by_cases hroom : b.es.length + q ≤ cap
            · obtain ⟨g1, g2, g3⟩ := app_room hW hMn hmp hρ hL (by rw [hxl]; exact hroom)
              have hone : ∀ u ∈ (Builtin.zeroCells z.cells q).toList, u.oneCell' = true := hL.one
              have hst := run_storeCells_cells (P := P) g (0 + b.es.length * b.sz) _ 0 w (by simpa using g1) (by simpa using g2) hone
              have hrun := run_appZ_room (P := P) (w := w) (t := t) (tx := t') (ty := o.type) (k' := kx) hD hDx hie hz hzs' hqb hby (some ⟨g, 0, none⟩) b.es.length cap hroom (w.setCells g (0 + b.es.length * b.sz) (Builtin.zeroCells z.cells q).toList)
                (fun a ha => by
                  cases ha
                  rw [addr_add, hes, ← hsz]
                  simpa using hst) (fun h => by cases h)
              rw [hrun]
              rw [hxl] at g3
              exact g3
            · have hB := hW.blk n b hMn
              obtain ⟨olds, ho1, ho2⟩ := hB.list hmp hρ
              have hfc : (Builtin.firstCells ie.size b.es.length (.slice (some ⟨g, 0, none⟩) b.es.length cap)).run P w.drew = .ok olds.toArray w.drew :=
                run_firstCells_some (P := P) w.drew ie.size b.es.length _ _ _ _ (by rw [hes, ← hsz]; exact ho1.1) (fun k u hu => by rw [addr_add, Nat.zero_add]; exact ho2 k u hu)
              have hrun := run_appZ_grow (P := P) (w := w) (t := t) (tx := t') (ty := o.type) (k' := kx) (n := q) hD hDx hie hz hzs' hqb hby _ b.es.length cap olds hfc (by omega) (by simp [big] at hbig ⊢; omega) (hfit _ _ (by omega) hbig)
              rw [hrun]
              have hpost := app_grow (X := X) (e := e) (old := cap) (z := z) hW (fun _ => ⟨b, hMn⟩) (fun b0 h0 => by rw [hMn] at h0; cases h0; exact ⟨rfl, rfl, hmp⟩)
                (by
                  have hcap : b.es.length ≤ cap := by obtain ⟨_, _, _, _, _, _, hh, _⟩ := hB.real g cap hρ; exact hh
                  rw [hxl]; omega) ho1 hL (by rw [hzs, hsz]) (by rw [hxl]; exact hbig)
              rw [hxl] at hpost
              rw [← hty] at hpost ⊢
              exact hpost
      | nils =>
        rw [hss] at h
        obtain ⟨⟨hm0, hbig⟩, hk⟩ := h
        generalize hmn : m.toNat = q at *
        obtain rfl : m = (q : Int) := by omega
        refine ⟨_, nx, _, [nx], nx + 1, ?_, hk, .inl ⟨rfl, rfl, rfl⟩⟩
        refine ⟨fun p hp => .inl (by simp at hp; simp [hp]), fun M' N ρ I a w hW hU hN hF => ?_⟩
        have hn : ¬ N nx := hF nx (by simp)
        have hL := zero_list (n := q) (hcells ρ (lens M') I w N) hcl hpos
        have r1 := rep_op hU s hs
        have r2 := rep_int (hxv ▸ rep_op hU x hx)
        rw [hss] at r1
        generalize hv : a.eval s = v at r1
        cases r1
        unfold Yield
        rw [run_builtin_append ho, hv, r2]
        have hxl : (List.replicate q (cells (T.z e))).length = q := by simp
        by_cases hx0 : q = 0
        · subst hx0
          have hrun := run_appZ_room (P := P) (w := w) (t := t) (tx := t') (ty := o.type) (k' := kx) hD hDx hie hz hzs' hbig hby none 0 0 (by simp) w (fun a ha => by cases ha) (fun _ => rfl)
          rw [hrun]
          obtain ⟨E, W⟩ := hW.virt hn e (T.s e)
          refine ⟨_, I, E, by rw [naddL_one]; exact W, ?_⟩
          refine .osl nx _ _ (.inr ⟨_, List.mem_singleton.2 rfl⟩) rfl fun l sz' hl' => ?_
          change lens (mupd M' nx _) nx = _ at hl'
          rw [lens_mset, if_pos rfl] at hl'
          simp [Blk.ln] at hl'
          exact ⟨by omega, fun _ => .inl ⟨by simp, none, rfl⟩⟩
        · have hrun := run_appZ_grow (P := P) (w := w) (t := t) (tx := t') (ty := o.type) (k' := kx) (n := q) hD hDx hie hz hzs' hbig hby none 0 0 [] (run_firstCells_none w.drew ie.size 0 0 0) (by omega) (by simp [big] at hbig ⊢; omega) (hfit _ _ (by omega) (by omega))
          rw [hrun]
          have hpost := app_grow (X := X) (n := nx) (e := e) (olds := []) (es0 := []) (old := 0) (z := z) hW (fun h => (hn h).elim) (fun b0 h0 => (hn (hW.blk nx b0 h0).lt).elim) (by rw [hxl]; omega) ⟨by simp, by simp, fun i j hi => by simp at hi⟩ hL hzs (by rw [hxl]; simpa using hbig)
          have e1 : q = ([] : List (List AV)).length + (List.replicate q (cells (T.z e))).length := by rw [hxl]; simp
          have e2 : (⟨e, T.s e, List.replicate q (cells (T.z e)), none⟩ : Blk) = ⟨e, T.s e, [] ++ List.replicate q (cells (T.z e)), none⟩ := by simp
          have e3 : 0 + q = ([] : List (List AV)).length + (List.replicate q (cells (T.z e))).length := by rw [hxl]; rfl
          rw [e2, e3]
          show Post X M' N ρ I w (.osl nx q) _ _ _
          have : AV.osl nx q = .osl nx (([] : List (List AV)).length + (List.replicate q (cells (T.z e))).length) := by rw [← e1]
          rw [this]
          exact hpost
      | _ => rw [hss] at h; exact h.elim
    | _ => rw [ht, hxv] at h; exact h.elim
  | _ => rw [ht] at h; exact h.elim
end Go.AM

namespace Go.AM
open Go.RowKit
variable {P : Program} {T : TT} {X : Ctx} {o : Oper} {F : Frm} {M : MemF}
inductive LkC : LK → Value → Prop
  | i (k : IntKind) (x : Int) : LkC .i (.int k x)
  | b (x : Bool) : LkC .b (.bool x)
  | s (x : List UInt8) : LkC .s (.string ⟨x.toArray⟩)
inductive AllC : List LK → List Value → Prop
  | nil : AllC [] []
  | cons {l ls v vs} (h : LkC l v) (t : AllC ls vs) : AllC (l :: ls) (v :: vs)
theorem AllC.split : ∀ {l1 l2 : List LK} {vs : List Value}, AllC (l1 ++ l2) vs → ∃ v1 v2, vs = v1 ++ v2 ∧ AllC l1 v1 ∧ AllC l2 v2 ∧ v1.length = l1.length
  | [], l2, vs, h => ⟨[], vs, rfl, .nil, h, rfl⟩
  | a :: l1, l2, _, .cons (v := v) h t => by
    obtain ⟨v1, v2, rfl, h1, h2, h3⟩ := t.split (l1 := l1)
    exact ⟨v :: v1, v2, rfl, .cons h h1, h2, by simp [h3]⟩
theorem each_field {d : Nat} : ∀ (fl : List Field) (off : Nat) (ls : List LK) (p vs : List Value), lksF P (lks P d) fl off = some ls → AllC ls vs → p.length = off →
    ∀ f ∈ fl, f.name ≠ "_" ∧ ∃ l mid, lks P d f.type = some l ∧ AllC l mid ∧ ∀ w, (part f.type (p ++ vs).toArray f.offset).run P w = .ok (valOf (isAggT P f.type) mid) w
  | [], _, _, _, _, _, _, _, f, hf => by simp at hf
  | x :: fl, off, ls, p, vs, hl, hv, hp, f, hf => by
    simp only [lksF] at hl
    split at hl
    · rename_i hc
      simp only [Bool.and_eq_true, bne_iff_ne, ne_eq, beq_iff_eq] at hc
      split at hl
      · rename_i l i hl1 hi1
        split at hl
        · rename_i hsz
          have hsz : i.size = l.length := by simpa using hsz
          obtain ⟨l2, hl2, rfl⟩ : ∃ l2, lksF P (lks P d) fl (off + l.length) = some l2 ∧ l ++ l2 = ls := by simpa using hl
          obtain ⟨v1, v2, rfl, h1, h2, h3⟩ := hv.split
          rcases List.mem_cons.1 hf with rfl | hf
          · obtain ⟨D, hD⟩ := lks_u hl1
            refine ⟨hc.1, l, v1, hl1, h1, fun w => ?_⟩
            have p1 := run_part_at (w := w) hD hi1 (pre := p) (mid := v1) (post := v2) (by omega) (fun h => by rw [h3]; exact lks_one hl1 h)
            rwa [hp, ← hc.2] at p1
          · have := each_field fl (off + l.length) l2 (p ++ v1) v2 hl2 h2 (by simp; omega) f hf
            rwa [List.append_assoc] at this
        · simp at hl
      · simp at hl
    · simp at hl
theorem each_item {d e : Nat} {l : List LK} {i : TypeInfo} (hl : lks P d e = some l) (hi : P.info? e = some i) (hsz : i.size = l.length) : ∀ (k j : Nat) (p vs : List Value), AllC (repLK k l) vs → p.length = j * l.length →
    ∀ q ∈ List.range' j k, ∃ mid, AllC l mid ∧ ∀ w, (part e (p ++ vs).toArray (q * i.size)).run P w = .ok (valOf (isAggT P e) mid) w
  | 0, _, _, _, _, _, q, hq => by simp at hq
  | k + 1, j, p, vs, hv, hp, q, hq => by
    have e1 : repLK (k + 1) l = l ++ repLK k l := by simp [repLK, List.replicate_succ]
    rw [e1] at hv
    obtain ⟨v1, v2, rfl, h1, h2, h3⟩ := hv.split
    rw [List.range'_succ] at hq
    rcases List.mem_cons.1 hq with rfl | hq
    · obtain ⟨D, hD⟩ := lks_u hl
      refine ⟨v1, h1, fun w => ?_⟩
      have p1 := run_part_at (w := w) hD hi (pre := p) (mid := v1) (post := v2) (by omega) (fun h => by rw [h3]; exact lks_one hl h)
      rwa [hp, ← hsz] at p1
    · have := each_item hl hi hsz k (j + 1) (p ++ v1) v2 h2 (by rw [List.length_append, hp, h3, Nat.succ_mul]) q hq
      rwa [List.append_assoc] at this
theorem run_checkKey_lks {em : Bool} : ∀ (d : Nat) (m t : Nat) (ls : List LK) (w : World) (vs : List Value), lks P d t = some ls → AllC ls vs →
    (Instr.checkKey em (d + m) t (valOf (isAggT P t) vs)).run P w = .ok () w
  | 0, _, _, _, _, _, h, _ => by simp [lks] at h
  | d + 1, m, t, ls, w, vs, h, hv => by
    have e : d + 1 + m = (d + m) + 1 := by omega
    rw [e]
    have ih := run_checkKey_lks (em := em) d m
    unfold lks at h
    cases hu : P.underlying t with
    | none => rw [hu] at h; simp at h
    | some D =>
      rw [hu] at h
      cases D <;> simp only [reduceCtorEq] at h
      case bool =>
        obtain rfl : [LK.b] = ls := by simpa using h
        have ha : isAggT P t = false := by simp [isAggT, hu]
        rcases hv with _ | ⟨hl, ht⟩
        cases hl; cases ht
        simp [Instr.checkKey, run_underlying hu]
      case int k =>
        obtain rfl : [LK.i] = ls := by simpa using h
        have ha : isAggT P t = false := by simp [isAggT, hu]
        rcases hv with _ | ⟨hl, ht⟩
        cases hl; cases ht
        simp [Instr.checkKey, run_underlying hu]
      case string =>
        obtain rfl : [LK.s] = ls := by simpa using h
        have ha : isAggT P t = false := by simp [isAggT, hu]
        rcases hv with _ | ⟨hl, ht⟩
        cases hl; cases ht
        simp [Instr.checkKey, run_underlying hu]
      case struct fs =>
        have ha : isAggT P t = true := by simp [isAggT, hu]
        cases hst : P.stoodInHeld t with
        | true => simp [hst] at h
        | false =>
          simp only [hst, Bool.false_eq_true, if_false] at h
          have each := each_field (P := P) fs.toList 0 ls [] vs h hv rfl
          simp only [List.nil_append] at each
          rw [ha]
          simp only [valOf, if_pos]
          rw [Instr.checkKey]
          simp only [Sem.run_bind, run_underlying hu, Result.andThen_ok]
          rw [← Array.forIn_toList]
          generalize fs.toList = L at each
          induction L with
          | nil => simp
          | cons f L ihL =>
            obtain ⟨hn, l, mid, h1, h2, h3⟩ := each f (by simp)
            simp only [List.forIn_cons, Sem.run_bind, hn, ne_eq, not_false_eq_true, if_true, h3, ih _ _ _ _ h1 h2, Result.andThen_ok, Sem.run_pure]
            exact ihL (fun y hy => each y (by simp [hy]))
      case array n e =>
        have ha : isAggT P t = true := by simp [isAggT, hu]
        split at h
        · rename_i l i hl1 hi1
          split at h
          · rename_i hsz
            have hsz : i.size = l.length := by simpa using hsz
            obtain rfl : repLK n l = ls := by simpa using h
            have each := each_item hl1 hi1 hsz n 0 [] vs hv (by simp)
            simp only [List.nil_append] at each
            rw [ha]
            simp only [valOf, if_pos]
            rw [Instr.checkKey]
            simp only [Sem.run_bind, run_underlying hu, Result.andThen_ok]
            simp only [Std.Legacy.Range.forIn_eq_forIn_range', Std.Legacy.Range.size, Nat.sub_zero, Nat.add_one_sub_one, Nat.div_one]
            generalize List.range' 0 n = L at each
            induction L with
            | nil => simp
            | cons j L ihL =>
              obtain ⟨mid, h2, h3⟩ := each j (by simp)
              simp only [List.forIn_cons, Sem.run_bind, run_sizeOf' hi1, h3, ih _ _ _ _ hl1 h2, Result.andThen_ok, Sem.run_pure]
              exact ihL (fun y hy => each y (by simp [hy]))
          · simp at h
        · simp at h
def KRel (ag : Bool) (ls : List LK) (kvs : List Value) (kc : List AV) (test : List AV → List AV → Bool) (e : MapEntry) (r : List AV) : Prop :=
  ∃ us rs, e.key = valOf ag us ∧ All4 ls kvs us rs ∧ rs.all id = test kc r
inductive Al2 {α β : Type} (R : α → β → Prop) : List α → List β → Prop
  | nil : Al2 R [] []
  | cons {a b as bs} (h : R a b) (t : Al2 R as bs) : Al2 R (a :: as) (b :: bs)
theorem Al2.of {α β : Type} {R : α → β → Prop} : ∀ {as : List α} {bs : List β}, as.length = bs.length → (∀ (i : Nat) (a : α) (b : β), as[i]? = some a → bs[i]? = some b → R a b) → Al2 R as bs
  | [], [], _, _ => .nil
  | a :: as, b :: bs, hl, h => .cons (h 0 a b rfl rfl) (Al2.of (by simpa using hl) fun i x y hx hy => h (i + 1) x y (by simpa using hx) (by simpa using hy))
  | [], _ :: _, hl, _ => by simp at hl
  | _ :: _, [], hl, _ => by simp at hl
def kvOk : List LK → List AV → List AV → Bool
  | [], [], _ => true
  | .i :: l, .int k _ :: r, .int k' _ :: s => keq k k' && kvOk l r s
  | .b :: l, .bool _ :: r, .bool _ :: s => kvOk l r s
  | .s :: l, .str _ :: r, .str _ :: s => kvOk l r s
  | _, _, _ => false
theorem kvOk_all : ∀ {ls : List LK} {kc r : List AV}, kvOk ls kc r = true → ∃ rs, AllA ls kc (r.take kc.length) rs ∧ rs.all id = kvB kc r
  | [], [], r, _ => ⟨[], by simpa using AllA.nil, by simp [kvB]⟩
  | .i :: l, .int k x :: a, .int k' y :: s, h => by
    simp only [kvOk, Bool.and_eq_true] at h
    obtain rfl := keq_eq h.1
    obtain ⟨rs, h1, h2⟩ := kvOk_all h.2
    exact ⟨_, .cons (.i k x y) h1, by simp [kvB, h2]⟩
  | .b :: l, .bool x :: a, .bool y :: s, h => by
    simp only [kvOk] at h
    obtain ⟨rs, h1, h2⟩ := kvOk_all h
    exact ⟨_, .cons (.b x y) h1, by simp [kvB, h2]⟩
  | .s :: l, .str x :: a, .str y :: s, h => by
    simp only [kvOk] at h
    obtain ⟨rs, h1, h2⟩ := kvOk_all h
    exact ⟨_, .cons (.s x y) h1, by simp [kvB, h2]⟩
def efind (kc : List AV) : List MapEntry → List (List AV) → Nat → Option (Nat × Value)
  | e :: en, r :: es, i => if kvB kc r then some (i, e.val) else efind kc en es (i + 1)
  | _, _, _ => none
theorem efind_spec {kc : List AV} : ∀ {en : List MapEntry} {es : List (List AV)} {i : Nat}, en.length = es.length →
    (mfind kc es = none ∧ efind kc en es i = none) ∨ ∃ j e r, mfind kc es = some (j, r.drop kc.length) ∧ efind kc en es i = some (i + j, e.val) ∧ en[j]? = some e ∧ es[j]? = some r ∧ kvB kc r = true
  | [], [], _, _ => .inl ⟨rfl, rfl⟩
  | e :: en, r :: es, i, hl => by
    simp only [mfind, efind]
    by_cases h : kvB kc r = true
    · rw [if_pos h, if_pos h]
      exact .inr ⟨0, e, r, rfl, rfl, rfl, rfl, h⟩
    · rw [if_neg h, if_neg h]
      rcases efind_spec (kc := kc) (en := en) (es := es) (i := i + 1) (by simpa using hl) with ⟨h1, h2⟩ | ⟨j, e2, r2, h1, h2, h3, h4, h5⟩
      · exact .inl ⟨by rw [h1]; rfl, h2⟩
      · exact .inr ⟨j + 1, e2, r2, by rw [h1]; rfl, by rw [h2]; congr 2; omega, by simpa using h3, by simpa using h4, h5⟩
  | [], _ :: _, _, hl => by simp at hl
  | _ :: _, [], _, hl => by simp at hl
theorem LkV.same {D : TypeDesc} {l : LK} {v u : Value} {r : Bool} (hD : (D = .bool ∧ l = .b) ∨ (∃ k, D = .int k ∧ l = .i) ∨ (D = .string ∧ l = .s)) (h : LkV l v u r) : Instr.sameNow D v u = some r := by
  rcases hD with ⟨rfl, rfl⟩ | ⟨k, rfl, rfl⟩ | ⟨rfl, rfl⟩
  · cases h; simp [Instr.sameNow]
  · cases h; simp [Instr.sameNow]
  · cases h
    rename_i x y
    simp only [Instr.sameNow, Option.some.injEq]
    show (x.toArray == y.toArray) = (x == y)
    simp
theorem run_findNow {D : TypeDesc} {l : LK} {kv : Value} {kc : List AV} (hD : (D = .bool ∧ l = .b) ∨ (∃ k, D = .int k ∧ l = .i) ∨ (D = .string ∧ l = .s)) : ∀ {en : List MapEntry} {es : List (List AV)} {i : Nat}, Al2 (KRel false [l] [kv] kc kvB) en es →
    Instr.findNow D kv en i = some (efind kc en es i)
  | _, _, _, .nil => rfl
  | _, _, i, .cons (a := e) (b := r) h t => by
    obtain ⟨us, rs, hk, h4, ht⟩ := h
    cases h4 with
    | cons hl h0 =>
      rename_i q rs
      cases h0
      simp only [valOf, Bool.false_eq_true, if_false, List.headD_cons] at hk
      have := hl.same hD
      simp only [Instr.findNow, efind, hk, this]
      simp only [List.all_cons, List.all_nil, Bool.and_true, id] at ht
      rw [← ht]
      cases q with
      | true => rfl
      | false => exact run_findNow hD t
theorem run_findAsking_lks {d t : Nat} {ls : List LK} (hd : d ≤ 10000) (hl : lks P d t = some ls) {kvs : List Value} {kc : List AV} (w : World) : ∀ {en : List MapEntry} {es : List (List AV)} {i : Nat}, Al2 (KRel (isAggT P t) ls kvs kc kvB) en es →
    (Instr.findAsking t (valOf (isAggT P t) kvs) en i).run P w = .ok (efind kc en es i) w
  | _, _, _, .nil => by simp [Instr.findAsking, efind]
  | _, _, i, .cons (a := e) (b := r) h tl => by
    obtain ⟨us, rs, hk, h4, ht⟩ := h
    have he := run_equalIn_lks d (10000 - d) t ls w kvs us rs hl h4
    rw [show d + (10000 - d) = 10000 by omega] at he
    have he2 : (Op.equal t (valOf (isAggT P t) kvs) e.key).run P w = .ok (rs.all id) w := by rw [hk]; exact he
    simp only [Instr.findAsking, Sem.run_bind, he2, Result.andThen_ok, efind, ht]
    cases kvB kc r with
    | true => simp
    | false => simpa using run_findAsking_lks hd hl w tl
theorem run_findKey_lks {d t : Nat} {ls : List LK} (hd : d ≤ 10000) (hl : lks P d t = some ls) {kvs : List Value} {kc : List AV} (w : World) (hkl : AllC ls kvs) {en : List MapEntry} {es : List (List AV)} (h : Al2 (KRel (isAggT P t) ls kvs kc kvB) en es) :
    (Instr.findKey t (valOf (isAggT P t) kvs) en).run P w = .ok (efind kc en es 0) w := by
  cases d with
  | zero => simp [lks] at hl
  | succ d =>
    have hl' := hl
    unfold lks at hl
    cases hu : P.underlying t with
    | none => rw [hu] at hl; simp at hl
    | some D =>
      rw [hu] at hl
      have plain : ∀ l, ls = [l] → isAggT P t = false → ((D = .bool ∧ l = .b) ∨ (∃ k, D = .int k ∧ l = .i) ∨ (D = .string ∧ l = .s)) → (Instr.findKey t (valOf (isAggT P t) kvs) en).run P w = .ok (efind kc en es 0) w := by
        intro l hls ha hD
        subst hls
        rcases hkl with _ | ⟨h1, h0⟩
        cases h0
        rw [ha] at h ⊢
        simp only [valOf, Bool.false_eq_true, if_false, List.headD_cons]
        exact MapKept.run_findKey hu (run_findNow hD h)
      cases D <;> simp only [reduceCtorEq] at hl
      case bool => exact plain .b (by simpa using hl.symm) (by simp [isAggT, hu]) (.inl ⟨rfl, rfl⟩)
      case int k => exact plain .i (by simpa using hl.symm) (by simp [isAggT, hu]) (.inr (.inl ⟨k, rfl, rfl⟩))
      case string => exact plain .s (by simpa using hl.symm) (by simp [isAggT, hu]) (.inr (.inr ⟨rfl, rfl⟩))
      case struct fs =>
        rw [run_findKey_eq w (by rw [hu])]
        exact run_findAsking_lks hd hl' w h
      case array n e =>
        rw [run_findKey_eq w (by rw [hu])]
        exact run_findAsking_lks hd hl' w h
theorem All4.eq : ∀ {ls : List LK} {vs us : List Value} {rs : List Bool}, All4 ls vs us rs → rs.all id = true → us = vs
  | _, _, _, _, .nil, _ => rfl
  | _, _, _, _, .cons h t, hr => by
    simp only [List.all_cons, Bool.and_eq_true, id] at hr
    rw [t.eq hr.2]
    congr 1
    cases h <;> simp_all
theorem All4.allC : ∀ {ls : List LK} {vs us : List Value} {rs : List Bool}, All4 ls vs us rs → AllC ls vs
  | _, _, _, _, .nil => .nil
  | _, _, _, _, .cons h t => .cons (by cases h <;> constructor) t.allC
theorem sameBits_leaf {n : Nat} {l : LK} {v : Value} (h : LkC l v) : Instr.sameBits n v v = true := by
  cases h <;> cases n <;> simp [Instr.sameBits, MapKept.bytes_beq]
theorem sameBits_all {n : Nat} : ∀ {ls : List LK} {vs : List Value}, AllC ls vs → (vs.zip vs).all (fun q => Instr.sameBits n q.1 q.2) = true
  | _, _, .nil => rfl
  | _, _, .cons h t => by simp [sameBits_leaf h, sameBits_all t]
theorem run_keyStays {ag : Bool} {ls : List LK} {vs : List Value} (h : AllC ls vs) (hone : ag = false → ls.length = 1) (w : World) : (Instr.keyThatStays (valOf ag vs) (valOf ag vs)).run P w = .ok (valOf ag vs) w := by
  have : Instr.sameBits 10000 (valOf ag vs) (valOf ag vs) = true := by
    cases ag with
    | true =>
      simp only [valOf, if_true]
      have := sameBits_all (n := 9999) h
      simp [Instr.sameBits, this]
    | false =>
      obtain ⟨l, rfl⟩ := List.length_eq_one_iff.1 (hone rfl)
      rcases h with _ | ⟨h1, h0⟩
      cases h0
      exact sameBits_leaf h1
  simp [Instr.keyThatStays, this]
end Go.AM

namespace Go.AM
open Go.RowKit Go.MapKept
variable {P : Program} {T : TT} {X : Ctx} {o : Oper} {F : Frm} {M : MemF}
def AV.isAg : AV → Bool
  | .agg _ => true
  | _ => false
def valA (ag : Bool) (l : List AV) : AV := if ag then .agg l else l.headD .bad
section
variable {ρ ρ' : Place} {L L' : Lens} {I I' : Nat → Prop} {w w' : World} {N N' : Nat → Prop}
theorem oneCell_not {v : Value} (h : v.oneCell' = true) : isAggV v = false ∧ flatV v = [v] := by cases v <;> first | exact ⟨rfl, rfl⟩ | simp [Value.oneCell'] at h
theorem valOf_flat (v : Value) : valOf (isAggV v) (flatV v) = v := by cases v <;> simp [valOf, isAggV, flatV]
theorem solid_flat {a : AV} {v : Value} (h : Rep ρ L I w N a v) (hs : solid a = true) : isAggV v = a.isAg ∧ (flatV v).length = (cells a).length ∧ (∀ u ∈ flatV v, u.oneCell' = true) ∧ ∀ j, j < (cells a).length → Rep ρ L I w N ((cells a).getD j .bad) ((flatV v).getD j default) := by
  have key : isAggV v = a.isAg ∧ flatV v = v.cells.toList := by
    cases h with
    | bad => simp [solid] at hs
    | tup => simp [solid] at hs
    | agg cs vs hl h1 hr => exact ⟨rfl, rfl⟩
    | loc n len i off _ hn h1 h => rw [(oneCell_not h1).1, (oneCell_not h1).2, oneCell_cells h1]; exact ⟨rfl, rfl⟩
    | osl n len _ hn h1 h => rw [(oneCell_not h1).1, (oneCell_not h1).2, oneCell_cells h1]; exact ⟨rfl, rfl⟩
    | vsl n len i off cnt _ hn h1 h => rw [(oneCell_not h1).1, (oneCell_not h1).2, oneCell_cells h1]; exact ⟨rfl, rfl⟩
    | omap n _ hn h1 h => rw [(oneCell_not h1).1, (oneCell_not h1).2, oneCell_cells h1]; exact ⟨rfl, rfl⟩
    | _ => exact ⟨rfl, rfl⟩
  obtain ⟨h1, h2, h3⟩ := cells_rep h hs
  rw [key.2]
  exact ⟨key.1, h1, h2, h3⟩
structure ERep (ρ : Place) (L : Lens) (I : Nat → Prop) (w : World) (N : Nat → Prop) (k : Nat) (ka va : Bool) (sz : Nat) (key val : Value) (r : List AV) : Prop where
  rl : r.length = sz
  kl : (flatV key).length = k
  fl : k + (flatV val).length = sz
  ka : isAggV key = ka
  va : isAggV val = va
  cell : ∀ j, j < sz → ((flatV key ++ flatV val).getD j default).oneCell' = true ∧ Rep ρ L I w N (r.getD j .bad) ((flatV key ++ flatV val).getD j default)
structure MRep (ρ : Place) (L : Lens) (I : Nat → Prop) (w : World) (N : Nat → Prop) (k : Nat) (ka va : Bool) (sz : Nat) (es : List (List AV)) (en : Array MapEntry) : Prop where
  len : en.size = es.length
  row : ∀ (i : Nat) (e : MapEntry) (r : List AV), en[i]? = some e → es[i]? = some r → ERep ρ L I w N k ka va sz e.key e.val r
structure MClk (dn : Bool) (en : Array MapEntry) (ck : Nat) : Prop where
  born : ∀ (i j : Nat) (e f : MapEntry), en[i]? = some e → en[j]? = some f → i < j → e.born < f.born
  clock : ∀ (i : Nat) (e : MapEntry), en[i]? = some e → e.born < ck
  den : dn = true → ck = en.size ∧ ∀ (i : Nat) (e : MapEntry), en[i]? = some e → e.born = i
variable {k sz : Nat} {ka va dn : Bool} {es : List (List AV)} {en : Array MapEntry} {ck : Nat}
def mcells (sz : Nat) (en : Array MapEntry) : Array Value := Array.ofFn fun p : Fin (maxLen * sz) => ((en[p.val / sz]?).map fun e => (flatV e.key ++ flatV e.val).getD (p.val % sz) undef).getD undef
theorem mcells_at (hsz : sz ≠ 0) {i j : Nat} {e : MapEntry} (he : en[i]? = some e) (hi : i < maxLen) (hj : j < sz) : (mcells sz en)[i * sz + j]? = some ((flatV e.key ++ flatV e.val).getD j undef) := by
  have hlt : i * sz + j < maxLen * sz := by
    have : (i + 1) * sz ≤ maxLen * sz := Nat.mul_le_mul_right _ hi
    rw [Nat.add_mul, Nat.one_mul] at this; omega
  have h1 : (i * sz + j) / sz = i := by rw [Nat.add_comm, Nat.add_mul_div_right _ _ (Nat.pos_of_ne_zero hsz), Nat.div_eq_of_lt hj, Nat.zero_add]
  have h2 : (i * sz + j) % sz = j := by rw [Nat.add_comm, Nat.add_mul_mod_self_right, Nat.mod_eq_of_lt hj]
  unfold mcells
  rw [Array.getElem?_eq_getElem (by simpa using hlt), Array.getElem_ofFn]
  simp only [h1, h2, he, Option.map_some, Option.getD_some]
theorem mcells_ok (hsz : sz ≠ 0) (hR : MRep ρ L I w N k ka va sz es en) (hC : MClk dn en ck) (hle : es.length ≤ maxLen) : MapCells k ka va dn sz en ck (mcells sz en) := by
  have row : ∀ (i : Nat) (e : MapEntry), en[i]? = some e → i < maxLen ∧ ∃ r, ERep ρ L I w N k ka va sz e.key e.val r := fun i e he => by
    have hlt := (Array.getElem?_eq_some_iff.1 he).1
    have hlt' : i < es.length := by rw [← hR.len]; exact hlt
    exact ⟨by omega, es[i], hR.row i e _ he (List.getElem?_eq_getElem hlt')⟩
  refine ⟨fun i e he => ?_, fun i e j u he hu => ?_, hC.born, hC.clock, hC.den, by simp [mcells], hsz⟩
  · obtain ⟨_, r, h⟩ := row i e he
    exact ⟨h.kl, by rw [List.length_append, h.kl]; exact h.fl, h.ka, h.va⟩
  · obtain ⟨hi, r, h⟩ := row i e he
    have hj : j < sz := by
      have := (List.getElem?_eq_some_iff.1 hu).1
      rw [List.length_append, h.kl, h.fl] at this; exact this
    rw [mcells_at hsz he hi hj, List.getD_eq_getElem?_getD, hu]; rfl
theorem mcells_rep (hsz : sz ≠ 0) (hR : MRep ρ L I w N k ka va sz es en) (hle : es.length ≤ maxLen) : ∀ i j, i < es.length → j < sz → ∃ u, (mcells sz en)[i * sz + j]? = some u ∧ u.oneCell' = true ∧ Rep ρ L I w N ((es.getD i []).getD j .bad) u := by
  intro i j hi hj
  have hi' : i < en.size := by rw [hR.len]; exact hi
  have h := hR.row i en[i] es[i] (Array.getElem?_eq_getElem hi') (List.getElem?_eq_getElem hi)
  obtain ⟨h1, h2⟩ := h.cell j hj
  have hlt : j < (flatV en[i].key ++ flatV en[i].val).length := by rw [List.length_append, h.kl, h.fl]; exact hj
  refine ⟨_, mcells_at hsz (Array.getElem?_eq_getElem hi') (by omega) hj, ?_, ?_⟩
  · rw [List.getD_eq_getElem?_getD, List.getElem?_eq_getElem hlt] at h1 ⊢; exact h1
  · rw [List.getD_eq_getElem?_getD (l := es), List.getElem?_eq_getElem hi, Option.getD_some]
    rw [List.getD_eq_getElem?_getD (l := flatV en[i].key ++ flatV en[i].val), List.getElem?_eq_getElem hlt] at h2 ⊢; exact h2
theorem map_open {n g cap : Nat} {b : Blk} (hW : Wok X ρ I M N w) (hMn : M n = some b) (hmp : b.mp = some (k, ka, va, dn)) (hρ : ρ n = some (g, cap)) :
    ∃ en ck, w.heap[g]? = some (.map en ck) ∧ MRep ρ (lens M) I w N k ka va b.sz b.es en ∧ MClk dn en ck ∧ b.sz ≠ 0 ∧ cap = maxLen ∧ b.es.length ≤ maxLen := by
  have B := hW.blk n b hMn
  obtain ⟨cs, fr, hg, hfr, hnI, hown, hlc, hcm, hcs, hc⟩ := B.real g cap hρ
  rw [hmp] at hg
  obtain ⟨en, ck, h1, h2, h3⟩ := hg
  have hcap : cap = maxLen := by
    have := h3.room.1
    rw [hcs] at this
    exact Nat.eq_of_mul_eq_mul_right (Nat.pos_of_ne_zero h3.room.2) this
  refine ⟨en, ck, h1, ⟨h2, fun i e r he hr => ?_⟩, ⟨h3.born, h3.clock, h3.den⟩, h3.room.2, hcap, by omega⟩
  obtain ⟨k1, k2, k3, k4⟩ := h3.key i e he
  have hi : i < b.es.length := (List.getElem?_eq_some_iff.1 hr).1
  refine ⟨B.even r (List.mem_of_getElem? hr), k1, by rw [List.length_append, k1] at k2; exact k2, k3, k4, fun j hj => ?_⟩
  obtain ⟨u, hu1, hu2, hu3⟩ := hc i j hi hj
  have hlt : j < (flatV e.key ++ flatV e.val).length := by rw [k2]; exact hj
  have hu4 := h3.cell i e j _ he (List.getElem?_eq_getElem hlt)
  rw [hu1] at hu4
  have e1 : (flatV e.key ++ flatV e.val).getD j default = u := by
    rw [List.getD_eq_getElem?_getD, List.getElem?_eq_getElem hlt]; exact (Option.some.inj hu4).symm
  have e2 : b.es.getD i [] = r := by rw [List.getD_eq_getElem?_getD, hr]; rfl
  rw [e1, ← e2]
  exact ⟨hu2, hu3⟩
theorem map_put {n g cap : Nat} {b : Blk} {v : Value} {av : AV} (hW : Wok X ρ I M N w) (hMn : M n = some b) (hmp : b.mp = some (k, ka, va, dn)) (hρ : ρ n = some (g, cap)) {en' : Array MapEntry} {ck' : Nat} {es' : List (List AV)} {dn' : Bool}
    (hR : MRep ρ (lens M) I w N k ka va b.sz es' en') (hC : MClk dn' en' ck') (hle : es'.length ≤ maxLen) (hr : Rep ρ (lens M) I w N av v) :
    Post X M N ρ I w av [(n, ⟨b.ty, b.sz, es', some (k, ka, va, dn')⟩)] v { w with heap := w.heap.setIfInBounds g (.map en' ck') } := by
  have B := hW.blk n b hMn
  obtain ⟨en, ck, hg, _, _, hsz, rfl, _⟩ := map_open hW hMn hmp hρ
  have hdead : ∀ b0, M n = some b0 → b0 = b := fun b0 h0 => by rw [hMn] at h0; exact (Option.some.inj h0).symm
  obtain ⟨h1, h2⟩ := heap_set (o' := .map en' ck') hg
  obtain ⟨E, W⟩ := hW.put (w' := { w with heap := w.heap.setIfInBounds g (.map en' ck') }) n ⟨b.ty, b.sz, es', some (k, ka, va, dn')⟩ g maxLen (mcells b.sz en') (0, 0) rfl rfl rfl (by simp) (fun q _ hq => h2 q hq)
    ⟨en', ck', h1, hR.len, mcells_ok hsz hR hC hle⟩ (fun o _ h => by omega) (.inr ⟨maxLen, hρ, b, hMn⟩) (fun b0 h0 => by rw [hdead b0 h0]; refine ⟨rfl, by simp [Blk.ln, hmp], fun _ => hρ⟩) (fun _ => ⟨b, hMn⟩)
    (fun e he => by
      obtain ⟨i, hi, rfl⟩ := List.getElem_of_mem he
      have hi' : i < en'.size := by rw [hR.len]; exact hi
      exact (hR.row i en'[i] es'[i] (Array.getElem?_eq_getElem hi') (List.getElem?_eq_getElem hi)).rl)
    hle (Nat.le_refl _) (by simp [mcells]) (mcells_rep hsz hR hle)
  refine ⟨_, _, E, by rw [naddL_one]; exact W, ?_⟩
  rw [naddL_one]
  exact (hr.evo E (fun _ h => h)).wide (fun _ h => .inr h)
theorem MClk.push {key val : Value} (h : MClk dn en ck) : MClk dn (en.push ⟨key, val, ck⟩) (ck + 1) := by
  have at1 : ∀ (i : Nat) (e : MapEntry), (en.push ⟨key, val, ck⟩)[i]? = some e → (i < en.size ∧ en[i]? = some e) ∨ (i = en.size ∧ e.born = ck) := fun i e he => by
    rw [Array.getElem?_push] at he
    split at he
    · rename_i hi; exact .inr ⟨hi, by simp at he; rw [← he]⟩
    · exact .inl ⟨(Array.getElem?_eq_some_iff.1 he).1, he⟩
  refine ⟨fun i j e f he hf hij => ?_, fun i e he => ?_, fun hd => ?_⟩
  · rcases at1 i e he with ⟨h1, h2⟩ | ⟨h1, h2⟩ <;> rcases at1 j f hf with ⟨h3, h4⟩ | ⟨h3, h4⟩
    · exact h.born i j e f h2 h4 hij
    · have := h.clock i e h2; omega
    · omega
    · omega
  · rcases at1 i e he with ⟨h1, h2⟩ | ⟨h1, h2⟩
    · have := h.clock i e h2; omega
    · omega
  · obtain ⟨h1, h2⟩ := h.den hd
    refine ⟨by simp [h1], fun i e he => ?_⟩
    rcases at1 i e he with ⟨_, h4⟩ | ⟨h3, h4⟩
    · exact h2 i e h4
    · omega
theorem MClk.modify {f : MapEntry → MapEntry} (hf : ∀ e, (f e).born = e.born) (i : Nat) (h : MClk dn en ck) : MClk dn (en.modify i f) ck := by
  have at1 : ∀ (j : Nat) (e : MapEntry), (en.modify i f)[j]? = some e → ∃ e0, en[j]? = some e0 ∧ e.born = e0.born := fun j e he => by
    rw [Array.getElem?_modify] at he
    split at he
    · obtain ⟨e0, h1, rfl⟩ := Option.map_eq_some_iff.1 he
      exact ⟨e0, h1, hf e0⟩
    · exact ⟨e, he, rfl⟩
  refine ⟨fun a b e g he hg hab => ?_, fun a e he => ?_, fun hd => ?_⟩
  · obtain ⟨e0, h1, h2⟩ := at1 a e he
    obtain ⟨g0, h3, h4⟩ := at1 b g hg
    have := h.born a b e0 g0 h1 h3 hab; omega
  · obtain ⟨e0, h1, h2⟩ := at1 a e he
    have := h.clock a e0 h1; omega
  · obtain ⟨h1, h2⟩ := h.den hd
    refine ⟨by simp [h1], fun a e he => ?_⟩
    obtain ⟨e0, h3, h4⟩ := at1 a e he
    have := h2 a e0 h3; omega
theorem MRep.push {key val : Value} {r : List AV} (h : MRep ρ L I w N k ka va sz es en) (he : ERep ρ L I w N k ka va sz key val r) (c : Nat) : MRep ρ L I w N k ka va sz (es ++ [r]) (en.push ⟨key, val, c⟩) := by
  refine ⟨by simp [h.len], fun i e q h1 h2 => ?_⟩
  rw [Array.getElem?_push] at h1
  split at h1
  · rename_i hi
    have hl := h.len
    have : q = r := by rw [List.getElem?_append_right (by omega)] at h2; simp [hi, h.len] at h2; exact h2.symm
    simp at h1
    rw [this, ← h1]; exact he
  · rename_i hi
    have hlt := (Array.getElem?_eq_some_iff.1 h1).1
    rw [List.getElem?_append_left (by rw [← h.len]; exact hlt)] at h2
    exact h.row i e q h1 h2
theorem MRep.set {f : MapEntry → MapEntry} {i : Nat} {r : List AV} (h : MRep ρ L I w N k ka va sz es en) (he : ∀ e, en[i]? = some e → ERep ρ L I w N k ka va sz (f e).key (f e).val r) : MRep ρ L I w N k ka va sz (es.set i r) (en.modify i f) := by
  refine ⟨by simp [h.len], fun j e q h1 h2 => ?_⟩
  rw [Array.getElem?_modify] at h1
  split at h1
  · rename_i hij
    subst hij
    obtain ⟨e0, h3, rfl⟩ := Option.map_eq_some_iff.1 h1
    have hlt := (Array.getElem?_eq_some_iff.1 h3).1
    rw [List.getElem?_set_self (by rw [← h.len]; exact hlt)] at h2
    cases h2
    exact he e0 h3
  · rename_i hij
    rw [List.getElem?_set_ne hij] at h2
    exact h.row j e q h1 h2
theorem ERep.mk' {a b : AV} {key val : Value} (h1 : Rep ρ L I w N a key) (s1 : solid a = true) (h2 : Rep ρ L I w N b val) (s2 : solid b = true) (hk : (cells a).length = k) (hf : k + (cells b).length = sz) (hka : a.isAg = ka) (hva : b.isAg = va) :
    ERep ρ L I w N k ka va sz key val (cells a ++ cells b) := by
  obtain ⟨p1, p2, p3, p4⟩ := solid_flat h1 s1
  obtain ⟨q1, q2, q3, q4⟩ := solid_flat h2 s2
  refine ⟨by rw [List.length_append]; omega, by omega, by omega, p1.trans hka, q1.trans hva, fun j hj => ?_⟩
  by_cases hjk : j < k
  · have e1 : (flatV key ++ flatV val).getD j default = (flatV key).getD j default := by rw [List.getD_eq_getElem?_getD, List.getElem?_append_left (by omega), List.getD_eq_getElem?_getD]
    have e2 : (cells a ++ cells b).getD j .bad = (cells a).getD j .bad := by rw [List.getD_eq_getElem?_getD, List.getElem?_append_left (by omega), List.getD_eq_getElem?_getD]
    rw [e1, e2]
    refine ⟨?_, p4 j (by omega)⟩
    rw [List.getD_eq_getElem?_getD, List.getElem?_eq_getElem (by omega)]
    exact p3 _ (List.getElem_mem _)
  · have e1 : (flatV key ++ flatV val).getD j default = (flatV val).getD (j - k) default := by rw [List.getD_eq_getElem?_getD, List.getElem?_append_right (by omega), List.getD_eq_getElem?_getD, p2, hk]
    have e2 : (cells a ++ cells b).getD j .bad = (cells b).getD (j - k) .bad := by rw [List.getD_eq_getElem?_getD, List.getElem?_append_right (by omega), List.getD_eq_getElem?_getD, hk]
    rw [e1, e2]
    refine ⟨?_, q4 (j - k) (by omega)⟩
    rw [List.getD_eq_getElem?_getD, List.getElem?_eq_getElem (by omega)]
    exact q3 _ (List.getElem_mem _)
theorem ERep.val {key val : Value} {r : List AV} (h : ERep ρ L I w N k ka va sz key val r) (hv : va = false → k < sz) : Rep ρ L I w N (valA va (r.drop k)) val := by
  have hc : ∀ j, j < (flatV val).length → ((flatV val).getD j default).oneCell' = true ∧ Rep ρ L I w N ((r.drop k).getD j .bad) ((flatV val).getD j default) := fun j hj => by
    have := h.cell (k + j) (by have := h.fl; omega)
    have e1 : (flatV key ++ flatV val).getD (k + j) default = (flatV val).getD j default := by
      rw [List.getD_eq_getElem?_getD, List.getElem?_append_right (by rw [h.kl]; omega), List.getD_eq_getElem?_getD, h.kl]
      congr 2; omega
    have e2 : (r.drop k).getD j .bad = r.getD (k + j) .bad := by simp [List.getD_eq_getElem?_getD, List.getElem?_drop]
    rw [e1] at this
    rw [e2]; exact this
  have hva := h.va
  have hfl := h.fl
  have hrl := h.rl
  cases va with
  | true =>
    cases val <;> simp only [isAggV, Bool.false_eq_true] at hva
    rename_i cs
    simp only [flatV] at hc hfl
    have := Rep.agg (ρ := ρ) (L := L) (I := I) (w := w) (N := N) (r.drop k) cs.toList (by rw [List.length_drop, hrl]; omega) (fun u hu => by
      obtain ⟨j, hj, rfl⟩ := List.getElem_of_mem hu
      have := (hc j hj).1
      rwa [List.getD_eq_getElem?_getD, List.getElem?_eq_getElem hj, Option.getD_some] at this) (fun j hj => (hc j (by rw [List.length_drop, hrl] at hj; omega)).2)
    simpa [valA] using this
  | false =>
    have hf : flatV val = [val] := by cases val <;> first | rfl | simp [isAggV] at hva
    have := (hc 0 (by rw [hf]; simp)).2
    rw [hf] at this
    have e : (r.drop k).headD .bad = (r.drop k).getD 0 .bad := by cases r.drop k <;> rfl
    simp only [valA, Bool.false_eq_true, if_false, e]
    simpa using this
theorem key_rel {t d : Nat} {ls : List LK} {a : AV} {kv : Value} (hl : lks P d t = some ls) (hag : isAggT P t = ka) (h : Rep ρ L I w N a kv) (hs : solid a = true) (hk : (cells a).length = k) (hR : MRep ρ L I w N k ka va sz es en) (hok : ∀ r ∈ es, kvOk ls (cells a) r = true) :
    Al2 (KRel (isAggT P t) ls (flatV kv) (cells a) kvB) en.toList es := by
  obtain ⟨p1, p2, p3, p4⟩ := solid_flat h hs
  refine Al2.of (by simpa using hR.len) fun i e r he hr => ?_
  have hE := hR.row i e r (by simpa using he) hr
  obtain ⟨rs, h1, h2⟩ := kvOk_all (hok r (List.mem_of_getElem? hr))
  refine ⟨flatV e.key, rs, by rw [hag, ← hE.ka]; exact (valOf_flat _).symm, ?_, h2⟩
  have hle : k ≤ r.length := by have := hE.rl; have := hE.fl; omega
  refine h1.val p2 (by rw [List.length_take, hE.kl]; omega) p4 fun j hj => ?_
  have hj' : j < k := by rw [List.length_take] at hj; omega
  have := (hE.cell j (by have := hE.fl; omega)).2
  have e1 : (flatV e.key ++ flatV e.val).getD j default = (flatV e.key).getD j default := by rw [List.getD_eq_getElem?_getD, List.getElem?_append_left (by rw [hE.kl]; exact hj'), List.getD_eq_getElem?_getD]
  have e2 : (r.take (cells a).length).getD j .bad = r.getD j .bad := by simp only [List.getD_eq_getElem?_getD, List.getElem?_take]; rw [if_pos (by omega)]
  rw [e1] at this
  rw [e2]; exact this
end
theorem key_allC {ls : List LK} {a : AV} {ρ : Place} {L : Lens} {I : Nat → Prop} {w : World} {N : Nat → Prop} {kv : Value} (h : Rep ρ L I w N a kv) (hs : solid a = true) (hok : kvOk ls (cells a) (cells a) = true) : AllC ls (flatV kv) := by
  obtain ⟨p1, p2, p3, p4⟩ := solid_flat h hs
  obtain ⟨rs, h1, _⟩ := kvOk_all hok
  rw [List.take_length] at h1
  exact (h1.val p2 p2 p4 p4).allC
end Go.AM

namespace Go.AM
open Go.RowKit Go.MapKept
variable {P : Program} {T : TT} {X : Ctx} {o : Oper} {F : Frm} {M : MemF}
theorem fits_map {d : TD} {D : TypeDesc} {k e : Nat} (hd : d = .map k e) (h : d.fits D) : D = .map k e := by
  subst hd; cases D <;> simp_all [TD.fits]
theorem rep_omap {ρ : Place} {L : Lens} {I : Nat → Prop} {w : World} {N : Nat → Prop} {n sz : Nat} {v : Value} (h : Rep ρ L I w N (.omap n) v) (hl : L n = some (0, sz)) : N n ∧ ∃ g cap, ρ n = some (g, cap) ∧ v = .map (some g) := by
  cases h with
  | omap _ _ hn h1 h => exact ⟨hn, h sz hl⟩
theorem rep_omap_mk {ρ : Place} {L : Lens} {I : Nat → Prop} {w : World} {N : Nat → Prop} {n g cap : Nat} (hn : N n) (hρ : ρ n = some (g, cap)) : Rep ρ L I w N (.omap n) (.map (some g)) :=
  .omap n _ hn rfl fun _ _ => ⟨g, cap, hρ, rfl⟩
theorem does_makeMap {n t : Nat} {k : Nat} {ka va : Bool} {sz : Nat} (hsz : sz ≠ 0) (ho : o.op = .makeMap t none) : Does P X o F M (.omap n) [(n, ⟨0, sz, [], some (k, ka, va, true)⟩)] [n] := by
  refine ⟨fun p hp => .inl (by simp at hp; simp [hp]), fun M' N ρ I ac w hW hU hN hF => ?_⟩
  have hn : ¬ N n := hF n (by simp)
  have hd : ∀ b0, M' n = some b0 → False := fun b0 h0 => hn (hW.blk n b0 h0).lt
  have hR : MRep ρ (lens M') I w N k ka va sz [] #[] := ⟨rfl, fun i e r h _ => by simp at h⟩
  have hC : MClk true #[] 0 := ⟨fun i j e f h => by simp at h, fun i e h => by simp at h, fun _ => ⟨rfl, fun i e h => by simp at h⟩⟩
  obtain ⟨E, W⟩ := hW.put (w' := w.alloc (.map #[] 0)) n ⟨0, sz, [], some (k, ka, va, true)⟩ w.heap.size maxLen (mcells sz #[]) (0, 0) rfl rfl rfl (by simp) (fun k hk _ => Below.heap_alloc w _ k hk)
    ⟨#[], 0, heap_alloc_new w _, rfl, mcells_ok hsz hR hC (by simp)⟩ (fun o _ h => by omega)
    (.inl (Nat.le_refl _)) (fun b0 h0 => (hd b0 h0).elim) (fun h => (hn h).elim) (fun e he => by simp at he) (by simp) (Nat.le_refl _) (by simp [mcells]) (mcells_rep hsz hR (by simp))
  unfold Yield
  have hrun : (execOp ac.eval o).run P w = .ok (.value (.map (some w.heap.size))) (w.alloc (.map #[] 0)) := by
    simp [execOp, ho, run_makeMap]
  rw [hrun]
  refine ⟨_, I, E, by rw [naddL_one]; exact W, ?_⟩
  rw [naddL_one]
  exact rep_omap_mk (cap := maxLen) (.inl rfl) (by simp [pset])
section
variable {t kt et n d k : Nat} {ka va dn : Bool} {b : Blk} {ls : List LK} {x key : Operand}
theorem run_lookup_map {w : World} {g : Nat} {en : Array MapEntry} {ck : Nat} {kv z : Value} {i : TypeInfo} {ok : Bool} {r : Option (Nat × Value)} (hu : P.underlying t = some (.map kt et)) (hg : w.heap[g]? = some (.map en ck))
    (hc : ∀ em, (Instr.checkKey em 10000 kt kv).run P w = .ok () w) (hf : (Instr.findKey kt kv en.toList).run P w = .ok r w) (hi : P.info? et = some i) (hz : i.zero = some z) :
    (Instr.lookup t (.map (some g)) kv ok).run P w = .ok (if ok then .tuple #[(r.map (·.2)).getD z, .bool r.isSome] else (r.map (·.2)).getD z) w := by
  cases r with
  | none => simp [Instr.lookup, run_underlying hu, MapKept.run_getObj_map hg, hc, hf, run_zeroValue' hi hz]
  | some q => simp [Instr.lookup, run_underlying hu, MapKept.run_getObj_map hg, hc, hf]
def lres (ok : Bool) (v : AV) (is : Bool) : AV := if ok then .tup [v, .bool is] else v
def lval (va : Bool) (z : AV) (q : Option (Nat × List AV)) : AV := match q with
  | some q => valA va q.2
  | none => z
theorem does_lookup (hT : TTok P T) {ok : Bool} (ho : o.op = .lookup t x key ok) (ht : T.d t = .map kt et) (hokt : (T.d et).ok = true) (hx : ev F x = .omap n) (hb : M n = some b) (hmp : b.mp = some (k, ka, va, dn))
    (hd : d ≤ 10000) (hl : lks P d kt = some ls) (hag : isAggT P kt = ka) (hs : solid (ev F key) = true) (hka : (ev F key).isAg = ka) (hk : (cells (ev F key)).length = k) (hkk : kvOk ls (cells (ev F key)) (cells (ev F key)) = true)
    (hok : ∀ r ∈ b.es, kvOk ls (cells (ev F key)) r = true) (hv : va = false → k < b.sz) :
    Does P X o F M (lres ok (lval va (T.z et) (mfind (cells (ev F key)) b.es)) (mfind (cells (ev F key)) b.es).isSome) [] [] := by
  have hxo : x ∈ o.op.operands.toList := by simp [ho, Op.operands]
  have hko : key ∈ o.op.operands.toList := by simp [ho, Op.operands]
  obtain ⟨D, it, z, hD, hf, _⟩ := hT t (by rw [ht]; simp)
  have hD' := fits_map ht hf
  subst hD'
  obtain ⟨De, ie, ze, hDe, hfe, hie, hes, _, hze, hzz⟩ := hT et (TD.ok_ne hokt)
  refine does_value fun M' N ρ I a w hW hU hN => ?_
  have r1 := rep_op hU x hxo
  have r2 := rep_op hU key hko
  rw [hx] at r1
  obtain ⟨sl, hsl, hns⟩ := names_op (F := F) x hxo (n := n) (by rw [hx]; simp [AV.names])
  have hMn : M' n = some b := (hN sl hsl n hns).trans hb
  have hal : lens M' n = some (0, b.sz) := by rw [lens_some]; exact ⟨b, hMn, by simp [Blk.ln, hmp], rfl⟩
  obtain ⟨hn, g, cap, hρ, hvx⟩ := rep_omap r1 hal
  obtain ⟨en, ck, hg, hR, hC, hsz, _, _⟩ := map_open hW hMn hmp hρ
  have hkv : valOf (isAggT P kt) (flatV (a.eval key)) = a.eval key := by
    rw [hag, ← hka, ← (solid_flat r2 hs).1]; exact valOf_flat _
  have hAC := key_allC r2 hs hkk
  have hfind := run_findKey_lks hd hl w hAC (key_rel hl hag r2 hs hk hR hok)
  have hchk : ∀ em, (Instr.checkKey em 10000 kt (a.eval key)).run P w = .ok () w := fun em => by
    have := run_checkKey_lks (em := em) d (10000 - d) kt ls w _ hl hAC
    rw [show d + (10000 - d) = 10000 by omega, hkv] at this; exact this
  rw [hkv] at hfind
  refine ⟨if ok then .tuple #[((efind (cells (ev F key)) en.toList b.es 0).map (·.2)).getD ze, .bool (efind (cells (ev F key)) en.toList b.es 0).isSome] else ((efind (cells (ev F key)) en.toList b.es 0).map (·.2)).getD ze, ?_, ?_⟩
  · simp only [execOp, ho, hvx, Sem.run_bind, run_lookup_map hD hg hchk hfind hie hze, Result.andThen_ok, Sem.run_pure]
  · rcases efind_spec (kc := cells (ev F key)) (en := en.toList) (es := b.es) (i := 0) (by simpa using hR.len) with ⟨h1, h2⟩ | ⟨j, e, r, h1, h2, h3, h4, h5⟩
    · rw [h1, h2]
      have hz : Rep ρ (lens M') I w N (T.z et) ze := by rw [hzz]; exact rep_ofV _ _ _ _ _ _
      cases ok with
      | false => simpa [lres, lval] using hz
      | true =>
        simp only [lres, lval, if_true, Option.map_none, Option.getD_none, Option.isSome_none]
        exact .tup [T.z et, .bool false] [ze, .bool false] rfl fun j hj => by
          match j, hj with
          | 0, _ => simpa using hz
          | 1, _ => exact .bool _
    · rw [h1, h2]
      have hE := hR.row j e r (by simpa using h3) h4
      have hval : Rep ρ (lens M') I w N (valA va (r.drop (cells (ev F key)).length)) e.val := by rw [hk]; exact hE.val hv
      cases ok with
      | false => simpa [lres, lval] using hval
      | true =>
        simp only [lres, lval, if_true, Option.map_some, Option.getD_some, Option.isSome_some]
        exact .tup [_, .bool true] [e.val, .bool true] rfl fun j hj => by
          match j, hj with
          | 0, _ => simpa using hval
          | 1, _ => exact .bool _
def mput (kc vs : List AV) (es : List (List AV)) : List (List AV) := match mfind kc es with
  | some q => es.set q.1 (kc ++ vs)
  | none => es ++ [kc ++ vs]
theorem kvB_key {ls : List LK} {kc r : List AV} (h1 : kvOk ls kc r = true) (h2 : kvB kc r = true) : ∃ rs, AllA ls kc (r.take kc.length) rs ∧ rs.all id = true := by
  obtain ⟨rs, h3, h4⟩ := kvOk_all h1
  exact ⟨rs, h3, by rw [h4]; exact h2⟩
theorem key_same {ρ : Place} {L : Lens} {I : Nat → Prop} {w : World} {N : Nat → Prop} {a : AV} {kv : Value} {e : MapEntry} {r : List AV} {sz : Nat} (h : Rep ρ L I w N a kv) (hs : solid a = true) (hka : a.isAg = ka) (hk : (cells a).length = k)
    (hE : ERep ρ L I w N k ka va sz e.key e.val r) (hok : kvOk ls (cells a) r = true) (hB : kvB (cells a) r = true) : e.key = kv := by
  obtain ⟨p1, p2, p3, p4⟩ := solid_flat h hs
  obtain ⟨rs, h1, h2⟩ := kvB_key hok hB
  have hle : k ≤ r.length := by have := hE.rl; have := hE.fl; omega
  have h4 := h1.val p2 (us := flatV e.key) (by rw [List.length_take, hE.kl]; omega) p4 fun j hj => by
    have hj' : j < k := by rw [List.length_take] at hj; omega
    have := (hE.cell j (by have := hE.fl; omega)).2
    have e1 : (flatV e.key ++ flatV e.val).getD j default = (flatV e.key).getD j default := by rw [List.getD_eq_getElem?_getD, List.getElem?_append_left (by rw [hE.kl]; exact hj'), List.getD_eq_getElem?_getD]
    have e2 : (r.take (cells a).length).getD j .bad = r.getD j .bad := by simp only [List.getD_eq_getElem?_getD, List.getElem?_take]; rw [if_pos (by omega)]
    rw [e1] at this
    rw [e2]; exact this
  have := h4.eq h2
  rw [← valOf_flat e.key, hE.ka, this, ← hka, ← p1, valOf_flat]
theorem does_mapUpdate (hT : TTok P T) {val : Operand} (ho : o.op = .mapUpdate t x key val ∨ o.op = .insert t x key val) (ht : T.d t = .map kt et) (hx : ev F x = .omap n) (hb : M n = some b) (hmp : b.mp = some (k, ka, va, dn))
    (hd : d ≤ 10000) (hl : lks P d kt = some ls) (hag : isAggT P kt = ka) (hs : solid (ev F key) = true) (hka : (ev F key).isAg = ka) (hk : (cells (ev F key)).length = k) (hkk : kvOk ls (cells (ev F key)) (cells (ev F key)) = true)
    (hok : ∀ r ∈ b.es, kvOk ls (cells (ev F key)) r = true) (hsv : solid (ev F val) = true) (hva : (ev F val).isAg = va) (hvl : k + (cells (ev F val)).length = b.sz) (hle : b.es.length + 1 ≤ big) :
    Does P X o F M (.tup []) [(n, ⟨b.ty, b.sz, mput (cells (ev F key)) (cells (ev F val)) b.es, some (k, ka, va, dn)⟩)] [] ∧ n ∈ (ev F x).names := by
  have hxo : x ∈ o.op.operands.toList := by rcases ho with ho | ho <;> simp [ho, Op.operands]
  have hko : key ∈ o.op.operands.toList := by rcases ho with ho | ho <;> simp [ho, Op.operands]
  have hvo : val ∈ o.op.operands.toList := by rcases ho with ho | ho <;> simp [ho, Op.operands]
  obtain ⟨D, it, z, hD, hf, _⟩ := hT t (by rw [ht]; simp)
  have hD' := fits_map ht hf
  subst hD'
  obtain ⟨sl, hsl, hns⟩ := names_op (F := F) x hxo (n := n) (by rw [hx]; simp [AV.names])
  refine ⟨⟨fun p hp => .inr ⟨sl, hsl, by simp at hp; rw [hp]; exact hns⟩, fun M' N ρ I a w hW hU hN _ => ?_⟩, by rw [hx]; simp [AV.names]⟩
  have r1 := rep_op hU x hxo
  have r2 := rep_op hU key hko
  have r3 := rep_op hU val hvo
  rw [hx] at r1
  have hMn : M' n = some b := (hN sl hsl n hns).trans hb
  have hal : lens M' n = some (0, b.sz) := by rw [lens_some]; exact ⟨b, hMn, by simp [Blk.ln, hmp], rfl⟩
  obtain ⟨hn, g, cap, hρ, hvx⟩ := rep_omap r1 hal
  obtain ⟨en, ck, hg, hR, hC, hsz, _, _⟩ := map_open hW hMn hmp hρ
  have hkv : valOf (isAggT P kt) (flatV (a.eval key)) = a.eval key := by
    rw [hag, ← hka, ← (solid_flat r2 hs).1]; exact valOf_flat _
  have hAC := key_allC r2 hs hkk
  have hfind := run_findKey_lks hd hl w hAC (key_rel hl hag r2 hs hk hR hok)
  have hchk : ∀ em, (Instr.checkKey em 10000 kt (a.eval key)).run P w = .ok () w := fun em => by
    have := run_checkKey_lks (em := em) d (10000 - d) kt ls w _ hl hAC
    rw [show d + (10000 - d) = 10000 by omega, hkv] at this; exact this
  have hst : (Instr.keyThatStays (a.eval key) (a.eval key)).run P w = .ok (a.eval key) w := by
    have := run_keyStays (P := P) (ag := isAggT P kt) hAC (fun h => lks_one hl h) w
    rwa [hkv] at this
  rw [hkv] at hfind
  have hexec : ∀ w', (Instr.mapUpdate t (.map (some g)) (a.eval key) (a.eval val)).run P w = .ok () w' → (execOp a.eval o).run P w = .ok .skip w' := fun w' h => by
    rcases ho with ho | ho <;> simp [execOp, ho, hvx, h]
  have hmk := ERep.mk' r2 hs r3 hsv hk hvl hka hva
  unfold Yield mput
  rcases efind_spec (kc := cells (ev F key)) (en := en.toList) (es := b.es) (i := 0) (by simpa using hR.len) with ⟨h1, h2⟩ | ⟨j, e, r, h1, h2, h3, h4, h5⟩
  · rw [h2] at hfind
    rw [h1, hexec { w with heap := w.heap.setIfInBounds g (.map (en.push ⟨a.eval key, a.eval val, ck⟩) (ck + 1)) } (by
      simp [Instr.mapUpdate, run_underlying hD, MapKept.run_getObj_map hg, hchk, hfind, MapKept.run_setObj_map _ hg])]
    exact map_put hW hMn hmp hρ (hR.push hmk ck) hC.push (by simp only [List.length_append, List.length_singleton]; simp only [big] at hle; simp only [maxLen]; omega) (.tup [] [] rfl (fun j hj => by simp at hj))
  · rw [h2, Nat.zero_add] at hfind
    have h3' : en[j]? = some e := by simpa using h3
    have hE := hR.row j e r h3' h4
    have hkey := key_same r2 hs hka hk hE (hok r (List.mem_of_getElem? h4)) h5
    rw [h1, hexec { w with heap := w.heap.setIfInBounds g (.map (en.modify j fun e => { e with key := a.eval key, val := a.eval val }) ck) } (by
      simp [Instr.mapUpdate, run_underlying hD, MapKept.run_getObj_map hg, hchk, hfind, h3', hkey, hst, MapKept.run_setObj_map _ hg])]
    exact map_put hW hMn hmp hρ (hR.set (f := fun e => { e with key := a.eval key, val := a.eval val }) fun _ _ => hmk) (hC.modify (f := fun e => { e with key := a.eval key, val := a.eval val }) (fun _ => rfl) j) (by rw [List.length_set]; simp only [big] at hle; simp only [maxLen]; omega) (.tup [] [] rfl (fun j hj => by simp at hj))
def ment (kc zs : List AV) (es : List (List AV)) : List (List AV) := match mfind kc es with
  | some _ => es
  | none => es ++ [kc ++ zs]
def mentAt (kc : List AV) (es : List (List AV)) : Nat := match mfind kc es with
  | some q => q.1
  | none => es.length
theorem does_mapEntry (hT : TTok P T) (ho : o.op = .mapEntry t x key) (ht : T.d t = .map kt et) (hokt : (T.d et).ok = true) (hx : ev F x = .omap n) (hb : M n = some b) (hmp : b.mp = some (k, ka, va, true))
    (hd : d ≤ 10000) (hl : lks P d kt = some ls) (hag : isAggT P kt = ka) (hs : solid (ev F key) = true) (hka : (ev F key).isAg = ka) (hk : (cells (ev F key)).length = k) (hkk : kvOk ls (cells (ev F key)) (cells (ev F key)) = true)
    (hok : (∀ r ∈ b.es, r.length = b.sz) → ∀ r ∈ b.es, kvOk ls (cells (ev F key)) r = true) (hsv : solid (T.z et) = true) (hva : (T.z et).isAg = va) (hvl : k + (cells (T.z et)).length = b.sz) (hv : va = false → k < b.sz) (hle : b.es.length + 1 ≤ big) :
    Does P X o F M (.tup [lval va (T.z et) (mfind (cells (ev F key)) b.es), .int .i64 (mentAt (cells (ev F key)) b.es)]) [(n, ⟨b.ty, b.sz, ment (cells (ev F key)) (cells (T.z et)) b.es, some (k, ka, va, true)⟩)] [] ∧ n ∈ (ev F x).names := by
  have hxo : x ∈ o.op.operands.toList := by simp [ho, Op.operands]
  have hko : key ∈ o.op.operands.toList := by simp [ho, Op.operands]
  obtain ⟨D, it, z, hD, hf, _⟩ := hT t (by rw [ht]; simp)
  have hD' := fits_map ht hf
  subst hD'
  obtain ⟨De, ie, ze, hDe, hfe, hie, hes, _, hze, hzz⟩ := hT et (TD.ok_ne hokt)
  obtain ⟨sl, hsl, hns⟩ := names_op (F := F) x hxo (n := n) (by rw [hx]; simp [AV.names])
  refine ⟨⟨fun p hp => .inr ⟨sl, hsl, by simp at hp; rw [hp]; exact hns⟩, fun M' N ρ I a w hW hU hN _ => ?_⟩, by rw [hx]; simp [AV.names]⟩
  have r1 := rep_op hU x hxo
  have r2 := rep_op hU key hko
  rw [hx] at r1
  have hMn : M' n = some b := (hN sl hsl n hns).trans hb
  have hal : lens M' n = some (0, b.sz) := by rw [lens_some]; exact ⟨b, hMn, by simp [Blk.ln, hmp], rfl⟩
  obtain ⟨hn, g, cap, hρ, hvx⟩ := rep_omap r1 hal
  obtain ⟨en, ck, hg, hR, hC, hsz, _, hml⟩ := map_open hW hMn hmp hρ
  have hok := hok (hW.blk n b hMn).even
  have hkv : valOf (isAggT P kt) (flatV (a.eval key)) = a.eval key := by
    rw [hag, ← hka, ← (solid_flat r2 hs).1]; exact valOf_flat _
  have hAC := key_allC r2 hs hkk
  have hfind := run_findKey_lks hd hl w hAC (key_rel hl hag r2 hs hk hR hok)
  have hchk : ∀ em, (Instr.checkKey em 10000 kt (a.eval key)).run P w = .ok () w := fun em => by
    have := run_checkKey_lks (em := em) d (10000 - d) kt ls w _ hl hAC
    rw [show d + (10000 - d) = 10000 by omega, hkv] at this; exact this
  have hst : (Instr.keyThatStays (a.eval key) (a.eval key)).run P w = .ok (a.eval key) w := by
    have := run_keyStays (P := P) (ag := isAggT P kt) hAC (fun h => lks_one hl h) w
    rwa [hkv] at this
  rw [hkv] at hfind
  have hzr : Rep ρ (lens M') I w N (T.z et) ze := by rw [hzz]; exact rep_ofV _ _ _ _ _ _
  obtain ⟨hck, hborn⟩ := hC.den rfl
  have two : ∀ {a1 a2 : AV} {v1 v2 : Value}, Rep ρ (lens M') I w N a1 v1 → Rep ρ (lens M') I w N a2 v2 → Rep ρ (lens M') I w N (.tup [a1, a2]) (.tuple #[v1, v2]) := fun {a1 a2 v1 v2} q1 q2 => .tup [a1, a2] [v1, v2] rfl fun j hj => by
    match j, hj with
    | 0, _ => simpa using q1
    | 1, _ => simpa using q2
  unfold Yield ment mentAt
  rcases efind_spec (kc := cells (ev F key)) (en := en.toList) (es := b.es) (i := 0) (by simpa using hR.len) with ⟨h1, h2⟩ | ⟨j, e, r, h1, h2, h3, h4, h5⟩
  · rw [h2] at hfind
    have hrun : (execOp a.eval o).run P w = .ok (.value (.tuple #[ze, goInt ck])) { w with heap := w.heap.setIfInBounds g (.map (en.push ⟨a.eval key, ze, ck⟩) (ck + 1)) } := by
      simp [execOp, ho, hvx, Instr.mapEntry, run_underlying hD, MapKept.run_getObj_map hg, hchk, hfind, run_zeroValue' hie hze, MapKept.run_setObj_map _ hg]
    rw [h1, hrun]
    refine map_put hW hMn hmp hρ (hR.push (ERep.mk' r2 hs hzr hsv hk hvl hka hva) ck) hC.push (by simp only [List.length_append, List.length_singleton]; simp only [big] at hle; simp only [maxLen]; omega) (two hzr ?_)
    rw [hck, hR.len]; exact .int _ _
  · rw [h2, Nat.zero_add] at hfind
    have h3' : en[j]? = some e := by simpa using h3
    have hE := hR.row j e r h3' h4
    have hkey := key_same r2 hs hka hk hE (hok r (List.mem_of_getElem? h4)) h5
    have hrun : (execOp a.eval o).run P w = .ok (.value (.tuple #[e.val, goInt e.born])) { w with heap := w.heap.setIfInBounds g (.map (en.modify j fun e => { e with key := a.eval key }) ck) } := by
      simp [execOp, ho, hvx, Instr.mapEntry, run_underlying hD, MapKept.run_getObj_map hg, hchk, hfind, h3', hkey, hst, MapKept.run_setObj_map _ hg]
    rw [h1, hrun]
    have hR' : MRep ρ (lens M') I w N k ka va b.sz b.es (en.modify j fun e => { e with key := a.eval key }) := by
      have := hR.set (i := j) (f := fun e => { e with key := a.eval key }) (r := r) (fun e0 he0 => by rw [h3'] at he0; cases he0; rw [← hkey]; exact hE)
      have hlt := (List.getElem?_eq_some_iff.1 h4)
      rwa [← hlt.2, List.set_getElem_self] at this
    refine map_put hW hMn hmp hρ hR' (hC.modify (f := fun e => { e with key := a.eval key }) (fun _ => rfl) j) hml (two ?_ ?_)
    · simp only [lval]
      rw [hk]; exact hE.val hv
    · have := hborn j e h3'
      rw [this]; exact .int _ _
theorem does_entryStore {stamp val : Operand} {q : IntKind} {j : Nat} {r : List AV} (ho : o.op = .entryStore t x stamp val) (hx : ev F x = .omap n) (hb : M n = some b) (hmp : b.mp = some (k, ka, va, true))
    (hst : ev F stamp = .int q j) (hr : b.es[j]? = some r) (hsv : solid (ev F val) = true) (hva : (ev F val).isAg = va) (hvl : k + (cells (ev F val)).length = b.sz) :
    Does P X o F M (.tup []) [(n, ⟨b.ty, b.sz, b.es.set j (r.take k ++ cells (ev F val)), some (k, ka, va, true)⟩)] [] ∧ n ∈ (ev F x).names := by
  have hxo : x ∈ o.op.operands.toList := by simp [ho, Op.operands]
  have hso : stamp ∈ o.op.operands.toList := by simp [ho, Op.operands]
  have hvo : val ∈ o.op.operands.toList := by simp [ho, Op.operands]
  obtain ⟨sl, hsl, hns⟩ := names_op (F := F) x hxo (n := n) (by rw [hx]; simp [AV.names])
  refine ⟨⟨fun p hp => .inr ⟨sl, hsl, by simp at hp; rw [hp]; exact hns⟩, fun M' N ρ I a w hW hU hN _ => ?_⟩, by rw [hx]; simp [AV.names]⟩
  have r1 := rep_op hU x hxo
  have r2 := rep_int (hst ▸ rep_op hU stamp hso)
  have r3 := rep_op hU val hvo
  rw [hx] at r1
  have hMn : M' n = some b := (hN sl hsl n hns).trans hb
  have hal : lens M' n = some (0, b.sz) := by rw [lens_some]; exact ⟨b, hMn, by simp [Blk.ln, hmp], rfl⟩
  obtain ⟨hn, g, cap, hρ, hvx⟩ := rep_omap r1 hal
  obtain ⟨en, ck, hg, hR, hC, hsz, _, hml⟩ := map_open hW hMn hmp hρ
  obtain ⟨hck, hborn⟩ := hC.den rfl
  have hj : j < b.es.length := (List.getElem?_eq_some_iff.1 hr).1
  have hje : j < en.size := by rw [hR.len]; exact hj
  have hidx : en.findIdx? (fun e => (e.born : Int) == (j : Int)) = some j := by
    rw [Array.findIdx?_eq_some_iff_getElem]
    refine ⟨hje, ?_, fun i hi => ?_⟩
    · have := hborn j en[j] (Array.getElem?_eq_getElem hje)
      simp [this]
    · have := hborn i (en[i]'(by omega)) (Array.getElem?_eq_getElem (by omega))
      simp only [this, Bool.not_eq_true, beq_eq_false_iff_ne, ne_eq]; omega
  have hrun : (execOp a.eval o).run P w = .ok .skip { w with heap := w.heap.setIfInBounds g (.map (en.modify j fun e => { e with val := a.eval val }) ck) } := by
    simp [execOp, ho, hvx, r2, Instr.entryStore, MapKept.run_getObj_map hg, asInt, asIntOf, hidx, MapKept.run_setObj_map _ hg]
  unfold Yield
  rw [hrun]
  refine map_put hW hMn hmp hρ (hR.set (i := j) (f := fun e => { e with val := a.eval val }) fun e he => ?_) (hC.modify (f := fun e => { e with val := a.eval val }) (fun _ => rfl) j) (by rw [List.length_set]; exact hml) (.tup [] [] rfl (fun j hj => by simp at hj))
  have hE := hR.row j e r he hr
  obtain ⟨q1, q2, q3, q4⟩ := solid_flat r3 hsv
  have hle : k ≤ r.length := by have := hE.rl; have := hE.fl; omega
  have htk : (r.take k).length = k := by rw [List.length_take]; omega
  refine ⟨by rw [List.length_append, htk]; omega, hE.kl, by show k + (flatV (a.eval val)).length = _; omega, hE.ka, q1.trans hva, fun p hp => ?_⟩
  show ((flatV e.key ++ flatV (a.eval val)).getD p default).oneCell' = true ∧ Rep ρ (lens M') I w N ((r.take k ++ cells (ev F val)).getD p .bad) ((flatV e.key ++ flatV (a.eval val)).getD p default)
  by_cases hpk : p < k
  · have := hE.cell p hp
    have e0 : (flatV e.key ++ flatV e.val).getD p default = (flatV e.key).getD p default := by rw [List.getD_eq_getElem?_getD, List.getElem?_append_left (by rw [hE.kl]; exact hpk), List.getD_eq_getElem?_getD]
    have e1 : (flatV e.key ++ flatV (a.eval val)).getD p default = (flatV e.key).getD p default := by rw [List.getD_eq_getElem?_getD, List.getElem?_append_left (by rw [hE.kl]; exact hpk), List.getD_eq_getElem?_getD]
    have e2 : (r.take k ++ cells (ev F val)).getD p .bad = r.getD p .bad := by
      rw [List.getD_eq_getElem?_getD, List.getElem?_append_left (by omega), List.getElem?_take, if_pos hpk, List.getD_eq_getElem?_getD]
    rw [e0] at this
    rw [e1, e2]; exact this
  · have e1 : (flatV e.key ++ flatV (a.eval val)).getD p default = (flatV (a.eval val)).getD (p - k) default := by rw [List.getD_eq_getElem?_getD, List.getElem?_append_right (by rw [hE.kl]; omega), List.getD_eq_getElem?_getD, hE.kl]
    have e2 : (r.take k ++ cells (ev F val)).getD p .bad = (cells (ev F val)).getD (p - k) .bad := by rw [List.getD_eq_getElem?_getD, List.getElem?_append_right (by omega), List.getD_eq_getElem?_getD, htk]
    rw [e1, e2]
    refine ⟨?_, q4 (p - k) (by omega)⟩
    rw [List.getD_eq_getElem?_getD, List.getElem?_eq_getElem (by omega)]
    exact q3 _ (List.getElem_mem _)
end
end Go.AM

namespace Go.AM
open Go.RowKit Go.MapKept
variable {P : Program} {T : TT} {X : Ctx} {o : Oper} {F : Frm} {M : MemF}
theorem DoesV.does {av : AV} (h : DoesV P X o F M av) : Does P X o F M av [] [] :=
  ⟨fun p hp => by simp at hp, fun M' N ρ I a w W hr hM _ => h M' N ρ I a w W hr (fun s hs n hn => by rw [hM s hs n hn])⟩
theorem g64_ok : ∀ {ls : List LK} {kc r : List AV}, kvOk ls kc kc = true → g64 kc = true → g64 r = true → kc.length ≤ r.length → kvOk ls kc r = true
  | [], [], _, _, _, _, _ => by simp [kvOk]
  | .i :: l, .int k x :: a, r, h, g, g2, hl => by
    cases k <;> simp only [g64, Bool.false_eq_true] at g
    cases r with
    | nil => simp at hl
    | cons c s =>
      cases c with
      | int k2 y =>
        cases k2 <;> simp only [g64, Bool.false_eq_true] at g2
        simp only [kvOk, Bool.and_eq_true] at h ⊢
        exact ⟨rfl, g64_ok h.2 g g2 (by simpa using hl)⟩
      | _ => simp [g64] at g2
  | .i :: l, [], _, h, _, _, _ => by simp [kvOk] at h
  | .b :: l, [], _, h, _, _, _ => by simp [kvOk] at h
  | .s :: l, [], _, h, _, _, _ => by simp [kvOk] at h
  | [], _ :: _, _, h, _, _, _ => by simp [kvOk] at h
  | .b :: l, c :: a, _, h, g, _, _ => by cases c <;> simp [kvOk, g64] at h g
  | .s :: l, c :: a, _, h, g, _, _ => by cases c <;> simp [kvOk, g64] at h g
  | .i :: l, .bool _ :: a, _, _, g, _, _ => by simp [g64] at g
  | .i :: l, .str _ :: a, _, _, g, _, _ => by simp [g64] at g
  | .i :: l, .nilp :: a, _, _, g, _, _ => by simp [g64] at g
  | .i :: l, .nils :: a, _, _, g, _, _ => by simp [g64] at g
  | .i :: l, .nilf :: a, _, _, g, _, _ => by simp [g64] at g
  | .i :: l, .nili :: a, _, _, g, _, _ => by simp [g64] at g
  | .i :: l, .loc .. :: a, _, _, g, _, _ => by simp [g64] at g
  | .i :: l, .osl .. :: a, _, _, g, _, _ => by simp [g64] at g
  | .i :: l, .vsl .. :: a, _, _, g, _, _ => by simp [g64] at g
  | .i :: l, .isl .. :: a, _, _, g, _, _ => by simp [g64] at g
  | .i :: l, .iptr .. :: a, _, _, g, _, _ => by simp [g64] at g
  | .i :: l, .omap .. :: a, _, _, g, _, _ => by simp [g64] at g
  | .i :: l, .clo .. :: a, _, _, g, _, _ => by simp [g64] at g
  | .i :: l, .agg .. :: a, _, _, g, _, _ => by simp [g64] at g
  | .i :: l, .tup .. :: a, _, _, g, _, _ => by simp [g64] at g
  | .i :: l, .bad :: a, _, _, g, _, _ => by simp [g64] at g
theorem cntV_lval (q : Option (Nat × List AV)) : lval false (.int .i64 0) q = cntV q := by cases q <;> rfl
section
variable {t kt et n d k : Nat} {ka dn : Bool} {b : Blk} {ls : List LK} {x key : Operand}
theorem does_lkc (hT : TTok P T) (ho : o.op = .lookup t x key false) (ht : T.d t = .map kt et) (hokt : (T.d et).ok = true) (hz : T.z et = .int .i64 0) (hx : ev F x = .omap n) (hb : M n = some b) (hmp : b.mp = some (k, ka, false, dn))
    (hd : d ≤ 10000) (hl : lks P d kt = some ls) (hag : isAggT P kt = ka) (hs : solid (ev F key) = true) (hka : (ev F key).isAg = ka) (hk : (cells (ev F key)).length = k) (hkk : kvOk ls (cells (ev F key)) (cells (ev F key)) = true)
    (hg : g64 (cells (ev F key)) = true) (hgr : ∀ r ∈ b.es, g64 r = true) (hsz : b.sz = k + 1) :
    DoesV P X o F M (cntV (mfind (cells (ev F key)) b.es)) := by
  intro M' N ρ I a w hW hU hV
  have hxo : x ∈ o.op.operands.toList := by simp [ho, Op.operands]
  obtain ⟨sl, hsl, hns⟩ := names_op (F := F) x hxo (n := n) (by rw [hx]; simp [AV.names])
  have hv := hV sl hsl n hns
  rw [hb] at hv
  cases hb' : M' n with
  | none => rw [hb'] at hv; simp [Vw] at hv
  | some b' =>
    rw [hb'] at hv
    simp only [Vw, Option.map_some, Option.some.injEq, Prod.mk.injEq] at hv
    obtain ⟨v1, v2, v3, v4⟩ := hv
    have hgr' : ∀ r ∈ b'.es, g64 r = true := v4.symm ▸ hgr
    have v3' := congrFun v3 (cells (ev F key))
    rw [v1, if_pos (by omega), if_pos (by omega)] at v3'
    have hok : ∀ r ∈ b'.es, kvOk ls (cells (ev F key)) r = true := fun r hr => g64_ok hkk hg (hgr' r hr) (by
      have := (hW.blk n b' hb').even r hr
      omega)
    have D := does_lookup (X := X) (M := M') hT ho ht hokt hx hb' (v2.trans hmp) hd hl hag hs hka hk hkk hok (fun _ => by omega)
    simp only [lres, Bool.false_eq_true, if_false, hz, cntV_lval] at D
    rw [v3'] at D
    exact D.2 M' N ρ I a w hW hU (fun _ _ _ _ => rfl) (fun _ h => by simp at h)
theorem mfind_app {kc r : List AV} : ∀ {es : List (List AV)}, mfind kc (es ++ [r]) = match mfind kc es with
    | some q => some q
    | none => if kvB kc r then some (es.length, r.drop kc.length) else none
  | [] => by simp only [List.nil_append, mfind]; cases kvB kc r <;> rfl
  | e :: es => by
    simp only [List.cons_append, mfind]
    by_cases h : kvB kc e = true
    · simp [h]
    · simp only [if_neg h]
      rw [mfind_app (es := es)]
      cases mfind kc es with
      | some q => rfl
      | none => by_cases h2 : kvB kc r = true <;> simp [h2]
theorem g64_app : ∀ {a b : List AV}, g64 (a ++ b) = (g64 a && g64 b)
  | [], b => by simp [g64]
  | c :: a, b => by
    cases c <;> simp only [List.cons_append, g64, Bool.false_and]
    rename_i k y
    cases k <;> simp only [g64, g64_app, Bool.false_and]
theorem vw_ment {kc : List AV} (hmp : b.mp = some (k, ka, false, true)) (hk : kc.length = k) (hsz : b.sz = k + 1) (hg : g64 kc = true) : Vw (some b) = Vw (some ⟨b.ty, b.sz, ment kc [.int .i64 0] b.es, some (k, ka, false, true)⟩) := by
  simp only [Vw, Option.map_some, Option.some.injEq, Prod.mk.injEq]
  refine ⟨trivial, hmp, ?_, ?_⟩
  · funext kc'
    split
    · rename_i hl
      unfold ment
      cases hm : mfind kc b.es with
      | some q => rfl
      | none =>
        simp only
        rw [mfind_app]
        cases hm' : mfind kc' b.es with
        | some q => rfl
        | none =>
          simp only
          split
          · have : (kc ++ [AV.int .i64 0]).drop kc'.length = [.int .i64 0] := by
              rw [show kc'.length = kc.length by omega, List.drop_left]
            rw [this]; rfl
          · rfl
    · rfl
  · apply propext
    unfold ment
    cases mfind kc b.es with
    | some q => exact Iff.rfl
    | none =>
      simp only [List.mem_append, List.mem_singleton]
      exact ⟨fun h r hr => hr.elim (h r) (fun e => by rw [e, g64_app, hg]; rfl), fun h r hr => h r (.inl hr)⟩
end
end Go.AM

namespace Go.AM
open Go.RowKit
structure Env where
  P : Program
  T : TT
  ok : PT P T
  ft : Nat → Nat
  ty : Nat → Nat
inductive Sc where
  | t (n : Nat)
  | k (v : AV)
  | f (g : Nat)
inductive IOp where
  | mv (x : Sc)
  | pick (c a b : Sc)
  | alloc (ty : Nat) (z : List AV)
  | box (ty : Nat) (x : Sc)
  | build (z : List AV) (ps : List (Nat × Nat × Sc))
  | bslice (ty sz len : Nat) (z : List AV) (ps : List (Nat × Sc))
  | load (ag : Bool) (n : Nat) (x : Sc)
  | store (n : Nat) (x v : Sc)
  | nilck (x : Sc)
  | bin (op : BinOp) (x y : Sc)
  | eqb (neg : Bool) (x y : Sc)
  | isn (neg : Bool) (x : Sc)
  | isnS (neg : Bool) (x : Sc)
  | clip0 (ty sz : Nat) (x : Sc)
  | eqa (neg : Bool) (ls : List LK) (x y : Sc)
  | bst (op : BinOp) (x y : Sc)
  | un (op : UnOp) (x : Sc)
  | conv (k : IntKind) (x : Sc)
  | sstr (x : Sc)
  | s2b (ty : Nat) (x : Sc)
  | b2s (x : Sc)
  | mkf (g : Nat) (cs : List Sc)
  | fldA (off : Nat) (x : Sc)
  | fldV (ag : Bool) (off n : Nat) (x : Sc)
  | idxS (sz : Nat) (x i : Sc)
  | idxA (m sz : Nat) (x i : Sc)
  | idxV (ag : Bool) (m sz : Nat) (x i : Sc)
  | idxT (x i : Sc)
  | slcS (ty sz : Nat) (x : Sc) (lo hi mx : Option Sc)
  | slcA (m sz : Nat) (x : Sc) (lo hi mx : Option Sc)
  | slcT (x : Sc) (lo hi : Option Sc)
  | ext (x : Sc) (i : Nat)
  | call (g : Nat) (as : List Sc)
  | callv (f : Sc) (as : List Sc)
  | callr (f : Sc) (as : List Sc)
  | callw (f : Sc) (as : List Sc)
  | callx (g : Nat) (as : List Sc)
  | lenA (n : Nat)
  | lenS (x : Sc)
  | lenT (x : Sc)
  | mm (mx : Bool) (as : List Sc)
  | app (ty sz : Nat) (s x : Sc)
  | appT (ty : Nat) (s x : Sc)
  | appZ (ty sz : Nat) (z : List AV) (s x : Sc)
  | mks (ty sz : Nat) (z : List AV) (l c : Sc)
  | copy (sz : Nat) (x y : Sc)
  | mkm (k : Nat) (ka va : Bool) (sz : Nat)
  | lkm (ls : List LK) (ag va : Bool) (z : AV) (ok : Bool) (x key : Sc)
  | upm (ls : List LK) (ag va : Bool) (x key v : Sc)
  | enm (ls : List LK) (ag va : Bool) (z : AV) (x key : Sc)
  | stm (va : Bool) (x st v : Sc)
  | lkc (ls : List LK) (ag : Bool) (x key : Sc)
  | enc (ls : List LK) (ag : Bool) (x key : Sc)
structure IOper where
  d : Option Nat
  g : Option (Nat × Bool)
  o : IOp
inductive ICode where
  | skip
  | ret
  | exit (id : Nat)
  | ops (l : List IOper)
  | draw (ms : List Nat) (us : List (List Nat)) (l : List IOper)
  | seq (a b : ICode)
  | cond (c : Sc) (a b : ICode)
  | block (id : Nat) (c : ICode)
  | loop (c : ICode)
  | keep (ls : List Nat) (c : ICode)
  | scope (c : ICode)
  | rangef (f : Sc) (ps : List Nat) (asg body : ICode)
inductive IRes where
  | t (n : Nat)
  | cell (a : Nat) (ag : Bool) (n : Nat)
structure IFn where
  np : Nat
  rs : List IRes
  body : ICode
inductive IBlk where
  | var (ty : Nat) (row : List AV)
  | arr (ty sz : Nat) (es : List (List AV))
  | map (k : Nat) (ka va dn : Bool) (sz : Nat) (es : List (List AV))
def IBlk.blk : IBlk → Blk
  | .var ty row => ⟨ty, row.length, [row], none⟩
  | .arr ty sz es => ⟨ty, sz, es, none⟩
  | .map k ka va dn sz es => ⟨0, sz, es, some (k, ka, va, dn)⟩
abbrev IMem := List (Nat × IBlk)
def toM : IMem → Mem
  | [] => []
  | (n, b) :: r => (n, b.blk) :: toM r
structure ACnd (b : Bool) (X Y : Prop) : Prop where
  t : b = true → X
  f : b = false → Y
structure IWr (k : IntKind) (n : Int) (K : Int → Prop) : Prop where
  h : K (wr k n)
structure EGet (es : List (List AV)) (i : Nat) (K : List AV → Prop) : Prop where
  h : K (es.getD i [])
structure AIx (i : Int) (m : Nat) (K : Nat → Prop) : Prop where
  h : (0 ≤ i ∧ i < (m : Int)) ∧ K i.toNat
theorem ACnd.sound {b : Bool} {X Y : Prop} (h : ACnd b X Y) : (b = true ∧ X) ∨ (b = false ∧ Y) := by
  cases b
  · exact .inr ⟨rfl, h.f rfl⟩
  · exact .inl ⟨rfl, h.t rfl⟩
abbrev KS := Frm → IMem → Nat → Prop
def lookK : Frm → Nat → (AV → Prop) → Prop
  | [], _, K => K .bad
  | (j, v) :: r, i, K => bif Nat.beq i j then K v else lookK r i K
theorem beq_beq (a b : Nat) : Nat.beq a b = (a == b) := by
  by_cases h : a = b
  · subst h; simp
  · have : (a == b) = false := by simpa using h
    rw [this]; exact Bool.eq_false_iff.2 (fun e => h (Nat.eq_of_beq_eq_true e))
theorem lookK_eq : ∀ (F : Frm) (i : Nat) (K : AV → Prop), lookK F i K = K (look F i)
  | [], _, _ => rfl
  | (j, v) :: r, i, K => by
    simp only [lookK, look, beq_beq]
    cases i == j
    · exact lookK_eq r i K
    · rfl
def Env.cl (R : Env) (g : Nat) (cs : List AV) : AV := .clo (.fn (R.ft g)) cs
def evK (R : Env) (F : Frm) : Sc → (AV → Prop) → Prop
  | .t n, K => lookK F n K
  | .k v, K => K v
  | .f g, K => K (R.cl g [])
def scv (R : Env) (F : Frm) : Sc → AV
  | .t n => look F n
  | .k v => v
  | .f g => R.cl g []
theorem evK_eq (R : Env) (F : Frm) (x : Sc) (K : AV → Prop) : evK R F x K = K (scv R F x) := by
  cases x
  · exact lookK_eq _ _ _
  · rfl
  · rfl
def evLK (R : Env) (F : Frm) : List Sc → (List AV → Prop) → Prop
  | [], K => K []
  | x :: r, K => evK R F x fun v => evLK R F r fun l => K (v :: l)
theorem evLK_eq (R : Env) (F : Frm) : ∀ (l : List Sc) (K : List AV → Prop), evLK R F l K = K (l.map (scv R F))
  | [], _ => rfl
  | x :: r, K => by simp only [evLK, evK_eq, evLK_eq R F r, List.map_cons]
def evOK (R : Env) (F : Frm) : Option Sc → (Option AV → Prop) → Prop
  | none, K => K none
  | some x, K => evK R F x fun v => K (some v)
theorem evOK_eq (R : Env) (F : Frm) (x : Option Sc) (K : Option AV → Prop) : evOK R F x K = K (x.map (scv R F)) := by
  cases x
  · rfl
  · simp only [evOK, evK_eq, Option.map_some]
def finK (d : Option Nat) (v : AV) (F : Frm) (M : IMem) (nx : Nat) (K : KS) : Prop :=
  match d with
  | none => K F M nx
  | some i => K ((i, v) :: F) M nx
def keepK (F : Frm) : List Nat → (Frm → Prop) → Prop
  | [], K => K []
  | i :: r, K => lookK F i fun v => keepK F r fun F' => K ((i, v) :: F')
theorem keepK_elim {F : Frm} : ∀ {l : List Nat} {K : Frm → Prop}, keepK F l K → ∃ F', (∀ i, look F' i = look F i ∨ look F' i = .bad) ∧ K F'
  | [], K, h => ⟨[], fun _ => .inr rfl, h⟩
  | i :: r, K, h => by
    simp only [keepK, lookK_eq] at h
    obtain ⟨F', h1, h2⟩ := keepK_elim (l := r) (K := fun F' => K ((i, look F i) :: F')) h
    refine ⟨(i, look F i) :: F', fun j => ?_, h2⟩
    by_cases e : j = i
    · subst e; left; simp [look]
    · have : (j == i) = false := by simpa using e
      simp only [look, this, cond_false]
      exact h1 j
def igetK : IMem → Nat → (IBlk → Prop) → Prop
  | [], _, _ => False
  | (m, b) :: r, n, K => bif Nat.beq n m then K b else igetK r n K
theorem igetK_elim : ∀ {M : IMem} {n : Nat} {K : IBlk → Prop}, igetK M n K → ∃ b, mget (toM M) n = some b.blk ∧ K b
  | [], _, _, h => h.elim
  | (m, b) :: r, n, K, h => by
    simp only [igetK, beq_beq] at h
    simp only [toM, mget]
    cases hb : n == m with
    | true => rw [hb] at h; exact ⟨b, rfl, h⟩
    | false => rw [hb] at h; exact igetK_elim (M := r) h
def isetK : IMem → Nat → IBlk → (IMem → Prop) → Prop
  | [], n, b, K => K [(n, b)]
  | (m, c) :: r, n, b, K => bif Nat.beq n m then K ((m, b) :: r) else isetK r n b fun r' => K ((m, c) :: r')
theorem isetK_elim : ∀ {M : IMem} {n : Nat} {b : IBlk} {K : IMem → Prop}, isetK M n b K → ∃ M', toM M' = mset (toM M) n b.blk ∧ K M'
  | [], n, b, K, h => ⟨_, rfl, h⟩
  | (m, c) :: r, n, b, K, h => by
    simp only [isetK, beq_beq] at h
    simp only [toM, mset]
    cases hb : n == m with
    | true => rw [hb] at h; exact ⟨_, rfl, h⟩
    | false =>
      rw [hb] at h
      obtain ⟨M', h1, h2⟩ := isetK_elim (M := r) (K := fun r' => K ((m, c) :: r')) h
      exact ⟨_, by simp only [toM, h1]; rfl, h2⟩
theorem toM_new (M : IMem) (n : Nat) (b : IBlk) : mget (toM ((n, b) :: M)) = mget (mset (toM M) n b.blk) := by
  funext m
  rw [mget_mset]
  simp only [toM, mget]
  by_cases h : m = n
  · subst h; simp
  · have : (m == n) = false := by simpa using h
    simp [this, h]
def takeK : Nat → List AV → (List AV → Prop) → Prop
  | 0, _, K => K []
  | n + 1, c :: r, K => takeK n r fun l => K (c :: l)
  | _ + 1, [], _ => False
theorem takeK_elim : ∀ {n : Nat} {cs : List AV} {K : List AV → Prop}, takeK n cs K → (cs.take n).length = n ∧ K (cs.take n)
  | 0, _, _, h => ⟨rfl, h⟩
  | n + 1, c :: r, K, h => by
    obtain ⟨h1, h2⟩ := takeK_elim (K := fun l => K (c :: l)) h
    exact ⟨by simp only [List.take_succ_cons, List.length_cons, h1], by simpa using h2⟩
  | _ + 1, [], _, h => h.elim
def headK (n : Nat) (cs : List AV) (K : AV → Prop) : Prop :=
  match n, cs with
  | 1, c :: _ => K c
  | _, _ => False
def partK0 (ag : Bool) (n : Nat) (cs : List AV) (K : AV → Prop) : Prop :=
  match ag with
  | true => takeK n cs fun l => K (.agg l)
  | false => headK n cs K
def partK (ag : Bool) (n : Nat) : Nat → List AV → (AV → Prop) → Prop
  | 0, cs, K => partK0 ag n cs K
  | off + 1, _ :: r, K => partK ag n off r K
  | _ + 1, [], _ => False
theorem partK_elim {ag : Bool} {n : Nat} : ∀ {off : Nat} {cs : List AV} {K : AV → Prop}, partK ag n off cs K → apart ag n off cs K
  | 0, cs, K, h => by
    simp only [partK, partK0] at h
    simp only [apart, List.drop_zero]
    cases ag with
    | true =>
      simp only at h
      obtain ⟨h1, h2⟩ := takeK_elim h
      exact chk_intro (by simp only [h1, beq_self_eq_true]) h2
    | false =>
      simp only [headK] at h
      split at h
      · exact chk_intro rfl (chk_intro rfl h)
      · exact False.elim h
  | off + 1, c :: r, K, h => by
    have := partK_elim (off := off) (cs := r) h
    simpa [apart] using this
  | _ + 1, [], _, h => h.elim
def overK : List AV → List AV → (List AV → Prop) → Prop
  | [], cs, K => K cs
  | v :: r, _ :: cs, K => overK r cs fun l => K (v :: l)
  | _ :: _, [], _ => False
def spliceK : Nat → List AV → List AV → (List AV → Prop) → Prop
  | 0, vs, cs, K => overK vs cs K
  | off + 1, vs, c :: cs, K => spliceK off vs cs fun l => K (c :: l)
  | _ + 1, _, [], _ => False
theorem overK_elim : ∀ {vs cs : List AV} {K : List AV → Prop}, overK vs cs K → vs.length ≤ cs.length ∧ K (vs ++ cs.drop vs.length)
  | [], cs, K, h => ⟨Nat.zero_le _, by simpa [overK] using h⟩
  | v :: r, c :: cs, K, h => by
    obtain ⟨h1, h2⟩ := overK_elim (vs := r) (cs := cs) (K := fun l => K (v :: l)) h
    exact ⟨by simpa using h1, by simpa using h2⟩
  | _ :: _, [], _, h => h.elim
theorem spliceK_elim : ∀ {off : Nat} {vs cs : List AV} {K : List AV → Prop}, spliceK off vs cs K → off + vs.length ≤ cs.length ∧ K (splice off vs cs)
  | 0, vs, cs, K, h => by
    obtain ⟨h1, h2⟩ := overK_elim h
    exact ⟨by omega, by simpa [splice] using h2⟩
  | off + 1, vs, c :: cs, K, h => by
    obtain ⟨h1, h2⟩ := spliceK_elim (off := off) (vs := vs) (cs := cs) (K := fun l => K (c :: l)) h
    refine ⟨by simp only [List.length_cons]; omega, ?_⟩
    have e : splice (off + 1) vs (c :: cs) = c :: splice off vs cs := by
      simp only [splice, List.take_succ_cons, List.cons_append]
      congr 3
      rw [show off + 1 + vs.length = (off + vs.length) + 1 by omega, List.drop_succ_cons]
    rw [e]; exact h2
  | _ + 1, _, [], _, h => h.elim
def cellsK (v : AV) (K : List AV → Prop) : Prop :=
  match v with
  | .agg cs => K cs
  | .bad => False
  | .tup _ => False
  | .int k n => K [.int k n]
  | .bool b => K [.bool b]
  | .str s => K [.str s]
  | .nilp => K [.nilp]
  | .nils => K [.nils]
  | .nilf => K [.nilf]
  | .nili => K [.nili]
  | .loc n len i off => K [.loc n len i off]
  | .osl n len => K [.osl n len]
  | .vsl n len i off cnt => K [.vsl n len i off cnt]
  | .omap n => K [.omap n]
  | .isl sz es => K [.isl sz es]
  | .iptr e off => K [.iptr e off]
  | .clo f cs => K [.clo f cs]
theorem cellsK_elim {v : AV} {K : List AV → Prop} (h : cellsK v K) : solid v = true ∧ K (cells v) := by
  cases v <;> first | exact ⟨rfl, h⟩ | exact h.elim
def lenIs (vs : List AV) (n : Nat) (K : Prop) : Prop := bif Nat.beq vs.length n then K else False
theorem lenIs_elim {vs : List AV} {n : Nat} {K : Prop} (h : lenIs vs n K) : vs.length = n ∧ K := by
  unfold lenIs at h
  cases hb : Nat.beq vs.length n with
  | true => rw [hb] at h; exact ⟨Nat.eq_of_beq_eq_true hb, h⟩
  | false => rw [hb] at h; exact h.elim
def bldK (R : Env) (F : Frm) : List (Nat × Nat × Sc) → List AV → (List AV → Prop) → Prop
  | [], cs, K => K cs
  | (off, n, x) :: r, cs, K => evK R F x fun v => cellsK v fun vs => lenIs vs n (spliceK off vs cs fun cs' => bldK R F r cs' K)
def setK : Nat → List AV → List (List AV) → (List (List AV) → Prop) → Prop
  | 0, v, _ :: r, K => K (v :: r)
  | n + 1, v, e :: r, K => setK n v r fun l => K (e :: l)
  | _, _, [], _ => False
theorem setK_elim : ∀ {i : Nat} {v : List AV} {es : List (List AV)} {K : List (List AV) → Prop}, setK i v es K → i < es.length ∧ K (es.set i v)
  | 0, v, e :: r, K, h => ⟨by simp, h⟩
  | n + 1, v, e :: r, K, h => by
    obtain ⟨h1, h2⟩ := setK_elim (K := fun l => K (e :: l)) h
    exact ⟨by simpa using h1, by simpa using h2⟩
  | 0, _, [], _, h => h.elim
  | _ + 1, _, [], _, h => h.elim
def repK (z : List AV) : Nat → (List (List AV) → Prop) → Prop
  | 0, K => K []
  | n + 1, K => repK z n fun l => K (z :: l)
theorem repK_elim {z : List AV} : ∀ {n : Nat} {K : List (List AV) → Prop}, repK z n K → K (List.replicate n z)
  | 0, _, h => h
  | n + 1, K, h => by
    have := repK_elim (K := fun l => K (z :: l)) h
    simpa [List.replicate_succ] using this
def dropK : Nat → List AV → (List AV → Prop) → Prop
  | 0, r, K => K r
  | n + 1, _ :: r, K => dropK n r K
  | _ + 1, [], _ => False
def cutK : Nat → List AV → (List AV → List AV → Prop) → Prop
  | 0, r, K => K [] r
  | n + 1, c :: r, K => cutK n r fun l r' => K (c :: l) r'
  | _ + 1, [], _ => False
def chopK (sz : Nat) : Nat → List AV → (List (List AV) → Prop) → Prop
  | 0, _, K => K []
  | n + 1, r, K => cutK sz r fun l r' => chopK sz n r' fun es => K (l :: es)
theorem dropK_elim : ∀ {n : Nat} {r : List AV} {K : List AV → Prop}, dropK n r K → n ≤ r.length ∧ K (r.drop n)
  | 0, _, _, h => ⟨Nat.zero_le _, h⟩
  | n + 1, c :: r, K, h => by
    obtain ⟨h1, h2⟩ := dropK_elim (n := n) (r := r) h
    exact ⟨by simpa using h1, by simpa using h2⟩
  | _ + 1, [], _, h => h.elim
theorem cutK_elim : ∀ {n : Nat} {r : List AV} {K : List AV → List AV → Prop}, cutK n r K → n ≤ r.length ∧ K (r.take n) (r.drop n)
  | 0, _, _, h => ⟨Nat.zero_le _, h⟩
  | n + 1, c :: r, K, h => by
    obtain ⟨h1, h2⟩ := cutK_elim (n := n) (r := r) (K := fun l r' => K (c :: l) r') h
    exact ⟨by simpa using h1, by simpa using h2⟩
  | _ + 1, [], _, h => h.elim
theorem chopK_elim {sz : Nat} : ∀ {n : Nat} {r : List AV} {K : List (List AV) → Prop}, chopK sz n r K → n * sz ≤ r.length ∧ K (chop sz n r)
  | 0, _, _, h => ⟨by simp, h⟩
  | n + 1, r, K, h => by
    obtain ⟨h1, h2⟩ := cutK_elim h
    obtain ⟨h3, h4⟩ := chopK_elim (n := n) (r := r.drop sz) (K := fun es => K (r.take sz :: es)) h2
    refine ⟨?_, h4⟩
    rw [List.length_drop] at h3
    rw [Nat.add_mul, Nat.one_mul]; omega
def fillK (R : Env) (F : Frm) (sz : Nat) : List (Nat × Sc) → List (List AV) → (List (List AV) → Prop) → Prop
  | [], es, K => K es
  | (i, x) :: r, es, K => evK R F x fun v => cellsK v fun vs => lenIs vs sz (setK i vs es fun es' => fillK R F sz r es' K)
end Go.AM

namespace Go.AM
open Go.RowKit
variable {X : Ctx}
theorem names_mem_namesL {cs : List AV} {j n : Nat} (hj : j < cs.length) (hn : n ∈ (cs.getD j .bad).names) : n ∈ AV.namesL cs := by
  induction cs generalizing j with
  | nil => simp at hj
  | cons c cs ih =>
    simp only [AV.namesL, List.mem_append]
    cases j with
    | zero => left; simpa using hn
    | succ j => right; exact ih (j := j) (by simpa using hj) (by simpa using hn)
inductive Fz (D : Nat → Prop) (M : Mem) : AV → AV → Prop
  | same (v : AV) (h : v.names = []) : Fz D M v v
  | nils (sz : Nat) : Fz D M .nils (.isl sz [])
  | osl (n : Nat) (b : Blk) (es : List (List AV)) (hD : D n) (hb : mget M n = some b) (hmp : b.mp = none) (hl : es.length = b.es.length) (hs : ∀ i, i < es.length → (es.getD i []).length = (b.es.getD i []).length)
      (h : ∀ i j, i < es.length → j < b.sz → Fz D M ((b.es.getD i []).getD j .bad) ((es.getD i []).getD j .bad)) : Fz D M (.osl n b.es.length) (.isl b.sz es)
  | loc (n i off : Nat) (b : Blk) (row : List AV) (hD : D n) (hb : mget M n = some b) (hmp : b.mp = none) (hi : i < b.es.length) (hl : row.length = (b.es.getD i []).length)
      (h : ∀ j, j < b.sz → Fz D M ((b.es.getD i []).getD j .bad) (row.getD j .bad)) : Fz D M (.loc n b.es.length i off) (.iptr row off)
  | clo (f : FRef) (cs ds : List AV) (hl : ds.length = cs.length) (h : ∀ j, j < cs.length → Fz D M (cs.getD j .bad) (ds.getD j .bad)) : Fz D M (.clo f cs) (.clo f ds)
  | agg (cs ds : List AV) (hl : ds.length = cs.length) (h : ∀ j, j < cs.length → Fz D M (cs.getD j .bad) (ds.getD j .bad)) : Fz D M (.agg cs) (.agg ds)
  | tup (cs ds : List AV) (hl : ds.length = cs.length) (h : ∀ j, j < cs.length → Fz D M (cs.getD j .bad) (ds.getD j .bad)) : Fz D M (.tup cs) (.tup ds)
theorem namesL_nil_of : ∀ {cs : List AV}, (∀ j, j < cs.length → (cs.getD j .bad).names = []) → AV.namesL cs = []
  | [], _ => rfl
  | c :: r, h => by
    simp only [AV.namesL, List.append_eq_nil_iff]
    exact ⟨by simpa using h 0 (by simp), namesL_nil_of (fun j hj => by simpa using h (j + 1) (by simpa using hj))⟩
theorem Fz.names {D : Nat → Prop} {M : Mem} {v a : AV} (h : Fz D M v a) : a.names = [] := by
  induction h with
  | same v h => exact h
  | nils => rfl
  | osl => rfl
  | loc => rfl
  | clo f cs ds hl h ih => simp only [AV.names]; exact namesL_nil_of (fun j hj => ih j (by omega))
  | agg cs ds hl h ih => simp only [AV.names]; exact namesL_nil_of (fun j hj => ih j (by omega))
  | tup cs ds hl h ih => simp only [AV.names]; exact namesL_nil_of (fun j hj => ih j (by omega))
theorem Fz.sound {D : Nat → Prop} {M : Mem} {ρ : Place} {I : Nat → Prop} {w : World} {N : Nat → Prop} (hW : Wok X ρ I (mget M) N w) {v a : AV} (h : Fz D M v a) : ∀ {u : Value}, Rep ρ (lens (mget M)) I w N v u →
    Rep noPlace noLens (fun g => I g ∨ ∃ n cap b, D n ∧ mget M n = some b ∧ ρ n = some (g, cap)) w NoName a u := by
  have E : Evo N ρ (lens (mget M)) I w ρ (lens (mget M)) (fun g => I g ∨ ∃ n cap b, D n ∧ mget M n = some b ∧ ρ n = some (g, cap)) w := ⟨fun _ _ _ _ _ _ => rfl, fun _ len _ _ h => ⟨len, h, Nat.le_refl _⟩, fun b hb => .inl hb, fun _ _ => rfl⟩
  induction h with
  | same v h => exact fun hr => (hr.evo E (fun _ h => h)).alone h _ _
  | nils sz =>
    intro u hr
    cases hr
    exact .islNil _ _ _ (by simp [maxLen])
  | osl n b es hD hb hmp hl hs h ih =>
    intro u hr
    have hal : lens (mget M) n = some (b.es.length, b.sz) := by rw [lens_some]; exact ⟨b, hb, Blk.ln_of hmp, rfl⟩
    have B := hW.blk n b hb
    obtain ⟨hn, ⟨h0, q, hv⟩ | ⟨g, cap, hρ, hv⟩⟩ := rep_osl hr hal
    · have he := B.virt h0
      rw [he] at hl
      have he' : es = [] := List.eq_nil_of_length_eq_zero (by simpa using hl)
      rw [hv, he']
      exact .islNil _ _ _ (by simp [maxLen])
    · obtain ⟨cs, fr, hg, hfr, hnI, hown, hlc, hcm, hcs, hcc⟩ := B.real g cap hρ
      have hg := hg.cells hmp
      rw [hv, ← hl]
      refine .isl b.sz es g 0 cap (fun i j => (cs[i * b.sz + j]?).getD undef) (by omega) hcm (.inr ⟨n, cap, b, hD, hb, hρ⟩) (fun e he => ?_) (fun i j hi hj => ?_) (fun i j hi hj => ?_) (fun i j hi hj => ?_)
      · obtain ⟨i, hi, rfl⟩ := List.getElem_of_mem he
        have h1 := hs i hi
        have h2 : es.getD i [] = es[i] := by simp [List.getD_eq_getElem?_getD, hi]
        have h3 : b.es.getD i [] = b.es[i]'(by omega) := by simp [List.getD_eq_getElem?_getD, show i < b.es.length by omega]
        rw [← h2, h1, h3]
        exact B.even _ (List.getElem_mem _)
      · obtain ⟨u, hu, h1, _⟩ := hcc i j (by omega) hj
        rw [hu]; exact h1
      · obtain ⟨u, hu, h1, _⟩ := hcc i j (by omega) hj
        simp only [World.cell?, hg, Nat.zero_add, hu]; rfl
      · obtain ⟨u, hu, h1, hr⟩ := hcc i j (by omega) hj
        rw [hu]
        exact ih i j hi hj hr
  | loc n i off b row hD hb hmp hi hl h ih =>
    intro u hr
    have hal : lens (mget M) n = some (b.es.length, b.sz) := by rw [lens_some]; exact ⟨b, hb, Blk.ln_of hmp, rfl⟩
    have B := hW.blk n b hb
    obtain ⟨hn, g, cap, hρ, hv⟩ := rep_loc hr hal
    obtain ⟨cs, fr, hg, hfr, hnI, hown, hlc, hcm, hcs, hcc⟩ := B.real g cap hρ
    have hg := hg.cells hmp
    have hrow : (b.es.getD i []).length = b.sz := by
      have h3 : b.es.getD i [] = b.es[i] := by simp [List.getD_eq_getElem?_getD, hi]
      rw [h3]; exact B.even _ (List.getElem_mem _)
    rw [hv]
    refine .iptr row off g (i * b.sz) (fun j => (cs[i * b.sz + j]?).getD undef) (.inr ⟨n, cap, b, hD, hb, hρ⟩) (fun j hj => ?_) (fun j hj => ?_) (fun j hj => ?_)
    · obtain ⟨u, hu, h1, _⟩ := hcc i j hi (by omega)
      rw [hu]; exact h1
    · obtain ⟨u, hu, h1, _⟩ := hcc i j hi (by omega)
      simp only [World.cell?, hg, hu]; rfl
    · obtain ⟨u, hu, h1, hr⟩ := hcc i j hi (by omega)
      rw [hu]
      exact ih j (by omega) hr
  | clo f cs ds hl h ih =>
    intro u hr
    cases hr with
    | clo f _ vs hvl hr => exact .clo f ds vs (by omega) (fun j hj => ih j (by omega) (hr j (by omega)))
    | yld f _ vs hvl hr => exact .yld f ds vs (by omega) (fun j hj => ih j (by omega) (hr j (by omega)))
  | agg cs ds hl h ih =>
    intro u hr
    cases hr with
    | agg _ vs hvl h1 hr => exact .agg ds vs (by omega) h1 (fun j hj => ih j (by omega) (hr j (by omega)))
  | tup cs ds hl h ih =>
    intro u hr
    cases hr with
    | tup _ vs hvl hr => exact .tup ds vs (by omega) (fun j hj => ih j (by omega) (hr j (by omega)))
end Go.AM

namespace Go.AM
open Go.RowKit
variable {R : Env} {X : Ctx}
inductive Mt (D : Nat → Prop) (M M' : Mem) (nx : Nat) : AV → AV → Prop
  | same (v : AV) : Mt D M M' nx v v
  | drop (v : AV) : Mt D M M' nx v .bad
  | fz (v a : AV) (h : Fz D M v a) : Mt D M M' nx v a
  | virt (n : Nat) (b : Blk) (hb : mget M' n = some b) (he : b.es = []) (hn : nx ≤ n) : Mt D M M' nx .nils (.osl n 0)
  | clo (f : FRef) (cs ds : List AV) (hl : ds.length = cs.length) (h : ∀ j, j < cs.length → Mt D M M' nx (cs.getD j .bad) (ds.getD j .bad)) : Mt D M M' nx (.clo f cs) (.clo f ds)
  | agg (cs ds : List AV) (hl : ds.length = cs.length) (h : ∀ j, j < cs.length → Mt D M M' nx (cs.getD j .bad) (ds.getD j .bad)) : Mt D M M' nx (.agg cs) (.agg ds)
  | tup (cs ds : List AV) (hl : ds.length = cs.length) (h : ∀ j, j < cs.length → Mt D M M' nx (cs.getD j .bad) (ds.getD j .bad)) : Mt D M M' nx (.tup cs) (.tup ds)
structure MtB (D : Nat → Prop) (M M' : Mem) (nx : Nat) (b b' : Blk) : Prop where
  ty : b.ty = b'.ty
  sz : b.sz = b'.sz
  mp : b.mp = b'.mp
  len : b.es.length = b'.es.length
  row : ∀ i, i < b.es.length → (b.es.getD i []).length = (b'.es.getD i []).length
  cell : ∀ i j, i < b.es.length → j < b.sz → Mt D M M' nx ((b.es.getD i []).getD j .bad) ((b'.es.getD i []).getD j .bad)
theorem MtB.ln {D : Nat → Prop} {M M' : Mem} {nx : Nat} {b b' : Blk} (h : MtB D M M' nx b b') : b.ln = b'.ln := by unfold Blk.ln; rw [h.mp, h.len]
def Und (nx : Nat) (b : Blk) : Prop := ∀ e ∈ b.es, AV.underL (· < nx) e
structure Wk (X : Ctx) (S S' : St) : Prop where
  p : X.p ≤ S'.nx
  F : ∀ i, look S'.F i = .bad ∨ (Mt (fun n => X.p ≤ n ∧ mget S'.M n = none) S.M S'.M S.nx (look S.F i) (look S'.F i) ∧ (S.nx ≤ S'.nx ∨ (look S'.F i).under (· < S'.nx)))
  M : ∀ n b', mget S'.M n = some b' → ((∃ b, mget S.M n = some b ∧ MtB (fun n => X.p ≤ n ∧ mget S'.M n = none) S.M S'.M S.nx b b') ∧ (S.nx ≤ S'.nx ∨ (n < S'.nx ∧ Und S'.nx b'))) ∨ (mget S.M n = none ∧ S.nx ≤ n ∧ n < S'.nx ∧ b'.es = [])
def wkPl (S : St) (ρ : Place) : Place := fun n => if S.nx ≤ n then none else ρ n
def wkI (X : Ctx) (S S' : St) (ρ : Place) (I : Nat → Prop) : Nat → Prop := fun g => I g ∨ ∃ n cap b, (X.p ≤ n ∧ mget S'.M n = none) ∧ mget S.M n = some b ∧ ρ n = some (g, cap)
theorem wk_full {S S' : St} (h : Wk X S S') {w : World} {ρ : Place} {I : Nat → Prop} (W : Wok X ρ I (mget S.M) (· < S.nx) w) :
    Wok X (wkPl S ρ) (wkI X S S' ρ I) (mget S'.M) (· < S'.nx) w ∧ ∀ v a u, Rep ρ (lens (mget S.M)) I w (· < S.nx) v u → Mt (fun n => X.p ≤ n ∧ mget S'.M n = none) S.M S'.M S.nx v a → (S.nx ≤ S'.nx ∨ a.under (· < S'.nx)) → Rep (wkPl S ρ) (lens (mget S'.M)) (wkI X S S' ρ I) w (· < S'.nx) a u := by
  obtain ⟨hp, hF, hM⟩ := h
  let D : Nat → Prop := fun n => X.p ≤ n ∧ mget S'.M n = none
  let ρ' : Place := wkPl S ρ
  let I' : Nat → Prop := wkI X S S' ρ I
  have hlt : ∀ n b, mget S.M n = some b → n < S.nx := fun n b h => (W.blk n b h).lt
  have hlens : ∀ n len sz, n < S.nx → lens (mget S'.M) n = some (len, sz) → lens (mget S.M) n = some (len, sz) := by
    intro n len sz hn hl
    obtain ⟨b', hb', rfl, rfl⟩ := lens_some.1 hl
    rcases hM n b' hb' with ⟨⟨b, hb, hB⟩, _⟩ | ⟨_, h2, _⟩
    · exact lens_some.2 ⟨b, hb, hB.ln, hB.sz⟩
    · omega
  have E : Evo (· < S.nx) ρ (lens (mget S.M)) I w ρ' (lens (mget S'.M)) I' w := by
    refine ⟨fun n _ _ hn _ _ => ?_, fun n len sz hn h => ⟨len, hlens n len sz hn h, Nat.le_refl _⟩, fun b hb => .inl hb, fun _ _ => rfl⟩
    have : ¬ S.nx ≤ n := by have : n < S.nx := hn; omega
    simp [ρ', wkPl, this]
  -- the names that may be about: all
  have rM : ∀ v a, Mt D S.M S'.M S.nx v a → ∀ u, Rep ρ (lens (mget S.M)) I w (· < S.nx) v u → Rep ρ' (lens (mget S'.M)) I' w (fun _ => True) a u := by
    intro v a hm
    induction hm with
    | same v => exact fun u hr => (hr.evo E (fun _ h => h)).wide (fun _ _ => trivial)
    | drop v => exact fun u _ => .bad u
    | fz v a h => exact fun u hr => ((h.sound W hr).bare (fun _ h => h) _ _).wide (fun _ h => h.elim)
    | virt n b hb he hn =>
      intro u hr
      cases hr
      refine .osl n 0 _ trivial rfl fun l sz hl => ?_
      obtain ⟨b', hb', rfl, rfl⟩ := lens_some.1 hl
      rw [hb] at hb'
      cases hb'
      rw [Blk.ln_nil he]
      exact ⟨Nat.le_refl _, fun _ => .inl ⟨by simp [ρ', wkPl, hn], none, rfl⟩⟩
    | clo f cs ds hl h ih =>
      intro u hr
      cases hr with
      | clo f _ vs hvl hr => exact .clo f ds vs (by omega) (fun j hj => ih j (by omega) _ (hr j (by omega)))
      | yld f _ vs hvl hr => exact .yld f ds vs (by omega) (fun j hj => ih j (by omega) _ (hr j (by omega)))
    | agg cs ds hl h ih =>
      intro u hr
      cases hr with
      | agg _ vs hvl h1 hr => exact .agg ds vs (by omega) h1 (fun j hj => ih j (by omega) _ (hr j (by omega)))
    | tup cs ds hl h ih =>
      intro u hr
      cases hr with
      | tup _ vs hvl hr => exact .tup ds vs (by omega) (fun j hj => ih j (by omega) _ (hr j (by omega)))
  have bound : ∀ v a, Mt D S.M S'.M S.nx v a → (∀ m ∈ v.names, m < S.nx) → S.nx ≤ S'.nx → ∀ m ∈ a.names, m < S'.nx := by
    intro v a hm
    induction hm with
    | same v => exact fun h hle m hm => by have := h m hm; omega
    | drop v => intro _ _ m hm; simp [AV.names] at hm
    | fz v a h => intro _ _ m hm; rw [h.names] at hm; simp at hm
    | virt n b hb he hn =>
      intro _ hle m hm
      simp [AV.names] at hm
      subst hm
      rcases hM m b hb with ⟨⟨b0, hb0, _⟩, _⟩ | ⟨_, _, h, _⟩
      · have := hlt m b0 hb0; omega
      · exact h
    | clo f cs ds hl h ih =>
      intro hv hle m hm
      simp only [AV.names] at hm
      obtain ⟨j, hj, hmj⟩ := mem_namesL hm
      exact ih j (by omega) (fun m hm => hv m (by simp only [AV.names]; exact names_mem_namesL (by omega) hm)) hle m hmj
    | agg cs ds hl h ih =>
      intro hv hle m hm
      simp only [AV.names] at hm
      obtain ⟨j, hj, hmj⟩ := mem_namesL hm
      exact ih j (by omega) (fun m hm => hv m (by simp only [AV.names]; exact names_mem_namesL (by omega) hm)) hle m hmj
    | tup cs ds hl h ih =>
      intro hv hle m hm
      simp only [AV.names] at hm
      obtain ⟨j, hj, hmj⟩ := mem_namesL hm
      exact ih j (by omega) (fun m hm => hv m (by simp only [AV.names]; exact names_mem_namesL (by omega) hm)) hle m hmj
  have low : ∀ v a u, Rep ρ (lens (mget S.M)) I w (· < S.nx) v u → Mt D S.M S'.M S.nx v a → (S.nx ≤ S'.nx ∨ a.under (· < S'.nx)) → Rep ρ' (lens (mget S'.M)) I' w (· < S'.nx) a u := by
    intro v a u hr hm h
    refine (rM v a hm u hr).low ?_
    rcases h with h | h
    · exact under_of_names a (fun m hm' => bound v a hm (fun m hm => rep_names hr m hm) h m hm')
    · exact h
  refine ⟨⟨fun n b' hb' => ?_, fun n m b b' g c c' hb hb' h1 h2 => ?_, fun g hg => .inl (W.imm g hg), ?_, ?_, W.keeps, fun n hn => by show n < S'.nx; omega, W.fp0, W.par_evo E⟩, low⟩
  · rcases hM n b' hb' with ⟨⟨b, hb, hB⟩, hu⟩ | ⟨h0, h1, hn, h2⟩
    · have B := W.blk n b hb
      have hnlt := hlt n b hb
      have hn : n < S'.nx := by rcases hu with h | h <;> omega
      have hu : S.nx ≤ S'.nx ∨ Und S'.nx b' := hu.imp id (fun h => h.2)
      have hρ' : wkPl S ρ n = ρ n := by simp only [wkPl]; rw [if_neg (by omega)]
      refine ⟨hn, fun e he => ?_, fun h0 => ?_, fun g cap hρ => ?_⟩
      · obtain ⟨i, hi, rfl⟩ := List.getElem_of_mem he
        have h1 : i < b.es.length := by have := hB.len; omega
        have h3 := hB.row i h1
        have h4 := B.even b.es[i] (List.getElem_mem _)
        rw [List.getD_eq_getElem?_getD, List.getD_eq_getElem?_getD, List.getElem?_eq_getElem hi, List.getElem?_eq_getElem h1, Option.getD_some, Option.getD_some] at h3
        have := hB.sz
        omega
      · rw [hρ'] at h0
        have h3 := B.virt h0
        have := hB.len
        rw [h3] at this
        exact List.eq_nil_of_length_eq_zero (by simpa using this.symm)
      · rw [hρ'] at hρ
        obtain ⟨cs, fr, hg, hfr, hnI, hown, hlc, hcm, hcs, hcc⟩ := B.real g cap hρ
        have e1 := hB.len
        have e2 := hB.sz
        refine ⟨cs, fr, by rw [← hB.ty, ← hB.mp, ← hB.sz, ← hB.len]; exact hg, hfr, ?_, hown, by omega, hcm, by rw [← hB.sz]; exact hcs, fun i j hi hj => ?_⟩
        · rintro (h | ⟨m, c', bm, ⟨_, hdm⟩, hbm, hρm⟩)
          · exact hnI h
          · have := W.inj n m b bm g cap c' hb hbm hρ hρm
            subst this
            rw [hb'] at hdm; simp at hdm
        · obtain ⟨u, hu1, hu2, hr⟩ := hcc i j (by omega) (by omega)
          refine ⟨u, by rw [← hB.sz]; exact hu1, hu2, ?_⟩
          refine low _ _ _ hr (hB.cell i j (by omega) (by omega)) ?_
          rcases hu with hu | hu
          · exact .inl hu
          · right
            have hmem : b'.es.getD i [] ∈ b'.es := by
              rw [List.getD_eq_getElem?_getD, List.getElem?_eq_getElem hi, Option.getD_some]; exact List.getElem_mem _
            have hel : (b'.es.getD i []).length = b.sz := by
              rw [← hB.row i (by omega), List.getD_eq_getElem?_getD, List.getElem?_eq_getElem (show i < b.es.length by omega), Option.getD_some]
              exact B.even _ (List.getElem_mem _)
            exact AV.underL_getD _ _ (hu _ hmem) (by omega)
    · refine ⟨hn, fun e he => by rw [h2] at he; simp at he, fun _ => h2, fun g cap hρ => ?_⟩
      change wkPl S ρ n = _ at hρ
      simp only [wkPl, if_pos h1] at hρ
      simp at hρ
  · have o1 : S.nx ≤ n → False := fun h => by simp only [wkPl, if_pos h] at h1; simp at h1
    have o2 : S.nx ≤ m → False := fun h => by simp only [wkPl, if_pos h] at h2; simp at h2
    have e1 : ρ n = some (g, c) := by simpa [wkPl, show ¬ S.nx ≤ n from o1] using h1
    have e2 : ρ m = some (g, c') := by simpa [wkPl, show ¬ S.nx ≤ m from o2] using h2
    rcases hM n b hb with ⟨⟨b0, hb0, _⟩, _⟩ | ⟨_, h, _⟩
    · rcases hM m b' hb' with ⟨⟨b1, hb1, _⟩, _⟩ | ⟨_, h, _⟩
      · exact W.inj n m b0 b1 g c c' hb0 hb1 e1 e2
      · exact (o2 h).elim
    · exact (o1 h).elim
  · rintro g (hg | ⟨n, cap, b, _, hb, hρ⟩)
    · exact W.lt g hg
    · obtain ⟨cs, fr, hc, _⟩ := (W.blk n b hb).real g cap hρ
      exact hc.lt
  · rintro g hg (h | ⟨n, cap, b, ⟨hpn, _⟩, hb, hρ⟩)
    · exact W.old g hg h
    · obtain ⟨cs, fr, hc, _, _, hown, _⟩ := (W.blk n b hb).real g cap hρ
      rcases hown with ⟨h, _⟩ | h
      · exact absurd h (Nat.not_lt.2 hpn)
      · exact absurd hg (Nat.not_lt.2 h)
theorem wk_ok {S S' : St} (h : Wk X S S') {a : Act} {w : World} {ρ : Place} {I : Nat → Prop} (W : Wok X ρ I (mget S.M) (· < S.nx) w) (F : FrmOk ρ I w X S a) :
    Wok X (wkPl S ρ) (wkI X S S' ρ I) (mget S'.M) (· < S'.nx) w ∧ FrmOk (wkPl S ρ) (wkI X S S' ρ I) w X S' a := by
  obtain ⟨h1, low⟩ := wk_full h W
  refine ⟨h1, fun i => ?_, F.defers.mono (fun g hg => .inl hg), F.size⟩
  rcases h.F i with h | ⟨hm, hu⟩
  · rw [h]; exact .bad _
  · exact low _ _ _ (F.rep i) hm hu
theorem sat_wk {S S' : St} (h : Wk X S S') {a : Act} {w : World} (hS : Sat X S a w) : Sat X S' a w := by
  obtain ⟨ρ, I, W, F⟩ := hS
  obtain ⟨W', F'⟩ := wk_ok h W F
  exact ⟨_, _, W', F'⟩
end Go.AM

namespace Go.AM
open Go.RowKit
def beqB (a b : Bool) : Bool := match a, b with
  | true, true => true
  | false, false => true
  | _, _ => false
theorem beqB_eq {a b : Bool} (h : beqB a b = true) : a = b := by cases a <;> cases b <;> simp_all [beqB]
structure AElt (es : List (List AV)) (len i : Nat) (K : List AV → Prop) : Prop where
  len : es.length = len
  h : K (es.getD i [])
structure VIx (ag : Bool) (m sz : Nat) (cs : List AV) (j : Int) (K : AV → Prop) : Prop where
  lt : 0 ≤ j ∧ j < (m : Int)
  h : apart ag sz (j.toNat * sz) cs K
structure ASub {α : Type} (xs : List α) (K : List α → Prop) : Prop where
  h : K xs
structure ALen (es : List (List AV)) (K : Nat → Prop) : Prop where
  h : K es.length
structure ACp (es : List (List AV)) (cnt : Nat) (K : List AV → Nat → Prop) : Prop where
  h : K ((es.take cnt).flatten) (min es.length cnt)
structure AMk (a b : Int) (K : Nat → Prop) : Prop where
  h : (0 ≤ a ∧ a ≤ 1073741824 ∧ a = b) ∧ K a.toNat
structure AStr (es : List (List AV)) (K : List UInt8 → Prop) : Prop where
  h : ∃ s : List UInt8, es = s.map (fun c => [AV.int .u8 c.toNat]) ∧ K s
structure ANil {α : Type} (es : List α) (Y N : Prop) : Prop where
  y : es = [] → Y
  n : N
structure ICallL (R : Env) (X : Ctx) (f : Nat) (args : List AV) (F : Frm) (M : IMem) (nx : Nat) (d : Option Nat) (K : KS) : Prop where
  body : HasBody R.P f
  h : ∃ av ws nw nx' M', CallL R.P X f args (mget (toM M)) av ws nw ∧ (nx ≤ nx' ∧ ∀ n ∈ nw, nx ≤ n ∧ n < nx') ∧ mget (toM M') = mget (msets (toM M) ws) ∧ finK d av F M' nx' K
structure ICallG (R : Env) (X : Ctx) (f : Nat) (args : List AV) (F : Frm) (M : IMem) (nx : Nat) (d : Option Nat) (K : KS) : Prop where
  body : HasBody R.P f
  h : ∃ F' M' nx', K F' M' nx' ∧ ∀ ρ I (a : Act) w vs, (∀ x, d = some x → x < X.size) → Wok X ρ I (mget (toM M)) (· < nx) w → FrmOk ρ I w X ⟨F, toM M, nx⟩ a → RepL ρ (lens (mget (toM M))) I w (· < nx) args vs →
    Calls R.P f vs.toArray w fun e w1 => ∃ v, e = .returned v ∧ Sat X ⟨F', toM M', nx'⟩ (a.put d v) w1
structure ICallR (R : Env) (X : Ctx) (f : Nat) (args : List AV) (F : Frm) (M : IMem) (nx : Nat) (d : Option Nat) (K : KS) : Prop where
  body : HasBody R.P f
  h : ∃ av ws nw nx' M', CallL R.P X f args (mget (toM M)) av ws nw ∧ (∀ p ∈ ws, p.1 ∈ nw) ∧ (nx ≤ nx' ∧ ∀ n ∈ nw, nx ≤ n ∧ n < nx') ∧ mget (toM M') = mget (msets (toM M) ws) ∧ finK d av F M' nx' K
def rch1 : IMem → Nat → List Nat
  | [], _ => []
  | (m, b) :: r, n => bif Nat.beq n m then (match b with
    | .var _ row => AV.namesL row
    | .arr _ _ _ => []
    | .map .. => []) else rch1 r n
def rch (M : IMem) : List Nat → List Nat
  | [] => []
  | n :: r => n :: (rch1 M n ++ rch M r)
structure ICallW (R : Env) (X : Ctx) (f : Nat) (args : List AV) (F : Frm) (M : IMem) (nx : Nat) (d : Option Nat) (K : KS) : Prop where
  body : HasBody R.P f
  h : ∃ av ws nw nx' M', CallR R.P X f args (rch M (AV.namesL args)) (mget (toM M)) av ws nw ∧ (nx ≤ nx' ∧ ∀ n ∈ nw, nx ≤ n ∧ n < nx') ∧ mget (toM M') = mget (msets (toM M) ws) ∧ finK d av F M' nx' K
def XCalls (P : Program) (f : Nat) (args : List AV) (av : AV) : Prop :=
  ∀ (ρ : Place) (L : Lens) (I : Nat → Prop) (N : Nat → Prop) (w : World) (vs : List Value), RepL ρ L I w N args vs → ∃ v, (callFunc f vs.toArray).run P w = .ok (.value v) w ∧ Rep ρ L I w N av v
structure ICallX (R : Env) (f : Nat) (args : List AV) (F : Frm) (M : IMem) (nx : Nat) (d : Option Nat) (K : KS) : Prop where
  h : ∃ av, XCalls R.P f args av ∧ finK d av F M nx K
def RoundsV (P : Program) (l : Nat) (vs : List Value) (w : World) (Q : World → Prop) : Prop :=
  ∃ r : Loop, w.heap[l]? = some (.loop r) ∧ vs.length = r.params.size ∧ ∀ c cs, ∃ w', Q w' ∧
    Steps P (lone (Frame.round l r.fn ((r.params.zip vs.toArray).foldl (fun t (q, v) => t.setIfInBounds q v) r.tmps) r.assign r.body .normal) (c :: cs) w) (lone (c.finish (.bool true)) cs w')
structure IYield (R : Env) (X : Ctx) (l : Nat) (tm : List Value) (caps args : List AV) (F : Frm) (M : IMem) (nx : Nat) (d : Option Nat) (K : KS) : Prop where
  h : ∃ F' M' nx', K F' M' nx' ∧ ∀ ρ I (a : Act) w vs, (∀ x, d = some x → x < X.size) → Wok X ρ I (mget (toM M)) (· < nx) w → FrmOk ρ I w X ⟨F, toM M, nx⟩ a → RepL ρ (lens (mget (toM M))) I w (· < nx) args vs →
    RepL ρ (lens (mget (toM M))) I w (· < nx) caps tm → RoundsV R.P l vs w fun w1 => Sat X ⟨F', toM M', nx'⟩ (a.put d (.bool true)) w1
structure ICall (R : Env) (X : Ctx) (lo : Bool) (f : Nat) (args : List AV) (F : Frm) (M : IMem) (nx : Nat) (d : Option Nat) (K : KS) : Prop where
  h : ICallL R X f args F M nx d K ∨ (lo = false ∧ ICallG R X f args F M nx d K)
def pickK (v : AV) (X Y : Prop) : Prop :=
  match v with
  | .bool t => True → ACnd t X Y
  | _ => False
def aliveK (M : IMem) (n len : Nat) (K : IBlk → Prop) : Prop :=
  igetK M n fun b => match b with
    | .var ty row => bif Nat.beq len 1 then K (.var ty row) else False
    | .arr ty sz es => True → es.length = len ∧ K (.arr ty sz es)
    | .map .. => False
def loadK (ag : Bool) (n : Nat) (v : AV) (M : IMem) (K : AV → Prop) : Prop :=
  match v with
  | .loc nm len i off => igetK M nm fun b => match b with
    | .var _ row => bif Nat.beq len 1 then (bif Nat.beq i 0 then partK ag n off row K else False) else False
    | .arr _ _ es => True → AElt es len i fun row => partK ag n off row K
    | .map .. => False
  | .iptr e off => partK ag n off e K
  | _ => False
def storeK (a : AV) (cs : List AV) (M : IMem) (K : IMem → Prop) : Prop :=
  match a with
  | .loc nm len i off => igetK M nm fun b => match b with
    | .var ty row => bif Nat.beq len 1 then (bif Nat.beq i 0 then spliceK off cs row fun row' => isetK M nm (.var ty row') K else False) else False
    | .arr ty sz es => True → AElt es len i fun row => spliceK off cs row fun row' => isetK M nm (.arr ty sz (es.set i row')) K
    | .map .. => False
  | _ => False
def keqK (k k' : IntKind) (X : Prop) : Prop := bif keq k k' then X else False
def binK (op : BinOp) (v u : AV) (K : AV → Prop) : Prop :=
  match v, u with
  | .int k a, .int k' b =>
    match op with
    | .shl => True → 0 ≤ b ∧ K (.int k (shlI k a b))
    | .shr => True → 0 ≤ b ∧ K (.int k (shrI k a b))
    | .add => keqK k k' (True → IWr k (a + b) fun m => K (.int k m))
    | .sub => keqK k k' (True → IWr k (a - b) fun m => K (.int k m))
    | .mul => keqK k k' (True → IWr k (a * b) fun m => K (.int k m))
    | .quo => keqK k k' (True → b ≠ 0 ∧ (True → IWr k (a.tdiv b) fun m => K (.int k m)))
    | .rem => keqK k k' (True → b ≠ 0 ∧ K (.int k (a.tmod b)))
    | .and => keqK k k' (K (.int k (bit2 .and k a b)))
    | .or => keqK k k' (K (.int k (bit2 .or k a b)))
    | .xor => keqK k k' (K (.int k (bit2 .xor k a b)))
    | .andNot => keqK k k' (K (.int k (bit2 .andNot k a b)))
    | .eql => keqK k k' (K (.bool (a == b)))
    | .neq => keqK k k' (K (.bool (a != b)))
    | .lss => keqK k k' (K (.bool (decide (a < b))))
    | .leq => keqK k k' (K (.bool (decide (a ≤ b))))
    | .gtr => keqK k k' (K (.bool (decide (a > b))))
    | .geq => keqK k k' (K (.bool (decide (a ≥ b))))
  | _, _ => False
def eqcK (l : LK) (a b : AV) (K : Bool → Prop) : Prop :=
  match l, a, b with
  | .i, .int k x, .int k' y => bif keq k k' then K (x == y) else False
  | .b, .bool x, .bool y => K (x == y)
  | .s, .str x, .str y => K (x == y)
  | _, _, _ => False
def eqaK : List LK → List AV → List AV → (Bool → Prop) → Prop
  | l :: r, a :: as, b :: bs, K => eqcK l a b fun t => (match r with
    | [] => eqaK r as bs fun _ => K t
    | _ => eqaK r as bs fun u => K (t && u))
  | [], [], [], K => K true
  | _, _, _, _ => False
def negK (neg : Bool) (K : AV → Prop) (r : Bool) : Prop :=
  match neg with
  | true => K (.bool !r)
  | false => K (.bool r)
def bstK (op : BinOp) (a b : List UInt8) (K : AV → Prop) : Prop :=
  match op with
  | .add => True → (a.length + b.length ≤ 9223372036854775807) ∧ K (.str (a ++ b))
  | .eql => K (.bool (a == b))
  | .neq => K (.bool !(a == b))
  | .lss => K (.bool (Op.bytesLess a b))
  | .leq => K (.bool (Op.bytesLess a b || a == b))
  | .gtr => K (.bool !(Op.bytesLess a b || a == b))
  | .geq => K (.bool !(Op.bytesLess a b))
  | _ => False
def unK (op : UnOp) (v : AV) (K : AV → Prop) : Prop :=
  match op, v with
  | .neg, .int k n => True → IWr k (0 - n) fun m => K (.int k m)
  | .xor, .int k n => K (.int k (bit2 .xor k (if k.signed then -1 else k.max) n))
  | .not, .bool b => K (.bool !b)
  | _, _ => False
def idxSK (sz : Nat) (v ix : AV) (M : IMem) (K : AV → Prop) : Prop :=
  match ix with
  | .int _ j => (match v with
    | .isl s es => bif Nat.beq s sz then (True → (0 ≤ j ∧ j < es.length) ∧ (True → EGet es j.toNat fun row => K (.iptr row 0))) else False
    | .osl nm len => igetK M nm fun b => (match b with
      | .arr _ s es => bif Nat.beq s sz then (True → (es.length = len ∧ 0 ≤ j ∧ j < len) ∧ K (.loc nm len j.toNat 0)) else False
      | .var .. => False
      | .map .. => False)
    | .vsl nm len i off cnt => aliveK M nm len fun _ => True → AIx j cnt fun c => K (.loc nm len i (off + c * sz))
    | _ => False)
  | _ => False
def idxAK (m sz : Nat) (v ix : AV) (M : IMem) (K : AV → Prop) : Prop :=
  match ix with
  | .int _ j => (match v with
    | .loc nm len i off => aliveK M nm len fun _ => True → AIx j m fun c => K (.loc nm len i (off + c * sz))
    | .iptr row off => True → AIx j m fun c => K (.iptr row (off + c * sz))
    | _ => False)
  | _ => False
def mmF (mx : Bool) (k : IntKind) (a : Int) : List AV → (AV → Prop) → Prop
  | [], K => K (.int k a)
  | .int _ b :: r, K => (match mx with
    | true => mmF mx k (max a b) r K
    | false => mmF mx k (min a b) r K)
  | _, _ => False
def mmK (mx : Bool) (as : List AV) (K : AV → Prop) : Prop :=
  match as with
  | .int k a :: r => mmF mx k a r K
  | _ => False
def asrcK (sz : Nat) (x : AV) (M : IMem) (K : List (List AV) → Prop) : Prop :=
  match x with
  | .isl s es => bif Nat.beq s sz then K es else False
  | .nils => K []
  | .osl n len => igetK M n fun b => (match b with
    | .arr _ s es => bif Nat.beq s sz then (True → es.length = len ∧ K es) else False
    | .var .. => False
    | .map .. => False)
  | .vsl n len i off cnt => igetK M n fun b => (match b with
    | .var _ row => bif Nat.beq len 1 then (bif Nat.beq i 0 then (bif Nat.beq sz 0 then False else dropK off row fun r => chopK sz cnt r K) else False) else False
    | .arr .. => False
    | .map .. => False)
  | _ => False
def copyK (sz : Nat) (v : AV) (M : IMem) (src : (List (List AV) → Prop) → Prop) (K : Nat → IMem → Prop) : Prop :=
  match v with
  | .vsl n len i off cnt => igetK M n fun b => (match b with
    | .var ty row => bif Nat.beq len 1 then (bif Nat.beq i 0 then (bif Nat.ble (off + cnt * sz) row.length then src fun xs => True → ACp xs cnt fun vs k => spliceK off vs row fun row' => isetK M n (.var ty row') fun M' => K k M' else False) else False) else False
    | .arr .. => False
    | .map .. => False)
  | _ => False
def asrcTK (x : AV) (K : List (List AV) → Prop) : Prop :=
  match x with
  | .str s => K (s.map fun c => [.int .u8 c.toNat])
  | _ => False
def appK (ty sz : Nat) (s : AV) (src : (List (List AV) → Prop) → Prop) (M : IMem) (nx : Nat) (K : AV → IMem → Nat → Prop) : Prop :=
  match s with
  | .osl n len => igetK M n fun b => (match b with
    | .arr t z es => bif Nat.beq z sz then (True → (t = ty ∧ es.length = len) ∧ src fun xs => True → es.length + xs.length ≤ 1073741824 ∧ isetK M n (.arr t z (es ++ xs)) fun M' => K (.osl n (es ++ xs).length) M' nx) else False
    | .var .. => False
    | .map .. => False)
  | .nils => src fun xs => True → xs.length ≤ 1073741824 ∧ K (.osl nx xs.length) ((nx, .arr ty sz xs) :: M) (nx + 1)
  | _ => False
def appZK (ty sz : Nat) (z : List AV) (s x : AV) (M : IMem) (nx : Nat) (K : AV → IMem → Nat → Prop) : Prop :=
  match x with
  | .int _ m => (match s with
    | .osl n len => igetK M n fun b => (match b with
      | .arr t q es => bif Nat.beq q sz then (True → (t = ty ∧ es.length = len) ∧ (True → AMk m m fun k => True → es.length + k ≤ 1073741824 ∧ isetK M n (.arr t q (es ++ List.replicate k z)) fun M' => K (.osl n (es ++ List.replicate k z).length) M' nx)) else False
      | .var .. => False
      | .map .. => False)
    | .nils => True → AMk m m fun k => K (.osl nx k) ((nx, .arr ty sz (List.replicate k z)) :: M) (nx + 1)
    | _ => False)
  | _ => False
def slcSK (sz : Nat) (v : AV) (lo hi mx : Option AV) (K : AV → Prop) : Prop :=
  match v with
  | .isl s es => bif Nat.beq s sz then (match lo, hi, mx with
    | none, some (.int _ h), none => True → (0 ≤ h ∧ h ≤ es.length) ∧ (True → ASub (es.take h.toNat) fun xs => K (.isl sz xs))
    | some (.int _ l), none, none => True → (0 ≤ l ∧ l ≤ es.length) ∧ (True → ASub (es.drop l.toNat) fun xs => K (.isl sz xs))
    | some (.int _ l), some (.int _ h), none => True → (0 ≤ l ∧ l ≤ h ∧ h ≤ es.length) ∧ (True → ASub ((es.take h.toNat).drop l.toNat) fun xs => K (.isl sz xs))
    | none, some (.int _ h), some (.int _ m) => True → (0 ≤ h ∧ h ≤ m ∧ m ≤ es.length) ∧ (True → ASub (es.take h.toNat) fun xs => K (.isl sz xs))
    | _, _, _ => False) else False
  | _ => False
def slcTK (v : AV) (lo hi : Option AV) (K : AV → Prop) : Prop :=
  match v with
  | .str s => (match lo, hi with
    | none, some (.int _ h) => True → (0 ≤ h ∧ h ≤ s.length) ∧ (True → ASub (s.take h.toNat) fun xs => K (.str xs))
    | some (.int _ l), none => True → (0 ≤ l ∧ l ≤ s.length) ∧ (True → ASub (s.drop l.toNat) fun xs => K (.str xs))
    | some (.int _ l), some (.int _ h) => True → (0 ≤ l ∧ l ≤ h ∧ h ≤ s.length) ∧ (True → ASub ((s.take h.toNat).drop l.toNat) fun xs => K (.str xs))
    | _, _ => False)
  | _ => False
def lenSK (v : AV) (M : IMem) (K : AV → Prop) : Prop :=
  match v with
  | .isl _ es => True → ALen es fun n => K (.int .i64 n)
  | .osl n len => aliveK M n len fun _ => K (.int .i64 len)
  | .vsl n len _ _ cnt => aliveK M n len fun _ => K (.int .i64 cnt)
  | .nils => K (.int .i64 0)
  | _ => False
def extK : Nat → List AV → (AV → Prop) → Prop
  | 0, v :: _, K => K v
  | n + 1, _ :: r, K => extK n r K
  | _, [], _ => False
structure AFd (ls : List LK) (kc : List AV) (es : List (List AV)) (K : Option (Nat × List AV) → Prop) : Prop where
  ok : ∀ r ∈ es, kvOk ls kc r = true
  h : K (mfind kc es)
structure AFv (kc : List AV) (es : List (List AV)) (K : AV → Prop) : Prop where
  g : ∀ r ∈ es, g64 r = true
  h : K (cntV (mfind kc es))
structure AFg (kc : List AV) (es : List (List AV)) (K : Option (Nat × List AV) → Prop) : Prop where
  g : ∀ r ∈ es, g64 r = true
  h : K (mfind kc es)
structure AEn (es : List (List AV)) (j : Int) (K : Nat → List AV → Prop) : Prop where
  h : ∃ (i : Nat) (r : List AV), j = i ∧ es[i]? = some r ∧ K i r
def keyK (ls : List LK) (ag : Bool) (u : AV) (K : List AV → Prop) : Prop := cellsK u fun kc => bif beqB u.isAg ag && Nat.beq kc.length ls.length && kvOk ls kc kc then K kc else False
def valK (va : Bool) (l : List AV) (K : AV → Prop) : Prop :=
  match va with
  | true => K (.agg l)
  | false => match l with
    | c :: _ => K c
    | [] => False
def lokK (ok va : Bool) (z : AV) (q : Option (Nat × List AV)) (K : AV → Prop) : Prop :=
  match q with
  | some q => valK va q.2 fun v => (match ok with
    | true => K (.tup [v, .bool true])
    | false => K v)
  | none => (match ok with
    | true => K (.tup [z, .bool false])
    | false => K z)
def putK (q : Option (Nat × List AV)) (es : List (List AV)) (r : List AV) (K : List (List AV) → Prop) : Prop :=
  match q with
  | some q => K (es.set q.1 r)
  | none => K (es ++ [r])
def entK (va : Bool) (z : AV) (q : Option (Nat × List AV)) (es : List (List AV)) (kc zs : List AV) (K : AV → Nat → List (List AV) → Prop) : Prop :=
  match q with
  | some q => valK va q.2 fun v => K v q.1 es
  | none => K z es.length (es ++ [kc ++ zs])
def mapK (ls : List LK) (ag va : Bool) (v : AV) (M : IMem) (K : Nat → Bool → Nat → List (List AV) → Prop) : Prop :=
  match v with
  | .omap n => igetK M n fun b => (match b with
    | .map k ka vb dn sz es => bif Nat.beq k ls.length && beqB ka ag && beqB vb va && Nat.blt k sz then K n dn sz es else False
    | .arr .. => False
    | .var .. => False)
  | _ => False
def iop (R : Env) (X : Ctx) (lo : Bool) (i : IOp) (d : Option Nat) (F : Frm) (M : IMem) (nx : Nat) (K : KS) : Prop :=
  match i with
  | .mv x => evK R F x fun v => finK d v F M nx K
  | .pick c a b => evK R F c fun v => pickK v (evK R F a fun u => finK d u F M nx K) (evK R F b fun u => finK d u F M nx K)
  | .alloc ty z => finK d (.loc nx 1 0 0) F ((nx, .var (R.ty ty) z) :: M) (nx + 1) K
  | .box ty x => evK R F x fun v => cellsK v fun cs => finK d (.loc nx 1 0 0) F ((nx, .var (R.ty ty) cs) :: M) (nx + 1) K
  | .build z ps => bldK R F ps z fun cs => finK d (.agg cs) F M nx K
  | .bslice ty sz len z ps => repK z len fun es => fillK R F sz ps es fun es' => finK d (.osl nx len) F ((nx, .arr (R.ty ty) sz es') :: M) (nx + 1) K
  | .load ag n x => evK R F x fun v => loadK ag n v M fun u => finK d u F M nx K
  | .store n x v => evK R F x fun a => evK R F v fun u => cellsK u fun cs => lenIs cs n (storeK a cs M fun M' => finK d (.tup []) F M' nx K)
  | .nilck x => evK R F x fun v => (match v with
    | .loc nm len i q => aliveK M nm len fun _ => finK d (.loc nm len i q) F M nx K
    | .iptr e q => finK d (.iptr e q) F M nx K
    | .clo f cs => finK d (.clo f cs) F M nx K
    | _ => False)
  | .bin op x y => evK R F x fun v => evK R F y fun u => binK op v u fun r => finK d r F M nx K
  | .eqb neg x y => evK R F x fun v => evK R F y fun u => (match v, u with
    | .bool a, .bool b => (match neg with
      | true => finK d (.bool (a != b)) F M nx K
      | false => finK d (.bool (a == b)) F M nx K)
    | _, _ => False)
  | .eqa neg ls x y => evK R F x fun v => evK R F y fun u => (match v, u with
    | .agg as, .agg bs => eqaK ls as bs (negK neg fun r => finK d r F M nx K)
    | _, _ => False)
  | .bst op x y => evK R F x fun v => evK R F y fun u => (match v, u with
    | .str a, .str b => bstK op a b fun r => finK d r F M nx K
    | _, _ => False)
  | .un op x => evK R F x fun v => unK op v fun r => finK d r F M nx K
  | .conv k x => evK R F x fun v => (match v with
    | .int _ n => True → IWr k n fun m => finK d (.int k m) F M nx K
    | _ => False)
  | .sstr x => evK R F x fun v => (match v with
    | .str s => finK d (.str s) F M nx K
    | _ => False)
  | .mkf g cs => evLK R F cs fun l => finK d (R.cl g l) F M nx K
  | .fldA off x => evK R F x fun v => (match v with
    | .loc nm len i q => aliveK M nm len fun _ => finK d (.loc nm len i (q + off)) F M nx K
    | .iptr e q => finK d (.iptr e (q + off)) F M nx K
    | _ => False)
  | .idxS sz x i => evK R F x fun v => evK R F i fun ix => idxSK sz v ix M fun r => finK d r F M nx K
  | .idxA m sz x i => evK R F x fun v => evK R F i fun ix => idxAK m sz v ix M fun r => finK d r F M nx K
  | .slcS _ sz x lo hi mx => evK R F x fun v => evOK R F lo fun l => evOK R F hi fun h => evOK R F mx fun m => slcSK sz v l h m fun r => finK d r F M nx K
  | .slcT x lo hi => evK R F x fun v => evOK R F lo fun l => evOK R F hi fun h => slcTK v l h fun r => finK d r F M nx K
  | .ext x i => evK R F x fun v => (match v with
    | .tup vs => extK i vs fun r => finK d r F M nx K
    | _ => False)
  | .call g as => evLK R F as fun l => True → ICall R X lo (R.ft g) l F M nx d K
  | .callv f as => evK R F f fun v => (match v with
    | .clo (.fn g) caps => evLK R F as fun l => True → ICall R X lo g (l ++ caps) F M nx d K
    | .clo (.lp l tm) caps => (match lo with
      | true => False
      | false => evLK R F as fun args => True → IYield R X l tm caps args F M nx d K)
    | _ => False)
  | .callx g as => evLK R F as fun l => True → ICallX R (R.ft g) l F M nx d K
  | .callr f as => evK R F f fun v => (match v with
    | .clo (.fn g) caps => evLK R F as fun l => True → ICallR R X g (l ++ caps) F M nx d K
    | _ => False)
  | .callw f as => evK R F f fun v => (match v with
    | .clo (.fn g) caps => evLK R F as fun l => (match lo with
      | true => True → ICallW R X g (l ++ caps) F M nx d K
      | false => False)
    | _ => False)
  | .isn neg x => evK R F x fun v => (match v with
    | .nilp => (match neg with
      | true => finK d (.bool false) F M nx K
      | false => finK d (.bool true) F M nx K)
    | .iptr _ _ => finK d (.bool neg) F M nx K
    | .loc nm len _ _ => aliveK M nm len fun _ => finK d (.bool neg) F M nx K
    | _ => False)
  | .isnS neg x => evK R F x fun v => (match v with
    | .isl _ es => (match lo with
      | true => False
      | false => True → ANil es (match neg with
        | true => finK d (.bool false) F M nx K
        | false => finK d (.bool true) F M nx K) (finK d (.bool neg) F M nx K))
    | _ => False)
  | .clip0 ty sz x => evK R F x fun v => (match v with
    | .isl _ _ => finK d (.osl nx 0) F ((nx, .arr (R.ty ty) sz []) :: M) (nx + 1) K
    | _ => False)
  | .idxV ag m sz x i => evK R F x fun v => evK R F i fun ix => (match v, ix with
    | .agg cs, .int _ j => True → VIx ag m sz cs j fun r => finK d r F M nx K
    | _, _ => False)
  | .idxT x i => evK R F x fun v => evK R F i fun ix => (match v, ix with
    | .str s, .int _ j => True → (0 ≤ j ∧ j < (s.length : Int)) ∧ finK d (.int .u8 (s.getD j.toNat 0).toNat) F M nx K
    | _, _ => False)
  | .b2s x => evK R F x fun v => asrcK 1 v M fun es => True → AStr es fun s => finK d (.str s) F M nx K
  | .slcA m sz x lo hi mx => (match lo, hi, mx with
    | none, none, none => evK R F x fun v => (match v with
      | .loc nm len i off => aliveK M nm len fun _ => finK d (.vsl nm len i off m) F M nx K
      | .iptr r off => bif Nat.beq sz 0 then False else dropK off r fun r' => chopK sz m r' fun es => finK d (.isl sz es) F M nx K
      | _ => False)
    | _, _, _ => False)
  | .copy sz x y => evK R F x fun v => evK R F y fun u => copyK sz v M (asrcK sz u M) fun n M' => finK d (.int .i64 n) F M' nx K
  | .mks ty sz z l c => evK R F l fun v => evK R F c fun u => (match v, u with
    | .int _ a, .int _ b => True → AMk a b fun n => finK d (.osl nx n) F ((nx, .arr (R.ty ty) sz (List.replicate n z)) :: M) (nx + 1) K
    | _, _ => False)
  | .s2b ty x => evK R F x fun v => (match v with
    | .str s => True → s.length ≤ 1073741824 ∧ finK d (.osl nx s.length) F ((nx, .arr (R.ty ty) 1 (s.map fun c => [.int .u8 c.toNat])) :: M) (nx + 1) K
    | _ => False)
  | .lenA n => finK d (.int .i64 n) F M nx K
  | .lenS x => evK R F x fun v => lenSK v M fun r => finK d r F M nx K
  | .lenT x => evK R F x fun v => (match v with
    | .str s => finK d (.int .i64 s.length) F M nx K
    | _ => False)
  | .mm mx as => evLK R F as fun l => mmK mx l fun r => finK d r F M nx K
  | .app ty sz s x => evK R F s fun v => evK R F x fun u => appK (R.ty ty) sz v (asrcK sz u M) M nx fun r M' nx' => finK d r F M' nx' K
  | .appZ ty sz z s x => evK R F s fun v => evK R F x fun u => appZK (R.ty ty) sz z v u M nx fun r M' nx' => finK d r F M' nx' K
  | .appT ty s x => evK R F s fun v => evK R F x fun u => appK (R.ty ty) 1 v (asrcTK u) M nx fun r M' nx' => finK d r F M' nx' K
  | .mkm k ka va sz => finK d (.omap nx) F ((nx, .map k ka va true sz []) :: M) (nx + 1) K
  | .lkm ls ag va z ok x key => evK R F x fun v => evK R F key fun u => mapK ls ag va v M fun _ _ _ es => keyK ls ag u fun kc => True → AFd ls kc es fun q => lokK ok va z q fun r => finK d r F M nx K
  | .upm ls ag va x key y => evK R F x fun v => evK R F key fun u => evK R F y fun w => mapK ls ag va v M fun n dn sz es => keyK ls ag u fun kc => cellsK w fun vs => bif beqB w.isAg va && Nat.beq (ls.length + vs.length) sz then
      (True → AFd ls kc es fun q => True → es.length + 1 ≤ 1073741824 ∧ putK q es (kc ++ vs) fun es' => isetK M n (.map ls.length ag va dn sz es') fun M' => finK d (.tup []) F M' nx K) else False
  | .enm ls ag va z x key => evK R F x fun v => evK R F key fun u => mapK ls ag va v M fun n dn sz es => keyK ls ag u fun kc => cellsK z fun zs => bif beqB z.isAg va && Nat.beq (ls.length + zs.length) sz && dn then
      (True → AFd ls kc es fun q => True → es.length + 1 ≤ 1073741824 ∧ entK va z q es kc zs fun r i es' => isetK M n (.map ls.length ag va true sz es') fun M' => finK d (.tup [r, .int .i64 i]) F M' nx K) else False
  | .lkc ls ag x key => evK R F x fun v => evK R F key fun u => mapK ls ag false v M fun _ _ sz es => keyK ls ag u fun kc => bif Nat.beq sz (ls.length + 1) && g64 kc then (True → AFv kc es fun r => finK d r F M nx K) else False
  | .enc ls ag x key => evK R F x fun v => evK R F key fun u => mapK ls ag false v M fun n dn sz es => keyK ls ag u fun kc => bif Nat.beq sz (ls.length + 1) && g64 kc && dn then
      (True → AFg kc es fun q => True → es.length + 1 ≤ 1073741824 ∧ entK false (.int .i64 0) q es kc [.int .i64 0] fun r i es' => isetK M n (.map ls.length ag false true sz es') fun M' => finK d (.tup [r, .int .i64 i]) F M' nx K) else False
  | .stm va x st y => evK R F x fun v => evK R F st fun u => evK R F y fun w => (match v, u with
    | .omap n, .int _ j => igetK M n fun b => (match b with
      | .map k ka vb dn sz es => cellsK w fun vs => bif beqB w.isAg va && beqB vb va && Nat.beq (k + vs.length) sz && dn then
          (True → AEn es j fun i row => takeK k row fun kc => isetK M n (.map k ka va true sz (es.set i (kc ++ vs))) fun M' => finK d (.tup []) F M' nx K) else False
      | .arr .. => False
      | .var .. => False)
    | _, _ => False)
  | _ => False
def seq0 (a b : AV) : Bool :=
  match a, b with
  | .int k n, .int k' n' => keq k k' && decide (n = n')
  | .bool x, .bool y => x == y
  | .str s, .str t => decide (s = t)
  | .nilp, .nilp => true
  | .nils, .nils => true
  | .nilf, .nilf => true
  | .nili, .nili => true
  | _, _ => false
def seqL : List AV → List AV → Bool
  | [], [] => true
  | a :: r, b :: s => seq0 a b && seqL r s
  | _, _ => false
def seqV (a b : AV) : Bool :=
  match a, b with
  | .agg cs, .agg ds => seqL cs ds
  | .tup cs, .tup ds => seqL cs ds
  | a, b => seq0 a b
theorem seq0_eq {a b : AV} (h : seq0 a b = true) : a = b := by
  cases a <;> cases b <;> simp_all [seq0]
  exact keq_eq h.1
theorem seqL_eq : ∀ {a b : List AV}, seqL a b = true → a = b
  | [], [], _ => rfl
  | a :: r, b :: s, h => by
    simp only [seqL, Bool.and_eq_true] at h
    rw [seq0_eq h.1, seqL_eq h.2]
  | [], _ :: _, h => by simp [seqL] at h
  | _ :: _, [], h => by simp [seqL] at h
theorem seqV_eq {a b : AV} (h : seqV a b = true) : a = b := by
  unfold seqV at h
  split at h
  · rw [seqL_eq h]
  · rw [seqL_eq h]
  · exact seq0_eq h
def msc (R : Env) : Operand → Sc → Bool
  | .tmp t, .t n => Nat.beq t n
  | .const v, .k u => seqV (ofV v) u
  | .func f, .f g => Nat.beq (R.ft g) f
  | _, _ => false
def mscL (R : Env) : List Operand → List Sc → Bool
  | [], [] => true
  | x :: r, y :: s => msc R x y && mscL R r s
  | _, _ => false
def mscO (R : Env) : Option Operand → Option Sc → Bool
  | none, none => true
  | some x, some y => msc R x y
  | _, _ => false
theorem msc_eq {R : Env} {F : Frm} {x : Operand} {y : Sc} (h : msc R x y = true) : ev F x = scv R F y := by
  cases x <;> cases y <;> simp only [msc] at h <;> first | (simp at h; done) | skip
  · rw [Nat.eq_of_beq_eq_true h]; rfl
  · exact seqV_eq h
  · simp only [ev, scv, Env.cl, Nat.eq_of_beq_eq_true h]
theorem mscL_eq {R : Env} {F : Frm} : ∀ {xs : List Operand} {ys : List Sc}, mscL R xs ys = true → evL F xs = ys.map (scv R F)
  | [], [], _ => rfl
  | x :: r, y :: s, h => by
    simp only [mscL, Bool.and_eq_true] at h
    simp only [evL, List.map_cons, msc_eq (F := F) h.1, mscL_eq h.2]
  | [], _ :: _, h => by simp [mscL] at h
  | _ :: _, [], h => by simp [mscL] at h
theorem mscO_eq {R : Env} {F : Frm} {x : Option Operand} {y : Option Sc} (h : mscO R x y = true) : evO F x = y.map (scv R F) := by
  cases x <;> cases y <;> simp only [mscO] at h <;> first | (simp at h; done) | rfl | skip
  simp only [evO, Option.map_some, msc_eq (F := F) h]
def mpsS (R : Env) (fs : List (Nat × Nat)) : List (Nat × Operand) → List (Nat × Nat × Sc) → Bool
  | [], [] => true
  | (i, x) :: r, (off, n, y) :: s => (match fs[i]? with
    | some (o, t) => Nat.beq o off && Nat.beq (R.T.s t) n && !Nat.beq n 0
    | none => false) && msc R x y && mpsS R fs r s
  | _, _ => false
def mpsA (R : Env) (sz : Nat) : List (Nat × Operand) → List (Nat × Nat × Sc) → Bool
  | [], [] => true
  | (i, x) :: r, (off, n, y) :: s => Nat.beq (i * sz) off && Nat.beq sz n && !Nat.beq n 0 && msc R x y && mpsA R sz r s
  | _, _ => false
def mpsE (R : Env) : List (Nat × Operand) → List (Nat × Sc) → Bool
  | [], [] => true
  | (i, x) :: r, (j, y) :: s => Nat.beq i j && msc R x y && mpsE R r s
  | _, _ => false
def bno : BinOp → Nat
  | .add => 0 | .sub => 1 | .mul => 2 | .quo => 3 | .rem => 4 | .and => 5 | .or => 6 | .xor => 7 | .shl => 8 | .shr => 9 | .andNot => 10 | .eql => 11 | .neq => 12 | .lss => 13 | .leq => 14 | .gtr => 15 | .geq => 16
theorem bno_eq {a b : BinOp} (h : Nat.beq (bno a) (bno b) = true) : a = b := by
  have := Nat.eq_of_beq_eq_true h
  cases a <;> cases b <;> first | rfl | (simp [bno] at this)
def uno : UnOp → Nat
  | .neg => 0 | .not => 1 | .xor => 2 | .plus => 3
theorem uno_eq {a b : UnOp} (h : Nat.beq (uno a) (uno b) = true) : a = b := by
  have := Nat.eq_of_beq_eq_true h
  cases a <;> cases b <;> first | rfl | (simp [uno] at this)
def is0 : Option Operand → Bool
  | some (.const (.int _ (.ofNat 0))) => true
  | _ => false
theorem is0_eq {b : Option Operand} (h : is0 b = true) : ∃ k, b = some (.const (.int k 0)) := by
  unfold is0 at h
  split at h
  · exact ⟨_, rfl⟩
  · simp at h
def isEq (op : BinOp) (neg : Bool) : Bool :=
  match op, neg with
  | .eql, false => true
  | .neq, true => true
  | _, _ => false
theorem isEq_eq {op : BinOp} {neg : Bool} (h : isEq op neg = true) : op = if neg then .neq else .eql := by cases op <;> cases neg <;> simp_all [isEq]
def lkEq : List LK → List LK → Bool
  | [], [] => true
  | .i :: r, .i :: s => lkEq r s
  | .b :: r, .b :: s => lkEq r s
  | .s :: r, .s :: s => lkEq r s
  | _, _ => false
theorem lkEq_eq : ∀ {a b : List LK}, lkEq a b = true → a = b
  | [], [], _ => rfl
  | .i :: r, .i :: s, h => by rw [lkEq_eq (a := r) (b := s) h]
  | .b :: r, .b :: s, h => by rw [lkEq_eq (a := r) (b := s) h]
  | .s :: r, .s :: s, h => by rw [lkEq_eq (a := r) (b := s) h]
def mcall (R : Env) (c : Call) (i : IOp) : Bool :=
  match c.callee, i with
  | .value f, .call g as => msc R f (.f g) && mscL R c.args.toList as
  | .value f, .callv y as => msc R f y && mscL R c.args.toList as
  | .value f, .callr y as => msc R f y && mscL R c.args.toList as
  | .value f, .callw y as => msc R f y && mscL R c.args.toList as
  | .value f, .callx g as => msc R f (.f g) && mscL R c.args.toList as
  | .builtin .len, .lenA n => (match c.args.toList, c.argTypes.toList with
    | [_], [t] => (match R.T.d t with
      | .arr m _ => Nat.beq m n
      | _ => false)
    | _, _ => false)
  | .builtin .len, .lenS y => (match c.args.toList, c.argTypes.toList with
    | [x], [t] => msc R x y && (match R.T.d t with
      | .slice _ => true
      | _ => false)
    | _, _ => false)
  | .builtin .len, .lenT y => (match c.args.toList, c.argTypes.toList with
    | [x], [t] => msc R x y && (match R.T.d t with
      | .str => true
      | _ => false)
    | _, _ => false)
  | .builtin .min, .mm false as => mscL R c.args.toList as
  | .builtin .max, .mm true as => mscL R c.args.toList as
  | .builtin .append, .app ty sz s y => (match c.args.toList, c.argTypes.toList with
    | [x1, x2], [t, t'] => msc R x1 s && msc R x2 y && (match R.T.d t, R.T.d t' with
      | .slice e, .slice _ => Nat.beq (R.ty ty) e && Nat.beq (R.T.s e) sz && (R.T.d e).ok && solid (R.T.z e) && Nat.beq (cells (R.T.z e)).length (R.T.s e)
      | _, _ => false)
    | _, _ => false)
  | .builtin .copy, .copy sz s y => (match c.args.toList, c.argTypes.toList with
    | [x1, x2], [t, t'] => msc R x1 s && msc R x2 y && (match R.T.d t, R.T.d t' with
      | .slice e, .slice _ => Nat.beq (R.T.s e) sz && (R.T.d e).ok
      | _, _ => false)
    | _, _ => false)
  | .builtin .append, .appZ ty sz z s y => (match c.args.toList, c.argTypes.toList with
    | [x1, x2], [t, t'] => msc R x1 s && msc R x2 y && (match R.T.d t, R.T.d t' with
      | .slice e, .int _ => Nat.beq (R.ty ty) e && Nat.beq (R.T.s e) sz && (R.T.d e).ok && solid (R.T.z e) && Nat.beq (cells (R.T.z e)).length (R.T.s e) && seqL (cells (R.T.z e)) z && !Nat.beq sz 0
      | _, _ => false)
    | _, _ => false)
  | .builtin .append, .appT ty s y => (match c.args.toList, c.argTypes.toList with
    | [x1, x2], [t, t'] => msc R x1 s && msc R x2 y && (match R.T.d t, R.T.d t' with
      | .slice e, .str => Nat.beq (R.ty ty) e && Nat.beq (R.T.s e) 1 && (R.T.d e).ok && solid (R.T.z e) && Nat.beq (cells (R.T.z e)).length (R.T.s e)
      | _, _ => false)
    | _, _ => false)
  | _, _ => false
def mkey (R : Env) (t : Nat) (ls : List LK) (ag : Bool) : Bool := match R.T.d t with
  | .map k _ => beqB (isAggT R.P k) ag && (match lks R.P 8 k with
    | some l => lkEq l ls
    | none => false)
  | _ => false
def mop (R : Env) (o : Op) (i : IOp) : Bool :=
  match o, i with
  | .move x, .mv y => msc R x y
  | .assign x, .mv y => msc R x y
  | .pick c a b, .pick c' a' b' => msc R c c' && msc R a a' && msc R b b'
  | .alloc t, .alloc ty z => Nat.beq (R.ty ty) t && (R.T.d t).ok && solid (R.T.z t) && seqL (cells (R.T.z t)) z
  | .box t x, .box ty y => Nat.beq (R.ty ty) t && msc R x y
  | .build t ps, .build z qs => solid (R.T.z t) && Nat.beq (cells (R.T.z t)).length (R.T.s t) && seqL (cells (R.T.z t)) z && (match R.T.d t with
    | .struct fs => fsok R.T.d fs && mpsS R fs ps.toList qs
    | .arr _ e => (R.T.d e).ok && mpsA R (R.T.s e) ps.toList qs
    | _ => false)
  | .buildSlice t len ps, .bslice ty sz len' z qs => (match R.T.d t with
    | .slice e => Nat.beq (R.ty ty) e && Nat.beq (R.T.s e) sz && Nat.beq len len' && (R.T.d e).ok && solid (R.T.z e) && seqL (cells (R.T.z e)) z && Nat.beq (cells (R.T.z e)).length sz && !Nat.beq sz 0 && Nat.ble (len * sz) 16777216 && mpsE R ps.toList qs
    | _ => false)
  | .load t a, .load ag n y => (R.T.d t).ok && beqB (R.T.d t).ag ag && Nat.beq (R.T.s t) n && msc R a y
  | .store t a x, .store n y u => (R.T.d t).ok && Nat.beq (R.T.s t) n && !Nat.beq n 0 && msc R a y && msc R x u
  | .nilCheck x, .nilck y => msc R x y
  | .binOp op _ x y _, .bin op' x' y' => Nat.beq (bno op) (bno op') && msc R x x' && msc R y y'
  | .binOp op t x y _, .eqb neg x' y' => isEq op neg && msc R x x' && msc R y y' && (match R.P.underlying t with
    | some .bool => true
    | _ => false)
  | .binOp op t x y _, .eqa neg ls x' y' => isEq op neg && msc R x x' && msc R y y' && !R.P.eqGuardType R.P.depth t && isAggT R.P t && (match lks R.P 8 t with
    | some l => lkEq l ls
    | none => false)
  | .binOp op _ x y _, .bst op' x' y' => Nat.beq (bno op) (bno op') && msc R x x' && msc R y y'
  | .unOp op _ x, .un op' x' => Nat.beq (uno op) (uno op') && msc R x x'
  | .convert s t x, .conv k y => (R.T.d s).ok && (match R.T.d t with
    | .int k' => keq k' k
    | _ => false) && msc R x y
  | .convert s t x, .sstr y => (R.T.d s).ok && (match R.T.d t with
    | .str => true
    | _ => false) && msc R x y
  | .makeFunc (.func f) first caps, .mkf g cs => first.isEmpty && Nat.beq (R.ft g) f && mscL R caps.toList cs
  | .fieldAddr s x f, .fldA off y => msc R x y && (match R.T.d s with
    | .struct fs => (match fs[f]? with
      | some (o, ft) => Nat.beq o off && (R.T.d ft).ok && !Nat.beq (R.T.s ft) 0
      | none => false)
    | _ => false)
  | .indexAddr t x j, .idxS sz y i => msc R x y && msc R j i && (match R.T.d t with
    | .slice e => Nat.beq (R.T.s e) sz && (R.T.d e).ok
    | _ => false)
  | .indexAddr t x j, .idxA m sz y i => msc R x y && msc R j i && (match R.T.d t with
    | .arr k e => Nat.beq k m && Nat.beq (R.T.s e) sz && (R.T.d e).ok
    | _ => false)
  | .slice t x a b c, .slcS ty sz y l h m => msc R x y && mscO R a l && mscO R b h && mscO R c m && (match R.T.d t with
    | .slice e => Nat.beq (R.ty ty) e && Nat.beq (R.T.s e) sz && (R.T.d e).ok
    | _ => false)
  | .slice t x a b c, .slcA m sz y l h mx => msc R x y && a.isNone && b.isNone && c.isNone && l.isNone && h.isNone && mx.isNone && Nat.ble m 1000000 && (match R.T.d t with
    | .arr k e => Nat.beq k m && Nat.beq (R.T.s e) sz && (R.T.d e).ok
    | _ => false)
  | .makeSlice t l c, .mks ty sz z l' c' => msc R l l' && msc R c c' && (match R.T.d t with
    | .slice e => Nat.beq (R.ty ty) e && Nat.beq (R.T.s e) sz && (R.T.d e).ok && solid (R.T.z e) && seqL (cells (R.T.z e)) z && Nat.beq (cells (R.T.z e)).length sz && !Nat.beq sz 0
    | _ => false)
  | .convert s t x, .s2b ty y => msc R x y && (match R.T.d s, R.T.d t with
    | .str, .slice e => Nat.beq (R.ty ty) e && (match R.T.d e with
      | .int .u8 => true
      | _ => false)
    | _, _ => false)
  | .slice t x a b c, .slcT y l h => msc R x y && mscO R a l && mscO R b h && c.isNone && (match R.T.d t with
    | .str => true
    | _ => false)
  | .binOp op t x (.const c) _, .isn neg x' => isEq op neg && msc R x x' && (match c, R.P.underlying t with
    | .pointer none, some (.pointer _) => true
    | _, _ => false)
  | .binOp op t x (.const c) _, .isnS neg x' => isEq op neg && msc R x x' && (match c, R.P.underlying t with
    | .slice none 0 0, some (.slice _) => true
    | _, _ => false)
  | .slice t x a b c, .clip0 ty sz y => msc R x y && a.isNone && is0 b && is0 c && (match R.T.d t with
    | .slice e => Nat.beq (R.ty ty) e && Nat.beq (R.T.s e) sz && (R.T.d e).ok
    | _ => false)
  | .index t x j, .idxV ag m sz y i => msc R x y && msc R j i && (match R.T.d t with
    | .arr k e => Nat.beq k m && Nat.beq (R.T.s e) sz && (R.T.d e).ok && beqB (R.T.d e).ag ag
    | _ => false)
  | .index t x j, .idxT y i => msc R x y && msc R j i && (match R.T.d t with
    | .str => true
    | _ => false)
  | .convert s t x, .b2s y => msc R x y && (match R.T.d s, R.T.d t with
    | .slice e, .str => (match R.T.d e with
      | .int .u8 => true
      | _ => false)
    | _, _ => false)
  | .extract x i, .ext y j => msc R x y && Nat.beq i j
  | .makeMap _ none, .mkm _ _ _ sz => !Nat.beq sz 0
  | .lookup t x y ok, .lkm ls ag _ z ok' x' y' => beqB ok ok' && msc R x x' && msc R y y' && mkey R t ls ag && (match R.T.d t with
    | .map _ e => (R.T.d e).ok && seqV (R.T.z e) z
    | _ => false)
  | .mapUpdate t x y v, .upm ls ag _ x' y' v' => msc R x x' && msc R y y' && msc R v v' && mkey R t ls ag
  | .insert t x y v, .upm ls ag _ x' y' v' => msc R x x' && msc R y y' && msc R v v' && mkey R t ls ag
  | .mapEntry t x y, .enm ls ag _ z x' y' => msc R x x' && msc R y y' && mkey R t ls ag && (match R.T.d t with
    | .map _ e => (R.T.d e).ok && seqV (R.T.z e) z
    | _ => false)
  | .lookup t x y false, .lkc ls ag x' y' => msc R x x' && msc R y y' && mkey R t ls ag && (match R.T.d t with
    | .map _ e => (R.T.d e).ok && seqV (R.T.z e) (.int .i64 0)
    | _ => false)
  | .mapEntry t x y, .enc ls ag x' y' => msc R x x' && msc R y y' && mkey R t ls ag && (match R.T.d t with
    | .map _ e => (R.T.d e).ok && seqV (R.T.z e) (.int .i64 0)
    | _ => false)
  | .entryStore _ x st v, .stm _ x' st' v' => msc R x x' && msc R st st' && msc R v v'
  | .call c, i => mcall R c i
  | _, _ => false
end Go.AM

namespace Go.AM
open Go.RowKit
variable {R : Env} {X : Ctx}
def StepL (R : Env) (X : Ctx) (o : Oper) (F : Frm) (M : IMem) (nx : Nat) (K : KS) : Prop :=
  ∃ av ws nw nx' M', Does R.P X o F (mget (toM M)) av ws nw ∧ (∀ p ∈ ws, p.1 ∈ nw ∨ p.1 ∈ wnames F o.op) ∧ (nx ≤ nx' ∧ ∀ n ∈ nw, nx ≤ n ∧ n < nx') ∧ mget (toM M') = mget (msets (toM M) ws) ∧ K (updF F o.dst av) M' nx'
def StepC (R : Env) (X : Ctx) (o : Oper) (F : Frm) (M : IMem) (nx : Nat) (K : KS) : Prop :=
  ∃ F' M' nx', K F' M' nx' ∧ ∀ ρ I (a : Act) w, (∀ x, o.dst = some x → x < X.size) → Wok X ρ I (mget (toM M)) (· < nx) w → FrmOk ρ I w X ⟨F, toM M, nx⟩ a →
    ∃ g vs, (execOp a.eval o).run R.P w = .ok (.enter g vs) w ∧ Calls R.P g vs w fun e w1 => ∃ v, e = .returned v ∧ Sat X ⟨F', toM M', nx'⟩ (a.put o.dst v) w1
def StepB (R : Env) (X : Ctx) (o : Oper) (F : Frm) (M : IMem) (nx : Nat) (K : KS) : Prop :=
  ∀ ρ I (a : Act) w, Wok X ρ I (mget (toM M)) (· < nx) w → FrmOk ρ I w X ⟨F, toM M, nx⟩ a → ∃ av, Yield R.P X o a (mget (toM M)) (· < nx) ρ I w av [] ∧ K (updF F o.dst av) M nx
def StepY (R : Env) (X : Ctx) (o : Oper) (F : Frm) (M : IMem) (nx : Nat) (K : KS) : Prop :=
  ∃ F' M' nx', K F' M' nx' ∧ ∀ ρ I (a : Act) w, (∀ x, o.dst = some x → x < X.size) → Wok X ρ I (mget (toM M)) (· < nx) w → FrmOk ρ I w X ⟨F, toM M, nx⟩ a →
    ∃ l fn tm as bd, (execOp a.eval o).run R.P w = .ok (.round l fn tm as bd) w ∧ ∀ c cs, ∃ w', Sat X ⟨F', toM M', nx'⟩ (a.put o.dst (.bool true)) w' ∧
      Steps R.P (lone (Frame.round l fn tm as bd .normal) (c :: cs) w) (lone (c.finish (.bool true)) cs w')
def StepG (R : Env) (X : Ctx) (lo : Bool) (o : Oper) (F : Frm) (M : IMem) (nx : Nat) (K : KS) : Prop :=
  StepL R X o F M nx K ∨ (lo = false ∧ ((StepC R X o F M nx K ∨ StepY R X o F M nx K) ∨ StepB R X o F M nx K))
section
variable {o : Oper} {F : Frm} {M : IMem} {nx : Nat} {K : KS}
theorem finK_to {d : Option Nat} {v : AV} (h : finK d v F M nx K) : K (updF F d v) M nx := by cases d <;> exact h
theorem StepL.value {av : AV} (h : Does R.P X o F (mget (toM M)) av [] []) (k : finK o.dst av F M nx K) : StepL R X o F M nx K :=
  ⟨av, [], [], nx, M, h, fun p hp => by simp at hp, ⟨Nat.le_refl _, fun n hn => by simp at hn⟩, rfl, finK_to k⟩
theorem StepL.value' (h : ∃ av, Does R.P X o F (mget (toM M)) av [] [] ∧ finK o.dst av F M nx K) : StepL R X o F M nx K := by
  obtain ⟨av, h1, h2⟩ := h
  exact .value h1 h2
theorem StepL.new {av : AV} {b : IBlk} (h : Does R.P X o F (mget (toM M)) av [(nx, b.blk)] [nx]) (k : finK o.dst av F ((nx, b) :: M) (nx + 1) K) : StepL R X o F M nx K :=
  ⟨av, [(nx, b.blk)], [nx], nx + 1, (nx, b) :: M, h, fun p hp => by simp at hp; simp [hp], ⟨by omega, fun n hn => by simp at hn; omega⟩, toM_new M nx b, finK_to k⟩
theorem StepL.write {av : AV} {n : Nat} {b : Blk} {M' : IMem} (h : Does R.P X o F (mget (toM M)) av [(n, b)] []) (hn : n ∈ wnames F o.op) (e : toM M' = mset (toM M) n b) (k : finK o.dst av F M' nx K) : StepL R X o F M nx K :=
  ⟨av, [(n, b)], [], nx, M', h, fun p hp => by simp at hp; rw [hp]; exact .inr hn, ⟨Nat.le_refl _, fun n hn => by simp at hn⟩, by rw [e]; rfl, finK_to k⟩
end
theorem aliveK_elim {M : IMem} {n len : Nat} {K : IBlk → Prop} (h : aliveK M n len K) : ∃ b : IBlk, mget (toM M) n = some b.blk ∧ (b.blk.es.length = len ∧ b.blk.mp = none) ∧ K b := by
  have hh := igetK_elim h; clear h; obtain ⟨b, hb, h⟩ := hh
  cases b with
  | var ty row =>
    simp only at h
    cases hl : Nat.beq len 1 with
    | true => rw [hl] at h; exact ⟨_, hb, ⟨(Nat.eq_of_beq_eq_true hl).symm, rfl⟩, h⟩
    | false => rw [hl] at h; exact h.elim
  | arr ty sz es =>
    obtain ⟨h1, h2⟩ := h trivial
    exact ⟨_, hb, ⟨h1, rfl⟩, h2⟩
  | map => exact h.elim
theorem alive_of {M : Mem} {n len : Nat} {b : IBlk} {K : Blk → Prop} (h : mget M n = some b.blk) (hl : b.blk.es.length = len ∧ b.blk.mp = none) (k : K b.blk) : alive M n len K := by
  simp only [alive, h]
  exact chk_intro (by rw [Blk.ln_of hl.2]; simpa using hl.1) ⟨hl.2, k⟩
theorem loadK_elim {T : TT} {t n : Nat} {ag : Bool} (hag : (T.d t).ag = ag) (hn : T.s t = n) {v : AV} {M : IMem} {K : AV → Prop} (h : loadK ag n v M K) : aload T t v (toM M) K := by
  subst hag; subst hn
  cases v with
  | loc nm len i off =>
    have hh := igetK_elim h; clear h; obtain ⟨b, hb, h⟩ := hh
    cases b with
    | var ty row =>
      simp only at h
      cases hl : Nat.beq len 1 with
      | false => rw [hl] at h; exact h.elim
      | true =>
        rw [hl] at h
        simp only [cond_true] at h
        cases hi : Nat.beq i 0 with
        | false => rw [hi] at h; exact h.elim
        | true =>
          rw [hi] at h
          obtain rfl := Nat.eq_of_beq_eq_true hl
          obtain rfl := Nat.eq_of_beq_eq_true hi
          exact alive_of hb ⟨rfl, rfl⟩ (partK_elim h)
    | arr ty sz es =>
      obtain ⟨h1, h2⟩ := h trivial
      exact alive_of hb ⟨h1, rfl⟩ (partK_elim h2)
    | map => exact h.elim
  | iptr e off => exact partK_elim h
  | _ => exact h.elim
theorem splice_length {off : Nat} {vs cs : List AV} (h : off + vs.length ≤ cs.length) : (splice off vs cs).length = cs.length := by
  simp only [splice, List.length_append, List.length_take, List.length_drop]; omega
theorem storeK_elim {T : TT} {t : Nat} {a v : AV} {M : IMem} {K : IMem → Prop} (hs : solid v = true) (hn : (cells v).length = T.s t) (hz : T.s t ≠ 0) (h : storeK a (cells v) M K) : astore T t a v (toM M) (fun Mm => ∃ M', toM M' = Mm ∧ K M') := by
  have hz' : (T.s t == 0) = false := by simpa using hz
  cases a with
  | loc nm len i off =>
    have hh := igetK_elim h; clear h; obtain ⟨b, hb, h⟩ := hh
    cases b with
    | var ty row =>
      simp only at h
      cases hl : Nat.beq len 1 with
      | false => rw [hl] at h; exact h.elim
      | true =>
        rw [hl] at h
        simp only [cond_true] at h
        cases hi : Nat.beq i 0 with
        | false => rw [hi] at h; exact h.elim
        | true =>
          rw [hi] at h
          obtain rfl := Nat.eq_of_beq_eq_true hl
          obtain rfl := Nat.eq_of_beq_eq_true hi
          obtain ⟨h1, h2⟩ := spliceK_elim h
          obtain ⟨M', h3, h4⟩ := isetK_elim h2
          refine alive_of hb ⟨rfl, rfl⟩ (chk_intro ?_ ⟨M', ?_, h4⟩)
          · have : (((row.drop off).take (cells v).length).length == (cells v).length) = true := by simp; omega
            simp only [hs, hn, hz', IBlk.blk, List.getD_cons_zero, Bool.true_and, Bool.and_eq_true, beq_self_eq_true, Bool.not_false]
            rw [← hn]; exact this
          · rw [h3]
            simp only [IBlk.blk, splice_length h1]
            rfl
    | arr ty sz es =>
      obtain ⟨h0, h⟩ := h trivial
      obtain ⟨h1, h2⟩ := spliceK_elim h
      obtain ⟨M', h3, h4⟩ := isetK_elim h2
      refine alive_of hb ⟨h0, rfl⟩ (chk_intro ?_ ⟨M', h3, h4⟩)
      have : ((((es.getD i []).drop off).take (cells v).length).length == (cells v).length) = true := by simp only [List.length_take, List.length_drop, beq_iff_eq]; omega
      simp only [hs, hn, hz', IBlk.blk, Bool.true_and, Bool.and_eq_true, beq_self_eq_true, Bool.not_false]
      rw [← hn]; exact this
    | map => exact h.elim
  | _ => exact h.elim
theorem keqK_elim {k k' : IntKind} {Y : Prop} (h : keqK k k' Y) : chk (keq k k') Y := by
  unfold keqK at h; unfold chk; exact h
theorem binK_elim {op : BinOp} {v u : AV} {K : AV → Prop} (h : binK op v u K) : abin op v u K := by
  cases v with
  | int k a =>
    cases u with
    | int k' b =>
      cases op <;> simp only [binK] at h <;> simp only [abin]
      case shl => exact h trivial
      case shr => exact h trivial
      case quo =>
        obtain ⟨h1, h2⟩ := chk_elim (keqK_elim h)
        exact ⟨(h2 trivial).1, chk_intro h1 ((h2 trivial).2 trivial).h⟩
      case rem =>
        obtain ⟨h1, h2⟩ := chk_elim (keqK_elim h)
        exact ⟨(h2 trivial).1, chk_intro h1 (h2 trivial).2⟩
      all_goals
        obtain ⟨h1, h2⟩ := chk_elim (keqK_elim h)
        first
          | exact chk_intro h1 h2
          | exact chk_intro h1 (h2 trivial).h
    | _ => cases op <;> exact h.elim
  | _ => cases op <;> exact h.elim
theorem unK_elim {op : UnOp} {v : AV} {K : AV → Prop} (h : unK op v K) : aun op v K := by
  cases op <;> cases v <;> simp only [unK] at h <;> simp only [aun] <;> first | exact (h trivial).h | exact h
theorem idxSK_elim {T : TT} {t e sz : Nat} (ht : T.d t = .slice e) (hs : T.s e = sz) {v ix : AV} {M : IMem} {K : AV → Prop} (h : idxSK sz v ix M K) : aidx T t v ix (toM M) K := by
  subst hs
  cases ix with
  | int k j =>
    simp only [idxSK] at h
    simp only [aidx, ht]
    cases v with
    | isl s es =>
      simp only at h ⊢
      rw [beq_beq] at h
      cases hc : s == T.s e with
      | false => rw [hc] at h; exact h.elim
      | true =>
        rw [hc] at h
        obtain ⟨h1, h2⟩ := h trivial
        exact chk_intro rfl ⟨h1, (h2 trivial).h⟩
    | osl nm len =>
      simp only at h ⊢
      have hh := igetK_elim h; clear h; obtain ⟨b, hb, h⟩ := hh
      cases b with
      | var => exact h.elim
      | map => exact h.elim
      | arr ty s es =>
        simp only at h
        rw [beq_beq] at h
        cases hc : s == T.s e with
        | false => rw [hc] at h; exact h.elim
        | true =>
          rw [hc] at h
          obtain ⟨⟨h0, h1⟩, h2⟩ := h trivial
          exact alive_of hb ⟨h0, rfl⟩ (chk_intro hc ⟨h1, h2⟩)
    | vsl nm len i off cnt =>
      simp only at h ⊢
      obtain ⟨b, hb, hl, h⟩ := aliveK_elim h
      obtain ⟨h1, h2⟩ := (h trivial).h
      exact alive_of hb hl ⟨h1, h2⟩
    | _ => exact h.elim
  | _ => exact h.elim
theorem idxAK_elim {T : TT} {t e sz m : Nat} (ht : T.d t = .arr m e) (hs : T.s e = sz) {v ix : AV} {M : IMem} {K : AV → Prop} (h : idxAK m sz v ix M K) : aidx T t v ix (toM M) K := by
  subst hs
  cases ix with
  | int k j =>
    simp only [idxAK] at h
    simp only [aidx, ht]
    cases v with
    | loc nm len i off =>
      simp only at h ⊢
      obtain ⟨b, hb, hl, h⟩ := aliveK_elim h
      obtain ⟨h1, h2⟩ := (h trivial).h
      exact alive_of hb hl ⟨h1, h2⟩
    | iptr row off =>
      obtain ⟨h1, h2⟩ := (h trivial).h
      exact ⟨h1, h2⟩
    | _ => exact h.elim
  | _ => exact h.elim
theorem mmF_elim {mx : Bool} {k : IntKind} : ∀ {r : List AV} {a : Int} {K : AV → Prop}, mmF mx k a r K → (if mx then amaxF k a r else aminF k a r) ≠ .bad ∧ K (if mx then amaxF k a r else aminF k a r)
  | [], a, K, h => by cases mx <;> exact ⟨by simp [amaxF, aminF], h⟩
  | x :: r, a, K, h => by
    cases x with
    | int k' b => cases mx <;> exact mmF_elim (r := r) h
    | _ => exact h.elim
theorem mmK_elim {mx : Bool} {as : List AV} {K : AV → Prop} (h : mmK mx as K) : (if mx then amax as else amin as) ≠ .bad ∧ K (if mx then amax as else amin as) := by
  cases as with
  | nil => exact h.elim
  | cons x r =>
    cases x with
    | int k a => cases mx <;> exact mmF_elim h
    | _ => exact h.elim
theorem asrcK_elim {sz : Nat} {x : AV} {M : IMem} {K : List (List AV) → Prop} (h : asrcK sz x M K) : asrc (toM M) sz x K := by
  cases x with
  | isl s es =>
    simp only [asrcK, beq_beq] at h
    simp only [asrc]
    cases hc : s == sz with
    | false => rw [hc] at h; exact h.elim
    | true => rw [hc] at h; exact chk_intro rfl h
  | nils => exact h
  | osl n len =>
    have hh := igetK_elim h; clear h; obtain ⟨b, hb, h⟩ := hh
    cases b with
    | var => exact h.elim
    | map => exact h.elim
    | arr ty s es =>
      simp only [beq_beq] at h
      cases hc : s == sz with
      | false => rw [hc] at h; exact h.elim
      | true =>
        rw [hc] at h
        obtain ⟨h1, h2⟩ := h trivial
        exact alive_of hb ⟨h1, rfl⟩ (chk_intro hc h2)
  | vsl n len i off cnt =>
    have hh := igetK_elim h; clear h; obtain ⟨b, hb, h⟩ := hh
    cases b with
    | arr => exact h.elim
    | map => exact h.elim
    | var ty row =>
      simp only at h
      cases hl : Nat.beq len 1 with
      | false => rw [hl] at h; exact h.elim
      | true =>
        cases hi : Nat.beq i 0 with
        | false => rw [hl, hi] at h; exact h.elim
        | true =>
          cases hz : Nat.beq sz 0 with
          | true => rw [hl, hi, hz] at h; exact h.elim
          | false =>
            rw [hl, hi, hz] at h
            simp only [cond_true, cond_false] at h
            obtain rfl := Nat.eq_of_beq_eq_true hl
            obtain rfl := Nat.eq_of_beq_eq_true hi
            obtain ⟨h1, h2⟩ := dropK_elim h
            obtain ⟨h3, h4⟩ := chopK_elim h2
            rw [List.length_drop] at h3
            refine alive_of hb ⟨rfl, rfl⟩ (chk_intro ?_ h4)
            rw [beq_beq] at hz
            simp only [IBlk.blk, List.length_singleton, hz, Bool.not_false, Bool.and_true, Bool.and_eq_true, Nat.blt_eq, Nat.ble_eq]
            omega
  | _ => exact h.elim
theorem copyK_elim {sz : Nat} {v : AV} {M : IMem} {src : (List (List AV) → Prop) → Prop} {K : Nat → IMem → Prop} (h : copyK sz v M src K) :
    ∃ n off cnt ty row, v = .vsl n 1 0 off cnt ∧ mget (toM M) n = some (IBlk.var ty row).blk ∧ off + cnt * sz ≤ row.length ∧
      src fun xs => True → ACp xs cnt fun vs k => spliceK off vs row fun row' => isetK M n (.var ty row') fun M' => K k M' := by
  cases v with
  | vsl n len i off cnt =>
    have hh := igetK_elim h; clear h; obtain ⟨b, hb, h⟩ := hh
    cases b with
    | arr => exact h.elim
    | map => exact h.elim
    | var ty row =>
      simp only at h
      cases hl : Nat.beq len 1 with
      | false => rw [hl] at h; exact h.elim
      | true =>
        cases hi : Nat.beq i 0 with
        | false => rw [hl, hi] at h; exact h.elim
        | true =>
          cases hz : Nat.ble (off + cnt * sz) row.length with
          | false => rw [hl, hi, hz] at h; exact h.elim
          | true =>
            rw [hl, hi, hz] at h
            obtain rfl := Nat.eq_of_beq_eq_true hl
            obtain rfl := Nat.eq_of_beq_eq_true hi
            exact ⟨n, off, cnt, ty, row, rfl, hb, Nat.le_of_ble_eq_true hz, h⟩
  | _ => exact h.elim
theorem asrc_mono {M : Mem} {sz : Nat} {x : AV} {K K' : List (List AV) → Prop} (hk : ∀ xs, K xs → K' xs) (h : asrc M sz x K) : asrc M sz x K' := by
  revert h
  unfold asrc
  cases x <;> simp only
  case nils => exact hk _
  case str => intro h; obtain ⟨a, b⟩ := chk_elim h; exact chk_intro a (hk _ b)
  case isl => intro h; obtain ⟨a, b⟩ := chk_elim h; exact chk_intro a (hk _ b)
  case osl =>
    intro h
    simp only [alive] at h ⊢
    split at h
    · obtain ⟨a, m, b⟩ := chk_elim h
      obtain ⟨c, d⟩ := chk_elim b
      exact chk_intro a ⟨m, chk_intro c (hk _ d)⟩
    · exact h.elim
  case vsl =>
    intro h
    simp only [alive] at h ⊢
    split at h
    · obtain ⟨a, m, b⟩ := chk_elim h
      obtain ⟨c, d⟩ := chk_elim b
      exact chk_intro a ⟨m, chk_intro c (hk _ d)⟩
    · exact h.elim
  all_goals exact id
theorem appK_elim {T : TT} {t e ty sz : Nat} (ht : T.d t = .slice e) (hty : ty = e) (hs : T.s e = sz) {s x : AV} {src : (List (List AV) → Prop) → Prop} {F : Frm} {M : IMem} {nx : Nat} (hsrc : ∀ K, src K → asrc (toM M) sz x K) {K : AV → IMem → Nat → Prop} (h : appK ty sz s src M nx K) :
    aappend T t s x ⟨F, toM M, nx⟩ (fun av Mm nx' => ∃ M', mget (toM M') = mget Mm ∧ K av M' nx') := by
  subst hty; subst hs
  simp only [aappend, ht]
  cases s with
  | osl n len =>
    have hh := igetK_elim h; clear h; obtain ⟨b, hb, h⟩ := hh
    cases b with
    | var => exact h.elim
    | map => exact h.elim
    | arr t' z es =>
      simp only [beq_beq] at h
      cases hc : z == T.s ty with
      | false => rw [hc] at h; exact h.elim
      | true =>
        rw [hc] at h
        obtain ⟨⟨h1, h2⟩, h⟩ := h trivial
        have h' := hsrc _ h
        subst h1; subst h2
        refine alive_of hb ⟨rfl, rfl⟩ (chk_intro (by simp only [IBlk.blk, hc, beq_self_eq_true, Bool.and_self]) ?_)
        refine asrc_mono ?_ h'
        intro xs hx
        obtain ⟨h3, h4⟩ := hx trivial
        obtain ⟨M', h5, h6⟩ := isetK_elim h4
        refine ⟨by simp only [big]; exact h3, M', by rw [h5]; rfl, ?_⟩
        rw [List.length_append] at h6
        exact h6
  | nils =>
    have h' := hsrc _ h
    refine asrc_mono ?_ h'
    intro xs hx
    obtain ⟨h3, h4⟩ := hx trivial
    exact ⟨h3, _, toM_new M nx _, h4⟩
  | _ => exact h.elim
theorem appZK_elim {T : TT} {t e ty sz : Nat} {z : List AV} (ht : T.d t = .slice e) (hty : ty = e) (hs : T.s e = sz) (hz : cells (T.z e) = z) {s x : AV} {F : Frm} {M : IMem} {nx : Nat} {K : AV → IMem → Nat → Prop} (h : appZK ty sz z s x M nx K) :
    aappendZ T t s x ⟨F, toM M, nx⟩ (fun av Mm nx' => ∃ M', mget (toM M') = mget Mm ∧ K av M' nx') := by
  subst hty; subst hs; subst hz
  simp only [aappendZ, ht]
  cases x with
  | int k m =>
    cases s with
    | osl n len =>
      have hh := igetK_elim h; clear h; obtain ⟨b, hb, h⟩ := hh
      cases b with
      | var => exact h.elim
      | map => exact h.elim
      | arr t' z es =>
        simp only [beq_beq] at h
        cases hc : z == T.s ty with
        | false => rw [hc] at h; exact h.elim
        | true =>
          rw [hc] at h
          obtain ⟨⟨h1, h2⟩, g1⟩ := h trivial
          obtain ⟨⟨h3, h4, -⟩, g2⟩ := (g1 trivial).h
          obtain ⟨h5, g3⟩ := g2 trivial
          subst h1; subst h2
          refine alive_of hb ⟨rfl, rfl⟩ (chk_intro (by simp only [IBlk.blk, hc, beq_self_eq_true, Bool.and_self]) ?_)
          obtain ⟨M', h6, h7⟩ := isetK_elim g3
          refine ⟨⟨h3, by simp only [big]; exact h5⟩, M', by rw [h6]; rfl, ?_⟩
          rw [List.length_append, List.length_replicate] at h7
          exact h7
    | nils =>
      obtain ⟨⟨h3, h4, -⟩, h⟩ := (h trivial).h
      exact ⟨⟨h3, by simp only [big]; omega⟩, _, toM_new M nx _, h⟩
    | _ => exact h.elim
  | _ => exact h.elim
end Go.AM
