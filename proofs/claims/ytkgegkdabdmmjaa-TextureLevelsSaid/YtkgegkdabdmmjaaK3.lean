/- Of the reckoning machine, and what is proved with it: texts joined by program. -/
import Derived.Test.YtkgegkdabdmmjaaK2
import Derived.KernelRfl
import Derived.RangeFuncIn
import Derived.OpenShut
import Derived.ChangeArms
import Derived.WideShapes
import Derived.RowKit
set_option linter.all false

namespace Go.AM
open Go.RowKit
variable {R : Env} {X : Ctx}
noncomputable def rnFC (ps : List Nat) (Mall : IMem) (x : Nat × AV) (_ : Frm) (ih : (Frm → Prop) → Prop) (K : Frm → Prop) : Prop := match x with
  | (i, v) => rnK ps 0 Mall false 4 v fun v' => ih fun F' => K ((i, v') :: F')
noncomputable def rnFK (ps : List Nat) (Mall : IMem) (l : Frm) : (Frm → Prop) → Prop := List.rec (motive := fun _ => (Frm → Prop) → Prop) (fun K => K []) (rnFC ps Mall) l
theorem rnFK_elim {ps : List Nat} {Mall : IMem} : ∀ {F : Frm} {K : Frm → Prop}, rnFK ps Mall F K → ∃ F', K F' ∧ ∀ i, look F i = .bad ∨ Rn (nth 0 ps) (fun n => ∃ b, mget (toM Mall) n = some b) false (look F i) (look F' i)
  | [], K, h => ⟨[], h, fun i => .inl rfl⟩
  | (j, v) :: r, K, h => by
    change rnK ps 0 Mall false 4 v (fun v' => rnFK ps Mall r fun F' => K ((j, v') :: F')) at h
    obtain ⟨v', h1, h⟩ := rnK_elim h
    obtain ⟨F', h2, h3⟩ := rnFK_elim (F := r) (K := fun F' => K ((j, v') :: F')) h
    refine ⟨_, h2, fun i => ?_⟩
    by_cases e : i = j
    · subst e
      right
      have e1 : look ((i, v) :: r) i = v := by simp [look]
      have e2 : look ((i, v') :: F') i = v' := by simp [look]
      rw [e1, e2]; exact h1
    · have hb : (i == j) = false := by simpa using e
      have e1 : look ((j, v) :: r) i = look r i := by simp [look, hb]
      have e2 : look ((j, v') :: F') i = look F' i := by simp [look, hb]
      rw [e1, e2]; exact h3 i
structure IWkR (X : Ctx) (F : Frm) (M : IMem) (nx : Nat) (S : ISt) : Prop where
  h : ∃ ps : List Nat, (nodupB ps && Nat.beq ps.length S.nx && ltB S.M S.nx) = true ∧ (∃ p, X.p = p ∧ (idB p 0 ps && Nat.ble p S.nx) = true) ∧
    rnMK ps S.M S.M fun M' => rnFK ps S.M S.F fun F' => IWk X F M nx ⟨F', M', 100⟩
theorem sat_ren {F : Frm} {M : IMem} {nx : Nat} {S : ISt} (h : IWkR X F M nx S) {a : Act} {w : World} (hS : Sat X ⟨F, toM M, nx⟩ a w) : Sat X S.st a w := by
  obtain ⟨ps, hps1, ⟨p, hXp, hps2⟩, hz⟩ := h.h
  simp only [Bool.and_eq_true] at hps1 hps2
  have hpl : ps.length = S.nx := Nat.eq_of_beq_eq_true hps1.1.2
  have hlt1 := ltB_spec hps1.2
  have hasr : ∀ j, hasN S.M j = true → j < ps.length := by
    intro j hj
    obtain ⟨b, hb⟩ := hasN_spec hj
    rw [hpl]
    exact hlt1 j _ hb
  have hinj : ∀ i j, hasN S.M i = true → hasN S.M j = true → nth 0 ps i = nth 0 ps j → i = j := fun i j hi hj e => nodupB_spec hps1.1.1 i j (hasr i hi) (hasr j hj) e
  obtain ⟨M', hz, hB⟩ := rnMK_elim hinj (fun _ h => h) hz
  obtain ⟨F', hm, hF⟩ := rnFK_elim hz
  obtain ⟨ρ, I, W, Fo⟩ := sat_wk hm.wk hS
  have hasr2 : ∀ j c, mget (toM S.M) j = some c → hasN S.M j = true := by
    intro j c hj
    cases hc : hasN S.M j with
    | true => rfl
    | false =>
      have := deadB_spec (M := S.M) (n := j) (by simp [deadB, hc])
      rw [this] at hj; simp at hj
  have W3 := Wok.ren W (M1 := toM S.M) (nx1 := S.nx) (σ := nth 0 ps) (by rw [hXp]; exact Nat.le_of_ble_eq_true hps2.2) hlt1 (fun i j b c hb hc e => hinj i j (hasr2 i b hb) (hasr2 j c hc) e)
    (fun i b hb => by have := idB_spec hps2.1 i (hasr i (hasr2 i b hb)); rw [hXp]; simpa using this) hB
  have hL : ∀ i b1, mget (toM S.M) i = some b1 → lens (mget (toM S.M)) i = lens (mget (toM M')) (nth 0 ps i) := by
    intro i b1 hb1
    obtain ⟨b, hb, hR⟩ := hB i b1 hb1
    simp only [lens, hb1, hb, Option.map_some, hR.ln, hR.sz]
  refine ⟨fun i => ρ (nth 0 ps i), I, W3, fun i => ?_, Fo.defers, Fo.size⟩
  show Rep _ _ _ _ _ (look S.F i) _
  rcases hF i with h1 | h1
  · rw [h1]; exact .bad _
  · exact Rn.back (ρ1 := fun i => ρ (nth 0 ps i)) (L1 := lens (mget (toM S.M))) (N1 := (· < S.nx)) (fun k ⟨b2, hk⟩ => ⟨rfl, hL k b2 hk, hlt1 k b2 hk⟩) h1 (Fo.rep i)
structure INxt {σ : Type} (X : Ctx) (V : σ → Prop) (st : σ → ISt) (μ : σ → Nat) (m : Nat) (F : Frm) (M : IMem) (nx : Nat) : Prop where
  h : ∃ s', V s' ∧ μ s' < m ∧ (IWk X F M nx (st s') ∨ IWkR X F M nx (st s'))
theorem ILoop.inv {b : Frame} {Q : KS} {c : ICode} {k : List IIt} {F : Frm} {M : IMem} {nx : Nat} {σ : Type} (n : Nat) (V : σ → Prop) (st : σ → ISt) (μ : σ → Nat) (s0 : σ) (v0 : V s0) (h0 : IWk X F M nx (st s0))
    (step : ∀ s, V s → irun R X b Q n (.code c :: .rnd (fun F M nx => True → INxt X V st μ (μ s) F M nx) :: k) (st s).F (st s).M (st s).nx) : ILoop R X b Q c k F M nx := by
  refine ⟨fun c' ks hc hm => ?_⟩
  intro hcok hks a w hS
  have hS0 := sat_wk h0.wk hS
  have key : ∀ m s, V s → μ s = m → ∀ a w, Sat X (st s).st a w → Outc R.P X b (PS Q) (.code c' :: .inl c' :: ks) a w := by
    intro m
    induction m using Nat.strongRecOn with
    | ind m ih =>
      intro s hv hs a w hS cs
      obtain ⟨a1, w1, S1, hS1, h1 | h1⟩ := irun_sound n _ _ _ _ (.code c' :: .rnd (.lp c') (PS (fun F M nx => True → INxt X V st μ (μ s) F M nx)) :: ks) a w (fun x hx => by
        simp only [List.mem_cons] at hx
        rcases hx with rfl | rfl | hx
        · exact hcok
        · trivial
        · exact hks x hx) (by exact ⟨hc, rfl, hm⟩) (step s hv) hS cs
      · exact ⟨a1, w1, S1, hS1, .inl h1⟩
      · obtain ⟨c2, post, k', hsuf, hst, hpost⟩ := h1
        rcases List.suffix_cons_iff.1 hsuf with e | hsuf
        · simp at e
        · rcases List.suffix_cons_iff.1 hsuf with e | hsuf
          · simp only [List.cons.injEq, It.rnd.injEq] at e
            obtain ⟨⟨rfl, rfl⟩, rfl⟩ := e
            obtain ⟨F1, M1, nx1, rfl, h2⟩ := hpost
            obtain ⟨s', hv', hlt, hw⟩ := (h2 trivial).h
            obtain ⟨a2, w2, S2, hS2, h2 | h2⟩ := ih (μ s') (by omega) s' hv' rfl a1 w1 (hw.elim (fun hw => sat_wk hw.wk hS1) (fun hw => sat_ren hw hS1)) cs
            · obtain ⟨todo, hl, h3, h4⟩ := h2
              exact ⟨a2, w2, S2, hS2, .inl ⟨todo, hl, hst.trans (.head stepR_inLoop h3), h4⟩⟩
            · obtain ⟨c3, p3, k3, h3, h4, h5⟩ := h2
              exact ⟨a2, w2, S2, hS2, .inr ⟨c3, p3, k3, h3, hst.trans (.head stepR_inLoop h4), h5⟩⟩
          · exact ⟨a1, w1, S1, hS1, .inr ⟨c2, post, k', (hsuf.trans (List.suffix_cons _ _)).trans (List.suffix_cons _ _), hst, hpost⟩⟩
  exact key _ s0 v0 rfl a w hS0
theorem ILoop.one {b : Frame} {Q : KS} {c : ICode} {k : List IIt} {F : Frm} {M : IMem} {nx : Nat} (n : Nat) (h : irun R X b Q n (.code c :: .inl c :: k) F M nx) : ILoop R X b Q c k F M nx :=
  ⟨fun c' ks hc hm hcok hks a w hS => irun_sound n _ _ _ _ (.code c' :: .inl c' :: ks) a w (fun x hx => by
    simp only [List.mem_cons] at hx
    rcases hx with rfl | rfl | hx
    · exact hcok
    · exact hcok
    · exact hks x hx) (by exact ⟨hc, hc, hm⟩) h hS⟩
end Go.AM

namespace Go.AM
def lkp : List (Nat × Nat) → Nat → Nat
  | [], _ => 0
  | (a, b) :: r, n => bif Nat.beq n a then b else lkp r n
class BP (b : Bool) (P Q : outParam Prop) : Prop where
  t : b = true → P
  f : b = false → Q
instance (priority := 10) {b : Bool} : BP b (b = true) (b = false) := ⟨id, id⟩
instance {a b : Int} : BP (decide (a < b)) (a < b) (b ≤ a) := ⟨fun h => by simpa using h, fun h => by simpa using h⟩
instance {a b : Int} : BP (decide (a ≤ b)) (a ≤ b) (b < a) := ⟨fun h => by simpa using h, fun h => by simpa using h⟩
instance {a b : Int} : BP (decide (a > b)) (b < a) (a ≤ b) := ⟨fun h => by simpa using h, fun h => by simpa using h⟩
instance {a b : Int} : BP (decide (a ≥ b)) (b ≤ a) (a < b) := ⟨fun h => by simpa using h, fun h => by simpa using h⟩
instance (priority := 20) {p : Prop} [Decidable p] : BP (decide p) p (¬ p) := ⟨fun h => by simpa using h, fun h => by simpa using h⟩
instance {a b : Int} : BP (a == b) (a = b) (¬ a = b) := ⟨fun h => by simpa using h, fun h => by simpa using h⟩
instance {a b : Int} : BP (a != b) (¬ a = b) (a = b) := ⟨fun h => by simpa using h, fun h => by simpa using h⟩
instance {a b : List UInt8} : BP (a == b) (a = b) (¬ a = b) := ⟨fun h => by simpa using h, fun h => by simpa using h⟩
instance {a b : List UInt8} : BP (a != b) (¬ a = b) (a = b) := ⟨fun h => by simpa using h, fun h => by simpa using h⟩
instance {b : Bool} {P Q : Prop} [h : BP b P Q] : BP (!b) Q P := ⟨fun e => h.f (by simpa using e), fun e => h.t (by simpa using e)⟩
theorem cS {b : Bool} {P Q X Y : Prop} [h : BP b P Q] (t : P → X) (f : Q → Y) : ACnd b X Y := ⟨fun e => t (h.t e), fun e => f (h.f e)⟩
theorem acnd_t {b : Bool} {X Y : Prop} (h : b = true) (x : X) : ACnd b X Y := ⟨fun _ => x, fun e => (by rw [h] at e; exact Bool.noConfusion e)⟩
theorem acnd_f {b : Bool} {X Y : Prop} (h : b = false) (y : Y) : ACnd b X Y := ⟨fun e => (by rw [h] at e; exact Bool.noConfusion e), fun _ => y⟩
theorem cT {X Y : Prop} (x : X) : ACnd true X Y := acnd_t rfl x
theorem cF {X Y : Prop} (y : Y) : ACnd false X Y := acnd_f rfl y
theorem cA {X Y : Prop} (y : Y) : ACnd (!true) X Y := acnd_f rfl y
theorem cB {X Y : Prop} (x : X) : ACnd (!false) X Y := acnd_t rfl x
class LenOf (es : List (List AV)) (n : outParam Nat) : Prop where
  h : es.length = n
instance (priority := 10) {es : List (List AV)} : LenOf es es.length := ⟨rfl⟩
instance {α : Type} {f : α → List AV} {l : List α} : LenOf (l.map f) l.length := ⟨by simp⟩
theorem aLn {es : List (List AV)} {n : Nat} {K : Nat → Prop} [h : LenOf es n] (k : K n) : ALen es K := ⟨by rw [h.h]; exact k⟩
class TkOf {α : Type} (xs : List α) (ys : outParam (List α)) : Prop where
  h : xs = ys
instance (priority := 10) {α : Type} {xs : List α} : TkOf xs xs := ⟨rfl⟩
instance {α β : Type} {f : β → α} {l : List β} {k : Nat} : TkOf ((l.map f).take k) ((l.take k).map f) := ⟨by simp⟩
instance {α β : Type} {f : β → α} {l : List β} {k : Nat} : TkOf ((l.map f).drop k) ((l.drop k).map f) := ⟨by simp⟩
instance {α β : Type} {f : β → α} {l : List β} {k j : Nat} : TkOf (((l.map f).take k).drop j) (((l.take k).drop j).map f) := ⟨by simp⟩
theorem aSb {α : Type} {xs ys : List α} {K : List α → Prop} [h : TkOf xs ys] (k : K ys) : ASub xs K := ⟨by rw [h.h]; exact k⟩
def inI : IntKind → Int → Prop
  | .i8, n => -128 ≤ n ∧ n ≤ 127
  | .i16, n => -32768 ≤ n ∧ n ≤ 32767
  | .i32, n => -2147483648 ≤ n ∧ n ≤ 2147483647
  | .i64, n => -9223372036854775808 ≤ n ∧ n ≤ 9223372036854775807
  | .u8, n => 0 ≤ n ∧ n ≤ 255
  | .u16, n => 0 ≤ n ∧ n ≤ 65535
  | .u32, n => 0 ≤ n ∧ n ≤ 4294967295
  | .u64, n => 0 ≤ n ∧ n ≤ 18446744073709551615
theorem wr_in {k : IntKind} {n : Int} (h : inI k n) : wr k n = n := by
  cases k <;> simp only [inI] at h <;> simp only [wr, IntKind.wrap, IntKind.bits, IntKind.signed] <;> simp <;> omega
theorem wf_in {k : IntKind} {n : Int} (h : (Lit.int k n).wf = true) : inI k n := by
  cases k <;> simp [Lit.wf, IntKind.min, IntKind.max, IntKind.bits, IntKind.signed] at h <;> simp only [inI] <;> omega
theorem iwr_in {k : IntKind} {n : Int} {K : Int → Prop} (e : inI k n) (h : K n) : IWr k n K := ⟨by rw [wr_in e]; exact h⟩
theorem eget_map {α : Type} {f : α → List AV} {l : List α} {i : Nat} {x : α} {K : List AV → Prop} (h : l[i]? = some x) (k : K (f x)) : EGet (l.map f) i K := by
  refine ⟨?_⟩
  rw [List.getD_eq_getElem?_getD, List.getElem?_map, h]; exact k
theorem nD {p K : Prop} (k : K) (h : p := by first | omega | (simp <;> omega)) : p ∧ K := ⟨h, k⟩
theorem wI {k : IntKind} {n : Int} {K : Int → Prop} (h : K n) (e : inI k n := by simp only [inI]; omega) : IWr k n K := iwr_in e h
theorem cK {ms : List Nat} {log : List LogE} {Y : Prop} (k : Y) (h : confM ms log = true := by kernel_rfl) : IConf ms log Y := ⟨h, k⟩
theorem aX {i : Int} {m : Nat} {K : Nat → Prop} (h : (decide (0 ≤ i) && decide (i < (m : Int))) = true) (k : K i.toNat) : AIx i m K := by
  simp only [Bool.and_eq_true, decide_eq_true_eq] at h
  exact ⟨h, k⟩
theorem vL {ag : Bool} {m sz : Nat} {cs : List AV} {j : Int} {K : AV → Prop} (h : (decide (0 ≤ j) && decide (j < (m : Int))) = true) (k : apart ag sz (j.toNat * sz) cs K) : VIx ag m sz cs j K := by
  simp only [Bool.and_eq_true, decide_eq_true_eq] at h
  exact ⟨h, k⟩
def NmL (es : List (List AV)) : Prop := ∀ e ∈ es, AV.namesL e = []
@[simp] theorem NmL_nil : NmL [] := fun e h => by simp at h
@[simp] theorem NmL_app {a b : List (List AV)} : NmL (a ++ b) ↔ NmL a ∧ NmL b := by simp [NmL, or_imp, forall_and]
@[simp] theorem NmL_cons {a : List AV} {b : List (List AV)} : NmL (a :: b) ↔ AV.namesL a = [] ∧ NmL b := by simp [NmL]
@[simp] theorem NmL_map {α : Type} {f : α → List AV} {l : List α} : NmL (l.map f) ↔ ∀ x ∈ l, AV.namesL (f x) = [] := by simp [NmL]
@[simp] theorem NmL_rep {n : Nat} {r : List AV} : NmL (List.replicate n r) ↔ n = 0 ∨ AV.namesL r = [] := by
  simp only [NmL, List.mem_replicate]
  constructor
  · intro h
    by_cases hn : n = 0
    · exact .inl hn
    · exact .inr (h r ⟨hn, rfl⟩)
  · rintro (h | h) e ⟨h1, rfl⟩
    · exact (h1 h).elim
    · exact h
@[simp] theorem nmL_cons {c : AV} {r : List AV} : AV.namesL (c :: r) = [] ↔ c.names = [] ∧ AV.namesL r = [] := by simp [AV.namesL]
@[simp] theorem nmL_nil' : AV.namesL [] = [] := rfl
@[simp] theorem nm_int {k : IntKind} {n : Int} : (AV.int k n).names = [] := rfl
@[simp] theorem nm_bool {b : Bool} : (AV.bool b).names = [] := rfl
@[simp] theorem nm_str {s : List UInt8} : (AV.str s).names = [] := rfl
@[simp] theorem nm_isl {z : Nat} {es : List (List AV)} : (AV.isl z es).names = [] := rfl
@[simp] theorem nm_nils : AV.nils.names = [] := rfl
@[simp] theorem nm_nilp : AV.nilp.names = [] := rfl
def FlL (es : List (List AV)) : Prop := ∀ e ∈ es, AV.flatL e = true
@[simp] theorem FlL_nil : FlL [] := fun e h => by simp at h
@[simp] theorem FlL_app {a b : List (List AV)} : FlL (a ++ b) ↔ FlL a ∧ FlL b := by simp [FlL, or_imp, forall_and]
@[simp] theorem FlL_cons {a : List AV} {b : List (List AV)} : FlL (a :: b) ↔ AV.flatL a = true ∧ FlL b := by simp [FlL]
@[simp] theorem FlL_map {α : Type} {f : α → List AV} {l : List α} : FlL (l.map f) ↔ ∀ x ∈ l, AV.flatL (f x) = true := by simp [FlL]
@[simp] theorem flL_cons {c : AV} {r : List AV} : AV.flatL (c :: r) = true ↔ c.flat0 = true ∧ AV.flatL r = true := by simp [AV.flatL]
@[simp] theorem flL_nil' : AV.flatL [] = true := rfl
@[simp] theorem fl_int {k : IntKind} {n : Int} : (AV.int k n).flat0 = true := rfl
@[simp] theorem fl_bool {b : Bool} : (AV.bool b).flat0 = true := rfl
@[simp] theorem fl_str {s : List UInt8} : (AV.str s).flat0 = true := rfl
theorem eF {D : Nat → Bool} {M : IMem} {es es' : List (List AV)} {len : Nat} (hl : es.length = len) (he : es = es') (hn : NmL es) : FzEs D M es len es' := fzEs_same hl he hn
theorem eM {D : Nat → Bool} {M M' : IMem} {nx nx' sz : Nat} {es es' : List (List AV)} (he : es = es') (hn : nx ≤ nx' ∨ NmL es) : MtEs D M M' nx nx' sz es es' := mtEs_same he hn
theorem eL {es es' : List (List AV)} {len : Nat} (hl : es.length = len) (he : es = es') (hn : NmL es) : LnEs es len es' := ⟨hl, he, hn⟩
theorem eA {es es' : List (List AV)} (he : es = es') (hn : NmL es) : ArEs es es' := ⟨he, hn⟩
theorem eN {es : List (List AV)} (hn : NmL es) : ArOk false es := ⟨hn, fun h => Bool.noConfusion h⟩
theorem eO {es : List (List AV)} (hn : NmL es) (hf : FlL es) : ArOk true es := ⟨hn, fun _ => hf⟩
theorem eK {es : List (List AV)} {K : Prop} (k : K) (hn : NmL es := by simp) : ArOk false es ∧ K := ⟨eN hn, k⟩
theorem eP {es : List (List AV)} {K : Prop} (k : K) (hn : NmL es := by simp) (hf : FlL es := by simp) : ArOk true es ∧ K := ⟨eO hn hf, k⟩
theorem eZ {D : Nat → Bool} {M : IMem} {es : List (List AV)} {len : Nat} {Y : List (List AV) → Prop} {Z : Prop} (k : Y es) (hl : es.length = len := by first | rfl | (simp; done) | omega) (hn : NmL es := by simp) : FrzC D M es len Y Z := .keep es (eF hl rfl hn) k
theorem nX {σ : Type} {X : Ctx} {V : σ → Prop} {st : σ → ISt} {μ : σ → Nat} {m : Nat} {F : Frm} {M : IMem} {nx : Nat} (s : σ) (v : V s) (h : μ s < m) (p : ∃ p, X.p = p ∧ liveB (st s).M p = true) (f : wkF F M nx (st s) (st s).F) (w : wkM M nx (st s) (st s).M) : INxt X V st μ m F M nx := ⟨s, v, h, .inl ⟨p, f, w⟩⟩
variable {R : Env} {X : Ctx}
theorem nXa {σ : Type} {V : σ → Prop} {st : σ → ISt} {μ : σ → Nat} {m : Nat} {F : Frm} {M : IMem} {nx : Nat} (s : σ) (v : V s) (h : μ s < m) (w : IWk X F M nx (st s) := by
    refine ⟨⟨_, by assumption, rfl⟩, ?_, ?_⟩
    all_goals repeat' (first | exact True.intro | refine And.intro ?_ ?_ | (intro _u; clear _u) | with_reducible first | refine eM ?_ ?_ | refine eF ?_ ?_ ?_)
    all_goals first | with_reducible rfl | omega | exact Or.inl (by decide) | (simp; done) | rfl) : INxt X V st μ m F M nx := ⟨s, v, h, .inl w⟩
theorem nRm {σ : Type} {X : Ctx} {V : σ → Prop} {st : σ → ISt} {μ : σ → Nat} {m : Nat} {F : Frm} {M : IMem} {nx : Nat} (ps : List Nat) (s : σ) (v : V s) (h : μ s < m)
    (w : rnMK ps (st s).M (st s).M fun M' => rnFK ps (st s).M (st s).F fun F' => IWk X F M nx ⟨F', M', 100⟩)
    (h1 : (nodupB ps && Nat.beq ps.length (st s).nx && ltB (st s).M (st s).nx) = true := by rfl) (h2 : ∃ p, X.p = p ∧ (idB p 0 ps && Nat.ble p (st s).nx) = true := by exact ⟨_, by assumption, rfl⟩) : INxt X V st μ m F M nx := ⟨s, v, h, .inr ⟨ps, h1, h2, w⟩⟩
theorem lPa {b : Frame} {Q : KS} {c : ICode} {k : List IIt} {F : Frm} {M : IMem} {nx : Nat} {σ : Type} (n : Nat) (V : σ → Prop) (st : σ → ISt) (μ : σ → Nat) (s0 : σ) (v0 : V s0)
    (step : ∀ s, V s → irun R X b Q n (.code c :: .rnd (fun F M nx => True → INxt X V st μ (μ s) F M nx) :: k) (st s).F (st s).M (st s).nx) (h0 : IWk X F M nx (st s0) := by
    refine ⟨⟨_, by assumption, rfl⟩, ?_, ?_⟩
    all_goals repeat' (first | exact True.intro | refine And.intro ?_ ?_ | (intro _u; clear _u) | with_reducible first | refine eM ?_ ?_ | refine eF ?_ ?_ ?_)
    all_goals first | with_reducible rfl | omega | exact Or.inl (by decide) | (simp; done) | rfl) : ILoop R X b Q c k F M nx := .inv n V st μ s0 v0 h0 step
theorem rT {M : IMem} {vs : List AV} {av : AV} (h : fzK (fun _ => true) M 5 (one vs) av := by
    all_goals repeat' (first | exact True.intro | refine And.intro ?_ ?_ | (intro _u; clear _u) | with_reducible refine eF ?_ ?_ ?_)
    all_goals first | with_reducible rfl | omega | (simp; done) | rfl) : IRet M vs av := .of h
theorem rM {M : IMem} {nx : Nat} {vs : List AV} {av : AV} {M1 : IMem} {nx1 : Nat} (ps : List Nat) (h : rnMK ps M1 M1 fun M' => rnK ps 0 M1 false 5 av fun av' => IWk X [] M nx ⟨[], M', 100⟩ ∧ mtK (deadB M') M M' nx 5 (one vs) av' ∧ undK nx 100 av' := by
    all_goals repeat' (first | exact True.intro | refine And.intro ?_ ?_ | (intro _u; clear _u) | with_reducible first | refine eM ?_ ?_ | refine eF ?_ ?_ ?_ | refine eN ?_ | refine IWk.mk ⟨_, by assumption, rfl⟩ ?_ ?_)
    all_goals first | with_reducible rfl | omega | exact Or.inl (by decide) | (simp; done) | rfl)
    (h1 : (nodupB ps && Nat.beq ps.length nx1) = true := by rfl) (h2 : ∃ p, X.p = p ∧ (idB p 0 ps && Nat.ble p nx1) = true := by exact ⟨_, by assumption, rfl⟩) : IRetM X M nx vs av M1 nx1 := .of ps h1 h2 h
theorem cM {g : Nat} {args args0 : List AV} {F : Frm} {M M0 M1 : IMem} {nx nx1 : Nat} {d : Option Nat} {K : KS} {av : AV} {lo : Bool} (fl : Bool) (ps : List Nat) (h : R.Mc g args0 M0 av M1 nx1)
    (k : rnK ps nx M1 fl 5 av fun av' => mutK ps nx M1 fl M1 M fun M' => finK d av' F M' (nx + (nx1 - ps.length)) K) (hz : MCan lo ps fl M nx args args0 M0 := by
    first | refine MCan.g rfl ⟨rfl, ?_, ?_⟩ | refine MCan.l rfl ⟨rfl, ?_, ?_⟩
    all_goals repeat' (first | exact True.intro | refine And.intro ?_ ?_ | (intro _u; clear _u) | with_reducible first | refine eL ?_ ?_ ?_ | refine eA ?_ ?_)
    all_goals first | with_reducible rfl | omega | (simp; done) | rfl) : ICall R X lo (R.ft g) args F M nx d K := .mut fl ps h hz k
structure Kp (q : Prop) : Prop where
  h : q
theorem st {p q : Prop} (k : q) (h : Kp q → p := by
    intro k_
    repeat ((intro _u; clear _u); first | with_reducible first | refine cT ?_ | refine cF ?_ | refine cA ?_ | refine cB ?_ | refine aLn ?_ | refine cK ?_ | refine aS8 ?_ | refine wI ?_ | refine nD ?_ | refine aX rfl ?_ | refine vL rfl ?_)
    exact k_.h) : p := h ⟨k⟩
theorem sh {p q : Prop} (k : q) (h : Kp q → p := by
    intro k_
    repeat ((intro _u; clear _u); first | with_reducible first | refine cT ?_ | refine cF ?_ | refine cA ?_ | refine cB ?_ | refine aLn ?_ | refine cK ?_ | refine aS8 ?_ | refine wI ?_ | refine nD ?_ | refine aX rfl ?_ | refine vL rfl ?_)
    intro _u; clear _u
    exact k_.h) : p := h ⟨k⟩
theorem fZ {av av' : AV} {M : IMem} (h : fzK (fun _ => true) M 5 av av' := by
    all_goals repeat' (first | exact True.intro | refine And.intro ?_ ?_ | (intro _u; clear _u) | with_reducible refine eF ?_ ?_ ?_)
    all_goals first | with_reducible rfl | omega | (simp; done) | rfl) : fzK (fun _ => true) M 5 av av' := h
end Go.AM

namespace Go.AM
open Go.RowKit
variable {R : Env} {X : Ctx}
structure ILp where
  ps : List Nat
  ss : List Nat
  asg : ICode
  body : ICode
structure IsLp (R : Env) (r : Loop) (lp : ILp) : Prop where
  st : r.state = .ready
  pd : r.pending = none
  ps : r.params.toList = lp.ps
  asg : codeOk r.tmps.size true r.assign = true ∧ mcode R r.assign lp.asg = true
  body : codeOk r.tmps.size true r.body = true ∧ mcode R r.body lp.body = true
  lt : ∀ p ∈ lp.ps, p < r.tmps.size
def tmOf (r : Loop) (ss : List Nat) : List Value := ss.map fun s => r.tmps.getD s undef
def wayY (P : Program) (l : Nat) (r : Loop) (ss : List Nat) : Way := fun I w vs Q => I l → w.heap[l]? = some (.loop r) → ∀ us, vs = us ++ tmOf r ss → us.length = r.params.size → ∀ c cs, ∃ w', Q (.bool true) w' ∧
    Steps P (lone (Frame.round l r.fn ((r.params.zip us.toArray).foldl (fun t (q, v) => t.setIfInBounds q v) r.tmps) r.assign r.body .normal) (c :: cs) w) (lone (c.finish (.bool true)) cs w')
theorem wayY_ok {P : Program} {l : Nat} {r : Loop} {ss : List Nat} : (wayY P l r ss).Ok := ⟨fun hI hq h h1 h2 us e1 e2 c cs => by
  obtain ⟨w', h3, h4⟩ := h (hI _ h1) h2 us e1 e2 c cs
  exact ⟨w', hq _ _ h3, h4⟩⟩
structure LpAt (X : Ctx) (l : Nat) (r : Loop) : Prop where
  i : X.I0 l
  at' : X.w0.heap[l]? = some (.loop r)
theorem IYield.mut {l : Nat} {r : Loop} {ss : List Nat} {args caps args0 : List AV} {F : Frm} {M M0 M1 : IMem} {nx nx1 : Nat} {d : Option Nat} {K : KS} (fl : Bool) (ps : List Nat) (hX : LpAt X l r) (hn : args.length = r.params.size)
    (h : Wc (wayY R.P l r ss) args0 M0 (.bool true) M1 nx1) (hz : MPre false ps fl M nx (args ++ caps) args0 M0)
    (k : rnK ps nx M1 fl 5 (.bool true) fun av' => mutK ps nx M1 fl M1 M fun M' => finK d av' F M' (nx + (nx1 - ps.length)) K) : IYield R X l (tmOf r ss) caps args F M nx d K := by
  obtain ⟨av', ws, M', hav, hk, hM, hw1, hw2, hw3, hw4, hps, hlen⟩ := mut_static h hz k
  refine ⟨_, M', _, finK_to hk, fun ρ I a w vs hd W Fo hR hT => ?_⟩
  obtain ⟨hI, hl⟩ := W.old_at hX.i hX.at'
  have hC := mut_core (nx := nx) h hz hav hw1 hw2 hw3 W (fun _ _ => rfl) (fun _ _ => rfl) (fun _ _ _ _ _ => rfl) (fun k hk hk' => by omega) (hR.append hT)
  refine ⟨r, hl, by rw [hR.1]; exact hn, fun c cs => ?_⟩
  obtain ⟨w', hp, hst⟩ := hC hI hl vs rfl (by rw [hR.1]; exact hn) c cs
  refine ⟨w', ?_, hst⟩
  have hS := sat_put (S := ⟨F, toM M, nx⟩) (nw := []) (nx' := nx + (nx1 - ps.length)) Fo (fun p hp => by
    rcases hw4 p hp with h | h
    · have := hps _ h; omega
    · exact h.2) (Nat.le_add_right _ _) hd hp
  exact sat_ext (S := ⟨updF F d av', msets (toM M) ws, nx + (nx1 - ps.length)⟩) rfl hM.symm rfl hS
def ssF : List Nat → List AV → Frm
  | s :: ss, c :: cs => (s, c) :: ssF ss cs
  | _, _ => []
theorem ssF_rep {Rp : AV → Value → Prop} (hb : ∀ v, Rp .bad v) {g : Nat → Value} : ∀ (ss : List Nat) (cs : List AV), (∀ j, j < cs.length → Rp (cs.getD j .bad) ((ss.map g).getD j default)) → ∀ i, Rp (look (ssF ss cs) i) (g i)
  | [], _, _, i => by simpa [ssF, look] using hb _
  | _ :: _, [], _, i => by simpa [ssF, look] using hb _
  | s :: ss, c :: cs, h, i => by
    by_cases e : i = s
    · subst e; simpa [ssF, look] using h 0 (by simp)
    · have hb' : (i == s) = false := by simpa using e
      simpa [ssF, look, hb'] using ssF_rep hb ss cs (fun j hj => by simpa using h (j + 1) (by simpa using hj)) i
def lpF : List Nat → List AV → Frm → Frm
  | p :: ps, a :: as, F => lpF ps as ((p, a) :: F)
  | _, _, F => F
theorem lpF_rep {Rp : AV → Value → Prop} {n : Nat} : ∀ (ps : List Nat) (as : List AV) (us : List Value) (F : Frm) (t : Array Value), us.length = as.length → (∀ j, j < as.length → Rp (as.getD j .bad) (us.getD j default)) →
    (∀ i, Rp (look F i) (t.getD i undef)) → t.size = n → (∀ p ∈ ps, p < n) →
    (∀ i, Rp (look (lpF ps as F) i) (((ps.zip us).foldl (fun t (q, v) => t.setIfInBounds q v) t).getD i undef)) ∧ ((ps.zip us).foldl (fun t (q, v) => t.setIfInBounds q v) t).size = n
  | [], _, _, F, t, _, _, h, hs, _ => ⟨h, hs⟩
  | p :: ps, [], [], F, t, _, _, h, hs, _ => ⟨h, hs⟩
  | p :: ps, [], _ :: _, _, _, hl, _, _, _, _ => by simp at hl
  | p :: ps, _ :: _, [], _, _, hl, _, _, _, _ => by simp at hl
  | p :: ps, a :: as, u :: us, F, t, hl, hr, h, hs, hp => by
    have hpn : p < n := hp p List.mem_cons_self
    have := lpF_rep (Rp := Rp) ps as us ((p, a) :: F) (t.setIfInBounds p u) (by simpa using hl) (fun j hj => by simpa using hr (j + 1) (by simpa using hj)) (fun i => by
      by_cases e : i = p
      · subst e
        rw [Array.getD_eq_getD_getElem?, Array.getElem?_setIfInBounds_self_of_lt (by omega)]
        simpa [look] using hr 0 (by simp)
      · have hb : (i == p) = false := by simpa using e
        rw [Array.getD_eq_getD_getElem?, Array.getElem?_setIfInBounds_ne (by omega), ← Array.getD_eq_getD_getElem?]
        simpa [look, hb] using h i) (by simpa using hs) (fun q hq => hp q (List.mem_cons_of_mem _ hq))
    simpa [lpF] using this
section
variable {P : Program} {b : Frame} {a : Act} {k : List Item} {cs : List Frame} {w : World} {l : Nat} {r : Loop}
theorem step_beg (hb : b.roundOf = some l) (hl : w.heap[l]? = some (.loop r)) (hr : r.state = .ready) :
    step P (lone (b.atR a (.beginRound :: k)) cs w) = .next (lone (b.atR a k) cs (w.putObj l (.loop { r with state := .busy }))) :=
  step_lone_go (by simp [stepG, stepG.exec, stepG.apply, Frame.atR, Frame.finish, hb, run_beginRound hl hr])
theorem step_endRound {c : Frame} (hb : b.roundOf = some l) (hk : b.kind = .normal) (hl : w.heap[l]? = some (.loop r)) :
    step P (lone (b.atR a []) (c :: cs) w) = .next (lone (c.finish (.bool true)) cs (w.putObj l (.loop { r with state := .ready, pending := none }))) :=
  step_lone_go (by simp [stepG, stepG.exec, doReturn, Frame.atR, hb, hk, run_endRound none hl])
end
theorem putObj_back {w : World} {l : Nat} {o o' : Obj} (h : w.heap[l]? = some o) : (w.putObj l o').putObj l o = w := by
  have : (w.heap.setIfInBounds l o').setIfInBounds l o = w.heap := by
    apply Array.ext_getElem?
    intro i
    by_cases e : i = l
    · subst e
      have hlt := (Array.getElem?_eq_some_iff.1 h).1
      rw [Array.getElem?_setIfInBounds_self_of_lt (by simpa using hlt), h]
    · rw [Array.getElem?_setIfInBounds_ne (by omega), Array.getElem?_setIfInBounds_ne (by omega)]
  show { w with heap := (w.heap.setIfInBounds l o').setIfInBounds l o } = w
  rw [this]
theorem IRetM.core {M M1 : IMem} {nx nx1 p0 : Nat} {vs : List AV} {av : AV} (hz : IRetM X M nx vs av M1 nx1) (hwf : (liveB M1 p0 && ltB M1 nx1) = true) {ρ' : Place} {I' : Nat → Prop} {w' : World} (W' : Wok X ρ' I' (mget (toM M)) (· < nx) w') {v : Value}
    (hrep : Rep ρ' (lens (mget (toM M))) I' w' (· < nx) (one vs) v) : ∃ ρ3 I3, Wok X ρ3 I3 (mget (toM M1)) (· < nx1) w' ∧ Rep ρ3 (lens (mget (toM M1))) I3 w' (· < nx1) av v := by
  obtain ⟨ps, hps1, ⟨p, hXp, hps2⟩, hz⟩ := hz.h
  simp only [Bool.and_eq_true] at hps1 hps2 hwf
  have hpl : ps.length = nx1 := Nat.eq_of_beq_eq_true hps1.2
  have hlt1 := ltB_spec hwf.2
  have hasr : ∀ j, hasN M1 j = true → j < ps.length := by
    intro j hj
    obtain ⟨b, hb⟩ := hasN_spec hj
    rw [hpl]
    exact hlt1 j _ hb
  have hinj : ∀ i j, hasN M1 i = true → hasN M1 j = true → nth 0 ps i = nth 0 ps j → i = j := fun i j hi hj e => nodupB_spec hps1.1 i j (hasr i hi) (hasr j hj) e
  obtain ⟨M', hz, hB⟩ := rnMK_elim hinj (fun _ h => h) hz
  obtain ⟨av', hav, hm, hv, hu⟩ := rnK_elim hz
  obtain ⟨W2, low⟩ := wk_full hm.wk (S := ⟨[], toM M, nx⟩) W'
  have hup : ∀ n, deadB M' n = true → X.p ≤ n ∧ mget (toM M') n = none := by
    intro n hn
    refine ⟨?_, deadB_spec hn⟩
    obtain ⟨p, hp, hlive⟩ := hm.p
    rcases Nat.lt_or_ge n X.p with hlt | hge
    · have := liveB_spec hlive n (by omega)
      have this : hasN M' n = true := this
      simp [deadB, this] at hn
    · exact hge
  have hr1 := low _ _ _ hrep ((mtK_elim hv).mono hup) (undK_elim hu)
  have hasr2 : ∀ j c, mget (toM M1) j = some c → hasN M1 j = true := by
    intro j c hj
    cases hc : hasN M1 j with
    | true => rfl
    | false =>
      have := deadB_spec (M := M1) (n := j) (by simp [deadB, hc])
      rw [this] at hj; simp at hj
  have W3 := W2.ren (M1 := toM M1) (nx1 := nx1) (σ := nth 0 ps) (by rw [hXp]; exact Nat.le_of_ble_eq_true hps2.2) hlt1 (fun i j b c hb hc e => hinj i j (hasr2 i b hb) (hasr2 j c hc) e)
    (fun i b hb => by have := idB_spec hps2.1 i (hasr i (hasr2 i b hb)); rw [hXp]; simpa using this) hB
  have hL : ∀ i b1, mget (toM M1) i = some b1 → lens (mget (toM M1)) i = lens (mget (toM M')) (nth 0 ps i) := by
    intro i b1 hb1
    obtain ⟨b, hb, hR⟩ := hB i b1 hb1
    simp only [lens, hb1, hb, Option.map_some, hR.ln, hR.sz]
  exact ⟨_, _, W3, Rn.back (ρ1 := fun i => wkPl ⟨[], toM M, nx⟩ ρ' (nth 0 ps i)) (L1 := lens (mget (toM M1))) (N1 := (· < nx1)) (fun k ⟨b2, hk⟩ => ⟨rfl, hL k b2 hk, hlt1 k b2 hk⟩) hav hr1⟩
def iQY (p : Nat) (b : Frame) (n : Nat) (body : ICode) (M1 : IMem) (nx1 : Nat) (R : Env) : KS := fun F M nx => ∀ X', X'.p = p → irun R X' b (fun _ M nx => True → IRetM X' M nx [] (.tup []) M1 nx1) n [.code body] F M nx
theorem Env.enterY {l : Nat} {r : Loop} {lp : ILp} (hlp : IsLp R r lp) (n p : Nat) {args caps : List AV} {M0 M1 : IMem} {nx1 : Nat} (hn : args.length = lp.ps.length) (hlen : M0.length = p)
    (hwf : (ltB M0 M0.length && liveB M0 M0.length && liveB M1 M0.length && ltB M1 nx1 && Nat.ble M0.length nx1) = true)
    (h : ∀ X b, AV.fitL (args ++ caps) → X.p = p → irun R X b (fun _ _ _ => False) n [.code lp.asg, .rnd (iQY p b n lp.body M1 nx1 R), .code lp.body] (lpF lp.ps args (ssF lp.ss caps)) M0 p) :
    Wc (wayY R.P l r lp.ss) (args ++ caps) M0 (.bool true) M1 nx1 := by
  subst hlen
  refine ⟨wayY_ok, ?_, hwf⟩
  intro w I ρ vs hW0 hR hIl hl us hus hul c cs
  subst hus
  have hlt : l < w.heap.size := (Array.getElem?_eq_some_iff.1 hl).1
  let X : Ctx := ⟨w, M0.length, I, r.tmps.size, ρ, lens (mget (toM M0))⟩
  let b : Frame := { fn := r.fn, tmps := #[], todo := [], defers := [], mode := .run, kind := .normal, roundOf := some l }
  have e1 : (r.params.zip us.toArray).foldl (fun t (q, v) => t.setIfInBounds q v) r.tmps = (lp.ps.zip us).foldl (fun t (q, v) => t.setIfInBounds q v) r.tmps := by
    rw [← Array.foldl_toList, Array.toList_zip, hlp.ps]
  have hul' : us.length = args.length := by rw [hul, hn, ← hlp.ps]; simp
  have hr1 : ∀ j, j < args.length → Rep ρ (lens (mget (toM M0))) I w (· < M0.length) (args.getD j .bad) (us.getD j default) := fun j hj => by
    have := hR.2 j (by simp; omega)
    simpa [List.getD_eq_getElem?_getD, List.getElem?_append_left hj, List.getElem?_append_left (show j < us.length by omega)] using this
  have hr2 : ∀ i, Rep ρ (lens (mget (toM M0))) I w (· < M0.length) (look (ssF lp.ss caps) i) (r.tmps.getD i undef) := ssF_rep (Rp := fun av v => Rep ρ (lens (mget (toM M0))) I w (· < M0.length) av v) (fun v => .bad v) lp.ss caps (fun j hj => by
    have := hR.2 (args.length + j) (by simp; omega)
    have e2 : (args ++ caps).getD (args.length + j) .bad = caps.getD j .bad := by simp [List.getD_eq_getElem?_getD, List.getElem?_append_right]
    have e3 : (us ++ tmOf r lp.ss).getD (args.length + j) default = (tmOf r lp.ss).getD j default := by
      rw [List.getD_eq_getElem?_getD, List.getElem?_append_right (by omega), List.getD_eq_getElem?_getD]
      simp [hul']
    rw [e2, e3] at this
    exact this)
  obtain ⟨hF1, hF2⟩ := lpF_rep (Rp := fun av v => Rep ρ (lens (mget (toM M0))) I w (· < M0.length) av v) (n := r.tmps.size) lp.ps args us (ssF lp.ss caps) r.tmps hul' hr1 hr2 rfl hlp.lt
  rw [e1]
  generalize (lp.ps.zip us).foldl (fun t (q, v) => t.setIfInBounds q v) r.tmps = tm at hF1 hF2 ⊢
  let a : Act := { tmps := tm, defers := [] }
  have hround : Frame.round l r.fn tm r.assign r.body .normal = b.atR a [.code r.assign, .beginRound, .code r.body] := rfl
  have hS : Sat X ⟨lpF lp.ps args (ssF lp.ss caps), toM M0, M0.length⟩ a w := ⟨ρ, I, hW0 r.tmps.size, hF1, .nil, hF2⟩
  obtain ⟨a1, w1, S1, hS1, h1 | h1⟩ := irun_sound n _ _ _ _ [.code r.assign, .rnd .beg (PS (iQY M0.length b n lp.body M1 nx1 R)), .code r.body] a w (fun x hx => by
    simp only [List.mem_cons, List.not_mem_nil, or_false] at hx
    rcases hx with rfl | rfl | rfl
    · exact hlp.asg.1
    · trivial
    · exact hlp.body.1) (by exact ⟨hlp.asg.2, rfl, hlp.body.2, trivial⟩) (h X b hR.fit rfl) hS (c :: cs)
  · obtain ⟨_, _, _, _, _, _, _, hf⟩ := h1
    exact hf.elim
  · obtain ⟨c2, post, k', hsuf, hst, hpost⟩ := h1
    rcases List.suffix_cons_iff.1 hsuf with e | hsuf
    · simp at e
    rcases List.suffix_cons_iff.1 hsuf with e | hsuf
    · simp only [List.cons.injEq, It.rnd.injEq] at e
      obtain ⟨⟨rfl, rfl⟩, rfl⟩ := e
      obtain ⟨F1, N1, n1, rfl, h2⟩ := hpost
      obtain ⟨ρ1, I1, W1, Fo1⟩ := hS1
      obtain ⟨hI1, hl1⟩ := W1.old_at (l := l) hIl hl
      have W2 := W1.turn0 (.loop { r with state := .busy }) (noCells_loop hl1) hIl hlt
      let X1 : Ctx := { X with w0 := w.putObj l (.loop { r with state := .busy }) }
      have hS2 : Sat X1 ⟨F1, toM N1, n1⟩ a1 (w1.putObj l (.loop { r with state := .busy })) := by
        refine ⟨ρ1, I1, W2, fun i => (Fo1.rep i).turn _ (noCells_loop hl1), ?_, Fo1.size⟩
        obtain ⟨Ds, d0, d1, d2⟩ := Fo1.defers
        refine ⟨Ds, d0, d1, fun D hD => ?_⟩
        obtain ⟨d3, d4, d5⟩ := d2 D hD
        refine ⟨by show (w.putObj l _).heap.size ≤ D; rw [putObj_size]; exact d3, d4, ?_⟩
        rw [putObj_other (fun e => by subst e; rw [hl1] at d5; simp at d5)]; exact d5
      obtain ⟨a3, w3, S3, hS3, h3 | h3⟩ := irun_sound n _ _ _ _ [.code r.body] a1 _ (fun x hx => by
        simp only [List.mem_cons, List.not_mem_nil, or_false] at hx
        subst hx
        exact hlp.body.1) (by exact ⟨hlp.body.2, trivial⟩) (h2 X1 rfl) hS2 (c :: cs)
      · obtain ⟨todo, hlv, hst3, F3, N3, n3, rfl, hz⟩ := h3
        have htodo : todo = [] := by
          rcases hlv with h | ⟨h, _⟩
          · exact h
          · exact Bool.noConfusion h
        subst htodo
        obtain ⟨ρ3, I3, W3, Fo3⟩ := hS3
        obtain ⟨hI3, hl3⟩ := W3.old_at (l := l) hIl (World.putObj_heap_same hlt)
        simp only [Bool.and_eq_true] at hwf
        obtain ⟨ρ4, I4, W4, _⟩ := (hz trivial).core (p0 := M0.length) (by simp only [Bool.and_eq_true]; exact ⟨hwf.1.1.2, hwf.1.2⟩) W3 (v := .tuple #[]) (.tup [] [] rfl (fun j hj => by simp at hj))
        have er : ({ ({ r with state := .busy } : Loop) with state := .ready, pending := none } : Loop) = r := by
          have := hlp.st
          have := hlp.pd
          cases r
          simp_all
        have W5 := W4.turn0 (.loop r) (noCells_loop hl3) hIl (by show l < (w.putObj l _).heap.size; rw [putObj_size]; exact hlt)
        have ew : (w.putObj l (.loop { r with state := .busy })).putObj l (.loop r) = w := putObj_back hl
        refine ⟨w3.putObj l (.loop r), ⟨ρ4, I4, r.tmps.size, ?_, .bool true⟩, ?_⟩
        · have : ({ X1 with w0 := X1.w0.putObj l (.loop r) } : Ctx) = X := by show ({ X1 with w0 := (w.putObj l _).putObj l (.loop r) } : Ctx) = X; rw [ew]
          rw [this] at W5
          exact W5
        · rw [hround]
          have hend := step_endRound (P := R.P) (b := b) (a := a3) (c := c) (cs := cs) rfl rfl hl3
          rw [er] at hend
          exact hst.trans (.head (step_beg rfl hl1 hlp.st) (hst3.trans (.one hend)))
      · obtain ⟨_, _, _, hs3, _⟩ := h3
        rcases List.suffix_cons_iff.1 hs3 with e | hs3
        · simp at e
        · simp at hs3
    · rcases List.suffix_cons_iff.1 hsuf with e | hsuf
      · simp at e
      · simp at hsuf
def wayL (P : Program) (f l : Nat) (r : Loop) : Way := fun I w vs Q => I l → w.heap[l]? = some (.loop r) → Calls P f vs.toArray w fun e w1 => ∃ v, e = .returned v ∧ Q v w1
theorem wayL_ok {P : Program} {f l : Nat} {r : Loop} : (wayL P f l r).Ok := ⟨fun hI hq h h1 h2 => (h (hI _ h1) h2).mono (by rintro e w1 ⟨v, rfl, k⟩; exact ⟨v, rfl, hq _ _ k⟩)⟩
theorem Env.Fn.enterL {g : Nat} {fn : IFn} (F : R.Fn g fn) (n p : Nat) {l : Nat} {r : Loop} {args : List AV} {M0 : IMem} {av : AV} {M1 : IMem} {nx1 : Nat} (hn : args.length = fn.np) (hlen : M0.length = p)
    (hwf : (ltB M0 M0.length && liveB M0 M0.length && liveB M1 M0.length && ltB M1 nx1 && Nat.ble M0.length nx1) = true)
    (h : ∀ X b, AV.fitL args → X.p = p → LpAt X l r → irun R X b (iQM X fn.rs av M1 nx1) n [.code fn.body] (argF 0 args) M0 p) : Wc (wayL R.P (R.ft g) l r) args M0 av M1 nx1 := by
  subst hlen
  refine ⟨wayL_ok, ?_, hwf⟩
  obtain ⟨f, c, h1, h2, h3, h4, h5, h6, h7⟩ := F.spec
  intro w I ρ vs hW0 hR hIl hl cs
  let X : Ctx := ⟨w, M0.length, I, f.ntmps, ρ, lens (mget (toM M0))⟩
  let b : Frame := { fn := R.ft g, tmps := #[], todo := [], defers := [], mode := .run, kind := .normal }
  let a : Act := { tmps := vs.toArray ++ Array.replicate (f.ntmps - vs.toArray.size) undef, defers := [] }
  have henter : Frame.enter R.P (R.ft g) vs.toArray .normal = b.atR a [.code c] := by simp [Frame.enter, Frame.atR, h1, h3, b, a]
  have hW : Wok X ρ I (mget (toM M0)) (· < M0.length) w := hW0 f.ntmps
  have hS : Sat X ⟨argF 0 args, toM M0, M0.length⟩ a w := by
    refine ⟨ρ, I, hW, fun i => ?_, .nil, ?_⟩
    · show Rep _ _ _ _ _ (look (argF 0 args) i) _
      rw [look_argF]
      by_cases hi : 0 ≤ i ∧ i < 0 + args.length
      · rw [if_pos hi]
        have hlt : i < vs.length := by rw [hR.1]; omega
        have e : a.tmps.getD i undef = vs.getD i default := by
          simp only [a]
          rw [Array.getD_eq_getD_getElem?, Array.getElem?_append_left (by simpa using hlt)]
          simp [List.getD_eq_getElem?_getD, hlt]
        rw [e]
        exact hR.2 i (by omega)
      · rw [if_neg hi]; exact .bad _
    · show a.tmps.size = f.ntmps
      have := hR.1
      simp [a]; omega
  obtain ⟨a', w', S', ⟨ρ', I', W', F'⟩, h8 | h8⟩ := irun_sound n _ _ _ _ [.code c] a w (fun x hx => by simp at hx; subst hx; exact h4) (by exact ⟨h5, trivial⟩) (h X b hR.fit rfl ⟨hIl, hl⟩) hS cs
  · obtain ⟨todo, hlv, hst, F2, M2, nx2, rfl, hret⟩ := h8
    obtain ⟨w', hst2, W', hRp⟩ := leave_defers (P := R.P) (b := b) (cs := cs) (todo := todo) W' F'.defers
    have hst := (hst.trans (leave_step rfl hlv)).trans hst2
    obtain ⟨avs, v, hz, hrun, hrep⟩ := results_sound (fn := f) R.ok.tt W' (fun i => hRp _ _ _ (F'.rep i)) (iresK_elim h7 hret)
    simp only [Bool.and_eq_true] at hwf
    obtain ⟨ρ3, I3, W3, hr3⟩ := (hz trivial).core (p0 := M0.length) (by simp only [Bool.and_eq_true]; exact ⟨hwf.1.1.2, hwf.1.2⟩) W' hrep
    refine ⟨.returned v, w', { b.atR { a' with defers := [] } todo with mode := .returning }, ⟨v, rfl, ρ3, I3, f.ntmps, W3, hr3⟩, ?_, rfl, ?_⟩
    · rw [henter]; show Steps R.P _ _; simpa [It.item] using hst
    · exact ⟨rfl, rfl, rfl, f, h1, hrun⟩
  · obtain ⟨c', post, k', hsuf, _⟩ := h8
    rcases List.suffix_cons_iff.1 hsuf with h | h
    · simp at h
    · simp at h
theorem natsEq_to {a b : List Nat} (h : natsEq a b = true) : a = b := natsEq_eq h
theorem IRf.mut {b : Frame} {Q : KS} {f : Sc} {qs : List Nat} {ia ib : ICode} {k : List IIt} {F : Frm} {M : IMem} {nx g : Nat} {lb : List AV} (n : Nat) (ss : List Nat) (fl : Bool) (ps : List Nat) {args0 : Nat → List Value → List AV} {M0 M1 : IMem} {nx1 : Nat} {av : AV}
    (hb : HasBody R.P (R.ft g)) (hf : scv R F f = .clo (.fn (R.ft g)) lb)
    (h : ∀ l r, IsLp R r ⟨qs, ss, ia, ib⟩ → Wc (wayL R.P (R.ft g) l r) (args0 l (tmOf r ss)) M0 av M1 nx1)
    (hz : ∀ l tm, MPre false ps fl M nx (.clo (.lp l tm) (ss.map (look F)) :: lb) (args0 l tm) M0)
    (kk : rnK ps nx M1 fl 5 av fun _ => mutK ps nx M1 fl M1 M fun M' => irun R X b Q n k F M' (nx + (nx1 - ps.length))) : IRf R X b Q f qs ia ib k F M nx := by
  refine ⟨fun f' ps' as bd ks hm hks hok hkok a w hS cs => ?_⟩
  obtain ⟨ρ, I, W, Fo⟩ := hS
  simp only [mcode, Bool.and_eq_true] at hm
  obtain ⟨⟨⟨hm1, hm2⟩, hm3⟩, hm4⟩ := hm
  simp only [codeOk, Bool.and_eq_true, Bool.not_eq_true'] at hok
  obtain ⟨⟨⟨ho1, ho2⟩, ho3⟩, ho4⟩ := hok
  have hro : b.roundOf = none := by cases hh : b.roundOf with
    | none => rfl
    | some x => rw [hh] at ho1; simp at ho1
  have r1 := rep_ev (F := F) (a := a) f' (fun s _ => Fo.rep s)
  rw [msc_eq hm1, hf] at r1
  generalize hv : a.eval f' = v at r1
  cases r1 with
  | clo _ _ us hl hr =>
    let D := w.heap.size
    let r : Loop := { state := .ready, pending := none, fn := b.fn, tmps := a.tmps, params := ps', assign := as, body := bd, defers := w.heap.size }
    have hlp : IsLp R r ⟨qs, ss, ia, ib⟩ := by
      refine ⟨rfl, rfl, natsEq_to hm2, ⟨?_, hm3⟩, ⟨?_, hm4⟩, fun p hp => ?_⟩
      · show codeOk a.tmps.size true as = true
        rw [Fo.size]; exact ho2
      · show codeOk a.tmps.size true bd = true
        rw [Fo.size]; exact ho3
      · show p < a.tmps.size
        rw [Fo.size]
        have hp' : p ∈ ps'.toList := by rw [natsEq_to hm2]; exact hp
        have := List.all_eq_true.1 ho4 p hp'
        simpa [Nat.blt_eq] using this
    obtain ⟨w1, hw1⟩ : ∃ w1, (w.alloc (.deferred (some []))).alloc (.loop r) = w1 := ⟨_, rfl⟩
    have hsz : w1.heap.size = w.heap.size + 2 := by rw [← hw1]; simp
    have hD1 : w1.heap[w.heap.size]? = some (.deferred (some [])) := by
      rw [← hw1]; exact (Below.heap_alloc _ _ _ (by simp)).trans (World.alloc_heap_new w _)
    have hL1 : w1.heap[w.heap.size + 1]? = some (.loop r) := by
      rw [← hw1]; have := World.alloc_heap_new (w.alloc (.deferred (some []))) (.loop r); rwa [World.size_alloc] at this
    have hold : ∀ k, k < w.heap.size → w1.heap[k]? = w.heap[k]? := fun k hk => by
      rw [← hw1]; exact (Below.heap_alloc _ _ _ (by simp; omega)).trans (Below.heap_alloc _ _ _ hk)
    obtain ⟨E1, W1⟩ := W.ext (w' := w1) (I' := fun g => I g ∨ g = w.heap.size ∨ g = w.heap.size + 1) (by rw [← hw1]; rfl) (by rw [← hw1]; rfl) (by rw [← hw1]; rfl) (by omega) hold (fun g h => .inl h)
      (fun g h => by
        rcases h with h | h | h
        · have := W.lt g h; omega
        · omega
        · omega) (fun g hg h => by
        rcases h with h | h | h
        · exact h
        · omega
        · omega)
    have Fo1 : FrmOk ρ (fun g => I g ∨ g = w.heap.size ∨ g = w.heap.size + 1) w1 X ⟨F, toM M, nx⟩ ⟨a.tmps, { target := .collected w.heap.size, args := #[] } :: a.defers⟩ := by
      refine ⟨fun i => (Fo.rep i).evo E1 (fun _ h => h), ?_, Fo.size⟩
      obtain ⟨Ds, d0, d1, d2⟩ := Fo.defers
      refine ⟨w.heap.size :: Ds, by simp [d0], List.nodup_cons.2 ⟨fun hD => ?_, d1⟩, fun D' hD => ?_⟩
      · have := W.lt _ (d2 _ hD).2.1
        omega
      · rcases List.mem_cons.1 hD with rfl | hD
        · exact ⟨W.keeps.size, .inr (.inl rfl), hD1⟩
        · obtain ⟨q1, q2, q3⟩ := d2 D' hD
          exact ⟨q1, .inl q2, (E1.cell _ q2).trans q3⟩
    obtain ⟨av', ws, M', hav, hk, hM, hw1', hw2, hw3, hw4, hps, hlen⟩ := mut_static (F := F) (d := none) (K := irun R X b Q n k) (h (w.heap.size + 1) r hlp) (hz _ _) kk
    have hR : RepL ρ (lens (mget (toM M))) (fun g => I g ∨ g = w.heap.size ∨ g = w.heap.size + 1) w1 (· < nx) (.clo (.lp (w.heap.size + 1) (tmOf r ss)) (ss.map (look F)) :: lb) (.func (.yield (w.heap.size + 1)) #[] #[] :: us) := by
      refine ⟨by simp [hl], fun j hj => ?_⟩
      cases j with
      | zero =>
        refine .yld _ _ _ (by simp [tmOf]) (fun i hi => ?_)
        have hi' : i < ss.length := by simpa using hi
        have e1 : (ss.map (look F)).getD i .bad = look F (ss[i]) := by simp [List.getD_eq_getElem?_getD, hi']
        have e2 : (tmOf r ss).getD i default = a.tmps.getD (ss[i]) undef := by simp [tmOf, List.getD_eq_getElem?_getD, hi', r]
        rw [e1, e2]
        exact Fo1.rep _
      | succ j => simpa using (hr j (by simpa using hj)).evo E1 (fun _ h => h)
    have hC := mut_core (nx := nx) (h (w.heap.size + 1) r hlp) (hz _ _) hav hw1' hw2 hw3 W1 (fun _ _ => rfl) (fun _ _ => rfl) (fun _ _ _ _ _ => rfl) (fun k hk hk' => (show ¬ k < nx by omega)) hR
    obtain ⟨e, w2, fr, ⟨v, rfl, hp⟩, hsteps, _, hleave⟩ := hC (.inr (.inr rfl)) hL1 (b.atR ⟨a.tmps, { target := .collected w.heap.size, args := #[] } :: a.defers⟩ (.inRangeFunc (w.heap.size + 1) :: ks.map It.item) :: cs)
    obtain ⟨fn, hfn, hname, hbody⟩ := hb
    have hstep1 : step R.P (lone (b.atR a (.code (.rangeFunc f' ps' as bd) :: ks.map It.item)) cs w) =
        .next (lone (Frame.enter R.P (R.ft g) (.func (.yield (w.heap.size + 1)) #[] #[] :: us).toArray .normal) (b.atR ⟨a.tmps, { target := .collected w.heap.size, args := #[] } :: a.defers⟩ (.inRangeFunc (w.heap.size + 1) :: ks.map It.item) :: cs) w1) := by
      have hname' : ¬ fn.name = "runtime.NumGoroutine" := by simpa using hname
      have hbody' : ¬ fn.body = none := by intro h; rw [h] at hbody; simp at hbody
      have hE : (Instr.enterLoop b.fn a.tmps ps' as bd none).run R.P w = .ok (w.heap.size + 1, [{ target := .collected w.heap.size, args := #[] }]) w1 := by
        rw [← hw1]; exact run_enterLoop_outer _ _ _ _ _
      have hres : (resolve a.eval (rangeCall f' (w.heap.size + 1)) 0).run R.P w1 = .ok { target := .fn (.func (R.ft g)) us.toArray, args := #[.func (.yield (w.heap.size + 1)) #[] #[]] } w1 := by
        simp only [resolve, rangeCall, hv]
        simp [Deferred.ofValue, Act.eval]
      have hinv : (invoke (.fn (.func (R.ft g)) us.toArray) #[.func (.yield (w.heap.size + 1)) #[] #[]]).run R.P w1 = .ok (.enter (R.ft g) (.func (.yield (w.heap.size + 1)) #[] #[] :: us).toArray) w1 := by
        have e : (#[.func (.yield (w.heap.size + 1)) #[] #[]] : Array Value) ++ us.toArray = (.func (.yield (w.heap.size + 1)) #[] #[] :: us).toArray := by apply Array.ext'; simp
        simp [invoke, callFunc, hfn, hname', hbody', e]
      exact stepR_rangeFunc (P := R.P) (b := b) (a := a) (k := ks.map It.item) (cs := cs) (by rw [hro]; exact hE) hres hinv
    have hfin : (b.atR ⟨a.tmps, { target := .collected w.heap.size, args := #[] } :: a.defers⟩ (.inRangeFunc (w.heap.size + 1) :: ks.map It.item)).finish v = b.atR ⟨a.tmps, { target := .collected w.heap.size, args := #[] } :: a.defers⟩ (.endRangeFunc (w.heap.size + 1) :: ks.map It.item) := by
      simp [Frame.finish, Frame.atR]
    have hstep2 := step_leave_returned (c := b.atR ⟨a.tmps, { target := .collected w.heap.size, args := #[] } :: a.defers⟩ (.inRangeFunc (w.heap.size + 1) :: ks.map It.item)) (cs := cs) hleave
    rw [hfin] at hstep2
    obtain ⟨ρ2, I2, i1, i2, W2, Fo2⟩ := sat_putI (S := ⟨F, toM M, nx⟩) (nw := []) (nx' := nx + (nx1 - ps.length)) (d := none) Fo1 (fun p hp => by
      rcases hw4 p hp with h | h
      · have := hps _ h; omega
      · exact h.2) (Nat.le_add_right _ _) (fun x hx => by simp at hx) hp
    have hL2 : w2.heap[w.heap.size + 1]? = some (.loop r) := (i2 _ (.inr (.inr rfl))).trans hL1
    have W3 := W2.turn (.loop { r with state := .exhausted }) (noCells_loop hL2) (i1 _ (.inr (.inr rfl))) (Nat.le_trans W.keeps.size (Nat.le_succ _))
    have hS3 : Sat X ⟨F, toM M', nx + (nx1 - ps.length)⟩ ⟨a.tmps, { target := .collected w.heap.size, args := #[] } :: a.defers⟩ (w2.putObj (w.heap.size + 1) (.loop { r with state := .exhausted })) := by
      refine sat_ext (S := ⟨F, msets (toM M) ws, nx + (nx1 - ps.length)⟩) rfl hM.symm rfl ⟨ρ2, I2, W3, fun i => (Fo2.rep i).turn _ (noCells_loop hL2), ?_, Fo2.size⟩
      obtain ⟨Ds, d0, d1, d2⟩ := Fo2.defers
      refine ⟨Ds, d0, d1, fun D' hD => ?_⟩
      obtain ⟨d3, d4, d5⟩ := d2 D' hD
      refine ⟨d3, d4, ?_⟩
      rw [putObj_other (fun e => by subst e; rw [hL2] at d5; simp at d5)]; exact d5
    have hstep3 : step R.P (lone (b.atR ⟨a.tmps, { target := .collected w.heap.size, args := #[] } :: a.defers⟩ (.endRangeFunc (w.heap.size + 1) :: ks.map It.item)) cs w2) =
        .next (lone (b.atR ⟨a.tmps, { target := .collected w.heap.size, args := #[] } :: a.defers⟩ (ks.map It.item)) cs (w2.putObj (w.heap.size + 1) (.loop { r with state := .exhausted }))) :=
      stepR_endRangeFunc (jump := none) (run_endLoop hL2 (by simp [r]))
    have hpre := (Steps.head hstep1 hsteps).trans (.head hstep2 (.one hstep3))
    obtain ⟨a4, w4, S4, hS4, h4 | h4⟩ := irun_sound n k F M' _ ks _ _ hkok hks (finK_to hk) hS3 cs
    · obtain ⟨todo, hl4, h5, h6⟩ := h4
      exact ⟨a4, w4, S4, hS4, .inl ⟨todo, hl4, hpre.trans h5, h6⟩⟩
    · obtain ⟨c, post, k', h5, h6, h7⟩ := h4
      exact ⟨a4, w4, S4, hS4, .inr ⟨c, post, k', suf_drop h5, hpre.trans h6, h7⟩⟩
theorem cY {l : Nat} {r : Loop} {lp : ILp} {args caps args0 : List AV} {F : Frm} {M M0 M1 : IMem} {nx nx1 : Nat} {d : Option Nat} {K : KS} (fl : Bool) (ps : List Nat) (hX : LpAt X l r) (hlp : IsLp R r lp)
    (h : Wc (wayY R.P l r lp.ss) args0 M0 (.bool true) M1 nx1) (k : rnK ps nx M1 fl 5 (.bool true) fun av' => mutK ps nx M1 fl M1 M fun M' => finK d av' F M' (nx + (nx1 - ps.length)) K)
    (hn : args.length = lp.ps.length := by rfl) (hz : MPre false ps fl M nx (args ++ caps) args0 M0 := by
    refine ⟨rfl, ?_, ?_⟩
    all_goals repeat' (first | exact True.intro | refine And.intro ?_ ?_ | (intro _u; clear _u) | with_reducible first | refine eL ?_ ?_ ?_ | refine eA ?_ ?_)
    all_goals first | with_reducible rfl | omega | (simp; done) | rfl) : IYield R X l (tmOf r lp.ss) caps args F M nx d K := .mut fl ps hX (by rw [hn, ← hlp.ps, Array.length_toList]) h hz k
theorem cL {b : Frame} {Q : KS} {f : Sc} {lp : ILp} {k : List IIt} {F : Frm} {M : IMem} {nx g : Nat} {lb : List AV} (n : Nat) (fl : Bool) (ps : List Nat) {args0 : Nat → List Value → List AV} {M0 M1 : IMem} {nx1 : Nat} {av : AV}
    (hb : HasBody R.P (R.ft g)) (h : ∀ l r, IsLp R r lp → Wc (wayL R.P (R.ft g) l r) (args0 l (tmOf r lp.ss)) M0 av M1 nx1)
    (kk : rnK ps nx M1 fl 5 av fun _ => mutK ps nx M1 fl M1 M fun M' => irun R X b Q n k F M' (nx + (nx1 - ps.length)))
    (hf : scv R F f = .clo (.fn (R.ft g)) lb := by rfl) (hz : ∀ l tm, MPre false ps fl M nx (.clo (.lp l tm) (lp.ss.map (look F)) :: lb) (args0 l tm) M0 := by
    intro l tm
    refine ⟨rfl, ?_, ?_⟩
    all_goals repeat' (first | exact True.intro | refine And.intro ?_ ?_ | (intro _u; clear _u) | with_reducible first | refine eL ?_ ?_ ?_ | refine eA ?_ ?_)
    all_goals first | with_reducible rfl | omega | (simp; done) | rfl) : IRf R X b Q f lp.ps lp.asg lp.body k F M nx := .mut n lp.ss fl ps hb hf h hz kk
end Go.AM

namespace Go.AM
open Go.RowKit Go.WideShapes
variable {P : Program} {T : TT}
def ctyS (C : Nat → List AV → Prop) : List (Nat × Nat) → List AV → Prop
  | [], as => as = []
  | f :: r, as => ∃ a1 a2, as = a1 ++ a2 ∧ C f.2 a1 ∧ ctyS C r a2
def ctyA (C : List AV → Prop) : Nat → List AV → Prop
  | 0, as => as = []
  | k + 1, as => ∃ a1 a2, as = a1 ++ a2 ∧ C a1 ∧ ctyA C k a2
def cty (T : TT) : Nat → Nat → List AV → Prop
  | 0, _, _ => False
  | n + 1, t, as => match T.d t with
    | .int k => ∃ x, as = [.int k x] ∧ (Lit.int k x).wf = true
    | .bool => ∃ b, as = [.bool b]
    | .str => ∃ s, as = [.str s] ∧ s.length ≤ maxLen
    | .slice e => ∃ es, as = [.isl (T.s e) es] ∧ es.length ≤ maxLen ∧ ∀ r ∈ es, cty T n e r
    | .struct fs => ctyS (cty T n) fs as
    | .arr m e => ctyA (cty T n e) m as
    | _ => False
def contig (T : TT) : Nat → List (Nat × Nat) → Nat → Bool
  | o, [], e => Nat.beq o e
  | o, f :: r, e => Nat.beq f.1 o && contig T (o + T.s f.2) r e
def plainS (p : Nat → Bool) : List (Nat × Nat) → Bool
  | [] => true
  | f :: r => p f.2 && plainS p r
def plain (T : TT) : Nat → Nat → Bool
  | 0, _ => false
  | n + 1, t => match T.d t with
    | .int _ => Nat.beq (T.s t) 1
    | .bool => Nat.beq (T.s t) 1
    | .str => Nat.beq (T.s t) 1
    | .slice e => Nat.beq (T.s t) 1 && (!Nat.beq (T.s e) 0 && plain T n e)
    | .struct fs => contig T 0 fs (T.s t) && plainS (plain T n) fs
    | .arr m e => Nat.beq (T.s t) (m * T.s e) && plain T n e
    | _ => false
theorem plainS_mem {p : Nat → Bool} : ∀ {fs : List (Nat × Nat)}, plainS p fs = true → ∀ f ∈ fs, p f.2 = true
  | [], _, f, hf => by simp at hf
  | g :: r, h, f, hf => by
    simp only [plainS, Bool.and_eq_true] at h
    rcases List.mem_cons.1 hf with rfl | hf
    · exact h.1
    · exact plainS_mem h.2 f hf
theorem choose_list {α : Type} {p : Nat → α → Prop} (d : α) : ∀ (n : Nat), (∀ i, i < n → ∃ r, p i r) → ∃ es : List α, es.length = n ∧ ∀ i, i < n → p i (es.getD i d)
  | 0, _ => ⟨[], rfl, fun i hi => by omega⟩
  | n + 1, h => by
    obtain ⟨es, h1, h2⟩ := choose_list d n (fun i hi => h i (by omega))
    obtain ⟨r, hr⟩ := h n (by omega)
    refine ⟨es ++ [r], by simp [h1], fun i hi => ?_⟩
    by_cases e : i < n
    · have : (es ++ [r]).getD i d = es.getD i d := by simp [List.getD_eq_getElem?_getD, List.getElem?_append_left (show i < es.length by omega)]
      rw [this]; exact h2 i e
    · have : i = n := by omega
      subst this
      have : (es ++ [r]).getD i d = r := by simp [List.getD_eq_getElem?_getD, ← h1]
      rw [this]; exact hr
section
variable {W : World}
def Rep0 (W : World) (a : AV) (v : Value) : Prop := v.oneCell' = true ∧ Rep noPlace noLens (fun g => g < W.heap.size) W NoName a v
theorem open_fields {cs : List Value} {n total : Nat} : ∀ (fs : List (Nat × Nat)) (o : Nat), contig T o fs total = true → (∀ f ∈ fs, ∃ as : List AV, cty T n f.2 as ∧ as.length = T.s f.2 ∧ ∀ j, j < as.length → Rep0 W (as.getD j .bad) (((cs.drop f.1).take (T.s f.2)).getD j default)) →
    ∃ as : List AV, ctyS (cty T n) fs as ∧ o + as.length = total ∧ ∀ j, j < as.length → Rep0 W (as.getD j .bad) (cs.getD (o + j) default)
  | [], o, hc, _ => ⟨[], rfl, by simpa using Nat.eq_of_beq_eq_true hc, fun j hj => by simp at hj⟩
  | f :: r, o, hc, h => by
    simp only [contig, Bool.and_eq_true] at hc
    have hfo : f.1 = o := Nat.eq_of_beq_eq_true hc.1
    obtain ⟨a1, h1, h2, h3⟩ := h f List.mem_cons_self
    obtain ⟨a2, k1, k2, k3⟩ := open_fields (cs := cs) (n := n) r (o + T.s f.2) hc.2 (fun g hg => h g (List.mem_cons_of_mem _ hg))
    refine ⟨a1 ++ a2, ⟨a1, a2, rfl, h1, k1⟩, by simp; omega, fun j hj => ?_⟩
    by_cases e : j < a1.length
    · have e1 : (a1 ++ a2).getD j .bad = a1.getD j .bad := by simp [List.getD_eq_getElem?_getD, List.getElem?_append_left e]
      have e2 : ((cs.drop f.1).take (T.s f.2)).getD j default = cs.getD (o + j) default := by
        simp only [List.getD_eq_getElem?_getD]
        rw [List.getElem?_take_of_lt (by omega), List.getElem?_drop, hfo]
      rw [e1, ← e2]; exact h3 j e
    · have e1 : (a1 ++ a2).getD j .bad = a2.getD (j - a1.length) .bad := by simp [List.getD_eq_getElem?_getD, List.getElem?_append_right (Nat.le_of_not_lt e)]
      have e2 : o + j = o + T.s f.2 + (j - a1.length) := by omega
      rw [e1, e2]; exact k3 _ (by simp at hj; omega)
theorem open_elems {cs : List Value} {n e : Nat} : ∀ (k i : Nat), (∀ q, i ≤ q → q < i + k → ∃ as : List AV, cty T n e as ∧ as.length = T.s e ∧ ∀ j, j < as.length → Rep0 W (as.getD j .bad) (((cs.drop (q * T.s e)).take (T.s e)).getD j default)) →
    ∃ as : List AV, ctyA (cty T n e) k as ∧ as.length = k * T.s e ∧ ∀ j, j < as.length → Rep0 W (as.getD j .bad) (cs.getD (i * T.s e + j) default)
  | 0, i, _ => ⟨[], rfl, by simp, fun j hj => by simp at hj⟩
  | k + 1, i, h => by
    obtain ⟨a1, h1, h2, h3⟩ := h i (Nat.le_refl _) (by omega)
    obtain ⟨a2, k1, k2, k3⟩ := open_elems (cs := cs) (n := n) (e := e) k (i + 1) (fun q hq1 hq2 => h q (by omega) (by omega))
    refine ⟨a1 ++ a2, ⟨a1, a2, rfl, h1, k1⟩, by simp [h2, k2, Nat.add_mul]; omega, fun j hj => ?_⟩
    by_cases e' : j < a1.length
    · have e1 : (a1 ++ a2).getD j .bad = a1.getD j .bad := by simp [List.getD_eq_getElem?_getD, List.getElem?_append_left e']
      have e2 : ((cs.drop (i * T.s e)).take (T.s e)).getD j default = cs.getD (i * T.s e + j) default := by
        simp only [List.getD_eq_getElem?_getD]
        rw [List.getElem?_take_of_lt (by omega), List.getElem?_drop]
      rw [e1, ← e2]; exact h3 j e'
    · have e1 : (a1 ++ a2).getD j .bad = a2.getD (j - a1.length) .bad := by simp [List.getD_eq_getElem?_getD, List.getElem?_append_right (Nat.le_of_not_lt e')]
      have e2 : i * T.s e + j = (i + 1) * T.s e + (j - a1.length) := by rw [Nat.add_mul]; omega
      rw [e1, e2]; exact k3 _ (by simp at hj; omega)
theorem open_cells {H : Type} {enc : TypeId × Value → H} {sp : Nat → Bool} {held : Bool} (hT : TTok P T) : ∀ (m n t : Nat) (cs : List Value) (x : DataW H × List MemPlace), DataW.trod enc P W 0 sp held m t cs = some x → plain T n t = true →
    ∃ as : List AV, cty T n t as ∧ as.length = cs.length ∧ as.length = T.s t ∧ ∀ j, j < as.length → Rep0 W (as.getD j .bad) (cs.getD j default)
  | _, 0, t, cs, x, _, hp => by simp [plain] at hp
  | 0, n + 1, t, cs, x, h, _ => by simp [DataW.trod] at h
  | m + 1, n + 1, t, cs, x, h, hp => by
    have one : ∀ (a : AV) (v : Value), Rep0 W a v → ∀ j, j < [a].length → Rep0 W ([a].getD j .bad) ([v].getD j default) := fun a v hr j hj => by
      have : j = 0 := by simp at hj; omega
      subst this; simpa using hr
    have szof : ∀ u, T.d u ≠ .other → T.s u = P.cellsOf u := fun u hu => by
      obtain ⟨_, it, z, _, _, hi, hs, _⟩ := hT u hu
      simp [Program.cellsOf, hi, hs]
    have pl : ∀ u k, plain T k u = true → T.d u ≠ .other := fun u k hk hu => by
      cases k with
      | zero => simp [plain] at hk
      | succ k => simp [plain, hu] at hk
    have hne := pl t (n + 1) hp
    obtain ⟨D, it, z, hD, hf, hi, hs, _⟩ := hT t hne
    have hst := szof t hne
    simp only [plain] at hp
    simp only [cty]
    cases hd : T.d t with
    | int k =>
      rw [hd] at hp
      have := fits_int hd hf
      subst this
      obtain ⟨x', rfl, rfl, hw⟩ := DataW.trod_int hD h
      exact ⟨_, ⟨x', rfl, hw⟩, rfl, (Nat.eq_of_beq_eq_true hp).symm, one _ _ ⟨rfl, .int _ _⟩⟩
    | bool =>
      rw [hd] at hp hf
      have : D = .bool := by cases D <;> simp_all [TD.fits]
      subst this
      obtain ⟨b, rfl, rfl⟩ := DataW.trod_bool hD h
      exact ⟨_, ⟨b, rfl⟩, rfl, (Nat.eq_of_beq_eq_true hp).symm, one _ _ ⟨rfl, .bool _⟩⟩
    | str =>
      rw [hd] at hp
      have := fits_str hd hf
      subst this
      obtain ⟨s, rfl, rfl, hw⟩ := DataW.trod_string hD h
      refine ⟨_, ⟨s.data.toList, rfl, by simpa using hw⟩, rfl, (Nat.eq_of_beq_eq_true hp).symm, one _ _ ⟨rfl, ?_⟩⟩
      have : s = ⟨s.data.toList.toArray⟩ := by cases s; simp
      conv => rhs; rw [this]
      exact .str _
    | slice e =>
      rw [hd] at hp
      simp only [Bool.and_eq_true, Bool.not_eq_true'] at hp
      obtain ⟨hp1, hp2, hp3⟩ := hp
      have hz : T.s e ≠ 0 := fun h0 => by rw [h0] at hp2; simp at hp2
      have := fits_slice hd hf
      subst this
      have hse := szof e (pl e n hp3)
      rcases DataW.trod_slice hD h with ⟨rfl, rfl⟩ | ⟨a, len, cap, elems, rest, m', hm, rfl, rfl, hb, hl, hc, hlen, hel, _⟩
      · exact ⟨_, ⟨[], rfl, by simp, by simp⟩, rfl, (Nat.eq_of_beq_eq_true hp1).symm, one _ _ ⟨rfl, .islNil _ _ _ (by simp [maxLen])⟩⟩
      · have hm' : m' = m := by omega
        subst hm'
        have each : ∀ i, i < len → ∃ r : List AV, cty T n e r ∧ r.length = T.s e ∧ ∀ j, j < T.s e → ∃ u, W.cell? ((a.add (i * T.s e)).add j) = some u ∧ Rep0 W (r.getD j .bad) u := by
          intro i hi
          have h1 := hel i hi
          rw [List.getElem?_eq_getElem (by omega), Option.bind_eq_some_iff] at h1
          obtain ⟨cs', hc1, hc2⟩ := h1
          obtain ⟨_, hc4, hc5⟩ := World.cells?_some hc1
          obtain ⟨r, k1, k2, k3, k4⟩ := open_cells hT _ n e _ _ hc2 hp3
          refine ⟨r, k1, k3, fun j hj => ⟨cs'.getD j default, ?_, k4 j (by omega)⟩⟩
          have h5 := hc5 j (by omega)
          rw [List.getElem?_eq_getElem (by omega)] at h5
          rw [List.getD_eq_getElem?_getD, List.getElem?_eq_getElem (by omega), Option.getD_some, ← h5, hse]
        obtain ⟨es, e1, e2⟩ := choose_list [] len each
        refine ⟨_, ⟨es, rfl, by omega, fun r hr => ?_⟩, rfl, (Nat.eq_of_beq_eq_true hp1).symm, one _ _ ⟨rfl, ?_⟩⟩
        · obtain ⟨i, hi, rfl⟩ := List.getElem_of_mem hr
          have := (e2 i (by omega)).1
          rwa [List.getD_eq_getElem?_getD, List.getElem?_eq_getElem hi, Option.getD_some] at this
        · by_cases h0 : len = 0
          · subst h0
            have : es = [] := List.eq_nil_of_length_eq_zero e1
            subst this
            exact .islNil _ _ _ hc
          · obtain ⟨u, hu, _⟩ := (e2 0 (by omega)).2.2 0 (by omega)
            obtain ⟨b, o, spot⟩ := a
            have hspot : spot = none := by simpa [Addr.add] using World.cell?_spot hu
            subst hspot
            have hlt : b < W.heap.size := by
              rcases Nat.lt_or_ge b W.heap.size with h | h
              · exact h
              · rw [addr_add, addr_add] at hu
                simp only [World.cell?] at hu
                rw [Array.getElem?_eq_none h] at hu
                simp at hu
            subst e1
            refine .isl (T.s e) es b o cap (fun i j => (W.cell? ⟨b, o + i * T.s e + j, none⟩).getD default) hl hc hlt (fun r hr => ?_) (fun i j hi hj => ?_) (fun i j hi hj => ?_) (fun i j hi hj => ?_)
            · obtain ⟨i, hi, rfl⟩ := List.getElem_of_mem hr
              have := (e2 i (by omega)).2.1
              rwa [List.getD_eq_getElem?_getD, List.getElem?_eq_getElem hi, Option.getD_some] at this
            · obtain ⟨u, hu, h1, _⟩ := (e2 i hi).2.2 j hj
              have hu' : W.cell? ⟨b, o + i * T.s e + j, none⟩ = some u := by rw [addr_add, addr_add] at hu; exact hu
              rw [hu']; exact h1
            · obtain ⟨u, hu, h1, _⟩ := (e2 i hi).2.2 j hj
              have hu' : W.cell? ⟨b, o + i * T.s e + j, none⟩ = some u := by rw [addr_add, addr_add] at hu; exact hu
              rw [hu']; rfl
            · obtain ⟨u, hu, _, h1⟩ := (e2 i hi).2.2 j hj
              have hu' : W.cell? ⟨b, o + i * T.s e + j, none⟩ = some u := by rw [addr_add, addr_add] at hu; exact hu
              rw [hu']; exact h1
    | struct fs =>
      rw [hd] at hp
      simp only [Bool.and_eq_true] at hp
      obtain ⟨gs, rfl, hgs⟩ := fits_struct hd hf
      obtain ⟨xs, m', hm, rfl, hcl, hxl, hx⟩ := DataW.trod_struct hD h
      have hm' : m' = m := by omega
      subst hm'
      obtain ⟨as, a1, a2, a3⟩ := open_fields (W := W) (cs := cs) (n := n) fs 0 hp.1 (fun f hf => by
        have hpf := plainS_mem hp.2 f hf
        rw [hgs, List.mem_map] at hf
        obtain ⟨g, hg, rfl⟩ := hf
        obtain ⟨i, hi, rfl⟩ := List.getElem_of_mem hg
        have h1 := hx i _ (show gs[i]? = some gs[i] from Array.getElem?_eq_getElem (by simpa using hi))
        rw [List.getElem?_eq_getElem (by rw [hxl]; simpa using hi)] at h1
        simp only [Array.getElem_toList] at hpf h1 ⊢
        obtain ⟨r, k1, k2, k3, k4⟩ := open_cells hT _ n _ _ _ h1 hpf
        refine ⟨r, k1, k3, ?_⟩
        rw [szof _ (pl _ n hpf)]
        exact k4)
      exact ⟨as, a1, by rw [hcl, ← hst]; omega, by omega, fun j hj => by simpa using a3 j hj⟩
    | arr k e =>
      rw [hd] at hp
      simp only [Bool.and_eq_true] at hp
      have := fits_arr hd hf
      subst this
      obtain ⟨xs, m', hm, rfl, hcl, hxl, hx⟩ := DataW.trod_array hD h
      have hm' : m' = m := by omega
      subst hm'
      have hse := szof e (pl e n hp.2)
      obtain ⟨as, a1, a2, a3⟩ := open_elems (T := T) (W := W) (cs := cs) (n := n) (e := e) k 0 (fun q _ hq => by
        have h1 := hx q (by omega)
        rw [List.getElem?_eq_getElem (by omega)] at h1
        obtain ⟨r, k1, k2, k3, k4⟩ := open_cells hT _ n _ _ _ h1 hp.2
        refine ⟨r, k1, k3, ?_⟩
        rw [hse]
        exact k4)
      have hkt := Nat.eq_of_beq_eq_true hp.1
      exact ⟨as, a1, by rw [hcl, ← hst, a2, hkt], by rw [a2, hkt], fun j hj => by simpa using a3 j hj⟩
    | _ => rw [hd] at hp; simp at hp
def aof (T : TT) (t : Nat) (as : List AV) : AV := bif (T.d t).ag then .agg as else as.headD .bad
theorem open_av {H : Type} {enc : TypeId × Value → H} {sp : Nat → Bool} {held : Bool} (hT : TTok P T) {n t : Nat} {r : Reach} {b0 : Nat} {v : Value} {d : DataW H} {ps : List MemPlace} (hval : Value.okWide P W r b0 t v) (h : DataW.Trod enc P W 0 sp held t v d ps) (hp : plain T n t = true) :
    ∃ as : List AV, cty T n t as ∧ Rep noPlace noLens (fun g => g < W.heap.size) W NoName (aof T t as) v := by
  obtain ⟨m, h⟩ := h
  obtain ⟨as, h1, h2, h3, h4⟩ := open_cells hT m n t _ _ h hp
  refine ⟨as, h1, ?_⟩
  cases n with
  | zero => simp [plain] at hp
  | succ n =>
    simp only [plain] at hp
    have hne : T.d t ≠ .other := fun hu => by simp [hu] at hp
    obtain ⟨D, it, z, hD, hf, _⟩ := hT t hne
    have one : (T.d t).ag = false → v.cells.toList = [v] → Rep noPlace noLens (fun g => g < W.heap.size) W NoName (aof T t as) v := fun ha hv => by
      rw [hv] at h2 h4
      simp only [aof, ha, cond_false]
      match as, h2 with
      | [a], _ => simpa using (h4 0 (by simp)).2
    cases hd : T.d t with
    | int k =>
      have := fits_int hd hf
      subst this
      obtain ⟨x, rfl⟩ := okWide_int hD hval
      exact one (by rw [hd]; rfl) rfl
    | bool =>
      rw [hd] at hf
      have : D = .bool := by cases D <;> simp_all [TD.fits]
      subst this
      obtain ⟨x, rfl⟩ := okWide_bool hD hval
      exact one (by rw [hd]; rfl) rfl
    | str =>
      have := fits_str hd hf
      subst this
      obtain ⟨x, rfl⟩ := okWide_string hD hval
      exact one (by rw [hd]; rfl) rfl
    | slice e =>
      have := fits_slice hd hf
      subst this
      obtain ⟨a, l, c, rfl⟩ := okWide_slice hD hval
      exact one (by rw [hd]; rfl) rfl
    | struct fs =>
      obtain ⟨gs, rfl, hgs⟩ := fits_struct hd hf
      obtain ⟨cs, rfl, hcs⟩ := okWide_struct hD hval
      have ha : aof T t as = .agg as := by simp [aof, hd, TD.ag]
      rw [ha]
      have := Rep.agg (ρ := noPlace) (L := noLens) (I := fun g => g < W.heap.size) (w := W) (N := NoName) as cs.toList (by simpa [Value.cells] using h2.symm) (fun u hu => by
        obtain ⟨i, hi, rfl⟩ := List.getElem_of_mem hu
        have := (h4 i (by rw [h2]; simpa [Value.cells] using hi)).1
        have hi' : i < cs.size := by simpa using hi
        simpa [Value.cells, Array.getD, hi'] using this) (fun j hj => by simpa [Value.cells] using (h4 j hj).2)
      simpa using this
    | arr k e =>
      have := fits_arr hd hf
      subst this
      simp only [Value.okWide, hD] at hval
      obtain ⟨cs, rfl, hcs, _⟩ := hval
      have ha : aof T t as = .agg as := by simp [aof, hd, TD.ag]
      rw [ha]
      have := Rep.agg (ρ := noPlace) (L := noLens) (I := fun g => g < W.heap.size) (w := W) (N := NoName) as cs.toList (by simpa [Value.cells] using h2.symm) (fun u hu => by
        obtain ⟨i, hi, rfl⟩ := List.getElem_of_mem hu
        have := (h4 i (by rw [h2]; simpa [Value.cells] using hi)).1
        have hi' : i < cs.size := by simpa using hi
        simpa [Value.cells, Array.getD, hi'] using this) (fun j hj => by simpa [Value.cells] using (h4 j hj).2)
      simpa using this
    | _ => rw [hd] at hp; simp at hp
theorem rows_map {α β : Type} {f : α → β} {p : α → Prop} : ∀ {es : List β}, (∀ r ∈ es, ∃ x, r = f x ∧ p x) → ∃ l : List α, es = l.map f ∧ ∀ x ∈ l, p x
  | [], _ => ⟨[], rfl, by simp⟩
  | r :: es, h => by
    obtain ⟨x, rfl, hx⟩ := h r List.mem_cons_self
    obtain ⟨l, rfl, hl⟩ := rows_map (es := es) (fun r hr => h r (List.mem_cons_of_mem _ hr))
    exact ⟨x :: l, rfl, by simpa using ⟨hx, hl⟩⟩
theorem repL_nil {ρ : Place} {L : Lens} {I : Nat → Prop} {w : World} {N : Nat → Prop} : RepL ρ L I w N [] [] := ⟨rfl, fun j hj => by simp at hj⟩
theorem repL_cons {ρ : Place} {L : Lens} {I : Nat → Prop} {w : World} {N : Nat → Prop} {a : AV} {v : Value} {as : List AV} {vs : List Value} (h : Rep ρ L I w N a v) (k : RepL ρ L I w N as vs) : RepL ρ L I w N (a :: as) (v :: vs) := by
  refine ⟨by simp [k.1], fun j hj => ?_⟩
  cases j with
  | zero => simpa using h
  | succ j => simpa using k.2 j (by simpa using hj)
theorem PCalls.law {f : Nat} {args : List AV} {vs : List Value} (h : PCalls P f args (.bool true)) (hR : RepL noPlace noLens (fun g => g < W.heap.size) W NoName args vs) :
    Calls P f vs.toArray W fun e w' => e = .returned (.bool true) ∧ Below W.heap.size W w' :=
  (h _ W vs (fun _ h => h) hR).mono fun e w1 ⟨v, I1, he, hb, _, _, _, hr⟩ => ⟨by rw [he, rep_bool hr], hb⟩
def ctyL (T : TT) (n : Nat) : List Nat → List AV → Prop
  | [], avs => avs = []
  | t :: r, avs => ∃ as s, avs = aof T t as :: s ∧ cty T n t as ∧ ctyL T n r s
def catK : List AV → List AV → (List AV → Prop) → Prop
  | [], b, K => K b
  | x :: a, b, K => catK a b fun l => K (x :: l)
theorem catK_eq : ∀ (a b : List AV) (K : List AV → Prop), catK a b K = K (a ++ b)
  | [], _, _ => rfl
  | x :: a, b, K => by simp only [catK, catK_eq a, List.cons_append]
def opnS (C : Nat → (List AV → Prop) → Prop) : List (Nat × Nat) → (List AV → Prop) → Prop
  | [], K => K []
  | f :: r, K => C f.2 fun a => opnS C r fun b => catK a b K
def opnA (C : (List AV → Prop) → Prop) : Nat → (List AV → Prop) → Prop
  | 0, K => K []
  | k + 1, K => C fun a => opnA C k fun b => catK a b K
def opnK (T : TT) : Nat → Nat → (List AV → Prop) → Prop
  | 0, _, _ => False
  | n + 1, t, K => match T.d t with
    | .int k => ∀ x, inI k x → K [.int k x]
    | .bool => ∀ b, K [.bool b]
    | .str => ∀ s : List UInt8, s.length ≤ maxLen → K [.str s]
    | .slice e => ∀ es : List (List AV), es.length ≤ maxLen → (∀ r ∈ es, cty T n e r) → K [.isl (T.s e) es]
    | .struct fs => opnS (opnK T n) fs K
    | .arr m e => opnA (opnK T n e) m K
    | _ => True
theorem opnS_elim {C : Nat → (List AV → Prop) → Prop} {D : Nat → List AV → Prop} (h : ∀ t K as, C t K → D t as → K as) : ∀ (fs : List (Nat × Nat)) (K : List AV → Prop) (as : List AV), opnS C fs K → ctyS D fs as → K as
  | [], K, as, h1, h2 => by
    obtain rfl : as = [] := h2
    exact h1
  | f :: r, K, as, h1, h2 => by
    obtain ⟨a1, a2, rfl, h3, h4⟩ := h2
    have h5 := h f.2 _ a1 h1 h3
    have h6 := opnS_elim h r _ a2 h5 h4
    rw [catK_eq] at h6
    exact h6
theorem opnA_elim {C : (List AV → Prop) → Prop} {D : List AV → Prop} (h : ∀ K as, C K → D as → K as) : ∀ (k : Nat) (K : List AV → Prop) (as : List AV), opnA C k K → ctyA D k as → K as
  | 0, K, as, h1, h2 => by
    obtain rfl : as = [] := h2
    exact h1
  | k + 1, K, as, h1, h2 => by
    obtain ⟨a1, a2, rfl, h3, h4⟩ := h2
    have h5 := h _ a1 h1 h3
    have h6 := opnA_elim h k _ a2 h5 h4
    rw [catK_eq] at h6
    exact h6
theorem opnK_elim : ∀ (n t : Nat) (K : List AV → Prop) (as : List AV), opnK T n t K → cty T n t as → K as
  | 0, _, _, _, h, _ => h.elim
  | n + 1, t, K, as, h, hc => by
    simp only [opnK] at h
    simp only [cty] at hc
    cases hd : T.d t with
    | int k =>
      rw [hd] at h hc
      obtain ⟨x, rfl, hx⟩ := hc
      exact h x (wf_in hx)
    | bool =>
      rw [hd] at h hc
      obtain ⟨b, rfl⟩ := hc
      exact h b
    | str =>
      rw [hd] at h hc
      obtain ⟨s, rfl, hs⟩ := hc
      exact h s hs
    | slice e =>
      rw [hd] at h hc
      obtain ⟨es, rfl, h1, h2⟩ := hc
      exact h es h1 h2
    | struct fs =>
      rw [hd] at h hc
      exact opnS_elim (fun t K as h1 h2 => opnK_elim n t K as h1 h2) fs K as h hc
    | arr m e =>
      rw [hd] at h hc
      exact opnA_elim (fun K as h1 h2 => opnK_elim n e K as h1 h2) m K as h hc
    | _ => rw [hd] at hc; exact hc.elim
def opnL (T : TT) (n : Nat) : List Nat → (List AV → Prop) → Prop
  | [], K => K []
  | t :: r, K => opnK T n t fun as => opnL T n r fun s => K (aof T t as :: s)
theorem opnL_elim {n : Nat} : ∀ {ts : List Nat} {K : List AV → Prop} {avs : List AV}, opnL T n ts K → ctyL T n ts avs → K avs
  | [], K, avs, h, hc => by
    obtain rfl : avs = [] := hc
    exact h
  | t :: r, K, avs, h, hc => by
    obtain ⟨as, s, rfl, h1, h2⟩ := hc
    exact opnL_elim (K := fun s => K (aof T t as :: s)) (opnK_elim n t _ as h h1) h2
open Go.ChangeShapes in
theorem open_all {H : Type} {enc : TypeId × Value → H} {sp : Nat → Bool} {held : Bool} (hT : TTok P T) {n : Nat} {r : Reach} {b0 : Nat} : ∀ {ts : List TypeId} {vs : List Value} {ds : List (DataW H)} {ps : List MemPlace},
    DataW.TrodAll enc P W 0 sp held ts vs ds ps → (∀ (j : Nat) t v, ts[j]? = some t → vs[j]? = some v → Value.okWide P W r b0 t v) → (∀ t ∈ ts, plain T n t = true) →
    ds.length = ts.length ∧ ∃ avs, ctyL T n ts avs ∧ RepL noPlace noLens (fun g => g < W.heap.size) W NoName avs vs
  | [], vs, ds, ps, h, _, _ => by
    obtain ⟨rfl, rfl, rfl⟩ := trodAll_nil h
    exact ⟨rfl, [], rfl, repL_nil⟩
  | t :: ts, vs, ds, ps, h, hv, hp => by
    obtain ⟨v, vs', d, ds', p, q, rfl, rfl, rfl, h1, h2⟩ := trodAll_cons h
    obtain ⟨k0, avs, k1, k2⟩ := open_all hT (ts := ts) h2 (fun j t v ht hv' => hv (j + 1) t v (by simpa using ht) (by simpa using hv')) (fun t ht => hp t (List.mem_cons_of_mem _ ht))
    obtain ⟨as, h3, h4⟩ := open_av hT (hv 0 t v rfl rfl) h1 (hp t List.mem_cons_self)
    exact ⟨by simp [k0], _, ⟨as, avs, rfl, h3, k1⟩, repL_cons h4 k2⟩
open Go.ChangeShapes in
theorem trodAll_below {H : Type} {enc : TypeId × Value → H} (hl : laidOutB P = true) {W' : World} (hb : Below W.heap.size W W') : ∀ {ts : List TypeId} {vs : List Value} {ds : List (DataW H)} {ps : List MemPlace},
    DataW.TrodAll enc P W 0 (fun _ => true) true ts vs ds ps → (∀ t ∈ ts, P.readableRec t = true ∧ t < P.types.size) → (∀ x ∈ ps, x.block < W.heap.size) → DataW.TrodAll enc P W' 0 (fun b => decide (b < W.heap.size)) true ts vs ds ps
  | [], vs, ds, ps, h, _, _ => by
    obtain ⟨rfl, rfl, rfl⟩ := trodAll_nil h
    exact trodAll_mk0
  | t :: ts, vs, ds, ps, h, hr, hlt => by
    obtain ⟨v, vs', d, ds', p, q, rfl, rfl, rfl, h1, h2⟩ := trodAll_cons h
    obtain ⟨r1, r2⟩ := hr t List.mem_cons_self
    exact trodAll_cons_mk (Below.trod hl r1 r2 h1 hb (fun x hx => hlt x (List.mem_append_left _ hx))) (trodAll_below hl hb h2 (fun t ht => hr t (List.mem_cons_of_mem _ ht)) (fun x hx => hlt x (List.mem_append_right _ hx)))
open Go.ChangeShapes in
theorem lift_law {C : Checked} {os : Os} {f : FuncId} {fn : Func} {s : ChangeSpec} {conds : List PathCond} {tb : TypeId} {T : TT} {n : Nat} {H : Type} {enc : TypeId × Value → H} (hT : TTok C.prog T)
    (own : ownKnob C.prog.godebug = none) (started : os.Started) (noInit : C.prog.inits.idxOf? f = none) (hfn : C.prog.funcs[f]? = some fn)
    (witness : ∃ (w : World) (tape : Tape) (i : Input), w.os = os ∧ (w.forCall tape i).Shaped C.prog ∧ i.vars = [] ∧ Input.okWide C.prog (w.forCall tape i) .any w.heap.size f i ∧
      s.pre6 enc C.prog fn conds false (w.forCall tape i).memory i.args ∧ ({} : Assume).holds C.prog (lone (Frame.enter C.prog f i.args .normal) [] (w.forCall tape i)))
    (hl : laidOutB C.prog = true) (hread : (fn.params.toList.all fun t => C.prog.readableRec t && decide (t < C.prog.types.size) && plain T n t) = true)
    (hvars : s.vars = []) (hsp : ∀ ds : List (DataW H), ds.length = fn.params.size → s.fn H ds = { results := [.lit (.bool true)], args := ds })
    (hres : fn.resultTypes = #[tb]) (htb : C.prog.underlying tb = some .bool)
    (law : ∀ avs, ctyL T n fn.params.toList avs → PCalls C.prog f avs (.bool true)) :
    ReturnsInHanded {} C os f .any (s.pre6 enc C.prog fn conds false) (s.post enc C.prog fn false true false false) := by
  refine returnsInHanded_of_change own started noInit hfn witness ?_
  intro W base args ds gs before hval hW _ _
  have hW0 := hW
  obtain ⟨p, q, hA, hV, rfl, hfz, hnd⟩ := hW
  rw [hvars] at hV
  obtain ⟨rfl, rfl⟩ := trodVars_none hV
  have hread' := List.all_eq_true.1 hread
  simp only [Bool.and_eq_true, decide_eq_true_eq] at hread'
  obtain ⟨hlen, avs, hc, hR⟩ := open_all hT hA (fun j t v ht hv => hval j t v (by simpa using ht) (by simpa using hv)) (fun t ht => (hread' t ht).2)
  have hlt : ∀ x ∈ p, x.block < W.heap.size := fun x hx => hW0.lt x (by simpa using hx)
  have hspec := hsp ds (by simpa using hlen)
  have hcalls := (law avs hc).law hR
  rw [show args.toList.toArray = args by simp] at hcalls
  refine hcalls.mono fun e W' ⟨he, hb⟩ => ⟨.bool true, he, ?_⟩
  refine ⟨ds, [], p ++ [], [], p, [], hW0, ?_, ?_, ?_, World.keptBut_mono (fun x hx => ⟨hx, .inr (.inl (by simpa using hx))⟩) (hb.frame (· ∈ p ++ [])), fun h => by simp at h⟩
  · rw [List.append_nil, hspec, hres]
    exact trodAll_mk1 (shut_bool htb true)
  · rw [List.append_nil, hspec]
    exact trodAll_below hl hb hA (fun t ht => (hread' t ht).1) hlt
  · rw [List.append_nil, hspec, hvars]
    rfl
end
end Go.AM
