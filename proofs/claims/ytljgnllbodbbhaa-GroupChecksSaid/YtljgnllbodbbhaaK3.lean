/- Of the reckoning machine, and what is proved with it: texts joined by program. -/
import Derived.Test.YtljgnllbodbbhaaK2
import Derived.KernelRfl
import Derived.OpenShut
import Derived.ChangeArms
import Derived.WideShapes
import Derived.RowKit
set_option linter.all false

namespace Go.AM
def lkp : List (Nat × Nat) → Nat → Nat
  | [], _ => 0
  | (a, b) :: r, n => bif Nat.beq n a then b else lkp r n
class BP (b : Bool) (P Q : outParam Prop) : Prop where
  t : b = true → P
  f : b = false → Q
instance (priority := 10) {b : Bool} : BP b (b = true) (b = false) := ⟨id, id⟩
instance {a b : Int} : BP (decide (a < b)) (a < b) (b ≤ a) := ⟨fun h => by simpa using h, fun h => by simpa using h⟩
instance {a b : Int} : BP (decide (a ≤ b)) (a ≤ b) (b < a) := ⟨fun h => by simpa using h, fun h => by simpa using h⟩
instance {a b : Int} : BP (decide (a > b)) (b < a) (a ≤ b) := ⟨fun h => by simpa using h, fun h => by simpa using h⟩
instance {a b : Int} : BP (decide (a ≥ b)) (b ≤ a) (a < b) := ⟨fun h => by simpa using h, fun h => by simpa using h⟩
instance (priority := 20) {p : Prop} [Decidable p] : BP (decide p) p (¬ p) := ⟨fun h => by simpa using h, fun h => by simpa using h⟩
instance {a b : Int} : BP (a == b) (a = b) (¬ a = b) := ⟨fun h => by simpa using h, fun h => by simpa using h⟩
instance {a b : Int} : BP (a != b) (¬ a = b) (a = b) := ⟨fun h => by simpa using h, fun h => by simpa using h⟩
instance {a b : List UInt8} : BP (a == b) (a = b) (¬ a = b) := ⟨fun h => by simpa using h, fun h => by simpa using h⟩
instance {a b : List UInt8} : BP (a != b) (¬ a = b) (a = b) := ⟨fun h => by simpa using h, fun h => by simpa using h⟩
instance {b : Bool} {P Q : Prop} [h : BP b P Q] : BP (!b) Q P := ⟨fun e => h.f (by simpa using e), fun e => h.t (by simpa using e)⟩
theorem cS {b : Bool} {P Q X Y : Prop} [h : BP b P Q] (t : P → X) (f : Q → Y) : ACnd b X Y := ⟨fun e => t (h.t e), fun e => f (h.f e)⟩
theorem acnd_t {b : Bool} {X Y : Prop} (h : b = true) (x : X) : ACnd b X Y := ⟨fun _ => x, fun e => (by rw [h] at e; exact Bool.noConfusion e)⟩
theorem acnd_f {b : Bool} {X Y : Prop} (h : b = false) (y : Y) : ACnd b X Y := ⟨fun e => (by rw [h] at e; exact Bool.noConfusion e), fun _ => y⟩
theorem cT {X Y : Prop} (x : X) : ACnd true X Y := acnd_t rfl x
theorem cF {X Y : Prop} (y : Y) : ACnd false X Y := acnd_f rfl y
theorem cA {X Y : Prop} (y : Y) : ACnd (!true) X Y := acnd_f rfl y
theorem cB {X Y : Prop} (x : X) : ACnd (!false) X Y := acnd_t rfl x
class LenOf (es : List (List AV)) (n : outParam Nat) : Prop where
  h : es.length = n
instance (priority := 10) {es : List (List AV)} : LenOf es es.length := ⟨rfl⟩
instance {α : Type} {f : α → List AV} {l : List α} : LenOf (l.map f) l.length := ⟨by simp⟩
theorem aLn {es : List (List AV)} {n : Nat} {K : Nat → Prop} [h : LenOf es n] (k : K n) : ALen es K := ⟨by rw [h.h]; exact k⟩
theorem iwr_any {k : IntKind} {n : Int} {K : Int → Prop} (h : K (wr k n)) : IWr k n K := ⟨h⟩
theorem iwr_eq {k : IntKind} {n m : Int} {K : Int → Prop} (e : wr k n = m) (h : K m) : IWr k n K := ⟨e ▸ h⟩
def inI : IntKind → Int → Prop
  | .i8, n => -128 ≤ n ∧ n ≤ 127
  | .i16, n => -32768 ≤ n ∧ n ≤ 32767
  | .i32, n => -2147483648 ≤ n ∧ n ≤ 2147483647
  | .i64, n => -9223372036854775808 ≤ n ∧ n ≤ 9223372036854775807
  | .u8, n => 0 ≤ n ∧ n ≤ 255
  | .u16, n => 0 ≤ n ∧ n ≤ 65535
  | .u32, n => 0 ≤ n ∧ n ≤ 4294967295
  | .u64, n => 0 ≤ n ∧ n ≤ 18446744073709551615
theorem wr_in {k : IntKind} {n : Int} (h : inI k n) : wr k n = n := by
  cases k <;> simp only [inI] at h <;> simp only [wr, IntKind.wrap, IntKind.bits, IntKind.signed] <;> simp <;> omega
theorem wr_inI (k : IntKind) (n : Int) : inI k (wr k n) := by
  cases k <;> simp only [inI, wr, IntKind.wrap, IntKind.bits, IntKind.signed] <;> simp <;> omega
theorem wf_in {k : IntKind} {n : Int} (h : (Lit.int k n).wf = true) : inI k n := by
  cases k <;> simp [Lit.wf, IntKind.min, IntKind.max, IntKind.bits, IntKind.signed] at h <;> simp only [inI] <;> omega
theorem iwr_in {k : IntKind} {n : Int} {K : Int → Prop} (e : inI k n) (h : K n) : IWr k n K := ⟨by rw [wr_in e]; exact h⟩
theorem eget_map {α : Type} {f : α → List AV} {l : List α} {i : Nat} {x : α} {K : List AV → Prop} (h : l[i]? = some x) (k : K (f x)) : EGet (l.map f) i K := by
  refine ⟨?_⟩
  rw [List.getD_eq_getElem?_getD, List.getElem?_map, h]; exact k
theorem aelt_map {α : Type} {f : α → List AV} {l : List α} {len i : Nat} {x : α} {K : List AV → Prop} (hl : (l.map f).length = len) (h : l[i]? = some x) (k : K (f x)) : AElt (l.map f) len i K := by
  refine ⟨hl, ?_⟩
  rw [List.getD_eq_getElem?_getD, List.getElem?_map, h]; exact k
def egetK : List (List AV) → Nat → (List AV → Prop) → Prop
  | e :: _, 0, K => K e
  | _ :: r, n + 1, K => egetK r n K
  | [], _, _ => False
theorem egetK_elim : ∀ {es : List (List AV)} {i : Nat} {K : List AV → Prop}, egetK es i K → K (es.getD i [])
  | e :: _, 0, K, h => h
  | _ :: r, n + 1, K, h => by simpa using egetK_elim (es := r) (i := n) h
theorem aelt_lit {es : List (List AV)} {len i : Nat} {K : List AV → Prop} (hl : es.length = len) (h : egetK es i K) : AElt es len i K := ⟨hl, egetK_elim h⟩
theorem asub_eq {α : Type} {xs ys : List α} {K : List α → Prop} (e : xs = ys) (h : K ys) : ASub xs K := ⟨e ▸ h⟩
theorem nD {p K : Prop} (k : K) (h : p := by first | omega | (simp <;> omega)) : p ∧ K := ⟨h, k⟩
theorem wI {k : IntKind} {n : Int} {K : Int → Prop} (h : K n) (e : inI k n := by simp only [inI]; omega) : IWr k n K := iwr_in e h
theorem cK {ms : List Nat} {log : List LogE} {Y : Prop} (k : Y) (h : confM ms log = true := by kernel_rfl) : IConf ms log Y := ⟨h, k⟩
theorem aX {i : Int} {m : Nat} {K : Nat → Prop} (h : (decide (0 ≤ i) && decide (i < (m : Int))) = true) (k : K i.toNat) : AIx i m K := by
  simp only [Bool.and_eq_true, decide_eq_true_eq] at h
  exact ⟨h, k⟩
theorem vL {ag : Bool} {m sz : Nat} {cs : List AV} {j : Int} {K : AV → Prop} (h : (decide (0 ≤ j) && decide (j < (m : Int))) = true) (k : apart ag sz (j.toNat * sz) cs K) : VIx ag m sz cs j K := by
  simp only [Bool.and_eq_true, decide_eq_true_eq] at h
  exact ⟨h, k⟩
def NmL (es : List (List AV)) : Prop := ∀ e ∈ es, AV.namesL e = []
@[simp] theorem NmL_nil : NmL [] := fun e h => by simp at h
@[simp] theorem NmL_app {a b : List (List AV)} : NmL (a ++ b) ↔ NmL a ∧ NmL b := by simp [NmL, or_imp, forall_and]
@[simp] theorem NmL_cons {a : List AV} {b : List (List AV)} : NmL (a :: b) ↔ AV.namesL a = [] ∧ NmL b := by simp [NmL]
@[simp] theorem NmL_map {α : Type} {f : α → List AV} {l : List α} : NmL (l.map f) ↔ ∀ x ∈ l, AV.namesL (f x) = [] := by simp [NmL]
theorem NmL_set {a : List (List AV)} {i : Nat} {r : List AV} (h : NmL a) (k : AV.namesL r = []) : NmL (a.set i r) := fun e he => (List.mem_or_eq_of_mem_set he).elim (h e) (fun x => x ▸ k)
@[simp] theorem NmL_rep {n : Nat} {r : List AV} : NmL (List.replicate n r) ↔ n = 0 ∨ AV.namesL r = [] := by
  simp only [NmL, List.mem_replicate]
  constructor
  · intro h
    by_cases hn : n = 0
    · exact .inl hn
    · exact .inr (h r ⟨hn, rfl⟩)
  · rintro (h | h) e ⟨h1, rfl⟩
    · exact (h1 h).elim
    · exact h
@[simp] theorem nmL_cons {c : AV} {r : List AV} : AV.namesL (c :: r) = [] ↔ c.names = [] ∧ AV.namesL r = [] := by simp [AV.namesL]
@[simp] theorem nmL_nil' : AV.namesL [] = [] := rfl
@[simp] theorem nm_int {k : IntKind} {n : Int} : (AV.int k n).names = [] := rfl
@[simp] theorem nm_bool {b : Bool} : (AV.bool b).names = [] := rfl
@[simp] theorem nm_str {s : List UInt8} : (AV.str s).names = [] := rfl
@[simp] theorem nm_isl {z : Nat} {es : List (List AV)} : (AV.isl z es).names = [] := rfl
@[simp] theorem nm_nils : AV.nils.names = [] := rfl
@[simp] theorem nm_nilp : AV.nilp.names = [] := rfl
def FlL (es : List (List AV)) : Prop := ∀ e ∈ es, AV.flatL e = true
@[simp] theorem FlL_nil : FlL [] := fun e h => by simp at h
@[simp] theorem FlL_app {a b : List (List AV)} : FlL (a ++ b) ↔ FlL a ∧ FlL b := by simp [FlL, or_imp, forall_and]
@[simp] theorem FlL_cons {a : List AV} {b : List (List AV)} : FlL (a :: b) ↔ AV.flatL a = true ∧ FlL b := by simp [FlL]
@[simp] theorem FlL_map {α : Type} {f : α → List AV} {l : List α} : FlL (l.map f) ↔ ∀ x ∈ l, AV.flatL (f x) = true := by simp [FlL]
@[simp] theorem flL_cons {c : AV} {r : List AV} : AV.flatL (c :: r) = true ↔ c.flat0 = true ∧ AV.flatL r = true := by simp [AV.flatL]
@[simp] theorem flL_nil' : AV.flatL [] = true := rfl
@[simp] theorem fl_int {k : IntKind} {n : Int} : (AV.int k n).flat0 = true := rfl
@[simp] theorem fl_bool {b : Bool} : (AV.bool b).flat0 = true := rfl
@[simp] theorem fl_str {s : List UInt8} : (AV.str s).flat0 = true := rfl
theorem eF {D : Nat → Bool} {M : IMem} {es es' : List (List AV)} {len : Nat} (hl : es.length = len) (he : es = es') (hn : NmL es) : FzEs D M es len es' := fzEs_same hl he hn
theorem eM {D : Nat → Bool} {M M' : IMem} {nx nx' sz : Nat} {es es' : List (List AV)} (he : es = es') (hn : nx ≤ nx' ∨ NmL es) : MtEs D M M' nx nx' sz es es' := mtEs_same he hn
theorem eL {es es' : List (List AV)} {len : Nat} (hl : es.length = len) (he : es = es') (hn : NmL es) : LnEs es len es' := ⟨hl, he, hn⟩
theorem eA {es es' : List (List AV)} (he : es = es') (hn : NmL es) : ArEs es es' := ⟨he, hn⟩
theorem eN {es : List (List AV)} (hn : NmL es) : ArOk false es := ⟨hn, fun h => Bool.noConfusion h⟩
theorem eO {es : List (List AV)} (hn : NmL es) (hf : FlL es) : ArOk true es := ⟨hn, fun _ => hf⟩
theorem eK {es : List (List AV)} {K : Prop} (k : K) (hn : NmL es := by simp) : ArOk false es ∧ K := ⟨eN hn, k⟩
theorem eP {es : List (List AV)} {K : Prop} (k : K) (hn : NmL es := by simp) (hf : FlL es := by simp) : ArOk true es ∧ K := ⟨eO hn hf, k⟩
theorem eZ {D : Nat → Bool} {M : IMem} {es : List (List AV)} {len : Nat} {Y : List (List AV) → Prop} {Z : Prop} (k : Y es) (hl : es.length = len := by first | rfl | (simp; done) | omega) (hn : NmL es := by simp) : FrzC D M es len Y Z := .keep es (eF hl rfl hn) k
theorem nX {σ : Type} {X : Ctx} {V : σ → Prop} {st : σ → ISt} {μ : σ → Nat} {m : Nat} {F : Frm} {M : IMem} {nx : Nat} (s : σ) (v : V s) (h : μ s < m) (p : ∃ p, X.p = p ∧ liveB (st s).M p = true) (f : wkF F M nx (st s) (st s).F) (w : wkM M nx (st s) (st s).M) : INxt X V st μ m F M nx := ⟨s, v, h, .inl ⟨p, f, w⟩⟩
variable {R : Env} {X : Ctx}
theorem nXa {σ : Type} {V : σ → Prop} {st : σ → ISt} {μ : σ → Nat} {m : Nat} {F : Frm} {M : IMem} {nx : Nat} (s : σ) (v : V s) (h : μ s < m) (w : IWk X F M nx (st s) := by
    refine ⟨⟨_, by assumption, rfl⟩, ?_, ?_⟩
    all_goals repeat' (first | exact True.intro | refine And.intro ?_ ?_ | (intro _u; clear _u) | with_reducible first | refine eM ?_ ?_ | refine eF ?_ ?_ ?_)
    all_goals first | with_reducible rfl | omega | exact Or.inl (by decide) | (simp; done) | rfl) : INxt X V st μ m F M nx := ⟨s, v, h, .inl w⟩
theorem lPa {b : Frame} {Q : KS} {c : ICode} {k : List IIt} {F : Frm} {M : IMem} {nx : Nat} {σ : Type} (n : Nat) (V : σ → Prop) (st : σ → ISt) (μ : σ → Nat) (s0 : σ) (v0 : V s0)
    (step : ∀ s, V s → irun R X b Q n (.code c :: .rnd (fun F M nx => True → INxt X V st μ (μ s) F M nx) :: k) (st s).F (st s).M (st s).nx) (h0 : IWk X F M nx (st s0) := by
    refine ⟨⟨_, by assumption, rfl⟩, ?_, ?_⟩
    all_goals repeat' (first | exact True.intro | refine And.intro ?_ ?_ | (intro _u; clear _u) | with_reducible first | refine eM ?_ ?_ | refine eF ?_ ?_ ?_)
    all_goals first | with_reducible rfl | omega | exact Or.inl (by decide) | (simp; done) | rfl) : ILoop R X b Q c k F M nx := .inv n V st μ s0 v0 h0 step
theorem rT {M : IMem} {vs : List AV} {av : AV} (h : fzK (fun _ => true) M 5 (one vs) av := by
    all_goals repeat' (first | exact True.intro | refine And.intro ?_ ?_ | (intro _u; clear _u) | with_reducible refine eF ?_ ?_ ?_)
    all_goals first | with_reducible rfl | omega | (simp; done) | rfl) : IRet M vs av := .of h
theorem rM {M : IMem} {nx : Nat} {vs : List AV} {av : AV} {M1 : IMem} {nx1 : Nat} (ps : List Nat) (h : rnMK ps M1 M1 fun M' => rnK ps 0 M1 false 5 av fun av' => IWk X [] M nx ⟨[], M', 100⟩ ∧ mtK (deadB M') M M' nx 5 (one vs) av' ∧ undK nx 100 av' := by
    all_goals repeat' (first | exact True.intro | refine And.intro ?_ ?_ | (intro _u; clear _u) | with_reducible first | refine eM ?_ ?_ | refine eF ?_ ?_ ?_ | refine eN ?_ | refine IWk.mk ⟨_, by assumption, rfl⟩ ?_ ?_)
    all_goals first | with_reducible rfl | omega | exact Or.inl (by decide) | (simp; done) | rfl)
    (h1 : (nodupB ps && Nat.beq ps.length nx1) = true := by rfl) (h2 : ∃ p, X.p = p ∧ (idB p 0 ps && Nat.ble p nx1) = true := by exact ⟨_, by assumption, rfl⟩) : IRetM X M nx vs av M1 nx1 := .of ps h1 h2 h
theorem cM {g : Nat} {args args0 : List AV} {F : Frm} {M M0 M1 : IMem} {nx nx1 : Nat} {d : Option Nat} {K : KS} {av : AV} {lo : Bool} (fl : Bool) (ps : List Nat) (h : R.Mc g args0 M0 av M1 nx1)
    (k : rnK ps nx M1 fl 5 av fun av' => mutK ps nx M1 fl M1 M fun M' => finK d av' F M' (nx + (nx1 - ps.length)) K) (hz : MCan lo ps fl M nx args args0 M0 := by
    first | refine MCan.g rfl ⟨rfl, ?_, ?_⟩ | refine MCan.l rfl ⟨rfl, ?_, ?_⟩
    all_goals repeat' (first | exact True.intro | refine And.intro ?_ ?_ | (intro _u; clear _u) | with_reducible first | refine eL ?_ ?_ ?_ | refine eA ?_ ?_)
    all_goals first | with_reducible rfl | omega | (simp; done) | rfl) : ICall R X lo (R.ft g) args F M nx d K := .mut fl ps h hz k
structure Kp (q : Prop) : Prop where
  h : q
theorem st {p q : Prop} (k : q) (h : Kp q → p := by
    intro k_
    repeat ((intro _u; clear _u); first | with_reducible first | refine cT ?_ | refine cF ?_ | refine cA ?_ | refine cB ?_ | refine aLn ?_ | refine cK ?_ | refine aS8 ?_ | refine wI ?_ | refine nD ?_ | refine aX rfl ?_ | refine vL rfl ?_)
    exact k_.h) : p := h ⟨k⟩
theorem sh {p q : Prop} (k : q) (h : Kp q → p := by
    intro k_
    repeat ((intro _u; clear _u); first | with_reducible first | refine cT ?_ | refine cF ?_ | refine cA ?_ | refine cB ?_ | refine aLn ?_ | refine cK ?_ | refine aS8 ?_ | refine wI ?_ | refine nD ?_ | refine aX rfl ?_ | refine vL rfl ?_)
    intro _u; clear _u
    exact k_.h) : p := h ⟨k⟩
theorem amk_n {a b : Int} {K : Nat → Prop} (n : Nat) (ha : a = n) (hb : b = n) (hn : n ≤ 1073741824) (k : K n) : AMk a b K := ⟨⟨by omega, by omega, by omega⟩, by rw [ha]; exact k⟩
end Go.AM

namespace Go.AM
open Go.RowKit Go.WideShapes
variable {P : Program} {T : TT}
def ctyS (C : Nat → List AV → Prop) : List (Nat × Nat) → List AV → Prop
  | [], as => as = []
  | f :: r, as => ∃ a1 a2, as = a1 ++ a2 ∧ C f.2 a1 ∧ ctyS C r a2
def ctyA (C : List AV → Prop) : Nat → List AV → Prop
  | 0, as => as = []
  | k + 1, as => ∃ a1 a2, as = a1 ++ a2 ∧ C a1 ∧ ctyA C k a2
def cty (T : TT) : Nat → Nat → List AV → Prop
  | 0, _, _ => False
  | n + 1, t, as => match T.d t with
    | .int k => ∃ x, as = [.int k x] ∧ (Lit.int k x).wf = true
    | .bool => ∃ b, as = [.bool b]
    | .str => ∃ s, as = [.str s] ∧ s.length ≤ maxLen
    | .slice e => ∃ es, as = [.isl (T.s e) es] ∧ es.length ≤ maxLen ∧ ∀ r ∈ es, cty T n e r
    | .struct fs => ctyS (cty T n) fs as
    | .arr m e => ctyA (cty T n e) m as
    | _ => False
def contig (T : TT) : Nat → List (Nat × Nat) → Nat → Bool
  | o, [], e => Nat.beq o e
  | o, f :: r, e => Nat.beq f.1 o && contig T (o + T.s f.2) r e
def plainS (p : Nat → Bool) : List (Nat × Nat) → Bool
  | [] => true
  | f :: r => p f.2 && plainS p r
def plain (T : TT) : Nat → Nat → Bool
  | 0, _ => false
  | n + 1, t => match T.d t with
    | .int _ => Nat.beq (T.s t) 1
    | .bool => Nat.beq (T.s t) 1
    | .str => Nat.beq (T.s t) 1
    | .slice e => Nat.beq (T.s t) 1 && (!Nat.beq (T.s e) 0 && plain T n e)
    | .struct fs => contig T 0 fs (T.s t) && plainS (plain T n) fs
    | .arr m e => Nat.beq (T.s t) (m * T.s e) && plain T n e
    | _ => false
theorem plainS_mem {p : Nat → Bool} : ∀ {fs : List (Nat × Nat)}, plainS p fs = true → ∀ f ∈ fs, p f.2 = true
  | [], _, f, hf => by simp at hf
  | g :: r, h, f, hf => by
    simp only [plainS, Bool.and_eq_true] at h
    rcases List.mem_cons.1 hf with rfl | hf
    · exact h.1
    · exact plainS_mem h.2 f hf
theorem choose_list {α : Type} {p : Nat → α → Prop} (d : α) : ∀ (n : Nat), (∀ i, i < n → ∃ r, p i r) → ∃ es : List α, es.length = n ∧ ∀ i, i < n → p i (es.getD i d)
  | 0, _ => ⟨[], rfl, fun i hi => by omega⟩
  | n + 1, h => by
    obtain ⟨es, h1, h2⟩ := choose_list d n (fun i hi => h i (by omega))
    obtain ⟨r, hr⟩ := h n (by omega)
    refine ⟨es ++ [r], by simp [h1], fun i hi => ?_⟩
    by_cases e : i < n
    · have : (es ++ [r]).getD i d = es.getD i d := by simp [List.getD_eq_getElem?_getD, List.getElem?_append_left (show i < es.length by omega)]
      rw [this]; exact h2 i e
    · have : i = n := by omega
      subst this
      have : (es ++ [r]).getD i d = r := by simp [List.getD_eq_getElem?_getD, ← h1]
      rw [this]; exact hr
section
variable {W : World}
def Rep0 (W : World) (a : AV) (v : Value) : Prop := v.oneCell' = true ∧ Rep noPlace noLens (fun g => g < W.heap.size) W NoName a v
theorem open_fields {cs : List Value} {n total : Nat} : ∀ (fs : List (Nat × Nat)) (o : Nat), contig T o fs total = true → (∀ f ∈ fs, ∃ as : List AV, cty T n f.2 as ∧ as.length = T.s f.2 ∧ ∀ j, j < as.length → Rep0 W (as.getD j .bad) (((cs.drop f.1).take (T.s f.2)).getD j default)) →
    ∃ as : List AV, ctyS (cty T n) fs as ∧ o + as.length = total ∧ ∀ j, j < as.length → Rep0 W (as.getD j .bad) (cs.getD (o + j) default)
  | [], o, hc, _ => ⟨[], rfl, by simpa using Nat.eq_of_beq_eq_true hc, fun j hj => by simp at hj⟩
  | f :: r, o, hc, h => by
    simp only [contig, Bool.and_eq_true] at hc
    have hfo : f.1 = o := Nat.eq_of_beq_eq_true hc.1
    obtain ⟨a1, h1, h2, h3⟩ := h f List.mem_cons_self
    obtain ⟨a2, k1, k2, k3⟩ := open_fields (cs := cs) (n := n) r (o + T.s f.2) hc.2 (fun g hg => h g (List.mem_cons_of_mem _ hg))
    refine ⟨a1 ++ a2, ⟨a1, a2, rfl, h1, k1⟩, by simp; omega, fun j hj => ?_⟩
    by_cases e : j < a1.length
    · have e1 : (a1 ++ a2).getD j .bad = a1.getD j .bad := by simp [List.getD_eq_getElem?_getD, List.getElem?_append_left e]
      have e2 : ((cs.drop f.1).take (T.s f.2)).getD j default = cs.getD (o + j) default := by
        simp only [List.getD_eq_getElem?_getD]
        rw [List.getElem?_take_of_lt (by omega), List.getElem?_drop, hfo]
      rw [e1, ← e2]; exact h3 j e
    · have e1 : (a1 ++ a2).getD j .bad = a2.getD (j - a1.length) .bad := by simp [List.getD_eq_getElem?_getD, List.getElem?_append_right (Nat.le_of_not_lt e)]
      have e2 : o + j = o + T.s f.2 + (j - a1.length) := by omega
      rw [e1, e2]; exact k3 _ (by simp at hj; omega)
theorem open_elems {cs : List Value} {n e : Nat} : ∀ (k i : Nat), (∀ q, i ≤ q → q < i + k → ∃ as : List AV, cty T n e as ∧ as.length = T.s e ∧ ∀ j, j < as.length → Rep0 W (as.getD j .bad) (((cs.drop (q * T.s e)).take (T.s e)).getD j default)) →
    ∃ as : List AV, ctyA (cty T n e) k as ∧ as.length = k * T.s e ∧ ∀ j, j < as.length → Rep0 W (as.getD j .bad) (cs.getD (i * T.s e + j) default)
  | 0, i, _ => ⟨[], rfl, by simp, fun j hj => by simp at hj⟩
  | k + 1, i, h => by
    obtain ⟨a1, h1, h2, h3⟩ := h i (Nat.le_refl _) (by omega)
    obtain ⟨a2, k1, k2, k3⟩ := open_elems (cs := cs) (n := n) (e := e) k (i + 1) (fun q hq1 hq2 => h q (by omega) (by omega))
    refine ⟨a1 ++ a2, ⟨a1, a2, rfl, h1, k1⟩, by simp [h2, k2, Nat.add_mul]; omega, fun j hj => ?_⟩
    by_cases e' : j < a1.length
    · have e1 : (a1 ++ a2).getD j .bad = a1.getD j .bad := by simp [List.getD_eq_getElem?_getD, List.getElem?_append_left e']
      have e2 : ((cs.drop (i * T.s e)).take (T.s e)).getD j default = cs.getD (i * T.s e + j) default := by
        simp only [List.getD_eq_getElem?_getD]
        rw [List.getElem?_take_of_lt (by omega), List.getElem?_drop]
      rw [e1, ← e2]; exact h3 j e'
    · have e1 : (a1 ++ a2).getD j .bad = a2.getD (j - a1.length) .bad := by simp [List.getD_eq_getElem?_getD, List.getElem?_append_right (Nat.le_of_not_lt e')]
      have e2 : i * T.s e + j = (i + 1) * T.s e + (j - a1.length) := by rw [Nat.add_mul]; omega
      rw [e1, e2]; exact k3 _ (by simp at hj; omega)
theorem open_cells {H : Type} {enc : TypeId × Value → H} {sp : Nat → Bool} {held : Bool} (hT : TTok P T) : ∀ (m n t : Nat) (cs : List Value) (x : DataW H × List MemPlace), DataW.trod enc P W 0 sp held m t cs = some x → plain T n t = true →
    ∃ as : List AV, cty T n t as ∧ as.length = cs.length ∧ as.length = T.s t ∧ ∀ j, j < as.length → Rep0 W (as.getD j .bad) (cs.getD j default)
  | _, 0, t, cs, x, _, hp => by simp [plain] at hp
  | 0, n + 1, t, cs, x, h, _ => by simp [DataW.trod] at h
  | m + 1, n + 1, t, cs, x, h, hp => by
    have one : ∀ (a : AV) (v : Value), Rep0 W a v → ∀ j, j < [a].length → Rep0 W ([a].getD j .bad) ([v].getD j default) := fun a v hr j hj => by
      have : j = 0 := by simp at hj; omega
      subst this; simpa using hr
    have szof : ∀ u, T.d u ≠ .other → T.s u = P.cellsOf u := fun u hu => by
      obtain ⟨_, it, z, _, _, hi, hs, _⟩ := hT u hu
      simp [Program.cellsOf, hi, hs]
    have pl : ∀ u k, plain T k u = true → T.d u ≠ .other := fun u k hk hu => by
      cases k with
      | zero => simp [plain] at hk
      | succ k => simp [plain, hu] at hk
    have hne := pl t (n + 1) hp
    obtain ⟨D, it, z, hD, hf, hi, hs, _⟩ := hT t hne
    have hst := szof t hne
    simp only [plain] at hp
    simp only [cty]
    cases hd : T.d t with
    | int k =>
      rw [hd] at hp
      have := fits_int hd hf
      subst this
      obtain ⟨x', rfl, rfl, hw⟩ := DataW.trod_int hD h
      exact ⟨_, ⟨x', rfl, hw⟩, rfl, (Nat.eq_of_beq_eq_true hp).symm, one _ _ ⟨rfl, .int _ _⟩⟩
    | bool =>
      rw [hd] at hp hf
      have : D = .bool := by cases D <;> simp_all [TD.fits]
      subst this
      obtain ⟨b, rfl, rfl⟩ := DataW.trod_bool hD h
      exact ⟨_, ⟨b, rfl⟩, rfl, (Nat.eq_of_beq_eq_true hp).symm, one _ _ ⟨rfl, .bool _⟩⟩
    | str =>
      rw [hd] at hp
      have := fits_str hd hf
      subst this
      obtain ⟨s, rfl, rfl, hw⟩ := DataW.trod_string hD h
      refine ⟨_, ⟨s.data.toList, rfl, by simpa using hw⟩, rfl, (Nat.eq_of_beq_eq_true hp).symm, one _ _ ⟨rfl, ?_⟩⟩
      have : s = ⟨s.data.toList.toArray⟩ := by cases s; simp
      conv => rhs; rw [this]
      exact .str _
    | slice e =>
      rw [hd] at hp
      simp only [Bool.and_eq_true, Bool.not_eq_true'] at hp
      obtain ⟨hp1, hp2, hp3⟩ := hp
      have hz : T.s e ≠ 0 := fun h0 => by rw [h0] at hp2; simp at hp2
      have := fits_slice hd hf
      subst this
      have hse := szof e (pl e n hp3)
      rcases DataW.trod_slice hD h with ⟨rfl, rfl⟩ | ⟨a, len, cap, elems, rest, m', hm, rfl, rfl, hb, hl, hc, hlen, hel, _⟩
      · exact ⟨_, ⟨[], rfl, by simp, by simp⟩, rfl, (Nat.eq_of_beq_eq_true hp1).symm, one _ _ ⟨rfl, .islNil _ _ _ (by simp [maxLen])⟩⟩
      · have hm' : m' = m := by omega
        subst hm'
        have each : ∀ i, i < len → ∃ r : List AV, cty T n e r ∧ r.length = T.s e ∧ ∀ j, j < T.s e → ∃ u, W.cell? ((a.add (i * T.s e)).add j) = some u ∧ Rep0 W (r.getD j .bad) u := by
          intro i hi
          have h1 := hel i hi
          rw [List.getElem?_eq_getElem (by omega), Option.bind_eq_some_iff] at h1
          obtain ⟨cs', hc1, hc2⟩ := h1
          obtain ⟨_, hc4, hc5⟩ := World.cells?_some hc1
          obtain ⟨r, k1, k2, k3, k4⟩ := open_cells hT _ n e _ _ hc2 hp3
          refine ⟨r, k1, k3, fun j hj => ⟨cs'.getD j default, ?_, k4 j (by omega)⟩⟩
          have h5 := hc5 j (by omega)
          rw [List.getElem?_eq_getElem (by omega)] at h5
          rw [List.getD_eq_getElem?_getD, List.getElem?_eq_getElem (by omega), Option.getD_some, ← h5, hse]
        obtain ⟨es, e1, e2⟩ := choose_list [] len each
        refine ⟨_, ⟨es, rfl, by omega, fun r hr => ?_⟩, rfl, (Nat.eq_of_beq_eq_true hp1).symm, one _ _ ⟨rfl, ?_⟩⟩
        · obtain ⟨i, hi, rfl⟩ := List.getElem_of_mem hr
          have := (e2 i (by omega)).1
          rwa [List.getD_eq_getElem?_getD, List.getElem?_eq_getElem hi, Option.getD_some] at this
        · by_cases h0 : len = 0
          · subst h0
            have : es = [] := List.eq_nil_of_length_eq_zero e1
            subst this
            exact .islNil _ _ _ hc
          · obtain ⟨u, hu, _⟩ := (e2 0 (by omega)).2.2 0 (by omega)
            obtain ⟨b, o, spot⟩ := a
            have hspot : spot = none := by simpa [Addr.add] using World.cell?_spot hu
            subst hspot
            have hlt : b < W.heap.size := by
              rcases Nat.lt_or_ge b W.heap.size with h | h
              · exact h
              · rw [addr_add, addr_add] at hu
                simp only [World.cell?] at hu
                rw [Array.getElem?_eq_none h] at hu
                simp at hu
            subst e1
            refine .isl (T.s e) es b o cap (fun i j => (W.cell? ⟨b, o + i * T.s e + j, none⟩).getD default) hl hc hlt (fun r hr => ?_) (fun i j hi hj => ?_) (fun i j hi hj => ?_) (fun i j hi hj => ?_)
            · obtain ⟨i, hi, rfl⟩ := List.getElem_of_mem hr
              have := (e2 i (by omega)).2.1
              rwa [List.getD_eq_getElem?_getD, List.getElem?_eq_getElem hi, Option.getD_some] at this
            · obtain ⟨u, hu, h1, _⟩ := (e2 i hi).2.2 j hj
              have hu' : W.cell? ⟨b, o + i * T.s e + j, none⟩ = some u := by rw [addr_add, addr_add] at hu; exact hu
              rw [hu']; exact h1
            · obtain ⟨u, hu, h1, _⟩ := (e2 i hi).2.2 j hj
              have hu' : W.cell? ⟨b, o + i * T.s e + j, none⟩ = some u := by rw [addr_add, addr_add] at hu; exact hu
              rw [hu']; rfl
            · obtain ⟨u, hu, _, h1⟩ := (e2 i hi).2.2 j hj
              have hu' : W.cell? ⟨b, o + i * T.s e + j, none⟩ = some u := by rw [addr_add, addr_add] at hu; exact hu
              rw [hu']; exact h1
    | struct fs =>
      rw [hd] at hp
      simp only [Bool.and_eq_true] at hp
      obtain ⟨gs, rfl, hgs⟩ := fits_struct hd hf
      obtain ⟨xs, m', hm, rfl, hcl, hxl, hx⟩ := DataW.trod_struct hD h
      have hm' : m' = m := by omega
      subst hm'
      obtain ⟨as, a1, a2, a3⟩ := open_fields (W := W) (cs := cs) (n := n) fs 0 hp.1 (fun f hf => by
        have hpf := plainS_mem hp.2 f hf
        rw [hgs, List.mem_map] at hf
        obtain ⟨g, hg, rfl⟩ := hf
        obtain ⟨i, hi, rfl⟩ := List.getElem_of_mem hg
        have h1 := hx i _ (show gs[i]? = some gs[i] from Array.getElem?_eq_getElem (by simpa using hi))
        rw [List.getElem?_eq_getElem (by rw [hxl]; simpa using hi)] at h1
        simp only [Array.getElem_toList] at hpf h1 ⊢
        obtain ⟨r, k1, k2, k3, k4⟩ := open_cells hT _ n _ _ _ h1 hpf
        refine ⟨r, k1, k3, ?_⟩
        rw [szof _ (pl _ n hpf)]
        exact k4)
      exact ⟨as, a1, by rw [hcl, ← hst]; omega, by omega, fun j hj => by simpa using a3 j hj⟩
    | arr k e =>
      rw [hd] at hp
      simp only [Bool.and_eq_true] at hp
      have := fits_arr hd hf
      subst this
      obtain ⟨xs, m', hm, rfl, hcl, hxl, hx⟩ := DataW.trod_array hD h
      have hm' : m' = m := by omega
      subst hm'
      have hse := szof e (pl e n hp.2)
      obtain ⟨as, a1, a2, a3⟩ := open_elems (T := T) (W := W) (cs := cs) (n := n) (e := e) k 0 (fun q _ hq => by
        have h1 := hx q (by omega)
        rw [List.getElem?_eq_getElem (by omega)] at h1
        obtain ⟨r, k1, k2, k3, k4⟩ := open_cells hT _ n _ _ _ h1 hp.2
        refine ⟨r, k1, k3, ?_⟩
        rw [hse]
        exact k4)
      have hkt := Nat.eq_of_beq_eq_true hp.1
      exact ⟨as, a1, by rw [hcl, ← hst, a2, hkt], by rw [a2, hkt], fun j hj => by simpa using a3 j hj⟩
    | _ => rw [hd] at hp; simp at hp
def aof (T : TT) (t : Nat) (as : List AV) : AV := bif (T.d t).ag then .agg as else as.headD .bad
theorem open_av {H : Type} {enc : TypeId × Value → H} {sp : Nat → Bool} {held : Bool} (hT : TTok P T) {n t : Nat} {r : Reach} {b0 : Nat} {v : Value} {d : DataW H} {ps : List MemPlace} (hval : Value.okWide P W r b0 t v) (h : DataW.Trod enc P W 0 sp held t v d ps) (hp : plain T n t = true) :
    ∃ as : List AV, cty T n t as ∧ Rep noPlace noLens (fun g => g < W.heap.size) W NoName (aof T t as) v := by
  obtain ⟨m, h⟩ := h
  obtain ⟨as, h1, h2, h3, h4⟩ := open_cells hT m n t _ _ h hp
  refine ⟨as, h1, ?_⟩
  cases n with
  | zero => simp [plain] at hp
  | succ n =>
    simp only [plain] at hp
    have hne : T.d t ≠ .other := fun hu => by simp [hu] at hp
    obtain ⟨D, it, z, hD, hf, _⟩ := hT t hne
    have one : (T.d t).ag = false → v.cells.toList = [v] → Rep noPlace noLens (fun g => g < W.heap.size) W NoName (aof T t as) v := fun ha hv => by
      rw [hv] at h2 h4
      simp only [aof, ha, cond_false]
      match as, h2 with
      | [a], _ => simpa using (h4 0 (by simp)).2
    cases hd : T.d t with
    | int k =>
      have := fits_int hd hf
      subst this
      obtain ⟨x, rfl⟩ := okWide_int hD hval
      exact one (by rw [hd]; rfl) rfl
    | bool =>
      rw [hd] at hf
      have : D = .bool := by cases D <;> simp_all [TD.fits]
      subst this
      obtain ⟨x, rfl⟩ := okWide_bool hD hval
      exact one (by rw [hd]; rfl) rfl
    | str =>
      have := fits_str hd hf
      subst this
      obtain ⟨x, rfl⟩ := okWide_string hD hval
      exact one (by rw [hd]; rfl) rfl
    | slice e =>
      have := fits_slice hd hf
      subst this
      obtain ⟨a, l, c, rfl⟩ := okWide_slice hD hval
      exact one (by rw [hd]; rfl) rfl
    | struct fs =>
      obtain ⟨gs, rfl, hgs⟩ := fits_struct hd hf
      obtain ⟨cs, rfl, hcs⟩ := okWide_struct hD hval
      have ha : aof T t as = .agg as := by simp [aof, hd, TD.ag]
      rw [ha]
      have := Rep.agg (ρ := noPlace) (L := noLens) (I := fun g => g < W.heap.size) (w := W) (N := NoName) as cs.toList (by simpa [Value.cells] using h2.symm) (fun u hu => by
        obtain ⟨i, hi, rfl⟩ := List.getElem_of_mem hu
        have := (h4 i (by rw [h2]; simpa [Value.cells] using hi)).1
        have hi' : i < cs.size := by simpa using hi
        simpa [Value.cells, Array.getD, hi'] using this) (fun j hj => by simpa [Value.cells] using (h4 j hj).2)
      simpa using this
    | arr k e =>
      have := fits_arr hd hf
      subst this
      simp only [Value.okWide, hD] at hval
      obtain ⟨cs, rfl, hcs, _⟩ := hval
      have ha : aof T t as = .agg as := by simp [aof, hd, TD.ag]
      rw [ha]
      have := Rep.agg (ρ := noPlace) (L := noLens) (I := fun g => g < W.heap.size) (w := W) (N := NoName) as cs.toList (by simpa [Value.cells] using h2.symm) (fun u hu => by
        obtain ⟨i, hi, rfl⟩ := List.getElem_of_mem hu
        have := (h4 i (by rw [h2]; simpa [Value.cells] using hi)).1
        have hi' : i < cs.size := by simpa using hi
        simpa [Value.cells, Array.getD, hi'] using this) (fun j hj => by simpa [Value.cells] using (h4 j hj).2)
      simpa using this
    | _ => rw [hd] at hp; simp at hp
theorem rows_map {α β : Type} {f : α → β} {p : α → Prop} : ∀ {es : List β}, (∀ r ∈ es, ∃ x, r = f x ∧ p x) → ∃ l : List α, es = l.map f ∧ ∀ x ∈ l, p x
  | [], _ => ⟨[], rfl, by simp⟩
  | r :: es, h => by
    obtain ⟨x, rfl, hx⟩ := h r List.mem_cons_self
    obtain ⟨l, rfl, hl⟩ := rows_map (es := es) (fun r hr => h r (List.mem_cons_of_mem _ hr))
    exact ⟨x :: l, rfl, by simpa using ⟨hx, hl⟩⟩
theorem repL_nil {ρ : Place} {L : Lens} {I : Nat → Prop} {w : World} {N : Nat → Prop} : RepL ρ L I w N [] [] := ⟨rfl, fun j hj => by simp at hj⟩
theorem repL_cons {ρ : Place} {L : Lens} {I : Nat → Prop} {w : World} {N : Nat → Prop} {a : AV} {v : Value} {as : List AV} {vs : List Value} (h : Rep ρ L I w N a v) (k : RepL ρ L I w N as vs) : RepL ρ L I w N (a :: as) (v :: vs) := by
  refine ⟨by simp [k.1], fun j hj => ?_⟩
  cases j with
  | zero => simpa using h
  | succ j => simpa using k.2 j (by simpa using hj)
theorem PCalls.law {f : Nat} {args : List AV} {vs : List Value} (h : PCalls P f args (.bool true)) (hR : RepL noPlace noLens (fun g => g < W.heap.size) W NoName args vs) :
    Calls P f vs.toArray W fun e w' => e = .returned (.bool true) ∧ Below W.heap.size W w' :=
  (h _ W vs (fun _ h => h) hR).mono fun e w1 ⟨v, I1, he, hb, _, _, _, hr⟩ => ⟨by rw [he, rep_bool hr], hb⟩
def ctyL (T : TT) (n : Nat) : List Nat → List AV → Prop
  | [], avs => avs = []
  | t :: r, avs => ∃ as s, avs = aof T t as :: s ∧ cty T n t as ∧ ctyL T n r s
def catK : List AV → List AV → (List AV → Prop) → Prop
  | [], b, K => K b
  | x :: a, b, K => catK a b fun l => K (x :: l)
theorem catK_eq : ∀ (a b : List AV) (K : List AV → Prop), catK a b K = K (a ++ b)
  | [], _, _ => rfl
  | x :: a, b, K => by simp only [catK, catK_eq a, List.cons_append]
def opnS (C : Nat → (List AV → Prop) → Prop) : List (Nat × Nat) → (List AV → Prop) → Prop
  | [], K => K []
  | f :: r, K => C f.2 fun a => opnS C r fun b => catK a b K
def opnA (C : (List AV → Prop) → Prop) : Nat → (List AV → Prop) → Prop
  | 0, K => K []
  | k + 1, K => C fun a => opnA C k fun b => catK a b K
def opnK (T : TT) : Nat → Nat → (List AV → Prop) → Prop
  | 0, _, _ => False
  | n + 1, t, K => match T.d t with
    | .int k => ∀ x, inI k x → K [.int k x]
    | .bool => ∀ b, K [.bool b]
    | .str => ∀ s : List UInt8, s.length ≤ maxLen → K [.str s]
    | .slice e => ∀ es : List (List AV), es.length ≤ maxLen → (∀ r ∈ es, cty T n e r) → K [.isl (T.s e) es]
    | .struct fs => opnS (opnK T n) fs K
    | .arr m e => opnA (opnK T n e) m K
    | _ => True
theorem opnS_elim {C : Nat → (List AV → Prop) → Prop} {D : Nat → List AV → Prop} (h : ∀ t K as, C t K → D t as → K as) : ∀ (fs : List (Nat × Nat)) (K : List AV → Prop) (as : List AV), opnS C fs K → ctyS D fs as → K as
  | [], K, as, h1, h2 => by
    obtain rfl : as = [] := h2
    exact h1
  | f :: r, K, as, h1, h2 => by
    obtain ⟨a1, a2, rfl, h3, h4⟩ := h2
    have h5 := h f.2 _ a1 h1 h3
    have h6 := opnS_elim h r _ a2 h5 h4
    rw [catK_eq] at h6
    exact h6
theorem opnA_elim {C : (List AV → Prop) → Prop} {D : List AV → Prop} (h : ∀ K as, C K → D as → K as) : ∀ (k : Nat) (K : List AV → Prop) (as : List AV), opnA C k K → ctyA D k as → K as
  | 0, K, as, h1, h2 => by
    obtain rfl : as = [] := h2
    exact h1
  | k + 1, K, as, h1, h2 => by
    obtain ⟨a1, a2, rfl, h3, h4⟩ := h2
    have h5 := h _ a1 h1 h3
    have h6 := opnA_elim h k _ a2 h5 h4
    rw [catK_eq] at h6
    exact h6
theorem opnK_elim : ∀ (n t : Nat) (K : List AV → Prop) (as : List AV), opnK T n t K → cty T n t as → K as
  | 0, _, _, _, h, _ => h.elim
  | n + 1, t, K, as, h, hc => by
    simp only [opnK] at h
    simp only [cty] at hc
    cases hd : T.d t with
    | int k =>
      rw [hd] at h hc
      obtain ⟨x, rfl, hx⟩ := hc
      exact h x (wf_in hx)
    | bool =>
      rw [hd] at h hc
      obtain ⟨b, rfl⟩ := hc
      exact h b
    | str =>
      rw [hd] at h hc
      obtain ⟨s, rfl, hs⟩ := hc
      exact h s hs
    | slice e =>
      rw [hd] at h hc
      obtain ⟨es, rfl, h1, h2⟩ := hc
      exact h es h1 h2
    | struct fs =>
      rw [hd] at h hc
      exact opnS_elim (fun t K as h1 h2 => opnK_elim n t K as h1 h2) fs K as h hc
    | arr m e =>
      rw [hd] at h hc
      exact opnA_elim (fun K as h1 h2 => opnK_elim n e K as h1 h2) m K as h hc
    | _ => rw [hd] at hc; exact hc.elim
def opnL (T : TT) (n : Nat) : List Nat → (List AV → Prop) → Prop
  | [], K => K []
  | t :: r, K => opnK T n t fun as => opnL T n r fun s => K (aof T t as :: s)
theorem opnL_elim {n : Nat} : ∀ {ts : List Nat} {K : List AV → Prop} {avs : List AV}, opnL T n ts K → ctyL T n ts avs → K avs
  | [], K, avs, h, hc => by
    obtain rfl : avs = [] := hc
    exact h
  | t :: r, K, avs, h, hc => by
    obtain ⟨as, s, rfl, h1, h2⟩ := hc
    exact opnL_elim (K := fun s => K (aof T t as :: s)) (opnK_elim n t _ as h h1) h2
open Go.ChangeShapes in
theorem open_all {H : Type} {enc : TypeId × Value → H} {sp : Nat → Bool} {held : Bool} (hT : TTok P T) {n : Nat} {r : Reach} {b0 : Nat} : ∀ {ts : List TypeId} {vs : List Value} {ds : List (DataW H)} {ps : List MemPlace},
    DataW.TrodAll enc P W 0 sp held ts vs ds ps → (∀ (j : Nat) t v, ts[j]? = some t → vs[j]? = some v → Value.okWide P W r b0 t v) → (∀ t ∈ ts, plain T n t = true) →
    ds.length = ts.length ∧ ∃ avs, ctyL T n ts avs ∧ RepL noPlace noLens (fun g => g < W.heap.size) W NoName avs vs
  | [], vs, ds, ps, h, _, _ => by
    obtain ⟨rfl, rfl, rfl⟩ := trodAll_nil h
    exact ⟨rfl, [], rfl, repL_nil⟩
  | t :: ts, vs, ds, ps, h, hv, hp => by
    obtain ⟨v, vs', d, ds', p, q, rfl, rfl, rfl, h1, h2⟩ := trodAll_cons h
    obtain ⟨k0, avs, k1, k2⟩ := open_all hT (ts := ts) h2 (fun j t v ht hv' => hv (j + 1) t v (by simpa using ht) (by simpa using hv')) (fun t ht => hp t (List.mem_cons_of_mem _ ht))
    obtain ⟨as, h3, h4⟩ := open_av hT (hv 0 t v rfl rfl) h1 (hp t List.mem_cons_self)
    exact ⟨by simp [k0], _, ⟨as, avs, rfl, h3, k1⟩, repL_cons h4 k2⟩
open Go.ChangeShapes in
theorem trodAll_below {H : Type} {enc : TypeId × Value → H} (hl : laidOutB P = true) {W' : World} (hb : Below W.heap.size W W') : ∀ {ts : List TypeId} {vs : List Value} {ds : List (DataW H)} {ps : List MemPlace},
    DataW.TrodAll enc P W 0 (fun _ => true) true ts vs ds ps → (∀ t ∈ ts, P.readableRec t = true ∧ t < P.types.size) → (∀ x ∈ ps, x.block < W.heap.size) → DataW.TrodAll enc P W' 0 (fun b => decide (b < W.heap.size)) true ts vs ds ps
  | [], vs, ds, ps, h, _, _ => by
    obtain ⟨rfl, rfl, rfl⟩ := trodAll_nil h
    exact trodAll_mk0
  | t :: ts, vs, ds, ps, h, hr, hlt => by
    obtain ⟨v, vs', d, ds', p, q, rfl, rfl, rfl, h1, h2⟩ := trodAll_cons h
    obtain ⟨r1, r2⟩ := hr t List.mem_cons_self
    exact trodAll_cons_mk (Below.trod hl r1 r2 h1 hb (fun x hx => hlt x (List.mem_append_left _ hx))) (trodAll_below hl hb h2 (fun t ht => hr t (List.mem_cons_of_mem _ ht)) (fun x hx => hlt x (List.mem_append_right _ hx)))
open Go.ChangeShapes in
theorem lift_law {C : Checked} {os : Os} {f : FuncId} {fn : Func} {s : ChangeSpec} {conds : List PathCond} {tb : TypeId} {T : TT} {n : Nat} {H : Type} {enc : TypeId × Value → H} (hT : TTok C.prog T)
    (own : ownKnob C.prog.godebug = none) (started : os.Started) (noInit : C.prog.inits.idxOf? f = none) (hfn : C.prog.funcs[f]? = some fn)
    (witness : ∃ (w : World) (tape : Tape) (i : Input), w.os = os ∧ (w.forCall tape i).Shaped C.prog ∧ i.vars = [] ∧ Input.okWide C.prog (w.forCall tape i) .any w.heap.size f i ∧
      s.pre6 enc C.prog fn conds false (w.forCall tape i).memory i.args ∧ ({} : Assume).holds C.prog (lone (Frame.enter C.prog f i.args .normal) [] (w.forCall tape i)))
    (hl : laidOutB C.prog = true) (hread : (fn.params.toList.all fun t => C.prog.readableRec t && decide (t < C.prog.types.size) && plain T n t) = true)
    (hvars : s.vars = []) (hsp : ∀ ds : List (DataW H), ds.length = fn.params.size → s.fn H ds = { results := [.lit (.bool true)], args := ds })
    (hres : fn.resultTypes = #[tb]) (htb : C.prog.underlying tb = some .bool)
    (law : ∀ avs, ctyL T n fn.params.toList avs → PCalls C.prog f avs (.bool true)) :
    ReturnsInHanded {} C os f .any (s.pre6 enc C.prog fn conds false) (s.post enc C.prog fn false true false false) := by
  refine returnsInHanded_of_change own started noInit hfn witness ?_
  intro W base args ds gs before hval hW _ _
  have hW0 := hW
  obtain ⟨p, q, hA, hV, rfl, hfz, hnd⟩ := hW
  rw [hvars] at hV
  obtain ⟨rfl, rfl⟩ := trodVars_none hV
  have hread' := List.all_eq_true.1 hread
  simp only [Bool.and_eq_true, decide_eq_true_eq] at hread'
  obtain ⟨hlen, avs, hc, hR⟩ := open_all hT hA (fun j t v ht hv => hval j t v (by simpa using ht) (by simpa using hv)) (fun t ht => (hread' t ht).2)
  have hlt : ∀ x ∈ p, x.block < W.heap.size := fun x hx => hW0.lt x (by simpa using hx)
  have hspec := hsp ds (by simpa using hlen)
  have hcalls := (law avs hc).law hR
  rw [show args.toList.toArray = args by simp] at hcalls
  refine hcalls.mono fun e W' ⟨he, hb⟩ => ⟨.bool true, he, ?_⟩
  refine ⟨ds, [], p ++ [], [], p, [], hW0, ?_, ?_, ?_, World.keptBut_mono (fun x hx => ⟨hx, .inr (.inl (by simpa using hx))⟩) (hb.frame (· ∈ p ++ [])), fun h => by simp at h⟩
  · rw [List.append_nil, hspec, hres]
    exact trodAll_mk1 (shut_bool htb true)
  · rw [List.append_nil, hspec]
    exact trodAll_below hl hb hA (fun t ht => (hread' t ht).1) hlt
  · rw [List.append_nil, hspec, hvars]
    rfl
end
end Go.AM
