/- Of the reckoning machine, and what is proved with it: texts joined by program. -/
import Derived.WalkKit
import Derived.WalkSpells
import Derived.WalkLawsBesides
import Derived.Lib.Strings
import Derived.Deep.AppendSrc
import Derived.Deep.Upon
set_option linter.all false

/- The abstract machine 'AM', part 1: abstract values, what they stand for in a world, and how that stays true while the world goes on. Nothing of a program is named here. -/



namespace Go.AM
open Go.RowKit

/-- Abstract values. 'loc n len i off': a pointer into the local block n (when its length is len), element i, cell off. 'osl n len': the slice over the local block n. 'isl sz es': a slice that nobody writes to any more. -/
inductive AV where
  | int (k : IntKind) (n : Int)
  | bool (b : Bool)
  | str (s : List UInt8)
  | nilp
  | nils
  | nilf
  | nili
  | loc (n len i off : Nat)
  | osl (n len : Nat)
  | vsl (n len i off cnt : Nat)
  | isl (sz : Nat) (es : List (List AV))
  | iptr (e : List AV) (off : Nat)
  | clo (f : Nat) (caps : List AV)
  | agg (cs : List AV)
  | tup (vs : List AV)
  | bad
  deriving Inhabited

structure Blk where
  ty : Nat
  sz : Nat
  es : List (List AV)

abbrev Mem := List (Nat × Blk)
abbrev Frm := List (Nat × AV)

def mget : Mem → Nat → Option Blk
  | [], _ => none
  | (m, b) :: r, n => bif n == m then some b else mget r n

def look : Frm → Nat → AV
  | [], _ => .bad
  | (j, v) :: r, i => bif i == j then v else look r i

/-- Where the local blocks lie: block number and capacity; none: not laid yet (a nil slice). -/
abbrev Place := Nat → Option (Nat × Nat)
/-- The lengths and element sizes of the local blocks that are alive. -/
abbrev Lens := Nat → Option (Nat × Nat)


/-- No name. -/
def NoName : Nat → Prop := fun _ => False

/-- The functional view of the local blocks. -/
abbrev MemF := Nat → Option Blk

/-- The lengths and element sizes of the local blocks that are alive. -/
def lens (M : MemF) : Lens := fun n => (M n).map fun b => (b.es.length, b.sz)

/-- The value v is what the abstract value says. N: the names of local blocks that may occur in it; inside an immutable slice there are none. -/
inductive Rep (ρ : Place) (L : Lens) (I : Nat → Prop) (w : World) : (Nat → Prop) → AV → Value → Prop
  | int {N} (k : IntKind) (n : Int) : Rep ρ L I w N (.int k n) (.int k n)
  | bool {N} (b : Bool) : Rep ρ L I w N (.bool b) (.bool b)
  | str {N} (s : List UInt8) : Rep ρ L I w N (.str s) (.string ⟨s.toArray⟩)
  | nilp {N} : Rep ρ L I w N .nilp (.pointer none)
  | nils {N} : Rep ρ L I w N .nils (.slice none 0 0)
  | nilf {N} : Rep ρ L I w N .nilf .nilFunc
  | nili {N} : Rep ρ L I w N .nili .nilIface
  | loc {N} (n len i off : Nat) (v : Value) (hn : N n) (h1 : v.oneCell' = true) (h : ∀ l sz, L n = some (l, sz) → len ≤ l ∧ (len = l → ∃ g cap, ρ n = some (g, cap) ∧ v = .pointer (some ⟨g, i * sz + off, none⟩))) : Rep ρ L I w N (.loc n len i off) v
  | osl {N} (n len : Nat) (v : Value) (hn : N n) (h1 : v.oneCell' = true) (h : ∀ l sz, L n = some (l, sz) → len ≤ l ∧ (len = l → (ρ n = none ∧ ∃ q, v = .slice q 0 0) ∨ ∃ g cap, ρ n = some (g, cap) ∧ v = .slice (some ⟨g, 0, none⟩) len cap)) : Rep ρ L I w N (.osl n len) v
  | vsl {N} (n len i off cnt : Nat) (v : Value) (hn : N n) (h1 : v.oneCell' = true) (h : ∀ l sz, L n = some (l, sz) → len ≤ l ∧ (len = l → ∃ g cap c, ρ n = some (g, cap) ∧ v = .slice (some ⟨g, i * sz + off, none⟩) cnt c ∧ cnt ≤ c ∧ c ≤ maxLen)) : Rep ρ L I w N (.vsl n len i off cnt) v
  | islNil {N} (sz : Nat) (a : Option Addr) (cap : Nat) (hc : cap ≤ maxLen) : Rep ρ L I w N (.isl sz []) (.slice a 0 cap)
  | isl {N} (sz : Nat) (es : List (List AV)) (b o cap : Nat) (c : Nat → Nat → Value) (hl : es.length ≤ cap) (hc : cap ≤ maxLen) (hI : I b) (hs : ∀ e ∈ es, e.length = sz)
      (h1 : ∀ i j, i < es.length → j < sz → (c i j).oneCell' = true)
      (hcell : ∀ i j, i < es.length → j < sz → w.cell? ⟨b, o + i * sz + j, none⟩ = some (c i j))
      (hr : ∀ i j, i < es.length → j < sz → Rep ρ L I w NoName ((es.getD i []).getD j .bad) (c i j)) : Rep ρ L I w N (.isl sz es) (.slice (some ⟨b, o, none⟩) es.length cap)
  | iptr {N} (e : List AV) (off b o : Nat) (c : Nat → Value) (hI : I b) (h1 : ∀ j, j < e.length → (c j).oneCell' = true) (hcell : ∀ j, j < e.length → w.cell? ⟨b, o + j, none⟩ = some (c j))
      (hr : ∀ j, j < e.length → Rep ρ L I w NoName (e.getD j .bad) (c j)) : Rep ρ L I w N (.iptr e off) (.pointer (some ⟨b, o + off, none⟩))
  | clo {N} (f : Nat) (caps : List AV) (vs : List Value) (hl : vs.length = caps.length) (hr : ∀ j, j < caps.length → Rep ρ L I w N (caps.getD j .bad) (vs.getD j default)) :
      Rep ρ L I w N (.clo f caps) (.func (.func f) #[] vs.toArray)
  | agg {N} (cs : List AV) (vs : List Value) (hl : vs.length = cs.length) (h1 : ∀ u ∈ vs, u.oneCell' = true) (hr : ∀ j, j < cs.length → Rep ρ L I w N (cs.getD j .bad) (vs.getD j default)) :
      Rep ρ L I w N (.agg cs) (.agg vs.toArray)
  | tup {N} (cs : List AV) (vs : List Value) (hl : vs.length = cs.length) (hr : ∀ j, j < cs.length → Rep ρ L I w N (cs.getD j .bad) (vs.getD j default)) :
      Rep ρ L I w N (.tup cs) (.tuple vs.toArray)
  | bad {N} (v : Value) : Rep ρ L I w N .bad v

/-- How places, lengths, the immutable blocks and the world may go on, for the names in N. -/
structure Evo (N : Nat → Prop) (ρ : Place) (L : Lens) (I : Nat → Prop) (w : World) (ρ' : Place) (L' : Lens) (I' : Nat → Prop) (w' : World) : Prop where
  alive : ∀ n len sz, N n → L' n = some (len, sz) → L n = some (len, sz) → ρ' n = ρ n
  back : ∀ n len sz, N n → L' n = some (len, sz) → ∃ len', L n = some (len', sz) ∧ len' ≤ len
  imm : ∀ b, I b → I' b
  cell : ∀ b, I b → w'.heap[b]? = w.heap[b]?


theorem Evo.refl (N : Nat → Prop) (ρ : Place) (L : Lens) (I : Nat → Prop) (w : World) : Evo N ρ L I w ρ L I w :=
  ⟨fun _ _ _ _ _ _ => rfl, fun _ len _ _ h => ⟨len, h, Nat.le_refl _⟩, fun _ h => h, fun _ _ => rfl⟩

theorem Evo.trans {N : Nat → Prop} {ρ ρ' ρ'' : Place} {L L' L'' : Lens} {I I' I'' : Nat → Prop} {w w' w'' : World} (h : Evo N ρ L I w ρ' L' I' w') (k : Evo N ρ' L' I' w' ρ'' L'' I'' w'') : Evo N ρ L I w ρ'' L'' I'' w'' := by
  refine ⟨?_, ?_, fun b hb => k.imm b (h.imm b hb), fun b hb => (k.cell b (h.imm b hb)).trans (h.cell b hb)⟩
  · intro n len sz hn h2 h0
    obtain ⟨l1, e1, g1⟩ := k.back n len sz hn h2
    obtain ⟨l0, e0, g0⟩ := h.back n l1 sz hn e1
    rw [h0] at e0
    simp only [Option.some.injEq, Prod.mk.injEq] at e0
    obtain ⟨rfl, _⟩ := e0
    have : l1 = len := by omega
    subst this
    exact (k.alive n l1 sz hn h2 e1).trans (h.alive n l1 sz hn e1 h0)
  · intro n len sz hn h2
    obtain ⟨l1, e1, g1⟩ := k.back n len sz hn h2
    obtain ⟨l0, e0, g0⟩ := h.back n l1 sz hn e1
    exact ⟨l0, e0, by omega⟩

theorem Evo.mono {N N' : Nat → Prop} (hle : ∀ n, N' n → N n) {ρ ρ' : Place} {L L' : Lens} {I I' : Nat → Prop} {w w' : World} (h : Evo N ρ L I w ρ' L' I' w') : Evo N' ρ L I w ρ' L' I' w' :=
  ⟨fun n len sz hn => h.alive n len sz (hle n hn), fun n len sz hn => h.back n len sz (hle n hn), h.imm, h.cell⟩

theorem cell_of_heap {w w' : World} {b o : Nat} (h : w'.heap[b]? = w.heap[b]?) : w'.cell? ⟨b, o, none⟩ = w.cell? ⟨b, o, none⟩ := by
  simp [World.cell?, h]

/-- What a value stands for stays true while the world goes on. -/
theorem Rep.evo {ρ ρ' : Place} {L L' : Lens} {I I' : Nat → Prop} {w w' : World} {NX : Nat → Prop} (E : Evo NX ρ L I w ρ' L' I' w') {N : Nat → Prop} {a : AV} {v : Value} (h : Rep ρ L I w N a v) : (∀ n, N n → NX n) → Rep ρ' L' I' w' N a v := by
  induction h with
  | int k n => exact fun _ => .int k n
  | bool b => exact fun _ => .bool b
  | str s => exact fun _ => .str s
  | nilp => exact fun _ => .nilp
  | nils => exact fun _ => .nils
  | nilf => exact fun _ => .nilf
  | nili => exact fun _ => .nili
  | @loc N n len i off v hn hv h =>
    refine fun hx => .loc n len i off v hn hv fun l sz hl => ?_
    obtain ⟨l0, e0, g0⟩ := E.back n l sz (hx n hn) hl
    obtain ⟨h1, h2⟩ := h l0 sz e0
    refine ⟨by omega, fun e => ?_⟩
    have : l0 = l := by omega
    subst this
    rw [E.alive n l0 sz (hx n hn) hl e0]
    exact h2 e
  | @osl N n len v hn hv h =>
    refine fun hx => .osl n len v hn hv fun l sz hl => ?_
    obtain ⟨l0, e0, g0⟩ := E.back n l sz (hx n hn) hl
    obtain ⟨h1, h2⟩ := h l0 sz e0
    refine ⟨by omega, fun e => ?_⟩
    have : l0 = l := by omega
    subst this
    rw [E.alive n l0 sz (hx n hn) hl e0]
    exact h2 e
  | @vsl N n len i off cnt v hn hv h =>
    refine fun hx => .vsl n len i off cnt v hn hv fun l sz hl => ?_
    obtain ⟨l0, e0, g0⟩ := E.back n l sz (hx n hn) hl
    obtain ⟨h1, h2⟩ := h l0 sz e0
    refine ⟨by omega, fun e => ?_⟩
    have : l0 = l := by omega
    subst this
    rw [E.alive n l0 sz (hx n hn) hl e0]
    exact h2 e
  | islNil sz a cap hc => exact fun _ => .islNil sz a cap hc
  | isl sz es b o cap c hl hc hI hs h1 hcell hr ih =>
    exact fun _ => .isl sz es b o cap c hl hc (E.imm b hI) hs h1 (fun i j hi hj => (cell_of_heap (E.cell b hI)).trans (hcell i j hi hj)) (fun i j hi hj => ih i j hi hj (fun _ h => h.elim))
  | iptr e off b o c hI h1 hcell hr ih =>
    exact fun _ => .iptr e off b o c (E.imm b hI) h1 (fun j hj => (cell_of_heap (E.cell b hI)).trans (hcell j hj)) (fun j hj => ih j hj (fun _ h => h.elim))
  | clo f caps vs hl hr ih => exact fun hx => .clo f caps vs hl (fun j hj => ih j hj hx)
  | agg cs vs hl h1 hr ih => exact fun hx => .agg cs vs hl h1 (fun j hj => ih j hj hx)
  | tup cs vs hl hr ih => exact fun hx => .tup cs vs hl (fun j hj => ih j hj hx)
  | bad v => exact fun _ => .bad v

/-- More names may be about. -/
theorem Rep.wide {ρ : Place} {L : Lens} {I : Nat → Prop} {w : World} {N : Nat → Prop} {a : AV} {v : Value} (h : Rep ρ L I w N a v) : ∀ {N' : Nat → Prop}, (∀ n, N n → N' n) → Rep ρ L I w N' a v := by
  induction h with
  | int k n => exact fun _ => .int k n
  | bool b => exact fun _ => .bool b
  | str s => exact fun _ => .str s
  | nilp => exact fun _ => .nilp
  | nils => exact fun _ => .nils
  | nilf => exact fun _ => .nilf
  | nili => exact fun _ => .nili
  | loc n len i off v hn h1 h => exact fun hx => .loc n len i off v (hx n hn) h1 h
  | osl n len v hn h1 h => exact fun hx => .osl n len v (hx n hn) h1 h
  | vsl n len i off cnt v hn h1 h => exact fun hx => .vsl n len i off cnt v (hx n hn) h1 h
  | islNil sz a cap hc => exact fun _ => .islNil sz a cap hc
  | isl sz es b o cap c hl hc hI hs h1 hcell hr ih => exact fun _ => .isl sz es b o cap c hl hc hI hs h1 hcell hr
  | iptr e off b o c hI h1 hcell hr ih => exact fun _ => .iptr e off b o c hI h1 hcell hr
  | clo f caps vs hl hr ih => exact fun hx => .clo f caps vs hl (fun j hj => ih j hj hx)
  | agg cs vs hl h1 hr ih => exact fun hx => .agg cs vs hl h1 (fun j hj => ih j hj hx)
  | tup cs vs hl hr ih => exact fun hx => .tup cs vs hl (fun j hj => ih j hj hx)
  | bad v => exact fun _ => .bad v

/-- A value without names of local blocks: places and lengths are nothing to it. -/
theorem Rep.bare {ρ : Place} {L : Lens} {I : Nat → Prop} {w : World} {N : Nat → Prop} {a : AV} {v : Value} (h : Rep ρ L I w N a v) : (∀ n, ¬ N n) → ∀ (ρ' : Place) (L' : Lens), Rep ρ' L' I w NoName a v := by
  induction h with
  | int k n => exact fun _ _ _ => .int k n
  | bool b => exact fun _ _ _ => .bool b
  | str s => exact fun _ _ _ => .str s
  | nilp => exact fun _ _ _ => .nilp
  | nils => exact fun _ _ _ => .nils
  | nilf => exact fun _ _ _ => .nilf
  | nili => exact fun _ _ _ => .nili
  | loc n len i off v hn h1 h => exact fun hx => (hx n hn).elim
  | osl n len v hn h1 h => exact fun hx => (hx n hn).elim
  | vsl n len i off cnt v hn h1 h => exact fun hx => (hx n hn).elim
  | islNil sz a cap hc => exact fun _ _ _ => .islNil sz a cap hc
  | isl sz es b o cap c hl hc hI hs h1 hcell hr ih => exact fun _ ρ' L' => .isl sz es b o cap c hl hc hI hs h1 hcell (fun i j hi hj => ih i j hi hj (fun _ h => h) ρ' L')
  | iptr e off b o c hI h1 hcell hr ih => exact fun _ ρ' L' => .iptr e off b o c hI h1 hcell (fun j hj => ih j hj (fun _ h => h) ρ' L')
  | clo f caps vs hl hr ih => exact fun hx ρ' L' => .clo f caps vs hl (fun j hj => ih j hj hx ρ' L')
  | agg cs vs hl h1 hr ih => exact fun hx ρ' L' => .agg cs vs hl h1 (fun j hj => ih j hj hx ρ' L')
  | tup cs vs hl hr ih => exact fun hx ρ' L' => .tup cs vs hl (fun j hj => ih j hj hx ρ' L')
  | bad v => exact fun _ _ _ => .bad v

end Go.AM

/- The abstract machine 'AM', part 2: the local blocks, and the steps of the world. -/

namespace Go.AM
open Go.RowKit

def mset : Mem → Nat → Blk → Mem
  | [], n, b => [(n, b)]
  | (m, c) :: r, n, b => bif n == m then (m, b) :: r else (m, c) :: mset r n b

theorem mget_mset (M : Mem) (n : Nat) (b : Blk) (m : Nat) : mget (mset M n b) m = if m = n then some b else mget M m := by
  induction M with
  | nil =>
    by_cases h : m = n
    · subst h; simp [mset, mget]
    · have hb : (m == n) = false := by simpa using h
      simp [mset, mget, h, hb]
  | cons x r ih =>
    obtain ⟨k, c⟩ := x
    by_cases h : n = k
    · subst h
      by_cases h' : m = n
      · subst h'; simp [mset, mget]
      · have hb : (m == n) = false := by simpa using h'
        simp [mset, mget, h', hb]
    · have hb : (n == k) = false := by simpa using h
      simp only [mset, hb, cond_false, mget]
      by_cases h' : m = k
      · subst h'
        have : m ≠ n := fun e => h e.symm
        simp [this]
      · have hb' : (m == k) = false := by simpa using h'
        simp only [hb', cond_false, ih]

structure Ctx where
  w0 : World
  p : Nat
  I0 : Nat → Prop
  size : Nat
  ρ0 : Place
  L0 : Lens

/-- The blocks of the local blocks that were there. -/
def Ctx.fp (C : Ctx) (g : Nat) : Prop := ∃ n c, n < C.p ∧ C.ρ0 n = some (g, c)

/-- The world keeps what it must not change. -/
structure Keeps (C : Ctx) (w : World) : Prop where
  os : w.os = C.w0.os
  tape : w.tape = C.w0.tape
  output : w.output = C.w0.output
  size : C.w0.heap.size ≤ w.heap.size
  block : ∀ g, g < C.w0.heap.size → ¬ C.fp g → w.heap[g]? = C.w0.heap[g]?

structure BlkOk (C : Ctx) (ρ : Place) (L : Lens) (I : Nat → Prop) (w : World) (N : Nat → Prop) (n : Nat) (b : Blk) : Prop where
  lt : N n
  even : ∀ e ∈ b.es, e.length = b.sz
  virt : ρ n = none → b.es = []
  real : ∀ g cap, ρ n = some (g, cap) → ∃ cs fr, w.heap[g]? = some (.cells cs b.ty fr) ∧ (∀ o, o < cs.size → ¬ (fr.1 ≤ o ∧ o < fr.2)) ∧ ¬ I g ∧ ((n < C.p ∧ ∃ c, C.ρ0 n = some (g, c)) ∨ C.w0.heap.size ≤ g) ∧ b.es.length ≤ cap ∧ cap ≤ maxLen ∧ cs.size = cap * b.sz ∧
    ∀ i j, i < b.es.length → j < b.sz → ∃ u, cs[i * b.sz + j]? = some u ∧ u.oneCell' = true ∧ Rep ρ L I w N ((b.es.getD i []).getD j .bad) u

structure Wok (C : Ctx) (ρ : Place) (I : Nat → Prop) (M : MemF) (N : Nat → Prop) (w : World) : Prop where
  blk : ∀ n b, M n = some b → BlkOk C ρ (lens M) I w N n b
  inj : ∀ n m b b' g c c', M n = some b → M m = some b' → ρ n = some (g, c) → ρ m = some (g, c') → n = m
  imm : ∀ g, C.I0 g → I g
  lt : ∀ g, I g → g < w.heap.size
  old : ∀ g, g < C.w0.heap.size → I g → C.I0 g
  keeps : Keeps C w
  pn : ∀ n, n < C.p → N n
  fp0 : ∀ g, C.fp g → g < C.w0.heap.size ∧ ¬ C.I0 g
  par : ∀ n len sz, n < C.p → lens M n = some (len, sz) → ∃ len0, C.L0 n = some (len0, sz) ∧ len0 ≤ len ∧ (len0 = len → ρ n = C.ρ0 n)

theorem Wok.par_evo {C : Ctx} {ρ ρ' : Place} {I I' : Nat → Prop} {M : MemF} {L' : Lens} {N : Nat → Prop} {w w' : World} (h : Wok C ρ I M N w) (E : Evo N ρ (lens M) I w ρ' L' I' w') :
    ∀ n len sz, n < C.p → L' n = some (len, sz) → ∃ len0, C.L0 n = some (len0, sz) ∧ len0 ≤ len ∧ (len0 = len → ρ' n = C.ρ0 n) := by
  intro n len sz hn hl
  obtain ⟨l1, e1, g1⟩ := E.back n len sz (h.pn n hn) hl
  obtain ⟨l0, e0, g0, k0⟩ := h.par n l1 sz hn e1
  refine ⟨l0, e0, by omega, fun e => ?_⟩
  have e2 : l1 = len := by omega
  subst e2
  exact (E.alive n l1 sz (h.pn n hn) hl e1).trans (k0 e)

theorem lens_some {M : MemF} {n l sz : Nat} : lens M n = some (l, sz) ↔ ∃ b, M n = some b ∧ b.es.length = l ∧ b.sz = sz := by
  simp [lens, Option.map_eq_some_iff]

def mupd (M : MemF) (n : Nat) (b : Blk) : MemF := fun m => if m = n then some b else M m

theorem lens_mset (M : MemF) (n : Nat) (b : Blk) (m : Nat) : lens (mupd M n b) m = if m = n then some (b.es.length, b.sz) else lens M m := by
  unfold lens mupd
  split <;> simp

/-- The names of N, and one more. -/
def nadd (N : Nat → Prop) (n : Nat) : Nat → Prop := fun m => m = n ∨ N m

def pset (ρ : Place) (n : Nat) (x : Nat × Nat) : Place := fun m => if m = n then some x else ρ m

/-- One local block is laid, or laid anew, or written to: all else stands. -/
theorem Wok.put {C : Ctx} {ρ : Place} {I : Nat → Prop} {M : MemF} {N : Nat → Prop} {w w' : World} (h : Wok C ρ I M N w)
    (n : Nat) (b : Blk) (g cap : Nat) (cs : Array Value) (fr : Nat × Nat)
    (hos : w'.os = w.os) (htape : w'.tape = w.tape) (hout : w'.output = w.output) (hsz : w.heap.size ≤ w'.heap.size)
    (hother : ∀ k, k < w.heap.size → k ≠ g → w'.heap[k]? = w.heap[k]?)
    (hg : w'.heap[g]? = some (.cells cs b.ty fr)) (hfr : ∀ o, o < cs.size → ¬ (fr.1 ≤ o ∧ o < fr.2))
    (hplace : w.heap.size ≤ g ∨ ∃ c0, ρ n = some (g, c0) ∧ ∃ b0, M n = some b0)
    (hold : ∀ b0, M n = some b0 → b0.sz = b.sz ∧ b0.es.length ≤ b.es.length ∧ (b0.es.length = b.es.length → ρ n = some (g, cap)))
    (hdead : N n → ∃ b0, M n = some b0)
    (heven : ∀ e ∈ b.es, e.length = b.sz) (hlen : b.es.length ≤ cap) (hcap : cap ≤ maxLen) (hcs : cs.size = cap * b.sz)
    (hrep : ∀ i j, i < b.es.length → j < b.sz → ∃ u, cs[i * b.sz + j]? = some u ∧ u.oneCell' = true ∧ Rep ρ (lens M) I w N ((b.es.getD i []).getD j .bad) u) :
    Evo N ρ (lens M) I w (pset ρ n (g, cap)) (lens (mupd M n b)) I w' ∧ Wok C (pset ρ n (g, cap)) I (mupd M n b) (nadd N n) w' := by
  have hgI : ¬ I g := by
    intro hI
    rcases hplace with hp | ⟨c0, hp, b0, hb0⟩
    · have := h.lt g hI; omega
    · obtain ⟨_, _, _, _, hnI, _⟩ := (h.blk n b0 hb0).real g c0 hp
      exact hnI hI
  have hown : (n < C.p ∧ ∃ c, C.ρ0 n = some (g, c)) ∨ C.w0.heap.size ≤ g := by
    rcases hplace with hp | ⟨c0, hp, b0, hb0⟩
    · right; have := h.keeps.size; omega
    · obtain ⟨_, _, _, _, _, ho, _⟩ := (h.blk n b0 hb0).real g c0 hp
      exact ho
  have E : Evo N ρ (lens M) I w (pset ρ n (g, cap)) (lens (mupd M n b)) I w' := by
    refine ⟨?_, ?_, fun _ h => h, ?_⟩
    · intro m len sz hm h1 h0
      by_cases e : m = n
      · subst e
        rw [lens_mset, if_pos rfl] at h1
        simp only [Option.some.injEq, Prod.mk.injEq] at h1
        obtain ⟨b0, hb0, hl0, _⟩ := lens_some.1 h0
        obtain ⟨_, _, h3⟩ := hold b0 hb0
        simp only [pset, if_pos]
        exact (h3 (by omega)).symm
      · simp [pset, e]
    · intro m len sz hm h1
      by_cases e : m = n
      · subst e
        rw [lens_mset, if_pos rfl] at h1
        simp only [Option.some.injEq, Prod.mk.injEq] at h1
        obtain ⟨b0, hb0⟩ := hdead hm
        obtain ⟨h2, h3, _⟩ := hold b0 hb0
        exact ⟨b0.es.length, lens_some.2 ⟨b0, hb0, rfl, by omega⟩, by omega⟩
      · rw [lens_mset, if_neg e] at h1
        exact ⟨len, h1, Nat.le_refl _⟩
    · intro k hk
      exact hother k (h.lt k hk) (fun e => hgI (e ▸ hk))
  refine ⟨E, ?_, ?_, h.imm, ?_, h.old, ?_, ?_, h.fp0, h.par_evo E⟩
  · intro m bm hm
    simp only [mupd] at hm
    by_cases e : m = n
    · subst e
      rw [if_pos rfl] at hm
      simp only [Option.some.injEq] at hm
      subst hm
      refine ⟨Or.inl rfl, heven, fun h0 => by simp [pset] at h0, fun g' cap' h0 => ?_⟩
      simp only [pset, if_pos, Option.some.injEq, Prod.mk.injEq] at h0
      obtain ⟨rfl, rfl⟩ := h0
      refine ⟨cs, fr, hg, hfr, hgI, hown, hlen, hcap, hcs, fun i j hi hj => ?_⟩
      obtain ⟨u, hu, hu1, hr⟩ := hrep i j hi hj
      exact ⟨u, hu, hu1, (hr.evo E (fun _ h => h)).wide (fun _ h => Or.inr h)⟩
    · rw [if_neg e] at hm
      have B := h.blk m bm hm
      refine ⟨Or.inr B.lt, B.even, fun h0 => B.virt (by simpa [pset, e] using h0), fun g' cap' h0 => ?_⟩
      have h0' : ρ m = some (g', cap') := by simpa [pset, e] using h0
      obtain ⟨cs', fr', hc1, hcf, hc2, hc3, hc4, hc5, hc6, hc7⟩ := B.real g' cap' h0'
      have hlt : g' < w.heap.size := (Array.getElem?_eq_some_iff.1 hc1).1
      have hne : g' ≠ g := by
        rintro rfl
        rcases hplace with hp | ⟨c0, hp, b0, hb0⟩
        · omega
        · exact e (h.inj m n bm b0 g' cap' c0 hm hb0 h0' hp)
      refine ⟨cs', fr', (hother g' hlt hne).trans hc1, hcf, hc2, hc3, hc4, hc5, hc6, fun i j hi hj => ?_⟩
      obtain ⟨u, hu, hu1, hr⟩ := hc7 i j hi hj
      exact ⟨u, hu, hu1, (hr.evo E (fun _ h => h)).wide (fun _ h => Or.inr h)⟩
  · intro m k bm bk g' c c' hm hk h1 h2
    have lt' : ∀ (q : Nat) (bq : Blk) (c0 : Nat), M q = some bq → ρ q = some (g, c0) → q = n := by
      intro q bq c0 hq hρ
      obtain ⟨cs', fr', hc1, _⟩ := (h.blk q bq hq).real g c0 hρ
      have hlt : g < w.heap.size := (Array.getElem?_eq_some_iff.1 hc1).1
      rcases hplace with hp | ⟨c1, hp, b0, hb0⟩
      · omega
      · exact h.inj q n bq b0 g c0 c1 hq hb0 hρ hp
    simp only [mupd] at hm hk
    by_cases e : m = n <;> by_cases e' : k = n
    · omega
    · subst e
      rw [if_neg e'] at hk
      simp only [pset, if_pos, if_neg e', Option.some.injEq, Prod.mk.injEq] at h1 h2
      obtain ⟨rfl, _⟩ := h1
      exact (lt' k bk c' hk h2).symm
    · subst e'
      rw [if_neg e] at hm
      simp only [pset, if_pos, if_neg e, Option.some.injEq, Prod.mk.injEq] at h1 h2
      obtain ⟨rfl, _⟩ := h2
      exact lt' m bm c hm h1
    · rw [if_neg e] at hm
      rw [if_neg e'] at hk
      simp only [pset, if_neg e, if_neg e'] at h1 h2
      exact h.inj m k bm bk g' c c' hm hk h1 h2
  · intro k hk; have := h.lt k hk; omega
  · refine ⟨hos.trans h.keeps.os, htape.trans h.keeps.tape, hout.trans h.keeps.output, Nat.le_trans h.keeps.size hsz, fun k hk hf => ?_⟩
    refine (hother k (Nat.lt_of_lt_of_le hk h.keeps.size) ?_).trans (h.keeps.block k hk hf)
    rintro rfl
    rcases hown with ⟨hp, c, hc⟩ | ho
    · exact hf ⟨n, c, hp, hc⟩
    · omega
  · exact fun m hm => Or.inr (h.pn m hm)


/-- The world goes on without touching a local block: blocks are added, some of the new ones are from now on immutable. -/
theorem Wok.ext {C : Ctx} {ρ : Place} {I I' : Nat → Prop} {M : MemF} {N : Nat → Prop} {w w' : World} (h : Wok C ρ I M N w)
    (hos : w'.os = w.os) (htape : w'.tape = w.tape) (hout : w'.output = w.output) (hsz : w.heap.size ≤ w'.heap.size)
    (hother : ∀ k, k < w.heap.size → w'.heap[k]? = w.heap[k]?)
    (hI : ∀ k, I k → I' k) (hlt : ∀ k, I' k → k < w'.heap.size) (hnew : ∀ k, k < w.heap.size → I' k → I k) :
    Evo N ρ (lens M) I w ρ (lens M) I' w' ∧ Wok C ρ I' M N w' := by
  have E : Evo N ρ (lens M) I w ρ (lens M) I' w' := ⟨fun _ _ _ _ _ _ => rfl, fun _ len _ _ h => ⟨len, h, Nat.le_refl _⟩, hI, fun b hb => hother b (h.lt b hb)⟩
  refine ⟨E, fun n b hb => ?_, h.inj, fun g hg => hI g (h.imm g hg), hlt, fun g hg hg' => h.old g hg (hnew g (Nat.lt_of_lt_of_le hg h.keeps.size) hg'), ?_, h.pn, h.fp0, h.par_evo E⟩
  · have B := h.blk n b hb
    refine ⟨B.lt, B.even, B.virt, fun g cap hg => ?_⟩
    obtain ⟨cs, fr, hc1, hcf, hc2, hc3, hc4, hc5, hc6, hc7⟩ := B.real g cap hg
    have hl : g < w.heap.size := (Array.getElem?_eq_some_iff.1 hc1).1
    refine ⟨cs, fr, (hother g hl).trans hc1, hcf, fun hi => hc2 (hnew g hl hi), hc3, hc4, hc5, hc6, fun i j hi hj => ?_⟩
    obtain ⟨u, hu, hu1, hr⟩ := hc7 i j hi hj
    exact ⟨u, hu, hu1, hr.evo E (fun _ h => h)⟩
  · exact ⟨hos.trans h.keeps.os, htape.trans h.keeps.tape, hout.trans h.keeps.output, Nat.le_trans h.keeps.size hsz, fun g hg hf => (hother g (Nat.lt_of_lt_of_le hg h.keeps.size)).trans (h.keeps.block g hg hf)⟩

theorem Wok.drew {C : Ctx} {ρ : Place} {I : Nat → Prop} {M : MemF} {N : Nat → Prop} {w : World} (h : Wok C ρ I M N w) : Wok C ρ I M N w.drew :=
  (h.ext (w' := w.drew) rfl rfl rfl (Nat.le_refl _) (fun _ _ => rfl) (fun _ h => h) h.lt (fun _ _ h => h)).2

/- No name of a local block but those of N. -/
mutual
def AV.under (N : Nat → Prop) : AV → Prop
  | .loc n _ _ _ => N n
  | .osl n _ => N n
  | .vsl n _ _ _ _ => N n
  | .clo _ cs => AV.underL N cs
  | .agg cs => AV.underL N cs
  | .tup cs => AV.underL N cs
  | _ => True
def AV.underL (N : Nat → Prop) : List AV → Prop
  | [] => True
  | c :: cs => AV.under N c ∧ AV.underL N cs
end

theorem AV.underL_getD {N : Nat → Prop} : ∀ (cs : List AV) (j : Nat), AV.underL N cs → j < cs.length → AV.under N (cs.getD j .bad)
  | [], _, _, h => by simp at h
  | c :: cs, 0, h, _ => by simp only [AV.underL] at h; simpa using h.1
  | c :: cs, j + 1, h, hj => by simp only [AV.underL] at h; simpa using AV.underL_getD cs j h.2 (by simpa using hj)

theorem Rep.low {ρ : Place} {L : Lens} {I : Nat → Prop} {w : World} {N : Nat → Prop} {a : AV} {v : Value} (h : Rep ρ L I w N a v) : ∀ {N' : Nat → Prop}, a.under N' → Rep ρ L I w N' a v := by
  induction h with
  | int k n => exact fun _ => .int k n
  | bool b => exact fun _ => .bool b
  | str s => exact fun _ => .str s
  | nilp => exact fun _ => .nilp
  | nils => exact fun _ => .nils
  | nilf => exact fun _ => .nilf
  | nili => exact fun _ => .nili
  | loc n len i off v hn h1 h => exact fun hx => .loc n len i off v (by simpa [AV.under] using hx) h1 h
  | osl n len v hn h1 h => exact fun hx => .osl n len v (by simpa [AV.under] using hx) h1 h
  | vsl n len i off cnt v hn h1 h => exact fun hx => .vsl n len i off cnt v (by simpa [AV.under] using hx) h1 h
  | islNil sz a cap hc => exact fun _ => .islNil sz a cap hc
  | isl sz es b o cap c hl hc hI hs h1 hcell hr ih => exact fun _ => .isl sz es b o cap c hl hc hI hs h1 hcell hr
  | iptr e off b o c hI h1 hcell hr ih => exact fun _ => .iptr e off b o c hI h1 hcell hr
  | clo f caps vs hl hr ih => exact fun hx => .clo f caps vs hl (fun j hj => ih j hj (AV.underL_getD _ _ (by simpa [AV.under] using hx) hj))
  | agg cs vs hl h1 hr ih => exact fun hx => .agg cs vs hl h1 (fun j hj => ih j hj (AV.underL_getD _ _ (by simpa [AV.under] using hx) hj))
  | tup cs vs hl hr ih => exact fun hx => .tup cs vs hl (fun j hj => ih j hj (AV.underL_getD _ _ (by simpa [AV.under] using hx) hj))
  | bad v => exact fun _ => .bad v

end Go.AM

/- The abstract machine 'AM', part 3: what each operation does to an abstract state. All of this is made to be reckoned by 'dsimp only [go_sem]'. -/

namespace Go.AM
open Go.RowKit

inductive TD where
  | int (k : IntKind) | bool | str | ptr (e : Nat) | slice (e : Nat) | arr (n e : Nat) | struct (fs : List (Nat × Nat)) | func | iface | map (k e : Nat) | tup | other
  deriving Inhabited

/-- The types' table: kind, cells, zero value. -/
structure TT where
  d : Nat → TD
  s : Nat → Nat
  z : Nat → AV

def TD.ok : TD → Bool
  | .other => false
  | _ => true

def TD.ag : TD → Bool
  | .arr .. => true
  | .struct .. => true
  | _ => false

structure St where
  F : Frm
  M : Mem
  nx : Nat

def ofV0 : Value → AV
  | .int k n => .int k n
  | .bool b => .bool b
  | .string s => .str s.data.toList
  | .pointer none => .nilp
  | .slice none 0 0 => .nils
  | .nilFunc => .nilf
  | .nilIface => .nili
  | _ => .bad

def ofV : Value → AV
  | .agg cs => bif cs.toList.all Value.oneCell' then .agg (cs.toList.map ofV0) else .bad
  | .tuple vs => .tup (vs.toList.map ofV0)
  | v => ofV0 v

def ev (F : Frm) : Operand → AV
  | .tmp t => look F t
  | .const v => ofV v
  | .func f => .clo f []
  | .global _ => .bad

def evL (F : Frm) : List Operand → List AV
  | [] => []
  | o :: r => ev F o :: evL F r

def cells : AV → List AV
  | .agg cs => cs
  | v => [v]

/-- A value whose cells are known to be there. -/
def solid : AV → Bool
  | .bad => false
  | .tup _ => false
  | _ => true

def updF (F : Frm) : Option Nat → AV → Frm
  | none, _ => F
  | some d, v => (d, v) :: F

def acnd : Bool → Prop → Prop → Prop
  | true, X, _ => X
  | false, _, Y => Y

theorem acnd_intro {b : Bool} {X Y : Prop} (h1 : b = true → X) (h2 : b = false → Y) : acnd b X Y := by
  cases b
  · exact h2 rfl
  · exact h1 rfl

/-- A check that is reckoned. -/
def chk (b : Bool) (K : Prop) : Prop := bif b then K else False
theorem chk_intro {b : Bool} {K : Prop} (h : b = true) (k : K) : chk b K := by simp [chk, h, k]
theorem chk_elim {b : Bool} {K : Prop} (h : chk b K) : b = true ∧ K := by cases b <;> simp_all [chk]

/-- The items that are still to be carried out. -/
inductive It where
  | code (c : Code)
  | blk (id : Nat)
  | inl (c : Code)
  | ops (all : Array Oper) (i : Nat) (rest : List Oper) (gd : List (Nat × Nat))
  | rnd (c : Code) (post : St → Prop)
  | scp (c : Code)

def It.item : It → Item
  | .code c => .code c
  | .blk id => .inBlock id
  | .inl c => .inLoop c
  | .ops all i rest _ => .inRegion all (List.range' i rest.length)
  | .rnd c _ => .inLoop c
  | .scp c => .inScope c

abbrev Go1 := List It → St → Prop

def kagg (K : AV → Prop) (cs : List AV) : Prop := K (.agg cs)
/-- The local block n is alive, of length len: what it holds. -/
def alive (M : Mem) (n len : Nat) (K : Blk → Prop) : Prop :=
  match mget M n with
  | some b => chk (b.es.length == len) (K b)
  | none => False

/-- A part of a row of cells, as a value. -/
def apart (ag : Bool) (n off : Nat) (cs : List AV) (K : AV → Prop) : Prop :=
  chk (((cs.drop off).take n).length == n) (bif ag then K (.agg ((cs.drop off).take n)) else chk (n == 1) (K (((cs.drop off).take n).headD .bad)))

/-- Two's complement and so on: the arithmetic of the model, behind a name. -/
def wr (k : IntKind) (n : Int) : Int := k.wrap n
def bit2 (op : BinOp) (k : IntKind) (x y : Int) : Int :=
  let a := BitVec.ofInt k.bits x
  let b := BitVec.ofInt k.bits y
  match op with
  | .and => k.wrap (a &&& b).toNat
  | .or => k.wrap (a ||| b).toNat
  | .xor => k.wrap (a ^^^ b).toNat
  | _ => k.wrap (a &&& ~~~b).toNat
def shlI (k : IntKind) (x y : Int) : Int := k.wrap (x * 2 ^ (min y.toNat k.bits))
def shrI (k : IntKind) (x y : Int) : Int := x.fdiv (2 ^ (min y.toNat k.bits))

def kno : IntKind → Nat
  | .i8 => 0 | .i16 => 1 | .i32 => 2 | .i64 => 3 | .u8 => 4 | .u16 => 5 | .u32 => 6 | .u64 => 7
def keq (k k' : IntKind) : Bool := kno k == kno k'
theorem keq_eq {k k' : IntKind} (h : keq k k' = true) : k = k' := by
  cases k <;> cases k' <;> first | rfl | (simp [keq, kno] at h)

def abin (op : BinOp) (x y : AV) (K : AV → Prop) : Prop :=
  match x, y with
  | .int k a, .int k' b =>
    match op with
    | .shl => (0 ≤ b) ∧ K (.int k (shlI k a b))
    | .shr => (0 ≤ b) ∧ K (.int k (shrI k a b))
    | .add => chk (keq k k') (K (.int k (wr k (a + b))))
    | .sub => chk (keq k k') (K (.int k (wr k (a - b))))
    | .mul => chk (keq k k') (K (.int k (wr k (a * b))))
    | .quo => (b ≠ 0) ∧ chk (keq k k') (K (.int k (wr k (a.tdiv b))))
    | .rem => (b ≠ 0) ∧ chk (keq k k') (K (.int k (a.tmod b)))
    | .and => chk (keq k k') (K (.int k (bit2 .and k a b)))
    | .or => chk (keq k k') (K (.int k (bit2 .or k a b)))
    | .xor => chk (keq k k') (K (.int k (bit2 .xor k a b)))
    | .andNot => chk (keq k k') (K (.int k (bit2 .andNot k a b)))
    | .eql => chk (keq k k') (K (.bool (a == b)))
    | .neq => chk (keq k k') (K (.bool (a != b)))
    | .lss => chk (keq k k') (K (.bool (decide (a < b))))
    | .leq => chk (keq k k') (K (.bool (decide (a ≤ b))))
    | .gtr => chk (keq k k') (K (.bool (decide (a > b))))
    | .geq => chk (keq k k') (K (.bool (decide (a ≥ b))))
  | _, _ => False

def aun (op : UnOp) (x : AV) (K : AV → Prop) : Prop :=
  match op, x with
  | .neg, .int k n => K (.int k (wr k (0 - n)))
  | .xor, .int k n => K (.int k (bit2 .xor k (if k.signed then -1 else k.max) n))
  | .not, .bool b => K (.bool !b)
  | _, _ => False

def aconv (D : TD) (x : AV) (K : AV → Prop) : Prop :=
  match D, x with
  | .int k, .int _ n => K (.int k (wr k n))
  | .str, .str s => K (.str s)
  | _, _ => False

/-- The cells of a struct's or an array's value: the parts laid into the zero value. -/
def splice (off : Nat) (vs cs : List AV) : List AV := cs.take off ++ (vs ++ cs.drop (off + vs.length))

/-- n cells, each the value z. -/
def fillS (size : Nat → Nat) : List (Nat × Nat) → List (Nat × AV) → List AV → (List AV → Prop) → Prop
  | _, [], cs, K => K cs
  | fs, (i, v) :: r, cs, K =>
    match fs[i]? with
    | some (off, t) => chk (solid v && !((cells v).length == 0) && (cells v).length == size t && (((cs.drop off).take (cells v).length).length == (cells v).length)) (fillS size fs r (splice off (cells v) cs) K)
    | none => False

def fillA (sz : Nat) : List (Nat × AV) → List AV → (List AV → Prop) → Prop
  | [], cs, K => K cs
  | (i, v) :: r, cs, K => chk (solid v && !((cells v).length == 0) && (cells v).length == sz && (((cs.drop (i * sz)).take (cells v).length).length == (cells v).length)) (fillA sz r (splice (i * sz) (cells v) cs) K)

/-- The elements of a new slice: the parts laid in. -/
def fillE (sz : Nat) : List (Nat × AV) → List (List AV) → (List (List AV) → Prop) → Prop
  | [], es, K => K es
  | (i, v) :: r, es, K => chk (solid v && (cells v).length == sz && ((es.drop i).take 1).length == 1) (fillE sz r (es.set i (cells v)) K)

def evP (F : Frm) : List (Nat × Operand) → List (Nat × AV)
  | [] => []
  | (i, o) :: r => (i, ev F o) :: evP F r

def fsok (d : Nat → TD) : List (Nat × Nat) → Bool
  | [] => true
  | (_, t) :: r => (d t).ok && fsok d r

def abuild (T : TT) (t : Nat) (ps : List (Nat × AV)) (K : AV → Prop) : Prop :=
  match T.d t with
  | .struct fs => chk (fsok T.d fs && solid (T.z t) && (cells (T.z t)).length == T.s t) (fillS T.s fs ps (cells (T.z t)) (kagg K))
  | .arr _ e => chk ((T.d e).ok && solid (T.z t) && (cells (T.z t)).length == T.s t) (fillA (T.s e) ps (cells (T.z t)) (kagg K))
  | _ => False

def afield (T : TT) (s : Nat) (x : AV) (f : Nat) (M : Mem) (K : AV → Prop) : Prop :=
  match T.d s with
  | .struct fs =>
    match fs[f]? with
    | some (off, ft) => chk ((T.d ft).ok && !(T.s ft == 0)) (match x with
      | .loc n len i o => alive M n len fun _ => K (.loc n len i (o + off))
      | .iptr e o => K (.iptr e (o + off))
      | _ => False)
    | none => False
  | _ => False

def aidx (T : TT) (t : Nat) (x ix : AV) (M : Mem) (K : AV → Prop) : Prop :=
  match ix with
  | .int _ i =>
    match T.d t with
    | .slice e =>
      (match x with
      | .isl sz es => chk (sz == T.s e) ((0 ≤ i ∧ i < es.length) ∧ K (.iptr (es.getD i.toNat []) 0))
      | .osl n len => alive M n len fun b => chk (b.sz == T.s e) ((0 ≤ i ∧ i < len) ∧ K (.loc n len i.toNat 0))
      | .vsl n len j off cnt => alive M n len fun _ => (0 ≤ i ∧ i < cnt) ∧ K (.loc n len j (off + i.toNat * T.s e))
      | _ => False)
    | .arr m e =>
      (match x with
      | .loc n len j off => alive M n len fun _ => (0 ≤ i ∧ i < (m : Int)) ∧ K (.loc n len j (off + i.toNat * T.s e))
      | .iptr c off => (0 ≤ i ∧ i < (m : Int)) ∧ K (.iptr c (off + i.toNat * T.s e))
      | _ => False)
    | _ => False
  | _ => False

def aload (T : TT) (t : Nat) (a : AV) (M : Mem) (K : AV → Prop) : Prop :=
  match a with
  | .loc n len i off => alive M n len fun b => apart (T.d t).ag (T.s t) off (b.es.getD i []) K
  | .iptr e off => apart (T.d t).ag (T.s t) off e K
  | _ => False

def astore (T : TT) (t : Nat) (a v : AV) (M : Mem) (K : Mem → Prop) : Prop :=
  match a with
  | .loc n len i off => alive M n len fun b =>
      chk (solid v && (cells v).length == T.s t && !(T.s t == 0) && ((((b.es.getD i []).drop off).take (cells v).length).length == (cells v).length))
        (K (mset M n ⟨b.ty, b.sz, b.es.set i (splice off (cells v) (b.es.getD i []))⟩))
  | _ => False

/-- The bound below which a slice may always be made or grown: elements, and bytes of one. -/
def big : Nat := 1073741824

def alen : AV → Option Nat
  | .isl _ es => some es.length
  | .osl _ len => some len
  | .vsl _ _ _ _ cnt => some cnt
  | .nils => some 0
  | .str s => some s.length
  | _ => none

/-- A row of cells, cut into elements. -/
def chop (sz : Nat) : Nat → List AV → List (List AV)
  | 0, _ => []
  | n + 1, r => r.take sz :: chop sz n (r.drop sz)

/-- The elements that 'append' takes from its second argument. -/
def asrc (M : Mem) (sz : Nat) (x : AV) (K : List (List AV) → Prop) : Prop :=
  match x with
  | .isl s es => chk (s == sz) (K es)
  | .nils => K []
  | .osl n len => alive M n len fun b => chk (b.sz == sz) (K b.es)
  | .vsl n len i off cnt => alive M n len fun b => chk (Nat.blt i b.es.length && Nat.ble (off + cnt * sz) b.sz && !(sz == 0)) (K (chop sz cnt ((b.es.getD i []).drop off)))
  | .str s => chk (sz == 1) (K (s.map fun c => [.int .u8 c.toNat]))
  | _ => False

def aappend (T : TT) (t : Nat) (s x : AV) (S : St) (K : AV → Mem → Nat → Prop) : Prop :=
  match T.d t with
  | .slice e =>
    (match s with
    | .osl n len => alive S.M n len fun b => chk (b.sz == T.s e && b.ty == e) (asrc S.M (T.s e) x fun xs =>
        (len + xs.length ≤ big) ∧ K (.osl n (len + xs.length)) (mset S.M n ⟨b.ty, b.sz, b.es ++ xs⟩) S.nx)
    | .nils => asrc S.M (T.s e) x fun xs => (xs.length ≤ big) ∧ K (.osl S.nx xs.length) (mset S.M S.nx ⟨e, T.s e, xs⟩) (S.nx + 1)
    | _ => False)
  | _ => False

def aminF (k : IntKind) (a : Int) : List AV → AV
  | [] => .int k a
  | .int _ b :: r => aminF k (min a b) r
  | _ => .bad
def amaxF (k : IntKind) (a : Int) : List AV → AV
  | [] => .int k a
  | .int _ b :: r => amaxF k (max a b) r
  | _ => .bad
def amin : List AV → AV
  | .int k a :: r => aminF k a r
  | _ => .bad
def amax : List AV → AV
  | .int k a :: r => amaxF k a r
  | _ => .bad

/- The names of local blocks that occur in a value (inside an immutable slice there are none). -/
mutual
def AV.names : AV → List Nat
  | .loc n _ _ _ => [n]
  | .osl n _ => [n]
  | .vsl n _ _ _ _ => [n]
  | .clo _ cs => AV.namesL cs
  | .agg cs => AV.namesL cs
  | .tup cs => AV.namesL cs
  | _ => []
def AV.namesL : List AV → List Nat
  | [] => []
  | c :: cs => AV.names c ++ AV.namesL cs
end

def mups (M : MemF) : List (Nat × Blk) → MemF
  | [] => M
  | (n, b) :: r => mups (mupd M n b) r
def msets (M : Mem) : List (Nat × Blk) → Mem
  | [] => M
  | (n, b) :: r => msets (mset M n b) r
def naddL (N : Nat → Prop) (ws : List (Nat × Blk)) : Nat → Prop := fun m => N m ∨ ∃ b, (m, b) ∈ ws

/-- What an operation or a call leaves: the value, the local blocks ws written, or laid anew. -/
def Post (X : Ctx) (M : MemF) (N : Nat → Prop) (ρ : Place) (I : Nat → Prop) (w : World) (av : AV) (ws : List (Nat × Blk)) (v : Value) (w1 : World) : Prop :=
  ∃ ρ1 I1, Evo N ρ (lens M) I w ρ1 (lens (mups M ws)) I1 w1 ∧ Wok X ρ1 I1 (mups M ws) (naddL N ws) w1 ∧ Rep ρ1 (lens (mups M ws)) I1 w1 (naddL N ws) av v

def RepL (ρ : Place) (L : Lens) (I : Nat → Prop) (w : World) (N : Nat → Prop) (as : List AV) (vs : List Value) : Prop :=
  vs.length = as.length ∧ ∀ j, j < as.length → Rep ρ L I w N (as.getD j .bad) (vs.getD j default)

/-- A call of f with these arguments, in whatever state in which the local blocks that the arguments name are as in M: it returns av and leaves ws. -/
def CallL (P : Program) (X : Ctx) (f : Nat) (args : List AV) (M : MemF) (av : AV) (ws : List (Nat × Blk)) (nw : List Nat) : Prop :=
  (∀ p ∈ ws, p.1 ∈ nw ∨ p.1 ∈ AV.namesL args) ∧
  ∀ M' N ρ I w vs, Wok X ρ I M' N w → (∀ n ∈ AV.namesL args, M' n = M n) → (∀ n ∈ nw, ¬ N n) → RepL ρ (lens M') I w N args vs →
    Calls P f vs.toArray w fun e w1 => ∃ v, e = .returned v ∧ Post X M' N ρ I w av ws v w1

/-- The same, told with the names Rx of the blocks that the call may look into. -/
def CallR (P : Program) (X : Ctx) (f : Nat) (args : List AV) (Rx : List Nat) (M : MemF) (av : AV) (ws : List (Nat × Blk)) (nw : List Nat) : Prop :=
  (∀ p ∈ ws, p.1 ∈ nw ∨ (p.1 ∈ Rx ∧ M p.1 ≠ none)) ∧
  ∀ M' N ρ I w vs, Wok X ρ I M' N w → (∀ n ∈ Rx, M' n = M n) → (∀ n ∈ nw, ¬ N n) → RepL ρ (lens M') I w N args vs →
    Calls P f vs.toArray w fun e w1 => ∃ v, e = .returned v ∧ Post X M' N ρ I w av ws v w1

def eok (T : TT) : TD → Bool
  | .slice e => (T.d e).ok
  | .arr _ e => (T.d e).ok
  | _ => true

def appok (T : TT) (t t' : Nat) (x : AV) : Bool :=
  (match T.d t with
  | .slice e => (T.d e).ok && solid (T.z e) && (cells (T.z e)).length == T.s e
  | _ => false) &&
  (match x, T.d t' with
  | .str _, .str => true
  | .str _, _ => false
  | _, .slice _ => true
  | _, _ => false)

def newBlk (S : St) (t : Nat) (cs : List AV) : Mem := mset S.M S.nx ⟨t, cs.length, [cs]⟩

def aslice (T : TT) (t : Nat) (x : AV) (lo hi mx : Option AV) (M : Mem) (K : AV → Prop) : Prop :=
  match T.d t with
  | .slice e => chk ((T.d e).ok) (match x with
    | .isl sz es => chk (sz == T.s e) (match lo, hi, mx with
      | none, some (.int _ h), none => (0 ≤ h ∧ h ≤ es.length) ∧ K (.isl sz (es.take h.toNat))
      | some (.int _ l), none, none => (0 ≤ l ∧ l ≤ es.length) ∧ K (.isl sz (es.drop l.toNat))
      | some (.int _ l), some (.int _ h), none => (0 ≤ l ∧ l ≤ h ∧ h ≤ es.length) ∧ K (.isl sz ((es.take h.toNat).drop l.toNat))
      | none, some (.int _ h), some (.int _ m) => (0 ≤ h ∧ h ≤ m ∧ m ≤ es.length) ∧ K (.isl sz (es.take h.toNat))
      | _, _, _ => False)
    | _ => False)
  | .str => (match x with
    | .str s => (match lo, hi, mx with
      | none, some (.int _ h), none => (0 ≤ h ∧ h ≤ s.length) ∧ K (.str (s.take h.toNat))
      | some (.int _ l), none, none => (0 ≤ l ∧ l ≤ s.length) ∧ K (.str (s.drop l.toNat))
      | some (.int _ l), some (.int _ h), none => (0 ≤ l ∧ l ≤ h ∧ h ≤ s.length) ∧ K (.str ((s.take h.toNat).drop l.toNat))
      | _, _, _ => False)
    | _ => False)
  | _ => False

def evO (F : Frm) : Option Operand → Option AV
  | none => none
  | some o => some (ev F o)

/-- The local blocks that an operation may write to, besides those that it makes. -/
def wnames (F : Frm) : Op → List Nat
  | .store _ a _ => (ev F a).names
  | .call c => (match c.callee, c.args.toList with
    | .builtin .append, s :: _ => (ev F s).names
    | .builtin .copy, s :: _ => (ev F s).names
    | .value f, as => (match ev F f with
      | .clo _ caps => AV.namesL (evL F as ++ caps)
      | _ => [])
    | _, _ => [])
  | _ => []

/-- Where an operation's guard lies: the slot of operation number j. -/
def gslot : List (Nat × Nat) → Nat → Option Nat
  | [], _ => none
  | (i, s) :: r, j => bif j == i then some s else gslot r j

def gadd (gd : List (Nat × Nat)) (i : Nat) : Option Nat → List (Nat × Nat)
  | none => gd
  | some d => (i, d) :: gd

/-! Statements that draw the order of their operations. -/
def bmask (acc : List Nat) : List Edge → Nat
  | [] => 0
  | e :: r => bif Region.binds .any e then (2 ^ e.on ||| acc.getD e.on 0) ||| bmask acc r else bmask acc r
def masks : List Oper → List Nat → List Nat
  | [], acc => acc
  | o :: r, acc => masks r (acc ++ [bmask acc o.after.toList])
def backOk : Nat → List Oper → Bool
  | _, [] => true
  | i, o :: r => o.after.toList.all (fun e => !Region.binds .any e || Nat.blt e.on i) && backOk (i + 1) r
def slotsOk (ops : Array Oper) (ms : List Nat) : Bool :=
  (List.range ops.size).all fun j => (List.range j).all fun i => (ms.getD j 0).testBit i || (match ops[i]?, ops[j]? with
    | some x, some y => x.apart ops y
    | _, _ => true)
def drawOk (ops : Array Oper) : Bool := backOk 0 ops.toList && slotsOk ops (masks ops.toList [])

structure LogE where
  i : Nat
  R : List Nat
  W : List Nat
  lo : Nat
  hi : Nat
  k : Nat
def offr (lo hi : Nat) (R W : List Nat) : Bool := R.all fun n => !(Nat.ble lo n && Nat.blt n hi) && !W.any (Nat.beq n)
def pairOk (ms : List Nat) (x y : LogE) : Bool :=
  (ms.getD x.i 0).testBit y.i || (ms.getD y.i 0).testBit x.i || (offr x.lo x.hi y.R x.W && offr y.lo y.hi x.R y.W)
/-- Of an operation that tells an address (k = 1): no block that it names is new, or written but by stores (k = 2). -/
def okAddr (log : List LogE) (x : LogE) : Bool := Nat.beq x.k 1 && log.all fun y => x.R.all fun n => Nat.blt n y.lo && (Nat.beq y.k 2 || !y.W.any (Nat.beq n))
def confOk (ops : Array Oper) (log : List LogE) : Bool := log.all fun x => log.all fun y => Nat.beq x.i y.i || pairOk (masks ops.toList []) x y || okAddr log x || okAddr log y
def usesO : List Operand → List Nat
  | [] => []
  | .tmp t :: r => t :: usesO r
  | _ :: r => usesO r
def rdn (F : Frm) : List Nat → List Nat
  | [] => []
  | s :: r => (look F s).names ++ rdn F r
def addE (i : Nat) (R W : List Nat) (lo hi k : Nat) (log : List LogE) : List LogE := bif (R.isEmpty && W.isEmpty) && lo == hi then log else ⟨i, R, W, lo, hi, k⟩ :: log

def pendE (p : Option (Nat × List Nat × List Nat × Nat × Nat)) (hi : Nat) (log : List LogE) : List LogE := match p with
  | some (i, R, W, lo, k) => addE i R W lo hi k log
  | none => log
def unw (id : Nat) : List It → Option (List It)
  | .blk id' :: k => bif id' == id then some k else unw id k
  | _ :: k => unw id k
  | [] => none

def dstOf : Option Nat → Option Nat := id

def known (c : Operand) (b : Bool) (S : St) : St :=
  match c with
  | .tmp s => ⟨(s, .bool b) :: S.F, S.M, S.nx⟩
  | _ => S

/-- The machine comes to an end as the contract says: it returns, or stands at the head of a loop's next round. -/
structure FrmOk (ρ : Place) (I : Nat → Prop) (w : World) (X : Ctx) (S : St) (a : Act) : Prop where
  rep : ∀ i, Rep ρ (lens (mget S.M)) I w (· < S.nx) (look S.F i) (a.tmps.getD i undef)
  defers : a.defers = []
  size : a.tmps.size = X.size

def Sat (X : Ctx) (S : St) (a : Act) (w : World) : Prop := ∃ ρ I, Wok X ρ I (mget S.M) (· < S.nx) w ∧ FrmOk ρ I w X S a

def Outc (P : Program) (X : Ctx) (b : Frame) (R : St → Prop) (ks : List It) (a : Act) (w : World) : Prop :=
  ∀ cs, ∃ a' w' S', Sat X S' a' w' ∧
    ((∃ todo, Steps P (lone (b.at a (ks.map It.item)) cs w) (lone { b.at a' todo with mode := .returning } cs w') ∧ R S') ∨
     (∃ c post k', (It.rnd c post :: k') <:+ ks ∧ Steps P (lone (b.at a (ks.map It.item)) cs w) (lone (b.at a' ((It.rnd c post :: k').map It.item)) cs w') ∧ post S'))

def opOk (size : Nat) (o : Oper) : Bool := match o.dst with | some d => d < size | none => true
def codeOk (size : Nat) : Code → Bool
  | .region _ ops _ => ops.toList.all (opOk size)
  | .seq a b => codeOk size a && codeOk size b
  | .cond _ a b => codeOk size a && codeOk size b
  | .block _ c => codeOk size c
  | .loop c => codeOk size c
  | .scope c => codeOk size c
  | _ => true

def ItOk (size : Nat) : It → Prop
  | .code c => codeOk size c = true
  | .inl c => codeOk size c = true
  | .rnd _ _ => True
  | .blk _ => True
  | .scp _ => True
  | .ops all i rest gd => rest = all.toList.drop i ∧ rest.all (opOk size) = true ∧ ∀ j s, gslot gd j = some s → (all[j]?).bind (·.dst) = some s

/-- A loop: the machine stops here till an invariant is given. -/
def ALoop (P : Program) (X : Ctx) (b : Frame) (R : St → Prop) (c : Code) (ks : List It) (S : St) : Prop :=
  codeOk X.size c = true → (∀ x ∈ ks, ItOk X.size x) → ∀ a w, Sat X S a w → Outc P X b R (.code c :: .inl c :: ks) a w

end Go.AM

/- The abstract machine 'AM', part 4: what it says of an operation is so. -/

namespace Go.AM
open Go.RowKit

theorem mget_mset_fun (M : Mem) (n : Nat) (b : Blk) : mget (mset M n b) = mupd (mget M) n b := by
  funext m; rw [mget_mset]; rfl

theorem mget_msets (ws : List (Nat × Blk)) : ∀ M : Mem, mget (msets M ws) = mups (mget M) ws := by
  induction ws with
  | nil => intro M; rfl
  | cons p r ih => intro M; simp only [msets, mups, ih, mget_mset_fun]

/-- The slots that an operation reads. -/
def uses (o : Op) : List Nat := usesO o.operands.toList

/-- What an operation yields in the frame a and the world w. -/
def Yield (P : Program) (X : Ctx) (o : Oper) (a : Act) (M : MemF) (N : Nat → Prop) (ρ : Place) (I : Nat → Prop) (w : World) (av : AV) (ws : List (Nat × Blk)) : Prop :=
  match (execOp a.eval o).run P w with
  | .ok (.value v) w1 => Post X M N ρ I w av ws v w1
  | .ok .skip w1 => Post X M N ρ I w av ws undef w1
  | .ok (.enter f args) w1 => w1 = w ∧ Calls P f args w fun e w2 => ∃ v, e = .returned v ∧ Post X M N ρ I w av ws v w2
  | _ => False

/-- The operation does this, in whatever state in which what it reads is as in F and M, and the names nw are new. -/
def Does (P : Program) (X : Ctx) (o : Oper) (F : Frm) (M : MemF) (av : AV) (ws : List (Nat × Blk)) (nw : List Nat) : Prop :=
  (∀ p ∈ ws, p.1 ∈ nw ∨ ∃ s ∈ uses o.op, p.1 ∈ (look F s).names) ∧
  ∀ M' N ρ I a w, Wok X ρ I M' N w → (∀ s ∈ uses o.op, Rep ρ (lens M') I w N (look F s) (a.tmps.getD s undef)) →
    (∀ s ∈ uses o.op, ∀ n ∈ (look F s).names, M' n = M n) → (∀ n ∈ nw, ¬ N n) → Yield P X o a M' N ρ I w av ws

/-- A value that hangs on the shapes alone of the blocks that are named. -/
def DoesL (P : Program) (X : Ctx) (o : Oper) (F : Frm) (M : MemF) (av : AV) : Prop :=
  ∀ M' N ρ I a w, Wok X ρ I M' N w → (∀ s ∈ uses o.op, Rep ρ (lens M') I w N (look F s) (a.tmps.getD s undef)) →
    (∀ s ∈ uses o.op, ∀ n ∈ (look F s).names, lens M' n = lens M n) → Yield P X o a M' N ρ I w av []
theorem DoesL.does {P : Program} {X : Ctx} {o : Oper} {F : Frm} {M : MemF} {av : AV} (h : DoesL P X o F M av) : Does P X o F M av [] [] :=
  ⟨fun p hp => by simp at hp, fun M' N ρ I a w W hr hM _ => h M' N ρ I a w W hr (fun s hs n hn => by unfold lens; rw [hM s hs n hn])⟩

/-- The same, told with the names Rx of the blocks that it may look into. -/
def DoesR (P : Program) (X : Ctx) (o : Oper) (F : Frm) (M : MemF) (Rx : List Nat) (av : AV) (ws : List (Nat × Blk)) (nw : List Nat) : Prop :=
  (∀ p ∈ ws, p.1 ∈ nw ∨ (∃ s ∈ uses o.op, p.1 ∈ (look F s).names) ∨ (p.1 ∈ Rx ∧ M p.1 ≠ none)) ∧ (∀ s ∈ uses o.op, ∀ n ∈ (look F s).names, n ∈ Rx) ∧
  ∀ M' N ρ I a w, Wok X ρ I M' N w → (∀ s ∈ uses o.op, Rep ρ (lens M') I w N (look F s) (a.tmps.getD s undef)) →
    (∀ n ∈ Rx, M' n = M n) → (∀ n ∈ nw, ¬ N n) → Yield P X o a M' N ρ I w av ws
theorem Does.more {P : Program} {X : Ctx} {o : Oper} {F : Frm} {M : MemF} {Rx : List Nat} {av : AV} {ws : List (Nat × Blk)} {nw : List Nat} (h : Does P X o F M av ws nw) (hR : ∀ s ∈ uses o.op, ∀ n ∈ (look F s).names, n ∈ Rx) : DoesR P X o F M Rx av ws nw :=
  ⟨fun p hp => (h.1 p hp).imp id .inl, hR, fun M' N ρ I a w W hr hM hN => h.2 M' N ρ I a w W hr (fun s hs n hn => hM n (hR s hs n hn)) hN⟩

theorem naddL_nil (N : Nat → Prop) : naddL N [] = N := by funext m; simp [naddL]

/-- Nothing but a value. -/
theorem Post.value {X : Ctx} {M : MemF} {N : Nat → Prop} {ρ : Place} {I : Nat → Prop} {w : World} {av : AV} {v : Value} (h : Wok X ρ I M N w) (r : Rep ρ (lens M) I w N av v) : Post X M N ρ I w av [] v w :=
  ⟨ρ, I, Evo.refl _ _ _ _ _, by rw [naddL_nil]; exact h, by rw [naddL_nil]; exact r⟩

theorem mem_usesO {x : Nat} : ∀ {l : List Operand}, Operand.tmp x ∈ l → x ∈ usesO l
  | .tmp t :: r, h => by
    simp only [List.mem_cons] at h
    rcases h with h | h
    · cases h; exact List.mem_cons_self
    · exact List.mem_cons_of_mem _ (mem_usesO (l := r) h)
  | .const v :: r, h => by simp only [List.mem_cons, reduceCtorEq, false_or] at h; exact mem_usesO (l := r) h
  | .global g :: r, h => by simp only [List.mem_cons, reduceCtorEq, false_or] at h; exact mem_usesO (l := r) h
  | .func f :: r, h => by simp only [List.mem_cons, reduceCtorEq, false_or] at h; exact mem_usesO (l := r) h

theorem rep_ofV0 (ρ : Place) (L : Lens) (I : Nat → Prop) (w : World) (N : Nat → Prop) (v : Value) : Rep ρ L I w N (ofV0 v) v := by
  unfold ofV0
  split
  · exact .int _ _
  · exact .bool _
  · rename_i s; have : s = ⟨s.data.toList.toArray⟩ := by cases s; simp
    conv => rhs; rw [this]
    exact .str _
  · exact .nilp
  · exact .nils
  · exact .nilf
  · exact .nili
  · exact .bad _

theorem rep_ofV (ρ : Place) (L : Lens) (I : Nat → Prop) (w : World) (N : Nat → Prop) (v : Value) : Rep ρ L I w N (ofV v) v := by
  unfold ofV
  split
  · rename_i cs
    cases hall : cs.toList.all Value.oneCell'
    · exact .bad _
    have := Rep.agg (ρ := ρ) (L := L) (I := I) (w := w) (N := N) (cs.toList.map ofV0) cs.toList (by simp) (List.all_eq_true.1 hall) (fun j hj => by
      have hj' : j < cs.toList.length := by simpa using hj
      simp only [List.getD_eq_getElem?_getD, List.getElem?_map, List.getElem?_eq_getElem hj', Option.map_some, Option.getD_some]
      exact rep_ofV0 _ _ _ _ _ _)
    simpa using this
  · rename_i cs
    have := Rep.tup (ρ := ρ) (L := L) (I := I) (w := w) (N := N) (cs.toList.map ofV0) cs.toList (by simp) (fun j hj => by
      have hj' : j < cs.toList.length := by simpa using hj
      simp only [List.getD_eq_getElem?_getD, List.getElem?_map, List.getElem?_eq_getElem hj', Option.map_some, Option.getD_some]
      exact rep_ofV0 _ _ _ _ _ _)
    simpa using this
  · exact rep_ofV0 _ _ _ _ _ _

theorem rep_ev {ρ : Place} {L : Lens} {I : Nat → Prop} {w : World} {N : Nat → Prop} {F : Frm} {a : Act} (x : Operand) (h : ∀ s, x = .tmp s → Rep ρ L I w N (look F s) (a.tmps.getD s undef)) : Rep ρ L I w N (ev F x) (a.eval x) := by
  cases x with
  | tmp t => exact h t rfl
  | const v => exact rep_ofV _ _ _ _ _ v
  | global g => exact .bad _
  | func f => exact .clo f [] [] rfl (fun j hj => by simp at hj)

/-- An operand of the operation, in its state. -/
theorem rep_op {ρ : Place} {L : Lens} {I : Nat → Prop} {w : World} {N : Nat → Prop} {F : Frm} {a : Act} {o : Op} (h : ∀ s ∈ uses o, Rep ρ L I w N (look F s) (a.tmps.getD s undef)) (x : Operand) (hx : x ∈ o.operands.toList) : Rep ρ L I w N (ev F x) (a.eval x) :=
  rep_ev x fun s e => h s (mem_usesO (e ▸ hx))

theorem names_ofV0 (v : Value) : (ofV0 v).names = [] := by unfold ofV0; split <;> rfl
theorem namesL_map_ofV0 : ∀ l : List Value, AV.namesL (l.map ofV0) = []
  | [] => rfl
  | v :: r => by simp [AV.namesL, names_ofV0, namesL_map_ofV0 r]
theorem names_ofV (v : Value) : (ofV v).names = [] := by
  unfold ofV
  split
  · rename_i cs
    cases cs.toList.all Value.oneCell'
    · rfl
    · simp [AV.names, namesL_map_ofV0]
  · simp [AV.names, namesL_map_ofV0]
  · exact names_ofV0 _

/-- A name in an operand is a name in a slot that is read. -/
theorem names_op {F : Frm} {o : Op} (x : Operand) (hx : x ∈ o.operands.toList) {n : Nat} (hn : n ∈ (ev F x).names) : ∃ s ∈ uses o, n ∈ (look F s).names := by
  cases x with
  | tmp t => exact ⟨t, mem_usesO hx, hn⟩
  | const v => simp [ev, names_ofV] at hn
  | global g => simp [ev, AV.names] at hn
  | func f => simp [ev, AV.names, AV.namesL] at hn


def TD.fits : TD → TypeDesc → Prop
  | .int k, .int k' => k = k'
  | .bool, .bool => True
  | .str, .string => True
  | .ptr e, .pointer e' => e = e'
  | .slice e, .slice e' => e = e'
  | .arr n e, .array n' e' => n = n' ∧ e = e'
  | .struct fs, .struct gs => fs = gs.toList.map fun f => (f.offset, f.type)
  | .func, .func .. => True
  | .iface, .interface _ => True
  | .map k e, .map k' e' => k = k' ∧ e = e'
  | .tup, .tuple _ => True
  | _, _ => False

/-- The table is the program's. -/
def TTok (P : Program) (T : TT) : Prop := ∀ t, T.d t ≠ .other → ∃ D i z, P.underlying t = some D ∧ (T.d t).fits D ∧ P.info? t = some i ∧ i.size = T.s t ∧ i.bytes ≤ 131072 ∧ i.zero = some z ∧ T.z t = ofV z

theorem oneCell_cells {v : Value} (h : v.oneCell' = true) : v.cells = #[v] := by
  cases v <;> simp_all [Value.oneCell', Value.cells]

/-- The cells of a value. -/
theorem cells_rep {ρ : Place} {L : Lens} {I : Nat → Prop} {w : World} {N : Nat → Prop} {a : AV} {v : Value} (h : Rep ρ L I w N a v) (hs : solid a = true) :
    v.cells.toList.length = (cells a).length ∧ (∀ u ∈ v.cells.toList, u.oneCell' = true) ∧ ∀ j, j < (cells a).length → Rep ρ L I w N ((cells a).getD j .bad) (v.cells.toList.getD j default) := by
  have one : ∀ a v, Rep ρ L I w N a v → v.oneCell' = true → cells a = [a] → v.cells.toList.length = (cells a).length ∧ (∀ u ∈ v.cells.toList, u.oneCell' = true) ∧ ∀ j, j < (cells a).length → Rep ρ L I w N ((cells a).getD j .bad) (v.cells.toList.getD j default) := by
    intro a v hr h1 hc
    rw [oneCell_cells h1, hc]
    refine ⟨rfl, by simpa using h1, fun j hj => ?_⟩
    have : j = 0 := by simp at hj; omega
    subst this
    simpa using hr
  have h' := h
  cases h with
  | agg cs vs hl h1 hr => exact ⟨by simpa [Value.cells, cells] using hl, by simpa [Value.cells] using h1, by simpa [Value.cells, cells] using hr⟩
  | bad => simp [solid] at hs
  | tup => simp [solid] at hs
  | loc n len i off _ hn h1 h => exact one _ _ h' h1 rfl
  | osl n len _ hn h1 h => exact one _ _ h' h1 rfl
  | vsl n len i off cnt _ hn h1 h => exact one _ _ h' h1 rfl
  | _ => exact one _ _ h' rfl rfl

theorem run_typeInfo' {P : Program} {w : World} {t : TypeId} {i : TypeInfo} (h : P.info? t = some i) : (typeInfo t).run P w = .ok i w := by simp [typeInfo, h]
theorem run_sizeOf' {P : Program} {w : World} {t : TypeId} {i : TypeInfo} (h : P.info? t = some i) : (sizeOf t).run P w = .ok i.size w := by simp [sizeOf, run_typeInfo' h]
theorem run_zeroValue' {P : Program} {w : World} {t : TypeId} {i : TypeInfo} {z : Value} (h : P.info? t = some i) (hz : i.zero = some z) : (zeroValue t).run P w = .ok z w := by simp [zeroValue, run_typeInfo' h, hz]

theorem run_isAgg' {P : Program} {w : World} {t : TypeId} {D : TypeDesc} {d : TD} (h : P.underlying t = some D) (hf : d.fits D) : (isAgg t).run P w = .ok d.ag w := by
  unfold isAgg
  simp only [Sem.run_bind, run_underlying h, Result.andThen_ok]
  cases d <;> cases D <;> simp_all [TD.fits, TD.ag]

end Go.AM

/- The abstract machine 'AM', part 5: each operation does what 'aop' says. -/

namespace Go.AM
open Go.RowKit
variable {P : Program} {T : TT} {X : Ctx} {o : Oper} {F : Frm} {M : MemF}

theorem does_value {av : AV} (h : ∀ M' N ρ I (a : Act) w, Wok X ρ I M' N w → (∀ s ∈ uses o.op, Rep ρ (lens M') I w N (look F s) (a.tmps.getD s undef)) → (∀ s ∈ uses o.op, ∀ n ∈ (look F s).names, M' n = M n) →
    ∃ v, (execOp a.eval o).run P w = .ok (.value v) w ∧ Rep ρ (lens M') I w N av v) : Does P X o F M av [] [] := by
  refine ⟨fun p hp => by simp at hp, fun M' N ρ I a w hW hU hN _ => ?_⟩
  obtain ⟨v, hv, hr⟩ := h M' N ρ I a w hW hU hN
  unfold Yield
  rw [hv]
  exact Post.value hW hr

theorem does_valueL {av : AV} (h : ∀ M' N ρ I (a : Act) w, Wok X ρ I M' N w → (∀ s ∈ uses o.op, Rep ρ (lens M') I w N (look F s) (a.tmps.getD s undef)) → (∀ s ∈ uses o.op, ∀ n ∈ (look F s).names, lens M' n = lens M n) →
    ∃ v, (execOp a.eval o).run P w = .ok (.value v) w ∧ Rep ρ (lens M') I w N av v) : DoesL P X o F M av := by
  refine fun M' N ρ I a w hW hU hN => ?_
  obtain ⟨v, hv, hr⟩ := h M' N ρ I a w hW hU hN
  unfold Yield
  rw [hv]
  exact Post.value hW hr

theorem does_move {x : Operand} (ho : o.op = .move x ∨ o.op = .assign x) : Does P X o F M (ev F x) [] [] := by
  refine does_value fun M' N ρ I a w hW hU hN => ⟨a.eval x, ?_, rep_op hU x ?_⟩
  · rcases ho with ho | ho <;> simp [execOp, ho]
  · rcases ho with ho | ho <;> simp [ho, Op.operands]

theorem does_pick {c x y : Operand} {t : Bool} (ho : o.op = .pick c x y) (hc : ev F c = .bool t) : Does P X o F M (ev F (if t then x else y)) [] [] := by
  refine does_value fun M' N ρ I a w hW hU hN => ⟨a.eval (if t then x else y), ?_, rep_op hU _ ?_⟩
  · have hr := rep_op hU c (by simp [ho, Op.operands])
    rw [hc] at hr
    generalize hcv : a.eval c = cv at hr
    cases hr
    cases t <;> simp [execOp, ho, hcv, asBool]
  · cases t <;> simp [ho, Op.operands]

theorem alive_hereL {M' : MemF} {n : Nat} {b : Blk} (hm : M n = some b) (h : lens M' n = lens M n) : lens M' n = some (b.es.length, b.sz) := by
  rw [h, lens_some]; exact ⟨b, hm, rfl, rfl⟩
/-- A local block that an operand names is alive in the state at hand. -/
theorem alive_here {M' : MemF} {n : Nat} {b : Blk} (hm : M n = some b) (h : M' n = M n) : lens M' n = some (b.es.length, b.sz) := by
  rw [lens_some]; exact ⟨b, h.trans hm, rfl, rfl⟩

theorem rep_loc {ρ : Place} {L : Lens} {I : Nat → Prop} {w : World} {N : Nat → Prop} {n len i off sz : Nat} {v : Value} (h : Rep ρ L I w N (.loc n len i off) v) (hl : L n = some (len, sz)) :
    N n ∧ ∃ g cap, ρ n = some (g, cap) ∧ v = .pointer (some ⟨g, i * sz + off, none⟩) := by
  cases h with
  | loc _ _ _ _ _ hn h1 h => exact ⟨hn, (h len sz hl).2 rfl⟩

theorem rep_loc_mk {ρ : Place} {L : Lens} {I : Nat → Prop} {w : World} {N : Nat → Prop} {n len i off sz g cap : Nat} (hn : N n) (hl : L n = some (len, sz)) (hρ : ρ n = some (g, cap)) :
    Rep ρ L I w N (.loc n len i off) (.pointer (some ⟨g, i * sz + off, none⟩)) :=
  .loc n len i off _ hn rfl fun l sz' h => by
    rw [hl] at h
    simp only [Option.some.injEq, Prod.mk.injEq] at h
    obtain ⟨rfl, rfl⟩ := h
    exact ⟨Nat.le_refl _, fun _ => ⟨g, cap, hρ, rfl⟩⟩

theorem addr_add (g o n : Nat) : (⟨g, o, none⟩ : Addr).add n = ⟨g, o + n, none⟩ := by
  unfold Addr.add; split <;> simp_all

theorem does_fieldL {s f : Nat} {x : Operand} {av : AV} {fs : List (Nat × Nat)} {off ft : Nat} (hT : TTok P T) (ho : o.op = .fieldAddr s x f) (hs : T.d s = .struct fs) (hf : fs[f]? = some (off, ft)) (hz : (T.s ft == 0) = false) (hft : T.d ft ≠ .other)
    (h : (∃ n len i o' b, ev F x = .loc n len i o' ∧ M n = some b ∧ b.es.length = len ∧ av = .loc n len i (o' + off)) ∨ (∃ e o', ev F x = .iptr e o' ∧ av = .iptr e (o' + off))) : DoesL P X o F M av := by
  refine does_valueL fun M' N ρ I a w hW hU hN => ?_
  have hx : x ∈ o.op.operands.toList := by simp [ho, Op.operands]
  have hr := rep_op hU x hx
  obtain ⟨D, i, z, hD, hfit, hi, hsz, _, _⟩ := hT s (by rw [hs]; simp)
  rw [hs] at hfit
  cases D <;> simp only [TD.fits] at hfit
  rename_i gs
  obtain ⟨_, it, _, _, _, hit, hits, _, _⟩ := hT ft hft
  have hg : ∃ fld, gs[f]? = some fld ∧ fld.offset = off ∧ fld.type = ft := by
    rw [hfit, List.getElem?_map] at hf
    cases hgf : gs.toList[f]? with
    | none => simp [hgf] at hf
    | some fld =>
      simp only [hgf, Option.map_some, Option.some.injEq, Prod.mk.injEq] at hf
      exact ⟨fld, by simpa using hgf, hf.1, hf.2⟩
  obtain ⟨fld, hfld, rfl, rfl⟩ := hg
  have hne : it.size ≠ 0 := by rw [hits]; simpa using hz
  have run : ∀ g q, a.eval x = .pointer (some ⟨g, q, none⟩) → (execOp a.eval o).run P w = .ok (.value (.pointer (some ⟨g, q + fld.offset, none⟩))) w := by
    intro g q hq
    simp only [execOp, ho, Instr.fieldAt, Sem.run_bind, run_underlying hD, Result.andThen_ok, hfld, hq, Instr.sureAddr, Sem.run_pure, fieldPlace, run_sizeOf' hit, if_neg hne, addr_add]
  rcases h with ⟨n, len, i', o', b, he, hb, hl, rfl⟩ | ⟨e, o', he, rfl⟩
  · rw [he] at hr
    obtain ⟨sl, hsl, hns⟩ := names_op (F := F) x hx (n := n) (by rw [he]; simp [AV.names])
    have hal := alive_hereL hb (hN sl hsl n hns)
    rw [hl] at hal
    obtain ⟨hn, g, cap, hρ, hv⟩ := rep_loc hr hal
    refine ⟨_, run g _ hv, ?_⟩
    rw [Nat.add_assoc]
    exact rep_loc_mk hn hal hρ
  · rw [he] at hr
    generalize hev : a.eval x = v at hr
    cases hr with
    | iptr _ _ b' o'' c hI h1 hcell hr =>
      refine ⟨_, run b' _ hev, ?_⟩
      rw [Nat.add_assoc]
      exact .iptr e _ b' o'' c hI h1 hcell hr


theorem does_field {s f : Nat} {x : Operand} {av : AV} {fs : List (Nat × Nat)} {off ft : Nat} (hT : TTok P T) (ho : o.op = .fieldAddr s x f) (hs : T.d s = .struct fs) (hf : fs[f]? = some (off, ft)) (hz : (T.s ft == 0) = false) (hft : T.d ft ≠ .other)
    (h : (∃ n len i o' b, ev F x = .loc n len i o' ∧ M n = some b ∧ b.es.length = len ∧ av = .loc n len i (o' + off)) ∨ (∃ e o', ev F x = .iptr e o' ∧ av = .iptr e (o' + off))) : Does P X o F M av [] [] := (does_fieldL hT ho hs hf hz hft h).does

theorem run_indexAt_slice {t e : TypeId} {it : TypeInfo} {w : World} (hD : P.underlying t = some (.slice e)) (hi : P.info? e = some it) (g q len cap : Nat) (k : IntKind) (i : Int) (h : 0 ≤ i ∧ i < (len : Int)) :
    (Instr.indexAt t (.slice (some ⟨g, q, none⟩) len cap) (.int k i)).run P w = .ok (.pointer (some ⟨g, q + i.toNat * it.size, none⟩)) w := by
  simp only [Instr.indexAt, asIntOf, Sem.run_bind, Sem.run_pure, Result.andThen_ok, run_underlying hD, if_pos h, run_sizeOf' hi, addr_add]

theorem run_indexAt_arr {t e n : Nat} {it : TypeInfo} {w : World} (hD : P.underlying t = some (.array n e)) (hi : P.info? e = some it) (g q : Nat) (k : IntKind) (i : Int) (h : 0 ≤ i ∧ i < (n : Int)) :
    (Instr.indexAt t (.pointer (some ⟨g, q, none⟩)) (.int k i)).run P w = .ok (.pointer (some ⟨g, q + i.toNat * it.size, none⟩)) w := by
  simp only [Instr.indexAt, asIntOf, Sem.run_bind, Sem.run_pure, Result.andThen_ok, run_underlying hD, if_pos h, run_sizeOf' hi, addr_add, Instr.sureAddr]

theorem fits_slice {d : TD} {D : TypeDesc} {e : Nat} (hd : d = .slice e) (h : d.fits D) : D = .slice e := by
  subst hd; cases D <;> simp_all [TD.fits]
theorem fits_arr {d : TD} {D : TypeDesc} {n e : Nat} (hd : d = .arr n e) (h : d.fits D) : D = .array n e := by
  subst hd; cases D <;> simp_all [TD.fits]
theorem fits_struct {d : TD} {D : TypeDesc} {fs : List (Nat × Nat)} (hd : d = .struct fs) (h : d.fits D) : ∃ gs, D = .struct gs ∧ fs = gs.toList.map fun f => (f.offset, f.type) := by
  subst hd; cases D <;> simp_all [TD.fits]
theorem fits_int {d : TD} {D : TypeDesc} {k : IntKind} (hd : d = .int k) (h : d.fits D) : D = .int k := by
  subst hd; cases D <;> simp_all [TD.fits]
theorem fits_str {d : TD} {D : TypeDesc} (hd : d = .str) (h : d.fits D) : D = .string := by
  subst hd; cases D <;> simp_all [TD.fits]

theorem TD.ok_ne {d : TD} (h : d.ok = true) : d ≠ .other := by rintro rfl; simp [TD.ok] at h

theorem info_of {hT : TTok P T} {t : Nat} (h : (T.d t).ok = true) : ∃ D i z, P.underlying t = some D ∧ (T.d t).fits D ∧ P.info? t = some i ∧ i.size = T.s t ∧ i.bytes ≤ 131072 ∧ i.zero = some z ∧ T.z t = ofV z := hT t (TD.ok_ne h)

theorem rep_int {ρ : Place} {L : Lens} {I : Nat → Prop} {w : World} {N : Nat → Prop} {k : IntKind} {n : Int} {v : Value} (h : Rep ρ L I w N (.int k n) v) : v = .int k n := by cases h; rfl
theorem rep_bool {ρ : Place} {L : Lens} {I : Nat → Prop} {w : World} {N : Nat → Prop} {b : Bool} {v : Value} (h : Rep ρ L I w N (.bool b) v) : v = .bool b := by cases h; rfl
theorem rep_str {ρ : Place} {L : Lens} {I : Nat → Prop} {w : World} {N : Nat → Prop} {s : List UInt8} {v : Value} (h : Rep ρ L I w N (.str s) v) : v = .string ⟨s.toArray⟩ := by cases h; rfl

theorem rep_osl {ρ : Place} {L : Lens} {I : Nat → Prop} {w : World} {N : Nat → Prop} {n len sz : Nat} {v : Value} (h : Rep ρ L I w N (.osl n len) v) (hl : L n = some (len, sz)) :
    N n ∧ ((ρ n = none ∧ ∃ q, v = .slice q 0 0) ∨ ∃ g cap, ρ n = some (g, cap) ∧ v = .slice (some ⟨g, 0, none⟩) len cap) := by
  cases h with
  | osl _ _ _ hn h1 h => exact ⟨hn, (h len sz hl).2 rfl⟩

theorem rep_osl_mk {ρ : Place} {L : Lens} {I : Nat → Prop} {w : World} {N : Nat → Prop} {n len sz g cap : Nat} (hn : N n) (hl : L n = some (len, sz)) (hρ : ρ n = some (g, cap)) :
    Rep ρ L I w N (.osl n len) (.slice (some ⟨g, 0, none⟩) len cap) :=
  .osl n len _ hn rfl fun l sz' h => by
    rw [hl] at h
    simp only [Option.some.injEq, Prod.mk.injEq] at h
    obtain ⟨rfl, rfl⟩ := h
    exact ⟨Nat.le_refl _, fun _ => .inr ⟨g, cap, hρ, rfl⟩⟩

theorem rep_vsl {ρ : Place} {L : Lens} {I : Nat → Prop} {w : World} {N : Nat → Prop} {n len i off cnt sz : Nat} {v : Value} (h : Rep ρ L I w N (.vsl n len i off cnt) v) (hl : L n = some (len, sz)) :
    N n ∧ ∃ g cap c, ρ n = some (g, cap) ∧ v = .slice (some ⟨g, i * sz + off, none⟩) cnt c ∧ cnt ≤ c ∧ c ≤ maxLen := by
  cases h with
  | vsl _ _ _ _ _ _ hn h1 h => exact ⟨hn, (h len sz hl).2 rfl⟩

theorem does_indexL (hT : TTok P T) {t : Nat} {x ix : Operand} {K : AV → Prop} {Ml : Mem} (hM : M = mget Ml) (hok : ∀ e, T.d t = .slice e → (T.d e).ok = true) (hok' : ∀ m e, T.d t = .arr m e → (T.d e).ok = true)
    (ho : o.op = .indexAddr t x ix) (h : aidx T t (ev F x) (ev F ix) Ml K) : ∃ av, DoesL P X o F M av ∧ K av := by
  have hx : x ∈ o.op.operands.toList := by simp [ho, Op.operands]
  have hix : ix ∈ o.op.operands.toList := by simp [ho, Op.operands]
  have nm : ∀ n, n ∈ (ev F x).names → ∀ (M' : MemF), (∀ s ∈ uses o.op, ∀ n ∈ (look F s).names, lens M' n = lens M n) → lens M' n = lens M n := by
    intro n hn M' hN
    obtain ⟨sl, hsl, hns⟩ := names_op (F := F) x hx hn
    exact hN sl hsl n hns
  cases hvx : ev F ix with
  | int k i =>
    rw [hvx] at h
    simp only [aidx] at h
    cases ht : T.d t with
    | slice e =>
      rw [ht] at h
      obtain ⟨D, it0, z0, hD, hf, _⟩ := hT t (by rw [ht]; simp)
      have hD' := fits_slice ht hf
      subst hD'
      obtain ⟨_, it, _, _, _, hit, hits, _⟩ := hT e (TD.ok_ne (hok e ht))
      cases hxx : ev F x with
      | isl sz es =>
        rw [hxx] at h
        simp only at h
        obtain ⟨hc, hr, hk⟩ := chk_elim h
        refine ⟨_, does_valueL fun M' N ρ I a w hW hU hN => ?_, hk⟩
        have r1 := rep_op hU x hx
        have r2 := rep_int (hvx ▸ rep_op hU ix hix)
        rw [hxx] at r1
        generalize hv : a.eval x = v at r1
        cases r1 with
        | islNil => simp at hr; omega
        | isl _ _ b q cap c hl hcm hI hs h1 hcell hrr =>
          have hi : i.toNat < es.length := by omega
          refine ⟨_, by simp only [execOp, ho, r2, hv, Sem.run_bind, run_indexAt_slice hD hit _ _ _ _ _ _ hr, Result.andThen_ok, Sem.run_pure]; rfl, ?_⟩
          have hsz : sz = it.size := by rw [hits]; simpa using hc
          have hel : (es.getD i.toNat []).length = sz := by
            rw [List.getD_eq_getElem?_getD, List.getElem?_eq_getElem hi, Option.getD_some]
            exact hs _ (List.getElem_mem _)
          have := Rep.iptr (ρ := ρ) (L := lens M') (I := I) (w := w) (N := N) (es.getD i.toNat []) 0 b (q + i.toNat * sz) (c i.toNat) hI (fun j hj => h1 _ _ hi (by omega)) (fun j hj => hcell _ _ hi (by omega)) (fun j hj => hrr _ _ hi (by omega))
          rw [← hsz]
          exact this
      | osl n len =>
        rw [hxx] at h
        simp only [alive] at h
        cases hb : mget Ml n with
        | none => rw [hb] at h; exact h.elim
        | some b =>
          rw [hb] at h
          obtain ⟨hc1, h⟩ := chk_elim h
          obtain ⟨hc2, hr, hk⟩ := chk_elim h
          have hl : b.es.length = len := by simpa using hc1
          have hsz : b.sz = it.size := by rw [hits]; simpa using hc2
          refine ⟨_, does_valueL fun M' N ρ I a w hW hU hN => ?_, hk⟩
          have r1 := rep_op hU x hx
          have r2 := rep_int (hvx ▸ rep_op hU ix hix)
          rw [hxx] at r1
          have hal := alive_hereL (M' := M') (n := n) (b := b) (M := M) (by rw [hM]; exact hb) (nm n (by rw [hxx]; simp [AV.names]) M' hN)
          rw [hl] at hal
          obtain ⟨hn, h2⟩ := rep_osl r1 hal
          rcases h2 with ⟨h0, hv⟩ | ⟨g, cap, hρ, hv⟩
          · obtain ⟨b', hb', hl', _⟩ := lens_some.1 hal
            have := (hW.blk n b' hb').virt h0
            rw [this] at hl'
            simp at hl'
            omega
          · refine ⟨_, by simp only [execOp, ho, r2, hv, Sem.run_bind, run_indexAt_slice hD hit _ _ _ _ _ _ hr, Result.andThen_ok, Sem.run_pure]; rfl, ?_⟩
            have := rep_loc_mk (I := I) (w := w) (i := i.toNat) (off := 0) hn hal hρ
            rw [← hsz, Nat.zero_add]
            simpa using this
      | vsl n len j off cnt =>
        rw [hxx] at h
        simp only [alive] at h
        cases hb : mget Ml n with
        | none => rw [hb] at h; exact h.elim
        | some b =>
          rw [hb] at h
          obtain ⟨hc1, hr, hk⟩ := chk_elim h
          have hl : b.es.length = len := by simpa using hc1
          refine ⟨_, does_valueL fun M' N ρ I a w hW hU hN => ?_, hk⟩
          have r1 := rep_op hU x hx
          have r2 := rep_int (hvx ▸ rep_op hU ix hix)
          rw [hxx] at r1
          have hal := alive_hereL (M' := M') (n := n) (b := b) (M := M) (by rw [hM]; exact hb) (nm n (by rw [hxx]; simp [AV.names]) M' hN)
          rw [hl] at hal
          obtain ⟨hn, g, cap, c, hρ, hv, _⟩ := rep_vsl r1 hal
          refine ⟨_, by simp only [execOp, ho, r2, hv, Sem.run_bind, run_indexAt_slice hD hit _ _ _ _ _ _ hr, Result.andThen_ok, Sem.run_pure]; rfl, ?_⟩
          rw [Nat.add_assoc, hits]
          exact rep_loc_mk hn hal hρ
      | _ => rw [hxx] at h; exact h.elim
    | arr m e =>
      rw [ht] at h
      obtain ⟨D, it0, z0, hD, hf, _⟩ := hT t (by rw [ht]; simp)
      have hD' := fits_arr ht hf
      subst hD'
      obtain ⟨_, it, _, _, _, hit, hits, _⟩ := hT e (TD.ok_ne (hok' m e ht))
      cases hxx : ev F x with
      | loc n len j off =>
        rw [hxx] at h
        simp only [alive] at h
        cases hb : mget Ml n with
        | none => rw [hb] at h; exact h.elim
        | some b =>
          rw [hb] at h
          obtain ⟨hc1, hr, hk⟩ := chk_elim h
          have hl : b.es.length = len := by simpa using hc1
          refine ⟨_, does_valueL fun M' N ρ I a w hW hU hN => ?_, hk⟩
          have r1 := rep_op hU x hx
          have r2 := rep_int (hvx ▸ rep_op hU ix hix)
          rw [hxx] at r1
          have hal := alive_hereL (M' := M') (n := n) (b := b) (M := M) (by rw [hM]; exact hb) (nm n (by rw [hxx]; simp [AV.names]) M' hN)
          rw [hl] at hal
          obtain ⟨hn, g, cap, hρ, hv⟩ := rep_loc r1 hal
          refine ⟨_, by simp only [execOp, ho, r2, hv, Sem.run_bind, run_indexAt_arr hD hit _ _ _ _ hr, Result.andThen_ok, Sem.run_pure]; rfl, ?_⟩
          rw [Nat.add_assoc, hits]
          exact rep_loc_mk hn hal hρ
      | iptr c off =>
        rw [hxx] at h
        obtain ⟨hr, hk⟩ := h
        refine ⟨_, does_valueL fun M' N ρ I a w hW hU hN => ?_, hk⟩
        have r1 := rep_op hU x hx
        have r2 := rep_int (hvx ▸ rep_op hU ix hix)
        rw [hxx] at r1
        generalize hv : a.eval x = v at r1
        cases r1 with
        | iptr _ _ b q cc hI h1 hcell hrr =>
          refine ⟨_, by simp only [execOp, ho, r2, hv, Sem.run_bind, run_indexAt_arr hD hit _ _ _ _ hr, Result.andThen_ok, Sem.run_pure]; rfl, ?_⟩
          rw [Nat.add_assoc, hits]
          exact .iptr c _ b q cc hI h1 hcell hrr
      | _ => rw [hxx] at h; exact h.elim
    | _ => rw [ht] at h; exact h.elim
  | _ => rw [hvx] at h; exact h.elim

theorem does_index (hT : TTok P T) {t : Nat} {x ix : Operand} {K : AV → Prop} {Ml : Mem} (hM : M = mget Ml) (hok : ∀ e, T.d t = .slice e → (T.d e).ok = true) (hok' : ∀ m e, T.d t = .arr m e → (T.d e).ok = true)
    (ho : o.op = .indexAddr t x ix) (h : aidx T t (ev F x) (ev F ix) Ml K) : ∃ av, Does P X o F M av [] [] ∧ K av := by
  obtain ⟨av, h1, h2⟩ := does_indexL hT hM hok hok' ho h
  exact ⟨av, h1.does, h2⟩

end Go.AM

/- The abstract machine 'AM', part 6: loads, stores, new blocks. -/

namespace Go.AM
open Go.RowKit
variable {P : Program} {T : TT} {X : Ctx} {o : Oper} {F : Frm} {M : MemF}

/-- A row of cells written at one go. -/
theorem heap_setCells (g : Nat) (t : TypeId) (fr : Nat × Nat) : ∀ (vs : List Value) (q : Nat) (w : World) (cs : Array Value), w.heap[g]? = some (.cells cs t fr) → q + vs.length ≤ cs.size →
    ∃ cs', (w.setCells g q vs).heap[g]? = some (.cells cs' t fr) ∧ cs'.size = cs.size ∧ ∀ k, cs'[k]? = if q ≤ k ∧ k < q + vs.length then vs[k - q]? else cs[k]?
  | [], q, w, cs, hg, _ => ⟨cs, hg, rfl, fun k => by rw [if_neg (fun h => by have := h.1; have := h.2; simp at this; omega)]⟩
  | v :: r, q, w, cs, hg, hq => by
    have hg1 : (w.setCell ⟨g, q, none⟩ v).heap[g]? = some (.cells (cs.setIfInBounds q v) t fr) := by
      simp [World.setCell, Array.getElem?_modify, hg]
    obtain ⟨cs', h1, h2, h3⟩ := heap_setCells g t fr r (q + 1) (w.setCell ⟨g, q, none⟩ v) (cs.setIfInBounds q v) hg1 (by simp at hq ⊢; omega)
    refine ⟨cs', h1, by simpa using h2, fun k => ?_⟩
    rw [h3 k]
    simp only [List.length_cons] at hq ⊢
    by_cases hk : k = q
    · subst hk
      rw [if_neg (by omega), if_pos (by omega)]
      simp [Array.getElem?_setIfInBounds]; omega
    · by_cases hk2 : q + 1 ≤ k ∧ k < q + 1 + r.length
      · rw [if_pos hk2, if_pos (by omega)]
        have : k - q = (k - (q + 1)) + 1 := by omega
        rw [this]; simp
      · rw [if_neg hk2, if_neg (by omega)]
        simp [Array.getElem?_setIfInBounds]
        intro e; omega

theorem heap_setCells_ne (g : Nat) : ∀ (vs : List Value) (q : Nat) (w : World) (k : Nat), k ≠ g → (w.setCells g q vs).heap[k]? = w.heap[k]?
  | [], _, _, _, _ => rfl
  | v :: r, q, w, k, hk => by
    have := heap_setCells_ne g r (q + 1) (w.setCell ⟨g, q, none⟩ v) k hk
    refine this.trans ?_
    exact Below.heap_setCell w _ v k hk

theorem size_setCells (g : Nat) : ∀ (vs : List Value) (q : Nat) (w : World), (w.setCells g q vs).heap.size = w.heap.size
  | [], _, _ => rfl
  | v :: r, q, w => by
    have := size_setCells g r (q + 1) (w.setCell ⟨g, q, none⟩ v)
    exact this.trans (by simp)
theorem tape_setCells (g : Nat) : ∀ (vs : List Value) (q : Nat) (w : World), (w.setCells g q vs).tape = w.tape
  | [], _, _ => rfl
  | v :: r, q, w => tape_setCells g r (q + 1) (w.setCell ⟨g, q, none⟩ v)
theorem os_setCells (g : Nat) : ∀ (vs : List Value) (q : Nat) (w : World), (w.setCells g q vs).os = w.os
  | [], _, _ => rfl
  | v :: r, q, w => os_setCells g r (q + 1) (w.setCell ⟨g, q, none⟩ v)
theorem out_setCells (g : Nat) : ∀ (vs : List Value) (q : Nat) (w : World), (w.setCells g q vs).output = w.output
  | [], _, _ => rfl
  | v :: r, q, w => out_setCells g r (q + 1) (w.setCell ⟨g, q, none⟩ v)

theorem getD_take_drop {α : Type} (l : List α) (off n j : Nat) (d : α) (h : j < n) : ((l.drop off).take n).getD j d = l.getD (off + j) d := by
  simp [List.getD_eq_getElem?_getD, List.getElem?_take, h]

/-- A part of a row in memory is loaded. -/
theorem run_loadVar_part {t : Nat} (hT : TTok P T) (hok : (T.d t).ok = true) {ρ : Place} {L : Lens} {I : Nat → Prop} {w : World} {N : Nat → Prop} {g q off : Nat} {cs : List AV} {K : AV → Prop} (f : Nat → Value)
    (hc : ∀ j, j < cs.length → w.cell? ⟨g, q + j, none⟩ = some (f j) ∧ (f j).oneCell' = true ∧ Rep ρ L I w N (cs.getD j .bad) (f j))
    {av : AV} (hlen : ((cs.drop off).take (T.s t)).length = T.s t) (hav : av = if (T.d t).ag then .agg ((cs.drop off).take (T.s t)) else ((cs.drop off).take (T.s t)).headD .bad) (h1 : (T.d t).ag = false → T.s t = 1) :
    ∃ v, (loadVar t ⟨g, q + off, none⟩).run P w = .ok v w ∧ Rep ρ L I w N av v := by
  obtain ⟨D, it, z, hD, hf, hi, hs, _⟩ := hT t (TD.ok_ne hok)
  have hle : off + T.s t ≤ cs.length ∨ T.s t = 0 := by
    simp only [List.length_take, List.length_drop] at hlen
    omega
  unfold loadVar
  simp only [Sem.run_bind, run_isAgg' hD hf, Result.andThen_ok]
  cases hag : (T.d t).ag with
  | true =>
    simp only [if_pos, run_sizeOf' hi, Result.andThen_ok, Sem.run_bind]
    rw [hs]
    have hcell : ∀ j, j < T.s t → w.cell? ((⟨g, q + off, none⟩ : Addr).add j) = some (f (off + j)) := fun j hj => by
      rw [addr_add, Nat.add_assoc]
      exact (hc (off + j) (by omega)).1
    rw [run_loadCells w _ (T.s t) (fun j => f (off + j)) hcell]
    refine ⟨_, rfl, ?_⟩
    rw [hav, hag, if_pos rfl]
    refine .agg _ ((List.range (T.s t)).map fun j => f (off + j)) (by simp; simp at hlen; omega) (fun u hu => ?_) (fun j hj => ?_)
    · obtain ⟨j, hj, rfl⟩ := List.mem_map.1 hu
      exact (hc (off + j) (by simp at hj; omega)).2.1
    · rw [hlen] at hj
      rw [getD_take_drop _ _ _ _ _ hj]
      have : ((List.range (T.s t)).map fun j => f (off + j)).getD j default = f (off + j) := by simp [List.getD_eq_getElem?_getD, hj]
      rw [this]
      exact (hc (off + j) (by omega)).2.2
  | false =>
    have h1' := h1 hag
    have h2 := (hc off (by omega))
    simp only [Bool.false_eq_true, if_false, run_load, h2.1]
    refine ⟨_, rfl, ?_⟩
    rw [hav, hag, h1']
    have : ((cs.drop off).take 1).headD .bad = cs.getD off .bad := by
      have hlt : off < cs.length := by omega
      rw [List.drop_eq_getElem_cons hlt, List.take_succ_cons]
      simp [List.getD_eq_getElem?_getD, hlt]
    simp only [Bool.false_eq_true, if_false, this]
    exact h2.2.2

theorem apart_elim {ag : Bool} {n off : Nat} {cs : List AV} {K : AV → Prop} (h : apart ag n off cs K) :
    ∃ av, ((cs.drop off).take n).length = n ∧ (av = if ag then .agg ((cs.drop off).take n) else ((cs.drop off).take n).headD .bad) ∧ (ag = false → n = 1) ∧ K av := by
  unfold apart at h
  obtain ⟨h1, h2⟩ := chk_elim h
  cases ag with
  | true => exact ⟨_, by simpa using h1, rfl, by simp, h2⟩
  | false =>
    obtain ⟨h3, h4⟩ := chk_elim h2
    exact ⟨_, by simpa using h1, rfl, fun _ => by simpa using h3, h4⟩

/-- The cells of an element of a local block. -/
theorem BlkOk.row {C : Ctx} {ρ : Place} {L : Lens} {I : Nat → Prop} {w : World} {N : Nat → Prop} {n : Nat} {b : Blk} (B : BlkOk C ρ L I w N n b) {g cap : Nat} (hρ : ρ n = some (g, cap)) (i : Nat) :
    ∃ f : Nat → Value, ∀ j, j < (b.es.getD i []).length → w.cell? ⟨g, i * b.sz + j, none⟩ = some (f j) ∧ (f j).oneCell' = true ∧ Rep ρ L I w N ((b.es.getD i []).getD j .bad) (f j) := by
  obtain ⟨cs, fr, hg, _, _, _, _, _, _, hc⟩ := B.real g cap hρ
  refine ⟨fun j => (cs[i * b.sz + j]?).getD undef, fun j hj => ?_⟩
  have hi : i < b.es.length := by
    rcases Nat.lt_or_ge i b.es.length with h | h
    · exact h
    · rw [List.getD_eq_getElem?_getD, List.getElem?_eq_none h] at hj; simp at hj
  have hsz : (b.es.getD i []).length = b.sz := by
    rw [List.getD_eq_getElem?_getD, List.getElem?_eq_getElem hi, Option.getD_some]
    exact B.even _ (List.getElem_mem _)
  obtain ⟨u, hu, h1, hr⟩ := hc i j hi (by omega)
  have e : (cs[i * b.sz + j]?).getD undef = u := by rw [hu]; rfl
  refine ⟨?_, ?_, ?_⟩
  · rw [cell_of_row' w g _ cs b.ty fr hg]; show _ = some ((cs[i * b.sz + j]?).getD undef); rw [e, hu]
  · show ((cs[i * b.sz + j]?).getD undef).oneCell' = true; rw [e]; exact h1
  · show Rep _ _ _ _ _ _ ((cs[i * b.sz + j]?).getD undef); rw [e]; exact hr
where cell_of_row' (w : World) (g j : Nat) (cs : Array Value) (t : TypeId) (fr : Nat × Nat) (hg : w.heap[g]? = some (.cells cs t fr)) : w.cell? ⟨g, j, none⟩ = cs[j]? := by simp [World.cell?, hg]

theorem does_load (hT : TTok P T) {t : Nat} {x : Operand} {K : AV → Prop} {Ml : Mem} (hM : M = mget Ml) (hok : (T.d t).ok = true) (ho : o.op = .load t x) (h : aload T t (ev F x) Ml K) : ∃ av, Does P X o F M av [] [] ∧ K av := by
  have hx : x ∈ o.op.operands.toList := by simp [ho, Op.operands]
  cases hxx : ev F x with
  | loc n len i off =>
    rw [hxx] at h
    simp only [aload, alive] at h
    cases hb : mget Ml n with
    | none => rw [hb] at h; exact h.elim
    | some b =>
      rw [hb] at h
      obtain ⟨hc1, h⟩ := chk_elim h
      obtain ⟨av, ha1, ha2, ha3, hk⟩ := apart_elim h
      have hl : b.es.length = len := by simpa using hc1
      refine ⟨av, does_value fun M' N ρ I a w hW hU hN => ?_, hk⟩
      have r1 := rep_op hU x hx
      rw [hxx] at r1
      obtain ⟨sl, hsl, hns⟩ := names_op (F := F) x hx (n := n) (by rw [hxx]; simp [AV.names])
      have hMn : M' n = some b := (hN sl hsl n hns).trans (by rw [hM]; exact hb)
      have hal : lens M' n = some (b.es.length, b.sz) := by rw [lens_some]; exact ⟨b, hMn, rfl, rfl⟩
      rw [hl] at hal
      obtain ⟨hn, g, cap, hρ, hv⟩ := rep_loc r1 hal
      obtain ⟨f, hf⟩ := (hW.blk n b hMn).row hρ i
      obtain ⟨v, hv1, hv2⟩ := run_loadVar_part (K := K) hT hok (off := off) f hf ha1 ha2 ha3
      refine ⟨v, ?_, hv2⟩
      simp only [execOp, ho, Instr.loadAt, hv, Instr.sureAddr, Sem.run_bind, Sem.run_pure, Result.andThen_ok, hv1]
  | iptr e off =>
    rw [hxx] at h
    simp only [aload] at h
    obtain ⟨av, ha1, ha2, ha3, hk⟩ := apart_elim h
    refine ⟨av, does_value fun M' N ρ I a w hW hU hN => ?_, hk⟩
    have r1 := rep_op hU x hx
    rw [hxx] at r1
    generalize hv : a.eval x = v at r1
    cases r1 with
    | iptr _ _ b q c hI h1 hcell hr =>
      obtain ⟨v, hv1, hv2⟩ := run_loadVar_part (K := K) (N := N) hT hok (off := off) c (fun j hj => ⟨hcell j hj, h1 j hj, (hr j hj).wide (fun _ h => h.elim)⟩) ha1 ha2 ha3
      refine ⟨v, ?_, hv2⟩
      simp only [execOp, ho, Instr.loadAt, hv, Instr.sureAddr, Sem.run_bind, Sem.run_pure, Result.andThen_ok, hv1]
  | _ => rw [hxx] at h; exact h.elim

end Go.AM

/- The abstract machine 'AM', part 7: stores, new blocks. -/

namespace Go.AM
open Go.RowKit
variable {P : Program} {T : TT} {X : Ctx} {o : Oper} {F : Frm} {M : MemF}

theorem naddL_one (N : Nat → Prop) (n : Nat) (b : Blk) : naddL N [(n, b)] = nadd N n := by
  funext m
  simp only [naddL, nadd, List.mem_singleton, Prod.mk.injEq, exists_and_left, eq_iff_iff]
  constructor
  · rintro (h | ⟨h, _⟩)
    · exact .inr h
    · exact .inl h
  · rintro (h | h)
    · exact .inr ⟨h, b, rfl⟩
    · exact .inl h

/-- A new local block at the heap's end. -/
theorem Wok.new {ρ : Place} {I : Nat → Prop} {M : MemF} {N : Nat → Prop} {w : World} (hW : Wok X ρ I M N w) {n : Nat} (hn : ¬ N n) (b : Blk) (cs : Array Value) (cap : Nat)
    (heven : ∀ e ∈ b.es, e.length = b.sz) (hlen : b.es.length ≤ cap) (hcap : cap ≤ maxLen) (hcs : cs.size = cap * b.sz)
    (hrep : ∀ i j, i < b.es.length → j < b.sz → ∃ u, cs[i * b.sz + j]? = some u ∧ u.oneCell' = true ∧ Rep ρ (lens M) I w N ((b.es.getD i []).getD j .bad) u) :
    ∃ ρ1, Evo N ρ (lens M) I w ρ1 (lens (mups M [(n, b)])) I (w.alloc (.cells cs b.ty)) ∧ Wok X ρ1 I (mups M [(n, b)]) (naddL N [(n, b)]) (w.alloc (.cells cs b.ty)) ∧ ρ1 n = some (w.heap.size, cap) ∧ lens (mups M [(n, b)]) n = some (b.es.length, b.sz) := by
  have hd : ∀ b0, M n = some b0 → False := fun b0 h0 => hn (hW.blk n b0 h0).lt
  obtain ⟨E, W⟩ := hW.put (w' := w.alloc (.cells cs b.ty)) n b w.heap.size cap cs (0, 0) rfl rfl rfl (by simp) (fun k hk _ => Below.heap_alloc w _ k hk) (heap_alloc_new w _) (fun o _ h => by omega)
    (.inl (Nat.le_refl _)) (fun b0 h0 => (hd b0 h0).elim) (fun h => (hn h).elim) heven hlen hcap hcs hrep
  refine ⟨pset ρ n (w.heap.size, cap), E, by rw [naddL_one]; exact W, by simp [pset], ?_⟩
  show lens (mupd M n b) n = _
  rw [lens_mset, if_pos rfl]

/-- The cells of a value, as a row of one element. -/
theorem row_of_value {ρ : Place} {L : Lens} {I : Nat → Prop} {w : World} {N : Nat → Prop} {a : AV} {v : Value} (h : Rep ρ L I w N a v) (hs : solid a = true) :
    v.cells.size = (cells a).length ∧ ∀ i j, i < 1 → j < (cells a).length → ∃ u, v.cells[i * (cells a).length + j]? = some u ∧ u.oneCell' = true ∧ Rep ρ L I w N (([cells a].getD i []).getD j .bad) u := by
  obtain ⟨h1, h2, h3⟩ := cells_rep h hs
  have h1' : v.cells.size = (cells a).length := by simpa using h1
  refine ⟨h1', fun i j hi hj => ?_⟩
  have : i = 0 := by omega
  subst this
  have hj' : j < v.cells.size := by omega
  refine ⟨v.cells[j], by simp [hj'], h2 _ (by simp), ?_⟩
  have := h3 j hj
  simpa [List.getD_eq_getElem?_getD, hj'] using this

theorem does_newvar {n t : Nat} {a : AV} (hs : solid a = true)
    (h : ∀ M' N ρ I (ac : Act) w, Wok X ρ I M' N w → (∀ s ∈ uses o.op, Rep ρ (lens M') I w N (look F s) (ac.tmps.getD s undef)) →
      ∃ v, (execOp ac.eval o).run P w = .ok (.value (.pointer (some ⟨w.heap.size, 0, none⟩))) (w.alloc (.cells v.cells t)) ∧ Rep ρ (lens M') I w N a v) : Does P X o F M (.loc n 1 0 0) [(n, ⟨t, (cells a).length, [cells a]⟩)] [n] := by
  refine ⟨fun p hp => .inl (by simp at hp; simp [hp]), fun M' N ρ I ac w hW hU hN hF => ?_⟩
  obtain ⟨v, hrun, hr⟩ := h M' N ρ I ac w hW hU
  have hn : ¬ N n := hF n (by simp)
  obtain ⟨h1, h2⟩ := row_of_value hr hs
  obtain ⟨ρ1, E, W, hρ, hl⟩ := hW.new hn ⟨t, (cells a).length, [cells a]⟩ v.cells 1 (by simp) (by simp) (by simp [maxLen]) (by simpa using h1) (by simpa using h2)
  unfold Yield
  rw [hrun]
  refine ⟨ρ1, I, E, W, ?_⟩
  have hN' : naddL N [(n, (⟨t, (cells a).length, [cells a]⟩ : Blk))] n := .inr ⟨⟨t, (cells a).length, [cells a]⟩, List.mem_singleton.2 rfl⟩
  have := rep_loc_mk (I := I) (w := w.alloc (.cells v.cells t)) (i := 0) (off := 0) hN' hl hρ
  simp only [Nat.zero_mul, Nat.zero_add, List.length_singleton] at this
  exact this

theorem run_newVar' {t : TypeId} {v : Value} {w : World} : (newVar t v).run P w = .ok ⟨w.heap.size, 0, none⟩ (w.alloc (.cells v.cells t)) := by
  simp [newVar, newRow]

theorem does_box {n t : Nat} {x : Operand} (ho : o.op = .box t x) (hs : solid (ev F x) = true) :
    Does P X o F M (.loc n 1 0 0) [(n, ⟨t, (cells (ev F x)).length, [cells (ev F x)]⟩)] [n] :=
  does_newvar hs (fun M' N ρ I ac w hW hU => ⟨ac.eval x, by simp [execOp, ho, Instr.box, run_newVar'], rep_op hU x (by simp [ho, Op.operands])⟩)

theorem does_alloc (hT : TTok P T) {n t : Nat} (ho : o.op = .alloc t) (hok : (T.d t).ok = true) (hs : solid (T.z t) = true) :
    Does P X o F M (.loc n 1 0 0) [(n, ⟨t, (cells (T.z t)).length, [cells (T.z t)]⟩)] [n] := by
  obtain ⟨D, it, z, hD, hf, hi, hsz, _, hz, hzz⟩ := hT t (TD.ok_ne hok)
  refine does_newvar hs (fun M' N ρ I ac w hW hU => ⟨z, by simp [execOp, ho, Instr.alloc, run_newVar', run_zeroValue' hi hz], ?_⟩)
  rw [hzz]; exact rep_ofV _ _ _ _ _ _

theorem splice_getD (off q : Nat) (vs row : List AV) (h : off + vs.length ≤ row.length) :
    (splice off vs row).getD q .bad = if off ≤ q ∧ q < off + vs.length then vs.getD (q - off) .bad else row.getD q .bad := by
  unfold splice
  simp only [List.getD_eq_getElem?_getD]
  by_cases hqr : off ≤ q ∧ q < off + vs.length
  · rw [if_pos hqr, List.getElem?_append_right (by simp; omega), List.length_take, Nat.min_eq_left (by omega), List.getElem?_append_left (by omega)]
  · rw [if_neg hqr]
    by_cases hlt : q < off
    · rw [List.getElem?_append_left (by simp; omega), List.getElem?_take, if_pos hlt]
    · rw [List.getElem?_append_right (by simp; omega), List.length_take, Nat.min_eq_left (by omega), List.getElem?_append_right (by omega), List.getElem?_drop]
      congr 2; omega

/-- A store into a part of an element of a local block. -/
theorem does_store (hT : TTok P T) {t : Nat} {x y : Operand} {K : Mem → Prop} {Ml : Mem} (hM : M = mget Ml) (hok : (T.d t).ok = true) (ho : o.op = .store t x y) (h : astore T t (ev F x) (ev F y) Ml K) :
    ∃ n b, Does P X o F M (.tup []) [(n, b)] [] ∧ n ∈ (ev F x).names ∧ K (mset Ml n b) ∧ (∃ b0, M n = some b0 ∧ b.es.length = b0.es.length ∧ b.sz = b0.sz) := by
  have hx : x ∈ o.op.operands.toList := by simp [ho, Op.operands]
  have hy : y ∈ o.op.operands.toList := by simp [ho, Op.operands]
  cases hxx : ev F x with
  | loc n len i off =>
    rw [hxx] at h
    simp only [astore, alive] at h
    cases hb : mget Ml n with
    | none => rw [hb] at h; exact h.elim
    | some b =>
      rw [hb] at h
      obtain ⟨hc1, h⟩ := chk_elim h
      obtain ⟨hc2, hk⟩ := chk_elim h
      have hl : b.es.length = len := by simpa using hc1
      simp only [Bool.and_eq_true, beq_iff_eq, Bool.not_eq_true'] at hc2
      obtain ⟨⟨⟨hs, hlen⟩, hz⟩, hfit⟩ := hc2
      obtain ⟨sl, hsl, hns⟩ := names_op (F := F) x hx (n := n) (by rw [hxx]; simp [AV.names])
      refine ⟨n, _, ?_, by simp [AV.names], hk, b, by rw [hM]; exact hb, by simp, rfl⟩
      refine ⟨fun p hp => .inr ⟨sl, hsl, by simp at hp; rw [hp]; exact hns⟩, fun M' N ρ I a w hW hU hN _ => ?_⟩
      have r1 := rep_op hU x hx
      have r2 := rep_op hU y hy
      rw [hxx] at r1
      have hMn : M' n = some b := (hN sl hsl n hns).trans (by rw [hM]; exact hb)
      have hal : lens M' n = some (b.es.length, b.sz) := by rw [lens_some]; exact ⟨b, hMn, rfl, rfl⟩
      rw [hl] at hal
      obtain ⟨hn, g, cap, hρ, hv⟩ := rep_loc r1 hal
      obtain ⟨hcl, hc1', hcr⟩ := cells_rep r2 hs
      have B := hW.blk n b hMn
      obtain ⟨cs, fr, hg, hfr, hnI, hown, hlc, hcm, hcs, hc⟩ := B.real g cap hρ
      obtain ⟨D, it, z, hD, hf, hi, hsz, _⟩ := hT t (TD.ok_ne hok)
      have hpos : 0 < (cells (ev F y)).length := by
        have : T.s t ≠ 0 := by simpa using hz
        omega
      have hi' : i < b.es.length := by
        rcases Nat.lt_or_ge i b.es.length with h | h
        · exact h
        · rw [List.getD_eq_getElem?_getD, List.getElem?_eq_none h] at hfit; simp at hfit; omega
      have hel : (b.es.getD i []).length = b.sz := by
        rw [List.getD_eq_getElem?_getD, List.getElem?_eq_getElem hi', Option.getD_some]
        exact B.even _ (List.getElem_mem _)
      have hoff : off + (cells (ev F y)).length ≤ b.sz := by
        simp only [List.length_take, List.length_drop, hel] at hfit
        omega
      have hin : ∀ j, j < b.sz → i * b.sz + j < cs.size := fun j hj => by
        rw [hcs]
        calc i * b.sz + j < i * b.sz + b.sz := by omega
          _ = (i + 1) * b.sz := by rw [Nat.add_mul, Nat.one_mul]
          _ ≤ cap * b.sz := Nat.mul_le_mul_right _ (by omega)
      have hcellat : ∀ k, w.cell? ⟨g, k, none⟩ = cs[k]? := fun k => by simp [World.cell?, hg]
      have hnf : ∀ k, k < cs.size → w.frozen? ⟨g, k, none⟩ = false := fun k hk => by
        have := hfr k hk
        simp only [World.frozen?, hg]
        simpa using this
      have hrun : (execOp a.eval o).run P w = .ok .skip (w.setCells g (i * b.sz + off) (a.eval y).cells.toList) := by
        have hst := run_storeCells_cells (P := P) g (i * b.sz + off) (a.eval y).cells.toList 0 w
          (fun j hj => by
            rw [Nat.add_zero, hcellat, Nat.add_assoc, Array.getElem?_eq_getElem (hin (off + j) (by omega))]; rfl)
          (fun j hj => by rw [Nat.add_zero, Nat.add_assoc]; exact hnf _ (hin (off + j) (by omega)))
          hc1'
        have hsize : (a.eval y).cells.size = it.size := by rw [hsz, ← hlen, ← hcl]; simp
        simp only [execOp, ho, Instr.storeAt, hv, Instr.sureAddr, Sem.run_bind, Sem.run_pure, Result.andThen_ok, storeVar, run_sizeOf' hi, hsize, ne_eq, not_true_eq_false, if_false]
        rw [Nat.add_zero] at hst
        rw [hst]
        rfl
      obtain ⟨cs', h1, h2, h3⟩ := heap_setCells g b.ty fr (a.eval y).cells.toList (i * b.sz + off) w cs hg (by rw [hcl]; have := hin (b.sz - 1) (by omega); omega)
      have key : ∀ p q, p < b.es.length → q < b.sz → ∃ u, cs'[p * b.sz + q]? = some u ∧ u.oneCell' = true ∧ Rep ρ (lens M') I w N (((b.es.set i (splice off (cells (ev F y)) (b.es.getD i []))).getD p []).getD q .bad) u := by
        intro p q hp hq
        rw [h3, hcl]
        by_cases hpi : p = i
        · subst hpi
          have e1 : (b.es.set p (splice off (cells (ev F y)) (b.es.getD p []))).getD p [] = splice off (cells (ev F y)) (b.es.getD p []) := by
            simp [List.getD_eq_getElem?_getD, hp]
          rw [e1, splice_getD _ _ _ _ (by omega)]
          by_cases hqr : off ≤ q ∧ q < off + (cells (ev F y)).length
          · rw [if_pos (by omega), if_pos hqr]
            have e2 : p * b.sz + q - (p * b.sz + off) = q - off := by omega
            rw [e2]
            have hq' : q - off < (a.eval y).cells.toList.length := by rw [hcl]; omega
            refine ⟨(a.eval y).cells.toList[q - off], List.getElem?_eq_getElem hq', hc1' _ (List.getElem_mem _), ?_⟩
            have := hcr (q - off) (by omega)
            rwa [List.getD_eq_getElem?_getD (l := (a.eval y).cells.toList), List.getElem?_eq_getElem hq', Option.getD_some] at this
          · rw [if_neg (by omega), if_neg hqr]
            exact hc p q hp hq
        · have e1 : (b.es.set i (splice off (cells (ev F y)) (b.es.getD i []))).getD p [] = b.es.getD p [] := by
            simp [List.getD_eq_getElem?_getD, List.getElem?_set, Ne.symm hpi]
          rw [e1]
          rw [if_neg]
          · exact hc p q hp hq
          · rintro ⟨ha, hb'⟩
            rcases Nat.lt_or_gt_of_ne hpi with hlt | hgt
            · have : (p + 1) * b.sz ≤ i * b.sz := Nat.mul_le_mul_right _ hlt
              rw [Nat.add_mul, Nat.one_mul] at this
              omega
            · have : (i + 1) * b.sz ≤ p * b.sz := Nat.mul_le_mul_right _ hgt
              rw [Nat.add_mul, Nat.one_mul] at this
              omega
      have hdead : ∀ b0, M' n = some b0 → b0 = b := fun b0 h0 => by rw [hMn] at h0; exact (Option.some.inj h0).symm
      obtain ⟨E, W⟩ := hW.put (w' := w.setCells g (i * b.sz + off) (a.eval y).cells.toList) n ⟨b.ty, b.sz, b.es.set i (splice off (cells (ev F y)) (b.es.getD i []))⟩ g cap cs' fr
        (os_setCells _ _ _ _) (tape_setCells _ _ _ _) (out_setCells _ _ _ _) (by rw [size_setCells]; exact Nat.le_refl _) (fun k _ hk => heap_setCells_ne g _ _ _ _ hk) h1 (fun q hq => hfr q (by omega))
        (.inr ⟨cap, hρ, b, hMn⟩) (fun b0 h0 => by rw [hdead b0 h0]; exact ⟨rfl, by simp, fun _ => hρ⟩) (fun _ => ⟨b, hMn⟩)
        (fun e he => by
          rcases List.mem_or_eq_of_mem_set he with he | rfl
          · exact B.even e he
          · show (splice _ _ _).length = b.sz
            unfold splice
            rw [List.length_append, List.length_append, List.length_take, List.length_drop, hel]; omega)
        (by simpa using hlc) hcm (by rw [h2]; exact hcs) (by simpa using key)
      unfold Yield
      rw [hrun]
      refine ⟨pset ρ n (g, cap), I, E, by rw [naddL_one]; exact W, .tup [] [] rfl (fun j hj => by simp at hj)⟩
  | _ => rw [hxx] at h; exact h.elim

end Go.AM

/- The abstract machine 'AM', part 8: aggregates. -/

namespace Go.AM
open Go.RowKit
variable {P : Program} {T : TT} {X : Ctx} {o : Oper} {F : Frm} {M : MemF}

/-- Cells that are what the abstract cells say. -/
def CellsOk (ρ : Place) (L : Lens) (I : Nat → Prop) (w : World) (N : Nat → Prop) (cs : List AV) (arr : Array Value) : Prop :=
  arr.size = cs.length ∧ ∀ j, j < cs.length → ∃ u, arr[j]? = some u ∧ u.oneCell' = true ∧ Rep ρ L I w N (cs.getD j .bad) u

theorem CellsOk.agg {ρ : Place} {L : Lens} {I : Nat → Prop} {w : World} {N : Nat → Prop} {cs : List AV} {arr : Array Value} (h : CellsOk ρ L I w N cs arr) : Rep ρ L I w N (.agg cs) (.agg arr) := by
  have : arr = arr.toList.toArray := by simp
  rw [this]
  refine .agg cs arr.toList (by simpa using h.1) (fun u hu => ?_) (fun j hj => ?_)
  · obtain ⟨j, hj, rfl⟩ := List.mem_iff_getElem.1 hu
    obtain ⟨u, hu, h1, _⟩ := h.2 j (by have := h.1; simp at hj; omega)
    have hu' : arr.toList[j]? = some u := by simpa using hu
    rw [List.getElem?_eq_getElem hj] at hu'
    cases hu'
    exact h1
  · obtain ⟨u, hu, _, hr⟩ := h.2 j hj
    have : arr.toList.getD j default = u := by simp [List.getD_eq_getElem?_getD, hu]
    rw [this]; exact hr

theorem CellsOk.of_value {ρ : Place} {L : Lens} {I : Nat → Prop} {w : World} {N : Nat → Prop} {a : AV} {v : Value} (h : Rep ρ L I w N a v) (hs : solid a = true) : CellsOk ρ L I w N (cells a) v.cells := by
  obtain ⟨h1, h2⟩ := row_of_value h hs
  refine ⟨h1, fun j hj => ?_⟩
  have := h2 0 j (by omega) hj
  simpa using this

theorem foldl_cells (off : Nat) : ∀ (vs : List Value) (k : Nat) (arr : Array Value), off + k + vs.length ≤ arr.size →
    ((vs.zipIdx k).foldl (fun cs (p : Value × Nat) => cs.setIfInBounds (off + p.2) p.1) arr).size = arr.size ∧
    ∀ q, ((vs.zipIdx k).foldl (fun cs (p : Value × Nat) => cs.setIfInBounds (off + p.2) p.1) arr)[q]? = if off + k ≤ q ∧ q < off + k + vs.length then vs[q - (off + k)]? else arr[q]?
  | [], k, arr, _ => ⟨rfl, fun q => by rw [if_neg (by simp)]; rfl⟩
  | v :: r, k, arr, h => by
    simp only [List.zipIdx_cons, List.foldl_cons]
    obtain ⟨h1, h2⟩ := foldl_cells off r (k + 1) (arr.setIfInBounds (off + k) v) (by simp at h ⊢; omega)
    refine ⟨by rw [h1]; simp, fun q => ?_⟩
    rw [h2]
    simp only [List.length_cons] at h ⊢
    by_cases hq : q = off + k
    · subst hq
      rw [if_neg (by omega), if_pos (by omega)]
      simp [Array.getElem?_setIfInBounds]; omega
    · by_cases hq2 : off + (k + 1) ≤ q ∧ q < off + (k + 1) + r.length
      · rw [if_pos hq2, if_pos (by omega)]
        have : q - (off + k) = (q - (off + (k + 1))) + 1 := by omega
        rw [this]; simp
      · rw [if_neg hq2, if_neg (by omega)]
        simp [Array.getElem?_setIfInBounds]
        intro e; omega

/-- A part laid into cells. -/
theorem CellsOk.part {ρ : Place} {L : Lens} {I : Nat → Prop} {w : World} {N : Nat → Prop} {cs vs : List AV} {arr varr : Array Value} (h : CellsOk ρ L I w N cs arr) (hv : CellsOk ρ L I w N vs varr) (off : Nat) (hfit : off + vs.length ≤ cs.length) :
    CellsOk ρ L I w N (splice off vs cs) (varr.zipIdx.foldl (fun cs (p : Value × Nat) => cs.setIfInBounds (off + p.2) p.1) arr) := by
  have e : varr.zipIdx.foldl (fun cs (p : Value × Nat) => cs.setIfInBounds (off + p.2) p.1) arr = (varr.toList.zipIdx 0).foldl (fun cs (p : Value × Nat) => cs.setIfInBounds (off + p.2) p.1) arr := by
    rw [← Array.foldl_toList, Array.toList_zipIdx]
  rw [e]
  have hl : varr.toList.length = vs.length := by simpa using hv.1
  obtain ⟨h1, h2⟩ := foldl_cells off varr.toList 0 arr (by have := h.1; omega)
  have hsl : (splice off vs cs).length = cs.length := by
    unfold splice
    rw [List.length_append, List.length_append, List.length_take, List.length_drop]; omega
  refine ⟨by rw [h1, hsl]; exact h.1, fun j hj => ?_⟩
  rw [hsl] at hj
  rw [h2, splice_getD _ _ _ _ hfit, hl]
  simp only [Nat.add_zero]
  by_cases hr : off ≤ j ∧ j < off + vs.length
  · rw [if_pos hr, if_pos hr]
    obtain ⟨u, hu, h3⟩ := hv.2 (j - off) (by omega)
    exact ⟨u, by simpa using hu, h3⟩
  · rw [if_neg hr, if_neg hr]
    exact h.2 j hj

theorem fill_sound {ρ : Place} {L : Lens} {I : Nat → Prop} {w : World} {N : Nat → Prop} {place : Nat → Option (Nat × Nat)} {i off size : Nat} {v : Value} {a : AV} {rest : List (Nat × Value)} {cs : List AV} {arr : Array Value}
    (hp : place i = some (off, size)) (hv : CellsOk ρ L I w N (cells a) v.cells) (hl : (cells a).length = size) (hfit : off + (cells a).length ≤ cs.length) (hc : CellsOk ρ L I w N cs arr) :
    ∃ arr', CellsOk ρ L I w N (splice off (cells a) cs) arr' ∧ Instr.fill place arr ((i, v) :: rest) = Instr.fill place arr' rest := by
  refine ⟨_, hc.part hv off hfit, ?_⟩
  have h1 : v.cells.size = size := by rw [hv.1, hl]
  have h2 : ¬ off + v.cells.size > arr.size := by rw [hv.1, hc.1]; omega
  have h3 : ¬ (v.cells.size ≠ size ∨ off + v.cells.size > arr.size) := by
    rintro (h | h)
    · exact h h1
    · exact h2 h
  simp only [Instr.fill, hp, Bool.or_eq_true, decide_eq_true_eq, if_neg h3]

theorem fits_take {cs : List AV} {off n : Nat} (h : ((cs.drop off).take n).length = n) : off + n ≤ cs.length ∨ n = 0 := by
  simp at h; omega

theorem fillS_det {size : Nat → Nat} {fs : List (Nat × Nat)} {K : List AV → Prop} : ∀ (ps : List (Nat × Operand)) (cs : List AV), fillS size fs (evP F ps) cs K → ∃ cs', fillS size fs (evP F ps) cs (fun x => x = cs') ∧ K cs'
  | [], cs, h => ⟨cs, rfl, h⟩
  | (i, x) :: r, cs, h => by
    simp only [evP, fillS] at h ⊢
    cases hf : fs[i]? with
    | none => rw [hf] at h; exact h.elim
    | some q =>
      rw [hf] at h
      obtain ⟨hc1, h⟩ := chk_elim h
      obtain ⟨cs', h1, h2⟩ := fillS_det r _ h
      exact ⟨cs', chk_intro hc1 h1, h2⟩

theorem fillA_det {sz : Nat} {K : List AV → Prop} : ∀ (ps : List (Nat × Operand)) (cs : List AV), fillA sz (evP F ps) cs K → ∃ cs', fillA sz (evP F ps) cs (fun x => x = cs') ∧ K cs'
  | [], cs, h => ⟨cs, rfl, h⟩
  | (i, x) :: r, cs, h => by
    simp only [evP, fillA] at h ⊢
    obtain ⟨hc1, h⟩ := chk_elim h
    obtain ⟨cs', h1, h2⟩ := fillA_det r _ h
    exact ⟨cs', chk_intro hc1 h1, h2⟩

theorem fillS_sound {ρ : Place} {L : Lens} {I : Nat → Prop} {w : World} {N : Nat → Prop} {a : Act} {size : Nat → Nat} {fs : List (Nat × Nat)} {place : Nat → Option (Nat × Nat)}
    (hp : ∀ i off t, fs[i]? = some (off, t) → place i = some (off, size t)) {K : List AV → Prop} : ∀ (ps : List (Nat × Operand)) (cs : List AV), (∀ p ∈ ps, Rep ρ L I w N (ev F p.2) (a.eval p.2)) →
    fillS size fs (evP F ps) cs K → ∃ cs', K cs' ∧ ∀ arr, CellsOk ρ L I w N cs arr → ∃ arr', CellsOk ρ L I w N cs' arr' ∧ Instr.fill place arr (ps.map fun p => (p.1, a.eval p.2)) = some arr'
  | [], cs, _, h => ⟨cs, h, fun arr hc => ⟨arr, hc, rfl⟩⟩
  | (i, x) :: r, cs, hr, h => by
    simp only [evP, fillS] at h
    cases hf : fs[i]? with
    | none => rw [hf] at h; exact h.elim
    | some q =>
      obtain ⟨off, t⟩ := q
      rw [hf] at h
      obtain ⟨hc1, h⟩ := chk_elim h
      simp only [Bool.and_eq_true, beq_iff_eq, Bool.not_eq_true', beq_eq_false_iff_ne] at hc1
      obtain ⟨⟨⟨hs, hnz⟩, hl⟩, hfit⟩ := hc1
      obtain ⟨cs', hk, hall⟩ := fillS_sound hp r _ (fun p hp => hr p (List.mem_cons_of_mem _ hp)) h
      refine ⟨cs', hk, fun arr hc => ?_⟩
      have hv := CellsOk.of_value (hr (i, x) List.mem_cons_self) hs
      obtain ⟨arr1, ha1, ha2⟩ := fill_sound (rest := r.map fun p => (p.1, a.eval p.2)) (hp i off t hf) hv hl (by rcases fits_take hfit with h | h; exact h; exact (hnz h).elim) hc
      obtain ⟨arr', ha3, ha4⟩ := hall arr1 ha1
      exact ⟨arr', ha3, by rw [List.map_cons, ha2]; exact ha4⟩

theorem fillA_sound {ρ : Place} {L : Lens} {I : Nat → Prop} {w : World} {N : Nat → Prop} {a : Act} {sz : Nat} {K : List AV → Prop} : ∀ (ps : List (Nat × Operand)) (cs : List AV), (∀ p ∈ ps, Rep ρ L I w N (ev F p.2) (a.eval p.2)) →
    fillA sz (evP F ps) cs K → ∃ cs', K cs' ∧ ∀ arr, CellsOk ρ L I w N cs arr → ∃ arr', CellsOk ρ L I w N cs' arr' ∧ Instr.fill (fun i => some (i * sz, sz)) arr (ps.map fun p => (p.1, a.eval p.2)) = some arr'
  | [], cs, _, h => ⟨cs, h, fun arr hc => ⟨arr, hc, rfl⟩⟩
  | (i, x) :: r, cs, hr, h => by
    simp only [evP, fillA] at h
    obtain ⟨hc1, h⟩ := chk_elim h
    simp only [Bool.and_eq_true, beq_iff_eq, Bool.not_eq_true', beq_eq_false_iff_ne] at hc1
    obtain ⟨⟨⟨hs, hnz⟩, hl⟩, hfit⟩ := hc1
    obtain ⟨cs', hk, hall⟩ := fillA_sound r _ (fun p hp => hr p (List.mem_cons_of_mem _ hp)) h
    refine ⟨cs', hk, fun arr hc => ?_⟩
    have hv := CellsOk.of_value (hr (i, x) List.mem_cons_self) hs
    obtain ⟨arr1, ha1, ha2⟩ := fill_sound (place := fun i => some (i * sz, sz)) (i := i) (off := i * sz) (size := sz) (rest := r.map fun p => (p.1, a.eval p.2)) rfl hv hl (by rcases fits_take hfit with h | h; exact h; exact (hnz h).elim) hc
    obtain ⟨arr', ha3, ha4⟩ := hall arr1 ha1
    exact ⟨arr', ha3, by rw [List.map_cons, ha2]; exact ha4⟩

theorem mapM_places (hT : TTok P T) : ∀ (gs : List Field), fsok T.d (gs.map fun f => (f.offset, f.type)) = true →
    gs.mapM (fun f => (P.info? f.type).map fun i => (f.offset, i.size)) = some (gs.map fun f => (f.offset, T.s f.type))
  | [], _ => rfl
  | f :: r, h => by
    simp only [List.map_cons, fsok, Bool.and_eq_true] at h
    obtain ⟨D, i, z, _, _, hi, hs, _⟩ := hT f.type (TD.ok_ne h.1)
    have ih := mapM_places hT r h.2
    simp [List.mapM_cons, hi, hs, ih]

theorem does_build (hT : TTok P T) {t : Nat} {ps : Array (Nat × Operand)} {K : AV → Prop} (ho : o.op = .build t ps) (h : abuild T t (evP F ps.toList) K) : ∃ av, Does P X o F M av [] [] ∧ K av := by
  have hmem : ∀ p ∈ ps.toList, p.2 ∈ o.op.operands.toList := fun p hp => by
    simp only [ho, Op.operands]
    exact List.mem_map.2 ⟨p, hp, rfl⟩
  unfold abuild at h
  cases ht : T.d t with
  | struct fs =>
    rw [ht] at h
    simp only at h
    obtain ⟨hc, h⟩ := chk_elim h
    simp only [Bool.and_eq_true, beq_iff_eq] at hc
    obtain ⟨⟨hfs, hsol⟩, hlen⟩ := hc
    obtain ⟨D, it, z, hD, hf, hi, hsz, _, hz, hzz⟩ := hT t (by rw [ht]; simp)
    obtain ⟨gs, rfl, hgs⟩ := fits_struct ht hf
    -- the abstract result does not hang on the state
    have hpl : ∀ (i off t' : Nat), fs[i]? = some (off, t') → ((gs.toList.map fun f => (f.offset, T.s f.type)).toArray[i]?) = some (off, T.s t') := by
      intro i off t' hi'
      rw [hgs, List.getElem?_map] at hi'
      cases hg : gs.toList[i]? with
      | none => simp [hg] at hi'
      | some g =>
        simp only [hg, Option.map_some, Option.some.injEq, Prod.mk.injEq] at hi'
        have hg' : gs[i]? = some g := by simpa using hg
        simp [hg', hi'.1, hi'.2]
    have hk0 : ∃ cs', K (.agg cs') ∧ ∀ ρ L I w N (a : Act), (∀ p ∈ ps.toList, Rep ρ L I w N (ev F p.2) (a.eval p.2)) → ∀ arr, CellsOk ρ L I w N (cells (T.z t)) arr → ∃ arr', CellsOk ρ L I w N cs' arr' ∧
        Instr.fill ((gs.toList.map fun f => (f.offset, T.s f.type)).toArray[·]?) arr (ps.toList.map fun p => (p.1, a.eval p.2)) = some arr' := by
      obtain ⟨cs', hcs, hk⟩ := fillS_det (K := fun cs => K (.agg cs)) ps.toList _ h
      refine ⟨cs', hk, fun ρ L I w N a hr arr hc => ?_⟩
      obtain ⟨cs'', h1, h2⟩ := fillS_sound (place := fun i => ((gs.toList.map fun f => (f.offset, T.s f.type)).toArray[i]?)) hpl ps.toList _ hr hcs
      subst h1
      exact h2 arr hc
    obtain ⟨cs', hk, hall⟩ := hk0
    refine ⟨.agg cs', does_value fun M' N ρ I a w hW hU hN => ?_, hk⟩
    have hr : ∀ p ∈ ps.toList, Rep ρ (lens M') I w N (ev F p.2) (a.eval p.2) := fun p hp => rep_op hU _ (hmem p hp)
    obtain ⟨arr', ha1, ha2⟩ := hall ρ (lens M') I w N a hr z.cells (by rw [hzz]; exact CellsOk.of_value (rep_ofV _ _ _ _ _ z) (by rw [← hzz]; exact hsol))
    refine ⟨.agg arr', ?_, ha1.agg⟩
    have hb : P.built t (ps.map fun (i, x) => (i, a.eval x)).toList = some arr' := by
      unfold Program.built
      simp only [hi, hD, hz, mapM_places hT gs.toList (by rw [← hgs]; exact hfs), Array.toList_map]
      exact ha2
    simp only [execOp, ho, Sem.run_bind, run_build w t _ _ hb, Result.andThen_ok, Sem.run_pure]
  | arr m e =>
    rw [ht] at h
    simp only at h
    obtain ⟨hc, h⟩ := chk_elim h
    simp only [Bool.and_eq_true, beq_iff_eq] at hc
    obtain ⟨⟨hok, hsol⟩, hlen⟩ := hc
    obtain ⟨D, it, z, hD, hf, hi, hsz, _, hz, hzz⟩ := hT t (by rw [ht]; simp)
    have hD' := fits_arr ht hf
    subst hD'
    obtain ⟨_, ie, _, _, _, hie, hes, _⟩ := hT e (TD.ok_ne hok)
    obtain ⟨cs', hcs, hk⟩ := fillA_det (K := fun cs => K (.agg cs)) ps.toList _ h
    refine ⟨.agg cs', does_value fun M' N ρ I a w hW hU hN => ?_, hk⟩
    have hr : ∀ p ∈ ps.toList, Rep ρ (lens M') I w N (ev F p.2) (a.eval p.2) := fun p hp => rep_op hU _ (hmem p hp)
    obtain ⟨cs'', h1, h2⟩ := fillA_sound ps.toList _ hr hcs
    subst h1
    obtain ⟨arr', ha1, ha2⟩ := h2 z.cells (by rw [hzz]; exact CellsOk.of_value (rep_ofV _ _ _ _ _ z) (by rw [← hzz]; exact hsol))
    refine ⟨.agg arr', ?_, ha1.agg⟩
    have hb : P.built t (ps.map fun (i, x) => (i, a.eval x)).toList = some arr' := by
      unfold Program.built
      simp only [hi, hD, hz, hie, hes, Array.toList_map]
      exact ha2
    simp only [execOp, ho, Sem.run_bind, run_build w t _ _ hb, Result.andThen_ok, Sem.run_pure]
  | _ => rw [ht] at h; exact h.elim

end Go.AM

/- The abstract machine 'AM', part 9: rows of elements: new slices. -/

namespace Go.AM
open Go.RowKit
variable {P : Program} {T : TT} {X : Ctx} {o : Oper} {F : Frm} {M : MemF}

/-- Cells that are what a row of elements says. -/
def RowsOk (ρ : Place) (L : Lens) (I : Nat → Prop) (w : World) (N : Nat → Prop) (sz : Nat) (es : List (List AV)) (arr : Array Value) : Prop :=
  es.length * sz ≤ arr.size ∧ (∀ e ∈ es, e.length = sz) ∧ ∀ i j, i < es.length → j < sz → ∃ u, arr[i * sz + j]? = some u ∧ u.oneCell' = true ∧ Rep ρ L I w N ((es.getD i []).getD j .bad) u

theorem RowsOk.set {ρ : Place} {L : Lens} {I : Nat → Prop} {w : World} {N : Nat → Prop} {sz : Nat} {es : List (List AV)} {arr varr : Array Value} {vs : List AV} {i : Nat} (h : RowsOk ρ L I w N sz es arr) (hi : i < es.length)
    (hv : CellsOk ρ L I w N vs varr) (hl : vs.length = sz) : RowsOk ρ L I w N sz (es.set i vs) (varr.zipIdx.foldl (fun cs (p : Value × Nat) => cs.setIfInBounds (i * sz + p.2) p.1) arr) := by
  have e : varr.zipIdx.foldl (fun cs (p : Value × Nat) => cs.setIfInBounds (i * sz + p.2) p.1) arr = (varr.toList.zipIdx 0).foldl (fun cs (p : Value × Nat) => cs.setIfInBounds (i * sz + p.2) p.1) arr := by
    rw [← Array.foldl_toList, Array.toList_zipIdx]
  rw [e]
  obtain ⟨h1, h2, h3⟩ := h
  have hvl : varr.toList.length = sz := by have := hv.1; simp; omega
  have hb : i * sz + sz ≤ es.length * sz := by
    have : (i + 1) * sz ≤ es.length * sz := Nat.mul_le_mul_right _ hi
    rwa [Nat.add_mul, Nat.one_mul] at this
  obtain ⟨g1, g2⟩ := foldl_cells (i * sz) varr.toList 0 arr (by rw [hvl]; omega)
  refine ⟨by rw [g1]; simpa using h1, fun e he => ?_, fun p q hp hq => ?_⟩
  · rcases List.mem_or_eq_of_mem_set he with he | rfl
    · exact h2 e he
    · exact hl
  · rw [g2, hvl]
    simp only [Nat.add_zero]
    simp only [List.length_set] at hp
    by_cases hpi : p = i
    · subst hpi
      rw [if_pos (by omega)]
      have : (es.set p vs).getD p [] = vs := by simp [List.getD_eq_getElem?_getD, hp]
      rw [this]
      have e2 : p * sz + q - p * sz = q := by omega
      rw [e2]
      obtain ⟨u, hu, hr⟩ := hv.2 q (by omega)
      exact ⟨u, by simpa using hu, hr⟩
    · rw [if_neg]
      · have : (es.set i vs).getD p [] = es.getD p [] := by simp [List.getD_eq_getElem?_getD, List.getElem?_set, Ne.symm hpi]
        rw [this]
        exact h3 p q hp hq
      · rintro ⟨ha, hb'⟩
        rcases Nat.lt_or_gt_of_ne hpi with hlt | hgt
        · have : (p + 1) * sz ≤ i * sz := Nat.mul_le_mul_right _ hlt
          rw [Nat.add_mul, Nat.one_mul] at this
          omega
        · have : (i + 1) * sz ≤ p * sz := Nat.mul_le_mul_right _ hgt
          rw [Nat.add_mul, Nat.one_mul] at this
          omega

theorem fillE_det {sz : Nat} {K : List (List AV) → Prop} : ∀ (ps : List (Nat × Operand)) (es : List (List AV)), fillE sz (evP F ps) es K → ∃ es', fillE sz (evP F ps) es (fun x => x = es') ∧ K es'
  | [], es, h => ⟨es, rfl, h⟩
  | (i, x) :: r, es, h => by
    simp only [evP, fillE] at h ⊢
    obtain ⟨hc1, h⟩ := chk_elim h
    obtain ⟨es', h1, h2⟩ := fillE_det r _ h
    exact ⟨es', chk_intro hc1 h1, h2⟩

theorem fillE_sound {ρ : Place} {L : Lens} {I : Nat → Prop} {w : World} {N : Nat → Prop} {a : Act} {sz : Nat} {K : List (List AV) → Prop} : ∀ (ps : List (Nat × Operand)) (es : List (List AV)), (∀ p ∈ ps, Rep ρ L I w N (ev F p.2) (a.eval p.2)) →
    fillE sz (evP F ps) es K → ∃ es', K es' ∧ es'.length = es.length ∧ ∀ arr, arr.size = es.length * sz → RowsOk ρ L I w N sz es arr → ∃ arr', arr'.size = arr.size ∧ RowsOk ρ L I w N sz es' arr' ∧ Instr.fill (fun i => some (i * sz, sz)) arr (ps.map fun p => (p.1, a.eval p.2)) = some arr'
  | [], es, _, h => ⟨es, h, rfl, fun arr _ hc => ⟨arr, rfl, hc, rfl⟩⟩
  | (i, x) :: r, es, hr, h => by
    simp only [evP, fillE] at h
    obtain ⟨hc1, h⟩ := chk_elim h
    simp only [Bool.and_eq_true, beq_iff_eq] at hc1
    obtain ⟨⟨hs, hl⟩, hfit⟩ := hc1
    obtain ⟨es', hk, hle, hall⟩ := fillE_sound r _ (fun p hp => hr p (List.mem_cons_of_mem _ hp)) h
    refine ⟨es', hk, by simpa using hle, fun arr hsz hc => ?_⟩
    have hi : i < es.length := by simp at hfit; omega
    have hv := CellsOk.of_value (hr (i, x) List.mem_cons_self) hs
    have h1 : (a.eval x).cells.size = sz := by have := hv.1; simp at this; omega
    have hb : i * sz + sz ≤ es.length * sz := by
      have : (i + 1) * sz ≤ es.length * sz := Nat.mul_le_mul_right _ hi
      rwa [Nat.add_mul, Nat.one_mul] at this
    have h3 : ¬ ((a.eval x).cells.size ≠ sz ∨ i * sz + (a.eval x).cells.size > arr.size) := by
      rintro (h | h)
      · exact h h1
      · omega
    have hset := hc.set hi hv hl
    have hsz2 : ((a.eval x).cells.zipIdx.foldl (fun cs (p : Value × Nat) => cs.setIfInBounds (i * sz + p.2) p.1) arr).size = arr.size := by
      rw [← Array.foldl_toList, Array.toList_zipIdx]
      exact (foldl_cells (i * sz) _ 0 arr (by simp; omega)).1
    obtain ⟨arr', ha0, ha1, ha2⟩ := hall _ (by rw [hsz2]; simpa using hsz) hset
    refine ⟨arr', ha0.trans hsz2, ha1, ?_⟩
    simp only [List.map_cons, Instr.fill, Bool.or_eq_true, decide_eq_true_eq, if_neg h3]
    exact ha2

/-- n elements, each the zero value. -/
theorem RowsOk.zeros {ρ : Place} {L : Lens} {I : Nat → Prop} {w : World} {N : Nat → Prop} {z : Value} {a : AV} {sz n : Nat} (h : CellsOk ρ L I w N (cells a) z.cells) (hl : (cells a).length = sz) (hpos : sz ≠ 0) :
    RowsOk ρ L I w N sz (List.replicate n (cells a)) ((Array.range (n * sz)).map (z.cells[· % z.cells.size]!)) := by
  have hz : z.cells.size = sz := by rw [h.1, hl]
  refine ⟨by simp, fun e he => by rw [(List.mem_replicate.1 he).2]; exact hl, fun i j hi hj => ?_⟩
  simp only [List.length_replicate] at hi
  have hlt : i * sz + j < n * sz := by
    have : (i + 1) * sz ≤ n * sz := Nat.mul_le_mul_right _ hi
    rw [Nat.add_mul, Nat.one_mul] at this
    omega
  have hmod : (i * sz + j) % z.cells.size = j := by
    rw [hz, Nat.add_comm, Nat.mul_comm, Nat.add_mul_mod_self_left]
    exact Nat.mod_eq_of_lt hj
  obtain ⟨u, hu, h1, hr⟩ := h.2 j (by omega)
  refine ⟨u, ?_, h1, ?_⟩
  · have hj' : j < z.cells.size := by omega
    have hu' : z.cells[j] = u := by rw [Array.getElem?_eq_getElem hj'] at hu; exact Option.some.inj hu
    simp [hlt, hmod, hj', hu']
  · have : (List.replicate n (cells a)).getD i [] = cells a := by simp [List.getD_eq_getElem?_getD, hi]
    rw [this]; exact hr

theorem does_newrow {n e len cap sz : Nat} {es : List (List AV)} (hlen : es.length = len)
    (h : ∀ M' N ρ I (ac : Act) w, Wok X ρ I M' N w → (∀ s ∈ uses o.op, Rep ρ (lens M') I w N (look F s) (ac.tmps.getD s undef)) →
      ∃ arr, (execOp ac.eval o).run P w = .ok (.value (.slice (some ⟨w.heap.size, 0, none⟩) len cap)) (w.alloc (.cells arr e)) ∧ arr.size = cap * sz ∧ len ≤ cap ∧ cap ≤ maxLen ∧ RowsOk ρ (lens M') I w N sz es arr) : Does P X o F M (.osl n len) [(n, ⟨e, sz, es⟩)] [n] := by
  refine ⟨fun p hp => .inl (by simp at hp; simp [hp]), fun M' N ρ I ac w hW hU hN hF => ?_⟩
  obtain ⟨arr, hrun, h1, h2, h3, h4⟩ := h M' N ρ I ac w hW hU
  have hn : ¬ N n := hF n (by simp)
  obtain ⟨ρ1, E, W, hρ, hl⟩ := hW.new hn ⟨e, sz, es⟩ arr cap h4.2.1 (by simpa using hlen ▸ h2) h3 h1 h4.2.2
  unfold Yield
  rw [hrun]
  have hN' : naddL N [(n, (⟨e, sz, es⟩ : Blk))] n := .inr ⟨_, List.mem_singleton.2 rfl⟩
  refine ⟨ρ1, I, E, W, ?_⟩
  exact rep_osl_mk hN' (hlen ▸ hl) hρ

theorem does_buildSlice (hT : TTok P T) {n t len : Nat} {ps : Array (Nat × Operand)} {e : Nat} {es : List (List AV)} (ho : o.op = .buildSlice t len ps) (ht : T.d t = .slice e) (hok : (T.d e).ok = true)
    (hs : solid (T.z e) = true) (hl : (cells (T.z e)).length = T.s e) (hz : T.s e ≠ 0) (hb : len * T.s e ≤ 16777216) (h : fillE (T.s e) (evP F ps.toList) (List.replicate len (cells (T.z e))) (fun x => x = es)) : Does P X o F M (.osl n len) [(n, ⟨e, T.s e, es⟩)] [n] ∧ es.length = len := by
  have hmem : ∀ p ∈ ps.toList, p.2 ∈ o.op.operands.toList := fun p hp => by
    simp only [ho, Op.operands]
    exact List.mem_map.2 ⟨p, hp, rfl⟩
  obtain ⟨D, it, z, hD, hf, hi, hsz, _⟩ := hT t (by rw [ht]; simp)
  have hD' := fits_slice ht hf
  subst hD'
  obtain ⟨_, ie, ze, _, _, hie, hes, _, hze, hzz⟩ := hT e (TD.ok_ne hok)
  have hlen : es.length = len := by
    clear hmem
    have : ∀ (ps : List (Nat × Operand)) (es0 : List (List AV)), fillE (T.s e) (evP F ps) es0 (fun x => x = es) → es.length = es0.length := by
      intro ps
      induction ps with
      | nil => intro es0 h; simp only [evP, fillE] at h; rw [h]
      | cons p r ih =>
        intro es0 h
        obtain ⟨i, x⟩ := p
        simp only [evP, fillE] at h
        obtain ⟨_, h⟩ := chk_elim h
        simpa using ih _ h
    simpa using this ps.toList _ h
  refine ⟨does_newrow (cap := len) hlen (fun M' N ρ I a w hW hU => ?_), hlen⟩
  have hr : ∀ p ∈ ps.toList, Rep ρ (lens M') I w N (ev F p.2) (a.eval p.2) := fun p hp => rep_op hU _ (hmem p hp)
  obtain ⟨es', h1, h2, h3⟩ := fillE_sound (ρ := ρ) (L := lens M') (I := I) (w := w) (N := N) (a := a) ps.toList _ hr h
  subst h1
  have hc : CellsOk ρ (lens M') I w N (cells (T.z e)) ze.cells := by rw [hzz]; exact CellsOk.of_value (rep_ofV _ _ _ _ _ ze) (by rw [← hzz]; exact hs)
  obtain ⟨arr, ha0, ha1, ha2⟩ := h3 ((Array.range (len * T.s e)).map (ze.cells[· % ze.cells.size]!)) (by simp) (RowsOk.zeros hc hl hz)
  have hmax : len ≤ maxLen := by
    have : len * 1 ≤ len * T.s e := Nat.mul_le_mul_left _ (by omega)
    simp only [maxLen]; omega
  refine ⟨arr, ?_, by rw [ha0]; simp, Nat.le_refl _, hmax, ha1⟩
  have hng : ¬ len * ie.size > 2 ^ 24 := by rw [hes]; omega
  have hfill : Instr.fill (fun i => some (i * ie.size, ie.size)) ((Array.range (len * ie.size)).map (ze.cells[· % ze.cells.size]!)) (ps.map fun p => (p.1, a.eval p.2)).toList = some arr := by
    rw [hes, Array.toList_map]; exact ha2
  by_cases h0 : len * ie.size = 0
  · have hl0 : len = 0 := by
      rcases Nat.mul_eq_zero.1 h0 with h | h
      · exact h
      · rw [hes] at h; exact (hz h).elim
    subst hl0
    have e0 : ∀ f : Nat → Value, (Array.range (0 * ie.size)).map f = #[] := fun f => by rw [Nat.zero_mul]; exact Array.eq_empty_of_size_eq_zero (by simp)
    rw [e0] at hfill
    have hfill'' : Instr.fill (fun i => some (i * ie.size, ie.size)) #[] (ps.toList.map fun p => (p.1, a.eval p.2)) = some arr := by
      rw [← hfill, Array.toList_map]
    simp only [execOp, ho, Instr.buildSlice, Sem.run_bind, run_underlying hD, Result.andThen_ok, run_sizeOf' hie, if_neg hng, if_pos h0, Sem.run_pure, Array.toList_map, e0, hfill'', newRow, run_newObj, World.alloc_eq]
  · have hfill'' : Instr.fill (fun i => some (i * ie.size, ie.size)) ((Array.range (len * ie.size)).map (ze.cells[· % ze.cells.size]!)) (ps.toList.map fun p => (p.1, a.eval p.2)) = some arr := by simpa using hfill
    simp only [execOp, ho, Instr.buildSlice, Sem.run_bind, run_underlying hD, Result.andThen_ok, run_sizeOf' hie, if_neg hng, if_neg h0, run_zeroValue' hie hze, Sem.run_pure, Array.toList_map, hfill'', newRow, run_newObj, World.alloc_eq]

end Go.AM

/- The abstract machine 'AM', part 10: arithmetic, slices, lengths. -/

namespace Go.AM
open Go.RowKit
variable {P : Program} {T : TT} {X : Ctx} {o : Oper} {F : Frm} {M : MemF}

theorem eqGuard_int {op : BinOp} {t : TypeId} {x y : Operand} {k k' : IntKind} {a b : Int} {w : World} : (eqGuard op t x y (.int k a) (.int k' b)).run P w = .ok () w := by
  unfold eqGuard
  cases op <;> simp

theorem does_bin {op : BinOp} {xt yt : TypeId} {x y : Operand} {K : AV → Prop} (ho : o.op = .binOp op xt x y yt) (h : abin op (ev F x) (ev F y) K) : ∃ av, Does P X o F M av [] [] ∧ K av := by
  have hx : x ∈ o.op.operands.toList := by simp [ho, Op.operands]
  have hy : y ∈ o.op.operands.toList := by simp [ho, Op.operands]
  cases hxx : ev F x with
  | int k a =>
    cases hyy : ev F y with
    | int k' b =>
      rw [hxx, hyy] at h
      have go : ∀ av v, (∀ ρ L I w N, Rep ρ L I w N av v) → (∀ w, (binOp op xt (.int k a) (.int k' b)).run P w = .ok v w) → K av → ∃ av, Does P X o F M av [] [] ∧ K av := by
        intro av v hr hrun hk
        refine ⟨av, does_value fun M' N ρ I ac w hW hU hN => ⟨v, ?_, hr _ _ _ _ _⟩, hk⟩
        have r1 := rep_int (hxx ▸ rep_op hU x hx)
        have r2 := rep_int (hyy ▸ rep_op hU y hy)
        simp only [execOp, ho, r1, r2, Sem.run_bind, eqGuard_int, Result.andThen_ok, hrun, Sem.run_pure]
      have goI : ∀ n, (∀ w, (binOp op xt (.int k a) (.int k' b)).run P w = .ok (.int k n) w) → K (.int k n) → ∃ av, Does P X o F M av [] [] ∧ K av := fun n => go _ _ (fun _ _ _ _ _ => .int _ _)
      have goB : ∀ t, (∀ w, (binOp op xt (.int k a) (.int k' b)).run P w = .ok (.bool t) w) → K (.bool t) → ∃ av, Does P X o F M av [] [] ∧ K av := fun n => go _ _ (fun _ _ _ _ _ => .bool _)
      clear go
      cases op <;> simp only [abin] at h
      case shl =>
        have : ¬ b < 0 := by omega
        exact goI _ (fun w => by simp [binOp, Op.shift, this, shlI]) h.2
      case shr =>
        have : ¬ b < 0 := by omega
        exact goI _ (fun w => by simp [binOp, Op.shift, this, shrI]) h.2
      case quo =>
        obtain ⟨h0, h1⟩ := h
        obtain ⟨hk, h2⟩ := chk_elim h1
        have hk := keq_eq hk; subst hk
        exact goI _ (fun w => by simp [binOp, Op.intDiv, h0, wr]) h2
      case rem =>
        obtain ⟨h0, h1⟩ := h
        obtain ⟨hk, h2⟩ := chk_elim h1
        have hk := keq_eq hk; subst hk
        exact goI _ (fun w => by simp [binOp, Op.intDiv, h0]) h2
      all_goals
        obtain ⟨hk, h2⟩ := chk_elim h
        have hk := keq_eq hk; subst hk
        first
          | (refine goI _ (fun w => ?_) h2; simp [binOp, Op.intArith, wr]; done)
          | (refine goI _ (fun w => ?_) h2; simp only [binOp, ne_eq, not_true_eq_false, if_false]; rfl)
          | (refine goB _ (fun w => ?_) h2; simp [binOp, Op.intCmp]; done)
    | _ => rw [hxx, hyy] at h; cases op <;> exact h.elim
  | _ => rw [hxx] at h; cases op <;> exact h.elim

theorem does_un {op : UnOp} {xt : TypeId} {x : Operand} {K : AV → Prop} (ho : o.op = .unOp op xt x) (h : aun op (ev F x) K) : ∃ av, Does P X o F M av [] [] ∧ K av := by
  have hx : x ∈ o.op.operands.toList := by simp [ho, Op.operands]
  cases hxx : ev F x with
  | int k n =>
    rw [hxx] at h
    cases op <;> simp only [aun] at h
    · refine ⟨_, does_value fun M' N ρ I ac w hW hU hN => ⟨.int k (wr k (0 - n)), ?_, .int _ _⟩, h⟩
      have r1 := rep_int (hxx ▸ rep_op hU x hx)
      simp [execOp, ho, r1, Op.unary, Op.intArith, wr]
    · refine ⟨_, does_value fun M' N ρ I ac w hW hU hN => ⟨.int k (bit2 .xor k (if k.signed then -1 else k.max) n), ?_, .int _ _⟩, h⟩
      have r1 := rep_int (hxx ▸ rep_op hU x hx)
      simp [execOp, ho, r1, Op.unary, Op.intBits, bit2]
  | bool b =>
    rw [hxx] at h
    cases op <;> simp only [aun] at h
    refine ⟨_, does_value fun M' N ρ I ac w hW hU hN => ⟨.bool !b, ?_, .bool _⟩, h⟩
    have r1 := rep_bool (hxx ▸ rep_op hU x hx)
    simp [execOp, ho, r1, Op.unary]
  | _ => rw [hxx] at h; cases op <;> exact h.elim

theorem run_convert_int {s t : Nat} {k k' : IntKind} {n : Int} {w : World} {D : TypeDesc} (hs : P.underlying s = some D) (ht : P.underlying t = some (.int k)) : (convert s t (.int k' n)).run P w = .ok (.int k (wr k n)) w := by
  simp [convert, run_underlying hs, run_underlying ht, Conv.intToInt, wr]

theorem does_conv (hT : TTok P T) {s t : Nat} {x : Operand} {K : AV → Prop} (ho : o.op = .convert s t x) (hs : (T.d s).ok = true) (h : aconv (T.d t) (ev F x) K) : ∃ av, Does P X o F M av [] [] ∧ K av := by
  have hx : x ∈ o.op.operands.toList := by simp [ho, Op.operands]
  obtain ⟨Ds, _, _, hDs, _⟩ := hT s (TD.ok_ne hs)
  cases ht : T.d t with
  | int k =>
    rw [ht] at h
    obtain ⟨D, it, z, hD, hf, _⟩ := hT t (by rw [ht]; simp)
    have hD' := fits_int ht hf
    subst hD'
    cases hxx : ev F x with
    | int k' n =>
      rw [hxx] at h
      refine ⟨_, does_value fun M' N ρ I ac w hW hU hN => ⟨.int k (wr k n), ?_, .int _ _⟩, h⟩
      have r1 := rep_int (hxx ▸ rep_op hU x hx)
      simp only [execOp, ho, r1, Sem.run_bind, run_convert_int hDs hD, Result.andThen_ok, Sem.run_pure]
    | _ => rw [hxx] at h; exact h.elim
  | str =>
    rw [ht] at h
    obtain ⟨D, it, z, hD, hf, _⟩ := hT t (by rw [ht]; simp)
    have hD' := fits_str ht hf
    subst hD'
    cases hxx : ev F x with
    | str l =>
      rw [hxx] at h
      refine ⟨_, does_value fun M' N ρ I ac w hW hU hN => ⟨.string ⟨l.toArray⟩, ?_, .str _⟩, h⟩
      have r1 := rep_str (hxx ▸ rep_op hU x hx)
      simp [execOp, ho, r1, convert, run_underlying hDs, run_underlying hD]
    | _ => rw [hxx] at h; exact h.elim
  | _ => rw [ht] at h; exact h.elim

theorem does_nilCheck {x : Operand} {K : AV → Prop} {Ml : Mem} (hM : M = mget Ml) (ho : o.op = .nilCheck x)
    (h : (∃ n len i q, ev F x = .loc n len i q ∧ alive Ml n len fun _ => K (.loc n len i q)) ∨ (∃ e q, ev F x = .iptr e q ∧ K (.iptr e q)) ∨ (∃ f cs, ev F x = .clo f cs ∧ K (.clo f cs))) : ∃ av, Does P X o F M av [] [] ∧ K av := by
  have hx : x ∈ o.op.operands.toList := by simp [ho, Op.operands]
  rcases h with ⟨n, len, i, q, hxx, h⟩ | ⟨e, q, hxx, h⟩ | ⟨f, cs, hxx, h⟩
  · simp only [alive] at h
    cases hb : mget Ml n with
    | none => rw [hb] at h; exact h.elim
    | some b =>
      rw [hb] at h
      obtain ⟨hc1, hk⟩ := chk_elim h
      have hl : b.es.length = len := by simpa using hc1
      refine ⟨_, does_value fun M' N ρ I a w hW hU hN => ?_, hk⟩
      have r1 := rep_op hU x hx
      rw [hxx] at r1
      obtain ⟨sl, hsl, hns⟩ := names_op (F := F) x hx (n := n) (by rw [hxx]; simp [AV.names])
      have hMn : M' n = some b := (hN sl hsl n hns).trans (by rw [hM]; exact hb)
      have hal : lens M' n = some (len, b.sz) := by rw [lens_some]; exact ⟨b, hMn, hl, rfl⟩
      obtain ⟨hn, g, cap, hρ, hv⟩ := rep_loc r1 hal
      exact ⟨_, by simp only [execOp, ho, hv, Sem.run_pure], rep_loc_mk hn hal hρ⟩
  · refine ⟨_, does_value fun M' N ρ I a w hW hU hN => ?_, h⟩
    have r1 := rep_op hU x hx
    rw [hxx] at r1
    generalize hv : a.eval x = v at r1
    cases r1 with
    | iptr _ _ b q' c hI h1 hcell hr => exact ⟨_, by simp only [execOp, ho, hv, Sem.run_pure], .iptr e q b q' c hI h1 hcell hr⟩
  · refine ⟨_, does_value fun M' N ρ I a w hW hU hN => ?_, h⟩
    have r1 := rep_op hU x hx
    rw [hxx] at r1
    generalize hv : a.eval x = v at r1
    cases r1 with
    | clo _ _ vs hl hr => exact ⟨_, by simp only [execOp, ho, hv, Sem.run_pure], .clo f cs vs hl hr⟩

theorem evL_length : ∀ l : List Operand, (evL F l).length = l.length
  | [] => rfl
  | _ :: r => by simp [evL, evL_length r]

theorem evL_getD : ∀ (l : List Operand) (j : Nat) (hj : j < l.length), (evL F l).getD j .bad = ev F l[j]
  | x :: r, 0, _ => rfl
  | x :: r, j + 1, h => by simpa [evL] using evL_getD r j (by simpa using h)

theorem repL_evL {ρ : Place} {L : Lens} {I : Nat → Prop} {w : World} {N : Nat → Prop} {a : Act} (l : List Operand) (h : ∀ x ∈ l, Rep ρ L I w N (ev F x) (a.eval x)) : RepL ρ L I w N (evL F l) (l.map a.eval) := by
  refine ⟨by simp [evL_length], fun j hj => ?_⟩
  rw [evL_length] at hj
  rw [evL_getD l j hj]
  have : (l.map a.eval).getD j default = a.eval l[j] := by simp [List.getD_eq_getElem?_getD, hj]
  rw [this]
  exact h _ (List.getElem_mem _)

theorem does_makeFunc {f : Nat} {first caps : Array Operand} (ho : o.op = .makeFunc (.func f) first caps) (h0 : first.isEmpty = true) : Does P X o F M (.clo f (evL F caps.toList)) [] [] := by
  refine does_value fun M' N ρ I a w hW hU hN => ⟨.func (.func f) #[] ((caps.toList.map a.eval).toArray), ?_, ?_⟩
  · have : first = #[] := by simpa using h0
    subst this
    have e : Array.map a.eval caps = (List.map a.eval caps.toList).toArray := by apply Array.ext'; simp
    simp [execOp, ho, Instr.makeFunc, e]
  · have := repL_evL (F := F) (ρ := ρ) (L := lens M') (I := I) (w := w) (N := N) (a := a) caps.toList (fun x hx => rep_op hU x (by simp only [ho, Op.operands]; simp only [Array.toList_append]; exact List.mem_append_right _ hx))
    exact .clo f _ _ this.1 this.2

theorem does_extract {x : Operand} {i : Nat} {vs : List AV} (ho : o.op = .extract x i) (hx' : ev F x = .tup vs) (hi : i < vs.length) : Does P X o F M (vs.getD i .bad) [] [] := by
  have hx : x ∈ o.op.operands.toList := by simp [ho, Op.operands]
  refine does_value fun M' N ρ I a w hW hU hN => ?_
  have r1 := rep_op hU x hx
  rw [hx'] at r1
  generalize hv : a.eval x = v at r1
  cases r1 with
  | tup _ us hl hr =>
    have hi' : i < us.length := by omega
    refine ⟨us.getD i default, ?_, hr i hi⟩
    have : us.toArray[i]? = some (us.getD i default) := by simp [hi', List.getD_eq_getElem?_getD]
    simp only [execOp, ho, hv, Instr.extract, this, Sem.run_bind, Sem.run_pure, Result.andThen_ok]

end Go.AM

/- The abstract machine 'AM', part 11: slicing, lengths, append. -/


namespace Go.AM
open Go.RowKit
variable {P : Program} {T : TT} {X : Ctx} {o : Oper} {F : Frm} {M : MemF}

theorem getD_take_drop' {α : Type} (l : List α) (h q i : Nat) (d : α) (hi : i < h - q) : ((l.take h).drop q).getD i d = l.getD (q + i) d := by
  simp only [List.getD_eq_getElem?_getD, List.getElem?_drop, List.getElem?_take]
  rw [if_pos (by omega)]

theorem rep_isl_sub {ρ : Place} {L : Lens} {I : Nat → Prop} {w : World} {N : Nat → Prop} {sz : Nat} {es : List (List AV)} {a : Option Addr} {len cap : Nat} (h : Rep ρ L I w N (.isl sz es) (.slice a len cap)) (l q m : Nat)
    (h1 : l ≤ q) (h2 : q ≤ es.length) (h3 : q ≤ m) (h4 : m ≤ cap) : len = es.length ∧ Rep ρ L I w N (.isl sz ((es.take q).drop l)) (.slice (if m = l then a else a.map (·.add (l * sz))) (q - l) (m - l)) := by
  cases h with
  | islNil _ _ _ hc =>
    simp at h2
    have hl : l = 0 := by omega
    subst hl; subst h2
    exact ⟨rfl, by simpa using Rep.islNil sz _ (m - 0) (by omega)⟩
  | isl _ _ b o _ c hl hc hI hs h1' hcell hr =>
    refine ⟨rfl, ?_⟩
    by_cases hz : q - l = 0
    · have e : (es.take q).drop l = [] := List.eq_nil_of_length_eq_zero (by simp; omega)
      rw [e, hz]
      exact .islNil sz _ _ (by omega)
    · have hm : m ≠ l := by omega
      have hlen : ((es.take q).drop l).length = q - l := by simp; omega
      rw [if_neg hm]
      have e : (Option.map (fun x : Addr => x.add (l * sz)) (some ⟨b, o, none⟩)) = some ⟨b, o + l * sz, none⟩ := by simp [addr_add]
      rw [e, ← hlen]
      refine .isl sz _ b (o + l * sz) (m - l) (fun i j => c (l + i) j) (by omega) (by omega) hI (fun e he => hs e (List.mem_of_mem_take (List.mem_of_mem_drop he))) (fun i j hi hj => h1' _ _ (by omega) hj) (fun i j hi hj => ?_) (fun i j hi hj => ?_)
      · have := hcell (l + i) j (by omega) hj
        rw [Nat.add_mul, ← Nat.add_assoc] at this
        exact this
      · rw [getD_take_drop' _ _ _ _ _ (by omega)]
        exact hr (l + i) j (by omega) hj

theorem run_sliceBound {k : IntKind} {i : Int} {y : Nat} {c : BoundsCode} {w : World} (h : 0 ≤ i ∧ i ≤ y) : (Instr.sliceBound (.int k i) y c).run P w = .ok i.toNat w := by
  simp [Instr.sliceBound, asIntOf, h]

theorem run_sliceAt {t e : Nat} {ie : TypeInfo} {a : Option Addr} {len cap : Nat} {lo hi mx : Option Value} {w : World} (hD : P.underlying t = some (.slice e)) (hi' : P.info? e = some ie) {l h m : Nat}
    (hb : (Instr.sliceBounds true len cap lo hi mx).run P w = .ok (l, h, m) w) : (Instr.sliceAt t (.slice a len cap) lo hi mx).run P w = .ok (.slice (if m = l then a else a.map (·.add (l * ie.size))) (h - l) (m - l)) w := by
  simp only [Instr.sliceAt, Sem.run_bind, run_underlying hD, Result.andThen_ok, Instr.slice, hb, run_sizeOf' hi', Sem.run_pure]

theorem run_sliceAt_str {t : Nat} {s : ByteArray} {lo hi : Option Value} {w : World} (hD : P.underlying t = some .string) {l h m : Nat}
    (hb : (Instr.sliceBounds false s.size s.size lo hi none).run P w = .ok (l, h, m) w) : (Instr.sliceAt t (.string s) lo hi none).run P w = .ok (.string (s.extract l h)) w := by
  simp [Instr.sliceAt, run_underlying hD, Instr.slice, hb]

theorem isl_len {ρ : Place} {L : Lens} {I : Nat → Prop} {w : World} {N : Nat → Prop} {sz : Nat} {es : List (List AV)} {v : Value} (h : Rep ρ L I w N (.isl sz es) v) : ∃ a cap, v = .slice a es.length cap ∧ es.length ≤ cap := by
  cases h with
  | islNil _ a cap hc => exact ⟨a, cap, rfl, Nat.zero_le _⟩
  | isl _ _ b o cap c hl => exact ⟨_, cap, rfl, hl⟩

theorem extract_str (s : List UInt8) (l h : Nat) (hh : h ≤ s.length) : (⟨s.toArray⟩ : ByteArray).extract l h = ⟨((s.take h).drop l).toArray⟩ := by
  apply ByteArray.ext
  apply Array.ext'
  rw [Lib.extract_data]
  simp [List.drop_take]

theorem does_slice (hT : TTok P T) {t : Nat} {x : Operand} {lo hi mx : Option Operand} {K : AV → Prop} {Ml : Mem} (ho : o.op = .slice t x lo hi mx) (h : aslice T t (ev F x) (evO F lo) (evO F hi) (evO F mx) Ml K) : ∃ av, Does P X o F M av [] [] ∧ K av := by
  have hx : x ∈ o.op.operands.toList := by simp [ho, Op.operands]
  have hlo : ∀ y, lo = some y → y ∈ o.op.operands.toList := by rintro y rfl; simp [ho, Op.operands]
  have hhi : ∀ y, hi = some y → y ∈ o.op.operands.toList := by rintro y rfl; simp [ho, Op.operands]
  have hmx : ∀ y, mx = some y → y ∈ o.op.operands.toList := by rintro y rfl; simp [ho, Op.operands]
  unfold aslice at h
  cases ht : T.d t with
  | slice e =>
    rw [ht] at h
    obtain ⟨hok, h⟩ := chk_elim h
    obtain ⟨D, it, z, hD, hf, _⟩ := hT t (by rw [ht]; simp)
    have hD' := fits_slice ht hf
    subst hD'
    obtain ⟨_, ie, _, _, _, hie, hes, _⟩ := hT e (TD.ok_ne hok)
    cases hxx : ev F x with
    | isl sz es =>
      rw [hxx] at h
      obtain ⟨hsz, h⟩ := chk_elim h
      have hsz : sz = ie.size := by rw [hes]; simpa using hsz
      have fin' : ∀ (l q : Nat), l ≤ q → q ≤ es.length → (∀ cap (a : Act) w, es.length ≤ cap → (∀ y ∈ o.op.operands.toList, ∀ k n, ev F y = .int k n → a.eval y = .int k n) → ∃ m, q ≤ m ∧ m ≤ cap ∧ (Instr.sliceBounds true es.length cap (lo.map a.eval) (hi.map a.eval) (mx.map a.eval)).run P w = .ok (l, q, m) w) → Does P X o F M (.isl sz ((es.take q).drop l)) [] [] := by
        intro l q h1 h2 hb
        refine does_value fun M' N ρ I a w hW hU hN => ?_
        have r1 := rep_op hU x hx
        rw [hxx] at r1
        obtain ⟨ad, cap, hv, hcap⟩ := isl_len r1
        obtain ⟨m, hm1, hm2, hb⟩ := hb cap a w hcap (fun y hy k n hyn => rep_int (hyn ▸ rep_op hU y hy))
        rw [hv] at r1
        obtain ⟨_, r2⟩ := rep_isl_sub r1 l q m h1 h2 hm1 hm2
        refine ⟨_, ?_, r2⟩
        simp only [execOp, ho, hv, Sem.run_bind, run_sliceAt hD hie hb, Result.andThen_ok, Sem.run_pure, hsz]
      cases lo with
      | none =>
        cases hi with
        | none => cases mx <;> exact h.elim
        | some yh =>
          cases hyh : ev F yh with
          | int kh nh =>
            cases mx with
            | none =>
              simp only [evO, hyh] at h
              refine ⟨_, fin' 0 nh.toNat (by omega) (by omega) ?_, by simpa using h.2⟩
              intro cap a w hc hev
              refine ⟨cap, by omega, Nat.le_refl _, ?_⟩
              have e1 := hev yh (hhi yh rfl) kh nh hyh
              simp only [Option.map_none, Option.map_some, e1, Instr.sliceBounds, Sem.run_bind, Sem.run_pure, Result.andThen_ok, run_sliceBound (show 0 ≤ nh ∧ nh ≤ (cap : Int) by omega)]
            | some ym =>
              cases hym : ev F ym with
              | int km nm =>
                simp only [evO, hyh, hym] at h
                refine ⟨_, fin' 0 nh.toNat (by omega) (by omega) ?_, by simpa using h.2⟩
                intro cap a w hc hev
                refine ⟨nm.toNat, by omega, by omega, ?_⟩
                have e1 := hev yh (hhi yh rfl) kh nh hyh
                have e2 := hev ym (hmx ym rfl) km nm hym
                simp only [Option.map_none, Option.map_some, e1, e2, Instr.sliceBounds, Sem.run_bind, Sem.run_pure, Result.andThen_ok, run_sliceBound (show 0 ≤ nm ∧ nm ≤ (cap : Int) by omega), run_sliceBound (show 0 ≤ nh ∧ nh ≤ (nm.toNat : Int) by omega)]
              | _ => simp only [evO, hyh, hym] at h
          | _ => cases mx <;> (simp only [evO, hyh] at h)
      | some yl =>
        cases hyl : ev F yl with
        | int kl nl =>
          cases hi with
          | none =>
            cases mx with
            | none =>
              simp only [evO, hyl] at h
              refine ⟨_, fin' nl.toNat es.length (by omega) (Nat.le_refl _) ?_, by simpa using h.2⟩
              intro cap a w hc hev
              refine ⟨cap, by omega, Nat.le_refl _, ?_⟩
              have e1 := hev yl (hlo yl rfl) kl nl hyl
              simp only [Option.map_none, Option.map_some, e1, Instr.sliceBounds, Sem.run_bind, Sem.run_pure, Result.andThen_ok, run_sliceBound (show 0 ≤ nl ∧ nl ≤ (es.length : Int) by omega)]
            | some ym => simp only [evO, hyl] at h
          | some yh =>
            cases hyh : ev F yh with
            | int kh nh =>
              cases mx with
              | none =>
                simp only [evO, hyl, hyh] at h
                refine ⟨_, fin' nl.toNat nh.toNat (by omega) (by omega) ?_, by simpa using h.2⟩
                intro cap a w hc hev
                refine ⟨cap, by omega, Nat.le_refl _, ?_⟩
                have e1 := hev yl (hlo yl rfl) kl nl hyl
                have e2 := hev yh (hhi yh rfl) kh nh hyh
                simp only [Option.map_none, Option.map_some, e1, e2, Instr.sliceBounds, Sem.run_bind, Sem.run_pure, Result.andThen_ok, run_sliceBound (show 0 ≤ nh ∧ nh ≤ (cap : Int) by omega), run_sliceBound (show 0 ≤ nl ∧ nl ≤ (nh.toNat : Int) by omega)]
              | some ym => simp only [evO, hyl, hyh] at h
            | _ => cases mx <;> (simp only [evO, hyl, hyh] at h)
        | _ => cases hi <;> cases mx <;> (simp only [evO, hyl] at h)
    | _ => rw [hxx] at h; exact h.elim
  | str =>
    rw [ht] at h
    obtain ⟨D, it, z, hD, hf, _⟩ := hT t (by rw [ht]; simp)
    have hD' := fits_str ht hf
    subst hD'
    cases hxx : ev F x with
    | str s =>
      rw [hxx] at h
      have fin' : mx = none → ∀ (l q : Nat), l ≤ q → q ≤ s.length → (∀ (a : Act) w, (∀ y ∈ o.op.operands.toList, ∀ k n, ev F y = .int k n → a.eval y = .int k n) → ∃ m, (Instr.sliceBounds false s.length s.length (lo.map a.eval) (hi.map a.eval) none).run P w = .ok (l, q, m) w) → Does P X o F M (.str ((s.take q).drop l)) [] [] := by
        intro hmx0 l q h1 h2 hb
        refine does_value fun M' N ρ I a w hW hU hN => ?_
        have r1 := rep_str (hxx ▸ rep_op hU x hx)
        obtain ⟨m, hb⟩ := hb a w (fun y hy k n hyn => rep_int (hyn ▸ rep_op hU y hy))
        refine ⟨.string ⟨((s.take q).drop l).toArray⟩, ?_, .str _⟩
        have hb' : (Instr.sliceBounds false (⟨s.toArray⟩ : ByteArray).size (⟨s.toArray⟩ : ByteArray).size (lo.map a.eval) (hi.map a.eval) none).run P w = .ok (l, q, m) w := hb
        rw [← extract_str s l q h2]
        subst hmx0
        simp only [execOp, ho, r1, Sem.run_bind, Option.map_none, run_sliceAt_str hD hb', Result.andThen_ok, Sem.run_pure]
      cases mx with
      | some ym => cases lo <;> cases hi <;> first | exact h.elim | (simp only [evO] at h; split at h <;> first | exact h.elim | (rename_i hh; simp at hh))
      | none =>
        cases lo with
        | none =>
          cases hi with
          | none => exact h.elim
          | some yh =>
            cases hyh : ev F yh with
            | int kh nh =>
              simp only [evO, hyh] at h
              refine ⟨_, fin' rfl 0 nh.toNat (by omega) (by omega) ?_, by simpa using h.2⟩
              intro a w hev
              have e1 := hev yh (hhi yh rfl) kh nh hyh
              refine ⟨s.length, ?_⟩
              simp only [Option.map_none, Option.map_some, e1, Instr.sliceBounds, Sem.run_bind, Sem.run_pure, Result.andThen_ok, Bool.false_eq_true, if_false, run_sliceBound (show 0 ≤ nh ∧ nh ≤ (s.length : Int) by omega)]
            | _ => simp only [evO, hyh] at h
        | some yl =>
          cases hyl : ev F yl with
          | int kl nl =>
            cases hi with
            | none =>
              simp only [evO, hyl] at h
              refine ⟨_, fin' rfl nl.toNat s.length (by omega) (Nat.le_refl _) ?_, by simpa using h.2⟩
              intro a w hev
              have e1 := hev yl (hlo yl rfl) kl nl hyl
              refine ⟨s.length, ?_⟩
              simp only [Option.map_none, Option.map_some, e1, Instr.sliceBounds, Sem.run_bind, Sem.run_pure, Result.andThen_ok, run_sliceBound (show 0 ≤ nl ∧ nl ≤ (s.length : Int) by omega)]
            | some yh =>
              cases hyh : ev F yh with
              | int kh nh =>
                simp only [evO, hyl, hyh] at h
                refine ⟨_, fin' rfl nl.toNat nh.toNat (by omega) (by omega) ?_, by simpa using h.2⟩
                intro a w hev
                have e1 := hev yl (hlo yl rfl) kl nl hyl
                have e2 := hev yh (hhi yh rfl) kh nh hyh
                refine ⟨s.length, ?_⟩
                simp only [Option.map_none, Option.map_some, e1, e2, Instr.sliceBounds, Sem.run_bind, Sem.run_pure, Result.andThen_ok, Bool.false_eq_true, if_false, run_sliceBound (show 0 ≤ nh ∧ nh ≤ (s.length : Int) by omega), run_sliceBound (show 0 ≤ nl ∧ nl ≤ (nh.toNat : Int) by omega)]
              | _ => simp only [evO, hyl, hyh] at h
          | _ => cases hi <;> (simp only [evO, hyl] at h)
    | _ => rw [hxx] at h; exact h.elim
  | _ => rw [ht] at h; exact h.elim

end Go.AM

/- The abstract machine 'AM', part 12: append. -/



namespace Go.AM
open Go.RowKit
variable {P : Program} {T : TT} {X : Ctx} {o : Oper} {F : Frm} {M : MemF}

/-- Values that are what a row of elements says, one behind the other. -/
def ListOk (ρ : Place) (L : Lens) (I : Nat → Prop) (w : World) (N : Nat → Prop) (sz : Nat) (xs : List (List AV)) (vs : List Value) : Prop :=
  vs.length = xs.length * sz ∧ (∀ e ∈ xs, e.length = sz) ∧ ∀ i j, i < xs.length → j < sz → ∃ u, vs[i * sz + j]? = some u ∧ u.oneCell' = true ∧ Rep ρ L I w N ((xs.getD i []).getD j .bad) u

theorem idx_lt {i j n sz : Nat} (hi : i < n) (hj : j < sz) : i * sz + j < n * sz := by
  have : (i + 1) * sz ≤ n * sz := Nat.mul_le_mul_right _ hi
  rw [Nat.add_mul, Nat.one_mul] at this
  omega

theorem ListOk.append {ρ : Place} {L : Lens} {I : Nat → Prop} {w : World} {N : Nat → Prop} {sz : Nat} {xs ys : List (List AV)} {vs us : List Value} (h : ListOk ρ L I w N sz xs vs) (k : ListOk ρ L I w N sz ys us) : ListOk ρ L I w N sz (xs ++ ys) (vs ++ us) := by
  obtain ⟨h1, h2, h3⟩ := h
  obtain ⟨k1, k2, k3⟩ := k
  refine ⟨by simp [h1, k1, Nat.add_mul], fun e he => ?_, fun i j hi hj => ?_⟩
  · rcases List.mem_append.1 he with he | he
    · exact h2 e he
    · exact k2 e he
  · by_cases hl : i < xs.length
    · obtain ⟨u, hu, hr⟩ := h3 i j hl hj
      have := idx_lt (sz := sz) hl hj
      refine ⟨u, by rw [List.getElem?_append_left (by omega)]; exact hu, ?_⟩
      have e : (xs ++ ys).getD i [] = xs.getD i [] := by simp [List.getD_eq_getElem?_getD, List.getElem?_append_left hl]
      rw [e]; exact hr
    · simp at hi
      obtain ⟨u, hu, hr⟩ := k3 (i - xs.length) j (by omega) hj
      have hm : xs.length * sz ≤ i * sz := Nat.mul_le_mul_right _ (by omega)
      have e1 : i * sz + j - vs.length = (i - xs.length) * sz + j := by rw [h1, Nat.sub_mul]; omega
      refine ⟨u, by rw [List.getElem?_append_right (by omega), e1]; exact hu, ?_⟩
      have e : (xs ++ ys).getD i [] = ys.getD (i - xs.length) [] := by simp [List.getD_eq_getElem?_getD, List.getElem?_append_right (Nat.le_of_not_lt hl)]
      rw [e]; exact hr

theorem ListOk.one {ρ : Place} {L : Lens} {I : Nat → Prop} {w : World} {N : Nat → Prop} {sz : Nat} {xs : List (List AV)} {vs : List Value} (h : ListOk ρ L I w N sz xs vs) : ∀ u ∈ vs, u.oneCell' = true := by
  intro u hu
  obtain ⟨k, hk, rfl⟩ := List.mem_iff_getElem.1 hu
  have hk' : k < xs.length * sz := by rw [← h.1]; exact hk
  have hsz : 0 < sz := by rcases Nat.eq_zero_or_pos sz with h | h; (subst h; simp at hk'); exact h
  have hi : k / sz < xs.length := by rw [Nat.div_lt_iff_lt_mul hsz]; exact hk'
  obtain ⟨u, hu, h1, _⟩ := h.2.2 (k / sz) (k % sz) hi (Nat.mod_lt _ hsz)
  rw [Nat.mul_comm, Nat.div_add_mod, List.getElem?_eq_getElem hk] at hu
  cases hu
  exact h1

theorem ListOk.evo {ρ ρ' : Place} {L L' : Lens} {I I' : Nat → Prop} {w w' : World} {N : Nat → Prop} {sz : Nat} {xs : List (List AV)} {vs : List Value} (E : Evo N ρ L I w ρ' L' I' w') (h : ListOk ρ L I w N sz xs vs) : ListOk ρ' L' I' w' N sz xs vs :=
  ⟨h.1, h.2.1, fun i j hi hj => let ⟨u, hu, h1, hr⟩ := h.2.2 i j hi hj; ⟨u, hu, h1, hr.evo E (fun _ h => h)⟩⟩

/-- The first elements, too. -/
def Pre (P : Program) (sz : Nat) (v : Value) (n : Nat) (vs : List Value) (w : World) : Prop :=
  ∀ m, m ≤ n → (Builtin.firstCells sz m v).run P w = .ok (vs.take (m * sz)).toArray w

theorem Pre.nil {sz n c : Nat} {w : World} : Pre P sz (.slice none n c) 0 [] w := fun m hm => by
  rw [List.take_nil]; exact run_firstCells_none w sz m n c

theorem Pre.some {sz n c k : Nat} {a : Addr} {vs : List Value} {w : World} (hl : vs.length = n * sz) (h : ∀ j u, vs[j]? = some u → w.cell? (a.add j) = some u) : Pre P sz (.slice (some a) k c) n vs w := fun m hm =>
  run_firstCells_some w sz m a k c (vs.take (m * sz)) (by rw [List.length_take, hl]; exact Nat.min_eq_left (Nat.mul_le_mul_right _ hm)) (fun j u hu => by
    rw [List.getElem?_take] at hu
    split at hu
    · exact h j u hu
    · cases hu)

theorem Pre.str {s : ByteArray} {w : World} : Pre P 1 (.string s) s.size (byteCells s) w := fun m hm => by
  simp only [Builtin.firstCells, Sem.run_pure, Nat.mul_one]
  congr 1
  apply Array.ext'
  simp [byteCells, Lib.extract_data, List.map_take]

/-- The elements of an immutable slice. -/
theorem isl_list {ρ : Place} {L : Lens} {I : Nat → Prop} {w : World} {N : Nat → Prop} {sz : Nat} {es : List (List AV)} {v : Value} {tx e : TypeId} (h : Rep ρ L I w N (.isl sz es) v) (hk : P.underlying tx = some (.slice e)) :
    ∃ vs, Src P sz tx v es.length vs w ∧ ListOk ρ L I w N sz es vs ∧ Pre P sz v es.length vs w := by
  cases h with
  | islNil _ a cap hc =>
    cases a with
    | none => exact ⟨[], Src.ofNil w hk cap, ⟨by simp, by simp, fun i j hi => by simp at hi⟩, Pre.nil⟩
    | some a => exact ⟨[], Src.ofSlice w hk a 0 cap [] (by simp) (by simp) (by simp), ⟨by simp, by simp, fun i j hi => by simp at hi⟩, Pre.some (by simp) (by simp)⟩
  | isl _ _ b o cap c hl hc hI hs h1 hcell hr =>
    have hlo : ListOk ρ L I w N sz es ((List.range (es.length * sz)).map fun k => c (k / sz) (k % sz)) := by
      refine ⟨by simp, hs, fun i j hi hj => ?_⟩
      have hlt := idx_lt (sz := sz) hi hj
      have hsz : 0 < sz := by omega
      have e1 : (i * sz + j) / sz = i := by rw [Nat.mul_comm, Nat.mul_add_div hsz, Nat.div_eq_of_lt hj, Nat.add_zero]
      have e2 : (i * sz + j) % sz = j := by rw [Nat.mul_comm, Nat.mul_add_mod, Nat.mod_eq_of_lt hj]
      refine ⟨c i j, by simp [hlt, e1, e2], h1 i j hi hj, (hr i j hi hj).wide (fun _ h => h.elim)⟩
    have hcc : ∀ k u, ((List.range (es.length * sz)).map fun k => c (k / sz) (k % sz))[k]? = some u → w.cell? ((⟨b, o, none⟩ : Addr).add k) = some u := ?_
    · exact ⟨_, Src.ofSlice w hk _ _ _ _ hlo.1 hcc hlo.one, hlo, Pre.some hlo.1 hcc⟩
    intro k u hu
    have hk' : k < es.length * sz := by
      have := (List.getElem?_eq_some_iff.1 hu).1
      simpa using this
    have hsz : 0 < sz := by rcases Nat.eq_zero_or_pos sz with h | h; (subst h; simp at hk'); exact h
    have hi : k / sz < es.length := by rw [Nat.div_lt_iff_lt_mul hsz]; exact hk'
    have hc' := hcell (k / sz) (k % sz) hi (Nat.mod_lt _ hsz)
    have hu' : c (k / sz) (k % sz) = u := by simpa [hk'] using hu
    rw [addr_add, ← hu', ← hc']
    have : k / sz * sz + k % sz = k := by rw [Nat.mul_comm]; exact Nat.div_add_mod _ _
    rw [Nat.add_assoc, this]

theorem str_list {ρ : Place} {L : Lens} {I : Nat → Prop} {w : World} {N : Nat → Prop} {s : List UInt8} {tx : TypeId} (hk : P.underlying tx = some .string) :
    Src P 1 tx (.string ⟨s.toArray⟩) s.length (byteCells ⟨s.toArray⟩) w ∧ ListOk ρ L I w N 1 (s.map fun c => [.int .u8 c.toNat]) (byteCells ⟨s.toArray⟩) ∧ Pre P 1 (.string ⟨s.toArray⟩) s.length (byteCells ⟨s.toArray⟩) w := by
  have h := Src.ofString w hk (⟨s.toArray⟩ : ByteArray)
  refine ⟨h, ⟨by simp [byteCells], fun e he => ?_, fun i j hi hj => ?_⟩, Pre.str⟩
  · obtain ⟨_, _, rfl⟩ := List.mem_map.1 he
    rfl
  · have hj' : j = 0 := by omega
    subst hj'
    simp at hi
    refine ⟨.int .u8 s[i].toNat, by simp [byteCells, hi], rfl, ?_⟩
    have : ((s.map fun c => [AV.int .u8 c.toNat]).getD i []).getD 0 .bad = .int .u8 s[i].toNat := by simp [List.getD_eq_getElem?_getD, hi]
    rw [this]; exact .int _ _

/-- The elements of a local block. -/
theorem BlkOk.list {C : Ctx} {ρ : Place} {L : Lens} {I : Nat → Prop} {w : World} {N : Nat → Prop} {n : Nat} {b : Blk} (B : BlkOk C ρ L I w N n b) {g cap : Nat} (hρ : ρ n = some (g, cap)) :
    ∃ vs, ListOk ρ L I w N b.sz b.es vs ∧ ∀ k u, vs[k]? = some u → w.cell? ⟨g, k, none⟩ = some u := by
  obtain ⟨cs, fr, hg, _, _, _, hlc, _, hcs, hc⟩ := B.real g cap hρ
  have hle : b.es.length * b.sz ≤ cs.size := by rw [hcs]; exact Nat.mul_le_mul_right _ hlc
  refine ⟨cs.toList.take (b.es.length * b.sz), ⟨by simp; omega, B.even, fun i j hi hj => ?_⟩, fun k u hu => ?_⟩
  · obtain ⟨u, hu, hr⟩ := hc i j hi hj
    exact ⟨u, by rw [List.getElem?_take, if_pos (idx_lt hi hj)]; simpa using hu, hr⟩
  · rw [List.getElem?_take] at hu
    split at hu
    · simp only [World.cell?, hg]; simpa using hu
    · cases hu

theorem osl_list {ρ : Place} {I : Nat → Prop} {w : World} {N : Nat → Prop} {n : Nat} {b : Blk} {v : Value} {tx e : TypeId} (hW : Wok X ρ I M N w) (hb : M n = some b) (h : Rep ρ (lens M) I w N (.osl n b.es.length) v) (hk : P.underlying tx = some (.slice e)) :
    ∃ vs, Src P b.sz tx v b.es.length vs w ∧ ListOk ρ (lens M) I w N b.sz b.es vs ∧ Pre P b.sz v b.es.length vs w := by
  have hal : lens M n = some (b.es.length, b.sz) := by rw [lens_some]; exact ⟨b, hb, rfl, rfl⟩
  obtain ⟨hn, h2⟩ := rep_osl h hal
  have B := hW.blk n b hb
  rcases h2 with ⟨h0, q, hv⟩ | ⟨g, cap, hρ, hv⟩
  · have he := B.virt h0
    subst hv
    rw [he]
    cases q with
    | none => exact ⟨[], Src.ofNil w hk 0, ⟨by simp, by simp, fun i j hi => by simp at hi⟩, Pre.nil⟩
    | some a => exact ⟨[], Src.ofSlice w hk a 0 0 [] (by simp) (by simp) (by simp), ⟨by simp, by simp, fun i j hi => by simp at hi⟩, Pre.some (by simp) (by simp)⟩
  · obtain ⟨vs, h1, h2⟩ := B.list hρ
    subst hv
    have hcc : ∀ k u, vs[k]? = some u → w.cell? ((⟨g, 0, none⟩ : Addr).add k) = some u := fun k u hu => by rw [addr_add, Nat.zero_add]; exact h2 k u hu
    exact ⟨vs, Src.ofSlice w hk _ _ _ _ h1.1 hcc h1.one, h1, Pre.some h1.1 hcc⟩

theorem chop_length {sz : Nat} : ∀ {n : Nat} {r : List AV}, (chop sz n r).length = n
  | 0, _ => rfl
  | n + 1, r => by simp [chop, chop_length]

theorem chop_getD {sz : Nat} : ∀ {n : Nat} {r : List AV} {i : Nat}, i < n → (chop sz n r).getD i [] = (r.drop (i * sz)).take sz
  | 0, _, i, h => by omega
  | n + 1, r, 0, h => by simp [chop]
  | n + 1, r, i + 1, h => by
    have := chop_getD (sz := sz) (n := n) (r := r.drop sz) (i := i) (by omega)
    simp only [chop, List.getD_cons_succ, this, List.drop_drop]
    congr 2
    rw [Nat.add_mul, Nat.one_mul]; omega

/-- The elements of a part of a local block. -/
theorem vsl_list {ρ : Place} {I : Nat → Prop} {w : World} {N : Nat → Prop} {n i off cnt sz : Nat} {b : Blk} {v : Value} {tx e : TypeId} (hW : Wok X ρ I M N w) (hb : M n = some b) (h : Rep ρ (lens M) I w N (.vsl n b.es.length i off cnt) v) (hi : i < b.es.length)
    (hfit : off + cnt * sz ≤ b.sz) (hk : P.underlying tx = some (.slice e)) :
    ∃ vs, Src P sz tx v cnt vs w ∧ ListOk ρ (lens M) I w N sz (chop sz cnt ((b.es.getD i []).drop off)) vs ∧ Pre P sz v cnt vs w := by
  have hal : lens M n = some (b.es.length, b.sz) := by rw [lens_some]; exact ⟨b, hb, rfl, rfl⟩
  obtain ⟨hn, g, cap, c, hρ, hv, _⟩ := rep_vsl h hal
  obtain ⟨cs, fr, hg, _, _, _, hlc, _, hcs, hc⟩ := (hW.blk n b hb).real g cap hρ
  have hel : (b.es.getD i []).length = b.sz := by
    rw [List.getD_eq_getElem?_getD, List.getElem?_eq_getElem hi, Option.getD_some]
    exact (hW.blk n b hb).even _ (List.getElem_mem _)
  have hin : i * b.sz + b.sz ≤ cs.size := by
    rw [hcs]
    calc i * b.sz + b.sz = (i + 1) * b.sz := by rw [Nat.add_mul, Nat.one_mul]
      _ ≤ cap * b.sz := Nat.mul_le_mul_right _ (by omega)
  subst hv
  generalize hvs : (cs.toList.drop (i * b.sz + off)).take (cnt * sz) = vs
  have hl : vs.length = cnt * sz := by
    rw [← hvs]
    simp only [List.length_take, List.length_drop, Array.length_toList]; omega
  have hat : ∀ k, k < cnt * sz → vs[k]? = cs[i * b.sz + off + k]? := fun k hk => by
    rw [← hvs, List.getElem?_take, if_pos hk, List.getElem?_drop]; simp
  have hcc : ∀ k u, vs[k]? = some u → w.cell? ((⟨g, i * b.sz + off, none⟩ : Addr).add k) = some u := fun k u hu => by
    have hk' : k < cnt * sz := by rw [← hl]; exact (List.getElem?_eq_some_iff.1 hu).1
    rw [hat k hk'] at hu
    rw [addr_add]
    simpa [World.cell?, hg] using hu
  have hlo : ListOk ρ (lens M) I w N sz (chop sz cnt ((b.es.getD i []).drop off)) vs := by
    refine ⟨by rw [chop_length, hl], fun r hr => ?_, fun p q hp hq => ?_⟩
    · obtain ⟨p, hp, rfl⟩ := List.mem_iff_getElem.1 hr
      rw [chop_length] at hp
      have e1 := chop_getD (sz := sz) (r := (b.es.getD i []).drop off) hp
      rw [List.getD_eq_getElem?_getD, List.getElem?_eq_getElem (by rw [chop_length]; exact hp), Option.getD_some] at e1
      rw [e1]
      have : (p + 1) * sz ≤ cnt * sz := Nat.mul_le_mul_right _ hp
      rw [Nat.add_mul, Nat.one_mul] at this
      simp only [List.length_take, List.length_drop, hel]; omega
    · rw [chop_length] at hp
      have hlt := idx_lt (sz := sz) hp hq
      obtain ⟨u, hu, h1, hr⟩ := hc i (off + (p * sz + q)) hi (by omega)
      refine ⟨u, ?_, h1, ?_⟩
      · rw [hat _ hlt, ← hu]; congr 1; omega
      · rw [chop_getD hp, getD_take_drop _ _ _ _ _ hq]
        simp only [List.getD_eq_getElem?_getD, List.getElem?_drop] at hr ⊢
        rwa [show off + (p * sz + q) = off + (p * sz + q) from rfl] at hr
  exact ⟨vs, Src.ofSlice w hk _ _ _ _ hl hcc hlo.one, hlo, Pre.some hl hcc⟩

/-- The second argument of an append. -/
theorem asrc_sound (hT : TTok P T) {x : Operand} {Ml : Mem} (hM : M = mget Ml) {tx sz : Nat} {K : List (List AV) → Prop} (hx : x ∈ o.op.operands.toList) (hk : (∃ e, P.underlying tx = some (.slice e)) ∨ P.underlying tx = some .string)
    (hks : (∃ s, ev F x = .str s) → P.underlying tx = some .string) (hkl : (¬ ∃ s, ev F x = .str s) → ∃ e, P.underlying tx = some (.slice e)) (h : asrc Ml sz (ev F x) K) :
    ∃ xs, K xs ∧ ∀ M' N ρ I (a : Act) w, Wok X ρ I M' N w → (∀ s ∈ uses o.op, Rep ρ (lens M') I w N (look F s) (a.tmps.getD s undef)) → (∀ s ∈ uses o.op, ∀ n ∈ (look F s).names, M' n = M n) →
      ∃ vs, Src P sz tx (a.eval x) xs.length vs w ∧ ListOk ρ (lens M') I w N sz xs vs ∧ Pre P sz (a.eval x) xs.length vs w := by
  unfold asrc at h
  cases hxx : ev F x with
  | isl s es =>
    rw [hxx] at h
    obtain ⟨hc, h2⟩ := chk_elim h
    have hs : s = sz := by simpa using hc
    subst hs
    obtain ⟨e, hk⟩ := hkl (by rw [hxx]; simp)
    exact ⟨es, h2, fun M' N ρ I a w hW hU hN => isl_list (hxx ▸ rep_op hU x hx) hk⟩
  | nils =>
    rw [hxx] at h
    obtain ⟨e, hk⟩ := hkl (by rw [hxx]; simp)
    refine ⟨[], h, fun M' N ρ I a w hW hU hN => ?_⟩
    have r1 := rep_op hU x hx
    rw [hxx] at r1
    generalize hv : a.eval x = v at r1
    cases r1
    exact ⟨[], Src.ofNil w hk 0, ⟨by simp, by simp, fun i j hi => by simp at hi⟩, Pre.nil⟩
  | osl n len =>
    rw [hxx] at h
    simp only [alive] at h
    obtain ⟨e, hk⟩ := hkl (by rw [hxx]; simp)
    cases hb : mget Ml n with
    | none => rw [hb] at h; exact h.elim
    | some b =>
      rw [hb] at h
      obtain ⟨hc1, h2⟩ := chk_elim h
      obtain ⟨hc2, h3⟩ := chk_elim h2
      have hl : b.es.length = len := by simpa using hc1
      have hs : b.sz = sz := by simpa using hc2
      subst hl; subst hs
      refine ⟨b.es, h3, fun M' N ρ I a w hW hU hN => ?_⟩
      obtain ⟨sl, hsl, hns⟩ := names_op (F := F) x hx (n := n) (by rw [hxx]; simp [AV.names])
      have hMn : M' n = some b := (hN sl hsl n hns).trans (by rw [hM]; exact hb)
      exact osl_list hW hMn (hxx ▸ rep_op hU x hx) hk
  | vsl n len i off cnt =>
    rw [hxx] at h
    simp only [alive] at h
    obtain ⟨e, hk⟩ := hkl (by rw [hxx]; simp)
    cases hb : mget Ml n with
    | none => rw [hb] at h; exact h.elim
    | some b =>
      rw [hb] at h
      obtain ⟨hc1, h2⟩ := chk_elim h
      obtain ⟨hc2, h3⟩ := chk_elim h2
      have hl : b.es.length = len := by simpa using hc1
      simp only [Bool.and_eq_true, Nat.blt_eq, Nat.ble_eq] at hc2
      subst hl
      refine ⟨_, h3, fun M' N ρ I a w hW hU hN => ?_⟩
      obtain ⟨sl, hsl, hns⟩ := names_op (F := F) x hx (n := n) (by rw [hxx]; simp [AV.names])
      have hMn : M' n = some b := (hN sl hsl n hns).trans (by rw [hM]; exact hb)
      rw [chop_length]
      exact vsl_list hW hMn (hxx ▸ rep_op hU x hx) hc2.1.1 hc2.1.2 hk
  | str s =>
    rw [hxx] at h
    obtain ⟨hc, h2⟩ := chk_elim h
    have hs : sz = 1 := by simpa using hc
    subst hs
    refine ⟨_, h2, fun M' N ρ I a w hW hU hN => ?_⟩
    have r1 := rep_str (hxx ▸ rep_op hU x hx)
    rw [r1]
    obtain ⟨h1, h2, h3⟩ := str_list (P := P) (ρ := ρ) (L := lens M') (I := I) (w := w) (N := N) (s := s) (hks ⟨s, hxx⟩)
    exact ⟨_, by simpa using h1, h2, by simpa using h3⟩
  | _ => rw [hxx] at h; exact h.elim

end Go.AM

/- The abstract machine 'AM', part 13: append, the target. -/

namespace Go.AM
open Go.RowKit
variable {P : Program} {T : TT} {X : Ctx} {o : Oper} {F : Frm} {M : MemF}

/-- In place: there is room. -/
theorem app_room {ρ : Place} {I : Nat → Prop} {w : World} {N : Nat → Prop} {M : MemF} (hW : Wok X ρ I M N w) {n : Nat} {b : Blk} (hb : M n = some b) {g cap : Nat} (hρ : ρ n = some (g, cap)) {xs : List (List AV)} {news : List Value}
    (hx : ListOk ρ (lens M) I w N b.sz xs news) (hroom : b.es.length + xs.length ≤ cap) :
    (∀ j, j < news.length → (w.cell? ⟨g, 0 + b.es.length * b.sz + j, none⟩).isSome = true) ∧ (∀ j, j < news.length → w.frozen? ⟨g, 0 + b.es.length * b.sz + j, none⟩ = false) ∧
    Post X M N ρ I w (.osl n (b.es.length + xs.length)) [(n, ⟨b.ty, b.sz, b.es ++ xs⟩)] (.slice (some ⟨g, 0, none⟩) (b.es.length + xs.length) cap) (w.setCells g (0 + b.es.length * b.sz) news) := by
  have B := hW.blk n b hb
  obtain ⟨cs, fr, hg, hfr, hnI, hown, hlc, hcm, hcs, hc⟩ := B.real g cap hρ
  have hfit : b.es.length * b.sz + news.length ≤ cs.size := by
    rw [hx.1, hcs, ← Nat.add_mul]; exact Nat.mul_le_mul_right _ hroom
  have hcellat : ∀ k, w.cell? ⟨g, k, none⟩ = cs[k]? := fun k => by simp [World.cell?, hg]
  refine ⟨fun j hj => by rw [hcellat, Nat.zero_add, Array.getElem?_eq_getElem (by omega)]; rfl, fun j hj => ?_, ?_⟩
  · have := hfr (b.es.length * b.sz + j) (by omega)
    simp only [World.frozen?, hg, Nat.zero_add]
    simpa using this
  · rw [Nat.zero_add]
    obtain ⟨cs', h1, h2, h3⟩ := heap_setCells g b.ty fr news (b.es.length * b.sz) w cs hg hfit
    have hdead : ∀ b0, M n = some b0 → b0 = b := fun b0 h0 => by rw [hb] at h0; exact (Option.some.inj h0).symm
    obtain ⟨E, W⟩ := hW.put (w' := w.setCells g (b.es.length * b.sz) news) n ⟨b.ty, b.sz, b.es ++ xs⟩ g cap cs' fr
      (os_setCells _ _ _ _) (tape_setCells _ _ _ _) (out_setCells _ _ _ _) (by rw [size_setCells]; exact Nat.le_refl _) (fun k _ hk => heap_setCells_ne g _ _ _ _ hk) h1 (fun q hq => hfr q (by omega))
      (.inr ⟨cap, hρ, b, hb⟩) (fun b0 h0 => by rw [hdead b0 h0]; exact ⟨rfl, by simp, fun _ => hρ⟩) (fun _ => ⟨b, hb⟩)
      (fun e he => by
        rcases List.mem_append.1 he with he | he
        · exact B.even e he
        · exact hx.2.1 e he)
      (by simpa using hroom) hcm (by rw [h2]; exact hcs) (fun i j hi hj => by
        simp only [List.length_append] at hi
        show ∃ u, cs'[i * b.sz + j]? = some u ∧ _ ∧ Rep ρ (lens M) I w N (((b.es ++ xs).getD i []).getD j .bad) u
        by_cases hl : i < b.es.length
        · have hlt := idx_lt (sz := b.sz) hl hj
          have e : (b.es ++ xs).getD i [] = b.es.getD i [] := by simp [List.getD_eq_getElem?_getD, List.getElem?_append_left hl]
          rw [h3, if_neg (by omega), e]
          exact hc i j hl hj
        · have hm : b.es.length * b.sz ≤ i * b.sz := Nat.mul_le_mul_right _ (by omega)
          obtain ⟨u, hu, hr⟩ := hx.2.2 (i - b.es.length) j (by omega) hj
          have hlt := idx_lt (sz := b.sz) (show i - b.es.length < xs.length by omega) hj
          have e : (b.es ++ xs).getD i [] = xs.getD (i - b.es.length) [] := by simp [List.getD_eq_getElem?_getD, List.getElem?_append_right (Nat.le_of_not_lt hl)]
          have e1 : i * b.sz + j - b.es.length * b.sz = (i - b.es.length) * b.sz + j := by rw [Nat.sub_mul]; omega
          rw [h3, if_pos (by rw [hx.1]; omega), e, e1]
          exact ⟨u, hu, hr⟩)
    refine ⟨pset ρ n (g, cap), I, E, by rw [naddL_one]; exact W, ?_⟩
    refine rep_osl_mk (sz := b.sz) (.inr ⟨_, List.mem_singleton.2 rfl⟩) ?_ (by simp [pset])
    show lens (mupd M n _) n = _
    rw [lens_mset, if_pos rfl]; simp

theorem size_zeroCells' (z : Array Value) (n : Nat) : (Builtin.zeroCells z n).size = n * z.size := by simp [Builtin.zeroCells]

/-- There is none: a new row. -/
theorem app_grow {ρ : Place} {I : Nat → Prop} {w : World} {N : Nat → Prop} {M : MemF} (hW : Wok X ρ I M N w) {n e sz : Nat} {es0 xs : List (List AV)} {olds news : List Value} {z : Value}
    (hdead : N n → ∃ b0, M n = some b0) (hold : ∀ b0, M n = some b0 → b0.sz = sz ∧ b0.es = es0) (hxs : 0 < xs.length)
    (ho : ListOk ρ (lens M) I w N sz es0 olds) (hx : ListOk ρ (lens M) I w N sz xs news) (hz : z.cells.size = sz) {old : Nat} (hbig : es0.length + xs.length ≤ big) :
    Post X M N ρ I w (.osl n (es0.length + xs.length)) [(n, ⟨e, sz, es0 ++ xs⟩)] (.slice (some ⟨w.heap.size, 0, none⟩) (es0.length + xs.length) (grownCap w (es0.length + xs.length) old e))
      (w.drew.alloc (.cells ((olds ++ news).toArray ++ Builtin.zeroCells z.cells (grownCap w (es0.length + xs.length) old e - (es0.length + xs.length))) e)) := by
  have hge := grownCap_ge w (es0.length + xs.length) old e
  have hcm := grownCap_le_maxLen w (es0.length + xs.length) old e (by simp only [maxLen, big] at *; omega)
  have hall := ho.append hx
  have hlen : (olds ++ news).length = (es0.length + xs.length) * sz := by rw [hall.1, List.length_append]
  obtain ⟨E, W⟩ := hW.put (w' := w.drew.alloc (.cells ((olds ++ news).toArray ++ Builtin.zeroCells z.cells (grownCap w (es0.length + xs.length) old e - (es0.length + xs.length))) e)) n ⟨e, sz, es0 ++ xs⟩ w.heap.size (grownCap w (es0.length + xs.length) old e) _ (0, 0)
    rfl rfl rfl (by simp) (fun k hk _ => Below.heap_alloc w.drew _ k hk) (heap_alloc_new w.drew _) (fun o _ h => by omega)
    (.inl (Nat.le_refl _)) (fun b0 h0 => by
      obtain ⟨h1, h2⟩ := hold b0 h0
      refine ⟨h1, by simp [h2], fun h => ?_⟩
      simp [h2] at h
      have := List.length_pos_iff.1 hxs
      exact (this h).elim) hdead hall.2.1 (by simpa using hge) hcm
    (by
      simp only [Array.size_append, List.size_toArray, size_zeroCells', hz, hlen, ← Nat.add_mul]
      congr 1
      omega)
    (fun i j hi hj => by
      obtain ⟨u, hu, hr⟩ := hall.2.2 i j hi hj
      refine ⟨u, ?_, hr⟩
      have hlt := idx_lt (sz := sz) hi hj
      rw [List.length_append] at hlt
      rw [Array.getElem?_append_left (by simp only [List.size_toArray]; omega)]
      simpa using hu)
  refine ⟨_, I, E, by rw [naddL_one]; exact W, ?_⟩
  refine rep_osl_mk (sz := sz) (.inr ⟨_, List.mem_singleton.2 rfl⟩) ?_ (by simp [pset])
  show lens (mupd M n _) n = _
  rw [lens_mset, if_pos rfl]; simp

theorem mupd_same {M : MemF} {n : Nat} {b : Blk} (h : M n = some b) : mupd M n b = M := by
  funext m; unfold mupd; split
  · subst_vars; exact h.symm
  · rfl

/-- A new name for a slice that is not laid yet. -/
theorem Wok.virt {ρ : Place} {I : Nat → Prop} {w : World} {N : Nat → Prop} {M : MemF} (hW : Wok X ρ I M N w) {n : Nat} (hn : ¬ N n) (e sz : Nat) :
    Evo N ρ (lens M) I w (fun m => if m = n then none else ρ m) (lens (mupd M n ⟨e, sz, []⟩)) I w ∧ Wok X (fun m => if m = n then none else ρ m) I (mupd M n ⟨e, sz, []⟩) (nadd N n) w := by
  have hne : ∀ m b, M m = some b → m ≠ n := fun m b h e' => hn (e' ▸ (hW.blk m b h).lt)
  have E : Evo N ρ (lens M) I w (fun m => if m = n then none else ρ m) (lens (mupd M n ⟨e, sz, []⟩)) I w := by
    refine ⟨fun m len s hm _ _ => ?_, fun m len s hm h => ?_, fun _ h => h, fun _ _ => rfl⟩
    · have : m ≠ n := fun e' => hn (e' ▸ hm)
      simp [this]
    · have : m ≠ n := fun e' => hn (e' ▸ hm)
      rw [lens_mset, if_neg this] at h
      exact ⟨len, h, Nat.le_refl _⟩
  refine ⟨E, fun m b hm => ?_, fun m k b b' g c c' hm hk h1 h2 => ?_, hW.imm, hW.lt, hW.old, hW.keeps, fun m hm => .inr (hW.pn m hm), hW.fp0, hW.par_evo E⟩
  · by_cases hmn : m = n
    · subst hmn
      simp [mupd] at hm
      subst hm
      exact ⟨.inl rfl, by simp, fun _ => rfl, fun g cap h => by simp at h⟩
    · simp only [mupd, if_neg hmn] at hm
      have B := hW.blk m b hm
      refine ⟨.inr B.lt, B.even, fun h => B.virt (by simpa [hmn] using h), fun g cap h => ?_⟩
      obtain ⟨cs, fr, hc1, hcf, hc2, hc3, hc4, hc5, hc6, hc7⟩ := B.real g cap (by simpa [hmn] using h)
      refine ⟨cs, fr, hc1, hcf, hc2, hc3, hc4, hc5, hc6, fun i j hi hj => ?_⟩
      obtain ⟨u, hu, hu1, hr⟩ := hc7 i j hi hj
      exact ⟨u, hu, hu1, (hr.evo E (fun _ h => h)).wide (fun _ h => .inr h)⟩
  · by_cases hmn : m = n
    · simp [hmn] at h1
    · by_cases hkn : k = n
      · simp [hkn] at h2
      · simp only [mupd, if_neg hmn, if_neg hkn] at hm hk h1 h2
        exact hW.inj m k b b' g c c' hm hk h1 h2

theorem run_builtin_append {a : Act} {w : World} {s x : Operand} {t t' : Nat} (ho : o.op = .call { callee := .builtin .append, args := #[s, x], argTypes := #[t, t'] }) :
    (execOp a.eval o).run P w = ((Builtin.append_ #[t, t'] o.type #[a.eval s, a.eval x]).run P w).andThen fun v w' => .ok (.value v) w' := by
  simp [execOp, ho, resolve, invoke, builtin]

theorem does_append (hT : TTok P T) {s x : Operand} {t t' nx : Nat} {Ml : Mem} {K : AV → Mem → Nat → Prop} (hM : M = mget Ml) (ho : o.op = .call { callee := .builtin .append, args := #[s, x], argTypes := #[t, t'] })
    (hok : ∀ e, T.d t = .slice e → (T.d e).ok = true ∧ solid (T.z e) = true ∧ (cells (T.z e)).length = T.s e) (hstr : (∃ q, ev F x = .str q) → T.d t' = .str) (hlist : (¬ ∃ q, ev F x = .str q) → ∃ e, T.d t' = .slice e)
    (h : aappend T t (ev F s) (ev F x) ⟨F, Ml, nx⟩ K) :
    ∃ av n b nw nx', Does P X o F M av [(n, b)] nw ∧ K av (mset Ml n b) nx' ∧ ((nw = [nx] ∧ nx' = nx + 1 ∧ n = nx) ∨ (nx' = nx ∧ nw = [] ∧ n ∈ (ev F s).names)) := by
  have hs : s ∈ o.op.operands.toList := by simp [ho, Op.operands, Call.operands]
  have hx : x ∈ o.op.operands.toList := by simp [ho, Op.operands, Call.operands]
  unfold aappend at h
  cases ht : T.d t with
  | slice e =>
    rw [ht] at h
    simp only at h
    obtain ⟨D, it, z0, hD, hf, _⟩ := hT t (by rw [ht]; simp)
    have hD' := fits_slice ht hf
    subst hD'
    obtain ⟨hoke, hsol, hcl⟩ := hok e ht
    obtain ⟨_, ie, z, _, _, hie, hes, hby, hz, hzz⟩ := hT e (TD.ok_ne hoke)
    have hzs : z.cells.size = T.s e := by
      have := (CellsOk.of_value (ρ := fun _ => none) (L := fun _ => none) (I := fun _ => False) (w := default) (N := NoName) (rep_ofV _ _ _ _ _ z) (by rw [← hzz]; exact hsol)).1
      rw [this, ← hzz, hcl]
    have hkind : ((∃ e, P.underlying t' = some (.slice e)) ∨ P.underlying t' = some .string) ∧ ((∃ q, ev F x = .str q) → P.underlying t' = some .string) ∧ ((¬ ∃ q, ev F x = .str q) → ∃ e, P.underlying t' = some (.slice e)) := by
      by_cases hq : ∃ q, ev F x = .str q
      · have h1 := hstr hq
        obtain ⟨D, _, _, hD2, hf2, _⟩ := hT t' (by rw [h1]; simp)
        have := fits_str h1 hf2
        subst this
        exact ⟨.inr hD2, fun _ => hD2, fun h => (h hq).elim⟩
      · obtain ⟨e', h1⟩ := hlist hq
        obtain ⟨D, _, _, hD2, hf2, _⟩ := hT t' (by rw [h1]; simp)
        have := fits_slice h1 hf2
        subst this
        exact ⟨.inl ⟨_, hD2⟩, fun h => (hq h).elim, fun _ => ⟨_, hD2⟩⟩
    have hfit : ∀ need old, old < need → need ≤ big → Builtin.nextslicecap need old * ie.bytes ≤ 281474976710656 := fun need old h1 h2 => by
      refine growslice_fits h1 ?_
      calc need * ie.bytes ≤ big * 131072 := Nat.mul_le_mul h2 hby
        _ = 140737488355328 := by simp [big]
    cases hss : ev F s with
    | osl n len =>
      rw [hss] at h
      simp only [alive] at h
      cases hb : mget Ml n with
      | none => rw [hb] at h; exact h.elim
      | some b =>
        rw [hb] at h
        obtain ⟨hc1, h2⟩ := chk_elim h
        obtain ⟨hc2, h3⟩ := chk_elim h2
        have hl : b.es.length = len := by simpa using hc1
        simp only [Bool.and_eq_true, beq_iff_eq] at hc2
        obtain ⟨hsz, hty⟩ := hc2
        obtain ⟨xs, ⟨hbig, hk⟩, hsrc⟩ := asrc_sound (X := X) (o := o) hT hM hx hkind.1 hkind.2.1 hkind.2.2 h3
        obtain ⟨sl, hsl, hns⟩ := names_op (F := F) s hs (n := n) (by rw [hss]; simp [AV.names])
        refine ⟨_, n, _, [], nx, ?_, hk, .inr ⟨rfl, rfl, by simp [AV.names]⟩⟩
        refine ⟨fun p hp => .inr ⟨sl, hsl, by simp at hp; rw [hp]; exact hns⟩, fun M' N ρ I a w hW hU hN _ => ?_⟩
        have hMn : M' n = some b := (hN sl hsl n hns).trans (by rw [hM]; exact hb)
        have hal : lens M' n = some (b.es.length, b.sz) := by rw [lens_some]; exact ⟨b, hMn, rfl, rfl⟩
        obtain ⟨vs, hS, hL, -⟩ := hsrc M' N ρ I a w hW hU hN
        have r1 := rep_op hU s hs
        rw [hss] at r1
        subst hl
        obtain ⟨hn, h2⟩ := rep_osl r1 hal
        unfold Yield
        rw [run_builtin_append ho]
        rw [← hsz] at hL hS
        have hS' : Src P ie.size t' (a.eval x) xs.length vs w := by rw [hes, ← hsz]; exact hS
        rcases h2 with ⟨h0, q, hv⟩ | ⟨g, cap, hρ, hv⟩
        · have hB := hW.blk n b hMn
          have he : b.es = [] := hB.virt h0
          rw [hv]
          by_cases hx0 : xs.length = 0
          · have hxs : xs = [] := List.eq_nil_of_length_eq_zero hx0
            have hvs : vs = [] := List.eq_nil_of_length_eq_zero (by have := hL.1; rw [hx0] at this; simpa using this)
            subst hxs; subst hvs
            have hrun := run_append_nothing (P := P) w t t' o.type e ie hD hie q 0 0 (Nat.le_refl _) (a.eval x) (by simpa using hS')
            rw [hrun]
            refine ⟨ρ, I, ?_, ?_, ?_⟩
            · show Evo N ρ (lens M') I w ρ (lens (mupd M' n _)) I w
              have : (⟨b.ty, b.sz, b.es ++ []⟩ : Blk) = b := by cases b; simp
              rw [this, mupd_same hMn]; exact Evo.refl _ _ _ _ _
            · show Wok X ρ I (mupd M' n _) _ w
              have : (⟨b.ty, b.sz, b.es ++ []⟩ : Blk) = b := by cases b; simp
              rw [this, mupd_same hMn]
              have hN' : naddL N [(n, b)] = N := by
                rw [naddL_one]; funext m; simp only [nadd, eq_iff_iff]
                exact ⟨fun h => h.elim (fun e => e ▸ hn) id, .inr⟩
              rw [naddL_one] at hN' ⊢
              rw [hN']; exact hW
            · refine .osl n _ _ (.inl hn) rfl fun l sz' hl' => ?_
              have : (⟨b.ty, b.sz, b.es ++ []⟩ : Blk) = b := by cases b; simp
              rw [this] at hl'
              change lens (mupd M' n b) n = _ at hl'
              rw [lens_mset, if_pos rfl] at hl'
              simp at hl'
              exact ⟨by simp; omega, fun _ => .inl ⟨h0, q, rfl⟩⟩
          · have hfc0 : (Builtin.firstCells ie.size 0 (.slice q 0 0)).run P w.drew = .ok #[] w.drew := by
              cases q with
              | none => exact run_firstCells_none w.drew ie.size 0 0 0
              | some a => exact run_firstCells_some w.drew ie.size 0 a 0 0 [] (by simp) (fun j v hv => by simp at hv)
            have hrun := run_append_grow_src (P := P) w t t' o.type e ie z hD hie hz q 0 0 [] hfc0 (a.eval x) xs.length vs hS' (by omega) (by rw [he] at hbig; simp [big] at hbig ⊢; omega) (hfit _ _ (by omega) (by rw [he] at hbig; simpa using hbig))
            rw [hrun]
            have hpost := app_grow (X := X) (e := e) (olds := []) (old := 0) (z := z) hW (fun _ => ⟨b, hMn⟩) (fun b0 h0 => by rw [hMn] at h0; cases h0; exact ⟨rfl, he⟩) (by omega) ⟨by simp, by simp, fun i j hi => by simp at hi⟩ hL (by rw [hzs, hsz]) (by rw [he] at hbig; simpa using hbig)
            have e1 : b.es.length + xs.length = ([] : List (List AV)).length + xs.length := by rw [he]
            have e2 : (⟨b.ty, b.sz, b.es ++ xs⟩ : Blk) = ⟨e, b.sz, [] ++ xs⟩ := by rw [he, hty]
            rw [e1, e2]
            exact hpost
        · rw [hv]
          by_cases hroom : b.es.length + xs.length ≤ cap
          · obtain ⟨g1, g2, g3⟩ := app_room hW hMn hρ hL hroom
            have hrun := run_append_room_src (P := P) w t t' o.type e ie hD hie g 0 b.es.length cap (a.eval x) xs.length vs hS' hroom (by rw [hes, ← hsz]; exact g1) (by rw [hes, ← hsz]; exact g2)
            rw [hrun, hes, ← hsz]
            exact g3
          · have hB := hW.blk n b hMn
            obtain ⟨olds, ho1, ho2⟩ := hB.list hρ
            have hfc : (Builtin.firstCells ie.size b.es.length (.slice (some ⟨g, 0, none⟩) b.es.length cap)).run P w.drew = .ok olds.toArray w.drew :=
              run_firstCells_some (P := P) w.drew ie.size b.es.length _ _ _ _ (by rw [hes, ← hsz]; exact ho1.1) (fun k u hu => by rw [addr_add, Nat.zero_add]; exact ho2 k u hu)
            have hrun := run_append_grow_src (P := P) w t t' o.type e ie z hD hie hz _ b.es.length cap olds hfc (a.eval x) xs.length vs hS' (by omega) (by simp [big] at hbig ⊢; omega) (hfit _ _ (by omega) hbig)
            rw [hrun]
            have hcap : b.es.length ≤ cap := by obtain ⟨_, _, _, _, _, _, hh, _⟩ := hB.real g cap hρ; exact hh
            have hpost := app_grow (X := X) (e := e) (old := cap) (z := z) hW (fun _ => ⟨b, hMn⟩) (fun b0 h0 => by rw [hMn] at h0; cases h0; exact ⟨rfl, rfl⟩) (by omega) ho1 hL (by rw [hzs, hsz]) hbig
            rw [← hty] at hpost ⊢
            exact hpost
    | nils =>
      rw [hss] at h
      obtain ⟨xs, ⟨hbig, hk⟩, hsrc⟩ := asrc_sound (X := X) (o := o) hT hM hx hkind.1 hkind.2.1 hkind.2.2 h
      refine ⟨_, nx, _, [nx], nx + 1, ?_, hk, .inl ⟨rfl, rfl, rfl⟩⟩
      refine ⟨fun p hp => .inl (by simp at hp; simp [hp]), fun M' N ρ I a w hW hU hN hF => ?_⟩
      have hn : ¬ N nx := hF nx (by simp)
      obtain ⟨vs, hS, hL, -⟩ := hsrc M' N ρ I a w hW hU hN
      have r1 := rep_op hU s hs
      rw [hss] at r1
      generalize hv : a.eval s = v at r1
      cases r1
      unfold Yield
      rw [run_builtin_append ho, hv]
      have hS' : Src P ie.size t' (a.eval x) xs.length vs w := by rw [hes]; exact hS
      by_cases hx0 : xs.length = 0
      · have hxs : xs = [] := List.eq_nil_of_length_eq_zero hx0
        have hvs : vs = [] := List.eq_nil_of_length_eq_zero (by have := hL.1; rw [hx0] at this; simpa using this)
        subst hxs; subst hvs
        have hrun := run_append_nothing (P := P) w t t' o.type e ie hD hie none 0 0 (Nat.le_refl _) (a.eval x) (by simpa using hS')
        rw [hrun]
        obtain ⟨E, W⟩ := hW.virt hn e (T.s e)
        refine ⟨_, I, E, by rw [naddL_one]; exact W, ?_⟩
        refine .osl nx _ _ (.inr ⟨_, List.mem_singleton.2 rfl⟩) rfl fun l sz' hl' => ?_
        change lens (mupd M' nx _) nx = _ at hl'
        rw [lens_mset, if_pos rfl] at hl'
        simp at hl'
        exact ⟨by simp, fun _ => .inl ⟨by simp, none, rfl⟩⟩
      · have hrun := run_append_grow_src (P := P) w t t' o.type e ie z hD hie hz none 0 0 [] (run_firstCells_none w.drew ie.size 0 0 0) (a.eval x) xs.length vs hS' (by omega) (by simp [big] at hbig ⊢; omega) (hfit _ _ (by omega) (by simpa using hbig))
        rw [hrun]
        have hpost := app_grow (X := X) (n := nx) (e := e) (olds := []) (es0 := []) (old := 0) (z := z) hW (fun h => (hn h).elim) (fun b0 h0 => (hn (hW.blk nx b0 h0).lt).elim) (by omega) ⟨by simp, by simp, fun i j hi => by simp at hi⟩ hL hzs (by simpa using hbig)
        have e1 : xs.length = ([] : List (List AV)).length + xs.length := by simp
        have e2 : (⟨e, T.s e, xs⟩ : Blk) = ⟨e, T.s e, [] ++ xs⟩ := by simp
        rw [e2]
        show Post X M' N ρ I w (.osl nx xs.length) _ _ _
        rw [e1]
        simpa using hpost
    | _ => rw [hss] at h; exact h.elim
  | _ => rw [ht] at h; exact h.elim

end Go.AM

/- The abstract machine 'AM', part 14: lengths, minima, calls. -/

namespace Go.AM
open Go.RowKit
variable {P : Program} {T : TT} {X : Ctx} {o : Oper} {F : Frm} {M : MemF}

theorem run_builtin_of {a : Act} {w : World} {b : Builtin} {args : Array Operand} {ts : Array TypeId} (ho : o.op = .call { callee := .builtin b, args := args, argTypes := ts }) :
    (execOp a.eval o).run P w = (builtin b ts o.type (args.map fun | .const _ => true | _ => false) (args.map a.eval)).run P w := by
  simp only [execOp, ho, resolve, invoke, Sem.run_bind, Sem.run_pure, Result.andThen_ok]
  rfl

theorem does_len_lit {n : Int} {args : Array Operand} {ts : Array TypeId} (ho : o.op = .call { callee := .builtin .len, args := args, argTypes := ts })
    (h : ∀ M' N ρ I (a : Act) w, Wok X ρ I M' N w → (∀ s ∈ uses o.op, Rep ρ (lens M') I w N (look F s) (a.tmps.getD s undef)) → (∀ s ∈ uses o.op, ∀ n ∈ (look F s).names, M' n = M n) → (Builtin.len_ ts o.type (args.map a.eval)).run P w = .ok (.int .i64 n) w) :
    Does P X o F M (.int .i64 n) [] [] := by
  refine does_value fun M' N ρ I a w hW hU hN => ⟨.int .i64 n, ?_, .int _ _⟩
  rw [run_builtin_of ho]
  simp [builtin, h M' N ρ I a w hW hU hN]

theorem does_len (hT : TTok P T) {x : Operand} {t : Nat} {K : AV → Prop} {Ml : Mem} (hM : M = mget Ml) (ho : o.op = .call { callee := .builtin .len, args := #[x], argTypes := #[t] })
    (h : match T.d t with
      | .arr n _ => K (.int .i64 n)
      | .slice _ => (match ev F x with
        | .isl _ es => K (.int .i64 es.length)
        | .osl n len => alive Ml n len fun _ => K (.int .i64 len)
        | .vsl n len _ _ cnt => alive Ml n len fun _ => K (.int .i64 cnt)
        | .nils => K (.int .i64 0)
        | _ => False)
      | .str => (match ev F x with
        | .str s => K (.int .i64 s.length)
        | _ => False)
      | _ => False) : ∃ av, Does P X o F M av [] [] ∧ K av := by
  have hx : x ∈ o.op.operands.toList := by simp [ho, Op.operands, Call.operands]
  cases ht : T.d t with
  | arr n e =>
    rw [ht] at h
    obtain ⟨D, it, z0, hD, hf, _⟩ := hT t (by rw [ht]; simp)
    have hD' := fits_arr ht hf
    subst hD'
    refine ⟨_, does_len_lit ho fun M' N ρ I a w hW hU hN => ?_, h⟩
    simp [Builtin.len_, run_underlying hD, goInt]
  | str =>
    rw [ht] at h
    obtain ⟨D, it, z0, hD, hf, _⟩ := hT t (by rw [ht]; simp)
    have hD' := fits_str ht hf
    subst hD'
    cases hxx : ev F x with
    | str s =>
      rw [hxx] at h
      refine ⟨_, does_len_lit ho fun M' N ρ I a w hW hU hN => ?_, h⟩
      have r1 := rep_str (hxx ▸ rep_op hU x hx)
      have e : (⟨s.toArray⟩ : ByteArray).size = s.length := rfl
      simp [Builtin.len_, run_underlying hD, goInt, r1, e]
    | _ => rw [hxx] at h; exact h.elim
  | slice e =>
    rw [ht] at h
    obtain ⟨D, it, z0, hD, hf, _⟩ := hT t (by rw [ht]; simp)
    have hD' := fits_slice ht hf
    subst hD'
    have go : ∀ n : Nat, (∀ M' N ρ I (a : Act) w, Wok X ρ I M' N w → (∀ s ∈ uses o.op, Rep ρ (lens M') I w N (look F s) (a.tmps.getD s undef)) → (∀ s ∈ uses o.op, ∀ n ∈ (look F s).names, M' n = M n) → ∃ ad cap, a.eval x = .slice ad n cap) →
        Does P X o F M (.int .i64 n) [] [] := by
      intro n hh
      refine does_len_lit ho fun M' N ρ I a w hW hU hN => ?_
      obtain ⟨ad, cap, hv⟩ := hh M' N ρ I a w hW hU hN
      simp [Builtin.len_, run_underlying hD, goInt, hv]
    cases hxx : ev F x with
    | isl sz es =>
      rw [hxx] at h
      refine ⟨_, go es.length fun M' N ρ I a w hW hU hN => ?_, h⟩
      obtain ⟨ad, cap, hv, _⟩ := isl_len (hxx ▸ rep_op hU x hx)
      exact ⟨ad, cap, hv⟩
    | nils =>
      rw [hxx] at h
      refine ⟨_, go 0 fun M' N ρ I a w hW hU hN => ?_, h⟩
      have r1 := rep_op hU x hx
      rw [hxx] at r1
      generalize hv : a.eval x = v at r1
      cases r1
      exact ⟨none, 0, rfl⟩
    | osl n len =>
      rw [hxx] at h
      simp only [alive] at h
      cases hb : mget Ml n with
      | none => rw [hb] at h; exact h.elim
      | some b =>
        rw [hb] at h
        obtain ⟨hc1, h2⟩ := chk_elim h
        have hl : b.es.length = len := by simpa using hc1
        refine ⟨_, go len fun M' N ρ I a w hW hU hN => ?_, h2⟩
        obtain ⟨sl, hsl, hns⟩ := names_op (F := F) x hx (n := n) (by rw [hxx]; simp [AV.names])
        have hMn : M' n = some b := (hN sl hsl n hns).trans (by rw [hM]; exact hb)
        have hal : lens M' n = some (len, b.sz) := by rw [lens_some]; exact ⟨b, hMn, hl, rfl⟩
        have r1 := rep_op hU x hx
        rw [hxx] at r1
        obtain ⟨_, ⟨h0, q, hv⟩ | ⟨g, cap, hρ, hv⟩⟩ := rep_osl r1 hal
        · have := (hW.blk n b hMn).virt h0
          rw [this] at hl
          simp at hl
          subst hl
          exact ⟨_, _, hv⟩
        · exact ⟨_, _, hv⟩
    | vsl n len i off cnt =>
      rw [hxx] at h
      simp only [alive] at h
      cases hb : mget Ml n with
      | none => rw [hb] at h; exact h.elim
      | some b =>
        rw [hb] at h
        obtain ⟨hc1, h2⟩ := chk_elim h
        have hl : b.es.length = len := by simpa using hc1
        refine ⟨_, go cnt fun M' N ρ I a w hW hU hN => ?_, h2⟩
        obtain ⟨sl, hsl, hns⟩ := names_op (F := F) x hx (n := n) (by rw [hxx]; simp [AV.names])
        have hMn : M' n = some b := (hN sl hsl n hns).trans (by rw [hM]; exact hb)
        have hal : lens M' n = some (len, b.sz) := by rw [lens_some]; exact ⟨b, hMn, hl, rfl⟩
        have r1 := rep_op hU x hx
        rw [hxx] at r1
        obtain ⟨_, g, cap, c, hρ, hv, _⟩ := rep_vsl r1 hal
        exact ⟨_, _, hv⟩
    | _ => rw [hxx] at h; exact h.elim
  | _ => rw [ht] at h; exact h.elim

theorem aminF_sound {k : IntKind} {w : World} {ρ : Place} {L : Lens} {I : Nat → Prop} {N : Nat → Prop} : ∀ (as : List AV) (vs : List Value) (a : Int), RepL ρ L I w N as vs → aminF k a as ≠ .bad →
    ∃ n, aminF k a as = .int k n ∧ (vs.foldlM Builtin.min2 (.int k a)).run P w = .ok (.int k n) w
  | [], vs, a, h, _ => by
    have : vs = [] := List.eq_nil_of_length_eq_zero (by simpa using h.1)
    subst this
    exact ⟨a, rfl, rfl⟩
  | x :: r, vs, a, h, hb => by
    cases vs with
    | nil => simp [RepL] at h
    | cons v vs =>
      have h0 := h.2 0 (by simp)
      simp at h0
      cases x with
      | int k' b =>
        have hv := rep_int h0
        subst hv
        have hr : RepL ρ L I w N r vs := ⟨by simpa using h.1, fun j hj => by simpa using h.2 (j + 1) (by simpa using hj)⟩
        obtain ⟨n, h1, h2⟩ := aminF_sound r vs (min a b) hr hb
        refine ⟨n, h1, ?_⟩
        have e : (if b < a then b else a) = min a b := by omega
        simp only [List.foldlM_cons, Builtin.min2, Sem.run_bind, Sem.run_pure, Result.andThen_ok, e]
        exact h2
      | _ => exact (hb rfl).elim

theorem amaxF_sound {k : IntKind} {w : World} {ρ : Place} {L : Lens} {I : Nat → Prop} {N : Nat → Prop} : ∀ (as : List AV) (vs : List Value) (a : Int), RepL ρ L I w N as vs → amaxF k a as ≠ .bad →
    ∃ n, amaxF k a as = .int k n ∧ (vs.foldlM Builtin.max2 (.int k a)).run P w = .ok (.int k n) w
  | [], vs, a, h, _ => by
    have : vs = [] := List.eq_nil_of_length_eq_zero (by simpa using h.1)
    subst this
    exact ⟨a, rfl, rfl⟩
  | x :: r, vs, a, h, hb => by
    cases vs with
    | nil => simp [RepL] at h
    | cons v vs =>
      have h0 := h.2 0 (by simp)
      simp at h0
      cases x with
      | int k' b =>
        have hv := rep_int h0
        subst hv
        have hr : RepL ρ L I w N r vs := ⟨by simpa using h.1, fun j hj => by simpa using h.2 (j + 1) (by simpa using hj)⟩
        obtain ⟨n, h1, h2⟩ := amaxF_sound r vs (max a b) hr hb
        refine ⟨n, h1, ?_⟩
        have e : (if b > a then b else a) = max a b := by omega
        simp only [List.foldlM_cons, Builtin.max2, Sem.run_bind, Sem.run_pure, Result.andThen_ok, e]
        exact h2
      | _ => exact (hb rfl).elim

theorem does_minmax {mx : Bool} {args : Array Operand} {ts : Array TypeId} (ho : o.op = .call { callee := .builtin (if mx then .max else .min), args := args, argTypes := ts })
    (h : (if mx then amax (evL F args.toList) else amin (evL F args.toList)) ≠ .bad) : Does P X o F M (if mx then amax (evL F args.toList) else amin (evL F args.toList)) [] [] := by
  refine does_value fun M' N ρ I a w hW hU hN => ?_
  have hR := repL_evL (F := F) (ρ := ρ) (L := lens M') (I := I) (w := w) (N := N) (a := a) args.toList (fun x hx => rep_op hU x (by simpa [ho, Op.operands, Call.operands] using hx))
  rw [run_builtin_of ho]
  cases hl : args.toList with
  | nil => cases mx <;> simp [hl, evL, amin, amax] at h
  | cons x r =>
    rw [hl] at h hR
    simp only [evL, List.map_cons] at h hR ⊢
    have h0 := hR.2 0 (by simp)
    simp at h0
    cases hx : ev F x with
    | int k n0 =>
      rw [hx] at h h0
      have hv := rep_int h0
      have hr : RepL ρ (lens M') I w N (evL F r) (r.map a.eval) := ⟨by simpa using hR.1, fun j hj => by simpa using hR.2 (j + 1) (by simpa using hj)⟩
      have ha : (args.map a.eval).toList = .int k n0 :: r.map a.eval := by rw [Array.toList_map, hl, List.map_cons, hv]
      cases mx with
      | true =>
        obtain ⟨n, h1, h2⟩ := amaxF_sound (P := P) _ _ n0 hr (by simpa [amax] using h)
        refine ⟨.int k n, ?_, by simp only [if_true, amax, h1]; exact .int _ _⟩
        simp only [if_true, builtin, Builtin.max_, ha, h2, Sem.run_bind, Result.andThen_ok, Sem.run_pure]
      | false =>
        obtain ⟨n, h1, h2⟩ := aminF_sound (P := P) _ _ n0 hr (by simpa [amin] using h)
        refine ⟨.int k n, ?_, by simp only [Bool.false_eq_true, if_false, amin, h1]; exact .int _ _⟩
        simp only [Bool.false_eq_true, if_false, builtin, Builtin.min_, ha, h2, Sem.run_bind, Result.andThen_ok, Sem.run_pure]
    | _ => rw [hx] at h; cases mx <;> simp [amin, amax] at h

theorem namesL_append : ∀ a b : List AV, AV.namesL (a ++ b) = AV.namesL a ++ AV.namesL b
  | [], b => rfl
  | x :: r, b => by simp [AV.namesL, namesL_append r b]

theorem mem_namesL_evL {n : Nat} : ∀ {l : List Operand}, n ∈ AV.namesL (evL F l) → ∃ x ∈ l, n ∈ (ev F x).names
  | [], h => by simp [evL, AV.namesL] at h
  | x :: r, h => by
    simp only [evL, AV.namesL, List.mem_append] at h
    rcases h with h | h
    · exact ⟨x, List.mem_cons_self, h⟩
    · obtain ⟨y, hy, hn⟩ := mem_namesL_evL h
      exact ⟨y, List.mem_cons_of_mem _ hy, hn⟩

theorem RepL.append {ρ : Place} {L : Lens} {I : Nat → Prop} {w : World} {N : Nat → Prop} {as bs : List AV} {vs us : List Value} (h : RepL ρ L I w N as vs) (k : RepL ρ L I w N bs us) : RepL ρ L I w N (as ++ bs) (vs ++ us) := by
  refine ⟨by simp [h.1, k.1], fun j hj => ?_⟩
  by_cases hl : j < as.length
  · have e1 : (as ++ bs).getD j .bad = as.getD j .bad := by simp [List.getD_eq_getElem?_getD, List.getElem?_append_left hl]
    have e2 : (vs ++ us).getD j default = vs.getD j default := by simp [List.getD_eq_getElem?_getD, List.getElem?_append_left (show j < vs.length by rw [h.1]; exact hl)]
    rw [e1, e2]; exact h.2 j hl
  · have e1 : (as ++ bs).getD j .bad = bs.getD (j - as.length) .bad := by simp [List.getD_eq_getElem?_getD, List.getElem?_append_right (Nat.le_of_not_lt hl)]
    have e2 : (vs ++ us).getD j default = us.getD (j - as.length) default := by simp [List.getD_eq_getElem?_getD, List.getElem?_append_right (show vs.length ≤ j by rw [h.1]; omega), h.1]
    rw [e1, e2]; exact k.2 _ (by simp at hj; omega)

/-- A call of a function, or of a function value. -/
theorem does_call {f : Operand} {args : Array Operand} {ts : Array TypeId} {g : Nat} {caps : List AV} {av : AV} {ws : List (Nat × Blk)} {nw : List Nat} (ho : o.op = .call { callee := .value f, args := args, argTypes := ts }) (hf : ev F f = .clo g caps)
    (hfn : ∃ fn, P.funcs[g]? = some fn ∧ (fn.name == "runtime.NumGoroutine") = false ∧ fn.body.isNone = false) (hc : CallL P X g (evL F args.toList ++ caps) M av ws nw) : Does P X o F M av ws nw := by
  have hfo : f ∈ o.op.operands.toList := by simp [ho, Op.operands, Call.operands]
  have hao : ∀ x ∈ args.toList, x ∈ o.op.operands.toList := fun x hx => by
    simp only [ho, Op.operands, Call.operands, Array.toList_append]
    exact List.mem_append_right _ hx
  have hnm : ∀ n ∈ AV.namesL (evL F args.toList ++ caps), ∃ s ∈ uses o.op, n ∈ (look F s).names := by
    intro n hn
    rw [namesL_append, List.mem_append] at hn
    rcases hn with hn | hn
    · obtain ⟨x, hx, hn⟩ := mem_namesL_evL hn
      exact names_op x (hao x hx) hn
    · exact names_op f hfo (by rw [hf]; simpa [AV.names] using hn)
  refine ⟨fun p hp => (hc.1 p hp).imp id (hnm p.1), fun M' N ρ I a w hW hU hN hF => ?_⟩
  have r1 := rep_op hU f hfo
  rw [hf] at r1
  generalize hv : a.eval f = v at r1
  cases r1 with
  | clo _ _ us hl hr =>
    have hR := (repL_evL (F := F) (ρ := ρ) (L := lens M') (I := I) (w := w) (N := N) (a := a) args.toList (fun x hx => rep_op hU x (hao x hx))).append (⟨hl, hr⟩ : RepL ρ (lens M') I w N caps us)
    have hcall := hc.2 M' N ρ I w _ hW (fun n hn => by obtain ⟨s, hs, hns⟩ := hnm n hn; exact hN s hs n hns) hF hR
    obtain ⟨fn, hfn, hname, hbody⟩ := hfn
    unfold Yield
    have hrun : (execOp a.eval o).run P w = .ok (.enter g ((args.toList.map a.eval ++ us).toArray)) w := by
      have e : (args.map a.eval) ++ us.toArray = (args.toList.map a.eval ++ us).toArray := by apply Array.ext'; simp
      have hname' : ¬ fn.name = "runtime.NumGoroutine" := by simpa using hname
      have hbody' : ¬ fn.body = none := by intro h; rw [h] at hbody; simp at hbody
      simp [execOp, ho, resolve, hv, Deferred.ofValue, invoke, callFunc, hfn, hname', hbody', e]
    rw [hrun]
    exact ⟨rfl, hcall⟩

/-- A name in a call's arguments is one in a slot that is read. -/
theorem names_call {f : Operand} {args : Array Operand} {ts : Array TypeId} {g : Nat} {caps : List AV} (ho : o.op = .call { callee := .value f, args := args, argTypes := ts }) (hf : ev F f = .clo g caps) : ∀ n ∈ AV.namesL (evL F args.toList ++ caps), ∃ s ∈ uses o.op, n ∈ (look F s).names := by
  have hfo : f ∈ o.op.operands.toList := by simp [ho, Op.operands, Call.operands]
  have hao : ∀ x ∈ args.toList, x ∈ o.op.operands.toList := fun x hx => by
    simp only [ho, Op.operands, Call.operands, Array.toList_append]
    exact List.mem_append_right _ hx
  intro n hn
  rw [namesL_append, List.mem_append] at hn
  rcases hn with hn | hn
  · obtain ⟨x, hx, hn⟩ := mem_namesL_evL hn
    exact names_op x (hao x hx) hn
  · exact names_op f hfo (by rw [hf]; simpa [AV.names] using hn)

/-- The same, of a call that may look into more than its arguments name. -/
theorem does_callR {Rx : List Nat} {f : Operand} {args : Array Operand} {ts : Array TypeId} {g : Nat} {caps : List AV} {av : AV} {ws : List (Nat × Blk)} {nw : List Nat} (ho : o.op = .call { callee := .value f, args := args, argTypes := ts }) (hf : ev F f = .clo g caps)
    (hfn : ∃ fn, P.funcs[g]? = some fn ∧ (fn.name == "runtime.NumGoroutine") = false ∧ fn.body.isNone = false) {Ry : List Nat} (hc : CallR P X g (evL F args.toList ++ caps) Ry M av ws nw) (hy : ∀ n ∈ Ry, n ∈ Rx) (hx : ∀ s ∈ uses o.op, ∀ n ∈ (look F s).names, n ∈ Rx) : DoesR P X o F M Rx av ws nw := by
  have hfo : f ∈ o.op.operands.toList := by simp [ho, Op.operands, Call.operands]
  have hao : ∀ x ∈ args.toList, x ∈ o.op.operands.toList := fun x hx => by
    simp only [ho, Op.operands, Call.operands, Array.toList_append]
    exact List.mem_append_right _ hx
  refine ⟨fun p hp => (hc.1 p hp).imp id (fun h => .inr ⟨hy _ h.1, h.2⟩), hx, fun M' N ρ I a w hW hU hN hF => ?_⟩
  have r1 := rep_op hU f hfo
  rw [hf] at r1
  generalize hv : a.eval f = v at r1
  cases r1 with
  | clo _ _ us hl hr =>
    have hR := (repL_evL (F := F) (ρ := ρ) (L := lens M') (I := I) (w := w) (N := N) (a := a) args.toList (fun x hx => rep_op hU x (hao x hx))).append (⟨hl, hr⟩ : RepL ρ (lens M') I w N caps us)
    have hcall := hc.2 M' N ρ I w _ hW (fun n hn => hN n (hy n hn)) hF hR
    obtain ⟨fn, hfn, hname, hbody⟩ := hfn
    unfold Yield
    have hrun : (execOp a.eval o).run P w = .ok (.enter g ((args.toList.map a.eval ++ us).toArray)) w := by
      have e : (args.map a.eval) ++ us.toArray = (args.toList.map a.eval ++ us).toArray := by apply Array.ext'; simp
      have hname' : ¬ fn.name = "runtime.NumGoroutine" := by simpa using hname
      have hbody' : ¬ fn.body = none := by intro h; rw [h] at hbody; simp at hbody
      simp [execOp, ho, resolve, hv, Deferred.ofValue, invoke, callFunc, hfn, hname', hbody', e]
    rw [hrun]
    exact ⟨rfl, hcall⟩

end Go.AM

/- The abstract machine 'AM', part 15: what the machine says is so. -/

namespace Go.AM
open Go.RowKit
variable {P : Program} {T : TT} {X : Ctx}

end Go.AM

/- The abstract machine 'AM', part 15b: a statement that draws the order of its operations: what holds in the text's order holds in each. -/

namespace Go.AM
open Go.RowKit
variable {P : Program} {T : TT} {X : Ctx}

theorem put_look {a : Act} {d : Option Nat} {v : Value} {F : Frm} {av : AV} {i size : Nat} (hs : a.tmps.size = size) (hd : ∀ x, d = some x → x < size) :
    (look (updF F d av) i = av ∧ (a.put d v).tmps.getD i undef = v) ∨ (look (updF F d av) i = look F i ∧ (a.put d v).tmps.getD i undef = a.tmps.getD i undef) := by
  cases d with
  | none => exact .inr ⟨rfl, rfl⟩
  | some x =>
    by_cases h : i = x
    · subst h
      left
      have := hd i rfl
      refine ⟨by simp [updF, look], ?_⟩
      simp only [Act.put]
      rw [Array.getD_eq_getD_getElem?, Array.getElem?_setIfInBounds_self_of_lt (by omega)]
      rfl
    · right
      have hb : (i == x) = false := by simpa using h
      refine ⟨by simp [updF, look, hb], ?_⟩
      simp only [Act.put]
      rw [Array.getD_eq_getD_getElem?, Array.getElem?_setIfInBounds_ne (by omega), ← Array.getD_eq_getD_getElem?]

/-- One operation that is wanted. -/
theorem op_step {b : Frame} {all : Array Oper} {i : Nat} {rest : List Nat} {k : List Item} {cs : List Frame} {o : Oper} {a : Act} {w : World} {M : MemF} {N : Nat → Prop} {ρ : Place} {I : Nat → Prop} {av : AV} {ws : List (Nat × Blk)}
    (ho : all[i]? = some o) (hw : Region.wanted o (yielded all a.tmps) = true) (hy : Yield P X o a M N ρ I w av ws) :
    ∃ v w1, Post X M N ρ I w av ws v w1 ∧ Steps P (lone (b.at a (.inRegion all (i :: rest) :: k)) cs w) (lone (b.at (a.put o.dst v) (.inRegion all rest :: k)) cs w1) := by
  have hg := stepG_op (P := P) (b := b) (k := k) (cs := cs) (w := w) (rest := rest) ho hw
  have hfin : ∀ v, (b.at a (.inRegion all (i :: rest) :: k)).finish v = b.at (a.put o.dst v) (.inRegion all rest :: k) := by
    intro v; rw [Frame.finish_at, ho]; rfl
  unfold Yield at hy
  split at hy
  · rename_i v w' hr
    refine ⟨v, w', hy, .one (step_lone_go ?_)⟩
    rw [hg, ← hfin]; simp [stepG.apply, hr]
  · rename_i w' hr
    refine ⟨undef, w', hy, .one (step_lone_go ?_)⟩
    rw [hg, ← hfin]; simp [stepG.apply, hr]
  · rename_i f args w' hr
    obtain ⟨rfl, hc⟩ := hy
    obtain ⟨e, w'', fr, hR, hsteps, _, hleave⟩ := hc (b.at a (.inRegion all (i :: rest) :: k) :: cs)
    obtain ⟨v, rfl, hp⟩ := hR
    have henter : step P (lone (b.at a (.inRegion all (i :: rest) :: k)) cs w') =
        .next (lone (Frame.enter P f args .normal) (b.at a (.inRegion all (i :: rest) :: k) :: cs) w') :=
      step_lone_go (by rw [hg]; simp [stepG.apply, hr, Frame.at])
    refine ⟨v, w'', hp, .head henter (hsteps.trans (.one ?_))⟩
    rw [← hfin]; exact step_leave_returned hleave
  · exact hy.elim

theorem yielded_of {all : Array Oper} {tmps : Array Value} {j s : Nat} (h : (all[j]?).bind (·.dst) = some s) : yielded all tmps j = match tmps[s]? with | some (.bool b) => some b | _ => none := by
  unfold yielded; rw [h]; rfl

theorem getD_bool {tmps : Array Value} {s : Nat} {t : Bool} (h : tmps.getD s undef = .bool t) : tmps[s]? = some (.bool t) := by
  rw [Array.getD_eq_getD_getElem?] at h
  cases hh : tmps[s]? with
  | none => rw [hh] at h; simp [undef] at h
  | some v => rw [hh] at h; simpa using h

/-! ### Updates in any order -/
section
variable {V : Type}
def ov (g : Nat → Option V) (f : Nat → V) : Nat → V := fun k => (g k).getD (f k)
def fl (gs : Nat → Nat → Option V) (L : Nat → Prop) [DecidablePred L] : Nat → (Nat → V) → Nat → V
  | 0, f => f
  | m + 1, f => if L m then ov (gs m) (fl gs L m f) else fl gs L m f

theorem fl_agree {gs : Nat → Nat → Option V} {L L' : Nat → Prop} [DecidablePred L] [DecidablePred L'] {f : Nat → V} {k : Nat} : ∀ {m : Nat}, (∀ i, i < m → gs i k ≠ none → (L i ↔ L' i)) → fl gs L m f k = fl gs L' m f k
  | 0, _ => rfl
  | m + 1, h => by
    have ih := fl_agree (gs := gs) (f := f) (k := k) (m := m) (fun i hi => h i (by omega))
    simp only [fl]
    cases hg : gs m k with
    | none =>
      have e1 : (if L m then ov (gs m) (fl gs L m f) else fl gs L m f) k = fl gs L m f k := by split <;> simp [ov, hg]
      have e2 : (if L' m then ov (gs m) (fl gs L' m f) else fl gs L' m f) k = fl gs L' m f k := by split <;> simp [ov, hg]
      rw [e1, e2, ih]
    | some v =>
      have hh := h m (by omega) (by rw [hg]; simp)
      by_cases hl : L m
      · rw [if_pos hl, if_pos (hh.1 hl)]; simp [ov, hg]
      · rw [if_neg hl, if_neg (fun h => hl (hh.2 h))]; exact ih

theorem fl_add {gs : Nat → Nat → Option V} {L L' : Nat → Prop} [DecidablePred L] [DecidablePred L'] {f : Nat → V} {k j : Nat} (hL : ∀ i, L' i ↔ (i = j ∨ L i)) (hj : ¬ L j) : ∀ {m : Nat}, j < m → (∀ i, i < m → i ≠ j → gs j k ≠ none → gs i k ≠ none → L i → i < j) →
    fl gs L' m f k = (gs j k).getD (fl gs L m f k)
  | 0, h, _ => by omega
  | m + 1, hm, h => by
    have hne : ∀ i, i ≠ j → (L' i ↔ L i) := fun i hi => by rw [hL]; exact ⟨fun h => h.elim (fun e => (hi e).elim) id, .inr⟩
    simp only [fl]
    by_cases e : j = m
    · subst e
      have h1 : fl gs L' j f k = fl gs L j f k := fl_agree (fun i hi _ => hne i (by omega))
      rw [if_pos ((hL j).2 (.inl rfl)), if_neg hj]
      simp only [ov, h1]
    · have ih := fl_add (gs := gs) (f := f) (k := k) hL hj (m := m) (by omega) (fun i hi => h i (by omega))
      have hLm : L' m ↔ L m := hne m (fun h => e h.symm)
      by_cases hl : L m
      · rw [if_pos (hLm.2 hl), if_pos hl]
        simp only [ov]
        cases hg : gs m k with
        | none => simpa using ih
        | some v =>
          cases hgj : gs j k with
          | none => simp
          | some u =>
            have := h m (by omega) (by omega) (by rw [hgj]; simp) (by rw [hg]; simp) hl
            omega
      · rw [if_neg (fun h => hl (hLm.1 h)), if_neg hl]; exact ih
end

/-! ### What is ordered -/
def Dir (ops : Array Oper) (i j : Nat) : Prop := ∃ o e, ops[j]? = some o ∧ e ∈ o.after.toList ∧ Region.binds .any e = true ∧ e.on = i
def Closed (ops : Array Oper) (L : Nat → Prop) : Prop := ∀ i j, Dir ops i j → L j → L i
def Before (ops : Array Oper) (i j : Nat) : Prop := ∀ L : Nat → Prop, Closed ops L → (∀ k, Dir ops k j → L k) → L i

theorem backOk_spec : ∀ (r : List Oper) (i : Nat), backOk i r = true → ∀ k o, r[k]? = some o → ∀ e ∈ o.after.toList, Region.binds .any e = true → e.on < i + k
  | [], i, _, k, o, h => by simp at h
  | x :: r, i, hb, k, o, h => by
    simp only [backOk, Bool.and_eq_true] at hb
    intro e he hbi
    cases k with
    | zero =>
      simp only [List.getElem?_cons_zero, Option.some.injEq] at h
      subst h
      have := List.all_eq_true.1 hb.1 e he
      simp only [hbi, Bool.not_true, Bool.false_or] at this
      rw [Nat.blt_eq] at this
      omega
    | succ k =>
      have := backOk_spec r (i + 1) hb.2 k o (by simpa using h) e he hbi
      omega

theorem bmask_spec {acc : List Nat} {i : Nat} : ∀ {es : List Edge}, (bmask acc es).testBit i = true → ∃ e ∈ es, Region.binds .any e = true ∧ (e.on = i ∨ (acc.getD e.on 0).testBit i = true)
  | [], h => by simp [bmask] at h
  | e :: r, h => by
    simp only [bmask] at h
    cases hb : Region.binds .any e with
    | true =>
      rw [hb] at h
      simp only [cond_true, Nat.testBit_or, Bool.or_eq_true] at h
      rcases h with (h | h) | h
      · exact ⟨e, List.mem_cons_self, hb, .inl (by simpa [Nat.testBit_two_pow] using h)⟩
      · exact ⟨e, List.mem_cons_self, hb, .inr h⟩
      · obtain ⟨e', h1, h2⟩ := bmask_spec h
        exact ⟨e', List.mem_cons_of_mem _ h1, h2⟩
    | false =>
      rw [hb] at h
      obtain ⟨e', h1, h2⟩ := bmask_spec h
      exact ⟨e', List.mem_cons_of_mem _ h1, h2⟩

theorem masks_spec {ops : Array Oper} : ∀ (r : List Oper) (acc : List Nat), r = ops.toList.drop acc.length → (∀ k i, (acc.getD k 0).testBit i = true → Before ops i k) → ∀ k i, ((masks r acc).getD k 0).testBit i = true → Before ops i k
  | [], acc, _, h, k, i, hb => h k i hb
  | o :: r, acc, hr, h, k, i, hb => by
    have ho : ops[acc.length]? = some o := by
      have : (ops.toList.drop acc.length)[0]? = some o := by rw [← hr]; rfl
      simpa using this
    have hr' : r = ops.toList.drop (acc.length + 1) := by
      have : (o :: r).drop 1 = (ops.toList.drop acc.length).drop 1 := by rw [hr]
      simpa [List.drop_drop] using this
    refine masks_spec r (acc ++ [bmask acc o.after.toList]) (by simpa using hr') (fun k i hb => ?_) k i hb
    by_cases hk : k < acc.length
    · exact h k i (by simpa [List.getD_eq_getElem?_getD, List.getElem?_append_left hk] using hb)
    · by_cases hk2 : k = acc.length
      · subst hk2
        have : (bmask acc o.after.toList).testBit i = true := by simpa [List.getD_eq_getElem?_getD] using hb
        obtain ⟨e, he, hbi, h1 | h1⟩ := bmask_spec this
        · exact fun L _ hp => hp i ⟨o, e, ho, he, hbi, h1⟩
        · exact fun L hc hp => h e.on i h1 L hc (fun k' hk' => hc _ _ hk' (hp e.on ⟨o, e, ho, he, hbi, rfl⟩))
      · rw [List.getD_eq_getElem?_getD, List.getElem?_eq_none (by simp; omega)] at hb
        simp at hb

structure Ent where
  F : Frm
  M : Mem
  lo : Nat
  run : Bool
  av : AV
  ws : List (Nat × Blk)
  nw : List Nat
  W : List Nat
  R : List Nat
  k : Nat

def guardIs (ops : Array Oper) (o : Oper) (F : Frm) (run : Bool) : Prop :=
  match o.guard with
  | none => run = true
  | some (j, want) => ∃ s, (ops[j]?).bind (·.dst) = some s ∧ ((run = true ∧ look F s = .bool want) ∨ (run = false ∧ (look F s = .bool (!want) ∨ look F s = .tup [])))

def Logged (log : List LogE) (x : LogE) : Prop := x ∈ log ∨ (x.R = [] ∧ x.W = [] ∧ x.lo = x.hi)

structure EntOk (P : Program) (X : Ctx) (ops : Array Oper) (flog : List LogE) (E : Nat → Ent) (j : Nat) (o : Oper) : Prop where
  guard : guardIs ops o (E j).F (E j).run
  does : (E j).run = true → DoesR P X o (E j).F (mget (E j).M) (E j).R (E j).av (E j).ws (E j).nw
  wn : ∀ p ∈ (E j).ws, p.1 ∈ (E j).nw ∨ p.1 ∈ (E j).W
  skip : (E j).run = false → (E j).av = .tup [] ∧ (E j).ws = [] ∧ (E j).nw = []
  le : (E j).lo ≤ (E (j + 1)).lo
  nw : ∀ n ∈ (E j).nw, (E j).lo ≤ n ∧ n < (E (j + 1)).lo
  F : look (E (j + 1)).F = look (updF (E j).F o.dst (E j).av)
  M : mget (E (j + 1)).M = mget (msets (E j).M (E j).ws)
  log : (E j).run = true → Logged flog ⟨j, (E j).R, (E j).W, (E j).lo, (E (j + 1)).lo, (E j).k⟩
  adr : (E j).run = true → (E j).k = 1 → DoesL P X o (E j).F (mget (E j).M) (E j).av ∧ (E j).ws = []
  sto : (E j).run = true → (E j).k = 2 → ∀ p ∈ (E j).ws, lens (mget (E j).M) p.1 = some (p.2.es.length, p.2.sz)

theorem logged_addE {log flog : List LogE} {i : Nat} {R W : List Nat} {lo hi k : Nat} (h : ∀ x ∈ addE i R W lo hi k log, x ∈ flog) : Logged flog ⟨i, R, W, lo, hi, k⟩ := by
  unfold addE at h
  cases hc : (R.isEmpty && W.isEmpty) && lo == hi with
  | true =>
    simp only [Bool.and_eq_true, List.isEmpty_iff, beq_iff_eq] at hc
    exact .inr ⟨hc.1.1, hc.1.2, hc.2⟩
  | false => rw [hc] at h; exact .inl (h _ List.mem_cons_self)

theorem addE_sub {log : List LogE} {i : Nat} {R W : List Nat} {lo hi k : Nat} : ∀ x ∈ log, x ∈ addE i R W lo hi k log := by
  intro x hx
  unfold addE
  cases (R.isEmpty && W.isEmpty) && lo == hi
  · exact List.mem_cons_of_mem _ hx
  · exact hx

theorem look_known {F : Frm} {s : Nat} {v : AV} (h : look F s = v) : look ((s, v) :: F) = look F := by
  funext i
  by_cases e : i = s
  · subst e; simp [look, h]
  · have : (i == s) = false := by simpa using e
    simp [look, this]

theorem rdn_congr {F F' : Frm} (h : look F = look F') : ∀ l, rdn F l = rdn F' l
  | [] => rfl
  | s :: r => by simp only [rdn, h, rdn_congr h r]

theorem gslot_gadd {all : Array Oper} {gd : List (Nat × Nat)} {i : Nat} {o : Oper} (ho : all[i]? = some o) (h : ∀ j s, gslot gd j = some s → (all[j]?).bind (·.dst) = some s) : ∀ j s, gslot (gadd gd i o.dst) j = some s → (all[j]?).bind (·.dst) = some s := by
  intro j s hj
  cases hd : o.dst with
  | none => rw [hd] at hj; exact h j s hj
  | some d =>
    rw [hd] at hj
    simp only [gadd, gslot] at hj
    by_cases e : j = i
    · subst e
      simp at hj
      subst hj
      rw [ho]; exact hd
    · have : (j == i) = false := by simpa using e
      rw [this] at hj
      exact h j s hj

end Go.AM

/- The abstract machine 'AM', part 15c: whatever order is drawn, the state at the end is the text's. -/

namespace Go.AM
open Go.RowKit
variable {P : Program} {T : TT} {X : Ctx}

theorem mem_namesL : ∀ {cs : List AV} {m : Nat}, m ∈ AV.namesL cs → ∃ j, j < cs.length ∧ m ∈ (cs.getD j .bad).names
  | [], _, h => by simp [AV.namesL] at h
  | c :: cs, m, h => by
    simp only [AV.namesL, List.mem_append] at h
    rcases h with h | h
    · exact ⟨0, by simp, by simpa using h⟩
    · obtain ⟨j, hj, hm⟩ := mem_namesL h
      exact ⟨j + 1, by simpa using hj, by simpa using hm⟩

theorem rep_names {ρ : Place} {L : Lens} {I : Nat → Prop} {w : World} {N : Nat → Prop} {a : AV} {v : Value} (h : Rep ρ L I w N a v) : ∀ m ∈ a.names, N m := by
  induction h with
  | loc n len i off v hn h1 h => intro m hm; simp [AV.names] at hm; exact hm ▸ hn
  | osl n len v hn h1 h => intro m hm; simp [AV.names] at hm; exact hm ▸ hn
  | vsl n len i off cnt v hn h1 h => intro m hm; simp [AV.names] at hm; exact hm ▸ hn
  | clo f caps vs hl hr ih => intro m hm; obtain ⟨j, hj, hm⟩ := mem_namesL (by simpa [AV.names] using hm); exact ih j hj m hm
  | agg cs vs hl h1 hr ih => intro m hm; obtain ⟨j, hj, hm⟩ := mem_namesL (by simpa [AV.names] using hm); exact ih j hj m hm
  | tup cs vs hl hr ih => intro m hm; obtain ⟨j, hj, hm⟩ := mem_namesL (by simpa [AV.names] using hm); exact ih j hj m hm
  | _ => intro m hm; simp [AV.names] at hm

theorem Wok.widen {ρ : Place} {I : Nat → Prop} {M : MemF} {N N' : Nat → Prop} {w : World} (W : Wok X ρ I M N w) (hN : ∀ m, N m → N' m) : Wok X ρ I M N' w := by
  refine ⟨fun n b hb => ?_, W.inj, W.imm, W.lt, W.old, W.keeps, fun n hn => hN n (W.pn n hn), W.fp0, W.par⟩
  have B := W.blk n b hb
  refine ⟨hN n B.lt, B.even, B.virt, fun g cap hρ => ?_⟩
  obtain ⟨cs, fr, hc1, hcf, hc2, hc3, hc4, hc5, hc6, hc7⟩ := B.real g cap hρ
  refine ⟨cs, fr, hc1, hcf, hc2, hc3, hc4, hc5, hc6, fun i j hi hj => ?_⟩
  obtain ⟨u, hu, hu1, hr⟩ := hc7 i j hi hj
  exact ⟨u, hu, hu1, hr.wide hN⟩

def wsF : List (Nat × Blk) → Nat → Option (Option Blk)
  | [], _ => none
  | (n, b) :: r, k => match wsF r k with
    | some x => some x
    | none => if k = n then some (some b) else none

theorem mups_ov : ∀ (ws : List (Nat × Blk)) (M : MemF), mups M ws = ov (wsF ws) M
  | [], M => by funext k; rfl
  | (n, b) :: r, M => by
    funext k
    simp only [mups, mups_ov r, ov, wsF]
    cases hw : wsF r k with
    | some x => simp
    | none => by_cases h : k = n <;> simp [mupd, h]

theorem mem_wsF : ∀ {ws : List (Nat × Blk)} {k : Nat}, wsF ws k ≠ none → ∃ p ∈ ws, p.1 = k
  | [], k, h => by simp [wsF] at h
  | (n, b) :: r, k, h => by
    simp only [wsF] at h
    cases hw : wsF r k with
    | some x => obtain ⟨p, h1, h2⟩ := mem_wsF (ws := r) (k := k) (by rw [hw]; simp); exact ⟨p, List.mem_cons_of_mem _ h1, h2⟩
    | none =>
      rw [hw] at h
      by_cases e : k = n
      · exact ⟨_, List.mem_cons_self, e.symm⟩
      · simp [e] at h

def dstF (d : Option Nat) (av : AV) (k : Nat) : Option AV := match d with
  | some d => if k = d then some av else none
  | none => none
theorem look_updF (F : Frm) (d : Option Nat) (av : AV) : look (updF F d av) = ov (dstF d av) (look F) := by
  funext k
  cases d with
  | none => rfl
  | some d =>
    by_cases h : k = d
    · subst h; simp [updF, look, ov, dstF]
    · have : (k == d) = false := by simpa using h
      simp [updF, look, ov, dstF, h, this]

theorem fl_lt {V : Type} {gs : Nat → Nat → Option V} {f : Nat → V} {k j : Nat} : ∀ {m : Nat}, j ≤ m → fl gs (· < j) m f k = fl gs (fun _ => True) j f k
  | 0, h => by have : j = 0 := by omega
               subst this; rfl
  | m + 1, h => by
    by_cases e : j = m + 1
    · subst e
      exact fl_agree (fun i hi _ => by simp [hi])
    · have ih := fl_lt (gs := gs) (f := f) (k := k) (j := j) (m := m) (by omega)
      simp only [fl]
      rw [if_neg (by omega)]
      exact ih

theorem put_getD {a : Act} {d : Option Nat} {v : Value} {s size : Nat} (hs : a.tmps.size = size) (hd : ∀ x, d = some x → x < size) : (a.put d v).tmps.getD s undef = if d = some s then v else a.tmps.getD s undef := by
  cases d with
  | none => simp [Act.put]
  | some x =>
    by_cases h : x = s
    · subst h
      have := hd x rfl
      simp only [Act.put, if_pos]
      rw [Array.getD_eq_getD_getElem?, Array.getElem?_setIfInBounds_self_of_lt (by omega)]
      rfl
    · have h' : ¬ (some x = some s) := by simpa using h
      rw [if_neg h']
      simp only [Act.put]
      rw [Array.getD_eq_getD_getElem?, Array.getElem?_setIfInBounds_ne h, ← Array.getD_eq_getD_getElem?]

section
variable {ops : Array Oper} {E : Nat → Ent} {S : St} {flog : List LogE}

def gF (ops : Array Oper) (E : Nat → Ent) (j : Nat) : Nat → Option AV := dstF ((ops[j]?).bind (·.dst)) (E j).av
def gM (E : Nat → Ent) (j : Nat) : Nat → Option (Option Blk) := wsF (E j).ws

structure Traced (P : Program) (X : Ctx) (ops : Array Oper) (E : Nat → Ent) (S : St) (flog : List LogE) : Prop where
  conf : confOk ops flog = true
  draw : drawOk ops = true
  F0 : look (E 0).F = look S.F
  M0 : (E 0).M = S.M
  lo0 : (E 0).lo = S.nx
  ok : ∀ (j : Nat) (o : Oper), ops[j]? = some o → EntOk P X ops flog E j o
  size : ∀ (j : Nat) (o : Oper), ops[j]? = some o → ∀ d, o.dst = some d → d < X.size

theorem Traced.textF (h : Traced P X ops E S flog) : ∀ j, j ≤ ops.size → fl (gF ops E) (fun _ => True) j (look S.F) = look (E j).F
  | 0, _ => h.F0.symm
  | j + 1, hj => by
    have ho : ops[j]? = some ops[j] := Array.getElem?_eq_getElem (by omega)
    have R := h.ok j _ ho
    rw [R.F, look_updF]
    simp only [fl, if_true]
    rw [h.textF j (by omega)]
    simp only [gF, ho, Option.bind_some]

theorem Traced.textM (h : Traced P X ops E S flog) : ∀ j, j ≤ ops.size → fl (gM E) (fun _ => True) j (mget S.M) = mget (E j).M
  | 0, _ => by rw [h.M0]; rfl
  | j + 1, hj => by
    have ho : ops[j]? = some ops[j] := Array.getElem?_eq_getElem (by omega)
    have R := h.ok j _ ho
    rw [R.M, mget_msets, mups_ov]
    simp only [fl, if_true]
    rw [h.textM j (by omega)]
    rfl

theorem Traced.lo (h : Traced P X ops E S flog) {i : Nat} : ∀ {j : Nat}, i ≤ j → j ≤ ops.size → (E i).lo ≤ (E j).lo
  | 0, hij, _ => by have : i = 0 := by omega
                    subst this; exact Nat.le_refl _
  | j + 1, hij, hj => by
    by_cases e : i = j + 1
    · subst e; exact Nat.le_refl _
    · have ho : ops[j]? = some ops[j] := Array.getElem?_eq_getElem (by omega)
      exact Nat.le_trans (h.lo (i := i) (j := j) (by omega) (by omega)) (h.ok j _ ho).le

theorem Traced.dir (h : Traced P X ops E S flog) {i j : Nat} (hd : Dir ops i j) : i < j := by
  obtain ⟨o, e, ho, he, hb, rfl⟩ := hd
  have := h.draw
  simp only [drawOk, Bool.and_eq_true] at this
  have := backOk_spec _ 0 this.1 j o (by simpa using ho) e he hb
  omega

theorem Traced.before_lt (h : Traced P X ops E S flog) {i j : Nat} (hb : Before ops i j) : i < j :=
  hb (· < j) (fun a b hd hb => by have := h.dir hd; omega) (fun k hk => h.dir hk)

theorem mask_before {i j : Nat} (h : ((masks ops.toList []).getD j 0).testBit i = true) : Before ops i j :=
  masks_spec ops.toList [] (by simp) (fun k i h => by simp at h) j i h

theorem Traced.apart (h : Traced P X ops E S flog) {i j : Nat} {x y : Oper} (hi : ops[i]? = some x) (hj : ops[j]? = some y) (hij : i < j) : Before ops i j ∨ x.apart ops y = true := by
  have := h.draw
  simp only [drawOk, Bool.and_eq_true, slotsOk] at this
  have hj' := (Array.getElem?_eq_some_iff.1 hj).1
  have h1 := List.all_eq_true.1 this.2 j (List.mem_range.2 hj')
  have h2 := List.all_eq_true.1 h1 i (List.mem_range.2 hij)
  rw [hi, hj] at h2
  rw [Bool.or_eq_true] at h2
  rcases h2 with h | h
  · exact .inl (mask_before h)
  · exact .inr h

theorem gF_some {i k : Nat} (h : gF ops E i k ≠ none) : ∃ o, ops[i]? = some o ∧ o.dst = some k := by
  unfold gF at h
  cases ho : ops[i]? with
  | none => rw [ho] at h; simp [dstF] at h
  | some o =>
    refine ⟨o, rfl, ?_⟩
    rw [ho] at h
    simp only [Option.bind_some] at h
    cases hd : o.dst with
    | none => rw [hd] at h; simp [dstF] at h
    | some d =>
      rw [hd] at h
      by_cases e : k = d
      · rw [e]
      · simp [dstF, e] at h

/-- What an operation that comes up finds in the slots that it looks at. -/
theorem Traced.slot (h : Traced P X ops E S flog) {L : Nat → Prop} [DecidablePred L] (hc : Closed ops L) {j : Nat} {o : Oper} (ho : ops[j]? = some o) (hj : ¬ L j) (hp : ∀ k, Dir ops k j → L k) {s : Nat} (hs : s ∈ o.looksAt ops) :
    fl (gF ops E) L ops.size (look S.F) s = look (E j).F s := by
  have hjs := (Array.getElem?_eq_some_iff.1 ho).1
  rw [← h.textF j (by omega), ← fl_lt (m := ops.size) (by omega)]
  refine fl_agree fun i hi hg => ?_
  obtain ⟨x, hx, hd⟩ := gF_some hg
  rcases Nat.lt_trichotomy i j with hij | hij | hij
  · rcases h.apart hx ho hij with hb | hb
    · exact ⟨fun _ => hij, fun _ => hb L hc hp⟩
    · exact ((Oper.apart_spec hb).1 s hd hs).elim
  · subst hij; exact ⟨fun h => (hj h).elim, fun h => by omega⟩
  · rcases h.apart ho hx hij with hb | hb
    · exact ⟨fun hl => (hj (hb L hc (fun k hk => hc k i hk hl))).elim, fun h => by omega⟩
    · exact ((Oper.apart_spec hb).2.2 s hd hs).elim

theorem Traced.slotAdd (h : Traced P X ops E S flog) {L : Nat → Prop} (hc : Closed ops L) {j : Nat} {o : Oper} (ho : ops[j]? = some o) (hj : ¬ L j) {k i : Nat} (hij : i ≠ j) (h1 : gF ops E j k ≠ none) (h2 : gF ops E i k ≠ none) (hl : L i) : i < j := by
  obtain ⟨x, hx, hd⟩ := gF_some h2
  obtain ⟨y, hy, hd'⟩ := gF_some h1
  rcases Nat.lt_trichotomy i j with h3 | h3 | h3
  · exact h3
  · omega
  · rcases h.apart hy hx h3 with hb | hb
    · exact (hj (hb L hc (fun k hk => hc k i hk hl))).elim
    · exact ((Oper.apart_spec hb).2.1 k hd' hd).elim

theorem mem_rdn {F : Frm} {n : Nat} : ∀ {l : List Nat}, n ∈ rdn F l ↔ ∃ s ∈ l, n ∈ (look F s).names
  | [] => by simp [rdn]
  | s :: r => by simp [rdn, mem_rdn (l := r)]

theorem offr_spec {lo hi : Nat} {R W : List Nat} (h : offr lo hi R W = true) {n : Nat} (hn : n ∈ R) : ¬ (lo ≤ n ∧ n < hi) ∧ n ∉ W := by
  have := List.all_eq_true.1 h n hn
  simp only [Bool.and_eq_true, Bool.not_eq_true', Bool.and_eq_false_iff, List.any_eq_false] at this
  refine ⟨?_, fun hw => ?_⟩
  · rintro ⟨h1, h2⟩
    rcases this.1 with h3 | h3
    · have := Nat.ble_eq_true_of_le h1; rw [h3] at this; simp at this
    · have h2' : Nat.blt n hi = true := by rw [Nat.blt_eq]; exact h2
      rw [h3] at h2'; simp at h2'
  · exact this.2 n hw (Nat.beq_refl n)

/-- The operation's names are of old blocks, whose shape nobody changes. -/
def okA (E : Nat → Ent) (flog : List LogE) (j : Nat) : Prop := okAddr flog ⟨j, (E j).R, (E j).W, (E j).lo, (E (j + 1)).lo, (E j).k⟩ = true

/-- Two operations of which neither is ordered ahead of the other leave one another's blocks alone. -/
theorem Traced.pair (h : Traced P X ops E S flog) {i j : Nat} {x y : Oper} (hi : ops[i]? = some x) (hj : ops[j]? = some y) (hij : i ≠ j) (ri : (E i).run = true) (rj : (E j).run = true) (ni : ¬ okA E flog i) (nj : ¬ okA E flog j) :
    Before ops i j ∨ Before ops j i ∨ (∀ n, (∃ p ∈ (E i).ws, p.1 = n) → n ∉ (E j).R) ∧ (∀ n, (∃ p ∈ (E i).ws, p.1 = n) → (∃ p ∈ (E j).ws, p.1 = n) → False) := by
  have Ri := h.ok i x hi
  have Rj := h.ok j y hj
  have hi' := (Array.getElem?_eq_some_iff.1 hi).1
  have hj' := (Array.getElem?_eq_some_iff.1 hj).1
  have li := Ri.log ri
  have lj := Rj.log rj
  have key : Before ops i j ∨ Before ops j i ∨ ((∀ n ∈ (E j).R, ¬ ((E i).lo ≤ n ∧ n < (E (i + 1)).lo) ∧ n ∉ (E i).W) ∧ (∀ n ∈ (E i).R, ¬ ((E j).lo ≤ n ∧ n < (E (j + 1)).lo) ∧ n ∉ (E j).W)) := by
    rcases li with li | ⟨hR, hW, hlo⟩
    · rcases lj with lj | ⟨hR', hW', hlo'⟩
      · have h1 := List.all_eq_true.1 (List.all_eq_true.1 h.conf _ li) _ lj
        simp only [Bool.or_eq_true, Nat.beq_eq_true_eq] at h1
        rcases h1 with ((h1 | h1) | h1) | h1
        · exact (hij (Nat.eq_of_beq_eq_true h1)).elim
        rotate_left
        · exact (ni h1).elim
        · exact (nj h1).elim
        · simp only [pairOk, Bool.or_eq_true, Bool.and_eq_true] at h1
          rcases h1 with (h1 | h1) | ⟨h1, h2⟩
          · exact .inr (.inl (mask_before h1))
          · exact .inl (mask_before h1)
          · exact .inr (.inr ⟨fun n hn => offr_spec h1 hn, fun n hn => offr_spec h2 hn⟩)
      · refine .inr (.inr ⟨fun n hn => ?_, fun n hn => ?_⟩)
        · simp only at hR'; rw [hR'] at hn; simp at hn
        · simp only at hW' hlo'; rw [hW']; exact ⟨by omega, by simp⟩
    · refine .inr (.inr ⟨fun n hn => ?_, fun n hn => ?_⟩)
      · simp only at hW hlo; rw [hW]; exact ⟨by omega, by simp⟩
      · simp only at hR; rw [hR] at hn; simp at hn
  rcases key with h1 | h1 | ⟨k1, k2⟩
  · exact .inl h1
  · exact .inr (.inl h1)
  refine .inr (.inr ⟨fun n ⟨p, hp, hn⟩ hr => ?_, fun n ⟨p, hp, hn⟩ ⟨q, hq, hn'⟩ => ?_⟩)
  · subst hn
    rcases Ri.wn p hp with hw | hw
    · exact (k1 _ hr).1 (Ri.nw _ hw)
    · exact (k1 _ hr).2 hw
  · subst hn
    have inI : p.1 ∈ (E i).nw ∨ p.1 ∈ (E i).R := by
      rcases (Ri.does ri).1 p hp with hv | ⟨s', hs', hv⟩ | ⟨hv, _⟩
      · exact .inl hv
      · exact .inr ((Ri.does ri).2.1 s' hs' _ hv)
      · exact .inr hv
    have inJ : q.1 ∈ (E j).nw ∨ q.1 ∈ (E j).R := by
      rcases (Rj.does rj).1 q hq with hv | ⟨s', hs', hv⟩ | ⟨hv, _⟩
      · exact .inl hv
      · exact .inr ((Rj.does rj).2.1 s' hs' _ hv)
      · exact .inr hv
    rcases inJ with hw | hw
    · rw [hn'] at hw
      rcases inI with hv | hv
      · have a1 := Ri.nw _ hv
        have a2 := Rj.nw _ hw
        rcases Nat.lt_or_gt_of_ne hij with hlt | hlt
        · have := h.lo (i := i + 1) (j := j) (by omega) (by omega); omega
        · have := h.lo (i := j + 1) (j := i) (by omega) (by omega); omega
      · exact (k2 _ hv).1 (Rj.nw _ hw)
    · rw [hn'] at hw
      rcases Ri.wn p hp with hv | hv
      · exact (k1 _ hw).1 (Ri.nw _ hv)
      · exact (k1 _ hw).2 hv

theorem Traced.runs (h : Traced P X ops E S flog) {i : Nat} {k : Nat} (hi : i < ops.size) (hg : gM E i k ≠ none) : ∃ x, ops[i]? = some x ∧ (E i).run = true ∧ ∃ p ∈ (E i).ws, p.1 = k := by
  have ho : ops[i]? = some ops[i] := Array.getElem?_eq_getElem hi
  have hp := mem_wsF hg
  refine ⟨_, ho, ?_, hp⟩
  cases hr : (E i).run with
  | true => rfl
  | false =>
    obtain ⟨_, h2, _⟩ := (h.ok i _ ho).skip hr
    rw [h2] at hp
    simp at hp

/-- Who writes tells no address. -/
theorem Traced.notA (h : Traced P X ops E S flog) {i n : Nat} {x : Oper} (hx : ops[i]? = some x) (hr : (E i).run = true) (hw : ∃ p ∈ (E i).ws, p.1 = n) : ¬ okA E flog i := by
  intro ha
  unfold okA okAddr at ha
  simp only [Bool.and_eq_true] at ha
  have := ((h.ok i x hx).adr hr (Nat.eq_of_beq_eq_true ha.1)).2
  rw [this] at hw
  simp at hw

theorem wsF_mem : ∀ {ws : List (Nat × Blk)} {k : Nat} {v : Option Blk}, wsF ws k = some v → ∃ p ∈ ws, p.1 = k ∧ v = some p.2
  | [], k, v, h => by simp [wsF] at h
  | (n, b) :: r, k, v, h => by
    simp only [wsF] at h
    cases hw : wsF r k with
    | some x =>
      rw [hw] at h
      obtain ⟨p, h1, h2, h3⟩ := wsF_mem (ws := r) hw
      simp only [Option.some.injEq] at h
      exact ⟨p, List.mem_cons_of_mem _ h1, h2, by rw [← h]; exact h3⟩
    | none =>
      rw [hw] at h
      by_cases e : k = n
      · simp [e] at h
        exact ⟨_, List.mem_cons_self, e.symm, h.symm⟩
      · simp [e] at h

/-- The shape of a block that an address names. -/
theorem Traced.shape (h : Traced P X ops E S flog) {j n : Nat} (ha : okA E flog j) (hn : n ∈ (E j).R) : ∀ (m : Nat), m ≤ ops.size → ∀ (L : Nat → Prop) [DecidablePred L], lens (fl (gM E) L m (mget S.M)) n = lens (mget S.M) n
  | 0, _, L, _ => rfl
  | m + 1, hm, L, _ => by
    have ih := h.shape ha hn m (by omega) L
    simp only [fl]
    split
    · cases hg : gM E m n with
      | none =>
        have e : ov (gM E m) (fl (gM E) L m (mget S.M)) n = fl (gM E) L m (mget S.M) n := by simp [ov, hg]
        unfold lens at ih ⊢
        rw [e]; exact ih
      | some v =>
        obtain ⟨p, hp, hpn, hv⟩ := wsF_mem hg
        obtain ⟨x, hx, hrx, _⟩ := h.runs (i := m) (k := n) (by omega) (by rw [hg]; simp)
        have Rm := h.ok m x hx
        have hall : ∀ y ∈ flog, n < y.lo ∧ (y.k = 2 ∨ n ∉ y.W) := fun y hy => by
          have ha := ha
          unfold okA okAddr at ha
          simp only [Bool.and_eq_true] at ha
          have h1 := List.all_eq_true.1 (List.all_eq_true.1 ha.2 y hy) n hn
          simp only [Bool.and_eq_true, Bool.or_eq_true, Bool.not_eq_true', List.any_eq_false] at h1
          refine ⟨by simpa [Nat.blt_eq] using h1.1, h1.2.imp (fun h => Nat.eq_of_beq_eq_true h) fun h hw => h n hw (Nat.beq_refl n)⟩
        have hwn := Rm.wn p hp
        rw [hpn] at hwn
        have hk2 : (E m).k = 2 := by
          rcases Rm.log hrx with hl | ⟨_, hW, hlo⟩
          · obtain ⟨h1, h2⟩ := hall _ hl
            simp only at h1 h2
            rcases hwn with hw | hw
            · have := Rm.nw n hw; omega
            · exact h2.resolve_right fun h => h hw
          · simp only at hW hlo
            rcases hwn with hw | hw
            · have := Rm.nw n hw; omega
            · rw [hW] at hw; simp at hw
        have hs := Rm.sto hrx hk2 p hp
        rw [hpn, ← h.textM m (by omega), h.shape ha hn m (by omega) (fun _ => True)] at hs
        have e : ov (gM E m) (fl (gM E) L m (mget S.M)) n = some p.2 := by simp [ov, hg, hv]
        rw [hs]
        rw [lens_some]
        exact ⟨p.2, e, rfl, rfl⟩
    · exact ih

theorem Traced.mem (h : Traced P X ops E S flog) {L : Nat → Prop} [DecidablePred L] (hc : Closed ops L) {j : Nat} {o : Oper} (ho : ops[j]? = some o) (hj : ¬ L j) (hp : ∀ k, Dir ops k j → L k) (hr : (E j).run = true) (nj : ¬ okA E flog j) {n : Nat} (hn : n ∈ (E j).R) :
    fl (gM E) L ops.size (mget S.M) n = mget (E j).M n := by
  have hjs := (Array.getElem?_eq_some_iff.1 ho).1
  rw [← h.textM j (by omega), ← fl_lt (m := ops.size) (by omega)]
  refine fl_agree fun i hi hg => ?_
  obtain ⟨x, hx, hrx, hk⟩ := h.runs hi hg
  by_cases hij : i = j
  · subst hij; exact ⟨fun h => (hj h).elim, fun h => by omega⟩
  rcases h.pair hx ho hij hrx hr (h.notA hx hrx hk) nj with hb | hb | ⟨hb, _⟩
  · exact ⟨fun _ => h.before_lt hb, fun _ => hb L hc hp⟩
  · have := h.before_lt hb
    exact ⟨fun hl => (hj (hb L hc (fun k hk => hc k i hk hl))).elim, fun h => by omega⟩
  · exact (hb n hk hn).elim

theorem Traced.memAdd (h : Traced P X ops E S flog) {L : Nat → Prop} (hc : Closed ops L) {j : Nat} (hjs : j < ops.size) (hj : ¬ L j) {k i : Nat} (hi : i < ops.size) (hij : i ≠ j) (h1 : gM E j k ≠ none) (h2 : gM E i k ≠ none) (hl : L i) : i < j := by
  obtain ⟨x, hx, hrx, hk⟩ := h.runs hi h2
  obtain ⟨y, hy, hry, hk'⟩ := h.runs hjs h1
  rcases h.pair hx hy hij hrx hry (h.notA hx hrx hk) (h.notA hy hry hk') with hb | hb | ⟨_, hb⟩
  · exact h.before_lt hb
  · exact (hj (hb L hc (fun k hk => hc k i hk hl))).elim
  · exact (hb k hk hk').elim

def NL (m : Nat) (E : Nat → Ent) (S : St) (L : Nat → Prop) : Nat → Prop := fun n => n < S.nx ∨ ∃ i, (i < m ∧ L i) ∧ n ∈ (E i).nw

structure DState (X : Ctx) (ops : Array Oper) (E : Nat → Ent) (S : St) (L : Nat → Prop) [DecidablePred L] (ρ : Place) (I : Nat → Prop) (a : Act) (w : World) : Prop where
  W : Wok X ρ I (fl (gM E) L ops.size (mget S.M)) (NL ops.size E S L) w
  rep : ∀ s, Rep ρ (lens (fl (gM E) L ops.size (mget S.M))) I w (NL ops.size E S L) (fl (gF ops E) L ops.size (look S.F) s) (a.tmps.getD s undef)
  defers : a.defers = []
  size : a.tmps.size = X.size

theorem wanted_of {o : Oper} {a : Act} {F : Frm} {r : Bool} (hg : guardIs ops o F r) (hs : ∀ s ∈ o.looksAt ops, ∃ ρ L I w N, Rep ρ L I w N (look F s) (a.tmps.getD s undef)) : Region.wanted o (yielded ops a.tmps) = r := by
  unfold guardIs at hg
  cases hgg : o.guard with
  | none => rw [hgg] at hg; simp only at hg; simp [Region.wanted, hgg, hg]
  | some p =>
    obtain ⟨j, want⟩ := p
    rw [hgg] at hg
    obtain ⟨s, hd, hv⟩ := hg
    have hsl : s ∈ o.looksAt ops := by
      simp only [Oper.looksAt, hgg, hd, List.mem_append]
      right; simp
    obtain ⟨ρ, L, I, w, N, hr⟩ := hs s hsl
    have hy := yielded_of (tmps := a.tmps) hd
    have hw : Region.wanted o (yielded ops a.tmps) = (yielded ops a.tmps j == some want) := by simp [Region.wanted, hgg]
    have vb : ∀ b, look F s = .bool b → yielded ops a.tmps j = some b := fun b hb => by
      rw [hb] at hr
      have hv := rep_bool hr
      have hg : a.tmps[s]? = some (.bool b) := by
        rw [Array.getD_eq_getD_getElem?] at hv
        cases hh : a.tmps[s]? with
        | none => rw [hh] at hv; simp [undef] at hv
        | some v => rw [hh] at hv; simpa using hv
      rw [hy, hg]
    rcases hv with ⟨rfl, hv⟩ | ⟨rfl, hv | hv⟩
    · rw [hw, vb _ hv]; simp
    · rw [hw, vb _ hv]; cases want <;> rfl
    · rw [hv] at hr
      generalize hvv : a.tmps.getD s undef = v at hr
      cases hr with
      | tup _ us hle _ =>
        have hus : us = [] := List.eq_nil_of_length_eq_zero (by simpa using hle)
        subst hus
        have hyn : yielded ops a.tmps j = none := by
          rw [hy]
          cases ht : a.tmps[s]? with
          | none => rfl
          | some v =>
            rw [Array.getD_eq_getD_getElem?, ht] at hvv
            simp at hvv
            rw [hvv]
        rw [hw, hyn]; rfl

/-- One operation comes up. -/
theorem Traced.step (h : Traced P X ops E S flog) {L : Nat → Prop} [DecidablePred L] (hc : Closed ops L) {j : Nat} {o : Oper} (ho : ops[j]? = some o) (hj : ¬ L j) (hp : ∀ k, Dir ops k j → L k)
    {ρ : Place} {I : Nat → Prop} {a : Act} {w : World} (D : DState X ops E S L ρ I a w) {b : Frame} {rest : List Nat} {k : List Item} {cs : List Frame} :
    ∃ a' w' ρ' I', Steps P (lone (b.at a (.inRegion ops (j :: rest) :: k)) cs w) (lone (b.at a' (.inRegion ops rest :: k)) cs w') ∧ DState X ops E S (fun i => i = j ∨ L i) ρ' I' a' w' := by
  have hjs := (Array.getElem?_eq_some_iff.1 ho).1
  have R := h.ok j o ho
  have hsl : ∀ s ∈ o.looksAt ops, Rep ρ (lens (fl (gM E) L ops.size (mget S.M))) I w (NL ops.size E S L) (look (E j).F s) (a.tmps.getD s undef) := fun s hs => by
    rw [← h.slot hc ho hj hp hs]; exact D.rep s
  have hus : ∀ s ∈ uses o.op, s ∈ o.looksAt ops := fun s hs => by
    simp only [Oper.looksAt, List.mem_append]
    left
    unfold uses at hs
    generalize o.op.operands.toList = l at hs
    induction l with
    | nil => simp [usesO] at hs
    | cons x r ih =>
      cases x with
      | tmp t =>
        simp only [usesO, List.mem_cons] at hs
        rcases hs with rfl | hs
        · simp
        · simp [ih hs]
      | _ => simpa [usesO] using ih (by simpa [usesO] using hs)
  have hw := wanted_of R.guard (a := a) (fun s hs => ⟨_, _, _, _, _, hsl s hs⟩)
  have hdst := h.size j o ho
  have hFadd : ∀ s, fl (gF ops E) (fun i => i = j ∨ L i) ops.size (look S.F) s = if o.dst = some s then (E j).av else fl (gF ops E) L ops.size (look S.F) s := fun s => by
    rw [fl_add (L := L) (fun i => Iff.rfl) hj hjs (fun i hi hij h1 h2 hl => h.slotAdd hc ho hj hij h1 h2 hl)]
    simp only [gF, ho, Option.bind_some]
    cases hd : o.dst with
    | none => simp [dstF]
    | some d =>
      by_cases e : d = s
      · subst e; simp [dstF]
      · have e' : ¬ s = d := fun h => e h.symm
        simp [dstF, e, e']
  have hMadd : fl (gM E) (fun i => i = j ∨ L i) ops.size (mget S.M) = mups (fl (gM E) L ops.size (mget S.M)) (E j).ws := by
    funext n
    rw [fl_add (L := L) (fun i => Iff.rfl) hj hjs (fun i hi hij h1 h2 hl => h.memAdd hc hjs hj hi hij h1 h2 hl), mups_ov]
    rfl
  cases hr : (E j).run with
  | true =>
    rw [hr] at hw
    have hd := R.does hr
    have hy : Yield P X o a (fl (gM E) L ops.size (mget S.M)) (NL ops.size E S L) ρ I w (E j).av (E j).ws := by
      by_cases hA : okA E flog j
      · have hA' := hA
        unfold okA okAddr at hA'
        simp only [Bool.and_eq_true] at hA'
        obtain ⟨hl, hws⟩ := R.adr hr (Nat.eq_of_beq_eq_true hA'.1)
        rw [hws]
        exact hl _ _ ρ I a w D.W (fun s hs => hsl s (hus s hs)) (fun s hs n hn => by
          have hn' := hd.2.1 s hs n hn
          rw [h.shape hA hn' ops.size (Nat.le_refl _) L, ← h.textM j (by omega), h.shape hA hn' j (by omega) (fun _ => True)])
      · exact hd.2.2 (fl (gM E) L ops.size (mget S.M)) (NL ops.size E S L) ρ I a w D.W (fun s hs => hsl s (hus s hs)) (fun n hn => h.mem hc ho hj hp hr hA hn) (fun n hn hN => by
          have a1 := R.nw n hn
          rcases hN with hN | ⟨i, hl, hN⟩
          · have := h.lo (i := 0) (j := j) (by omega) (by omega); have := h.lo0; omega
          · have hij : i ≠ j := fun e => hj (e ▸ hl.2)
            have a2 := (h.ok i _ (Array.getElem?_eq_getElem hl.1)).nw n hN
            rcases Nat.lt_or_gt_of_ne hij with hlt | hlt
            · have := h.lo (i := i + 1) (j := j) (by omega) (by omega); omega
            · have := h.lo (i := j + 1) (j := i) (by omega) (by omega); omega)
    obtain ⟨v, w1, ⟨ρ1, I1, Ev, W1, R1⟩, hst⟩ := op_step (b := b) (rest := rest) (k := k) (cs := cs) ho hw hy
    have hN : ∀ m, naddL (NL ops.size E S L) (E j).ws m → NL ops.size E S (fun i => i = j ∨ L i) m := by
      rintro m (hm | ⟨bb, hm⟩)
      · rcases hm with hm | ⟨i, hl, hm⟩
        · exact .inl hm
        · exact .inr ⟨i, ⟨hl.1, .inr hl.2⟩, hm⟩
      · have hm0 := hm
        rcases hd.1 _ hm with hm | ⟨s, hs, hm⟩ | ⟨hm, hne⟩
        · exact .inr ⟨j, ⟨hjs, .inl rfl⟩, hm⟩
        · rcases rep_names (hsl s (hus s hs)) m hm with hm | ⟨i, hl, hm⟩
          · exact .inl hm
          · exact .inr ⟨i, ⟨hl.1, .inr hl.2⟩, hm⟩
        · have hA : ¬ okA E flog j := h.notA ho hr ⟨_, hm0, rfl⟩
          have e := h.mem hc ho hj hp hr hA hm
          cases hb : fl (gM E) L ops.size (mget S.M) m with
          | none => rw [hb] at e; exact (hne e.symm).elim
          | some b =>
            rcases (D.W.blk m b hb).lt with hm | ⟨i, hl, hm⟩
            · exact .inl hm
            · exact .inr ⟨i, ⟨hl.1, .inr hl.2⟩, hm⟩
    refine ⟨_, w1, ρ1, I1, hst, ?_, fun s => ?_, ?_, ?_⟩
    · rw [hMadd]; exact W1.widen hN
    · rw [hMadd, hFadd, put_getD D.size hdst]
      by_cases e : o.dst = some s
      · rw [if_pos e, if_pos e]; exact R1.wide hN
      · rw [if_neg e, if_neg e]; exact ((D.rep s).evo Ev (fun _ h => h)).wide (fun m hm => hN m (.inl hm))
    · cases o.dst <;> exact D.defers
    · cases hdd : o.dst with
      | none => exact D.size
      | some x => simpa [Act.put] using D.size
  | false =>
    rw [hr] at hw
    obtain ⟨s1, s2, s3⟩ := R.skip hr
    have hM' : fl (gM E) (fun i => i = j ∨ L i) ops.size (mget S.M) = fl (gM E) L ops.size (mget S.M) := by rw [hMadd, s2]; rfl
    have hN : ∀ m, NL ops.size E S L m → NL ops.size E S (fun i => i = j ∨ L i) m := by
      rintro m (hm | ⟨i, hl, hm⟩)
      · exact .inl hm
      · exact .inr ⟨i, ⟨hl.1, .inr hl.2⟩, hm⟩
    have hst := step_op_skip (P := P) (b := b) (a := a) (k := k) (cs := cs) (w := w) (ops := ops) (i := j) (rest := rest) (by simp [ho, hw])
    simp only [ho, Option.bind_some] at hst
    refine ⟨_, w, ρ, I, .one hst, ?_, fun s => ?_, ?_, ?_⟩
    · rw [hM']; exact D.W.widen hN
    · rw [hM', hFadd, put_getD D.size hdst]
      by_cases e : o.dst = some s
      · rw [if_pos e, if_pos e, s1]; exact .tup [] [] rfl (fun j hj => by simp at hj)
      · rw [if_neg e, if_neg e]; exact (D.rep s).wide hN
    · cases o.dst <;> exact D.defers
    · cases hdd : o.dst with
      | none => exact D.size
      | some x => simpa [Act.put] using D.size
end

end Go.AM

/- The abstract machine 'AM', part 15d: each order that may be drawn takes all operations, each behind those that it waits for. -/

namespace Go.AM
open Go.RowKit

/-- What is asked of a program and the table of its types. -/
structure PT (P : Program) (T : TT) : Prop where
  tt : TTok P T
  mix : P.follows .mixedOrders = true

variable {P : Program} {T : TT} {X : Ctx}

def Good (ops : Array Oper) : (Nat → Prop) → List Nat → Prop
  | L, [] => ∀ i, i < ops.size → L i
  | L, i :: r => i < ops.size ∧ ¬ L i ∧ (∀ k, Dir ops k i → L k) ∧ Good ops (fun x => x = i ∨ L x) r

theorem Good.congr {ops : Array Oper} : ∀ {is : List Nat} {L L' : Nat → Prop}, (∀ i, L i ↔ L' i) → Good ops L is → Good ops L' is
  | [], L, L', h, g => fun i hi => (h i).1 (g i hi)
  | i :: r, L, L', h, g => ⟨g.1, fun hl => g.2.1 ((h i).2 hl), fun k hk => (h k).1 (g.2.2.1 k hk), Good.congr (fun x => by rw [h x]) g.2.2.2⟩

def cnt (m : Nat) (f : Nat → Bool) : Nat := (List.range m).countP f

theorem cnt_set {f g : Nat → Bool} {i : Nat} : ∀ {m : Nat}, i < m → f i = true → g i = false → (∀ k, k ≠ i → g k = f k) → cnt m g + 1 = cnt m f
  | 0, h, _, _, _ => by omega
  | m + 1, h, hf, hg, he => by
    simp only [cnt, List.range_succ, List.countP_append, List.countP_singleton]
    by_cases e : i = m
    · subst e
      have h1 : List.countP g (List.range i) = List.countP f (List.range i) := List.countP_congr (fun k hk => by
        rw [he k (by have := List.mem_range.1 hk; omega)])
      rw [h1, hf, hg]; simp
    · have ih := cnt_set (m := m) (by omega) hf hg he
      simp only [cnt] at ih
      rw [he m (fun h => e h.symm)]
      omega

theorem all_of_ready {ops : Array Oper} (hback : ∀ i j, Dir ops i j → i < j) {listed : Array Bool} (hr : (List.range ops.size).filter (fun i =>
    !listed.getD i true && ((ops[i]?).map (·.after.all fun e => !Region.binds .any e || listed.getD e.on false)).getD false) = []) (hsz : listed.size = ops.size) : ∀ i, i < ops.size → listed.getD i false = true := by
  intro i
  induction i using Nat.strongRecOn with
  | ind i ih =>
    intro hi
    have h1 := List.filter_eq_nil_iff.1 hr i (List.mem_range.2 hi)
    rw [Array.getElem?_eq_getElem hi] at h1
    simp only [Option.map_some, Option.getD_some, Bool.and_eq_true, not_and] at h1
    cases hl : listed.getD i false with
    | true => rfl
    | false =>
      have hl' : listed.getD i true = false := by
        rw [Array.getD_eq_getD_getElem?, Array.getElem?_eq_getElem (by omega)] at hl ⊢
        simpa using hl
      refine absurd ?_ (h1 (by rw [hl']; rfl))
      rw [Array.all_eq_true']
      intro e he
      cases hb : Region.binds .any e with
      | false => rfl
      | true =>
        have hlt := hback e.on i ⟨ops[i], e, Array.getElem?_eq_getElem hi, by simpa using he, hb, rfl⟩
        rw [ih e.on hlt (by omega)]
        rfl

theorem lin_good {ops : Array Oper} (hback : ∀ i j, Dir ops i j → i < j) : ∀ (fuel t : Nat) (listed : Array Bool), listed.size = ops.size → cnt ops.size (fun i => !listed.getD i true) ≤ fuel → Good ops (fun i => listed.getD i false = true) (Region.linearise.go .any ops fuel t listed [])
  | 0, t, listed, hsz, hc => by
    simp only [Region.linearise.go, List.reverse_nil, Good]
    intro i hi
    have h0 : cnt ops.size (fun i => !listed.getD i true) = 0 := by omega
    have := List.countP_eq_zero.1 h0 i (List.mem_range.2 hi)
    rw [Array.getD_eq_getD_getElem?, Array.getElem?_eq_getElem (by omega)] at this ⊢
    simpa using this
  | fuel + 1, t, listed, hsz, hc => by
    simp only [Region.linearise.go]
    generalize hrs : (List.range ops.size).filter (fun i =>
      !listed.getD i true && ((ops[i]?).map (·.after.all fun e => !Region.binds .any e || listed.getD e.on false)).getD false) = rs
    cases hi : rs[t % rs.length]? with
    | none =>
      have hnil : rs = [] := by
        cases rs with
        | nil => rfl
        | cons x xs =>
          have hlt : t % (x :: xs).length < (x :: xs).length := Nat.mod_lt _ (by simp)
          rw [List.getElem?_eq_getElem hlt] at hi
          simp at hi
      subst hnil
      simp only [List.reverse_nil, Good]
      exact all_of_ready hback hrs hsz
    | some i =>
      simp only
      rw [linearise_go_acc, List.reverse_singleton, List.singleton_append]
      have hm : i ∈ rs := List.mem_of_getElem? hi
      rw [← hrs, List.mem_filter, List.mem_range] at hm
      obtain ⟨him, hb⟩ := hm
      simp only [Bool.and_eq_true, Bool.not_eq_true'] at hb
      obtain ⟨hl, hb⟩ := hb
      rw [Array.getElem?_eq_getElem him] at hb
      simp only [Option.map_some, Option.getD_some] at hb
      have hlf : listed.getD i false = false := by
        rw [Array.getD_eq_getD_getElem?, Array.getElem?_eq_getElem (by omega)] at hl ⊢
        simpa using hl
      have hset : ∀ x (d : Bool), x ≠ i → (listed.setIfInBounds i true).getD x d = listed.getD x d := fun x d hx => by
        rw [Array.getD_eq_getD_getElem?, Array.getElem?_setIfInBounds_ne (by omega), ← Array.getD_eq_getD_getElem?]
      have hseti : ∀ d : Bool, (listed.setIfInBounds i true).getD i d = true := fun d => by
        rw [Array.getD_eq_getD_getElem?, Array.getElem?_setIfInBounds_self_of_lt (by omega)]; rfl
      refine ⟨him, by show ¬ (listed.getD i false = true); rw [hlf]; simp, ?_, ?_⟩
      · rintro k ⟨o, e, ho, he, hbi, rfl⟩
        rw [Array.getElem?_eq_getElem him] at ho
        cases ho
        have := (Array.all_eq_true'.1 hb) e (by simpa using he)
        rw [hbi] at this
        simpa using this
      · refine Good.congr (fun x => ?_) (lin_good hback fuel (t / rs.length) (listed.setIfInBounds i true) (by simpa using hsz) ?_)
        · by_cases e : x = i
          · subst e; simp [hseti]
          · simp [hset x false e, e]
        · have := cnt_set (m := ops.size) (i := i) (f := fun i => !listed.getD i true) (g := fun x => !(listed.setIfInBounds i true).getD x true) him (by simp [hl]) (by simp [hseti]) (fun k hk => by simp [hset k true hk])
          omega

section
variable {ops : Array Oper} {E : Nat → Ent} {S : St} {flog : List LogE}

theorem Traced.walk (h : Traced P X ops E S flog) {b : Frame} {k : List Item} {cs : List Frame} : ∀ (is : List Nat) (L : Nat → Prop) [DecidablePred L], Good ops L is → Closed ops L → ∀ {ρ : Place} {I : Nat → Prop} {a : Act} {w : World}, DState X ops E S L ρ I a w →
    ∃ a' w' ρ' I', Steps P (lone (b.at a (.inRegion ops is :: k)) cs w) (lone (b.at a' (.inRegion ops [] :: k)) cs w') ∧ DState X ops E S (fun _ => True) ρ' I' a' w'
  | [], L, _, hg, hc, ρ, I, a, w, D => by
    refine ⟨a, w, ρ, I, .refl _ _, ?_⟩
    have eF : fl (gF ops E) (fun _ => True) ops.size (look S.F) = fl (gF ops E) L ops.size (look S.F) := by
      funext k; exact fl_agree (fun i hi _ => ⟨fun _ => hg i hi, fun _ => trivial⟩)
    have eM : fl (gM E) (fun _ => True) ops.size (mget S.M) = fl (gM E) L ops.size (mget S.M) := by
      funext k; exact fl_agree (fun i hi _ => ⟨fun _ => hg i hi, fun _ => trivial⟩)
    have hN : ∀ m, NL ops.size E S L m → NL ops.size E S (fun _ => True) m := by
      rintro m (hm | ⟨i, hl, hm⟩)
      · exact .inl hm
      · exact .inr ⟨i, ⟨hl.1, trivial⟩, hm⟩
    exact ⟨by rw [eM]; exact D.W.widen hN, fun s => by rw [eM, eF]; exact (D.rep s).wide hN, D.defers, D.size⟩
  | i :: r, L, _, hg, hc, ρ, I, a, w, D => by
    obtain ⟨him, hnl, hp, hg'⟩ := hg
    have hc' : Closed ops (fun x => x = i ∨ L x) := by
      rintro x y hd (rfl | hl)
      · exact .inr (hp x hd)
      · exact .inr (hc x y hd hl)
    obtain ⟨a1, w1, ρ1, I1, h1, D1⟩ := h.step hc (Array.getElem?_eq_getElem him) hnl hp D (b := b) (rest := r) (k := k) (cs := cs)
    obtain ⟨a2, w2, ρ2, I2, h2, D2⟩ := h.walk r _ hg' hc' D1
    exact ⟨a2, w2, ρ2, I2, h1.trans h2, D2⟩
end

/-- A STATEMENT THAT DRAWS ITS ORDER. -/
theorem draw_run (hT : PT P T) {ops : Array Oper} {S : St} {E : Nat → Ent} {flog : List LogE} (hTr : Traced P X ops E S flog)
    {a : Act} {w : World} (hS : Sat X S a w) {b : Frame} {k : List Item} {id : Nat} {F : Frm} {M : Mem} {nx : Nat} (e1 : look F = look (E (max 0 ops.size)).F) (e2 : mget M = mget (E (max 0 ops.size)).M) (e3 : nx = (E (max 0 ops.size)).lo) :
    ∀ cs, ∃ a' w', Sat X ⟨F, M, nx⟩ a' w' ∧ Steps P (lone (b.at a (.code (.region id ops true) :: k)) cs w) (lone (b.at a' k) cs w') := by
  intro cs
  obtain ⟨ρ, I, W, FO⟩ := hS
  have hback : ∀ i j, Dir ops i j → i < j := fun i j => hTr.dir
  have hgood : Good ops (fun _ => False) (Region.schedule (P.follows .mixedOrders) ops (w.tape w.drawn (.order b.fn id))) := by
    rw [hT.mix]
    simp only [Region.schedule, Bool.true_or, if_true, Region.linearise]
    have := lin_good hback ops.size (w.tape w.drawn (.order b.fn id)) (Array.replicate ops.size false) (by simp) (by
      have := List.countP_le_length (l := List.range ops.size) (p := fun i => !(Array.replicate ops.size false).getD i true)
      simpa [cnt] using this)
    refine this.congr (fun i => ?_)
    by_cases hi : i < ops.size <;> simp [Array.getD, hi]
  have D0 : DState X ops E S (fun _ => False) ρ I a w.drew := by
    have eF : fl (gF ops E) (fun _ => False) ops.size (look S.F) = look S.F := by
      generalize ops.size = m
      induction m with
      | zero => rfl
      | succ m ih => simpa [fl] using ih
    have eM : fl (gM E) (fun _ => False) ops.size (mget S.M) = mget S.M := by
      generalize ops.size = m
      induction m with
      | zero => rfl
      | succ m ih => simpa [fl] using ih
    have hN : ∀ m, m < S.nx → NL ops.size E S (fun _ => False) m := fun m hm => .inl hm
    refine ⟨by rw [eM]; exact (W.drew).widen hN, fun s => ?_, FO.defers, FO.size⟩
    rw [eM, eF]
    have E1 := (W.ext (w' := w.drew) rfl rfl rfl (Nat.le_refl _) (fun _ _ => rfl) (fun _ h => h) W.lt (fun _ _ h => h)).1
    exact ((FO.rep s).evo E1 (fun _ h => h)).wide hN
  obtain ⟨a', w', ρ', I', hst, D'⟩ := hTr.walk (b := b) (k := k) (cs := cs) _ _ hgood (fun _ _ _ h => h) D0
  refine ⟨a', w', ⟨ρ', I', ?_, ?_⟩, ?_⟩
  · have := D'.W
    rw [hTr.textM ops.size (Nat.le_refl _)] at this
    show Wok X ρ' I' (mget M) (· < nx) w'
    rw [e2, Nat.zero_max]
    refine this.widen ?_
    rintro m (hm | ⟨i, hl, hm⟩)
    · have := hTr.lo (i := 0) (j := ops.size) (by omega) (Nat.le_refl _)
      rw [hTr.lo0] at this
      rw [Nat.zero_max] at e3
      show m < nx
      omega
    · have h1 := ((hTr.ok i _ (Array.getElem?_eq_getElem hl.1)).nw m hm).2
      have h2 := hTr.lo (i := i + 1) (j := ops.size) (by omega) (Nat.le_refl _)
      rw [Nat.zero_max] at e3
      show m < nx
      omega
  · refine ⟨fun s => ?_, D'.defers, D'.size⟩
    have := D'.rep s
    rw [hTr.textM ops.size (Nat.le_refl _), hTr.textF ops.size (Nat.le_refl _)] at this
    show Rep ρ' (lens (mget M)) I' w' (· < nx) (look F s) _
    rw [e1, e2, Nat.zero_max]
    refine this.wide ?_
    rintro m (hm | ⟨i, hl, hm⟩)
    · have := hTr.lo (i := 0) (j := ops.size) (by omega) (Nat.le_refl _)
      rw [hTr.lo0] at this
      rw [Nat.zero_max] at e3
      show m < nx
      omega
    · have h1 := ((hTr.ok i _ (Array.getElem?_eq_getElem hl.1)).nw m hm).2
      have h2 := hTr.lo (i := i + 1) (j := ops.size) (by omega) (Nat.le_refl _)
      rw [Nat.zero_max] at e3
      show m < nx
      omega
  · exact .head step_region_draw (hst.trans (.one step_region_end))

end Go.AM

/- The abstract machine 'AM', part 16: the steps of a body. -/

namespace Go.AM
open Go.RowKit
variable {P : Program} {T : TT} {X : Ctx}

/-- Behind an operation the state is as the machine says. -/
theorem sat_put {S : St} {a : Act} {w w1 : World} {ρ : Place} {I : Nat → Prop} (hF : FrmOk ρ I w X S a) {av : AV} {ws : List (Nat × Blk)} {v : Value} {nx' : Nat} {nw : List Nat} {d : Option Nat}
    (hws : ∀ p ∈ ws, p.1 < nx') (hle : S.nx ≤ nx') (hd : ∀ x, d = some x → x < X.size) (hp : Post X (mget S.M) (· < S.nx) ρ I w av ws v w1) : Sat X ⟨updF S.F d av, msets S.M ws, nx'⟩ (a.put d v) w1 := by
  obtain ⟨ρ1, I1, E, W, R⟩ := hp
  have hN : ∀ m, naddL (· < S.nx) ws m → m < nx' := by
    rintro m (h | ⟨b, h⟩)
    · have : m < S.nx := h
      omega
    · exact hws _ h
  have hM : mget (msets S.M ws) = mups (mget S.M) ws := mget_msets ws S.M
  refine ⟨ρ1, I1, ?_, ?_, ?_, ?_⟩
  · show Wok X ρ1 I1 (mget (msets S.M ws)) (· < nx') w1
    rw [hM]
    refine ⟨fun n b hb => ?_, W.inj, W.imm, W.lt, W.old, W.keeps, fun n hn => hN n (W.pn n hn), W.fp0, W.par⟩
    have B := W.blk n b hb
    refine ⟨hN n B.lt, B.even, B.virt, fun g cap hρ => ?_⟩
    obtain ⟨cs, fr, hc1, hcf, hc2, hc3, hc4, hc5, hc6, hc7⟩ := B.real g cap hρ
    refine ⟨cs, fr, hc1, hcf, hc2, hc3, hc4, hc5, hc6, fun i j hi hj => ?_⟩
    obtain ⟨u, hu, hu1, hr⟩ := hc7 i j hi hj
    exact ⟨u, hu, hu1, hr.wide hN⟩
  · intro i
    show Rep ρ1 (lens (mget (msets S.M ws))) I1 w1 (· < nx') (look (updF S.F d av) i) ((a.put d v).tmps.getD i undef)
    rw [hM]
    rcases put_look (a := a) (d := d) (v := v) (F := S.F) (av := av) (i := i) hF.size hd with ⟨h1, h2⟩ | ⟨h1, h2⟩
    · rw [h1, h2]; exact R.wide hN
    · rw [h1, h2]; exact ((hF.rep i).evo E (fun _ h => h)).wide (fun m h => by have : m < S.nx := h; show m < nx'; omega)
  · cases d <;> exact hF.defers
  · cases d with
    | none => exact hF.size
    | some x => simpa [Act.put] using hF.size

theorem put_self {a : Act} {F : Frm} {b : Bool} {s : Nat} (h : a.tmps.getD s undef = .bool b) (i : Nat) : look ((s, AV.bool b) :: F) i = AV.bool b ∧ a.tmps.getD i undef = .bool b ∨ look ((s, AV.bool b) :: F) i = look F i := by
  by_cases e : i = s
  · subst e; exact .inl ⟨by simp [look], h⟩
  · have hb : (i == s) = false := by simpa using e
    exact .inr (by simp [look, hb])

/-- A test whose outcome is known is a known value. -/
theorem sat_known {S : St} {a : Act} {w : World} {s : Nat} {b : Bool} (h : Sat X S a w) (hv : a.tmps.getD s undef = .bool b) : Sat X ⟨(s, .bool b) :: S.F, S.M, S.nx⟩ a w := by
  obtain ⟨ρ, I, W, F⟩ := h
  refine ⟨ρ, I, W, fun i => ?_, F.defers, F.size⟩
  rcases put_self (F := S.F) hv i with ⟨h1, h2⟩ | h1
  · rw [h1, h2]; exact .bool _
  · rw [h1]; exact F.rep i

theorem sat_known' {S : St} {a : Act} {w : World} {c : Operand} {b : Bool} (h : Sat X S a w) (hv : a.eval c = .bool b) : Sat X (known c b S) a w := by
  cases c with
  | tmp s => exact sat_known h hv
  | _ => exact h

theorem Outc.steps {b : Frame} {R : St → Prop} {ks ks' : List It} {a a' : Act} {w w' : World} (hs : ∀ cs, Steps P (lone (b.at a (ks.map It.item)) cs w) (lone (b.at a' (ks'.map It.item)) cs w')) (hsub : ∀ c post k', (It.rnd c post :: k') <:+ ks' → (It.rnd c post :: k') <:+ ks)
    (h : Outc P X b R ks' a' w') : Outc P X b R ks a w := by
  intro cs
  obtain ⟨a2, w2, S2, hS, h1 | h1⟩ := h cs
  · obtain ⟨todo, h2, h3⟩ := h1
    exact ⟨a2, w2, S2, hS, .inl ⟨todo, (hs cs).trans h2, h3⟩⟩
  · obtain ⟨c, post, k', h2, h3, h4⟩ := h1
    exact ⟨a2, w2, S2, hS, .inr ⟨c, post, k', hsub _ _ _ h2, (hs cs).trans h3, h4⟩⟩

section
variable {b : Frame} {a : Act} {w : World} {k : List Item} {cs : List Frame}
theorem step_scope {c : Code} : step P (lone (b.at a (.code (.scope c) :: k)) cs w) = .next (lone (b.at a (.code c :: .inScope c :: k)) cs w) :=
  step_lone_go (by simp [stepG, stepG.exec, Frame.at])
theorem step_inScope {c : Code} : step P (lone (b.at a (.inScope c :: k)) cs w) = .next (lone (b.at a k) cs w) :=
  step_lone_go (by simp [stepG, stepG.exec, Frame.at])
end

theorem suf_cons {c : Code} {post : St → Prop} {k' k : List It} {x y : It} (hx : ∀ c p, x ≠ .rnd c p) (h : (It.rnd c post :: k') <:+ x :: k) : (It.rnd c post :: k') <:+ y :: k := by
  rcases List.suffix_cons_iff.1 h with h | h
  · exact (hx c post (List.cons.inj h).1.symm).elim
  · exact h.trans (List.suffix_cons _ _)

theorem suf_drop {c : Code} {post : St → Prop} {k' k : List It} {y : It} (h : (It.rnd c post :: k') <:+ k) : (It.rnd c post :: k') <:+ y :: k := h.trans (List.suffix_cons _ _)

theorem unw_suffix {id : Nat} : ∀ {k k' : List It}, unw id k = some k' → k' <:+ k ∧ exitTo id (k.map It.item) = some (k'.map It.item)
  | [], k', h => by simp [unw] at h
  | .blk id' :: k, k', h => by
    simp only [unw] at h
    by_cases hid : id' = id
    · subst hid
      simp at h
      subst h
      exact ⟨List.suffix_cons _ _, by simp [It.item, exitTo]⟩
    · have hb : (id' == id) = false := by simpa using hid
      rw [hb] at h
      obtain ⟨h1, h2⟩ := unw_suffix (k := k) h
      exact ⟨h1.trans (List.suffix_cons _ _), by simp [It.item, exitTo, hb, h2]⟩
  | .code c :: k, k', h => by
    obtain ⟨h1, h2⟩ := unw_suffix (k := k) h
    exact ⟨h1.trans (List.suffix_cons _ _), by simp [It.item, exitTo, h2]⟩
  | .inl c :: k, k', h => by
    obtain ⟨h1, h2⟩ := unw_suffix (k := k) h
    exact ⟨h1.trans (List.suffix_cons _ _), by simp [It.item, exitTo, h2]⟩
  | .rnd c p :: k, k', h => by
    obtain ⟨h1, h2⟩ := unw_suffix (k := k) h
    exact ⟨h1.trans (List.suffix_cons _ _), by simp [It.item, exitTo, h2]⟩
  | .scp c :: k, k', h => by
    obtain ⟨h1, h2⟩ := unw_suffix (k := k) h
    exact ⟨h1.trans (List.suffix_cons _ _), by simp [It.item, exitTo, h2]⟩
  | .ops all i r gd :: k, k', h => by
    obtain ⟨h1, h2⟩ := unw_suffix (k := k) h
    exact ⟨h1.trans (List.suffix_cons _ _), by simp [It.item, exitTo, h2]⟩

theorem unw_ok {size id : Nat} {k k' : List It} (h : unw id k = some k') (hk : ∀ x ∈ k, ItOk size x) : ∀ x ∈ k', ItOk size x := fun x hx => hk x ((unw_suffix h).1.subset hx)

theorem suf_code {c0 c : Code} {post : St → Prop} {k' k : List It} (h : (It.rnd c post :: k') <:+ .code c0 :: .inl c0 :: k) : (It.rnd c post :: k') <:+ .inl c0 :: k := by
  rcases List.suffix_cons_iff.1 h with h | h
  · simp at h
  · exact h

theorem suf_code2 {c0 c1 c : Code} {post : St → Prop} {k' k : List It} (h : (It.rnd c post :: k') <:+ .code c0 :: .inl c0 :: k) : (It.rnd c post :: k') <:+ .code c1 :: k := by
  rcases List.suffix_cons_iff.1 h with h | h
  · simp at h
  · exact suf_cons (by simp) h

end Go.AM
