/- Of the reckoning machine, and what is proved with it: texts joined by program. -/
import Derived.Test.YtalgmieplcamcaaU1
import Derived.Test.YtalgmieplcamcaaK2
import Derived.Test.YtalgmieplcamcaaU0
set_option linter.all false

/- The statements of chapter 12, part 3. -/


namespace Go.UM
open Go.AM
set_option maxRecDepth 4000

theorem mdecodes_law {R : Env} (h : N48 R) (b : List UInt8) : R.Pc 48 [.isl 1 (slc8 b)] (.bool true) :=
  h.o48.enter 100 rfl fun X bb hfit hp => by
    repeat ((intro _u; clear _u); first | with_reducible first | refine cT ?_ | refine cF ?_ | refine cA ?_ | refine cB ?_ | refine aLn ?_ | refine cK ?_ | refine aS8 ?_ | refine wI ?_ | refine nD ?_ | refine aX rfl ?_)
    intro _u; clear _u
    refine asub_eq (by exact cap8 b 60) ?_
    have hb : (b.take (Int.toNat 60)).length ≤ 60 := by simp; omega
    generalize b.take (Int.toNat 60) = b at hb ⊢
    repeat ((intro _u; clear _u); first | with_reducible first | refine cT ?_ | refine cF ?_ | refine cA ?_ | refine cB ?_ | refine aLn ?_ | refine cK ?_ | refine aS8 ?_ | refine wI ?_ | refine nD ?_ | refine aX rfl ?_)
    intro _u; clear _u
    refine ICall.pure h.n49.o49.hb (mdecode_c h.n49 b (by omega)) rfl ?_
    repeat ((intro _u; clear _u); first | with_reducible first | refine cT ?_ | refine cF ?_ | refine cA ?_ | refine cB ?_ | refine aLn ?_ | refine cK ?_ | refine aS8 ?_ | refine wI ?_ | refine nD ?_ | refine aX rfl ?_)
    intro _u; clear _u
    refine ICall.pure h.n50.o50.hb (rmdecode_c h.n50 b (by omega)) rfl ?_
    repeat ((intro _u; clear _u); first | with_reducible first | refine cT ?_ | refine cF ?_ | refine cA ?_ | refine cB ?_ | refine aLn ?_ | refine cK ?_ | refine aS8 ?_ | refine wI ?_ | refine nD ?_ | refine aX rfl ?_)
    intro _u; clear _u
    refine acnd_t (by simp) ?_
    repeat ((intro _u; clear _u); first | with_reducible first | refine cT ?_ | refine cF ?_ | refine cA ?_ | refine cB ?_ | refine aLn ?_ | refine cK ?_ | refine aS8 ?_ | refine wI ?_ | refine nD ?_ | refine aX rfl ?_)
    intro _u; clear _u
    refine acnd_t (by simp) ?_
    repeat ((intro _u; clear _u); first | with_reducible first | refine cT ?_ | refine cF ?_ | refine cA ?_ | refine cB ?_ | refine aLn ?_ | refine cK ?_ | refine aS8 ?_ | refine wI ?_ | refine nD ?_ | refine aX rfl ?_)
    intro _u; clear _u
    refine ICall.pure h.n43.o43.hb (works12_c h.n43) rfl ?_
    repeat ((intro _u; clear _u); first | with_reducible first | refine cT ?_ | refine cF ?_ | refine cA ?_ | refine cB ?_ | refine aLn ?_ | refine cK ?_ | refine aS8 ?_ | refine wI ?_ | refine nD ?_ | refine aX rfl ?_)
    intro _u; clear _u
    exact rT

theorem mstrict_law {R : Env} (h : N53 R) (b : List UInt8) : R.Pc 53 [.isl 1 (slc8 b)] (.bool true) :=
  h.o53.enter 100 rfl fun X bb hfit hp => by
    repeat ((intro _u; clear _u); first | with_reducible first | refine cT ?_ | refine cF ?_ | refine cA ?_ | refine cB ?_ | refine aLn ?_ | refine cK ?_ | refine aS8 ?_ | refine wI ?_ | refine nD ?_ | refine aX rfl ?_)
    intro _u; clear _u
    refine asub_eq (by exact cap8 b 60) ?_
    have hb : (b.take (Int.toNat 60)).length ≤ 60 := by simp; omega
    generalize b.take (Int.toNat 60) = b at hb ⊢
    repeat ((intro _u; clear _u); first | with_reducible first | refine cT ?_ | refine cF ?_ | refine cA ?_ | refine cB ?_ | refine aLn ?_ | refine cK ?_ | refine aS8 ?_ | refine wI ?_ | refine nD ?_ | refine aX rfl ?_)
    intro _u; clear _u
    refine ICall.pure h.n49.o49.hb (mdecode_c h.n49 b (by omega)) rfl ?_
    repeat ((intro _u; clear _u); first | with_reducible first | refine cT ?_ | refine cF ?_ | refine cA ?_ | refine cB ?_ | refine aLn ?_ | refine cK ?_ | refine aS8 ?_ | refine wI ?_ | refine nD ?_ | refine aX rfl ?_)
    intro _u; clear _u
    refine cS (fun h1 => ?_) (fun h1 => ?_)
    · rw [mdec_bad h1]
      repeat ((intro _u; clear _u); first | with_reducible first | refine cT ?_ | refine cF ?_ | refine cA ?_ | refine cB ?_ | refine aLn ?_ | refine cK ?_ | refine aS8 ?_ | refine wI ?_ | refine nD ?_ | refine aX rfl ?_)
      intro _u; clear _u
      refine acnd_t (by rfl) ?_
      repeat ((intro _u; clear _u); first | with_reducible first | refine cT ?_ | refine cF ?_ | refine cA ?_ | refine cB ?_ | refine aLn ?_ | refine cK ?_ | refine aS8 ?_ | refine wI ?_ | refine nD ?_ | refine aX rfl ?_)
      intro _u; clear _u
      refine ICall.pure h.n43.o43.hb (works12_c h.n43) rfl ?_
      repeat ((intro _u; clear _u); first | with_reducible first | refine cT ?_ | refine cF ?_ | refine cA ?_ | refine cB ?_ | refine aLn ?_ | refine cK ?_ | refine aS8 ?_ | refine wI ?_ | refine nD ?_ | refine aX rfl ?_)
      intro _u; clear _u
      exact rT
    · obtain ⟨hc, he⟩ := mdec_good h1
      have c1 := mencode_c h.n45 (mdec b).1 (mdec_ok b)
      rw [mencs, if_pos hc, he] at c1
      repeat ((intro _u; clear _u); first | with_reducible first | refine cT ?_ | refine cF ?_ | refine cA ?_ | refine cB ?_ | refine aLn ?_ | refine cK ?_ | refine aS8 ?_ | refine wI ?_ | refine nD ?_ | refine aX rfl ?_)
      intro _u; clear _u
      refine ICall.pure h.n45.o45.hb c1 rfl ?_
      repeat ((intro _u; clear _u); first | with_reducible first | refine cT ?_ | refine cF ?_ | refine cA ?_ | refine cB ?_ | refine aLn ?_ | refine cK ?_ | refine aS8 ?_ | refine wI ?_ | refine nD ?_ | refine aX rfl ?_)
      intro _u; clear _u
      refine acnd_t (by rfl) ?_
      repeat ((intro _u; clear _u); first | with_reducible first | refine cT ?_ | refine cF ?_ | refine cA ?_ | refine cB ?_ | refine aLn ?_ | refine cK ?_ | refine aS8 ?_ | refine wI ?_ | refine nD ?_ | refine aX rfl ?_)
      intro _u; clear _u
      refine ICall.pure h.n47.o47.hb (eq8_c h.n47 b b) rfl ?_
      repeat ((intro _u; clear _u); first | with_reducible first | refine cT ?_ | refine cF ?_ | refine cA ?_ | refine cB ?_ | refine aLn ?_ | refine cK ?_ | refine aS8 ?_ | refine wI ?_ | refine nD ?_ | refine aX rfl ?_)
      intro _u; clear _u
      refine acnd_t (by simp) ?_
      repeat ((intro _u; clear _u); first | with_reducible first | refine cT ?_ | refine cF ?_ | refine cA ?_ | refine cB ?_ | refine aLn ?_ | refine cK ?_ | refine aS8 ?_ | refine wI ?_ | refine nD ?_ | refine aX rfl ?_)
      intro _u; clear _u
      refine ICall.pure h.n43.o43.hb (works12_c h.n43) rfl ?_
      repeat ((intro _u; clear _u); first | with_reducible first | refine cT ?_ | refine cF ?_ | refine cA ?_ | refine cB ?_ | refine aLn ?_ | refine cK ?_ | refine aS8 ?_ | refine wI ?_ | refine nD ?_ | refine aX rfl ?_)
      intro _u; clear _u
      exact rT

theorem same_enc {m n : Mf} (ok : m.Ok) (ok2 : n.Ok) (hc : chk m = 0) (hd : chk n = 0) : ((m.enc == n.enc) == (m.id == n.id && (m.kind == n.kind && (m.label == n.label && (m.m0 == n.m0 && (m.m1 == n.m1 && (m.m2 == n.m2 && (m.m3 == n.m3 && (m.m4 == n.m4 && (m.m5 == n.m5 && (m.m6 == n.m6 && (m.m7 == n.m7 && (m.first == n.first && (m.last == n.last && (m.size == n.size && m.chunks == n.chunks))))))))))))))) = true := by
  by_cases he : m.enc = n.enc
  · have h1 := mdec_enc ok hc
    have h2 := mdec_enc ok2 hd
    rw [he, h2] at h1
    have : n = m := congrArg Prod.fst h1
    subst this
    simp
  · have h1 : (m.enc == n.enc) = false := by simpa using he
    rw [h1, beq_iff_eq, eq_comm, Bool.eq_false_iff]
    intro hh
    simp only [Bool.and_eq_true, beq_iff_eq] at hh
    refine he ?_
    obtain ⟨h1, h2, h3, h4, h5, h6, h7, h8, h9, h10, h11, h12, h13, h14, h15⟩ := hh
    have : m = n := by
      cases m; cases n
      simp_all
    rw [this]

theorem mback_law {R : Env} (h : N51 R) (m n : Mf) (ok : m.Ok) (ok2 : n.Ok) : R.Pc 51 [.agg m.row, .agg n.row] (.bool true) :=
  h.o51.enter 100 rfl fun X bb hfit hp => by
    by_cases hc : chk m = 0
    · have c1 := mencode_c h.n45 m ok
      rw [mencs, if_pos hc] at c1
      repeat ((intro _u; clear _u); first | with_reducible first | refine cT ?_ | refine cF ?_ | refine cA ?_ | refine cB ?_ | refine aLn ?_ | refine cK ?_ | refine aS8 ?_ | refine wI ?_ | refine nD ?_ | refine aX rfl ?_)
      intro _u; clear _u
      refine ICall.pure h.n45.o45.hb c1 rfl ?_
      repeat ((intro _u; clear _u); first | with_reducible first | refine cT ?_ | refine cF ?_ | refine cA ?_ | refine cB ?_ | refine aLn ?_ | refine cK ?_ | refine aS8 ?_ | refine wI ?_ | refine nD ?_ | refine aX rfl ?_)
      intro _u; clear _u
      refine acnd_f (by rfl) ?_
      have c2 := mdecode_c h.n49 m.enc (by rw [m.enc_len]; decide)
      rw [mdec_enc ok hc] at c2
      repeat ((intro _u; clear _u); first | with_reducible first | refine cT ?_ | refine cF ?_ | refine cA ?_ | refine cB ?_ | refine aLn ?_ | refine cK ?_ | refine aS8 ?_ | refine wI ?_ | refine nD ?_ | refine aX rfl ?_)
      intro _u; clear _u
      refine ICall.pure h.n49.o49.hb c2 rfl ?_
      repeat ((intro _u; clear _u); first | with_reducible first | refine cT ?_ | refine cF ?_ | refine cA ?_ | refine cB ?_ | refine aLn ?_ | refine cK ?_ | refine aS8 ?_ | refine wI ?_ | refine nD ?_ | refine aX rfl ?_)
      intro _u; clear _u
      refine acnd_f (by rfl) ?_
      repeat ((intro _u; clear _u); first | with_reducible first | refine cT ?_ | refine cF ?_ | refine cA ?_ | refine cB ?_ | refine aLn ?_ | refine cK ?_ | refine aS8 ?_ | refine wI ?_ | refine nD ?_ | refine aX rfl ?_)
      intro _u; clear _u
      refine acnd_f (by simp) ?_
      repeat ((intro _u; clear _u); first | with_reducible first | refine cT ?_ | refine cF ?_ | refine cA ?_ | refine cB ?_ | refine aLn ?_ | refine cK ?_ | refine aS8 ?_ | refine wI ?_ | refine nD ?_ | refine aX rfl ?_)
      intro _u; clear _u
      refine ICall.pure h.n52.o52.hb (length_c h.n52) rfl ?_
      repeat ((intro _u; clear _u); first | with_reducible first | refine cT ?_ | refine cF ?_ | refine cA ?_ | refine cB ?_ | refine aLn ?_ | refine cK ?_ | refine aS8 ?_ | refine wI ?_ | refine nD ?_ | refine aX rfl ?_)
      intro _u; clear _u
      refine acnd_f (by simp [m.enc_len]) ?_
      by_cases hd : chk n = 0
      · have c3 := mencode_c h.n45 n ok2
        rw [mencs, if_pos hd] at c3
        repeat ((intro _u; clear _u); first | with_reducible first | refine cT ?_ | refine cF ?_ | refine cA ?_ | refine cB ?_ | refine aLn ?_ | refine cK ?_ | refine aS8 ?_ | refine wI ?_ | refine nD ?_ | refine aX rfl ?_)
        intro _u; clear _u
        refine ICall.pure h.n45.o45.hb c3 rfl ?_
        repeat ((intro _u; clear _u); first | with_reducible first | refine cT ?_ | refine cF ?_ | refine cA ?_ | refine cB ?_ | refine aLn ?_ | refine cK ?_ | refine aS8 ?_ | refine wI ?_ | refine nD ?_ | refine aX rfl ?_)
        intro _u; clear _u
        refine acnd_f (by rfl) ?_
        repeat ((intro _u; clear _u); first | with_reducible first | refine cT ?_ | refine cF ?_ | refine cA ?_ | refine cB ?_ | refine aLn ?_ | refine cK ?_ | refine aS8 ?_ | refine wI ?_ | refine nD ?_ | refine aX rfl ?_)
        intro _u; clear _u
        refine ICall.pure h.n47.o47.hb (eq8_c h.n47 m.enc n.enc) rfl ?_
        repeat ((intro _u; clear _u); first | with_reducible first | refine cT ?_ | refine cF ?_ | refine cA ?_ | refine cB ?_ | refine aLn ?_ | refine cK ?_ | refine aS8 ?_ | refine wI ?_ | refine nD ?_ | refine aX rfl ?_)
        intro _u; clear _u
        refine acnd_t (by exact same_enc ok ok2 hc hd) ?_
        repeat ((intro _u; clear _u); first | with_reducible first | refine cT ?_ | refine cF ?_ | refine cA ?_ | refine cB ?_ | refine aLn ?_ | refine cK ?_ | refine aS8 ?_ | refine wI ?_ | refine nD ?_ | refine aX rfl ?_)
        intro _u; clear _u
        refine ICall.pure h.n43.o43.hb (works12_c h.n43) rfl ?_
        repeat ((intro _u; clear _u); first | with_reducible first | refine cT ?_ | refine cF ?_ | refine cA ?_ | refine cB ?_ | refine aLn ?_ | refine cK ?_ | refine aS8 ?_ | refine wI ?_ | refine nD ?_ | refine aX rfl ?_)
        intro _u; clear _u
        exact rT
      · have c3 := mencode_c h.n45 n ok2
        rw [mencs, if_neg hd] at c3
        repeat ((intro _u; clear _u); first | with_reducible first | refine cT ?_ | refine cF ?_ | refine cA ?_ | refine cB ?_ | refine aLn ?_ | refine cK ?_ | refine aS8 ?_ | refine wI ?_ | refine nD ?_ | refine aX rfl ?_)
        intro _u; clear _u
        refine ICall.pure h.n45.o45.hb c3 rfl ?_
        repeat ((intro _u; clear _u); first | with_reducible first | refine cT ?_ | refine cF ?_ | refine cA ?_ | refine cB ?_ | refine aLn ?_ | refine cK ?_ | refine aS8 ?_ | refine wI ?_ | refine nD ?_ | refine aX rfl ?_)
        intro _u; clear _u
        refine acnd_t (by simpa using hd) ?_
        repeat ((intro _u; clear _u); first | with_reducible first | refine cT ?_ | refine cF ?_ | refine cA ?_ | refine cB ?_ | refine aLn ?_ | refine cK ?_ | refine aS8 ?_ | refine wI ?_ | refine nD ?_ | refine aX rfl ?_)
        intro _u; clear _u
        refine ICall.pure h.n43.o43.hb (works12_c h.n43) rfl ?_
        repeat ((intro _u; clear _u); first | with_reducible first | refine cT ?_ | refine cF ?_ | refine cA ?_ | refine cB ?_ | refine aLn ?_ | refine cK ?_ | refine aS8 ?_ | refine wI ?_ | refine nD ?_ | refine aX rfl ?_)
        intro _u; clear _u
        exact rT
    · have c1 := mencode_c h.n45 m ok
      rw [mencs, if_neg hc] at c1
      repeat ((intro _u; clear _u); first | with_reducible first | refine cT ?_ | refine cF ?_ | refine cA ?_ | refine cB ?_ | refine aLn ?_ | refine cK ?_ | refine aS8 ?_ | refine wI ?_ | refine nD ?_ | refine aX rfl ?_)
      intro _u; clear _u
      refine ICall.pure h.n45.o45.hb c1 rfl ?_
      repeat ((intro _u; clear _u); first | with_reducible first | refine cT ?_ | refine cF ?_ | refine cA ?_ | refine cB ?_ | refine aLn ?_ | refine cK ?_ | refine aS8 ?_ | refine wI ?_ | refine nD ?_ | refine aX rfl ?_)
      intro _u; clear _u
      refine acnd_t (by simpa using hc) ?_
      repeat ((intro _u; clear _u); first | with_reducible first | refine cT ?_ | refine cF ?_ | refine cA ?_ | refine cB ?_ | refine aLn ?_ | refine cK ?_ | refine aS8 ?_ | refine wI ?_ | refine nD ?_ | refine aX rfl ?_)
      intro _u; clear _u
      refine acnd_t (by simp) ?_
      repeat ((intro _u; clear _u); first | with_reducible first | refine cT ?_ | refine cF ?_ | refine cA ?_ | refine cB ?_ | refine aLn ?_ | refine cK ?_ | refine aS8 ?_ | refine wI ?_ | refine nD ?_ | refine aX rfl ?_)
      intro _u; clear _u
      refine ICall.pure h.n41.o41.hb (chk_c h.n41 m ok.size) rfl ?_
      repeat ((intro _u; clear _u); first | with_reducible first | refine cT ?_ | refine cF ?_ | refine cA ?_ | refine cB ?_ | refine aLn ?_ | refine cK ?_ | refine aS8 ?_ | refine wI ?_ | refine nD ?_ | refine aX rfl ?_)
      intro _u; clear _u
      refine acnd_t (by simp) ?_
      repeat ((intro _u; clear _u); first | with_reducible first | refine cT ?_ | refine cF ?_ | refine cA ?_ | refine cB ?_ | refine aLn ?_ | refine cK ?_ | refine aS8 ?_ | refine wI ?_ | refine nD ?_ | refine aX rfl ?_)
      intro _u; clear _u
      refine ICall.pure h.n43.o43.hb (works12_c h.n43) rfl ?_
      repeat ((intro _u; clear _u); first | with_reducible first | refine cT ?_ | refine cF ?_ | refine cA ?_ | refine cB ?_ | refine aLn ?_ | refine cK ?_ | refine aS8 ?_ | refine wI ?_ | refine nD ?_ | refine aX rfl ?_)
      intro _u; clear _u
      exact rT
end Go.UM

/- What comes in, opened. -/


namespace Go.UM
open Go.AM

theorem open8 {T : TT} {n e : Nat} {es : List (List AV)} (hT : T.d e = .int .u8) (h : ∀ r ∈ es, cty T (n + 1) e r) : ∃ l : List UInt8, es = slc8 l := by
  obtain ⟨l, rfl, _⟩ := rows_map (f := fun c : UInt8 => [AV.int .u8 c.toNat]) (p := fun _ => True) (es := es) fun r hr => by
    have h1 := h r hr
    simp only [cty, hT] at h1
    obtain ⟨x, rfl, hx⟩ := h1
    have hx := wf_in hx
    simp only [inI] at hx
    refine ⟨u8 x, ?_, trivial⟩
    rw [← wr_u8, wr_in (k := .u8) hx]
  exact ⟨l, rfl⟩

theorem openK {T : TT} {n e : Nat} {k : IntKind} {es : List (List AV)} (hT : T.d e = .int k) (h : ∀ r ∈ es, cty T (n + 1) e r) : ∃ l : List Int, es = slcK k l ∧ ∀ x ∈ l, inI k x := by
  obtain ⟨l, rfl, hl⟩ := rows_map (f := fun c : Int => [AV.int k c]) (p := fun c => inI k c) (es := es) fun r hr => by
    have h1 := h r hr
    simp only [cty, hT] at h1
    obtain ⟨x, rfl, hx⟩ := h1
    exact ⟨x, rfl, wf_in hx⟩
  exact ⟨l, rfl, hl⟩
end Go.UM
