/- Of the reckoning machine, and what is proved with it: texts joined by program. -/
import Derived.Test.YtfkolnaidjknoaaU0
import Derived.Test.YtfkolnaidjknoaaK2
set_option linter.all false

/- The document's planes: may one be? -/



namespace Go.UM
open Go.AM
set_option maxRecDepth 4000

theorem pchk_2 {p : Pl} (h : ¬ (1 ≤ p.w ∧ p.w ≤ 64) ∨ ¬ (1 ≤ p.h ∧ p.h ≤ 64) ∨ ¬ (1 ≤ p.deep ∧ p.deep ≤ 4)) : pchk p = 2 := by unfold pchk; rw [if_pos h]
theorem pchk_n {p : Pl} (h : ¬ (¬ (1 ≤ p.w ∧ p.w ≤ 64) ∨ ¬ (1 ≤ p.h ∧ p.h ≤ 64) ∨ ¬ (1 ≤ p.deep ∧ p.deep ≤ 4))) (h2 : named p.name = false ∨ (p.data.length : Int) ≠ p.w * p.h * p.deep) : pchk p = 5 := by unfold pchk; rw [if_neg h, if_pos h2]
def px (x : Int) : Bool := decide (0 ≤ x) && decide (x ≤ 65535)
theorem pchk_d {p : Pl} (h : ¬ (¬ (1 ≤ p.w ∧ p.w ≤ 64) ∨ ¬ (1 ≤ p.h ∧ p.h ≤ 64) ∨ ¬ (1 ≤ p.deep ∧ p.deep ≤ 4))) (h2 : ¬ (named p.name = false ∨ (p.data.length : Int) ≠ p.w * p.h * p.deep)) : pchk p = if p.data.all px = false then 5 else 0 := by unfold pchk; rw [if_neg h, if_neg h2]; rfl


theorem rpcheck_c {R : Env} (h : N162 R) (p : Pl) (hs : p.name.length ≤ 1073741824) : R.Pc 162 [.agg p.row] (.int .i64 (pchk p)) :=
  h.o162.enter 100 rfl fun X bb hfit hp => by
    generalize hq : pchk p = q
    refine sh ?_
    refine cS (fun h1 => ?_) (fun h1 => ?_)
    · rw [pchk_2 (by omega)] at hq
      subst hq
      refine sh ?_
      exact rT
    · refine sh ?_
      refine cS (fun h2 => ?_) (fun h2 => ?_)
      · rw [pchk_2 (by omega)] at hq
        subst hq
        refine sh ?_
        exact rT
      · refine sh ?_
        refine cS (fun h3 => ?_) (fun h3 => ?_)
        · rw [pchk_2 (by omega)] at hq
          subst hq
          refine sh ?_
          exact rT
        · refine sh ?_
          refine cS (fun h4 => ?_) (fun h4 => ?_)
          · rw [pchk_2 (by omega)] at hq
            subst hq
            refine sh ?_
            exact rT
          · refine sh ?_
            refine cS (fun h5 => ?_) (fun h5 => ?_)
            · rw [pchk_2 (by omega)] at hq
              subst hq
              refine sh ?_
              exact rT
            · refine sh ?_
              refine cS (fun h6 => ?_) (fun h6 => ?_)
              · rw [pchk_2 (by omega)] at hq
                subst hq
                refine sh ?_
                exact rT
              · have hin : ¬ (¬ (1 ≤ p.w ∧ p.w ≤ 64) ∨ ¬ (1 ≤ p.h ∧ p.h ≤ 64) ∨ ¬ (1 ≤ p.deep ∧ p.deep ≤ 4)) := by omega
                have b1 : 0 ≤ p.w * p.h ∧ p.w * p.h ≤ 4096 := ⟨Int.mul_nonneg (by omega) (by omega), by have := Int.mul_le_mul h2 h4 (by omega) (by omega); omega⟩
                have b2 : 0 ≤ p.w * p.h * p.deep ∧ p.w * p.h * p.deep ≤ 16384 := ⟨Int.mul_nonneg b1.1 (by omega), by have := Int.mul_le_mul b1.2 h6 (by omega) (by omega); omega⟩
                have hnl : ¬ (1 ≤ (p.name.length : Int) ∧ (p.name.length : Int) ≤ 16) → named p.name = false := fun hh => by
                  simp [named]; omega
                refine sh ?_
                refine cS (fun h7 => ?_) (fun h7 => ?_)
                · rw [pchk_n hin (.inl (hnl (by omega)))] at hq
                  subst hq
                  refine sh ?_
                  exact rT
                · refine sh ?_
                  refine cS (fun h8 => ?_) (fun h8 => ?_)
                  · rw [pchk_n hin (.inl (hnl (by omega)))] at hq
                    subst hq
                    refine sh ?_
                    exact rT
                  · refine sh ?_
                    refine cS (fun h9 => ?_) (fun h9 => ?_)
                    · rw [pchk_n hin (.inr h9)] at hq
                      subst hq
                      refine sh ?_
                      exact rT
                    · refine sh ?_
                      refine lPa 100 (fun k : Nat => k ≤ p.name.length ∧ (p.name.take k).all upper = true) (fun k => ⟨[(1, .loc 0 1 0 0), (3, .int .i64 k)], [(0, .var (R.ty 20) p.row)], 1⟩) (fun k => p.name.length - k) (0) ?_ ?_
                      · exact ⟨Nat.zero_le _, by simp⟩
                      · intro k hk
                        dsimp only
                        refine sh ?_
                        refine cS (fun ha => ?_) (fun ha => ?_)
                        · obtain ⟨x, hx⟩ : ∃ u, p.name[k]? = some u := ⟨_, List.getElem?_eq_getElem (by omega)⟩
                          have hgx : p.name.getD ((k : Int)).toNat 0 = x := by simp [List.getD_eq_getElem?_getD, hx]
                          have hx8 := x.toNat_lt
                          refine st ?_
                          rw [hgx]
                          refine sh ?_
                          refine cS (fun hb => ?_) (fun hb => ?_)
                          · have hno : upper x = false := by simp [upper]; omega
                            rw [pchk_n hin (.inl (by simp [named, all_bad hx hno]))] at hq
                            subst hq
                            refine sh ?_
                            exact rT
                          · refine st ?_
                            rw [hgx]
                            refine sh ?_
                            refine cS (fun hc => ?_) (fun hc => ?_)
                            · have hno : upper x = false := by simp [upper]; omega
                              rw [pchk_n hin (.inl (by simp [named, all_bad hx hno]))] at hq
                              subst hq
                              refine sh ?_
                              exact rT
                            · refine sh ?_
                              refine nXa (k + 1) ?_ ?_
                              · refine ⟨by omega, ?_⟩
                                have hyes : upper x = true := by simp [upper]; omega
                                rw [all_take_succ hx, hk.2, hyes]; rfl
                              · omega
                        · have hk2 := hk.2
                          rw [List.take_of_length_le (by omega)] at hk2
                          have hnm : named p.name = true := by simp [named, hk2]; omega
                          rw [pchk_d hin (by rw [hnm]; simp; exact h9)] at hq
                          refine sh ?_
                          refine lPa 100 (fun k : Nat => k ≤ p.data.length ∧ (p.data.take k).all px = true) (fun k => ⟨[(1, .loc 0 1 0 0), (4, .int .i64 k)], [(0, .var (R.ty 20) p.row)], 1⟩) (fun k => p.data.length - k) (0) ?_ ?_
                          · exact ⟨Nat.zero_le _, by simp⟩
                          · intro k hk
                            dsimp only
                            refine sh ?_
                            refine cS (fun hb => ?_) (fun hb => ?_)
                            · obtain ⟨x, hx⟩ : ∃ u_, p.data[k]? = some u_ := ⟨_, List.getElem?_eq_getElem (by first | omega | (simp <;> omega))⟩
                              refine sh ?_
                              refine eget_map hx ?_
                              refine sh ?_
                              refine cS (fun hc => ?_) (fun hc => ?_)
                              · rw [if_pos (all_bad hx (by simp [px]; omega))] at hq
                                subst hq
                                refine sh ?_
                                exact rT
                              · refine sh ?_
                                refine eget_map hx ?_
                                refine sh ?_
                                refine cS (fun hd => ?_) (fun hd => ?_)
                                · rw [if_pos (all_bad hx (by simp [px]; omega))] at hq
                                  subst hq
                                  refine sh ?_
                                  exact rT
                                · refine sh ?_
                                  refine nXa (k + 1) ?_ ?_
                                  · refine ⟨by omega, ?_⟩
                                    have hyes : px x = true := by simp [px]; omega
                                    rw [all_take_succ hx, hk.2, hyes]; rfl
                                  · omega
                            · have hk3 := hk.2
                              rw [List.take_of_length_le (by omega)] at hk3
                              rw [if_neg (by rw [hk3]; decide)] at hq
                              subst hq
                              refine sh ?_
                              exact rT

end Go.UM

/- Package pam, and the document's: the planes of an image. Printed by gen/pam2.py. -/


namespace Go.UM
open Go.AM
set_option maxRecDepth 4000

theorem flat_c {R : Env} (h : N151 R) (l : List T3) (hl : l.length ≤ 5000) : R.Pc 151 [.isl 3 (slc3 l)] (.isl 1 (slcK .i64 (fl3 l))) :=
  h.o151.enter 100 rfl fun X bb hfit hp => by
    refine sh ?_
    refine ILoop.one 100 ?_
    by_cases h0 : l = []
    · subst h0
      refine sh ?_
      refine acnd_f (by decide) ?_
      refine sh ?_
      exact rT
    · have h1 : 1 ≤ l.length := Nat.one_le_iff_ne_zero.2 fun e => h0 (List.eq_nil_of_length_eq_zero e)
      have h1' : (slc3 l).length = l.length := by simp
      refine sh ?_
      refine acnd_t (by simp; omega) ?_
      obtain ⟨x, hx⟩ : ∃ u_, l[0]? = some u_ := ⟨_, List.getElem?_eq_getElem (by first | omega | (simp <;> omega))⟩
      refine sh ?_
      refine eget_map hx ?_
      have e1 := fl3_succ hx
      refine sh ?_
      refine ILoop.inv 100 (fun k : Nat => 1 ≤ k ∧ k ≤ l.length) (fun k => ⟨[(3, .osl 1 (fl3 (l.take k)).length), (6, .isl 3 (slc3 l)), (7, .int .i64 l.length), (8, .int .i64 k)], [(1, .arr (R.ty 10) 1 (slcK .i64 (fl3 (l.take k))))], 2⟩) (fun k => l.length - k) (1) ?_ ⟨⟨_, hp, rfl⟩, ?_, ?_⟩ ?_
      · exact ⟨Nat.le_refl _, h1⟩
      · all_goals repeat' (first | exact True.intro | refine And.intro ?_ ?_ | (intro _u; clear _u) | (with_reducible first | refine eM ?_ ?_ | refine eF ?_ ?_ ?_ | refine eN ?_ | refine eL ?_ ?_ ?_ | refine eA ?_ ?_ | refine IWk.mk ⟨_, hp, rfl⟩ ?_ ?_) | refine IWk.mk ⟨_, hp, rfl⟩ ?_ ?_)
        all_goals first | with_reducible rfl | omega | exact Or.inl (by decide) | (simp; done) | rfl | skip
        all_goals (rw [e1]; rfl)
      · all_goals repeat' (first | exact True.intro | refine And.intro ?_ ?_ | (intro _u; clear _u) | (with_reducible first | refine eM ?_ ?_ | refine eF ?_ ?_ ?_ | refine eN ?_ | refine eL ?_ ?_ ?_ | refine eA ?_ ?_ | refine IWk.mk ⟨_, hp, rfl⟩ ?_ ?_) | refine IWk.mk ⟨_, hp, rfl⟩ ?_ ?_)
        all_goals first | with_reducible rfl | omega | exact Or.inl (by decide) | (simp; done) | rfl | skip
        all_goals (rw [e1]; rfl)
      · intro k hk
        dsimp only
        refine sh ?_
        refine cS (fun h2 => ?_) (fun h2 => ?_)
        · obtain ⟨y, hy⟩ : ∃ u_, l[k]? = some u_ := ⟨_, List.getElem?_eq_getElem (by first | omega | (simp <;> omega))⟩
          refine sh ?_
          refine eget_map hy ?_
          have e2 := fl3_succ hy
          have e3 := fl3_len (l.take k)
          have e4 : (l.take k).length ≤ 5000 := by simp; omega
          generalize fl3 (l.take k) = C at e2 e3 ⊢
          refine sh ?_
          refine nX (k + 1) ?_ ?_ ⟨_, hp, rfl⟩ ?_ ?_
          · omega
          · omega
          · all_goals repeat' (first | exact True.intro | refine And.intro ?_ ?_ | (intro _u; clear _u) | (with_reducible first | refine eM ?_ ?_ | refine eF ?_ ?_ ?_ | refine eN ?_ | refine eL ?_ ?_ ?_ | refine eA ?_ ?_ | refine IWk.mk ⟨_, hp, rfl⟩ ?_ ?_) | refine IWk.mk ⟨_, hp, rfl⟩ ?_ ?_)
            all_goals first | with_reducible rfl | omega | exact Or.inl (by decide) | (simp; done) | rfl | skip
            all_goals (rw [e2]; simp)
          · all_goals repeat' (first | exact True.intro | refine And.intro ?_ ?_ | (intro _u; clear _u) | (with_reducible first | refine eM ?_ ?_ | refine eF ?_ ?_ ?_ | refine eN ?_ | refine eL ?_ ?_ ?_ | refine eA ?_ ?_ | refine IWk.mk ⟨_, hp, rfl⟩ ?_ ?_) | refine IWk.mk ⟨_, hp, rfl⟩ ?_ ?_)
            all_goals first | with_reducible rfl | omega | exact Or.inl (by decide) | (simp; done) | rfl | skip
            all_goals (rw [e2]; simp [slcK])
        · rw [List.take_of_length_le (by omega)]
          refine sh ?_
          exact rT
theorem rflat_c {R : Env} (h : N159 R) (l : List T3) (hl : l.length ≤ 5000) : R.Pc 159 [.isl 3 (slc3 l)] (.isl 1 (slcK .i64 (fl3 l))) :=
  h.o159.enter 100 rfl fun X bb hfit hp => by
    refine sh ?_
    refine ILoop.one 100 ?_
    by_cases h0 : l = []
    · subst h0
      refine sh ?_
      refine acnd_f (by decide) ?_
      refine sh ?_
      exact rT
    · have h1 : 1 ≤ l.length := Nat.one_le_iff_ne_zero.2 fun e => h0 (List.eq_nil_of_length_eq_zero e)
      have h1' : (slc3 l).length = l.length := by simp
      refine sh ?_
      refine acnd_t (by simp; omega) ?_
      obtain ⟨x, hx⟩ : ∃ u_, l[0]? = some u_ := ⟨_, List.getElem?_eq_getElem (by first | omega | (simp <;> omega))⟩
      refine sh ?_
      refine eget_map hx ?_
      refine sh ?_
      refine eget_map hx ?_
      refine sh ?_
      refine eget_map hx ?_
      have e1 := fl3_succ hx
      refine sh ?_
      refine ILoop.inv 100 (fun k : Nat => 1 ≤ k ∧ k ≤ l.length) (fun k => ⟨[(0, .isl 3 (slc3 l)), (3, .osl 1 (fl3 (l.take k)).length), (4, .int .i64 k)], [(1, .arr (R.ty 10) 1 (slcK .i64 (fl3 (l.take k))))], 2⟩) (fun k => l.length - k) (1) ?_ ⟨⟨_, hp, rfl⟩, ?_, ?_⟩ ?_
      · exact ⟨Nat.le_refl _, h1⟩
      · all_goals repeat' (first | exact True.intro | refine And.intro ?_ ?_ | (intro _u; clear _u) | (with_reducible first | refine eM ?_ ?_ | refine eF ?_ ?_ ?_ | refine eN ?_ | refine eL ?_ ?_ ?_ | refine eA ?_ ?_ | refine IWk.mk ⟨_, hp, rfl⟩ ?_ ?_) | refine IWk.mk ⟨_, hp, rfl⟩ ?_ ?_)
        all_goals first | with_reducible rfl | omega | exact Or.inl (by decide) | (simp; done) | rfl | skip
        all_goals (rw [e1]; rfl)
      · all_goals repeat' (first | exact True.intro | refine And.intro ?_ ?_ | (intro _u; clear _u) | (with_reducible first | refine eM ?_ ?_ | refine eF ?_ ?_ ?_ | refine eN ?_ | refine eL ?_ ?_ ?_ | refine eA ?_ ?_ | refine IWk.mk ⟨_, hp, rfl⟩ ?_ ?_) | refine IWk.mk ⟨_, hp, rfl⟩ ?_ ?_)
        all_goals first | with_reducible rfl | omega | exact Or.inl (by decide) | (simp; done) | rfl | skip
        all_goals (rw [e1]; rfl)
      · intro k hk
        dsimp only
        refine sh ?_
        refine cS (fun h2 => ?_) (fun h2 => ?_)
        · obtain ⟨y, hy⟩ : ∃ u_, l[k]? = some u_ := ⟨_, List.getElem?_eq_getElem (by first | omega | (simp <;> omega))⟩
          refine sh ?_
          refine eget_map hy ?_
          refine sh ?_
          refine eget_map hy ?_
          refine sh ?_
          refine eget_map hy ?_
          have e2 := fl3_succ hy
          have e3 := fl3_len (l.take k)
          have e4 : (l.take k).length ≤ 5000 := by simp; omega
          generalize fl3 (l.take k) = C at e2 e3 ⊢
          refine sh ?_
          refine nX (k + 1) ?_ ?_ ⟨_, hp, rfl⟩ ?_ ?_
          · omega
          · omega
          · all_goals repeat' (first | exact True.intro | refine And.intro ?_ ?_ | (intro _u; clear _u) | (with_reducible first | refine eM ?_ ?_ | refine eF ?_ ?_ ?_ | refine eN ?_ | refine eL ?_ ?_ ?_ | refine eA ?_ ?_ | refine IWk.mk ⟨_, hp, rfl⟩ ?_ ?_) | refine IWk.mk ⟨_, hp, rfl⟩ ?_ ?_)
            all_goals first | with_reducible rfl | omega | exact Or.inl (by decide) | (simp; done) | rfl | skip
            all_goals (rw [e2]; simp)
          · all_goals repeat' (first | exact True.intro | refine And.intro ?_ ?_ | (intro _u; clear _u) | (with_reducible first | refine eM ?_ ?_ | refine eF ?_ ?_ ?_ | refine eN ?_ | refine eL ?_ ?_ ?_ | refine eA ?_ ?_ | refine IWk.mk ⟨_, hp, rfl⟩ ?_ ?_) | refine IWk.mk ⟨_, hp, rfl⟩ ?_ ?_)
            all_goals first | with_reducible rfl | omega | exact Or.inl (by decide) | (simp; done) | rfl | skip
            all_goals (rw [e2]; simp [slcK])
        · rw [List.take_of_length_le (by omega)]
          refine sh ?_
          exact rT

def krow : List AV := [.int .i64 0, .int .i64 0, .int .i64 3, .str nmB, .nils, .int .i64 0, .int .i64 0, .int .i64 1, .str nmA, .nils, .int .i64 0, .int .i64 0, .int .i64 1, .str nmD, .nils,
  .int .i64 0, .int .i64 0, .int .i64 3, .str nmN, .nils, .int .i64 0, .int .i64 0, .int .i64 1, .str nmS, .nils, .int .i64 0, .int .i64 0, .int .i64 1, .str nmL, .nils]
theorem kinds_c {R : Env} (h : N152 R) : R.Pc 152 [] (.agg krow) :=
  h.o152.enter 60 rfl fun X bb hfit hp => by
    refine sh ?_
    exact rT
def slS (l : List (List UInt8)) : List (List AV) := l.map fun s => [.str s]
@[simp] theorem slS_length (l : List (List UInt8)) : (slS l).length = l.length := by simp [slS]
theorem deeps_c {R : Env} (h : N160 R) : R.Pc 160 [] (.isl 1 (slcK .i64 [3, 1, 1, 3, 1, 1])) :=
  h.o160.enter 60 rfl fun X bb hfit hp => by
    refine sh ?_
    exact rT
theorem names_c {R : Env} (h : N161 R) : R.Pc 161 [] (.isl 1 (slS [nmB, nmA, nmD, nmN, nmS, nmL])) :=
  h.o161.enter 60 rfl fun X bb hfit hp => by
    refine sh ?_
    exact rT

theorem nm_len : ∀ {i : Im}, i.p0.name.length ≤ 1073741824 ∧ i.p1.name.length ≤ 1073741824 ∧ i.p2.name.length ≤ 1073741824 ∧ i.p3.name.length ≤ 1073741824 ∧ i.p4.name.length ≤ 1073741824 ∧ i.p5.name.length ≤ 1073741824 := by
  intro i; simp [Im.p0, Im.p1, Im.p2, Im.p3, Im.p4, Im.p5, nmB, nmA, nmD, nmN, nmS, nmL]
structure Im.Few (i : Im) : Prop where
  be : i.be.length ≤ 5000
  al : i.al.length ≤ 5000
  de : i.de.length ≤ 5000
  no : i.no.length ≤ 5000
  as : i.as.length ≤ 5000
  la : i.la.length ≤ 5000

set_option maxHeartbeats 1000000 in
theorem planes_c {R : Env} (h : N132 R) (i : Im) (few : i.Few) : R.Pc 132 [.agg i.row] (.tup [.isl 5 (slP (planes i).1), .int .i64 (planes i).2]) :=
  h.o132.enter 100 rfl fun X bb hfit hp => by
    obtain ⟨f0, f1, f2, f3, f4, f5⟩ := few
    have g0 := fl3_len i.be
    have g3 := fl3_len i.no
    generalize hq : planes i = q
    refine sh ?_
    refine ICall.pure h.n151.o151.hb (flat_c h.n151 i.be f0) rfl ?_
    refine sh ?_
    refine ICall.pure h.n151.o151.hb (flat_c h.n151 i.no f3) rfl ?_
    refine sh ?_
    refine ICall.pure h.n152.o152.hb (kinds_c h.n152) rfl ?_
    refine sh ?_
    refine ILoop.one 100 ?_
    refine sh ?_
    refine acnd_t (by decide) ?_
    refine sh ?_
    refine ICall.let [3] rfl hp rfl ?_
    repeat ((intro _u; clear _u); first | refine eZ ?_ | refine eZ ?_ (by simp; omega) | refine FrzC.drop ?_)
    refine sh ?_
    refine ICall.pure h.n153.o153.hb (pcheck_c h.n153 i.p0 nm_len.1) rfl ?_
    refine sh ?_
    refine cS (fun c0 => ?_) (fun c0 => ?_)
    · have e : ichk i = pchk i.p0 := by unfold ichk; rw [if_pos c0]
      rw [planes, e, if_pos c0] at hq
      subst hq
      refine sh ?_
      exact rT
    · refine sh ?_
      refine ILoop.one 100 ?_
      refine sh ?_
      refine acnd_t (by decide) ?_
      refine sh ?_
      refine ICall.let [7] rfl hp rfl ?_
      repeat ((intro _u; clear _u); first | refine eZ ?_ | refine eZ ?_ (by simp; omega) | refine FrzC.drop ?_)
      refine sh ?_
      refine ICall.pure h.n153.o153.hb (pcheck_c h.n153 i.p1 nm_len.2.1) rfl ?_
      refine sh ?_
      refine cS (fun c1 => ?_) (fun c1 => ?_)
      · have e : ichk i = pchk i.p1 := by unfold ichk; rw [if_neg (fun hh => hh c0), if_pos c1]
        rw [planes, e, if_pos c1] at hq
        subst hq
        refine sh ?_
        exact rT
      · refine sh ?_
        refine ILoop.one 100 ?_
        refine sh ?_
        refine acnd_t (by decide) ?_
        refine sh ?_
        refine ICall.let [10] rfl hp rfl ?_
        repeat ((intro _u; clear _u); first | refine eZ ?_ | refine eZ ?_ (by simp; omega) | refine FrzC.drop ?_)
        refine sh ?_
        refine ICall.pure h.n153.o153.hb (pcheck_c h.n153 i.p2 nm_len.2.2.1) rfl ?_
        refine sh ?_
        refine cS (fun c2 => ?_) (fun c2 => ?_)
        · have e : ichk i = pchk i.p2 := by unfold ichk; rw [if_neg (fun hh => hh c0), if_neg (fun hh => hh c1), if_pos c2]
          rw [planes, e, if_pos c2] at hq
          subst hq
          refine sh ?_
          exact rT
        · refine sh ?_
          refine ILoop.one 100 ?_
          refine sh ?_
          refine acnd_t (by decide) ?_
          refine sh ?_
          refine ICall.let [13] rfl hp rfl ?_
          repeat ((intro _u; clear _u); first | refine eZ ?_ | refine eZ ?_ (by simp; omega) | refine FrzC.drop ?_)
          refine sh ?_
          refine ICall.pure h.n153.o153.hb (pcheck_c h.n153 i.p3 nm_len.2.2.2.1) rfl ?_
          refine sh ?_
          refine cS (fun c3 => ?_) (fun c3 => ?_)
          · have e : ichk i = pchk i.p3 := by unfold ichk; rw [if_neg (fun hh => hh c0), if_neg (fun hh => hh c1), if_neg (fun hh => hh c2), if_pos c3]
            rw [planes, e, if_pos c3] at hq
            subst hq
            refine sh ?_
            exact rT
          · refine sh ?_
            refine ILoop.one 100 ?_
            refine sh ?_
            refine acnd_t (by decide) ?_
            refine sh ?_
            refine ICall.let [16] rfl hp rfl ?_
            repeat ((intro _u; clear _u); first | refine eZ ?_ | refine eZ ?_ (by simp; omega) | refine FrzC.drop ?_)
            refine sh ?_
            refine ICall.pure h.n153.o153.hb (pcheck_c h.n153 i.p4 nm_len.2.2.2.2.1) rfl ?_
            refine sh ?_
            refine cS (fun c4 => ?_) (fun c4 => ?_)
            · have e : ichk i = pchk i.p4 := by unfold ichk; rw [if_neg (fun hh => hh c0), if_neg (fun hh => hh c1), if_neg (fun hh => hh c2), if_neg (fun hh => hh c3), if_pos c4]
              rw [planes, e, if_pos c4] at hq
              subst hq
              refine sh ?_
              exact rT
            · refine sh ?_
              refine ILoop.one 100 ?_
              refine sh ?_
              refine acnd_t (by decide) ?_
              refine sh ?_
              refine ICall.let [19] rfl hp rfl ?_
              repeat ((intro _u; clear _u); first | refine eZ ?_ | refine eZ ?_ (by simp; omega) | refine FrzC.drop ?_)
              refine sh ?_
              refine ICall.pure h.n153.o153.hb (pcheck_c h.n153 i.p5 nm_len.2.2.2.2.2) rfl ?_
              refine sh ?_
              refine cS (fun c5 => ?_) (fun c5 => ?_)
              · have e : ichk i = pchk i.p5 := by unfold ichk; rw [if_neg (fun hh => hh c0), if_neg (fun hh => hh c1), if_neg (fun hh => hh c2), if_neg (fun hh => hh c3), if_neg (fun hh => hh c4), if_pos c5]
                rw [planes, e, if_pos c5] at hq
                subst hq
                refine sh ?_
                exact rT
              · refine sh ?_
                refine ILoop.one 100 ?_
                refine sh ?_
                refine acnd_f (by decide) ?_
                rw [planes, if_neg (fun hh => hh (ichk_of ⟨c0, c1, c2, c3, c4, c5⟩))] at hq
                subst hq
                refine sh ?_
                exact rT

set_option maxHeartbeats 1000000 in
theorem rplanes_c {R : Env} (h : N155 R) (i : Im) (few : i.Few) : R.Pc 155 [.agg i.row] (.tup [.isl 5 (slP (planes i).1), .int .i64 (planes i).2]) :=
  h.o155.enter 100 rfl fun X bb hfit hp => by
    obtain ⟨f0, f1, f2, f3, f4, f5⟩ := few
    have g0 := fl3_len i.be
    have g3 := fl3_len i.no
    generalize hq : planes i = q
    refine sh ?_
    refine ICall.pure h.n159.o159.hb (rflat_c h.n159 i.be f0) rfl ?_
    refine sh ?_
    refine ICall.pure h.n159.o159.hb (rflat_c h.n159 i.no f3) rfl ?_
    refine sh ?_
    refine ILoop.one 100 ?_
    refine sh ?_
    refine acnd_t (by decide) ?_
    refine sh ?_
    refine ICall.pure h.n160.o160.hb (deeps_c h.n160) rfl ?_
    refine sh ?_
    refine eget_map (show ([3, 1, 1, 3, 1, 1] : List Int)[0]? = some _ from rfl) ?_
    refine sh ?_
    refine ICall.pure h.n161.o161.hb (names_c h.n161) rfl ?_
    refine sh ?_
    refine eget_map (show ([nmB, nmA, nmD, nmN, nmS, nmL] : List (List UInt8))[0]? = some _ from rfl) ?_
    refine sh ?_
    refine aelt_lit rfl ?_
    refine sh ?_
    refine ICall.pure h.n162.o162.hb (rpcheck_c h.n162 i.p0 nm_len.1) rfl ?_
    refine sh ?_
    refine cS (fun c0 => ?_) (fun c0 => ?_)
    · have e : ichk i = pchk i.p0 := by unfold ichk; rw [if_pos c0]
      rw [planes, e, if_pos c0] at hq
      subst hq
      refine sh ?_
      exact rT
    · refine sh ?_
      refine ILoop.one 100 ?_
      refine sh ?_
      refine acnd_t (by decide) ?_
      refine sh ?_
      refine ICall.pure h.n160.o160.hb (deeps_c h.n160) rfl ?_
      refine sh ?_
      refine eget_map (show ([3, 1, 1, 3, 1, 1] : List Int)[1]? = some _ from rfl) ?_
      refine sh ?_
      refine ICall.pure h.n161.o161.hb (names_c h.n161) rfl ?_
      refine sh ?_
      refine eget_map (show ([nmB, nmA, nmD, nmN, nmS, nmL] : List (List UInt8))[1]? = some _ from rfl) ?_
      refine sh ?_
      refine aelt_lit rfl ?_
      refine sh ?_
      refine ICall.pure h.n162.o162.hb (rpcheck_c h.n162 i.p1 nm_len.2.1) rfl ?_
      refine sh ?_
      refine cS (fun c1 => ?_) (fun c1 => ?_)
      · have e : ichk i = pchk i.p1 := by unfold ichk; rw [if_neg (fun hh => hh c0), if_pos c1]
        rw [planes, e, if_pos c1] at hq
        subst hq
        refine sh ?_
        exact rT
      · refine sh ?_
        refine ILoop.one 100 ?_
        refine sh ?_
        refine acnd_t (by decide) ?_
        refine sh ?_
        refine ICall.pure h.n160.o160.hb (deeps_c h.n160) rfl ?_
        refine sh ?_
        refine eget_map (show ([3, 1, 1, 3, 1, 1] : List Int)[2]? = some _ from rfl) ?_
        refine sh ?_
        refine ICall.pure h.n161.o161.hb (names_c h.n161) rfl ?_
        refine sh ?_
        refine eget_map (show ([nmB, nmA, nmD, nmN, nmS, nmL] : List (List UInt8))[2]? = some _ from rfl) ?_
        refine sh ?_
        refine aelt_lit rfl ?_
        refine sh ?_
        refine ICall.pure h.n162.o162.hb (rpcheck_c h.n162 i.p2 nm_len.2.2.1) rfl ?_
        refine sh ?_
        refine cS (fun c2 => ?_) (fun c2 => ?_)
        · have e : ichk i = pchk i.p2 := by unfold ichk; rw [if_neg (fun hh => hh c0), if_neg (fun hh => hh c1), if_pos c2]
          rw [planes, e, if_pos c2] at hq
          subst hq
          refine sh ?_
          exact rT
        · refine sh ?_
          refine ILoop.one 100 ?_
          refine sh ?_
          refine acnd_t (by decide) ?_
          refine sh ?_
          refine ICall.pure h.n160.o160.hb (deeps_c h.n160) rfl ?_
          refine sh ?_
          refine eget_map (show ([3, 1, 1, 3, 1, 1] : List Int)[3]? = some _ from rfl) ?_
          refine sh ?_
          refine ICall.pure h.n161.o161.hb (names_c h.n161) rfl ?_
          refine sh ?_
          refine eget_map (show ([nmB, nmA, nmD, nmN, nmS, nmL] : List (List UInt8))[3]? = some _ from rfl) ?_
          refine sh ?_
          refine aelt_lit rfl ?_
          refine sh ?_
          refine ICall.pure h.n162.o162.hb (rpcheck_c h.n162 i.p3 nm_len.2.2.2.1) rfl ?_
          refine sh ?_
          refine cS (fun c3 => ?_) (fun c3 => ?_)
          · have e : ichk i = pchk i.p3 := by unfold ichk; rw [if_neg (fun hh => hh c0), if_neg (fun hh => hh c1), if_neg (fun hh => hh c2), if_pos c3]
            rw [planes, e, if_pos c3] at hq
            subst hq
            refine sh ?_
            exact rT
          · refine sh ?_
            refine ILoop.one 100 ?_
            refine sh ?_
            refine acnd_t (by decide) ?_
            refine sh ?_
            refine ICall.pure h.n160.o160.hb (deeps_c h.n160) rfl ?_
            refine sh ?_
            refine eget_map (show ([3, 1, 1, 3, 1, 1] : List Int)[4]? = some _ from rfl) ?_
            refine sh ?_
            refine ICall.pure h.n161.o161.hb (names_c h.n161) rfl ?_
            refine sh ?_
            refine eget_map (show ([nmB, nmA, nmD, nmN, nmS, nmL] : List (List UInt8))[4]? = some _ from rfl) ?_
            refine sh ?_
            refine aelt_lit rfl ?_
            refine sh ?_
            refine ICall.pure h.n162.o162.hb (rpcheck_c h.n162 i.p4 nm_len.2.2.2.2.1) rfl ?_
            refine sh ?_
            refine cS (fun c4 => ?_) (fun c4 => ?_)
            · have e : ichk i = pchk i.p4 := by unfold ichk; rw [if_neg (fun hh => hh c0), if_neg (fun hh => hh c1), if_neg (fun hh => hh c2), if_neg (fun hh => hh c3), if_pos c4]
              rw [planes, e, if_pos c4] at hq
              subst hq
              refine sh ?_
              exact rT
            · refine sh ?_
              refine ILoop.one 100 ?_
              refine sh ?_
              refine acnd_t (by decide) ?_
              refine sh ?_
              refine ICall.pure h.n160.o160.hb (deeps_c h.n160) rfl ?_
              refine sh ?_
              refine eget_map (show ([3, 1, 1, 3, 1, 1] : List Int)[5]? = some _ from rfl) ?_
              refine sh ?_
              refine ICall.pure h.n161.o161.hb (names_c h.n161) rfl ?_
              refine sh ?_
              refine eget_map (show ([nmB, nmA, nmD, nmN, nmS, nmL] : List (List UInt8))[5]? = some _ from rfl) ?_
              refine sh ?_
              refine aelt_lit rfl ?_
              refine sh ?_
              refine ICall.pure h.n162.o162.hb (rpcheck_c h.n162 i.p5 nm_len.2.2.2.2.2) rfl ?_
              refine sh ?_
              refine cS (fun c5 => ?_) (fun c5 => ?_)
              · have e : ichk i = pchk i.p5 := by unfold ichk; rw [if_neg (fun hh => hh c0), if_neg (fun hh => hh c1), if_neg (fun hh => hh c2), if_neg (fun hh => hh c3), if_neg (fun hh => hh c4), if_pos c5]
                rw [planes, e, if_pos c5] at hq
                subst hq
                refine sh ?_
                exact rT
              · refine sh ?_
                refine ILoop.one 100 ?_
                refine sh ?_
                refine acnd_f (by decide) ?_
                rw [planes, if_neg (fun hh => hh (ichk_of ⟨c0, c1, c2, c3, c4, c5⟩))] at hq
                subst hq
                refine sh ?_
                exact rT
end Go.UM

/- Package over: what each function hands back. -/

namespace Go.UM
open Go.AM
set_option maxRecDepth 4000

def near (x : Int) : Int := min (max x 0) 65535
theorem near_in (x : Int) : 0 ≤ near x ∧ near x ≤ 65535 := by unfold near; omega
theorem near_of {x : Int} (h : 0 ≤ x ∧ x ≤ 65535) : near x = x := by unfold near; omega

theorem near_c {R : Env} (h : N134 R) (x : Int) : R.Pc 134 [.int .i64 x] (.int .i64 (near x)) :=
  h.o134.enter 60 rfl fun X b hfit hp => by
    refine sh ?_
    exact rT

theorem mul_in {x y : Int} (hx : 0 ≤ x ∧ x ≤ 65535) (hy : 0 ≤ y ∧ y ≤ 65535) : 0 ≤ x * y ∧ x * y ≤ 4294836225 := by
  constructor
  · exact Int.mul_nonneg hx.1 hy.1
  · have : x * y ≤ 65535 * 65535 := Int.mul_le_mul hx.2 hy.2 hy.1 (by omega)
    omega

/-- Light over light: the one ahead, and as much of the one behind as is not covered. -/
def mix (a b c : Int) : Int := min (near a + (near b * (65535 - near c) + 32767) / 65535) 65535

theorem mix_c {R : Env} (h : N109 R) (a b c : Int) : R.Pc 109 [.int .i64 a, .int .i64 b, .int .i64 c] (.int .i64 (mix a b c)) :=
  h.o109.enter 60 rfl fun X bb hfit hp => by
    refine sh ?_
    refine ICall.pure h.n134.o134.hb (near_c h.n134 a) rfl ?_
    refine sh ?_
    refine ICall.pure h.n134.o134.hb (near_c h.n134 b) rfl ?_
    refine sh ?_
    refine ICall.pure h.n134.o134.hb (near_c h.n134 c) rfl ?_
    have ha := near_in a
    have hb := near_in b
    have hc := near_in c
    have hm := mul_in hb (y := 65535 - near c) (by omega)
    refine sh ?_
    rw [Int.tdiv_eq_ediv_of_nonneg (by omega)]
    refine iwr_in (by simp only [inI]; omega) ?_
    refine sh ?_
    exact rT
end Go.UM

/- Package over, part 2: images whose lists are local. -/


namespace Go.UM
open Go.AM
set_option maxRecDepth 4000

theorem clone3_c {R : Env} (h : N101 R) (l : List T3) (hl : l.length ≤ 1073741824) :
    R.Mc 101 [.isl 3 (slc3 l)] [] (.osl 0 l.length) [(0, .arr (R.ty 13) 3 (slc3 l))] 1 :=
  h.o101.enterM 60 0 rfl rfl rfl fun X b hfit hp => by
    refine sh ?_
    refine ANil.mk (fun hn => ?_) ?_
    · have : l = [] := by simpa [slc3] using hn
      subst this
      refine sh ?_
      exact rM [50]
    · refine sh ?_
      exact rM [0]
theorem cloneI_c {R : Env} (h : N156 R) (l : List Int) (hl : l.length ≤ 1073741824) :
    R.Mc 156 [.isl 1 (slcK .i64 l)] [] (.osl 0 l.length) [(0, .arr (R.ty 10) 1 (slcK .i64 l))] 1 :=
  h.o156.enterM 60 0 rfl rfl rfl fun X b hfit hp => by
    refine sh ?_
    refine ANil.mk (fun hn => ?_) ?_
    · have : l = [] := by simpa [slcK] using hn
      subst this
      refine sh ?_
      exact rM [50]
    · refine sh ?_
      exact rM [0]

/-- An image whose lists are the blocks 0 to 5. -/
def Im.orow (i : Im) : List AV := [.int .i64 i.w, .int .i64 i.h, .osl 0 i.be.length, .osl 1 i.al.length, .osl 2 i.de.length, .osl 3 i.no.length, .osl 4 i.as.length, .osl 5 i.la.length]
def imM (R : Env) (i : Im) : IMem := [(0, .arr (R.ty 13) 3 (slc3 i.be)), (1, .arr (R.ty 10) 1 (slcK .i64 i.al)), (2, .arr (R.ty 10) 1 (slcK .i64 i.de)), (3, .arr (R.ty 13) 3 (slc3 i.no)), (4, .arr (R.ty 10) 1 (slcK .i64 i.as)), (5, .arr (R.ty 10) 1 (slcK .i64 i.la))]
def imV (R : Env) (i : Im) : IMem := [(0, .arr (R.ty 13) 3 (slc3 i.be)), (1, .arr (R.ty 10) 1 (slcK .i64 i.al)), (2, .arr (R.ty 10) 1 (slcK .i64 i.de)), (3, .arr (R.ty 13) 3 (slc3 i.no)), (4, .arr (R.ty 10) 1 (slcK .i64 i.as)), (5, .arr (R.ty 10) 1 (slcK .i64 i.la)), (6, .var (R.ty 16) i.orow)]

theorem copied_c {R : Env} (h : N143 R) (i : Im) (few : i.Few) : R.Mc 143 [.agg i.row] [] (.agg i.orow) (imM R i) 6 :=
  h.o143.enterM 100 0 rfl rfl rfl fun X bb hfit hp => by
    obtain ⟨f0, f1, f2, f3, f4, f5⟩ := few
    refine sh ?_
    refine cM false [] (clone3_c h.n101 i.be (by omega)) ?_
    repeat ((intro _u; clear _u); first | refine eK ?_ | refine eP ?_)
    refine sh ?_
    refine cM false [] (cloneI_c h.n156 i.al (by omega)) ?_
    repeat ((intro _u; clear _u); first | refine eK ?_ | refine eP ?_)
    refine sh ?_
    refine cM false [] (cloneI_c h.n156 i.de (by omega)) ?_
    repeat ((intro _u; clear _u); first | refine eK ?_ | refine eP ?_)
    refine sh ?_
    refine cM false [] (clone3_c h.n101 i.no (by omega)) ?_
    repeat ((intro _u; clear _u); first | refine eK ?_ | refine eP ?_)
    refine sh ?_
    refine cM false [] (cloneI_c h.n156 i.as (by omega)) ?_
    repeat ((intro _u; clear _u); first | refine eK ?_ | refine eP ?_)
    refine sh ?_
    refine cM false [] (cloneI_c h.n156 i.la (by omega)) ?_
    repeat ((intro _u; clear _u); first | refine eK ?_ | refine eP ?_)
    refine sh ?_
    exact rM [2, 3, 4, 5, 6, 7]

/-- A pixel put where another one is. -/
def Im.put (o : Im) (n : Nat) (f : Im) (j : Nat) : Im :=
  ⟨o.w, o.h, o.be.set n (f.be.getD j z3), o.al.set n (f.al.getD j 0), o.de.set n (f.de.getD j 0), o.no.set n (f.no.getD j z3), o.as.set n (f.as.getD j 0), o.la.set n (f.la.getD j 0)⟩
/-- All lists are so long. -/
structure Im.Len (i : Im) (n : Nat) : Prop where
  be : i.be.length = n
  al : i.al.length = n
  de : i.de.length = n
  no : i.no.length = n
  as : i.as.length = n
  la : i.la.length = n
theorem Im.Len.put {o : Im} {n m : Nat} {f : Im} {j : Nat} (h : o.Len m) : (o.put n f j).Len m := by
  obtain ⟨a, b, c, d, e, g⟩ := h
  exact ⟨by simp [Im.put, a], by simp [Im.put, b], by simp [Im.put, c], by simp [Im.put, d], by simp [Im.put, e], by simp [Im.put, g]⟩
theorem getd {α : Type} {l : List α} {j : Nat} (d : α) (h : j < l.length) : l[j]? = some (l.getD j d) := by
  rw [List.getD_eq_getElem?_getD, List.getElem?_eq_getElem h]; rfl
theorem slc3_set (l : List T3) (n : Nat) (x : T3) : (slc3 l).set n (t3 x) = slc3 (l.set n x) := by simp [slc3, List.map_set]
theorem slcK_set (k : IntKind) (l : List Int) (n : Nat) (x : Int) : (slcK k l).set n [.int k x] = slcK k (l.set n x) := by simp [slcK, List.map_set]

theorem move_c {R : Env} (h : N139 R) (o f : Im) (n j m mf : Nat) (lo : o.Len m) (lf : f.Len mf) (hn : n < m) (hj : j < mf) (hm : m ≤ 10000) (hmf : mf ≤ 10000) :
    R.Mc 139 [.loc 6 1 0 0, .int .i64 n, .agg f.row, .int .i64 j] (imV R o) (.tup []) (imV R (o.put n f j)) 7 :=
  h.o139.enterM 100 7 rfl rfl rfl fun X bb hfit hp => by
    obtain ⟨a0, a1, a2, a3, a4, a5⟩ := lo
    obtain ⟨b0, b1, b2, b3, b4, b5⟩ := lf
    refine sh ?_
    refine eget_map (getd z3 (l := f.be) (j := j) (by omega)) ?_
    refine sh ?_
    refine eget_map (getd 0 (l := f.al) (j := j) (by omega)) ?_
    refine sh ?_
    refine eget_map (getd 0 (l := f.de) (j := j) (by omega)) ?_
    refine sh ?_
    refine aelt_map (by first | (simp; done) | (simp; omega)) (getd z3 (l := o.be) (j := n) (by omega)) ?_
    refine sh ?_
    refine aelt_map (by first | (simp; done) | (simp; omega)) (getd 0 (l := o.al) (j := n) (by omega)) ?_
    refine sh ?_
    refine aelt_map (by first | (simp; done) | (simp; omega)) (getd 0 (l := o.de) (j := n) (by omega)) ?_
    refine sh ?_
    refine eget_map (getd z3 (l := f.no) (j := j) (by omega)) ?_
    refine sh ?_
    refine eget_map (getd 0 (l := f.as) (j := j) (by omega)) ?_
    refine sh ?_
    refine eget_map (getd 0 (l := f.la) (j := j) (by omega)) ?_
    refine sh ?_
    refine aelt_map (by first | (simp; done) | (simp; omega)) (getd z3 (l := o.no) (j := n) (by omega)) ?_
    refine sh ?_
    refine aelt_map (by first | (simp; done) | (simp; omega)) (getd 0 (l := o.as) (j := n) (by omega)) ?_
    refine sh ?_
    refine aelt_map (by first | (simp; done) | (simp; omega)) (getd 0 (l := o.la) (j := n) (by omega)) ?_
    refine sh ?_
    refine rM [0, 1, 2, 3, 4, 5, 6] ?_
    all_goals repeat' (first | exact True.intro | refine And.intro ?_ ?_ | (intro _u; clear _u) | (with_reducible first | refine eM ?_ ?_ | refine eF ?_ ?_ ?_ | refine eN ?_ | refine eL ?_ ?_ ?_ | refine eA ?_ ?_ | refine IWk.mk ⟨_, hp, rfl⟩ ?_ ?_) | refine IWk.mk ⟨_, hp, rfl⟩ ?_ ?_)
    all_goals first | with_reducible rfl | omega | exact Or.inl (by decide) | (simp; done) | rfl | skip
    all_goals first | exact slc3_set _ _ _ | exact slcK_set _ _ _ _ | rfl | (simp [Im.put]; done)

def slI (l : List Im) : List (List AV) := l.map Im.row
@[simp] theorem slI_length (l : List Im) : (slI l).length = l.length := by simp [slI]
@[simp] theorem slI_NmL (l : List Im) : NmL (slI l) := by simp [slI, Im.row]
instance {l : List Im} : LenOf (slI l) l.length := ⟨slI_length l⟩
def chkl : List Im → Int
  | [] => 0
  | i :: r => if ichk i ≠ 0 then ichk i else chkl r
theorem planes_e (i : Im) : (planes i).2 = ichk i := by
  unfold planes
  split
  · rfl
  · rename_i h
    simp only [Decidable.not_not] at h
    exact h.symm
theorem check38_c {R : Env} (h : N136 R) (l : List Im) (hf : ∀ i ∈ l, i.Few) (hl : l.length ≤ 1000) : R.Pc 136 [.isl 8 (slI l)] (.int .i64 (chkl l)) :=
  h.o136.enter 100 rfl fun X bb hfit hp => by
    generalize hq : chkl l = q
    refine sh ?_
    refine lPa 100 (fun k : Nat => k ≤ l.length ∧ chkl (l.drop k) = q) (fun k => ⟨[(7, .isl 8 (slI l)), (8, .int .i64 l.length), (9, .int .i64 k)], [], 0⟩) (fun k => l.length - k) (0) ?_ ?_
    · exact ⟨Nat.zero_le _, hq⟩
    · intro k hk
      obtain ⟨hk1, hk2⟩ := hk
      dsimp only
      refine sh ?_
      refine cS (fun h1 => ?_) (fun h1 => ?_)
      · obtain ⟨y, hy⟩ : ∃ u_, l[k]? = some u_ := ⟨_, List.getElem?_eq_getElem (by first | omega | (simp <;> omega))⟩
        refine sh ?_
        refine eget_map hy ?_
        obtain ⟨hk3, hk4⟩ := List.getElem?_eq_some_iff.1 hy
        rw [List.drop_eq_getElem_cons hk3, hk4, chkl] at hk2
        have c1 := planes_c h.n132 y (hf y (List.mem_of_getElem? hy))
        rw [planes_e] at c1
        refine sh ?_
        refine ICall.pure h.n132.o132.hb c1 rfl ?_
        refine sh ?_
        refine cS (fun h2 => ?_) (fun h2 => ?_)
        · rw [if_pos h2] at hk2
          subst hk2
          refine sh ?_
          exact rT
        · rw [if_neg (fun hh => hh h2)] at hk2
          refine sh ?_
          refine nXa (k + 1) ?_ ?_
          · exact ⟨by omega, hk2⟩
          · omega
      · rw [List.drop_of_length_le (by omega), chkl] at hk2
        subst hk2
        refine sh ?_
        exact rT

def within (i : Im) (x y w h : Int) : Bool := decide (0 ≤ x ∧ 0 ≤ y ∧ 1 ≤ w ∧ 1 ≤ h ∧ w ≤ i.w ∧ h ≤ i.h ∧ x ≤ i.w - w ∧ y ≤ i.h - h)
theorem within_c {R : Env} (h : N137 R) (i : Im) (x y w hh : Int) (ok : i.Ok) : R.Pc 137 [.agg i.row, .int .i64 x, .int .i64 y, .int .i64 w, .int .i64 hh] (.bool (within i x y w hh)) :=
  h.o137.enter 60 rfl fun X bb hfit hp => by
    have hw := ok.w
    have hhh := ok.h
    unfold within
    refine sh ?_
    refine cS (fun h1 => ?_) (fun h1 => ?_)
    · refine sh ?_
      refine cS (fun h2 => ?_) (fun h2 => ?_)
      · refine sh ?_
        refine cS (fun h3 => ?_) (fun h3 => ?_)
        · refine sh ?_
          refine cS (fun h4 => ?_) (fun h4 => ?_)
          · refine sh ?_
            refine cS (fun h5 => ?_) (fun h5 => ?_)
            · refine sh ?_
              refine rT ?_
              all_goals repeat' (first | exact True.intro | refine And.intro ?_ ?_ | (intro _u; clear _u) | (with_reducible first | refine eM ?_ ?_ | refine eF ?_ ?_ ?_ | refine eN ?_ | refine eL ?_ ?_ ?_ | refine eA ?_ ?_ | refine IWk.mk ⟨_, hp, rfl⟩ ?_ ?_) | refine IWk.mk ⟨_, hp, rfl⟩ ?_ ?_)
              all_goals first | with_reducible rfl | omega | exact Or.inl (by decide) | (simp; done) | rfl | skip
              rw [Bool.eq_iff_iff]; simp only [decide_eq_true_eq]; omega
            · refine sh ?_
              refine rT ?_
              all_goals repeat' (first | exact True.intro | refine And.intro ?_ ?_ | (intro _u; clear _u) | (with_reducible first | refine eM ?_ ?_ | refine eF ?_ ?_ ?_ | refine eN ?_ | refine eL ?_ ?_ ?_ | refine eA ?_ ?_ | refine IWk.mk ⟨_, hp, rfl⟩ ?_ ?_) | refine IWk.mk ⟨_, hp, rfl⟩ ?_ ?_)
              all_goals first | with_reducible rfl | omega | exact Or.inl (by decide) | (simp; done) | rfl | skip
              simp; omega
          · refine sh ?_
            refine rT ?_
            all_goals repeat' (first | exact True.intro | refine And.intro ?_ ?_ | (intro _u; clear _u) | (with_reducible first | refine eM ?_ ?_ | refine eF ?_ ?_ ?_ | refine eN ?_ | refine eL ?_ ?_ ?_ | refine eA ?_ ?_ | refine IWk.mk ⟨_, hp, rfl⟩ ?_ ?_) | refine IWk.mk ⟨_, hp, rfl⟩ ?_ ?_)
            all_goals first | with_reducible rfl | omega | exact Or.inl (by decide) | (simp; done) | rfl | skip
            simp; omega
        · refine sh ?_
          refine rT ?_
          all_goals repeat' (first | exact True.intro | refine And.intro ?_ ?_ | (intro _u; clear _u) | (with_reducible first | refine eM ?_ ?_ | refine eF ?_ ?_ ?_ | refine eN ?_ | refine eL ?_ ?_ ?_ | refine eA ?_ ?_ | refine IWk.mk ⟨_, hp, rfl⟩ ?_ ?_) | refine IWk.mk ⟨_, hp, rfl⟩ ?_ ?_)
          all_goals first | with_reducible rfl | omega | exact Or.inl (by decide) | (simp; done) | rfl | skip
          simp; omega
      · refine sh ?_
        refine rT ?_
        all_goals repeat' (first | exact True.intro | refine And.intro ?_ ?_ | (intro _u; clear _u) | (with_reducible first | refine eM ?_ ?_ | refine eF ?_ ?_ ?_ | refine eN ?_ | refine eL ?_ ?_ ?_ | refine eA ?_ ?_ | refine IWk.mk ⟨_, hp, rfl⟩ ?_ ?_) | refine IWk.mk ⟨_, hp, rfl⟩ ?_ ?_)
        all_goals first | with_reducible rfl | omega | exact Or.inl (by decide) | (simp; done) | rfl | skip
        simp; omega
    · refine sh ?_
      refine rT ?_
      all_goals repeat' (first | exact True.intro | refine And.intro ?_ ?_ | (intro _u; clear _u) | (with_reducible first | refine eM ?_ ?_ | refine eF ?_ ?_ ?_ | refine eN ?_ | refine eL ?_ ?_ ?_ | refine eA ?_ ?_ | refine IWk.mk ⟨_, hp, rfl⟩ ?_ ?_) | refine IWk.mk ⟨_, hp, rfl⟩ ?_ ?_)
      all_goals first | with_reducible rfl | omega | exact Or.inl (by decide) | (simp; done) | rfl | skip
      simp; omega

def zeros (w h : Int) (n : Nat) : Im := ⟨w, h, List.replicate n z3, List.replicate n 0, List.replicate n 0, List.replicate n z3, List.replicate n 0, List.replicate n 0⟩
def whM (R : Env) (w h : Int) : IMem := [(0, .var (R.ty 10) [.int .i64 w]), (1, .var (R.ty 10) [.int .i64 h])]
theorem ints38_c {R : Env} (h : N154 R) (w hh : Int) (n : Nat) (hn : (n : Int) = w * hh) (hm : n ≤ 4096) : R.Mc 154 [.loc 0 1 0 0, .loc 1 1 0 0] (whM R w hh) (.osl 2 n) [(0, .var (R.ty 10) [.int .i64 w]), (1, .var (R.ty 10) [.int .i64 hh]), (2, .arr (R.ty 10) 1 (slcK .i64 (List.replicate n 0)))] 3 :=
  h.o154.enterM 60 2 rfl rfl rfl fun X bb hfit hp => by
    refine sh ?_
    refine amk_n n (by omega) (by omega) (by omega) ?_
    refine sh ?_
    refine rM [0, 1, 2] ?_
    all_goals repeat' (first | exact True.intro | refine And.intro ?_ ?_ | (intro _u; clear _u) | (with_reducible first | refine eM ?_ ?_ | refine eF ?_ ?_ ?_ | refine eN ?_ | refine eL ?_ ?_ ?_ | refine eA ?_ ?_ | refine IWk.mk ⟨_, hp, rfl⟩ ?_ ?_) | refine IWk.mk ⟨_, hp, rfl⟩ ?_ ?_)
    all_goals first | with_reducible rfl | omega | exact Or.inl (by decide) | (simp; done) | rfl | skip
    all_goals (simp [slcK])
theorem empty_c {R : Env} (h : N138 R) (w hh : Int) (n : Nat) (hn : (n : Int) = w * hh) (hm : n ≤ 4096) : R.Mc 138 [.int .i64 w, .int .i64 hh] [] (.agg (zeros w hh n).orow) (imM R (zeros w hh n)) 6 :=
  h.o138.enterM 60 0 rfl rfl rfl fun X bb hfit hp => by
    refine sh ?_
    refine amk_n n (by omega) (by omega) (by omega) ?_
    refine sh ?_
    refine cR false [0, 1] (ints38_c h.n154 w hh n hn hm) ?_
    repeat ((intro _u; clear _u); first | refine eK ?_ | refine eP ?_)
    first | refine ⟨⟨[], rfl, rfl⟩, ?_⟩ | refine ⟨⟨[_], rfl, rfl⟩, ?_⟩ | refine ⟨⟨[_, _], rfl, rfl⟩, ?_⟩
    refine sh ?_
    refine cR false [0, 1] (ints38_c h.n154 w hh n hn hm) ?_
    repeat ((intro _u; clear _u); first | refine eK ?_ | refine eP ?_)
    first | refine ⟨⟨[], rfl, rfl⟩, ?_⟩ | refine ⟨⟨[_], rfl, rfl⟩, ?_⟩ | refine ⟨⟨[_, _], rfl, rfl⟩, ?_⟩
    refine sh ?_
    refine amk_n n (by omega) (by omega) (by omega) ?_
    refine sh ?_
    refine cR false [0, 1] (ints38_c h.n154 w hh n hn hm) ?_
    repeat ((intro _u; clear _u); first | refine eK ?_ | refine eP ?_)
    first | refine ⟨⟨[], rfl, rfl⟩, ?_⟩ | refine ⟨⟨[_], rfl, rfl⟩, ?_⟩ | refine ⟨⟨[_, _], rfl, rfl⟩, ?_⟩
    refine sh ?_
    refine cR false [0, 1] (ints38_c h.n154 w hh n hn hm) ?_
    repeat ((intro _u; clear _u); first | refine eK ?_ | refine eP ?_)
    first | refine ⟨⟨[], rfl, rfl⟩, ?_⟩ | refine ⟨⟨[_], rfl, rfl⟩, ?_⟩ | refine ⟨⟨[_, _], rfl, rfl⟩, ?_⟩
    refine sh ?_
    refine rM [3, 4, 5, 6, 7, 8] ?_
    all_goals repeat' (first | exact True.intro | refine And.intro ?_ ?_ | (intro _u; clear _u) | (with_reducible first | refine eM ?_ ?_ | refine eF ?_ ?_ ?_ | refine eN ?_ | refine eL ?_ ?_ ?_ | refine eA ?_ ?_ | refine IWk.mk ⟨_, hp, rfl⟩ ?_ ?_) | refine IWk.mk ⟨_, hp, rfl⟩ ?_ ?_)
    all_goals first | with_reducible rfl | omega | exact Or.inl (by decide) | (simp; done) | rfl | skip
    all_goals (simp [zeros, slc3, t3, z3])
end Go.UM

/- Images as rows of pixels, and what is done with them (plain). -/

namespace Go.UM
open Go.AM
set_option maxRecDepth 4000

/-- A pixel. -/
structure Px where
  be : T3
  al : Int
  de : Int
  no : T3
  as : Int
  la : Int
def zPx : Px := ⟨z3, 0, 0, z3, 0, 0⟩
def in16 (x : Int) : Prop := 0 ≤ x ∧ x ≤ 65535
structure Px.In (p : Px) : Prop where
  be : p.be.in16
  al : in16 p.al
  de : in16 p.de
  no : p.no.in16
  as : in16 p.as
  la : in16 p.la
def ofPx (w h : Int) (l : List Px) : Im := ⟨w, h, l.map Px.be, l.map Px.al, l.map Px.de, l.map Px.no, l.map Px.as, l.map Px.la⟩
theorem ofPx_len (w h : Int) (l : List Px) : (ofPx w h l).Len l.length := ⟨by simp [ofPx], by simp [ofPx], by simp [ofPx], by simp [ofPx], by simp [ofPx], by simp [ofPx]⟩
theorem ofPx_len' {w h : Int} {l : List Px} {n : Nat} (hn : l.length = n) : (ofPx w h l).Len n := hn ▸ ofPx_len w h l
def Im.px (i : Im) (k : Nat) : Px := ⟨i.be.getD k z3, i.al.getD k 0, i.de.getD k 0, i.no.getD k z3, i.as.getD k 0, i.la.getD k 0⟩
theorem px_of {w h : Int} {l : List Px} {k : Nat} {x : Px} (hx : l[k]? = some x) : (ofPx w h l).px k = x := by
  simp [Im.px, ofPx, List.getD_eq_getElem?_getD, hx]
def Im.pxs (i : Im) : List Px := (List.range i.al.length).map i.px
theorem pxs_of (w h : Int) (l : List Px) : (ofPx w h l).pxs = l := by
  apply List.ext_getElem?
  intro k
  simp only [Im.pxs, List.getElem?_map]
  by_cases hk : k < l.length
  · rw [List.getElem?_range (by simp [ofPx]; exact hk), Option.map_some, px_of (List.getElem?_eq_getElem hk), List.getElem?_eq_getElem hk]
  · rw [List.getElem?_eq_none (by simp [ofPx]; omega), List.getElem?_eq_none (by omega)]; rfl
theorem Im.Len.of {i : Im} {n : Nat} (h : i.Len n) : i = ofPx i.w i.h i.pxs ∧ i.pxs.length = n := by
  refine ⟨?_, by simp [Im.pxs, h.al]⟩
  obtain ⟨w, hh, be, al, de, no, as, la⟩ := i
  obtain ⟨a, b, c, d, e, f⟩ := h
  simp only at a b c d e f
  simp only [ofPx, Im.pxs, List.map_map, Im.mk.injEq, true_and]
  refine ⟨?_, ?_, ?_, ?_, ?_, ?_⟩
  all_goals
    apply List.ext_getElem (by simp [*])
    intro k h1 h2
    simp [Im.px, List.getD_eq_getElem?_getD, h1]
theorem put_px {w h w' h' : Int} {l f : List Px} {n j : Nat} {x : Px} (hx : f[j]? = some x) : (ofPx w h l).put n (ofPx w' h' f) j = ofPx w h (l.set n x) := by
  have e := px_of (w := w') (h := h') hx
  subst e
  simp [Im.put, ofPx, List.map_set, Im.px]
theorem zeros_px (w h : Int) (n : Nat) : zeros w h n = ofPx w h (List.replicate n zPx) := by simp [zeros, ofPx, zPx]

/-- Pixels that an image of a size may have. -/
structure GoodP (w h : Int) (l : List Px) : Prop where
  hw : 1 ≤ w ∧ w ≤ 64
  hh : 1 ≤ h ∧ h ≤ 64
  len : (l.length : Int) = w * h
  px : ∀ p ∈ l, p.In
theorem good_ok {w h : Int} {l : List Px} : (ofPx w h l).Ok ↔ GoodP w h l := by
  constructor
  · intro o
    refine ⟨o.w, o.h, by have := o.al; simpa [ofPx] using this, fun p hp => ⟨o.vbe _ ?_, o.val _ ?_, o.vde _ ?_, o.vno _ ?_, o.vas _ ?_, o.vla _ ?_⟩⟩
    all_goals exact List.mem_map_of_mem hp
  · intro g
    have hl := g.len
    refine ⟨g.hw, g.hh, by simp [ofPx]; exact hl, by simp [ofPx]; exact hl, by simp [ofPx]; exact hl, by simp [ofPx]; exact hl, by simp [ofPx]; exact hl, by simp [ofPx]; exact hl, ?_, ?_, ?_, ?_, ?_, ?_⟩
    all_goals
      intro x hx
      obtain ⟨p, hp, rfl⟩ := List.mem_map.1 hx
    · exact (g.px p hp).be
    · exact (g.px p hp).al
    · exact (g.px p hp).de
    · exact (g.px p hp).no
    · exact (g.px p hp).as
    · exact (g.px p hp).la
theorem Im.Ok.good {i : Im} (h : i.Ok) : i = ofPx i.w i.h i.pxs ∧ GoodP i.w i.h i.pxs := by
  have l0 := h.be
  have l1 := h.al
  have l2 := h.de
  have l3 := h.no
  have l4 := h.as
  have l5 := h.la
  have e := (Im.Len.of (i := i) (n := i.al.length) ⟨by omega, rfl, by omega, by omega, by omega, by omega⟩).1
  exact ⟨e, good_ok.1 (e ▸ h)⟩
theorem GoodP.few {w h : Int} {l : List Px} (g : GoodP w h l) : 1 ≤ l.length ∧ l.length ≤ 4096 := by
  have := Im.Ok.few (good_ok.2 g)
  have hl := g.len
  simp only [ofPx] at this
  omega
theorem good_chk {w h : Int} {l : List Px} (g : GoodP w h l) : ichk (ofPx w h l) = 0 := ichk_ok.2 (good_ok.2 g)

/-! ### One upon the other -/
def mixPx (x y : Px) : Px :=
  ⟨⟨mix x.be.a y.be.a x.al, mix x.be.b y.be.b x.al, mix x.be.c y.be.c x.al⟩, mix x.al y.al x.al, if 32768 ≤ x.al then x.de else y.de, if 32768 ≤ x.al then x.no else y.no, if 32768 ≤ x.al then x.as else y.as, if 32768 ≤ x.al then x.la else y.la⟩
theorem mix_in (a b c : Int) : in16 (mix a b c) := by
  have ha := near_in a
  have hb := near_in b
  have hc := near_in c
  have hm := mul_in hb (y := 65535 - near c) (by omega)
  unfold in16 mix; omega
theorem mixPx_in {x y : Px} (hx : x.In) (hy : y.In) : (mixPx x y).In := by
  refine ⟨⟨mix_in _ _ _, mix_in _ _ _, mix_in _ _ _⟩, mix_in _ _ _, ?_, ?_, ?_, ?_⟩
  all_goals
    simp only [mixPx]
    split
  · exact hx.de
  · exact hy.de
  · exact hx.no
  · exact hy.no
  · exact hx.as
  · exact hy.as
  · exact hx.la
  · exact hy.la
def overI (a b : Im) : Im := ofPx a.w a.h (List.zipWith mixPx a.pxs b.pxs)
def over4 (a b : Im) : Im × Int := if ichk a ≠ 0 then (zIm, ichk a) else if ichk b ≠ 0 then (zIm, ichk b) else if a.w ≠ b.w ∨ a.h ≠ b.h then (zIm, 2) else (overI a b, 0)
theorem mem_zipWith {α β γ : Type} {f : α → β → γ} : ∀ {l : List α} {m : List β} {z : γ}, z ∈ List.zipWith f l m → ∃ x y, x ∈ l ∧ y ∈ m ∧ z = f x y
  | a :: l, b :: m, z, h => by
    simp only [List.zipWith_cons_cons, List.mem_cons] at h
    rcases h with rfl | h
    · exact ⟨a, b, by simp, by simp, rfl⟩
    · obtain ⟨x, y, hx, hy, e⟩ := mem_zipWith h
      exact ⟨x, y, by simp [hx], by simp [hy], e⟩
  | [], _, _, h => by simp at h
  | _ :: _, [], _, h => by simp at h
theorem good_mix {w h : Int} {l m : List Px} (gl : GoodP w h l) (gm : GoodP w h m) : GoodP w h (List.zipWith mixPx l m) := by
  have h1 := gl.len
  have h2 := gm.len
  refine ⟨gl.hw, gl.hh, by simp only [List.length_zipWith]; omega, fun p hp => ?_⟩
  obtain ⟨x, y, hx, hy, rfl⟩ := mem_zipWith hp
  exact mixPx_in (gl.px x hx) (gm.px y hy)
/-- A row of pixels of which the first ones are done. -/
theorem zip_get {l m : List Px} {k : Nat} {x y : Px} (hx : l[k]? = some x) (hy : m[k]? = some y) : (List.zipWith mixPx l m)[k]? = some (mixPx x y) := by
  simp [List.getElem?_zipWith, hx, hy]
theorem done_set {α : Type} {z m : List α} {k : Nat} {v : α} (hz : z[k]? = some v) (hm : k < m.length) : (z.take k ++ m.drop k).set k v = z.take (k + 1) ++ m.drop (k + 1) := by
  obtain ⟨h1, h2⟩ := List.getElem?_eq_some_iff.1 hz
  rw [take_succ_get hz, List.drop_eq_getElem_cons hm, List.append_assoc, List.set_append_right _ _ (by rw [List.length_take]; omega)]
  congr 1
  rw [List.length_take, Nat.min_eq_left (by omega), Nat.sub_self]; rfl
theorem done_get {α : Type} {z m : List α} {k : Nat} {y : α} (hz : k ≤ z.length) (hm : m[k]? = some y) : (z.take k ++ m.drop k)[k]? = some y := by
  rw [List.getElem?_append_right (by rw [List.length_take]; omega), List.length_take, Nat.min_eq_left hz, Nat.sub_self, List.getElem?_drop]; simpa using hm
theorem set_same {α : Type} {m : List α} {k : Nat} {y : α} (hm : m[k]? = some y) : m = m.set k y := by
  apply List.ext_getElem?
  intro j
  rw [List.getElem?_set]
  split
  · rename_i e
    subst e
    obtain ⟨h1, h2⟩ := List.getElem?_eq_some_iff.1 hm
    simp [h1, h2]
  · rfl
theorem set_get {α : Type} {m : List α} {k : Nat} {y : α} (h : k < m.length) : (m.set k y)[k]? = some y := by simp [h]

/-! ### All upon one another -/
def stack4 : List Im → Im × Int
  | [] => (zIm, 2)
  | [a] => if ichk a ≠ 0 then (zIm, ichk a) else (a, 0)
  | a :: b :: r => if (stack4 (b :: r)).2 ≠ 0 then (zIm, (stack4 (b :: r)).2) else over4 a (stack4 (b :: r)).1
def clear4 (w h : Int) : Im × Int := if (1 ≤ w ∧ w ≤ 64) ∧ (1 ≤ h ∧ h ≤ 64) then (zeros w h (w * h).toNat, 0) else (zIm, 2)

/-! ### Parts -/
def cropL (W : Nat) (l : List Px) (x y w h : Nat) : List Px := (List.range (w * h)).map fun k => l.getD ((y + k / w) * W + x + k % w) zPx
def crop4 (i : Im) (x y w h : Int) : Im × Int := if ichk i ≠ 0 then (zIm, ichk i) else if within i x y w h = false then (zIm, 2) else (ofPx w h (cropL i.w.toNat i.pxs x.toNat y.toNat w.toNat h.toNat), 0)
/-- The pixel n, in row r and column c, of an image into which the first k pixels of a part were put. -/
def putRC (l q : List Px) (x y w h k n r c : Nat) : Px := if (y ≤ r ∧ r < y + h ∧ x ≤ c ∧ c < x + w) ∧ (r - y) * w + (c - x) < k then q.getD ((r - y) * w + (c - x)) zPx else l.getD n zPx
def putAt (W : Nat) (l q : List Px) (x y w h k n : Nat) : Px := putRC l q x y w h k n (n / W) (n % W)
def putL (W : Nat) (l q : List Px) (x y w h k : Nat) : List Px := (List.range l.length).map (putAt W l q x y w h k)
def put4 (i p : Im) (x y : Int) : Im × Int := if ichk i ≠ 0 then (zIm, ichk i) else if ichk p ≠ 0 then (zIm, ichk p) else if within i x y p.w p.h = false then (zIm, 2) else
  (ofPx i.w i.h (putL i.w.toNat i.pxs p.pxs x.toNat y.toNat p.w.toNat p.h.toNat (p.w.toNat * p.h.toNat)), 0)

theorem div_at {W r c : Nat} (hc : c < W) : (r * W + c) / W = r ∧ (r * W + c) % W = c := by
  constructor
  · rw [Nat.add_comm, Nat.add_mul_div_right _ _ (by omega), Nat.div_eq_of_lt hc, Nat.zero_add]
  · rw [Nat.add_comm, Nat.add_mul_mod_self_right, Nat.mod_eq_of_lt hc]
theorem div_uniq {W a b c d : Nat} (hc : c < W) (hd : d < W) (h : a * W + c = b * W + d) : a = b ∧ c = d := by
  have h1 := div_at (r := a) hc
  have h2 := div_at (r := b) hd
  rw [h] at h1
  exact ⟨h1.1.symm.trans h2.1, h1.2.symm.trans h2.2⟩
theorem div_mod (n W : Nat) : n = n / W * W + n % W := by have := Nat.div_add_mod n W; rw [Nat.mul_comm] at this; exact this.symm
theorem row_lt {r c W H : Nat} (hr : r < H) (hc : c < W) : r * W + c < W * H := by
  have : (r + 1) * W ≤ H * W := Nat.mul_le_mul_right _ hr
  rw [Nat.add_mul, Nat.one_mul] at this
  rw [Nat.mul_comm W H]; omega
theorem div_lt {k w h : Nat} (hk : k < w * h) : k / w < h ∧ k % w < w := by
  have hw : 0 < w := Nat.pos_of_ne_zero fun e => by subst e; simp at hk
  exact ⟨(Nat.div_lt_iff_lt_mul hw).2 (by rw [Nat.mul_comm]; exact hk), Nat.mod_lt _ hw⟩
theorem put_first {W : Nat} {l q : List Px} {x y w h : Nat} : putL W l q x y w h 0 = l := by
  apply List.ext_getElem?
  intro n
  simp only [putL, List.getElem?_map, putAt]
  by_cases hn : n < l.length
  · rw [List.getElem?_range hn]; simp [putAt, putRC, List.getD_eq_getElem?_getD, hn]
  · rw [List.getElem?_eq_none (by simp; omega), List.getElem?_eq_none (by omega)]; rfl
theorem put_next {W : Nat} {l q : List Px} {x y w h k : Nat} {v : Px} (hk : k < w * h) (hx : x + w ≤ W) (hv : q[k]? = some v) :
    (putL W l q x y w h k).set ((y + k / w) * W + x + k % w) v = putL W l q x y w h (k + 1) := by
  obtain ⟨d1, d2⟩ := div_lt hk
  have dk := div_mod k w
  apply List.ext_getElem?
  intro n
  have hlen : (putL W l q x y w h k).length = l.length := by simp [putL]
  have hset : ((putL W l q x y w h k).set ((y + k / w) * W + x + k % w) v)[n]? = if (y + k / w) * W + x + k % w = n ∧ n < l.length then some v else (putL W l q x y w h k)[n]? := by
    rw [List.getElem?_set]
    generalize (y + k / w) * W + x + k % w = pos
    by_cases e : pos = n
    · subst e
      by_cases hn : pos < l.length
      · rw [if_pos rfl, if_pos (by omega), if_pos ⟨rfl, hn⟩]
      · rw [if_pos rfl, if_neg (by omega), if_neg (fun hh => hn hh.2), List.getElem?_eq_none (by omega)]
    · rw [if_neg e, if_neg (fun hh => e hh.1)]
  rw [hset]
  by_cases hn : n < l.length
  · have e1 : ∀ k', (putL W l q x y w h k')[n]? = some (putAt W l q x y w h k' n) := fun k' => by simp [putL, List.getElem?_map, List.getElem?_range hn]
    rw [e1, e1]
    have dn := div_mod n W
    have hmW : n % W < W := Nat.mod_lt _ (by omega)
    unfold putAt
    generalize n / W = r at *
    generalize n % W = c at *
    generalize k / w = rk at *
    generalize k % w = ck at *
    have e0 : (y + rk) * W + x + ck = (y + rk) * W + (x + ck) := by omega
    rw [e0]
    split
    · rename_i e
      have e := e.1
      rw [dn] at e
      obtain ⟨e3, e4⟩ := div_uniq (by omega) hmW e
      have e6 : r - y = rk := by omega
      have e7 : c - x = ck := by omega
      unfold putRC
      rw [e6, e7, ← dk, if_pos ⟨by omega, by omega⟩]
      simp [List.getD_eq_getElem?_getD, hv]
    · rename_i e
      congr 1
      unfold putRC
      by_cases hr : y ≤ r ∧ r < y + h ∧ x ≤ c ∧ c < x + w
      · have : (r - y) * w + (c - x) ≠ k := by
          intro ek
          rw [dk] at ek
          obtain ⟨e3, e4⟩ := div_uniq (by omega) d2 ek
          apply e
          refine ⟨?_, hn⟩
          rw [dn, show y + rk = r by omega, show x + ck = c by omega]
        generalize (r - y) * w + (c - x) = z at *
        by_cases hl : z < k
        · rw [if_pos ⟨hr, hl⟩, if_pos ⟨hr, by omega⟩]
        · rw [if_neg (fun hh => hl hh.2), if_neg (fun hh => by have := hh.2; omega)]
      · rw [if_neg (fun hh => hr hh.1), if_neg (fun hh => hr hh.1)]
  · rw [if_neg (show ¬ ((y + k / w) * W + x + k % w = n ∧ n < l.length) from fun hh => hn hh.2), List.getElem?_eq_none (by rw [hlen]; omega), List.getElem?_eq_none (by simp [putL]; omega)]

/-! ### How far two part -/
def difI (m a b : Int) : Int := max (max m (a - b)) (b - a)
def pxEq (x y : Px) : Bool := decide ((x.be.a = y.be.a ∧ x.be.b = y.be.b ∧ x.be.c = y.be.c) ∧ x.al = y.al ∧ x.de = y.de ∧ (x.no.a = y.no.a ∧ x.no.b = y.no.b ∧ x.no.c = y.no.c) ∧ x.as = y.as ∧ x.la = y.la)
theorem pxEq_self (x : Px) : pxEq x x = true := by simp [pxEq]
theorem pxEq_eq {x y : Px} (h : pxEq x y = true) : x = y := by
  obtain ⟨⟨a, b, c⟩, d, e, ⟨f, g, i⟩, j, k⟩ := x
  obtain ⟨⟨a', b', c'⟩, d', e', ⟨f', g', i'⟩, j', k'⟩ := y
  simp only [pxEq, decide_eq_true_eq] at h
  obtain ⟨⟨h1, h2, h3⟩, h4, h5, ⟨h6, h7, h8⟩, h9, h10⟩ := h
  subst h1 h2 h3 h4 h5 h6 h7 h8 h9 h10
  rfl
def apx (s : Int × Int) (p : Px × Px) : Int × Int := (if pxEq p.1 p.2 = true then s.1 else s.1 + 1, difI (difI (difI (difI s.2 p.1.be.a p.2.be.a) p.1.be.b p.2.be.b) p.1.be.c p.2.be.c) p.1.al p.2.al)
def apF (l m : List Px) (k : Nat) : Int × Int := ((l.zip m).take k).foldl apx (0, 0)
def apart4 (a b : Im) : (Int × Int) × Int := if ichk a ≠ 0 then ((0, 0), ichk a) else if ichk b ≠ 0 then ((0, 0), ichk b) else if a.w ≠ b.w ∨ a.h ≠ b.h then ((0, 0), 2) else (apF a.pxs b.pxs a.pxs.length, 0)
theorem apF_succ {l m : List Px} {k : Nat} {x y : Px} (hx : l[k]? = some x) (hy : m[k]? = some y) : apF l m (k + 1) = apx (apF l m k) (x, y) := by
  unfold apF
  have : (l.zip m)[k]? = some (x, y) := by simp [List.zip, List.getElem?_zipWith, hx, hy]
  rw [take_succ_get this, List.foldl_append]; rfl
theorem apF_in {l m : List Px} (hl : ∀ p ∈ l, p.In) (hm : ∀ p ∈ m, p.In) : ∀ k, k ≤ l.length → k ≤ m.length → (0 ≤ (apF l m k).1 ∧ (apF l m k).1 ≤ k) ∧ (0 ≤ (apF l m k).2 ∧ (apF l m k).2 ≤ 65535)
  | 0, _, _ => by simp [apF]
  | k + 1, h1, h2 => by
    obtain ⟨⟨i1, i2⟩, i3, i4⟩ := apF_in hl hm k (by omega) (by omega)
    have hx := hl l[k] (List.getElem_mem _)
    have hy := hm m[k] (List.getElem_mem _)
    rw [apF_succ (List.getElem?_eq_getElem (by omega)) (List.getElem?_eq_getElem (by omega))]
    have b1 := hx.be.1; have b2 := hx.be.2.1; have b3 := hx.be.2.2; have b4 := hx.al
    have c1 := hy.be.1; have c2 := hy.be.2.1; have c3 := hy.be.2.2; have c4 := hy.al
    unfold in16 at b4 c4
    refine ⟨⟨?_, ?_⟩, ?_, ?_⟩
    all_goals simp only [apx, difI]
    · split <;> omega
    · split <;> omega
    · omega
    · omega
theorem gbe {l : List Px} {k : Nat} {x : Px} (h : l[k]? = some x) : (l.map Px.be)[k]? = some x.be := by simp [h]
theorem gal {l : List Px} {k : Nat} {x : Px} (h : l[k]? = some x) : (l.map Px.al)[k]? = some x.al := by simp [h]
theorem gde {l : List Px} {k : Nat} {x : Px} (h : l[k]? = some x) : (l.map Px.de)[k]? = some x.de := by simp [h]
theorem gno {l : List Px} {k : Nat} {x : Px} (h : l[k]? = some x) : (l.map Px.no)[k]? = some x.no := by simp [h]
theorem gas {l : List Px} {k : Nat} {x : Px} (h : l[k]? = some x) : (l.map Px.as)[k]? = some x.as := by simp [h]
theorem gla {l : List Px} {k : Nat} {x : Px} (h : l[k]? = some x) : (l.map Px.la)[k]? = some x.la := by simp [h]
theorem aelt_set {es : List (List AV)} {len i : Nat} {r : List AV} {K : List AV → Prop} (hl : es.length = len) (hi : i < len) (k : K r) : AElt (es.set i r) len i K := by
  refine ⟨by simp [hl], ?_⟩
  rw [List.getD_eq_getElem?_getD, List.getElem?_set_self (by omega)]; exact k
theorem wr_nat {n : Nat} (h : n ≤ 9223372036854775807) : wr .i64 (n : Int) = n := wr_in (k := .i64) ⟨by omega, by omega⟩
theorem tdiv_nat (m n : Nat) : (m : Int).tdiv n = ((m / n : Nat) : Int) := rfl
theorem tmod_nat (m n : Nat) : (m : Int).tmod n = ((m % n : Nat) : Int) := rfl
end Go.UM

/- Package over, part 3: images put on one another, cropped, put in, held apart. -/

namespace Go.UM
open Go.AM
set_option maxRecDepth 4000

theorem few_px {w h : Int} {l : List Px} (g : l.length ≤ 5000) : (ofPx w h l).Few := ⟨by simp [ofPx]; omega, by simp [ofPx]; omega, by simp [ofPx]; omega, by simp [ofPx]; omega, by simp [ofPx]; omega, by simp [ofPx]; omega⟩
theorem chkl2 (a b : Im) : chkl [a, b] = if ichk a ≠ 0 then ichk a else if ichk b ≠ 0 then ichk b else 0 := rfl
theorem chkl1 (a : Im) : chkl [a] = if ichk a ≠ 0 then ichk a else 0 := rfl

abbrev pxr (w h : Int) (l : List Px) : List AV := [.int .i64 w, .int .i64 h, .isl 3 (slc3 (l.map Px.be)), .isl 1 (slcK .i64 (l.map Px.al)), .isl 1 (slcK .i64 (l.map Px.de)), .isl 3 (slc3 (l.map Px.no)), .isl 1 (slcK .i64 (l.map Px.as)), .isl 1 (slcK .i64 (l.map Px.la))]
/-- The blocks of an image of pixels, and a variable that has it. -/
def imP (R : Env) (w h : Int) (m : Nat) (M : List Px) : IMem := [(0, .arr (R.ty 13) 3 (slc3 (M.map Px.be))), (1, .arr (R.ty 10) 1 (slcK .i64 (M.map Px.al))), (2, .arr (R.ty 10) 1 (slcK .i64 (M.map Px.de))), (3, .arr (R.ty 13) 3 (slc3 (M.map Px.no))), (4, .arr (R.ty 10) 1 (slcK .i64 (M.map Px.as))), (5, .arr (R.ty 10) 1 (slcK .i64 (M.map Px.la))),
  (6, .var (R.ty 16) [.int .i64 w, .int .i64 h, .osl 0 m, .osl 1 m, .osl 2 m, .osl 3 m, .osl 4 m, .osl 5 m])]
theorem imV_px {R : Env} {w h : Int} {m : Nat} {M : List Px} (hl : M.length = m) : imV R (ofPx w h M) = imP R w h m M := by
  subst hl
  simp [imV, imP, Im.orow, ofPx]
theorem move_p {R : Env} (h : N139 R) (w hh w' hh' : Int) (M l : List Px) (n j m mf : Nat) {x : Px} (hx : l[j]? = some x) (lo : M.length = m) (lf : l.length = mf) (hn : n < m) (hm : m ≤ 10000) (hmf : mf ≤ 10000) :
    R.Mc 139 [.loc 6 1 0 0, .int .i64 n, .agg (ofPx w' hh' l).row, .int .i64 j] (imP R w hh m M) (.tup []) (imP R w hh m (M.set n x)) 7 := by
  have c2 := move_c h (ofPx w hh M) (ofPx w' hh' l) n j m mf (ofPx_len' lo) (ofPx_len' lf) hn (by have := (List.getElem?_eq_some_iff.1 hx).1; omega) hm hmf
  rw [put_px hx, imV_px lo, imV_px (m := m) (by simp; exact lo)] at c2
  exact c2


set_option maxHeartbeats 1000000 in
theorem over_c {R : Env} (h : N119 R) (a b : Im) (fa : a.Few) (fb : b.Few) : R.Pc 119 [.agg a.row, .agg b.row] (.tup [.agg (over4 a b).1.row, .int .i64 (over4 a b).2]) :=
  h.o119.enter 200 rfl fun X bb hfit hp => by
    generalize hq : over4 a b = q
    have c1 := check38_c h.n136 [a, b] (by intro i hi; simp at hi; rcases hi with rfl | rfl <;> assumption) (by simp)
    rw [chkl2] at c1
    refine sh ?_
    refine ICall.lend rfl h.n136.o136.hb c1 ?_ rfl ?_
    · all_goals repeat' (first | exact True.intro | refine And.intro ?_ ?_ | (intro _u; clear _u) | (with_reducible first | refine eM ?_ ?_ | refine eF ?_ ?_ ?_ | refine eN ?_ | refine eL ?_ ?_ ?_ | refine eA ?_ ?_ | refine IWk.mk ⟨_, hp, rfl⟩ ?_ ?_) | refine IWk.mk ⟨_, hp, rfl⟩ ?_ ?_)
      all_goals first | with_reducible rfl | omega | exact Or.inl (by decide) | (simp; done) | rfl | skip
    by_cases ha : ichk a = 0
    · by_cases hb : ichk b = 0
      · rw [if_neg (by simpa using ha), if_neg (by simpa using hb)]
        refine sh ?_
        refine acnd_f (by rfl) ?_
        by_cases e : a.w ≠ b.w ∨ a.h ≠ b.h
        · rw [over4, if_neg (by simpa using ha), if_neg (by simpa using hb), if_pos e] at hq
          subst hq
          by_cases e1 : a.w = b.w
          · have e2 : a.h ≠ b.h := by rcases e with e | e; exact (e e1).elim; exact e
            refine sh ?_
            refine acnd_f (by simpa using e1) ?_
            refine sh ?_
            refine acnd_t (by simpa using e2) ?_
            refine sh ?_
            exact rT
          · refine sh ?_
            refine acnd_t (by simpa using e1) ?_
            refine sh ?_
            exact rT
        · rw [over4, if_neg (by simpa using ha), if_neg (by simpa using hb), if_neg e] at hq
          have ew : a.w = b.w := Decidable.not_not.1 fun hh => e (.inl hh)
          have eh : a.h = b.h := Decidable.not_not.1 fun hh => e (.inr hh)
          refine sh ?_
          refine acnd_f (by simpa using ew) ?_
          refine sh ?_
          refine acnd_f (by simpa using eh) ?_
          obtain ⟨ea, ga⟩ := (ichk_ok.1 ha).good
          obtain ⟨eb, gb⟩ := (ichk_ok.1 hb).good
          unfold overI at hq
          rw [← ew, ← eh] at eb gb
          generalize a.pxs = l at *
          generalize b.pxs = lb at *
          generalize a.w = w at *
          generalize a.h = hh at *
          subst ea eb
          have l1 := ga.few
          have l2 := ga.len
          have l3 := gb.len
          have l4 : lb.length = l.length := by omega
          generalize hm : l.length = m at *
          refine sh ?_
          refine cM false [] (copied_c h.n143 (ofPx w hh lb) fb) ?_
          repeat ((intro _u; clear _u); first | refine eK ?_ | refine eP ?_)
          clear c1 hfit ha hb e ew eh fa fb
          have hal : ∀ p ∈ l, in16 p.al := fun p hp => (ga.px p hp).al
          refine sh ?_
          refine ILoop.inv 200 (fun s : Nat × List Px => s.1 ≤ m ∧ s.2 = (List.zipWith mixPx l lb).take s.1 ++ lb.drop s.1) (fun s => ⟨[(2, .loc 0 1 0 0), (3, .loc 1 1 0 0), (4, .loc 2 1 0 0), (7, .loc 10 1 0 0), (35, .isl 1 (slcK .i64 (l.map Px.al))), (36, .int .i64 m), (37, .int .i64 s.1)], [(10, .var (R.ty 16) [.int .i64 w, .int .i64 hh, .osl 4 m, .osl 5 m, .osl 6 m, .osl 7 m, .osl 8 m, .osl 9 m]), (9, .arr (R.ty 10) 1 (slcK .i64 (s.2.map Px.la))), (8, .arr (R.ty 10) 1 (slcK .i64 (s.2.map Px.as))), (7, .arr (R.ty 13) 3 (slc3 (s.2.map Px.no))), (6, .arr (R.ty 10) 1 (slcK .i64 (s.2.map Px.de))), (5, .arr (R.ty 10) 1 (slcK .i64 (s.2.map Px.al))), (4, .arr (R.ty 13) 3 (slc3 (s.2.map Px.be))), (2, .var (R.ty 16) [.int .i64 0, .int .i64 0, .nils, .nils, .nils, .nils, .nils, .nils]), (1, .var (R.ty 16) (pxr w hh lb)), (0, .var (R.ty 16) (pxr w hh l))], 11⟩) (fun s => m - s.1) ((0, lb)) ?_ ⟨⟨_, hp, rfl⟩, ?_, ?_⟩ ?_
          · exact ⟨Nat.zero_le _, by simp⟩
          · all_goals repeat' (first | exact True.intro | refine And.intro ?_ ?_ | (intro _u; clear _u) | (with_reducible first | refine eM ?_ ?_ | refine eF ?_ ?_ ?_ | refine eN ?_ | refine eL ?_ ?_ ?_ | refine eA ?_ ?_ | refine IWk.mk ⟨_, hp, rfl⟩ ?_ ?_) | refine IWk.mk ⟨_, hp, rfl⟩ ?_ ?_)
            all_goals first | with_reducible rfl | omega | exact Or.inl (by decide) | (simp; done) | rfl | skip
            all_goals (simp [ofPx]; omega)
          · all_goals repeat' (first | exact True.intro | refine And.intro ?_ ?_ | (intro _u; clear _u) | (with_reducible first | refine eM ?_ ?_ | refine eF ?_ ?_ ?_ | refine eN ?_ | refine eL ?_ ?_ ?_ | refine eA ?_ ?_ | refine IWk.mk ⟨_, hp, rfl⟩ ?_ ?_) | refine IWk.mk ⟨_, hp, rfl⟩ ?_ ?_)
            all_goals first | with_reducible rfl | omega | exact Or.inl (by decide) | (simp; done) | rfl | skip
            all_goals (simp [ofPx]; omega)
          · rintro ⟨k, M⟩ ⟨h2, hS⟩
            dsimp only at h2 hS ⊢
            refine sh ?_
            refine cS (fun h3 => ?_) (fun h3 => ?_)
            · obtain ⟨x, hx⟩ : ∃ x, l[k]? = some x := ⟨_, List.getElem?_eq_getElem (by omega)⟩
              obtain ⟨y, hy⟩ : ∃ y, lb[k]? = some y := ⟨_, List.getElem?_eq_getElem (by omega)⟩
              have hxa := hal x (List.mem_of_getElem? hx)
              unfold in16 at hxa
              have hMk : M[k]? = some y := by rw [hS]; exact done_get (by simp; omega) hy
              have hMl : M.length = m := by rw [hS]; simp; omega
              refine sh ?_
              refine eget_map (gal hx) ?_
              refine sh ?_
              refine cS (fun h4 => ?_) (fun h4 => ?_)
              · refine sh ?_
                refine cM false [4, 5, 6, 7, 8, 9, 10] (move_p h.n139 w hh w hh M l k k m m hx hMl hm (by omega) (by omega) (by omega)) ?_
                repeat ((intro _u; clear _u); first | refine eK ?_ | refine eP ?_)
                have hp1 : mixPx x y = { x with be := (mixPx x y).be, al := (mixPx x y).al } := by simp only [mixPx]; rw [if_pos (by omega), if_pos (by omega), if_pos (by omega), if_pos (by omega)]
                generalize hL : M.set k _ = L at ⊢
                have hLk := set_get (m := M) (k := k) (by omega) ▸ (congrArg (fun t : List Px => t[k]?) hL).symm
                have hLl : L.length = m := by rw [← hL]; simp; omega
                have hnext : M.set k (mixPx x y) = L.set k (mixPx x y) := by rw [← hL, List.set_set]
                refine sh ?_
                refine ILoop.one 100 ?_
                refine sh ?_
                refine acnd_t (by decide) ?_
                refine sh ?_
                refine eget_map (gbe hx) ?_
                refine sh ?_
                refine eget_map (gbe hy) ?_
                refine sh ?_
                refine ICall.pure h.n109.o109.hb (mix_c h.n109 x.be.a y.be.a x.al) rfl ?_
                refine sh ?_
                refine aelt_map (by simp; omega) (gbe hLk) ?_
                refine sh ?_
                refine ILoop.one 100 ?_
                refine sh ?_
                refine acnd_t (by decide) ?_
                refine sh ?_
                refine eget_map (gbe hx) ?_
                refine sh ?_
                refine eget_map (gbe hy) ?_
                refine sh ?_
                refine ICall.pure h.n109.o109.hb (mix_c h.n109 x.be.b y.be.b x.al) rfl ?_
                refine sh ?_
                refine aelt_set (by simp; omega) (by omega) ?_
                refine sh ?_
                refine ILoop.one 100 ?_
                refine sh ?_
                refine acnd_t (by decide) ?_
                refine sh ?_
                refine eget_map (gbe hx) ?_
                refine sh ?_
                refine eget_map (gbe hy) ?_
                refine sh ?_
                refine ICall.pure h.n109.o109.hb (mix_c h.n109 x.be.c y.be.c x.al) rfl ?_
                refine sh ?_
                refine aelt_set (by simp; omega) (by omega) ?_
                refine sh ?_
                refine ILoop.one 100 ?_
                refine sh ?_
                refine acnd_f (by decide) ?_
                refine sh ?_
                refine eget_map (gal hy) ?_
                refine sh ?_
                refine ICall.pure h.n109.o109.hb (mix_c h.n109 x.al y.al x.al) rfl ?_
                refine sh ?_
                refine aelt_map (by simp; omega) (gal hLk) ?_
                refine sh ?_
                refine nX ((k + 1, M.set k (mixPx x y))) ?_ ?_ ⟨_, hp, rfl⟩ ?_ ?_
                · refine ⟨by omega, by rw [hS, done_set (zip_get hx hy) (by omega)]⟩
                · omega
                · all_goals repeat' (first | exact True.intro | refine And.intro ?_ ?_ | (intro _u; clear _u) | (with_reducible first | refine eM ?_ ?_ | refine eF ?_ ?_ ?_ | refine eN ?_ | refine eL ?_ ?_ ?_ | refine eA ?_ ?_ | refine IWk.mk ⟨_, hp, rfl⟩ ?_ ?_) | refine IWk.mk ⟨_, hp, rfl⟩ ?_ ?_)
                  all_goals first | with_reducible rfl | omega | exact Or.inl (by decide) | (simp; done) | rfl | skip
                · all_goals repeat' (first | exact True.intro | refine And.intro ?_ ?_ | (intro _u; clear _u) | (with_reducible first | refine eM ?_ ?_ | refine eF ?_ ?_ ?_ | refine eN ?_ | refine eL ?_ ?_ ?_ | refine eA ?_ ?_ | refine IWk.mk ⟨_, hp, rfl⟩ ?_ ?_) | refine IWk.mk ⟨_, hp, rfl⟩ ?_ ?_)
                  all_goals first | with_reducible rfl | omega | exact Or.inl (by decide) | (simp; done) | rfl | skip
                  all_goals
                    dsimp only
                    rw [hnext, List.map_set]
                  · rw [hp1]; have e5 := congrArg (slcK .i64) (set_same (gla hLk)); exact e5
                  · rw [hp1]; have e5 := congrArg (slcK .i64) (set_same (gas hLk)); exact e5
                  · rw [hp1]; have e5 := congrArg (slc3) (set_same (gno hLk)); exact e5
                  · rw [hp1]; have e5 := congrArg (slcK .i64) (set_same (gde hLk)); exact e5
                  · rw [← slcK_set]; rfl
                  · rw [← slc3_set, List.set_set, List.set_set]; rfl
              · have e1 : M = M.set k y := set_same hMk
                have hp1 : mixPx x y = { y with be := (mixPx x y).be, al := (mixPx x y).al } := by simp only [mixPx]; rw [if_neg (by omega), if_neg (by omega), if_neg (by omega), if_neg (by omega)]
                rw [e1]
                generalize hL : M.set k _ = L at ⊢
                have hLk := set_get (m := M) (k := k) (by omega) ▸ (congrArg (fun t : List Px => t[k]?) hL).symm
                have hLl : L.length = m := by rw [← hL]; simp; omega
                have hnext : M.set k (mixPx x y) = L.set k (mixPx x y) := by rw [← hL, List.set_set]
                refine sh ?_
                refine ILoop.one 100 ?_
                refine sh ?_
                refine acnd_t (by decide) ?_
                refine sh ?_
                refine eget_map (gbe hx) ?_
                refine sh ?_
                refine eget_map (gbe hy) ?_
                refine sh ?_
                refine ICall.pure h.n109.o109.hb (mix_c h.n109 x.be.a y.be.a x.al) rfl ?_
                refine sh ?_
                refine aelt_map (by simp; omega) (gbe hLk) ?_
                refine sh ?_
                refine ILoop.one 100 ?_
                refine sh ?_
                refine acnd_t (by decide) ?_
                refine sh ?_
                refine eget_map (gbe hx) ?_
                refine sh ?_
                refine eget_map (gbe hy) ?_
                refine sh ?_
                refine ICall.pure h.n109.o109.hb (mix_c h.n109 x.be.b y.be.b x.al) rfl ?_
                refine sh ?_
                refine aelt_set (by simp; omega) (by omega) ?_
                refine sh ?_
                refine ILoop.one 100 ?_
                refine sh ?_
                refine acnd_t (by decide) ?_
                refine sh ?_
                refine eget_map (gbe hx) ?_
                refine sh ?_
                refine eget_map (gbe hy) ?_
                refine sh ?_
                refine ICall.pure h.n109.o109.hb (mix_c h.n109 x.be.c y.be.c x.al) rfl ?_
                refine sh ?_
                refine aelt_set (by simp; omega) (by omega) ?_
                refine sh ?_
                refine ILoop.one 100 ?_
                refine sh ?_
                refine acnd_f (by decide) ?_
                refine sh ?_
                refine eget_map (gal hy) ?_
                refine sh ?_
                refine ICall.pure h.n109.o109.hb (mix_c h.n109 x.al y.al x.al) rfl ?_
                refine sh ?_
                refine aelt_map (by simp; omega) (gal hLk) ?_
                refine sh ?_
                refine nX ((k + 1, M.set k (mixPx x y))) ?_ ?_ ⟨_, hp, rfl⟩ ?_ ?_
                · refine ⟨by omega, by rw [hS, done_set (zip_get hx hy) (by omega)]⟩
                · omega
                · all_goals repeat' (first | exact True.intro | refine And.intro ?_ ?_ | (intro _u; clear _u) | (with_reducible first | refine eM ?_ ?_ | refine eF ?_ ?_ ?_ | refine eN ?_ | refine eL ?_ ?_ ?_ | refine eA ?_ ?_ | refine IWk.mk ⟨_, hp, rfl⟩ ?_ ?_) | refine IWk.mk ⟨_, hp, rfl⟩ ?_ ?_)
                  all_goals first | with_reducible rfl | omega | exact Or.inl (by decide) | (simp; done) | rfl | skip
                · all_goals repeat' (first | exact True.intro | refine And.intro ?_ ?_ | (intro _u; clear _u) | (with_reducible first | refine eM ?_ ?_ | refine eF ?_ ?_ ?_ | refine eN ?_ | refine eL ?_ ?_ ?_ | refine eA ?_ ?_ | refine IWk.mk ⟨_, hp, rfl⟩ ?_ ?_) | refine IWk.mk ⟨_, hp, rfl⟩ ?_ ?_)
                  all_goals first | with_reducible rfl | omega | exact Or.inl (by decide) | (simp; done) | rfl | skip
                  all_goals
                    dsimp only
                    rw [hnext, List.map_set]
                  · rw [hp1]; have e5 := congrArg (slcK .i64) (set_same (gla hLk)); exact e5
                  · rw [hp1]; have e5 := congrArg (slcK .i64) (set_same (gas hLk)); exact e5
                  · rw [hp1]; have e5 := congrArg (slc3) (set_same (gno hLk)); exact e5
                  · rw [hp1]; have e5 := congrArg (slcK .i64) (set_same (gde hLk)); exact e5
                  · rw [← slcK_set]; rfl
                  · rw [← slc3_set, List.set_set, List.set_set]; rfl
            · have hk : k = m := by omega
              subst hk
              rw [List.take_of_length_le (by simp; omega), List.drop_of_length_le (by omega), List.append_nil] at hS
              subst hS
              subst hq
              refine sh ?_
              refine rT ?_
              all_goals repeat' (first | exact True.intro | refine And.intro ?_ ?_ | (intro _u; clear _u) | (with_reducible first | refine eM ?_ ?_ | refine eF ?_ ?_ ?_ | refine eN ?_ | refine eL ?_ ?_ ?_ | refine eA ?_ ?_ | refine IWk.mk ⟨_, hp, rfl⟩ ?_ ?_) | refine IWk.mk ⟨_, hp, rfl⟩ ?_ ?_)
              all_goals first | with_reducible rfl | omega | exact Or.inl (by decide) | (simp; done) | rfl | skip
              all_goals (simp; omega)
      · rw [if_neg (by simpa using ha), if_pos (by simpa using hb)]
        refine sh ?_
        refine acnd_t (by simpa using hb) ?_
        rw [over4, if_neg (by simpa using ha), if_pos (by simpa using hb)] at hq
        subst hq
        refine sh ?_
        exact rT
    · rw [if_pos (by simpa using ha)]
      refine sh ?_
      refine acnd_t (by simpa using ha) ?_
      rw [over4, if_pos (by simpa using ha)] at hq
      subst hq
      refine sh ?_
      exact rT
end Go.UM

/- Package over, part 4: parts of images, how far two part, all upon one another. -/

namespace Go.UM
open Go.AM
set_option maxRecDepth 4000

theorem within_iff {i : Im} {x y w h : Int} : within i x y w h = true ↔ (0 ≤ x ∧ 0 ≤ y ∧ 1 ≤ w ∧ 1 ≤ h ∧ w ≤ i.w ∧ h ≤ i.h ∧ x ≤ i.w - w ∧ y ≤ i.h - h) := by simp [within]
theorem empty_p {R : Env} (h : N138 R) (w hh : Int) (n : Nat) (hn : (n : Int) = w * hh) (hm : n ≤ 4096) : R.Mc 138 [.int .i64 w, .int .i64 hh] [] (.agg [.int .i64 w, .int .i64 hh, .osl 0 n, .osl 1 n, .osl 2 n, .osl 3 n, .osl 4 n, .osl 5 n])
    [(0, .arr (R.ty 13) 3 (slc3 ((List.replicate n zPx).map Px.be))), (1, .arr (R.ty 10) 1 (slcK .i64 ((List.replicate n zPx).map Px.al))), (2, .arr (R.ty 10) 1 (slcK .i64 ((List.replicate n zPx).map Px.de))), (3, .arr (R.ty 13) 3 (slc3 ((List.replicate n zPx).map Px.no))), (4, .arr (R.ty 10) 1 (slcK .i64 ((List.replicate n zPx).map Px.as))), (5, .arr (R.ty 10) 1 (slcK .i64 ((List.replicate n zPx).map Px.la)))] 6 := by
  have c := empty_c h w hh n hn hm
  rw [zeros_px] at c
  have e : (.agg (ofPx w hh (List.replicate n zPx)).orow) = AV.agg [.int .i64 w, .int .i64 hh, .osl 0 n, .osl 1 n, .osl 2 n, .osl 3 n, .osl 4 n, .osl 5 n] := by simp [Im.orow, ofPx]
  rw [e] at c
  exact c

set_option maxHeartbeats 1000000 in
theorem crop_c {R : Env} (h : N113 R) (i : Im) (x y w hh : Int) (fi : i.Few) : R.Pc 113 [.agg i.row, .int .i64 x, .int .i64 y, .int .i64 w, .int .i64 hh] (.tup [.agg (crop4 i x y w hh).1.row, .int .i64 (crop4 i x y w hh).2]) :=
  h.o113.enter 200 rfl fun X bb hfit hp => by
    generalize hq : crop4 i x y w hh = q
    have c1 := check38_c h.n136 [i] (by intro j hj; simp at hj; subst hj; exact fi) (by simp)
    rw [chkl1] at c1
    refine sh ?_
    refine ICall.lend rfl h.n136.o136.hb c1 ?_ rfl ?_
    · all_goals repeat' (first | exact True.intro | refine And.intro ?_ ?_ | (intro _u; clear _u) | (with_reducible first | refine eM ?_ ?_ | refine eF ?_ ?_ ?_ | refine eN ?_ | refine eL ?_ ?_ ?_ | refine eA ?_ ?_ | refine IWk.mk ⟨_, hp, rfl⟩ ?_ ?_) | refine IWk.mk ⟨_, hp, rfl⟩ ?_ ?_)
      all_goals first | with_reducible rfl | omega | exact Or.inl (by decide) | (simp; done) | rfl | skip
    by_cases hi : ichk i = 0
    · rw [if_neg (by simpa using hi)]
      refine sh ?_
      refine acnd_f (by rfl) ?_
      have ok := ichk_ok.1 hi
      refine sh ?_
      refine ICall.pure h.n137.o137.hb (within_c h.n137 i x y w hh ok) rfl ?_
      cases hw : within i x y w hh with
      | false =>
        rw [crop4, if_neg (by simpa using hi), if_pos hw] at hq
        subst hq
        refine sh ?_
        exact rT
      | true =>
        rw [crop4, if_neg (by simpa using hi), if_neg (by simp [hw])] at hq
        obtain ⟨w1, w2, w3, w4, w5, w6, w7, w8⟩ := within_iff.1 hw
        obtain ⟨ei, gi⟩ := ok.good
        generalize i.pxs = l at *
        generalize i.w = W at *
        generalize i.h = H at *
        subst ei
        have l1 := gi.few
        have l2 := gi.len
        have g1 := gi.hw
        have g2 := gi.hh
        clear gi c1 hfit hi hw fi ok
        obtain ⟨x, rfl⟩ := Int.eq_ofNat_of_zero_le w1
        obtain ⟨y, rfl⟩ := Int.eq_ofNat_of_zero_le w2
        obtain ⟨w, rfl⟩ := Int.eq_ofNat_of_zero_le (show 0 ≤ w by omega)
        obtain ⟨hh, rfl⟩ := Int.eq_ofNat_of_zero_le (show 0 ≤ hh by omega)
        obtain ⟨W, rfl⟩ := Int.eq_ofNat_of_zero_le (show 0 ≤ W by omega)
        obtain ⟨H, rfl⟩ := Int.eq_ofNat_of_zero_le (show 0 ≤ H by omega)
        simp only [Int.toNat_natCast] at hq
        have hwh : (w : Int) * hh = ((w * hh : Nat) : Int) := by rw [Int.natCast_mul]
        have hm : w * hh ≤ 64 * 64 := Nat.mul_le_mul (by omega) (by omega)
        have hl : l.length = W * H := by rw [← Int.natCast_mul] at l2; exact Int.ofNat.inj l2
        refine sh ?_
        refine cM false [] (empty_p h.n138 w hh (w * hh) hwh.symm (by omega)) ?_
        repeat ((intro _u; clear _u); first | refine eK ?_ | refine eP ?_)
        generalize hmm : w * hh = m at *
        refine sh ?_
        refine ILoop.inv 200 (fun s : Nat × List Px => s.1 ≤ m ∧ s.2 = (cropL W l x y w hh).take s.1 ++ (List.replicate m zPx).drop s.1) (fun s => ⟨[(1, .int .i64 x), (2, .int .i64 y), (3, .int .i64 w), (5, .loc 0 1 0 0), (10, .loc 1 1 0 0), (13, .loc 9 1 0 0), (35, .int .i64 m), (36, .int .i64 s.1)], [(9, .var (R.ty 16) [.int .i64 w, .int .i64 hh, .osl 3 m, .osl 4 m, .osl 5 m, .osl 6 m, .osl 7 m, .osl 8 m]), (8, .arr (R.ty 10) 1 (slcK .i64 (s.2.map Px.la))), (7, .arr (R.ty 10) 1 (slcK .i64 (s.2.map Px.as))), (6, .arr (R.ty 13) 3 (slc3 (s.2.map Px.no))), (5, .arr (R.ty 10) 1 (slcK .i64 (s.2.map Px.de))), (4, .arr (R.ty 10) 1 (slcK .i64 (s.2.map Px.al))), (3, .arr (R.ty 13) 3 (slc3 (s.2.map Px.be))), (1, .var (R.ty 16) [.int .i64 0, .int .i64 0, .nils, .nils, .nils, .nils, .nils, .nils]), (0, .var (R.ty 16) (pxr W H l))], 10⟩) (fun s => m - s.1) ((0, List.replicate m zPx)) ?_ ⟨⟨_, hp, rfl⟩, ?_, ?_⟩ ?_
        · exact ⟨Nat.zero_le _, by simp⟩
        · all_goals repeat' (first | exact True.intro | refine And.intro ?_ ?_ | (intro _u; clear _u) | (with_reducible first | refine eM ?_ ?_ | refine eF ?_ ?_ ?_ | refine eN ?_ | refine eL ?_ ?_ ?_ | refine eA ?_ ?_ | refine IWk.mk ⟨_, hp, rfl⟩ ?_ ?_) | refine IWk.mk ⟨_, hp, rfl⟩ ?_ ?_)
          all_goals first | with_reducible rfl | omega | exact Or.inl (by decide) | (simp; done) | rfl | skip
          all_goals skip
        · all_goals repeat' (first | exact True.intro | refine And.intro ?_ ?_ | (intro _u; clear _u) | (with_reducible first | refine eM ?_ ?_ | refine eF ?_ ?_ ?_ | refine eN ?_ | refine eL ?_ ?_ ?_ | refine eA ?_ ?_ | refine IWk.mk ⟨_, hp, rfl⟩ ?_ ?_) | refine IWk.mk ⟨_, hp, rfl⟩ ?_ ?_)
          all_goals first | with_reducible rfl | omega | exact Or.inl (by decide) | (simp; done) | rfl | skip
          all_goals skip
        · rintro ⟨k, M⟩ ⟨h2, hS⟩
          dsimp only at h2 hS ⊢
          refine sh ?_
          refine cS (fun h3 => ?_) (fun h3 => ?_)
          · have hk : k < w * hh := by omega
            obtain ⟨d1, d2⟩ := div_lt hk
            have hc0 : (cropL W l x y w hh)[k]? = some (l.getD ((y + k / w) * W + x + k % w) zPx) := by rw [cropL, List.getElem?_map, List.getElem?_range (by omega)]; rfl
            have et := tdiv_nat k w
            have em := tmod_nat k w
            generalize k / w = rk at *
            generalize k % w = ck at *
            have hpos : (y + rk) * W + x + ck < W * H := by
              have := row_lt (r := y + rk) (c := x + ck) (W := W) (H := H) (by omega) (by omega)
              omega
            have e1 : ((y : Int) + (rk : Int)) * W = (((y + rk) * W : Nat) : Int) := by rw [Int.natCast_mul, Int.natCast_add]
            generalize hA : (y + rk) * W = A at *
            obtain ⟨v, hv⟩ : ∃ v, l[A + x + ck]? = some v := ⟨_, List.getElem?_eq_getElem (by omega)⟩
            have hc : (cropL W l x y w hh)[k]? = some v := by rw [hc0, List.getD_eq_getElem?_getD, hv]; rfl
            have hMl : M.length = m := by rw [hS]; simp [cropL]; omega
            refine sh ?_
            rw [et]
            refine wI ?_ (by simp only [inI]; omega)
            refine st ?_
            rw [e1, em]
            refine sh ?_
            refine cW false [3, 4, 5, 6, 7, 8, 9] (move_p h.n139 w hh W H M l k (A + x + ck) m (W * H) hv hMl hl (by omega) (by omega) (by omega)) ?_
            repeat ((intro _u; clear _u); first | refine eK ?_ | refine eP ?_)
            refine sh ?_
            refine nX ((k + 1, M.set k v)) ?_ ?_ ⟨_, hp, rfl⟩ ?_ ?_
            · exact ⟨by omega, by rw [hS, done_set hc (by simp; omega)]⟩
            · omega
            · all_goals repeat' (first | exact True.intro | refine And.intro ?_ ?_ | (intro _u; clear _u) | (with_reducible first | refine eM ?_ ?_ | refine eF ?_ ?_ ?_ | refine eN ?_ | refine eL ?_ ?_ ?_ | refine eA ?_ ?_ | refine IWk.mk ⟨_, hp, rfl⟩ ?_ ?_) | refine IWk.mk ⟨_, hp, rfl⟩ ?_ ?_)
              all_goals first | with_reducible rfl | omega | exact Or.inl (by decide) | (simp; done) | rfl | skip
            · all_goals repeat' (first | exact True.intro | refine And.intro ?_ ?_ | (intro _u; clear _u) | (with_reducible first | refine eM ?_ ?_ | refine eF ?_ ?_ ?_ | refine eN ?_ | refine eL ?_ ?_ ?_ | refine eA ?_ ?_ | refine IWk.mk ⟨_, hp, rfl⟩ ?_ ?_) | refine IWk.mk ⟨_, hp, rfl⟩ ?_ ?_)
              all_goals first | with_reducible rfl | omega | exact Or.inl (by decide) | (simp; done) | rfl | skip
              all_goals skip
          · have hk : k = m := by omega
            subst hk
            rw [List.take_of_length_le (by simp [cropL]; omega), List.drop_of_length_le (by simp), List.append_nil] at hS
            subst hS
            subst hq
            refine sh ?_
            refine rT ?_
            all_goals repeat' (first | exact True.intro | refine And.intro ?_ ?_ | (intro _u; clear _u) | (with_reducible first | refine eM ?_ ?_ | refine eF ?_ ?_ ?_ | refine eN ?_ | refine eL ?_ ?_ ?_ | refine eA ?_ ?_ | refine IWk.mk ⟨_, hp, rfl⟩ ?_ ?_) | refine IWk.mk ⟨_, hp, rfl⟩ ?_ ?_)
            all_goals first | with_reducible rfl | omega | exact Or.inl (by decide) | (simp; done) | rfl | skip
            all_goals (simp [cropL]; omega)
    · rw [if_pos (by simpa using hi)]
      refine sh ?_
      refine acnd_t (by simpa using hi) ?_
      rw [crop4, if_pos (by simpa using hi)] at hq
      subst hq
      refine sh ?_
      exact rT

set_option maxHeartbeats 1000000 in
theorem put_c {R : Env} (h : N115 R) (i p : Im) (x y : Int) (fi : i.Few) (fp : p.Few) : R.Pc 115 [.agg i.row, .agg p.row, .int .i64 x, .int .i64 y] (.tup [.agg (put4 i p x y).1.row, .int .i64 (put4 i p x y).2]) :=
  h.o115.enter 200 rfl fun X bb hfit hp => by
    generalize hq : put4 i p x y = q
    have c1 := check38_c h.n136 [i, p] (by intro j hj; simp at hj; rcases hj with rfl | rfl <;> assumption) (by simp)
    rw [chkl2] at c1
    refine sh ?_
    refine ICall.lend rfl h.n136.o136.hb c1 ?_ rfl ?_
    · all_goals repeat' (first | exact True.intro | refine And.intro ?_ ?_ | (intro _u; clear _u) | (with_reducible first | refine eM ?_ ?_ | refine eF ?_ ?_ ?_ | refine eN ?_ | refine eL ?_ ?_ ?_ | refine eA ?_ ?_ | refine IWk.mk ⟨_, hp, rfl⟩ ?_ ?_) | refine IWk.mk ⟨_, hp, rfl⟩ ?_ ?_)
      all_goals first | with_reducible rfl | omega | exact Or.inl (by decide) | (simp; done) | rfl | skip
    by_cases hi : ichk i = 0
    · by_cases hpp : ichk p = 0
      · rw [if_neg (by simpa using hi), if_neg (by simpa using hpp)]
        refine sh ?_
        refine acnd_f (by rfl) ?_
        have ok := ichk_ok.1 hi
        refine sh ?_
        refine ICall.pure h.n137.o137.hb (within_c h.n137 i x y p.w p.h ok) rfl ?_
        cases hw : within i x y p.w p.h with
        | false =>
          rw [put4, if_neg (by simpa using hi), if_neg (by simpa using hpp), if_pos hw] at hq
          subst hq
          refine sh ?_
          exact rT
        | true =>
          rw [put4, if_neg (by simpa using hi), if_neg (by simpa using hpp), if_neg (by simp [hw])] at hq
          obtain ⟨w1, w2, w3, w4, w5, w6, w7, w8⟩ := within_iff.1 hw
          obtain ⟨ei, gi⟩ := ok.good
          obtain ⟨ep, gp⟩ := (ichk_ok.1 hpp).good
          generalize i.pxs = l at *
          generalize i.w = W at *
          generalize i.h = H at *
          generalize p.pxs = lp at *
          generalize p.w = w at *
          generalize p.h = hh at *
          subst ei ep
          have l1 := gi.few
          have l2 := gi.len
          have l3 := gp.len
          have g1 := gi.hw
          have g2 := gi.hh
          clear gi gp c1 hfit hi hw ok hpp fp
          obtain ⟨x, rfl⟩ := Int.eq_ofNat_of_zero_le w1
          obtain ⟨y, rfl⟩ := Int.eq_ofNat_of_zero_le w2
          obtain ⟨w, rfl⟩ := Int.eq_ofNat_of_zero_le (show 0 ≤ w by omega)
          obtain ⟨hh, rfl⟩ := Int.eq_ofNat_of_zero_le (show 0 ≤ hh by omega)
          obtain ⟨W, rfl⟩ := Int.eq_ofNat_of_zero_le (show 0 ≤ W by omega)
          obtain ⟨H, rfl⟩ := Int.eq_ofNat_of_zero_le (show 0 ≤ H by omega)
          simp only [Int.toNat_natCast] at hq
          have hwh : (w : Int) * hh = ((w * hh : Nat) : Int) := by rw [Int.natCast_mul]
          have hm : w * hh ≤ 64 * 64 := Nat.mul_le_mul (by omega) (by omega)
          have hl : l.length = W * H := by rw [← Int.natCast_mul] at l2; exact Int.ofNat.inj l2
          have hlp : lp.length = w * hh := by rw [← Int.natCast_mul] at l3; exact Int.ofNat.inj l3
          refine sh ?_
          refine cM false [] (copied_c h.n143 (ofPx W H l) fi) ?_
          repeat ((intro _u; clear _u); first | refine eK ?_ | refine eP ?_)
          clear fi
          generalize hmm : w * hh = m at *
          generalize hnn : W * H = n at *
          refine sh ?_
          refine iwr_eq (m := (m : Int)) (by show wr .i64 ((w : Int) * hh) = m; rw [hwh]; exact wr_nat (by omega)) ?_
          refine sh ?_
          refine ILoop.inv 200 (fun s : Nat × List Px => s.1 ≤ m ∧ s.2 = putL W l lp x y w hh s.1) (fun s => ⟨[(2, .int .i64 x), (3, .int .i64 y), (4, .loc 0 1 0 0), (5, .loc 1 1 0 0), (8, .loc 2 1 0 0), (11, .loc 10 1 0 0), (37, .int .i64 m), (38, .int .i64 s.1)], [(10, .var (R.ty 16) [.int .i64 W, .int .i64 H, .osl 4 n, .osl 5 n, .osl 6 n, .osl 7 n, .osl 8 n, .osl 9 n]), (9, .arr (R.ty 10) 1 (slcK .i64 (s.2.map Px.la))), (8, .arr (R.ty 10) 1 (slcK .i64 (s.2.map Px.as))), (7, .arr (R.ty 13) 3 (slc3 (s.2.map Px.no))), (6, .arr (R.ty 10) 1 (slcK .i64 (s.2.map Px.de))), (5, .arr (R.ty 10) 1 (slcK .i64 (s.2.map Px.al))), (4, .arr (R.ty 13) 3 (slc3 (s.2.map Px.be))), (2, .var (R.ty 16) [.int .i64 0, .int .i64 0, .nils, .nils, .nils, .nils, .nils, .nils]), (1, .var (R.ty 16) (pxr w hh lp)), (0, .var (R.ty 16) (pxr W H l))], 11⟩) (fun s => m - s.1) ((0, l)) ?_ ⟨⟨_, hp, rfl⟩, ?_, ?_⟩ ?_
          · exact ⟨Nat.zero_le _, by rw [put_first]⟩
          · all_goals repeat' (first | exact True.intro | refine And.intro ?_ ?_ | (intro _u; clear _u) | (with_reducible first | refine eM ?_ ?_ | refine eF ?_ ?_ ?_ | refine eN ?_ | refine eL ?_ ?_ ?_ | refine eA ?_ ?_ | refine IWk.mk ⟨_, hp, rfl⟩ ?_ ?_) | refine IWk.mk ⟨_, hp, rfl⟩ ?_ ?_)
            all_goals first | with_reducible rfl | omega | exact Or.inl (by decide) | (simp; done) | rfl | skip
            all_goals (simp [ofPx]; omega)
          · all_goals repeat' (first | exact True.intro | refine And.intro ?_ ?_ | (intro _u; clear _u) | (with_reducible first | refine eM ?_ ?_ | refine eF ?_ ?_ ?_ | refine eN ?_ | refine eL ?_ ?_ ?_ | refine eA ?_ ?_ | refine IWk.mk ⟨_, hp, rfl⟩ ?_ ?_) | refine IWk.mk ⟨_, hp, rfl⟩ ?_ ?_)
            all_goals first | with_reducible rfl | omega | exact Or.inl (by decide) | (simp; done) | rfl | skip
            all_goals (simp [ofPx]; omega)
          · rintro ⟨k, M⟩ ⟨h2, hS⟩
            dsimp only at h2 hS ⊢
            refine sh ?_
            refine cS (fun h3 => ?_) (fun h3 => ?_)
            · have hk : k < w * hh := by omega
              obtain ⟨d1, d2⟩ := div_lt hk
              obtain ⟨v, hv⟩ : ∃ v, lp[k]? = some v := ⟨_, List.getElem?_eq_getElem (by omega)⟩
              have hnx := put_next (W := W) (l := l) (x := x) (y := y) hk (by omega) hv
              have et := tdiv_nat k w
              have em := tmod_nat k w
              generalize k / w = rk at *
              generalize k % w = ck at *
              have hpos : (y + rk) * W + x + ck < W * H := by
                have := row_lt (r := y + rk) (c := x + ck) (W := W) (H := H) (by omega) (by omega)
                omega
              have e1 : ((y : Int) + (rk : Int)) * W = (((y + rk) * W : Nat) : Int) := by rw [Int.natCast_mul, Int.natCast_add]
              generalize hA : (y + rk) * W = A at *
              have hMl : M.length = n := by rw [hS]; simp [putL]; omega
              refine sh ?_
              rw [et]
              refine wI ?_ (by simp only [inI]; omega)
              refine st ?_
              rw [e1, em]
              refine sh ?_
              refine cW false [4, 5, 6, 7, 8, 9, 10] (move_p h.n139 W H w hh M lp (A + x + ck) k n m hv hMl (by omega) (by omega) (by omega) (by omega)) ?_
              repeat ((intro _u; clear _u); first | refine eK ?_ | refine eP ?_)
              refine sh ?_
              refine nX ((k + 1, M.set (A + x + ck) v)) ?_ ?_ ⟨_, hp, rfl⟩ ?_ ?_
              · exact ⟨by omega, by rw [hS, hnx]⟩
              · omega
              · all_goals repeat' (first | exact True.intro | refine And.intro ?_ ?_ | (intro _u; clear _u) | (with_reducible first | refine eM ?_ ?_ | refine eF ?_ ?_ ?_ | refine eN ?_ | refine eL ?_ ?_ ?_ | refine eA ?_ ?_ | refine IWk.mk ⟨_, hp, rfl⟩ ?_ ?_) | refine IWk.mk ⟨_, hp, rfl⟩ ?_ ?_)
                all_goals first | with_reducible rfl | omega | exact Or.inl (by decide) | (simp; done) | rfl | skip
              · all_goals repeat' (first | exact True.intro | refine And.intro ?_ ?_ | (intro _u; clear _u) | (with_reducible first | refine eM ?_ ?_ | refine eF ?_ ?_ ?_ | refine eN ?_ | refine eL ?_ ?_ ?_ | refine eA ?_ ?_ | refine IWk.mk ⟨_, hp, rfl⟩ ?_ ?_) | refine IWk.mk ⟨_, hp, rfl⟩ ?_ ?_)
                all_goals first | with_reducible rfl | omega | exact Or.inl (by decide) | (simp; done) | rfl | skip
                all_goals skip
            · have hk : k = m := by omega
              subst hk
              rw [← hS] at hq
              subst hq
              have hMl : M.length = n := by rw [hS]; simp [putL]; omega
              refine sh ?_
              refine rT ?_
              all_goals repeat' (first | exact True.intro | refine And.intro ?_ ?_ | (intro _u; clear _u) | (with_reducible first | refine eM ?_ ?_ | refine eF ?_ ?_ ?_ | refine eN ?_ | refine eL ?_ ?_ ?_ | refine eA ?_ ?_ | refine IWk.mk ⟨_, hp, rfl⟩ ?_ ?_) | refine IWk.mk ⟨_, hp, rfl⟩ ?_ ?_)
              all_goals first | with_reducible rfl | omega | exact Or.inl (by decide) | (simp; done) | rfl | skip
              all_goals (simp; omega)
      · rw [if_neg (by simpa using hi), if_pos (by simpa using hpp)]
        refine sh ?_
        refine acnd_t (by simpa using hpp) ?_
        rw [put4, if_neg (by simpa using hi), if_pos (by simpa using hpp)] at hq
        subst hq
        refine sh ?_
        exact rT
    · rw [if_pos (by simpa using hi)]
      refine sh ?_
      refine acnd_t (by simpa using hi) ?_
      rw [put4, if_pos (by simpa using hi)] at hq
      subst hq
      refine sh ?_
      exact rT

theorem clear_c {R : Env} (h : N129 R) (w hh : Int) : R.Pc 129 [.int .i64 w, .int .i64 hh] (.tup [.agg (clear4 w hh).1.row, .int .i64 (clear4 w hh).2]) :=
  h.o129.enter 100 rfl fun X bb hfit hp => by
    generalize hq : clear4 w hh = q
    by_cases h1 : (1 ≤ w ∧ w ≤ 64) ∧ (1 ≤ hh ∧ hh ≤ 64)
    · rw [clear4, if_pos h1] at hq
      subst hq
      have hm := Int.mul_le_mul h1.1.2 h1.2.2 (by omega) (by omega)
      have hm0 := Int.mul_nonneg (show 0 ≤ w by omega) (show 0 ≤ hh by omega)
      refine sh ?_
      refine acnd_f (by (simp; omega)) ?_
      refine sh ?_
      refine acnd_f (by (simp; omega)) ?_
      refine sh ?_
      refine cM false [] (empty_c h.n138 w hh (w * hh).toNat (by omega) (by omega)) ?_
      repeat ((intro _u; clear _u); first | refine eK ?_ | refine eP ?_)
      refine sh ?_
      exact rT
    · rw [clear4, if_neg h1] at hq
      subst hq
      by_cases h2 : min w hh < 1
      · refine sh ?_
        refine acnd_t (by simpa using h2) ?_
        refine sh ?_
        exact rT
      · refine sh ?_
        refine acnd_f (by (simp; omega)) ?_
        refine sh ?_
        refine acnd_t (by (simp; omega)) ?_
        refine sh ?_
        exact rT

theorem differ_c {R : Env} (h : N148 R) (x y m : Int) (hx : in16 x) (hy : in16 y) : R.Mc 148 [.int .i64 x, .int .i64 y, .loc 0 1 0 0] [(0, .var (R.ty 10) [.int .i64 m])] (.tup []) [(0, .var (R.ty 10) [.int .i64 (difI m x y)])] 1 :=
  h.o148.enterM 60 1 rfl rfl rfl fun X bb hfit hp => by
    unfold in16 at hx hy
    refine sh ?_
    refine rM [0] ?_
    all_goals repeat' (first | exact True.intro | refine And.intro ?_ ?_ | (intro _u; clear _u) | (with_reducible first | refine eM ?_ ?_ | refine eF ?_ ?_ ?_ | refine eN ?_ | refine eL ?_ ?_ ?_ | refine eA ?_ ?_ | refine IWk.mk ⟨_, hp, rfl⟩ ?_ ?_) | refine IWk.mk ⟨_, hp, rfl⟩ ?_ ?_)
    all_goals first | with_reducible rfl | omega | exact Or.inl (by decide) | (simp; done) | rfl | skip
    all_goals skip


set_option maxHeartbeats 1000000 in
theorem apart_c {R : Env} (h : N123 R) (a b : Im) (fa : a.Few) (fb : b.Few) : R.Pc 123 [.agg a.row, .agg b.row] (.tup [.int .i64 (apart4 a b).1.1, .int .i64 (apart4 a b).1.2, .int .i64 (apart4 a b).2]) :=
  h.o123.enter 200 rfl fun X bb hfit hp => by
    generalize hq : apart4 a b = q
    have c1 := check38_c h.n136 [a, b] (by intro i hi; simp at hi; rcases hi with rfl | rfl <;> assumption) (by simp)
    rw [chkl2] at c1
    refine sh ?_
    refine ICall.lend rfl h.n136.o136.hb c1 ?_ rfl ?_
    · all_goals repeat' (first | exact True.intro | refine And.intro ?_ ?_ | (intro _u; clear _u) | (with_reducible first | refine eM ?_ ?_ | refine eF ?_ ?_ ?_ | refine eN ?_ | refine eL ?_ ?_ ?_ | refine eA ?_ ?_ | refine IWk.mk ⟨_, hp, rfl⟩ ?_ ?_) | refine IWk.mk ⟨_, hp, rfl⟩ ?_ ?_)
      all_goals first | with_reducible rfl | omega | exact Or.inl (by decide) | (simp; done) | rfl | skip
    by_cases ha : ichk a = 0
    · by_cases hb : ichk b = 0
      · rw [if_neg (by simpa using ha), if_neg (by simpa using hb)]
        refine sh ?_
        refine acnd_f (by rfl) ?_
        by_cases e : a.w ≠ b.w ∨ a.h ≠ b.h
        · rw [apart4, if_neg (by simpa using ha), if_neg (by simpa using hb), if_pos e] at hq
          subst hq
          by_cases e1 : a.w = b.w
          · have e2 : a.h ≠ b.h := by rcases e with e | e; exact (e e1).elim; exact e
            refine sh ?_
            refine acnd_f (by simpa using e1) ?_
            refine sh ?_
            refine acnd_t (by simpa using e2) ?_
            refine sh ?_
            exact rT
          · refine sh ?_
            refine acnd_t (by simpa using e1) ?_
            refine sh ?_
            exact rT
        · rw [apart4, if_neg (by simpa using ha), if_neg (by simpa using hb), if_neg e] at hq
          have ew : a.w = b.w := Decidable.not_not.1 fun hh => e (.inl hh)
          have eh : a.h = b.h := Decidable.not_not.1 fun hh => e (.inr hh)
          refine sh ?_
          refine acnd_f (by simpa using ew) ?_
          refine sh ?_
          refine acnd_f (by simpa using eh) ?_
          obtain ⟨ea, ga⟩ := (ichk_ok.1 ha).good
          obtain ⟨eb, gb⟩ := (ichk_ok.1 hb).good
          rw [← ew, ← eh] at eb gb
          generalize a.pxs = l at *
          generalize b.pxs = lb at *
          generalize a.w = w at *
          generalize a.h = hh at *
          subst ea eb
          have l1 := ga.few
          have l2 := ga.len
          have l3 := gb.len
          have l4 : lb.length = l.length := by omega
          have hF := fun k => apF_in ga.px gb.px k
          have gax := ga.px
          have gbx := gb.px
          generalize hm : l.length = m at *
          clear c1 hfit ha hb e ew eh fa fb
          refine sh ?_
          refine ILoop.inv 200 (fun k : Nat => k ≤ m) (fun k => ⟨[(2, .loc 0 1 0 0), (3, .loc 1 1 0 0), (4, .int .i64 (apF l lb k).1), (5, .loc 2 1 0 0), (32, .int .i64 m), (33, .int .i64 k)], [(2, .var (R.ty 10) [.int .i64 (apF l lb k).2]), (1, .var (R.ty 16) (pxr w hh lb)), (0, .var (R.ty 16) (pxr w hh l))], 3⟩) (fun k => m - k) (0) ?_ ⟨⟨_, hp, rfl⟩, ?_, ?_⟩ ?_
          · exact Nat.zero_le _
          · all_goals repeat' (first | exact True.intro | refine And.intro ?_ ?_ | (intro _u; clear _u) | (with_reducible first | refine eM ?_ ?_ | refine eF ?_ ?_ ?_ | refine eN ?_ | refine eL ?_ ?_ ?_ | refine eA ?_ ?_ | refine IWk.mk ⟨_, hp, rfl⟩ ?_ ?_) | refine IWk.mk ⟨_, hp, rfl⟩ ?_ ?_)
            all_goals first | with_reducible rfl | omega | exact Or.inl (by decide) | (simp; done) | rfl | skip
            all_goals (simp [ofPx]; omega)
          · all_goals repeat' (first | exact True.intro | refine And.intro ?_ ?_ | (intro _u; clear _u) | (with_reducible first | refine eM ?_ ?_ | refine eF ?_ ?_ ?_ | refine eN ?_ | refine eL ?_ ?_ ?_ | refine eA ?_ ?_ | refine IWk.mk ⟨_, hp, rfl⟩ ?_ ?_) | refine IWk.mk ⟨_, hp, rfl⟩ ?_ ?_)
            all_goals first | with_reducible rfl | omega | exact Or.inl (by decide) | (simp; done) | rfl | skip
            all_goals (simp [ofPx]; omega)
          · intro k hk
            dsimp only
            obtain ⟨⟨i1, i2⟩, i3, i4⟩ := hF k hk (by omega)
            refine sh ?_
            refine cS (fun h3 => ?_) (fun h3 => ?_)
            · obtain ⟨x, hx⟩ : ∃ x, l[k]? = some x := ⟨_, List.getElem?_eq_getElem (by omega)⟩
              obtain ⟨y, hy⟩ : ∃ y, lb[k]? = some y := ⟨_, List.getElem?_eq_getElem (by omega)⟩
              have hxi := gax x (List.mem_of_getElem? hx)
              have hyi := gbx y (List.mem_of_getElem? hy)
              have hs := apF_succ hx hy
              generalize hP : apF l lb k = P at *
              refine sh ?_
              refine ILoop.one 100 ?_
              refine sh ?_
              refine acnd_t (by decide) ?_
              refine sh ?_
              refine eget_map (gbe hx) ?_
              refine sh ?_
              refine eget_map (gbe hy) ?_
              refine sh ?_
              refine cM false [2] (differ_c h.n148 x.be.a y.be.a P.2 hxi.be.1 hyi.be.1) ?_
              repeat ((intro _u; clear _u); first | refine eK ?_ | refine eP ?_)
              refine sh ?_
              refine ILoop.one 100 ?_
              refine sh ?_
              refine acnd_t (by decide) ?_
              refine sh ?_
              refine eget_map (gbe hx) ?_
              refine sh ?_
              refine eget_map (gbe hy) ?_
              refine sh ?_
              refine cM false [2] (differ_c h.n148 x.be.b y.be.b (difI P.2 x.be.a y.be.a) hxi.be.2.1 hyi.be.2.1) ?_
              repeat ((intro _u; clear _u); first | refine eK ?_ | refine eP ?_)
              refine sh ?_
              refine ILoop.one 100 ?_
              refine sh ?_
              refine acnd_t (by decide) ?_
              refine sh ?_
              refine eget_map (gbe hx) ?_
              refine sh ?_
              refine eget_map (gbe hy) ?_
              refine sh ?_
              refine cM false [2] (differ_c h.n148 x.be.c y.be.c (difI (difI P.2 x.be.a y.be.a) x.be.b y.be.b) hxi.be.2.2 hyi.be.2.2) ?_
              repeat ((intro _u; clear _u); first | refine eK ?_ | refine eP ?_)
              refine sh ?_
              refine ILoop.one 100 ?_
              refine sh ?_
              refine acnd_f (by decide) ?_
              refine sh ?_
              refine eget_map (gal hx) ?_
              refine sh ?_
              refine eget_map (gal hy) ?_
              refine sh ?_
              refine cM false [2] (differ_c h.n148 x.al y.al (difI (difI (difI P.2 x.be.a y.be.a) x.be.b y.be.b) x.be.c y.be.c) hxi.al hyi.al) ?_
              repeat ((intro _u; clear _u); first | refine eK ?_ | refine eP ?_)
              refine sh ?_
              refine eget_map (gbe hx) ?_
              refine sh ?_
              refine eget_map (gbe hy) ?_
              refine sh ?_
              refine cS (fun g => ?_) (fun g => ?_)
              · have hne : pxEq x y = false := by
                  cases he : pxEq x y with
                  | false => rfl
                  | true =>
                    have := pxEq_eq he
                    subst this
                    simp at g
                refine sh ?_
                refine nX (k + 1) ?_ ?_ ⟨_, hp, rfl⟩ ?_ ?_
                · omega
                · omega
                · all_goals repeat' (first | exact True.intro | refine And.intro ?_ ?_ | (intro _u; clear _u) | (with_reducible first | refine eM ?_ ?_ | refine eF ?_ ?_ ?_ | refine eN ?_ | refine eL ?_ ?_ ?_ | refine eA ?_ ?_ | refine IWk.mk ⟨_, hp, rfl⟩ ?_ ?_) | refine IWk.mk ⟨_, hp, rfl⟩ ?_ ?_)
                  all_goals first | with_reducible rfl | omega | exact Or.inl (by decide) | (simp; done) | rfl | skip
                  all_goals (rw [hs]; simp [apx, hne])
                · all_goals repeat' (first | exact True.intro | refine And.intro ?_ ?_ | (intro _u; clear _u) | (with_reducible first | refine eM ?_ ?_ | refine eF ?_ ?_ ?_ | refine eN ?_ | refine eL ?_ ?_ ?_ | refine eA ?_ ?_ | refine IWk.mk ⟨_, hp, rfl⟩ ?_ ?_) | refine IWk.mk ⟨_, hp, rfl⟩ ?_ ?_)
                  all_goals first | with_reducible rfl | omega | exact Or.inl (by decide) | (simp; done) | rfl | skip
                  all_goals (rw [hs]; simp [apx])
              · have k0 := g
                clear g
                refine sh ?_
                refine eget_map (gal hx) ?_
                refine sh ?_
                refine eget_map (gal hy) ?_
                refine sh ?_
                refine cS (fun g => ?_) (fun g => ?_)
                · have hne : pxEq x y = false := by
                    cases he : pxEq x y with
                    | false => rfl
                    | true =>
                      have := pxEq_eq he
                      subst this
                      simp at g
                  refine sh ?_
                  refine nX (k + 1) ?_ ?_ ⟨_, hp, rfl⟩ ?_ ?_
                  · omega
                  · omega
                  · all_goals repeat' (first | exact True.intro | refine And.intro ?_ ?_ | (intro _u; clear _u) | (with_reducible first | refine eM ?_ ?_ | refine eF ?_ ?_ ?_ | refine eN ?_ | refine eL ?_ ?_ ?_ | refine eA ?_ ?_ | refine IWk.mk ⟨_, hp, rfl⟩ ?_ ?_) | refine IWk.mk ⟨_, hp, rfl⟩ ?_ ?_)
                    all_goals first | with_reducible rfl | omega | exact Or.inl (by decide) | (simp; done) | rfl | skip
                    all_goals (rw [hs]; simp [apx, hne])
                  · all_goals repeat' (first | exact True.intro | refine And.intro ?_ ?_ | (intro _u; clear _u) | (with_reducible first | refine eM ?_ ?_ | refine eF ?_ ?_ ?_ | refine eN ?_ | refine eL ?_ ?_ ?_ | refine eA ?_ ?_ | refine IWk.mk ⟨_, hp, rfl⟩ ?_ ?_) | refine IWk.mk ⟨_, hp, rfl⟩ ?_ ?_)
                    all_goals first | with_reducible rfl | omega | exact Or.inl (by decide) | (simp; done) | rfl | skip
                    all_goals (rw [hs]; simp [apx])
                · have k1 := g
                  clear g
                  refine sh ?_
                  refine eget_map (gde hx) ?_
                  refine sh ?_
                  refine eget_map (gde hy) ?_
                  refine sh ?_
                  refine cS (fun g => ?_) (fun g => ?_)
                  · have hne : pxEq x y = false := by
                      cases he : pxEq x y with
                      | false => rfl
                      | true =>
                        have := pxEq_eq he
                        subst this
                        simp at g
                    refine sh ?_
                    refine nX (k + 1) ?_ ?_ ⟨_, hp, rfl⟩ ?_ ?_
                    · omega
                    · omega
                    · all_goals repeat' (first | exact True.intro | refine And.intro ?_ ?_ | (intro _u; clear _u) | (with_reducible first | refine eM ?_ ?_ | refine eF ?_ ?_ ?_ | refine eN ?_ | refine eL ?_ ?_ ?_ | refine eA ?_ ?_ | refine IWk.mk ⟨_, hp, rfl⟩ ?_ ?_) | refine IWk.mk ⟨_, hp, rfl⟩ ?_ ?_)
                      all_goals first | with_reducible rfl | omega | exact Or.inl (by decide) | (simp; done) | rfl | skip
                      all_goals (rw [hs]; simp [apx, hne])
                    · all_goals repeat' (first | exact True.intro | refine And.intro ?_ ?_ | (intro _u; clear _u) | (with_reducible first | refine eM ?_ ?_ | refine eF ?_ ?_ ?_ | refine eN ?_ | refine eL ?_ ?_ ?_ | refine eA ?_ ?_ | refine IWk.mk ⟨_, hp, rfl⟩ ?_ ?_) | refine IWk.mk ⟨_, hp, rfl⟩ ?_ ?_)
                      all_goals first | with_reducible rfl | omega | exact Or.inl (by decide) | (simp; done) | rfl | skip
                      all_goals (rw [hs]; simp [apx])
                  · have k2 := g
                    clear g
                    refine sh ?_
                    refine eget_map (gno hx) ?_
                    refine sh ?_
                    refine eget_map (gno hy) ?_
                    refine sh ?_
                    refine cS (fun g => ?_) (fun g => ?_)
                    · have hne : pxEq x y = false := by
                        cases he : pxEq x y with
                        | false => rfl
                        | true =>
                          have := pxEq_eq he
                          subst this
                          simp at g
                      refine sh ?_
                      refine nX (k + 1) ?_ ?_ ⟨_, hp, rfl⟩ ?_ ?_
                      · omega
                      · omega
                      · all_goals repeat' (first | exact True.intro | refine And.intro ?_ ?_ | (intro _u; clear _u) | (with_reducible first | refine eM ?_ ?_ | refine eF ?_ ?_ ?_ | refine eN ?_ | refine eL ?_ ?_ ?_ | refine eA ?_ ?_ | refine IWk.mk ⟨_, hp, rfl⟩ ?_ ?_) | refine IWk.mk ⟨_, hp, rfl⟩ ?_ ?_)
                        all_goals first | with_reducible rfl | omega | exact Or.inl (by decide) | (simp; done) | rfl | skip
                        all_goals (rw [hs]; simp [apx, hne])
                      · all_goals repeat' (first | exact True.intro | refine And.intro ?_ ?_ | (intro _u; clear _u) | (with_reducible first | refine eM ?_ ?_ | refine eF ?_ ?_ ?_ | refine eN ?_ | refine eL ?_ ?_ ?_ | refine eA ?_ ?_ | refine IWk.mk ⟨_, hp, rfl⟩ ?_ ?_) | refine IWk.mk ⟨_, hp, rfl⟩ ?_ ?_)
                        all_goals first | with_reducible rfl | omega | exact Or.inl (by decide) | (simp; done) | rfl | skip
                        all_goals (rw [hs]; simp [apx])
                    · have k3 := g
                      clear g
                      refine sh ?_
                      refine eget_map (gas hx) ?_
                      refine sh ?_
                      refine eget_map (gas hy) ?_
                      refine sh ?_
                      refine cS (fun g => ?_) (fun g => ?_)
                      · have hne : pxEq x y = false := by
                          cases he : pxEq x y with
                          | false => rfl
                          | true =>
                            have := pxEq_eq he
                            subst this
                            simp at g
                        refine sh ?_
                        refine nX (k + 1) ?_ ?_ ⟨_, hp, rfl⟩ ?_ ?_
                        · omega
                        · omega
                        · all_goals repeat' (first | exact True.intro | refine And.intro ?_ ?_ | (intro _u; clear _u) | (with_reducible first | refine eM ?_ ?_ | refine eF ?_ ?_ ?_ | refine eN ?_ | refine eL ?_ ?_ ?_ | refine eA ?_ ?_ | refine IWk.mk ⟨_, hp, rfl⟩ ?_ ?_) | refine IWk.mk ⟨_, hp, rfl⟩ ?_ ?_)
                          all_goals first | with_reducible rfl | omega | exact Or.inl (by decide) | (simp; done) | rfl | skip
                          all_goals (rw [hs]; simp [apx, hne])
                        · all_goals repeat' (first | exact True.intro | refine And.intro ?_ ?_ | (intro _u; clear _u) | (with_reducible first | refine eM ?_ ?_ | refine eF ?_ ?_ ?_ | refine eN ?_ | refine eL ?_ ?_ ?_ | refine eA ?_ ?_ | refine IWk.mk ⟨_, hp, rfl⟩ ?_ ?_) | refine IWk.mk ⟨_, hp, rfl⟩ ?_ ?_)
                          all_goals first | with_reducible rfl | omega | exact Or.inl (by decide) | (simp; done) | rfl | skip
                          all_goals (rw [hs]; simp [apx])
                      · have k4 := g
                        clear g
                        refine sh ?_
                        refine eget_map (gla hx) ?_
                        refine sh ?_
                        refine eget_map (gla hy) ?_
                        refine sh ?_
                        refine cS (fun g => ?_) (fun g => ?_)
                        · have hne : pxEq x y = false := by
                            cases he : pxEq x y with
                            | false => rfl
                            | true =>
                              have := pxEq_eq he
                              subst this
                              simp at g
                          refine sh ?_
                          refine nX (k + 1) ?_ ?_ ⟨_, hp, rfl⟩ ?_ ?_
                          · omega
                          · omega
                          · all_goals repeat' (first | exact True.intro | refine And.intro ?_ ?_ | (intro _u; clear _u) | (with_reducible first | refine eM ?_ ?_ | refine eF ?_ ?_ ?_ | refine eN ?_ | refine eL ?_ ?_ ?_ | refine eA ?_ ?_ | refine IWk.mk ⟨_, hp, rfl⟩ ?_ ?_) | refine IWk.mk ⟨_, hp, rfl⟩ ?_ ?_)
                            all_goals first | with_reducible rfl | omega | exact Or.inl (by decide) | (simp; done) | rfl | skip
                            all_goals (rw [hs]; simp [apx, hne])
                          · all_goals repeat' (first | exact True.intro | refine And.intro ?_ ?_ | (intro _u; clear _u) | (with_reducible first | refine eM ?_ ?_ | refine eF ?_ ?_ ?_ | refine eN ?_ | refine eL ?_ ?_ ?_ | refine eA ?_ ?_ | refine IWk.mk ⟨_, hp, rfl⟩ ?_ ?_) | refine IWk.mk ⟨_, hp, rfl⟩ ?_ ?_)
                            all_goals first | with_reducible rfl | omega | exact Or.inl (by decide) | (simp; done) | rfl | skip
                            all_goals (rw [hs]; simp [apx])
                        · have k5 := g
                          clear g
                          have heq : pxEq x y = true := by
                            simp at k0 k3
                            simp [pxEq, k0, k1, k2, k3, k4, k5]
                          refine sh ?_
                          refine nX (k + 1) ?_ ?_ ⟨_, hp, rfl⟩ ?_ ?_
                          · omega
                          · omega
                          · all_goals repeat' (first | exact True.intro | refine And.intro ?_ ?_ | (intro _u; clear _u) | (with_reducible first | refine eM ?_ ?_ | refine eF ?_ ?_ ?_ | refine eN ?_ | refine eL ?_ ?_ ?_ | refine eA ?_ ?_ | refine IWk.mk ⟨_, hp, rfl⟩ ?_ ?_) | refine IWk.mk ⟨_, hp, rfl⟩ ?_ ?_)
                            all_goals first | with_reducible rfl | omega | exact Or.inl (by decide) | (simp; done) | rfl | skip
                            all_goals (rw [hs]; simp [apx, heq])
                          · all_goals repeat' (first | exact True.intro | refine And.intro ?_ ?_ | (intro _u; clear _u) | (with_reducible first | refine eM ?_ ?_ | refine eF ?_ ?_ ?_ | refine eN ?_ | refine eL ?_ ?_ ?_ | refine eA ?_ ?_ | refine IWk.mk ⟨_, hp, rfl⟩ ?_ ?_) | refine IWk.mk ⟨_, hp, rfl⟩ ?_ ?_)
                            all_goals first | with_reducible rfl | omega | exact Or.inl (by decide) | (simp; done) | rfl | skip
                            all_goals (rw [hs]; simp [apx])
            · have hkm : k = m := by omega
              subst hkm
              subst hq
              refine sh ?_
              exact rT
      · rw [if_neg (by simpa using ha), if_pos (by simpa using hb)]
        refine sh ?_
        refine acnd_t (by simpa using hb) ?_
        rw [apart4, if_neg (by simpa using ha), if_pos (by simpa using hb)] at hq
        subst hq
        refine sh ?_
        exact rT
    · rw [if_pos (by simpa using ha)]
      refine sh ?_
      refine acnd_t (by simpa using ha) ?_
      rw [apart4, if_pos (by simpa using ha)] at hq
      subst hq
      refine sh ?_
      exact rT
end Go.UM

/- The document's images put on one another, and its parts. -/



namespace Go.UM
open Go.AM
set_option maxRecDepth 4000

theorem rnear_c {R : Env} (h : N150 R) (x : Int) : R.Pc 150 [.int .i64 x] (.int .i64 (near x)) :=
  h.o150.enter 60 rfl fun X b hfit hp => by
    unfold near
    refine sh ?_
    refine cS (fun h1 => ?_) (fun h1 => ?_)
    · refine sh ?_
      refine rT ?_
      all_goals repeat' (first | exact True.intro | refine And.intro ?_ ?_ | (intro _u; clear _u) | (with_reducible first | refine eM ?_ ?_ | refine eF ?_ ?_ ?_ | refine eN ?_ | refine eL ?_ ?_ ?_ | refine eA ?_ ?_ | refine IWk.mk ⟨_, hp, rfl⟩ ?_ ?_) | refine IWk.mk ⟨_, hp, rfl⟩ ?_ ?_)
      all_goals first | with_reducible rfl | omega | exact Or.inl (by decide) | (simp; done) | rfl | skip
      all_goals omega
    · refine sh ?_
      refine cS (fun h2 => ?_) (fun h2 => ?_)
      · refine sh ?_
        refine rT ?_
        all_goals repeat' (first | exact True.intro | refine And.intro ?_ ?_ | (intro _u; clear _u) | (with_reducible first | refine eM ?_ ?_ | refine eF ?_ ?_ ?_ | refine eN ?_ | refine eL ?_ ?_ ?_ | refine eA ?_ ?_ | refine IWk.mk ⟨_, hp, rfl⟩ ?_ ?_) | refine IWk.mk ⟨_, hp, rfl⟩ ?_ ?_)
        all_goals first | with_reducible rfl | omega | exact Or.inl (by decide) | (simp; done) | rfl | skip
        all_goals omega
      · refine sh ?_
        refine rT ?_
        all_goals repeat' (first | exact True.intro | refine And.intro ?_ ?_ | (intro _u; clear _u) | (with_reducible first | refine eM ?_ ?_ | refine eF ?_ ?_ ?_ | refine eN ?_ | refine eL ?_ ?_ ?_ | refine eA ?_ ?_ | refine IWk.mk ⟨_, hp, rfl⟩ ?_ ?_) | refine IWk.mk ⟨_, hp, rfl⟩ ?_ ?_)
        all_goals first | with_reducible rfl | omega | exact Or.inl (by decide) | (simp; done) | rfl | skip
        all_goals omega
theorem rmix_c {R : Env} (h : N125 R) (a b c : Int) : R.Pc 125 [.int .i64 a, .int .i64 b, .int .i64 c] (.int .i64 (mix a b c)) :=
  h.o125.enter 60 rfl fun X bb hfit hp => by
    refine sh ?_
    refine ICall.pure h.n150.o150.hb (rnear_c h.n150 a) rfl ?_
    refine sh ?_
    refine ICall.pure h.n150.o150.hb (rnear_c h.n150 b) rfl ?_
    refine sh ?_
    refine ICall.pure h.n150.o150.hb (rnear_c h.n150 c) rfl ?_
    have ha := near_in a
    have hb := near_in b
    have hc := near_in c
    have hm := mul_in hb (y := 65535 - near c) (by omega)
    refine sh ?_
    rw [Int.tdiv_eq_ediv_of_nonneg (by omega)]
    refine iwr_in (by simp only [inI]; omega) ?_
    refine sh ?_
    refine ICall.pure h.n150.o150.hb (rnear_c h.n150 _) rfl ?_
    refine sh ?_
    refine rT ?_
    all_goals repeat' (first | exact True.intro | refine And.intro ?_ ?_ | (intro _u; clear _u) | (with_reducible first | refine eM ?_ ?_ | refine eF ?_ ?_ ?_ | refine eN ?_ | refine eL ?_ ?_ ?_ | refine eA ?_ ?_ | refine IWk.mk ⟨_, hp, rfl⟩ ?_ ?_) | refine IWk.mk ⟨_, hp, rfl⟩ ?_ ?_)
    all_goals first | with_reducible rfl | omega | exact Or.inl (by decide) | (simp; done) | rfl | skip
    unfold near mix near at *
    omega
theorem rcheck38_c {R : Env} (h : N140 R) (i : Im) (few : i.Few) : R.Pc 140 [.agg i.row] (.int .i64 (ichk i)) :=
  h.o140.enter 60 rfl fun X bb hfit hp => by
    have c1 := rplanes_c h.n155 i few
    rw [planes_e] at c1
    refine sh ?_
    refine ICall.pure h.n155.o155.hb c1 rfl ?_
    refine sh ?_
    exact rT
theorem rwithin_c {R : Env} (h : N141 R) (i : Im) (x y w hh : Int) (ok : i.Ok) : R.Pc 141 [.agg i.row, .int .i64 x, .int .i64 y, .int .i64 w, .int .i64 hh] (.bool (within i x y w hh)) :=
  h.o141.enter 60 rfl fun X bb hfit hp => by
    have hw := ok.w
    have hhh := ok.h
    generalize hq : within i x y w hh = q
    have no : ¬ (0 ≤ x ∧ 0 ≤ y ∧ 1 ≤ w ∧ 1 ≤ hh ∧ w ≤ i.w ∧ hh ≤ i.h ∧ x ≤ i.w - w ∧ y ≤ i.h - hh) → q = false := fun hn => by
      rw [← hq]; simp only [within, decide_eq_false_iff_not]; exact hn
    have ys : (0 ≤ x ∧ 0 ≤ y ∧ 1 ≤ w ∧ 1 ≤ hh ∧ w ≤ i.w ∧ hh ≤ i.h ∧ x ≤ i.w - w ∧ y ≤ i.h - hh) → q = true := fun hn => by
      rw [← hq]; simp only [within, decide_eq_true_eq]; exact hn
    refine sh ?_
    refine cS (fun h1 => ?_) (fun h1 => ?_)
    · refine sh ?_
      refine cS (fun h2 => ?_) (fun h2 => ?_)
      · refine sh ?_
        refine cS (fun h3 => ?_) (fun h3 => ?_)
        · refine sh ?_
          refine cS (fun h4 => ?_) (fun h4 => ?_)
          · refine sh ?_
            refine cS (fun h5 => ?_) (fun h5 => ?_)
            · refine sh ?_
              refine cS (fun h6 => ?_) (fun h6 => ?_)
              · refine sh ?_
                refine cS (fun h7 => ?_) (fun h7 => ?_)
                · refine sh ?_
                  refine rT ?_
                  all_goals repeat' (first | exact True.intro | refine And.intro ?_ ?_ | (intro _u; clear _u) | (with_reducible first | refine eM ?_ ?_ | refine eF ?_ ?_ ?_ | refine eN ?_ | refine eL ?_ ?_ ?_ | refine eA ?_ ?_ | refine IWk.mk ⟨_, hp, rfl⟩ ?_ ?_) | refine IWk.mk ⟨_, hp, rfl⟩ ?_ ?_)
                  all_goals first | with_reducible rfl | omega | exact Or.inl (by decide) | (simp; done) | rfl | skip
                  by_cases h8 : y ≤ i.h - hh
                  · rw [ys (by omega)]; simpa using h8
                  · rw [no (by omega)]; simpa using h8
                · refine sh ?_
                  refine rT ?_
                  all_goals repeat' (first | exact True.intro | refine And.intro ?_ ?_ | (intro _u; clear _u) | (with_reducible first | refine eM ?_ ?_ | refine eF ?_ ?_ ?_ | refine eN ?_ | refine eL ?_ ?_ ?_ | refine eA ?_ ?_ | refine IWk.mk ⟨_, hp, rfl⟩ ?_ ?_) | refine IWk.mk ⟨_, hp, rfl⟩ ?_ ?_)
                  all_goals first | with_reducible rfl | omega | exact Or.inl (by decide) | (simp; done) | rfl | skip
                  rw [no (by omega)]
              · refine sh ?_
                refine rT ?_
                all_goals repeat' (first | exact True.intro | refine And.intro ?_ ?_ | (intro _u; clear _u) | (with_reducible first | refine eM ?_ ?_ | refine eF ?_ ?_ ?_ | refine eN ?_ | refine eL ?_ ?_ ?_ | refine eA ?_ ?_ | refine IWk.mk ⟨_, hp, rfl⟩ ?_ ?_) | refine IWk.mk ⟨_, hp, rfl⟩ ?_ ?_)
                all_goals first | with_reducible rfl | omega | exact Or.inl (by decide) | (simp; done) | rfl | skip
                rw [no (by omega)]
            · refine sh ?_
              refine rT ?_
              all_goals repeat' (first | exact True.intro | refine And.intro ?_ ?_ | (intro _u; clear _u) | (with_reducible first | refine eM ?_ ?_ | refine eF ?_ ?_ ?_ | refine eN ?_ | refine eL ?_ ?_ ?_ | refine eA ?_ ?_ | refine IWk.mk ⟨_, hp, rfl⟩ ?_ ?_) | refine IWk.mk ⟨_, hp, rfl⟩ ?_ ?_)
              all_goals first | with_reducible rfl | omega | exact Or.inl (by decide) | (simp; done) | rfl | skip
              rw [no (by omega)]
          · refine sh ?_
            refine rT ?_
            all_goals repeat' (first | exact True.intro | refine And.intro ?_ ?_ | (intro _u; clear _u) | (with_reducible first | refine eM ?_ ?_ | refine eF ?_ ?_ ?_ | refine eN ?_ | refine eL ?_ ?_ ?_ | refine eA ?_ ?_ | refine IWk.mk ⟨_, hp, rfl⟩ ?_ ?_) | refine IWk.mk ⟨_, hp, rfl⟩ ?_ ?_)
            all_goals first | with_reducible rfl | omega | exact Or.inl (by decide) | (simp; done) | rfl | skip
            rw [no (by omega)]
        · refine sh ?_
          refine rT ?_
          all_goals repeat' (first | exact True.intro | refine And.intro ?_ ?_ | (intro _u; clear _u) | (with_reducible first | refine eM ?_ ?_ | refine eF ?_ ?_ ?_ | refine eN ?_ | refine eL ?_ ?_ ?_ | refine eA ?_ ?_ | refine IWk.mk ⟨_, hp, rfl⟩ ?_ ?_) | refine IWk.mk ⟨_, hp, rfl⟩ ?_ ?_)
          all_goals first | with_reducible rfl | omega | exact Or.inl (by decide) | (simp; done) | rfl | skip
          rw [no (by omega)]
      · refine sh ?_
        refine rT ?_
        all_goals repeat' (first | exact True.intro | refine And.intro ?_ ?_ | (intro _u; clear _u) | (with_reducible first | refine eM ?_ ?_ | refine eF ?_ ?_ ?_ | refine eN ?_ | refine eL ?_ ?_ ?_ | refine eA ?_ ?_ | refine IWk.mk ⟨_, hp, rfl⟩ ?_ ?_) | refine IWk.mk ⟨_, hp, rfl⟩ ?_ ?_)
        all_goals first | with_reducible rfl | omega | exact Or.inl (by decide) | (simp; done) | rfl | skip
        rw [no (by omega)]
    · refine sh ?_
      refine rT ?_
      all_goals repeat' (first | exact True.intro | refine And.intro ?_ ?_ | (intro _u; clear _u) | (with_reducible first | refine eM ?_ ?_ | refine eF ?_ ?_ ?_ | refine eN ?_ | refine eL ?_ ?_ ?_ | refine eA ?_ ?_ | refine IWk.mk ⟨_, hp, rfl⟩ ?_ ?_) | refine IWk.mk ⟨_, hp, rfl⟩ ?_ ?_)
      all_goals first | with_reducible rfl | omega | exact Or.inl (by decide) | (simp; done) | rfl | skip
      rw [no (by omega)]

/-- The blocks of an image of pixels. -/
def memP (R : Env) (M : List Px) : IMem := [(0, .arr (R.ty 13) 3 (slc3 (M.map Px.be))), (1, .arr (R.ty 10) 1 (slcK .i64 (M.map Px.al))), (2, .arr (R.ty 10) 1 (slcK .i64 (M.map Px.de))), (3, .arr (R.ty 13) 3 (slc3 (M.map Px.no))), (4, .arr (R.ty 10) 1 (slcK .i64 (M.map Px.as))), (5, .arr (R.ty 10) 1 (slcK .i64 (M.map Px.la)))]
abbrev rowP (w h : Int) (m : Nat) : List AV := [.int .i64 w, .int .i64 h, .osl 0 m, .osl 1 m, .osl 2 m, .osl 3 m, .osl 4 m, .osl 5 m]
theorem add_c {R : Env} (h : N142 R) (w hh w' hh' : Int) (M l : List Px) (j m : Nat) {x : Px} (hx : l[j]? = some x) (hM : M.length = m) (hm : m ≤ 10000) :
    R.Mc 142 [.agg (rowP w hh m), .agg (pxr w' hh' l), .int .i64 j] (memP R M) (.agg (rowP w hh (m + 1))) (memP R (M ++ [x])) 6 :=
  h.o142.enterM 100 6 rfl rfl rfl fun X bb hfit hp => by
    have hj := (List.getElem?_eq_some_iff.1 hx).1
    refine sh ?_
    refine eget_map (gbe hx) ?_
    refine sh ?_
    refine eget_map (gal hx) ?_
    refine sh ?_
    refine eget_map (gde hx) ?_
    refine sh ?_
    refine eget_map (gno hx) ?_
    refine sh ?_
    refine eget_map (gas hx) ?_
    refine sh ?_
    refine eget_map (gla hx) ?_
    refine sh ?_
    refine rM [0, 1, 2, 3, 4, 5] ?_
    all_goals repeat' (first | exact True.intro | refine And.intro ?_ ?_ | (intro _u; clear _u) | (with_reducible first | refine eM ?_ ?_ | refine eF ?_ ?_ ?_ | refine eN ?_ | refine eL ?_ ?_ ?_ | refine eA ?_ ?_ | refine IWk.mk ⟨_, hp, rfl⟩ ?_ ?_) | refine IWk.mk ⟨_, hp, rfl⟩ ?_ ?_)
    all_goals first | with_reducible rfl | omega | exact Or.inl (by decide) | (simp; done) | rfl | skip
    all_goals first | (simp [slc3, slcK, t3]; done) | (simp; omega)

theorem size38_c {R : Env} (h : N149 R) (x : Int) (hx : -65535 ≤ x ∧ x ≤ 65535) : R.Pc 149 [.int .i64 x] (.int .i64 (max x (-x))) :=
  h.o149.enter 60 rfl fun X b hfit hp => by
    refine sh ?_
    refine cS (fun h1 => ?_) (fun h1 => ?_)
    · refine sh ?_
      refine rT ?_
      all_goals repeat' (first | exact True.intro | refine And.intro ?_ ?_ | (intro _u; clear _u) | (with_reducible first | refine eM ?_ ?_ | refine eF ?_ ?_ ?_ | refine eN ?_ | refine eL ?_ ?_ ?_ | refine eA ?_ ?_ | refine IWk.mk ⟨_, hp, rfl⟩ ?_ ?_) | refine IWk.mk ⟨_, hp, rfl⟩ ?_ ?_)
      all_goals first | with_reducible rfl | omega | exact Or.inl (by decide) | (simp; done) | rfl | skip
      all_goals omega
    · refine sh ?_
      refine rT ?_
      all_goals repeat' (first | exact True.intro | refine And.intro ?_ ?_ | (intro _u; clear _u) | (with_reducible first | refine eM ?_ ?_ | refine eF ?_ ?_ ?_ | refine eN ?_ | refine eL ?_ ?_ ?_ | refine eA ?_ ?_ | refine IWk.mk ⟨_, hp, rfl⟩ ?_ ?_) | refine IWk.mk ⟨_, hp, rfl⟩ ?_ ?_)
      all_goals first | with_reducible rfl | omega | exact Or.inl (by decide) | (simp; done) | rfl | skip
      all_goals omega

theorem threes_c {R : Env} (h : N144 R) (l : List T3) (hl : l.length ≤ 10000) : R.Pc 144 [.isl 3 (slc3 l), .isl 3 (slc3 l)] (.bool true) :=
  h.o144.enter 60 rfl fun X bb hfit hp => by
    refine sh ?_
    refine acnd_f (by simp) ?_
    refine sh ?_
    refine lPa 60 (fun k : Nat => k ≤ l.length) (fun k => ⟨[(0, .isl 3 (slc3 l)), (1, .isl 3 (slc3 l)), (5, .int .i64 k)], [], 0⟩) (fun k => l.length - k) (0) ?_ ?_
    · exact Nat.zero_le _
    · intro k hk
      dsimp only
      refine sh ?_
      refine cS (fun h1 => ?_) (fun h1 => ?_)
      · obtain ⟨x, hx⟩ : ∃ u_, l[k]? = some u_ := ⟨_, List.getElem?_eq_getElem (by first | omega | (simp <;> omega))⟩
        refine sh ?_
        refine eget_map hx ?_
        refine sh ?_
        refine eget_map hx ?_
        refine sh ?_
        refine acnd_f (by simp) ?_
        refine sh ?_
        refine nXa (k + 1) ?_ ?_
        · omega
        · omega
      · refine sh ?_
        exact rT
theorem ints29_c {R : Env} (h : N145 R) (l : List Int) (hl : l.length ≤ 10000) : R.Pc 145 [.isl 1 (slcK .i64 l), .isl 1 (slcK .i64 l)] (.bool true) :=
  h.o145.enter 60 rfl fun X bb hfit hp => by
    refine sh ?_
    refine acnd_f (by simp) ?_
    refine sh ?_
    refine lPa 60 (fun k : Nat => k ≤ l.length) (fun k => ⟨[(0, .isl 1 (slcK .i64 l)), (1, .isl 1 (slcK .i64 l)), (5, .int .i64 k)], [], 0⟩) (fun k => l.length - k) (0) ?_ ?_
    · exact Nat.zero_le _
    · intro k hk
      dsimp only
      refine sh ?_
      refine cS (fun h1 => ?_) (fun h1 => ?_)
      · obtain ⟨x, hx⟩ : ∃ u_, l[k]? = some u_ := ⟨_, List.getElem?_eq_getElem (by first | omega | (simp <;> omega))⟩
        refine sh ?_
        refine eget_map hx ?_
        refine sh ?_
        refine eget_map hx ?_
        refine sh ?_
        refine acnd_f (by simp) ?_
        refine sh ?_
        refine nXa (k + 1) ?_ ?_
        · omega
        · omega
      · refine sh ?_
        exact rT
theorem alike3_c {R : Env} (h : N146 R) (l : List T3) (hl : l.length ≤ 10000) : R.Pc 146 [.isl 3 (slc3 l), .isl 3 (slc3 l)] (.bool true) :=
  h.o146.enter 60 rfl fun X bb hfit hp => by
    refine sh ?_
    refine acnd_f (by simp) ?_
    refine sh ?_
    refine lPa 60 (fun k : Nat => k ≤ l.length) (fun k => ⟨[(0, .isl 3 (slc3 l)), (1, .isl 3 (slc3 l)), (12, .int .i64 l.length), (13, .int .i64 k)], [], 0⟩) (fun k => l.length - k) (0) ?_ ?_
    · exact Nat.zero_le _
    · intro k hk
      dsimp only
      refine sh ?_
      refine cS (fun h1 => ?_) (fun h1 => ?_)
      · obtain ⟨x, hx⟩ : ∃ u_, l[k]? = some u_ := ⟨_, List.getElem?_eq_getElem (by first | omega | (simp <;> omega))⟩
        refine sh ?_
        refine eget_map hx ?_
        refine sh ?_
        refine eget_map hx ?_
        refine sh ?_
        refine acnd_f (by simp) ?_
        refine sh ?_
        refine nXa (k + 1) ?_ ?_
        · omega
        · omega
      · refine sh ?_
        exact rT
theorem alike1_c {R : Env} (h : N147 R) (l : List Int) (hl : l.length ≤ 10000) : R.Pc 147 [.isl 1 (slcK .i64 l), .isl 1 (slcK .i64 l)] (.bool true) :=
  h.o147.enter 60 rfl fun X bb hfit hp => by
    refine sh ?_
    refine acnd_f (by simp) ?_
    refine sh ?_
    refine lPa 60 (fun k : Nat => k ≤ l.length) (fun k => ⟨[(0, .isl 1 (slcK .i64 l)), (1, .isl 1 (slcK .i64 l)), (12, .int .i64 l.length), (13, .int .i64 k)], [], 0⟩) (fun k => l.length - k) (0) ?_ ?_
    · exact Nat.zero_le _
    · intro k hk
      dsimp only
      refine sh ?_
      refine cS (fun h1 => ?_) (fun h1 => ?_)
      · obtain ⟨x, hx⟩ : ∃ u_, l[k]? = some u_ := ⟨_, List.getElem?_eq_getElem (by first | omega | (simp <;> omega))⟩
        refine sh ?_
        refine eget_map hx ?_
        refine sh ?_
        refine eget_map hx ?_
        refine sh ?_
        refine acnd_f (by simp) ?_
        refine sh ?_
        refine nXa (k + 1) ?_ ?_
        · omega
        · omega
      · refine sh ?_
        exact rT
structure Im.Short (i : Im) : Prop where
  be : i.be.length ≤ 10000
  al : i.al.length ≤ 10000
  de : i.de.length ≤ 10000
  no : i.no.length ≤ 10000
  as : i.as.length ≤ 10000
  la : i.la.length ≤ 10000
theorem same29_c {R : Env} (h : N117 R) (i : Im) (s : i.Short) : R.Pc 117 [.agg i.row, .agg i.row] (.bool true) :=
  h.o117.enter 60 rfl fun X bb hfit hp => by
    refine sh ?_
    refine acnd_t (by simp) ?_
    refine sh ?_
    refine acnd_t (by simp) ?_
    refine sh ?_
    refine ICall.pure h.n144.o144.hb (threes_c h.n144 i.be s.be) rfl ?_
    refine sh ?_
    refine ICall.pure h.n144.o144.hb (threes_c h.n144 i.no s.no) rfl ?_
    refine sh ?_
    refine ICall.pure h.n145.o145.hb (ints29_c h.n145 i.al s.al) rfl ?_
    refine sh ?_
    refine ICall.pure h.n145.o145.hb (ints29_c h.n145 i.de s.de) rfl ?_
    refine sh ?_
    refine ICall.pure h.n145.o145.hb (ints29_c h.n145 i.as s.as) rfl ?_
    refine sh ?_
    refine ICall.pure h.n145.o145.hb (ints29_c h.n145 i.la s.la) rfl ?_
    refine sh ?_
    exact rT
theorem fsame_c {R : Env} (h : N120 R) (i : Im) (s : i.Short) : R.Pc 120 [.agg i.row, .agg i.row] (.bool true) :=
  h.o120.enter 60 rfl fun X bb hfit hp => by
    refine sh ?_
    refine acnd_t (by simp) ?_
    refine sh ?_
    refine acnd_t (by simp) ?_
    refine sh ?_
    refine ICall.pure h.n146.o146.hb (alike3_c h.n146 i.be s.be) rfl ?_
    refine sh ?_
    refine ICall.pure h.n147.o147.hb (alike1_c h.n147 i.al s.al) rfl ?_
    refine sh ?_
    refine ICall.pure h.n147.o147.hb (alike1_c h.n147 i.de s.de) rfl ?_
    refine sh ?_
    refine ICall.pure h.n146.o146.hb (alike3_c h.n146 i.no s.no) rfl ?_
    refine sh ?_
    refine ICall.pure h.n147.o147.hb (alike1_c h.n147 i.as s.as) rfl ?_
    refine sh ?_
    refine ICall.pure h.n147.o147.hb (alike1_c h.n147 i.la s.la) rfl ?_
    refine sh ?_
    exact rT
end Go.UM

/- The document's images put on one another, and its parts, part 2. -/

namespace Go.UM
open Go.AM
set_option maxRecDepth 4000


set_option maxHeartbeats 1000000 in
theorem rover_c {R : Env} (h : N122 R) (a b : Im) (fa : a.Few) (fb : b.Few) : R.Pc 122 [.agg a.row, .agg b.row] (.tup [.agg (over4 a b).1.row, .int .i64 (over4 a b).2]) :=
  h.o122.enter 200 rfl fun X bb hfit hp => by
    generalize hq : over4 a b = q
    refine sh ?_
    refine ICall.pure h.n140.o140.hb (rcheck38_c h.n140 a fa) rfl ?_
    by_cases ha : ichk a = 0
    · refine sh ?_
      refine acnd_f (by simpa using ha) ?_
      refine sh ?_
      refine ICall.pure h.n140.o140.hb (rcheck38_c h.n140 b fb) rfl ?_
      by_cases hb : ichk b = 0
      · refine sh ?_
        refine acnd_f (by simpa using hb) ?_
        by_cases e : a.w ≠ b.w ∨ a.h ≠ b.h
        · rw [over4, if_neg (by simpa using ha), if_neg (by simpa using hb), if_pos e] at hq
          subst hq
          by_cases e1 : a.w = b.w
          · have e2 : a.h ≠ b.h := by rcases e with e | e; exact (e e1).elim; exact e
            refine sh ?_
            refine acnd_f (by simpa using e1) ?_
            refine sh ?_
            refine acnd_t (by simpa using e2) ?_
            refine sh ?_
            exact rT
          · refine sh ?_
            refine acnd_t (by simpa using e1) ?_
            refine sh ?_
            exact rT
        · rw [over4, if_neg (by simpa using ha), if_neg (by simpa using hb), if_neg e] at hq
          have ew : a.w = b.w := Decidable.not_not.1 fun hh => e (.inl hh)
          have eh : a.h = b.h := Decidable.not_not.1 fun hh => e (.inr hh)
          refine sh ?_
          refine acnd_f (by simpa using ew) ?_
          refine sh ?_
          refine acnd_f (by simpa using eh) ?_
          obtain ⟨ea, ga⟩ := (ichk_ok.1 ha).good
          obtain ⟨eb, gb⟩ := (ichk_ok.1 hb).good
          unfold overI at hq
          rw [← ew, ← eh] at eb gb
          generalize a.pxs = l at *
          generalize b.pxs = lb at *
          generalize a.w = w at *
          generalize a.h = hh at *
          subst ea eb
          have l1 := ga.few
          have l2 := ga.len
          have l3 := gb.len
          have l4 : lb.length = l.length := by omega
          generalize hm : l.length = m at *
          have hal : ∀ p ∈ l, in16 p.al := fun p hp => (ga.px p hp).al
          clear hfit ha hb e ew eh fa fb
          refine sh ?_
          refine lPa 200 (fun s : Nat × List Px => s.1 ≤ m ∧ s.2 = (List.zipWith mixPx l lb).take s.1) (fun s => ⟨[(2, .loc 0 1 0 0), (3, .loc 1 1 0 0), (4, .loc 2 1 0 0), (8, .loc 3 1 0 0), (9, .int .i64 s.1)], [(9, .arr (R.ty 10) 1 (slcK .i64 (s.2.map Px.la))), (8, .arr (R.ty 10) 1 (slcK .i64 (s.2.map Px.as))), (7, .arr (R.ty 13) 3 (slc3 (s.2.map Px.no))), (6, .arr (R.ty 10) 1 (slcK .i64 (s.2.map Px.de))), (5, .arr (R.ty 10) 1 (slcK .i64 (s.2.map Px.al))), (4, .arr (R.ty 13) 3 (slc3 (s.2.map Px.be))), (3, .var (R.ty 16) [.int .i64 w, .int .i64 hh, .osl 4 s.1, .osl 5 s.1, .osl 6 s.1, .osl 7 s.1, .osl 8 s.1, .osl 9 s.1]), (2, .var (R.ty 16) [.int .i64 0, .int .i64 0, .nils, .nils, .nils, .nils, .nils, .nils]), (1, .var (R.ty 16) (pxr w hh lb)), (0, .var (R.ty 16) (pxr w hh l))], 10⟩) (fun s => m - s.1) ((0, [])) ?_ ?_
          · exact ⟨Nat.zero_le _, by simp⟩
          · rintro ⟨k, M⟩ ⟨h2, hS⟩
            dsimp only at h2 hS ⊢
            refine sh ?_
            refine cS (fun h3 => ?_) (fun h3 => ?_)
            · obtain ⟨x, hx⟩ : ∃ x, l[k]? = some x := ⟨_, List.getElem?_eq_getElem (by omega)⟩
              obtain ⟨y, hy⟩ : ∃ y, lb[k]? = some y := ⟨_, List.getElem?_eq_getElem (by omega)⟩
              have hxa := hal x (List.mem_of_getElem? hx)
              unfold in16 at hxa
              have hMl : M.length = k := by rw [hS]; simp; omega
              refine sh ?_
              refine eget_map (gal hx) ?_
              refine sh ?_
              refine cS (fun h4 => ?_) (fun h4 => ?_)
              · refine sh ?_
                refine cM false [4, 5, 6, 7, 8, 9] (add_c h.n142 w hh w hh M l k k hx hMl (by omega)) ?_
                repeat ((intro _u; clear _u); first | refine eK ?_ | refine eP ?_)
                have hp1 : mixPx x y = { x with be := (mixPx x y).be, al := (mixPx x y).al } := by simp only [mixPx]; rw [if_pos (by omega), if_pos (by omega), if_pos (by omega), if_pos (by omega)]
                generalize hL : M ++ [_] = L at ⊢
                have hLl : L.length = k + 1 := by rw [← hL]; simp; omega
                have hLk := (congrArg (fun t : List Px => t[k]?) hL).symm
                rw [List.getElem?_append_right (by omega)] at hLk
                have hk0 : k - M.length = 0 := by omega
                rw [hk0] at hLk
                have hnext : M ++ [mixPx x y] = L.set k (mixPx x y) := by rw [← hL, List.set_append_right _ _ (by omega), hk0]; rfl
                refine sh ?_
                refine ILoop.one 100 ?_
                refine sh ?_
                refine acnd_t (by decide) ?_
                refine sh ?_
                refine eget_map (gbe hx) ?_
                refine sh ?_
                refine eget_map (gbe hy) ?_
                refine sh ?_
                refine eget_map (gal hx) ?_
                refine sh ?_
                refine ICall.pure h.n125.o125.hb (rmix_c h.n125 x.be.a y.be.a x.al) rfl ?_
                refine sh ?_
                refine ILoop.one 100 ?_
                refine sh ?_
                refine acnd_t (by decide) ?_
                refine sh ?_
                refine eget_map (gbe hx) ?_
                refine sh ?_
                refine eget_map (gbe hy) ?_
                refine sh ?_
                refine eget_map (gal hx) ?_
                refine sh ?_
                refine ICall.pure h.n125.o125.hb (rmix_c h.n125 x.be.b y.be.b x.al) rfl ?_
                refine sh ?_
                refine ILoop.one 100 ?_
                refine sh ?_
                refine acnd_t (by decide) ?_
                refine sh ?_
                refine eget_map (gbe hx) ?_
                refine sh ?_
                refine eget_map (gbe hy) ?_
                refine sh ?_
                refine eget_map (gal hx) ?_
                refine sh ?_
                refine ICall.pure h.n125.o125.hb (rmix_c h.n125 x.be.c y.be.c x.al) rfl ?_
                refine sh ?_
                refine ILoop.one 100 ?_
                refine sh ?_
                refine acnd_f (by decide) ?_
                refine sh ?_
                refine aelt_map (by simp; omega) (gbe hLk) ?_
                refine sh ?_
                refine eget_map (gal hx) ?_
                refine sh ?_
                refine eget_map (gal hy) ?_
                refine sh ?_
                refine eget_map (gal hx) ?_
                refine sh ?_
                refine ICall.pure h.n125.o125.hb (rmix_c h.n125 x.al y.al x.al) rfl ?_
                refine sh ?_
                refine aelt_map (by simp; omega) (gal hLk) ?_
                refine sh ?_
                refine nX ((k + 1, M ++ [mixPx x y])) ?_ ?_ ⟨_, hp, rfl⟩ ?_ ?_
                · refine ⟨by omega, by rw [hS, ← take_succ_get (zip_get hx hy)]⟩
                · omega
                · all_goals repeat' (first | exact True.intro | refine And.intro ?_ ?_ | (intro _u; clear _u) | (with_reducible first | refine eM ?_ ?_ | refine eF ?_ ?_ ?_ | refine eN ?_ | refine eL ?_ ?_ ?_ | refine eA ?_ ?_ | refine IWk.mk ⟨_, hp, rfl⟩ ?_ ?_) | refine IWk.mk ⟨_, hp, rfl⟩ ?_ ?_)
                  all_goals first | with_reducible rfl | omega | exact Or.inl (by decide) | (simp; done) | rfl | skip
                · all_goals repeat' (first | exact True.intro | refine And.intro ?_ ?_ | (intro _u; clear _u) | (with_reducible first | refine eM ?_ ?_ | refine eF ?_ ?_ ?_ | refine eN ?_ | refine eL ?_ ?_ ?_ | refine eA ?_ ?_ | refine IWk.mk ⟨_, hp, rfl⟩ ?_ ?_) | refine IWk.mk ⟨_, hp, rfl⟩ ?_ ?_)
                  all_goals first | with_reducible rfl | omega | exact Or.inl (by decide) | (simp; done) | rfl | skip
                  all_goals first | exact .inr (NmL_set (by simp) (by simp)) | skip
                  all_goals
                    dsimp only
                    rw [hnext, List.map_set]
                  · rw [hp1]; have e5 := congrArg (slcK .i64) (set_same (gla hLk)); exact e5
                  · rw [hp1]; have e5 := congrArg (slcK .i64) (set_same (gas hLk)); exact e5
                  · rw [hp1]; have e5 := congrArg slc3 (set_same (gno hLk)); exact e5
                  · rw [hp1]; have e5 := congrArg (slcK .i64) (set_same (gde hLk)); exact e5
                  · rw [← slcK_set]; rfl
                  · rw [← slc3_set]; rfl
              · refine sh ?_
                refine cM false [4, 5, 6, 7, 8, 9] (add_c h.n142 w hh w hh M lb k k hy hMl (by omega)) ?_
                repeat ((intro _u; clear _u); first | refine eK ?_ | refine eP ?_)
                have hp1 : mixPx x y = { y with be := (mixPx x y).be, al := (mixPx x y).al } := by simp only [mixPx]; rw [if_neg (by omega), if_neg (by omega), if_neg (by omega), if_neg (by omega)]
                generalize hL : M ++ [_] = L at ⊢
                have hLl : L.length = k + 1 := by rw [← hL]; simp; omega
                have hLk := (congrArg (fun t : List Px => t[k]?) hL).symm
                rw [List.getElem?_append_right (by omega)] at hLk
                have hk0 : k - M.length = 0 := by omega
                rw [hk0] at hLk
                have hnext : M ++ [mixPx x y] = L.set k (mixPx x y) := by rw [← hL, List.set_append_right _ _ (by omega), hk0]; rfl
                refine sh ?_
                refine ILoop.one 100 ?_
                refine sh ?_
                refine acnd_t (by decide) ?_
                refine sh ?_
                refine eget_map (gbe hx) ?_
                refine sh ?_
                refine eget_map (gbe hy) ?_
                refine sh ?_
                refine eget_map (gal hx) ?_
                refine sh ?_
                refine ICall.pure h.n125.o125.hb (rmix_c h.n125 x.be.a y.be.a x.al) rfl ?_
                refine sh ?_
                refine ILoop.one 100 ?_
                refine sh ?_
                refine acnd_t (by decide) ?_
                refine sh ?_
                refine eget_map (gbe hx) ?_
                refine sh ?_
                refine eget_map (gbe hy) ?_
                refine sh ?_
                refine eget_map (gal hx) ?_
                refine sh ?_
                refine ICall.pure h.n125.o125.hb (rmix_c h.n125 x.be.b y.be.b x.al) rfl ?_
                refine sh ?_
                refine ILoop.one 100 ?_
                refine sh ?_
                refine acnd_t (by decide) ?_
                refine sh ?_
                refine eget_map (gbe hx) ?_
                refine sh ?_
                refine eget_map (gbe hy) ?_
                refine sh ?_
                refine eget_map (gal hx) ?_
                refine sh ?_
                refine ICall.pure h.n125.o125.hb (rmix_c h.n125 x.be.c y.be.c x.al) rfl ?_
                refine sh ?_
                refine ILoop.one 100 ?_
                refine sh ?_
                refine acnd_f (by decide) ?_
                refine sh ?_
                refine aelt_map (by simp; omega) (gbe hLk) ?_
                refine sh ?_
                refine eget_map (gal hx) ?_
                refine sh ?_
                refine eget_map (gal hy) ?_
                refine sh ?_
                refine eget_map (gal hx) ?_
                refine sh ?_
                refine ICall.pure h.n125.o125.hb (rmix_c h.n125 x.al y.al x.al) rfl ?_
                refine sh ?_
                refine aelt_map (by simp; omega) (gal hLk) ?_
                refine sh ?_
                refine nX ((k + 1, M ++ [mixPx x y])) ?_ ?_ ⟨_, hp, rfl⟩ ?_ ?_
                · refine ⟨by omega, by rw [hS, ← take_succ_get (zip_get hx hy)]⟩
                · omega
                · all_goals repeat' (first | exact True.intro | refine And.intro ?_ ?_ | (intro _u; clear _u) | (with_reducible first | refine eM ?_ ?_ | refine eF ?_ ?_ ?_ | refine eN ?_ | refine eL ?_ ?_ ?_ | refine eA ?_ ?_ | refine IWk.mk ⟨_, hp, rfl⟩ ?_ ?_) | refine IWk.mk ⟨_, hp, rfl⟩ ?_ ?_)
                  all_goals first | with_reducible rfl | omega | exact Or.inl (by decide) | (simp; done) | rfl | skip
                · all_goals repeat' (first | exact True.intro | refine And.intro ?_ ?_ | (intro _u; clear _u) | (with_reducible first | refine eM ?_ ?_ | refine eF ?_ ?_ ?_ | refine eN ?_ | refine eL ?_ ?_ ?_ | refine eA ?_ ?_ | refine IWk.mk ⟨_, hp, rfl⟩ ?_ ?_) | refine IWk.mk ⟨_, hp, rfl⟩ ?_ ?_)
                  all_goals first | with_reducible rfl | omega | exact Or.inl (by decide) | (simp; done) | rfl | skip
                  all_goals first | exact .inr (NmL_set (by simp) (by simp)) | skip
                  all_goals
                    dsimp only
                    rw [hnext, List.map_set]
                  · rw [hp1]; have e5 := congrArg (slcK .i64) (set_same (gla hLk)); exact e5
                  · rw [hp1]; have e5 := congrArg (slcK .i64) (set_same (gas hLk)); exact e5
                  · rw [hp1]; have e5 := congrArg slc3 (set_same (gno hLk)); exact e5
                  · rw [hp1]; have e5 := congrArg (slcK .i64) (set_same (gde hLk)); exact e5
                  · rw [← slcK_set]; rfl
                  · rw [← slc3_set]; rfl
            · have hk : k = m := by omega
              subst hk
              rw [List.take_of_length_le (by simp; omega)] at hS
              subst hS
              subst hq
              refine sh ?_
              refine rT ?_
              all_goals repeat' (first | exact True.intro | refine And.intro ?_ ?_ | (intro _u; clear _u) | (with_reducible first | refine eM ?_ ?_ | refine eF ?_ ?_ ?_ | refine eN ?_ | refine eL ?_ ?_ ?_ | refine eA ?_ ?_ | refine IWk.mk ⟨_, hp, rfl⟩ ?_ ?_) | refine IWk.mk ⟨_, hp, rfl⟩ ?_ ?_)
              all_goals first | with_reducible rfl | omega | exact Or.inl (by decide) | (simp; done) | rfl | skip
              all_goals (simp; omega)
      · refine sh ?_
        refine acnd_t (by simpa using hb) ?_
        rw [over4, if_neg (by simpa using ha), if_pos (by simpa using hb)] at hq
        subst hq
        refine sh ?_
        exact rT
    · refine sh ?_
      refine acnd_t (by simpa using ha) ?_
      rw [over4, if_pos (by simpa using ha)] at hq
      subst hq
      refine sh ?_
      exact rT

set_option maxHeartbeats 1000000 in
theorem rcrop_c {R : Env} (h : N114 R) (i : Im) (x y w hh : Int) (fi : i.Few) : R.Pc 114 [.agg i.row, .int .i64 x, .int .i64 y, .int .i64 w, .int .i64 hh] (.tup [.agg (crop4 i x y w hh).1.row, .int .i64 (crop4 i x y w hh).2]) :=
  h.o114.enter 200 rfl fun X bb hfit hp => by
    generalize hq : crop4 i x y w hh = q
    refine sh ?_
    refine ICall.pure h.n140.o140.hb (rcheck38_c h.n140 i fi) rfl ?_
    by_cases hi : ichk i = 0
    · refine sh ?_
      refine acnd_f (by simpa using hi) ?_
      have ok := ichk_ok.1 hi
      refine sh ?_
      refine ICall.pure h.n141.o141.hb (rwithin_c h.n141 i x y w hh ok) rfl ?_
      cases hw : within i x y w hh with
      | false =>
        rw [crop4, if_neg (by simpa using hi), if_pos hw] at hq
        subst hq
        refine sh ?_
        exact rT
      | true =>
        rw [crop4, if_neg (by simpa using hi), if_neg (by simp [hw])] at hq
        obtain ⟨w1, w2, w3, w4, w5, w6, w7, w8⟩ := within_iff.1 hw
        obtain ⟨ei, gi⟩ := ok.good
        generalize i.pxs = l at *
        generalize i.w = W at *
        generalize i.h = H at *
        subst ei
        have l1 := gi.few
        have l2 := gi.len
        have g1 := gi.hw
        have g2 := gi.hh
        clear gi hfit hi hw fi ok
        obtain ⟨x, rfl⟩ := Int.eq_ofNat_of_zero_le w1
        obtain ⟨y, rfl⟩ := Int.eq_ofNat_of_zero_le w2
        obtain ⟨w, rfl⟩ := Int.eq_ofNat_of_zero_le (show 0 ≤ w by omega)
        obtain ⟨hh, rfl⟩ := Int.eq_ofNat_of_zero_le (show 0 ≤ hh by omega)
        obtain ⟨W, rfl⟩ := Int.eq_ofNat_of_zero_le (show 0 ≤ W by omega)
        obtain ⟨H, rfl⟩ := Int.eq_ofNat_of_zero_le (show 0 ≤ H by omega)
        simp only [Int.toNat_natCast] at hq
        have hl : l.length = W * H := by rw [← Int.natCast_mul] at l2; exact Int.ofNat.inj l2
        have hcl : (cropL W l x y w hh).length = w * hh := by simp [cropL]
        generalize hC : cropL W l x y w hh = C at *
        refine sh ?_
        refine lPa 200 (fun s : Nat × List Px => s.1 ≤ hh ∧ s.2 = C.take (s.1 * w)) (fun s => ⟨[(1, .int .i64 x), (2, .int .i64 y), (3, .int .i64 w), (4, .int .i64 hh), (5, .loc 0 1 0 0), (10, .loc 1 1 0 0), (13, .loc 2 1 0 0), (14, .int .i64 (y + s.1))], [(8, .arr (R.ty 10) 1 (slcK .i64 (s.2.map Px.la))), (7, .arr (R.ty 10) 1 (slcK .i64 (s.2.map Px.as))), (6, .arr (R.ty 13) 3 (slc3 (s.2.map Px.no))), (5, .arr (R.ty 10) 1 (slcK .i64 (s.2.map Px.de))), (4, .arr (R.ty 10) 1 (slcK .i64 (s.2.map Px.al))), (3, .arr (R.ty 13) 3 (slc3 (s.2.map Px.be))), (2, .var (R.ty 16) [.int .i64 w, .int .i64 hh, .osl 3 s.2.length, .osl 4 s.2.length, .osl 5 s.2.length, .osl 6 s.2.length, .osl 7 s.2.length, .osl 8 s.2.length]), (1, .var (R.ty 16) [.int .i64 0, .int .i64 0, .nils, .nils, .nils, .nils, .nils, .nils]), (0, .var (R.ty 16) (pxr W H l))], 9⟩) (fun s => hh - s.1) ((0, [])) ?_ ?_
        · exact ⟨Nat.zero_le _, by simp⟩
        · rintro ⟨r, M⟩ ⟨h2, hS⟩
          dsimp only at h2 hS ⊢
          refine sh ?_
          refine cS (fun h3 => ?_) (fun h3 => ?_)
          · refine sh ?_
            refine lPa 200 (fun s : Nat × List Px => s.1 ≤ w ∧ s.2 = C.take (r * w + s.1)) (fun s => ⟨[(1, .int .i64 x), (2, .int .i64 y), (3, .int .i64 w), (4, .int .i64 hh), (5, .loc 0 1 0 0), (10, .loc 1 1 0 0), (13, .loc 2 1 0 0), (14, .int .i64 (y + r)), (15, .int .i64 (x + s.1))], [(8, .arr (R.ty 10) 1 (slcK .i64 (s.2.map Px.la))), (7, .arr (R.ty 10) 1 (slcK .i64 (s.2.map Px.as))), (6, .arr (R.ty 13) 3 (slc3 (s.2.map Px.no))), (5, .arr (R.ty 10) 1 (slcK .i64 (s.2.map Px.de))), (4, .arr (R.ty 10) 1 (slcK .i64 (s.2.map Px.al))), (3, .arr (R.ty 13) 3 (slc3 (s.2.map Px.be))), (2, .var (R.ty 16) [.int .i64 w, .int .i64 hh, .osl 3 s.2.length, .osl 4 s.2.length, .osl 5 s.2.length, .osl 6 s.2.length, .osl 7 s.2.length, .osl 8 s.2.length]), (1, .var (R.ty 16) [.int .i64 0, .int .i64 0, .nils, .nils, .nils, .nils, .nils, .nils]), (0, .var (R.ty 16) (pxr W H l))], 9⟩) (fun s => w - s.1) ((0, M)) ?_ ?_
            · exact ⟨Nat.zero_le _, hS⟩
            · clear hS M
              rintro ⟨c, M⟩ ⟨h4, hS⟩
              dsimp only at h4 hS ⊢
              refine sh ?_
              refine cS (fun h5 => ?_) (fun h5 => ?_)
              · have hpos := row_lt (r := y + r) (c := x + c) (W := W) (H := H) (by omega) (by omega)
                have hk := row_lt (r := r) (c := c) (W := w) (H := hh) (by omega) (by omega)
                have e1 : ((y : Int) + (r : Int)) * W = (((y + r) * W : Nat) : Int) := by rw [Int.natCast_mul, Int.natCast_add]
                obtain ⟨d1, d2⟩ := div_at (W := w) (r := r) (c := c) (by omega)
                obtain ⟨v, hv⟩ : ∃ v, l[(y + r) * W + (x + c)]? = some v := ⟨_, List.getElem?_eq_getElem (by omega)⟩
                have hc : C[r * w + c]? = some v := by
                  rw [← hC, cropL, List.getElem?_map, List.getElem?_range (by rw [← hcl, ← hC] at hk; simpa [cropL] using hk)]
                  simp only [Option.map_some, d1, d2]
                  rw [show (y + r) * W + x + c = (y + r) * W + (x + c) by omega, List.getD_eq_getElem?_getD, hv]; rfl
                generalize hA : (y + r) * W = A at *
                have hMl : M.length = r * w + c := by rw [hS]; simp; omega
                have hwh4 : w * hh ≤ 64 * 64 := Nat.mul_le_mul (by omega) (by omega)
                generalize hB : r * w = B at *
                refine sh ?_
                refine cM false [3, 4, 5, 6, 7, 8] (add_c h.n142 w hh W H M l (A + (x + c)) M.length hv rfl (by omega)) ?_
                repeat ((intro _u; clear _u); first | refine eK ?_ | refine eP ?_)
                refine sh ?_
                refine nX ((c + 1, M ++ [v])) ?_ ?_ ⟨_, hp, rfl⟩ ?_ ?_
                · refine ⟨by omega, by rw [hS, ← take_succ_get hc]; rfl⟩
                · omega
                · all_goals repeat' (first | exact True.intro | refine And.intro ?_ ?_ | (intro _u; clear _u) | (with_reducible first | refine eM ?_ ?_ | refine eF ?_ ?_ ?_ | refine eN ?_ | refine eL ?_ ?_ ?_ | refine eA ?_ ?_ | refine IWk.mk ⟨_, hp, rfl⟩ ?_ ?_) | refine IWk.mk ⟨_, hp, rfl⟩ ?_ ?_)
                  all_goals first | with_reducible rfl | omega | exact Or.inl (by decide) | (simp; done) | rfl | skip
                · all_goals repeat' (first | exact True.intro | refine And.intro ?_ ?_ | (intro _u; clear _u) | (with_reducible first | refine eM ?_ ?_ | refine eF ?_ ?_ ?_ | refine eN ?_ | refine eL ?_ ?_ ?_ | refine eA ?_ ?_ | refine IWk.mk ⟨_, hp, rfl⟩ ?_ ?_) | refine IWk.mk ⟨_, hp, rfl⟩ ?_ ?_)
                  all_goals first | with_reducible rfl | omega | exact Or.inl (by decide) | (simp; done) | rfl | skip
                  all_goals (simp; omega)
              · have hcw : c = w := by omega
                refine sh ?_
                refine nX ((r + 1, M)) ?_ ?_ ⟨_, hp, rfl⟩ ?_ ?_
                · refine ⟨by omega, by rw [hS, hcw, Nat.add_mul, Nat.one_mul]⟩
                · omega
                · all_goals repeat' (first | exact True.intro | refine And.intro ?_ ?_ | (intro _u; clear _u) | (with_reducible first | refine eM ?_ ?_ | refine eF ?_ ?_ ?_ | refine eN ?_ | refine eL ?_ ?_ ?_ | refine eA ?_ ?_ | refine IWk.mk ⟨_, hp, rfl⟩ ?_ ?_) | refine IWk.mk ⟨_, hp, rfl⟩ ?_ ?_)
                  all_goals first | with_reducible rfl | omega | exact Or.inl (by decide) | (simp; done) | rfl | skip
                · all_goals repeat' (first | exact True.intro | refine And.intro ?_ ?_ | (intro _u; clear _u) | (with_reducible first | refine eM ?_ ?_ | refine eF ?_ ?_ ?_ | refine eN ?_ | refine eL ?_ ?_ ?_ | refine eA ?_ ?_ | refine IWk.mk ⟨_, hp, rfl⟩ ?_ ?_) | refine IWk.mk ⟨_, hp, rfl⟩ ?_ ?_)
                  all_goals first | with_reducible rfl | omega | exact Or.inl (by decide) | (simp; done) | rfl | skip
                  all_goals omega
          · have hk : r = hh := by omega
            subst hk
            rw [List.take_of_length_le (by rw [hcl, Nat.mul_comm]; exact Nat.le_refl _)] at hS
            subst hS
            subst hq
            refine sh ?_
            refine rT ?_
            all_goals repeat' (first | exact True.intro | refine And.intro ?_ ?_ | (intro _u; clear _u) | (with_reducible first | refine eM ?_ ?_ | refine eF ?_ ?_ ?_ | refine eN ?_ | refine eL ?_ ?_ ?_ | refine eA ?_ ?_ | refine IWk.mk ⟨_, hp, rfl⟩ ?_ ?_) | refine IWk.mk ⟨_, hp, rfl⟩ ?_ ?_)
            all_goals first | with_reducible rfl | omega | exact Or.inl (by decide) | (simp; done) | rfl | skip
            all_goals (simp)
    · refine sh ?_
      refine acnd_t (by simpa using hi) ?_
      rw [crop4, if_pos (by simpa using hi)] at hq
      subst hq
      refine sh ?_
      exact rT
end Go.UM

/- The document's images put on one another, and its parts, part 3; all upon one another. -/

namespace Go.UM
open Go.AM
set_option maxRecDepth 4000


set_option maxHeartbeats 1000000 in
theorem rput_c {R : Env} (h : N116 R) (i p : Im) (x y : Int) (fi : i.Few) (fp : p.Few) : R.Pc 116 [.agg i.row, .agg p.row, .int .i64 x, .int .i64 y] (.tup [.agg (put4 i p x y).1.row, .int .i64 (put4 i p x y).2]) :=
  h.o116.enter 200 rfl fun X bb hfit hp => by
    generalize hq : put4 i p x y = q
    refine sh ?_
    refine ICall.pure h.n140.o140.hb (rcheck38_c h.n140 i fi) rfl ?_
    by_cases hi : ichk i = 0
    · refine sh ?_
      refine acnd_f (by simpa using hi) ?_
      refine sh ?_
      refine ICall.pure h.n140.o140.hb (rcheck38_c h.n140 p fp) rfl ?_
      by_cases hpp : ichk p = 0
      · refine sh ?_
        refine acnd_f (by simpa using hpp) ?_
        have ok := ichk_ok.1 hi
        refine sh ?_
        refine ICall.pure h.n141.o141.hb (rwithin_c h.n141 i x y p.w p.h ok) rfl ?_
        cases hw : within i x y p.w p.h with
        | false =>
          rw [put4, if_neg (by simpa using hi), if_neg (by simpa using hpp), if_pos hw] at hq
          subst hq
          refine sh ?_
          exact rT
        | true =>
          rw [put4, if_neg (by simpa using hi), if_neg (by simpa using hpp), if_neg (by simp [hw])] at hq
          obtain ⟨w1, w2, w3, w4, w5, w6, w7, w8⟩ := within_iff.1 hw
          obtain ⟨ei, gi⟩ := ok.good
          obtain ⟨ep, gp⟩ := (ichk_ok.1 hpp).good
          generalize i.pxs = l at *
          generalize i.w = W at *
          generalize i.h = H at *
          generalize p.pxs = lp at *
          generalize p.w = w at *
          generalize p.h = hh at *
          subst ei ep
          have l1 := gi.few
          have l2 := gi.len
          have l3 := gp.len
          have l5 := gp.few
          have g1 := gi.hw
          have g2 := gi.hh
          clear gi gp hfit hi hw ok hpp fp fi
          obtain ⟨x, rfl⟩ := Int.eq_ofNat_of_zero_le w1
          obtain ⟨y, rfl⟩ := Int.eq_ofNat_of_zero_le w2
          obtain ⟨w, rfl⟩ := Int.eq_ofNat_of_zero_le (show 0 ≤ w by omega)
          obtain ⟨hh, rfl⟩ := Int.eq_ofNat_of_zero_le (show 0 ≤ hh by omega)
          obtain ⟨W, rfl⟩ := Int.eq_ofNat_of_zero_le (show 0 ≤ W by omega)
          obtain ⟨H, rfl⟩ := Int.eq_ofNat_of_zero_le (show 0 ≤ H by omega)
          simp only [Int.toNat_natCast] at hq
          have hl : l.length = W * H := by rw [← Int.natCast_mul] at l2; exact Int.ofNat.inj l2
          have hlp : lp.length = w * hh := by rw [← Int.natCast_mul] at l3; exact Int.ofNat.inj l3
          have hcl : (putL W l lp x y w hh (w * hh)).length = W * H := by simp [putL, hl]
          generalize hC : putL W l lp x y w hh (w * hh) = C at *
          refine sh ?_
          refine lPa 200 (fun s : Nat × List Px => s.1 ≤ H ∧ s.2 = C.take (s.1 * W)) (fun s => ⟨[(2, .int .i64 x), (3, .int .i64 y), (4, .loc 0 1 0 0), (5, .loc 1 1 0 0), (8, .loc 2 1 0 0), (12, .loc 3 1 0 0), (13, .int .i64 s.1)], [(9, .arr (R.ty 10) 1 (slcK .i64 (s.2.map Px.la))), (8, .arr (R.ty 10) 1 (slcK .i64 (s.2.map Px.as))), (7, .arr (R.ty 13) 3 (slc3 (s.2.map Px.no))), (6, .arr (R.ty 10) 1 (slcK .i64 (s.2.map Px.de))), (5, .arr (R.ty 10) 1 (slcK .i64 (s.2.map Px.al))), (4, .arr (R.ty 13) 3 (slc3 (s.2.map Px.be))), (3, .var (R.ty 16) [.int .i64 W, .int .i64 H, .osl 4 s.2.length, .osl 5 s.2.length, .osl 6 s.2.length, .osl 7 s.2.length, .osl 8 s.2.length, .osl 9 s.2.length]), (2, .var (R.ty 16) [.int .i64 0, .int .i64 0, .nils, .nils, .nils, .nils, .nils, .nils]), (1, .var (R.ty 16) (pxr w hh lp)), (0, .var (R.ty 16) (pxr W H l))], 10⟩) (fun s => H - s.1) ((0, [])) ?_ ?_
          · exact ⟨Nat.zero_le _, by simp⟩
          · rintro ⟨r, M⟩ ⟨h2, hS⟩
            dsimp only at h2 hS ⊢
            refine sh ?_
            refine cS (fun h3 => ?_) (fun h3 => ?_)
            · refine sh ?_
              refine lPa 200 (fun s : Nat × List Px => s.1 ≤ W ∧ s.2 = C.take (r * W + s.1)) (fun s => ⟨[(2, .int .i64 x), (3, .int .i64 y), (4, .loc 0 1 0 0), (5, .loc 1 1 0 0), (8, .loc 2 1 0 0), (12, .loc 3 1 0 0), (13, .int .i64 r), (14, .int .i64 s.1)], [(9, .arr (R.ty 10) 1 (slcK .i64 (s.2.map Px.la))), (8, .arr (R.ty 10) 1 (slcK .i64 (s.2.map Px.as))), (7, .arr (R.ty 13) 3 (slc3 (s.2.map Px.no))), (6, .arr (R.ty 10) 1 (slcK .i64 (s.2.map Px.de))), (5, .arr (R.ty 10) 1 (slcK .i64 (s.2.map Px.al))), (4, .arr (R.ty 13) 3 (slc3 (s.2.map Px.be))), (3, .var (R.ty 16) [.int .i64 W, .int .i64 H, .osl 4 s.2.length, .osl 5 s.2.length, .osl 6 s.2.length, .osl 7 s.2.length, .osl 8 s.2.length, .osl 9 s.2.length]), (2, .var (R.ty 16) [.int .i64 0, .int .i64 0, .nils, .nils, .nils, .nils, .nils, .nils]), (1, .var (R.ty 16) (pxr w hh lp)), (0, .var (R.ty 16) (pxr W H l))], 10⟩) (fun s => W - s.1) ((0, M)) ?_ ?_
              · exact ⟨Nat.zero_le _, hS⟩
              · clear hS M
                rintro ⟨c, M⟩ ⟨h4, hS⟩
                dsimp only at h4 hS ⊢
                refine sh ?_
                refine cS (fun h5 => ?_) (fun h5 => ?_)
                · have hk := row_lt (r := r) (c := c) (W := W) (H := H) (by omega) (by omega)
                  obtain ⟨d1, d2⟩ := div_at (W := W) (r := r) (c := c) (by omega)
                  have e1 : (r : Int) * W = ((r * W : Nat) : Int) := by rw [Int.natCast_mul]
                  have hMl : M.length = r * W + c := by rw [hS]; simp; omega
                  obtain ⟨v, hv⟩ : ∃ v, l[r * W + c]? = some v := ⟨_, List.getElem?_eq_getElem (by omega)⟩
                  refine sh ?_
                  refine cS (fun h6 => ?_) (fun h6 => ?_)
                  · refine sh ?_
                    refine cS (fun h7 => ?_) (fun h7 => ?_)
                    · refine sh ?_
                      refine cS (fun h8 => ?_) (fun h8 => ?_)
                      · refine sh ?_
                        refine cS (fun h9 => ?_) (fun h9 => ?_)
                        · have hk2 := row_lt (r := r - y) (c := c - x) (W := w) (H := hh) (by omega) (by omega)
                          clear hv v
                          obtain ⟨v, hv⟩ : ∃ v, lp[(r - y) * w + (c - x)]? = some v := ⟨_, List.getElem?_eq_getElem (by omega)⟩
                          have hc : C[r * W + c]? = some v := by
                            rw [← hC, putL, List.getElem?_map, List.getElem?_range (by omega)]
                            simp only [Option.map_some, putAt, d1, d2]
                            unfold putRC
                            rw [if_pos ⟨by omega, hk2⟩, List.getD_eq_getElem?_getD, hv]; rfl
                          have e2 : ((r : Int) - (y : Int)) * w = (((r - y) * w : Nat) : Int) := by rw [Int.natCast_mul, Int.natCast_sub (by omega)]
                          generalize hB : (r - y) * w = B at *
                          generalize hB2 : r * W = B2 at *
                          refine sh ?_
                          refine cM false [4, 5, 6, 7, 8, 9] (add_c h.n142 W H w hh M lp (B + (c - x)) M.length hv rfl (by omega)) ?_
                          repeat ((intro _u; clear _u); first | refine eK ?_ | refine eP ?_)
                          refine sh ?_
                          refine nX ((c + 1, M ++ [v])) ?_ ?_ ⟨_, hp, rfl⟩ ?_ ?_
                          · refine ⟨by omega, by rw [hS, ← take_succ_get hc]; rfl⟩
                          · omega
                          · all_goals repeat' (first | exact True.intro | refine And.intro ?_ ?_ | (intro _u; clear _u) | (with_reducible first | refine eM ?_ ?_ | refine eF ?_ ?_ ?_ | refine eN ?_ | refine eL ?_ ?_ ?_ | refine eA ?_ ?_ | refine IWk.mk ⟨_, hp, rfl⟩ ?_ ?_) | refine IWk.mk ⟨_, hp, rfl⟩ ?_ ?_)
                            all_goals first | with_reducible rfl | omega | exact Or.inl (by decide) | (simp; done) | rfl | skip
                          · all_goals repeat' (first | exact True.intro | refine And.intro ?_ ?_ | (intro _u; clear _u) | (with_reducible first | refine eM ?_ ?_ | refine eF ?_ ?_ ?_ | refine eN ?_ | refine eL ?_ ?_ ?_ | refine eA ?_ ?_ | refine IWk.mk ⟨_, hp, rfl⟩ ?_ ?_) | refine IWk.mk ⟨_, hp, rfl⟩ ?_ ?_)
                            all_goals first | with_reducible rfl | omega | exact Or.inl (by decide) | (simp; done) | rfl | skip
                            all_goals (simp; omega)
                        · have hc : C[r * W + c]? = some v := by
                            rw [← hC, putL, List.getElem?_map, List.getElem?_range (by omega)]
                            simp only [Option.map_some, putAt, d1, d2]
                            unfold putRC
                            rw [if_neg (fun hh => by omega), List.getD_eq_getElem?_getD, hv]; rfl
                          generalize hB : r * W = B at *
                          refine sh ?_
                          refine cM false [4, 5, 6, 7, 8, 9] (add_c h.n142 W H W H M l (B + c) M.length hv rfl (by omega)) ?_
                          repeat ((intro _u; clear _u); first | refine eK ?_ | refine eP ?_)
                          refine sh ?_
                          refine nX ((c + 1, M ++ [v])) ?_ ?_ ⟨_, hp, rfl⟩ ?_ ?_
                          · refine ⟨by omega, by rw [hS, ← take_succ_get hc]; rfl⟩
                          · omega
                          · all_goals repeat' (first | exact True.intro | refine And.intro ?_ ?_ | (intro _u; clear _u) | (with_reducible first | refine eM ?_ ?_ | refine eF ?_ ?_ ?_ | refine eN ?_ | refine eL ?_ ?_ ?_ | refine eA ?_ ?_ | refine IWk.mk ⟨_, hp, rfl⟩ ?_ ?_) | refine IWk.mk ⟨_, hp, rfl⟩ ?_ ?_)
                            all_goals first | with_reducible rfl | omega | exact Or.inl (by decide) | (simp; done) | rfl | skip
                          · all_goals repeat' (first | exact True.intro | refine And.intro ?_ ?_ | (intro _u; clear _u) | (with_reducible first | refine eM ?_ ?_ | refine eF ?_ ?_ ?_ | refine eN ?_ | refine eL ?_ ?_ ?_ | refine eA ?_ ?_ | refine IWk.mk ⟨_, hp, rfl⟩ ?_ ?_) | refine IWk.mk ⟨_, hp, rfl⟩ ?_ ?_)
                            all_goals first | with_reducible rfl | omega | exact Or.inl (by decide) | (simp; done) | rfl | skip
                            all_goals (simp; omega)
                      · have hc : C[r * W + c]? = some v := by
                          rw [← hC, putL, List.getElem?_map, List.getElem?_range (by omega)]
                          simp only [Option.map_some, putAt, d1, d2]
                          unfold putRC
                          rw [if_neg (fun hh => by omega), List.getD_eq_getElem?_getD, hv]; rfl
                        generalize hB : r * W = B at *
                        refine sh ?_
                        refine cM false [4, 5, 6, 7, 8, 9] (add_c h.n142 W H W H M l (B + c) M.length hv rfl (by omega)) ?_
                        repeat ((intro _u; clear _u); first | refine eK ?_ | refine eP ?_)
                        refine sh ?_
                        refine nX ((c + 1, M ++ [v])) ?_ ?_ ⟨_, hp, rfl⟩ ?_ ?_
                        · refine ⟨by omega, by rw [hS, ← take_succ_get hc]; rfl⟩
                        · omega
                        · all_goals repeat' (first | exact True.intro | refine And.intro ?_ ?_ | (intro _u; clear _u) | (with_reducible first | refine eM ?_ ?_ | refine eF ?_ ?_ ?_ | refine eN ?_ | refine eL ?_ ?_ ?_ | refine eA ?_ ?_ | refine IWk.mk ⟨_, hp, rfl⟩ ?_ ?_) | refine IWk.mk ⟨_, hp, rfl⟩ ?_ ?_)
                          all_goals first | with_reducible rfl | omega | exact Or.inl (by decide) | (simp; done) | rfl | skip
                        · all_goals repeat' (first | exact True.intro | refine And.intro ?_ ?_ | (intro _u; clear _u) | (with_reducible first | refine eM ?_ ?_ | refine eF ?_ ?_ ?_ | refine eN ?_ | refine eL ?_ ?_ ?_ | refine eA ?_ ?_ | refine IWk.mk ⟨_, hp, rfl⟩ ?_ ?_) | refine IWk.mk ⟨_, hp, rfl⟩ ?_ ?_)
                          all_goals first | with_reducible rfl | omega | exact Or.inl (by decide) | (simp; done) | rfl | skip
                          all_goals (simp; omega)
                    · have hc : C[r * W + c]? = some v := by
                        rw [← hC, putL, List.getElem?_map, List.getElem?_range (by omega)]
                        simp only [Option.map_some, putAt, d1, d2]
                        unfold putRC
                        rw [if_neg (fun hh => by omega), List.getD_eq_getElem?_getD, hv]; rfl
                      generalize hB : r * W = B at *
                      refine sh ?_
                      refine cM false [4, 5, 6, 7, 8, 9] (add_c h.n142 W H W H M l (B + c) M.length hv rfl (by omega)) ?_
                      repeat ((intro _u; clear _u); first | refine eK ?_ | refine eP ?_)
                      refine sh ?_
                      refine nX ((c + 1, M ++ [v])) ?_ ?_ ⟨_, hp, rfl⟩ ?_ ?_
                      · refine ⟨by omega, by rw [hS, ← take_succ_get hc]; rfl⟩
                      · omega
                      · all_goals repeat' (first | exact True.intro | refine And.intro ?_ ?_ | (intro _u; clear _u) | (with_reducible first | refine eM ?_ ?_ | refine eF ?_ ?_ ?_ | refine eN ?_ | refine eL ?_ ?_ ?_ | refine eA ?_ ?_ | refine IWk.mk ⟨_, hp, rfl⟩ ?_ ?_) | refine IWk.mk ⟨_, hp, rfl⟩ ?_ ?_)
                        all_goals first | with_reducible rfl | omega | exact Or.inl (by decide) | (simp; done) | rfl | skip
                      · all_goals repeat' (first | exact True.intro | refine And.intro ?_ ?_ | (intro _u; clear _u) | (with_reducible first | refine eM ?_ ?_ | refine eF ?_ ?_ ?_ | refine eN ?_ | refine eL ?_ ?_ ?_ | refine eA ?_ ?_ | refine IWk.mk ⟨_, hp, rfl⟩ ?_ ?_) | refine IWk.mk ⟨_, hp, rfl⟩ ?_ ?_)
                        all_goals first | with_reducible rfl | omega | exact Or.inl (by decide) | (simp; done) | rfl | skip
                        all_goals (simp; omega)
                  · have hc : C[r * W + c]? = some v := by
                      rw [← hC, putL, List.getElem?_map, List.getElem?_range (by omega)]
                      simp only [Option.map_some, putAt, d1, d2]
                      unfold putRC
                      rw [if_neg (fun hh => by omega), List.getD_eq_getElem?_getD, hv]; rfl
                    generalize hB : r * W = B at *
                    refine sh ?_
                    refine cM false [4, 5, 6, 7, 8, 9] (add_c h.n142 W H W H M l (B + c) M.length hv rfl (by omega)) ?_
                    repeat ((intro _u; clear _u); first | refine eK ?_ | refine eP ?_)
                    refine sh ?_
                    refine nX ((c + 1, M ++ [v])) ?_ ?_ ⟨_, hp, rfl⟩ ?_ ?_
                    · refine ⟨by omega, by rw [hS, ← take_succ_get hc]; rfl⟩
                    · omega
                    · all_goals repeat' (first | exact True.intro | refine And.intro ?_ ?_ | (intro _u; clear _u) | (with_reducible first | refine eM ?_ ?_ | refine eF ?_ ?_ ?_ | refine eN ?_ | refine eL ?_ ?_ ?_ | refine eA ?_ ?_ | refine IWk.mk ⟨_, hp, rfl⟩ ?_ ?_) | refine IWk.mk ⟨_, hp, rfl⟩ ?_ ?_)
                      all_goals first | with_reducible rfl | omega | exact Or.inl (by decide) | (simp; done) | rfl | skip
                    · all_goals repeat' (first | exact True.intro | refine And.intro ?_ ?_ | (intro _u; clear _u) | (with_reducible first | refine eM ?_ ?_ | refine eF ?_ ?_ ?_ | refine eN ?_ | refine eL ?_ ?_ ?_ | refine eA ?_ ?_ | refine IWk.mk ⟨_, hp, rfl⟩ ?_ ?_) | refine IWk.mk ⟨_, hp, rfl⟩ ?_ ?_)
                      all_goals first | with_reducible rfl | omega | exact Or.inl (by decide) | (simp; done) | rfl | skip
                      all_goals (simp; omega)
                · have hcw : c = W := by omega
                  refine sh ?_
                  refine nXa ((r + 1, M)) ?_ ?_
                  · refine ⟨by omega, by rw [hS, hcw, Nat.add_mul, Nat.one_mul]⟩
                  · omega
            · have hk : r = H := by omega
              subst hk
              rw [List.take_of_length_le (by rw [hcl, Nat.mul_comm]; exact Nat.le_refl _)] at hS
              subst hS
              subst hq
              refine sh ?_
              refine rT ?_
              all_goals repeat' (first | exact True.intro | refine And.intro ?_ ?_ | (intro _u; clear _u) | (with_reducible first | refine eM ?_ ?_ | refine eF ?_ ?_ ?_ | refine eN ?_ | refine eL ?_ ?_ ?_ | refine eA ?_ ?_ | refine IWk.mk ⟨_, hp, rfl⟩ ?_ ?_) | refine IWk.mk ⟨_, hp, rfl⟩ ?_ ?_)
              all_goals first | with_reducible rfl | omega | exact Or.inl (by decide) | (simp; done) | rfl | skip
              all_goals (simp)
      · refine sh ?_
        refine acnd_t (by simpa using hpp) ?_
        rw [put4, if_neg (by simpa using hi), if_pos (by simpa using hpp)] at hq
        subst hq
        refine sh ?_
        exact rT
    · refine sh ?_
      refine acnd_t (by simpa using hi) ?_
      rw [put4, if_pos (by simpa using hi)] at hq
      subst hq
      refine sh ?_
      exact rT

set_option maxHeartbeats 1000000 in
theorem rclear_c {R : Env} (h : N130 R) (w hh : Int) : R.Pc 130 [.int .i64 w, .int .i64 hh] (.tup [.agg (clear4 w hh).1.row, .int .i64 (clear4 w hh).2]) :=
  h.o130.enter 200 rfl fun X bb hfit hp => by
    generalize hq : clear4 w hh = q
    by_cases h1 : (1 ≤ w ∧ w ≤ 64) ∧ (1 ≤ hh ∧ hh ≤ 64)
    · rw [clear4, if_pos h1, zeros_px] at hq
      have hm := Int.mul_le_mul h1.1.2 h1.2.2 (by omega) (by omega)
      have hm0 := Int.mul_nonneg (show 0 ≤ w by omega) (show 0 ≤ hh by omega)
      obtain ⟨m, hmm⟩ := Int.eq_ofNat_of_zero_le hm0
      rw [hmm] at hq hm
      simp only [Int.toNat_natCast] at hq
      refine sh ?_
      refine acnd_f (by (simp; omega)) ?_
      refine sh ?_
      refine acnd_f (by (simp; omega)) ?_
      refine sh ?_
      refine acnd_f (by (simp; omega)) ?_
      refine sh ?_
      refine acnd_f (by (simp; omega)) ?_
      refine sh ?_
      refine lPa 200 (fun k : Nat => k ≤ m) (fun k => ⟨[(0, .int .i64 w), (1, .int .i64 hh), (4, .loc 0 1 0 0), (6, .loc 1 1 0 0), (7, .int .i64 k)], [(7, .arr (R.ty 10) 1 (slcK .i64 ((List.replicate k zPx).map Px.la))), (6, .arr (R.ty 10) 1 (slcK .i64 ((List.replicate k zPx).map Px.as))), (5, .arr (R.ty 13) 3 (slc3 ((List.replicate k zPx).map Px.no))), (4, .arr (R.ty 10) 1 (slcK .i64 ((List.replicate k zPx).map Px.de))), (3, .arr (R.ty 10) 1 (slcK .i64 ((List.replicate k zPx).map Px.al))), (2, .arr (R.ty 13) 3 (slc3 ((List.replicate k zPx).map Px.be))), (1, .var (R.ty 16) [.int .i64 w, .int .i64 hh, .osl 2 k, .osl 3 k, .osl 4 k, .osl 5 k, .osl 6 k, .osl 7 k]), (0, .var (R.ty 16) [.int .i64 0, .int .i64 0, .nils, .nils, .nils, .nils, .nils, .nils])], 8⟩) (fun k => m - k) (0) ?_ ?_
      · exact Nat.zero_le _
      · intro k hk
        dsimp only
        refine sh ?_
        refine cS (fun h2 => ?_) (fun h2 => ?_)
        · refine sh ?_
          refine nX (k + 1) ?_ ?_ ⟨_, hp, rfl⟩ ?_ ?_
          · omega
          · omega
          · all_goals repeat' (first | exact True.intro | refine And.intro ?_ ?_ | (intro _u; clear _u) | (with_reducible first | refine eM ?_ ?_ | refine eF ?_ ?_ ?_ | refine eN ?_ | refine eL ?_ ?_ ?_ | refine eA ?_ ?_ | refine IWk.mk ⟨_, hp, rfl⟩ ?_ ?_) | refine IWk.mk ⟨_, hp, rfl⟩ ?_ ?_)
            all_goals first | with_reducible rfl | omega | exact Or.inl (by decide) | (simp; done) | rfl | skip
            all_goals skip
          · all_goals repeat' (first | exact True.intro | refine And.intro ?_ ?_ | (intro _u; clear _u) | (with_reducible first | refine eM ?_ ?_ | refine eF ?_ ?_ ?_ | refine eN ?_ | refine eL ?_ ?_ ?_ | refine eA ?_ ?_ | refine IWk.mk ⟨_, hp, rfl⟩ ?_ ?_) | refine IWk.mk ⟨_, hp, rfl⟩ ?_ ?_)
            all_goals first | with_reducible rfl | omega | exact Or.inl (by decide) | (simp; done) | rfl | skip
            all_goals (rw [List.replicate_succ', List.map_append]; simp [slc3, slcK, t3, zPx, z3])
        · have hkm : k = m := by omega
          subst hkm
          subst hq
          refine sh ?_
          refine rT ?_
          all_goals repeat' (first | exact True.intro | refine And.intro ?_ ?_ | (intro _u; clear _u) | (with_reducible first | refine eM ?_ ?_ | refine eF ?_ ?_ ?_ | refine eN ?_ | refine eL ?_ ?_ ?_ | refine eA ?_ ?_ | refine IWk.mk ⟨_, hp, rfl⟩ ?_ ?_) | refine IWk.mk ⟨_, hp, rfl⟩ ?_ ?_)
          all_goals first | with_reducible rfl | omega | exact Or.inl (by decide) | (simp; done) | rfl | skip
          all_goals skip
    · rw [clear4, if_neg h1] at hq
      subst hq
      refine sh ?_
      refine cS (fun a1 => ?_) (fun a1 => ?_)
      · refine sh ?_
        exact rT
      · refine sh ?_
        refine cS (fun a2 => ?_) (fun a2 => ?_)
        · refine sh ?_
          exact rT
        · refine sh ?_
          refine cS (fun a3 => ?_) (fun a3 => ?_)
          · refine sh ?_
            exact rT
          · refine sh ?_
            refine acnd_t (by (simp; omega)) ?_
            refine sh ?_
            exact rT
end Go.UM

/- All images upon one another; how far two part, by the document. -/

namespace Go.UM
open Go.AM
set_option maxRecDepth 4000

instance {l : List Im} {k : Nat} : TkOf ((slI l).drop k) (slI (l.drop k)) := ⟨by simp [slI, List.map_drop]⟩
theorem few_zIm : zIm.Few := ⟨by simp [zIm], by simp [zIm], by simp [zIm], by simp [zIm], by simp [zIm], by simp [zIm]⟩
theorem few_over (a b : Im) (ha : a.Few) : (over4 a b).1.Few := by
  unfold over4
  split
  · exact few_zIm
  · split
    · exact few_zIm
    · split
      · exact few_zIm
      · refine few_px ?_
        have := ha.al
        simp [Im.pxs]; omega
theorem few_stack : ∀ l : List Im, (∀ i ∈ l, i.Few) → (stack4 l).1.Few
  | [], _ => few_zIm
  | [a], h => by
    unfold stack4
    split
    · exact few_zIm
    · exact h a (by simp)
  | a :: b :: r, h => by
    unfold stack4
    split
    · exact few_zIm
    · exact few_over _ _ (h a (by simp))
theorem over_bad {a b : Im} (h : (over4 a b).2 ≠ 0) : over4 a b = (zIm, (over4 a b).2) := by
  unfold over4 at h ⊢
  split
  · rfl
  · split
    · rfl
    · split
      · rfl
      · rename_i h1 h2 h3
        rw [if_neg h1, if_neg h2, if_neg h3] at h
        exact (h rfl).elim
theorem stack_bad {l : List Im} : ∀ {p : List Im}, l ≠ [] → (stack4 l).2 ≠ 0 → stack4 (p ++ l) = (zIm, (stack4 l).2)
  | [], hl, h => by
    match l, hl with
    | [a], _ =>
      simp only [List.nil_append, stack4] at h ⊢
      split
      · rfl
      · rename_i h1; rw [if_neg h1] at h; exact (h rfl).elim
    | a :: b :: r, _ =>
      simp only [List.nil_append] at h ⊢
      unfold stack4 at h ⊢
      split
      · rfl
      · rename_i h1
        rw [if_neg h1] at h
        exact over_bad h
  | a :: p, hl, h => by
    have ih := stack_bad (p := p) hl h
    match hq : p ++ l with
    | [] => simp at hq; exact (hl hq.2).elim
    | b :: r =>
      rw [hq] at ih
      have e : stack4 (a :: b :: r) = if (stack4 (b :: r)).2 ≠ 0 then (zIm, (stack4 (b :: r)).2) else over4 a (stack4 (b :: r)).1 := rfl
      rw [List.cons_append, hq, e, ih, if_pos h]

theorem stack_c {R : Env} (h : N127 R) : ∀ (l : List Im), (∀ i ∈ l, i.Few) → l.length ≤ 1000 → R.Pc 127 [.isl 8 (slI l)] (.tup [.agg (stack4 l).1.row, .int .i64 (stack4 l).2])
  | [], _, _ =>
    h.o127.enter 100 rfl fun X bb hfit hp => by
      refine sh ?_
      refine acnd_t (by simp) ?_
      refine sh ?_
      exact rT
  | [a], hf, _ =>
    h.o127.enter 100 rfl fun X bb hfit hp => by
      generalize hq : stack4 [a] = q
      have fa := hf a (by simp)
      refine sh ?_
      refine acnd_f (by simp) ?_
      refine sh ?_
      refine acnd_t (by simp) ?_
      refine sh ?_
      refine eget_map (show ([a] : List Im)[0]? = some a from rfl) ?_
      have c1 := check38_c h.n136 [a] (by intro j hj; simp at hj; subst hj; exact fa) (by simp)
      rw [chkl1] at c1
      refine sh ?_
      refine ICall.lend rfl h.n136.o136.hb c1 ?_ rfl ?_
      · all_goals repeat' (first | exact True.intro | refine And.intro ?_ ?_ | (intro _u; clear _u) | (with_reducible first | refine eM ?_ ?_ | refine eF ?_ ?_ ?_ | refine eN ?_ | refine eL ?_ ?_ ?_ | refine eA ?_ ?_ | refine IWk.mk ⟨_, hp, rfl⟩ ?_ ?_) | refine IWk.mk ⟨_, hp, rfl⟩ ?_ ?_)
        all_goals first | with_reducible rfl | omega | exact Or.inl (by decide) | (simp; done) | rfl | skip
      unfold stack4 at hq
      by_cases ha : ichk a = 0
      · rw [if_neg (by simpa using ha)] at hq ⊢
        subst hq
        refine sh ?_
        refine acnd_f (by rfl) ?_
        refine sh ?_
        refine eget_map (show ([a] : List Im)[0]? = some a from rfl) ?_
        refine sh ?_
        refine cM false [] (copied_c h.n143 a fa) ?_
        repeat ((intro _u; clear _u); first | refine eK ?_ | refine eP ?_)
        refine sh ?_
        exact rT
      · rw [if_pos (by simpa using ha)] at hq ⊢
        subst hq
        refine sh ?_
        refine acnd_t (by simpa using ha) ?_
        refine sh ?_
        exact rT
  | a :: b :: r, hf, hl =>
    have ih := stack_c h (b :: r) (fun i hi => hf i (List.mem_cons_of_mem _ hi)) (by simp at hl ⊢; omega)
    h.o127.enter 100 rfl fun X bb hfit hp => by
      generalize hq : stack4 (a :: b :: r) = q
      have fa := hf a (by simp)
      have fr := few_stack (b :: r) (fun i hi => hf i (List.mem_cons_of_mem _ hi))
      refine sh ?_
      refine acnd_f (by (simp; omega)) ?_
      refine sh ?_
      refine acnd_f (by (simp; omega)) ?_
      refine sh ?_
      refine aSb ?_
      refine sh ?_
      refine ICall.pure h.o127.hb ih rfl ?_
      unfold stack4 at hq
      by_cases he : (stack4 (b :: r)).2 = 0
      · rw [if_neg (by simpa using he)] at hq
        refine sh ?_
        refine acnd_f (by simpa using he) ?_
        refine sh ?_
        refine eget_map (show (a :: b :: r : List Im)[0]? = some a from rfl) ?_
        refine sh ?_
        refine ICall.pure h.n119.o119.hb (over_c h.n119 a (stack4 (b :: r)).1 fa fr) rfl ?_
        subst hq
        refine sh ?_
        exact rT
      · rw [if_pos (by simpa using he)] at hq
        subst hq
        refine sh ?_
        refine acnd_t (by simpa using he) ?_
        refine sh ?_
        exact rT

theorem rstack_c {R : Env} (h : N128 R) (l : List Im) (hf : ∀ i ∈ l, i.Few) (hl : l.length ≤ 1000) : R.Pc 128 [.isl 8 (slI l)] (.tup [.agg (stack4 l).1.row, .int .i64 (stack4 l).2]) :=
  h.o128.enter 100 rfl fun X bb hfit hp => by
    generalize hq : stack4 l = q
    by_cases h0 : l = []
    · subst h0
      subst hq
      refine sh ?_
      refine acnd_t (by simp) ?_
      refine sh ?_
      exact rT
    · have hpos : 1 ≤ l.length := Nat.one_le_iff_ne_zero.2 fun e => h0 (List.eq_nil_of_length_eq_zero e)
      refine sh ?_
      refine acnd_f (by (simp; omega)) ?_
      obtain ⟨n, hn⟩ : ∃ n, l.length = n + 1 := ⟨l.length - 1, by omega⟩
      obtain ⟨z, hz⟩ : ∃ z, l[n]? = some z := ⟨_, List.getElem?_eq_getElem (by omega)⟩
      have fz := hf z (List.mem_of_getElem? hz)
      have hlast : l.drop n = [z] := by
        obtain ⟨h1, h2⟩ := List.getElem?_eq_some_iff.1 hz
        rw [List.drop_eq_getElem_cons h1, h2, List.drop_of_length_le (by omega)]
      refine sh ?_
      refine eget_map (i := _) (x := z) (by rw [hn, show (((n + 1 : Nat) : Int) - 1).toNat = n by omega]; exact hz) ?_
      refine sh ?_
      refine ICall.pure h.n140.o140.hb (rcheck38_c h.n140 z fz) rfl ?_
      have hone : stack4 [z] = if ichk z ≠ 0 then (zIm, ichk z) else (z, 0) := rfl
      by_cases hzc : ichk z = 0
      · refine sh ?_
        refine acnd_f (by simpa using hzc) ?_
        rw [if_neg (by simpa using hzc)] at hone
        refine sh ?_
        refine lPa 100 (fun s : Nat × Im => s.1 ≤ n ∧ stack4 (l.drop s.1) = (s.2, 0)) (fun s => ⟨[(0, .isl 8 (slI l)), (2, .loc 0 1 0 0), (4, .loc 1 1 0 0), (6, .int .i64 (s.1 - 1))], [(1, .var (R.ty 16) s.2.row), (0, .var (R.ty 16) [.int .i64 0, .int .i64 0, .nils, .nils, .nils, .nils, .nils, .nils])], 2⟩) (fun s => s.1) ((n, z)) ?_ ?_
        · exact ⟨Nat.le_refl _, by rw [hlast, hone]⟩
        · rintro ⟨s, o⟩ ⟨h1, h2⟩
          dsimp only at h1 h2 ⊢
          refine sh ?_
          refine cS (fun h3 => ?_) (fun h3 => ?_)
          · obtain ⟨t, rfl⟩ : ∃ t, s = t + 1 := ⟨s - 1, by omega⟩
            obtain ⟨a, ha⟩ : ∃ a, l[t]? = some a := ⟨_, List.getElem?_eq_getElem (by omega)⟩
            obtain ⟨h4, h5⟩ := List.getElem?_eq_some_iff.1 ha
            have hd : l.drop t = a :: l.drop (t + 1) := by rw [List.drop_eq_getElem_cons h4, h5]
            obtain ⟨b, r, hbr⟩ : ∃ b r, l.drop (t + 1) = b :: r := by
              match hh : l.drop (t + 1) with
              | [] => have := congrArg List.length hh; simp at this; omega
              | b :: r => exact ⟨b, r, rfl⟩
            have hst : stack4 (l.drop t) = over4 a o := by
              rw [hd, hbr]
              rw [hbr] at h2
              unfold stack4
              rw [h2, if_neg (by simp)]
            have fa := hf a (List.mem_of_getElem? ha)
            have fo : o.Few := by
              have := few_stack (l.drop (t + 1)) (fun i hi => hf i (List.mem_of_mem_drop hi))
              rw [h2] at this; exact this
            refine sh ?_
            refine eget_map (x := a) (by rw [show (((t + 1 : Nat) : Int) - 1).toNat = t by omega]; exact ha) ?_
            refine sh ?_
            refine ICall.pure h.n122.o122.hb (rover_c h.n122 a o fa fo) rfl ?_
            by_cases he : (over4 a o).2 = 0
            · refine sh ?_
              refine acnd_f (by simpa using he) ?_
              refine sh ?_
              refine nXa ((t, (over4 a o).1)) ?_ ?_
              · refine ⟨by omega, by rw [hst, ← he]⟩
              · omega
            · refine sh ?_
              refine acnd_t (by simpa using he) ?_
              have hb := stack_bad (l := l.drop t) (p := l.take t) (by rw [hd]; simp) (by rw [hst]; exact he)
              rw [List.take_append_drop, hst] at hb
              rw [hb] at hq
              subst hq
              refine sh ?_
              exact rT
          · have hs : s = 0 := by omega
            subst hs
            rw [List.drop_zero] at h2
            rw [h2] at hq
            subst hq
            refine sh ?_
            exact rT
      · refine sh ?_
        refine acnd_t (by simpa using hzc) ?_
        rw [if_pos (by simpa using hzc)] at hone
        have hb := stack_bad (l := l.drop n) (p := l.take n) (by rw [hlast]; simp) (by rw [hlast, hone]; exact hzc)
        rw [List.take_append_drop, hlast, hone] at hb
        rw [hb] at hq
        subst hq
        refine sh ?_
        exact rT
end Go.UM

/- How far two images part, by the document. -/

namespace Go.UM
open Go.AM
set_option maxRecDepth 4000

def dv (a b : Int) : Int := max (a - b) (-(a - b))
theorem dv0 {a b : Int} : dv a b = 0 ↔ a = b := by unfold dv; omega
theorem difs {m a a' b b' c c' d d' : Int} : difI (difI (difI (difI m a a') b b') c c') d d' = max (max (max (max m (dv d d')) (dv a a')) (dv b b')) (dv c c') := by
  have e : ∀ m a b, difI m a b = max m (dv a b) := fun m a b => by unfold difI dv; omega
  simp only [e]
  generalize dv a a' = A
  generalize dv b b' = B
  generalize dv c c' = C
  generalize dv d d' = D
  omega


set_option maxHeartbeats 2000000 in
theorem rapart_c {R : Env} (h : N124 R) (a b : Im) (fa : a.Few) (fb : b.Few) : R.Pc 124 [.agg a.row, .agg b.row] (.tup [.int .i64 (apart4 a b).1.1, .int .i64 (apart4 a b).1.2, .int .i64 (apart4 a b).2]) :=
  h.o124.enter 200 rfl fun X bb hfit hp => by
    generalize hq : apart4 a b = q
    refine sh ?_
    refine ICall.pure h.n140.o140.hb (rcheck38_c h.n140 a fa) rfl ?_
    by_cases ha : ichk a = 0
    · refine sh ?_
      refine acnd_f (by simpa using ha) ?_
      refine sh ?_
      refine ICall.pure h.n140.o140.hb (rcheck38_c h.n140 b fb) rfl ?_
      by_cases hb : ichk b = 0
      · refine sh ?_
        refine acnd_f (by simpa using hb) ?_
        by_cases e : a.w ≠ b.w ∨ a.h ≠ b.h
        · rw [apart4, if_neg (by simpa using ha), if_neg (by simpa using hb), if_pos e] at hq
          subst hq
          by_cases e1 : a.w = b.w
          · have e2 : a.h ≠ b.h := by rcases e with e | e; exact (e e1).elim; exact e
            refine sh ?_
            refine acnd_f (by simpa using e1) ?_
            refine sh ?_
            refine acnd_t (by simpa using e2) ?_
            refine sh ?_
            exact rT
          · refine sh ?_
            refine acnd_t (by simpa using e1) ?_
            refine sh ?_
            exact rT
        · rw [apart4, if_neg (by simpa using ha), if_neg (by simpa using hb), if_neg e] at hq
          have ew : a.w = b.w := Decidable.not_not.1 fun hh => e (.inl hh)
          have eh : a.h = b.h := Decidable.not_not.1 fun hh => e (.inr hh)
          refine sh ?_
          refine acnd_f (by simpa using ew) ?_
          refine sh ?_
          refine acnd_f (by simpa using eh) ?_
          obtain ⟨ea, ga⟩ := (ichk_ok.1 ha).good
          obtain ⟨eb, gb⟩ := (ichk_ok.1 hb).good
          rw [← ew, ← eh] at eb gb
          generalize a.pxs = l at *
          generalize b.pxs = lb at *
          generalize a.w = w at *
          generalize a.h = hh at *
          subst ea eb
          have l1 := ga.few
          have l2 := ga.len
          have l3 := gb.len
          have l4 : lb.length = l.length := by omega
          have hF := fun k => apF_in ga.px gb.px k
          have gax := ga.px
          have gbx := gb.px
          generalize hm : l.length = m at *
          clear hfit ha hb e ew eh fa fb
          refine sh ?_
          refine lPa 200 (fun k : Nat => k ≤ m) (fun k => ⟨[(2, .loc 0 1 0 0), (3, .loc 1 1 0 0), (9, .int .i64 (apF l lb k).1), (10, .int .i64 (apF l lb k).2), (11, .int .i64 k)], [(1, .var (R.ty 16) (pxr w hh lb)), (0, .var (R.ty 16) (pxr w hh l))], 2⟩) (fun k => m - k) (0) ?_ ?_
          · exact Nat.zero_le _
          · intro k hk
            dsimp only
            obtain ⟨⟨i1, i2⟩, i3, i4⟩ := hF k hk (by omega)
            refine sh ?_
            refine cS (fun h3 => ?_) (fun h3 => ?_)
            · obtain ⟨x, hx⟩ : ∃ x, l[k]? = some x := ⟨_, List.getElem?_eq_getElem (by omega)⟩
              obtain ⟨y, hy⟩ : ∃ y, lb[k]? = some y := ⟨_, List.getElem?_eq_getElem (by omega)⟩
              have hxi := gax x (List.mem_of_getElem? hx)
              have hyi := gbx y (List.mem_of_getElem? hy)
              have x1 := hxi.be.1; have x2 := hxi.be.2.1; have x3 := hxi.be.2.2; have x4 := hxi.al
              have y1 := hyi.be.1; have y2 := hyi.be.2.1; have y3 := hyi.be.2.2; have y4 := hyi.al
              unfold in16 at x4 y4
              have hs := apF_succ hx hy
              generalize hP : apF l lb k = P at *
              refine sh ?_
              refine eget_map (gde hx) ?_
              refine sh ?_
              refine eget_map (gde hy) ?_
              refine sh ?_
              refine cS (fun ka => ?_) (fun ka => ?_)
              · refine sh ?_
                refine eget_map (gno hx) ?_
                refine sh ?_
                refine eget_map (gno hy) ?_
                refine sh ?_
                refine cS (fun kb => ?_) (fun kb => ?_)
                · refine sh ?_
                  refine eget_map (gas hx) ?_
                  refine sh ?_
                  refine eget_map (gas hy) ?_
                  refine sh ?_
                  refine cS (fun kc => ?_) (fun kc => ?_)
                  · refine sh ?_
                    refine eget_map (gla hx) ?_
                    refine sh ?_
                    refine eget_map (gla hy) ?_
                    refine sh ?_
                    refine eget_map (gal hx) ?_
                    refine sh ?_
                    refine eget_map (gal hy) ?_
                    refine sh ?_
                    refine ICall.pure h.n149.o149.hb (size38_c h.n149 (x.al - y.al) (by omega)) rfl ?_
                    refine sh ?_
                    refine ILoop.one 100 ?_
                    refine sh ?_
                    refine acnd_t (by decide) ?_
                    refine sh ?_
                    refine eget_map (gbe hx) ?_
                    refine sh ?_
                    refine eget_map (gbe hy) ?_
                    refine sh ?_
                    refine ICall.pure h.n149.o149.hb (size38_c h.n149 (x.be.a - y.be.a) (by omega)) rfl ?_
                    refine sh ?_
                    refine ILoop.one 100 ?_
                    refine sh ?_
                    refine acnd_t (by decide) ?_
                    refine sh ?_
                    refine eget_map (gbe hx) ?_
                    refine sh ?_
                    refine eget_map (gbe hy) ?_
                    refine sh ?_
                    refine ICall.pure h.n149.o149.hb (size38_c h.n149 (x.be.b - y.be.b) (by omega)) rfl ?_
                    refine sh ?_
                    refine ILoop.one 100 ?_
                    refine sh ?_
                    refine acnd_t (by decide) ?_
                    refine sh ?_
                    refine eget_map (gbe hx) ?_
                    refine sh ?_
                    refine eget_map (gbe hy) ?_
                    refine sh ?_
                    refine ICall.pure h.n149.o149.hb (size38_c h.n149 (x.be.c - y.be.c) (by omega)) rfl ?_
                    refine sh ?_
                    refine ILoop.one 100 ?_
                    refine sh ?_
                    refine acnd_f (by decide) ?_
                    refine sh ?_
                    refine ILoop.one 100 ?_
                    refine sh ?_
                    refine acnd_t (by decide) ?_
                    refine sh ?_
                    refine aelt_lit rfl ?_
                    refine sh ?_
                    refine cS (fun kd => ?_) (fun kd => ?_)
                    · refine sh ?_
                      refine aelt_lit rfl ?_
                      refine sh ?_
                      refine ILoop.one 100 ?_
                      refine sh ?_
                      refine acnd_t (by decide) ?_
                      refine sh ?_
                      refine aelt_lit rfl ?_
                      refine sh ?_
                      refine cS (fun za => ?_) (fun za => ?_)
                      · refine sh ?_
                        refine aelt_lit rfl ?_
                        refine sh ?_
                        refine ILoop.one 100 ?_
                        refine sh ?_
                        refine acnd_t (by decide) ?_
                        refine sh ?_
                        refine aelt_lit rfl ?_
                        refine sh ?_
                        refine cS (fun zb => ?_) (fun zb => ?_)
                        · refine sh ?_
                          refine aelt_lit rfl ?_
                          refine sh ?_
                          refine ILoop.one 100 ?_
                          refine sh ?_
                          refine acnd_t (by decide) ?_
                          refine sh ?_
                          refine aelt_lit rfl ?_
                          refine sh ?_
                          refine cS (fun zc => ?_) (fun zc => ?_)
                          · refine sh ?_
                            refine aelt_lit rfl ?_
                            refine sh ?_
                            refine ILoop.one 100 ?_
                            refine sh ?_
                            refine acnd_f (by decide) ?_
                            refine sh ?_
                            refine cS (fun zd => ?_) (fun zd => ?_)
                            · have hne : pxEq x y = false := by
                                cases he : pxEq x y with
                                | false => rfl
                                | true =>
                                  have hxy := pxEq_eq he
                                  subst hxy
                                  simp [dv] at zd
                              refine sh ?_
                              refine nX (k + 1) ?_ ?_ ⟨_, hp, rfl⟩ ?_ ?_
                              · omega
                              · omega
                              · all_goals repeat' (first | exact True.intro | refine And.intro ?_ ?_ | (intro _u; clear _u) | (with_reducible first | refine eM ?_ ?_ | refine eF ?_ ?_ ?_ | refine eN ?_ | refine eL ?_ ?_ ?_ | refine eA ?_ ?_ | refine IWk.mk ⟨_, hp, rfl⟩ ?_ ?_) | refine IWk.mk ⟨_, hp, rfl⟩ ?_ ?_)
                                all_goals first | with_reducible rfl | omega | exact Or.inl (by decide) | (simp; done) | rfl | skip
                                all_goals (rw [hs, apx]; simp only [difs]; first | rw [if_neg (by rw [hne]; simp)] | rfl)
                              · all_goals repeat' (first | exact True.intro | refine And.intro ?_ ?_ | (intro _u; clear _u) | (with_reducible first | refine eM ?_ ?_ | refine eF ?_ ?_ ?_ | refine eN ?_ | refine eL ?_ ?_ ?_ | refine eA ?_ ?_ | refine IWk.mk ⟨_, hp, rfl⟩ ?_ ?_) | refine IWk.mk ⟨_, hp, rfl⟩ ?_ ?_)
                                all_goals first | with_reducible rfl | omega | exact Or.inl (by decide) | (simp; done) | rfl | skip
                            · have heq : pxEq x y = true := by
                                simp at kb
                                have q1 := dv0.1 za; have q2 := dv0.1 zb; have q3 := dv0.1 zc; have q4 := dv0.1 zd
                                simp [pxEq, ka, kb, kc, kd, q1, q2, q3, q4]
                              refine sh ?_
                              refine nX (k + 1) ?_ ?_ ⟨_, hp, rfl⟩ ?_ ?_
                              · omega
                              · omega
                              · all_goals repeat' (first | exact True.intro | refine And.intro ?_ ?_ | (intro _u; clear _u) | (with_reducible first | refine eM ?_ ?_ | refine eF ?_ ?_ ?_ | refine eN ?_ | refine eL ?_ ?_ ?_ | refine eA ?_ ?_ | refine IWk.mk ⟨_, hp, rfl⟩ ?_ ?_) | refine IWk.mk ⟨_, hp, rfl⟩ ?_ ?_)
                                all_goals first | with_reducible rfl | omega | exact Or.inl (by decide) | (simp; done) | rfl | skip
                                all_goals (rw [hs, apx]; simp only [difs]; first | rw [if_pos heq] | rfl)
                              · all_goals repeat' (first | exact True.intro | refine And.intro ?_ ?_ | (intro _u; clear _u) | (with_reducible first | refine eM ?_ ?_ | refine eF ?_ ?_ ?_ | refine eN ?_ | refine eL ?_ ?_ ?_ | refine eA ?_ ?_ | refine IWk.mk ⟨_, hp, rfl⟩ ?_ ?_) | refine IWk.mk ⟨_, hp, rfl⟩ ?_ ?_)
                                all_goals first | with_reducible rfl | omega | exact Or.inl (by decide) | (simp; done) | rfl | skip
                          · have hne : pxEq x y = false := by
                              cases he : pxEq x y with
                              | false => rfl
                              | true =>
                                have hxy := pxEq_eq he
                                subst hxy
                                simp [dv] at zc
                            refine sh ?_
                            refine ILoop.one 100 ?_
                            refine sh ?_
                            refine acnd_f (by decide) ?_
                            refine sh ?_
                            refine nX (k + 1) ?_ ?_ ⟨_, hp, rfl⟩ ?_ ?_
                            · omega
                            · omega
                            · all_goals repeat' (first | exact True.intro | refine And.intro ?_ ?_ | (intro _u; clear _u) | (with_reducible first | refine eM ?_ ?_ | refine eF ?_ ?_ ?_ | refine eN ?_ | refine eL ?_ ?_ ?_ | refine eA ?_ ?_ | refine IWk.mk ⟨_, hp, rfl⟩ ?_ ?_) | refine IWk.mk ⟨_, hp, rfl⟩ ?_ ?_)
                              all_goals first | with_reducible rfl | omega | exact Or.inl (by decide) | (simp; done) | rfl | skip
                              all_goals (rw [hs, apx]; simp only [difs]; first | rw [if_neg (by rw [hne]; simp)] | rfl)
                            · all_goals repeat' (first | exact True.intro | refine And.intro ?_ ?_ | (intro _u; clear _u) | (with_reducible first | refine eM ?_ ?_ | refine eF ?_ ?_ ?_ | refine eN ?_ | refine eL ?_ ?_ ?_ | refine eA ?_ ?_ | refine IWk.mk ⟨_, hp, rfl⟩ ?_ ?_) | refine IWk.mk ⟨_, hp, rfl⟩ ?_ ?_)
                              all_goals first | with_reducible rfl | omega | exact Or.inl (by decide) | (simp; done) | rfl | skip
                        · have hne : pxEq x y = false := by
                            cases he : pxEq x y with
                            | false => rfl
                            | true =>
                              have hxy := pxEq_eq he
                              subst hxy
                              simp [dv] at zb
                          refine sh ?_
                          refine ILoop.one 100 ?_
                          refine sh ?_
                          refine acnd_t (by decide) ?_
                          refine sh ?_
                          refine aelt_lit rfl ?_
                          refine sh ?_
                          refine ILoop.one 100 ?_
                          refine sh ?_
                          refine acnd_f (by decide) ?_
                          refine sh ?_
                          refine nX (k + 1) ?_ ?_ ⟨_, hp, rfl⟩ ?_ ?_
                          · omega
                          · omega
                          · all_goals repeat' (first | exact True.intro | refine And.intro ?_ ?_ | (intro _u; clear _u) | (with_reducible first | refine eM ?_ ?_ | refine eF ?_ ?_ ?_ | refine eN ?_ | refine eL ?_ ?_ ?_ | refine eA ?_ ?_ | refine IWk.mk ⟨_, hp, rfl⟩ ?_ ?_) | refine IWk.mk ⟨_, hp, rfl⟩ ?_ ?_)
                            all_goals first | with_reducible rfl | omega | exact Or.inl (by decide) | (simp; done) | rfl | skip
                            all_goals (rw [hs, apx]; simp only [difs]; first | rw [if_neg (by rw [hne]; simp)] | rfl)
                          · all_goals repeat' (first | exact True.intro | refine And.intro ?_ ?_ | (intro _u; clear _u) | (with_reducible first | refine eM ?_ ?_ | refine eF ?_ ?_ ?_ | refine eN ?_ | refine eL ?_ ?_ ?_ | refine eA ?_ ?_ | refine IWk.mk ⟨_, hp, rfl⟩ ?_ ?_) | refine IWk.mk ⟨_, hp, rfl⟩ ?_ ?_)
                            all_goals first | with_reducible rfl | omega | exact Or.inl (by decide) | (simp; done) | rfl | skip
                      · have hne : pxEq x y = false := by
                          cases he : pxEq x y with
                          | false => rfl
                          | true =>
                            have hxy := pxEq_eq he
                            subst hxy
                            simp [dv] at za
                        refine sh ?_
                        refine ILoop.one 100 ?_
                        refine sh ?_
                        refine acnd_t (by decide) ?_
                        refine sh ?_
                        refine aelt_lit rfl ?_
                        refine sh ?_
                        refine ILoop.one 100 ?_
                        refine sh ?_
                        refine acnd_t (by decide) ?_
                        refine sh ?_
                        refine aelt_lit rfl ?_
                        refine sh ?_
                        refine ILoop.one 100 ?_
                        refine sh ?_
                        refine acnd_f (by decide) ?_
                        refine sh ?_
                        refine nX (k + 1) ?_ ?_ ⟨_, hp, rfl⟩ ?_ ?_
                        · omega
                        · omega
                        · all_goals repeat' (first | exact True.intro | refine And.intro ?_ ?_ | (intro _u; clear _u) | (with_reducible first | refine eM ?_ ?_ | refine eF ?_ ?_ ?_ | refine eN ?_ | refine eL ?_ ?_ ?_ | refine eA ?_ ?_ | refine IWk.mk ⟨_, hp, rfl⟩ ?_ ?_) | refine IWk.mk ⟨_, hp, rfl⟩ ?_ ?_)
                          all_goals first | with_reducible rfl | omega | exact Or.inl (by decide) | (simp; done) | rfl | skip
                          all_goals (rw [hs, apx]; simp only [difs]; first | rw [if_neg (by rw [hne]; simp)] | rfl)
                        · all_goals repeat' (first | exact True.intro | refine And.intro ?_ ?_ | (intro _u; clear _u) | (with_reducible first | refine eM ?_ ?_ | refine eF ?_ ?_ ?_ | refine eN ?_ | refine eL ?_ ?_ ?_ | refine eA ?_ ?_ | refine IWk.mk ⟨_, hp, rfl⟩ ?_ ?_) | refine IWk.mk ⟨_, hp, rfl⟩ ?_ ?_)
                          all_goals first | with_reducible rfl | omega | exact Or.inl (by decide) | (simp; done) | rfl | skip
                    · have hne : pxEq x y = false := by
                        cases he : pxEq x y with
                        | false => rfl
                        | true =>
                          have hxy := pxEq_eq he
                          subst hxy
                          simp [dv] at kd
                      refine sh ?_
                      refine ILoop.one 100 ?_
                      refine sh ?_
                      refine acnd_t (by decide) ?_
                      refine sh ?_
                      refine aelt_lit rfl ?_
                      refine sh ?_
                      refine ILoop.one 100 ?_
                      refine sh ?_
                      refine acnd_t (by decide) ?_
                      refine sh ?_
                      refine aelt_lit rfl ?_
                      refine sh ?_
                      refine ILoop.one 100 ?_
                      refine sh ?_
                      refine acnd_t (by decide) ?_
                      refine sh ?_
                      refine aelt_lit rfl ?_
                      refine sh ?_
                      refine ILoop.one 100 ?_
                      refine sh ?_
                      refine acnd_f (by decide) ?_
                      refine sh ?_
                      refine nX (k + 1) ?_ ?_ ⟨_, hp, rfl⟩ ?_ ?_
                      · omega
                      · omega
                      · all_goals repeat' (first | exact True.intro | refine And.intro ?_ ?_ | (intro _u; clear _u) | (with_reducible first | refine eM ?_ ?_ | refine eF ?_ ?_ ?_ | refine eN ?_ | refine eL ?_ ?_ ?_ | refine eA ?_ ?_ | refine IWk.mk ⟨_, hp, rfl⟩ ?_ ?_) | refine IWk.mk ⟨_, hp, rfl⟩ ?_ ?_)
                        all_goals first | with_reducible rfl | omega | exact Or.inl (by decide) | (simp; done) | rfl | skip
                        all_goals (rw [hs, apx]; simp only [difs]; first | rw [if_neg (by rw [hne]; simp)] | rfl)
                      · all_goals repeat' (first | exact True.intro | refine And.intro ?_ ?_ | (intro _u; clear _u) | (with_reducible first | refine eM ?_ ?_ | refine eF ?_ ?_ ?_ | refine eN ?_ | refine eL ?_ ?_ ?_ | refine eA ?_ ?_ | refine IWk.mk ⟨_, hp, rfl⟩ ?_ ?_) | refine IWk.mk ⟨_, hp, rfl⟩ ?_ ?_)
                        all_goals first | with_reducible rfl | omega | exact Or.inl (by decide) | (simp; done) | rfl | skip
                  · have hne : pxEq x y = false := by
                      cases he : pxEq x y with
                      | false => rfl
                      | true =>
                        have hxy := pxEq_eq he
                        subst hxy
                        simp [dv] at kc
                    refine sh ?_
                    refine eget_map (gal hx) ?_
                    refine sh ?_
                    refine eget_map (gal hy) ?_
                    refine sh ?_
                    refine ICall.pure h.n149.o149.hb (size38_c h.n149 (x.al - y.al) (by omega)) rfl ?_
                    refine sh ?_
                    refine ILoop.one 100 ?_
                    refine sh ?_
                    refine acnd_t (by decide) ?_
                    refine sh ?_
                    refine eget_map (gbe hx) ?_
                    refine sh ?_
                    refine eget_map (gbe hy) ?_
                    refine sh ?_
                    refine ICall.pure h.n149.o149.hb (size38_c h.n149 (x.be.a - y.be.a) (by omega)) rfl ?_
                    refine sh ?_
                    refine ILoop.one 100 ?_
                    refine sh ?_
                    refine acnd_t (by decide) ?_
                    refine sh ?_
                    refine eget_map (gbe hx) ?_
                    refine sh ?_
                    refine eget_map (gbe hy) ?_
                    refine sh ?_
                    refine ICall.pure h.n149.o149.hb (size38_c h.n149 (x.be.b - y.be.b) (by omega)) rfl ?_
                    refine sh ?_
                    refine ILoop.one 100 ?_
                    refine sh ?_
                    refine acnd_t (by decide) ?_
                    refine sh ?_
                    refine eget_map (gbe hx) ?_
                    refine sh ?_
                    refine eget_map (gbe hy) ?_
                    refine sh ?_
                    refine ICall.pure h.n149.o149.hb (size38_c h.n149 (x.be.c - y.be.c) (by omega)) rfl ?_
                    refine sh ?_
                    refine ILoop.one 100 ?_
                    refine sh ?_
                    refine acnd_f (by decide) ?_
                    refine sh ?_
                    refine ILoop.one 100 ?_
                    refine sh ?_
                    refine acnd_t (by decide) ?_
                    refine sh ?_
                    refine aelt_lit rfl ?_
                    refine sh ?_
                    refine ILoop.one 100 ?_
                    refine sh ?_
                    refine acnd_t (by decide) ?_
                    refine sh ?_
                    refine aelt_lit rfl ?_
                    refine sh ?_
                    refine ILoop.one 100 ?_
                    refine sh ?_
                    refine acnd_t (by decide) ?_
                    refine sh ?_
                    refine aelt_lit rfl ?_
                    refine sh ?_
                    refine ILoop.one 100 ?_
                    refine sh ?_
                    refine acnd_t (by decide) ?_
                    refine sh ?_
                    refine aelt_lit rfl ?_
                    refine sh ?_
                    refine ILoop.one 100 ?_
                    refine sh ?_
                    refine acnd_f (by decide) ?_
                    refine sh ?_
                    refine nX (k + 1) ?_ ?_ ⟨_, hp, rfl⟩ ?_ ?_
                    · omega
                    · omega
                    · all_goals repeat' (first | exact True.intro | refine And.intro ?_ ?_ | (intro _u; clear _u) | (with_reducible first | refine eM ?_ ?_ | refine eF ?_ ?_ ?_ | refine eN ?_ | refine eL ?_ ?_ ?_ | refine eA ?_ ?_ | refine IWk.mk ⟨_, hp, rfl⟩ ?_ ?_) | refine IWk.mk ⟨_, hp, rfl⟩ ?_ ?_)
                      all_goals first | with_reducible rfl | omega | exact Or.inl (by decide) | (simp; done) | rfl | skip
                      all_goals (rw [hs, apx]; simp only [difs]; first | rw [if_neg (by rw [hne]; simp)] | rfl)
                    · all_goals repeat' (first | exact True.intro | refine And.intro ?_ ?_ | (intro _u; clear _u) | (with_reducible first | refine eM ?_ ?_ | refine eF ?_ ?_ ?_ | refine eN ?_ | refine eL ?_ ?_ ?_ | refine eA ?_ ?_ | refine IWk.mk ⟨_, hp, rfl⟩ ?_ ?_) | refine IWk.mk ⟨_, hp, rfl⟩ ?_ ?_)
                      all_goals first | with_reducible rfl | omega | exact Or.inl (by decide) | (simp; done) | rfl | skip
                · have hne : pxEq x y = false := by
                    cases he : pxEq x y with
                    | false => rfl
                    | true =>
                      have hxy := pxEq_eq he
                      subst hxy
                      simp [dv] at kb
                  refine sh ?_
                  refine eget_map (gal hx) ?_
                  refine sh ?_
                  refine eget_map (gal hy) ?_
                  refine sh ?_
                  refine ICall.pure h.n149.o149.hb (size38_c h.n149 (x.al - y.al) (by omega)) rfl ?_
                  refine sh ?_
                  refine ILoop.one 100 ?_
                  refine sh ?_
                  refine acnd_t (by decide) ?_
                  refine sh ?_
                  refine eget_map (gbe hx) ?_
                  refine sh ?_
                  refine eget_map (gbe hy) ?_
                  refine sh ?_
                  refine ICall.pure h.n149.o149.hb (size38_c h.n149 (x.be.a - y.be.a) (by omega)) rfl ?_
                  refine sh ?_
                  refine ILoop.one 100 ?_
                  refine sh ?_
                  refine acnd_t (by decide) ?_
                  refine sh ?_
                  refine eget_map (gbe hx) ?_
                  refine sh ?_
                  refine eget_map (gbe hy) ?_
                  refine sh ?_
                  refine ICall.pure h.n149.o149.hb (size38_c h.n149 (x.be.b - y.be.b) (by omega)) rfl ?_
                  refine sh ?_
                  refine ILoop.one 100 ?_
                  refine sh ?_
                  refine acnd_t (by decide) ?_
                  refine sh ?_
                  refine eget_map (gbe hx) ?_
                  refine sh ?_
                  refine eget_map (gbe hy) ?_
                  refine sh ?_
                  refine ICall.pure h.n149.o149.hb (size38_c h.n149 (x.be.c - y.be.c) (by omega)) rfl ?_
                  refine sh ?_
                  refine ILoop.one 100 ?_
                  refine sh ?_
                  refine acnd_f (by decide) ?_
                  refine sh ?_
                  refine ILoop.one 100 ?_
                  refine sh ?_
                  refine acnd_t (by decide) ?_
                  refine sh ?_
                  refine aelt_lit rfl ?_
                  refine sh ?_
                  refine ILoop.one 100 ?_
                  refine sh ?_
                  refine acnd_t (by decide) ?_
                  refine sh ?_
                  refine aelt_lit rfl ?_
                  refine sh ?_
                  refine ILoop.one 100 ?_
                  refine sh ?_
                  refine acnd_t (by decide) ?_
                  refine sh ?_
                  refine aelt_lit rfl ?_
                  refine sh ?_
                  refine ILoop.one 100 ?_
                  refine sh ?_
                  refine acnd_t (by decide) ?_
                  refine sh ?_
                  refine aelt_lit rfl ?_
                  refine sh ?_
                  refine ILoop.one 100 ?_
                  refine sh ?_
                  refine acnd_f (by decide) ?_
                  refine sh ?_
                  refine nX (k + 1) ?_ ?_ ⟨_, hp, rfl⟩ ?_ ?_
                  · omega
                  · omega
                  · all_goals repeat' (first | exact True.intro | refine And.intro ?_ ?_ | (intro _u; clear _u) | (with_reducible first | refine eM ?_ ?_ | refine eF ?_ ?_ ?_ | refine eN ?_ | refine eL ?_ ?_ ?_ | refine eA ?_ ?_ | refine IWk.mk ⟨_, hp, rfl⟩ ?_ ?_) | refine IWk.mk ⟨_, hp, rfl⟩ ?_ ?_)
                    all_goals first | with_reducible rfl | omega | exact Or.inl (by decide) | (simp; done) | rfl | skip
                    all_goals (rw [hs, apx]; simp only [difs]; first | rw [if_neg (by rw [hne]; simp)] | rfl)
                  · all_goals repeat' (first | exact True.intro | refine And.intro ?_ ?_ | (intro _u; clear _u) | (with_reducible first | refine eM ?_ ?_ | refine eF ?_ ?_ ?_ | refine eN ?_ | refine eL ?_ ?_ ?_ | refine eA ?_ ?_ | refine IWk.mk ⟨_, hp, rfl⟩ ?_ ?_) | refine IWk.mk ⟨_, hp, rfl⟩ ?_ ?_)
                    all_goals first | with_reducible rfl | omega | exact Or.inl (by decide) | (simp; done) | rfl | skip
              · have hne : pxEq x y = false := by
                  cases he : pxEq x y with
                  | false => rfl
                  | true =>
                    have hxy := pxEq_eq he
                    subst hxy
                    simp [dv] at ka
                refine sh ?_
                refine eget_map (gal hx) ?_
                refine sh ?_
                refine eget_map (gal hy) ?_
                refine sh ?_
                refine ICall.pure h.n149.o149.hb (size38_c h.n149 (x.al - y.al) (by omega)) rfl ?_
                refine sh ?_
                refine ILoop.one 100 ?_
                refine sh ?_
                refine acnd_t (by decide) ?_
                refine sh ?_
                refine eget_map (gbe hx) ?_
                refine sh ?_
                refine eget_map (gbe hy) ?_
                refine sh ?_
                refine ICall.pure h.n149.o149.hb (size38_c h.n149 (x.be.a - y.be.a) (by omega)) rfl ?_
                refine sh ?_
                refine ILoop.one 100 ?_
                refine sh ?_
                refine acnd_t (by decide) ?_
                refine sh ?_
                refine eget_map (gbe hx) ?_
                refine sh ?_
                refine eget_map (gbe hy) ?_
                refine sh ?_
                refine ICall.pure h.n149.o149.hb (size38_c h.n149 (x.be.b - y.be.b) (by omega)) rfl ?_
                refine sh ?_
                refine ILoop.one 100 ?_
                refine sh ?_
                refine acnd_t (by decide) ?_
                refine sh ?_
                refine eget_map (gbe hx) ?_
                refine sh ?_
                refine eget_map (gbe hy) ?_
                refine sh ?_
                refine ICall.pure h.n149.o149.hb (size38_c h.n149 (x.be.c - y.be.c) (by omega)) rfl ?_
                refine sh ?_
                refine ILoop.one 100 ?_
                refine sh ?_
                refine acnd_f (by decide) ?_
                refine sh ?_
                refine ILoop.one 100 ?_
                refine sh ?_
                refine acnd_t (by decide) ?_
                refine sh ?_
                refine aelt_lit rfl ?_
                refine sh ?_
                refine ILoop.one 100 ?_
                refine sh ?_
                refine acnd_t (by decide) ?_
                refine sh ?_
                refine aelt_lit rfl ?_
                refine sh ?_
                refine ILoop.one 100 ?_
                refine sh ?_
                refine acnd_t (by decide) ?_
                refine sh ?_
                refine aelt_lit rfl ?_
                refine sh ?_
                refine ILoop.one 100 ?_
                refine sh ?_
                refine acnd_t (by decide) ?_
                refine sh ?_
                refine aelt_lit rfl ?_
                refine sh ?_
                refine ILoop.one 100 ?_
                refine sh ?_
                refine acnd_f (by decide) ?_
                refine sh ?_
                refine nX (k + 1) ?_ ?_ ⟨_, hp, rfl⟩ ?_ ?_
                · omega
                · omega
                · all_goals repeat' (first | exact True.intro | refine And.intro ?_ ?_ | (intro _u; clear _u) | (with_reducible first | refine eM ?_ ?_ | refine eF ?_ ?_ ?_ | refine eN ?_ | refine eL ?_ ?_ ?_ | refine eA ?_ ?_ | refine IWk.mk ⟨_, hp, rfl⟩ ?_ ?_) | refine IWk.mk ⟨_, hp, rfl⟩ ?_ ?_)
                  all_goals first | with_reducible rfl | omega | exact Or.inl (by decide) | (simp; done) | rfl | skip
                  all_goals (rw [hs, apx]; simp only [difs]; first | rw [if_neg (by rw [hne]; simp)] | rfl)
                · all_goals repeat' (first | exact True.intro | refine And.intro ?_ ?_ | (intro _u; clear _u) | (with_reducible first | refine eM ?_ ?_ | refine eF ?_ ?_ ?_ | refine eN ?_ | refine eL ?_ ?_ ?_ | refine eA ?_ ?_ | refine IWk.mk ⟨_, hp, rfl⟩ ?_ ?_) | refine IWk.mk ⟨_, hp, rfl⟩ ?_ ?_)
                  all_goals first | with_reducible rfl | omega | exact Or.inl (by decide) | (simp; done) | rfl | skip
            · have hkm : ¬ k < m := by omega
              have hkm : k = m := by omega
              subst hkm
              subst hq
              refine sh ?_
              exact rT
      · refine sh ?_
        refine acnd_t (by simpa using hb) ?_
        rw [apart4, if_neg (by simpa using ha), if_pos (by simpa using hb)] at hq
        subst hq
        refine sh ?_
        exact rT
    · refine sh ?_
      refine acnd_t (by simpa using ha) ?_
      rw [apart4, if_pos (by simpa using ha)] at hq
      subst hq
      refine sh ?_
      exact rT
end Go.UM

/- What the statements of chapter 38 need besides (plain). -/

namespace Go.UM
open Go.AM
set_option maxRecDepth 4000

theorem Im.Few.short {i : Im} (h : i.Few) : i.Short := ⟨by have := h.be; omega, by have := h.al; omega, by have := h.de; omega, by have := h.no; omega, by have := h.as; omega, by have := h.la; omega⟩
def Im.few (i : Im) : Im := ⟨i.w, i.h, i.be.take 20, i.al.take 20, i.de.take 20, i.no.take 20, i.as.take 20, i.la.take 20⟩
theorem few_few (i : Im) : i.few.Few := ⟨by simp [Im.few]; omega, by simp [Im.few]; omega, by simp [Im.few]; omega, by simp [Im.few]; omega, by simp [Im.few]; omega, by simp [Im.few]; omega⟩
theorem cap3 (b : List T3) (m : Int) : (slc3 b).take (min (b.length : Int) m).toNat = slc3 (b.take m.toNat) := by rw [slc3_take, take_cap]

theorem clear_ok {w h : Int} (hw : (1 ≤ w ∧ w ≤ 64) ∧ (1 ≤ h ∧ h ≤ 64)) : ∃ n : Nat, (n : Int) = w * h ∧ clear4 w h = (ofPx w h (List.replicate n zPx), 0) ∧ GoodP w h (List.replicate n zPx) := by
  have hm0 := Int.mul_nonneg (show 0 ≤ w by omega) (show 0 ≤ h by omega)
  obtain ⟨n, hn⟩ := Int.eq_ofNat_of_zero_le hm0
  refine ⟨n, hn.symm, by rw [clear4, if_pos hw, zeros_px, hn]; rfl, hw.1, hw.2, by simp; exact hn.symm, fun p hp => ?_⟩
  rw [List.mem_replicate] at hp
  rw [hp.2]
  exact ⟨by simp [zPx, z3, T3.in16], by simp [zPx, in16], by simp [zPx, in16], by simp [zPx, z3, T3.in16], by simp [zPx, in16], by simp [zPx, in16]⟩
theorem few_good {w h : Int} {l : List Px} (g : GoodP w h l) : (ofPx w h l).Few := few_px (by have := g.few; omega)
theorem few_clear (w h : Int) : (clear4 w h).1.Few := by
  by_cases hw : (1 ≤ w ∧ w ≤ 64) ∧ (1 ≤ h ∧ h ≤ 64)
  · obtain ⟨n, _, e, g⟩ := clear_ok hw
    rw [e]; exact few_good g
  · rw [clear4, if_neg hw]; exact few_zIm

theorem good_crop {W H : Nat} {l : List Px} {x y w h : Nat} (g : GoodP W H l) (h1 : 1 ≤ w ∧ 1 ≤ h) (h2 : x + w ≤ W) (h3 : y + h ≤ H) : GoodP w h (cropL W l x y w h) := by
  have g1 := g.hw
  have g2 := g.hh
  have g3 := g.len
  rw [← Int.natCast_mul] at g3
  have hl : l.length = W * H := Int.ofNat.inj g3
  refine ⟨by omega, by omega, by simp [cropL], fun p hp => ?_⟩
  obtain ⟨k, hk, rfl⟩ := List.mem_map.1 hp
  rw [List.mem_range] at hk
  obtain ⟨d1, d2⟩ := div_lt hk
  generalize k / w = r at *
  generalize k % w = c at *
  have hpos := row_lt (r := y + r) (c := x + c) (W := W) (H := H) (by omega) (by omega)
  have hpos2 : (y + r) * W + x + c < l.length := by omega
  rw [List.getD_eq_getElem?_getD, List.getElem?_eq_getElem hpos2]
  exact g.px _ (List.getElem_mem _)
theorem good_put {W H : Nat} {l q : List Px} {x y w h k : Nat} (g : GoodP W H l) (gq : GoodP w h q) : GoodP W H (putL W l q x y w h k) := by
  refine ⟨g.hw, g.hh, by simp [putL]; exact g.len, fun p hp => ?_⟩
  obtain ⟨n, hn, rfl⟩ := List.mem_map.1 hp
  rw [List.mem_range] at hn
  unfold putAt putRC
  split
  · rename_i hc
    by_cases hi : (n / W - y) * w + (n % W - x) < q.length
    · rw [List.getD_eq_getElem?_getD, List.getElem?_eq_getElem hi]
      exact gq.px _ (List.getElem_mem _)
    · rw [List.getD_eq_getElem?_getD, List.getElem?_eq_none (by omega)]
      exact ⟨by simp [zPx, z3, T3.in16], by simp [zPx, in16], by simp [zPx, in16], by simp [zPx, z3, T3.in16], by simp [zPx, in16], by simp [zPx, in16]⟩
  · rw [List.getD_eq_getElem?_getD, List.getElem?_eq_getElem hn]
    exact g.px _ (List.getElem_mem _)

/-! ### Crop and put in numbers -/
theorem crop_at {W : Nat} {l : List Px} {x y w h r c : Nat} (hr : r < h) (hc : c < w) : (cropL W l x y w h)[r * w + c]? = some (l.getD ((y + r) * W + x + c) zPx) := by
  have hk := row_lt (r := r) (c := c) (W := w) (H := h) hr hc
  obtain ⟨d1, d2⟩ := div_at (W := w) (r := r) (c := c) hc
  rw [cropL, List.getElem?_map, List.getElem?_range hk]
  simp only [Option.map_some, d1, d2]
theorem put_at {W : Nat} {l q : List Px} {x y w h r c : Nat} (hc : c < W) (hn : r * W + c < l.length) : (putL W l q x y w h (w * h))[r * W + c]? = some (putRC l q x y w h (w * h) (r * W + c) r c) := by
  obtain ⟨d1, d2⟩ := div_at (W := W) (r := r) (c := c) hc
  rw [putL, List.getElem?_map, List.getElem?_range hn]
  simp only [Option.map_some, putAt, d1, d2]
theorem by_rows {α : Type} {a b : List α} {W H : Nat} (ha : a.length = W * H) (hb : b.length = W * H) (h : ∀ r c, r < H → c < W → a[r * W + c]? = b[r * W + c]?) : a = b := by
  apply List.ext_getElem?
  intro n
  by_cases hn : n < W * H
  · obtain ⟨d1, d2⟩ := div_lt hn
    have := h (n / W) (n % W) d1 d2
    rw [← div_mod n W] at this
    exact this
  · rw [List.getElem?_eq_none (by omega), List.getElem?_eq_none (by omega)]
theorem crop_put {W H : Nat} {l q : List Px} {x y w h : Nat} (hl : l.length = W * H) (hq : q.length = w * h) (hx : x + w ≤ W) (hy : y + h ≤ H) : cropL W (putL W l q x y w h (w * h)) x y w h = q := by
  refine by_rows (W := w) (H := h) (by simp [cropL]) hq fun r c hr hc => ?_
  have hk := row_lt (r := r) (c := c) (W := w) (H := h) hr hc
  have hpos := row_lt (r := y + r) (c := x + c) (W := W) (H := H) (by omega) (by omega)
  rw [crop_at hr hc]
  have hp := put_at (W := W) (l := l) (q := q) (x := x) (y := y) (w := w) (h := h) (r := y + r) (c := x + c) (by omega) (by omega)
  rw [← Nat.add_assoc] at hp
  rw [List.getD_eq_getElem?_getD, hp]
  unfold putRC
  rw [show y + r - y = r by omega, show x + c - x = c by omega, if_pos ⟨by omega, hk⟩, Option.getD_some, List.getD_eq_getElem?_getD, List.getElem?_eq_getElem (by omega), Option.getD_some]
theorem put_crop {W H : Nat} {l q : List Px} {x y w h : Nat} (hl : l.length = W * H) (hx : x + w ≤ W) (hy : y + h ≤ H) : putL W (putL W l q x y w h (w * h)) (cropL W l x y w h) x y w h (w * h) = l := by
  refine by_rows (W := W) (H := H) (by simp [putL, hl]) hl fun r c hr hc => ?_
  have hn := row_lt (r := r) (c := c) (W := W) (H := H) hr hc
  rw [put_at hc (by simp [putL]; omega)]
  unfold putRC
  by_cases hin : y ≤ r ∧ r < y + h ∧ x ≤ c ∧ c < x + w
  · have hk := row_lt (r := r - y) (c := c - x) (W := w) (H := h) (by omega) (by omega)
    rw [if_pos ⟨hin, hk⟩, List.getD_eq_getElem?_getD, crop_at (by omega) (by omega), Option.getD_some, show y + (r - y) = r by omega]
    have e : r * W + x + (c - x) = r * W + c := by omega
    rw [e, List.getD_eq_getElem?_getD, List.getElem?_eq_getElem (by omega), Option.getD_some]
  · rw [if_neg (fun hh => hin hh.1), List.getD_eq_getElem?_getD, put_at hc (by omega)]
    unfold putRC
    rw [if_neg (fun hh => hin hh.1), Option.getD_some, List.getD_eq_getElem?_getD, List.getElem?_eq_getElem (by omega), Option.getD_some]

/-! ### How many pixels differ -/
def ndif (l m : List Px) : Nat := (l.zip m).countP fun p => !pxEq p.1 p.2
theorem apx_fst (L : List (Px × Px)) : ∀ s : Int × Int, (L.foldl apx s).1 = s.1 + (L.countP fun p => !pxEq p.1 p.2 : Nat) := by
  induction L with
  | nil => intro s; simp
  | cons p r ih =>
    intro s
    rw [List.foldl_cons, ih, List.countP_cons]
    unfold apx
    cases pxEq p.1 p.2 <;> simp <;> omega
theorem apF_fst {l m : List Px} (h : l.length = m.length) : (apF l m l.length).1 = (ndif l m : Int) := by
  unfold apF ndif
  rw [List.take_of_length_le (by simp [h]), apx_fst]; simp
theorem ndif_self (l : List Px) : ndif l l = 0 := by
  unfold ndif
  rw [List.countP_eq_zero]
  intro p hp
  have : p.1 = p.2 := by
    induction l with
    | nil => simp at hp
    | cons a r ih =>
      simp only [List.zip_cons_cons, List.mem_cons] at hp
      rcases hp with rfl | hp
      · rfl
      · exact ih hp
  rw [this, pxEq_self]; simp
theorem ndif_set (l : List Px) : ∀ (m : List Px) (p : Nat) (v : Px), ndif (m.set p v) l ≤ ndif m l + 1 := by
  induction l with
  | nil => intro m p v; simp [ndif]
  | cons a r ih =>
    intro m p v
    match m, p with
    | [], p => simp [ndif]
    | b :: m, 0 =>
      simp only [List.set_cons_zero, ndif, List.zip_cons_cons, List.countP_cons]
      split <;> split <;> omega
    | b :: m, p + 1 =>
      have := ih m p v
      simp only [List.set_cons_succ, ndif, List.zip_cons_cons, List.countP_cons] at this ⊢
      omega
theorem ndif_put {W : Nat} {l q : List Px} {x y w h : Nat} (hq : q.length = w * h) (hx : x + w ≤ W) : ∀ k, k ≤ w * h → ndif (putL W l q x y w h k) l ≤ k
  | 0, _ => by rw [put_first, ndif_self]; exact Nat.le_refl _
  | k + 1, hk => by
    have ih := ndif_put (W := W) (l := l) (q := q) (x := x) (y := y) hq hx k (by omega)
    rw [← put_next (v := q[k]'(by omega)) (by omega) hx (List.getElem?_eq_getElem (by omega))]
    have := ndif_set l (putL W l q x y w h k) ((y + k / w) * W + x + k % w) (q[k]'(by omega))
    omega
theorem apF_self {l : List Px} (hl : ∀ p ∈ l, p.In) : apF l l l.length = (0, 0) := by
  have : ∀ k, k ≤ l.length → apF l l k = (0, 0) := by
    intro k
    induction k with
    | zero => intro _; rfl
    | succ k ih =>
      intro hk
      rw [apF_succ (List.getElem?_eq_getElem (by omega)) (List.getElem?_eq_getElem (by omega)), ih (by omega)]
      unfold apx
      rw [if_pos (pxEq_self _)]
      simp [difI]
  exact this _ (Nat.le_refl _)

/-! ### What covers fully, what is clear -/
theorem mix_full {a b : Int} (ha : in16 a) : mix a b 65535 = a := by
  unfold in16 at ha
  have h1 : near 65535 = 65535 := near_of (by omega)
  unfold mix
  rw [near_of ha, h1]
  simp; omega
theorem mix_clear {b : Int} (hb : in16 b) : mix 0 b 0 = b := by
  unfold in16 at hb
  have h1 : near 0 = 0 := near_of (by omega)
  unfold mix
  rw [near_of hb, h1]
  omega
theorem mix_none {a c : Int} (ha : in16 a) : mix a 0 c = a := by
  unfold in16 at ha
  have h1 : near 0 = 0 := near_of (by omega)
  unfold mix
  rw [near_of ha, h1]
  simp; omega
theorem mixPx_full {x y : Px} (hx : x.In) (h : x.al = 65535) : mixPx x y = x := by
  have h1 := hx.be.1; have h2 := hx.be.2.1; have h3 := hx.be.2.2; have h4 := hx.al
  obtain ⟨⟨a, b, c⟩, d, e, f, g, k⟩ := x
  simp only at h h1 h2 h3 h4
  subst h
  simp [mixPx, mix_full h1, mix_full h2, mix_full h3, mix_full h4]
theorem mixPx_clear {y : Px} (hy : y.In) : mixPx zPx y = y := by
  have h1 := hy.be.1; have h2 := hy.be.2.1; have h3 := hy.be.2.2; have h4 := hy.al
  obtain ⟨⟨a, b, c⟩, d, e, f, g, k⟩ := y
  simp only at h1 h2 h3 h4
  simp [mixPx, zPx, z3, mix_clear h1, mix_clear h2, mix_clear h3, mix_clear h4]
theorem mixPx_none {x : Px} (hx : x.In) : (mixPx x zPx).be = x.be ∧ (mixPx x zPx).al = x.al := by
  have h1 := hx.be.1; have h2 := hx.be.2.1; have h3 := hx.be.2.2; have h4 := hx.al
  obtain ⟨⟨a, b, c⟩, d, e, f, g, k⟩ := x
  simp only at h1 h2 h3 h4
  simp [mixPx, zPx, z3, mix_none h1, mix_none h2, mix_none h3, mix_none h4]
theorem zip_full {l m : List Px} (hl : l.length ≤ m.length) (h : ∀ x ∈ l, x.In ∧ x.al = 65535) : List.zipWith mixPx l m = l := by
  apply List.ext_getElem (by simp; omega)
  intro k h1 h2
  rw [List.getElem_zipWith]
  exact mixPx_full (h _ (List.getElem_mem _)).1 (h _ (List.getElem_mem _)).2
theorem zip_clear {m : List Px} {n : Nat} (hn : m.length ≤ n) (h : ∀ x ∈ m, x.In) : List.zipWith mixPx (List.replicate n zPx) m = m := by
  apply List.ext_getElem (by simp; omega)
  intro k h1 h2
  rw [List.getElem_zipWith, List.getElem_replicate]
  exact mixPx_clear (h _ (List.getElem_mem _))
theorem zip_none {l : List Px} {n : Nat} (hn : l.length ≤ n) (h : ∀ x ∈ l, x.In) : (List.zipWith mixPx l (List.replicate n zPx)).map Px.be = l.map Px.be ∧ (List.zipWith mixPx l (List.replicate n zPx)).map Px.al = l.map Px.al := by
  constructor
  all_goals
    apply List.ext_getElem (by simp; omega)
    intro k h1 h2
    rw [List.getElem_map, List.getElem_map, List.getElem_zipWith, List.getElem_replicate]
  · exact (mixPx_none (h _ (List.getElem_mem _))).1
  · exact (mixPx_none (h _ (List.getElem_mem _))).2
/-- What all this answers of images that may be. -/
theorem over_ok {w h : Int} {l m : List Px} (gl : GoodP w h l) (gm : GoodP w h m) : over4 (ofPx w h l) (ofPx w h m) = (ofPx w h (List.zipWith mixPx l m), 0) := by
  unfold over4
  rw [if_neg (by rw [good_chk gl]; simp), if_neg (by rw [good_chk gm]; simp), if_neg (by simp [ofPx])]
  unfold overI
  rw [pxs_of, pxs_of]; rfl
end Go.UM

/- The statements of chapter 38, part 2. -/



namespace Go.UM
open Go.AM
set_option maxRecDepth 4000

theorem works38_c {R : Env} (h : N110 R) : R.Pc 110 [] (.bool true) :=
  h.o110.enter 60 rfl fun X bb hfit hp => by
    refine sh ?_
    refine ICall.pure h.n109.o109.hb (mix_c h.n109 10 65535 65535) rfl ?_
    refine sh ?_
    refine acnd_t (by decide) ?_
    refine sh ?_
    refine ICall.pure h.n109.o109.hb (mix_c h.n109 0 65535 0) rfl ?_
    refine sh ?_
    exact rT
theorem few30_c {R : Env} (h : N135 R) (i : Im) : R.Pc 135 [.agg i.row] (.agg i.few.row) :=
  h.o135.enter 60 rfl fun X bb hfit hp => by
    refine sh ?_
    refine asub_eq (by exact cap3 i.be 20) ?_
    refine sh ?_
    refine asub_eq (by exact cap3 i.no 20) ?_
    refine sh ?_
    refine asub_eq (by exact capK .i64 i.al 20) ?_
    refine sh ?_
    refine asub_eq (by exact capK .i64 i.de 20) ?_
    refine sh ?_
    refine asub_eq (by exact capK .i64 i.as 20) ?_
    refine sh ?_
    refine asub_eq (by exact capK .i64 i.la 20) ?_
    refine sh ?_
    exact rT
theorem few38_c {R : Env} (h : N112 R) (i : Im) : R.Pc 112 [.agg i.row] (.agg i.few.row) :=
  h.o112.enter 60 rfl fun X bb hfit hp => by
    refine sh ?_
    refine ICall.pure h.n135.o135.hb (few30_c h.n135 i) rfl ?_
    refine sh ?_
    exact rT

theorem mixes_law {R : Env} (h : N121 R) (a b : Im) (n0 n1 n2 : Int) : R.Pc 121 [.agg a.row, .agg b.row, .agg [.int .i64 n0, .int .i64 n1, .int .i64 n2]] (.bool true) :=
  h.o121.enter 100 rfl fun X bb hfit hp => by
    refine sh ?_
    refine ICall.pure h.n112.o112.hb (few38_c h.n112 a) rfl ?_
    refine sh ?_
    refine ICall.pure h.n112.o112.hb (few38_c h.n112 b) rfl ?_
    have fa := few_few a
    have fb := few_few b
    generalize a.few = a at *
    generalize b.few = b at *
    refine sh ?_
    refine ICall.pure h.n119.o119.hb (over_c h.n119 a b fa fb) rfl ?_
    refine sh ?_
    refine ICall.pure h.n122.o122.hb (rover_c h.n122 a b fa fb) rfl ?_
    refine sh ?_
    refine ICall.pure h.n123.o123.hb (apart_c h.n123 a b fa fb) rfl ?_
    refine sh ?_
    refine ICall.pure h.n124.o124.hb (rapart_c h.n124 a b fa fb) rfl ?_
    refine sh ?_
    refine ICall.pure h.n109.o109.hb (mix_c h.n109 n0 n1 n2) rfl ?_
    refine sh ?_
    refine ICall.pure h.n125.o125.hb (rmix_c h.n125 n0 n1 n2) rfl ?_
    refine sh ?_
    refine acnd_t (by simp) ?_
    refine sh ?_
    refine ICall.pure h.n117.o117.hb (same29_c h.n117 (over4 a b).1 (few_over a b fa).short) rfl ?_
    refine sh ?_
    refine acnd_t (by simp) ?_
    refine sh ?_
    refine acnd_t (by simp) ?_
    refine sh ?_
    refine acnd_t (by simp) ?_
    refine sh ?_
    refine acnd_t (by simp) ?_
    refine sh ?_
    refine ICall.pure h.n110.o110.hb (works38_c h.n110) rfl ?_
    refine sh ?_
    exact rT

theorem crops_law {R : Env} (h : N111 R) (i p : Im) (x y w hh : Int) : R.Pc 111 [.agg i.row, .agg p.row, .agg [.int .i64 x, .int .i64 y, .int .i64 w, .int .i64 hh]] (.bool true) :=
  h.o111.enter 100 rfl fun X bb hfit hp => by
    refine sh ?_
    refine ICall.pure h.n112.o112.hb (few38_c h.n112 i) rfl ?_
    refine sh ?_
    refine ICall.pure h.n112.o112.hb (few38_c h.n112 p) rfl ?_
    have fi := few_few i
    have fp := few_few p
    generalize i.few = i at *
    generalize p.few = p at *
    refine sh ?_
    refine ICall.pure h.n113.o113.hb (crop_c h.n113 i x y w hh fi) rfl ?_
    refine sh ?_
    refine ICall.pure h.n114.o114.hb (rcrop_c h.n114 i x y w hh fi) rfl ?_
    refine sh ?_
    refine ICall.pure h.n115.o115.hb (put_c h.n115 i p x y fi fp) rfl ?_
    refine sh ?_
    refine ICall.pure h.n116.o116.hb (rput_c h.n116 i p x y fi fp) rfl ?_
    have s1 : (crop4 i x y w hh).1.Short := by
      unfold crop4
      split
      · exact few_zIm.short
      · split
        · exact few_zIm.short
        · rename_i h1 h2
          have ok := ichk_ok.1 (by simpa using h1)
          obtain ⟨w1, w2, w3, w4, w5, w6, w7, w8⟩ := within_iff.1 (by simpa using h2)
          have g1 := ok.w
          have g2 := ok.h
          have hm : w.toNat * hh.toNat ≤ 64 * 64 := Nat.mul_le_mul (by omega) (by omega)
          exact (few_px (by simp [cropL]; omega)).short
    have s2 : (put4 i p x y).1.Short := by
      unfold put4
      split
      · exact few_zIm.short
      · split
        · exact few_zIm.short
        · split
          · exact few_zIm.short
          · have := fi.al
            exact (few_px (by simp [putL, Im.pxs]; omega)).short
    refine sh ?_
    refine ICall.pure h.n117.o117.hb (same29_c h.n117 _ s1) rfl ?_
    refine sh ?_
    refine acnd_t (by simp) ?_
    refine sh ?_
    refine ICall.pure h.n117.o117.hb (same29_c h.n117 _ s2) rfl ?_
    refine sh ?_
    refine acnd_t (by simp) ?_
    refine sh ?_
    refine ICall.pure h.n110.o110.hb (works38_c h.n110) rfl ?_
    refine sh ?_
    exact rT

theorem stacks_law {R : Env} (h : N126 R) (l : List Im) (x y : Int) : R.Pc 126 [.isl 8 (slI l), .agg [.int .i64 x, .int .i64 y]] (.bool true) :=
  h.o126.enter 100 rfl fun X bb hfit hp => by
    refine sh ?_
    refine lPa 100 (fun k : Nat => k ≤ l.length ∧ k ≤ 5) (fun k => ⟨[(0, .isl 8 (slI l)), (3, .loc 0 1 0 0), (5, .osl 1 k), (6, .int .i64 k)], [(1, .arr (R.ty 16) 8 (slI ((l.take k).map Im.few))), (0, .var (R.ty 18) [.int .i64 x, .int .i64 y])], 2⟩) (fun k => 5 - k) (0) ?_ ?_
    · exact ⟨Nat.zero_le _, Nat.zero_le _⟩
    · intro k hk
      dsimp only
      have hff : ∀ i ∈ (l.take k).map Im.few, i.Few := fun i hi => by
        obtain ⟨j, _, rfl⟩ := List.mem_map.1 hi
        exact few_few j
      refine sh ?_
      refine cS (fun h1 => ?_) (fun h1 => ?_)
      · refine sh ?_
        refine cS (fun h2 => ?_) (fun h2 => ?_)
        · obtain ⟨i, hi⟩ : ∃ u_, l[k]? = some u_ := ⟨_, List.getElem?_eq_getElem (by first | omega | (simp <;> omega))⟩
          refine sh ?_
          refine eget_map hi ?_
          refine sh ?_
          refine ICall.pure h.n112.o112.hb (few38_c h.n112 i) rfl ?_
          refine sh ?_
          refine nX (k + 1) ?_ ?_ ⟨_, hp, rfl⟩ ?_ ?_
          · omega
          · omega
          · all_goals repeat' (first | exact True.intro | refine And.intro ?_ ?_ | (intro _u; clear _u) | (with_reducible first | refine eM ?_ ?_ | refine eF ?_ ?_ ?_ | refine eN ?_ | refine eL ?_ ?_ ?_ | refine eA ?_ ?_ | refine IWk.mk ⟨_, hp, rfl⟩ ?_ ?_) | refine IWk.mk ⟨_, hp, rfl⟩ ?_ ?_)
            all_goals first | with_reducible rfl | omega | exact Or.inl (by decide) | (simp; done) | rfl | skip
            all_goals (simp; omega)
          · all_goals repeat' (first | exact True.intro | refine And.intro ?_ ?_ | (intro _u; clear _u) | (with_reducible first | refine eM ?_ ?_ | refine eF ?_ ?_ ?_ | refine eN ?_ | refine eL ?_ ?_ ?_ | refine eA ?_ ?_ | refine IWk.mk ⟨_, hp, rfl⟩ ?_ ?_) | refine IWk.mk ⟨_, hp, rfl⟩ ?_ ?_)
            all_goals first | with_reducible rfl | omega | exact Or.inl (by decide) | (simp; done) | rfl | skip
            · rw [take_succ_get hi]; simp [slI]
            · right; simp [Im.few, Im.row]
        · refine sh ?_
          refine ICall.let [1] rfl hp rfl ?_
          repeat ((intro _u; clear _u); first | refine eZ ?_ | refine eZ ?_ (by simp; omega) | refine FrzC.drop ?_)
          refine sh ?_
          refine ICall.pure h.n127.o127.hb (stack_c h.n127 ((l.take k).map Im.few) hff (by simp; omega)) rfl ?_
          refine sh ?_
          refine ICall.pure h.n128.o128.hb (rstack_c h.n128 ((l.take k).map Im.few) hff (by simp; omega)) rfl ?_
          refine sh ?_
          refine ICall.pure h.n129.o129.hb (clear_c h.n129 x y) rfl ?_
          refine sh ?_
          refine ICall.pure h.n130.o130.hb (rclear_c h.n130 x y) rfl ?_
          refine sh ?_
          refine ICall.pure h.n117.o117.hb (same29_c h.n117 _ (few_stack _ hff).short) rfl ?_
          refine sh ?_
          refine acnd_t (by simp) ?_
          refine sh ?_
          refine ICall.pure h.n117.o117.hb (same29_c h.n117 _ (few_clear x y).short) rfl ?_
          refine sh ?_
          refine acnd_t (by simp) ?_
          refine sh ?_
          refine ICall.pure h.n110.o110.hb (works38_c h.n110) rfl ?_
          refine sh ?_
          exact rT
      · refine sh ?_
        refine ICall.let [1] rfl hp rfl ?_
        repeat ((intro _u; clear _u); first | refine eZ ?_ | refine eZ ?_ (by simp; omega) | refine FrzC.drop ?_)
        refine sh ?_
        refine ICall.pure h.n127.o127.hb (stack_c h.n127 ((l.take k).map Im.few) hff (by simp; omega)) rfl ?_
        refine sh ?_
        refine ICall.pure h.n128.o128.hb (rstack_c h.n128 ((l.take k).map Im.few) hff (by simp; omega)) rfl ?_
        refine sh ?_
        refine ICall.pure h.n129.o129.hb (clear_c h.n129 x y) rfl ?_
        refine sh ?_
        refine ICall.pure h.n130.o130.hb (rclear_c h.n130 x y) rfl ?_
        refine sh ?_
        refine ICall.pure h.n117.o117.hb (same29_c h.n117 _ (few_stack _ hff).short) rfl ?_
        refine sh ?_
        refine acnd_t (by simp) ?_
        refine sh ?_
        refine ICall.pure h.n117.o117.hb (same29_c h.n117 _ (few_clear x y).short) rfl ?_
        refine sh ?_
        refine acnd_t (by simp) ?_
        refine sh ?_
        refine ICall.pure h.n110.o110.hb (works38_c h.n110) rfl ?_
        refine sh ?_
        exact rT

theorem im_zero : (zIm.row) = [.int .i64 0, .int .i64 0, .isl 3 [], .isl 1 [], .isl 1 [], .isl 3 [], .isl 1 [], .isl 1 []] := rfl
def Im.solid (i : Im) : Im := ⟨i.w, i.h, i.be, List.replicate i.al.length 65535, i.de, i.no, i.as, i.la⟩
theorem solid_few {i : Im} (f : i.Few) : i.solid.Few := ⟨f.be, by have := f.al; simp [Im.solid]; exact this, f.de, f.no, f.as, f.la⟩
theorem solid_over {a b : Im} (h : (over4 a.solid b).2 = 0) : over4 a.solid b = (a.solid, 0) := by
  have hz : ichk a.solid = 0 ∧ ichk b = 0 ∧ a.solid.w = b.w ∧ a.solid.h = b.h := by
    unfold over4 at h
    split at h
    · rename_i h1; exact (h1 h).elim
    · split at h
      · rename_i h1 h2; exact (h2 h).elim
      · split at h
        · cases h
        · rename_i h1 h2 h3
          simp only [not_or, Decidable.not_not] at h1 h2 h3
          exact ⟨h1, h2, h3.1, h3.2⟩
  obtain ⟨h1, h2, h3, h4⟩ := hz
  obtain ⟨ea, ga⟩ := (ichk_ok.1 h1).good
  obtain ⟨eb, gb⟩ := (ichk_ok.1 h2).good
  rw [← h3, ← h4] at eb gb
  have hal : a.solid.al = List.replicate a.al.length 65535 := rfl
  generalize a.solid = s at *
  generalize s.pxs = l at *
  generalize b.pxs = m at *
  generalize s.w = w at *
  generalize s.h = hh at *
  rw [ea] at hal ⊢
  rw [eb]
  have l1 := ga.len
  have l2 := gb.len
  rw [over_ok ga gb, zip_full (by omega)]
  intro x hx
  refine ⟨ga.px x hx, ?_⟩
  have : x.al ∈ (ofPx w hh l).al := List.mem_map_of_mem hx
  rw [hal] at this
  exact (List.mem_replicate.1 this).2

theorem hides_law {R : Env} (h : N118 R) (a b : Im) : R.Pc 118 [.agg a.row, .agg b.row] (.bool true) :=
  h.o118.enter 100 rfl fun X bb hfit hp => by
    refine sh ?_
    refine ICall.pure h.n112.o112.hb (few38_c h.n112 a) rfl ?_
    refine sh ?_
    refine ICall.pure h.n112.o112.hb (few38_c h.n112 b) rfl ?_
    have fa := few_few a
    have fb := few_few b
    generalize a.few = a at *
    generalize b.few = b at *
    have hl := fa.al
    refine sh ?_
    refine lPa 100 (fun k : Nat => k ≤ a.al.length) (fun k => ⟨[(2, .loc 0 1 0 0), (3, .loc 1 1 0 0), (5, .osl 2 k), (14, .int .i64 a.al.length), (15, .int .i64 k)], [(2, .arr (R.ty 10) 1 (slcK .i64 (List.replicate k 65535))), (1, .var (R.ty 16) b.row), (0, .var (R.ty 16) a.row)], 3⟩) (fun k => a.al.length - k) (0) ?_ ?_
    · exact Nat.zero_le _
    · intro k hk
      dsimp only
      refine sh ?_
      refine cS (fun h1 => ?_) (fun h1 => ?_)
      · refine sh ?_
        refine nX (k + 1) ?_ ?_ ⟨_, hp, rfl⟩ ?_ ?_
        · omega
        · omega
        · all_goals repeat' (first | exact True.intro | refine And.intro ?_ ?_ | (intro _u; clear _u) | (with_reducible first | refine eM ?_ ?_ | refine eF ?_ ?_ ?_ | refine eN ?_ | refine eL ?_ ?_ ?_ | refine eA ?_ ?_ | refine IWk.mk ⟨_, hp, rfl⟩ ?_ ?_) | refine IWk.mk ⟨_, hp, rfl⟩ ?_ ?_)
          all_goals first | with_reducible rfl | omega | exact Or.inl (by decide) | (simp; done) | rfl | skip
          all_goals (simp; omega)
        · all_goals repeat' (first | exact True.intro | refine And.intro ?_ ?_ | (intro _u; clear _u) | (with_reducible first | refine eM ?_ ?_ | refine eF ?_ ?_ ?_ | refine eN ?_ | refine eL ?_ ?_ ?_ | refine eA ?_ ?_ | refine IWk.mk ⟨_, hp, rfl⟩ ?_ ?_) | refine IWk.mk ⟨_, hp, rfl⟩ ?_ ?_)
          all_goals first | with_reducible rfl | omega | exact Or.inl (by decide) | (simp; done) | rfl | skip
          all_goals (rw [List.replicate_succ']; simp [slcK])
      · have hk : k = a.al.length := by omega
        subst hk
        refine sh ?_
        refine ICall.let [2] rfl hp rfl ?_
        repeat ((intro _u; clear _u); first | refine eZ ?_ | refine eZ ?_ (by simp; omega) | refine FrzC.drop ?_)
        have fs := solid_few fa
        refine sh ?_
        refine ICall.pure h.n119.o119.hb (over_c h.n119 a.solid b fs fb) rfl ?_
        by_cases he : (over4 a.solid b).2 = 0
        · rw [solid_over he]
          refine sh ?_
          refine acnd_f (by rfl) ?_
          refine sh ?_
          refine ICall.pure h.n120.o120.hb (fsame_c h.n120 a.solid fs.short) rfl ?_
          refine sh ?_
          refine ICall.pure h.n110.o110.hb (works38_c h.n110) rfl ?_
          refine sh ?_
          exact rT
        · rw [over_bad he]
          refine sh ?_
          refine acnd_t (by simpa using he) ?_
          refine sh ?_
          refine ICall.lend rfl h.n120.o120.hb (fsame_c h.n120 zIm few_zIm.short) ?_ rfl ?_
          · all_goals repeat' (first | exact True.intro | refine And.intro ?_ ?_ | (intro _u; clear _u) | (with_reducible first | refine eM ?_ ?_ | refine eF ?_ ?_ ?_ | refine eN ?_ | refine eL ?_ ?_ ?_ | refine eA ?_ ?_ | refine IWk.mk ⟨_, hp, rfl⟩ ?_ ?_) | refine IWk.mk ⟨_, hp, rfl⟩ ?_ ?_)
            all_goals first | with_reducible rfl | omega | exact Or.inl (by decide) | (simp; done) | rfl | skip
          refine sh ?_
          refine ICall.pure h.n110.o110.hb (works38_c h.n110) rfl ?_
          refine sh ?_
          exact rT

theorem chk_zIm : ichk zIm ≠ 0 := by decide
theorem clear_bad {w hh : Int} (h : ¬ ((1 ≤ w ∧ w ≤ 64) ∧ (1 ≤ hh ∧ hh ≤ 64))) : clear4 w hh = (zIm, 2) := by rw [clear4, if_neg h]
theorem clear_first {a : Im} (h : ichk a ≠ 0) : over4 (clear4 a.w a.h).1 a = (zIm, (over4 (clear4 a.w a.h).1 a).2) ∧ (over4 (clear4 a.w a.h).1 a).2 ≠ 0 := by
  have : (over4 (clear4 a.w a.h).1 a).2 ≠ 0 := by
    unfold over4
    split
    · assumption
    · exact h
  exact ⟨over_bad this, this⟩

theorem clear_law {R : Env} (h : N131 R) (a : Im) : R.Pc 131 [.agg a.row] (.bool true) :=
  h.o131.enter 100 rfl fun X bb hfit hp => by
    refine sh ?_
    refine ICall.pure h.n112.o112.hb (few38_c h.n112 a) rfl ?_
    have fa := few_few a
    generalize a.few = a at *
    refine sh ?_
    refine ICall.pure h.n129.o129.hb (clear_c h.n129 a.w a.h) rfl ?_
    refine sh ?_
    refine ICall.pure h.n119.o119.hb (over_c h.n119 (clear4 a.w a.h).1 a (few_clear _ _) fa) rfl ?_
    have c1 := planes_c h.n132 a fa
    rw [planes_e] at c1
    refine sh ?_
    refine ICall.pure h.n132.o132.hb c1 rfl ?_
    by_cases ha : ichk a = 0
    · obtain ⟨ea, ga⟩ := (ichk_ok.1 ha).good
      generalize a.pxs = l at *
      generalize a.w = w at *
      generalize a.h = hh at *
      subst ea
      obtain ⟨n, hn, e, gc⟩ := clear_ok (w := w) (h := hh) ⟨ga.hw, ga.hh⟩
      have l1 := ga.len
      have l2 := ga.few
      have hln : l.length = n := by omega
      have ov1 := over_ok gc ga
      rw [zip_clear (by omega) ga.px] at ov1
      have ov2 := over_ok ga gc
      have zn := zip_none (l := l) (n := n) (by omega) ga.px
      rw [e, ov1]
      refine sh ?_
      refine acnd_f (by simpa using ha) ?_
      refine sh ?_
      refine acnd_f (by rfl) ?_
      refine sh ?_
      refine acnd_f (by rfl) ?_
      refine sh ?_
      refine ICall.pure h.n120.o120.hb (fsame_c h.n120 _ fa.short) rfl ?_
      refine sh ?_
      refine acnd_f (by (simp [ofPx])) ?_
      have c2 := over_c h.n119 (ofPx w hh l) (ofPx w hh (List.replicate n zPx)) fa (few_good gc)
      rw [ov2] at c2
      refine sh ?_
      refine ICall.pure h.n119.o119.hb c2 rfl ?_
      refine sh ?_
      refine acnd_f (by rfl) ?_
      refine sh ?_
      refine acnd_f (by (simp [ofPx]; omega)) ?_
      refine sh ?_
      refine acnd_f (by (simp [ofPx]; omega)) ?_
      generalize List.zipWith mixPx l (List.replicate n zPx) = z at *
      refine sh ?_
      refine ILoop.inv 100 (fun k : Nat => k ≤ n) (fun k => ⟨[(1, .loc 0 1 0 0), (9, .loc 3 1 0 0), (97, .isl 1 (slcK .i64 (l.map Px.al))), (98, .int .i64 n), (99, .int .i64 k)], [(3, .var (R.ty 16) [.int .i64 w, .int .i64 hh, .isl 3 (slc3 (l.map Px.be)), .isl 1 (slcK .i64 (l.map Px.al)), .isl 1 (slcK .i64 (z.map Px.de)), .isl 3 (slc3 (z.map Px.no)), .isl 1 (slcK .i64 (z.map Px.as)), .isl 1 (slcK .i64 (z.map Px.la))]), (0, .var (R.ty 16) (pxr w hh l))], 4⟩) (fun k => n - k) (0) ?_ ⟨⟨_, hp, rfl⟩, ?_, ?_⟩ ?_
      · exact Nat.zero_le _
      · all_goals repeat' (first | exact True.intro | refine And.intro ?_ ?_ | (intro _u; clear _u) | (with_reducible first | refine eM ?_ ?_ | refine eF ?_ ?_ ?_ | refine eN ?_ | refine eL ?_ ?_ ?_ | refine eA ?_ ?_ | refine IWk.mk ⟨_, hp, rfl⟩ ?_ ?_) | refine IWk.mk ⟨_, hp, rfl⟩ ?_ ?_)
        all_goals first | with_reducible rfl | omega | exact Or.inl (by decide) | (simp; done) | rfl | skip
        all_goals (simp [ofPx]; omega)
      · all_goals repeat' (first | exact True.intro | refine And.intro ?_ ?_ | (intro _u; clear _u) | (with_reducible first | refine eM ?_ ?_ | refine eF ?_ ?_ ?_ | refine eN ?_ | refine eL ?_ ?_ ?_ | refine eA ?_ ?_ | refine IWk.mk ⟨_, hp, rfl⟩ ?_ ?_) | refine IWk.mk ⟨_, hp, rfl⟩ ?_ ?_)
        all_goals first | with_reducible rfl | omega | exact Or.inl (by decide) | (simp; done) | rfl | skip
        · rw [← zn.1]; rfl
        · rw [← zn.2]; rfl
      · intro k hk
        dsimp only
        refine sh ?_
        refine cS (fun h1 => ?_) (fun h1 => ?_)
        · obtain ⟨x, hx⟩ : ∃ x, l[k]? = some x := ⟨_, List.getElem?_eq_getElem (by omega)⟩
          refine sh ?_
          refine eget_map (gal hx) ?_
          refine sh ?_
          refine eget_map (gal hx) ?_
          refine sh ?_
          refine acnd_f (by simp) ?_
          refine sh ?_
          refine eget_map (gbe hx) ?_
          refine sh ?_
          refine eget_map (gbe hx) ?_
          refine sh ?_
          refine acnd_f (by simp) ?_
          refine sh ?_
          refine nXa (k + 1) ?_ ?_
          · omega
          · omega
        · have ap : apart4 (ofPx w hh l) (ofPx w hh l) = ((0, 0), 0) := by
            unfold apart4
            rw [if_neg (by simpa using ha), if_neg (by simpa using ha), if_neg (by simp), pxs_of, apF_self ga.px]
          have c3 := apart_c h.n123 (ofPx w hh l) (ofPx w hh l) fa fa
          rw [ap] at c3
          refine sh ?_
          refine ICall.pure h.n123.o123.hb c3 rfl ?_
          refine sh ?_
          refine acnd_t (by rfl) ?_
          refine sh ?_
          refine acnd_t (by rfl) ?_
          refine sh ?_
          refine acnd_t (by rfl) ?_
          refine sh ?_
          refine ICall.pure h.n110.o110.hb (works38_c h.n110) rfl ?_
          refine sh ?_
          exact rT
    · obtain ⟨ov, hv⟩ := clear_first ha
      rw [ov]
      refine sh ?_
      refine acnd_t (by simpa using ha) ?_
      refine sh ?_
      refine acnd_t (by simpa using hv) ?_
      refine sh ?_
      refine ICall.lend rfl h.n120.o120.hb (fsame_c h.n120 zIm few_zIm.short) ?_ rfl ?_
      · all_goals repeat' (first | exact True.intro | refine And.intro ?_ ?_ | (intro _u; clear _u) | (with_reducible first | refine eM ?_ ?_ | refine eF ?_ ?_ ?_ | refine eN ?_ | refine eL ?_ ?_ ?_ | refine eA ?_ ?_ | refine IWk.mk ⟨_, hp, rfl⟩ ?_ ?_) | refine IWk.mk ⟨_, hp, rfl⟩ ?_ ?_)
        all_goals first | with_reducible rfl | omega | exact Or.inl (by decide) | (simp; done) | rfl | skip
      refine sh ?_
      refine ICall.pure h.n110.o110.hb (works38_c h.n110) rfl ?_
      refine sh ?_
      exact rT

theorem within_ok {W H w hh x y : Nat} {l : List Px} (h1 : 1 ≤ w ∧ 1 ≤ hh) (h2 : x + w ≤ W) (h3 : y + hh ≤ H) : within (ofPx W H l) x y w hh = true := by
  rw [within_iff]; simp only [ofPx]; omega
theorem put_ok {W H w hh x y : Nat} {l q : List Px} (g : GoodP W H l) (gq : GoodP w hh q) (h2 : x + w ≤ W) (h3 : y + hh ≤ H) : put4 (ofPx W H l) (ofPx w hh q) x y = (ofPx W H (putL W l q x y w hh (w * hh)), 0) := by
  have g1 := gq.hw
  have g2 := gq.hh
  unfold put4
  rw [if_neg (by rw [good_chk g]; simp), if_neg (by rw [good_chk gq]; simp), if_neg (by
    have := within_ok (l := l) (x := x) (y := y) (w := w) (hh := hh) (W := W) (H := H) (by omega) h2 h3
    simp only [ofPx] at this ⊢; rw [this]; simp), pxs_of, pxs_of]
  simp [ofPx]
theorem crop_ok {W H w hh x y : Nat} {l : List Px} (g : GoodP W H l) (h1 : 1 ≤ w ∧ 1 ≤ hh) (h2 : x + w ≤ W) (h3 : y + hh ≤ H) : crop4 (ofPx W H l) x y w hh = (ofPx w hh (cropL W l x y w hh), 0) := by
  unfold crop4
  rw [if_neg (by rw [good_chk g]; simp), if_neg (by rw [within_ok h1 h2 h3]; simp), pxs_of]
  simp [ofPx]
theorem put_inv {i p : Im} {x y : Int} (h : (put4 i p x y).2 = 0) : ∃ (W H w hh x' y' : Nat) (l q : List Px), i = ofPx W H l ∧ p = ofPx w hh q ∧ x = x' ∧ y = y' ∧ GoodP W H l ∧ GoodP w hh q ∧ x' + w ≤ W ∧ y' + hh ≤ H := by
  have hz : ichk i = 0 ∧ ichk p = 0 ∧ within i x y p.w p.h = true := by
    unfold put4 at h
    split at h
    · rename_i h1; exact (h1 h).elim
    · split at h
      · rename_i h1 h2; exact (h2 h).elim
      · split at h
        · cases h
        · rename_i h1 h2 h3
          exact ⟨by simpa using h1, by simpa using h2, by simpa using h3⟩
  obtain ⟨h1, h2, h3⟩ := hz
  obtain ⟨w1, w2, w3, w4, w5, w6, w7, w8⟩ := within_iff.1 h3
  obtain ⟨ei, gi⟩ := (ichk_ok.1 h1).good
  obtain ⟨ep, gp⟩ := (ichk_ok.1 h2).good
  generalize i.pxs = l at *
  generalize p.pxs = q at *
  generalize i.w = W at *
  generalize i.h = H at *
  generalize p.w = w at *
  generalize p.h = hh at *
  obtain ⟨x, rfl⟩ := Int.eq_ofNat_of_zero_le w1
  obtain ⟨y, rfl⟩ := Int.eq_ofNat_of_zero_le w2
  obtain ⟨w, rfl⟩ := Int.eq_ofNat_of_zero_le (show 0 ≤ w by omega)
  obtain ⟨hh, rfl⟩ := Int.eq_ofNat_of_zero_le (show 0 ≤ hh by omega)
  obtain ⟨W, rfl⟩ := Int.eq_ofNat_of_zero_le (show 0 ≤ W by omega)
  obtain ⟨H, rfl⟩ := Int.eq_ofNat_of_zero_le (show 0 ≤ H by omega)
  exact ⟨W, H, w, hh, x, y, l, q, ei, ep, rfl, rfl, gi, gp, by omega, by omega⟩
theorem put_bad {i p : Im} {x y : Int} (h : (put4 i p x y).2 ≠ 0) : put4 i p x y = (zIm, (put4 i p x y).2) := by
  unfold put4 at h ⊢
  split
  · rfl
  · split
    · rfl
    · split
      · rfl
      · rename_i h1 h2 h3
        rw [if_neg h1, if_neg h2, if_neg h3] at h
        exact (h rfl).elim
theorem good_len {W H : Nat} {l : List Px} (g : GoodP W H l) : l.length = W * H := by have := g.len; rw [← Int.natCast_mul] at this; exact Int.ofNat.inj this

theorem back_law {R : Env} (h : N133 R) (i p : Im) (x y : Int) : R.Pc 133 [.agg i.row, .agg p.row, .agg [.int .i64 x, .int .i64 y]] (.bool true) :=
  h.o133.enter 100 rfl fun X bb hfit hp => by
    refine sh ?_
    refine ICall.pure h.n112.o112.hb (few38_c h.n112 i) rfl ?_
    refine sh ?_
    refine ICall.pure h.n112.o112.hb (few38_c h.n112 p) rfl ?_
    have fi := few_few i
    have fp := few_few p
    generalize i.few = i at *
    generalize p.few = p at *
    have c1 := put_c h.n115 i p x y fi fp
    by_cases he : (put4 i p x y).2 = 0
    · obtain ⟨W, H, w, hh, x, y, l, q, rfl, rfl, rfl, rfl, g, gq, h2, h3⟩ := put_inv he
      have g1 := gq.hw
      have g2 := gq.hh
      have hl := good_len g
      have hq := good_len gq
      have h1 : 1 ≤ w ∧ 1 ≤ hh := by omega
      have gP : GoodP W H (putL W l q x y w hh (w * hh)) := good_put g gq
      have gZ : GoodP w hh (cropL W l x y w hh) := good_crop g h1 h2 h3
      rw [put_ok g gq h2 h3] at c1
      refine sh ?_
      refine ICall.pure h.n115.o115.hb c1 rfl ?_
      refine sh ?_
      refine acnd_f (by rfl) ?_
      have c2 := crop_c h.n113 (ofPx W H (putL W l q x y w hh (w * hh))) x y w hh (few_good gP)
      rw [crop_ok gP h1 h2 h3, crop_put hl hq h2 h3] at c2
      refine sh ?_
      refine ICall.pure h.n113.o113.hb c2 rfl ?_
      have c3 := crop_c h.n113 (ofPx W H l) x y w hh fi
      rw [crop_ok g h1 h2 h3] at c3
      refine sh ?_
      refine ICall.pure h.n113.o113.hb c3 rfl ?_
      have c4 := put_c h.n115 (ofPx W H (putL W l q x y w hh (w * hh))) (ofPx w hh (cropL W l x y w hh)) x y (few_good gP) (few_good gZ)
      rw [put_ok gP gZ h2 h3, put_crop hl h2 h3] at c4
      refine sh ?_
      refine ICall.pure h.n115.o115.hb c4 rfl ?_
      have ap : apart4 (ofPx W H (putL W l q x y w hh (w * hh))) (ofPx W H l) = ((((ndif (putL W l q x y w hh (w * hh)) l : Nat) : Int), (apF (putL W l q x y w hh (w * hh)) l (putL W l q x y w hh (w * hh)).length).2), 0) := by
        unfold apart4
        rw [if_neg (by rw [good_chk gP]; simp), if_neg (by rw [good_chk g]; simp), if_neg (by simp [ofPx]), pxs_of, pxs_of, ← apF_fst (by simp [putL])]
      have hn := ndif_put (W := W) (l := l) (q := q) (x := x) (y := y) hq h2 (w * hh) (Nat.le_refl _)
      have hm : w * hh ≤ 64 * 64 := Nat.mul_le_mul (by omega) (by omega)
      have c5 := apart_c h.n123 _ _ (few_good gP) fi
      rw [ap] at c5
      refine sh ?_
      refine ICall.pure h.n123.o123.hb c5 rfl ?_
      refine sh ?_
      refine acnd_t (by rfl) ?_
      refine sh ?_
      refine ICall.pure h.n120.o120.hb (fsame_c h.n120 _ fp.short) rfl ?_
      refine sh ?_
      refine acnd_t (by rfl) ?_
      refine sh ?_
      refine acnd_t (by rfl) ?_
      refine sh ?_
      refine ICall.pure h.n120.o120.hb (fsame_c h.n120 _ fi.short) rfl ?_
      refine sh ?_
      refine acnd_t (by rfl) ?_
      have e1 : (w : Int) * hh = ((w * hh : Nat) : Int) := by rw [Int.natCast_mul]
      refine sh ?_
      refine iwr_eq (m := ((w * hh : Nat) : Int)) (by show wr .i64 ((w : Int) * hh) = _; rw [e1]; exact wr_nat (by omega)) ?_
      refine sh ?_
      refine acnd_t (by (simp only [decide_eq_true_eq]; exact Int.ofNat_le.2 hn)) ?_
      refine sh ?_
      refine ICall.pure h.n110.o110.hb (works38_c h.n110) rfl ?_
      refine sh ?_
      exact rT
    · rw [put_bad he] at c1
      refine sh ?_
      refine ICall.pure h.n115.o115.hb c1 rfl ?_
      refine sh ?_
      refine acnd_t (by simpa using he) ?_
      refine sh ?_
      refine ICall.lend rfl h.n120.o120.hb (fsame_c h.n120 zIm few_zIm.short) ?_ rfl ?_
      · all_goals repeat' (first | exact True.intro | refine And.intro ?_ ?_ | (intro _u; clear _u) | (with_reducible first | refine eM ?_ ?_ | refine eF ?_ ?_ ?_ | refine eN ?_ | refine eL ?_ ?_ ?_ | refine eA ?_ ?_ | refine IWk.mk ⟨_, hp, rfl⟩ ?_ ?_) | refine IWk.mk ⟨_, hp, rfl⟩ ?_ ?_)
        all_goals first | with_reducible rfl | omega | exact Or.inl (by decide) | (simp; done) | rfl | skip
      refine sh ?_
      refine ICall.pure h.n110.o110.hb (works38_c h.n110) rfl ?_
      refine sh ?_
      exact rT
end Go.UM

/- What comes in, opened. -/


namespace Go.UM
open Go.AM

theorem open8 {T : TT} {n e : Nat} {es : List (List AV)} (hT : T.d e = .int .u8) (h : ∀ r ∈ es, cty T (n + 1) e r) : ∃ l : List UInt8, es = slc8 l := by
  obtain ⟨l, rfl, _⟩ := rows_map (f := fun c : UInt8 => [AV.int .u8 c.toNat]) (p := fun _ => True) (es := es) fun r hr => by
    have h1 := h r hr
    simp only [cty, hT] at h1
    obtain ⟨x, rfl, hx⟩ := h1
    have hx := wf_in hx
    simp only [inI] at hx
    refine ⟨u8 x, ?_, trivial⟩
    rw [← wr_u8, wr_in (k := .u8) hx]
  exact ⟨l, rfl⟩

theorem openK {T : TT} {n e : Nat} {k : IntKind} {es : List (List AV)} (hT : T.d e = .int k) (h : ∀ r ∈ es, cty T (n + 1) e r) : ∃ l : List Int, es = slcK k l ∧ ∀ x ∈ l, inI k x := by
  obtain ⟨l, rfl, hl⟩ := rows_map (f := fun c : Int => [AV.int k c]) (p := fun c => inI k c) (es := es) fun r hr => by
    have h1 := h r hr
    simp only [cty, hT] at h1
    obtain ⟨x, rfl, hx⟩ := h1
    exact ⟨x, rfl, wf_in hx⟩
  exact ⟨l, rfl, hl⟩
end Go.UM
