/- Of the reckoning machine, and what is proved with it: texts joined by program. -/
import Derived.Test.YtahjfplikclhlaaGreatU1
import Derived.Test.YtahjfplikclhlaaGreatK3
import Derived.Test.YtahjfplikclhlaaGreatU0

namespace Go.UM
open Go.AM
set_option maxRecDepth 4000
def tk (e hd : Int) (l : List In) (i : Nat) : List In := (l.take i).filter (keepB e hd)
theorem tk_len (e hd : Int) (l : List In) (i : Nat) : (tk e hd l i).length <= l.length := Nat.le_trans (List.length_filter_le ..) (by simp; omega)
theorem tk_app {e hd : Int} {l : List In} {i : Nat} {x : In} (h : l[i]? = some x) (hp : keepB e hd x = true) : tk e hd l (i + 1) = tk e hd l i ++ [x] := by
 unfold tk; rw [List.take_add_one, h]; simp [List.filter_append, hp]
theorem tk_skip {e hd : Int} {l : List In} {i : Nat} {x : In} (h : l[i]? = some x) (hp : keepB e hd x = false) : tk e hd l (i + 1) = tk e hd l i := by
 unfold tk; rw [List.take_add_one, h]; simp [List.filter_append, hp]
theorem tk_one {e hd : Int} {l : List In} {i : Nat} {x : In} (h : l[i]? = some x) (hp : keepB e hd x = true) (h0 : tk e hd l i = []) : tk e hd l (i + 1) = [x] := by rw [tk_app h hp, h0]; rfl
theorem tk_all {e hd : Int} {l r : List In} {i : Nat} (h : l.length <= i) (hr : r = l.filter (keepB e hd)) : r = tk e hd l i := by unfold tk; rw [List.take_of_length_le h]; exact hr
set_option maxHeartbeats 8000000 in
theorem back18_c {R : Env} (h : N426 R) (K : KeysI R) (srt : List In -> List In) (S : SortI R srt) (hs : Srt srt) (l : List Ac) (y : In) (hd : Int) (hx : ∀ c ∈ l, c.i.t.I) (hy : y.t.I) : R.Pz true 426 [.isl 57 (slAc l), .agg y.row, .int .i64 hd] (.bool true) :=
 h.o426.enterW 200 rfl fun X bb hfit hp hz => by
   refine sh ?_
   refine cM false [] (tnew_c h.n345) ?_
   repeat (intro _; first | refine eK ?_ | refine eP ?_)
   refine sh ?_
   refine lPa 200 (fun s : Nat × Tb => s.1 <= 25 /\ TbOk s.2 s.1) (fun s => ⟨[(0, .isl 57 (slAc l)), (2, .int .i64 hd), (4, .loc 0 1 0 0), (7, .loc 3 1 0 0), (8, .int .i64 s.1)], [(0, .var (R.ty 44) y.row), (1, .map 1 false true false 41 (rwL s.2.rows)), (2, .map 4 true true false 16 (sIn s.2.ins)), (3, .var (R.ty 47) [.omap 1, .omap 2])], 4⟩) (fun s => 25 - s.1) ((0, ⟨[], []⟩)) ?_ ?_
   . exact ⟨Nat.zero_le _, tbOk_new⟩
   . rintro ⟨i, t⟩ ⟨hi, ok⟩
     dsimp only at hi ok ⊢
     have ok2 : TbOk (tunload t hd).1 i := tunload_ok ok
     have hl : isort (tunload t hd).1.ins = (isort t.ins).filter (keepB (tunload t hd).2 hd) := tunload_left ok.nd hd
     have lenN : (isort t.ins).length <= 1000000 := by rw [isort_length]; have := ok.il; omega
     have lenR : (rsort t.rows).length <= 1000000 := by rw [rsort_length]; have := ok.rl; omega
     have hrow : (((tunload t hd).2 == 0) == (((rsort (tunload t hd).1.rows).length : Int) == ((rsort t.rows).length : Int) - 1)) = true := by
       rw [beq_iff_eq, Bool.eq_iff_iff, beq_iff_eq, beq_iff_eq, rsort_length, rsort_length]; exact tunload_rows t hd
     refine sh ?_
     refine cS (fun h1 => ?_) (fun h1 => ?_)
     refine sh ?_
     refine cS (fun h2 => ?_) (fun h2 => ?_)
     . obtain ⟨c, hc⟩ : ∃ u_, l[i]? = some u_ := ⟨_, List.getElem?_eq_getElem (by first | omega | (simp <;> omega))⟩
       refine sh ?_
       refine eget_map hc ?_
       refine sh ?_
       refine ICall.pure h.n420.o420.hb (few18_c h.n420 c) rfl ?_
       refine sh ?_
       refine cM false [1, 2, 3] (tdo_c h.n421 false false t c.few ok (by omega) (few_x c) (few_b c) (hx c (List.mem_of_getElem? hc))) ?_
       repeat (intro _; first | refine eK ?_ | refine eP ?_)
       refine sh ?_
       refine nXa ((i + 1, (tdo t c.few).1)) ?_ ?_
       . exact ⟨by omega, tdo_ok ok (few_x c)⟩
       . dsimp only; omega
     all_goals
       refine sh ?_
       refine cM false [1, 2, 3] (trows_c h.n418 K false false t ok (by omega)) ?_
       repeat (intro _; first | refine eK ?_ | refine eP ?_)
       refine sh ?_
       refine cM false [1, 2, 3] (tinsts_c h.n419 srt S hs false false t ok.nd (by have := ok.il; omega)) ?_
       repeat (intro _; first | refine eK ?_ | refine eP ?_)
       refine sh ?_
       refine cM false [1, 2, 3] (tput_c h.n347 false false t y ok.row hy (by have := ok.il; omega)) ?_
       repeat (intro _; first | refine eK ?_ | refine eP ?_)
       refine sh ?_
       refine cS (fun h3 => ?_) (fun h3 => ?_)
       . obtain ⟨e1, e2, e3⟩ := tput_ins h3
         have okp : TbOk ⟨t.rows, t.ins ++ [y]⟩ (i + 1) := by rw [<- e1]; exact tput_ok ok
         have c2 := tput_c h.n347 false false ⟨t.rows, t.ins ++ [y]⟩ y ok.row hy (by have := okp.il; dsimp only at this ⊢; omega)
         rw [tput_err (by rw [e3]; decide), e3] at c2
         have c3 := ttake_c h.n427 false false ⟨t.rows, t.ins ++ [y]⟩ y
         rw [ttake_back e2] at c3
         rw [e1]
         dsimp only
         refine sh ?_
         refine cM false [1, 2, 3] (c2) ?_
         repeat (intro _; first | refine eK ?_ | refine eP ?_)
         refine sh ?_
         refine acnd_f (by rfl) ?_
         refine sh ?_
         refine cM false [1, 2, 3] (tinsts_c h.n419 srt S hs false false ⟨t.rows, t.ins ++ [y]⟩ okp.nd (by have := okp.il; dsimp only at this ⊢; omega)) ?_
         repeat (intro _; first | refine eK ?_ | refine eP ?_)
         refine sh ?_
         refine acnd_f (by simp [isort_length]) ?_
         refine sh ?_
         refine cM false [1, 2, 3] (c3) ?_
         repeat (intro _; first | refine eK ?_ | refine eP ?_)
         refine sh ?_
         refine acnd_f (by rfl) ?_
         refine sh ?_
         refine cM false [1, 2, 3] (trows_c h.n418 K false false t ok (by omega)) ?_
         repeat (intro _; first | refine eK ?_ | refine eP ?_)
         refine sh ?_
         refine cM true [] ((sameR_c h.n422 (rsort t.rows) (by rw [rsort_length]; have := ok.rl; omega) (fun r hr => achk_few (ok.row r (rsort_mem.1 hr)).a (ok.row r (rsort_mem.1 hr)).x)).mc h.n422.o422.hb) ?_
         repeat (intro _; first | refine eK ?_ | refine eP ?_)
         refine sh ?_
         refine cM false [1, 2, 3] (tinsts_c h.n419 srt S hs false false t ok.nd (by have := ok.il; omega)) ?_
         repeat (intro _; first | refine eK ?_ | refine eP ?_)
         refine sh ?_
         refine cM true [] ((sameI_c h.n343 (isort t.ins) (by rw [isort_length]; have := ok.il; omega)).mc h.n343.o343.hb) ?_
         repeat (intro _; first | refine eK ?_ | refine eP ?_)
         refine sh ?_
         refine cM false [1, 2, 3] (tunload_c h.n428 false false t ok.nd hd) ?_
         repeat (intro _; first | refine eK ?_ | refine eP ?_)
         refine sh ?_
         refine lPa 200 (Sum.elim (fun i : Nat => i <= (isort t.ins).length /\ tk (tunload t hd).2 hd (isort t.ins) i = []) (fun i : Nat => i <= (isort t.ins).length)) (Sum.elim (fun i => ⟨[(2, .int .i64 hd), (7, .loc 3 1 0 0), (9, .osl 4 (rsort t.rows).length), (11, .int .i64 (tunload t hd).2), (12, .nils), (77, .osl 5 (isort t.ins).length), (78, .int .i64 (isort t.ins).length), (79, .int .i64 i)], [(1, .map 1 false true false 41 (rwL (tunload t hd).1.rows)), (2, .map 4 true true false 16 (sIn (tunload t hd).1.ins)), (3, .var (R.ty 47) [.omap 1, .omap 2]), (4, .arr (R.ty 45) 40 (slR (rsort t.rows))), (5, .arr (R.ty 44) 16 (sIn (isort t.ins)))], 9⟩) (fun i => ⟨[(2, .int .i64 hd), (7, .loc 3 1 0 0), (9, .osl 4 (rsort t.rows).length), (11, .int .i64 (tunload t hd).2), (12, .osl 9 (tk (tunload t hd).2 hd (isort t.ins) i).length), (77, .osl 5 (isort t.ins).length), (78, .int .i64 (isort t.ins).length), (79, .int .i64 i)], [(1, .map 1 false true false 41 (rwL (tunload t hd).1.rows)), (2, .map 4 true true false 16 (sIn (tunload t hd).1.ins)), (3, .var (R.ty 47) [.omap 1, .omap 2]), (4, .arr (R.ty 45) 40 (slR (rsort t.rows))), (5, .arr (R.ty 44) 16 (sIn (isort t.ins))), (9, .arr (R.ty 44) 16 (sIn (tk (tunload t hd).2 hd (isort t.ins) i)))], 10⟩)) (Sum.elim (fun i => (isort t.ins).length - i) (fun i => (isort t.ins).length - i)) (.inl 0) ?_ ?_
         . exact ⟨Nat.zero_le _, rfl⟩
         . rintro (i | i) hv
           . dsimp only [Sum.elim_inl] at hv ⊢
             refine sh ?_
             refine cS (fun k => ?_) (fun k => ?_)
             . obtain ⟨x, hx⟩ : ∃ u_, (isort t.ins)[i]? = some u_ := ⟨_, List.getElem?_eq_getElem (by omega)⟩
               refine sh ?_
               refine aelt_map (by simp) hx ?_
               refine sh ?_
               refine cS (fun k0 => ?_) (fun k0 => ?_)
               . have hkp : keepB (tunload t hd).2 hd x = true := by simp [keepB, hits, k0]
                 refine sh ?_
                 refine nRm [0, 1, 2, 3, 4, 5, 6, 7, 8, 11] (.inr (i + 1)) ?_ ?_ ?_
                 . show i + 1 <= (isort t.ins).length
                   omega
                 . dsimp only [Sum.elim_inr]; omega
                 . all_goals repeat' (first | exact True.intro | refine And.intro ?_ ?_ | (intro _u; clear _u) | (with_reducible first | exact DnLe.fg | refine eM ?_ ?_ | refine eF ?_ ?_ ?_ | refine eN ?_ | refine eL ?_ ?_ ?_ | refine eA ?_ ?_ | refine IWk.mk ⟨_, hp, rfl⟩ ?_ ?_) | refine IWk.mk ⟨_, hp, rfl⟩ ?_ ?_)
                   all_goals try first | with_reducible rfl | omega | exact .inl (by decide) | (simp; done) | rfl
                   all_goals first | (rw [tk_one hx hkp hv.2]; rfl) | (rw [tk_one hx hkp hv.2]; simp [sIn, In.row])
               . refine sh ?_
                 refine cS (fun k1 => ?_) (fun k1 => ?_)
                 . refine sh ?_
                   refine cS (fun k2 => ?_) (fun k2 => ?_)
                   . refine sh ?_
                     refine cS (fun k3 => ?_) (fun k3 => ?_)
                     . have hkp : keepB (tunload t hd).2 hd x = true := by simp [keepB, hits, k0, k1, k2, k3]
                       refine sh ?_
                       refine nRm [0, 1, 2, 3, 4, 5, 6, 7, 8, 11] (.inr (i + 1)) ?_ ?_ ?_
                       . show i + 1 <= (isort t.ins).length
                         omega
                       . dsimp only [Sum.elim_inr]; omega
                       . all_goals repeat' (first | exact True.intro | refine And.intro ?_ ?_ | (intro _u; clear _u) | (with_reducible first | exact DnLe.fg | refine eM ?_ ?_ | refine eF ?_ ?_ ?_ | refine eN ?_ | refine eL ?_ ?_ ?_ | refine eA ?_ ?_ | refine IWk.mk ⟨_, hp, rfl⟩ ?_ ?_) | refine IWk.mk ⟨_, hp, rfl⟩ ?_ ?_)
                         all_goals try first | with_reducible rfl | omega | exact .inl (by decide) | (simp; done) | rfl
                         all_goals first | (rw [tk_one hx hkp hv.2]; rfl) | (rw [tk_one hx hkp hv.2]; simp [sIn, In.row])
                     . have hkp : keepB (tunload t hd).2 hd x = false := by simp [keepB, hits, k0, k1, k2, k3]
                       refine sh ?_
                       refine nXa (.inl (i + 1)) ?_ ?_
                       . exact ⟨by omega, by rw [tk_skip hx hkp]; exact hv.2⟩
                       . dsimp only [Sum.elim_inl]; omega
                   . have hkp : keepB (tunload t hd).2 hd x = false := by simp [keepB, hits, k0, k1, k2]
                     refine sh ?_
                     refine nXa (.inl (i + 1)) ?_ ?_
                     . exact ⟨by omega, by rw [tk_skip hx hkp]; exact hv.2⟩
                     . dsimp only [Sum.elim_inl]; omega
                 . have hkp : keepB (tunload t hd).2 hd x = false := by simp [keepB, hits, k0, k1]
                   refine sh ?_
                   refine nXa (.inl (i + 1)) ?_ ?_
                   . exact ⟨by omega, by rw [tk_skip hx hkp]; exact hv.2⟩
                   . dsimp only [Sum.elim_inl]; omega
             . have e := tk_all (show (isort t.ins).length <= i by omega) hl
               rw [hv.2] at e
               refine sh ?_
               refine cM false [1, 2, 3] (tinsts_c h.n419 srt S hs false false (tunload t hd).1 ok2.nd (by have := ok2.il; omega)) ?_
               repeat (intro _; first | refine eK ?_ | refine eP ?_)
               rw [e]
               refine sh ?_
               refine cM true [] ((sameI_c h.n343 [] (by simp)).mc h.n343.o343.hb) ?_
               repeat (intro _; first | refine eK ?_ | refine eP ?_)
               refine sh ?_
               refine cM false [1, 2, 3] (trows_c h.n418 K false false (tunload t hd).1 ok2 (by omega)) ?_
               repeat (intro _; first | refine eK ?_ | refine eP ?_)
               refine sh ?_
               refine acnd_t (by exact hrow) ?_
               refine sh ?_
               refine ICall.pure h.n423.o423.hb (works18_c h.n423 K) rfl ?_
               refine sh ?_
               exact rT
           . dsimp only [Sum.elim_inr] at hv ⊢
             have htl := tk_len (tunload t hd).2 hd (isort t.ins) i
             refine sh ?_
             refine cS (fun k => ?_) (fun k => ?_)
             . obtain ⟨x, hx⟩ : ∃ u_, (isort t.ins)[i]? = some u_ := ⟨_, List.getElem?_eq_getElem (by omega)⟩
               refine sh ?_
               refine aelt_map (by simp) hx ?_
               refine sh ?_
               refine cS (fun k0 => ?_) (fun k0 => ?_)
               . have hkp : keepB (tunload t hd).2 hd x = true := by simp [keepB, hits, k0]
                 refine sh ?_
                 refine nX (.inr (i + 1)) ?_ ?_ ⟨_, hp, rfl⟩ ?_ ?_
                 . show i + 1 <= (isort t.ins).length
                   omega
                 . dsimp only [Sum.elim_inr]; omega
                 . all_goals repeat' (first | exact True.intro | refine And.intro ?_ ?_ | (intro _u; clear _u) | (with_reducible first | exact DnLe.fg | refine eM ?_ ?_ | refine eF ?_ ?_ ?_ | refine eN ?_ | refine eL ?_ ?_ ?_ | refine eA ?_ ?_ | refine IWk.mk ⟨_, hp, rfl⟩ ?_ ?_) | refine IWk.mk ⟨_, hp, rfl⟩ ?_ ?_)
                   all_goals try first | with_reducible rfl | omega | exact .inl (by decide) | (simp; done) | rfl
                   all_goals (rw [tk_app hx hkp]; simp)
                 . all_goals repeat' (first | exact True.intro | refine And.intro ?_ ?_ | (intro _u; clear _u) | (with_reducible first | exact DnLe.fg | refine eM ?_ ?_ | refine eF ?_ ?_ ?_ | refine eN ?_ | refine eL ?_ ?_ ?_ | refine eA ?_ ?_ | refine IWk.mk ⟨_, hp, rfl⟩ ?_ ?_) | refine IWk.mk ⟨_, hp, rfl⟩ ?_ ?_)
                   all_goals try first | with_reducible rfl | omega | exact .inl (by decide) | (simp; done) | rfl
                   all_goals first | (rw [tk_app hx hkp]; rfl) | (rw [tk_app hx hkp]; simp [sIn, In.row])
               . refine sh ?_
                 refine cS (fun k1 => ?_) (fun k1 => ?_)
                 . refine sh ?_
                   refine cS (fun k2 => ?_) (fun k2 => ?_)
                   . refine sh ?_
                     refine cS (fun k3 => ?_) (fun k3 => ?_)
                     . have hkp : keepB (tunload t hd).2 hd x = true := by simp [keepB, hits, k0, k1, k2, k3]
                       refine sh ?_
                       refine nX (.inr (i + 1)) ?_ ?_ ⟨_, hp, rfl⟩ ?_ ?_
                       . show i + 1 <= (isort t.ins).length
                         omega
                       . dsimp only [Sum.elim_inr]; omega
                       . all_goals repeat' (first | exact True.intro | refine And.intro ?_ ?_ | (intro _u; clear _u) | (with_reducible first | exact DnLe.fg | refine eM ?_ ?_ | refine eF ?_ ?_ ?_ | refine eN ?_ | refine eL ?_ ?_ ?_ | refine eA ?_ ?_ | refine IWk.mk ⟨_, hp, rfl⟩ ?_ ?_) | refine IWk.mk ⟨_, hp, rfl⟩ ?_ ?_)
                         all_goals try first | with_reducible rfl | omega | exact .inl (by decide) | (simp; done) | rfl
                         all_goals (rw [tk_app hx hkp]; simp)
                       . all_goals repeat' (first | exact True.intro | refine And.intro ?_ ?_ | (intro _u; clear _u) | (with_reducible first | exact DnLe.fg | refine eM ?_ ?_ | refine eF ?_ ?_ ?_ | refine eN ?_ | refine eL ?_ ?_ ?_ | refine eA ?_ ?_ | refine IWk.mk ⟨_, hp, rfl⟩ ?_ ?_) | refine IWk.mk ⟨_, hp, rfl⟩ ?_ ?_)
                         all_goals try first | with_reducible rfl | omega | exact .inl (by decide) | (simp; done) | rfl
                         all_goals first | (rw [tk_app hx hkp]; rfl) | (rw [tk_app hx hkp]; simp [sIn, In.row])
                     . have hkp : keepB (tunload t hd).2 hd x = false := by simp [keepB, hits, k0, k1, k2, k3]
                       refine sh ?_
                       refine nX (.inr (i + 1)) ?_ ?_ ⟨_, hp, rfl⟩ ?_ ?_
                       . show i + 1 <= (isort t.ins).length
                         omega
                       . dsimp only [Sum.elim_inr]; omega
                       . all_goals repeat' (first | exact True.intro | refine And.intro ?_ ?_ | (intro _u; clear _u) | (with_reducible first | exact DnLe.fg | refine eM ?_ ?_ | refine eF ?_ ?_ ?_ | refine eN ?_ | refine eL ?_ ?_ ?_ | refine eA ?_ ?_ | refine IWk.mk ⟨_, hp, rfl⟩ ?_ ?_) | refine IWk.mk ⟨_, hp, rfl⟩ ?_ ?_)
                         all_goals try first | with_reducible rfl | omega | exact .inl (by decide) | (simp; done) | rfl
                         all_goals (rw [tk_skip hx hkp])
                       . all_goals repeat' (first | exact True.intro | refine And.intro ?_ ?_ | (intro _u; clear _u) | (with_reducible first | exact DnLe.fg | refine eM ?_ ?_ | refine eF ?_ ?_ ?_ | refine eN ?_ | refine eL ?_ ?_ ?_ | refine eA ?_ ?_ | refine IWk.mk ⟨_, hp, rfl⟩ ?_ ?_) | refine IWk.mk ⟨_, hp, rfl⟩ ?_ ?_)
                         all_goals try first | with_reducible rfl | omega | exact .inl (by decide) | (simp; done) | rfl
                         all_goals first | rw [tk_skip hx hkp] | (rw [tk_skip hx hkp]; simp)
                   . have hkp : keepB (tunload t hd).2 hd x = false := by simp [keepB, hits, k0, k1, k2]
                     refine sh ?_
                     refine nX (.inr (i + 1)) ?_ ?_ ⟨_, hp, rfl⟩ ?_ ?_
                     . show i + 1 <= (isort t.ins).length
                       omega
                     . dsimp only [Sum.elim_inr]; omega
                     . all_goals repeat' (first | exact True.intro | refine And.intro ?_ ?_ | (intro _u; clear _u) | (with_reducible first | exact DnLe.fg | refine eM ?_ ?_ | refine eF ?_ ?_ ?_ | refine eN ?_ | refine eL ?_ ?_ ?_ | refine eA ?_ ?_ | refine IWk.mk ⟨_, hp, rfl⟩ ?_ ?_) | refine IWk.mk ⟨_, hp, rfl⟩ ?_ ?_)
                       all_goals try first | with_reducible rfl | omega | exact .inl (by decide) | (simp; done) | rfl
                       all_goals (rw [tk_skip hx hkp])
                     . all_goals repeat' (first | exact True.intro | refine And.intro ?_ ?_ | (intro _u; clear _u) | (with_reducible first | exact DnLe.fg | refine eM ?_ ?_ | refine eF ?_ ?_ ?_ | refine eN ?_ | refine eL ?_ ?_ ?_ | refine eA ?_ ?_ | refine IWk.mk ⟨_, hp, rfl⟩ ?_ ?_) | refine IWk.mk ⟨_, hp, rfl⟩ ?_ ?_)
                       all_goals try first | with_reducible rfl | omega | exact .inl (by decide) | (simp; done) | rfl
                       all_goals first | rw [tk_skip hx hkp] | (rw [tk_skip hx hkp]; simp)
                 . have hkp : keepB (tunload t hd).2 hd x = false := by simp [keepB, hits, k0, k1]
                   refine sh ?_
                   refine nX (.inr (i + 1)) ?_ ?_ ⟨_, hp, rfl⟩ ?_ ?_
                   . show i + 1 <= (isort t.ins).length
                     omega
                   . dsimp only [Sum.elim_inr]; omega
                   . all_goals repeat' (first | exact True.intro | refine And.intro ?_ ?_ | (intro _u; clear _u) | (with_reducible first | exact DnLe.fg | refine eM ?_ ?_ | refine eF ?_ ?_ ?_ | refine eN ?_ | refine eL ?_ ?_ ?_ | refine eA ?_ ?_ | refine IWk.mk ⟨_, hp, rfl⟩ ?_ ?_) | refine IWk.mk ⟨_, hp, rfl⟩ ?_ ?_)
                     all_goals try first | with_reducible rfl | omega | exact .inl (by decide) | (simp; done) | rfl
                     all_goals (rw [tk_skip hx hkp])
                   . all_goals repeat' (first | exact True.intro | refine And.intro ?_ ?_ | (intro _u; clear _u) | (with_reducible first | exact DnLe.fg | refine eM ?_ ?_ | refine eF ?_ ?_ ?_ | refine eN ?_ | refine eL ?_ ?_ ?_ | refine eA ?_ ?_ | refine IWk.mk ⟨_, hp, rfl⟩ ?_ ?_) | refine IWk.mk ⟨_, hp, rfl⟩ ?_ ?_)
                     all_goals try first | with_reducible rfl | omega | exact .inl (by decide) | (simp; done) | rfl
                     all_goals first | rw [tk_skip hx hkp] | (rw [tk_skip hx hkp]; simp)
             . have e := tk_all (show (isort t.ins).length <= i by omega) hl
               refine sh ?_
               refine cM false [1, 2, 3] (tinsts_c h.n419 srt S hs false false (tunload t hd).1 ok2.nd (by have := ok2.il; omega)) ?_
               repeat (intro _; first | refine eK ?_ | refine eP ?_)
               rw [e]
               refine sh ?_
               refine cM true [] ((sameI_c h.n343 (tk (tunload t hd).2 hd (isort t.ins) i) (by omega)).mc h.n343.o343.hb) ?_
               repeat (intro _; first | refine eK ?_ | refine eP ?_)
               refine sh ?_
               refine cM false [1, 2, 3] (trows_c h.n418 K false false (tunload t hd).1 ok2 (by omega)) ?_
               repeat (intro _; first | refine eK ?_ | refine eP ?_)
               refine sh ?_
               refine acnd_t (by exact hrow) ?_
               refine sh ?_
               refine ICall.pure h.n423.o423.hb (works18_c h.n423 K) rfl ?_
               refine sh ?_
               exact rT
       . rw [tput_err h3]
         refine sh ?_
         refine cM false [1, 2, 3] (trows_c h.n418 K false false t ok (by omega)) ?_
         repeat (intro _; first | refine eK ?_ | refine eP ?_)
         refine sh ?_
         refine cM true [] ((sameR_c h.n422 (rsort t.rows) (by rw [rsort_length]; have := ok.rl; omega) (fun r hr => achk_few (ok.row r (rsort_mem.1 hr)).a (ok.row r (rsort_mem.1 hr)).x)).mc h.n422.o422.hb) ?_
         repeat (intro _; first | refine eK ?_ | refine eP ?_)
         refine sh ?_
         refine cM false [1, 2, 3] (tinsts_c h.n419 srt S hs false false t ok.nd (by have := ok.il; omega)) ?_
         repeat (intro _; first | refine eK ?_ | refine eP ?_)
         refine sh ?_
         refine cM true [] ((sameI_c h.n343 (isort t.ins) (by rw [isort_length]; have := ok.il; omega)).mc h.n343.o343.hb) ?_
         repeat (intro _; first | refine eK ?_ | refine eP ?_)
         refine sh ?_
         refine cM false [1, 2, 3] (tunload_c h.n428 false false t ok.nd hd) ?_
         repeat (intro _; first | refine eK ?_ | refine eP ?_)
         refine sh ?_
         refine lPa 200 (Sum.elim (fun i : Nat => i <= (isort t.ins).length /\ tk (tunload t hd).2 hd (isort t.ins) i = []) (fun i : Nat => i <= (isort t.ins).length)) (Sum.elim (fun i => ⟨[(2, .int .i64 hd), (7, .loc 3 1 0 0), (9, .osl 4 (rsort t.rows).length), (11, .int .i64 (tunload t hd).2), (12, .nils), (77, .osl 5 (isort t.ins).length), (78, .int .i64 (isort t.ins).length), (79, .int .i64 i)], [(1, .map 1 false true false 41 (rwL (tunload t hd).1.rows)), (2, .map 4 true true false 16 (sIn (tunload t hd).1.ins)), (3, .var (R.ty 47) [.omap 1, .omap 2]), (4, .arr (R.ty 45) 40 (slR (rsort t.rows))), (5, .arr (R.ty 44) 16 (sIn (isort t.ins)))], 8⟩) (fun i => ⟨[(2, .int .i64 hd), (7, .loc 3 1 0 0), (9, .osl 4 (rsort t.rows).length), (11, .int .i64 (tunload t hd).2), (12, .osl 8 (tk (tunload t hd).2 hd (isort t.ins) i).length), (77, .osl 5 (isort t.ins).length), (78, .int .i64 (isort t.ins).length), (79, .int .i64 i)], [(1, .map 1 false true false 41 (rwL (tunload t hd).1.rows)), (2, .map 4 true true false 16 (sIn (tunload t hd).1.ins)), (3, .var (R.ty 47) [.omap 1, .omap 2]), (4, .arr (R.ty 45) 40 (slR (rsort t.rows))), (5, .arr (R.ty 44) 16 (sIn (isort t.ins))), (8, .arr (R.ty 44) 16 (sIn (tk (tunload t hd).2 hd (isort t.ins) i)))], 9⟩)) (Sum.elim (fun i => (isort t.ins).length - i) (fun i => (isort t.ins).length - i)) (.inl 0) ?_ ?_
         . exact ⟨Nat.zero_le _, rfl⟩
         . rintro (i | i) hv
           . dsimp only [Sum.elim_inl] at hv ⊢
             refine sh ?_
             refine cS (fun k => ?_) (fun k => ?_)
             . obtain ⟨x, hx⟩ : ∃ u_, (isort t.ins)[i]? = some u_ := ⟨_, List.getElem?_eq_getElem (by omega)⟩
               refine sh ?_
               refine aelt_map (by simp) hx ?_
               refine sh ?_
               refine cS (fun k0 => ?_) (fun k0 => ?_)
               . have hkp : keepB (tunload t hd).2 hd x = true := by simp [keepB, hits, k0]
                 refine sh ?_
                 refine nRm [0, 1, 2, 3, 4, 5, 6, 7, 10] (.inr (i + 1)) ?_ ?_ ?_
                 . show i + 1 <= (isort t.ins).length
                   omega
                 . dsimp only [Sum.elim_inr]; omega
                 . all_goals repeat' (first | exact True.intro | refine And.intro ?_ ?_ | (intro _u; clear _u) | (with_reducible first | exact DnLe.fg | refine eM ?_ ?_ | refine eF ?_ ?_ ?_ | refine eN ?_ | refine eL ?_ ?_ ?_ | refine eA ?_ ?_ | refine IWk.mk ⟨_, hp, rfl⟩ ?_ ?_) | refine IWk.mk ⟨_, hp, rfl⟩ ?_ ?_)
                   all_goals try first | with_reducible rfl | omega | exact .inl (by decide) | (simp; done) | rfl
                   all_goals first | (rw [tk_one hx hkp hv.2]; rfl) | (rw [tk_one hx hkp hv.2]; simp [sIn, In.row])
               . refine sh ?_
                 refine cS (fun k1 => ?_) (fun k1 => ?_)
                 . refine sh ?_
                   refine cS (fun k2 => ?_) (fun k2 => ?_)
                   . refine sh ?_
                     refine cS (fun k3 => ?_) (fun k3 => ?_)
                     . have hkp : keepB (tunload t hd).2 hd x = true := by simp [keepB, hits, k0, k1, k2, k3]
                       refine sh ?_
                       refine nRm [0, 1, 2, 3, 4, 5, 6, 7, 10] (.inr (i + 1)) ?_ ?_ ?_
                       . show i + 1 <= (isort t.ins).length
                         omega
                       . dsimp only [Sum.elim_inr]; omega
                       . all_goals repeat' (first | exact True.intro | refine And.intro ?_ ?_ | (intro _u; clear _u) | (with_reducible first | exact DnLe.fg | refine eM ?_ ?_ | refine eF ?_ ?_ ?_ | refine eN ?_ | refine eL ?_ ?_ ?_ | refine eA ?_ ?_ | refine IWk.mk ⟨_, hp, rfl⟩ ?_ ?_) | refine IWk.mk ⟨_, hp, rfl⟩ ?_ ?_)
                         all_goals try first | with_reducible rfl | omega | exact .inl (by decide) | (simp; done) | rfl
                         all_goals first | (rw [tk_one hx hkp hv.2]; rfl) | (rw [tk_one hx hkp hv.2]; simp [sIn, In.row])
                     . have hkp : keepB (tunload t hd).2 hd x = false := by simp [keepB, hits, k0, k1, k2, k3]
                       refine sh ?_
                       refine nXa (.inl (i + 1)) ?_ ?_
                       . exact ⟨by omega, by rw [tk_skip hx hkp]; exact hv.2⟩
                       . dsimp only [Sum.elim_inl]; omega
                   . have hkp : keepB (tunload t hd).2 hd x = false := by simp [keepB, hits, k0, k1, k2]
                     refine sh ?_
                     refine nXa (.inl (i + 1)) ?_ ?_
                     . exact ⟨by omega, by rw [tk_skip hx hkp]; exact hv.2⟩
                     . dsimp only [Sum.elim_inl]; omega
                 . have hkp : keepB (tunload t hd).2 hd x = false := by simp [keepB, hits, k0, k1]
                   refine sh ?_
                   refine nXa (.inl (i + 1)) ?_ ?_
                   . exact ⟨by omega, by rw [tk_skip hx hkp]; exact hv.2⟩
                   . dsimp only [Sum.elim_inl]; omega
             . have e := tk_all (show (isort t.ins).length <= i by omega) hl
               rw [hv.2] at e
               refine sh ?_
               refine cM false [1, 2, 3] (tinsts_c h.n419 srt S hs false false (tunload t hd).1 ok2.nd (by have := ok2.il; omega)) ?_
               repeat (intro _; first | refine eK ?_ | refine eP ?_)
               rw [e]
               refine sh ?_
               refine cM true [] ((sameI_c h.n343 [] (by simp)).mc h.n343.o343.hb) ?_
               repeat (intro _; first | refine eK ?_ | refine eP ?_)
               refine sh ?_
               refine cM false [1, 2, 3] (trows_c h.n418 K false false (tunload t hd).1 ok2 (by omega)) ?_
               repeat (intro _; first | refine eK ?_ | refine eP ?_)
               refine sh ?_
               refine acnd_t (by exact hrow) ?_
               refine sh ?_
               refine ICall.pure h.n423.o423.hb (works18_c h.n423 K) rfl ?_
               refine sh ?_
               exact rT
           . dsimp only [Sum.elim_inr] at hv ⊢
             have htl := tk_len (tunload t hd).2 hd (isort t.ins) i
             refine sh ?_
             refine cS (fun k => ?_) (fun k => ?_)
             . obtain ⟨x, hx⟩ : ∃ u_, (isort t.ins)[i]? = some u_ := ⟨_, List.getElem?_eq_getElem (by omega)⟩
               refine sh ?_
               refine aelt_map (by simp) hx ?_
               refine sh ?_
               refine cS (fun k0 => ?_) (fun k0 => ?_)
               . have hkp : keepB (tunload t hd).2 hd x = true := by simp [keepB, hits, k0]
                 refine sh ?_
                 refine nX (.inr (i + 1)) ?_ ?_ ⟨_, hp, rfl⟩ ?_ ?_
                 . show i + 1 <= (isort t.ins).length
                   omega
                 . dsimp only [Sum.elim_inr]; omega
                 . all_goals repeat' (first | exact True.intro | refine And.intro ?_ ?_ | (intro _u; clear _u) | (with_reducible first | exact DnLe.fg | refine eM ?_ ?_ | refine eF ?_ ?_ ?_ | refine eN ?_ | refine eL ?_ ?_ ?_ | refine eA ?_ ?_ | refine IWk.mk ⟨_, hp, rfl⟩ ?_ ?_) | refine IWk.mk ⟨_, hp, rfl⟩ ?_ ?_)
                   all_goals try first | with_reducible rfl | omega | exact .inl (by decide) | (simp; done) | rfl
                   all_goals (rw [tk_app hx hkp]; simp)
                 . all_goals repeat' (first | exact True.intro | refine And.intro ?_ ?_ | (intro _u; clear _u) | (with_reducible first | exact DnLe.fg | refine eM ?_ ?_ | refine eF ?_ ?_ ?_ | refine eN ?_ | refine eL ?_ ?_ ?_ | refine eA ?_ ?_ | refine IWk.mk ⟨_, hp, rfl⟩ ?_ ?_) | refine IWk.mk ⟨_, hp, rfl⟩ ?_ ?_)
                   all_goals try first | with_reducible rfl | omega | exact .inl (by decide) | (simp; done) | rfl
                   all_goals first | (rw [tk_app hx hkp]; rfl) | (rw [tk_app hx hkp]; simp [sIn, In.row])
               . refine sh ?_
                 refine cS (fun k1 => ?_) (fun k1 => ?_)
                 . refine sh ?_
                   refine cS (fun k2 => ?_) (fun k2 => ?_)
                   . refine sh ?_
                     refine cS (fun k3 => ?_) (fun k3 => ?_)
                     . have hkp : keepB (tunload t hd).2 hd x = true := by simp [keepB, hits, k0, k1, k2, k3]
                       refine sh ?_
                       refine nX (.inr (i + 1)) ?_ ?_ ⟨_, hp, rfl⟩ ?_ ?_
                       . show i + 1 <= (isort t.ins).length
                         omega
                       . dsimp only [Sum.elim_inr]; omega
                       . all_goals repeat' (first | exact True.intro | refine And.intro ?_ ?_ | (intro _u; clear _u) | (with_reducible first | exact DnLe.fg | refine eM ?_ ?_ | refine eF ?_ ?_ ?_ | refine eN ?_ | refine eL ?_ ?_ ?_ | refine eA ?_ ?_ | refine IWk.mk ⟨_, hp, rfl⟩ ?_ ?_) | refine IWk.mk ⟨_, hp, rfl⟩ ?_ ?_)
                         all_goals try first | with_reducible rfl | omega | exact .inl (by decide) | (simp; done) | rfl
                         all_goals (rw [tk_app hx hkp]; simp)
                       . all_goals repeat' (first | exact True.intro | refine And.intro ?_ ?_ | (intro _u; clear _u) | (with_reducible first | exact DnLe.fg | refine eM ?_ ?_ | refine eF ?_ ?_ ?_ | refine eN ?_ | refine eL ?_ ?_ ?_ | refine eA ?_ ?_ | refine IWk.mk ⟨_, hp, rfl⟩ ?_ ?_) | refine IWk.mk ⟨_, hp, rfl⟩ ?_ ?_)
                         all_goals try first | with_reducible rfl | omega | exact .inl (by decide) | (simp; done) | rfl
                         all_goals first | (rw [tk_app hx hkp]; rfl) | (rw [tk_app hx hkp]; simp [sIn, In.row])
                     . have hkp : keepB (tunload t hd).2 hd x = false := by simp [keepB, hits, k0, k1, k2, k3]
                       refine sh ?_
                       refine nX (.inr (i + 1)) ?_ ?_ ⟨_, hp, rfl⟩ ?_ ?_
                       . show i + 1 <= (isort t.ins).length
                         omega
                       . dsimp only [Sum.elim_inr]; omega
                       . all_goals repeat' (first | exact True.intro | refine And.intro ?_ ?_ | (intro _u; clear _u) | (with_reducible first | exact DnLe.fg | refine eM ?_ ?_ | refine eF ?_ ?_ ?_ | refine eN ?_ | refine eL ?_ ?_ ?_ | refine eA ?_ ?_ | refine IWk.mk ⟨_, hp, rfl⟩ ?_ ?_) | refine IWk.mk ⟨_, hp, rfl⟩ ?_ ?_)
                         all_goals try first | with_reducible rfl | omega | exact .inl (by decide) | (simp; done) | rfl
                         all_goals (rw [tk_skip hx hkp])
                       . all_goals repeat' (first | exact True.intro | refine And.intro ?_ ?_ | (intro _u; clear _u) | (with_reducible first | exact DnLe.fg | refine eM ?_ ?_ | refine eF ?_ ?_ ?_ | refine eN ?_ | refine eL ?_ ?_ ?_ | refine eA ?_ ?_ | refine IWk.mk ⟨_, hp, rfl⟩ ?_ ?_) | refine IWk.mk ⟨_, hp, rfl⟩ ?_ ?_)
                         all_goals try first | with_reducible rfl | omega | exact .inl (by decide) | (simp; done) | rfl
                         all_goals first | rw [tk_skip hx hkp] | (rw [tk_skip hx hkp]; simp)
                   . have hkp : keepB (tunload t hd).2 hd x = false := by simp [keepB, hits, k0, k1, k2]
                     refine sh ?_
                     refine nX (.inr (i + 1)) ?_ ?_ ⟨_, hp, rfl⟩ ?_ ?_
                     . show i + 1 <= (isort t.ins).length
                       omega
                     . dsimp only [Sum.elim_inr]; omega
                     . all_goals repeat' (first | exact True.intro | refine And.intro ?_ ?_ | (intro _u; clear _u) | (with_reducible first | exact DnLe.fg | refine eM ?_ ?_ | refine eF ?_ ?_ ?_ | refine eN ?_ | refine eL ?_ ?_ ?_ | refine eA ?_ ?_ | refine IWk.mk ⟨_, hp, rfl⟩ ?_ ?_) | refine IWk.mk ⟨_, hp, rfl⟩ ?_ ?_)
                       all_goals try first | with_reducible rfl | omega | exact .inl (by decide) | (simp; done) | rfl
                       all_goals (rw [tk_skip hx hkp])
                     . all_goals repeat' (first | exact True.intro | refine And.intro ?_ ?_ | (intro _u; clear _u) | (with_reducible first | exact DnLe.fg | refine eM ?_ ?_ | refine eF ?_ ?_ ?_ | refine eN ?_ | refine eL ?_ ?_ ?_ | refine eA ?_ ?_ | refine IWk.mk ⟨_, hp, rfl⟩ ?_ ?_) | refine IWk.mk ⟨_, hp, rfl⟩ ?_ ?_)
                       all_goals try first | with_reducible rfl | omega | exact .inl (by decide) | (simp; done) | rfl
                       all_goals first | rw [tk_skip hx hkp] | (rw [tk_skip hx hkp]; simp)
                 . have hkp : keepB (tunload t hd).2 hd x = false := by simp [keepB, hits, k0, k1]
                   refine sh ?_
                   refine nX (.inr (i + 1)) ?_ ?_ ⟨_, hp, rfl⟩ ?_ ?_
                   . show i + 1 <= (isort t.ins).length
                     omega
                   . dsimp only [Sum.elim_inr]; omega
                   . all_goals repeat' (first | exact True.intro | refine And.intro ?_ ?_ | (intro _u; clear _u) | (with_reducible first | exact DnLe.fg | refine eM ?_ ?_ | refine eF ?_ ?_ ?_ | refine eN ?_ | refine eL ?_ ?_ ?_ | refine eA ?_ ?_ | refine IWk.mk ⟨_, hp, rfl⟩ ?_ ?_) | refine IWk.mk ⟨_, hp, rfl⟩ ?_ ?_)
                     all_goals try first | with_reducible rfl | omega | exact .inl (by decide) | (simp; done) | rfl
                     all_goals (rw [tk_skip hx hkp])
                   . all_goals repeat' (first | exact True.intro | refine And.intro ?_ ?_ | (intro _u; clear _u) | (with_reducible first | exact DnLe.fg | refine eM ?_ ?_ | refine eF ?_ ?_ ?_ | refine eN ?_ | refine eL ?_ ?_ ?_ | refine eA ?_ ?_ | refine IWk.mk ⟨_, hp, rfl⟩ ?_ ?_) | refine IWk.mk ⟨_, hp, rfl⟩ ?_ ?_)
                     all_goals try first | with_reducible rfl | omega | exact .inl (by decide) | (simp; done) | rfl
                     all_goals first | rw [tk_skip hx hkp] | (rw [tk_skip hx hkp]; simp)
             . have e := tk_all (show (isort t.ins).length <= i by omega) hl
               refine sh ?_
               refine cM false [1, 2, 3] (tinsts_c h.n419 srt S hs false false (tunload t hd).1 ok2.nd (by have := ok2.il; omega)) ?_
               repeat (intro _; first | refine eK ?_ | refine eP ?_)
               rw [e]
               refine sh ?_
               refine cM true [] ((sameI_c h.n343 (tk (tunload t hd).2 hd (isort t.ins) i) (by omega)).mc h.n343.o343.hb) ?_
               repeat (intro _; first | refine eK ?_ | refine eP ?_)
               refine sh ?_
               refine cM false [1, 2, 3] (trows_c h.n418 K false false (tunload t hd).1 ok2 (by omega)) ?_
               repeat (intro _; first | refine eK ?_ | refine eP ?_)
               refine sh ?_
               refine acnd_t (by exact hrow) ?_
               refine sh ?_
               refine ICall.pure h.n423.o423.hb (works18_c h.n423 K) rfl ?_
               refine sh ?_
               exact rT
end Go.UM
