/- Of the reckoning machine, and what is proved with it: texts joined by program. -/
import Derived.Test.YthdjcmppfpiimaaU0
set_option linter.all false

/- The statements of chapter 17, part 2. -/


namespace Go.UM
open Go.AM
set_option maxRecDepth 4000

theorem holds_meet (t : Int) : ∀ (l : List Mf) (f z : Int), holds (lo f l) (hi z l) t = (holds f z t && l.all fun m => holds m.first m.last t)
  | [], f, z => by simp [lo, hi]
  | m :: l, f, z => by
    have := holds_meet t l (max f m.first) (min z m.last)
    simp only [lo, hi, List.foldl_cons, List.all_cons] at this ⊢
    rw [this, ← Bool.and_assoc]
    congr 1
    rw [Bool.eq_iff_iff]
    simp only [holds, Bool.and_eq_true, decide_eq_true_eq]
    omega

def acc (f z t : Int) (l : List Mf) (i : Nat) : Bool := holds f z t && (l.take i).all fun m => holds m.first m.last t
theorem acc_succ {f z t : Int} {l : List Mf} {i : Nat} {x : Mf} (h : l[i]? = some x) : acc f z t l (i + 1) = (acc f z t l i && holds x.first x.last t) := by
  simp [acc, List.take_add_one, h, Bool.and_assoc]
theorem acc_all {f z t : Int} {l : List Mf} {i : Nat} (h : l.length ≤ i) : acc f z t l i = holds (lo f l) (hi z l) t := by
  rw [holds_meet, acc, List.take_of_length_le h]

def sl (ts : List Int) : List (List AV) := ts.map fun t => [.int .u32 t]
@[simp] theorem mem_sl {e : List AV} {ts : List Int} : e ∈ sl ts ↔ ∃ t, t ∈ ts ∧ [AV.int .u32 t] = e := by simp [sl]
theorem sl_names (ts : List Int) : ∀ e ∈ sl ts, AV.namesL e = [] := by
  intro e he
  obtain ⟨t, _, rfl⟩ := mem_sl.1 he
  rfl
@[simp] theorem sl_length (l : List Int) : (sl l).length = l.length := by simp [sl]



theorem licences_c {R : Env} (h : N13 R) (f z : Int) (l : List Mf) : R.Pc 13 [.int .u32 f, .int .u32 z, .isl 15 (mfs l)] (.bool true) :=
  h.o13.enter 200 rfl fun X bb hfit hp => by
    repeat ((intro _u; clear _u); first
      | (with_reducible refine acnd_tt ?_)
      | (with_reducible refine acnd_ff ?_)
      | ((with_reducible refine IConf.mk ?_ ?_); · kernel_rfl)
      | (first | (refine aix_n 0 rfl rfl ?_) | (refine aix_n 1 rfl rfl ?_) | (refine aix_n 2 rfl rfl ?_) | (refine aix_n 3 rfl rfl ?_) | (refine aix_n 4 rfl rfl ?_) | (refine aix_n 5 rfl rfl ?_) | (refine aix_n 6 rfl rfl ?_) | (refine aix_n 7 rfl rfl ?_))
      | ((with_reducible refine iwr_in ?_ ?_); · (simp only [inI]; omega))
      | ((with_reducible refine need_i ?_ ?_); · (first | omega | (simp <;> omega))))
    intro _u; clear _u
    refine asub_eq (by exact (show (mfs l).take (min ((mfs l).length : Int) 8).toNat = mfs (l.take 8) from by rw [show (8 : Int) = ((8 : Nat) : Int) from rfl, take_min]; simp [mfs, List.map_take])) ?_
    have hl8 : (l.take 8).length ≤ 8 := by simp; omega
    generalize l.take 8 = l at hl8 ⊢
    repeat ((intro _u; clear _u); first
      | (with_reducible refine acnd_tt ?_)
      | (with_reducible refine acnd_ff ?_)
      | ((with_reducible refine IConf.mk ?_ ?_); · kernel_rfl)
      | (first | (refine aix_n 0 rfl rfl ?_) | (refine aix_n 1 rfl rfl ?_) | (refine aix_n 2 rfl rfl ?_) | (refine aix_n 3 rfl rfl ?_) | (refine aix_n 4 rfl rfl ?_) | (refine aix_n 5 rfl rfl ?_) | (refine aix_n 6 rfl rfl ?_) | (refine aix_n 7 rfl rfl ?_))
      | ((with_reducible refine iwr_in ?_ ?_); · (simp only [inI]; omega))
      | ((with_reducible refine need_i ?_ ?_); · (first | omega | (simp <;> omega))))
    intro _u; clear _u
    refine ICall.pure h.n14.o14.hb (meet_c h.n14 f z l (by omega)) rfl ?_
    repeat ((intro _u; clear _u); first
      | (with_reducible refine acnd_tt ?_)
      | (with_reducible refine acnd_ff ?_)
      | ((with_reducible refine IConf.mk ?_ ?_); · kernel_rfl)
      | (first | (refine aix_n 0 rfl rfl ?_) | (refine aix_n 1 rfl rfl ?_) | (refine aix_n 2 rfl rfl ?_) | (refine aix_n 3 rfl rfl ?_) | (refine aix_n 4 rfl rfl ?_) | (refine aix_n 5 rfl rfl ?_) | (refine aix_n 6 rfl rfl ?_) | (refine aix_n 7 rfl rfl ?_))
      | ((with_reducible refine iwr_in ?_ ?_); · (simp only [inI]; omega))
      | ((with_reducible refine need_i ?_ ?_); · (first | omega | (simp <;> omega))))
    intro _u; clear _u
    refine iwr_any ?_
    repeat ((intro _u; clear _u); first
      | (with_reducible refine acnd_tt ?_)
      | (with_reducible refine acnd_ff ?_)
      | ((with_reducible refine IConf.mk ?_ ?_); · kernel_rfl)
      | (first | (refine aix_n 0 rfl rfl ?_) | (refine aix_n 1 rfl rfl ?_) | (refine aix_n 2 rfl rfl ?_) | (refine aix_n 3 rfl rfl ?_) | (refine aix_n 4 rfl rfl ?_) | (refine aix_n 5 rfl rfl ?_) | (refine aix_n 6 rfl rfl ?_) | (refine aix_n 7 rfl rfl ?_))
      | ((with_reducible refine iwr_in ?_ ?_); · (simp only [inI]; omega))
      | ((with_reducible refine need_i ?_ ?_); · (first | omega | (simp <;> omega))))
    intro _u; clear _u
    refine iwr_any ?_
    repeat ((intro _u; clear _u); first
      | (with_reducible refine acnd_tt ?_)
      | (with_reducible refine acnd_ff ?_)
      | ((with_reducible refine IConf.mk ?_ ?_); · kernel_rfl)
      | (first | (refine aix_n 0 rfl rfl ?_) | (refine aix_n 1 rfl rfl ?_) | (refine aix_n 2 rfl rfl ?_) | (refine aix_n 3 rfl rfl ?_) | (refine aix_n 4 rfl rfl ?_) | (refine aix_n 5 rfl rfl ?_) | (refine aix_n 6 rfl rfl ?_) | (refine aix_n 7 rfl rfl ?_))
      | ((with_reducible refine iwr_in ?_ ?_); · (simp only [inI]; omega))
      | ((with_reducible refine need_i ?_ ?_); · (first | omega | (simp <;> omega))))
    intro _u; clear _u
    refine iwr_any ?_
    repeat ((intro _u; clear _u); first
      | (with_reducible refine acnd_tt ?_)
      | (with_reducible refine acnd_ff ?_)
      | ((with_reducible refine IConf.mk ?_ ?_); · kernel_rfl)
      | (first | (refine aix_n 0 rfl rfl ?_) | (refine aix_n 1 rfl rfl ?_) | (refine aix_n 2 rfl rfl ?_) | (refine aix_n 3 rfl rfl ?_) | (refine aix_n 4 rfl rfl ?_) | (refine aix_n 5 rfl rfl ?_) | (refine aix_n 6 rfl rfl ?_) | (refine aix_n 7 rfl rfl ?_))
      | ((with_reducible refine iwr_in ?_ ?_); · (simp only [inI]; omega))
      | ((with_reducible refine need_i ?_ ?_); · (first | omega | (simp <;> omega))))
    intro _u; clear _u
    refine iwr_any ?_
    repeat ((intro _u; clear _u); first
      | (with_reducible refine acnd_tt ?_)
      | (with_reducible refine acnd_ff ?_)
      | ((with_reducible refine IConf.mk ?_ ?_); · kernel_rfl)
      | (first | (refine aix_n 0 rfl rfl ?_) | (refine aix_n 1 rfl rfl ?_) | (refine aix_n 2 rfl rfl ?_) | (refine aix_n 3 rfl rfl ?_) | (refine aix_n 4 rfl rfl ?_) | (refine aix_n 5 rfl rfl ?_) | (refine aix_n 6 rfl rfl ?_) | (refine aix_n 7 rfl rfl ?_))
      | ((with_reducible refine iwr_in ?_ ?_); · (simp only [inI]; omega))
      | ((with_reducible refine need_i ?_ ?_); · (first | omega | (simp <;> omega))))
    intro _u; clear _u
    refine ILoop.inv 100 (fun s : Nat × List Int => s.1 ≤ l.length ∧ s.2.length = 10 + 4 * s.1) (fun s => ⟨[(0, .int .u32 f), (1, .int .u32 z), (2, .isl 15 (mfs l)), (7, .int .u32 (lo f l)), (8, .int .u32 (hi z l)), (9, .osl 0 s.2.length), (42, .isl 15 (mfs l)), (43, .int .i64 l.length), (44, .int .i64 s.1)], [(0, .arr (R.ty 0) 1 (sl s.2))], 1⟩) (fun s => l.length - s.1) ((0, [0, 4294967295, f, z, lo f l, hi z l, wr .u32 (f - 1), wr .u32 (z + 1), wr .u32 (lo f l - 1), wr .u32 (hi z l + 1)])) ?_ ⟨hp, ?_, ?_⟩ ?_
    · exact ⟨Nat.zero_le _, rfl⟩
    · all_goals repeat' (first | exact True.intro | refine And.intro ?_ ?_ | (intro _u; clear _u) | (with_reducible refine fzEs_same ?_ ?_ ?_) | (with_reducible refine mtEs_same ?_ ?_))
      all_goals first | (with_reducible rfl) | omega | (simp; done) | (simp only [AV.namesL, AV.names, List.append_nil]; done) | (simp [AV.namesL]; done) | (simp [AV.namesL, AV.names]; done) | exact Or.inl (by decide) | (refine Or.inr ?_; (simp [AV.namesL, AV.names]; done)) | (refine Or.inr ?_; (simp [or_imp, forall_and, AV.namesL, AV.names]; done)) | skip
    · all_goals repeat' (first | exact True.intro | refine And.intro ?_ ?_ | (intro _u; clear _u) | (with_reducible refine fzEs_same ?_ ?_ ?_) | (with_reducible refine mtEs_same ?_ ?_))
      all_goals first | (with_reducible rfl) | omega | (simp; done) | (simp only [AV.namesL, AV.names, List.append_nil]; done) | (simp [AV.namesL]; done) | (simp [AV.namesL, AV.names]; done) | exact Or.inl (by decide) | (refine Or.inr ?_; (simp [AV.namesL, AV.names]; done)) | (refine Or.inr ?_; (simp [or_imp, forall_and, AV.namesL, AV.names]; done)) | skip
      rfl
    · rintro ⟨k, ts⟩ ⟨hk, hts⟩
      dsimp only at hk hts ⊢
      repeat ((intro _u; clear _u); first
        | (with_reducible refine acnd_tt ?_)
        | (with_reducible refine acnd_ff ?_)
        | ((with_reducible refine IConf.mk ?_ ?_); · kernel_rfl)
        | (first | (refine aix_n 0 rfl rfl ?_) | (refine aix_n 1 rfl rfl ?_) | (refine aix_n 2 rfl rfl ?_) | (refine aix_n 3 rfl rfl ?_) | (refine aix_n 4 rfl rfl ?_) | (refine aix_n 5 rfl rfl ?_) | (refine aix_n 6 rfl rfl ?_) | (refine aix_n 7 rfl rfl ?_))
        | ((with_reducible refine iwr_in ?_ ?_); · (simp only [inI]; omega))
        | ((with_reducible refine need_i ?_ ?_); · (first | omega | (simp <;> omega))))
      intro _u; clear _u
      refine acnd_i (fun h1 => ?_) (fun h1 => ?_)
      all_goals repeat (first | simp only [decide_eq_true_eq] at h1 | simp only [decide_eq_false_iff_not] at h1 | simp only [beq_iff_eq] at h1 | simp only [bne_iff_ne] at h1 | simp only [beq_eq_false_iff_ne] at h1 | simp only [bne_eq_false_iff_eq] at h1 | simp only [Bool.not_eq_true'] at h1 | simp only [Bool.not_eq_false'] at h1 | simp only [Int.not_lt] at h1 | simp only [Int.not_le] at h1 | simp only [Bool.and_eq_true] at h1 | simp only [Bool.or_eq_true] at h1 | simp only [gt_iff_lt] at h1 | simp only [ge_iff_le] at h1 | simp only [ne_eq] at h1 | simp only [Decidable.not_not] at h1)
      · obtain ⟨x, hx⟩ : ∃ x, l[k]? = some x := ⟨_, List.getElem?_eq_getElem (by first | omega | (simp <;> omega))⟩
        repeat ((intro _u; clear _u); first
          | (with_reducible refine acnd_tt ?_)
          | (with_reducible refine acnd_ff ?_)
          | ((with_reducible refine IConf.mk ?_ ?_); · kernel_rfl)
          | (first | (refine aix_n 0 rfl rfl ?_) | (refine aix_n 1 rfl rfl ?_) | (refine aix_n 2 rfl rfl ?_) | (refine aix_n 3 rfl rfl ?_) | (refine aix_n 4 rfl rfl ?_) | (refine aix_n 5 rfl rfl ?_) | (refine aix_n 6 rfl rfl ?_) | (refine aix_n 7 rfl rfl ?_))
          | ((with_reducible refine iwr_in ?_ ?_); · (simp only [inI]; omega))
          | ((with_reducible refine need_i ?_ ?_); · (first | omega | (simp <;> omega))))
        intro _u; clear _u
        refine eget_map hx ?_
        repeat ((intro _u; clear _u); first
          | (with_reducible refine acnd_tt ?_)
          | (with_reducible refine acnd_ff ?_)
          | ((with_reducible refine IConf.mk ?_ ?_); · kernel_rfl)
          | (first | (refine aix_n 0 rfl rfl ?_) | (refine aix_n 1 rfl rfl ?_) | (refine aix_n 2 rfl rfl ?_) | (refine aix_n 3 rfl rfl ?_) | (refine aix_n 4 rfl rfl ?_) | (refine aix_n 5 rfl rfl ?_) | (refine aix_n 6 rfl rfl ?_) | (refine aix_n 7 rfl rfl ?_))
          | ((with_reducible refine iwr_in ?_ ?_); · (simp only [inI]; omega))
          | ((with_reducible refine need_i ?_ ?_); · (first | omega | (simp <;> omega))))
        intro _u; clear _u
        refine iwr_any ?_
        repeat ((intro _u; clear _u); first
          | (with_reducible refine acnd_tt ?_)
          | (with_reducible refine acnd_ff ?_)
          | ((with_reducible refine IConf.mk ?_ ?_); · kernel_rfl)
          | (first | (refine aix_n 0 rfl rfl ?_) | (refine aix_n 1 rfl rfl ?_) | (refine aix_n 2 rfl rfl ?_) | (refine aix_n 3 rfl rfl ?_) | (refine aix_n 4 rfl rfl ?_) | (refine aix_n 5 rfl rfl ?_) | (refine aix_n 6 rfl rfl ?_) | (refine aix_n 7 rfl rfl ?_))
          | ((with_reducible refine iwr_in ?_ ?_); · (simp only [inI]; omega))
          | ((with_reducible refine need_i ?_ ?_); · (first | omega | (simp <;> omega))))
        intro _u; clear _u
        refine iwr_any ?_
        repeat ((intro _u; clear _u); first
          | (with_reducible refine acnd_tt ?_)
          | (with_reducible refine acnd_ff ?_)
          | ((with_reducible refine IConf.mk ?_ ?_); · kernel_rfl)
          | (first | (refine aix_n 0 rfl rfl ?_) | (refine aix_n 1 rfl rfl ?_) | (refine aix_n 2 rfl rfl ?_) | (refine aix_n 3 rfl rfl ?_) | (refine aix_n 4 rfl rfl ?_) | (refine aix_n 5 rfl rfl ?_) | (refine aix_n 6 rfl rfl ?_) | (refine aix_n 7 rfl rfl ?_))
          | ((with_reducible refine iwr_in ?_ ?_); · (simp only [inI]; omega))
          | ((with_reducible refine need_i ?_ ?_); · (first | omega | (simp <;> omega))))
        intro _u; clear _u
        refine ⟨(k + 1, ts ++ [x.first, x.last, wr .u32 (x.first - 1), wr .u32 (x.last + 1)]), ?_, ?_, hp, ?_, ?_⟩
        · simp; omega
        · simp; omega
        · all_goals repeat' (first | exact True.intro | refine And.intro ?_ ?_ | (intro _u; clear _u) | (with_reducible refine fzEs_same ?_ ?_ ?_) | (with_reducible refine mtEs_same ?_ ?_))
          all_goals first | (with_reducible rfl) | omega | (simp; done) | (simp only [AV.namesL, AV.names, List.append_nil]; done) | (simp [AV.namesL]; done) | (simp [AV.namesL, AV.names]; done) | exact Or.inl (by decide) | (refine Or.inr ?_; (simp [AV.namesL, AV.names]; done)) | (refine Or.inr ?_; (simp [or_imp, forall_and, AV.namesL, AV.names]; done)) | skip
        · all_goals repeat' (first | exact True.intro | refine And.intro ?_ ?_ | (intro _u; clear _u) | (with_reducible refine fzEs_same ?_ ?_ ?_) | (with_reducible refine mtEs_same ?_ ?_))
          all_goals first | (with_reducible rfl) | omega | (simp; done) | (simp only [AV.namesL, AV.names, List.append_nil]; done) | (simp [AV.namesL]; done) | (simp [AV.namesL, AV.names]; done) | exact Or.inl (by decide) | (refine Or.inr ?_; (simp [AV.namesL, AV.names]; done)) | (refine Or.inr ?_; (simp [or_imp, forall_and, AV.namesL, AV.names]; done)) | skip
          simp [sl]
      · repeat ((intro _u; clear _u); first
          | (with_reducible refine acnd_tt ?_)
          | (with_reducible refine acnd_ff ?_)
          | ((with_reducible refine IConf.mk ?_ ?_); · kernel_rfl)
          | (first | (refine aix_n 0 rfl rfl ?_) | (refine aix_n 1 rfl rfl ?_) | (refine aix_n 2 rfl rfl ?_) | (refine aix_n 3 rfl rfl ?_) | (refine aix_n 4 rfl rfl ?_) | (refine aix_n 5 rfl rfl ?_) | (refine aix_n 6 rfl rfl ?_) | (refine aix_n 7 rfl rfl ?_))
          | ((with_reducible refine iwr_in ?_ ?_); · (simp only [inI]; omega))
          | ((with_reducible refine need_i ?_ ?_); · (first | omega | (simp <;> omega))))
        intro _u; clear _u
        refine ILoop.inv 100 (fun j : Nat => j ≤ ts.length) (fun j => ⟨[(0, .int .u32 f), (1, .int .u32 z), (2, .isl 15 (mfs l)), (7, .int .u32 (lo f l)), (8, .int .u32 (hi z l)), (62, .isl 1 (sl ts)), (63, .int .i64 ts.length), (64, .int .i64 j)], [], 0⟩) (fun j => ts.length - j) (0) ?_ ⟨hp, ?_, ?_⟩ ?_
        · exact Nat.zero_le _
        · all_goals repeat' (first | exact True.intro | refine And.intro ?_ ?_ | (intro _u; clear _u) | (with_reducible refine fzEs_same ?_ ?_ ?_) | (with_reducible refine mtEs_same ?_ ?_))
          all_goals first | (with_reducible rfl) | omega | (simp; done) | (simp only [AV.namesL, AV.names, List.append_nil]; done) | (simp [AV.namesL]; done) | (simp [AV.namesL, AV.names]; done) | exact Or.inl (by decide) | (refine Or.inr ?_; (simp [AV.namesL, AV.names]; done)) | (refine Or.inr ?_; (simp [or_imp, forall_and, AV.namesL, AV.names]; done)) | skip
        · all_goals repeat' (first | exact True.intro | refine And.intro ?_ ?_ | (intro _u; clear _u) | (with_reducible refine fzEs_same ?_ ?_ ?_) | (with_reducible refine mtEs_same ?_ ?_))
          all_goals first | (with_reducible rfl) | omega | (simp; done) | (simp only [AV.namesL, AV.names, List.append_nil]; done) | (simp [AV.namesL]; done) | (simp [AV.namesL, AV.names]; done) | exact Or.inl (by decide) | (refine Or.inr ?_; (simp [AV.namesL, AV.names]; done)) | (refine Or.inr ?_; (simp [or_imp, forall_and, AV.namesL, AV.names]; done)) | skip
        · intro j hj
          dsimp only
          repeat ((intro _u; clear _u); first
            | (with_reducible refine acnd_tt ?_)
            | (with_reducible refine acnd_ff ?_)
            | ((with_reducible refine IConf.mk ?_ ?_); · kernel_rfl)
            | (first | (refine aix_n 0 rfl rfl ?_) | (refine aix_n 1 rfl rfl ?_) | (refine aix_n 2 rfl rfl ?_) | (refine aix_n 3 rfl rfl ?_) | (refine aix_n 4 rfl rfl ?_) | (refine aix_n 5 rfl rfl ?_) | (refine aix_n 6 rfl rfl ?_) | (refine aix_n 7 rfl rfl ?_))
            | ((with_reducible refine iwr_in ?_ ?_); · (simp only [inI]; omega))
            | ((with_reducible refine need_i ?_ ?_); · (first | omega | (simp <;> omega))))
          intro _u; clear _u
          refine acnd_i (fun h2 => ?_) (fun h2 => ?_)
          all_goals repeat (first | simp only [decide_eq_true_eq] at h2 | simp only [decide_eq_false_iff_not] at h2 | simp only [beq_iff_eq] at h2 | simp only [bne_iff_ne] at h2 | simp only [beq_eq_false_iff_ne] at h2 | simp only [bne_eq_false_iff_eq] at h2 | simp only [Bool.not_eq_true'] at h2 | simp only [Bool.not_eq_false'] at h2 | simp only [Int.not_lt] at h2 | simp only [Int.not_le] at h2 | simp only [Bool.and_eq_true] at h2 | simp only [Bool.or_eq_true] at h2 | simp only [gt_iff_lt] at h2 | simp only [ge_iff_le] at h2 | simp only [ne_eq] at h2 | simp only [Decidable.not_not] at h2)
          · obtain ⟨t, ht⟩ : ∃ x, ts[j]? = some x := ⟨_, List.getElem?_eq_getElem (by first | omega | (simp <;> omega))⟩
            repeat ((intro _u; clear _u); first
              | (with_reducible refine acnd_tt ?_)
              | (with_reducible refine acnd_ff ?_)
              | ((with_reducible refine IConf.mk ?_ ?_); · kernel_rfl)
              | (first | (refine aix_n 0 rfl rfl ?_) | (refine aix_n 1 rfl rfl ?_) | (refine aix_n 2 rfl rfl ?_) | (refine aix_n 3 rfl rfl ?_) | (refine aix_n 4 rfl rfl ?_) | (refine aix_n 5 rfl rfl ?_) | (refine aix_n 6 rfl rfl ?_) | (refine aix_n 7 rfl rfl ?_))
              | ((with_reducible refine iwr_in ?_ ?_); · (simp only [inI]; omega))
              | ((with_reducible refine need_i ?_ ?_); · (first | omega | (simp <;> omega))))
            intro _u; clear _u
            refine eget_map ht ?_
            repeat ((intro _u; clear _u); first
              | (with_reducible refine acnd_tt ?_)
              | (with_reducible refine acnd_ff ?_)
              | ((with_reducible refine IConf.mk ?_ ?_); · kernel_rfl)
              | (first | (refine aix_n 0 rfl rfl ?_) | (refine aix_n 1 rfl rfl ?_) | (refine aix_n 2 rfl rfl ?_) | (refine aix_n 3 rfl rfl ?_) | (refine aix_n 4 rfl rfl ?_) | (refine aix_n 5 rfl rfl ?_) | (refine aix_n 6 rfl rfl ?_) | (refine aix_n 7 rfl rfl ?_))
              | ((with_reducible refine iwr_in ?_ ?_); · (simp only [inI]; omega))
              | ((with_reducible refine need_i ?_ ?_); · (first | omega | (simp <;> omega))))
            intro _u; clear _u
            refine acnd_i (fun h3 => ?_) (fun h3 => ?_)
            all_goals repeat (first | simp only [decide_eq_true_eq] at h3 | simp only [decide_eq_false_iff_not] at h3 | simp only [beq_iff_eq] at h3 | simp only [bne_iff_ne] at h3 | simp only [beq_eq_false_iff_ne] at h3 | simp only [bne_eq_false_iff_eq] at h3 | simp only [Bool.not_eq_true'] at h3 | simp only [Bool.not_eq_false'] at h3 | simp only [Int.not_lt] at h3 | simp only [Int.not_le] at h3 | simp only [Bool.and_eq_true] at h3 | simp only [Bool.or_eq_true] at h3 | simp only [gt_iff_lt] at h3 | simp only [ge_iff_le] at h3 | simp only [ne_eq] at h3 | simp only [Decidable.not_not] at h3)
            · repeat ((intro _u; clear _u); first
                | (with_reducible refine acnd_tt ?_)
                | (with_reducible refine acnd_ff ?_)
                | ((with_reducible refine IConf.mk ?_ ?_); · kernel_rfl)
                | (first | (refine aix_n 0 rfl rfl ?_) | (refine aix_n 1 rfl rfl ?_) | (refine aix_n 2 rfl rfl ?_) | (refine aix_n 3 rfl rfl ?_) | (refine aix_n 4 rfl rfl ?_) | (refine aix_n 5 rfl rfl ?_) | (refine aix_n 6 rfl rfl ?_) | (refine aix_n 7 rfl rfl ?_))
                | ((with_reducible refine iwr_in ?_ ?_); · (simp only [inI]; omega))
                | ((with_reducible refine need_i ?_ ?_); · (first | omega | (simp <;> omega))))
              intro _u; clear _u
              refine ILoop.inv 100 (fun i : Nat => i ≤ l.length) (fun i => ⟨[(0, .int .u32 f), (1, .int .u32 z), (2, .isl 15 (mfs l)), (7, .int .u32 (lo f l)), (8, .int .u32 (hi z l)), (13, .int .u32 t), (14, .bool (acc f z t l i)), (62, .isl 1 (sl ts)), (63, .int .i64 ts.length), (64, .int .i64 j), (76, .isl 15 (mfs l)), (77, .int .i64 l.length), (78, .int .i64 i)], [], 0⟩) (fun i => l.length - i) (0) ?_ ⟨hp, ?_, ?_⟩ ?_
              · exact Nat.zero_le _
              · all_goals repeat' (first | exact True.intro | refine And.intro ?_ ?_ | (intro _u; clear _u) | (with_reducible refine fzEs_same ?_ ?_ ?_) | (with_reducible refine mtEs_same ?_ ?_))
                all_goals first | (with_reducible rfl) | omega | (simp; done) | (simp only [AV.namesL, AV.names, List.append_nil]; done) | (simp [AV.namesL]; done) | (simp [AV.namesL, AV.names]; done) | exact Or.inl (by decide) | (refine Or.inr ?_; (simp [AV.namesL, AV.names]; done)) | (refine Or.inr ?_; (simp [or_imp, forall_and, AV.namesL, AV.names]; done)) | skip
                simp [acc, holds]; omega
              · all_goals repeat' (first | exact True.intro | refine And.intro ?_ ?_ | (intro _u; clear _u) | (with_reducible refine fzEs_same ?_ ?_ ?_) | (with_reducible refine mtEs_same ?_ ?_))
                all_goals first | (with_reducible rfl) | omega | (simp; done) | (simp only [AV.namesL, AV.names, List.append_nil]; done) | (simp [AV.namesL]; done) | (simp [AV.namesL, AV.names]; done) | exact Or.inl (by decide) | (refine Or.inr ?_; (simp [AV.namesL, AV.names]; done)) | (refine Or.inr ?_; (simp [or_imp, forall_and, AV.namesL, AV.names]; done)) | skip
              · intro i hi'
                dsimp only
                repeat ((intro _u; clear _u); first
                  | (with_reducible refine acnd_tt ?_)
                  | (with_reducible refine acnd_ff ?_)
                  | ((with_reducible refine IConf.mk ?_ ?_); · kernel_rfl)
                  | (first | (refine aix_n 0 rfl rfl ?_) | (refine aix_n 1 rfl rfl ?_) | (refine aix_n 2 rfl rfl ?_) | (refine aix_n 3 rfl rfl ?_) | (refine aix_n 4 rfl rfl ?_) | (refine aix_n 5 rfl rfl ?_) | (refine aix_n 6 rfl rfl ?_) | (refine aix_n 7 rfl rfl ?_))
                  | ((with_reducible refine iwr_in ?_ ?_); · (simp only [inI]; omega))
                  | ((with_reducible refine need_i ?_ ?_); · (first | omega | (simp <;> omega))))
                intro _u; clear _u
                refine acnd_i (fun h6 => ?_) (fun h6 => ?_)
                all_goals repeat (first | simp only [decide_eq_true_eq] at h6 | simp only [decide_eq_false_iff_not] at h6 | simp only [beq_iff_eq] at h6 | simp only [bne_iff_ne] at h6 | simp only [beq_eq_false_iff_ne] at h6 | simp only [bne_eq_false_iff_eq] at h6 | simp only [Bool.not_eq_true'] at h6 | simp only [Bool.not_eq_false'] at h6 | simp only [Int.not_lt] at h6 | simp only [Int.not_le] at h6 | simp only [Bool.and_eq_true] at h6 | simp only [Bool.or_eq_true] at h6 | simp only [gt_iff_lt] at h6 | simp only [ge_iff_le] at h6 | simp only [ne_eq] at h6 | simp only [Decidable.not_not] at h6)
                · obtain ⟨x, hx⟩ : ∃ x, l[i]? = some x := ⟨_, List.getElem?_eq_getElem (by first | omega | (simp <;> omega))⟩
                  repeat ((intro _u; clear _u); first
                    | (with_reducible refine acnd_tt ?_)
                    | (with_reducible refine acnd_ff ?_)
                    | ((with_reducible refine IConf.mk ?_ ?_); · kernel_rfl)
                    | (first | (refine aix_n 0 rfl rfl ?_) | (refine aix_n 1 rfl rfl ?_) | (refine aix_n 2 rfl rfl ?_) | (refine aix_n 3 rfl rfl ?_) | (refine aix_n 4 rfl rfl ?_) | (refine aix_n 5 rfl rfl ?_) | (refine aix_n 6 rfl rfl ?_) | (refine aix_n 7 rfl rfl ?_))
                    | ((with_reducible refine iwr_in ?_ ?_); · (simp only [inI]; omega))
                    | ((with_reducible refine need_i ?_ ?_); · (first | omega | (simp <;> omega))))
                  intro _u; clear _u
                  refine eget_map hx ?_
                  repeat ((intro _u; clear _u); first
                    | (with_reducible refine acnd_tt ?_)
                    | (with_reducible refine acnd_ff ?_)
                    | ((with_reducible refine IConf.mk ?_ ?_); · kernel_rfl)
                    | (first | (refine aix_n 0 rfl rfl ?_) | (refine aix_n 1 rfl rfl ?_) | (refine aix_n 2 rfl rfl ?_) | (refine aix_n 3 rfl rfl ?_) | (refine aix_n 4 rfl rfl ?_) | (refine aix_n 5 rfl rfl ?_) | (refine aix_n 6 rfl rfl ?_) | (refine aix_n 7 rfl rfl ?_))
                    | ((with_reducible refine iwr_in ?_ ?_); · (simp only [inI]; omega))
                    | ((with_reducible refine need_i ?_ ?_); · (first | omega | (simp <;> omega))))
                  intro _u; clear _u
                  refine ICall.pure h.n15.o15.hb (holds_c h.n15 x.first x.last t) rfl ?_
                  repeat ((intro _u; clear _u); first
                    | (with_reducible refine acnd_tt ?_)
                    | (with_reducible refine acnd_ff ?_)
                    | ((with_reducible refine IConf.mk ?_ ?_); · kernel_rfl)
                    | (first | (refine aix_n 0 rfl rfl ?_) | (refine aix_n 1 rfl rfl ?_) | (refine aix_n 2 rfl rfl ?_) | (refine aix_n 3 rfl rfl ?_) | (refine aix_n 4 rfl rfl ?_) | (refine aix_n 5 rfl rfl ?_) | (refine aix_n 6 rfl rfl ?_) | (refine aix_n 7 rfl rfl ?_))
                    | ((with_reducible refine iwr_in ?_ ?_); · (simp only [inI]; omega))
                    | ((with_reducible refine need_i ?_ ?_); · (first | omega | (simp <;> omega))))
                  intro _u; clear _u
                  refine acnd_i (fun h4 => ?_) (fun h4 => ?_)
                  all_goals repeat (first | simp only [decide_eq_true_eq] at h4 | simp only [decide_eq_false_iff_not] at h4 | simp only [beq_iff_eq] at h4 | simp only [bne_iff_ne] at h4 | simp only [beq_eq_false_iff_ne] at h4 | simp only [bne_eq_false_iff_eq] at h4 | simp only [Bool.not_eq_true'] at h4 | simp only [Bool.not_eq_false'] at h4 | simp only [Int.not_lt] at h4 | simp only [Int.not_le] at h4 | simp only [Bool.and_eq_true] at h4 | simp only [Bool.or_eq_true] at h4 | simp only [gt_iff_lt] at h4 | simp only [ge_iff_le] at h4 | simp only [ne_eq] at h4 | simp only [Decidable.not_not] at h4)
                  · repeat ((intro _u; clear _u); first
                      | (with_reducible refine acnd_tt ?_)
                      | (with_reducible refine acnd_ff ?_)
                      | ((with_reducible refine IConf.mk ?_ ?_); · kernel_rfl)
                      | (first | (refine aix_n 0 rfl rfl ?_) | (refine aix_n 1 rfl rfl ?_) | (refine aix_n 2 rfl rfl ?_) | (refine aix_n 3 rfl rfl ?_) | (refine aix_n 4 rfl rfl ?_) | (refine aix_n 5 rfl rfl ?_) | (refine aix_n 6 rfl rfl ?_) | (refine aix_n 7 rfl rfl ?_))
                      | ((with_reducible refine iwr_in ?_ ?_); · (simp only [inI]; omega))
                      | ((with_reducible refine need_i ?_ ?_); · (first | omega | (simp <;> omega))))
                    intro _u; clear _u
                    refine acnd_f (by simp [holds, h4]) ?_
                    repeat ((intro _u; clear _u); first
                      | (with_reducible refine acnd_tt ?_)
                      | (with_reducible refine acnd_ff ?_)
                      | ((with_reducible refine IConf.mk ?_ ?_); · kernel_rfl)
                      | (first | (refine aix_n 0 rfl rfl ?_) | (refine aix_n 1 rfl rfl ?_) | (refine aix_n 2 rfl rfl ?_) | (refine aix_n 3 rfl rfl ?_) | (refine aix_n 4 rfl rfl ?_) | (refine aix_n 5 rfl rfl ?_) | (refine aix_n 6 rfl rfl ?_) | (refine aix_n 7 rfl rfl ?_))
                      | ((with_reducible refine iwr_in ?_ ?_); · (simp only [inI]; omega))
                      | ((with_reducible refine need_i ?_ ?_); · (first | omega | (simp <;> omega))))
                    intro _u; clear _u
                    refine acnd_i (fun h5 => ?_) (fun h5 => ?_)
                    all_goals repeat (first | simp only [decide_eq_true_eq] at h5 | simp only [decide_eq_false_iff_not] at h5 | simp only [beq_iff_eq] at h5 | simp only [bne_iff_ne] at h5 | simp only [beq_eq_false_iff_ne] at h5 | simp only [bne_eq_false_iff_eq] at h5 | simp only [Bool.not_eq_true'] at h5 | simp only [Bool.not_eq_false'] at h5 | simp only [Int.not_lt] at h5 | simp only [Int.not_le] at h5 | simp only [Bool.and_eq_true] at h5 | simp only [Bool.or_eq_true] at h5 | simp only [gt_iff_lt] at h5 | simp only [ge_iff_le] at h5 | simp only [ne_eq] at h5 | simp only [Decidable.not_not] at h5)
                    · repeat ((intro _u; clear _u); first
                        | (with_reducible refine acnd_tt ?_)
                        | (with_reducible refine acnd_ff ?_)
                        | ((with_reducible refine IConf.mk ?_ ?_); · kernel_rfl)
                        | (first | (refine aix_n 0 rfl rfl ?_) | (refine aix_n 1 rfl rfl ?_) | (refine aix_n 2 rfl rfl ?_) | (refine aix_n 3 rfl rfl ?_) | (refine aix_n 4 rfl rfl ?_) | (refine aix_n 5 rfl rfl ?_) | (refine aix_n 6 rfl rfl ?_) | (refine aix_n 7 rfl rfl ?_))
                        | ((with_reducible refine iwr_in ?_ ?_); · (simp only [inI]; omega))
                        | ((with_reducible refine need_i ?_ ?_); · (first | omega | (simp <;> omega))))
                      intro _u; clear _u
                      refine acnd_t (by simpa using h4) ?_
                      repeat ((intro _u; clear _u); first
                        | (with_reducible refine acnd_tt ?_)
                        | (with_reducible refine acnd_ff ?_)
                        | ((with_reducible refine IConf.mk ?_ ?_); · kernel_rfl)
                        | (first | (refine aix_n 0 rfl rfl ?_) | (refine aix_n 1 rfl rfl ?_) | (refine aix_n 2 rfl rfl ?_) | (refine aix_n 3 rfl rfl ?_) | (refine aix_n 4 rfl rfl ?_) | (refine aix_n 5 rfl rfl ?_) | (refine aix_n 6 rfl rfl ?_) | (refine aix_n 7 rfl rfl ?_))
                        | ((with_reducible refine iwr_in ?_ ?_); · (simp only [inI]; omega))
                        | ((with_reducible refine need_i ?_ ?_); · (first | omega | (simp <;> omega))))
                      intro _u; clear _u
                      refine ⟨i + 1, ?_, ?_, hp, ?_, ?_⟩
                      · omega
                      · omega
                      · all_goals repeat' (first | exact True.intro | refine And.intro ?_ ?_ | (intro _u; clear _u) | (with_reducible refine fzEs_same ?_ ?_ ?_) | (with_reducible refine mtEs_same ?_ ?_))
                        all_goals first | (with_reducible rfl) | omega | (simp; done) | (simp only [AV.namesL, AV.names, List.append_nil]; done) | (simp [AV.namesL]; done) | (simp [AV.namesL, AV.names]; done) | exact Or.inl (by decide) | (refine Or.inr ?_; (simp [AV.namesL, AV.names]; done)) | (refine Or.inr ?_; (simp [or_imp, forall_and, AV.namesL, AV.names]; done)) | skip
                        rw [acc_succ hx, h5]
                        simp [holds] <;> omega
                      · all_goals repeat' (first | exact True.intro | refine And.intro ?_ ?_ | (intro _u; clear _u) | (with_reducible refine fzEs_same ?_ ?_ ?_) | (with_reducible refine mtEs_same ?_ ?_))
                        all_goals first | (with_reducible rfl) | omega | (simp; done) | (simp only [AV.namesL, AV.names, List.append_nil]; done) | (simp [AV.namesL]; done) | (simp [AV.namesL, AV.names]; done) | exact Or.inl (by decide) | (refine Or.inr ?_; (simp [AV.namesL, AV.names]; done)) | (refine Or.inr ?_; (simp [or_imp, forall_and, AV.namesL, AV.names]; done)) | skip
                    · repeat ((intro _u; clear _u); first
                        | (with_reducible refine acnd_tt ?_)
                        | (with_reducible refine acnd_ff ?_)
                        | ((with_reducible refine IConf.mk ?_ ?_); · kernel_rfl)
                        | (first | (refine aix_n 0 rfl rfl ?_) | (refine aix_n 1 rfl rfl ?_) | (refine aix_n 2 rfl rfl ?_) | (refine aix_n 3 rfl rfl ?_) | (refine aix_n 4 rfl rfl ?_) | (refine aix_n 5 rfl rfl ?_) | (refine aix_n 6 rfl rfl ?_) | (refine aix_n 7 rfl rfl ?_))
                        | ((with_reducible refine iwr_in ?_ ?_); · (simp only [inI]; omega))
                        | ((with_reducible refine need_i ?_ ?_); · (first | omega | (simp <;> omega))))
                      intro _u; clear _u
                      refine ⟨i + 1, ?_, ?_, hp, ?_, ?_⟩
                      · omega
                      · omega
                      · all_goals repeat' (first | exact True.intro | refine And.intro ?_ ?_ | (intro _u; clear _u) | (with_reducible refine fzEs_same ?_ ?_ ?_) | (with_reducible refine mtEs_same ?_ ?_))
                        all_goals first | (with_reducible rfl) | omega | (simp; done) | (simp only [AV.namesL, AV.names, List.append_nil]; done) | (simp [AV.namesL]; done) | (simp [AV.namesL, AV.names]; done) | exact Or.inl (by decide) | (refine Or.inr ?_; (simp [AV.namesL, AV.names]; done)) | (refine Or.inr ?_; (simp [or_imp, forall_and, AV.namesL, AV.names]; done)) | skip
                        rw [acc_succ hx, h5]
                        simp [holds] <;> omega
                      · all_goals repeat' (first | exact True.intro | refine And.intro ?_ ?_ | (intro _u; clear _u) | (with_reducible refine fzEs_same ?_ ?_ ?_) | (with_reducible refine mtEs_same ?_ ?_))
                        all_goals first | (with_reducible rfl) | omega | (simp; done) | (simp only [AV.namesL, AV.names, List.append_nil]; done) | (simp [AV.namesL]; done) | (simp [AV.namesL, AV.names]; done) | exact Or.inl (by decide) | (refine Or.inr ?_; (simp [AV.namesL, AV.names]; done)) | (refine Or.inr ?_; (simp [or_imp, forall_and, AV.namesL, AV.names]; done)) | skip
                  · repeat ((intro _u; clear _u); first
                      | (with_reducible refine acnd_tt ?_)
                      | (with_reducible refine acnd_ff ?_)
                      | ((with_reducible refine IConf.mk ?_ ?_); · kernel_rfl)
                      | (first | (refine aix_n 0 rfl rfl ?_) | (refine aix_n 1 rfl rfl ?_) | (refine aix_n 2 rfl rfl ?_) | (refine aix_n 3 rfl rfl ?_) | (refine aix_n 4 rfl rfl ?_) | (refine aix_n 5 rfl rfl ?_) | (refine aix_n 6 rfl rfl ?_) | (refine aix_n 7 rfl rfl ?_))
                      | ((with_reducible refine iwr_in ?_ ?_); · (simp only [inI]; omega))
                      | ((with_reducible refine need_i ?_ ?_); · (first | omega | (simp <;> omega))))
                    intro _u; clear _u
                    refine acnd_f (by simp [holds]; omega) ?_
                    repeat ((intro _u; clear _u); first
                      | (with_reducible refine acnd_tt ?_)
                      | (with_reducible refine acnd_ff ?_)
                      | ((with_reducible refine IConf.mk ?_ ?_); · kernel_rfl)
                      | (first | (refine aix_n 0 rfl rfl ?_) | (refine aix_n 1 rfl rfl ?_) | (refine aix_n 2 rfl rfl ?_) | (refine aix_n 3 rfl rfl ?_) | (refine aix_n 4 rfl rfl ?_) | (refine aix_n 5 rfl rfl ?_) | (refine aix_n 6 rfl rfl ?_) | (refine aix_n 7 rfl rfl ?_))
                      | ((with_reducible refine iwr_in ?_ ?_); · (simp only [inI]; omega))
                      | ((with_reducible refine need_i ?_ ?_); · (first | omega | (simp <;> omega))))
                    intro _u; clear _u
                    refine acnd_i (fun h5 => ?_) (fun h5 => ?_)
                    all_goals repeat (first | simp only [decide_eq_true_eq] at h5 | simp only [decide_eq_false_iff_not] at h5 | simp only [beq_iff_eq] at h5 | simp only [bne_iff_ne] at h5 | simp only [beq_eq_false_iff_ne] at h5 | simp only [bne_eq_false_iff_eq] at h5 | simp only [Bool.not_eq_true'] at h5 | simp only [Bool.not_eq_false'] at h5 | simp only [Int.not_lt] at h5 | simp only [Int.not_le] at h5 | simp only [Bool.and_eq_true] at h5 | simp only [Bool.or_eq_true] at h5 | simp only [gt_iff_lt] at h5 | simp only [ge_iff_le] at h5 | simp only [ne_eq] at h5 | simp only [Decidable.not_not] at h5)
                    · repeat ((intro _u; clear _u); first
                        | (with_reducible refine acnd_tt ?_)
                        | (with_reducible refine acnd_ff ?_)
                        | ((with_reducible refine IConf.mk ?_ ?_); · kernel_rfl)
                        | (first | (refine aix_n 0 rfl rfl ?_) | (refine aix_n 1 rfl rfl ?_) | (refine aix_n 2 rfl rfl ?_) | (refine aix_n 3 rfl rfl ?_) | (refine aix_n 4 rfl rfl ?_) | (refine aix_n 5 rfl rfl ?_) | (refine aix_n 6 rfl rfl ?_) | (refine aix_n 7 rfl rfl ?_))
                        | ((with_reducible refine iwr_in ?_ ?_); · (simp only [inI]; omega))
                        | ((with_reducible refine need_i ?_ ?_); · (first | omega | (simp <;> omega))))
                      intro _u; clear _u
                      refine acnd_f (by simpa using h4) ?_
                      repeat ((intro _u; clear _u); first
                        | (with_reducible refine acnd_tt ?_)
                        | (with_reducible refine acnd_ff ?_)
                        | ((with_reducible refine IConf.mk ?_ ?_); · kernel_rfl)
                        | (first | (refine aix_n 0 rfl rfl ?_) | (refine aix_n 1 rfl rfl ?_) | (refine aix_n 2 rfl rfl ?_) | (refine aix_n 3 rfl rfl ?_) | (refine aix_n 4 rfl rfl ?_) | (refine aix_n 5 rfl rfl ?_) | (refine aix_n 6 rfl rfl ?_) | (refine aix_n 7 rfl rfl ?_))
                        | ((with_reducible refine iwr_in ?_ ?_); · (simp only [inI]; omega))
                        | ((with_reducible refine need_i ?_ ?_); · (first | omega | (simp <;> omega))))
                      intro _u; clear _u
                      refine ⟨i + 1, ?_, ?_, hp, ?_, ?_⟩
                      · omega
                      · omega
                      · all_goals repeat' (first | exact True.intro | refine And.intro ?_ ?_ | (intro _u; clear _u) | (with_reducible refine fzEs_same ?_ ?_ ?_) | (with_reducible refine mtEs_same ?_ ?_))
                        all_goals first | (with_reducible rfl) | omega | (simp; done) | (simp only [AV.namesL, AV.names, List.append_nil]; done) | (simp [AV.namesL]; done) | (simp [AV.namesL, AV.names]; done) | exact Or.inl (by decide) | (refine Or.inr ?_; (simp [AV.namesL, AV.names]; done)) | (refine Or.inr ?_; (simp [or_imp, forall_and, AV.namesL, AV.names]; done)) | skip
                        rw [acc_succ hx, h5]
                        simp [holds] <;> omega
                      · all_goals repeat' (first | exact True.intro | refine And.intro ?_ ?_ | (intro _u; clear _u) | (with_reducible refine fzEs_same ?_ ?_ ?_) | (with_reducible refine mtEs_same ?_ ?_))
                        all_goals first | (with_reducible rfl) | omega | (simp; done) | (simp only [AV.namesL, AV.names, List.append_nil]; done) | (simp [AV.namesL]; done) | (simp [AV.namesL, AV.names]; done) | exact Or.inl (by decide) | (refine Or.inr ?_; (simp [AV.namesL, AV.names]; done)) | (refine Or.inr ?_; (simp [or_imp, forall_and, AV.namesL, AV.names]; done)) | skip
                    · repeat ((intro _u; clear _u); first
                        | (with_reducible refine acnd_tt ?_)
                        | (with_reducible refine acnd_ff ?_)
                        | ((with_reducible refine IConf.mk ?_ ?_); · kernel_rfl)
                        | (first | (refine aix_n 0 rfl rfl ?_) | (refine aix_n 1 rfl rfl ?_) | (refine aix_n 2 rfl rfl ?_) | (refine aix_n 3 rfl rfl ?_) | (refine aix_n 4 rfl rfl ?_) | (refine aix_n 5 rfl rfl ?_) | (refine aix_n 6 rfl rfl ?_) | (refine aix_n 7 rfl rfl ?_))
                        | ((with_reducible refine iwr_in ?_ ?_); · (simp only [inI]; omega))
                        | ((with_reducible refine need_i ?_ ?_); · (first | omega | (simp <;> omega))))
                      intro _u; clear _u
                      refine ⟨i + 1, ?_, ?_, hp, ?_, ?_⟩
                      · omega
                      · omega
                      · all_goals repeat' (first | exact True.intro | refine And.intro ?_ ?_ | (intro _u; clear _u) | (with_reducible refine fzEs_same ?_ ?_ ?_) | (with_reducible refine mtEs_same ?_ ?_))
                        all_goals first | (with_reducible rfl) | omega | (simp; done) | (simp only [AV.namesL, AV.names, List.append_nil]; done) | (simp [AV.namesL]; done) | (simp [AV.namesL, AV.names]; done) | exact Or.inl (by decide) | (refine Or.inr ?_; (simp [AV.namesL, AV.names]; done)) | (refine Or.inr ?_; (simp [or_imp, forall_and, AV.namesL, AV.names]; done)) | skip
                        rw [acc_succ hx, h5]
                        simp [holds] <;> omega
                      · all_goals repeat' (first | exact True.intro | refine And.intro ?_ ?_ | (intro _u; clear _u) | (with_reducible refine fzEs_same ?_ ?_ ?_) | (with_reducible refine mtEs_same ?_ ?_))
                        all_goals first | (with_reducible rfl) | omega | (simp; done) | (simp only [AV.namesL, AV.names, List.append_nil]; done) | (simp [AV.namesL]; done) | (simp [AV.namesL, AV.names]; done) | exact Or.inl (by decide) | (refine Or.inr ?_; (simp [AV.namesL, AV.names]; done)) | (refine Or.inr ?_; (simp [or_imp, forall_and, AV.namesL, AV.names]; done)) | skip
                · repeat ((intro _u; clear _u); first
                    | (with_reducible refine acnd_tt ?_)
                    | (with_reducible refine acnd_ff ?_)
                    | ((with_reducible refine IConf.mk ?_ ?_); · kernel_rfl)
                    | (first | (refine aix_n 0 rfl rfl ?_) | (refine aix_n 1 rfl rfl ?_) | (refine aix_n 2 rfl rfl ?_) | (refine aix_n 3 rfl rfl ?_) | (refine aix_n 4 rfl rfl ?_) | (refine aix_n 5 rfl rfl ?_) | (refine aix_n 6 rfl rfl ?_) | (refine aix_n 7 rfl rfl ?_))
                    | ((with_reducible refine iwr_in ?_ ?_); · (simp only [inI]; omega))
                    | ((with_reducible refine need_i ?_ ?_); · (first | omega | (simp <;> omega))))
                  intro _u; clear _u
                  refine ICall.pure h.n15.o15.hb (holds_c h.n15 (lo f l) (hi z l) t) rfl ?_
                  repeat ((intro _u; clear _u); first
                    | (with_reducible refine acnd_tt ?_)
                    | (with_reducible refine acnd_ff ?_)
                    | ((with_reducible refine IConf.mk ?_ ?_); · kernel_rfl)
                    | (first | (refine aix_n 0 rfl rfl ?_) | (refine aix_n 1 rfl rfl ?_) | (refine aix_n 2 rfl rfl ?_) | (refine aix_n 3 rfl rfl ?_) | (refine aix_n 4 rfl rfl ?_) | (refine aix_n 5 rfl rfl ?_) | (refine aix_n 6 rfl rfl ?_) | (refine aix_n 7 rfl rfl ?_))
                    | ((with_reducible refine iwr_in ?_ ?_); · (simp only [inI]; omega))
                    | ((with_reducible refine need_i ?_ ?_); · (first | omega | (simp <;> omega))))
                  intro _u; clear _u
                  refine acnd_f (by rw [acc_all (by omega)]; simp) ?_
                  repeat ((intro _u; clear _u); first
                    | (with_reducible refine acnd_tt ?_)
                    | (with_reducible refine acnd_ff ?_)
                    | ((with_reducible refine IConf.mk ?_ ?_); · kernel_rfl)
                    | (first | (refine aix_n 0 rfl rfl ?_) | (refine aix_n 1 rfl rfl ?_) | (refine aix_n 2 rfl rfl ?_) | (refine aix_n 3 rfl rfl ?_) | (refine aix_n 4 rfl rfl ?_) | (refine aix_n 5 rfl rfl ?_) | (refine aix_n 6 rfl rfl ?_) | (refine aix_n 7 rfl rfl ?_))
                    | ((with_reducible refine iwr_in ?_ ?_); · (simp only [inI]; omega))
                    | ((with_reducible refine need_i ?_ ?_); · (first | omega | (simp <;> omega))))
                  intro _u; clear _u
                  refine ⟨j + 1, ?_, ?_, hp, ?_, ?_⟩
                  · omega
                  · omega
                  · all_goals repeat' (first | exact True.intro | refine And.intro ?_ ?_ | (intro _u; clear _u) | (with_reducible refine fzEs_same ?_ ?_ ?_) | (with_reducible refine mtEs_same ?_ ?_))
                    all_goals first | (with_reducible rfl) | omega | (simp; done) | (simp only [AV.namesL, AV.names, List.append_nil]; done) | (simp [AV.namesL]; done) | (simp [AV.namesL, AV.names]; done) | exact Or.inl (by decide) | (refine Or.inr ?_; (simp [AV.namesL, AV.names]; done)) | (refine Or.inr ?_; (simp [or_imp, forall_and, AV.namesL, AV.names]; done)) | skip
                  · all_goals repeat' (first | exact True.intro | refine And.intro ?_ ?_ | (intro _u; clear _u) | (with_reducible refine fzEs_same ?_ ?_ ?_) | (with_reducible refine mtEs_same ?_ ?_))
                    all_goals first | (with_reducible rfl) | omega | (simp; done) | (simp only [AV.namesL, AV.names, List.append_nil]; done) | (simp [AV.namesL]; done) | (simp [AV.namesL, AV.names]; done) | exact Or.inl (by decide) | (refine Or.inr ?_; (simp [AV.namesL, AV.names]; done)) | (refine Or.inr ?_; (simp [or_imp, forall_and, AV.namesL, AV.names]; done)) | skip
            · repeat ((intro _u; clear _u); first
                | (with_reducible refine acnd_tt ?_)
                | (with_reducible refine acnd_ff ?_)
                | ((with_reducible refine IConf.mk ?_ ?_); · kernel_rfl)
                | (first | (refine aix_n 0 rfl rfl ?_) | (refine aix_n 1 rfl rfl ?_) | (refine aix_n 2 rfl rfl ?_) | (refine aix_n 3 rfl rfl ?_) | (refine aix_n 4 rfl rfl ?_) | (refine aix_n 5 rfl rfl ?_) | (refine aix_n 6 rfl rfl ?_) | (refine aix_n 7 rfl rfl ?_))
                | ((with_reducible refine iwr_in ?_ ?_); · (simp only [inI]; omega))
                | ((with_reducible refine need_i ?_ ?_); · (first | omega | (simp <;> omega))))
              intro _u; clear _u
              refine ILoop.inv 100 (fun i : Nat => i ≤ l.length) (fun i => ⟨[(0, .int .u32 f), (1, .int .u32 z), (2, .isl 15 (mfs l)), (7, .int .u32 (lo f l)), (8, .int .u32 (hi z l)), (13, .int .u32 t), (14, .bool (acc f z t l i)), (62, .isl 1 (sl ts)), (63, .int .i64 ts.length), (64, .int .i64 j), (76, .isl 15 (mfs l)), (77, .int .i64 l.length), (78, .int .i64 i)], [], 0⟩) (fun i => l.length - i) (0) ?_ ⟨hp, ?_, ?_⟩ ?_
              · exact Nat.zero_le _
              · all_goals repeat' (first | exact True.intro | refine And.intro ?_ ?_ | (intro _u; clear _u) | (with_reducible refine fzEs_same ?_ ?_ ?_) | (with_reducible refine mtEs_same ?_ ?_))
                all_goals first | (with_reducible rfl) | omega | (simp; done) | (simp only [AV.namesL, AV.names, List.append_nil]; done) | (simp [AV.namesL]; done) | (simp [AV.namesL, AV.names]; done) | exact Or.inl (by decide) | (refine Or.inr ?_; (simp [AV.namesL, AV.names]; done)) | (refine Or.inr ?_; (simp [or_imp, forall_and, AV.namesL, AV.names]; done)) | skip
                simp [acc, holds]; omega
              · all_goals repeat' (first | exact True.intro | refine And.intro ?_ ?_ | (intro _u; clear _u) | (with_reducible refine fzEs_same ?_ ?_ ?_) | (with_reducible refine mtEs_same ?_ ?_))
                all_goals first | (with_reducible rfl) | omega | (simp; done) | (simp only [AV.namesL, AV.names, List.append_nil]; done) | (simp [AV.namesL]; done) | (simp [AV.namesL, AV.names]; done) | exact Or.inl (by decide) | (refine Or.inr ?_; (simp [AV.namesL, AV.names]; done)) | (refine Or.inr ?_; (simp [or_imp, forall_and, AV.namesL, AV.names]; done)) | skip
              · intro i hi'
                dsimp only
                repeat ((intro _u; clear _u); first
                  | (with_reducible refine acnd_tt ?_)
                  | (with_reducible refine acnd_ff ?_)
                  | ((with_reducible refine IConf.mk ?_ ?_); · kernel_rfl)
                  | (first | (refine aix_n 0 rfl rfl ?_) | (refine aix_n 1 rfl rfl ?_) | (refine aix_n 2 rfl rfl ?_) | (refine aix_n 3 rfl rfl ?_) | (refine aix_n 4 rfl rfl ?_) | (refine aix_n 5 rfl rfl ?_) | (refine aix_n 6 rfl rfl ?_) | (refine aix_n 7 rfl rfl ?_))
                  | ((with_reducible refine iwr_in ?_ ?_); · (simp only [inI]; omega))
                  | ((with_reducible refine need_i ?_ ?_); · (first | omega | (simp <;> omega))))
                intro _u; clear _u
                refine acnd_i (fun h6 => ?_) (fun h6 => ?_)
                all_goals repeat (first | simp only [decide_eq_true_eq] at h6 | simp only [decide_eq_false_iff_not] at h6 | simp only [beq_iff_eq] at h6 | simp only [bne_iff_ne] at h6 | simp only [beq_eq_false_iff_ne] at h6 | simp only [bne_eq_false_iff_eq] at h6 | simp only [Bool.not_eq_true'] at h6 | simp only [Bool.not_eq_false'] at h6 | simp only [Int.not_lt] at h6 | simp only [Int.not_le] at h6 | simp only [Bool.and_eq_true] at h6 | simp only [Bool.or_eq_true] at h6 | simp only [gt_iff_lt] at h6 | simp only [ge_iff_le] at h6 | simp only [ne_eq] at h6 | simp only [Decidable.not_not] at h6)
                · obtain ⟨x, hx⟩ : ∃ x, l[i]? = some x := ⟨_, List.getElem?_eq_getElem (by first | omega | (simp <;> omega))⟩
                  repeat ((intro _u; clear _u); first
                    | (with_reducible refine acnd_tt ?_)
                    | (with_reducible refine acnd_ff ?_)
                    | ((with_reducible refine IConf.mk ?_ ?_); · kernel_rfl)
                    | (first | (refine aix_n 0 rfl rfl ?_) | (refine aix_n 1 rfl rfl ?_) | (refine aix_n 2 rfl rfl ?_) | (refine aix_n 3 rfl rfl ?_) | (refine aix_n 4 rfl rfl ?_) | (refine aix_n 5 rfl rfl ?_) | (refine aix_n 6 rfl rfl ?_) | (refine aix_n 7 rfl rfl ?_))
                    | ((with_reducible refine iwr_in ?_ ?_); · (simp only [inI]; omega))
                    | ((with_reducible refine need_i ?_ ?_); · (first | omega | (simp <;> omega))))
                  intro _u; clear _u
                  refine eget_map hx ?_
                  repeat ((intro _u; clear _u); first
                    | (with_reducible refine acnd_tt ?_)
                    | (with_reducible refine acnd_ff ?_)
                    | ((with_reducible refine IConf.mk ?_ ?_); · kernel_rfl)
                    | (first | (refine aix_n 0 rfl rfl ?_) | (refine aix_n 1 rfl rfl ?_) | (refine aix_n 2 rfl rfl ?_) | (refine aix_n 3 rfl rfl ?_) | (refine aix_n 4 rfl rfl ?_) | (refine aix_n 5 rfl rfl ?_) | (refine aix_n 6 rfl rfl ?_) | (refine aix_n 7 rfl rfl ?_))
                    | ((with_reducible refine iwr_in ?_ ?_); · (simp only [inI]; omega))
                    | ((with_reducible refine need_i ?_ ?_); · (first | omega | (simp <;> omega))))
                  intro _u; clear _u
                  refine ICall.pure h.n15.o15.hb (holds_c h.n15 x.first x.last t) rfl ?_
                  repeat ((intro _u; clear _u); first
                    | (with_reducible refine acnd_tt ?_)
                    | (with_reducible refine acnd_ff ?_)
                    | ((with_reducible refine IConf.mk ?_ ?_); · kernel_rfl)
                    | (first | (refine aix_n 0 rfl rfl ?_) | (refine aix_n 1 rfl rfl ?_) | (refine aix_n 2 rfl rfl ?_) | (refine aix_n 3 rfl rfl ?_) | (refine aix_n 4 rfl rfl ?_) | (refine aix_n 5 rfl rfl ?_) | (refine aix_n 6 rfl rfl ?_) | (refine aix_n 7 rfl rfl ?_))
                    | ((with_reducible refine iwr_in ?_ ?_); · (simp only [inI]; omega))
                    | ((with_reducible refine need_i ?_ ?_); · (first | omega | (simp <;> omega))))
                  intro _u; clear _u
                  refine acnd_i (fun h4 => ?_) (fun h4 => ?_)
                  all_goals repeat (first | simp only [decide_eq_true_eq] at h4 | simp only [decide_eq_false_iff_not] at h4 | simp only [beq_iff_eq] at h4 | simp only [bne_iff_ne] at h4 | simp only [beq_eq_false_iff_ne] at h4 | simp only [bne_eq_false_iff_eq] at h4 | simp only [Bool.not_eq_true'] at h4 | simp only [Bool.not_eq_false'] at h4 | simp only [Int.not_lt] at h4 | simp only [Int.not_le] at h4 | simp only [Bool.and_eq_true] at h4 | simp only [Bool.or_eq_true] at h4 | simp only [gt_iff_lt] at h4 | simp only [ge_iff_le] at h4 | simp only [ne_eq] at h4 | simp only [Decidable.not_not] at h4)
                  · repeat ((intro _u; clear _u); first
                      | (with_reducible refine acnd_tt ?_)
                      | (with_reducible refine acnd_ff ?_)
                      | ((with_reducible refine IConf.mk ?_ ?_); · kernel_rfl)
                      | (first | (refine aix_n 0 rfl rfl ?_) | (refine aix_n 1 rfl rfl ?_) | (refine aix_n 2 rfl rfl ?_) | (refine aix_n 3 rfl rfl ?_) | (refine aix_n 4 rfl rfl ?_) | (refine aix_n 5 rfl rfl ?_) | (refine aix_n 6 rfl rfl ?_) | (refine aix_n 7 rfl rfl ?_))
                      | ((with_reducible refine iwr_in ?_ ?_); · (simp only [inI]; omega))
                      | ((with_reducible refine need_i ?_ ?_); · (first | omega | (simp <;> omega))))
                    intro _u; clear _u
                    refine acnd_f (by simp [holds, h4]) ?_
                    repeat ((intro _u; clear _u); first
                      | (with_reducible refine acnd_tt ?_)
                      | (with_reducible refine acnd_ff ?_)
                      | ((with_reducible refine IConf.mk ?_ ?_); · kernel_rfl)
                      | (first | (refine aix_n 0 rfl rfl ?_) | (refine aix_n 1 rfl rfl ?_) | (refine aix_n 2 rfl rfl ?_) | (refine aix_n 3 rfl rfl ?_) | (refine aix_n 4 rfl rfl ?_) | (refine aix_n 5 rfl rfl ?_) | (refine aix_n 6 rfl rfl ?_) | (refine aix_n 7 rfl rfl ?_))
                      | ((with_reducible refine iwr_in ?_ ?_); · (simp only [inI]; omega))
                      | ((with_reducible refine need_i ?_ ?_); · (first | omega | (simp <;> omega))))
                    intro _u; clear _u
                    refine acnd_i (fun h5 => ?_) (fun h5 => ?_)
                    all_goals repeat (first | simp only [decide_eq_true_eq] at h5 | simp only [decide_eq_false_iff_not] at h5 | simp only [beq_iff_eq] at h5 | simp only [bne_iff_ne] at h5 | simp only [beq_eq_false_iff_ne] at h5 | simp only [bne_eq_false_iff_eq] at h5 | simp only [Bool.not_eq_true'] at h5 | simp only [Bool.not_eq_false'] at h5 | simp only [Int.not_lt] at h5 | simp only [Int.not_le] at h5 | simp only [Bool.and_eq_true] at h5 | simp only [Bool.or_eq_true] at h5 | simp only [gt_iff_lt] at h5 | simp only [ge_iff_le] at h5 | simp only [ne_eq] at h5 | simp only [Decidable.not_not] at h5)
                    · repeat ((intro _u; clear _u); first
                        | (with_reducible refine acnd_tt ?_)
                        | (with_reducible refine acnd_ff ?_)
                        | ((with_reducible refine IConf.mk ?_ ?_); · kernel_rfl)
                        | (first | (refine aix_n 0 rfl rfl ?_) | (refine aix_n 1 rfl rfl ?_) | (refine aix_n 2 rfl rfl ?_) | (refine aix_n 3 rfl rfl ?_) | (refine aix_n 4 rfl rfl ?_) | (refine aix_n 5 rfl rfl ?_) | (refine aix_n 6 rfl rfl ?_) | (refine aix_n 7 rfl rfl ?_))
                        | ((with_reducible refine iwr_in ?_ ?_); · (simp only [inI]; omega))
                        | ((with_reducible refine need_i ?_ ?_); · (first | omega | (simp <;> omega))))
                      intro _u; clear _u
                      refine acnd_t (by simpa using h4) ?_
                      repeat ((intro _u; clear _u); first
                        | (with_reducible refine acnd_tt ?_)
                        | (with_reducible refine acnd_ff ?_)
                        | ((with_reducible refine IConf.mk ?_ ?_); · kernel_rfl)
                        | (first | (refine aix_n 0 rfl rfl ?_) | (refine aix_n 1 rfl rfl ?_) | (refine aix_n 2 rfl rfl ?_) | (refine aix_n 3 rfl rfl ?_) | (refine aix_n 4 rfl rfl ?_) | (refine aix_n 5 rfl rfl ?_) | (refine aix_n 6 rfl rfl ?_) | (refine aix_n 7 rfl rfl ?_))
                        | ((with_reducible refine iwr_in ?_ ?_); · (simp only [inI]; omega))
                        | ((with_reducible refine need_i ?_ ?_); · (first | omega | (simp <;> omega))))
                      intro _u; clear _u
                      refine ⟨i + 1, ?_, ?_, hp, ?_, ?_⟩
                      · omega
                      · omega
                      · all_goals repeat' (first | exact True.intro | refine And.intro ?_ ?_ | (intro _u; clear _u) | (with_reducible refine fzEs_same ?_ ?_ ?_) | (with_reducible refine mtEs_same ?_ ?_))
                        all_goals first | (with_reducible rfl) | omega | (simp; done) | (simp only [AV.namesL, AV.names, List.append_nil]; done) | (simp [AV.namesL]; done) | (simp [AV.namesL, AV.names]; done) | exact Or.inl (by decide) | (refine Or.inr ?_; (simp [AV.namesL, AV.names]; done)) | (refine Or.inr ?_; (simp [or_imp, forall_and, AV.namesL, AV.names]; done)) | skip
                        rw [acc_succ hx, h5]
                        simp [holds] <;> omega
                      · all_goals repeat' (first | exact True.intro | refine And.intro ?_ ?_ | (intro _u; clear _u) | (with_reducible refine fzEs_same ?_ ?_ ?_) | (with_reducible refine mtEs_same ?_ ?_))
                        all_goals first | (with_reducible rfl) | omega | (simp; done) | (simp only [AV.namesL, AV.names, List.append_nil]; done) | (simp [AV.namesL]; done) | (simp [AV.namesL, AV.names]; done) | exact Or.inl (by decide) | (refine Or.inr ?_; (simp [AV.namesL, AV.names]; done)) | (refine Or.inr ?_; (simp [or_imp, forall_and, AV.namesL, AV.names]; done)) | skip
                    · repeat ((intro _u; clear _u); first
                        | (with_reducible refine acnd_tt ?_)
                        | (with_reducible refine acnd_ff ?_)
                        | ((with_reducible refine IConf.mk ?_ ?_); · kernel_rfl)
                        | (first | (refine aix_n 0 rfl rfl ?_) | (refine aix_n 1 rfl rfl ?_) | (refine aix_n 2 rfl rfl ?_) | (refine aix_n 3 rfl rfl ?_) | (refine aix_n 4 rfl rfl ?_) | (refine aix_n 5 rfl rfl ?_) | (refine aix_n 6 rfl rfl ?_) | (refine aix_n 7 rfl rfl ?_))
                        | ((with_reducible refine iwr_in ?_ ?_); · (simp only [inI]; omega))
                        | ((with_reducible refine need_i ?_ ?_); · (first | omega | (simp <;> omega))))
                      intro _u; clear _u
                      refine ⟨i + 1, ?_, ?_, hp, ?_, ?_⟩
                      · omega
                      · omega
                      · all_goals repeat' (first | exact True.intro | refine And.intro ?_ ?_ | (intro _u; clear _u) | (with_reducible refine fzEs_same ?_ ?_ ?_) | (with_reducible refine mtEs_same ?_ ?_))
                        all_goals first | (with_reducible rfl) | omega | (simp; done) | (simp only [AV.namesL, AV.names, List.append_nil]; done) | (simp [AV.namesL]; done) | (simp [AV.namesL, AV.names]; done) | exact Or.inl (by decide) | (refine Or.inr ?_; (simp [AV.namesL, AV.names]; done)) | (refine Or.inr ?_; (simp [or_imp, forall_and, AV.namesL, AV.names]; done)) | skip
                        rw [acc_succ hx, h5]
                        simp [holds] <;> omega
                      · all_goals repeat' (first | exact True.intro | refine And.intro ?_ ?_ | (intro _u; clear _u) | (with_reducible refine fzEs_same ?_ ?_ ?_) | (with_reducible refine mtEs_same ?_ ?_))
                        all_goals first | (with_reducible rfl) | omega | (simp; done) | (simp only [AV.namesL, AV.names, List.append_nil]; done) | (simp [AV.namesL]; done) | (simp [AV.namesL, AV.names]; done) | exact Or.inl (by decide) | (refine Or.inr ?_; (simp [AV.namesL, AV.names]; done)) | (refine Or.inr ?_; (simp [or_imp, forall_and, AV.namesL, AV.names]; done)) | skip
                  · repeat ((intro _u; clear _u); first
                      | (with_reducible refine acnd_tt ?_)
                      | (with_reducible refine acnd_ff ?_)
                      | ((with_reducible refine IConf.mk ?_ ?_); · kernel_rfl)
                      | (first | (refine aix_n 0 rfl rfl ?_) | (refine aix_n 1 rfl rfl ?_) | (refine aix_n 2 rfl rfl ?_) | (refine aix_n 3 rfl rfl ?_) | (refine aix_n 4 rfl rfl ?_) | (refine aix_n 5 rfl rfl ?_) | (refine aix_n 6 rfl rfl ?_) | (refine aix_n 7 rfl rfl ?_))
                      | ((with_reducible refine iwr_in ?_ ?_); · (simp only [inI]; omega))
                      | ((with_reducible refine need_i ?_ ?_); · (first | omega | (simp <;> omega))))
                    intro _u; clear _u
                    refine acnd_f (by simp [holds]; omega) ?_
                    repeat ((intro _u; clear _u); first
                      | (with_reducible refine acnd_tt ?_)
                      | (with_reducible refine acnd_ff ?_)
                      | ((with_reducible refine IConf.mk ?_ ?_); · kernel_rfl)
                      | (first | (refine aix_n 0 rfl rfl ?_) | (refine aix_n 1 rfl rfl ?_) | (refine aix_n 2 rfl rfl ?_) | (refine aix_n 3 rfl rfl ?_) | (refine aix_n 4 rfl rfl ?_) | (refine aix_n 5 rfl rfl ?_) | (refine aix_n 6 rfl rfl ?_) | (refine aix_n 7 rfl rfl ?_))
                      | ((with_reducible refine iwr_in ?_ ?_); · (simp only [inI]; omega))
                      | ((with_reducible refine need_i ?_ ?_); · (first | omega | (simp <;> omega))))
                    intro _u; clear _u
                    refine acnd_i (fun h5 => ?_) (fun h5 => ?_)
                    all_goals repeat (first | simp only [decide_eq_true_eq] at h5 | simp only [decide_eq_false_iff_not] at h5 | simp only [beq_iff_eq] at h5 | simp only [bne_iff_ne] at h5 | simp only [beq_eq_false_iff_ne] at h5 | simp only [bne_eq_false_iff_eq] at h5 | simp only [Bool.not_eq_true'] at h5 | simp only [Bool.not_eq_false'] at h5 | simp only [Int.not_lt] at h5 | simp only [Int.not_le] at h5 | simp only [Bool.and_eq_true] at h5 | simp only [Bool.or_eq_true] at h5 | simp only [gt_iff_lt] at h5 | simp only [ge_iff_le] at h5 | simp only [ne_eq] at h5 | simp only [Decidable.not_not] at h5)
                    · repeat ((intro _u; clear _u); first
                        | (with_reducible refine acnd_tt ?_)
                        | (with_reducible refine acnd_ff ?_)
                        | ((with_reducible refine IConf.mk ?_ ?_); · kernel_rfl)
                        | (first | (refine aix_n 0 rfl rfl ?_) | (refine aix_n 1 rfl rfl ?_) | (refine aix_n 2 rfl rfl ?_) | (refine aix_n 3 rfl rfl ?_) | (refine aix_n 4 rfl rfl ?_) | (refine aix_n 5 rfl rfl ?_) | (refine aix_n 6 rfl rfl ?_) | (refine aix_n 7 rfl rfl ?_))
                        | ((with_reducible refine iwr_in ?_ ?_); · (simp only [inI]; omega))
                        | ((with_reducible refine need_i ?_ ?_); · (first | omega | (simp <;> omega))))
                      intro _u; clear _u
                      refine acnd_f (by simpa using h4) ?_
                      repeat ((intro _u; clear _u); first
                        | (with_reducible refine acnd_tt ?_)
                        | (with_reducible refine acnd_ff ?_)
                        | ((with_reducible refine IConf.mk ?_ ?_); · kernel_rfl)
                        | (first | (refine aix_n 0 rfl rfl ?_) | (refine aix_n 1 rfl rfl ?_) | (refine aix_n 2 rfl rfl ?_) | (refine aix_n 3 rfl rfl ?_) | (refine aix_n 4 rfl rfl ?_) | (refine aix_n 5 rfl rfl ?_) | (refine aix_n 6 rfl rfl ?_) | (refine aix_n 7 rfl rfl ?_))
                        | ((with_reducible refine iwr_in ?_ ?_); · (simp only [inI]; omega))
                        | ((with_reducible refine need_i ?_ ?_); · (first | omega | (simp <;> omega))))
                      intro _u; clear _u
                      refine ⟨i + 1, ?_, ?_, hp, ?_, ?_⟩
                      · omega
                      · omega
                      · all_goals repeat' (first | exact True.intro | refine And.intro ?_ ?_ | (intro _u; clear _u) | (with_reducible refine fzEs_same ?_ ?_ ?_) | (with_reducible refine mtEs_same ?_ ?_))
                        all_goals first | (with_reducible rfl) | omega | (simp; done) | (simp only [AV.namesL, AV.names, List.append_nil]; done) | (simp [AV.namesL]; done) | (simp [AV.namesL, AV.names]; done) | exact Or.inl (by decide) | (refine Or.inr ?_; (simp [AV.namesL, AV.names]; done)) | (refine Or.inr ?_; (simp [or_imp, forall_and, AV.namesL, AV.names]; done)) | skip
                        rw [acc_succ hx, h5]
                        simp [holds] <;> omega
                      · all_goals repeat' (first | exact True.intro | refine And.intro ?_ ?_ | (intro _u; clear _u) | (with_reducible refine fzEs_same ?_ ?_ ?_) | (with_reducible refine mtEs_same ?_ ?_))
                        all_goals first | (with_reducible rfl) | omega | (simp; done) | (simp only [AV.namesL, AV.names, List.append_nil]; done) | (simp [AV.namesL]; done) | (simp [AV.namesL, AV.names]; done) | exact Or.inl (by decide) | (refine Or.inr ?_; (simp [AV.namesL, AV.names]; done)) | (refine Or.inr ?_; (simp [or_imp, forall_and, AV.namesL, AV.names]; done)) | skip
                    · repeat ((intro _u; clear _u); first
                        | (with_reducible refine acnd_tt ?_)
                        | (with_reducible refine acnd_ff ?_)
                        | ((with_reducible refine IConf.mk ?_ ?_); · kernel_rfl)
                        | (first | (refine aix_n 0 rfl rfl ?_) | (refine aix_n 1 rfl rfl ?_) | (refine aix_n 2 rfl rfl ?_) | (refine aix_n 3 rfl rfl ?_) | (refine aix_n 4 rfl rfl ?_) | (refine aix_n 5 rfl rfl ?_) | (refine aix_n 6 rfl rfl ?_) | (refine aix_n 7 rfl rfl ?_))
                        | ((with_reducible refine iwr_in ?_ ?_); · (simp only [inI]; omega))
                        | ((with_reducible refine need_i ?_ ?_); · (first | omega | (simp <;> omega))))
                      intro _u; clear _u
                      refine ⟨i + 1, ?_, ?_, hp, ?_, ?_⟩
                      · omega
                      · omega
                      · all_goals repeat' (first | exact True.intro | refine And.intro ?_ ?_ | (intro _u; clear _u) | (with_reducible refine fzEs_same ?_ ?_ ?_) | (with_reducible refine mtEs_same ?_ ?_))
                        all_goals first | (with_reducible rfl) | omega | (simp; done) | (simp only [AV.namesL, AV.names, List.append_nil]; done) | (simp [AV.namesL]; done) | (simp [AV.namesL, AV.names]; done) | exact Or.inl (by decide) | (refine Or.inr ?_; (simp [AV.namesL, AV.names]; done)) | (refine Or.inr ?_; (simp [or_imp, forall_and, AV.namesL, AV.names]; done)) | skip
                        rw [acc_succ hx, h5]
                        simp [holds] <;> omega
                      · all_goals repeat' (first | exact True.intro | refine And.intro ?_ ?_ | (intro _u; clear _u) | (with_reducible refine fzEs_same ?_ ?_ ?_) | (with_reducible refine mtEs_same ?_ ?_))
                        all_goals first | (with_reducible rfl) | omega | (simp; done) | (simp only [AV.namesL, AV.names, List.append_nil]; done) | (simp [AV.namesL]; done) | (simp [AV.namesL, AV.names]; done) | exact Or.inl (by decide) | (refine Or.inr ?_; (simp [AV.namesL, AV.names]; done)) | (refine Or.inr ?_; (simp [or_imp, forall_and, AV.namesL, AV.names]; done)) | skip
                · repeat ((intro _u; clear _u); first
                    | (with_reducible refine acnd_tt ?_)
                    | (with_reducible refine acnd_ff ?_)
                    | ((with_reducible refine IConf.mk ?_ ?_); · kernel_rfl)
                    | (first | (refine aix_n 0 rfl rfl ?_) | (refine aix_n 1 rfl rfl ?_) | (refine aix_n 2 rfl rfl ?_) | (refine aix_n 3 rfl rfl ?_) | (refine aix_n 4 rfl rfl ?_) | (refine aix_n 5 rfl rfl ?_) | (refine aix_n 6 rfl rfl ?_) | (refine aix_n 7 rfl rfl ?_))
                    | ((with_reducible refine iwr_in ?_ ?_); · (simp only [inI]; omega))
                    | ((with_reducible refine need_i ?_ ?_); · (first | omega | (simp <;> omega))))
                  intro _u; clear _u
                  refine ICall.pure h.n15.o15.hb (holds_c h.n15 (lo f l) (hi z l) t) rfl ?_
                  repeat ((intro _u; clear _u); first
                    | (with_reducible refine acnd_tt ?_)
                    | (with_reducible refine acnd_ff ?_)
                    | ((with_reducible refine IConf.mk ?_ ?_); · kernel_rfl)
                    | (first | (refine aix_n 0 rfl rfl ?_) | (refine aix_n 1 rfl rfl ?_) | (refine aix_n 2 rfl rfl ?_) | (refine aix_n 3 rfl rfl ?_) | (refine aix_n 4 rfl rfl ?_) | (refine aix_n 5 rfl rfl ?_) | (refine aix_n 6 rfl rfl ?_) | (refine aix_n 7 rfl rfl ?_))
                    | ((with_reducible refine iwr_in ?_ ?_); · (simp only [inI]; omega))
                    | ((with_reducible refine need_i ?_ ?_); · (first | omega | (simp <;> omega))))
                  intro _u; clear _u
                  refine acnd_f (by rw [acc_all (by omega)]; simp) ?_
                  repeat ((intro _u; clear _u); first
                    | (with_reducible refine acnd_tt ?_)
                    | (with_reducible refine acnd_ff ?_)
                    | ((with_reducible refine IConf.mk ?_ ?_); · kernel_rfl)
                    | (first | (refine aix_n 0 rfl rfl ?_) | (refine aix_n 1 rfl rfl ?_) | (refine aix_n 2 rfl rfl ?_) | (refine aix_n 3 rfl rfl ?_) | (refine aix_n 4 rfl rfl ?_) | (refine aix_n 5 rfl rfl ?_) | (refine aix_n 6 rfl rfl ?_) | (refine aix_n 7 rfl rfl ?_))
                    | ((with_reducible refine iwr_in ?_ ?_); · (simp only [inI]; omega))
                    | ((with_reducible refine need_i ?_ ?_); · (first | omega | (simp <;> omega))))
                  intro _u; clear _u
                  refine ⟨j + 1, ?_, ?_, hp, ?_, ?_⟩
                  · omega
                  · omega
                  · all_goals repeat' (first | exact True.intro | refine And.intro ?_ ?_ | (intro _u; clear _u) | (with_reducible refine fzEs_same ?_ ?_ ?_) | (with_reducible refine mtEs_same ?_ ?_))
                    all_goals first | (with_reducible rfl) | omega | (simp; done) | (simp only [AV.namesL, AV.names, List.append_nil]; done) | (simp [AV.namesL]; done) | (simp [AV.namesL, AV.names]; done) | exact Or.inl (by decide) | (refine Or.inr ?_; (simp [AV.namesL, AV.names]; done)) | (refine Or.inr ?_; (simp [or_imp, forall_and, AV.namesL, AV.names]; done)) | skip
                  · all_goals repeat' (first | exact True.intro | refine And.intro ?_ ?_ | (intro _u; clear _u) | (with_reducible refine fzEs_same ?_ ?_ ?_) | (with_reducible refine mtEs_same ?_ ?_))
                    all_goals first | (with_reducible rfl) | omega | (simp; done) | (simp only [AV.namesL, AV.names, List.append_nil]; done) | (simp [AV.namesL]; done) | (simp [AV.namesL, AV.names]; done) | exact Or.inl (by decide) | (refine Or.inr ?_; (simp [AV.namesL, AV.names]; done)) | (refine Or.inr ?_; (simp [or_imp, forall_and, AV.namesL, AV.names]; done)) | skip
          · repeat ((intro _u; clear _u); first
              | (with_reducible refine acnd_tt ?_)
              | (with_reducible refine acnd_ff ?_)
              | ((with_reducible refine IConf.mk ?_ ?_); · kernel_rfl)
              | (first | (refine aix_n 0 rfl rfl ?_) | (refine aix_n 1 rfl rfl ?_) | (refine aix_n 2 rfl rfl ?_) | (refine aix_n 3 rfl rfl ?_) | (refine aix_n 4 rfl rfl ?_) | (refine aix_n 5 rfl rfl ?_) | (refine aix_n 6 rfl rfl ?_) | (refine aix_n 7 rfl rfl ?_))
              | ((with_reducible refine iwr_in ?_ ?_); · (simp only [inI]; omega))
              | ((with_reducible refine need_i ?_ ?_); · (first | omega | (simp <;> omega))))
            intro _u; clear _u
            refine ICall.pure h.n7.o7.hb (works17_c h.n7) rfl ?_
            repeat ((intro _u; clear _u); first
              | (with_reducible refine acnd_tt ?_)
              | (with_reducible refine acnd_ff ?_)
              | ((with_reducible refine IConf.mk ?_ ?_); · kernel_rfl)
              | (first | (refine aix_n 0 rfl rfl ?_) | (refine aix_n 1 rfl rfl ?_) | (refine aix_n 2 rfl rfl ?_) | (refine aix_n 3 rfl rfl ?_) | (refine aix_n 4 rfl rfl ?_) | (refine aix_n 5 rfl rfl ?_) | (refine aix_n 6 rfl rfl ?_) | (refine aix_n 7 rfl rfl ?_))
              | ((with_reducible refine iwr_in ?_ ?_); · (simp only [inI]; omega))
              | ((with_reducible refine need_i ?_ ?_); · (first | omega | (simp <;> omega))))
            intro _u; clear _u
            refine IRet.of ?_
            all_goals repeat' (first | exact True.intro | refine And.intro ?_ ?_ | (intro _u; clear _u) | (with_reducible refine fzEs_same ?_ ?_ ?_) | (with_reducible refine mtEs_same ?_ ?_))
            all_goals first | (with_reducible rfl) | omega | (simp; done) | (simp only [AV.namesL, AV.names, List.append_nil]; done) | (simp [AV.namesL]; done) | (simp [AV.namesL, AV.names]; done) | exact Or.inl (by decide) | (refine Or.inr ?_; (simp [AV.namesL, AV.names]; done)) | (refine Or.inr ?_; (simp [or_imp, forall_and, AV.namesL, AV.names]; done)) | skip
end Go.UM
