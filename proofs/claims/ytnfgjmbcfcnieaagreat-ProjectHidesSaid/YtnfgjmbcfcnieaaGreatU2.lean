/- Of the reckoning machine, and what is proved with it: texts joined by program. -/
import Derived.Test.YtnfgjmbcfcnieaaGreatU1
import Derived.Test.YtnfgjmbcfcnieaaGreatU0
import Derived.Test.YtnfgjmbcfcnieaaGreatK3
set_option linter.all false
namespace Go.UM
open Go.AM
set_option maxRecDepth 4000
theorem ID {l l':List Rw} (h:l.Perm l') (rd:l.Pairwise fun a b=>a.h≠b.h):aV l=aV l':=by
 have tr:∀x y z:Rw,kp x y=true->kp y z=true->kp x z=true:=fun x y z h1 h2=>by simp only[kp,decide_eq_true_eq]at h1 h2 ⊢; omega
 have to:∀x y:Rw,(kp x y||kp y x)=true:=fun x y=>by simp only[kp,Bool.or_eq_true,decide_eq_true_eq]; omega
 refine List.Perm.eq_of_pairwise (le:=fun x y=>kp x y=true) ?_ (List.pairwise_mergeSort tr to l) (List.pairwise_mergeSort tr to l') ((List.mergeSort_perm l kp).trans (h.trans (List.mergeSort_perm l' kp).symm))
 intro a b ha hb h1 h2
 have Xu:a ∈ l:=(List.mergeSort_perm l kp).mem_iff.1 ha
 have hb':b ∈ l:=h.mem_iff.2 ((List.mergeSort_perm l' kp).mem_iff.1 hb)
 have e:a.h=b.h:=by simp only[kp,decide_eq_true_eq]at h1 h2; omega
 have k1:=ez rd Xu
 rw[e,ez rd hb']at k1
 exact (Option.some.inj k1).symm
def tle (b:Bool) (hd:Int) (f:Mf) (a:As):Int:=if hd<1\/ 65536<hd then 2 else if b=true then 10 else if dv a≠0 then dv a else if f.kind≠a.k then 12 else 0
theorem iW (t:Tb) (hd:Int) (f:Mf) (a:As):gz t hd f a=(if tle (aO t.rows hd).isSome hd f a=0 then ⟨t.rows++ [⟨hd,f,a⟩],t.ins⟩else t,tle (aO t.rows hd).isSome hd f a):=by
 unfold gz tle
 by_cases k1:hd<1\/ 65536<hd
 ·rw[if_pos k1,if_pos k1]; rfl
 ·rw[if_neg k1,if_neg k1]
  by_cases k2:(aO t.rows hd).isSome=true
  ·rw[if_pos k2,if_pos k2]; rfl
  ·rw[if_neg k2,if_neg k2]
   by_cases k3:dv a≠0
   ·rw[if_pos k3,if_pos k3,if_neg k3]
   ·rw[if_neg k3,if_neg k3]
    by_cases k4:f.kind≠a.k
    ·rw[if_pos k4,if_pos k4]; rfl
    ·rw[if_neg k4,if_neg k4]; rfl
end Go.UM
namespace Go.UM
open Go.AM
set_option maxRecDepth 4000
theorem oH {a l:List In} (nd:l.Pairwise fun a b=>ba a b=false) (h:a.Perm l) (ord:a.Pairwise fun x y=>leI x y=true):a=cw l:=by
 classical
 have:=LV.eq (gG:=fun x=>if x=l then a else cw x) ⟨fun x=>by
  by_cases e:x=l
  ·simp only[if_pos e]; rw[e]; exact h
  ·simp only[if_neg e]; exact List.mergeSort_perm x leI,fun x=>by
  by_cases e:x=l
  ·simp only[if_pos e]; exact ord
  ·simp only[if_neg e]; exact List.pairwise_mergeSort kN nf x⟩ nd (.refl l)
 simpa using this
theorem kO {l:List In} {x:In}:x ∈ cw l↔x ∈ l:=(List.mergeSort_perm l leI).mem_iff
theorem pN {l:List In} (nd:l.Pairwise fun a b=>ba a b=false) (p:In->Bool):(cw l).filter p=cw (l.filter p):=
 oH (nd.sublist List.filter_sublist) ((List.mergeSort_perm l leI).filter p) ((List.pairwise_mergeSort kN nf l).sublist List.filter_sublist)
theorem IE {t:Tb} {x:In} (h:(ij t x).2=0):(ij t x).1=⟨t.rows,t.ins++ [x]⟩/\dB t.ins x=none/\(ij ⟨t.rows,t.ins++ [x]⟩ x).2=10:=by
 unfold ij at h ⊢
 by_cases k1:x.n<0\/ 65536<x.n
 ·rw[if_pos k1]at h; exact absurd h (by simp)
 ·rw[if_neg k1]at h ⊢
  rw[if_neg k1]
  by_cases k2:bF t.rows x≠0
  ·rw[if_pos k2]at h; exact absurd h k2
  ·rw[if_neg k2]at h ⊢
   rw[if_neg k2]
   by_cases k3:(dB t.ins x).isSome=true
   ·rw[if_pos k3]at h; exact absurd h (by simp)
   ·rw[if_neg k3]at h ⊢
    have hn:dB t.ins x=none:=by simpa using k3
    have hs:(dB (t.ins++ [x]) x).isSome=true:=by
     unfold dB
     rw[List.find?_isSome]
     exact⟨x,by simp,by simp[ba]⟩
    rw[if_pos hs]
    cases hr:aO t.rows x.aQ with
    |none=>rw[hr]at h; exact absurd h (by simp)
    |some r=>
     rw[hr]at h
     dsimp only at h ⊢
     by_cases k4:uA x.t r.a.m.v≠0
     ·rw[if_pos k4]at h; exact absurd h k4
     ·rw[if_neg k4]; exact⟨rfl,hn,rfl⟩
end Go.UM
namespace Go.UM
open Go.AM
set_option maxRecDepth 4000
def Fl (l:List Rw) (x:In):Prop:=∃a b,aO l x.aQ=some a/\a.f.kind=1/\aO l x.df=some b/\b.f.kind=3/\(x.cb=0\/∃c,aO l x.cb=some c/\c.f.kind=2)/\uA x.t a.a.m.v=0
theorem Fl.mono {l l':List Rw} {x:In} (h:Fl l x) (k1:∀r,aO l x.aQ=some r->aO l' x.aQ=some r) (k2:∀r,aO l x.df=some r->aO l' x.df=some r) (k3:∀r,aO l x.cb=some r->aO l' x.cb=some r):Fl l' x:=by
 obtain⟨a,b,h1,h2,h3,h4,h5,h6⟩:=h
 refine⟨a,b,k1 a h1,h2,k2 b h3,h4,?_,h6⟩
 rcases h5 with h|⟨c,h,h'⟩
 ·exact .inl h
 ·exact .inr ⟨c,k3 c h,h'⟩
theorem kg {l:List Rw} {q r:Rw} {h:Int} (e:aO l h=some r):aO (l++ [q]) h=some r:=by
 unfold aO at*
 rw[List.find?_append,e]; rfl
theorem oI {l:List Rw} {hd h:Int} (hne:h≠hd):aO (l.eraseP fun r=>r.h==hd) h=aO l h:=by
 unfold aO
 induction l with
 |nil=>rfl
 |cons a l ih=>
  by_cases e:(a.h==hd)=true
  ·rw[List.eraseP_cons_of_pos (p:=fun r:Rw=>r.h==hd) e]
   have:(a.h==h)=false:=by
    have e:a.h=hd:=by simpa using e
    simpa[e]using Ne.symm hne
   rw[List.find?_cons,this]
  ·rw[List.eraseP_cons_of_neg (p:=fun r:Rw=>r.h==hd) e,List.find?_cons,List.find?_cons,ih]
structure oJ (t:Tb):Prop where
 ok:∀x ∈ t.ins,Fl t.rows x
 it:∀x ∈ t.ins,x.t.I
theorem IF:oJ ⟨[],[]⟩:=⟨fun x h=>by simp at h,fun x h=>by simp at h⟩
theorem Fm {l:List Rw} {x:In} (h:bF l x=0):∃a b,aO l x.aQ=some a/\a.f.kind=1/\aO l x.df=some b/\b.f.kind=3/\(x.cb=0\/∃c,aO l x.cb=some c/\c.f.kind=2):=by
 unfold bF at h
 cases ha:aO l x.aQ with
 |none=>rw[ha]at h; cases h
 |some a=>
  rw[ha]at h
  dsimp only at h
  cases hb:aO l x.df with
  |none=>rw[hb]at h; cases h
  |some b=>
   rw[hb]at h
   dsimp only at h
   by_cases hx:x.cb=0
   ·rw[if_pos hx]at h
    by_cases k:a.f.kind≠1\/ b.f.kind≠3
    ·rw[if_pos k]at h; cases h
    ·exact⟨a,b,rfl,by omega,rfl,by omega,.inl hx⟩
   ·rw[if_neg hx]at h
    cases hc:aO l x.cb with
    |none=>rw[hc]at h; cases h
    |some c=>
     rw[hc]at h
     dsimp only at h
     by_cases k:a.f.kind≠1\/ b.f.kind≠3\/ c.f.kind≠2
     ·rw[if_pos k]at h; cases h
     ·exact⟨a,b,rfl,by omega,rfl,by omega,.inr ⟨c,rfl,by omega⟩⟩
theorem IG {t:Tb} (s:oJ t) {hd:Int} {f:Mf} {a:As}:oJ (gz t hd f a).1:=by
 rw[iW]
 dsimp only
 split
 ·exact⟨fun x hx=>(s.ok x hx).mono (fun r h=>kg h) (fun r h=>kg h) (fun r h=>kg h),s.it⟩
 ·exact s
theorem Cb {t:Tb} (s:oJ t) {hd:Int}:oJ (dE t hd).1:=by
 unfold dE
 split
 ·refine⟨fun x hx=> ?_,fun x hx=>s.it x (List.mem_filter.1 hx).1⟩
  obtain⟨h1,h2⟩:=List.mem_filter.1 hx
  have h2:((x.aQ≠hd/\x.df≠hd)/\x.cb≠hd):=by simpa[fD]using h2
  exact (s.ok x h1).mono (fun r h=>by rw[oI h2.1.1]; exact h) (fun r h=>by rw[oI h2.1.2]; exact h) (fun r h=>by rw[oI h2.2]; exact h)
 ·exact s
theorem IH {t:Tb} (s:oJ t) {x:In}:oJ (jx t x).1:=by
 unfold jx
 split
 ·exact⟨fun y hy=>s.ok y (List.eraseP_sublist.subset hy),fun y hy=>s.it y (List.eraseP_sublist.subset hy)⟩
 ·exact s
theorem LY {t:Tb} (s:oJ t) {x:In} (hx:x.t.I):oJ (ij t x).1:=by
 by_cases h:(ij t x).2=0
 ·rw[(IE h).1]
  refine⟨fun y hy=> ?_,fun y hy=> ?_⟩
  ·rcases List.mem_append.1 hy with h'|h'
   ·exact s.ok y h'
   ·simp only[List.mem_singleton]at h'
    subst h'
    unfold ij at h
    by_cases k1:y.n<0\/ 65536<y.n
    ·rw[if_pos k1]at h; exact absurd h (by simp)
    ·rw[if_neg k1]at h
     by_cases k2:bF t.rows y≠0
     ·rw[if_pos k2]at h; exact absurd h k2
     ·rw[if_neg k2]at h
      by_cases k3:(dB t.ins y).isSome=true
      ·rw[if_pos k3]at h; exact absurd h (by simp)
      ·rw[if_neg k3]at h
       obtain⟨a,b,h1,h2,h3,h4,h5⟩:=Fm (Classical.byContradiction k2)
       rw[h1]at h
       dsimp only at h
       by_cases k4:uA y.t a.a.m.v≠0
       ·rw[if_pos k4]at h; exact absurd h k4
       ·exact⟨a,b,h1,h2,h3,h4,h5,Classical.byContradiction k4⟩
  ·rcases List.mem_append.1 hy with h'|h'
   ·exact s.it y h'
   ·simp only[List.mem_singleton]at h'; subst h'; exact hx
 ·rw[Iu h]; exact s
theorem Rf {t:Tb} (s:oJ t) {c:Ac} (hx:c.i.t.I):oJ (rV t c).1:=by
 unfold rV
 split
 ·exact IG s
 ·split
  ·exact Cb s
  ·split
   ·exact LY s hx
   ·exact IH s
theorem ng {l:List Rw} (rd:l.Pairwise fun a b=>a.h≠b.h):(aV l).Pairwise fun a b=>a.h<b.h:=by
 have tr:∀x y z:Rw,kp x y=true->kp y z=true->kp x z=true:=fun x y z h1 h2=>by simp only[kp,decide_eq_true_eq]at h1 h2 ⊢; omega
 have to:∀x y:Rw,(kp x y||kp y x)=true:=fun x y=>by simp only[kp,Bool.or_eq_true,decide_eq_true_eq]; omega
 have h1:(aV l).Pairwise fun a b=>kp a b=true:=List.pairwise_mergeSort tr to l
 have h2:(aV l).Pairwise fun a b=>a.h≠b.h:=(List.mergeSort_perm l kp).symm.pairwise rd (fun h=>Ne.symm h)
 exact (h1.and h2).imp fun {a b} h=>by
  have:=h.1
  simp only[kp,decide_eq_true_eq]at this
  have:=h.2
  omega
theorem lJ {l:List Rw} (rd:l.Pairwise fun a b=>a.h≠b.h) {h:Int} {r:Rw} (e:aO l h=some r):aO (aV l) h=some r:=by
 obtain⟨h1,h2⟩:=bZ e
 rw[<-h2]
 exact ez ((ng rd).imp fun {a b} h=>by omega) (dH.2 h1)
theorem Fp {l:List In} (nd:l.Pairwise fun a b=>ba a b=false):(cw l).Pairwise fun a b=>ba a b=false:=
 (List.mergeSort_perm l leI).symm.pairwise nd (fun h=>by rw[oG]; exact h)
end Go.UM
namespace Go.UM
open Go.AM
set_option maxRecDepth 4000
section
variable {α:Type}
def jK (p:α->Bool) (x:α) (s:List α × Bool) (r:α):List α × Bool:=if s.2=false/\p r=true then (s.1++ [x]++ [r],true)else (s.1++ [r],s.2)
def c8 (p:α->Bool) (x:α) (l:List α):List α × Bool:=l.foldl (jK p x) ([],false)
def nE (p:α->Bool) (x:α) (l:List α):List α:=if (c8 p x l).2=true then (c8 p x l).1 else (c8 p x l).1++ [x]
variable {p:α->Bool} {x:α}
theorem nk (l:List α) (r:α):c8 p x (l++ [r])=jK p x (c8 p x l) r:=by simp[c8]
theorem pO:∀ (l o:List α) (b:Bool),l.foldl (jK p x) (o,b)=if b=true then (o++l,true)else if l.any p=true then (o++(l.takeWhile (fun r=> !p r)++x::l.dropWhile (fun r=> !p r)),true)else (o++l,false)
 |[],o,b=>by cases b<;>simp
 |r::l,o,b=>by
  rw[List.foldl_cons]
  cases b with
  |true=>
   have e:jK p x (o,true) r=(o++ [r],true):=if_neg (by simp)
   rw[e,pO l,if_pos rfl,if_pos rfl,List.append_assoc]; rfl
  |false=>
   cases h:p r with
   |true=>
    have e:jK p x (o,false) r=(o++ [x]++ [r],true):=if_pos ⟨rfl,h⟩
    rw[e,pO l,if_pos rfl]
    simp[h]
   |false=>
    have e:jK p x (o,false) r=(o++ [r],false):=if_neg (by simp[h])
    rw[e,pO l]
    simp only[Bool.false_eq_true,if_false,List.any_cons,h,Bool.false_or]
    split
    ·simp[h]
    ·simp
theorem uD {q:α->Bool} {l:List α} (h:∀r ∈ l,q r=true):l.takeWhile q=l:=by
 induction l with
 |nil=>rfl
 |cons a l ih=>rw[List.takeWhile_cons,if_pos (h a (by simp)),ih fun r hr=>h r (by simp[hr])]
theorem dropWhile_nil {q:α->Bool} {l:List α} (h:∀r ∈ l,q r=true):l.dropWhile q=[]:=by
 induction l with
 |nil=>rfl
 |cons a l ih=>rw[List.dropWhile_cons,if_pos (h a (by simp)),ih fun r hr=>h r (by simp[hr])]
theorem Di (l:List α):nE p x l=l.takeWhile (fun r=> !p r)++x::l.dropWhile (fun r=> !p r):=by
 unfold nE c8
 rw[pO]
 simp only[Bool.false_eq_true,if_false,List.nil_append]
 cases h:l.any p with
 |true=>simp
 |false=>
  have hn:∀r ∈ l,(!p r)=true:=fun r hr=>by
   have:=List.any_eq_false.1 h r hr
   simpa using this
  simp only[Bool.false_eq_true,if_false]
  rw[uD hn,dropWhile_nil hn]
theorem pP (l:List α):(c8 p x l).1.length<=l.length+1:=by
 unfold c8
 rw[pO]
 simp only[Bool.false_eq_true,if_false,List.nil_append]
 split
 ·have:=congrArg List.length (List.takeWhile_append_dropWhile (p:=fun r=> !p r) (l:=l))
  simp only[List.length_append,List.length_cons]at this ⊢
  omega
 ·simp
theorem wM (l:List α):(nE p x l).Perm (l++ [x]):=by
 rw[Di]
 refine List.perm_middle.trans ?_
 rw[List.takeWhile_append_dropWhile]
 exact (List.perm_append_singleton x l).symm
theorem Ao {le:α->α->Prop} (tr:∀a b c,le a b->le b c->le a c) {l:List α} (hl:l.Pairwise le) (h1:∀r ∈ l,p r=true->le x r) (h2:∀r ∈ l,p r=false->le r x):(nE p x l).Pairwise le:=by
 rw[Di]
 have e:=List.takeWhile_append_dropWhile (p:=fun r=> !p r) (l:=l)
 have ol:=hl
 rw[<-e]at ol
 obtain⟨k1,k2,k3⟩:=List.pairwise_append.1 ol
 have ht:∀r ∈ l.takeWhile (fun r=> !p r),le r x:=fun r hr=>h2 r (List.takeWhile_sublist _ |>.subset hr) (by
  have:=List.all_takeWhile (p:=fun r=> !p r) (l:=l)
  have:=List.all_eq_true.1 this r hr
  simpa using this)
 have hd:∀r ∈ l.dropWhile (fun r=> !p r),le x r:=by
  cases hq:l.dropWhile (fun r=> !p r)with
  |nil=>intro r hr; simp at hr
  |cons a q=>
   have ha:p a=true:=by
    have:=List.head?_dropWhile_not (fun r=> !p r) l
    rw[hq]at this
    simpa using this
   have dV:a ∈ l:=(List.dropWhile_sublist (fun r=> !p r)).subset (hq ▸ List.mem_cons_self)
   have hxa:=h1 a dV ha
   rw[hq]at k2
   intro r hr
   rcases List.mem_cons.1 hr with rfl|h
   ·exact hxa
   ·exact tr _ _ _ hxa ((List.pairwise_cons.1 k2).1 r h)
 rw[List.pairwise_append]
 refine⟨k1,List.pairwise_cons.2 ⟨hd,k2⟩,fun a ha b hb=> ?_⟩
 rcases List.mem_cons.1 hb with rfl|h
 ·exact ht a ha
 ·exact tr _ _ _ (ht a ha) (hd b h)
def pQ (p:α->Bool) (l:List α):Int:=match l.findIdx? p with
 |some i=>i
 |none=> -1
theorem Ap {l:List α} {i:Nat} {r:α} (h:l[i]? =some r) (hp:p r=true) (hn:∀ (j:Nat) (y:α),j<i->l[j]? =some y->p y=false):pQ p l=i:=by
 have:l.findIdx? p=some i:=by
  rw[List.findIdx?_eq_some_iff_getElem]
  obtain⟨hi,e⟩:=List.getElem?_eq_some_iff.1 h
  exact⟨hi,by rw[e]; exact hp,fun j hj=>by rw[hn j _ hj (List.getElem?_eq_getElem (by omega))]; simp⟩
 unfold pQ; rw[this]
theorem uE {l:List α} (hn:∀ (j:Nat) (y:α),j<l.length->l[j]? =some y->p y=false):pQ p l= -1:=by
 have:l.findIdx? p=none:=by
  rw[List.findIdx?_eq_none_iff]
  intro y hy
  obtain⟨j,hj,rfl⟩:=List.getElem_of_mem hy
  exact hn j _ hj (List.getElem?_eq_getElem hj)
 unfold pQ; rw[this]
theorem fT (p:α->Bool) (l:List α):(∃ (i:Nat) (r:α),pQ p l=i/\l[i]? =some r/\p r=true/\l.find? p=some r/\l.eraseIdx i=l.eraseP p)\/(pQ p l= -1/\l.find? p=none):=by
 cases h:l.findIdx? p with
 |none=>
  refine .inr ⟨by unfold pQ; rw[h],?_⟩
  rw[List.find?_eq_none]
  intro y hy
  have:=List.findIdx?_eq_none_iff.1 h y hy
  simp[this]
 |some i=>
  obtain⟨hi,hp,hn⟩:=List.findIdx?_eq_some_iff_getElem.1 h
  refine .inl ⟨i,l[i],by unfold pQ; rw[h],List.getElem?_eq_getElem hi,hp,?_,?_⟩
  ·rw[List.find?_eq_some_iff_getElem]
   exact⟨hp,i,hi,rfl,fun j hj=>by simpa using hn j hj⟩
  ·rw[List.eraseP_eq_eraseIdx,h]
end
theorem lK {a l:List Rw} (rd:l.Pairwise fun a b=>a.h≠b.h) (h:a.Perm l) (ord:a.Pairwise fun x y=>kp x y=true):a=aV l:=by
 have e:=ID h.symm rd
 rw[e]
 unfold aV
 rw[List.mergeSort_of_pairwise ord]
theorem qz (l:List Rw):(aV l).Pairwise fun x y=>kp x y=true:=
 List.pairwise_mergeSort (fun x y z h1 h2=>by simp only[kp,decide_eq_true_eq]at h1 h2 ⊢; omega) (fun x y=>by simp only[kp,Bool.or_eq_true,decide_eq_true_eq]; omega) l
theorem oK (l:List Rw):(aV l).Perm l:=List.mergeSort_perm l kp
def yk (x:Rw) (r:Rw):Bool:=decide (x.h<r.h)
theorem Fq {l:List Rw} {x:Rw} (rd:(l++ [x]).Pairwise fun a b=>a.h≠b.h):aV (l++ [x])=nE (yk x) x (aV l):=by
 refine (lK rd ((wM _).trans ((oK l).append_right [x])) (Ao (fun a b c h1 h2=>by simp only[kp,decide_eq_true_eq]at h1 h2 ⊢; omega) (qz l) (fun r _ h=> ?_) (fun r _ h=> ?_))).symm
 ·simp only[yk,decide_eq_true_eq]at h
  simp only[kp,decide_eq_true_eq]; omega
 ·simp only[yk,decide_eq_false_iff_not]at h
  simp only[kp,decide_eq_true_eq]; omega
theorem fU {l:List Rw} (rd:l.Pairwise fun a b=>a.h≠b.h) (h:Int):aO (aV l) h=aO l h:=by
 cases e:aO l h with
 |some r=>exact lJ rd e
 |none=>
  unfold aO at e ⊢
  rw[List.find?_eq_none]at e ⊢
  exact fun r hr=>e r (dH.1 hr)
theorem Aq {l:List Rw} (rd:l.Pairwise fun a b=>a.h≠b.h) (h:Int):aV (l.eraseP fun r=>r.h==h)=(aV l).eraseP fun r=>r.h==h:=by
 refine (lK (rd.sublist List.eraseP_sublist) ?_ ((qz l).sublist List.eraseP_sublist)).symm
 have nd:∀ {m:List Rw},m.Pairwise (fun a b=>a.h≠b.h)->m.eraseP (fun r=>r.h==h)=m.filter (fun r=> !(r.h==h)):=by
  intro m
  induction m with
  |nil=>intro _; rfl
  |cons a m ih=>
   intro hm
   obtain⟨h1,h2⟩:=List.pairwise_cons.1 hm
   by_cases k:(a.h==h)=true
   ·rw[List.eraseP_cons_of_pos (p:=fun r:Rw=>r.h==h) k]
    have e:m.filter (fun r=> !(r.h==h))=m:=List.filter_eq_self.2 fun r hr=>by
     have:=h1 r hr
     simp only[beq_iff_eq]at k
     simp; omega
    simp[List.filter_cons,k,e]
   ·rw[List.eraseP_cons_of_neg (p:=fun r:Rw=>r.h==h) k,ih h2]
    simp[List.filter_cons,k]
 rw[nd rd,nd ((ng rd).imp fun {a b} k=>by omega)]
 exact (oK l).filter _
def iO (x:In) (r:In):Bool:=decide (lH x r<0)
theorem uF (l:List In):(cw l).Perm l:=List.mergeSort_perm l leI
theorem wN (l:List In):(cw l).Pairwise fun x y=>leI x y=true:=List.pairwise_mergeSort kN nf l
theorem Fs {l:List In} {x:In} (nd:(l++ [x]).Pairwise fun a b=>ba a b=false):cw (l++ [x])=nE (iO x) x (cw l):=by
 refine (oH nd ((wM _).trans ((uF l).append_right [x])) (Ao (fun a b c h1 h2=>kN a b c h1 h2) (wN l) (fun r _ h=> ?_) (fun r _ h=> ?_))).symm
 ·simp only[iO,decide_eq_true_eq,dS]at h
  rw[lI,dS]; omega
 ·simp only[iO,decide_eq_false_iff_not]at h
  rw[lI]; exact h
theorem uG {l:List In} (nd:l.Pairwise fun a b=>ba a b=false) (x:In):(dB (cw l) x).isSome=(dB l x).isSome:=by
 unfold dB
 rw[Bool.eq_iff_iff,List.find?_isSome,List.find?_isSome]
 exact⟨fun⟨y,h1,h2⟩=>⟨y,kO.1 h1,h2⟩,fun⟨y,h1,h2⟩=>⟨y,kO.2 h1,h2⟩⟩
theorem Ar {l:List In} (nd:l.Pairwise fun a b=>ba a b=false) (x:In):cw (l.eraseP (ba x))=(cw l).eraseP (ba x):=by
 refine (oH (nd.sublist List.eraseP_sublist) ?_ ((wN l).sublist List.eraseP_sublist)).symm
 have nd':∀ {m:List In},m.Pairwise (fun a b=>ba a b=false)->m.eraseP (ba x)=m.filter (fun r=> !ba x r):=by
  intro m
  induction m with
  |nil=>intro _; rfl
  |cons a m ih=>
   intro hm
   obtain⟨h1,h2⟩:=List.pairwise_cons.1 hm
   by_cases k:ba x a=true
   ·rw[List.eraseP_cons_of_pos k]
    have e:m.filter (fun r=> !ba x r)=m:=List.filter_eq_self.2 fun r hr=>by
     have:=h1 r hr
     have k':=dX.1 k
     cases hs:ba x r with
     |false=>rfl
     |true=>
      have h3:=dX.1 hs
      rw[dX.2 (by omega)]at this; cases this
    simp[List.filter_cons,k,e]
   ·rw[List.eraseP_cons_of_neg k,ih h2]
    simp[List.filter_cons,k]
 rw[nd' nd,nd' (Fp nd)]
 exact (uF l).filter _
end Go.UM
namespace Go.UM
open Go.AM
set_option maxRecDepth 4000
abbrev ki (R:Env) (d:Tb):ah:=[(0,.var (R.ty 56) [.aH 40 (iM d.rows),.aH 16 (cE d.ins)])]
def dJ (h:Int) (r:Rw):Bool:=r.h==h
theorem uH {R:Env} (h:HH R) (d:Tb) (hd:Int) (hl:d.rows.length<=1000000):R.Mc 454 [.loc 0 1 0 0,.int .i64 hd] (ki R d) (.int .i64 (pQ (dJ hd) d.rows)) (ki R d) 1:=
 h.abw.bC 100 1 rfl rfl rfl fun X bb hfit hp=>by
  unfold ki
  refine sh ?_
  refine gD 100 (fun i:Nat=>i<=d.rows.length/\∀ (j:Nat) (y:Rw),j<i->d.rows[j]? =some y->dJ hd y=false) (fun i=>⟨[(0,.loc 0 1 0 0),(1,.int .i64 hd),(5,.int .i64 i)],[(0,.var (R.ty 56) [.aH 40 (iM d.rows),.aH 16 (cE d.ins)])],1⟩) (fun i=>d.rows.length - i) (0) ?_ ?_
  ·exact⟨Nat.zero_le _,fun j y hj=>absurd hj (Nat.not_lt_zero j)⟩
  ·intro i hi
   dsimp only
   refine sh ?_
   refine cS (fun h1=> ?_) (fun h1=> ?_)
   ·obtain⟨r,hr⟩:∃u_,d.rows[i]? =some u_:=⟨_,List.getElem?_eq_getElem (by first|omega|(simp<;>omega))⟩
    refine sh ?_
    refine aa hr ?_
    refine sh ?_
    refine cS (fun h2=> ?_) (fun h2=> ?_)
    ·rw[Ap hr (by simpa[dJ]using h2) hi.2]
     refine sh ?_
     exact rM [0]
    ·refine sh ?_
     refine kI (i+1) ?_ ?_
     ·refine⟨by omega,fun j y hj hy=> ?_⟩
      by_cases e:j=i
      ·subst e; rw[hr]at hy; cases hy; simpa[dJ]using h2
      ·exact hi.2 j y (by omega) hy
     ·omega
   ·rw[uE (fun j y hj=>hi.2 j y (by omega))]
    refine sh ?_
    exact rM [0]
theorem pR {R:Env} (h:Lc R) (x y:In):R.Pc 456 [.agg x.row,.agg y.row] (.bool (decide (lH x y<0))):=
 h.EJ.enter 100 rfl fun X bb hfit hp=>by
  have e:decide (lH x y<0)=decide (x.aQ<y.aQ\/ x.aQ=y.aQ/\(x.df<y.df\/ x.df=y.df/\(x.cb<y.cb\/ x.cb=y.cb/\x.n<y.n))):=by rw[decide_eq_decide]; exact dS
  rw[e]
  refine sh ?_
  refine ao.one 100 ?_
  refine sh ?_
  refine af (by decide) ?_
  refine sh ?_
  refine⟨rfl,?_⟩
  refine sh ?_
  refine⟨rfl,?_⟩
  refine sh ?_
  refine cS (fun h1=> ?_) (fun h1=> ?_)
  ·refine sh ?_
   refine⟨rfl,?_⟩
   refine sh ?_
   refine⟨rfl,?_⟩
   refine sh ?_
   refine rT ?_
   refine be ?_
   simp; omega
  ·refine sh ?_
   refine ao.one 100 ?_
   refine sh ?_
   refine af (by decide) ?_
   refine sh ?_
   refine⟨rfl,?_⟩
   refine sh ?_
   refine⟨rfl,?_⟩
   refine sh ?_
   refine cS (fun h2=> ?_) (fun h2=> ?_)
   ·refine sh ?_
    refine⟨rfl,?_⟩
    refine sh ?_
    refine⟨rfl,?_⟩
    refine sh ?_
    refine rT ?_
    refine be ?_
    rw[decide_eq_decide]; omega
   ·refine sh ?_
    refine ao.one 100 ?_
    refine sh ?_
    refine af (by decide) ?_
    refine sh ?_
    refine⟨rfl,?_⟩
    refine sh ?_
    refine⟨rfl,?_⟩
    refine sh ?_
    refine cS (fun h3=> ?_) (fun h3=> ?_)
    ·refine sh ?_
     refine⟨rfl,?_⟩
     refine sh ?_
     refine⟨rfl,?_⟩
     refine sh ?_
     refine rT ?_
     refine be ?_
     rw[decide_eq_decide]; omega
    ·refine sh ?_
     refine ao.one 100 ?_
     refine sh ?_
     refine af (by decide) ?_
     refine sh ?_
     refine⟨rfl,?_⟩
     refine sh ?_
     refine⟨rfl,?_⟩
     refine sh ?_
     refine cS (fun h4=> ?_) (fun h4=> ?_)
     ·refine sh ?_
      refine⟨rfl,?_⟩
      refine sh ?_
      refine⟨rfl,?_⟩
      refine sh ?_
      refine rT ?_
      refine be ?_
      rw[decide_eq_decide]; omega
     ·refine sh ?_
      refine ao.one 100 ?_
      refine sh ?_
      refine aw (by decide) ?_
      refine sh ?_
      refine rT ?_
      refine be ?_
      simp; omega
theorem sk {R:Env} (h:Ld R) (d:Tb) (x:In) (hl:d.ins.length<=1000000):R.Mc 455 [.loc 0 1 0 0,.agg x.row] (ki R d) (.int .i64 (pQ (ba x) d.ins)) (ki R d) 1:=
 h.abz.bC 100 1 rfl rfl rfl fun X bb hfit hp=>by
  unfold ki
  refine sh ?_
  refine gD 100 (fun i:Nat=>i<=d.ins.length/\∀ (j:Nat) (y:In),j<i->d.ins[j]? =some y->ba x y=false) (fun i=>⟨[(0,.loc 0 1 0 0),(3,.loc 1 1 0 0),(5,.int .i64 i)],[(0,.var (R.ty 56) [.aH 40 (iM d.rows),.aH 16 (cE d.ins)]),(1,.var (R.ty 44) x.row)],2⟩) (fun i=>d.ins.length - i) (0) ?_ ?_
  ·exact⟨Nat.zero_le _,fun j y hj=>absurd hj (Nat.not_lt_zero j)⟩
  ·intro i hi
   dsimp only
   refine sh ?_
   refine cS (fun h1=> ?_) (fun h1=> ?_)
   ·obtain⟨r,hr⟩:∃u_,d.ins[i]? =some u_:=⟨_,List.getElem?_eq_getElem (by first|omega|(simp<;>omega))⟩
    refine sh ?_
    refine aa hr ?_
    refine sh ?_
    refine ae.pure h.pD.EJ.hb (pR h.pD x r) rfl ?_
    by_cases h2:lH x r<0
    ·refine sh ?_
     refine aw (by simp[h2]) ?_
     have hs:ba x r=false:=by
      cases hs:ba x r with
      |false=>rfl
      |true=>
       have:=dX.1 hs
       rw[dS]at h2; omega
     refine sh ?_
     refine kI (i+1) ?_ ?_
     ·refine⟨by omega,fun j y hj hy=> ?_⟩
      by_cases e:j=i
      ·subst e; rw[hr]at hy; cases hy; exact hs
      ·exact hi.2 j y (by omega) hy
     ·omega
    ·refine sh ?_
     refine af (by simp[h2]) ?_
     refine sh ?_
     refine aa hr ?_
     refine sh ?_
     refine ae.pure h.pD.EJ.hb (pR h.pD r x) rfl ?_
     by_cases hs:ba x r=true
     ·have hs':=dX.1 hs
      refine sh ?_
      refine af (by rw[dS]at h2; simp[dS]; omega) ?_
      rw[Ap hr hs hi.2]
      refine sh ?_
      exact rM [0]
     ·have hs':¬ (x.aQ=r.aQ/\x.df=r.df/\x.cb=r.cb/\x.n=r.n):=fun k=>hs (dX.2 k)
      have hs:ba x r=false:=by simpa using hs
      refine sh ?_
      refine aw (by rw[dS]at h2; rw[Bool.not_eq_false',decide_eq_true_eq,dS]; omega) ?_
      refine sh ?_
      refine kI (i+1) ?_ ?_
      ·refine⟨by omega,fun j y hj hy=> ?_⟩
       by_cases e:j=i
       ·subst e; rw[hr]at hy; cases hy; exact hs
       ·exact hi.2 j y (by omega) hy
      ·omega
   ·rw[uE (fun j y hj=>hi.2 j y (by omega))]
    refine sh ?_
    exact rM [0]
def wO (t:Tb) (hd:Int) (f:Mf) (a:As):Tb × Int:=
 if hd<1\/ 65536<hd then (t,2)else if (aO t.rows hd).isSome=true then (t,10)else if dv a≠0 then (t,dv a)else if f.kind≠a.k then (t,12)else (⟨nE (yk ⟨hd,f,a⟩) ⟨hd,f,a⟩ t.rows,t.ins⟩,0)
theorem Au (l:List Rw) (h:Int):(0<=pQ (dJ h) l↔(aO l h).isSome=true):=by
 rcases fT (dJ h) l with⟨i,r,e1,_,_,e2,_⟩|⟨e1,e2⟩
 ·have e2:aO l h=some r:=e2
  rw[e1,e2]; simp
 ·have e2:aO l h=none:=e2
  rw[e1,e2]; simp
instance {l:List Rw} {x:Rw}:iG (iM l++ [x.row]) (l.length+1):=⟨by simp⟩
set_option maxHeartbeats 4000000 in
theorem LZ {R:Env} (h:Qo R) (d:Tb) (hd:Int) (f:Mf) (a:As) (fa:a.B3) (hl:d.rows.length<=1000000):
  R.Mc 441 [.loc 0 1 0 0,.int .i64 hd,.agg f.row,.agg a.row] (ki R d) (.int .i64 (wO d hd f a).2) (ki R (wO d hd f a).1) 1:=
 h.abx.bC 100 1 rfl rfl rfl fun X bb hfit hp=>by
  generalize hq:wO d hd f a=q
  unfold wO at hq
  unfold ki
  refine sh ?_
  refine cS (fun h1=> ?_) (fun h1=> ?_)
  ·rw[if_pos (by omega)]at hq
   subst hq
   refine sh ?_
   exact rM [0]
  ·refine sh ?_
   refine cS (fun h2=> ?_) (fun h2=> ?_)
   ·rw[if_pos (by omega)]at hq
    subst hq
    refine sh ?_
    exact rM [0]
   ·rw[if_neg (by omega)]at hq
    refine sh ?_
    refine cM false [0] (uH h.tV d hd hl) ?_
    repeat (intro _; first|refine eK ?_|refine eP ?_)
    refine sh ?_
    refine cS (fun h3=> ?_) (fun h3=> ?_)
    ·rw[if_pos ((Au _ _).1 (by omega))]at hq
     subst hq
     refine sh ?_
     exact rM [0]
    ·rw[if_neg (fun k=>by have:=(Au _ _).2 k; omega)]at hq
     refine sh ?_
     refine ae.pure h.n295.Wt.hb (Ie h.n295 a fa) rfl ?_
     refine sh ?_
     refine cS (fun h4=> ?_) (fun h4=> ?_)
     ·rw[if_pos h4]at hq
      subst hq
      refine sh ?_
      exact rM [0]
     ·rw[if_neg (by simpa using h4)]at hq
      refine sh ?_
      refine cS (fun h5=> ?_) (fun h5=> ?_)
      ·rw[if_pos h5]at hq
       subst hq
       refine sh ?_
       exact rM [0]
      ·rw[if_neg (by simpa using h5)]at hq
       obtain⟨x,hx⟩:∃x:Rw,x=⟨hd,f,a⟩:=⟨_,rfl⟩
       rw[<-hx]at hq
       have hxh:x.h=hd:=by rw[hx]
       have hxr:x.row= .int .i64 hd::(f.row++a.row):=by rw[hx]; rfl
       refine sh ?_
       refine gD 100 (fun i:Nat=>i<=d.rows.length) (fun i=>⟨[(0,.loc 0 1 0 0),(1,.int .i64 hd),(6,.loc 1 1 0 0),(7,.loc 2 1 0 0),(10,.bc 3 (c8 (yk x) x (d.rows.take i)).1.length),(11,.bool (c8 (yk x) x (d.rows.take i)).2),(12,.int .i64 i)],[(0,.var (R.ty 56) [.aH 40 (iM d.rows),.aH 16 (cE d.ins)]),(1,.var (R.ty 2) f.row),(2,.var (R.ty 39) a.row),(3,.arr (R.ty 45) 40 (iM (c8 (yk x) x (d.rows.take i)).1))],4⟩) (fun i=>d.rows.length - i) (0) ?_ ?_
       ·exact Nat.zero_le _
       ·intro i hi
        dsimp only
        have hlen:=pP (p:=yk x) (x:=x) (d.rows.take i)
        rw[List.length_take]at hlen
        refine sh ?_
        refine cS (fun h6=> ?_) (fun h6=> ?_)
        ·obtain⟨r,hr⟩:∃u_,d.rows[i]? =some u_:=⟨_,List.getElem?_eq_getElem (by omega)⟩
         have e1:c8 (yk x) x (d.rows.take (i+1))=jK (yk x) x (c8 (yk x) x (d.rows.take i)) r:=by rw[ar hr,nk]
         obtain⟨⟨O,b⟩,hO⟩:∃s,c8 (yk x) x (d.rows.take i)=s:=⟨_,rfl⟩
         rw[hO]at e1 hlen ⊢
         dsimp only at hlen ⊢
         cases b with
         |false=>
          refine sh ?_
          refine aa hr ?_
          refine sh ?_
          refine cS (fun h7=> ?_) (fun h7=> ?_)
          ·have e2:c8 (yk x) x (d.rows.take (i+1))=(O++ [x]++ [r],true):=by rw[e1]; unfold jK; rw[if_pos ⟨rfl,by simp[yk]; omega⟩]
           refine sh ?_
           refine aa hr ?_
           refine sh ?_
           refine nX (i+1) ?_ ?_ ⟨_,hp,rfl⟩ ?_ ?_
           ·omega
           ·omega
           ·refine pC ?_ ?_
            all_goals first|(rw[e2]; done)|(rw[e2]; simp; done)
           ·refine be ?_
            all_goals first|(right; simp[iM,Rw.row]; done)|(rw[e2]; simp[iM,Rw.row,hx]; done)
          ·have e2:c8 (yk x) x (d.rows.take (i+1))=(O++ [r],false):=by rw[e1]; unfold jK; rw[if_neg (by simp[yk]; omega)]
           refine sh ?_
           refine aa hr ?_
           refine sh ?_
           refine nX (i+1) ?_ ?_ ⟨_,hp,rfl⟩ ?_ ?_
           ·omega
           ·omega
           ·refine pC ?_ ?_
            all_goals first|(rw[e2]; done)|(rw[e2]; simp; done)
           ·refine be ?_
            all_goals first|(right; simp[iM,Rw.row]; done)|(rw[e2]; simp[iM,Rw.row,hx]; done)
         |true=>
          have e2:c8 (yk x) x (d.rows.take (i+1))=(O++ [r],true):=by rw[e1]; unfold jK; rw[if_neg (by simp)]
          refine sh ?_
          refine aa hr ?_
          refine sh ?_
          refine nX (i+1) ?_ ?_ ⟨_,hp,rfl⟩ ?_ ?_
          ·omega
          ·omega
          ·refine pC ?_ ?_
           all_goals first|(rw[e2]; done)|(rw[e2]; simp; done)
          ·refine be ?_
           all_goals first|(right; simp[iM,Rw.row]; done)|(rw[e2]; simp[iM,Rw.row,hx]; done)
        ·rw[List.take_of_length_le (by omega)]at hlen ⊢
         obtain⟨⟨O,b⟩,hO⟩:∃s,c8 (yk x) x d.rows=s:=⟨_,rfl⟩
         have hL:nE (yk x) x d.rows=if b=true then O else O++ [x]:=by unfold nE; rw[hO]
         rw[hL]at hq
         rw[hO]at hlen ⊢
         dsimp only at hlen ⊢
         cases b with
         |false=>
          rw[if_neg (by simp)]at hq
          subst hq
          refine sh ?_
          refine rM [0] ?_
          refine be ?_
          all_goals (simp[iM,Rw.row,hx]; done)
         |true=>
          rw[if_pos rfl]at hq
          subst hq
          refine sh ?_
          exact rM [0]
end Go.UM
namespace Go.UM
open Go.AM
set_option maxRecDepth 4000
theorem wP {α:Type} (l:List α) (i:Nat):l.take i++l.drop (i+1)=l.eraseIdx i:=(List.eraseIdx_eq_take_drop_succ ..).symm
theorem II (l:List In) (i:Nat):(cE l).take i=cE (l.take i):=by simp[cE,List.map_take]
theorem IJ (l:List In) (i:Nat):(cE l).drop i=cE (l.drop i):=by simp[cE,List.map_drop]
theorem Rg (l:List Rw) (i:Nat):(iM l).take i=iM (l.take i):=by simp[iM,List.map_take]
theorem Rh (l:List Rw) (i:Nat):(iM l).drop i=iM (l.drop i):=by simp[iM,List.map_drop]
theorem Dj (a b:List In):cE (a++b)=cE a++cE b:=by simp[cE]
def wQ (t:Tb) (x:In):Tb × Int:=if (dB t.ins x).isSome=true then (⟨t.rows,t.ins.eraseP (ba x)⟩,0)else (t,11)
theorem L3 {R:Env} (h:Qr R) (d:Tb) (x:In) (hl:d.ins.length<=1000000):R.Mc 444 [.loc 0 1 0 0,.agg x.row] (ki R d) (.int .i64 (wQ d x).2) (ki R (wQ d x).1) 1:=
 h.abB.bC 100 1 rfl rfl rfl fun X bb hfit hp=>by
  generalize hq:wQ d x=q
  unfold wQ at hq
  unfold ki
  refine sh ?_
  refine cM false [0] (sk h.zP d x hl) ?_
  repeat (intro _; first|refine eK ?_|refine eP ?_)
  rcases fT (ba x) d.ins with⟨i,r,e1,e2,_,e3,e4⟩|⟨e1,e2⟩
  ·have e3:dB d.ins x=some r:=e3
   rw[e3,if_pos (by simp)]at hq
   have hi:=(List.getElem?_eq_some_iff.1 e2).1
   rw[e1]
   refine sh ?_
   refine aw (by simp) ?_
   refine sh ?_
   refine iL (by rw[Int.toNat_natCast,II]) ?_
   refine sh ?_
   refine iL (by rw[show ((i:Int)+1).toNat=i+1 by omega,IJ]) ?_
   subst hq
   refine sh ?_
   refine rM [0] ?_
   refine be ?_
   all_goals (show []++cE (d.ins.take i)++cE (d.ins.drop (i+1))=cE (d.ins.eraseP (ba x)); rw[<-e4,<-wP,Dj,List.nil_append])
  ·have e2:dB d.ins x=none:=e2
   rw[e2,if_neg (by simp)]at hq
   rw[e1]
   refine sh ?_
   refine af (by simp) ?_
   subst hq
   refine sh ?_
   exact rM [0]
def nq (t:Tb) (hd:Int):Tb × Int:=if (aO t.rows hd).isSome=true then (⟨t.rows.eraseP (dJ hd),t.ins.filter fun x=> !fD hd x⟩,0)else (t,11)
theorem wR {α:Type} {p:α->Bool} {l:List α} {i:Nat} {x:α} (h:l[i]? =some x):(l.take (i+1)).filter p=(l.take i).filter p++(if p x=true then [x]else []):=by
 rw[ar h,List.filter_append]
 congr 1
 simp[List.filter_cons]
set_option maxHeartbeats 1000000 in
theorem Ft {R:Env} (h:Qp R) (d:Tb) (hd:Int) (hl:d.rows.length<=1000000) (hi:d.ins.length<=1000000):R.Mc 442 [.loc 0 1 0 0,.int .i64 hd] (ki R d) (.int .i64 (nq d hd).2) (ki R (nq d hd).1) 1:=
 h.aby.bC 100 1 rfl rfl rfl fun X bb hfit hp=>by
  generalize hq:nq d hd=q
  unfold nq at hq
  unfold ki
  refine sh ?_
  refine cM false [0] (uH h.tV d hd hl) ?_
  repeat (intro _; first|refine eK ?_|refine eP ?_)
  rcases fT (dJ hd) d.rows with⟨a,r,e1,e2,_,e3,e4⟩|⟨e1,e2⟩
  ·have e3:aO d.rows hd=some r:=e3
   rw[e3,if_pos (by simp)]at hq
   have ha:=(List.getElem?_eq_some_iff.1 e2).1
   rw[e1]
   refine sh ?_
   refine aw (by simp) ?_
   refine sh ?_
   refine iL (by rw[Int.toNat_natCast,Rg]) ?_
   refine sh ?_
   refine iL (by rw[show ((a:Int)+1).toNat=a+1 by omega,Rh]) ?_
   refine sh ?_
   refine ao.inv 100 (fun i:Nat=>i<=d.ins.length) (fun i=>⟨[(0,.loc 0 1 0 0),(1,.int .i64 hd),(6,.bc 2 ((d.ins.take i).filter fun x=> !fD hd x).length),(7,.int .i64 i)],[(0,.var (R.ty 56) [.aH 40 (iM (d.rows.eraseP (dJ hd))),.aH 16 (cE d.ins)]),(2,.arr (R.ty 44) 16 (cE ((d.ins.take i).filter fun x=> !fD hd x)))],3⟩) (fun i=>d.ins.length - i) (0) ?_ ⟨⟨_,hp,rfl⟩,?_,?_⟩ ?_
   ·exact Nat.zero_le _
   ·exact iV
   ·refine be ?_
    all_goals (rw[<-e4,<-wP]; simp[iM])
   ·intro i hii
    dsimp only
    refine sh ?_
    refine cS (fun h1=> ?_) (fun h1=> ?_)
    ·obtain⟨x,hx⟩:∃u_,d.ins[i]? =some u_:=⟨_,List.getElem?_eq_getElem (by first|omega|(simp<;>omega))⟩
     refine sh ?_
     refine aa hx ?_
     have ef:=wR (p:=fun x=> !fD hd x) hx
     have el:((d.ins.take i).filter fun x=> !fD hd x).length<=i:=Nat.le_trans (List.length_filter_le _ _) (by rw[List.length_take]; omega)
     obtain⟨O,hO⟩:∃O,((d.ins.take i).filter fun x=> !fD hd x)=O:=⟨_,rfl⟩
     rw[hO]at ef el ⊢
     refine sh ?_
     refine cS (fun k1=> ?_) (fun k1=> ?_)
     ·refine sh ?_
      refine cS (fun k2=> ?_) (fun k2=> ?_)
      ·refine sh ?_
       refine cS (fun k3=> ?_) (fun k3=> ?_)
       ·have e:fD hd x=false:=by simp[fD]; omega
        rw[e,if_pos (by rfl)]at ef
        refine sh ?_
        refine nX (i+1) ?_ ?_ ⟨_,hp,rfl⟩ ?_ ?_
        ·omega
        ·omega
        ·refine be ?_
         all_goals first|(rw[ef]; done)|(rw[ef]; simp; done)
        ·refine be ?_
         all_goals first|(right; simp[cE,In.row]; done)|(rw[ef,Dj]; rfl)
       ·have e:fD hd x=true:=by simp[fD]; omega
        rw[e,if_neg (by simp)]at ef
        refine sh ?_
        refine nX (i+1) ?_ ?_ ⟨_,hp,rfl⟩ ?_ ?_
        ·omega
        ·omega
        ·refine be ?_
         all_goals (rw[ef]; simp)
        ·refine be ?_
         all_goals (rw[ef]; simp)
      ·have e:fD hd x=true:=by simp[fD]; omega
       rw[e,if_neg (by simp)]at ef
       refine sh ?_
       refine nX (i+1) ?_ ?_ ⟨_,hp,rfl⟩ ?_ ?_
       ·omega
       ·omega
       ·refine be ?_
        all_goals (rw[ef]; simp)
       ·refine be ?_
        all_goals (rw[ef]; simp)
     ·have e:fD hd x=true:=by simp[fD]; omega
      rw[e,if_neg (by simp)]at ef
      refine sh ?_
      refine nX (i+1) ?_ ?_ ⟨_,hp,rfl⟩ ?_ ?_
      ·omega
      ·omega
      ·refine be ?_
       all_goals (rw[ef]; simp)
      ·refine be ?_
       all_goals (rw[ef]; simp)
    ·rw[List.take_of_length_le (by omega)]
     subst hq
     refine sh ?_
     exact rM [0]
  ·have e2:aO d.rows hd=none:=e2
   rw[e2,if_neg (by simp)]at hq
   rw[e1]
   refine sh ?_
   refine af (by simp) ?_
   subst hq
   refine sh ?_
   exact rM [0]
def Fu (t:Tb) (x:In):Tb × Int:=
 if x.n<0\/ 65536<x.n then (t,2)else if bF t.rows x≠0 then (t,bF t.rows x)else if (dB t.ins x).isSome=true then (t,10)
 else match aO t.rows x.aQ with
  |none=>(t,11)
  |some r=>if uA x.t r.a.m.v≠0 then (t,uA x.t r.a.m.v)else (⟨t.rows,nE (iO x) x t.ins⟩,0)
theorem qA (h:Int) (l:List Rw):(∃ (i:Nat) (r:Rw),pQ (dJ h) l=i/\l[i]? =some r/\aO l h=some r)\/(pQ (dJ h) l= -1/\aO l h=none):=by
 rcases fT (dJ h) l with⟨i,r,e1,e2,_,e3,_⟩|⟨e1,e2⟩
 ·exact .inl ⟨i,r,e1,e2,e3⟩
 ·exact .inr ⟨e1,e2⟩
theorem oL (x:In) (l:List In):(0<=pQ (ba x) l/\(dB l x).isSome=true)\/(pQ (ba x) l= -1/\(dB l x).isSome=false):=by
 rcases fT (ba x) l with⟨i,r,e1,e2,_,e3,_⟩|⟨e1,e2⟩
 ·have e3:dB l x=some r:=e3
  exact .inl ⟨by omega,by rw[e3]; rfl⟩
 ·have e2:dB l x=none:=e2
  exact .inr ⟨e1,by rw[e2]; rfl⟩
end Go.UM
namespace Go.UM
open Go.AM
set_option maxRecDepth 4000
set_option maxHeartbeats 8000000 in
theorem Rk {R:Env} (h:Qq R) (d:Tb) (x:In) (ok:∀r ∈ d.rows,fK r) (hx:x.t.I) (hl:d.rows.length<=1000000) (hil:d.ins.length<=1000000):
  R.Mc 443 [.loc 0 1 0 0,.agg x.row] (ki R d) (.int .i64 (Fu d x).2) (ki R (Fu d x).1) 1:=
 h.abA.bC 100 1 rfl rfl rfl fun X bb hfit hp=>by
  generalize hq:Fu d x=q
  unfold Fu at hq
  unfold ki
  refine sh ?_
  refine cS (fun h1=> ?_) (fun h1=> ?_)
  ·rw[if_pos (by omega)]at hq
   subst hq
   refine sh ?_
   exact rM [0]
  ·refine sh ?_
   refine cS (fun h2=> ?_) (fun h2=> ?_)
   ·rw[if_pos (by omega)]at hq
    subst hq
    refine sh ?_
    exact rM [0]
   ·rw[if_neg (by omega)]at hq
    refine sh ?_
    refine cM false [0] (uH h.tV d x.aQ hl) ?_
    repeat (intro _; first|refine eK ?_|refine eP ?_)
    refine sh ?_
    refine cM false [0] (uH h.tV d x.df hl) ?_
    repeat (intro _; first|refine eK ?_|refine eP ?_)
    refine sh ?_
    refine cM false [0] (uH h.tV d x.cb hl) ?_
    repeat (intro _; first|refine eK ?_|refine eP ?_)
    rcases qA x.aQ d.rows with⟨i,a,ha1,ha2,rE⟩|⟨ha1,rE⟩
    ·have la:=(List.getElem?_eq_some_iff.1 ha2).1
     rcases qA x.df d.rows with⟨j,b,uU,S8,Oq⟩|⟨uU,Oq⟩
     ·have lb:=(List.getElem?_eq_some_iff.1 S8).1
      rcases qA x.cb d.rows with⟨k,c,hc1,kn,uV⟩|⟨hc1,uV⟩
      ·have lc:=(List.getElem?_eq_some_iff.1 kn).1
       rw[ha1,uU,hc1]
       have et:bF d.rows x=if x.cb=0 then (if a.f.kind≠1\/ b.f.kind≠3 then 12 else 0)else if a.f.kind≠1\/ b.f.kind≠3\/ c.f.kind≠2 then 12 else 0:=by unfold bF; rw[rE,Oq,uV]
       refine sh ?_
       refine aw (by simp) ?_
       refine sh ?_
       refine aw (by simp) ?_
       refine sh ?_
       refine aw (by simp) ?_
       refine sh ?_
       refine aa ha2 ?_
       refine sh ?_
       refine cS (fun k1=> ?_) (fun k1=> ?_)
       ·rw[if_pos (by rw[et]; split<;>rw[if_pos (.inl k1)]<;>simp),show bF d.rows x=12 by rw[et]; split<;>rw[if_pos (.inl k1)]]at hq
        subst hq
        refine sh ?_
        exact rM [0]
       ·refine sh ?_
        refine aa S8 ?_
        refine sh ?_
        refine cS (fun k2=> ?_) (fun k2=> ?_)
        ·rw[if_pos (by rw[et]; split; rw[if_pos (.inr k2)]; simp; rw[if_pos (.inr (.inl k2))]; simp),show bF d.rows x=12 by rw[et]; split; rw[if_pos (.inr k2)]; rw[if_pos (.inr (.inl k2))]]at hq
         subst hq
         refine sh ?_
         exact rM [0]
        ·refine sh ?_
         refine cS (fun k3=> ?_) (fun k3=> ?_)
         ·refine sh ?_
          refine aa kn ?_
          refine sh ?_
          refine cS (fun k4=> ?_) (fun k4=> ?_)
          ·have Av:bF d.rows x=12:=by rw[et,if_neg k3,if_pos (.inr (.inr k4))]
           rw[if_pos (by rw[Av]; simp),Av]at hq
           subst hq
           refine sh ?_
           exact rM [0]
          ·have Av:bF d.rows x=0:=by rw[et,if_neg k3,if_neg (by omega)]
           rw[if_neg (by rw[Av]; simp)]at hq
           have hvs:=(ok a (bZ rE).1).C9 (by omega)
           refine sh ?_
           refine cM false [0] (sk h.zP d x hil) ?_
           repeat (intro _; first|refine eK ?_|refine eP ?_)
           rcases oL x d.ins with⟨f1,f2⟩|⟨f1,f2⟩
           ·rw[if_pos f2]at hq
            refine sh ?_
            refine af (by simp; omega) ?_
            subst hq
            refine sh ?_
            exact rM [0]
           ·rw[if_neg (by rw[f2]; simp),rE]at hq
            rw[f1]
            refine sh ?_
            refine aw (by simp) ?_
            dsimp only at hq
            refine sh ?_
            refine aa ha2 ?_
            refine sh ?_
            refine gD 100 (fun k:Nat=>k<=a.a.m.v.length/\∀ (j:Nat) (u:T3),j<k->a.a.m.v[j]? =some u->(bW x.t u).2=0) (fun k=>⟨[(0,.loc 0 1 0 0),(3,.loc 1 1 0 0),(8,.aH 3 (bJ a.a.m.v)),(9,.int .i64 k)],[(0,.var (R.ty 56) [.aH 40 (iM d.rows),.aH 16 (cE d.ins)]),(1,.var (R.ty 44) x.row)],2⟩) (fun k=>a.a.m.v.length - k) (0) ?_ ?_
            ·exact⟨Nat.zero_le _,fun j u hj=>absurd hj (Nat.not_lt_zero j)⟩
            ·intro k hk
             dsimp only
             have hlen:=hvs.1
             refine sh ?_
             refine cS (fun h4=> ?_) (fun h4=> ?_)
             ·obtain⟨v,hv⟩:∃u_,a.a.m.v[k]? =some u_:=⟨_,List.getElem?_eq_getElem (by first|omega|(simp<;>omega))⟩
              refine sh ?_
              refine aa hv ?_
              refine sh ?_
              refine ae.pure h.n242.K6.hb (qt h.n242 hx (ye (hvs.2 v (List.mem_of_getElem? hv)))) rfl ?_
              refine sh ?_
              refine cS (fun h5=> ?_) (fun h5=> ?_)
              ·rw[if_pos (by rw[j3 hv hk.2 h5]; exact h5),j3 hv hk.2 h5]at hq
               subst hq
               refine sh ?_
               exact rM [0]
              ·refine sh ?_
               refine kI (k+1) ?_ ?_
               ·refine⟨by omega,fun j u hj hu=> ?_⟩
                by_cases e:j=k
                ·subst e
                 rw[hv]at hu
                 cases hu
                 exact h5
                ·exact hk.2 j u (by omega) hu
               ·omega
             ·rw[na (fun j u hj=>hk.2 j u (by omega)),if_neg (by simp)]at hq
              refine sh ?_
              refine gD 100 (fun i:Nat=>i<=d.ins.length) (fun i=>⟨[(0,.loc 0 1 0 0),(3,.loc 1 1 0 0),(12,.bc 2 (c8 (iO x) x (d.ins.take i)).1.length),(13,.bool (c8 (iO x) x (d.ins.take i)).2),(14,.int .i64 i)],[(0,.var (R.ty 56) [.aH 40 (iM d.rows),.aH 16 (cE d.ins)]),(1,.var (R.ty 44) x.row),(2,.arr (R.ty 44) 16 (cE (c8 (iO x) x (d.ins.take i)).1))],3⟩) (fun i=>d.ins.length - i) (0) ?_ ?_
              ·exact Nat.zero_le _
              ·intro i hi
               dsimp only
               have hlen:=pP (p:=iO x) (x:=x) (d.ins.take i)
               rw[List.length_take]at hlen
               refine sh ?_
               refine cS (fun h6=> ?_) (fun h6=> ?_)
               ·obtain⟨r,hr⟩:∃u_,d.ins[i]? =some u_:=⟨_,List.getElem?_eq_getElem (by omega)⟩
                have e1:c8 (iO x) x (d.ins.take (i+1))=jK (iO x) x (c8 (iO x) x (d.ins.take i)) r:=by rw[ar hr,nk]
                obtain⟨⟨O,b⟩,hO⟩:∃s,c8 (iO x) x (d.ins.take i)=s:=⟨_,rfl⟩
                rw[hO]at e1 hlen ⊢
                dsimp only at hlen ⊢
                cases b with
                |false=>
                 refine sh ?_
                 refine aa hr ?_
                 refine sh ?_
                 refine ae.pure h.pD.EJ.hb (pR h.pD x r) rfl ?_
                 by_cases h7:lH x r<0
                 ·refine sh ?_
                  refine af (by simpa using h7) ?_
                  have e2:c8 (iO x) x (d.ins.take (i+1))=(O++ [x]++ [r],true):=by rw[e1]; unfold jK; rw[if_pos ⟨rfl,by simp[iO]; omega⟩]
                  refine sh ?_
                  refine aa hr ?_
                  refine sh ?_
                  refine nX (i+1) ?_ ?_ ⟨_,hp,rfl⟩ ?_ ?_
                  ·omega
                  ·omega
                  ·refine pC ?_ ?_
                   all_goals first|(rw[e2]; done)|(rw[e2]; simp; done)
                  ·refine be ?_
                   all_goals first|(right; simp[cE,In.row]; done)|(rw[e2]; simp[cE,In.row]; done)
                 ·refine sh ?_
                  refine aw (by simpa using h7) ?_
                  have e2:c8 (iO x) x (d.ins.take (i+1))=(O++ [r],false):=by rw[e1]; unfold jK; rw[if_neg (by simp[iO]; omega)]
                  refine sh ?_
                  refine aa hr ?_
                  refine sh ?_
                  refine nX (i+1) ?_ ?_ ⟨_,hp,rfl⟩ ?_ ?_
                  ·omega
                  ·omega
                  ·refine pC ?_ ?_
                   all_goals first|(rw[e2]; done)|(rw[e2]; simp; done)
                  ·refine be ?_
                   all_goals first|(right; simp[cE,In.row]; done)|(rw[e2]; simp[cE,In.row]; done)
                |true=>
                 have e2:c8 (iO x) x (d.ins.take (i+1))=(O++ [r],true):=by rw[e1]; unfold jK; rw[if_neg (by simp)]
                 refine sh ?_
                 refine aa hr ?_
                 refine sh ?_
                 refine nX (i+1) ?_ ?_ ⟨_,hp,rfl⟩ ?_ ?_
                 ·omega
                 ·omega
                 ·refine pC ?_ ?_
                  all_goals first|(rw[e2]; done)|(rw[e2]; simp; done)
                 ·refine be ?_
                  all_goals first|(right; simp[cE,In.row]; done)|(rw[e2]; simp[cE,In.row]; done)
               ·rw[List.take_of_length_le (by omega)]at hlen ⊢
                obtain⟨⟨O,b⟩,hO⟩:∃s,c8 (iO x) x d.ins=s:=⟨_,rfl⟩
                have hL:nE (iO x) x d.ins=if b=true then O else O++ [x]:=by unfold nE; rw[hO]
                rw[hL]at hq
                rw[hO]at hlen ⊢
                dsimp only at hlen ⊢
                cases b with
                |false=>
                 rw[if_neg (by simp)]at hq
                 subst hq
                 refine sh ?_
                 refine rM [0] ?_
                 refine be ?_
                 all_goals (simp[cE,In.row]; done)
                |true=>
                 rw[if_pos rfl]at hq
                 subst hq
                 refine sh ?_
                 exact rM [0]
         ·have Av:bF d.rows x=0:=by rw[et,if_pos k3,if_neg (by omega)]
          rw[if_neg (by rw[Av]; simp)]at hq
          have hvs:=(ok a (bZ rE).1).C9 (by omega)
          refine sh ?_
          refine cM false [0] (sk h.zP d x hil) ?_
          repeat (intro _; first|refine eK ?_|refine eP ?_)
          rcases oL x d.ins with⟨f1,f2⟩|⟨f1,f2⟩
          ·rw[if_pos f2]at hq
           refine sh ?_
           refine af (by simp; omega) ?_
           subst hq
           refine sh ?_
           exact rM [0]
          ·rw[if_neg (by rw[f2]; simp),rE]at hq
           rw[f1]
           refine sh ?_
           refine aw (by simp) ?_
           dsimp only at hq
           refine sh ?_
           refine aa ha2 ?_
           refine sh ?_
           refine gD 100 (fun k:Nat=>k<=a.a.m.v.length/\∀ (j:Nat) (u:T3),j<k->a.a.m.v[j]? =some u->(bW x.t u).2=0) (fun k=>⟨[(0,.loc 0 1 0 0),(3,.loc 1 1 0 0),(8,.aH 3 (bJ a.a.m.v)),(9,.int .i64 k)],[(0,.var (R.ty 56) [.aH 40 (iM d.rows),.aH 16 (cE d.ins)]),(1,.var (R.ty 44) x.row)],2⟩) (fun k=>a.a.m.v.length - k) (0) ?_ ?_
           ·exact⟨Nat.zero_le _,fun j u hj=>absurd hj (Nat.not_lt_zero j)⟩
           ·intro k hk
            dsimp only
            have hlen:=hvs.1
            refine sh ?_
            refine cS (fun h4=> ?_) (fun h4=> ?_)
            ·obtain⟨v,hv⟩:∃u_,a.a.m.v[k]? =some u_:=⟨_,List.getElem?_eq_getElem (by first|omega|(simp<;>omega))⟩
             refine sh ?_
             refine aa hv ?_
             refine sh ?_
             refine ae.pure h.n242.K6.hb (qt h.n242 hx (ye (hvs.2 v (List.mem_of_getElem? hv)))) rfl ?_
             refine sh ?_
             refine cS (fun h5=> ?_) (fun h5=> ?_)
             ·rw[if_pos (by rw[j3 hv hk.2 h5]; exact h5),j3 hv hk.2 h5]at hq
              subst hq
              refine sh ?_
              exact rM [0]
             ·refine sh ?_
              refine kI (k+1) ?_ ?_
              ·refine⟨by omega,fun j u hj hu=> ?_⟩
               by_cases e:j=k
               ·subst e
                rw[hv]at hu
                cases hu
                exact h5
               ·exact hk.2 j u (by omega) hu
              ·omega
            ·rw[na (fun j u hj=>hk.2 j u (by omega)),if_neg (by simp)]at hq
             refine sh ?_
             refine gD 100 (fun i:Nat=>i<=d.ins.length) (fun i=>⟨[(0,.loc 0 1 0 0),(3,.loc 1 1 0 0),(12,.bc 2 (c8 (iO x) x (d.ins.take i)).1.length),(13,.bool (c8 (iO x) x (d.ins.take i)).2),(14,.int .i64 i)],[(0,.var (R.ty 56) [.aH 40 (iM d.rows),.aH 16 (cE d.ins)]),(1,.var (R.ty 44) x.row),(2,.arr (R.ty 44) 16 (cE (c8 (iO x) x (d.ins.take i)).1))],3⟩) (fun i=>d.ins.length - i) (0) ?_ ?_
             ·exact Nat.zero_le _
             ·intro i hi
              dsimp only
              have hlen:=pP (p:=iO x) (x:=x) (d.ins.take i)
              rw[List.length_take]at hlen
              refine sh ?_
              refine cS (fun h6=> ?_) (fun h6=> ?_)
              ·obtain⟨r,hr⟩:∃u_,d.ins[i]? =some u_:=⟨_,List.getElem?_eq_getElem (by omega)⟩
               have e1:c8 (iO x) x (d.ins.take (i+1))=jK (iO x) x (c8 (iO x) x (d.ins.take i)) r:=by rw[ar hr,nk]
               obtain⟨⟨O,b⟩,hO⟩:∃s,c8 (iO x) x (d.ins.take i)=s:=⟨_,rfl⟩
               rw[hO]at e1 hlen ⊢
               dsimp only at hlen ⊢
               cases b with
               |false=>
                refine sh ?_
                refine aa hr ?_
                refine sh ?_
                refine ae.pure h.pD.EJ.hb (pR h.pD x r) rfl ?_
                by_cases h7:lH x r<0
                ·refine sh ?_
                 refine af (by simpa using h7) ?_
                 have e2:c8 (iO x) x (d.ins.take (i+1))=(O++ [x]++ [r],true):=by rw[e1]; unfold jK; rw[if_pos ⟨rfl,by simp[iO]; omega⟩]
                 refine sh ?_
                 refine aa hr ?_
                 refine sh ?_
                 refine nX (i+1) ?_ ?_ ⟨_,hp,rfl⟩ ?_ ?_
                 ·omega
                 ·omega
                 ·refine pC ?_ ?_
                  all_goals first|(rw[e2]; done)|(rw[e2]; simp; done)
                 ·refine be ?_
                  all_goals first|(right; simp[cE,In.row]; done)|(rw[e2]; simp[cE,In.row]; done)
                ·refine sh ?_
                 refine aw (by simpa using h7) ?_
                 have e2:c8 (iO x) x (d.ins.take (i+1))=(O++ [r],false):=by rw[e1]; unfold jK; rw[if_neg (by simp[iO]; omega)]
                 refine sh ?_
                 refine aa hr ?_
                 refine sh ?_
                 refine nX (i+1) ?_ ?_ ⟨_,hp,rfl⟩ ?_ ?_
                 ·omega
                 ·omega
                 ·refine pC ?_ ?_
                  all_goals first|(rw[e2]; done)|(rw[e2]; simp; done)
                 ·refine be ?_
                  all_goals first|(right; simp[cE,In.row]; done)|(rw[e2]; simp[cE,In.row]; done)
               |true=>
                have e2:c8 (iO x) x (d.ins.take (i+1))=(O++ [r],true):=by rw[e1]; unfold jK; rw[if_neg (by simp)]
                refine sh ?_
                refine aa hr ?_
                refine sh ?_
                refine nX (i+1) ?_ ?_ ⟨_,hp,rfl⟩ ?_ ?_
                ·omega
                ·omega
                ·refine pC ?_ ?_
                 all_goals first|(rw[e2]; done)|(rw[e2]; simp; done)
                ·refine be ?_
                 all_goals first|(right; simp[cE,In.row]; done)|(rw[e2]; simp[cE,In.row]; done)
              ·rw[List.take_of_length_le (by omega)]at hlen ⊢
               obtain⟨⟨O,b⟩,hO⟩:∃s,c8 (iO x) x d.ins=s:=⟨_,rfl⟩
               have hL:nE (iO x) x d.ins=if b=true then O else O++ [x]:=by unfold nE; rw[hO]
               rw[hL]at hq
               rw[hO]at hlen ⊢
               dsimp only at hlen ⊢
               cases b with
               |false=>
                rw[if_neg (by simp)]at hq
                subst hq
                refine sh ?_
                refine rM [0] ?_
                refine be ?_
                all_goals (simp[cE,In.row]; done)
               |true=>
                rw[if_pos rfl]at hq
                subst hq
                refine sh ?_
                exact rM [0]
      ·rw[ha1,uU,hc1]
       refine sh ?_
       refine aw (by simp) ?_
       refine sh ?_
       refine aw (by simp) ?_
       refine sh ?_
       refine af (by simp) ?_
       refine sh ?_
       refine cS (fun k3=> ?_) (fun k3=> ?_)
       ·have Av:bF d.rows x=11:=by unfold bF; rw[rE,Oq,uV]; dsimp only; rw[if_neg k3]
        rw[if_pos (by rw[Av]; simp),Av]at hq
        subst hq
        refine sh ?_
        exact rM [0]
       ·have et:bF d.rows x=if a.f.kind≠1\/ b.f.kind≠3 then 12 else 0:=by unfold bF; rw[rE,Oq]; dsimp only; rw[if_pos k3]
        refine sh ?_
        refine aa ha2 ?_
        refine sh ?_
        refine cS (fun k1=> ?_) (fun k1=> ?_)
        ·rw[if_pos (by rw[et,if_pos (.inl k1)]; simp),et,if_pos (.inl k1)]at hq
         subst hq
         refine sh ?_
         exact rM [0]
        ·refine sh ?_
         refine aa S8 ?_
         refine sh ?_
         refine cS (fun k2=> ?_) (fun k2=> ?_)
         ·rw[if_pos (by rw[et,if_pos (.inr k2)]; simp),et,if_pos (.inr k2)]at hq
          subst hq
          refine sh ?_
          exact rM [0]
         ·refine sh ?_
          refine aw (by simpa using k3) ?_
          have Av:bF d.rows x=0:=by rw[et,if_neg (by omega)]
          rw[if_neg (by rw[Av]; simp)]at hq
          have hvs:=(ok a (bZ rE).1).C9 (by omega)
          refine sh ?_
          refine cM false [0] (sk h.zP d x hil) ?_
          repeat (intro _; first|refine eK ?_|refine eP ?_)
          rcases oL x d.ins with⟨f1,f2⟩|⟨f1,f2⟩
          ·rw[if_pos f2]at hq
           refine sh ?_
           refine af (by simp; omega) ?_
           subst hq
           refine sh ?_
           exact rM [0]
          ·rw[if_neg (by rw[f2]; simp),rE]at hq
           rw[f1]
           refine sh ?_
           refine aw (by simp) ?_
           dsimp only at hq
           refine sh ?_
           refine aa ha2 ?_
           refine sh ?_
           refine gD 100 (fun k:Nat=>k<=a.a.m.v.length/\∀ (j:Nat) (u:T3),j<k->a.a.m.v[j]? =some u->(bW x.t u).2=0) (fun k=>⟨[(0,.loc 0 1 0 0),(3,.loc 1 1 0 0),(8,.aH 3 (bJ a.a.m.v)),(9,.int .i64 k)],[(0,.var (R.ty 56) [.aH 40 (iM d.rows),.aH 16 (cE d.ins)]),(1,.var (R.ty 44) x.row)],2⟩) (fun k=>a.a.m.v.length - k) (0) ?_ ?_
           ·exact⟨Nat.zero_le _,fun j u hj=>absurd hj (Nat.not_lt_zero j)⟩
           ·intro k hk
            dsimp only
            have hlen:=hvs.1
            refine sh ?_
            refine cS (fun h4=> ?_) (fun h4=> ?_)
            ·obtain⟨v,hv⟩:∃u_,a.a.m.v[k]? =some u_:=⟨_,List.getElem?_eq_getElem (by first|omega|(simp<;>omega))⟩
             refine sh ?_
             refine aa hv ?_
             refine sh ?_
             refine ae.pure h.n242.K6.hb (qt h.n242 hx (ye (hvs.2 v (List.mem_of_getElem? hv)))) rfl ?_
             refine sh ?_
             refine cS (fun h5=> ?_) (fun h5=> ?_)
             ·rw[if_pos (by rw[j3 hv hk.2 h5]; exact h5),j3 hv hk.2 h5]at hq
              subst hq
              refine sh ?_
              exact rM [0]
             ·refine sh ?_
              refine kI (k+1) ?_ ?_
              ·refine⟨by omega,fun j u hj hu=> ?_⟩
               by_cases e:j=k
               ·subst e
                rw[hv]at hu
                cases hu
                exact h5
               ·exact hk.2 j u (by omega) hu
              ·omega
            ·rw[na (fun j u hj=>hk.2 j u (by omega)),if_neg (by simp)]at hq
             refine sh ?_
             refine gD 100 (fun i:Nat=>i<=d.ins.length) (fun i=>⟨[(0,.loc 0 1 0 0),(3,.loc 1 1 0 0),(12,.bc 2 (c8 (iO x) x (d.ins.take i)).1.length),(13,.bool (c8 (iO x) x (d.ins.take i)).2),(14,.int .i64 i)],[(0,.var (R.ty 56) [.aH 40 (iM d.rows),.aH 16 (cE d.ins)]),(1,.var (R.ty 44) x.row),(2,.arr (R.ty 44) 16 (cE (c8 (iO x) x (d.ins.take i)).1))],3⟩) (fun i=>d.ins.length - i) (0) ?_ ?_
             ·exact Nat.zero_le _
             ·intro i hi
              dsimp only
              have hlen:=pP (p:=iO x) (x:=x) (d.ins.take i)
              rw[List.length_take]at hlen
              refine sh ?_
              refine cS (fun h6=> ?_) (fun h6=> ?_)
              ·obtain⟨r,hr⟩:∃u_,d.ins[i]? =some u_:=⟨_,List.getElem?_eq_getElem (by omega)⟩
               have e1:c8 (iO x) x (d.ins.take (i+1))=jK (iO x) x (c8 (iO x) x (d.ins.take i)) r:=by rw[ar hr,nk]
               obtain⟨⟨O,b⟩,hO⟩:∃s,c8 (iO x) x (d.ins.take i)=s:=⟨_,rfl⟩
               rw[hO]at e1 hlen ⊢
               dsimp only at hlen ⊢
               cases b with
               |false=>
                refine sh ?_
                refine aa hr ?_
                refine sh ?_
                refine ae.pure h.pD.EJ.hb (pR h.pD x r) rfl ?_
                by_cases h7:lH x r<0
                ·refine sh ?_
                 refine af (by simpa using h7) ?_
                 have e2:c8 (iO x) x (d.ins.take (i+1))=(O++ [x]++ [r],true):=by rw[e1]; unfold jK; rw[if_pos ⟨rfl,by simp[iO]; omega⟩]
                 refine sh ?_
                 refine aa hr ?_
                 refine sh ?_
                 refine nX (i+1) ?_ ?_ ⟨_,hp,rfl⟩ ?_ ?_
                 ·omega
                 ·omega
                 ·refine pC ?_ ?_
                  all_goals first|(rw[e2]; done)|(rw[e2]; simp; done)
                 ·refine be ?_
                  all_goals first|(right; simp[cE,In.row]; done)|(rw[e2]; simp[cE,In.row]; done)
                ·refine sh ?_
                 refine aw (by simpa using h7) ?_
                 have e2:c8 (iO x) x (d.ins.take (i+1))=(O++ [r],false):=by rw[e1]; unfold jK; rw[if_neg (by simp[iO]; omega)]
                 refine sh ?_
                 refine aa hr ?_
                 refine sh ?_
                 refine nX (i+1) ?_ ?_ ⟨_,hp,rfl⟩ ?_ ?_
                 ·omega
                 ·omega
                 ·refine pC ?_ ?_
                  all_goals first|(rw[e2]; done)|(rw[e2]; simp; done)
                 ·refine be ?_
                  all_goals first|(right; simp[cE,In.row]; done)|(rw[e2]; simp[cE,In.row]; done)
               |true=>
                have e2:c8 (iO x) x (d.ins.take (i+1))=(O++ [r],true):=by rw[e1]; unfold jK; rw[if_neg (by simp)]
                refine sh ?_
                refine aa hr ?_
                refine sh ?_
                refine nX (i+1) ?_ ?_ ⟨_,hp,rfl⟩ ?_ ?_
                ·omega
                ·omega
                ·refine pC ?_ ?_
                 all_goals first|(rw[e2]; done)|(rw[e2]; simp; done)
                ·refine be ?_
                 all_goals first|(right; simp[cE,In.row]; done)|(rw[e2]; simp[cE,In.row]; done)
              ·rw[List.take_of_length_le (by omega)]at hlen ⊢
               obtain⟨⟨O,b⟩,hO⟩:∃s,c8 (iO x) x d.ins=s:=⟨_,rfl⟩
               have hL:nE (iO x) x d.ins=if b=true then O else O++ [x]:=by unfold nE; rw[hO]
               rw[hL]at hq
               rw[hO]at hlen ⊢
               dsimp only at hlen ⊢
               cases b with
               |false=>
                rw[if_neg (by simp)]at hq
                subst hq
                refine sh ?_
                refine rM [0] ?_
                refine be ?_
                all_goals (simp[cE,In.row]; done)
               |true=>
                rw[if_pos rfl]at hq
                subst hq
                refine sh ?_
                exact rM [0]
     ·rw[ha1,uU]
      have Av:bF d.rows x=11:=by unfold bF; rw[rE,Oq]
      rw[if_pos (by rw[Av]; simp),Av]at hq
      refine sh ?_
      refine aw (by simp) ?_
      refine sh ?_
      refine af (by simp) ?_
      subst hq
      refine sh ?_
      exact rM [0]
    ·rw[ha1]
     have Av:bF d.rows x=11:=by unfold bF; rw[rE]
     rw[if_pos (by rw[Av]; simp),Av]at hq
     refine sh ?_
     refine af (by simp) ?_
     subst hq
     refine sh ?_
     exact rM [0]
end Go.UM
namespace Go.UM
open Go.AM Go.RowKit Go.Proofs
def IK (P:Program) (f:Nat):Prop:=∀ (b:Nat) (es:Array MapEntry) (ck:Nat) (w:World),w.heap[b]? =some (.map es ck)->Calls P f #[.map (some b)] w fun e w'=>e= .returned (.map (some w.heap.size))/\w'=w.alloc (.map es ck)
theorem Aw {R:Env} {g:Nat} (hb:cx R.P (R.ft g)) (CL:IK R.P (R.ft g)) (k:Nat) (ka va d:Bool) (sz:Nat) (es:List (List AV)):
  R.Mc g [.omap 0] [(0,.map k ka va d sz es)] (.omap 1) [(0,.map k ka va d sz es),(1,.map k ka va d sz es)] 2:=by
 refine⟨hb,fun w I ρ vs hW hr=> ?_,rfl⟩
 have W:=hW 0
 obtain⟨hvl,hr⟩:=hr
 obtain⟨v0,rfl⟩:∃v0,vs=[v0]:=by
  match vs,hvl with
  |[a],_=>exact⟨a,rfl⟩
 have r0:=hr 0 (by simp)
 have r0:aL ρ _ I w (· <1) (.omap 0) v0:=r0
 have Xw:ab (ay [(0,bI.map k ka va d sz es)]) 0=some ⟨0,sz,es,some (k,ka,va,d)⟩:=rfl
 obtain⟨gm,cm,hρ,rfl⟩:∃gm cm,ρ 0=some (gm,cm)/\v0= .map (some gm):=by
  cases r0 with
  |omap _ _ _ _ h=>exact h sz (by rw[aA]; exact⟨_,Xw,rfl,rfl⟩)
 have B:=W.aT 0 _ Xw
 obtain⟨cs,fr,qy,og,hI,MD,hlen,hcap,hcs,hcell⟩:=B.real gm cm hρ
 obtain⟨en,ck,hg,hs,MC⟩:=qy
 refine (CL gm en ck w hg).mono ?_
 rintro e w' ⟨rfl,rfl⟩
 refine⟨_,rfl,?_⟩
 obtain⟨E1,W1⟩:=W.put (w':=w.alloc (.map en ck)) 1 ⟨0,sz,es,some (k,ka,va,d)⟩ w.heap.size cm cs fr rfl rfl rfl (by simp) (fun k hk _=>Below.heap_alloc w _ k hk)
  ⟨en,ck,heap_alloc_new w _,hs,MC⟩ og (.inl (Nat.le_refl _)) (fun b0 h0=>by have h0:(Option.none:Option bg)=some b0:=h0; cases h0) (fun h=>absurd h (Nat.lt_irrefl 1)) B.even hlen hcap hcs hcell
 have e1:cX (ab (ay [(0,bI.map k ka va d sz es)])) 1 ⟨0,sz,es,some (k,ka,va,d)⟩=ab (ay [(0,bI.map k ka va d sz es),(1,bI.map k ka va d sz es)]):=by
  funext m
  by_cases hm:m=1
  ·subst hm; rfl
  ·have:(m==1)=false:=by simpa using hm
   simp[cX,hm,ay,ab,this]
 rw[e1]at W1
 refine⟨_,I,0,W1.nP (fun m hm=>by rcases hm with rfl|hm; exact Nat.lt_succ_self 1; exact Nat.lt_succ_of_lt hm),?_⟩
 exact rc (cap:=cm) (Nat.lt_succ_self 1) (by simp[iI])
end Go.UM
namespace Go.UM
open Go.AM
set_option maxRecDepth 4000
def rW:As:=⟨3,⟨[],[],[]⟩,⟨0,[]⟩,⟨0,z3,0⟩,⟨0,z3,z3,z3,z3⟩⟩
def mf3:Mf:=⟨0,3,0,0,0,0,0,0,0,0,0,0,0,0,0⟩
theorem Dk:dv rW=0:=by decide
def t5:Tb:=⟨[⟨5,mf3,rW⟩],[]⟩
theorem w1:gz ⟨[],[]⟩ 5 mf3 rW=(t5,0):=by unfold gz; rw[Dk]; rfl
theorem w2:gz t5 5 mf3 rW=(t5,10):=rfl
theorem w3:dE t5 5=(⟨[],[]⟩,0):=rfl
def jy (l:List Ac):List (List AV):=l.map Ac.row
@[simp] theorem Ax (l:List Ac):(jy l).length=l.length:=by simp[jy]
@[simp] theorem Xy (l:List Ac):mW (jy l):=by simp[jy,Ac.row]
instance {l:List Ac}:iG (jy l) l.length:=⟨Ax l⟩
theorem lL (l:List In):(cw l).length=l.length:=by simp[cw]
theorem IL (c:Ac):c.ju.a.x.t.length<=1000:=by simp[Ac.ju,As.ju]; omega
theorem Xz (c:Ac):c.ju.a.bare.B3:=by
 have h1:c.ju.a.m.v.length<=70:=by simp[Ac.ju,As.ju,Ms.ju]; omega
 have h2:c.ju.a.m.uv.length<=70:=by simp[Ac.ju,As.ju,Ms.ju]; omega
 have h3:c.ju.a.m.t.length<=70:=by simp[Ac.ju,As.ju,Ms.ju]; omega
 have h4:c.ju.a.x.t.length<=260:=by simp[Ac.ju,As.ju]; omega
 generalize c.ju.a=a at h1 h2 h3 h4
 unfold As.bare
 refine⟨?_,?_,?_,?_⟩<;>repeat' split
 all_goals first|omega|(dsimp only; omega)|simp[qv,Y3]
end Go.UM
namespace Go.UM
open Go.AM
set_option maxRecDepth 4000
def kP (t:Tb):Tb:=⟨aV t.rows,cw t.ins⟩
def R3 (t:Tb) (c:Ac):Tb × Int:=if c.k=0 then wO t c.h c.f c.a else if c.k=1 then nq t c.h else if c.k=2 then Fu t c.i else wQ t c.i
theorem L4 {R:Env} (h:Qw R) (d:Tb) (c:Ac) (ok:∀r ∈ d.rows,fK r) (fa:c.a.B3) (hx:c.i.t.I) (hl:d.rows.length<=1000000) (hi:d.ins.length<=1000000):
  R.Mc 432 [.loc 0 1 0 0,.agg c.row] (ki R d) (.int .i64 (R3 d c).2) (ki R (R3 d c).1) 1:=
 h.abD.bC 100 1 rfl rfl rfl fun X bb hfit hp=>by
  generalize hq:R3 d c=q
  unfold R3 at hq
  unfold ki
  refine sh ?_
  refine cS (fun k0=> ?_) (fun k0=> ?_)
  ·rw[if_pos k0]at hq
   subst hq
   refine sh ?_
   refine cM false [0] (LZ h.Qx d c.h c.f c.a fa hl) ?_
   repeat (intro _; first|refine eK ?_|refine eP ?_)
   refine sh ?_
   exact rM [0]
  ·rw[if_neg k0]at hq
   refine sh ?_
   refine cS (fun k1=> ?_) (fun k1=> ?_)
   ·rw[if_pos k1]at hq
    subst hq
    refine sh ?_
    refine cM false [0] (Ft h.Qy d c.h hl hi) ?_
    repeat (intro _; first|refine eK ?_|refine eP ?_)
    refine sh ?_
    exact rM [0]
   ·rw[if_neg k1]at hq
    refine sh ?_
    refine cS (fun k2=> ?_) (fun k2=> ?_)
    ·rw[if_pos k2]at hq
     subst hq
     refine sh ?_
     refine cM false [0] (Rk h.Qz d c.i ok hx hl hi) ?_
     repeat (intro _; first|refine eK ?_|refine eP ?_)
     refine sh ?_
     exact rM [0]
    ·rw[if_neg k2]at hq
     subst hq
     refine sh ?_
     refine cM false [0] (L3 h.QA d c.i hi) ?_
     repeat (intro _; first|refine eK ?_|refine eP ?_)
     refine sh ?_
     exact rM [0]
theorem yn {l:List Rw} {h:Int} (e:(aO l h).isSome≠true):∀r ∈ l,r.h≠h:=fun r hr k=>by
 apply e
 unfold aO
 rw[List.find?_isSome]
 exact⟨r,hr,by simpa using k⟩
theorem Ay {l:List Rw} (rd:l.Pairwise fun a b=>a.h≠b.h) (x:In):bF (aV l) x=bF l x:=by
 unfold bF
 rw[fU rd,fU rd,fU rd]
theorem Rl {t:Tb} {n:Nat} (ok:iD t n) (c:Ac):R3 (kP t) c=(kP (rV t c).1,(rV t c).2):=by
 unfold R3 rV
 split
 ·unfold wO gz kP
  dsimp only
  rw[fU ok.rd]
  split
  ·rfl
  ·split
   ·rfl
   ·rename_i k
    split
    ·rfl
    ·split
     ·rfl
     ·dsimp only
      rw[Fq (by
       rw[List.pairwise_append]
       exact⟨ok.rd,by simp,fun r hr q hq=>by simp only[List.mem_singleton]at hq; subst hq; exact yn k r hr⟩)]
 ·split
  ·unfold nq dE kP
   dsimp only
   rw[fU ok.rd]
   split
   ·dsimp only
    rw[Aq ok.rd,pN ok.nd]; rfl
   ·rfl
  ·split
   ·unfold Fu ij kP
    dsimp only
    rw[Ay ok.rd,fU ok.rd,uG ok.nd]
    split
    ·rfl
    ·split
     ·rfl
     ·split
      ·rfl
      ·rename_i k
       cases aO t.rows c.i.aQ with
       |none=>rfl
       |some r=>
        dsimp only
        split
        ·rfl
        ·dsimp only
         rw[Fs (by
          rw[List.pairwise_append]
          refine⟨ok.nd,by simp,fun y hy q hq=> ?_⟩
          simp only[List.mem_singleton]at hq
          subst hq
          rw[oG]
          cases hs:ba c.i y with
          |false=>rfl
          |true=>
           exfalso
           apply k
           unfold dB
           rw[List.find?_isSome]
           exact⟨y,hy,hs⟩)]
   ·unfold wQ jx kP
    dsimp only
    rw[uG ok.nd]
    split
    ·dsimp only
     rw[Ar ok.nd]
    ·rfl
structure XA (R:Env):Prop where
 r:∀ (d:Bool) (es:List (List AV)),R.Mc 439 [.omap 0] [(0,.map 1 false true d 41 es)] (.omap 1) [(0,.map 1 false true d 41 es),(1,.map 1 false true d 41 es)] 2
 i:∀ (d:Bool) (es:List (List AV)),R.Mc 440 [.omap 0] [(0,.map 4 true true d 16 es)] (.omap 1) [(0,.map 4 true true d 16 es),(1,.map 4 true true d 16 es)] 2
theorem Ro {R:Env} (h:PO R) (C:XA R) (d1 d2:Bool) (t:Tb):
  R.Mc 430 [.loc 2 1 0 0] (ek R d1 d2 t) (.loc 5 1 0 0) (ek R d1 d2 t++ [(3,.map 1 false true d1 41 (iq t.rows)),(4,.map 4 true true d2 16 (cE t.ins)),(5,.var (R.ty 47) [.omap 3,.omap 4])]) 6:=
 h.abk.bC 100 3 rfl rfl rfl fun X bb hfit hp=>by
  unfold ek
  refine sh ?_
  refine cM false [0,1,2] (lG h.j9 d1 d2 t) ?_
  repeat (intro _; first|refine eK ?_|refine eP ?_)
  refine sh ?_
  refine cM false [0] (C.r d1 (iq t.rows)) ?_
  repeat (intro _; first|refine eK ?_|refine eP ?_)
  refine sh ?_
  refine cM false [1] (C.i d2 (cE t.ins)) ?_
  repeat (intro _; first|refine eK ?_|refine eP ?_)
  refine sh ?_
  exact rM [0,1,2,3,4,5]
end Go.UM
namespace Go.UM
open Go.AM
set_option maxRecDepth 4000
def Y7 (l:List T3):List Int:=l.flatMap fun t=>[t.a,t.b,t.c]
end Go.UM
namespace Go.UM
open Go.AM
set_option maxRecDepth 4000
def e8 (x:Int):List UInt8:=enc 8 (x % 18446744073709551616)
end Go.UM
namespace Go.UM
open Go.AM
set_option maxRecDepth 4000
structure sm where
 (p q r:T3)
 (ua ub va vb wa wb df cb obj kf:Int)
def sm.row (t:sm):List AV:=[.int .i64 t.p.a,.int .i64 t.p.b,.int .i64 t.p.c,.int .i64 t.q.a,.int .i64 t.q.b,.int .i64 t.q.c,.int .i64 t.r.a,.int .i64 t.r.b,.int .i64 t.r.c,
 .int .i64 t.ua,.int .i64 t.ub,.int .i64 t.va,.int .i64 t.vb,.int .i64 t.wa,.int .i64 t.wb,.int .i64 t.df,.int .i64 t.cb,.int .i64 t.obj,.int .u8 t.kf]
def sm.aP (t:sm):List Int:=Y7 [t.p,t.q,t.r]++ [t.ua,t.ub]++ [t.va,t.vb]++ [t.wa,t.wb]++ [t.df,t.cb,t.obj,t.kf]
structure sm.Ok (t:sm):Prop where
 p:bf .i64 t.p.a/\bf .i64 t.p.b/\bf .i64 t.p.c
 q:bf .i64 t.q.a/\bf .i64 t.q.b/\bf .i64 t.q.c
 r:bf .i64 t.r.a/\bf .i64 t.r.b/\bf .i64 t.r.c
 u:bf .i64 t.ua/\bf .i64 t.ub
 v:bf .i64 t.va/\bf .i64 t.vb
 w:bf .i64 t.wa/\bf .i64 t.wb
 m:bf .i64 t.df/\bf .i64 t.cb/\bf .i64 t.obj/\bf .u8 t.kf
def uI (l:List sm):List (List AV):=l.map sm.row
@[simp] theorem Az (l:List sm):(uI l).length=l.length:=by simp[uI]
@[simp] theorem XB (l:List sm):mW (uI l):=by simp[uI,sm.row]
instance {l:List sm}:iG (uI l) l.length:=⟨Az l⟩
def kQ (l:List jD):List (List AV):=l.map jD.row
@[simp] theorem yo (l:List jD):(kQ l).length=l.length:=by simp[kQ]
@[simp] theorem R4 (l:List jD):mW (kQ l):=by simp[kQ,jD.row]
instance {l:List jD}:iG (kQ l) l.length:=⟨yo l⟩
def kR (l:List jw):List (List AV):=l.map jw.row
@[simp] theorem yp (l:List jw):(kR l).length=l.length:=by simp[kR]
@[simp] theorem R5 (l:List jw):mW (kR l):=by simp[kR,jw.row]
instance {l:List jw}:iG (kR l) l.length:=⟨yp l⟩
def kS (l:List ii):List (List AV):=l.map ii.row
@[simp] theorem yq (l:List ii):(kS l).length=l.length:=by simp[kS]
@[simp] theorem R6 (l:List ii):mW (kS l):=by simp[kS,ii.row]
instance {l:List ii}:iG (kS l) l.length:=⟨yq l⟩
structure ej where
 cz:List sm
 dD:List jD
 cG:List ii
 eB:List jw
 ids:List Int
 gH:List Int
 (wS fr to:Int)
def ej.row (s:ej):List AV:=[.aH 19 (uI s.cz),.aH 5 (kQ s.dD),.aH 2 (kS s.cG),.aH 13 (kR s.eB),.aH 1 (bp .u64 s.ids),.aH 1 (bp .u32 s.gH),.int .u32 s.wS,.int .u32 s.fr,.int .u32 s.to]
def jD.aP (m:jD):List Int:=[m.k]++ [m.c.a,m.c.b,m.c.c]++ [m.r]
def ii.aP (t:ii):List Int:=[t.side,(t.t.length:Int)]++Y7 t.t
def jw.aP (l:jw):List Int:=[l.k]++ [l.c.a,l.c.b,l.c.c]++Y7 [l.p,l.u,l.v]
def Fv {α:Type} (l:List α) (f:α->List Int):List Int:=(l.length:Int)::l.flatMap f
def ej.aP (s:ej):List Int:=Fv s.cz sm.aP++Fv s.dD jD.aP++Fv s.cG ii.aP++Fv s.eB jw.aP++Fv s.ids (fun x=>[wr .i64 x])++Fv s.gH (fun x=>[x])++ [s.wS,s.fr,s.to]
structure ej.Ok (s:ej):Prop where
 nt:s.cz.length<=2000
 nm:s.dD.length<=100
 nx:s.cG.length<=30/\∀t ∈ s.cG,t.t.length<=300
 nl:s.eB.length<=100
 ni:s.ids.length<=100
 nb:s.gH.length<=100
 t:∀t ∈ s.cz,t.Ok
 m:∀m ∈ s.dD,∀x ∈ m.aP,bf .i64 x
 x:∀t ∈ s.cG,∀x ∈ t.aP,bf .i64 x
 l:∀t ∈ s.eB,∀x ∈ t.aP,bf .i64 x
 i:∀x ∈ s.ids,bf .u64 x
 b:∀x ∈ s.gH,bf .u32 x
 e:bf .u32 s.wS/\bf .u32 s.fr/\bf .u32 s.to
theorem qm (x:Int):bf .i64 (wr .i64 x):=by
 simp only[bf,wr,IntKind.wrap,IntKind.bits,IntKind.signed]
 simp
 omega
end Go.UM
namespace Go.UM
open Go.AM
set_option maxRecDepth 4000
end Go.UM
namespace Go.UM
open Go.AM
set_option maxRecDepth 4000
end Go.UM
namespace Go.UM
open Go.AM
set_option maxRecDepth 4000
theorem fV {α:Type} {a b:List α} {k:Nat} {x y:α} (hx:a[k]? =some x) (hy:b[k]? =some y) (h:x≠y):a≠b:=fun e=>h (by rw[e,hy]at hx; simpa using hx.symm)
theorem fW {α:Type} {a b:List α} {k:Nat} {x:α} (h:a.take k=b.take k) (hx:a[k]? =some x) (hy:b[k]? =some x):a.take (k+1)=b.take (k+1):=by rw[ar hx,ar hy,h]
theorem kT {α:Type} {a b:List α} {k:Nat} (h:a.take k=b.take k) (hl:a.length=b.length) (hk:a.length<=k):a=b:=by
 rwa[List.take_of_length_le hk,List.take_of_length_le (by omega)]at h
theorem Rp {R:Env} (h:QB R) (a b:List Int) (hl:a.length=b.length) (hn:a.length<=1000):R.Pc 507 [.aH 1 (bp .u32 a),.aH 1 (bp .u32 b)] (.bool (decide (a=b))):=
 h.WH.enter 60 rfl fun X bb hfit hp=>by
  refine sh ?_
  refine gD 60 (fun k:Nat=>k<=a.length/\a.take k=b.take k) (fun k=>⟨[(0,.aH 1 (bp .u32 a)),(1,.aH 1 (bp .u32 b)),(5,.int .i64 k)],[],0⟩) (fun k=>a.length - k) (0) ?_ ?_
  ·exact⟨Nat.zero_le _,by simp⟩
  ·intro k hk
   obtain⟨k1,k2⟩:=hk
   dsimp only
   refine sh ?_
   refine cS (fun h1=> ?_) (fun h1=> ?_)
   ·obtain⟨x,hx⟩:∃u_,a[k]? =some u_:=⟨_,List.getElem?_eq_getElem (by first|omega|(simp<;>omega))⟩
    refine sh ?_
    refine aa hx ?_
    obtain⟨y,hy⟩:∃u_,b[k]? =some u_:=⟨_,List.getElem?_eq_getElem (by first|omega|(simp<;>omega))⟩
    refine sh ?_
    refine aa hy ?_
    refine sh ?_
    refine cS (fun h2=> ?_) (fun h2=> ?_)
    ·rw[decide_eq_false (fV hx hy h2)]
     refine sh ?_
     exact rT
    ·obtain rfl:x=y:=by simpa using h2
     refine sh ?_
     refine kI (k+1) ?_ ?_
     ·exact⟨by omega,fW k2 hx hy⟩
     ·omega
   ·rw[decide_eq_true (kT k2 hl (by omega))]
    refine sh ?_
    exact rT
noncomputable def seq (a b:ej):Bool:= @decide (a=b) (Classical.propDecidable _)
theorem iE {a b:ej} (h:a≠b):seq a b=false:= @decide_eq_false _ (Classical.propDecidable _) h
theorem L5 {a b:ej} (h:a=b):seq a b=true:= @decide_eq_true _ (Classical.propDecidable _) h
set_option maxHeartbeats 2000000 in
theorem L6 {R:Env} (h:QC R) (a b:ej) (ha:a.Ok) (hb:b.Ok):R.Pc 492 [.agg a.row,.agg b.row] (.bool (seq a b)):=
 h.WJ.enter 300 rfl fun X bb hfit hp=>by
  have c1:=ha.nt
  have c2:=ha.nm
  have c3:=ha.nx.1
  have c4:=ha.nl
  have c5:=ha.ni
  have c6:=ha.nb
  refine sh ?_
  refine cS (fun g1=> ?_) (fun g1=> ?_)
  ·rw[iE fun e=>by subst e; exact g1 rfl]
   refine sh ?_
   exact rT
  ·have l1:a.cz.length=b.cz.length:=by omega
   refine sh ?_
   refine cS (fun g2=> ?_) (fun g2=> ?_)
   ·rw[iE fun e=>by subst e; exact g2 rfl]
    refine sh ?_
    exact rT
   ·have l2:a.dD.length=b.dD.length:=by omega
    refine sh ?_
    refine cS (fun g3=> ?_) (fun g3=> ?_)
    ·rw[iE fun e=>by subst e; exact g3 rfl]
     refine sh ?_
     exact rT
    ·have l3:a.cG.length=b.cG.length:=by omega
     refine sh ?_
     refine cS (fun g4=> ?_) (fun g4=> ?_)
     ·rw[iE fun e=>by subst e; exact g4 rfl]
      refine sh ?_
      exact rT
     ·have l4:a.eB.length=b.eB.length:=by omega
      refine sh ?_
      refine cS (fun g5=> ?_) (fun g5=> ?_)
      ·rw[iE fun e=>by subst e; exact g5 rfl]
       refine sh ?_
       exact rT
      ·have l5:a.ids.length=b.ids.length:=by omega
       refine sh ?_
       refine cS (fun g6=> ?_) (fun g6=> ?_)
       ·rw[iE fun e=>by subst e; exact g6 rfl]
        refine sh ?_
        exact rT
       ·have l6:a.gH.length=b.gH.length:=by omega
        refine sh ?_
        refine ae.pure h.Le.WH.hb (Rp h.Le a.gH b.gH l6 (by omega)) rfl ?_
        refine sh ?_
        refine cS (fun g7=> ?_) (fun g7=> ?_)
        ·rw[iE fun e=>by subst e; simp at g7]
         refine sh ?_
         exact rT
        ·have m6:a.gH=b.gH:=by simpa using g7
         refine sh ?_
         refine gD 200 (fun k:Nat=>k<=a.cz.length/\a.cz.take k=b.cz.take k) (fun k=>⟨[(2,.loc 0 1 0 0),(3,.loc 1 1 0 0),(5,.int .i64 k)],[(0,.var (R.ty 59) a.row),(1,.var (R.ty 59) b.row)],2⟩) (fun k=>a.cz.length - k) (0) ?_ ?_
         ·exact⟨Nat.zero_le _,by simp⟩
         ·intro k hk
          obtain⟨k1,k2⟩:=hk
          dsimp only
          refine sh ?_
          refine cS (fun h1=> ?_) (fun h1=> ?_)
          ·obtain⟨x,hx⟩:∃u_,a.cz[k]? =some u_:=⟨_,List.getElem?_eq_getElem (by first|omega|(simp<;>omega))⟩
           refine sh ?_
           refine aa hx ?_
           obtain⟨y,hy⟩:∃u_,b.cz[k]? =some u_:=⟨_,List.getElem?_eq_getElem (by first|omega|(simp<;>omega))⟩
           refine sh ?_
           refine aa hy ?_
           refine sh ?_
           refine cS (fun h2=> ?_) (fun h2=> ?_)
           ·have hne:x≠y:=fun e=>by subst e; simp at h2
            rw[iE fun e=>by subst e; exact fV hx hy hne rfl]
            refine sh ?_
            exact rT
           ·have hxy:x=y:=by
             obtain⟨⟨a1,a2,a3⟩,⟨a4,a5,a6⟩,⟨a7,a8,a9⟩,b1,b2,b3,b4,b5,b6,d1,d2,d3,d4⟩:=x; obtain⟨⟨a1',a2',a3'⟩,⟨a4',a5',a6'⟩,⟨a7',a8',a9'⟩,b1',b2',b3',b4',b5',b6',d1',d2',d3',d4'⟩:=y; simp at h2 ⊢; simp[h2]
            subst hxy
            refine sh ?_
            refine kI (k+1) ?_ ?_
            ·exact⟨by omega,fW k2 hx hy⟩
            ·omega
          ·have m1:a.cz=b.cz:=kT k2 l1 (by omega)
           clear k1 k2 h1
           refine sh ?_
           refine gD 200 (fun k:Nat=>k<=a.dD.length/\a.dD.take k=b.dD.take k) (fun k=>⟨[(2,.loc 0 1 0 0),(3,.loc 1 1 0 0),(6,.int .i64 k)],[(0,.var (R.ty 59) a.row),(1,.var (R.ty 59) b.row)],2⟩) (fun k=>a.dD.length - k) (0) ?_ ?_
           ·exact⟨Nat.zero_le _,by simp⟩
           ·intro k hk
            obtain⟨k1,k2⟩:=hk
            dsimp only
            refine sh ?_
            refine cS (fun h1=> ?_) (fun h1=> ?_)
            ·obtain⟨x,hx⟩:∃u_,a.dD[k]? =some u_:=⟨_,List.getElem?_eq_getElem (by first|omega|(simp<;>omega))⟩
             refine sh ?_
             refine aa hx ?_
             obtain⟨y,hy⟩:∃u_,b.dD[k]? =some u_:=⟨_,List.getElem?_eq_getElem (by first|omega|(simp<;>omega))⟩
             refine sh ?_
             refine aa hy ?_
             refine sh ?_
             refine cS (fun h2=> ?_) (fun h2=> ?_)
             ·have hne:x≠y:=fun e=>by subst e; simp at h2
              rw[iE fun e=>by subst e; exact fV hx hy hne rfl]
              refine sh ?_
              exact rT
             ·have hxy:x=y:=by
               obtain⟨k1',⟨a1,a2,a3⟩,r1⟩:=x; obtain⟨k2',⟨b1,b2,b3⟩,r2⟩:=y; simp at h2 ⊢; simp[h2]
              subst hxy
              refine sh ?_
              refine kI (k+1) ?_ ?_
              ·exact⟨by omega,fW k2 hx hy⟩
              ·omega
            ·have m2:a.dD=b.dD:=kT k2 l2 (by omega)
             clear k1 k2 h1
             refine sh ?_
             refine gD 200 (fun k:Nat=>k<=a.cG.length/\a.cG.take k=b.cG.take k) (fun k=>⟨[(2,.loc 0 1 0 0),(3,.loc 1 1 0 0),(7,.int .i64 k)],[(0,.var (R.ty 59) a.row),(1,.var (R.ty 59) b.row)],2⟩) (fun k=>a.cG.length - k) (0) ?_ ?_
             ·exact⟨Nat.zero_le _,by simp⟩
             ·intro k hk
              obtain⟨k1,k2⟩:=hk
              dsimp only
              refine sh ?_
              refine cS (fun h1=> ?_) (fun h1=> ?_)
              ·obtain⟨x,hx⟩:∃u_,a.cG[k]? =some u_:=⟨_,List.getElem?_eq_getElem (by first|omega|(simp<;>omega))⟩
               refine sh ?_
               refine aa hx ?_
               obtain⟨y,hy⟩:∃u_,b.cG[k]? =some u_:=⟨_,List.getElem?_eq_getElem (by first|omega|(simp<;>omega))⟩
               refine sh ?_
               refine aa hy ?_
               have hxt:=ha.nx.2 x (List.mem_of_getElem? hx)
               refine sh ?_
               refine ae.pure h.YZ.o89.hb (E7 h.YZ x y (by omega)) rfl ?_
               refine sh ?_
               refine cS (fun h2=> ?_) (fun h2=> ?_)
               ·have hne:x≠y:=fun e=>by subst e; simp at h2
                rw[iE fun e=>by subst e; exact fV hx hy hne rfl]
                refine sh ?_
                exact rT
               ·have hxy:x=y:=by
                 obtain⟨s1,t1⟩:=x; obtain⟨s2,t2⟩:=y
                 simp at h2; obtain⟨e1,e2⟩:=h2; rw[e1,e2]
                subst hxy
                refine sh ?_
                refine kI (k+1) ?_ ?_
                ·exact⟨by omega,fW k2 hx hy⟩
                ·omega
              ·have m3:a.cG=b.cG:=kT k2 l3 (by omega)
               clear k1 k2 h1
               refine sh ?_
               refine gD 200 (fun k:Nat=>k<=a.eB.length/\a.eB.take k=b.eB.take k) (fun k=>⟨[(2,.loc 0 1 0 0),(3,.loc 1 1 0 0),(8,.int .i64 k)],[(0,.var (R.ty 59) a.row),(1,.var (R.ty 59) b.row)],2⟩) (fun k=>a.eB.length - k) (0) ?_ ?_
               ·exact⟨Nat.zero_le _,by simp⟩
               ·intro k hk
                obtain⟨k1,k2⟩:=hk
                dsimp only
                refine sh ?_
                refine cS (fun h1=> ?_) (fun h1=> ?_)
                ·obtain⟨x,hx⟩:∃u_,a.eB[k]? =some u_:=⟨_,List.getElem?_eq_getElem (by first|omega|(simp<;>omega))⟩
                 refine sh ?_
                 refine aa hx ?_
                 obtain⟨y,hy⟩:∃u_,b.eB[k]? =some u_:=⟨_,List.getElem?_eq_getElem (by first|omega|(simp<;>omega))⟩
                 refine sh ?_
                 refine aa hy ?_
                 refine sh ?_
                 refine cS (fun h2=> ?_) (fun h2=> ?_)
                 ·have hne:x≠y:=fun e=>by subst e; simp at h2
                  rw[iE fun e=>by subst e; exact fV hx hy hne rfl]
                  refine sh ?_
                  exact rT
                 ·have hxy:x=y:=by
                   obtain⟨k1',⟨a1,a2,a3⟩,⟨b1,b2,b3⟩,⟨d1,d2,d3⟩,⟨e1,e2,e3⟩⟩:=x; obtain⟨k2',⟨a1',a2',a3'⟩,⟨b1',b2',b3'⟩,⟨d1',d2',d3'⟩,⟨e1',e2',e3'⟩⟩:=y; simp at h2 ⊢; simp[h2]
                  subst hxy
                  refine sh ?_
                  refine kI (k+1) ?_ ?_
                  ·exact⟨by omega,fW k2 hx hy⟩
                  ·omega
                ·have m4:a.eB=b.eB:=kT k2 l4 (by omega)
                 clear k1 k2 h1
                 refine sh ?_
                 refine gD 200 (fun k:Nat=>k<=a.ids.length/\a.ids.take k=b.ids.take k) (fun k=>⟨[(2,.loc 0 1 0 0),(3,.loc 1 1 0 0),(9,.int .i64 k)],[(0,.var (R.ty 59) a.row),(1,.var (R.ty 59) b.row)],2⟩) (fun k=>a.ids.length - k) (0) ?_ ?_
                 ·exact⟨Nat.zero_le _,by simp⟩
                 ·intro k hk
                  obtain⟨k1,k2⟩:=hk
                  dsimp only
                  refine sh ?_
                  refine cS (fun h1=> ?_) (fun h1=> ?_)
                  ·obtain⟨x,hx⟩:∃u_,a.ids[k]? =some u_:=⟨_,List.getElem?_eq_getElem (by first|omega|(simp<;>omega))⟩
                   refine sh ?_
                   refine aa hx ?_
                   obtain⟨y,hy⟩:∃u_,b.ids[k]? =some u_:=⟨_,List.getElem?_eq_getElem (by first|omega|(simp<;>omega))⟩
                   refine sh ?_
                   refine aa hy ?_
                   refine sh ?_
                   refine cS (fun h2=> ?_) (fun h2=> ?_)
                   ·have hne:x≠y:=h2
                    rw[iE fun e=>by subst e; exact fV hx hy hne rfl]
                    refine sh ?_
                    exact rT
                   ·have hxy:x=y:=by simpa using h2
                    subst hxy
                    refine sh ?_
                    refine kI (k+1) ?_ ?_
                    ·exact⟨by omega,fW k2 hx hy⟩
                    ·omega
                  ·have m5:a.ids=b.ids:=kT k2 l5 (by omega)
                   clear k1 k2 h1
                   have last:seq a b=(decide (a.wS=b.wS)&&decide (a.fr=b.fr)&&decide (a.to=b.to)):=by
                    rw[Bool.eq_iff_iff]
                    simp only[seq,decide_eq_true_eq,Bool.and_eq_true]
                    constructor
                    ·intro e; subst e; exact⟨⟨rfl,rfl⟩,rfl⟩
                    ·rintro⟨⟨e1,e2⟩,e3⟩
                     obtain⟨x1,x2,x3,x4,x5,x6,x7,x8,x9⟩:=a
                     obtain⟨y1,y2,y3,y4,y5,y6,y7,y8,y9⟩:=b
                     dsimp only at m1 m2 m3 m4 m5 m6 e1 e2 e3
                     subst m1; subst m2; subst m3; subst m4; subst m5; subst m6; subst e1; subst e2; subst e3; rfl
                   rw[last]
                   refine sh ?_
                   refine cS (fun g8=> ?_) (fun g8=> ?_)
                   ·refine sh ?_
                    refine cS (fun g9=> ?_) (fun g9=> ?_)
                    ·refine sh ?_
                     refine rT ?_
                     refine be ?_
                     simp[g8,g9]
                     by_cases h9:a.to=b.to<;>simp[h9]
                    ·refine sh ?_
                     refine rT ?_
                     refine be ?_
                     simp[g8,g9]
                   ·refine sh ?_
                    refine rT ?_
                    refine be ?_
                    simp[g8]
end Go.UM
namespace Go.UM
open Go.AM
set_option maxRecDepth 4000
def ii.XC (t:ii):ii:=⟨t.side,t.t.take 260⟩
def ej.ju (s:ej):ej:=⟨s.cz.take 20,s.dD.take 10,(s.cG.take 5).map ii.XC,s.eB.take 10,s.ids.take 20,s.gH.take 20,s.wS,s.fr,s.to⟩
end Go.UM
namespace Go.UM
open Go.AM
set_option maxRecDepth 4000
end Go.UM
namespace Go.UM
open Go.AM
set_option maxRecDepth 4000
end Go.UM
namespace Go.UM
open Go.AM
set_option maxRecDepth 4000
end Go.UM
namespace Go.UM
open Go.AM
set_option maxRecDepth 4000
end Go.UM
namespace Go.UM
open Go.AM
set_option maxRecDepth 4000
def dC (f:Mf) (l:Int):Int:=if l<0\/ 8<=l then 0 else f.kf l.toNat
abbrev mkR (f:Mf):List AV:=[.int .u8 f.m0,.int .u8 f.m1,.int .u8 f.m2,.int .u8 f.m3,.int .u8 f.m4,.int .u8 f.m5,.int .u8 f.m6,.int .u8 f.m7]
theorem so {R:Env} (h:YT R) (f:Mf) (l:Int):R.Pc 11 [.agg (mkR f),.int .i64 l] (.int .u8 (dC f l)):=
 h.Vp.enter 60 rfl fun X b hfit hp=>by
  refine sh ?_
  refine cS (fun h1=> ?_) (fun h1=> ?_)
  ·refine sh ?_
   refine rT ?_
   refine be ?_
   simp[dC,h1]
  ·refine sh ?_
   refine cS (fun h2=> ?_) (fun h2=> ?_)
   ·refine sh ?_
    refine rT ?_
    refine be ?_
    have h2:8<=l:=by omega
    simp[dC,h2]
   ·refine st ?_
    obtain h3|h3|h3|h3|h3|h3|h3|h3:l=0\/ l=1\/ l=2\/ l=3\/ l=4\/ l=5\/ l=6\/ l=7:=by omega
    all_goals subst h3; intro _u; clear _u
    all_goals first|refine iH 0 rfl rfl ?_|refine iH 1 rfl rfl ?_|refine iH 2 rfl rfl ?_|refine iH 3 rfl rfl ?_|refine iH 4 rfl rfl ?_|refine iH 5 rfl rfl ?_|refine iH 6 rfl rfl ?_|refine iH 7 rfl rfl ?_
    all_goals
     refine sh ?_
     exact rT
theorem L7 {R:Env} (h:N12 R) (f:Mf) (l:Int):R.Pc 12 [.agg (mkR f),.int .i64 l] (.bool (dC f l != 0)):=
 h.o12.enter 60 rfl fun X b hfit hp=>by
  refine sh ?_
  refine ae.pure h.n11.Vp.hb (so h.n11 f l) rfl ?_
  refine sh ?_
  exact rT
def IM (a b:Int):Int:=eE .or .u32 a b
theorem IN {a:Int} (h:bf .u32 a):IM 0 a=a:=by
 have h:0<=a/\a<=4294967295:=h
 obtain⟨n,rfl⟩:∃n:Nat,a=n:=⟨a.toNat,by omega⟩
 have hn:n<2 ^ 32:=by omega
 show IntKind.wrap .u32 ((BitVec.ofInt 32 0||| BitVec.ofInt 32 (n:Int)).toNat:Int)=_
 have e1:(BitVec.ofInt 32 0||| BitVec.ofInt 32 (n:Int))=BitVec.ofNat 32 n:=by simp
 rw[e1,BitVec.toNat_ofNat,Nat.mod_eq_of_lt hn]
 show IntKind.wrap .u32 (n:Int)=_
 simp[IntKind.wrap,IntKind.bits,IntKind.signed]
 omega
theorem IP (a b:Int):bf .u32 (IM a b):=by
 have:((BitVec.ofInt 32 a||| BitVec.ofInt 32 b).toNat:Int)<4294967296:=by
  have:=(BitVec.ofInt 32 a||| BitVec.ofInt 32 b).isLt
  omega
 show 0<=IntKind.wrap .u32 ((BitVec.ofInt 32 a||| BitVec.ofInt 32 b).toNat:Int)/\IntKind.wrap .u32 ((BitVec.ofInt 32 a||| BitVec.ofInt 32 b).toNat:Int)<=4294967295
 generalize ((BitVec.ofInt 32 a||| BitVec.ofInt 32 b).toNat:Int)=z at this
 simp[IntKind.wrap,IntKind.bits,IntKind.signed]
 omega
theorem IQ {R:Env} (h:YS R) (x y:Int):R.Pc 17 [.int .u32 x,.int .u32 y] (.int .u32 (IM x y)):=
 h.o17.enter 60 rfl fun X b hfit hp=>by
  refine sh ?_
  exact rT
theorem IR {R:Env} (h:N16 R) (k:YS R) (a b:Int) (ha:bf .u32 a):R.Pc 16 [.int .u32 0,.aH 1 (bp .u32 [a,b]),.bR (.fn (R.ft 17)) []] (.int .u32 (IM a b)):=
 h.o16.enter 60 rfl fun X bb hfit hp=>by
  refine sh ?_
  refine ao.one 100 ?_
  refine sh ?_
  refine af (by rfl) ?_
  obtain⟨x,hx⟩:∃u_,[a,b][0]? =some u_:=⟨_,List.getElem?_eq_getElem (by first|omega|(simp<;>omega))⟩
  refine sh ?_
  refine aa hx ?_
  obtain rfl:x=a:=by simpa using hx.symm
  refine sh ?_
  refine ae.pure k.o17.hb (IQ k _ _) rfl ?_
  rw[IN ha]
  refine sh ?_
  refine ao.one 100 ?_
  refine sh ?_
  refine af (by rfl) ?_
  obtain⟨y,hy⟩:∃u_,[x,b][1]? =some u_:=⟨_,List.getElem?_eq_getElem (by first|omega|(simp<;>omega))⟩
  refine sh ?_
  refine aa hy ?_
  obtain rfl:y=b:=by simpa using hy.symm
  refine sh ?_
  refine ae.pure k.o17.hb (IQ k _ _) rfl ?_
  refine sh ?_
  refine ao.one 100 ?_
  refine sh ?_
  refine aw (by rfl) ?_
  refine sh ?_
  exact rT
theorem L8 {R:Env} (h:N4 R) (a b:Int) (ha:bf .u32 a):R.Pc 4 [.aH 1 (bp .u32 [a,b])] (.int .u32 (IM a b)):=
 h.o4.enter 60 rfl fun X bb hfit hp=>by
  refine sh ?_
  refine ae.pure h.n16.o16.hb (IR h.n16 h.n17 a b ha) rfl ?_
  refine sh ?_
  exact rT
theorem IS {R:Env} (h:YU R) (a b:Int) (m:Mf):R.Pc 19 [.agg [.int .u32 a,.int .u32 b],.agg m.row] (.agg [.int .u32 (max a m.first),.int .u32 (min b m.last)]):=
 h.o19.enter 60 rfl fun X bb hfit hp=>by
  refine sh ?_
  exact rT
theorem IT {R:Env} (h:N18 R) (k:YU R) (a b:Int) (m:Mf):R.Pc 18 [.agg [.int .u32 a,.int .u32 b],.aH 15 [m.row],.bR (.fn (R.ft 19)) []] (.agg [.int .u32 (max a m.first),.int .u32 (min b m.last)]):=
 h.o18.enter 60 rfl fun X bb hfit hp=>by
  refine sh ?_
  refine ao.one 100 ?_
  refine sh ?_
  refine af (by rfl) ?_
  refine sh ?_
  refine aa (f:=Mf.row) (l:=[m]) (i:=0) rfl ?_
  refine sh ?_
  refine ae.pure k.o19.hb (IS k a b m) rfl ?_
  refine sh ?_
  refine ao.one 100 ?_
  refine sh ?_
  refine aw (by rfl) ?_
  refine sh ?_
  exact rT
theorem IU {R:Env} (h:N14 R) (a b:Int) (m:Mf):R.Pc 14 [.int .u32 a,.int .u32 b,.aH 15 [m.row]] (.aN [.int .u32 (max a m.first),.int .u32 (min b m.last)]):=
 h.o14.enter 60 rfl fun X bb hfit hp=>by
  refine sh ?_
  refine ae.pure h.n18.o18.hb (IT h.n18 h.n19 a b m) rfl ?_
  refine sh ?_
  exact rT
end Go.UM
namespace Go.UM
open Go.AM
set_option maxRecDepth 4000
structure jz where
 s:ej
 ms:List Rw
 pl:List (Int × Int)
 ks:List (Int × Int)
def ej.rA:ej:=⟨[],[],[],[],[],[],0,0,4294967295⟩
def jz.rA:jz:=⟨ej.rA,[],[],[]⟩
def dK (s:ej) (r:Rw):ej:=⟨s.cz,if r.a.k=3 then s.dD++ [r.a.mt]else s.dD,if r.a.k=2 then s.cG++ [r.a.x]else s.cG,if r.a.k=4 then s.eB++ [r.a.li]else s.eB,s.ids++ [r.f.id],s.gH++ [r.f.label],IM s.wS r.f.label,max s.fr r.f.first,min s.to r.f.last⟩
def qB (lay:Int) (z:jz) (r:Rw):jz:=if dC r.f lay=0 then z else
 ⟨dK z.s r,if r.a.k=1 then z.ms++ [r]else z.ms,z.pl++ [(r.h,(z.s.ids.length:Int))],if r.a.k=3 then z.ks++ [(r.h,(z.s.dD.length:Int))]else if r.a.k=2 then z.ks++ [(r.h,(z.s.cG.length:Int))]else z.ks⟩
def iF (lay:Int) (l:List Rw):jz:=l.foldl (qB lay) jz.rA
theorem wT (lay:Int) (l:List Rw) (r:Rw):iF lay (l++ [r])=qB lay (iF lay l) r:=by simp[iF]
theorem mH {P:List Rw->jz->Prop} (lay:Int) (h0:P [] jz.rA) (hs:∀l z r,P l z->P (l++ [r]) (qB lay z r)) (l:List Rw):P l (iF lay l):=by
 have:∀n,∀l:List Rw,l.length=n->P l (iF lay l):=by
  intro n
  induction n with
  |zero=>intro l hl; rw[List.eq_nil_of_length_eq_zero hl]; exact h0
  |succ n ih=>
   intro l hl
   obtain⟨m,r,rfl⟩:∃m r,l=m++ [r]:=⟨l.dropLast,l.getLast (by intro e; simp[e]at hl),(List.dropLast_concat_getLast _).symm⟩
   rw[wT]
   exact hs m _ r (ih m (by simpa using hl))
 exact this _ l rfl
structure XD (n:Nat) (z:jz):Prop where
 t:z.s.cz=[]
 m:z.s.dD.length<=n
 x:z.s.cG.length<=n
 l:z.s.eB.length<=n
 i:z.s.ids.length<=n
 b:z.s.gH.length<=n
 c:bf .u32 z.s.wS
 ms:z.ms.length<=n
 pl:z.pl.length<=n
 ks:z.ks.length<=n
theorem Dl (lay:Int) (l:List Rw):XD l.length (iF lay l):=by
 refine mH (P:=fun l z=>XD l.length z) lay ⟨rfl,Nat.le_refl _,Nat.le_refl _,Nat.le_refl _,Nat.le_refl _,Nat.le_refl _,⟨by decide,by decide⟩,Nat.le_refl _,Nat.le_refl _,Nat.le_refl _⟩ (fun l z r h=> ?_) l
 obtain⟨h0,h1,h2,h3,h4,h5,h6,h7,h8,h9⟩:=h
 have e:(l++ [r]).length=l.length+1:=by simp
 rw[e]
 unfold qB dK
 split
 ·exact⟨h0,by omega,by omega,by omega,by omega,by omega,h6,by omega,by omega,by omega⟩
 ·refine⟨h0,?_,?_,?_,?_,?_,IP _ _,?_,?_,?_⟩<;>dsimp only<;>repeat' split
  all_goals (try simp only[List.length_append,List.length_singleton]); omega
theorem IV (lay:Int) (l:List Rw):(∀q ∈ (iF lay l).ms,q ∈ l)/\(∀q ∈ (iF lay l).pl,∃r ∈ l,r.h=q.1)/\(∀q ∈ (iF lay l).ks,∃r ∈ l,r.h=q.1):=by
 refine mH (P:=fun l z=>(∀q ∈ z.ms,q ∈ l)/\(∀q ∈ z.pl,∃r ∈ l,r.h=q.1)/\(∀q ∈ z.ks,∃r ∈ l,r.h=q.1)) lay (by simp[jz.rA]) (fun l z r h=> ?_) l
 obtain⟨h1,h2,h3⟩:=h
 have up:∀ {q:Int × Int},(∃r ∈ l,r.h=q.1)->∃x ∈ l++ [r],x.h=q.1:=fun⟨x,hx,e⟩=>⟨x,by simp[hx],e⟩
 have top:∀ {q:Int × Int},q.1=r.h->∃x ∈ l++ [r],x.h=q.1:=fun e=>⟨r,by simp,e.symm⟩
 unfold qB
 split
 ·exact⟨fun q hq=>by simp[h1 q hq],fun q hq=>up (h2 q hq),fun q hq=>up (h3 q hq)⟩
 ·refine⟨fun q hq=> ?_,fun q hq=> ?_,fun q hq=> ?_⟩
  ·dsimp only at hq
   split at hq
   ·rcases List.mem_append.1 hq with k|k
    ·simp[h1 q k]
    ·simp at k; simp[k]
   ·simp[h1 q hq]
  ·rcases List.mem_append.1 hq with k|k
   ·exact up (h2 q k)
   ·simp at k; exact top (by rw[k])
  ·dsimp only at hq
   split at hq
   ·rcases List.mem_append.1 hq with k|k
    ·exact up (h3 q k)
    ·simp at k; exact top (by rw[k])
   ·split at hq
    ·rcases List.mem_append.1 hq with k|k
     ·exact up (h3 q k)
     ·simp at k; exact top (by rw[k])
    ·exact up (h3 q hq)
def eC (l:List (Int × Int)) (h:Int):Option Int:=(l.find? fun q=>q.1==h).map (·.2)
theorem abV {h:Int} {l:List (Int × Int)}:∀e ∈ cW l,dR [.i] [.int .i64 h] e=true:=by
 intro e he
 obtain⟨r,_,rfl⟩:=List.mem_map.1 he
 rfl
theorem Cc (h:Int):∀l:List (Int × Int),∃i:Nat,bL [.int .i64 h] (cW l)=(eC l h).map fun v=>(i,[.int .i64 v])
 |[]=>⟨0,rfl⟩
 |r::l=>by
  obtain⟨i,hi⟩:=Cc h l
  have e:kX [.int .i64 h] (p2 r)=(r.1==h):=by
   show ((h==r.1)&&true)=_
   rw[Bool.and_true]; exact Bool.beq_comm
  by_cases hh:(r.1==h)=true
  ·refine⟨0,?_⟩
   show (if kX [.int .i64 h] (p2 r)then some (0,(p2 r).drop 1)else _)=_
   rw[e,if_pos hh]; simp only[eC,List.find?_cons,hh]; rfl
  ·refine⟨i+1,?_⟩
   show (if kX [.int .i64 h] (p2 r)then some (0,(p2 r).drop 1)else (bL [.int .i64 h] (cW l)).map fun q=>(q.1+1,q.2))=_
   rw[e,if_neg hh,hi]; simp only[eC,List.find?_cons,hh]
   cases List.find? (fun q=>q.1==h) l<;>rfl
theorem AA {h:Int} {l:List (Int × Int)} {K:Option (Nat × List AV)->Prop} (k:∀i:Nat,K ((eC l h).map fun v=>(i,[.int .i64 v]))):Jn [.i] [.int .i64 h] (cW l) K:=by
 obtain⟨i,hi⟩:=Cc h l
 exact⟨abV,by rw[hi]; exact k i⟩
theorem wU {l:List (Int × Int)} {h:Int} (hn:∀q ∈ l,q.1≠h):eC l h=none:=by
 unfold eC
 rw[List.find?_eq_none.2 fun q hq=>by simpa using hn q hq]; rfl
theorem AB {l:List Rw} {h:Int} (hn:∀q ∈ l,q.h≠h):aO l h=none:=by
 unfold aO
 exact List.find?_eq_none.2 fun q hq=>by simpa using hn q hq
abbrev Cd (R:Env) (z:jz):ah:=[(0,.var (R.ty 61) [.bc 4 z.s.cz.length,.bc 5 z.s.dD.length,.bc 6 z.s.cG.length,.bc 7 z.s.eB.length,.bc 8 z.s.ids.length,.bc 9 z.s.gH.length,.int .u32 z.s.wS,.int .u32 z.s.fr,.int .u32 z.s.to,.omap 1,.omap 2,.omap 3]),
 (1,.map 1 false true true 41 (iq z.ms)),(2,.map 1 false false true 2 (cW z.pl)),(3,.map 1 false false true 2 (cW z.ks)),
 (4,.arr (R.ty 60) 19 (uI z.s.cz)),(5,.arr (R.ty 40) 5 (kQ z.s.dD)),(6,.arr (R.ty 12) 2 (kS z.s.cG)),(7,.arr (R.ty 41) 13 (kR z.s.eB)),(8,.arr (R.ty 6) 1 (bp .u64 z.s.ids)),(9,.arr (R.ty 0) 1 (bp .u32 z.s.gH))]
abbrev Nr (R:Env):ah:=[(0,.var (R.ty 61) [.ai,.ai,.ai,.ai,.ai,.ai,.int .u32 0,.int .u32 0,.int .u32 0,.omap 1,.omap 2,.omap 3]),
 (1,.map 1 false true true 41 []),(2,.map 1 false false true 2 []),(3,.map 1 false false true 2 [])]
set_option maxHeartbeats 8000000 in
theorem L9 {R:Env} (h:PR R) (L:List Rw) (lay:Int) (hl:L.length<=1000000) (asc:L.Pairwise fun a b=>a.h<b.h):
  R.Mc 505 [.loc 0 1 0 0,.aH 40 (iM L),.int .i64 lay] (Nr R) (.aN []) (Cd R (iF lay L)) 10:=
 h.abl.bC 200 4 rfl rfl rfl fun X bb hfit hp=>by
  unfold Nr
  refine sh ?_
  refine gD 200 (fun i:Nat=>i<=L.length) (fun i=>⟨[(0,.loc 0 1 0 0),(2,.int .i64 lay),(12,.aH 40 (iM L)),(13,.int .i64 L.length),(14,.int .i64 i)],Cd R (iF lay (L.take i)),10⟩) (fun i=>L.length - i) (0) ?_ ?_
  ·exact Nat.zero_le _
  ·intro i hi
   dsimp only
   have B:=Dl lay (L.take i)
   have Kx:=IV lay (L.take i)
   have ht:(L.take i).length=i:=by rw[List.length_take]; omega
   rw[ht]at B
   refine sh ?_
   refine cS (fun h1=> ?_) (fun h1=> ?_)
   ·obtain⟨r,hr⟩:∃u_,L[i]? =some u_:=⟨_,List.getElem?_eq_getElem (by first|omega|(simp<;>omega))⟩
    refine sh ?_
    refine aa hr ?_
    have e2:iF lay (L.take (i+1))=qB lay (iF lay (L.take i)) r:=by rw[ar hr,wT]
    have lt:∀q ∈ L.take i,q.h≠r.h:=fun q hq=>by
     obtain⟨j,hj,rfl⟩:=List.getElem_of_mem hq
     rw[List.getElem_take]
     obtain⟨a1,rfl⟩:=List.getElem?_eq_some_iff.1 hr
     have:=List.pairwise_iff_getElem.1 asc j i (by omega) a1 (by omega)
     omega
    obtain⟨z,hz⟩:∃z,iF lay (L.take i)=z:=⟨_,rfl⟩
    rw[hz]at e2 B Kx ⊢
    obtain⟨b0,b1,b2,b3,b4,b5,b6,b7,b8,b9⟩:=B
    obtain⟨k1,k2,k3⟩:=Kx
    have g1:aO z.ms r.h=none:=AB fun q hq=>lt q (k1 q hq)
    have g2:eC z.pl r.h=none:=wU fun q hq=>by obtain⟨x,hx,e⟩:=k2 q hq; rw[<-e]; exact lt x hx
    have g3:eC z.ks r.h=none:=wU fun q hq=>by obtain⟨x,hx,e⟩:=k3 q hq; rw[<-e]; exact lt x hx
    unfold qB at e2
    refine sh ?_
    refine ae.pure h.n12.o12.hb (L7 h.n12 r.f lay) rfl ?_
    by_cases hb:dC r.f lay=0
    ·refine sh ?_
     refine af (by simp[hb]) ?_
     rw[if_pos hb]at e2
     refine sh ?_
     refine nX (i+1) ?_ ?_ ⟨_,hp,rfl⟩ ?_ ?_
     ·omega
     ·omega
     ·exact iV
      all_goals (rw[e2]; done)
     ·all_goals repeat' (first|exact True.intro|refine And.intro ?_ ?_|(intro _u; clear _u)|(with_reducible first|exact fY.fg|refine eM ?_ ?_|refine eF ?_ ?_ ?_|refine eN ?_|refine eL ?_ ?_ ?_|refine eA ?_ ?_|refine oB.mk ⟨_,hp,rfl⟩ ?_ ?_)|refine oB.mk ⟨_,hp,rfl⟩ ?_ ?_)
      all_goals try first|with_reducible rfl|omega|exact .inl (by decide)|(simp; done)|rfl
      all_goals (rw[e2]; done)
    ·refine sh ?_
     refine aw (by simp[hb]) ?_
     rw[if_neg hb]at e2
     refine sh ?_
     refine AA fun j=> ?_
     rw[g2]
     dsimp only[Option.map_none]
     refine sh ?_
     refine cM true [] ((L8 h.n4 z.s.wS r.f.label b6).mc h.n4.o4.hb) ?_
     repeat (intro _; first|refine eK ?_|refine eP ?_)
     refine sh ?_
     refine cM true [] ((IU h.n14 z.s.fr z.s.to r.f).mc h.n14.o14.hb) ?_
     repeat (intro _; first|refine eK ?_|refine eP ?_)
     refine sh ?_
     refine cS (fun q1=> ?_) (fun q1=> ?_)
     ·have e3:iF lay (L.take (i+1))=⟨dK z.s r,z.ms++ [r],z.pl++ [(r.h,(z.s.ids.length:Int))],z.ks⟩:=by rw[e2]; simp[q1]
      have e4:dK z.s r=⟨z.s.cz,z.s.dD,z.s.cG,z.s.eB,z.s.ids++ [r.f.id],z.s.gH++ [r.f.label],IM z.s.wS r.f.label,max z.s.fr r.f.first,min z.s.to r.f.last⟩:=by unfold dK; simp[q1]
      rw[e4]at e3
      refine sh ?_
      refine oE fun j=> ?_
      rw[g1]
      dsimp only[Option.map_none]
      refine sh ?_
      refine nX (i+1) ?_ ?_ ⟨_,hp,rfl⟩ ?_ ?_
      ·omega
      ·omega
      ·exact iV
      ·all_goals repeat' (first|exact True.intro|refine And.intro ?_ ?_|(intro _u; clear _u)|(with_reducible first|exact fY.fg|refine eM ?_ ?_|refine eF ?_ ?_ ?_|refine eN ?_|refine eL ?_ ?_ ?_|refine eA ?_ ?_|refine oB.mk ⟨_,hp,rfl⟩ ?_ ?_)|refine oB.mk ⟨_,hp,rfl⟩ ?_ ?_)
       all_goals try first|with_reducible rfl|omega|exact .inl (by decide)|(simp; done)|rfl
       all_goals first|(rw[e3]; done)|(rw[e3]; simp[bp,cW,p2,iq,vt,Rw.row,kQ,kS,kR,jD.row,ii.row,jw.row]; done)
     ·refine sh ?_
      refine cS (fun q3=> ?_) (fun q3=> ?_)
      ·have e3:iF lay (L.take (i+1))=⟨dK z.s r,z.ms,z.pl++ [(r.h,(z.s.ids.length:Int))],z.ks++ [(r.h,(z.s.dD.length:Int))]⟩:=by rw[e2]; simp[q3]
       have e4:dK z.s r=⟨z.s.cz,z.s.dD++ [r.a.mt],z.s.cG,z.s.eB,z.s.ids++ [r.f.id],z.s.gH++ [r.f.label],IM z.s.wS r.f.label,max z.s.fr r.f.first,min z.s.to r.f.last⟩:=by unfold dK; simp[q3]
       rw[e4]at e3
       refine sh ?_
       refine AA fun j=> ?_
       rw[g3]
       dsimp only[Option.map_none]
       refine sh ?_
       refine nX (i+1) ?_ ?_ ⟨_,hp,rfl⟩ ?_ ?_
       ·omega
       ·omega
       ·exact iV
       ·all_goals repeat' (first|exact True.intro|refine And.intro ?_ ?_|(intro _u; clear _u)|(with_reducible first|exact fY.fg|refine eM ?_ ?_|refine eF ?_ ?_ ?_|refine eN ?_|refine eL ?_ ?_ ?_|refine eA ?_ ?_|refine oB.mk ⟨_,hp,rfl⟩ ?_ ?_)|refine oB.mk ⟨_,hp,rfl⟩ ?_ ?_)
        all_goals try first|with_reducible rfl|omega|exact .inl (by decide)|(simp; done)|rfl
        all_goals first|(rw[e3]; done)|(rw[e3]; simp[bp,cW,p2,iq,vt,Rw.row,kQ,kS,kR,jD.row,ii.row,jw.row]; done)
      ·refine sh ?_
       refine cS (fun q2=> ?_) (fun q2=> ?_)
       ·have e3:iF lay (L.take (i+1))=⟨dK z.s r,z.ms,z.pl++ [(r.h,(z.s.ids.length:Int))],z.ks++ [(r.h,(z.s.cG.length:Int))]⟩:=by rw[e2]; simp[q2]
        have e4:dK z.s r=⟨z.s.cz,z.s.dD,z.s.cG++ [r.a.x],z.s.eB,z.s.ids++ [r.f.id],z.s.gH++ [r.f.label],IM z.s.wS r.f.label,max z.s.fr r.f.first,min z.s.to r.f.last⟩:=by unfold dK; simp[q2]
        rw[e4]at e3
        refine sh ?_
        refine AA fun j=> ?_
        rw[g3]
        dsimp only[Option.map_none]
        refine sh ?_
        refine nX (i+1) ?_ ?_ ⟨_,hp,rfl⟩ ?_ ?_
        ·omega
        ·omega
        ·exact iV
        ·all_goals repeat' (first|exact True.intro|refine And.intro ?_ ?_|(intro _u; clear _u)|(with_reducible first|exact fY.fg|refine eM ?_ ?_|refine eF ?_ ?_ ?_|refine eN ?_|refine eL ?_ ?_ ?_|refine eA ?_ ?_|refine oB.mk ⟨_,hp,rfl⟩ ?_ ?_)|refine oB.mk ⟨_,hp,rfl⟩ ?_ ?_)
         all_goals try first|with_reducible rfl|omega|exact .inl (by decide)|(simp; done)|rfl
         all_goals first|(rw[e3]; done)|(rw[e3]; simp[bp,cW,p2,iq,vt,Rw.row,kQ,kS,kR,jD.row,ii.row,jw.row]; done)
       ·have e3:iF lay (L.take (i+1))=⟨dK z.s r,z.ms,z.pl++ [(r.h,(z.s.ids.length:Int))],z.ks⟩:=by rw[e2]; simp[q1,q2,q3]
        refine sh ?_
        refine cS (fun q4=> ?_) (fun q4=> ?_)
        ·have e4:dK z.s r=⟨z.s.cz,z.s.dD,z.s.cG,z.s.eB++ [r.a.li],z.s.ids++ [r.f.id],z.s.gH++ [r.f.label],IM z.s.wS r.f.label,max z.s.fr r.f.first,min z.s.to r.f.last⟩:=by unfold dK; simp[q4]
         rw[e4]at e3
         refine sh ?_
         refine nX (i+1) ?_ ?_ ⟨_,hp,rfl⟩ ?_ ?_
         ·omega
         ·omega
         ·exact iV
         ·all_goals repeat' (first|exact True.intro|refine And.intro ?_ ?_|(intro _u; clear _u)|(with_reducible first|exact fY.fg|refine eM ?_ ?_|refine eF ?_ ?_ ?_|refine eN ?_|refine eL ?_ ?_ ?_|refine eA ?_ ?_|refine oB.mk ⟨_,hp,rfl⟩ ?_ ?_)|refine oB.mk ⟨_,hp,rfl⟩ ?_ ?_)
          all_goals try first|with_reducible rfl|omega|exact .inl (by decide)|(simp; done)|rfl
          all_goals first|(rw[e3]; done)|(rw[e3]; simp[bp,cW,p2,iq,vt,Rw.row,kQ,kS,kR,jD.row,ii.row,jw.row]; done)
        ·have e4:dK z.s r=⟨z.s.cz,z.s.dD,z.s.cG,z.s.eB,z.s.ids++ [r.f.id],z.s.gH++ [r.f.label],IM z.s.wS r.f.label,max z.s.fr r.f.first,min z.s.to r.f.last⟩:=by unfold dK; simp[q2,q3,q4]
         rw[e4]at e3
         refine sh ?_
         refine nX (i+1) ?_ ?_ ⟨_,hp,rfl⟩ ?_ ?_
         ·omega
         ·omega
         ·exact iV
         ·all_goals repeat' (first|exact True.intro|refine And.intro ?_ ?_|(intro _u; clear _u)|(with_reducible first|exact fY.fg|refine eM ?_ ?_|refine eF ?_ ?_ ?_|refine eN ?_|refine eL ?_ ?_ ?_|refine eA ?_ ?_|refine oB.mk ⟨_,hp,rfl⟩ ?_ ?_)|refine oB.mk ⟨_,hp,rfl⟩ ?_ ?_)
          all_goals try first|with_reducible rfl|omega|exact .inl (by decide)|(simp; done)|rfl
          all_goals first|(rw[e3]; done)|(rw[e3]; simp[bp,cW,p2,iq,vt,Rw.row,kQ,kS,kR,jD.row,ii.row,jw.row]; done)
   ·rw[List.take_of_length_le (by omega)]
    refine sh ?_
    exact rM [0,1,2,3,4,5,6,7,8,9]
end Go.UM
namespace Go.UM
open Go.AM
set_option maxRecDepth 4000
def XE (l:List T3) (i:Int):T3:=l.getD i.toNat ⟨0,0,0⟩
def FU (l:List (Int × Int)) (i:Int):Int × Int:=l.getD i.toNat (0,0)
def kU (x:Af) (m:Ms) (df cb obj kf:Int) (c:T3):sm:=
 ⟨(bW x (XE m.v c.a)).1,(bW x (XE m.v c.b)).1,(bW x (XE m.v c.c)).1,(FU m.uv c.a).1,(FU m.uv c.a).2,(FU m.uv c.b).1,(FU m.uv c.b).2,(FU m.uv c.c).1,(FU m.uv c.c).2,df,cb,obj,kf⟩
def ej.add (s:ej) (l:List sm):ej:=⟨s.cz++l,s.dD,s.cG,s.eB,s.ids,s.gH,s.wS,s.fr,s.to⟩
def jz.add (z:jz) (l:List sm):jz:=⟨z.s.add l,z.ms,z.pl,z.ks⟩
def uJ (z:jz) (k:In):Option Int:=if k.cb=0 then some (-1)else eC z.ks k.cb
def iP (lay:Int) (z:jz) (k:In):jz:=match aO z.ms k.aQ,eC z.ks k.df,uJ z k with
 |some r,some m,some t=>z.add (r.a.m.t.map (kU k.t r.a.m m t ((eC z.pl k.aQ).getD 0) (dC r.f lay)))
 |_,_,_=>z
theorem XF {l:List (Int × Int)} (h:∀q ∈ l,bf .i64 q.1/\bf .i64 q.2):∀r ∈ cW l,jF r=true:=by
 intro r hr
 obtain⟨q,hq,rfl⟩:=List.mem_map.1 hr
 have:=h q hq
 simp[p2,jF]
theorem XG (l:List (Int × Int)) (h:Int):DD (bL [.int .i64 h] (cW l))= .int .i64 ((eC l h).getD 0):=by
 obtain⟨i,hi⟩:=Cc h l
 rw[hi]
 cases eC l h<;>rfl
theorem gB {l:List T3} {i:Int} {v:T3} (h:l[i.toNat]? =some v):XE l i=v:=by rw[XE,List.getD_eq_getElem?_getD,h]; rfl
theorem fq {l:List (Int × Int)} {i:Int} {v:Int × Int} (h:l[i.toNat]? =some v):FU l i=v:=by rw[FU,List.getD_eq_getElem?_getD,h]; rfl
theorem add_succ {z:jz} {l:List sm} {j:Nat} {c:sm} (h:l[j]? =some c):(z.add (l.take (j+1))).s.cz=(z.add (l.take j)).s.cz++ [c]:=by
 rw[ar h]
 simp[jz.add,ej.add]
theorem qC {lay:Int} {z:jz} {k:In} (h:aO z.ms k.aQ=none\/ eC z.ks k.df=none\/ uJ z k=none):iP lay z k=z:=by
 unfold iP
 rcases h with h|h|h
 ·rw[h]
 ·rw[h]; cases aO z.ms k.aQ<;>rfl
 ·rw[h]; cases aO z.ms k.aQ<;>cases eC z.ks k.df<;>rfl
theorem uK {lay:Int} {z:jz} {k:In} {r:Rw} {m t:Int} (h1:aO z.ms k.aQ=some r) (h2:eC z.ks k.df=some m) (h3:uJ z k=some t):
  iP lay z k=z.add (r.a.m.t.map (kU k.t r.a.m m t ((eC z.pl k.aQ).getD 0) (dC r.f lay))):=by
 unfold iP
 rw[h1,h2,h3]
set_option maxHeartbeats 8000000 in
theorem Ma {R:Env} (h:PU R) (z:jz) (k:In) (lay:Int) (ok:∀r ∈ z.ms,r.a.k=1/\fK r) (hx:k.t.I) (ht:z.s.cz.length<=1000000) (MD:∀q ∈ z.pl,bf .i64 q.1/\bf .i64 q.2):
  R.Mc 506 [.loc 0 1 0 0,.agg k.row,.int .i64 lay] (Cd R z) (.aN []) (Cd R (iP lay z k)) 10:=
 h.abm.bC 200 10 rfl rfl rfl fun X bb hfit hp=>by
  have Rq:=XF MD
  have Rr:=XG z.pl k.aQ
  refine sh ?_
  refine oE fun i1=> ?_
  cases hr:aO z.ms k.aQ with
  |none=>
   have hsk:iP lay z k=z:=qC (.inl hr)
   dsimp only[Option.map_none]
   refine sh ?_
   refine AA fun i2=> ?_
   cases hm:eC z.ks k.df
   all_goals
    dsimp only[Option.map_none,Option.map_some]
    refine sh ?_
    refine AA fun i3=> ?_
    cases ht:eC z.ks k.cb
    all_goals
     dsimp only[Option.map_none,Option.map_some]
     refine sh ?_
     refine cS (fun k0=> ?_) (fun k0=> ?_)
     ·rw[hsk]
      refine sh ?_
      exact rM [0,1,2,3,4,5,6,7,8,9]
     ·rw[hsk]
      refine sh ?_
      exact rM [0,1,2,3,4,5,6,7,8,9]
  |some r=>
   dsimp only[Option.map_some]
   refine sh ?_
   refine AA fun i2=> ?_
   cases hm:eC z.ks k.df with
   |none=>
    have hsk:iP lay z k=z:=qC (.inr (.inl hm))
    dsimp only[Option.map_none]
    refine sh ?_
    refine AA fun i3=> ?_
    cases ht:eC z.ks k.cb
    all_goals
     dsimp only[Option.map_none,Option.map_some]
     refine sh ?_
     refine cS (fun k0=> ?_) (fun k0=> ?_)
     ·rw[hsk]
      refine sh ?_
      exact rM [0,1,2,3,4,5,6,7,8,9]
     ·rw[hsk]
      refine sh ?_
      exact rM [0,1,2,3,4,5,6,7,8,9]
   |some m=>
    dsimp only[Option.map_some]
    refine sh ?_
    refine AA fun i3=> ?_
    cases htx:eC z.ks k.cb with
    |none=>
     dsimp only[Option.map_none]
     refine sh ?_
     refine cS (fun k0=> ?_) (fun k0=> ?_)
     ·obtain⟨t,Y8⟩:∃t:Int,-1=t:=⟨_,rfl⟩
      have et:uJ z k=some t:=by rw[uJ,if_pos k0,Y8]
      rw[uK hr hm et]
      have rk:=ok r (bZ hr).1
      have rm:=jt (by have:=(dG rk.2.a).1; rw[own,if_pos rk.1]at this; exact this)
      have IW:∀v ∈ r.a.m.v,v.I:=fun v hv=>by
       have:=rm.pv v hv
       exact⟨by simp only[bf]; omega,by simp only[bf]; omega,by simp only[bf]; omega⟩
      obtain⟨ob,Ns⟩:∃ob,(eC z.pl k.aQ).getD 0=ob:=⟨_,rfl⟩
      rw[Ns]
      obtain⟨g,hg⟩:∃g,kU k.t r.a.m m t ob (dC r.f lay)=g:=⟨_,rfl⟩
      rw[hg]
      obtain⟨T,hT⟩:∃T,r.a.m.t.map g=T:=⟨_,rfl⟩
      have hTl:T.length=r.a.m.t.length:=by rw[<-hT,List.length_map]
      rw[hT]
      refine sh ?_
      refine ao.inv 200 (fun j:Nat=>j<=r.a.m.t.length) (fun j=>⟨[(0,.loc 0 1 0 0),(2,.int .i64 lay),(4,.loc 10 1 0 0),(6,.loc 11 1 0 0),(8,.int .i64 m),(10,.int .i64 t),(12,.loc 12 1 0 0),(65,.aH 3 (bJ r.a.m.t)),(66,.int .i64 r.a.m.t.length),(67,.int .i64 j)],Cd R (z.add (T.take j))++ [(10,.var (R.ty 44) k.row),(11,.var (R.ty 45) r.row),(12,.var (R.ty 25) r.a.m.row)],13⟩) (fun j=>r.a.m.t.length - j) (0) ?_ ⟨⟨_,hp,rfl⟩,?_,?_⟩ ?_
      ·exact Nat.zero_le _
      ·exact iV
       all_goals (simp[jz.add,ej.add]; done)
      ·refine pC ?_ ?_
       all_goals (simp[jz.add,ej.add]; done)
      ·intro j hj
       dsimp only
       refine sh ?_
       refine cS (fun h1=> ?_) (fun h1=> ?_)
       ·obtain⟨c,hc⟩:∃u_,r.a.m.t[j]? =some u_:=⟨_,List.getElem?_eq_getElem (by first|omega|(simp<;>omega))⟩
        refine sh ?_
        refine aa hc ?_
        have uV:=rm.pt c (List.mem_of_getElem? hc)
        have huv:=rm.uv
        have FL:=rm.t.2
        have hlen:(z.add (T.take j)).s.cz.length<=1000064:=by
         have:=rm.t.2
         simp[jz.add,ej.add]; omega
        refine sh ?_
        refine afv Rq (Rr.trans (by rw[Ns])) ?_
        refine sh ?_
        refine ae.pure h.n11.Vp.hb (so h.n11 r.f lay) rfl ?_
        refine sh ?_
        refine ao.one 200 ?_
        refine sh ?_
        refine af (by rfl) ?_
        obtain⟨va,uS⟩:∃u_,r.a.m.v[c.a.toNat]? =some u_:=⟨_,List.getElem?_eq_getElem (by omega)⟩
        obtain⟨ua,Nt⟩:∃u_,r.a.m.uv[c.a.toNat]? =some u_:=⟨_,List.getElem?_eq_getElem (by omega)⟩
        refine sh ?_
        refine aa uS ?_
        refine sh ?_
        refine ae.pure h.n241.tU.hb (fh h.n241 hx (IW va (List.mem_of_getElem? uS))) rfl ?_
        refine sh ?_
        refine aa Nt ?_
        refine sh ?_
        refine ao.one 200 ?_
        refine sh ?_
        refine af (by rfl) ?_
        obtain⟨vb,IX⟩:∃u_,r.a.m.v[c.b.toNat]? =some u_:=⟨_,List.getElem?_eq_getElem (by omega)⟩
        obtain⟨ub,Nu⟩:∃u_,r.a.m.uv[c.b.toNat]? =some u_:=⟨_,List.getElem?_eq_getElem (by omega)⟩
        refine sh ?_
        refine aa IX ?_
        refine sh ?_
        refine ae.pure h.n241.tU.hb (fh h.n241 hx (IW vb (List.mem_of_getElem? IX))) rfl ?_
        refine sh ?_
        refine aa Nu ?_
        refine sh ?_
        refine ao.one 200 ?_
        refine sh ?_
        refine af (by rfl) ?_
        obtain⟨vc,IY⟩:∃u_,r.a.m.v[c.c.toNat]? =some u_:=⟨_,List.getElem?_eq_getElem (by omega)⟩
        obtain⟨uc,Nv⟩:∃u_,r.a.m.uv[c.c.toNat]? =some u_:=⟨_,List.getElem?_eq_getElem (by omega)⟩
        refine sh ?_
        refine aa IY ?_
        refine sh ?_
        refine ae.pure h.n241.tU.hb (fh h.n241 hx (IW vc (List.mem_of_getElem? IY))) rfl ?_
        refine sh ?_
        refine aa Nv ?_
        refine sh ?_
        refine ao.one 200 ?_
        refine sh ?_
        refine aw (by rfl) ?_
        have e3:(kU k.t r.a.m m t ob (dC r.f lay) c)=⟨(bW k.t va).1,(bW k.t vb).1,(bW k.t vc).1,ua.1,ua.2,ub.1,ub.2,uc.1,uc.2,m,t,ob,dC r.f lay⟩:=by
         simp only[kU,gB uS,gB IX,gB IY,fq Nt,fq Nu,fq Nv]
        rw[hg]at e3
        have Nw:T[j]? =some (g c):=by rw[<-hT,List.getElem?_map,hc]; rfl
        refine sh ?_
        refine nX (j+1) ?_ ?_ ⟨_,hp,rfl⟩ ?_ ?_
        ·omega
        ·omega
        ·exact iV
         all_goals (rw[add_succ Nw]; simp; done)
        ·refine pC ?_ ?_
         all_goals (rw[add_succ Nw]; simp[uI,e3,sm.row]; done)
       ·rw[List.take_of_length_le (by omega)]
        refine sh ?_
        exact rM [0,1,2,3,4,5,6,7,8,9]
     ·rw[qC (.inr (.inr (by rw[uJ,if_neg k0,htx])))]
      refine sh ?_
      exact rM [0,1,2,3,4,5,6,7,8,9]
    |some t=>
     dsimp only[Option.map_some]
     refine sh ?_
     refine cS (fun k0=> ?_) (fun k0=> ?_)
     ·obtain⟨t,Y8⟩:∃t:Int,-1=t:=⟨_,rfl⟩
      have et:uJ z k=some t:=by rw[uJ,if_pos k0,Y8]
      rw[uK hr hm et]
      have rk:=ok r (bZ hr).1
      have rm:=jt (by have:=(dG rk.2.a).1; rw[own,if_pos rk.1]at this; exact this)
      have IW:∀v ∈ r.a.m.v,v.I:=fun v hv=>by
       have:=rm.pv v hv
       exact⟨by simp only[bf]; omega,by simp only[bf]; omega,by simp only[bf]; omega⟩
      obtain⟨ob,Ns⟩:∃ob,(eC z.pl k.aQ).getD 0=ob:=⟨_,rfl⟩
      rw[Ns]
      obtain⟨g,hg⟩:∃g,kU k.t r.a.m m t ob (dC r.f lay)=g:=⟨_,rfl⟩
      rw[hg]
      obtain⟨T,hT⟩:∃T,r.a.m.t.map g=T:=⟨_,rfl⟩
      have hTl:T.length=r.a.m.t.length:=by rw[<-hT,List.length_map]
      rw[hT]
      refine sh ?_
      refine ao.inv 200 (fun j:Nat=>j<=r.a.m.t.length) (fun j=>⟨[(0,.loc 0 1 0 0),(2,.int .i64 lay),(4,.loc 10 1 0 0),(6,.loc 11 1 0 0),(8,.int .i64 m),(10,.int .i64 t),(12,.loc 12 1 0 0),(65,.aH 3 (bJ r.a.m.t)),(66,.int .i64 r.a.m.t.length),(67,.int .i64 j)],Cd R (z.add (T.take j))++ [(10,.var (R.ty 44) k.row),(11,.var (R.ty 45) r.row),(12,.var (R.ty 25) r.a.m.row)],13⟩) (fun j=>r.a.m.t.length - j) (0) ?_ ⟨⟨_,hp,rfl⟩,?_,?_⟩ ?_
      ·exact Nat.zero_le _
      ·exact iV
       all_goals (simp[jz.add,ej.add]; done)
      ·refine pC ?_ ?_
       all_goals (simp[jz.add,ej.add]; done)
      ·intro j hj
       dsimp only
       refine sh ?_
       refine cS (fun h1=> ?_) (fun h1=> ?_)
       ·obtain⟨c,hc⟩:∃u_,r.a.m.t[j]? =some u_:=⟨_,List.getElem?_eq_getElem (by first|omega|(simp<;>omega))⟩
        refine sh ?_
        refine aa hc ?_
        have uV:=rm.pt c (List.mem_of_getElem? hc)
        have huv:=rm.uv
        have FL:=rm.t.2
        have hlen:(z.add (T.take j)).s.cz.length<=1000064:=by
         have:=rm.t.2
         simp[jz.add,ej.add]; omega
        refine sh ?_
        refine afv Rq (Rr.trans (by rw[Ns])) ?_
        refine sh ?_
        refine ae.pure h.n11.Vp.hb (so h.n11 r.f lay) rfl ?_
        refine sh ?_
        refine ao.one 200 ?_
        refine sh ?_
        refine af (by rfl) ?_
        obtain⟨va,uS⟩:∃u_,r.a.m.v[c.a.toNat]? =some u_:=⟨_,List.getElem?_eq_getElem (by omega)⟩
        obtain⟨ua,Nt⟩:∃u_,r.a.m.uv[c.a.toNat]? =some u_:=⟨_,List.getElem?_eq_getElem (by omega)⟩
        refine sh ?_
        refine aa uS ?_
        refine sh ?_
        refine ae.pure h.n241.tU.hb (fh h.n241 hx (IW va (List.mem_of_getElem? uS))) rfl ?_
        refine sh ?_
        refine aa Nt ?_
        refine sh ?_
        refine ao.one 200 ?_
        refine sh ?_
        refine af (by rfl) ?_
        obtain⟨vb,IX⟩:∃u_,r.a.m.v[c.b.toNat]? =some u_:=⟨_,List.getElem?_eq_getElem (by omega)⟩
        obtain⟨ub,Nu⟩:∃u_,r.a.m.uv[c.b.toNat]? =some u_:=⟨_,List.getElem?_eq_getElem (by omega)⟩
        refine sh ?_
        refine aa IX ?_
        refine sh ?_
        refine ae.pure h.n241.tU.hb (fh h.n241 hx (IW vb (List.mem_of_getElem? IX))) rfl ?_
        refine sh ?_
        refine aa Nu ?_
        refine sh ?_
        refine ao.one 200 ?_
        refine sh ?_
        refine af (by rfl) ?_
        obtain⟨vc,IY⟩:∃u_,r.a.m.v[c.c.toNat]? =some u_:=⟨_,List.getElem?_eq_getElem (by omega)⟩
        obtain⟨uc,Nv⟩:∃u_,r.a.m.uv[c.c.toNat]? =some u_:=⟨_,List.getElem?_eq_getElem (by omega)⟩
        refine sh ?_
        refine aa IY ?_
        refine sh ?_
        refine ae.pure h.n241.tU.hb (fh h.n241 hx (IW vc (List.mem_of_getElem? IY))) rfl ?_
        refine sh ?_
        refine aa Nv ?_
        refine sh ?_
        refine ao.one 200 ?_
        refine sh ?_
        refine aw (by rfl) ?_
        have e3:(kU k.t r.a.m m t ob (dC r.f lay) c)=⟨(bW k.t va).1,(bW k.t vb).1,(bW k.t vc).1,ua.1,ua.2,ub.1,ub.2,uc.1,uc.2,m,t,ob,dC r.f lay⟩:=by
         simp only[kU,gB uS,gB IX,gB IY,fq Nt,fq Nu,fq Nv]
        rw[hg]at e3
        have Nw:T[j]? =some (g c):=by rw[<-hT,List.getElem?_map,hc]; rfl
        refine sh ?_
        refine nX (j+1) ?_ ?_ ⟨_,hp,rfl⟩ ?_ ?_
        ·omega
        ·omega
        ·exact iV
         all_goals (rw[add_succ Nw]; simp; done)
        ·refine pC ?_ ?_
         all_goals (rw[add_succ Nw]; simp[uI,e3,sm.row]; done)
       ·rw[List.take_of_length_le (by omega)]
        refine sh ?_
        exact rM [0,1,2,3,4,5,6,7,8,9]
     ·have Y8:t=t:=rfl
      have et:uJ z k=some t:=by rw[uJ,if_neg k0,htx]
      rw[uK hr hm et]
      have rk:=ok r (bZ hr).1
      have rm:=jt (by have:=(dG rk.2.a).1; rw[own,if_pos rk.1]at this; exact this)
      have IW:∀v ∈ r.a.m.v,v.I:=fun v hv=>by
       have:=rm.pv v hv
       exact⟨by simp only[bf]; omega,by simp only[bf]; omega,by simp only[bf]; omega⟩
      obtain⟨ob,Ns⟩:∃ob,(eC z.pl k.aQ).getD 0=ob:=⟨_,rfl⟩
      rw[Ns]
      obtain⟨g,hg⟩:∃g,kU k.t r.a.m m t ob (dC r.f lay)=g:=⟨_,rfl⟩
      rw[hg]
      obtain⟨T,hT⟩:∃T,r.a.m.t.map g=T:=⟨_,rfl⟩
      have hTl:T.length=r.a.m.t.length:=by rw[<-hT,List.length_map]
      rw[hT]
      refine sh ?_
      refine ao.inv 200 (fun j:Nat=>j<=r.a.m.t.length) (fun j=>⟨[(0,.loc 0 1 0 0),(2,.int .i64 lay),(4,.loc 10 1 0 0),(6,.loc 11 1 0 0),(8,.int .i64 m),(10,.int .i64 t),(12,.loc 12 1 0 0),(65,.aH 3 (bJ r.a.m.t)),(66,.int .i64 r.a.m.t.length),(67,.int .i64 j)],Cd R (z.add (T.take j))++ [(10,.var (R.ty 44) k.row),(11,.var (R.ty 45) r.row),(12,.var (R.ty 25) r.a.m.row)],13⟩) (fun j=>r.a.m.t.length - j) (0) ?_ ⟨⟨_,hp,rfl⟩,?_,?_⟩ ?_
      ·exact Nat.zero_le _
      ·exact iV
       all_goals (simp[jz.add,ej.add]; done)
      ·refine pC ?_ ?_
       all_goals (simp[jz.add,ej.add]; done)
      ·intro j hj
       dsimp only
       refine sh ?_
       refine cS (fun h1=> ?_) (fun h1=> ?_)
       ·obtain⟨c,hc⟩:∃u_,r.a.m.t[j]? =some u_:=⟨_,List.getElem?_eq_getElem (by first|omega|(simp<;>omega))⟩
        refine sh ?_
        refine aa hc ?_
        have uV:=rm.pt c (List.mem_of_getElem? hc)
        have huv:=rm.uv
        have FL:=rm.t.2
        have hlen:(z.add (T.take j)).s.cz.length<=1000064:=by
         have:=rm.t.2
         simp[jz.add,ej.add]; omega
        refine sh ?_
        refine afv Rq (Rr.trans (by rw[Ns])) ?_
        refine sh ?_
        refine ae.pure h.n11.Vp.hb (so h.n11 r.f lay) rfl ?_
        refine sh ?_
        refine ao.one 200 ?_
        refine sh ?_
        refine af (by rfl) ?_
        obtain⟨va,uS⟩:∃u_,r.a.m.v[c.a.toNat]? =some u_:=⟨_,List.getElem?_eq_getElem (by omega)⟩
        obtain⟨ua,Nt⟩:∃u_,r.a.m.uv[c.a.toNat]? =some u_:=⟨_,List.getElem?_eq_getElem (by omega)⟩
        refine sh ?_
        refine aa uS ?_
        refine sh ?_
        refine ae.pure h.n241.tU.hb (fh h.n241 hx (IW va (List.mem_of_getElem? uS))) rfl ?_
        refine sh ?_
        refine aa Nt ?_
        refine sh ?_
        refine ao.one 200 ?_
        refine sh ?_
        refine af (by rfl) ?_
        obtain⟨vb,IX⟩:∃u_,r.a.m.v[c.b.toNat]? =some u_:=⟨_,List.getElem?_eq_getElem (by omega)⟩
        obtain⟨ub,Nu⟩:∃u_,r.a.m.uv[c.b.toNat]? =some u_:=⟨_,List.getElem?_eq_getElem (by omega)⟩
        refine sh ?_
        refine aa IX ?_
        refine sh ?_
        refine ae.pure h.n241.tU.hb (fh h.n241 hx (IW vb (List.mem_of_getElem? IX))) rfl ?_
        refine sh ?_
        refine aa Nu ?_
        refine sh ?_
        refine ao.one 200 ?_
        refine sh ?_
        refine af (by rfl) ?_
        obtain⟨vc,IY⟩:∃u_,r.a.m.v[c.c.toNat]? =some u_:=⟨_,List.getElem?_eq_getElem (by omega)⟩
        obtain⟨uc,Nv⟩:∃u_,r.a.m.uv[c.c.toNat]? =some u_:=⟨_,List.getElem?_eq_getElem (by omega)⟩
        refine sh ?_
        refine aa IY ?_
        refine sh ?_
        refine ae.pure h.n241.tU.hb (fh h.n241 hx (IW vc (List.mem_of_getElem? IY))) rfl ?_
        refine sh ?_
        refine aa Nv ?_
        refine sh ?_
        refine ao.one 200 ?_
        refine sh ?_
        refine aw (by rfl) ?_
        have e3:(kU k.t r.a.m m t ob (dC r.f lay) c)=⟨(bW k.t va).1,(bW k.t vb).1,(bW k.t vc).1,ua.1,ua.2,ub.1,ub.2,uc.1,uc.2,m,t,ob,dC r.f lay⟩:=by
         simp only[kU,gB uS,gB IX,gB IY,fq Nt,fq Nu,fq Nv]
        rw[hg]at e3
        have Nw:T[j]? =some (g c):=by rw[<-hT,List.getElem?_map,hc]; rfl
        refine sh ?_
        refine nX (j+1) ?_ ?_ ⟨_,hp,rfl⟩ ?_ ?_
        ·omega
        ·omega
        ·exact iV
         all_goals (rw[add_succ Nw]; simp; done)
        ·refine pC ?_ ?_
         all_goals (rw[add_succ Nw]; simp[uI,e3,sm.row]; done)
       ·rw[List.take_of_length_le (by omega)]
        refine sh ?_
        exact rM [0,1,2,3,4,5,6,7,8,9]
end Go.UM
namespace Go.UM
open Go.AM
set_option maxRecDepth 4000
theorem fbm:rW.bare.B3:=by refine⟨?_,?_,?_,?_⟩<;>simp[rW,As.bare]
theorem XH (c:Ac):c.ju.a.B3:=by
 refine⟨?_,?_,?_,?_⟩<;>simp[Ac.ju,As.ju,Ms.ju]<;>omega
end Go.UM
namespace Go.UM
open Go.AM
set_option maxRecDepth 4000
def nG (lay:Int) (L:List Rw) (N:List In):jz:=N.foldl (iP lay) (iF lay L)
theorem Fw (lay:Int) (L:List Rw) (N:List In) (k:In):nG lay L (N++ [k])=iP lay (nG lay L N) k:=by simp[nG]
theorem qD (lay:Int) (z:jz) (k:In):(iP lay z k).ms=z.ms/\(iP lay z k).pl=z.pl/\(iP lay z k).ks=z.ks:=by
 unfold iP
 split<;>exact⟨rfl,rfl,rfl⟩
theorem Ce (lay:Int) (N:List In):∀z:jz,(N.foldl (iP lay) z).ms=z.ms/\(N.foldl (iP lay) z).pl=z.pl/\(N.foldl (iP lay) z).ks=z.ks:=by
 induction N with
 |nil=>exact fun z=>⟨rfl,rfl,rfl⟩
 |cons k N ih=>
  intro z
  obtain⟨h1,h2,h3⟩:=ih (iP lay z k)
  obtain⟨g1,g2,g3⟩:=qD lay z k
  exact⟨h1.trans g1,h2.trans g2,h3.trans g3⟩
theorem Fx {lay:Int} {z:jz} {k:In} (ok:∀r ∈ z.ms,r.a.k=1/\fK r):(iP lay z k).s.cz.length<=z.s.cz.length+64:=by
 unfold iP
 split
 ·rename_i r m t h1 _ _
  have rk:=ok r (bZ h1).1
  have rm:=jt (by have:=(dG rk.2.a).1; rw[own,if_pos rk.1]at this; exact this)
  have:=rm.t.2
  simp[jz.add,ej.add]; omega
 ·omega
theorem IZ (lay:Int) (L:List Rw) (ok:∀r ∈ L,fK r):∀r ∈ (iF lay L).ms,r.a.k=1/\fK r:=by
 refine mH (P:=fun l z=>(∀r ∈ l,fK r)->∀r ∈ z.ms,r.a.k=1/\fK r) lay (by simp[jz.rA]) (fun l z x h ok r hr=> ?_) L ok
 have old:=h (fun r hr=>ok r (by simp[hr]))
 unfold qB at hr
 split at hr
 ·exact old r hr
 ·dsimp only at hr
  split at hr
  ·rename_i k1
   rcases List.mem_append.1 hr with q|q
   ·exact old r q
   ·simp only[List.mem_singleton]at q
    subst q
    exact⟨k1,ok r (by simp)⟩
  ·exact old r hr
theorem Rs (lay:Int) (L:List Rw) (ok:∀r ∈ L,fK r) (hl:L.length<=1000000):∀q ∈ (iF lay L).pl,bf .i64 q.1/\bf .i64 q.2:=by
 have:∀q ∈ (iF lay L).pl,(1<=q.1/\q.1<=65536)/\(0<=q.2/\q.2<=L.length):=by
  refine mH (P:=fun l z=>(∀r ∈ l,fK r)->z.s.ids.length<=l.length/\∀q ∈ z.pl,(1<=q.1/\q.1<=65536)/\(0<=q.2/\q.2<=(l.length:Int))) lay (by simp[jz.rA,ej.rA]) (fun l z x h ok=> ?_) L ok |>.2
  obtain⟨h1,h2⟩:=h (fun r hr=>ok r (by simp[hr]))
  have e:(l++ [x]).length=l.length+1:=by simp
  rw[e]
  unfold qB
  split
  ·exact⟨by omega,fun q hq=>by have:=h2 q hq; omega⟩
  ·refine⟨by simp[dK]; omega,fun q hq=> ?_⟩
   rcases List.mem_append.1 hq with k|k
   ·have:=h2 q k; omega
   ·simp only[List.mem_singleton]at k
    subst k
    have:=(ok x (by simp)).h
    dsimp only
    omega
 intro q hq
 have:=this q hq
 exact⟨by simp only[bf]; omega,by simp only[bf]; omega⟩
theorem Fy (lay:Int) (L:List Rw) (N:List In) (ok:∀r ∈ L,fK r):(nG lay L N).s.cz.length<=64*N.length:=by
 have:∀ (N:List In) (z:jz),(∀r ∈ z.ms,r.a.k=1/\fK r)->(N.foldl (iP lay) z).s.cz.length<=z.s.cz.length+64*N.length:=by
  intro N
  induction N with
  |nil=>intro z _; simp
  |cons k N ih=>
   intro z hz
   have h1:=ih (iP lay z k) (by rw[(qD lay z k).1]; exact hz)
   have h2:=Fx (lay:=lay) (k:=k) hz
   rw[List.foldl_cons,List.length_cons]
   omega
 have h:=this N (iF lay L) (IZ lay L ok)
 rw[(Dl lay L).t]at h
 simpa[nG]using h
abbrev XI (R:Env) (d:Bool) (t:Tb) (z:jz):ah:=[(0,.map 1 false true d 41 (iq t.rows)),(1,.map 4 true true false 16 (cE t.ins)),(2,.var (R.ty 47) [.omap 0,.omap 1]),(3,.var (R.ty 59) [.ai,.ai,.ai,.ai,.ai,.ai,.int .u32 0,.int .u32 0,.int .u32 0]),
 (10,.var (R.ty 61) [.bc 12 z.s.cz.length,.bc 13 z.s.dD.length,.bc 14 z.s.cG.length,.bc 15 z.s.eB.length,.bc 16 z.s.ids.length,.bc 17 z.s.gH.length,.int .u32 z.s.wS,.int .u32 z.s.fr,.int .u32 z.s.to,.omap 7,.omap 8,.omap 9]),
 (7,.map 1 false true true 41 (iq z.ms)),(8,.map 1 false false true 2 (cW z.pl)),(9,.map 1 false false true 2 (cW z.ks)),
 (12,.arr (R.ty 60) 19 (uI z.s.cz)),(13,.arr (R.ty 40) 5 (kQ z.s.dD)),(14,.arr (R.ty 12) 2 (kS z.s.cG)),(15,.arr (R.ty 41) 13 (kR z.s.eB)),(16,.arr (R.ty 6) 1 (bp .u64 z.s.ids)),(17,.arr (R.ty 0) 1 (bp .u32 z.s.gH))]
set_option maxHeartbeats 4000000 in
theorem Cf {R:Env} (h:K0 R) (K:wL R) (C:XA R) (gG:List In->List In) (S:Am R gG) (hs:LV gG) (t:Tb) {n:Nat} (ok:iD t n) (hn:n<=10000) (hx:∀x ∈ t.ins,x.t.I) (lay:Int) (ahz:0<=lay/\lay<8):
  R.Mz true 491 [.loc 2 1 0 0,.int .i64 lay] (ek R false false t) (.aN [.agg (nG lay (aV t.rows) (cw t.ins)).s.row,.int .i64 0]) (ek R false false t) 3:=
 h.abn.CN 200 3 rfl rfl rfl fun X bb hfit hp hz=>by
  have h1:=ok.rl
  have h2:=ok.il
  have c1:=LX h.PV K false false t ok (by omega)
  have c2:=Is h.PW gG S hs false false t ok.nd (by omega)
  obtain⟨L,hL⟩:∃L,aV t.rows=L:=⟨_,rfl⟩
  obtain⟨N,hN⟩:∃N,cw t.ins=N:=⟨_,rfl⟩
  have ahA:L.length<=10000:=by rw[<-hL,gA]; omega
  have ahB:N.length<=10000:=by rw[<-hN,lL]; omega
  have asc:L.Pairwise (fun a b=>a.h<b.h):=hL ▸ ng ok.rd
  have I3:∀r ∈ L,fK r:=fun r hr=>ok.row r (dH.1 (hL ▸ hr))
  have xok:∀x ∈ N,x.t.I:=fun x hx'=>hx x (kO.1 (hN ▸ hx'))
  rw[hL]at c1 ⊢
  rw[hN]at c2 ⊢
  unfold ek
  refine sh ?_
  refine cM false [0,1,2] (Ro h.PX C false false t) ?_
  repeat (intro _; first|refine eK ?_|refine eP ?_)
  refine sh ?_
  refine cS (fun k1=> ?_) (fun k1=> ?_)
  ·exact absurd k1 (by omega)
  ·refine sh ?_
   refine cS (fun k2=> ?_) (fun k2=> ?_)
   ·exact absurd k2 (by omega)
   ·refine sh ?_
    refine cM false [0,1,2] (c1) ?_
    repeat (intro _; first|refine eK ?_|refine eP ?_)
    refine sh ?_
    refine ae.let [11] rfl hp rfl ?_
    repeat ((intro _u; clear _u); first|refine eZ ?_|refine eZ ?_ (by simp; omega)|refine Ex.drop ?_)
    refine sh ?_
    refine cM false [10,7,8,9] (L9 h.PY L lay (by omega) asc) ?_
    repeat (intro _; first|refine eK ?_|refine eP ?_)
    refine sh ?_
    refine cM false [0,1,2] (c2) ?_
    repeat (intro _; first|refine eK ?_|refine eP ?_)
    refine sh ?_
    refine gD 200 (fun i:Nat=>i<=N.length) (fun i=>⟨[(1,.int .i64 lay),(4,.loc 3 1 0 0),(6,.loc 10 1 0 0),(33,.aH 16 (cE N)),(34,.int .i64 N.length),(35,.int .i64 i)],XI R false t (nG lay L (N.take i)),18⟩) (fun i=>N.length - i) (0) ?_ ?_
    ·exact Nat.zero_le _
    ·intro i hi
     dsimp only
     refine sh ?_
     refine cS (fun g1=> ?_) (fun g1=> ?_)
     ·obtain⟨x,hx⟩:∃u_,N[i]? =some u_:=⟨_,List.getElem?_eq_getElem (by first|omega|(simp<;>omega))⟩
      refine sh ?_
      refine aa hx ?_
      have zm:=Ce lay (N.take i) (iF lay L)
      refine sh ?_
      refine cM false [10,7,8,9,12,13,14,15,16,17] (Ma h.PZ (nG lay L (N.take i)) x lay (by rw[nG,zm.1]; exact IZ lay L I3) (xok x (List.mem_of_getElem? hx)) (by have:=Fy lay L (N.take i) I3; rw[List.length_take]at this; omega) (by rw[nG,zm.2.1]; exact Rs lay L I3 (by omega))) ?_
      repeat (intro _; first|refine eK ?_|refine eP ?_)
      rw[<-Fw,<-ar hx]
      refine sh ?_
      refine kI (i+1) ?_ ?_
      ·omega
      ·omega
     ·rw[List.take_of_length_le (by omega)]
      refine sh ?_
      exact rM [0,1,2]
end Go.UM
namespace Go.UM
open Go.AM
set_option maxRecDepth 4000
def m19:Ms:=⟨[⟨0,0,0⟩,⟨5,0,0⟩,⟨0,7,0⟩],[(0,0),(0,0),(0,0)],[⟨0,1,2⟩,⟨2,1,0⟩]⟩
def I4:As:=⟨1,m19,⟨0,[]⟩,⟨0,z3,0⟩,⟨0,z3,z3,z3,z3⟩⟩
def f19 (k:Int):Mf:=⟨0,k,0,1,0,0,0,0,0,0,0,0,0,0,0⟩
def FA:In:=⟨1,2,0,0,HL⟩
theorem Rt:dv I4=0:=by kernel_rfl
def Dm:List Rw:=[⟨1,f19 1,I4⟩,⟨2,f19 3,rW⟩]
def t19:Tb:=⟨Dm,[FA]⟩
theorem XJ:gz ⟨[],[]⟩ 1 (f19 1) I4=(⟨[⟨1,f19 1,I4⟩],[]⟩,0):=by unfold gz; rw[Rt]; rfl
theorem XK:gz ⟨[⟨1,f19 1,I4⟩],[]⟩ 2 (f19 3) rW=(⟨Dm,[]⟩,0):=by unfold gz; rw[Dk]; rfl
theorem XL:ij ⟨Dm,[]⟩ FA=(t19,0):=by kernel_rfl
theorem abY:aV Dm=Dm:=by
 refine (lK (l:=Dm) ?_ (List.Perm.refl _) ?_).symm
 ·simp[Dm]
 ·simp[Dm,kp]
theorem abZ:cw [FA]=[FA]:=by simp[cw]
theorem p19:(nG 0 Dm [FA]).s.cz.length=2/\(nG 0 Dm [FA]).s.dD.length=1/\((nG 0 Dm [FA]).s.cz.map (·.cb))=[-1,-1]:=⟨by kernel_rfl,by kernel_rfl,by kernel_rfl⟩
theorem Mb:iD t19 3/\∀x ∈ t19.ins,x.t.I:=by
 have h1:=uB An (hd:=1) (f:=f19 1) (a:=I4) (by simp[I4])
 rw[XJ]at h1
 have h2:=uB h1 (hd:=2) (f:=f19 3) (a:=rW) (by simp[rW])
 rw[XK]at h2
 have h3:=Dg h2 (x:=FA)
 rw[XL]at h3
 refine⟨h3,fun x hx=> ?_⟩
 have:x=FA:=by simpa[t19]using hx
 subst this
 exact Lp
set_option maxHeartbeats 4000000 in
theorem FB {R:Env} (h:QI R) (K:wL R) (C:XA R) (gG:List In->List In) (S:Am R gG) (hs:LV gG):R.Pz true 493 [] (.bool true):=
 h.WP.Hg 200 rfl fun X bb hfit hp hz=>by
  have c1:=B7 h.n346 true true ⟨[],[]⟩ 1 (f19 1) I4 (by simp[I4]) (by refine⟨?_,?_,?_,?_⟩<;>simp[I4,m19,As.bare,qv]) (by simp)
  have c2:=B7 h.n346 true true ⟨[⟨1,f19 1,I4⟩],[]⟩ 2 (f19 3) rW (by simp[rW]) fbm (by simp)
  have c3:=Ik h.EK true true ⟨Dm,[]⟩ FA (fun r hr=>Mb.1.row r hr) (Mb.2 FA (by simp[t19])) (by simp)
  have c4:=Cf h.BI K C gG S hs t19 Mb.1 (by omega) Mb.2 0 (by omega)
  rw[show t19.rows=Dm from rfl,abY,show t19.ins=[FA]from rfl,abZ]at c4
  obtain⟨q1,q2,q3⟩:=p19
  obtain⟨Z,hZ⟩:∃Z,(nG 0 Dm [FA]).s=Z:=⟨_,rfl⟩
  rw[hZ]at c4 q1 q2 q3
  rw[XJ]at c1
  rw[XK]at c2
  rw[XL]at c3
  refine sh ?_
  refine cM false [] (Ih h.n345) ?_
  repeat (intro _; first|refine eK ?_|refine eP ?_)
  refine sh ?_
  refine Tr 3 rfl rfl (by omega) ?_
  refine sh ?_
  refine ae.let [3,4,5] rfl hp rfl ?_
  repeat ((intro _u; clear _u); first|refine eZ ?_|refine eZ ?_ (by simp; omega)|refine Ex.drop ?_)
  refine sh ?_
  refine cM false [0,1,2] (c1) ?_
  repeat (intro _; first|refine eK ?_|refine eP ?_)
  refine sh ?_
  refine cM false [0,1,2] (c2) ?_
  repeat (intro _; first|refine eK ?_|refine eP ?_)
  refine sh ?_
  refine ae.pure h.n221.UJ.hb (Ly h.n221) rfl ?_
  refine sh ?_
  refine cM false [0,1,2] (c3) ?_
  repeat (intro _; first|refine eK ?_|refine eP ?_)
  refine sh ?_
  refine cM false [0,1,2] (c4) ?_
  repeat (intro _; first|refine eK ?_|refine eP ?_)
  refine sh ?_
  refine af (by rfl) ?_
  refine sh ?_
  refine af (by rw[q1]; rfl) ?_
  refine sh ?_
  refine af (by rw[q2]; rfl) ?_
  obtain⟨a,ha⟩:∃u_,Z.cz[0]? =some u_:=⟨_,List.getElem?_eq_getElem (by first|omega|(simp<;>omega))⟩
  refine sh ?_
  refine aa ha ?_
  refine sh ?_
  refine rT ?_
  refine be ?_
  have Xu:a.cb= -1:=by
   have:=congrArg (fun l=>l[0]?) q3
   simp[ha]at this
   exact this
  simp[Xu]
end Go.UM
namespace Go.UM
open Go.AM
set_option maxRecDepth 4000
theorem I5 {k a b c r:Int} (h0:bf .i64 k) (h1:bf .i64 a) (h2:bf .i64 b) (h3:bf .i64 c) (h4:bf .i64 r):∀y ∈ (jD.aP ⟨k,⟨a,b,c⟩,r⟩),bf .i64 y:=fun y hy=>by
 simp only[jD.aP,List.cons_append,List.nil_append,List.mem_cons,List.not_mem_nil,or_false]at hy
 rcases hy with rfl|rfl|rfl|rfl|rfl<;>assumption
theorem FC {l:jw} (h0:bf .i64 l.k) (h1:l.c.I) (h2:l.p.I) (h3:l.u.I) (h4:l.v.I):∀y ∈ l.aP,bf .i64 y:=fun y hy=>by
 obtain⟨a1,a2,a3⟩:=h1
 obtain⟨b1,b2,b3⟩:=h2
 obtain⟨c1,c2,c3⟩:=h3
 obtain⟨d1,d2,d3⟩:=h4
 simp only[jw.aP,Y7,List.flatMap_cons,List.flatMap_nil,List.cons_append,List.nil_append,List.append_nil,List.mem_cons,List.not_mem_nil,or_false]at hy
 rcases hy with rfl|rfl|rfl|rfl|rfl|rfl|rfl|rfl|rfl|rfl|rfl|rfl|rfl<;>assumption
def ii.I (t:ii):Prop:=bf .i64 t.side/\∀p ∈ t.t,p.I
theorem I6 {t:ii} (h:t.I) (hl:t.t.length<=1000):∀y ∈ t.aP,bf .i64 y:=fun y hy=>by
 simp only[ii.aP,List.cons_append,List.nil_append,List.mem_cons]at hy
 rcases hy with rfl|rfl|hy
 ·exact h.1
 ·simp only[bf]; omega
 ·obtain⟨p,hp,hy⟩:=List.mem_flatMap.1 hy
  obtain⟨h1,h2,h3⟩:=h.2 p hp
  simp only[List.mem_cons,List.not_mem_nil,or_false]at hy
  rcases hy with rfl|rfl|rfl<;>assumption
structure ej.I (s:ej):Prop where
 t:∀t ∈ s.cz,t.Ok
 m:∀m ∈ s.dD,∀x ∈ m.aP,bf .i64 x
 x:∀t ∈ s.cG,t.I
 l:∀t ∈ s.eB,∀x ∈ t.aP,bf .i64 x
 i:∀x ∈ s.ids,bf .u64 x
 b:∀x ∈ s.gH,bf .u32 x
 e:bf .u32 s.wS/\bf .u32 s.fr/\bf .u32 s.to
end Go.UM
namespace Go.UM
open Go.AM
set_option maxRecDepth 4000
def kj (lay:Int) (r:Rw):Bool:=dC r.f lay != 0
def cC (lay:Int) (l:List Rw):List Rw:=l.filter (kj lay)
def oe (k:Int) (r:Rw):Bool:=k==0||r.a.k==k
def bB (V:List Rw) (h k:Int):Int:=pQ (dJ h) (V.filter (oe k))
theorem yr {α:Type} {p:α->Bool} {l:List α} (h:∀y ∈ l,p y=false):pQ p l= -1:=uE fun j y _ hy=>h y (List.mem_of_getElem? hy)
end Go.UM
namespace Go.UM
open Go.AM
set_option maxRecDepth 4000
def dI (V:List Rw) (lay:Int) (s:ej) (k:In):ej:=
 if bB V k.aQ 0<0\/ bB V k.df 3<0\/(bB V k.cb 2<0/\k.cb≠0)then s else match V[(bB V k.aQ 0).toNat]? with
  |some r=>s.add (r.a.m.t.map (kU k.t r.a.m (bB V k.df 3) (bB V k.cb 2) (bB V k.aQ 0) (dC r.f lay)))
  |none=>s
def vu (lay:Int) (d:Tb):ej:=d.ins.foldl (dI (cC lay d.rows) lay) ((cC lay d.rows).foldl dK ej.rA)
structure XM (n:Nat) (s:ej):Prop where
 t:s.cz=[]
 m:s.dD.length<=n
 x:s.cG.length<=n
 l:s.eB.length<=n
 i:s.ids.length<=n
 b:s.gH.length<=n
theorem Do:∀ (l:List Rw) (s:ej) (n:Nat),XM n s->XM (n+l.length) (l.foldl dK s)
 |[],s,n,h=>h
 |r::l,s,n,h=>by
  have:=Do l (dK s r) (n+1) (by
   obtain⟨h0,h1,h2,h3,h4,h5⟩:=h
   refine⟨h0,?_,?_,?_,?_,?_⟩<;>unfold dK<;>dsimp only<;>repeat' split
   all_goals (try simp only[List.length_append,List.length_singleton]); omega)
  rw[List.foldl_cons,List.length_cons]
  rwa[show n+ (l.length+1)=n+1+l.length by omega]
theorem I7 (s:ej) (l:List sm):(s.add l).cz.length=s.cz.length+l.length:=by simp[ej.add]
theorem Dp (V:List Rw):V.filter (oe 0)=V:=List.filter_eq_self.2 fun r _=>by simp[oe]
theorem pS (V:List Rw) (h:Int):(∃ (o:Nat) (r:Rw),bB V h 0=o/\V[o]? =some r/\r.h=h)\/ bB V h 0= -1:=by
 unfold bB
 rw[Dp]
 rcases fT (dJ h) V with⟨i,r,e1,e2,e3,_⟩|⟨e1,_⟩
 ·exact .inl ⟨i,r,e1,e2,by simpa[dJ]using e3⟩
 ·exact .inr e1
theorem Dq {V:List Rw} (ok:∀r ∈ V,r.a.m.t.length<=64) (lay:Int):∀ (N:List In) (s:ej),(N.foldl (dI V lay) s).cz.length<=s.cz.length+64*N.length
 |[],s=>by simp
 |k::N,s=>by
  have h1:=Dq ok lay N (dI V lay s k)
  have h2:(dI V lay s k).cz.length<=s.cz.length+64:=by
   unfold dI
   split
   ·omega
   ·split
    ·rename_i r hr
     rw[I7,List.length_map]
     have:=ok r (List.mem_of_getElem? hr)
     omega
    ·omega
  rw[List.foldl_cons,List.length_cons]
  omega
theorem I8 {r:Rw} (o:fK r):r.a.m.t.length<=64:=by
 obtain⟨h1,h2,_⟩:=dG o.a
 by_cases k:r.a.k=1
 ·rw[own,if_pos k]at h1
  exact (uy h1).2.1
 ·have e:r.a.m=qv:=by
   have e1:r.a.bare.m=(As.zero r.a.k).m:=by rw[h2]
   have e2:r.a.bare.m=r.a.m:=by unfold As.bare; rw[if_neg k]; repeat' split
                                all_goals rfl
   rw[<-e2,e1]; rfl
  rw[e]; simp[qv]
end Go.UM
namespace Go.UM
open Go.AM
set_option maxRecDepth 4000
theorem AC {α:Type} {p:α->Bool} {l m:List α} (h:0<=pQ p l):pQ p (l++m)=pQ p l:=by
 unfold pQ at h ⊢
 rw[List.findIdx?_append]
 cases e:l.findIdx? p with
 |some i=>rfl
 |none=>rw[e]at h; simp at h
theorem rB {α:Type} {p:α->Bool} {l:List α} {x:α} (h:∀y ∈ l,p y=false) (hx:p x=true):pQ p (l++ [x])=l.length:=by
 unfold pQ
 rw[List.findIdx?_append,List.findIdx?_eq_none_iff.2 h]
 simp[List.findIdx?_cons,hx]
theorem Ru {α:Type} {p:α->Bool} {l:List α} {x:α} (hm:x ∈ l) (hx:p x=true):0<=pQ p l:=by
 rcases fT p l with⟨i,r,e1,_⟩|⟨_,e2⟩
 ·omega
 ·rw[List.find?_eq_none]at e2
  exact absurd hx (by simpa using e2 x hm)
theorem kV {V:List Rw} {r:Rw} (hr:r ∈ V) {k:Int} (hk:oe k r=true):0<=bB V r.h k:=Ru (List.mem_filter.2 ⟨hr,hk⟩) (by simp[dJ])
theorem fX {V:List Rw} {h:Int} (hn:∀r ∈ V,r.h≠h) (k:Int):bB V h k= -1:=yr fun y hy=>by
 simpa[dJ]using hn y (List.mem_filter.1 hy).1
theorem uL {V W:List Rw} {h k:Int} (e:0<=bB V h k):bB (V++W) h k=bB V h k:=by
 unfold bB at e ⊢
 rw[List.filter_append]
 exact AC e
def kk (r:Rw):Bool:=r.a.k==3||r.a.k==2
theorem AD (l:List (Int × Int)) (q:Int × Int) (h:Int):eC (l++ [q]) h=(eC l h).or (if q.1=h then some q.2 else none):=by
 unfold eC
 rw[List.find?_append]
 cases List.find? (fun q=>q.1==h) l with
 |some x=>rfl
 |none=>
  by_cases e:q.1=h
  ·simp[List.find?_cons,e]
  ·have:(q.1==h)=false:=by simpa using e
   simp[List.find?_cons,this,e]
structure AE (V:List Rw) (z:jz):Prop where
 s:z.s=V.foldl dK ej.rA
 ms:z.ms=V.filter fun r=>r.a.k==1
 li:z.s.ids.length=V.length
 lm:z.s.dD.length=(V.filter (oe 3)).length
 lx:z.s.cG.length=(V.filter (oe 2)).length
 pl:∀h,eC z.pl h=if 0<=bB V h 0 then some (bB V h 0)else none
 ks:∀h,eC z.ks h=(V.find? fun r=>kk r&&dJ h r).map fun r=>bB V h r.a.k
theorem FD {V:List Rw} {z:jz} {lay:Int} {x:Rw} (h:AE V z) (hb:dC x.f lay≠0):AE (V++ [x]) (qB lay z x):=by
 obtain⟨h1,h2,h3,h4,h5,h6,h7⟩:=h
 unfold qB
 rw[if_neg hb]
 refine⟨?_,?_,?_,?_,?_,fun k=> ?_,fun k=> ?_⟩
 ·simp[h1]
 ·dsimp only
  rw[List.filter_append,h2]
  by_cases k:x.a.k=1<;>simp[k]
 ·simp[dK,h3]
 ·show (dK z.s x).dD.length=_
  unfold dK
  dsimp only
  rw[List.filter_append,List.length_append]
  by_cases k:x.a.k=3
  ·simp[k,h4,oe]
  ·have:oe 3 x=false:=by simp[oe,k]
   simp[k,h4,this]
 ·show (dK z.s x).cG.length=_
  unfold dK
  dsimp only
  rw[List.filter_append,List.length_append]
  by_cases k:x.a.k=2
  ·simp[k,h5,oe]
  ·have:oe 2 x=false:=by simp[oe,k]
   simp[k,h5,this]
 ·dsimp only
  rw[AD,h6]
  by_cases e:0<=bB V k 0
  ·rw[if_pos e,uL e,if_pos e]; rfl
  ·rw[if_neg e]
   have hn:∀r ∈ V,dJ k r=false:=fun r hr=>by
    cases q:dJ k r with
    |false=>rfl
    |true=>
     have q:r.h=k:=by simpa[dJ]using q
     exact absurd (q ▸ kV hr (k:=0) (by simp[oe])) e
   by_cases ex:x.h=k
   ·have e2:bB (V++ [x]) k 0=V.length:=by
     unfold bB
     rw[Dp]
     exact rB hn (by simp[dJ,ex])
    rw[if_pos ex,e2,if_pos (by omega),h3]; rfl
   ·have e2:bB (V++ [x]) k 0= -1:=fX (fun r hr=>by
     rcases List.mem_append.1 hr with q|q
     ·simpa[dJ]using hn r q
     ·simp only[List.mem_singleton]at q
      subst q
      exact ex) 0
    rw[if_neg ex,e2,if_neg (by omega)]; rfl
 ·dsimp only
  rw[List.find?_append]
  have old:∀r,V.find? (fun r=>kk r&&dJ k r)=some r->bB (V++ [x]) k r.a.k=bB V k r.a.k:=fun r hr=>by
   have hm:=List.mem_of_find?_eq_some hr
   have hp:=List.find?_some hr
   simp only[Bool.and_eq_true]at hp
   have hh:r.h=k:=by simpa[dJ]using hp.2
   exact uL (hh ▸ kV hm (by simp[oe]))
  by_cases hkx:kk x=true
  ·have Y9:x.a.k=3\/ x.a.k=2:=by simpa[kk]using hkx
   have e:(if x.a.k=3 then z.ks++ [(x.h,(z.s.dD.length:Int))]else if x.a.k=2 then z.ks++ [(x.h,(z.s.cG.length:Int))]else z.ks)=z.ks++ [(x.h,((V.filter (oe x.a.k)).length:Int))]:=by
    rcases Y9 with q|q
    ·rw[if_pos q,h4,q]
    ·rw[if_neg (by omega),if_pos q,h5,q]
   rw[e,AD,h7]
   cases hf:V.find? (fun r=>kk r&&dJ k r)with
   |some r=>simp[old r hf]
   |none=>
    have hn:∀y ∈ V.filter (oe x.a.k),dJ k y=false:=fun y hy=>by
     obtain⟨m1,m2⟩:=List.mem_filter.1 hy
     have m3:y.a.k=x.a.k:=by
      have:x.a.k=0\/ y.a.k=x.a.k:=by simpa[oe]using m2
      omega
     have:=List.find?_eq_none.1 hf y m1
     have hk:kk y=true:=by simp only[kk,m3]; exact hkx
     rw[hk]at this
     simpa using this
    by_cases ex:x.h=k
    ·have hx:dJ k x=true:=by simp[dJ,ex]
     have e2:bB (V++ [x]) k x.a.k=(V.filter (oe x.a.k)).length:=by
      unfold bB
      rw[List.filter_append,show [x].filter (oe x.a.k)=[x] by simp[oe]]
      exact rB hn hx
     simp[List.find?_cons,hkx,hx,ex,e2]
    ·have hx:dJ k x=false:=by simp[dJ,ex]
     simp[List.find?_cons,hkx,hx,ex]
  ·have hkx:kk x=false:=by simpa using hkx
   have Y9:x.a.k≠3/\x.a.k≠2:=by simpa[kk]using hkx
   rw[if_neg Y9.1,if_neg Y9.2,h7]
   cases hf:V.find? (fun r=>kk r&&dJ k r)with
   |some r=>simp[old r hf]
   |none=>simp[List.find?_cons,hkx]
theorem Dr (lay:Int) (L:List Rw):AE (cC lay L) (iF lay L):=by
 refine mH (P:=fun l z=>AE (cC lay l) z) lay ⟨rfl,rfl,rfl,rfl,rfl,fun h=>rfl,fun h=>rfl⟩ (fun l z x h=> ?_) L
 unfold cC at h ⊢
 rw[List.filter_append]
 by_cases hb:dC x.f lay=0
 ·have e:qB lay z x=z:=by unfold qB; rw[if_pos hb]
  have e2:[x].filter (kj lay)=[]:=by simp[kj,hb]
  rw[e,e2,List.append_nil]
  exact h
 ·have e2:[x].filter (kj lay)=[x]:=by simp[kj,hb]
  rw[e2]
  exact FD h hb
end Go.UM
namespace Go.UM
open Go.AM
set_option maxRecDepth 4000
theorem wV {α:Type} {p:α->Bool} {l:List α} {x:α} (hm:x ∈ l) (hx:p x=true) (hu:∀y ∈ l,p y=true->y=x):l.find? p=some x:=by
 cases h:l.find? p with
 |none=>exact absurd hx (by simpa using List.find?_eq_none.1 h x hm)
 |some y=>rw[hu y (List.mem_of_find?_eq_some h) (List.find?_some h)]
theorem oM {L:List Rw} (rd:L.Pairwise fun a b=>a.h≠b.h) (lay:Int) {h:Int} {r:Rw} (e:aO L h=some r):
  (r ∈ cC lay L/\∀y ∈ cC lay L,y.h=h->y=r)\/∀y ∈ cC lay L,y.h≠h:=by
 have un:∀y ∈ L,y.h=h->y=r:=fun y hy k=>by
  have:=ez rd hy
  rw[k,e]at this
  exact (Option.some.inj this).symm
 cases hs:kj lay r with
 |true=>exact .inl ⟨List.mem_filter.2 ⟨(bZ e).1,hs⟩,fun y hy k=>un y (List.mem_filter.1 hy).1 k⟩
 |false=>
  refine .inr fun y hy k=> ?_
  obtain⟨h1,h2⟩:=List.mem_filter.1 hy
  rw[un y h1 k,hs]at h2
  cases h2
theorem Dt {V:List Rw} {z:jz} (S:AE V z) {h:Int} {r:Rw} (hr:r ∈ V) (hh:r.h=h) (hu:∀y ∈ V,y.h=h->y=r) (hk:kk r=true):eC z.ks h=some (bB V h r.a.k):=by
 rw[S.ks,wV hr (by simp[hk,dJ,hh]) (fun y hy k=>hu y hy (by simp[dJ]at k; exact k.2))]; rfl
theorem I9 {V:List Rw} {z:jz} (S:AE V z) {h:Int} (hn:∀y ∈ V,y.h≠h):eC z.ks h=none:=by
 rw[S.ks,List.find?_eq_none.2 fun y hy=>by simp[dJ,hn y hy]]; rfl
theorem XN {L:List Rw} (rd:L.Pairwise fun a b=>a.h≠b.h) (I3:∀r ∈ L,fK r) (lay:Int) {z z':jz} (S:AE (cC lay L) z) (e1:z'.ms=z.ms) (e2:z'.pl=z.pl) (e3:z'.ks=z.ks) {k:In} (io:Fl L k):(iP lay z' k).s=dI (cC lay L) lay z'.s k:=by
 obtain⟨a,b,ha,ka,hb,kb,hx,_⟩:=io
 have vr:∀r ∈ cC lay L,fK r:=fun r hr=>I3 r (List.mem_filter.1 hr).1
 have a1:a.a.k=1:=(I3 a (bZ ha).1).k.symm.trans ka
 have b3:b.a.k=3:=(I3 b (bZ hb).1).k.symm.trans kb
 have sa:=oM rd lay ha
 have sb:=oM rd lay hb
 have sx:k.cb=0\/∃c,c.a.k=2/\c.h=k.cb/\((c ∈ cC lay L/\∀y ∈ cC lay L,y.h=k.cb->y=c)\/∀y ∈ cC lay L,y.h≠k.cb):=hx.imp_right fun⟨c,h1,h2⟩=>
  ⟨c,(I3 c (bZ h1).1).k.symm.trans h2,(bZ h1).2,oM rd lay h1⟩
 obtain⟨V,hV⟩:∃V,cC lay L=V:=⟨_,rfl⟩
 rw[hV]at S vr sa sb sx ⊢
 unfold dI iP uJ
 rw[e1,e2,e3]
 rcases sa with⟨am,au⟩|an
 ·have r1:aO z.ms k.aQ=some a:=by
   rw[S.ms]
   exact wV (List.mem_filter.2 ⟨am,by simp[a1]⟩) (by simp[(bZ ha).2]) (fun y hy q=>au y (List.mem_filter.1 hy).1 (by simpa using q))
  have o1:0<=bB V k.aQ 0:=(bZ ha).2 ▸ kV am (by simp[oe])
  have o2:V[(bB V k.aQ 0).toNat]? =some a:=by
   rcases pS V k.aQ with⟨o,r,q1,q2,q3⟩|q
   ·rw[q1,Int.toNat_natCast,q2,au r (List.mem_of_getElem? q2) q3]
   ·omega
  have o3:(eC z.pl k.aQ).getD 0=bB V k.aQ 0:=by rw[S.pl,if_pos o1]; rfl
  rw[r1,o2,o3]
  rcases sb with⟨bm,bu⟩|bn
  ·have m1:=Dt S bm (bZ hb).2 bu (by simp[kk,b3])
   rw[b3]at m1
   have m2:0<=bB V k.df 3:=(bZ hb).2 ▸ kV bm (by simp[oe,b3])
   rw[m1]
   by_cases k0:k.cb=0
   ·have t1:bB V k.cb 2= -1:=fX (fun r hr=>by have:=(vr r hr).h; omega) 2
    rw[if_pos k0,if_neg (by omega),t1]; rfl
   ·rw[if_neg k0]
    rcases sx with sx|⟨c,c2,ch,sc⟩
    ·exact absurd sx k0
    ·rcases sc with⟨cm,cu⟩|cn
     ·have t1:=Dt S cm ch cu (by simp[kk,c2])
      rw[c2]at t1
      have t2:0<=bB V k.cb 2:=ch ▸ kV cm (by simp[oe,c2])
      rw[t1,if_neg (by omega)]; rfl
     ·rw[I9 S cn,fX cn 2,if_pos (by omega)]
  ·generalize (if k.cb=0 then some (-1:Int)else eC z.ks k.cb)=tx
   rw[I9 S bn,fX bn 3,if_pos (by omega)]
 ·have r1:aO z.ms k.aQ=none:=by
   rw[S.ms]
   exact AB fun q hq=>an q (List.mem_filter.1 hq).1
  generalize (if k.cb=0 then some (-1:Int)else eC z.ks k.cb)=tx
  rw[r1,fX an 0,if_pos (by omega)]
theorem Du {L:List Rw} (rd:L.Pairwise fun a b=>a.h≠b.h) (I3:∀r ∈ L,fK r) (lay:Int) {z:jz} (S:AE (cC lay L) z):∀ (N:List In) (z':jz),z'.ms=z.ms->z'.pl=z.pl->z'.ks=z.ks->(∀k ∈ N,Fl L k)->(N.foldl (iP lay) z').s=N.foldl (dI (cC lay L) lay) z'.s
 |[],z',_,_,_,_=>rfl
 |k::N,z',e1,e2,e3,io=>by
  obtain⟨g1,g2,g3⟩:=qD lay z' k
  rw[List.foldl_cons,List.foldl_cons,Du rd I3 lay S N _ (g1.trans e1) (g2.trans e2) (g3.trans e3) (fun k hk=>io k (by simp[hk])),XN rd I3 lay S e1 e2 e3 (io k (by simp))]
theorem AF {t:Tb} {n:Nat} (ok:iD t n) (sd:oJ t) (lay:Int):(nG lay (aV t.rows) (cw t.ins)).s=vu lay (kP t):=by
 have rd:(aV t.rows).Pairwise fun a b=>a.h≠b.h:=(ng ok.rd).imp fun {a b} h=>by omega
 have S:=Dr lay (aV t.rows)
 unfold nG vu kP
 rw[Du rd (fun r hr=>ok.row r (dH.1 hr)) lay S _ _ rfl rfl rfl (fun k hk=>(sd.ok k (kO.1 hk)).mono (fun r h=>lJ ok.rd h) (fun r h=>lJ ok.rd h) (fun r h=>lJ ok.rd h)),S.s]
end Go.UM
namespace Go.UM
open Go.AM
set_option maxRecDepth 4000
structure Mf.I (w:Mf):Prop where
 id:bf .u64 w.id
 la:bf .u32 w.label
 fi:bf .u32 w.first
 li:bf .u32 w.last
 ms:∀i,bf .u8 (w.kf i)
structure Ac.I (c:Ac):Prop where
 t:c.i.t.I
 f:c.f.I
def fu (l:List Ac):Tb:=l.foldl (fun t c=>(rV t c.ju).1) ⟨[],[]⟩
theorem kW (l:List Ac) (c:Ac):fu (l++ [c])=(rV (fu l) c.ju).1:=by simp[fu]
structure XO (r:Rw):Prop where
 f:r.f.I
 x:r.a.x.t.length<=260
theorem Ja {t:Tb} {c:Ac} (h:∀r ∈ t.rows,XO r) (hc:c.f.I):∀r ∈ (rV t c.ju).1.rows,XO r:=by
 intro r hr
 unfold rV at hr
 split at hr
 ·rw[iW]at hr
  dsimp only at hr
  split at hr
  ·rcases List.mem_append.1 hr with q|q
   ·exact h r q
   ·simp only[List.mem_singleton]at q
    subst q
    exact⟨hc,by simp[Ac.ju,As.ju]; omega⟩
  ·exact h r hr
 ·split at hr
  ·unfold dE at hr
   split at hr
   ·exact h r (List.eraseP_sublist.subset hr)
   ·exact h r hr
  ·split at hr
   ·have e:(ij t c.ju.i).1.rows=t.rows:=by
     unfold ij
     repeat' split
     all_goals rfl
    rw[e]at hr
    exact h r hr
   ·unfold jx at hr
    split at hr
    ·exact h r hr
    ·exact h r hr
theorem pT:∀ (l:List Ac),(∀c ∈ l,c.I)->iD (fu l) l.length/\oJ (fu l)/\∀r ∈ (fu l).rows,XO r:=by
 intro l
 have:∀n,∀l:List Ac,l.length=n->(∀c ∈ l,c.I)->iD (fu l) l.length/\oJ (fu l)/\∀r ∈ (fu l).rows,XO r:=by
  intro n
  induction n with
  |zero=>
   intro l hl _
   rw[List.eq_nil_of_length_eq_zero hl]
   exact⟨An,IF,by simp[fu]⟩
  |succ n ih=>
   intro l hl hc
   obtain⟨m,c,rfl⟩:∃m c,l=m++ [c]:=⟨l.dropLast,l.getLast (by intro e; simp[e]at hl),(List.dropLast_concat_getLast _).symm⟩
   obtain⟨h1,h2,h3⟩:=ih m (by simpa using hl) (fun c lZ=>hc c (by simp[lZ]))
   have cI:=hc c (by simp)
   rw[kW,List.length_append]
   exact⟨Iw h1 (IL c),Rf h2 cI.t,Ja h3 cI.f⟩
 exact this _ l rfl
set_option maxHeartbeats 4000000 in
theorem AG {R:Env} (h:QF R) (l:List Ac) (hc:∀c ∈ l,c.I):R.Mc 490 [.aH 57 (jy l)] [] (.aN [.loc 2 1 0 0,.loc 3 1 0 0]) (ek R false false (fu (l.take 30))++ [(3,.var (R.ty 56) [.aH 40 (iM (aV (fu (l.take 30)).rows)),.aH 16 (cE (cw (fu (l.take 30)).ins))])]) 4:=
 h.abE.bC 200 0 rfl rfl rfl fun X bb hfit hp=>by
  refine sh ?_
  refine cM false [] (Ih h.n345) ?_
  repeat (intro _; first|refine eK ?_|refine eP ?_)
  refine sh ?_
  refine ao.inv 200 (fun i:Nat=>i<=30/\i<=l.length) (fun i=>⟨[(0,.aH 57 (jy l)),(4,.loc 2 1 0 0),(5,.loc 3 1 0 0),(6,.int .i64 i)],ek R false false (fu (l.take i))++ [(3,.var (R.ty 56) [.aH 40 (iM (aV (fu (l.take i)).rows)),.aH 16 (cE (cw (fu (l.take i)).ins))])],4⟩) (fun i=>30 - i) (0) ?_ ⟨⟨_,hp,rfl⟩,?_,?_⟩ ?_
  ·exact⟨Nat.zero_le _,Nat.zero_le _⟩
  ·exact iV
  ·refine pC ?_ ?_
   all_goals first|(show iM (aV [])=[]; simp[aV,iM]; done)|(show cE (cw [])=[]; simp[cw,cE]; done)
  ·rintro i ⟨hi,hil⟩
   dsimp only
   obtain⟨ok,sd,xr⟩:=pT (l.take i) (fun c lZ=>hc c (List.mem_of_mem_take lZ))
   rw[show (l.take i).length=i by rw[List.length_take]; omega]at ok
   refine sh ?_
   refine cS (fun h1=> ?_) (fun h1=> ?_)
   refine sh ?_
   refine cS (fun h2=> ?_) (fun h2=> ?_)
   ·obtain⟨c,lZ⟩:∃u_,l[i]? =some u_:=⟨_,List.getElem?_eq_getElem (by omega)⟩
    have hxc:=(hc c (List.mem_of_getElem? lZ)).t
    have okT:=Iw ok (c:=c.ju) (IL c)
    have cT:=Xv h.QG false false (fu (l.take i)) c.ju ok (by omega) (IL c) (Xz c) hxc
    have cR:=L4 h.QH (kP (fu (l.take i))) c.ju (fun r hr=>ok.row r (dH.1 hr)) (XH c) hxc (by have:=ok.rl; simp[kP]; omega) (by have:=ok.il; simp[kP,lL]; omega)
    rw[Rl ok]at cR
    dsimp only[kP]at cR
    rw[<-kW,<-ar lZ]at cT cR
    refine sh ?_
    refine aa lZ ?_
    refine sh ?_
    refine ae.pure h.Lf.WD.hb (LW h.Lf c) rfl ?_
    refine sh ?_
    refine cM false [0,1,2] (cT) ?_
    repeat (intro _; first|refine eK ?_|refine eP ?_)
    refine sh ?_
    refine cM false [3] (cR) ?_
    repeat (intro _; first|refine eK ?_|refine eP ?_)
    refine sh ?_
    refine kI (i+1) ?_ ?_
    ·exact⟨by omega,by omega⟩
    ·omega
   ·have e:i=30:=by omega
    subst e
    refine sh ?_
    exact rM [0,1,2,3]
   ·rw[show l.take i=l.take 30 by rw[List.take_of_length_le (by omega),List.take_of_length_le (by omega)]]
    refine sh ?_
    exact rM [0,1,2,3]
end Go.UM
namespace Go.UM
open Go.AM
set_option maxRecDepth 4000
structure FE (s:ej):Prop where
 m:∀m ∈ s.dD,∀x ∈ m.aP,bf .i64 x
 x:∀t ∈ s.cG,t.t.length<=256/\∀x ∈ t.aP,bf .i64 x
 l:∀t ∈ s.eB,∀x ∈ t.aP,bf .i64 x
 i:∀x ∈ s.ids,bf .u64 x
 b:∀x ∈ s.gH,bf .u32 x
 e:bf .u32 s.wS/\bf .u32 s.fr/\bf .u32 s.to
theorem Md {r:Rw} (o:fK r) (k:r.a.k=3):∀x ∈ r.a.mt.aP,bf .i64 x:=by
 have h:=(dG o.a).1
 rw[own,if_neg (by omega),if_neg (by omega),if_pos k]at h
 have:=ut h
 exact I5 (k:=r.a.mt.k) (a:=r.a.mt.c.a) (b:=r.a.mt.c.b) (c:=r.a.mt.c.c) (r:=r.a.mt.r) (by simp only[bf]; omega) (by simp only[bf]; omega) (by simp only[bf]; omega) (by simp only[bf]; omega) (by simp only[bf]; omega)
theorem Me {r:Rw} (o:fK r) (k:r.a.k=4):∀x ∈ r.a.li.aP,bf .i64 x:=by
 have h:=(dG o.a).1
 rw[own,if_neg (by omega),if_neg (by omega),if_neg (by omega),if_pos k]at h
 obtain⟨h0,h1,h2,h3,h4⟩:=ur h
 exact FC (by simp only[bf]; omega) ⟨by simp only[bf]; omega,by simp only[bf]; omega,by simp only[bf]; omega⟩ ⟨by simp only[bf]; omega,by simp only[bf]; omega,by simp only[bf]; omega⟩
  ⟨by simp only[bf]; omega,by simp only[bf]; omega,by simp only[bf]; omega⟩ ⟨by simp only[bf]; omega,by simp only[bf]; omega,by simp only[bf]; omega⟩
theorem Mg {r:Rw} (o:fK r) (k:r.a.k=2):r.a.x.t.length<=256/\∀x ∈ r.a.x.aP,bf .i64 x:=by
 have h:=(dG o.a).1
 rw[own,if_neg (by omega),if_pos k]at h
 have hl:=Ii h
 obtain⟨s,_,g⟩:=sg h
 refine⟨hl,I6 ⟨?_,fun p hp=> ?_⟩ (by omega)⟩
 ·have:=lE s
  simp only[bf]; omega
 ·have:=(T3.fm p).1 (List.all_eq_true.1 g p hp)
  exact⟨by simp only[bf]; omega,by simp only[bf]; omega,by simp only[bf]; omega⟩
theorem Rv {s:ej} {r:Rw} (h:FE s) (o:fK r) (f:r.f.I):FE (dK s r):=by
 obtain⟨h1,h2,h3,h4,h5,h6,h7,h8⟩:=h
 have app:∀ {α:Type} {P:α->Prop} {l:List α} {y:α},(∀x ∈ l,P x)->P y->∀x ∈ l++ [y],P x:=fun hl hy x hx=>by
  rcases List.mem_append.1 hx with q|q
  ·exact hl x q
  ·simp only[List.mem_singleton]at q
   subst q; exact hy
 unfold dK
 refine⟨?_,?_,?_,app h4 f.id,app h5 f.la,IP _ _,?_,?_⟩
 ·dsimp only
  split
  ·exact app h1 (Md o (by assumption))
  ·exact h1
 ·dsimp only
  split
  ·exact app (P:=fun t:ii=>t.t.length<=256/\∀x ∈ t.aP,bf .i64 x) h2 (Mg o (by assumption))
  ·exact h2
 ·dsimp only
  split
  ·exact app h3 (Me o (by assumption))
  ·exact h3
 ·have:=f.fi
  simp only[bf]at this h7 ⊢
  omega
 ·have:=f.li
  simp only[bf]at this h8 ⊢
  omega
theorem Jb:∀ (V:List Rw) (s:ej),FE s->(∀r ∈ V,fK r/\r.f.I)->FE (V.foldl dK s)
 |[],s,h,_=>h
 |r::V,s,h,o=>Jb V _ (Rv h (o r (by simp)).1 (o r (by simp)).2) fun q hq=>o q (by simp[hq])
theorem XP:FE ej.rA:=⟨by simp[ej.rA],by simp[ej.rA],by simp[ej.rA],by simp[ej.rA],by simp[ej.rA],⟨by decide,by decide⟩,⟨by decide,by decide⟩,⟨by decide,by decide⟩⟩
structure XQ (p:T3):Prop where
 a: -65536<=p.a/\p.a<=65536
 b: -65536<=p.b/\p.b<=65536
 c: -65536<=p.c/\p.c<=65536
theorem uM (a:Af) (p:T3):XQ (bW a p).1:=by
 have hz:XQ z3:=⟨by decide,by decide,by decide⟩
 unfold bW
 split
 ·exact hz
 ·unfold n2
  split
  ·exact hz
  ·rename_i hn
   simp only[EN,Bool.or_eq_true,decide_eq_true_eq,not_or]at hn
   simp only[Lq]
   exact⟨by dsimp only; omega,by dsimp only; omega,by dsimp only; omega⟩
structure FF (nm nx ni:Nat) (t:sm):Prop where
 p:XQ t.p
 q:XQ t.q
 r:XQ t.r
 u:(0<=t.ua/\t.ua<=65535/\0<=t.ub/\t.ub<=65535)/\(0<=t.va/\t.va<=65535/\0<=t.vb/\t.vb<=65535)/\(0<=t.wa/\t.wa<=65535/\0<=t.wb/\t.wb<=65535)
 df:0<=t.df/\t.df<nm
 cb: -1<=t.cb/\t.cb<nx
 obj:0<=t.obj/\t.obj<ni
 kf:t.kf≠0/\bf .u8 t.kf
theorem Cg {α:Type} (p:α->Bool) (l:List α): -1<=pQ p l/\pQ p l<l.length:=by
 rcases fT p l with⟨i,r,e1,e2,_⟩|⟨e1,_⟩
 ·have:=(List.getElem?_eq_some_iff.1 e2).1
  omega
 ·omega
theorem XR {x:Af} {m:Ms} (rm:m.R2) {df cb obj kf:Int} {nm nx ni:Nat} (h1:0<=df/\df<nm) (h2: -1<=cb/\cb<nx) (h3:0<=obj/\obj<ni) (h4:kf≠0/\bf .u8 kf) {c:T3} (hc:c ∈ m.t):FF nm nx ni (kU x m df cb obj kf c):=by
 have uV:=rm.pt c hc
 have huv:=rm.uv
 have u:∀i:Int,0<=i->i<m.v.length->0<=(FU m.uv i).1/\(FU m.uv i).1<=65535/\0<=(FU m.uv i).2/\(FU m.uv i).2<=65535:=fun i i1 i2=>by
  obtain⟨y,hy⟩:∃y,m.uv[i.toNat]? =some y:=⟨_,List.getElem?_eq_getElem (by omega)⟩
  rw[fq hy]
  exact rm.pu y (List.mem_of_getElem? hy)
 exact⟨uM _ _,uM _ _,uM _ _,⟨u c.a (by omega) (by omega),u c.b (by omega) (by omega),u c.c (by omega) (by omega)⟩,h1,h2,h3,h4⟩
theorem Mh {f:Mf} (h:f.I) (lay:Int):bf .u8 (dC f lay):=by
 unfold dC
 split
 ·exact⟨by decide,by decide⟩
 ·exact h.ms _
theorem Mi {V:List Rw} {lay:Int} (vo:∀r ∈ V,fK r/\r.f.I/\dC r.f lay≠0) {s:ej} {k:In} (mk:∀r ∈ V,r.h=k.aQ->r.a.k=1) {nm nx ni:Nat} (em:nm=(V.filter (oe 3)).length) (ex:nx=(V.filter (oe 2)).length) (ei:ni=V.length) (h:∀t ∈ s.cz,FF nm nx ni t):
  ∀t ∈ (dI V lay s k).cz,FF nm nx ni t:=by
 unfold dI
 split
 ·exact h
 ·rename_i hn
  split
  ·rename_i r hr
   intro t ht
   rcases List.mem_append.1 ht with q|q
   ·exact h t q
   ·obtain⟨c,hc,rfl⟩:=List.mem_map.1 q
    have hm:=List.mem_of_getElem? hr
    obtain⟨v1,v2,v3⟩:=vo r hm
    have rh:r.h=k.aQ:=by
     rcases pS V k.aQ with⟨o,r',q1,q2,q3⟩|q1
     ·rw[q1,Int.toNat_natCast,q2]at hr
      rw[<-Option.some.inj hr]; exact q3
     ·omega
    have k1:=mk r hm rh
    have rm:=jt (by have:=(dG v1.a).1; rw[own,if_pos k1]at this; exact this)
    have p3:=Cg (dJ k.df) (V.filter (oe 3))
    have p2:=Cg (dJ k.cb) (V.filter (oe 2))
    have p0:=Cg (dJ k.aQ) (V.filter (oe 0))
    rw[Dp]at p0
    have e0:bB V k.aQ 0=pQ (dJ k.aQ) V:=by rw[bB,Dp]
    have e3:bB V k.df 3=pQ (dJ k.df) (V.filter (oe 3)):=rfl
    have e2:bB V k.cb 2=pQ (dJ k.cb) (V.filter (oe 2)):=rfl
    exact XR rm (by omega) (by omega) (by omega) ⟨v3,Mh v2 lay⟩ hc
  ·exact h
theorem Dv (V:List Rw) (lay:Int):∀ (N:List In) (s:ej),∃T,N.foldl (dI V lay) s=⟨T,s.dD,s.cG,s.eB,s.ids,s.gH,s.wS,s.fr,s.to⟩
 |[],s=>⟨s.cz,rfl⟩
 |k::N,s=>by
  obtain⟨T,hT⟩:=Dv V lay N (dI V lay s k)
  refine⟨T,?_⟩
  rw[List.foldl_cons,hT]
  unfold dI
  repeat' split
  all_goals rfl
theorem wW {V:List Rw} {lay:Int} (vo:∀r ∈ V,fK r/\r.f.I/\dC r.f lay≠0) {nm nx ni:Nat} (em:nm=(V.filter (oe 3)).length) (ex:nx=(V.filter (oe 2)).length) (ei:ni=V.length):∀ (N:List In) (s:ej),(∀k ∈ N,∀r ∈ V,r.h=k.aQ->r.a.k=1)->
  (∀t ∈ s.cz,FF nm nx ni t)->∀t ∈ (N.foldl (dI V lay) s).cz,FF nm nx ni t
 |[],s,_,h=>h
 |k::N,s,mk,h=>wW vo em ex ei N _ (fun q hq=>mk q (by simp[hq])) (Mi vo (mk k (by simp)) em ex ei h)
structure Rz (n:Nat) (s:ej):Prop where
 o:FE s
 t:∀t ∈ s.cz,FF s.dD.length s.cG.length s.ids.length t
 nt:s.cz.length<=64*n
 nm:s.dD.length+s.cG.length+s.eB.length<=s.ids.length
 ni:s.ids.length<=n
 nb:s.gH.length<=n
 w:s.fr<=s.to\/ 0<s.ids.length
theorem RA {t:Tb} {n:Nat} (ok:iD t n) (sd:oJ t) (xr:∀r ∈ t.rows,XO r) (lay:Int):Rz n (vu lay (kP t)):=by
 have S:=Dr lay (aV t.rows)
 have vs:∀r ∈ cC lay (aV t.rows),fK r/\r.f.I/\dC r.f lay≠0:=fun r hr=>by
  obtain⟨h1,h2⟩:=List.mem_filter.1 hr
  have h1:=dH.1 h1
  exact⟨ok.row r h1,(xr r h1).f,by simpa[kj]using h2⟩
 have vl:(cC lay (aV t.rows)).length<=n:=Nat.le_trans (List.length_filter_le _ _) (by rw[gA]; exact ok.rl)
 have mk:∀k ∈ cw t.ins,∀r ∈ cC lay (aV t.rows),r.h=k.aQ->r.a.k=1:=fun k hk r hr e=>by
  obtain⟨a,_,i1,i2,_⟩:=sd.ok k (kO.1 hk)
  have hm:=dH.1 (List.mem_filter.1 hr).1
  have:=ez ok.rd hm
  rw[e,i1]at this
  have e2:a=r:=Option.some.inj this
  exact (ok.row r hm).k.symm.trans (e2 ▸ i2)
 unfold vu kP
 dsimp only
 have o0:=Jb (cC lay (aV t.rows)) ej.rA XP fun r hr=>⟨(vs r hr).1,(vs r hr).2.1⟩
 have hm:∀ (V:List Rw) (s:ej),s.dD.length+s.cG.length+s.eB.length<=s.ids.length->(V.foldl dK s).dD.length+ (V.foldl dK s).cG.length+ (V.foldl dK s).eB.length<=(V.foldl dK s).ids.length:=by
  intro V
  induction V with
  |nil=>intro s h; exact h
  |cons r V ih=>
   intro s h
   refine ih _ ?_
   unfold dK
   dsimp only
   rw[List.length_append,List.length_singleton]
   repeat' split
   all_goals (try simp only[List.length_append,List.length_singleton])
   all_goals omega
 have hm:=hm (cC lay (aV t.rows)) ej.rA (by simp[ej.rA])
 have hb:=Do (cC lay (aV t.rows)) ej.rA 0 ⟨rfl,Nat.le_refl _,Nat.le_refl _,Nat.le_refl _,Nat.le_refl _,Nat.le_refl _⟩
 have l1:=S.li
 have l2:=S.lm
 have l3:=S.lx
 rw[S.s]at l1 l2 l3
 have tr:=wW vs l2 l3 l1 (cw t.ins) ((cC lay (aV t.rows)).foldl dK ej.rA) mk (by rw[hb.t]; simp)
 have tl:=Dq (V:=cC lay (aV t.rows)) (fun r hr=>I8 (vs r hr).1) lay (cw t.ins) ((cC lay (aV t.rows)).foldl dK ej.rA)
 rw[hb.t]at tl
 obtain⟨T,hT⟩:=Dv (cC lay (aV t.rows)) lay (cw t.ins) ((cC lay (aV t.rows)).foldl dK ej.rA)
 rw[hT]at tr tl ⊢
 have il:=ok.il
 rw[lL]at tl
 have b5:=hb.b
 have hw:((cC lay (aV t.rows)).foldl dK ej.rA).fr<=((cC lay (aV t.rows)).foldl dK ej.rA).to\/ 0< ((cC lay (aV t.rows)).foldl dK ej.rA).ids.length:=by
  cases hV:cC lay (aV t.rows)with
  |nil=>exact .inl (by decide)
  |cons a V=>
   rw[hV]at l1
   exact .inr (by rw[l1]; simp)
 refine⟨⟨o0.m,o0.x,o0.l,o0.i,o0.b,o0.e⟩,tr,?_,hm,?_,?_,hw⟩
 ·simp only[List.length_nil]at tl
  dsimp only at tl ⊢
  omega
 ·dsimp only; omega
 ·dsimp only; omega
theorem Rz.ok {n:Nat} {s:ej} (h:Rz n s) (hn:n<=30):s.Ok:=by
 obtain⟨o,t,nt,nm,ni,nb,_⟩:=h
 refine⟨by omega,by omega,⟨by omega,fun t ht=>by have:=(o.x t ht).1; omega⟩,by omega,by omega,by omega,fun x hx=> ?_,o.m,fun t ht=>(o.x t ht).2,o.l,o.i,o.b,o.e⟩
 obtain⟨⟨p1,p2,p3⟩,⟨q1,q2,q3⟩,⟨r1,r2,r3⟩,⟨u,v,w⟩,a1,a2,a3,a4⟩:=t x hx
 refine⟨⟨?_,?_,?_⟩,⟨?_,?_,?_⟩,⟨?_,?_,?_⟩,⟨?_,?_⟩,⟨?_,?_⟩,⟨?_,?_⟩,?_,?_,?_,a4.2⟩
 all_goals (simp only[bf]; omega)
end Go.UM
namespace Go.UM
open Go.AM
set_option maxRecDepth 4000
def ej.no:ej:=⟨[],[],[],[],[],[],0,0,0⟩
theorem ab0 {id kind label m0 m1 m2 m3 m4 m5 m6 m7 first last size chunks:Int} (h0:bf .u64 id) (h2:bf .u32 label) (g0:bf .u8 m0) (g1:bf .u8 m1) (g2:bf .u8 m2) (g3:bf .u8 m3) (g4:bf .u8 m4) (g5:bf .u8 m5) (g6:bf .u8 m6) (g7:bf .u8 m7) (h3:bf .u32 first) (h4:bf .u32 last):
  Mf.I ⟨id,kind,label,m0,m1,m2,m3,m4,m5,m6,m7,first,last,size,chunks⟩:=
 ⟨h0,h2,h3,h4,fun i=>by
   match i with
   |0=>exact g0
   |1=>exact g1
   |2=>exact g2
   |3=>exact g3
   |4=>exact g4
   |5=>exact g5
   |6=>exact g6
   |7=>exact g7
   |n+8=>exact (⟨by decide,by decide⟩:bf .u8 0)⟩
end Go.UM
namespace Go.UM
open Go.AM
set_option maxRecDepth 4000
theorem RB (x:Int) (h:0<=x):0<=x.tmod 8/\x.tmod 8<8:=by
 rw[Int.tmod_eq_emod_of_nonneg h]
 omega
theorem tm8 (x:Int): -7<=x.tmod 8/\x.tmod 8<=7:=by
 rcases Int.le_total 0 x with h|h
 ·have:=RB x h; omega
 ·have:=RB (-x) (by omega)
  rw[Int.neg_tmod]at this
  omega
end Go.UM
namespace Go.UM
open Go.AM
set_option maxRecDepth 4000
def vw (H:Int->Bool) (r:Rw):Bool:= !H r.h
def nH (H:Int->Bool) (x:In):Bool:=H x.aQ||(H x.df||(decide (x.cb≠0)&&H x.cb))
def qE (H:Int->Bool) (c:Ac):Bool:=if c.k=0\/ c.k=1 then H c.h else nH H c.i
def ik (H:Int->Bool) (t:Tb):Tb:=⟨t.rows.filter (vw H),t.ins.filter fun x=> !nH H x⟩
theorem jA {H:Int->Bool} {h:Int} (hh:H h=false):∀l:List Rw,aO (l.filter (vw H)) h=aO l h
 |[]=>rfl
 |r::l=>by
  have ih:=jA hh l
  unfold aO at ih ⊢
  rw[List.filter_cons]
  by_cases e:r.h=h
  ·have:vw H r=true:=by simp[vw,e,hh]
   simp[this,List.find?_cons,e]
  ·have hb:(r.h==h)=false:=by simpa using e
   split
   ·rw[List.find?_cons,List.find?_cons,hb]; exact ih
   ·rw[List.find?_cons,hb]; exact ih
theorem qF {H:Int->Bool} {x y:In} (h:ba x y=true):nH H x=nH H y:=by
 obtain⟨h1,h2,h3,_⟩:=dX.1 h
 unfold nH
 rw[h1,h2,h3]
theorem AH {H:Int->Bool} {x:In} (hx:nH H x=false) (l:List In):(dB (l.filter fun x=> !nH H x) x).isSome=(dB l x).isSome:=by
 unfold dB
 rw[Bool.eq_iff_iff,List.find?_isSome,List.find?_isSome]
 exact⟨fun⟨y,h1,h2⟩=>⟨y,(List.mem_filter.1 h1).1,h2⟩,fun⟨y,h1,h2⟩=>⟨y,List.mem_filter.2 ⟨h1,by rw[<-qF h2,hx]; rfl⟩,h2⟩⟩
theorem nu {α:Type} {p q:α->Bool} (h:∀x,q x=true->p x=true):∀l:List α,(l.filter p).eraseP q=(l.eraseP q).filter p
 |[]=>rfl
 |a::l=>by
  by_cases hq:q a=true
  ·rw[List.filter_cons,if_pos (h a hq),List.eraseP_cons_of_pos hq,List.eraseP_cons_of_pos hq]
  ·rw[List.eraseP_cons_of_neg hq,List.filter_cons,List.filter_cons]
   split
   ·rw[List.eraseP_cons_of_neg hq,nu h l]
   ·exact nu h l
theorem qG {α:Type} {p q:α->Bool} (h:∀x,q x=true->p x=false):∀l:List α,(l.eraseP q).filter p=l.filter p
 |[]=>rfl
 |a::l=>by
  by_cases hq:q a=true
  ·rw[List.eraseP_cons_of_pos hq,List.filter_cons,if_neg (by rw[h a hq]; simp)]
  ·rw[List.eraseP_cons_of_neg hq,List.filter_cons,List.filter_cons,qG h l]
theorem Ch {H:Int->Bool} {x:In} (hx:nH H x=false) (l:List Rw):bF (l.filter (vw H)) x=bF l x:=by
 simp only[nH,Bool.or_eq_false_iff,Bool.and_eq_false_iff,decide_eq_false_iff_not]at hx
 unfold bF
 rw[jA hx.1,jA hx.2.1]
 cases aO l x.aQ with
 |none=>rfl
 |some a=>
  cases aO l x.df with
  |none=>rfl
  |some b=>
   dsimp only
   by_cases h0:x.cb=0
   ·rw[if_pos h0,if_pos h0]
   ·rw[if_neg h0,if_neg h0,jA (by rcases hx.2.2 with k|k; exact absurd h0 k; exact k)]
theorem Dw {c:Ac} (k:c.k=0) (t:Tb):rV t c=gz t c.h c.f c.a:=if_pos k
theorem Dx {c:Ac} (k:c.k=1) (t:Tb):rV t c=dE t c.h:=by unfold rV; rw[if_neg (by omega),if_pos k]
theorem Dy {c:Ac} (k:c.k=2) (t:Tb):rV t c=ij t c.i:=by unfold rV; rw[if_neg (by omega),if_neg (by omega),if_pos k]
theorem Dz {c:Ac} (k0:c.k≠0) (k1:c.k≠1) (k2:c.k≠2) (t:Tb):rV t c=jx t c.i:=by unfold rV; rw[if_neg k0,if_neg k1,if_neg k2]
theorem Mj {H:Int->Bool} {t:Tb} {n:Nat} (ok:iD t n) {c:Ac} (hA:qE H c=true):ik H (rV t c).1=ik H t:=by
 unfold qE at hA
 by_cases k0:c.k=0
 ·rw[if_pos (.inl k0)]at hA
  rw[Dw k0,iW]
  dsimp only
  split
  ·unfold ik
   dsimp only
   rw[List.filter_append]
   simp[vw,hA]
  ·rfl
 ·by_cases k1:c.k=1
  ·rw[if_pos (.inr k1)]at hA
   rw[Dx k1]
   unfold dE
   split
   ·rename_i hs
    obtain⟨r,hr⟩:=Option.isSome_iff_exists.1 hs
    have h1:=(ok.row r (bZ hr).1).h
    have h2:=(bZ hr).2
    unfold ik
    dsimp only
    congr 1
    ·exact qG (fun x q=>by
      have q:x.h=c.h:=by simpa using q
      simp[vw,q,hA]) _
    ·rw[List.filter_filter]
     refine List.filter_congr fun x _=> ?_
     cases hx:nH H x with
     |true=>simp
     |false=>
      simp only[nH,Bool.or_eq_false_iff,Bool.and_eq_false_iff,decide_eq_false_iff_not]at hx
      obtain⟨a1,a2,a3⟩:=hx
      have b1:x.aQ≠c.h:=fun e=>by rw[e,hA]at a1; cases a1
      have b2:x.df≠c.h:=fun e=>by rw[e,hA]at a2; cases a2
      have b3:x.cb≠c.h:=fun e=>by
       rcases a3 with a3|a3
       ·exact a3 (by omega)
       ·rw[e,hA]at a3; cases a3
      simp[fD,b1,b2,b3]
   ·rfl
  ·rw[if_neg (by omega)]at hA
   by_cases k2:c.k=2
   ·rw[Dy k2]
    unfold ij
    repeat' split
    all_goals first|rfl|skip
    all_goals (unfold ik; dsimp only; rw[List.filter_append]; simp[hA])
   ·rw[Dz k0 k1 k2]
    unfold jx
    split
    ·unfold ik
     dsimp only
     congr 1
     exact qG (fun x q=>by rw[<-qF q,hA]; rfl) _
    ·rfl
theorem Mk {H:Int->Bool} (t:Tb) {c:Ac} (hA:qE H c=false):ik H (rV t c).1=(rV (ik H t) c).1:=by
 unfold qE at hA
 by_cases k0:c.k=0
 ·rw[if_pos (.inl k0)]at hA
  have e:(aO (ik H t).rows c.h).isSome=(aO t.rows c.h).isSome:=by rw[ik,jA hA]
  rw[Dw k0,Dw k0,iW,iW,e]
  dsimp only
  split
  ·unfold ik
   dsimp only
   rw[List.filter_append]
   simp[vw,hA]
  ·rfl
 ·by_cases k1:c.k=1
  ·rw[if_pos (.inr k1)]at hA
   have e:(aO (ik H t).rows c.h).isSome=(aO t.rows c.h).isSome:=by rw[ik,jA hA]
   rw[Dx k1,Dx k1]
   unfold dE
   rw[e]
   split
   ·unfold ik
    dsimp only
    congr 1
    ·exact (nu (fun x q=>by
      have q:x.h=c.h:=by simpa using q
      simp[vw,q,hA]) _).symm
    ·rw[List.filter_filter,List.filter_filter]
     exact List.filter_congr fun x _=>Bool.and_comm _ _
   ·rfl
  ·rw[if_neg (by omega)]at hA
   by_cases k2:c.k=2
   ·rw[Dy k2,Dy k2]
    have hm:H c.i.aQ=false:=by
     simp only[nH,Bool.or_eq_false_iff]at hA
     exact hA.1
    have e1:bF (ik H t).rows c.i=bF t.rows c.i:=Ch hA _
    have e2:(dB (ik H t).ins c.i).isSome=(dB t.ins c.i).isSome:=AH hA _
    have e3:aO (ik H t).rows c.i.aQ=aO t.rows c.i.aQ:=jA hm _
    unfold ij
    rw[e1,e2,e3]
    split
    ·rfl
    ·split
     ·rfl
     ·split
      ·rfl
      ·split
       ·rfl
       ·split
        ·rfl
        ·unfold ik
         dsimp only
         rw[List.filter_append]
         simp[hA]
   ·rw[Dz k0 k1 k2,Dz k0 k1 k2]
    have e2:(dB (ik H t).ins c.i).isSome=(dB t.ins c.i).isSome:=AH hA _
    unfold jx
    rw[e2]
    split
    ·unfold ik
     dsimp only
     congr 1
     exact (nu (fun x q=>by rw[<-qF q,hA]; rfl) _).symm
    ·rfl
end Go.UM
namespace Go.UM
open Go.AM
set_option maxRecDepth 4000
theorem AI {α:Type} {P:List α->Prop} (h0:P []) (hs:∀l x,P l->P (l++ [x])) (l:List α):P l:=by
 have:∀n,∀l:List α,l.length=n->P l:=by
  intro n
  induction n with
  |zero=>intro l hl; rw[List.eq_nil_of_length_eq_zero hl]; exact h0
  |succ n ih=>
   intro l hl
   obtain⟨m,c,rfl⟩:∃m c,l=m++ [c]:=⟨l.dropLast,l.getLast (by intro e; simp[e]at hl),(List.dropLast_concat_getLast _).symm⟩
   exact hs m c (ih m (by simpa using hl))
 exact this _ l rfl
theorem Jc (H:Int->Bool) (l:List Ac):(∀c ∈ l,c.I)->fu (l.filter fun c=> !qE H c)=ik H (fu l):=by
 refine AI (P:=fun l=>(∀c ∈ l,Ac.I c)->fu (l.filter fun c=> !qE H c)=ik H (fu l)) (fun _=>rfl) (fun m c ih hc=> ?_) l
 have hm:∀c ∈ m,c.I:=fun q hq=>hc q (by simp[hq])
 have ih:=ih hm
 rw[List.filter_append,kW]
 cases hA:qE H c with
 |true=>
  rw[Mj (pT m hm).1 (c:=c.ju) hA]
  simp[hA,ih]
 |false=>
  rw[Mk (fu m) (c:=c.ju) hA,<-ih,<-kW]
  simp[hA]
theorem Jd (l:List Ac):∀r ∈ (fu l).rows,∃c ∈ l,c.k=0/\c.h=r.h/\c.f=r.f:=by
 refine AI (P:=fun l=>∀r ∈ (fu l).rows,∃c ∈ l,c.k=0/\c.h=r.h/\c.f=r.f) (by simp[fu]) (fun m c ih r hr=> ?_) l
 have old:r ∈ (fu m).rows->∃q ∈ m++ [c],q.k=0/\q.h=r.h/\q.f=r.f:=fun h=>by
  obtain⟨q,h1,h2⟩:=ih r h
  exact⟨q,by simp[h1],h2⟩
 rw[kW]at hr
 by_cases k0:c.k=0
 ·rw[Dw (c:=c.ju) k0,iW]at hr
  dsimp only at hr
  split at hr
  ·rcases List.mem_append.1 hr with q|q
   ·exact old q
   ·simp only[List.mem_singleton]at q
    subst q
    exact⟨c,by simp,k0,rfl,rfl⟩
  ·exact old hr
 ·by_cases k1:c.k=1
  ·rw[Dx (c:=c.ju) k1]at hr
   unfold dE at hr
   split at hr
   ·exact old (List.eraseP_sublist.subset hr)
   ·exact old hr
  ·by_cases k2:c.k=2
   ·rw[Dy (c:=c.ju) k2]at hr
    have e:(ij (fu m) c.ju.i).1.rows=(fu m).rows:=by
     unfold ij
     repeat' split
     all_goals rfl
    rw[e]at hr
    exact old hr
   ·rw[Dz (c:=c.ju) k0 k1 k2]at hr
    unfold jx at hr
    split at hr
    ·exact old hr
    ·exact old hr
theorem yu {l:List Rw} (rd:l.Pairwise fun a b=>a.h≠b.h) (p:Rw->Bool):(aV l).filter p=aV (l.filter p):=
 lK (rd.sublist List.filter_sublist) ((oK l).filter p) ((qz l).sublist List.filter_sublist)
theorem wX {V:List Rw} {lay:Int} {p:In->Bool}:∀ (N:List In) (s:ej),(∀k ∈ N,p k=false->∀s,dI V lay s k=s)->(N.filter p).foldl (dI V lay) s=N.foldl (dI V lay) s
 |[],s,_=>rfl
 |k::N,s,h=>by
  have ih:=fun s=>wX N s fun q hq=>h q (by simp[hq])
  rw[List.filter_cons,List.foldl_cons]
  split
  ·rw[List.foldl_cons,ih]
  ·rename_i hp
   rw[ih,h k (by simp) (by simpa using hp)]
theorem Je {H:Int->Bool} {t:Tb} {n:Nat} (ok:iD t n) (lay:Int) (hH:∀r ∈ t.rows,H r.h=true->dC r.f lay=0):vu lay (kP (ik H t))=vu lay (kP t):=by
 have e1:cC lay (aV (ik H t).rows)=cC lay (aV t.rows):=by
  unfold cC ik
  rw[<-yu ok.rd,List.filter_filter]
  refine List.filter_congr fun r hr=> ?_
  cases hs:kj lay r with
  |false=>rfl
  |true=>
   have:H r.h=false:=by
    cases hh:H r.h with
    |false=>rfl
    |true=>
     have:=hH r (dH.1 hr) hh
     simp[kj,this]at hs
   simp[vw,this]
 have hn:∀r ∈ cC lay (aV t.rows),H r.h=false:=fun r hr=>by
  obtain⟨h1,h2⟩:=List.mem_filter.1 hr
  cases hh:H r.h with
  |false=>rfl
  |true=>
   have:=hH r (dH.1 h1) hh
   simp[kj,this]at h2
 have e2:cw (ik H t).ins=(cw t.ins).filter fun x=> !nH H x:=(pN ok.nd _).symm
 unfold vu kP
 dsimp only
 rw[e1,e2]
 refine wX _ _ fun k _ hk s=> ?_
 have hk:nH H k=true:=by simpa using hk
 have none:∀h,H h=true->∀q,bB (cC lay (aV t.rows)) h q= -1:=fun h hh q=>fX (fun r hr e=>by
  have:=hn r hr
  rw[e,hh]at this; cases this) q
 unfold dI
 simp only[nH,Bool.or_eq_true,Bool.and_eq_true,decide_eq_true_eq]at hk
 rcases hk with h|h|⟨h0,h⟩
 ·rw[if_pos (.inl (by rw[none _ h]; decide))]
 ·rw[if_pos (.inr (.inl (by rw[none _ h]; decide)))]
 ·rw[if_pos (.inr (.inr ⟨by rw[none _ h]; decide,h0⟩))]
def yv (l:List Ac) (lay h:Int):Bool:=l.all fun c=> !(decide (c.k=0)&&(decide (c.h=h)&&decide (c.f.kf lay.toNat≠0)))
theorem Jf (l:List Ac) (hc:∀c ∈ l,c.I) (lay:Int) (hl:0<=lay/\lay<8):vu lay (kP (fu (l.filter fun c=> !qE (yv l lay) c)))=vu lay (kP (fu l)):=by
 rw[Jc _ l hc]
 refine Je (pT l hc).1 lay fun r hr hh=> ?_
 obtain⟨c,h1,h2,h3,h4⟩:=Jd l r hr
 have:=List.all_eq_true.1 hh c h1
 simp[h2,h3]at this
 unfold dC
 rw[if_neg (by omega),<-h4]
 exact this
end Go.UM
namespace Go.UM
open Go.AM
set_option maxRecDepth 4000
def yw (lay h:Int) (c:Ac):Bool:= !(decide (c.k=0)&&(decide (c.h=h)&&decide (c.f.kf lay.toNat≠0)))
theorem Mn (l:List Ac) (lay h:Int):yv l lay h=l.all (yw lay h):=rfl
theorem FG (l:List Ac) (i:Nat):(jy l).take i=jy (l.take i):=by simp[jy,List.map_take]
theorem Jg (a b:List Ac):jy (a++b)=jy a++jy b:=by simp[jy]
theorem all_succ {α:Type} {p:α->Bool} {l:List α} {i:Nat} {x:α} (h:l[i]? =some x) (ha:(l.take i).all p=true) (hx:p x=true):(l.take (i+1)).all p=true:=by
 rw[ar h,List.all_append,ha]; simp[hx]
set_option maxHeartbeats 4000000 in
theorem Jh {R:Env} (h:QD R) (l:List Ac) (hd lay:Int) (XS:0<=lay/\lay<8) (hl:l.length<=30):R.Pc 504 [.aH 57 (jy l),.int .i64 hd,.int .i64 lay] (.bool (yv l lay hd)):=
 h.EL.enter 100 rfl fun X bb hfit hp=>by
  rw[Mn]
  refine sh ?_
  refine gD 100 (fun i:Nat=>i<=l.length/\(l.take i).all (yw lay hd)=true) (fun i=>⟨[(0,.aH 57 (jy l)),(1,.int .i64 hd),(2,.int .i64 lay),(7,.int .i64 i)],[],0⟩) (fun i=>l.length - i) (0) ?_ ?_
  ·exact⟨Nat.zero_le _,rfl⟩
  ·intro i hi
   dsimp only
   refine sh ?_
   refine cS (fun h1=> ?_) (fun h1=> ?_)
   ·refine sh ?_
    refine af (by simp; omega) ?_
    obtain⟨c,hc⟩:∃u_,l[i]? =some u_:=⟨_,List.getElem?_eq_getElem (by first|omega|(simp<;>omega))⟩
    refine sh ?_
    refine aa hc ?_
    refine sh ?_
    refine cS (fun b1=> ?_) (fun b1=> ?_)
    ·refine sh ?_
     refine aa hc ?_
     refine sh ?_
     refine cS (fun b2=> ?_) (fun b2=> ?_)
     ·refine sh ?_
      refine aa hc ?_
      have e0:yw lay hd c= !decide (c.f.kf lay.toNat≠0):=by simp[yw,b1,b2]
      refine st ?_
      obtain h3|h3|h3|h3|h3|h3|h3|h3:lay=0\/ lay=1\/ lay=2\/ lay=3\/ lay=4\/ lay=5\/ lay=6\/ lay=7:=by omega
      all_goals subst h3; intro _u; clear _u
      all_goals first|refine iH 0 rfl rfl ?_|refine iH 1 rfl rfl ?_|refine iH 2 rfl rfl ?_|refine iH 3 rfl rfl ?_|refine iH 4 rfl rfl ?_|refine iH 5 rfl rfl ?_|refine iH 6 rfl rfl ?_|refine iH 7 rfl rfl ?_
      all_goals
       refine sh ?_
       refine cS (fun b3=> ?_) (fun b3=> ?_)
       ·refine sh ?_
        refine rT ?_
        all_goals repeat' (first|exact True.intro|refine And.intro ?_ ?_|(intro _u; clear _u)|(with_reducible first|exact fY.fg|refine eM ?_ ?_|refine eF ?_ ?_ ?_|refine eN ?_|refine eL ?_ ?_ ?_|refine eA ?_ ?_|refine oB.mk ⟨_,hp,rfl⟩ ?_ ?_)|refine oB.mk ⟨_,hp,rfl⟩ ?_ ?_)
        all_goals try first|with_reducible rfl|omega|exact .inl (by decide)|(simp; done)|rfl
        refine (List.all_eq_false.2 ⟨c,List.mem_of_getElem? hc,?_⟩).symm
        rw[e0,decide_eq_true (by exact b3)]
        decide
       ·refine sh ?_
        refine kI (i+1) ?_ ?_
        ·exact⟨by omega,all_succ hc hi.2 (by rw[e0,decide_eq_false (fun k=>k b3)]; rfl)⟩
        ·omega
     ·have e:yw lay hd c=true:=by simp[yw,b2]
      refine sh ?_
      refine kI (i+1) ?_ ?_
      ·exact⟨by omega,all_succ hc hi.2 e⟩
      ·omega
    ·have e:yw lay hd c=true:=by simp[yw,b1]
     refine sh ?_
     refine kI (i+1) ?_ ?_
     ·exact⟨by omega,all_succ hc hi.2 e⟩
     ·omega
   ·have ea:l.all (yw lay hd)=true:=by have:=hi.2; rwa[List.take_of_length_le (by omega)]at this
    rw[ea]
    refine sh ?_
    exact rT
theorem Mo {R:Env} (h:QE R) (l:List Ac) (c:Ac) (lay:Int) (XS:0<=lay/\lay<8) (hl:l.length<=30):R.Pc 489 [.aH 57 (jy l),.agg c.row,.int .i64 lay] (.bool (qE (yv l lay) c)):=
 h.WM.enter 100 rfl fun X bb hfit hp=>by
  have DO:∀x,R.Pc 504 [.aH 57 (jy l),.int .i64 x,.int .i64 lay] (.bool (yv l lay x)):=fun x=>Jh h.zQ l x lay XS hl
  generalize yv l lay=H at DO ⊢
  unfold qE
  refine sh ?_
  refine cS (fun k0=> ?_) (fun k0=> ?_)
  ·rw[if_pos (.inl k0)]
   refine sh ?_
   refine ae.pure h.zQ.EL.hb (DO c.h) rfl ?_
   refine sh ?_
   exact rT
  ·refine sh ?_
   refine cS (fun k1=> ?_) (fun k1=> ?_)
   ·rw[if_pos (.inr k1)]
    refine sh ?_
    refine ae.pure h.zQ.EL.hb (DO c.h) rfl ?_
    refine sh ?_
    exact rT
   ·rw[if_neg (by omega)]
    unfold nH
    refine sh ?_
    refine ae.pure h.zQ.EL.hb (DO c.i.aQ) rfl ?_
    cases H c.i.aQ with
    |true=>
     refine sh ?_
     exact rT
    |false=>
     refine sh ?_
     refine ae.pure h.zQ.EL.hb (DO c.i.df) rfl ?_
     cases H c.i.df with
     |true=>
      refine sh ?_
      exact rT
     |false=>
      refine sh ?_
      refine cS (fun k2=> ?_) (fun k2=> ?_)
      ·refine sh ?_
       refine ae.pure h.zQ.EL.hb (DO c.i.cb) rfl ?_
       refine sh ?_
       refine rT ?_
       refine be ?_
       simp[k2]
      ·refine sh ?_
       refine rT ?_
       refine be ?_
       simp[k2]
set_option maxHeartbeats 4000000 in
theorem Ji {R:Env} (h:WR R) (K:wL R) (C:XA R) (gG:List In->List In) (S:Am R gG) (hs:LV gG) (l0:List Ac) (hc0:∀c ∈ l0,c.I) (lay:Int) (XS:bf .i64 lay):R.Pz true 488 [.aH 57 (jy l0),.int .i64 lay] (.bool true):=
 h.abF.Hg 200 rfl fun X bb hfit hp hz=>by
  have h8:=tm8 lay
  have hy:=RB (lay.tmod 8+8) (by omega)
  have hc:∀c ∈ l0.take 30,c.I:=fun c lZ=>hc0 c (List.mem_of_mem_take lZ)
  have hl:(l0.take 30).length<=30:=by rw[List.length_take]; omega
  have T:=AG h.Lh (l0.take 30) hc
  obtain⟨l,hl0⟩:∃l,l0.take 30=l:=⟨_,rfl⟩
  rw[hl0]at T hc hl
  rw[List.take_of_length_le hl]at T
  obtain⟨y,Gc⟩:∃y,(lay.tmod 8+8).tmod 8=y:=⟨_,rfl⟩
  have he:=Jf l hc ((lay.tmod 8+8).tmod 8) hy
  refine sh ?_
  refine iL (by rw[FG,tW]) ?_
  rw[show l0.take (30:Int).toNat=l from hl0]
  rw[Gc]at hy he ⊢
  obtain⟨p,hpp⟩:∃p:Ac->Bool,(fun c=> !qE (yv l y) c)=p:=⟨_,rfl⟩
  rw[hpp]at he
  refine sh ?_
  refine gD 200 (fun i:Nat=>i<=l.length) (fun i=>⟨[(0,.aH 57 (jy l)),(1,.int .i64 y),(5,.bc 0 ((l.take i).filter p).length),(25,.aH 57 (jy l)),(26,.int .i64 l.length),(27,.int .i64 i)],[(0,.arr (R.ty 55) 57 (jy ((l.take i).filter p)))],1⟩) (fun i=>l.length - i) (0) ?_ ?_
  ·exact Nat.zero_le _
  ·intro i hi
   dsimp only
   refine sh ?_
   refine cS (fun h1=> ?_) (fun h1=> ?_)
   ·obtain⟨c,lZ⟩:∃u_,l[i]? =some u_:=⟨_,List.getElem?_eq_getElem (by omega)⟩
    refine sh ?_
    refine aa lZ ?_
    have ef:=wR (p:=p) lZ
    have fl:((l.take i).filter p).length<=i:=Nat.le_trans (List.length_filter_le _ _) (by rw[List.length_take]; omega)
    obtain⟨O,hO⟩:∃O,(l.take i).filter p=O:=⟨_,rfl⟩
    rw[hO]at ef fl ⊢
    refine sh ?_
    refine ae.pure h.Lg.WM.hb (Mo h.Lg l c y hy hl) rfl ?_
    have ep:p c= !qE (yv l y) c:=by rw[<-hpp]
    cases hA:qE (yv l y) c with
    |true=>
     rw[ep,hA,if_neg (by simp),List.append_nil]at ef
     refine sh ?_
     refine nX (i+1) ?_ ?_ ⟨_,hp,rfl⟩ ?_ ?_
     ·omega
     ·omega
     ·refine be ?_
      all_goals (rw[ef]; done)
     ·refine be ?_
      all_goals (rw[ef]; done)
    |false=>
     rw[ep,hA,if_pos (by rfl)]at ef
     refine sh ?_
     refine nX (i+1) ?_ ?_ ⟨_,hp,rfl⟩ ?_ ?_
     ·omega
     ·omega
     ·refine be ?_
      all_goals first|(rw[ef]; done)|(rw[ef]; simp; done)
     ·refine be ?_
      all_goals first|(right; simp[Ac.row]; done)|(rw[ef,Jg]; rfl)
   ·rw[List.take_of_length_le (by omega)]
    have hcp:∀c ∈ l.filter p,c.I:=fun c lZ=>hc c (List.mem_filter.1 lZ).1
    have hlp:(l.filter p).length<=30:=Nat.le_trans (List.length_filter_le _ _) hl
    have T2:=AG h.Lh (l.filter p) hcp
    rw[List.take_of_length_le hlp]at T2
    obtain⟨ok,sd,xr⟩:=pT l hc
    obtain⟨ok2,sd2,_⟩:=pT (l.filter p) hcp
    have c1:=Cf h.BI K C gG S hs _ ok (by omega) sd.it y hy
    have c2:=Cf h.BI K C gG S hs _ ok2 (by omega) sd2.it y hy
    have Zs:=(RA ok sd xr y).ok hl
    rw[AF ok sd y]at c1
    rw[AF ok2 sd2 y,he]at c2
    obtain⟨Z,hZ⟩:∃Z,vu y (kP (fu l))=Z:=⟨_,rfl⟩
    rw[hZ]at c1 c2 Zs
    refine sh ?_
    refine ae.let [0] rfl hp rfl ?_
    repeat ((intro _u; clear _u); first|refine eZ ?_|refine eZ ?_ (by simp; omega)|refine Ex.drop ?_)
    refine sh ?_
    refine cM false [] (T) ?_
    repeat (intro _; first|refine eK ?_|refine eP ?_)
    refine sh ?_
    refine cM false [] (T2) ?_
    repeat (intro _; first|refine eK ?_|refine eP ?_)
    refine sh ?_
    refine cM false [1,2,3] (c1) ?_
    repeat (intro _; first|refine eK ?_|refine eP ?_)
    refine sh ?_
    refine cM false [5,6,7] (c2) ?_
    repeat (intro _; first|refine eK ?_|refine eP ?_)
    refine sh ?_
    refine af (by rfl) ?_
    refine sh ?_
    refine af (by rfl) ?_
    refine sh ?_
    refine ae.pure h.Li.WJ.hb (by have:=L6 h.Li Z Z Zs Zs; rwa[L5 rfl]at this) rfl ?_
    refine sh ?_
    refine ae.pure h.Lj.WP.hb (FB h.Lj K C gG S hs) rfl ?_
    refine sh ?_
    exact rT
end Go.UM
namespace Go.UM
open Go.AM
end Go.UM
