/- Of the reckoning machine, and what is proved with it: texts joined by program. -/
import Derived.Test.YtahjfplikclhlaaGreatU1
import Derived.Test.YtahjfplikclhlaaGreatK3
import Derived.Shelf.SlSortCmp.InsertionK
import Derived.Test.YtahjfplikclhlaaGreatU0
import Derived.Maps.Own
import Derived.Lib.SlKeysI
import Derived.Shelf.SlSortCmp.NoneTotal
import Derived.Shelf.SlSortCmp.WholeK
set_option linter.all false
namespace Go.UM
open Go.AM
set_option maxRecDepth 4000
theorem AF (x r:In):kp [.int .i64 x.bK,.int .i64 x.eW,.int .i64 x.dB,.int .i64 x.n] r.row=aU x r:=by
 show (x.bK==r.bK&&(x.eW==r.eW&&(x.dB==r.dB&&(x.n==r.n&&true))))=_
 rw[Bool.and_true]; rfl
theorem xG (x:In):∀l:List In,∃i:Nat,bM [.int .i64 x.bK,.int .i64 x.eW,.int .i64 x.dB,.int .i64 x.n] (b8 l)=(eY l x).map (fun r=>(i,r.t.row))∧((eY l x).isSome=true→(b8 l).eraseIdx i=b8 (l.eraseP (aU x)))
 |[]=>⟨0,rfl,fun h=>by simp[eY]at h⟩
 |r::l=>by
  obtain⟨i,hi,he⟩:=xG x l
  by_cases hh:aU x r=true
  ·refine⟨0,?_,fun _=> ?_⟩
   ·show (if kp [.int .i64 x.bK,.int .i64 x.eW,.int .i64 x.dB,.int .i64 x.n] r.row then some (0,r.row.drop 4)else _)=_
    rw[AF,if_pos hh]; simp only[eY,List.find?_cons,hh]; rfl
   ·rw[List.eraseP_cons_of_pos hh]; rfl
  ·refine⟨i+1,?_,fun h=> ?_⟩
   ·show (if kp [.int .i64 x.bK,.int .i64 x.eW,.int .i64 x.dB,.int .i64 x.n] r.row then some (0,r.row.drop 4)else (bM _ (b8 l)).map fun q=>(q.1+1,q.2))=_
    rw[AF,if_neg hh,hi]; simp only[eY,List.find?_cons,hh]
    cases List.find? (fun y=>aU x y) l<;>rfl
   ·rw[List.eraseP_cons_of_neg hh]
    have h':(eY l x).isSome=true:=by simpa[eY,List.find?_cons,hh]using h
    show r.row::(b8 l).eraseIdx i=r.row::b8 (l.eraseP (aU x))
    rw[he h']
theorem WR {x:In} {l:List In} {K:Option (Nat × List AV)→Prop} (k:∀i:Nat,((eY l x).isSome=true→(b8 l).eraseIdx i=b8 (l.eraseP (aU x)))→K ((eY l x).map fun r=>(i,r.t.row))):Gw [.i,.i,.i,.i] [.int .i64 x.bK,.int .i64 x.eW,.int .i64 x.dB,.int .i64 x.n] (b8 l) K:=by
 obtain⟨i,hi,he⟩:=xG x l
 exact⟨Fk,by rw[hi]; exact k i he⟩
def pB (t:Tb) (x:In):Tb × Int:=if (eY t.ins x).isSome=true then (⟨t.rows,t.ins.eraseP (aU x)⟩,0)else (t,11)
theorem Ii {R:Env} (h:EB R) (d1 d2:Bool) (t:Tb) (x:In):R.Mc 427 [.loc 2 1 0 0,.agg x.row] (eC R d1 d2 t) (.int .i64 (pB t x).2) (eC R d1 false (pB t x).1) 3:=
 h.Rf.aV 100 3 rfl rfl rfl fun X bb hfit hp=>by
  generalize hq:pB t x=q
  unfold pB at hq
  unfold eC
  refine sh ?_
  refine cM false [0,1,2] (j4 h.eV d1 d2 t) ?_
  repeat (intro _; first|refine eK ?_|refine eP ?_)
  refine sh ?_
  refine ae.pure h.kr.y3.hb (Ck h.kr x) rfl ?_
  refine sh ?_
  refine MX fun i=> ?_
  cases hr:eY t.ins x with
  |none=>
   rw[hr,if_neg (by simp)]at hq
   dsimp only[Option.map_none]
   subst hq
   refine sh ?_
   exact rM [0,1,2]
  |some y=>
   rw[hr,if_pos (show (some y).isSome=true from rfl)]at hq
   dsimp only[Option.map_some]
   refine sh ?_
   refine ae.pure h.kr.y3.hb (Ck h.kr x) rfl ?_
   refine sh ?_
   refine WR fun i he=> ?_
   rw[hr]at he ⊢
   dsimp only[Option.map_some]
   subst hq
   refine sh ?_
   refine rM [0,1,2] ?_
   all_goals repeat' (first|exact True.intro|refine And.intro ?_ ?_|(intro _u; clear _u)|(with_reducible first|exact ai.fg|refine eM ?_ ?_|refine eF ?_ ?_ ?_|refine eN ?_|refine eL ?_ ?_ ?_|refine eA ?_ ?_|refine aj.mk ⟨_,hp,rfl⟩ ?_ ?_)|refine aj.mk ⟨_,hp,rfl⟩ ?_ ?_)
   all_goals try first|with_reducible rfl|omega|exact .inl (by decide)|(simp; done)|rfl
   all_goals (exact he rfl)
theorem Co {q:Nat × List AV} {es es':List (List AV)} {dn:Dn} {K:List (List AV)→Dn→Prop} (h:es.eraseIdx q.1=es') (k:K es' (dn.dl q.1)):Gx (some q) es dn K:=by subst h; exact k
def fk (hd:Int) (x:In):Bool:=(x.bK==hd||x.eW==hd)||x.dB==hd
theorem M4 {R:Env} (h:Hw R) (hd:Int) (x:In):R.Mc 437 [.agg [.int .i64 x.bK,.int .i64 x.eW,.int .i64 x.dB,.int .i64 x.n],.agg x.t.row,.loc 0 1 0 0] [(0,.var (R.ty 10) [.int .i64 hd])] (.bool (fk hd x)) [(0,.var (R.ty 10) [.int .i64 hd])] 1:=
 h.Wr.aV 100 1 rfl rfl rfl fun X bb hfit hp=>by
  generalize hq:fk hd x=q
  unfold fk at hq
  refine sh ?_
  refine cS (fun h1=> ?_) (fun h1=> ?_)
  ·rw[beq_iff_eq.2 h1,Bool.true_or,Bool.true_or]at hq
   subst hq
   refine sh ?_
   exact rM [0]
  ·rw[beq_eq_false_iff_ne.2 h1,Bool.false_or]at hq
   refine sh ?_
   refine cS (fun h2=> ?_) (fun h2=> ?_)
   ·rw[beq_iff_eq.2 h2,Bool.true_or]at hq
    subst hq
    refine sh ?_
    exact rM [0]
   ·rw[beq_eq_false_iff_ne.2 h2,Bool.false_or]at hq
    subst hq
    refine sh ?_
    exact rM [0]
theorem uk:∀ {l:List In} {i:Nat} {x:In},l.Pairwise (fun a b=>aU a b=false)→l[i]? =some x→bM [.int .i64 x.bK,.int .i64 x.eW,.int .i64 x.dB,.int .i64 x.n] (b8 l)=some (i,x.t.row)
 |[],i,x,_,h=>by simp at h
 |r::l,0,x,_,h=>by
  simp at h; subst h
  show (if kp [.int .i64 r.bK,.int .i64 r.eW,.int .i64 r.dB,.int .i64 r.n] r.row then some (0,r.row.drop 4)else _)=_
  rw[AF,if_pos (by simp[aU])]; rfl
 |r::l,i+1,x,hd,h=>by
  obtain⟨h1,h2⟩:=List.pairwise_cons.1 hd
  have hx:l[i]? =some x:=by simpa using h
  have hn:aU x r=false:=by
   have:=h1 x (List.mem_of_getElem? hx)
   unfold aU at this ⊢
   rw[←this]
   congr 1; exact Bool.beq_comm
   congr 1; exact Bool.beq_comm
   congr 1; exact Bool.beq_comm
   exact Bool.beq_comm
  show (if kp [.int .i64 x.bK,.int .i64 x.eW,.int .i64 x.dB,.int .i64 x.n] r.row then some (0,r.row.drop 4)else (bM _ (b8 l)).map fun q=>(q.1+1,q.2))=_
  rw[AF,if_neg (by rw[hn]; simp),uk h2 hx]; rfl
theorem Tf {x:In} {l:List In} {i:Nat} {K:Option (Nat × List AV)→Prop} (hd:l.Pairwise (fun a b=>aU a b=false)) (hx:l[i]? =some x) (k:K (some (i,x.t.row))):Gw [.i,.i,.i,.i] [.int .i64 x.bK,.int .i64 x.eW,.int .i64 x.dB,.int .i64 x.n] (b8 l) K:=
 ⟨Fk,by rw[uk hd hx]; exact k⟩
def nF (l:List Bool):Nat:=l.countP fun b=> !b
theorem vG {l:List Bool} {i:Nat} (h:l[i]? =some false):nF (l.set i true)+1=nF l:=by
 unfold nF
 induction l generalizing i with
 |nil=>simp at h
 |cons a r ih=>
  cases i with
  |zero=>simp at h; subst h; simp
  |succ i=>
   have:=ih (i:=i) (by simpa using h)
   simp only[List.set_cons_succ,List.countP_cons]; omega
theorem Fp {l:List Bool} {i:Nat} (h:l[i]? =some true):nF (l.eraseIdx i)=nF l:=by
 unfold nF
 induction l generalizing i with
 |nil=>simp at h
 |cons a r ih=>
  cases i with
  |zero=>simp at h; subst h; simp
  |succ i=>
   have:=ih (i:=i) (by simpa using h)
   simp only[List.eraseIdx_cons_succ,List.countP_cons]; omega
structure CO (p:In→Bool) (l0 l:List In) (sn:List Bool):Prop where
 len:sn.length=l.length
 fl:l.filter (fun x=> !p x)=l0.filter (fun x=> !p x)
 nd:l.Pairwise (fun a b=>aU a b=false)
 sn:∀ (i:Nat) (x:In),l[i]? =some x→sn[i]? =some true→p x=false
theorem CO.init {p:In→Bool} {l0:List In} (hd:l0.Pairwise (fun a b=>aU a b=false)):CO p l0 l0 ((b8 l0).map fun _=>false):=
 ⟨by simp,rfl,hd,fun i x _ h=>by simp[List.getElem?_map]at h⟩
theorem CO.qH {p:In→Bool} {l0 l:List In} {sn:List Bool} {i:Nat} {x:In} (h:CO p l0 l sn) (hx:l[i]? =some x) (hp:p x=false):CO p l0 l (sn.set i true):=by
 refine⟨by rw[List.length_set]; exact h.len,h.fl,h.nd,fun j y hy hs=> ?_⟩
 by_cases e:i=j
 ·subst e; rw[hx]at hy; cases hy; exact hp
 ·exact h.sn j y hy (by rw[List.getElem?_set_ne e]at hs; exact hs)
theorem CO.drop {p:In→Bool} {l0 l:List In} {sn:List Bool} {i:Nat} {x:In} (h:CO p l0 l sn) (hx:l[i]? =some x) (hp:p x=true):CO p l0 (l.eraseIdx i) ((sn.set i true).eraseIdx i):=by
 have hi:i<l.length:=(List.getElem?_eq_some_iff.1 hx).1
 refine⟨?_,?_,h.nd.sublist (List.eraseIdx_sublist _ _),fun j y hy hs=> ?_⟩
 ·rw[List.length_eraseIdx,List.length_eraseIdx,List.length_set,h.len]
 ·rw[←h.fl]
  have e1:l=l.take i++x::l.drop (i+1):=by
   rw[←(List.getElem?_eq_some_iff.1 hx).2,List.getElem_cons_drop,List.take_append_drop]
  have e2:l.eraseIdx i=l.take i++l.drop (i+1):=List.eraseIdx_eq_take_drop_succ ..
  rw[e2]
  conv=>rhs; rw[e1]
  simp[List.filter_append,List.filter_cons,hp]
 ·rw[List.getElem?_eraseIdx]at hy hs
  split at hy
  ·rename_i hlt
   rw[if_pos hlt,List.getElem?_set_ne (by omega)]at hs
   exact h.sn j y hy hs
  ·rename_i hlt
   rw[if_neg hlt,List.getElem?_set_ne (by omega)]at hs
   exact h.sn (j+1) y hy hs
theorem CO.done {p:In→Bool} {l0 l:List In} {sn:List Bool} (h:CO p l0 l sn) (ha:∀q ∈ sn,q=true):l=l0.filter (fun x=> !p x):=by
 rw[←h.fl,List.filter_eq_self.2]
 intro x hx
 obtain⟨i,hi,rfl⟩:=List.getElem_of_mem hx
 have hi':i<sn.length:=by rw[h.len]; exact hi
 rw[h.sn i l[i] (List.getElem?_eq_getElem hi) (by rw[List.getElem?_eq_getElem hi',ha _ (List.getElem_mem hi')])]; rfl
theorem zv {l:List In} {i:Nat} {row:List AV} (h:(b8 l)[i]? =some row):∃x,l[i]? =some x∧row=x.row:=by
 unfold b8 at h
 rw[List.getElem?_map]at h
 obtain⟨x,h1,h2⟩:=Option.map_eq_some_iff.1 h
 exact⟨x,h1,h2.symm⟩
theorem ul (l:List In) (i:Nat):(b8 l).eraseIdx i=b8 (l.eraseIdx i):=(Go.ChangeMaps.map_eraseIdx _ _ _).symm
theorem Cp {R:Env} (h:KH R) (k:Hw R) (d2:Bool) (l:List In) (nd:l.Pairwise (fun a b=>aU a b=false)) (hd:Int):R.Mc 438 [.omap 0,.bL (.fn (R.ft 437)) [.loc 1 1 0 0]] [(0,.map 4 true true d2 16 (b8 l)),(1,.var (R.ty 10) [.int .i64 hd])] (.aO []) [(0,.map 4 true true false 16 (b8 (l.filter fun x=> !fk hd x))),(1,.var (R.ty 10) [.int .i64 hd])] 2:=
 h.Wf.aV 100 2 rfl rfl rfl fun X bb hfit hp=>by
  refine sh ?_
  refine⟨fun r=> ?_⟩
  refine sh ?_
  refine gk 100 (fun s:List In × List Bool × Option Nat=>CO (fk hd) l s.1 s.2.1) (fun s=>⟨[(0,.omap 0),(1,.bL (.fn (R.ft 437)) [.loc 1 1 0 0]),(7,.lJ 0 r)],[(0,.map 4 true true (.it r s.2.1 s.2.2) 16 (b8 s.1)),(1,.var (R.ty 10) [.int .i64 hd])],2⟩) (fun s=>nF s.2.1) ((l,(b8 l).map fun _=>false,none)) ?_ ?_
  ·exact CO.init nd
  ·rintro⟨l',sn,la⟩ hs
   dsimp only at hs ⊢
   refine sh ?_
   refine⟨rfl,fun h1 h2=> ?_,fun i row h1 h2 h3=> ?_⟩
   ·have e:=hs.done h1
    subst e
    refine sh ?_
    exact rM [0,1]
   ·obtain⟨x,hx,rfl⟩:=zv h1
    refine sh ?_
    refine⟨⟨rfl,i,x.row,rfl,h1,?_⟩⟩
    refine sh ?_
    refine cM false [1] (M4 k hd x) ?_
    repeat (intro _; first|refine eK ?_|refine eP ?_)
    refine sh ?_
    refine cS (fun h4=> ?_) (fun h4=> ?_)
    ·refine sh ?_
     refine Tf hs.nd hx ?_
     refine sh ?_
     refine nX ((l'.eraseIdx i,(sn.set i true).eraseIdx i,none)) ?_ ?_ ⟨_,hp,rfl⟩ ?_ ?_
     ·exact hs.drop hx h4
     ·have e1:=vG h2
      have e2:=Fp (l:=sn.set i true) (i:=i) (by rw[List.getElem?_set_self (List.getElem?_eq_some_iff.1 h2).1])
      show nF ((sn.set i true).eraseIdx i)<nF sn
      omega
     ·all_goals repeat' (first|exact True.intro|refine And.intro ?_ ?_|(intro _u; clear _u)|(with_reducible first|exact ai.fg|refine eM ?_ ?_|refine eF ?_ ?_ ?_|refine eN ?_|refine eL ?_ ?_ ?_|refine eA ?_ ?_|refine aj.mk ⟨_,hp,rfl⟩ ?_ ?_)|refine aj.mk ⟨_,hp,rfl⟩ ?_ ?_)
      all_goals try first|with_reducible rfl|omega|exact .inl (by decide)|(simp; done)|rfl
     ·all_goals repeat' (first|exact True.intro|refine And.intro ?_ ?_|(intro _u; clear _u)|(with_reducible first|exact ai.fg|refine eM ?_ ?_|refine eF ?_ ?_ ?_|refine eN ?_|refine eL ?_ ?_ ?_|refine eA ?_ ?_|refine aj.mk ⟨_,hp,rfl⟩ ?_ ?_)|refine aj.mk ⟨_,hp,rfl⟩ ?_ ?_)
      all_goals try first|with_reducible rfl|omega|exact .inl (by decide)|(simp; done)|rfl
      all_goals first|exact ul l' i|(right; show mF ((b8 l').eraseIdx i); rw[ul]; simp)
    ·refine sh ?_
     refine kq ((l',sn.set i true,some i)) ?_ ?_
     ·exact hs.qH hx h4
     ·have e1:=vG h2
      show nF (sn.set i true)<nF sn
      omega
theorem um (h:Int):∀l:List Rw,∃i:Nat,bM [.int .i64 h] (iD l)=(bE l h).map (fun r=>(i,r.row))∧((bE l h).isSome=true→(iD l).eraseIdx i=iD (l.eraseP fun r=>r.h==h))
 |[]=>⟨0,rfl,fun h=>by simp[bE]at h⟩
 |r::l=>by
  obtain⟨i,hi,he⟩:=um h l
  have e:kp [.int .i64 h] (x3 r)=(r.h==h):=by
   show ((h==r.h)&&true)=_
   rw[Bool.and_true]; exact Bool.beq_comm
  by_cases hh:(r.h==h)=true
  ·refine⟨0,?_,fun _=> ?_⟩
   ·show (if kp [.int .i64 h] (x3 r)then some (0,(x3 r).drop 1)else _)=_
    rw[e,if_pos hh]; simp only[bE,List.find?_cons,hh]; rfl
   ·rw[List.eraseP_cons_of_pos (p:=fun r:Rw=>r.h==h) hh]; rfl
  ·refine⟨i+1,?_,fun k=> ?_⟩
   ·show (if kp [.int .i64 h] (x3 r)then some (0,(x3 r).drop 1)else (bM [.int .i64 h] (iD l)).map fun q=>(q.1+1,q.2))=_
    rw[e,if_neg hh,hi]; simp only[bE,List.find?_cons,hh]
    cases List.find? (fun r=>r.h==h) l<;>rfl
   ·rw[List.eraseP_cons_of_neg (p:=fun r:Rw=>r.h==h) hh]
    have k':(bE l h).isSome=true:=by simpa[bE,List.find?_cons,hh]using k
    show x3 r::(iD l).eraseIdx i=x3 r::iD (l.eraseP fun r=>r.h==h)
    rw[he k']
theorem Tg {h:Int} {l:List Rw} {K:Option (Nat × List AV)→Prop} (k:∀i:Nat,((bE l h).isSome=true→(iD l).eraseIdx i=iD (l.eraseP fun r=>r.h==h))→K ((bE l h).map fun r=>(i,r.row))):Gw [.i] [.int .i64 h] (iD l) K:=by
 obtain⟨i,hi,he⟩:=um h l
 exact⟨Fj,by rw[hi]; exact k i he⟩
def gI (t:Tb) (hd:Int):Tb × Int:=if (bE t.rows hd).isSome=true then (⟨t.rows.eraseP fun r=>r.h==hd,t.ins.filter fun x=> !fk hd x⟩,0)else (t,11)
theorem oJ {R:Env} (h:BT R) (d1 d2:Bool) (t:Tb) (nd:t.ins.Pairwise (fun a b=>aU a b=false)) (hd:Int):R.Mc 428 [.loc 2 1 0 0,.int .i64 hd] (eC R d1 d2 t) (.int .i64 (gI t hd).2) (eC R false false (gI t hd).1) 3:=
 h.Rk.aV 100 3 rfl rfl rfl fun X bb hfit hp=>by
  generalize hq:gI t hd=q
  unfold gI at hq
  unfold eC
  refine sh ?_
  refine cM false [0,1,2] (j4 h.eV d1 d2 t) ?_
  repeat (intro _; first|refine eK ?_|refine eP ?_)
  refine sh ?_
  refine oH fun i=> ?_
  cases hr:bE t.rows hd with
  |none=>
   rw[hr,if_neg (by simp)]at hq
   dsimp only[Option.map_none]
   subst hq
   refine sh ?_
   exact rM [0,1,2]
  |some y=>
   rw[hr,if_pos (show (some y).isSome=true from rfl)]at hq
   dsimp only[Option.map_some]
   refine sh ?_
   refine Tg fun i he=> ?_
   rw[hr]at he ⊢
   dsimp only[Option.map_some]
   refine Co (he rfl) ?_
   refine sh ?_
   refine cM false [1,3] (Cp h.LA h.Lz d2 t.ins nd hd) ?_
   repeat (intro _; first|refine eK ?_|refine eP ?_)
   subst hq
   refine sh ?_
   exact rM [0,1,2]
end Go.UM
namespace Go.UM
open Go.AM Go.Shelf Go.RowKit Go.Lib Go.Sort Go.Proofs
section
variable {α:Type} [Inhabited α]
def pC (bg:α→List Int) (x:α):List Value:=(bg x).map (Value.int .i64)
def dV (bg:α→List Int) (x:α):List AV:=(bg x).map (AV.int .i64)
structure lz (P:Program) (f g k:Nat) (bg:α→List Int) (cf:α→α→Int) (gR:List α→List α):Prop where
 nil:∀ (p:Option Addr) (cap:Nat) (fv:Value) (w:World),Calls P f #[.slice p 0 cap,fv] w fun e w'=>e= .returned (.tuple #[])∧w'=w
 row:∀ (aP cap:Nat) (l:List α) (w:World),CmpLays P g #[] (pC bg) k cf aP 0 l.length w→HoldsK (pC bg) k w aP 0 l.toArray→aP<w.heap.size→l.length<4611686018427387904→
  Calls P f #[.slice (some ⟨aP,0,none⟩) l.length cap,.func (.func g) #[] #[]] w fun e w'=>e= .returned (.tuple #[])∧∃n os,w'=sortWorldK (pC bg) k w aP 0 n (gR l).toArray os
theorem Fq {ρ:AM.Place} {L:aT} {I:Nat→Prop} {w:World} {N:Nat→Prop} {n:Int} {v:Value} (h:aL ρ L I w N (.int .i64 n) v):v= .int .i64 n:=by cases h; rfl
omit [Inhabited α] in
theorem AG {ρ:AM.Place} {L:aT} {I:Nat→Prop} {w:World} {N:Nat→Prop} (bg:α→List Int) (x:α):aL ρ L I w N (.agg (dV bg x)) (.agg (pC bg x).toArray):=by
 refine .agg _ _ (by simp[dV,pC]) (fun u hu=> ?_) fun j hj=> ?_
 ·obtain⟨n,_,rfl⟩:=List.mem_map.1 hu; rfl
 ·have hj':j< (bg x).length:=by simpa[dV]using hj
  simp only[dV,pC,List.getD_eq_getElem?_getD,List.getElem?_map,List.getElem?_eq_getElem hj',Option.map_some,Option.getD_some]
  exact .int _ _
theorem Ij {w w1:World} (h:Blw w w1):∃q os,w1=grow (w.drewN q) os:=by
 refine⟨w1.drawn - w.drawn,w1.heap.extract w.heap.size w1.heap.size,?_⟩
 obtain⟨heap,tape,drawn,os,output⟩:=w
 obtain⟨Fs,aaR,zw,os1,Uz⟩:=w1
 obtain⟨⟨h1,h2,h3,h4,h5⟩,h6⟩:=h
 simp only at h1 h2 h3 h4 h5 h6
 subst h1; subst h2; subst h3
 have e1:Fs=heap++Fs.extract heap.size Fs.size:=by
  apply Array.ext_getElem?
  intro i
  by_cases hi:i<heap.size
  ·rw[Array.getElem?_append_left hi]; exact h5 i hi
  ·rw[Array.getElem?_append_right (by omega),Array.getElem?_extract]
   have e:heap.size+ (i - heap.size)=i:=by omega
   rw[e]
   split
   ·rfl
   ·rw[Array.getElem?_eq_none (by omega)]
 have h6:drawn≤zw:=h6
 have e2:zw=drawn+ (zw - drawn):=by omega
 simp only[grow,World.drewN]
 rw[←e1,←e2]
theorem Ft {P:Program} {g k:Nat} {bg:α→List Int} {cf:α→α→Int} (h:∀x y,yr P g [.agg (dV bg x),.agg (dV bg y)] (.int .i64 (cf x y))) (aP size:Nat) (w:World):CmpLays P g #[] (pC bg) k cf aP 0 size w:=by
 intro m os dk hdk x y
 refine (h x y ch (sortWorldK (pC bg) k w aP 0 m dk os) [.agg (pC bg x).toArray,.agg (pC bg y).toArray] (fun _ h=>h.elim) ⟨rfl,fun j hj=> ?_⟩).mono ?_
 ·match j,hj with
  |0,_=>exact AG bg x
  |1,_=>exact AG bg y
 ·rintro e w' ⟨v,I1,rfl,hb,_,_,_,hr⟩
  rw[Fq hr]
  obtain⟨q,os',e⟩:=Ij hb
  exact⟨rfl,q,os',e⟩
omit [Inhabited α] in
theorem nM {bg:α→List Int} {k:Nat} (hk:∀x,(bg x).length=k) (x:α) {j:Nat} (hj:j<k):(pC bg x)[j]! = .int .i64 ((bg x)[j]'(by rw[hk]; exact hj))∧(dV bg x).getD j .bad= .int .i64 ((bg x)[j]'(by rw[hk]; exact hj)):=by
 have hj':j< (bg x).length:=by rw[hk]; exact hj
 constructor
 ·rw[getElem!_pos _ j (by simpa[pC]using hj')]; simp[pC]
 ·simp[dV,List.getD_eq_getElem?_getD,hj']
theorem vH {bg:α→List Int} {k:Nat} (l:List α) {i j:Nat} (hi:i<l.length) (hj:j<k):(flatK (pC bg) k l.toArray)[i*k+j]! =(pC bg l[i])[j]! :=by
 have hlt:i*k+j<l.length*k:=by
  have:(i+1)*k≤l.length*k:=Nat.mul_le_mul_right _ hi
  rw[Nat.add_mul,Nat.one_mul]at this; omega
 rw[get_flatK _ _ _ _ (by simpa using hlt)]
 have e1:(i*k+j) / k=i:=by rw[Nat.add_comm,Nat.add_mul_div_right _ _ (by omega),Nat.div_eq_of_lt hj,Nat.zero_add]
 have e2:(i*k+j) % k=j:=by rw[Nat.add_comm,Nat.add_mul_mod_self_right,Nat.mod_eq_of_lt hj]
 rw[e1,e2,getElem!_pos l.toArray i (by simpa using hi)]
 simp
omit [Inhabited α] in
theorem xH {bg:α→List Int} (l:List α) {i:Nat} (hi:i<l.length):(l.map (dV bg)).getD i []=dV bg l[i]:=by
 simp[List.getD_eq_getElem?_getD,hi]
structure xI (P:Program) (f k:Nat) (bg:α→List Int) (gR:List α→List α) (ea:List AV) (ev:List Value):Prop where
 ex:∀ (ρ:AM.Place) (L:aT) (I:Nat→Prop) (w:World) (N:Nat→Prop) (vs:List Value),c6 ρ L I w N ea vs→vs=ev
 nil:∀ (p:Option Addr) (cap:Nat) (w:World),Calls P f (.slice p 0 cap::ev).toArray w fun e w'=>e= .returned (.tuple #[])∧w'=w
 row:∀ (aP cap:Nat) (l:List α) (w:World),HoldsK (pC bg) k w aP 0 l.toArray→aP<w.heap.size→l.length<4611686018427387904→
  Calls P f (.slice (some ⟨aP,0,none⟩) l.length cap::ev).toArray w fun e w'=>e= .returned (.tuple #[])∧∃n os,w'=sortWorldK (pC bg) k w aP 0 n (gR l).toArray os
theorem lz.e {P:Program} {f g k:Nat} {bg:α→List Int} {cf:α→α→Int} {gR:List α→List α} (S:lz P f g k bg cf gR) (hcmp:∀x y,yr P g [.agg (dV bg x),.agg (dV bg y)] (.int .i64 (cf x y))):
  xI P f k bg gR [.bL (.fn g) []] [.func (.func g) #[] #[]]:=by
 refine⟨fun ρ L I w N vs h=> ?_,fun p cap w=>S.nil p cap _ w,fun aP cap l w hH hb hl=>S.row aP cap l w (Ft hcmp aP l.length w) hH hb hl⟩
 obtain⟨hl,hr⟩:=h
 match vs,hl with
 |[v],_=>
  have r1:aL ρ L I w N (.bL (.fn g) []) v:=hr 0 (by simp)
  cases r1 with
  |bL _ _ us hu _=>
   obtain rfl:=List.eq_nil_of_length_eq_zero hu
   rfl
theorem Fu {R:Env} {f k ty:Nat} {bg:α→List Int} {gR:List α→List α} {ea:List AV} {ex:List Value} (hb:b6 R.P (R.ft f)) (S:xI R.P (R.ft f) k bg gR ea ex) (hk:∀x,(bg x).length=k) (Nq:0<k)
  (hlen:∀l,(gR l).length=l.length) (l:List α) (hl:l.length<4611686018427387904):
  R.Mc f (.ba 0 l.length::ea) [(0,.arr ty k (l.map (dV bg)))] (.aO []) [(0,.arr ty k ((gR l).map (dV bg)))] 1:=by
 refine⟨hb,fun w I ρ vs hW hr=> ?_,rfl⟩
 have W:=hW 0
 obtain⟨hvl,hr⟩:=hr
 obtain⟨v0,r,rfl⟩:∃v0 r,vs=v0::r:=by
  match vs,hvl with
  |a::r,_=>exact⟨a,r,rfl⟩
 have r0:aL ρ (lens (aa (ax [(0,.arr ty k (l.map (dV bg)))]))) I w (· <1) (.ba 0 l.length) v0:=hr 0 (by simp)
 obtain rfl:=S.ex _ _ _ _ _ r ⟨by simpa using hvl,fun j hj=>by have:=hr (j+1) (by simpa using hj); simpa using this⟩
 have hM:aa (ax [(0,bx.arr ty k (l.map (dV bg)))]) 0=some ⟨ty,k,l.map (dV bg),none⟩:=rfl
 have B:=W.aP 0 _ hM
 have done:∀ (w1:World),l=[]→w1=w→∃v,Ending.returned (.tuple #[])= .returned v∧∃ρ1 I1 s,cC ⟨w,1,I,s,ρ,lens (aa (ax [(0,.arr ty k (l.map (dV bg)))]))⟩ ρ1 I1 (aa (ax [(0,.arr ty k ((gR l).map (dV bg)))])) (· <1) w1∧aL ρ1 (lens (aa (ax [(0,.arr ty k ((gR l).map (dV bg)))]))) I1 w1 (· <1) (.aO []) v:=by
  rintro w1 rfl rfl
  have:gR []=[]:=List.eq_nil_of_length_eq_zero (by rw[hlen]; rfl)
  rw[this]
  exact⟨_,rfl,ρ,I,0,W,.aO [] [] rfl (fun j hj=>by simp at hj)⟩
 cases r0 with
 |ba _ _ _ hn h1 h=>
  rcases (h l.length k (by rw[aA]; exact⟨_,hM,by simp[aW.ln],rfl⟩)).2 rfl with⟨hv,q,rfl⟩|⟨gb,cap,hρ,rfl⟩
  ·have he:l=[]:=by have:=B.dM hv; simpa using this
   refine (S.nil q 0 w).mono ?_
   rintro e w' ⟨rfl,h⟩
   exact done w' he h
  ·by_cases he:l=[]
   ·have e0:l.length=0:=by rw[he]; rfl
    rw[e0]
    refine (S.nil (some ⟨gb,0,none⟩) cap w).mono ?_
    rintro e w' ⟨rfl,h⟩
    exact done w' he h
   ·obtain⟨cs,fr,oK,l8,pE,hown,hlc,lO,hcs,hcell⟩:=B.real gb cap hρ
    have oK:w.heap[gb]? =some (.cells cs ty fr):=oK
    have hlc:l.length≤cap:=by simpa using hlc
    have hcs:cs.size=cap*k:=hcs
    have hlt:=(Array.getElem?_eq_some_iff.1 oK).1
    have hH:HoldsK (pC bg) k w gb 0 l.toArray:=by
     intro t ht
     have ht':t<l.length*k:=by simpa using ht
     have hi:t / k<l.length:=by rw[Nat.div_lt_iff_lt_mul Nq]; exact ht'
     have hj:t % k<k:=Nat.mod_lt _ Nq
     have et:t / k*k+t % k=t:=by rw[Nat.mul_comm]; exact Nat.div_add_mod t k
     obtain⟨u,hu,_,Cq⟩:=hcell (t / k) (t % k) (by simpa using hi) hj
     rw[show ((⟨ty,k,l.map (dV bg),none⟩:aW).es.getD (t / k) [])=dV bg l[t / k]from xH l hi,(nM hk l[t / k] hj).2]at Cq
     have zJ:=Fq Cq
     have ef:=vH (bg:=bg) (k:=k) l hi hj
     rw[et]at ef
     have hu:cs[t]? =some u:=by rw[←et]; exact hu
     refine⟨?_,?_⟩
     ·rw[ef,(nM hk l[t / k] hj).1,Nat.zero_add]
      simp only[World.cell?,oK,Option.isSome_none,Bool.false_eq_true,if_false,id]
      rw[hu,zJ]
     ·have hf:=l8 t (Array.getElem?_eq_some_iff.1 hu).1
      simp only[World.frozen?,oK,Nat.zero_add]
      simp
      omega
    refine (S.row gb cap l w hH hlt hl).mono ?_
    rintro e w' ⟨rfl,n,os,Th⟩
    have hheap:w'.heap=(w.heap.modify gb (onCells (putCells id 0 (flatK (pC bg) k (gR l).toArray))))++os:=by rw[Th]; rfl
    have hat:∀q,q<w.heap.size→w'.heap[q]? =(w.heap.modify gb (onCells (putCells id 0 (flatK (pC bg) k (gR l).toArray))))[q]? :=fun q hq=>by
     rw[hheap,Array.getElem?_append_left (by simpa using hq)]
    have sq:w'.heap[gb]? =some (.cells (putCells id 0 (flatK (pC bg) k (gR l).toArray) cs) ty fr):=by
     rw[hat gb hlt,Array.getElem?_modify,if_pos rfl,oK]; rfl
    have hput:∀t,t<l.length*k→(putCells id 0 (flatK (pC bg) k (gR l).toArray) cs)[t]? =some (flatK (pC bg) k (gR l).toArray)[t]! :=fun t ht=>by
     have:t<cs.size:=by
      rw[hcs]; exact Nat.lt_of_lt_of_le ht (Nat.mul_le_mul_right _ hlc)
     unfold putCells
     rw[Array.getElem?_mapIdx,Array.getElem?_eq_getElem this,Option.map_some,if_pos (by simp[hlen]; exact ht)]
     simp
    obtain⟨E,W1⟩:=W.put (w':=w') 0 ⟨ty,k,(gR l).map (dV bg),none⟩ gb cap (putCells id 0 (flatK (pC bg) k (gR l).toArray) cs) fr (by rw[Th]; rfl) (by rw[Th]; rfl) (by rw[Th]; rfl) (by rw[hheap]; simp)
     (fun q hq hne=>by rw[hat q hq,Array.getElem?_modify,if_neg (fun e=>hne e.symm)]) sq (fun o ho=>l8 o (by simpa[putCells]using ho)) (.inr ⟨cap,hρ,_,hM⟩)
     (fun b0 h0=>by rw[hM]at h0; cases h0; exact⟨rfl,by simp[aW.ln,hlen],fun _=>hρ⟩) (fun _=>⟨_,hM⟩)
     (fun e he=>by obtain⟨x,_,rfl⟩:=List.mem_map.1 he; simp[dV,hk]) (by simpa[hlen]using hlc) lO (by simpa[putCells]using hcs)
     (fun i j hi hj=>by
       have hi':i< (gR l).length:=by simpa using hi
       have hj:j<k:=hj
       have WS:i*k+j<l.length*k:=by
        have:(i+1)*k≤l.length*k:=Nat.mul_le_mul_right _ (by rw[hlen]at hi'; exact hi')
        rw[Nat.add_mul,Nat.one_mul]at this; omega
       refine⟨_,hput _ WS,?_,?_⟩
       ·rw[vH _ hi' hj,(nM hk _ hj).1]; rfl
       ·rw[vH _ hi' hj,(nM hk _ hj).1,show ((⟨ty,k,(gR l).map (dV bg),none⟩:aW).es.getD i [])=dV bg (gR l)[i]from xH _ hi',(nM hk _ hj).2]
        exact .int _ _)
     (fun _ _ _ _ _ _ h=>by cases h) (by rw[Th]; show w.drawn≤w.drawn+n; omega)
    have e1:cu (aa (ax [(0,bx.arr ty k (l.map (dV bg)))])) 0 ⟨ty,k,(gR l).map (dV bg),none⟩=aa (ax [(0,.arr ty k ((gR l).map (dV bg)))]):=by
     funext m
     by_cases hm:m=0
     ·subst hm; rfl
     ·have:(m==0)=false:=by simpa using hm
      simp[cu,hm,ax,aa,this]
    rw[e1]at W1
    exact⟨_,rfl,_,I,0,W1.lP (fun m hm=>by rcases hm with rfl|hm; exact Nat.zero_lt_one; exact hm),.aO [] [] rfl (fun j hj=>by simp at hj)⟩
theorem Ik {R:Env} {f g k ty:Nat} {bg:α→List Int} {cf:α→α→Int} {gR:List α→List α} (hb:b6 R.P (R.ft f)) (S:lz R.P (R.ft f) (R.ft g) k bg cf gR) (hk:∀x,(bg x).length=k) (Nq:0<k)
 (hcmp:∀x y,R.Pc g [.agg (dV bg x),.agg (dV bg y)] (.int .i64 (cf x y))) (hlen:∀l,(gR l).length=l.length) (l:List α) (hl:l.length<4611686018427387904):
 R.Mc f [.ba 0 l.length,.bL (.fn (R.ft g)) []] [(0,.arr ty k (l.map (dV bg)))] (.aO []) [(0,.arr ty k ((gR l).map (dV bg)))] 1:=Fu hb (S.e hcmp) hk Nq hlen l hl
theorem Fv {R:Env} {f g k:Nat} {bg:α→List Int} {cf:α→α→Int} {gR:List α→List α} (S:lz R.P (R.ft f) (R.ft g) k bg cf gR):R.Pc f [.ap,.bL (.fn (R.ft g)) []] (.aO []):=by
 intro I w vs hI hr
 obtain⟨hvl,hr⟩:=hr
 obtain⟨v0,v1,rfl⟩:∃v0 v1,vs=[v0,v1]:=by
  match vs,hvl with
  |[a,b],_=>exact⟨a,b,rfl⟩
 have r0:aL cx fy I w ch .ap v0:=hr 0 (by simp)
 cases r0
 refine (S.nil Option.none 0 v1 w).mono ?_
 rintro e w' ⟨rfl,rfl⟩
 exact⟨_,I,rfl,⟨Below.refl _ _,Nat.le_refl _⟩,fun _ h=>h,hI,fun _ _ h=>h,.aO [] [] rfl (fun j hj=>by simp at hj)⟩
end
end Go.UM
namespace Go.UM
open Go.AM
set_option maxRecDepth 4000
def mB (x y:Int):Int:=if x<y then -1 else if y<x then 1 else 0
theorem Jq {R:Env} (h:KD R) (x:Int):R.Pc 468 [.int .i64 x] (.bool false):=
 h.KE.enter 60 rfl fun X bb hfit hp=>by
  refine sh ?_
  exact rT
theorem AH {R:Env} (h:KF R) (x y:Int):R.Pc 451 [.int .i64 x,.int .i64 y] (.int .i64 (mB x y)):=
 h.Et.enter 100 rfl fun X bb hfit hp=>by
  generalize hq:mB x y=q
  unfold mB at hq
  refine sh ?_
  refine ae.pure h.BQ.KE.hb (Jq h.BQ x) rfl ?_
  refine sh ?_
  refine ae.pure h.BQ.KE.hb (Jq h.BQ y) rfl ?_
  refine sh ?_
  refine cS (fun h1=> ?_) (fun h1=> ?_)
  ·rw[if_pos h1]at hq
   subst hq
   refine sh ?_
   exact rT
  ·rw[if_neg (by omega)]at hq
   refine sh ?_
   refine cS (fun h2=> ?_) (fun h2=> ?_)
   ·rw[if_pos h2]at hq
    subst hq
    refine sh ?_
    exact rT
   ·rw[if_neg (by omega)]at hq
    subst hq
    refine sh ?_
    exact rT
def Cr:List Int→Int
 |[]=>0
 |x::r=>if x=0 then Cr r else x
theorem WT {R:Env} (h:KG R) (l:List Int) (hl:l.length≤1073741824):R.Pc 452 [.aH 1 (bI .i64 l)] (.int .i64 (Cr l)):=
 h.PD.enter 100 rfl fun X bb hfit hp=>by
  refine sh ?_
  refine gk 100 (fun i:Nat=>i≤l.length∧Cr (l.drop i)=Cr l) (fun i=>⟨[(3,.int .i64 0),(6,.aH 1 (bI .i64 l)),(7,.int .i64 l.length),(8,.int .i64 i)],[],0⟩) (fun i=>l.length - i) (0) ?_ ?_
  ·exact⟨Nat.zero_le _,by simp⟩
  ·intro i hi
   dsimp only
   refine sh ?_
   refine cS (fun h1=> ?_) (fun h1=> ?_)
   ·obtain⟨x,hx⟩:∃u_,l[i]? =some u_:=⟨_,List.getElem?_eq_getElem (by first|omega|(simp<;>omega))⟩
    refine sh ?_
    refine ab hx ?_
    have hd:Cr l=Cr (x::l.drop (i+1)):=by
     rw[←hi.2]
     congr 1
     have:=(List.getElem?_eq_some_iff.1 hx)
     rw[←this.2,List.getElem_cons_drop]
    refine sh ?_
    refine cS (fun h2=> ?_) (fun h2=> ?_)
    ·refine sh ?_
     refine rT ?_
     all_goals repeat' (first|exact True.intro|refine And.intro ?_ ?_|(intro _u; clear _u)|(with_reducible first|exact ai.fg|refine eM ?_ ?_|refine eF ?_ ?_ ?_|refine eN ?_|refine eL ?_ ?_ ?_|refine eA ?_ ?_|refine aj.mk ⟨_,hp,rfl⟩ ?_ ?_)|refine aj.mk ⟨_,hp,rfl⟩ ?_ ?_)
     all_goals try first|with_reducible rfl|omega|exact .inl (by decide)|(simp; done)|rfl
     rw[hd,Cr,if_neg h2]
    ·refine sh ?_
     refine kq (i+1) ?_ ?_
     ·exact⟨by omega,by rw[hd,Cr,if_pos (by omega)]⟩
     ·omega
   ·refine sh ?_
    refine rT ?_
    all_goals repeat' (first|exact True.intro|refine And.intro ?_ ?_|(intro _u; clear _u)|(with_reducible first|exact ai.fg|refine eM ?_ ?_|refine eF ?_ ?_ ?_|refine eN ?_|refine eL ?_ ?_ ?_|refine eA ?_ ?_|refine aj.mk ⟨_,hp,rfl⟩ ?_ ?_)|refine aj.mk ⟨_,hp,rfl⟩ ?_ ?_)
    all_goals try first|with_reducible rfl|omega|exact .inl (by decide)|(simp; done)|rfl
    rw[←hi.2,List.drop_eq_nil_of_le (by omega)]; rfl
def j5 (x y:In):Int:=Cr [mB x.bK y.bK,mB x.eW y.eW,mB x.dB y.dB,mB x.n y.n]
theorem Il {R:Env} (h:Lw R) (x y:In):R.Pc 450 [.agg [.int .i64 x.bK,.int .i64 x.eW,.int .i64 x.dB,.int .i64 x.n],.agg [.int .i64 y.bK,.int .i64 y.eW,.int .i64 y.dB,.int .i64 y.n]] (.int .i64 (j5 x y)):=
 h.Q9.enter 100 rfl fun X bb hfit hp=>by
  refine sh ?_
  refine ae.pure h.sV.Et.hb (AH h.sV x.bK y.bK) rfl ?_
  refine sh ?_
  refine ae.pure h.sV.Et.hb (AH h.sV x.eW y.eW) rfl ?_
  refine sh ?_
  refine ae.pure h.sV.Et.hb (AH h.sV x.dB y.dB) rfl ?_
  refine sh ?_
  refine ae.pure h.sV.Et.hb (AH h.sV x.n y.n) rfl ?_
  refine sh ?_
  refine cM true [] ((WT h.Hs [mB x.bK y.bK,mB x.eW y.eW,mB x.dB y.dB,mB x.n y.n] (by simp)).mc h.Hs.PD.hb) ?_
  repeat (intro _; first|refine eK ?_|refine eP ?_)
  refine sh ?_
  exact rT
theorem M5 {R:Env} (h:Lx R) (x y:In):R.Pc 436 [.agg x.row,.agg y.row] (.int .i64 (j5 x y)):=
 h.Wq.enter 100 rfl fun X bb hfit hp=>by
  refine sh ?_
  refine ae.pure h.kr.y3.hb (Ck h.kr x) rfl ?_
  refine sh ?_
  refine ae.pure h.kr.y3.hb (Ck h.kr y) rfl ?_
  refine sh ?_
  refine ae.pure h.Ht.Q9.hb (Il h.Ht x y) rfl ?_
  refine sh ?_
  exact rT
def inN (x:In):List Int:=[x.bK,x.eW,x.dB,x.n,x.t.m0,x.t.m1,x.t.m2,x.t.m3,x.t.m4,x.t.m5,x.t.m6,x.t.m7,x.t.m8,x.t.t.a,x.t.t.b,x.t.t.c]
def vS:List In→List Bool→List In
 |x::l,b::sn=>if b=true then x::vS l sn else vS l sn
 |_,_=>[]
theorem xJ:∀l:List In,vS l ((b8 l).map fun _=>false)=[]
 |[]=>rfl
 |x::l=>by
  show (if false=true then x::vS l ((b8 l).map fun _=>false)else vS l ((b8 l).map fun _=>false))=[]
  rw[if_neg (by simp)]; exact xJ l
theorem AI:∀ {l:List In} {sn:List Bool},sn.length=l.length→(∀q ∈ sn,q=true)→vS l sn=l
 |[],[],_,_=>rfl
 |x::l,b::sn,h,ha=>by
  rw[vS,if_pos (ha b (by simp)),AI (by simpa using h) fun q hq=>ha q (by simp[hq])]
 |[],_::_,h,_=>by simp at h
 |_::_,[],h,_=>by simp at h
theorem AJ:∀ (l:List In) (sn:List Bool),(vS l sn).length≤l.length
 |x::l,b::sn=>by
  have:=AJ l sn
  rw[vS]; split<;>simp only[List.length_cons]<;>omega
 |[],_=>by simp[vS]
 |_::_,[]=>by simp[vS]
theorem vI:∀ {l:List In} {sn:List Bool} {i:Nat} {x:In},l[i]? =some x→sn[i]? =some false→(x::vS l sn).Perm (vS l (sn.set i true))
 |[],_,i,x,h,_=>by simp at h
 |_::_,[],i,x,_,h=>by simp at h
 |y::l,b::sn,0,x,h,hs=>by
  simp at h hs; subst h; subst hs
  rw[List.set_cons_zero,vS,vS,if_neg (by simp),if_pos rfl]
 |y::l,b::sn,i+1,x,h,hs=>by
  have ih:=vI (l:=l) (sn:=sn) (i:=i) (x:=x) (by simpa using h) (by simpa using hs)
  rw[List.set_cons_succ,vS,vS]
  by_cases hb:b=true
  ·rw[if_pos hb,if_pos hb]
   exact (List.Perm.swap y x _).trans (ih.cons y)
  ·rw[if_neg hb,if_neg hb]; exact ih
theorem AK {a b:Int} {r:List Int}:Cr (mB a b::r)<0↔a<b∨(a=b∧Cr r<0):=by
 show (if mB a b=0 then Cr r else mB a b)<0↔_
 unfold mB
 by_cases h1:a<b
 ·rw[if_pos h1,if_neg (by omega)]; omega
 ·rw[if_neg h1]
  by_cases h2:b<a
  ·rw[if_pos h2,if_neg (by omega)]; omega
  ·rw[if_neg h2,if_pos rfl]; omega
theorem dq {x y:In}:j5 x y<0↔x.bK<y.bK∨x.bK=y.bK∧(x.eW<y.eW∨x.eW=y.eW∧(x.dB<y.dB∨x.dB=y.dB∧x.n<y.n)):=by
 unfold j5
 rw[AK,AK,AK,AK]
 simp[Cr]
theorem dQ {x y:In}:aU x y=true↔x.bK=y.bK∧x.eW=y.eW∧x.dB=y.dB∧x.n=y.n:=by simp[aU]
def leI (x y:In):Bool:=decide (¬j5 y x<0)
theorem j6 {x y:In}:leI x y=true↔¬j5 y x<0:=by simp[leI]
theorem lA (x y:In):(leI x y||leI y x)=true:=by
 rw[Bool.or_eq_true,j6,j6,dq,dq]; omega
theorem jD (x y z:In) (h1:leI x y=true) (h2:leI y z=true):leI x z=true:=by
 rw[j6,dq]at h1 h2 ⊢; omega
theorem xK {x y:In} (h1:leI x y=true) (h2:leI y x=true):aU x y=true:=by
 rw[j6,dq]at h1 h2
 rw[dQ]; omega
def cZ (l:List In):List In:=l.mergeSort leI
structure M6 (gR:List In→List In):Prop where
 perm:∀l,(gR l).Perm l
 ord:∀l,(gR l).Pairwise fun x y=>leI x y=true
theorem M6.eq {gR:List In→List In} (S:M6 gR) {out l:List In} (nd:l.Pairwise fun a b=>aU a b=false) (h:out.Perm l):gR out=cZ l:=by
 refine List.Perm.eq_of_pairwise (le:=fun x y=>leI x y=true) ?_ (S.ord out) (List.pairwise_mergeSort jD lA l) ((S.perm out).trans (h.trans (List.mergeSort_perm l leI).symm))
 intro a b ha hb h1 h2
 have WU:a ∈ l:=h.mem_iff.1 ((S.perm out).mem_iff.1 ha)
 have hb':b ∈ l:=(List.mergeSort_perm l leI).mem_iff.1 hb
 have hs:=xK h1 h2
 have hs':aU b a=true:=xK h2 h1
 obtain⟨i,hi,rfl⟩:=List.getElem_of_mem WU
 obtain⟨j,hj,rfl⟩:=List.getElem_of_mem hb'
 rw[List.pairwise_iff_getElem]at nd
 rcases Nat.lt_trichotomy i j with h|h|h
 ·rw[nd i j hi hj h]at hs; cases hs
 ·subst h; rfl
 ·rw[nd j i hj hi h]at hs'; cases hs'
instance:Inhabited In:=⟨⟨0,0,0,0,⟨0,0,0,0,0,0,0,0,0,⟨0,0,0⟩⟩⟩⟩
abbrev Fw (R:Env) (gR:List In→List In):Prop:=lz R.P (R.ft 435) (R.ft 436) 16 inN j5 gR
set_option maxHeartbeats 2000000 in
theorem xL {R:Env} (h:Hu R) (gR:List In→List In) (S:Fw R gR) (hs:M6 gR) (d1 d2:Bool) (t:Tb) (nd:t.ins.Pairwise fun a b=>aU a b=false) (hn:t.ins.length≤1000000):
  R.Mc 419 [.loc 2 1 0 0] (eC R d1 d2 t) (.ba 3 (cZ t.ins).length) (eC R d1 false t++ [(3,.arr (R.ty 44) 16 (b8 (cZ t.ins)))]) 4:=
 h.Rc.aV 100 3 rfl rfl rfl fun X bb hfit hp=>by
  unfold eC
  refine sh ?_
  refine cM false [0,1,2] (j4 h.eV d1 d2 t) ?_
  repeat (intro _; first|refine eK ?_|refine eP ?_)
  refine sh ?_
  refine⟨fun r=> ?_⟩
  refine sh ?_
  refine gk 100 (Sum.elim (fun s:List Bool=>s=(b8 t.ins).map fun _=>false) (fun s:List Bool × Option Nat × List In=>s.1.length=t.ins.length∧s.2.2.Perm (vS t.ins s.1))) (Sum.elim (fun s=>⟨[(3,.ap),(12,.lJ 1 r)],[(0,.map 1 false true d1 41 (iD t.rows)),(1,.map 4 true true (.it r s none) 16 (b8 t.ins)),(2,.var (R.ty 47) [.omap 0,.omap 1])],3⟩) (fun s=>⟨[(3,.ba 3 s.2.2.length),(12,.lJ 1 r)],[(0,.map 1 false true d1 41 (iD t.rows)),(1,.map 4 true true (.it r s.1 s.2.1) 16 (b8 t.ins)),(2,.var (R.ty 47) [.omap 0,.omap 1]),(3,.arr (R.ty 44) 16 (b8 s.2.2))],4⟩)) (Sum.elim (fun s=>nF s) (fun s=>nF s.1)) (.inl ((b8 t.ins).map fun _=>false)) ?_ ?_
  ·rfl
  ·rintro (sn|⟨sn,la,out⟩) hv
   ·dsimp only[Sum.elim_inl]at hv ⊢
    refine sh ?_
    refine⟨rfl,fun h1 h2=> ?_,fun i row h1 h2 h3=> ?_⟩
    ·have e:t.ins=[]:=by
      subst hv
      cases hl:t.ins with
      |nil=>rfl
      |cons x l=>rw[hl]at h1; have:=h1 false (by simp[b8]); cases this
     have hr:=e
     refine sh ?_
     refine ae.pure h.Hv.Py.hb (Fv S) rfl ?_
     rw[e,show cZ []=[]from by simp[cZ]]
     refine sh ?_
     exact rM [0,1,2,50]
    ·obtain⟨x,hx,rfl⟩:=zv h1
     refine sh ?_
     refine⟨⟨rfl,i,x.row,rfl,h1,?_⟩⟩
     refine sh ?_
     refine nR [0,1,2,6] (.inr (sn.set i true,some i,[x])) ?_ ?_
     ·refine⟨by rw[List.length_set]; simpa using h3,?_⟩
      have:=vI hx h2
      rw[hv,xJ]at this
      rw[hv]; exact this
     ·have:=vG h2
      show nF (sn.set i true)<nF sn
      omega
   ·dsimp only[Sum.elim_inr]at hv ⊢
    refine sh ?_
    refine⟨rfl,fun h1 h2=> ?_,fun i row h1 h2 h3=> ?_⟩
    ·have e:out.Perm t.ins:=by have:=hv.2; rwa[AI hv.1 h1]at this
     have e2:=hs.eq nd e
     have el:out.length=(cZ t.ins).length:=by rw[←e2,(hs.perm out).length_eq]
     have c:R.Mc 435 [.ba 0 out.length,.bL (.fn (R.ft 436)) []] [(0,.arr (R.ty 44) 16 (b8 out))] (.aO []) [(0,.arr (R.ty 44) 16 (b8 (cZ t.ins)))] 1:=by
      rw[←e2]
      exact Ik (ty:=R.ty 44) h.Hv.Py.hb S (fun _=>rfl) (by omega) (fun x y=>M5 h.Ly x y) (fun l=>(hs.perm l).length_eq) out (by rw[e.length_eq]; omega)
     refine sh ?_
     refine cM false [3] (c) ?_
     repeat (intro _; first|refine eK ?_|refine eP ?_)
     refine sh ?_
     exact rM [0,1,2,3]
    ·obtain⟨x,hx,rfl⟩:=zv h1
     have hb:out.length≤1000000:=by
      have:=hv.2.length_eq
      have:=AJ t.ins sn
      omega
     refine sh ?_
     refine⟨⟨rfl,i,x.row,rfl,h1,?_⟩⟩
     refine sh ?_
     refine nX (.inr (sn.set i true,some i,out++ [x])) ?_ ?_ ⟨_,hp,rfl⟩ ?_ ?_
     ·refine⟨by rw[List.length_set]; exact hv.1,?_⟩
      exact (List.perm_append_singleton x out).trans ((hv.2.cons x).trans (vI hx h2))
     ·have:=vG h2
      show nF (sn.set i true)<nF sn
      omega
     ·all_goals repeat' (first|exact True.intro|refine And.intro ?_ ?_|(intro _u; clear _u)|(with_reducible first|exact ai.fg|refine eM ?_ ?_|refine eF ?_ ?_ ?_|refine eN ?_|refine eL ?_ ?_ ?_|refine eA ?_ ?_|refine aj.mk ⟨_,hp,rfl⟩ ?_ ?_)|refine aj.mk ⟨_,hp,rfl⟩ ?_ ?_)
      all_goals try first|with_reducible rfl|omega|exact .inl (by decide)|(simp; done)|rfl
     ·all_goals repeat' (first|exact True.intro|refine And.intro ?_ ?_|(intro _u; clear _u)|(with_reducible first|exact ai.fg|refine eM ?_ ?_|refine eF ?_ ?_ ?_|refine eN ?_|refine eL ?_ ?_ ?_|refine eA ?_ ?_|refine aj.mk ⟨_,hp,rfl⟩ ?_ ?_)|refine aj.mk ⟨_,hp,rfl⟩ ?_ ?_)
      all_goals try first|with_reducible rfl|omega|exact .inl (by decide)|(simp; done)|rfl
      all_goals first|exact (zi out [x]).symm|(right; simp[In.row])
end Go.UM
namespace Go.UM
open Go.AM
set_option maxRecDepth 4000
structure Ac where
 k:Int
 h:Int
 f:Mf
 a:As
 i:In
def Ac.row (c:Ac):List AV:=[.int .i64 c.k,.int .i64 c.h,.int .u64 c.f.id,.int .i64 c.f.kind,.int .u32 c.f.label,.int .u8 c.f.m0,.int .u8 c.f.m1,.int .u8 c.f.m2,.int .u8 c.f.m3,.int .u8 c.f.m4,.int .u8 c.f.m5,.int .u8 c.f.m6,.int .u8 c.f.m7,
 .int .u32 c.f.first,.int .u32 c.f.last,.int .i64 c.f.size,.int .i64 c.f.chunks,.int .i64 c.a.k,.aH 3 (bD c.a.m.v),.aH 2 (dL c.a.m.uv),.aH 3 (bD c.a.m.t),.int .i64 c.a.x.side,.aH 3 (bD c.a.x.t),
 .int .i64 c.a.mt.k,.int .i64 c.a.mt.c.a,.int .i64 c.a.mt.c.b,.int .i64 c.a.mt.c.c,.int .i64 c.a.mt.r,
 .int .i64 c.a.li.k,.int .i64 c.a.li.c.a,.int .i64 c.a.li.c.b,.int .i64 c.a.li.c.c,.int .i64 c.a.li.p.a,.int .i64 c.a.li.p.b,.int .i64 c.a.li.p.c,.int .i64 c.a.li.u.a,.int .i64 c.a.li.u.b,.int .i64 c.a.li.u.c,.int .i64 c.a.li.v.a,.int .i64 c.a.li.v.b,.int .i64 c.a.li.v.c,
 .int .i64 c.i.bK,.int .i64 c.i.eW,.int .i64 c.i.dB,.int .i64 c.i.n,.int .i64 c.i.t.m0,.int .i64 c.i.t.m1,.int .i64 c.i.t.m2,.int .i64 c.i.t.m3,.int .i64 c.i.t.m4,.int .i64 c.i.t.m5,.int .i64 c.i.t.m6,.int .i64 c.i.t.m7,.int .i64 c.i.t.m8,.int .i64 c.i.t.t.a,.int .i64 c.i.t.t.b,.int .i64 c.i.t.t.c]
def As.ku (a:As):As:=⟨a.k,a.m.ku,⟨a.x.side,a.x.t.take 260⟩,a.mt,a.li⟩
def Ac.ku (c:Ac):Ac:=⟨c.k,c.h,c.f,c.a.ku,c.i⟩
theorem Im {R:Env} (h:Mh R) (c:Ac):R.Pc 420 [.agg c.row] (.agg c.ku.row):=
 h.Su.enter 100 rfl fun X bb hfit hp=>by
  refine sh ?_
  refine ae.pure h.n191.Rq.hb (H9 h.n191 c.a.m) rfl ?_
  refine sh ?_
  refine iS (by exact MJ _ _) ?_
  refine sh ?_
  exact rT
def Cs (t:Tb) (c:Ac):Tb × Int:=if c.k=0 then ko t c.h c.f c.a else if c.k=1 then gI t c.h else if c.k=2 then xD t c.i else pB t c.i
structure j7 (t:Tb) (n:Nat):Prop where
 row:∀r ∈ t.rows,xF r
 nd:t.ins.Pairwise fun a b=>aU a b=false
 rd:t.rows.Pairwise fun a b=>a.h≠b.h
 rl:t.rows.length≤n
 il:t.ins.length≤n
theorem Ti {R:Env} (h:Mi R) (d1 d2:Bool) (t:Tb) (c:Ac) {n:Nat} (ok:j7 t n) (hn:n≤1000000) (fx:c.a.x.t.length≤1000) (fb:c.a.bare.vR) (hx:c.i.t.I):
  R.Mc 421 [.loc 2 1 0 0,.agg c.row] (eC R d1 d2 t) (.int .i64 (Cs t c).2) (eC R false false (Cs t c).1) 3:=
 h.WG.aV 100 3 rfl rfl rfl fun X bb hfit hp=>by
  have h1:=ok.rl
  have h2:=ok.il
  generalize hq:Cs t c=q
  unfold Cs at hq
  unfold eC
  refine sh ?_
  refine cS (fun k0=> ?_) (fun k0=> ?_)
  ·rw[if_pos k0]at hq
   subst hq
   refine sh ?_
   refine cM false [0,1,2] (sa h.n346 d1 d2 t c.h c.f c.a fx fb (by omega)) ?_
   repeat (intro _; first|refine eK ?_|refine eP ?_)
   refine sh ?_
   exact rM [0,1,2]
  ·rw[if_neg k0]at hq
   refine sh ?_
   refine cS (fun k1=> ?_) (fun k1=> ?_)
   ·rw[if_pos k1]at hq
    subst hq
    refine sh ?_
    refine cM false [0,1,2] (oJ h.sW d1 d2 t ok.nd c.h) ?_
    repeat (intro _; first|refine eK ?_|refine eP ?_)
    refine sh ?_
    exact rM [0,1,2]
   ·rw[if_neg k1]at hq
    refine sh ?_
    refine cS (fun k2=> ?_) (fun k2=> ?_)
    ·rw[if_pos k2]at hq
     subst hq
     refine sh ?_
     refine cM false [0,1,2] (MZ h.BW d1 d2 t c.i ok.row hx (by omega)) ?_
     repeat (intro _; first|refine eK ?_|refine eP ?_)
     refine sh ?_
     exact rM [0,1,2]
    ·rw[if_neg k2]at hq
     subst hq
     refine sh ?_
     refine cM false [0,1,2] (Ii h.BX d1 d2 t c.i) ?_
     repeat (intro _; first|refine eK ?_|refine eP ?_)
     refine sh ?_
     exact rM [0,1,2]
theorem vJ {R:Env} (h:L9 R) (l:List In) (hl:l.length≤1000000):R.Pc 343 [.aH 16 (b8 l),.aH 16 (b8 l)] (.bool true):=
 h.HJ.enter 100 rfl fun X bb hfit hp=>by
  refine sh ?_
  refine aq (by simp) ?_
  refine sh ?_
  refine gk 100 (fun i:Nat=>i≤l.length) (fun i=>⟨[(0,.aH 16 (b8 l)),(1,.aH 16 (b8 l)),(5,.int .i64 i)],[],0⟩) (fun i=>l.length - i) (0) ?_ ?_
  ·exact Nat.zero_le _
  ·intro i hi
   dsimp only
   refine sh ?_
   refine cS (fun h1=> ?_) (fun h1=> ?_)
   ·obtain⟨x,hx⟩:∃u_,l[i]? =some u_:=⟨_,List.getElem?_eq_getElem (by first|omega|(simp<;>omega))⟩
    refine sh ?_
    refine ab hx ?_
    refine sh ?_
    refine ab hx ?_
    refine sh ?_
    refine aq (by simp) ?_
    refine sh ?_
    refine kq (i+1) ?_ ?_
    ·omega
    ·omega
   ·refine sh ?_
    exact rT
end Go.UM
namespace Go.UM
open Go.AM
set_option maxRecDepth 4000
instance {l:List Rw}:ki (gD l) l.length:=⟨mA l⟩
theorem vK {R:Env} (h:Ma R) (l:List Rw) (hl:l.length≤1000000) (hf:∀r ∈ l,r.a.vR):R.Pc 422 [.aH 40 (gD l),.aH 40 (gD l)] (.bool true):=
 h.HK.enter 100 rfl fun X bb hfit hp=>by
  refine sh ?_
  refine aq (by simp) ?_
  refine sh ?_
  refine gk 100 (fun i:Nat=>i≤l.length) (fun i=>⟨[(0,.aH 40 (gD l)),(1,.aH 40 (gD l)),(5,.int .i64 i)],[],0⟩) (fun i=>l.length - i) (0) ?_ ?_
  ·exact Nat.zero_le _
  ·intro i hi
   dsimp only
   refine sh ?_
   refine cS (fun h1=> ?_) (fun h1=> ?_)
   ·obtain⟨x,hx⟩:∃u_,l[i]? =some u_:=⟨_,List.getElem?_eq_getElem (by first|omega|(simp<;>omega))⟩
    refine sh ?_
    refine ab hx ?_
    refine sh ?_
    refine ab hx ?_
    refine sh ?_
    refine aq (by simp) ?_
    refine sh ?_
    refine ab hx ?_
    refine sh ?_
    refine ab hx ?_
    refine sh ?_
    refine aq (by simp) ?_
    refine sh ?_
    refine ab hx ?_
    refine sh ?_
    refine ab hx ?_
    refine sh ?_
    refine ae.pure h.n299.Sg.hb (If h.n299 x.a x.a (hf x (List.mem_of_getElem? hx))) rfl ?_
    refine sh ?_
    refine aq (by simp[cE]) ?_
    refine sh ?_
    refine kq (i+1) ?_ ?_
    ·omega
    ·omega
   ·refine sh ?_
    exact rT
theorem j7.mono {t:Tb} {n m:Nat} (h:j7 t n) (k:n≤m):j7 t m:=⟨h.row,h.nd,h.rd,Nat.le_trans h.rl k,Nat.le_trans h.il k⟩
theorem xM:j7 ⟨[],[]⟩ 0:=⟨fun r h=>by simp at h,.nil,.nil,Nat.le_refl _,Nat.le_refl _⟩
theorem mC (x y:In):aU x y=aU y x:=by
 rw[Bool.eq_iff_iff,dQ,dQ]; omega
theorem sb {t:Tb} {n:Nat} (ok:j7 t n) {hd:Int} {f:Mf} {a:As} (fx:a.x.t.length≤1000):j7 (ko t hd f a).1 (n+1):=by
 have old:=ok.mono (Nat.le_succ n)
 unfold ko
 split
 ·exact old
 ·rename_i k1
  split
  ·exact old
  ·rename_i k2
   split
   ·exact old
   ·rename_i k3
    split
    ·exact old
    ·rename_i k4
     have hn:∀r ∈ t.rows,r.h≠hd:=fun r hr e=>by
      apply k2
      unfold bE
      rw[List.find?_isSome]
      exact⟨r,hr,by simpa using e⟩
     refine⟨fun r hr=> ?_,ok.nd,?_,?_,old.il⟩
     ·rcases List.mem_append.1 hr with h|h
      ·exact ok.row r h
      ·simp only[List.mem_singleton]at h
       subst h
       exact⟨⟨by show 1≤hd; omega,by show hd≤65536; omega⟩,Classical.byContradiction k3,Classical.byContradiction k4,fx⟩
     ·rw[List.pairwise_append]
      exact⟨ok.rd,by simp,fun r hr q hq=>by simp only[List.mem_singleton]at hq; subst hq; exact hn r hr⟩
     ·simp only[List.length_append,List.length_singleton]
      have:=ok.rl; omega
theorem zx {t:Tb} {n:Nat} (ok:j7 t n) {hd:Int}:j7 (gI t hd).1 n:=by
 unfold gI
 split
 ·exact⟨fun r hr=>ok.row r (List.eraseP_sublist.subset hr),ok.nd.sublist List.filter_sublist,ok.rd.sublist List.eraseP_sublist,Nat.le_trans List.eraseP_sublist.length_le ok.rl,Nat.le_trans List.filter_sublist.length_le ok.il⟩
 ·exact ok
theorem Fx {t:Tb} {n:Nat} (ok:j7 t n) {x:In}:j7 (pB t x).1 n:=by
 unfold pB
 split
 ·exact⟨ok.row,ok.nd.sublist List.eraseP_sublist,ok.rd,ok.rl,Nat.le_trans List.eraseP_sublist.length_le ok.il⟩
 ·exact ok
theorem Io {t:Tb} {n:Nat} (ok:j7 t n) {x:In}:j7 (xD t x).1 (n+1):=by
 have old:=ok.mono (Nat.le_succ n)
 unfold xD
 split
 ·exact old
 ·split
  ·exact old
  ·split
   ·exact old
   ·rename_i k3
    cases hr:bE t.rows x.bK with
    |none=>exact old
    |some r=>
     dsimp only
     split
     ·exact old
     ·refine⟨ok.row,?_,ok.rd,old.rl,?_⟩
      ·rw[List.pairwise_append]
       refine⟨ok.nd,by simp,fun y hy q hq=> ?_⟩
       simp only[List.mem_singleton]at hq
       subst hq
       rw[mC]
       cases hs:aU q y with
       |false=>rfl
       |true=>
        exfalso
        apply k3
        unfold eY
        rw[List.find?_isSome]
        exact⟨y,hy,hs⟩
      ·simp only[List.length_append,List.length_singleton]
       have:=ok.il; omega
theorem M7 {t:Tb} {n:Nat} (ok:j7 t n) {c:Ac} (fx:c.a.x.t.length≤1000):j7 (Cs t c).1 (n+1):=by
 unfold Cs
 split
 ·exact sb ok fx
 ·split
  ·exact (zx ok).mono (Nat.le_succ n)
  ·split
   ·exact Io ok
   ·exact (Fx ok).mono (Nat.le_succ n)
end Go.UM
namespace Go.UM
open Go.AM
set_option maxRecDepth 4000
def jE (x y:Rw):Bool:=decide (x.h≤y.h)
def ca (l:List Rw):List Rw:=l.mergeSort jE
@[simp] theorem dr (l:List Rw):(ca l).length=l.length:=by simp[ca]
theorem dc {l:List Rw} {r:Rw}:r ∈ ca l↔r ∈ l:=(List.mergeSort_perm l jE).mem_iff
theorem gn {l:List Rw} (rd:l.Pairwise fun a b=>a.h≠b.h) {r:Rw} (hr:r ∈ l):bE l r.h=some r:=by
 induction l with
 |nil=>simp at hr
 |cons a l ih=>
  obtain⟨h1,h2⟩:=List.pairwise_cons.1 rd
  unfold bE
  rw[List.find?_cons]
  rcases List.mem_cons.1 hr with rfl|h
  ·simp
  ·have:(a.h==r.h)=false:=by simpa using h1 r h
   rw[this]
   exact ih h2 h
def dD (l:List Rw):List Int:=(ca l).map (·.h)
abbrev xN (R:Env):Prop:=∀ (d1:Bool) (l:List Rw),l.Pairwise (fun a b=>a.h≠b.h)→(∀r ∈ l,xF r)→l.length≤1000000→
 R.Mz true 434 [.bL (.fn (R.ft 447)) [.loc 0 1 0 0]] [(0,.var (R.ty 57) [.omap 1]),(1,.map 1 false true d1 41 (iD l))] (.ba 2 (dD l).length) [(0,.var (R.ty 57) [.omap 1]),(1,.map 1 false true d1 41 (iD l)),(2,.arr (R.ty 10) 1 (bI .i64 (dD l)))] 3
theorem M8 {R:Env} (h:KC R) (d1:Bool) (l:List Rw):R.Mc 433 [.omap 0] [(0,.map 1 false true d1 41 (iD l))] (.bL (.fn (R.ft 447)) [.loc 1 1 0 0]) [(0,.map 1 false true d1 41 (iD l)),(1,.var (R.ty 57) [.omap 0])] 2:=
 h.Wd.aV 60 1 rfl rfl rfl fun X bb hfit hp=>by
  refine sh ?_
  exact rM [0,1]
theorem Fy {l:List Rw} {i:Nat} {k:Int} (h:(dD l)[i]? =some k):∃r,(ca l)[i]? =some r∧r.h=k:=by
 unfold dD at h
 rw[List.getElem?_map]at h
 exact Option.map_eq_some_iff.1 h
theorem FA {l:List Rw} {i:Nat} {r:Rw} (h:l[i]? =some r):gD (l.take i)++ [r.row]=gD (l.take (i+1)):=by
 rw[List.take_add_one,h]; simp[gD]
set_option maxHeartbeats 4000000 in
theorem vM {R:Env} (h:EA R) (K:xN R) (d1 d2:Bool) (t:Tb) {n:Nat} (ok:j7 t n) (hn:n≤1000000):
  R.Mz true 418 [.loc 2 1 0 0] (eC R d1 d2 t) (.ba 3 (ca t.rows).length) (eC R d1 d2 t++ [(3,.arr (R.ty 45) 40 (gD (ca t.rows)))]) 4:=
 h.Q7.GW 100 3 rfl rfl rfl fun X bb hfit hp hz=>by
  have hl:=ok.rl
  have hk:(dD t.rows).length=t.rows.length:=by simp[dD]
  unfold eC
  refine sh ?_
  refine cM false [0,1,2] (j4 h.eV d1 d2 t) ?_
  repeat (intro _; first|refine eK ?_|refine eP ?_)
  refine sh ?_
  refine cM false [0] (M8 h.Lu d1 t.rows) ?_
  repeat (intro _; first|refine eK ?_|refine eP ?_)
  refine sh ?_
  refine cM false [3,0] (K d1 t.rows ok.rd ok.row (by omega)) ?_
  repeat (intro _; first|refine eK ?_|refine eP ?_)
  refine sh ?_
  refine gk 100 (Sum.elim (fun _:Unit=>True) (fun i:Nat=>1≤i∧i≤t.rows.length)) (Sum.elim (fun _=>⟨[(0,.loc 2 1 0 0),(3,.ap),(14,.ba 4 (dD t.rows).length),(15,.int .i64 (dD t.rows).length),(16,.int .i64 0)],[(0,.map 1 false true d1 41 (iD t.rows)),(1,.map 4 true true d2 16 (b8 t.ins)),(2,.var (R.ty 47) [.omap 0,.omap 1]),(3,.var (R.ty 57) [.omap 0]),(4,.arr (R.ty 10) 1 (bI .i64 (dD t.rows)))],5⟩) (fun i=>⟨[(0,.loc 2 1 0 0),(3,.ba 5 ((ca t.rows).take i).length),(14,.ba 4 (dD t.rows).length),(15,.int .i64 (dD t.rows).length),(16,.int .i64 i)],[(0,.map 1 false true d1 41 (iD t.rows)),(1,.map 4 true true d2 16 (b8 t.ins)),(2,.var (R.ty 47) [.omap 0,.omap 1]),(3,.var (R.ty 57) [.omap 0]),(4,.arr (R.ty 10) 1 (bI .i64 (dD t.rows))),(5,.arr (R.ty 45) 40 (gD ((ca t.rows).take i)))],6⟩)) (Sum.elim (fun _=>t.rows.length+1) (fun i=>t.rows.length - i)) (.inl ()) ?_ ?_
  ·trivial
  ·rintro (_|i) hv
   ·dsimp only[Sum.elim_inl]at hv ⊢
    refine sh ?_
    refine cS (fun h1=> ?_) (fun h1=> ?_)
    ·obtain⟨k,hkk⟩:∃u_,(dD t.rows)[0]? =some u_:=⟨_,List.getElem?_eq_getElem (by omega)⟩
     refine sh ?_
     refine rE (by simp) hkk ?_
     obtain⟨r,hr,rfl⟩:=Fy hkk
     have hm:=dc.1 (List.mem_of_getElem? hr)
     refine sh ?_
     refine oH fun j=> ?_
     rw[gn ok.rd hm]
     dsimp only[Option.map_some]
     refine sh ?_
     refine ae.pure h.sU.Hp.hb (oI h.sU r.a (jC (ok.row r hm).a (ok.row r hm).x)) rfl ?_
     have e1:(ca t.rows).take 1=[r]:=by
      cases hq:ca t.rows with
      |nil=>rw[hq]at hr; simp at hr
      |cons a q=>rw[hq]at hr; simp at hr; rw[hr]; rfl
     refine sh ?_
     refine NE [0,1,2,3,4,7] (.inr 1) ?_ ?_ ?_
     ·exact⟨by omega,by omega⟩
     ·dsimp only[Sum.elim_inr]; omega
     ·all_goals repeat' (first|exact True.intro|refine And.intro ?_ ?_|(intro _u; clear _u)|(with_reducible first|exact ai.fg|refine eM ?_ ?_|refine eF ?_ ?_ ?_|refine eN ?_|refine eL ?_ ?_ ?_|refine eA ?_ ?_|refine aj.mk ⟨_,hp,rfl⟩ ?_ ?_)|refine aj.mk ⟨_,hp,rfl⟩ ?_ ?_)
      all_goals try first|with_reducible rfl|omega|exact .inl (by decide)|(simp; done)|rfl
      all_goals first|(rw[e1]; rfl)|(rw[e1]; simp[Rw.row,gD])
    ·have e:t.rows=[]:=List.eq_nil_of_length_eq_zero (by omega)
     rw[e,show ca []=[]from by simp[ca]]
     refine sh ?_
     exact rM [0,1,2,50]
   ·dsimp only[Sum.elim_inr]at hv ⊢
    have ht:((ca t.rows).take i).length=i:=by rw[List.length_take,dr]; omega
    refine sh ?_
    refine cS (fun h1=> ?_) (fun h1=> ?_)
    ·obtain⟨k,hkk⟩:∃u_,(dD t.rows)[i]? =some u_:=⟨_,List.getElem?_eq_getElem (by omega)⟩
     refine sh ?_
     refine rE (by simp) hkk ?_
     obtain⟨r,hr,rfl⟩:=Fy hkk
     have hm:=dc.1 (List.mem_of_getElem? hr)
     refine sh ?_
     refine oH fun j=> ?_
     rw[gn ok.rd hm]
     dsimp only[Option.map_some]
     refine sh ?_
     refine ae.pure h.sU.Hp.hb (oI h.sU r.a (jC (ok.row r hm).a (ok.row r hm).x)) rfl ?_
     refine sh ?_
     refine nX (.inr (i+1)) ?_ ?_ ⟨_,hp,rfl⟩ ?_ ?_
     ·exact⟨by omega,by omega⟩
     ·dsimp only[Sum.elim_inr]; omega
     ·all_goals repeat' (first|exact True.intro|refine And.intro ?_ ?_|(intro _u; clear _u)|(with_reducible first|exact ai.fg|refine eM ?_ ?_|refine eF ?_ ?_ ?_|refine eN ?_|refine eL ?_ ?_ ?_|refine eA ?_ ?_|refine aj.mk ⟨_,hp,rfl⟩ ?_ ?_)|refine aj.mk ⟨_,hp,rfl⟩ ?_ ?_)
      all_goals try first|with_reducible rfl|omega|exact .inl (by decide)|(simp; done)|rfl
      all_goals (simp only[List.length_append,mA,List.length_take,dr,List.length_singleton]; omega)
     ·all_goals repeat' (first|exact True.intro|refine And.intro ?_ ?_|(intro _u; clear _u)|(with_reducible first|exact ai.fg|refine eM ?_ ?_|refine eF ?_ ?_ ?_|refine eN ?_|refine eL ?_ ?_ ?_|refine eA ?_ ?_|refine aj.mk ⟨_,hp,rfl⟩ ?_ ?_)|refine aj.mk ⟨_,hp,rfl⟩ ?_ ?_)
      all_goals try first|with_reducible rfl|omega|exact .inl (by decide)|(simp; done)|rfl
      all_goals first|exact FA hr|(right; simp[Rw.row])
    ·have e:(ca t.rows).take i=ca t.rows:=List.take_of_length_le (by rw[dr]; omega)
     rw[e]
     refine sh ?_
     exact rM [0,1,2,5]
end Go.UM
namespace Go.UM
open Go.AM Go.RowKit Go.Proofs
def AL (P:Program) (f g kt et:Nat):Prop:=
 ∀ (b nn Bm:Nat) (D0:DataW Unit) (Q:Value→Option (DataW Unit × List MemPlace)) (w:World),Bm<w.heap.size→w.cell? ⟨Bm,0,none⟩=some (.map (some b))→w.ownsMap P kt Q b nn D0→Maps.size D0≤maxLen→Maps.size D0*8≤140737488355328→
   Calls P f #[.func (.func g) #[] #[.pointer (some ⟨Bm,0,none⟩)]] w fun e w'=>∃ (v:Value) (ss:List Int),e= .returned v∧ss.Perm (intKeys D0)∧
    w'.ownsRow w.heap.size et 1 v ss.length ((ss.mergeSort (fun x y=>decide (x≤y))).map encZ)∧(v= .slice none 0 0↔ss=[])∧Go.RowKit.Below w.heap.size w w'
theorem Ct {l:List Rw} {ss:List Int} (h:ss.Perm (l.map (·.h))):ss.mergeSort (fun x y=>decide (x≤y))=dD l:=by
 have tr:∀a b c:Int,decide (a≤b)=true→decide (b≤c)=true→decide (a≤c)=true:=fun a b c h1 h2=>by simp only[decide_eq_true_eq]at *; omega
 have to:∀a b:Int,(decide (a≤b)||decide (b≤a))=true:=fun a b=>by simp only[Bool.or_eq_true,decide_eq_true_eq]; omega
 have tr':∀x y z:Rw,jE x y=true→jE y z=true→jE x z=true:=fun x y z h1 h2=>by simp only[jE,decide_eq_true_eq]at h1 h2 ⊢; omega
 have to':∀x y:Rw,(jE x y||jE y x)=true:=fun x y=>by simp only[jE,Bool.or_eq_true,decide_eq_true_eq]; omega
 refine List.Perm.eq_of_pairwise (le:=fun a b=>decide (a≤b)=true) (fun a b _ _ h1 h2=>by simp only[decide_eq_true_eq]at h1 h2; omega) (List.pairwise_mergeSort tr to ss) ?_ ((List.mergeSort_perm ss _).trans (h.trans ((List.mergeSort_perm l jE).map (·.h)).symm))
 unfold dD
 rw[List.pairwise_map]
 exact List.pairwise_mergeSort tr' to' l
def qN:Value→Option (DataW Unit × List MemPlace):=fun _=>some (.nil,[])
theorem bu {ρ:AM.Place} {L:aT} {I:Nat→Prop} {w:World} {N:Nat→Prop} {n:Int} {v:Value} (h:aL ρ L I w N (.int .i64 n) v):v= .int .i64 n:=by cases h; rfl
theorem FB {P:Program} {kt:Nat} (NF:P.underlying kt=some (.int .i64)) {l:List Rw} (rd:l.Pairwise fun a b=>a.h≠b.h) (ok:∀r ∈ l,xF r) (hl:l.length≤1000000) {en:Array MapEntry} {ck gm:Nat} {w:World} (hg:w.heap[gm]? =some (.map en ck)) (hs:en.size=l.length)
  (hb:∀ (i j:Nat) (e f:MapEntry),en[i]? =some e→en[j]? =some f→i<j→e.born<f.born) (TS:∀ (i:Nat) (e:MapEntry),en[i]? =some e→e.born<ck)
  (hk:∀ (i:Nat) (e:MapEntry) (r:Rw),en[i]? =some e→l[i]? =some r→e.key= .int .i64 r.h):
  ∃D0:DataW Unit,w.ownsMap P kt qN gm l.length D0∧Maps.size D0=l.length∧(intKeys D0).Perm (l.map (·.h)):=by
 have hrd:∀ (i:Nat) (e:MapEntry) (r:Rw),en[i]? =some e→l[i]? =some r→WideElems.rd P kt qN e=some (.int .i64 r.h,.nil):=by
  intro i e r he hr
  have hh:=(ok r (List.mem_of_getElem? hr)).h
  have hw:(Lit.int .i64 r.h).wf=true:=by simp[Lit.wf,IntKind.min,IntKind.max,IntKind.bits,IntKind.signed]; omega
  unfold WideElems.rd
  rw[hk i e r he hr]
  simp[keyOf,NF,mapKey,hw,qN]
 have each:∀ (i:Nat) (e:MapEntry),en[i]? =some e→∃r,l[i]? =some r:=fun i e he=>by
  have:=(Array.getElem?_eq_some_iff.1 he).1
  exact⟨l[i]'(by omega),List.getElem?_eq_getElem (by omega)⟩
 have M9:en.toList.map (WideElems.rg P kt qN)=l.map fun r=>((.int .i64 r.h,.nil):Lit × DataW Unit):=by
  apply List.ext_getElem?
  intro i
  rw[List.getElem?_map,List.getElem?_map]
  cases he:en.toList[i]? with
  |none=>
   have:l[i]? =none:=by
    rw[List.getElem?_eq_none_iff]at he ⊢
    simp at he; omega
   rw[this]; rfl
  |some e=>
   have he':en[i]? =some e:=by simpa using he
   obtain⟨r,hr⟩:=each i e he'
   rw[hr]
   simp only[Option.map_some]
   unfold WideElems.rg
   rw[hrd i e r he' hr]; rfl
 refine⟨_,⟨en,ck,hg,⟨?_,⟨?_,?_,?_⟩,?_⟩,Nat.le_of_eq hs,rfl⟩,?_,?_⟩
 ·rw[hs]; have:(1000000:Nat)≤maxLen:=by decide
  omega
 ·intro x hx
  obtain⟨i,hi,rfl⟩:=List.getElem_of_mem hx
  exact TS i _ (by rw[Array.getElem_toList]; exact Array.getElem?_eq_getElem (by simpa using hi))
 ·show List.Pairwise (· ≠ ·) _
  rw[List.pairwise_map,List.pairwise_iff_getElem]
  intro i j hi hj hij
  have:=hb i j _ _ (Array.getElem?_eq_getElem (by simpa using hi)) (Array.getElem?_eq_getElem (by simpa using hj)) hij
  simp only[Array.getElem_toList]
  omega
 ·show List.Pairwise (· ≠ ·) _
  rw[List.pairwise_map,List.pairwise_iff_getElem]
  intro i j hi hj hij
  have hi':i<en.size:=by simpa using hi
  have hj':j<en.size:=by simpa using hj
  simp only[Array.getElem_toList]
  rw[hk i _ l[i] (Array.getElem?_eq_getElem hi') (List.getElem?_eq_getElem (by omega)),hk j _ l[j] (Array.getElem?_eq_getElem hj') (List.getElem?_eq_getElem (by omega))]
  intro e
  exact List.pairwise_iff_getElem.1 rd i j (by omega) (by omega) hij (by simpa using e)
 ·intro x hx
  obtain⟨i,hi,rfl⟩:=List.getElem_of_mem hx
  have hi':i<en.size:=by simpa using hi
  exact⟨_,hrd i _ l[i] (by rw[Array.getElem_toList]; exact Array.getElem?_eq_getElem hi') (List.getElem?_eq_getElem (by omega))⟩
 ·rw[Maps.size_eq,length_sorted,List.length_map]; simpa using hs
 ·rw[M9]
  have:=(Go.WideShapes.sorted_perm (l.map fun r=>((.int .i64 r.h,.nil):Lit × DataW Unit))).map fun p=>intOf p.1
  rw[List.map_map]at this
  exact this
set_option maxHeartbeats 1000000 in
theorem FC {R:Env} {kt:Nat} (hb:b6 R.P (R.ft 434)) (NF:R.P.underlying kt=some (.int .i64)) (KL:AL R.P (R.ft 434) (R.ft 447) kt (R.ty 10)):xN R:=by
 intro d1 l rd ok hl
 refine⟨hb,fun w I ρ vs hW hr=> ?_,rfl⟩
 have W:=hW 0
 obtain⟨hvl,hr⟩:=hr
 obtain⟨v0,rfl⟩:∃v0,vs=[v0]:=by
  match vs,hvl with
  |[a],_=>exact⟨a,rfl⟩
 have r0:=hr 0 (by simp)
 have r0:aL ρ _ I w (· <2) (.bL (.fn (R.ft 447)) [.loc 0 1 0 0]) v0:=r0
 have Tj:aa (ax [(0,bx.var (R.ty 57) [.omap 1]),(1,.map 1 false true d1 41 (iD l))]) 0=some ⟨R.ty 57,1,[[.omap 1]],none⟩:=rfl
 have hM1:aa (ax [(0,bx.var (R.ty 57) [.omap 1]),(1,.map 1 false true d1 41 (iD l))]) 1=some ⟨0,41,iD l,some (1,false,true,d1)⟩:=rfl
 cases r0 with
 |bL _ _ us U0 U1=>
  obtain⟨u0,rfl⟩:∃u0,us=[u0]:=by
   match us,U0 with
   |[a],_=>exact⟨a,rfl⟩
  have q0:=U1 0 (by simp)
  have q0:aL ρ _ I w (· <2) (.loc 0 1 0 0) u0:=q0
  obtain⟨_,g,cap,rq,rfl⟩:=fj (sz:=1) q0 (by rw[aA]; exact⟨_,Tj,rfl,rfl⟩)
  obtain⟨cs,fr,oK,_,_,_,_,_,_,hcell⟩:=(W.aP 0 _ Tj).real g cap rq
  have oK:w.heap[g]? =some (.cells cs (R.ty 57) fr):=oK
  obtain⟨u,hu,_,Cq⟩:=hcell 0 0 (by simp) (by simp)
  have Cq:aL ρ _ I w (· <2) (.omap 1) u:=Cq
  have hu:cs[0]? =some u:=by simpa using hu
  obtain⟨gm,cm,DL,rfl⟩:∃gm cm,ρ 1=some (gm,cm)∧u= .map (some gm):=by
   cases Cq with
   |omap _ _ _ _ h=>exact h 41 (by rw[aA]; exact⟨_,hM1,rfl,rfl⟩)
  have B1:=W.aP 1 _ hM1
  obtain⟨cs1,fr1,M9,_,_,_,_,_,_,Na⟩:=B1.real gm cm DL
  obtain⟨en,ck,hg,hs,MC⟩:=M9
  have hs:en.size=l.length:=by simpa using hs
  have hkey:∀ (i:Nat) (e:MapEntry) (r:Rw),en[i]? =some e→l[i]? =some r→e.key= .int .i64 r.h:=by
   intro i e r he hr
   obtain⟨k1,k2,k3,k4⟩:=MC.key i e he
   have hi:=(List.getElem?_eq_some_iff.1 hr).1
   obtain⟨u,hu,_,Cq⟩:=Na i 0 (by simpa using hi) (by simp)
   have hrow:(iD l).getD i []=x3 r:=by
    unfold iD
    rw[List.getD_eq_getElem?_getD,List.getElem?_map,hr]; rfl
   have Cq:aL ρ _ I w (· <2) (((iD l).getD i []).getD 0 .bad) u:=Cq
   rw[hrow]at Cq
   have Cq:=bu Cq
   have hf:aJ e.key=[e.key]:=by
    cases hk:e.key<;>first|rfl|(rw[hk]at k3; simp[fc]at k3)
   have:=MC.cell i e 0 e.key he (by rw[hf]; rfl)
   rw[this]at hu
   cases hu
   exact Cq
  obtain⟨D0,hown,hsz,Tk⟩:=FB NF rd ok hl hg hs MC.born MC.clock hkey
  have hlt:=(Array.getElem?_eq_some_iff.1 oK).1
  have hc:w.cell? ⟨g,0,none⟩=some (.map (some gm)):=by
   simp only[World.cell?,oK,Option.isSome_none,Bool.false_eq_true,if_false]
   exact hu
  have CM:(1000000:Nat)≤maxLen:=by decide
  have v8:=KL gm l.length g D0 qN w hlt hc hown (by omega) (by omega)
  refine v8.mono ?_
  rintro e w' ⟨v,ss,rfl,hp,⟨_,hrow⟩,hnil,rh⟩
  have hp:=hp.trans Tk
  have hkl:=Ct hp
  have hlen:(dD l).length=ss.length:=by rw[←hkl,List.length_mergeSort]
  refine⟨v,rfl,?_⟩
  obtain⟨E0,W0⟩:=W.ext' (w':= {w with drawn:=w'.drawn}) (I':=I) rfl rfl rfl (Nat.le_refl _) (fun _ _=>rfl) (fun _ h=>h) W.lt (fun _ _ h=>h) (Nat.zero_le _)
  rcases hrow with⟨rfl,h0⟩|⟨gb,cp,cur,rfl,hge,WV,hle,lO,hcs,TU⟩
  ·have e0:dD l=[]:=List.eq_nil_of_length_eq_zero (by omega)
   obtain⟨E1,W1⟩:=W.ext' (w':=w') (I':=I) rh.os rh.tape rh.output rh.size rh.block (fun _ h=>h) (fun g hg=>Nat.lt_of_lt_of_le (W.lt g hg) rh.size) (fun _ _ h=>h) (Nat.zero_le _)
   obtain⟨E2,W2⟩:=W1.dM (n:=2) (Nat.lt_irrefl 2) (R.ty 10) 1
   have e1:cu (aa (ax [(0,bx.var (R.ty 57) [.omap 1]),(1,.map 1 false true d1 41 (iD l))])) 2 ⟨R.ty 10,1,[],none⟩=aa (ax [(0,.var (R.ty 57) [.omap 1]),(1,.map 1 false true d1 41 (iD l)),(2,.arr (R.ty 10) 1 (bI .i64 (dD l)))]):=by
    rw[e0]
    funext m
    by_cases hm:m=2
    ·subst hm; rfl
    ·have:(m==2)=false:=by simpa using hm
     simp[cu,hm,ax,aa,this]
   rw[e1]at W2
   refine⟨_,I,0,W2.lP (fun m hm=>by rcases hm with rfl|hm; exact Nat.lt_succ_self 2; exact Nat.lt_succ_of_lt hm),?_⟩
   rw[show (dD l).length=0 from by rw[e0]; rfl]
   refine .ba 2 0 _ (Nat.lt_succ_self 2) rfl fun k sz hk=>⟨Nat.zero_le _,fun _=> .inl ⟨if_pos rfl,_,rfl⟩⟩
  ·have WV:w'.heap[gb]? =some (.cells cur (R.ty 10) (0,0)):=WV
   have dR:(bI .i64 (dD l)).length=ss.length:=by simp[bI,hlen]
   obtain⟨E1,W1⟩:=W0.put (w':=w') 2 ⟨R.ty 10,1,bI .i64 (dD l),none⟩ gb cp cur (0,0) rh.os rh.tape rh.output rh.size (fun k hk _=>rh.block k hk) WV (fun o _ h=>by omega) (.inl hge)
    (fun b0 h0=>by have h0:(Option.none:Option aW)=some b0:=h0; cases h0) (fun h=>absurd h (Nat.lt_irrefl 2)) (fun e he=>by obtain⟨x,_,rfl⟩:=List.mem_map.1 he; rfl) (by show (bI .i64 (dD l)).length≤cp; omega) lO hcs
    (fun i j hi hj=>by
      have hi:i< (bI .i64 (dD l)).length:=hi
      have hj:j<1:=hj
      have e0:j=0:=by omega
      subst e0
      have hi':i< (dD l).length:=by omega
      have hat:(cur.toList.take (ss.length*1))[i]? =some (encZ (dD l)[i]):=by rw[TU,hkl,List.getElem?_map,List.getElem?_eq_getElem hi']; rfl
      rw[List.getElem?_take_of_lt (by omega)]at hat
      refine⟨encZ (dD l)[i],by simpa using hat,rfl,?_⟩
      rw[show (((⟨R.ty 10,1,bI .i64 (dD l),none⟩:aW).es.getD i []).getD 0 .bad)= .int .i64 (dD l)[i]from by
       have e2:(bI .i64 (dD l))[i]? =some [.int .i64 (dD l)[i]]:=by unfold bI; rw[List.getElem?_map,List.getElem?_eq_getElem hi']; rfl
       show ((bI .i64 (dD l)).getD i []).getD 0 .bad=_
       rw[List.getD_eq_getElem?_getD (l:=bI .i64 (dD l)),e2]; rfl]
      exact .int _ _)
   have e1:cu (aa (ax [(0,bx.var (R.ty 57) [.omap 1]),(1,.map 1 false true d1 41 (iD l))])) 2 ⟨R.ty 10,1,bI .i64 (dD l),none⟩=aa (ax [(0,.var (R.ty 57) [.omap 1]),(1,.map 1 false true d1 41 (iD l)),(2,.arr (R.ty 10) 1 (bI .i64 (dD l)))]):=by
    funext m
    by_cases hm:m=2
    ·subst hm; rfl
    ·have:(m==2)=false:=by simpa using hm
     simp[cu,hm,ax,aa,this]
   rw[e1]at W1
   refine⟨_,I,0,W1.lP (fun m hm=>by rcases hm with rfl|hm; exact Nat.lt_succ_self 2; exact Nat.lt_succ_of_lt hm),?_⟩
   rw[hlen]
   refine .ba 2 ss.length _ (Nat.lt_succ_self 2) rfl fun k sz hk=> ?_
   obtain⟨b,hb,h1,_⟩:=aA.1 hk
   have hb:some (⟨R.ty 10,1,bI .i64 (dD l),Option.none⟩:aW)=some b:=hb
   cases hb
   have h1:(bI .i64 (dD l)).length=k:=h1
   exact⟨by omega,fun _=> .inr ⟨gb,cp,by simp[gE],rfl⟩⟩
end Go.UM
namespace Go.UM
open Go.AM Go.Shelf Go.RowKit Go.Lib Go.Sort Go.Proofs
section
variable {α:Type} [Inhabited α]
def vN (cf:α→α→Int) (l:List α):List α:=(pdq (ltOf cf) l.toArray 0 l.toArray.size (Lib.bitLen l.toArray.size) true true).toList
theorem zy {P:Program} {ρ:Ren} (L:SlLaysF0.n6 P ρ) {k:Nat} (aE:∀w,(isAgg (ρ.t 24)).run P w= .ok true w) (zE:∀w,(Go.sizeOf (ρ.t 24)).run P w= .ok k w) {bg:α→List Int} (hk:∀x,(bg x).length=k)
  {cf:α→α→Int} (hO:SWO (ltOf cf)) {g:Nat} (eg:∀args w,(callFunc g args).run P w= .ok (.enter g args) w):lz P (ρ.f 6) g k bg cf (vN cf):=by
 refine⟨fun p cap fv w=>AnyF.slices_SortFunc_none L p cap fv w,fun aP cap l w hc hH hb hl=> ?_⟩
 have h:=AnyQ.slices_SortFunc_eq L k aE zE (pC bg) (fun x=>by simp[pC,hk]) (fun x v hv=>by obtain⟨n,_,rfl⟩:=List.mem_map.1 hv; rfl) cf hO g #[] aP 0 cap l.toArray w eg (by simpa using hc) hH hb (by simpa using hl)
 have e:(vN cf l).toArray=pdq (ltOf cf) l.toArray 0 l.toArray.size (Lib.bitLen l.toArray.size) true true:=by simp[vN]
 rw[e]
 rwa[List.size_toArray]at h ⊢
theorem Cu (cf:α→α→Int) (hO:SWO (ltOf cf)) (l:List α):(vN cf l).Perm l:=by
 have h:=(pdq_sorts (ltOf cf) hO l.toArray 0 l.toArray.size (Lib.bitLen l.toArray.size) true true (Nat.zero_le _) (Nat.le_refl _) (Or.inl rfl)).1
 obtain⟨h1,_,h3⟩:=h
 unfold vN
 generalize pdq (ltOf cf) l.toArray 0 l.toArray.size (Lib.bitLen l.toArray.size) true true=d at h1 h3 ⊢
 rw[←h1]at h3
 have e1:d.extract 0 d.size=d:=by simp
 rw[e1]at h3
 rw[h1]at h3
 simpa using h3
theorem FD (cf:α→α→Int) (hO:SWO (ltOf cf)) (l:List α):(vN cf l).Pairwise fun x y=>ltOf cf y x=false:=by
 have h:=pdq_sorts (ltOf cf) hO l.toArray 0 l.toArray.size (Lib.bitLen l.toArray.size) true true (Nat.zero_le _) (Nat.le_refl _) (Or.inl rfl)
 obtain⟨⟨h1,_,_⟩,h2⟩:=h
 unfold vN
 generalize pdq (ltOf cf) l.toArray 0 l.toArray.size (Lib.bitLen l.toArray.size) true true=d at h1 h2 ⊢
 rw[List.pairwise_iff_getElem]
 intro i j hi hj hij
 have hj':j<d.size:=by simpa using hj
 have:=h2 i j (Nat.zero_le _) hij (by omega)
 rw[getElem!_pos d j hj',getElem!_pos d i (by omega)]at this
 simpa using this
end
theorem sc:SWO (ltOf j5) where
 irrefl x:=by simp only[ltOf,decide_eq_false_iff_not,dq]; omega
 trans x y z h1 h2:=by simp only[ltOf,decide_eq_true_eq,dq]at *; omega
 ntrans x y z h1 h2:=by simp only[ltOf,decide_eq_false_iff_not,dq]at *; omega
theorem FE:M6 (vN j5):=⟨fun l=>Cu j5 sc l,fun l=>(FD j5 sc l).imp fun {a b} h=>by
 simp only[ltOf,decide_eq_false_iff_not]at h
 exact j6.2 h⟩
end Go.UM
namespace Go.UM
open Go.AM
set_option maxRecDepth 4000
theorem FF {l l':List Rw} (h:l.Perm l') (rd:l.Pairwise fun a b=>a.h≠b.h):ca l=ca l':=by
 have tr:∀x y z:Rw,jE x y=true→jE y z=true→jE x z=true:=fun x y z h1 h2=>by simp only[jE,decide_eq_true_eq]at h1 h2 ⊢; omega
 have to:∀x y:Rw,(jE x y||jE y x)=true:=fun x y=>by simp only[jE,Bool.or_eq_true,decide_eq_true_eq]; omega
 refine List.Perm.eq_of_pairwise (le:=fun x y=>jE x y=true) ?_ (List.pairwise_mergeSort tr to l) (List.pairwise_mergeSort tr to l') ((List.mergeSort_perm l jE).trans (h.trans (List.mergeSort_perm l' jE).symm))
 intro a b ha hb h1 h2
 have WU:a ∈ l:=(List.mergeSort_perm l jE).mem_iff.1 ha
 have hb':b ∈ l:=h.mem_iff.2 ((List.mergeSort_perm l' jE).mem_iff.1 hb)
 have e:a.h=b.h:=by simp only[jE,decide_eq_true_eq]at h1 h2; omega
 have k1:=gn rd WU
 rw[e,gn rd hb']at k1
 exact (Option.some.inj k1).symm
end Go.UM
namespace Go.UM
open Go.AM
set_option maxRecDepth 4000
theorem mD {a l:List In} (nd:l.Pairwise fun a b=>aU a b=false) (h:a.Perm l) (ord:a.Pairwise fun x y=>leI x y=true):a=cZ l:=by
 classical
 have:=M6.eq (gR:=fun x=>if x=l then a else cZ x) ⟨fun x=>by
  by_cases e:x=l
  ·simp only[if_pos e]; rw[e]; exact h
  ·simp only[if_neg e]; exact List.mergeSort_perm x leI,fun x=>by
  by_cases e:x=l
  ·simp only[if_pos e]; exact ord
  ·simp only[if_neg e]; exact List.pairwise_mergeSort jD lA x⟩ nd (.refl l)
 simpa using this
theorem uo {l:List In} {x:In}:x ∈ cZ l↔x ∈ l:=(List.mergeSort_perm l leI).mem_iff
theorem vO {l:List In} (nd:l.Pairwise fun a b=>aU a b=false) (p:In→Bool):(cZ l).filter p=cZ (l.filter p):=
 mD (nd.sublist List.filter_sublist) ((List.mergeSort_perm l leI).filter p) ((List.pairwise_mergeSort jD lA l).sublist List.filter_sublist)
end Go.UM
namespace Go.UM
open Go.AM
set_option maxRecDepth 4000
def Nb (l:List Rw) (x:In):Prop:=∃a b,bE l x.bK=some a∧a.f.kind=1∧bE l x.eW=some b∧b.f.kind=3∧(x.dB=0∨∃c,bE l x.dB=some c∧c.f.kind=2)∧vE x.t a.a.m.v=0
theorem Nb.mono {l l':List Rw} {x:In} (h:Nb l x) (k1:∀r,bE l x.bK=some r→bE l' x.bK=some r) (k2:∀r,bE l x.eW=some r→bE l' x.eW=some r) (k3:∀r,bE l x.dB=some r→bE l' x.dB=some r):Nb l' x:=by
 obtain⟨a,b,h1,h2,h3,h4,h5,h6⟩:=h
 refine⟨a,b,k1 a h1,h2,k2 b h3,h4,?_,h6⟩
 rcases h5 with h|⟨c,h,h'⟩
 ·exact .inl h
 ·exact .inr ⟨c,k3 c h,h'⟩
theorem uq {l:List Rw} (rd:l.Pairwise fun a b=>a.h≠b.h):(ca l).Pairwise fun a b=>a.h<b.h:=by
 have tr:∀x y z:Rw,jE x y=true→jE y z=true→jE x z=true:=fun x y z h1 h2=>by simp only[jE,decide_eq_true_eq]at h1 h2 ⊢; omega
 have to:∀x y:Rw,(jE x y||jE y x)=true:=fun x y=>by simp only[jE,Bool.or_eq_true,decide_eq_true_eq]; omega
 have h1:(ca l).Pairwise fun a b=>jE a b=true:=List.pairwise_mergeSort tr to l
 have h2:(ca l).Pairwise fun a b=>a.h≠b.h:=(List.mergeSort_perm l jE).symm.pairwise rd (fun h=>Ne.symm h)
 exact (h1.and h2).imp fun {a b} h=>by
  have:=h.1
  simp only[jE,decide_eq_true_eq]at this
  have:=h.2
  omega
theorem zA {l:List Rw} (rd:l.Pairwise fun a b=>a.h≠b.h) {h:Int} {r:Rw} (e:bE l h=some r):bE (ca l) h=some r:=by
 obtain⟨h1,h2⟩:=kY e
 rw[←h2]
 exact gn ((uq rd).imp fun {a b} h=>by omega) (dc.2 h1)
theorem Cv {l:List In} (nd:l.Pairwise fun a b=>aU a b=false):(cZ l).Pairwise fun a b=>aU a b=false:=
 (List.mergeSort_perm l leI).symm.pairwise nd (fun h=>by rw[mC]; exact h)
end Go.UM
namespace Go.UM
open Go.AM
set_option maxRecDepth 4000
section
variable {α:Type}
def iE (p:α→Bool) (x:α) (s:List α × Bool) (r:α):List α × Bool:=if s.2=false∧p r=true then (s.1++ [x]++ [r],true)else (s.1++ [r],s.2)
def cz (p:α→Bool) (x:α) (l:List α):List α × Bool:=l.foldl (iE p x) ([],false)
def lI (p:α→Bool) (x:α) (l:List α):List α:=if (cz p x l).2=true then (cz p x l).1 else (cz p x l).1++ [x]
variable {p:α→Bool} {x:α}
theorem lB (l:List α) (r:α):cz p x (l++ [r])=iE p x (cz p x l) r:=by simp[cz]
theorem nN:∀ (l o:List α) (b:Bool),l.foldl (iE p x) (o,b)=if b=true then (o++l,true)else if l.any p=true then (o++(l.takeWhile (fun r=> !p r)++x::l.dropWhile (fun r=> !p r)),true)else (o++l,false)
 |[],o,b=>by cases b<;>simp
 |r::l,o,b=>by
  rw[List.foldl_cons]
  cases b with
  |true=>
   have e:iE p x (o,true) r=(o++ [r],true):=if_neg (by simp)
   rw[e,nN l,if_pos rfl,if_pos rfl,List.append_assoc]; rfl
  |false=>
   cases h:p r with
   |true=>
    have e:iE p x (o,false) r=(o++ [x]++ [r],true):=if_pos ⟨rfl,h⟩
    rw[e,nN l,if_pos rfl]
    simp[h]
   |false=>
    have e:iE p x (o,false) r=(o++ [r],false):=if_neg (by simp[h])
    rw[e,nN l]
    simp only[Bool.false_eq_true,if_false,List.any_cons,h,Bool.false_or]
    split
    ·simp[h]
    ·simp
theorem sd {q:α→Bool} {l:List α} (h:∀r ∈ l,q r=true):l.takeWhile q=l:=by
 induction l with
 |nil=>rfl
 |cons a l ih=>rw[List.takeWhile_cons,if_pos (h a (by simp)),ih fun r hr=>h r (by simp[hr])]
theorem dropWhile_nil {q:α→Bool} {l:List α} (h:∀r ∈ l,q r=true):l.dropWhile q=[]:=by
 induction l with
 |nil=>rfl
 |cons a l ih=>rw[List.dropWhile_cons,if_pos (h a (by simp)),ih fun r hr=>h r (by simp[hr])]
theorem AN (l:List α):lI p x l=l.takeWhile (fun r=> !p r)++x::l.dropWhile (fun r=> !p r):=by
 unfold lI cz
 rw[nN]
 simp only[Bool.false_eq_true,if_false,List.nil_append]
 cases h:l.any p with
 |true=>simp
 |false=>
  have hn:∀r ∈ l,(!p r)=true:=fun r hr=>by
   have:=List.any_eq_false.1 h r hr
   simpa using this
  simp only[Bool.false_eq_true,if_false]
  rw[sd hn,dropWhile_nil hn]
theorem nO (l:List α):(cz p x l).1.length≤l.length+1:=by
 unfold cz
 rw[nN]
 simp only[Bool.false_eq_true,if_false,List.nil_append]
 split
 ·have:=congrArg List.length (List.takeWhile_append_dropWhile (p:=fun r=> !p r) (l:=l))
  simp only[List.length_append,List.length_cons]at this ⊢
  omega
 ·simp
theorem ur (l:List α):(lI p x l).Perm (l++ [x]):=by
 rw[AN]
 refine List.perm_middle.trans ?_
 rw[List.takeWhile_append_dropWhile]
 exact (List.perm_append_singleton x l).symm
theorem xO {le:α→α→Prop} (tr:∀a b c,le a b→le b c→le a c) {l:List α} (hl:l.Pairwise le) (h1:∀r ∈ l,p r=true→le x r) (h2:∀r ∈ l,p r=false→le r x):(lI p x l).Pairwise le:=by
 rw[AN]
 have e:=List.takeWhile_append_dropWhile (p:=fun r=> !p r) (l:=l)
 have me:=hl
 rw[←e]at me
 obtain⟨k1,k2,k3⟩:=List.pairwise_append.1 me
 have ht:∀r ∈ l.takeWhile (fun r=> !p r),le r x:=fun r hr=>h2 r (List.takeWhile_sublist _ |>.subset hr) (by
  have:=List.all_takeWhile (p:=fun r=> !p r) (l:=l)
  have:=List.all_eq_true.1 this r hr
  simpa using this)
 have hd:∀r ∈ l.dropWhile (fun r=> !p r),le x r:=by
  cases hq:l.dropWhile (fun r=> !p r)with
  |nil=>intro r hr; simp at hr
  |cons a q=>
   have ha:p a=true:=by
    have:=List.head?_dropWhile_not (fun r=> !p r) l
    rw[hq]at this
    simpa using this
   have dw:a ∈ l:=(List.dropWhile_sublist (fun r=> !p r)).subset (hq ▸ List.mem_cons_self)
   have hxa:=h1 a dw ha
   rw[hq]at k2
   intro r hr
   rcases List.mem_cons.1 hr with rfl|h
   ·exact hxa
   ·exact tr _ _ _ hxa ((List.pairwise_cons.1 k2).1 r h)
 rw[List.pairwise_append]
 refine⟨k1,List.pairwise_cons.2 ⟨hd,k2⟩,fun a ha b hb=> ?_⟩
 rcases List.mem_cons.1 hb with rfl|h
 ·exact ht a ha
 ·exact tr _ _ _ (ht a ha) (hd b h)
def zB (p:α→Bool) (l:List α):Int:=match l.findIdx? p with
 |some i=>i
 |none=> -1
theorem xP {l:List α} {i:Nat} {r:α} (h:l[i]? =some r) (hp:p r=true) (hn:∀ (j:Nat) (y:α),j<i→l[j]? =some y→p y=false):zB p l=i:=by
 have:l.findIdx? p=some i:=by
  rw[List.findIdx?_eq_some_iff_getElem]
  obtain⟨hi,e⟩:=List.getElem?_eq_some_iff.1 h
  exact⟨hi,by rw[e]; exact hp,fun j hj=>by rw[hn j _ hj (List.getElem?_eq_getElem (by omega))]; simp⟩
 unfold zB; rw[this]
theorem xQ {l:List α} (hn:∀ (j:Nat) (y:α),j<l.length→l[j]? =some y→p y=false):zB p l= -1:=by
 have:l.findIdx? p=none:=by
  rw[List.findIdx?_eq_none_iff]
  intro y hy
  obtain⟨j,hj,rfl⟩:=List.getElem_of_mem hy
  exact hn j _ hj (List.getElem?_eq_getElem hj)
 unfold zB; rw[this]
theorem jF (p:α→Bool) (l:List α):(∃ (i:Nat) (r:α),zB p l=i∧l[i]? =some r∧p r=true∧l.find? p=some r∧l.eraseIdx i=l.eraseP p)∨(zB p l= -1∧l.find? p=none):=by
 cases h:l.findIdx? p with
 |none=>
  refine .inr ⟨by unfold zB; rw[h],?_⟩
  rw[List.find?_eq_none]
  intro y hy
  have:=List.findIdx?_eq_none_iff.1 h y hy
  simp[this]
 |some i=>
  obtain⟨hi,hp,hn⟩:=List.findIdx?_eq_some_iff_getElem.1 h
  refine .inl ⟨i,l[i],by unfold zB; rw[h],List.getElem?_eq_getElem hi,hp,?_,?_⟩
  ·rw[List.find?_eq_some_iff_getElem]
   exact⟨hp,i,hi,rfl,fun j hj=>by simpa using hn j hj⟩
  ·rw[List.eraseP_eq_eraseIdx,h]
end
theorem se {a l:List Rw} (rd:l.Pairwise fun a b=>a.h≠b.h) (h:a.Perm l) (ord:a.Pairwise fun x y=>jE x y=true):a=ca l:=by
 have e:=FF h.symm rd
 rw[e]
 unfold ca
 rw[List.mergeSort_of_pairwise ord]
theorem ut (l:List Rw):(ca l).Pairwise fun x y=>jE x y=true:=
 List.pairwise_mergeSort (fun x y z h1 h2=>by simp only[jE,decide_eq_true_eq]at h1 h2 ⊢; omega) (fun x y=>by simp only[jE,Bool.or_eq_true,decide_eq_true_eq]; omega) l
theorem sf (l:List Rw):(ca l).Perm l:=List.mergeSort_perm l jE
def vP (x:Rw) (r:Rw):Bool:=decide (x.h<r.h)
theorem Cw {l:List Rw} {x:Rw} (rd:(l++ [x]).Pairwise fun a b=>a.h≠b.h):ca (l++ [x])=lI (vP x) x (ca l):=by
 refine (se rd ((ur _).trans ((sf l).append_right [x])) (xO (fun a b c h1 h2=>by simp only[jE,decide_eq_true_eq]at h1 h2 ⊢; omega) (ut l) (fun r _ h=> ?_) (fun r _ h=> ?_))).symm
 ·simp only[vP,decide_eq_true_eq]at h
  simp only[jE,decide_eq_true_eq]; omega
 ·simp only[vP,decide_eq_false_iff_not]at h
  simp only[jE,decide_eq_true_eq]; omega
theorem eU {l:List Rw} (rd:l.Pairwise fun a b=>a.h≠b.h) (h:Int):bE (ca l) h=bE l h:=by
 cases e:bE l h with
 |some r=>exact zA rd e
 |none=>
  unfold bE at e ⊢
  rw[List.find?_eq_none]at e ⊢
  exact fun r hr=>e r (dc.1 hr)
theorem xR {l:List Rw} (rd:l.Pairwise fun a b=>a.h≠b.h) (h:Int):ca (l.eraseP fun r=>r.h==h)=(ca l).eraseP fun r=>r.h==h:=by
 refine (se (rd.sublist List.eraseP_sublist) ?_ ((ut l).sublist List.eraseP_sublist)).symm
 have nd:∀ {m:List Rw},m.Pairwise (fun a b=>a.h≠b.h)→m.eraseP (fun r=>r.h==h)=m.filter (fun r=> !(r.h==h)):=by
  intro m
  induction m with
  |nil=>intro _; rfl
  |cons a m ih=>
   intro hm
   obtain⟨h1,h2⟩:=List.pairwise_cons.1 hm
   by_cases k:(a.h==h)=true
   ·rw[List.eraseP_cons_of_pos (p:=fun r:Rw=>r.h==h) k]
    have e:m.filter (fun r=> !(r.h==h))=m:=List.filter_eq_self.2 fun r hr=>by
     have:=h1 r hr
     simp only[beq_iff_eq]at k
     simp; omega
    simp[List.filter_cons,k,e]
   ·rw[List.eraseP_cons_of_neg (p:=fun r:Rw=>r.h==h) k,ih h2]
    simp[List.filter_cons,k]
 rw[nd rd,nd ((uq rd).imp fun {a b} k=>by omega)]
 exact (sf l).filter _
def gJ (x:In) (r:In):Bool:=decide (j5 x r<0)
theorem sg (l:List In):(cZ l).Perm l:=List.mergeSort_perm l leI
theorem uu (l:List In):(cZ l).Pairwise fun x y=>leI x y=true:=List.pairwise_mergeSort jD lA l
theorem Cx {l:List In} {x:In} (nd:(l++ [x]).Pairwise fun a b=>aU a b=false):cZ (l++ [x])=lI (gJ x) x (cZ l):=by
 refine (mD nd ((ur _).trans ((sg l).append_right [x])) (xO (fun a b c h1 h2=>jD a b c h1 h2) (uu l) (fun r _ h=> ?_) (fun r _ h=> ?_))).symm
 ·simp only[gJ,decide_eq_true_eq,dq]at h
  rw[j6,dq]; omega
 ·simp only[gJ,decide_eq_false_iff_not]at h
  rw[j6]; exact h
theorem si {l:List In} (nd:l.Pairwise fun a b=>aU a b=false) (x:In):(eY (cZ l) x).isSome=(eY l x).isSome:=by
 unfold eY
 rw[Bool.eq_iff_iff,List.find?_isSome,List.find?_isSome]
 exact⟨fun⟨y,h1,h2⟩=>⟨y,uo.1 h1,h2⟩,fun⟨y,h1,h2⟩=>⟨y,uo.2 h1,h2⟩⟩
theorem xS {l:List In} (nd:l.Pairwise fun a b=>aU a b=false) (x:In):cZ (l.eraseP (aU x))=(cZ l).eraseP (aU x):=by
 refine (mD (nd.sublist List.eraseP_sublist) ?_ ((uu l).sublist List.eraseP_sublist)).symm
 have nd':∀ {m:List In},m.Pairwise (fun a b=>aU a b=false)→m.eraseP (aU x)=m.filter (fun r=> !aU x r):=by
  intro m
  induction m with
  |nil=>intro _; rfl
  |cons a m ih=>
   intro hm
   obtain⟨h1,h2⟩:=List.pairwise_cons.1 hm
   by_cases k:aU x a=true
   ·rw[List.eraseP_cons_of_pos k]
    have e:m.filter (fun r=> !aU x r)=m:=List.filter_eq_self.2 fun r hr=>by
     have:=h1 r hr
     have k':=dQ.1 k
     cases hs:aU x r with
     |false=>rfl
     |true=>
      have h3:=dQ.1 hs
      rw[dQ.2 (by omega)]at this; cases this
    simp[List.filter_cons,k,e]
   ·rw[List.eraseP_cons_of_neg k,ih h2]
    simp[List.filter_cons,k]
 rw[nd' nd,nd' (Cv nd)]
 exact (sg l).filter _
end Go.UM
namespace Go.UM
open Go.AM
set_option maxRecDepth 4000
abbrev je (R:Env) (d:Tb):af:=[(0,.var (R.ty 56) [.aH 40 (gD d.rows),.aH 16 (b8 d.ins)])]
def pY (h:Int) (r:Rw):Bool:=r.h==h
theorem sj {R:Env} (h:EE R) (d:Tb) (hd:Int) (hl:d.rows.length≤1000000):R.Mc 454 [.loc 0 1 0 0,.int .i64 hd] (je R d) (.int .i64 (zB (pY hd) d.rows)) (je R d) 1:=
 h.WA.aV 100 1 rfl rfl rfl fun X bb hfit hp=>by
  unfold je
  refine sh ?_
  refine gk 100 (fun i:Nat=>i≤d.rows.length∧∀ (j:Nat) (y:Rw),j<i→d.rows[j]? =some y→pY hd y=false) (fun i=>⟨[(0,.loc 0 1 0 0),(1,.int .i64 hd),(5,.int .i64 i)],[(0,.var (R.ty 56) [.aH 40 (gD d.rows),.aH 16 (b8 d.ins)])],1⟩) (fun i=>d.rows.length - i) (0) ?_ ?_
  ·exact⟨Nat.zero_le _,fun j y hj=>absurd hj (Nat.not_lt_zero j)⟩
  ·intro i hi
   dsimp only
   refine sh ?_
   refine cS (fun h1=> ?_) (fun h1=> ?_)
   ·obtain⟨r,hr⟩:∃u_,d.rows[i]? =some u_:=⟨_,List.getElem?_eq_getElem (by first|omega|(simp<;>omega))⟩
    refine sh ?_
    refine ab hr ?_
    refine sh ?_
    refine cS (fun h2=> ?_) (fun h2=> ?_)
    ·rw[xP hr (by simpa[pY]using h2) hi.2]
     refine sh ?_
     exact rM [0]
    ·refine sh ?_
     refine kq (i+1) ?_ ?_
     ·refine⟨by omega,fun j y hj hy=> ?_⟩
      by_cases e:j=i
      ·subst e; rw[hr]at hy; cases hy; simpa[pY]using h2
      ·exact hi.2 j y (by omega) hy
     ·omega
   ·rw[xQ (fun j y hj=>hi.2 j y (by omega))]
    refine sh ?_
    exact rM [0]
theorem nP {R:Env} (h:HL R) (x y:In):R.Pc 456 [.agg x.row,.agg y.row] (.bool (decide (j5 x y<0))):=
 h.BV.enter 100 rfl fun X bb hfit hp=>by
  have e:decide (j5 x y<0)=decide (x.bK<y.bK∨x.bK=y.bK∧(x.eW<y.eW∨x.eW=y.eW∧(x.dB<y.dB∨x.dB=y.dB∧x.n<y.n))):=by rw[decide_eq_decide]; exact dq
  rw[e]
  refine sh ?_
  refine au.one 100 ?_
  refine sh ?_
  refine ah (by decide) ?_
  refine sh ?_
  refine⟨rfl,?_⟩
  refine sh ?_
  refine⟨rfl,?_⟩
  refine sh ?_
  refine cS (fun h1=> ?_) (fun h1=> ?_)
  ·refine sh ?_
   refine⟨rfl,?_⟩
   refine sh ?_
   refine⟨rfl,?_⟩
   refine sh ?_
   refine rT ?_
   all_goals repeat' (first|exact True.intro|refine And.intro ?_ ?_|(intro _u; clear _u)|(with_reducible first|exact ai.fg|refine eM ?_ ?_|refine eF ?_ ?_ ?_|refine eN ?_|refine eL ?_ ?_ ?_|refine eA ?_ ?_|refine aj.mk ⟨_,hp,rfl⟩ ?_ ?_)|refine aj.mk ⟨_,hp,rfl⟩ ?_ ?_)
   all_goals try first|with_reducible rfl|omega|exact .inl (by decide)|(simp; done)|rfl
   simp; omega
  ·refine sh ?_
   refine au.one 100 ?_
   refine sh ?_
   refine ah (by decide) ?_
   refine sh ?_
   refine⟨rfl,?_⟩
   refine sh ?_
   refine⟨rfl,?_⟩
   refine sh ?_
   refine cS (fun h2=> ?_) (fun h2=> ?_)
   ·refine sh ?_
    refine⟨rfl,?_⟩
    refine sh ?_
    refine⟨rfl,?_⟩
    refine sh ?_
    refine rT ?_
    all_goals repeat' (first|exact True.intro|refine And.intro ?_ ?_|(intro _u; clear _u)|(with_reducible first|exact ai.fg|refine eM ?_ ?_|refine eF ?_ ?_ ?_|refine eN ?_|refine eL ?_ ?_ ?_|refine eA ?_ ?_|refine aj.mk ⟨_,hp,rfl⟩ ?_ ?_)|refine aj.mk ⟨_,hp,rfl⟩ ?_ ?_)
    all_goals try first|with_reducible rfl|omega|exact .inl (by decide)|(simp; done)|rfl
    rw[decide_eq_decide]; omega
   ·refine sh ?_
    refine au.one 100 ?_
    refine sh ?_
    refine ah (by decide) ?_
    refine sh ?_
    refine⟨rfl,?_⟩
    refine sh ?_
    refine⟨rfl,?_⟩
    refine sh ?_
    refine cS (fun h3=> ?_) (fun h3=> ?_)
    ·refine sh ?_
     refine⟨rfl,?_⟩
     refine sh ?_
     refine⟨rfl,?_⟩
     refine sh ?_
     refine rT ?_
     all_goals repeat' (first|exact True.intro|refine And.intro ?_ ?_|(intro _u; clear _u)|(with_reducible first|exact ai.fg|refine eM ?_ ?_|refine eF ?_ ?_ ?_|refine eN ?_|refine eL ?_ ?_ ?_|refine eA ?_ ?_|refine aj.mk ⟨_,hp,rfl⟩ ?_ ?_)|refine aj.mk ⟨_,hp,rfl⟩ ?_ ?_)
     all_goals try first|with_reducible rfl|omega|exact .inl (by decide)|(simp; done)|rfl
     rw[decide_eq_decide]; omega
    ·refine sh ?_
     refine au.one 100 ?_
     refine sh ?_
     refine ah (by decide) ?_
     refine sh ?_
     refine⟨rfl,?_⟩
     refine sh ?_
     refine⟨rfl,?_⟩
     refine sh ?_
     refine cS (fun h4=> ?_) (fun h4=> ?_)
     ·refine sh ?_
      refine⟨rfl,?_⟩
      refine sh ?_
      refine⟨rfl,?_⟩
      refine sh ?_
      refine rT ?_
      all_goals repeat' (first|exact True.intro|refine And.intro ?_ ?_|(intro _u; clear _u)|(with_reducible first|exact ai.fg|refine eM ?_ ?_|refine eF ?_ ?_ ?_|refine eN ?_|refine eL ?_ ?_ ?_|refine eA ?_ ?_|refine aj.mk ⟨_,hp,rfl⟩ ?_ ?_)|refine aj.mk ⟨_,hp,rfl⟩ ?_ ?_)
      all_goals try first|with_reducible rfl|omega|exact .inl (by decide)|(simp; done)|rfl
      rw[decide_eq_decide]; omega
     ·refine sh ?_
      refine au.one 100 ?_
      refine sh ?_
      refine aq (by decide) ?_
      refine sh ?_
      refine rT ?_
      all_goals repeat' (first|exact True.intro|refine And.intro ?_ ?_|(intro _u; clear _u)|(with_reducible first|exact ai.fg|refine eM ?_ ?_|refine eF ?_ ?_ ?_|refine eN ?_|refine eL ?_ ?_ ?_|refine eA ?_ ?_|refine aj.mk ⟨_,hp,rfl⟩ ?_ ?_)|refine aj.mk ⟨_,hp,rfl⟩ ?_ ?_)
      all_goals try first|with_reducible rfl|omega|exact .inl (by decide)|(simp; done)|rfl
      simp; omega
theorem qf {R:Env} (h:HM R) (d:Tb) (x:In) (hl:d.ins.length≤1000000):R.Mc 455 [.loc 0 1 0 0,.agg x.row] (je R d) (.int .i64 (zB (aU x) d.ins)) (je R d) 1:=
 h.WD.aV 100 1 rfl rfl rfl fun X bb hfit hp=>by
  unfold je
  refine sh ?_
  refine gk 100 (fun i:Nat=>i≤d.ins.length∧∀ (j:Nat) (y:In),j<i→d.ins[j]? =some y→aU x y=false) (fun i=>⟨[(0,.loc 0 1 0 0),(3,.loc 1 1 0 0),(5,.int .i64 i)],[(0,.var (R.ty 56) [.aH 40 (gD d.rows),.aH 16 (b8 d.ins)]),(1,.var (R.ty 44) x.row)],2⟩) (fun i=>d.ins.length - i) (0) ?_ ?_
  ·exact⟨Nat.zero_le _,fun j y hj=>absurd hj (Nat.not_lt_zero j)⟩
  ·intro i hi
   dsimp only
   refine sh ?_
   refine cS (fun h1=> ?_) (fun h1=> ?_)
   ·obtain⟨r,hr⟩:∃u_,d.ins[i]? =some u_:=⟨_,List.getElem?_eq_getElem (by first|omega|(simp<;>omega))⟩
    refine sh ?_
    refine ab hr ?_
    refine sh ?_
    refine ae.pure h.nz.BV.hb (nP h.nz x r) rfl ?_
    by_cases h2:j5 x r<0
    ·refine sh ?_
     refine aq (by simp[h2]) ?_
     have hs:aU x r=false:=by
      cases hs:aU x r with
      |false=>rfl
      |true=>
       have:=dQ.1 hs
       rw[dq]at h2; omega
     refine sh ?_
     refine kq (i+1) ?_ ?_
     ·refine⟨by omega,fun j y hj hy=> ?_⟩
      by_cases e:j=i
      ·subst e; rw[hr]at hy; cases hy; exact hs
      ·exact hi.2 j y (by omega) hy
     ·omega
    ·refine sh ?_
     refine ah (by simp[h2]) ?_
     refine sh ?_
     refine ab hr ?_
     refine sh ?_
     refine ae.pure h.nz.BV.hb (nP h.nz r x) rfl ?_
     by_cases hs:aU x r=true
     ·have hs':=dQ.1 hs
      refine sh ?_
      refine ah (by rw[dq]at h2; simp[dq]; omega) ?_
      rw[xP hr hs hi.2]
      refine sh ?_
      exact rM [0]
     ·have hs':¬ (x.bK=r.bK∧x.eW=r.eW∧x.dB=r.dB∧x.n=r.n):=fun k=>hs (dQ.2 k)
      have hs:aU x r=false:=by simpa using hs
      refine sh ?_
      refine aq (by rw[dq]at h2; rw[Bool.not_eq_false',decide_eq_true_eq,dq]; omega) ?_
      refine sh ?_
      refine kq (i+1) ?_ ?_
      ·refine⟨by omega,fun j y hj hy=> ?_⟩
       by_cases e:j=i
       ·subst e; rw[hr]at hy; cases hy; exact hs
       ·exact hi.2 j y (by omega) hy
      ·omega
   ·rw[xQ (fun j y hj=>hi.2 j y (by omega))]
    refine sh ?_
    exact rM [0]
def uw (t:Tb) (hd:Int) (f:Mf) (a:As):Tb × Int:=
 if hd<1∨65536<hd then (t,2)else if (bE t.rows hd).isSome=true then (t,10)else if df a≠0 then (t,df a)else if f.kind≠a.k then (t,12)else (⟨lI (vP ⟨hd,f,a⟩) ⟨hd,f,a⟩ t.rows,t.ins⟩,0)
theorem xT (l:List Rw) (h:Int):(0≤zB (pY h) l↔(bE l h).isSome=true):=by
 rcases jF (pY h) l with⟨i,r,e1,_,_,e2,_⟩|⟨e1,e2⟩
 ·have e2:bE l h=some r:=e2
  rw[e1,e2]; simp
 ·have e2:bE l h=none:=e2
  rw[e1,e2]; simp
instance {l:List Rw} {x:Rw}:ki (gD l++ [x.row]) (l.length+1):=⟨by simp⟩
set_option maxHeartbeats 4000000 in
theorem Ip {R:Env} (h:Mb R) (d:Tb) (hd:Int) (f:Mf) (a:As) (fa:a.vR) (hl:d.rows.length≤1000000):
  R.Mc 441 [.loc 0 1 0 0,.int .i64 hd,.agg f.row,.agg a.row] (je R d) (.int .i64 (uw d hd f a).2) (je R (uw d hd f a).1) 1:=
 h.WB.aV 100 1 rfl rfl rfl fun X bb hfit hp=>by
  generalize hq:uw d hd f a=q
  unfold uw at hq
  unfold je
  refine sh ?_
  refine cS (fun h1=> ?_) (fun h1=> ?_)
  ·rw[if_pos (by omega)]at hq
   subst hq
   refine sh ?_
   exact rM [0]
  ·refine sh ?_
   refine cS (fun h2=> ?_) (fun h2=> ?_)
   ·rw[if_pos (by omega)]at hq
    subst hq
    refine sh ?_
    exact rM [0]
   ·rw[if_neg (by omega)]at hq
    refine sh ?_
    refine cM false [0] (sj h.rK d hd hl) ?_
    repeat (intro _; first|refine eK ?_|refine eP ?_)
    refine sh ?_
    refine cS (fun h3=> ?_) (fun h3=> ?_)
    ·rw[if_pos ((xT _ _).1 (by omega))]at hq
     subst hq
     refine sh ?_
     exact rM [0]
    ·rw[if_neg (fun k=>by have:=(xT _ _).2 k; omega)]at hq
     refine sh ?_
     refine ae.pure h.n295.Se.hb (Fi h.n295 a fa) rfl ?_
     refine sh ?_
     refine cS (fun h4=> ?_) (fun h4=> ?_)
     ·rw[if_pos h4]at hq
      subst hq
      refine sh ?_
      exact rM [0]
     ·rw[if_neg (by simpa using h4)]at hq
      refine sh ?_
      refine cS (fun h5=> ?_) (fun h5=> ?_)
      ·rw[if_pos h5]at hq
       subst hq
       refine sh ?_
       exact rM [0]
      ·rw[if_neg (by simpa using h5)]at hq
       obtain⟨x,hx⟩:∃x:Rw,x=⟨hd,f,a⟩:=⟨_,rfl⟩
       rw[←hx]at hq
       have hxh:x.h=hd:=by rw[hx]
       have hxr:x.row= .int .i64 hd::(f.row++a.row):=by rw[hx]; rfl
       refine sh ?_
       refine gk 100 (fun i:Nat=>i≤d.rows.length) (fun i=>⟨[(0,.loc 0 1 0 0),(1,.int .i64 hd),(6,.loc 1 1 0 0),(7,.loc 2 1 0 0),(10,.ba 3 (cz (vP x) x (d.rows.take i)).1.length),(11,.bool (cz (vP x) x (d.rows.take i)).2),(12,.int .i64 i)],[(0,.var (R.ty 56) [.aH 40 (gD d.rows),.aH 16 (b8 d.ins)]),(1,.var (R.ty 2) f.row),(2,.var (R.ty 39) a.row),(3,.arr (R.ty 45) 40 (gD (cz (vP x) x (d.rows.take i)).1))],4⟩) (fun i=>d.rows.length - i) (0) ?_ ?_
       ·exact Nat.zero_le _
       ·intro i hi
        dsimp only
        have hlen:=nO (p:=vP x) (x:=x) (d.rows.take i)
        rw[List.length_take]at hlen
        refine sh ?_
        refine cS (fun h6=> ?_) (fun h6=> ?_)
        ·obtain⟨r,hr⟩:∃u_,d.rows[i]? =some u_:=⟨_,List.getElem?_eq_getElem (by omega)⟩
         have e1:cz (vP x) x (d.rows.take (i+1))=iE (vP x) x (cz (vP x) x (d.rows.take i)) r:=by rw[az hr,lB]
         obtain⟨⟨O,b⟩,hO⟩:∃s,cz (vP x) x (d.rows.take i)=s:=⟨_,rfl⟩
         rw[hO]at e1 hlen ⊢
         dsimp only at hlen ⊢
         cases b with
         |false=>
          refine sh ?_
          refine ab hr ?_
          refine sh ?_
          refine cS (fun h7=> ?_) (fun h7=> ?_)
          ·have e2:cz (vP x) x (d.rows.take (i+1))=(O++ [x]++ [r],true):=by rw[e1]; unfold iE; rw[if_pos ⟨rfl,by simp[vP]; omega⟩]
           refine sh ?_
           refine ab hr ?_
           refine sh ?_
           refine nX (i+1) ?_ ?_ ⟨_,hp,rfl⟩ ?_ ?_
           ·omega
           ·omega
           ·all_goals repeat' (first|exact True.intro|refine And.intro ?_ ?_|(intro _u; clear _u)|(with_reducible first|exact ai.fg|refine eM ?_ ?_|refine eF ?_ ?_ ?_|refine eN ?_|refine eL ?_ ?_ ?_|refine eA ?_ ?_|refine aj.mk ⟨_,hp,rfl⟩ ?_ ?_)|refine aj.mk ⟨_,hp,rfl⟩ ?_ ?_)
            all_goals try first|with_reducible rfl|omega|exact .inl (by decide)|(simp; done)|rfl
            all_goals first|(rw[e2]; done)|(rw[e2]; simp; done)
           ·all_goals repeat' (first|exact True.intro|refine And.intro ?_ ?_|(intro _u; clear _u)|(with_reducible first|exact ai.fg|refine eM ?_ ?_|refine eF ?_ ?_ ?_|refine eN ?_|refine eL ?_ ?_ ?_|refine eA ?_ ?_|refine aj.mk ⟨_,hp,rfl⟩ ?_ ?_)|refine aj.mk ⟨_,hp,rfl⟩ ?_ ?_)
            all_goals try first|with_reducible rfl|omega|exact .inl (by decide)|(simp; done)|rfl
            all_goals first|(right; simp[gD,Rw.row]; done)|(rw[e2]; simp[gD,Rw.row,hx]; done)
          ·have e2:cz (vP x) x (d.rows.take (i+1))=(O++ [r],false):=by rw[e1]; unfold iE; rw[if_neg (by simp[vP]; omega)]
           refine sh ?_
           refine ab hr ?_
           refine sh ?_
           refine nX (i+1) ?_ ?_ ⟨_,hp,rfl⟩ ?_ ?_
           ·omega
           ·omega
           ·all_goals repeat' (first|exact True.intro|refine And.intro ?_ ?_|(intro _u; clear _u)|(with_reducible first|exact ai.fg|refine eM ?_ ?_|refine eF ?_ ?_ ?_|refine eN ?_|refine eL ?_ ?_ ?_|refine eA ?_ ?_|refine aj.mk ⟨_,hp,rfl⟩ ?_ ?_)|refine aj.mk ⟨_,hp,rfl⟩ ?_ ?_)
            all_goals try first|with_reducible rfl|omega|exact .inl (by decide)|(simp; done)|rfl
            all_goals first|(rw[e2]; done)|(rw[e2]; simp; done)
           ·all_goals repeat' (first|exact True.intro|refine And.intro ?_ ?_|(intro _u; clear _u)|(with_reducible first|exact ai.fg|refine eM ?_ ?_|refine eF ?_ ?_ ?_|refine eN ?_|refine eL ?_ ?_ ?_|refine eA ?_ ?_|refine aj.mk ⟨_,hp,rfl⟩ ?_ ?_)|refine aj.mk ⟨_,hp,rfl⟩ ?_ ?_)
            all_goals try first|with_reducible rfl|omega|exact .inl (by decide)|(simp; done)|rfl
            all_goals first|(right; simp[gD,Rw.row]; done)|(rw[e2]; simp[gD,Rw.row,hx]; done)
         |true=>
          have e2:cz (vP x) x (d.rows.take (i+1))=(O++ [r],true):=by rw[e1]; unfold iE; rw[if_neg (by simp)]
          refine sh ?_
          refine ab hr ?_
          refine sh ?_
          refine nX (i+1) ?_ ?_ ⟨_,hp,rfl⟩ ?_ ?_
          ·omega
          ·omega
          ·all_goals repeat' (first|exact True.intro|refine And.intro ?_ ?_|(intro _u; clear _u)|(with_reducible first|exact ai.fg|refine eM ?_ ?_|refine eF ?_ ?_ ?_|refine eN ?_|refine eL ?_ ?_ ?_|refine eA ?_ ?_|refine aj.mk ⟨_,hp,rfl⟩ ?_ ?_)|refine aj.mk ⟨_,hp,rfl⟩ ?_ ?_)
           all_goals try first|with_reducible rfl|omega|exact .inl (by decide)|(simp; done)|rfl
           all_goals first|(rw[e2]; done)|(rw[e2]; simp; done)
          ·all_goals repeat' (first|exact True.intro|refine And.intro ?_ ?_|(intro _u; clear _u)|(with_reducible first|exact ai.fg|refine eM ?_ ?_|refine eF ?_ ?_ ?_|refine eN ?_|refine eL ?_ ?_ ?_|refine eA ?_ ?_|refine aj.mk ⟨_,hp,rfl⟩ ?_ ?_)|refine aj.mk ⟨_,hp,rfl⟩ ?_ ?_)
           all_goals try first|with_reducible rfl|omega|exact .inl (by decide)|(simp; done)|rfl
           all_goals first|(right; simp[gD,Rw.row]; done)|(rw[e2]; simp[gD,Rw.row,hx]; done)
        ·rw[List.take_of_length_le (by omega)]at hlen ⊢
         obtain⟨⟨O,b⟩,hO⟩:∃s,cz (vP x) x d.rows=s:=⟨_,rfl⟩
         have hL:lI (vP x) x d.rows=if b=true then O else O++ [x]:=by unfold lI; rw[hO]
         rw[hL]at hq
         rw[hO]at hlen ⊢
         dsimp only at hlen ⊢
         cases b with
         |false=>
          rw[if_neg (by simp)]at hq
          subst hq
          refine sh ?_
          refine rM [0] ?_
          all_goals repeat' (first|exact True.intro|refine And.intro ?_ ?_|(intro _u; clear _u)|(with_reducible first|exact ai.fg|refine eM ?_ ?_|refine eF ?_ ?_ ?_|refine eN ?_|refine eL ?_ ?_ ?_|refine eA ?_ ?_|refine aj.mk ⟨_,hp,rfl⟩ ?_ ?_)|refine aj.mk ⟨_,hp,rfl⟩ ?_ ?_)
          all_goals try first|with_reducible rfl|omega|exact .inl (by decide)|(simp; done)|rfl
          all_goals (simp[gD,Rw.row,hx]; done)
         |true=>
          rw[if_pos rfl]at hq
          subst hq
          refine sh ?_
          exact rM [0]
end Go.UM
namespace Go.UM
open Go.AM
set_option maxRecDepth 4000
theorem ux {α:Type} (l:List α) (i:Nat):l.take i++l.drop (i+1)=l.eraseIdx i:=(List.eraseIdx_eq_take_drop_succ ..).symm
theorem FG (l:List In) (i:Nat):(b8 l).take i=b8 (l.take i):=by simp[b8,List.map_take]
theorem FH (l:List In) (i:Nat):(b8 l).drop i=b8 (l.drop i):=by simp[b8,List.map_drop]
theorem Nc (l:List Rw) (i:Nat):(gD l).take i=gD (l.take i):=by simp[gD,List.map_take]
theorem Nd (l:List Rw) (i:Nat):(gD l).drop i=gD (l.drop i):=by simp[gD,List.map_drop]
theorem AO (a b:List In):b8 (a++b)=b8 a++b8 b:=by simp[b8]
def uy (t:Tb) (x:In):Tb × Int:=if (eY t.ins x).isSome=true then (⟨t.rows,t.ins.eraseP (aU x)⟩,0)else (t,11)
theorem Iq {R:Env} (h:Mg R) (d:Tb) (x:In) (hl:d.ins.length≤1000000):R.Mc 444 [.loc 0 1 0 0,.agg x.row] (je R d) (.int .i64 (uy d x).2) (je R (uy d x).1) 1:=
 h.WF.aV 100 1 rfl rfl rfl fun X bb hfit hp=>by
  generalize hq:uy d x=q
  unfold uy at hq
  unfold je
  refine sh ?_
  refine cM false [0] (qf h.xe d x hl) ?_
  repeat (intro _; first|refine eK ?_|refine eP ?_)
  rcases jF (aU x) d.ins with⟨i,r,e1,e2,_,e3,e4⟩|⟨e1,e2⟩
  ·have e3:eY d.ins x=some r:=e3
   rw[e3,if_pos (by simp)]at hq
   have hi:=(List.getElem?_eq_some_iff.1 e2).1
   rw[e1]
   refine sh ?_
   refine aq (by simp) ?_
   refine sh ?_
   refine iS (by rw[Int.toNat_natCast,FG]) ?_
   refine sh ?_
   refine iS (by rw[show ((i:Int)+1).toNat=i+1 by omega,FH]) ?_
   subst hq
   refine sh ?_
   refine rM [0] ?_
   all_goals repeat' (first|exact True.intro|refine And.intro ?_ ?_|(intro _u; clear _u)|(with_reducible first|exact ai.fg|refine eM ?_ ?_|refine eF ?_ ?_ ?_|refine eN ?_|refine eL ?_ ?_ ?_|refine eA ?_ ?_|refine aj.mk ⟨_,hp,rfl⟩ ?_ ?_)|refine aj.mk ⟨_,hp,rfl⟩ ?_ ?_)
   all_goals try first|with_reducible rfl|omega|exact .inl (by decide)|(simp; done)|rfl
   all_goals (show []++b8 (d.ins.take i)++b8 (d.ins.drop (i+1))=b8 (d.ins.eraseP (aU x)); rw[←e4,←ux,AO,List.nil_append])
  ·have e2:eY d.ins x=none:=e2
   rw[e2,if_neg (by simp)]at hq
   rw[e1]
   refine sh ?_
   refine ah (by simp) ?_
   subst hq
   refine sh ?_
   exact rM [0]
def lC (t:Tb) (hd:Int):Tb × Int:=if (bE t.rows hd).isSome=true then (⟨t.rows.eraseP (pY hd),t.ins.filter fun x=> !fk hd x⟩,0)else (t,11)
theorem Cy {α:Type} {p:α→Bool} {l:List α} {i:Nat} {x:α} (h:l[i]? =some x):(l.take (i+1)).filter p=(l.take i).filter p++(if p x=true then [x]else []):=by
 rw[az h,List.filter_append]
 congr 1
 simp[List.filter_cons]
set_option maxHeartbeats 1000000 in
theorem Cz {R:Env} (h:Md R) (d:Tb) (hd:Int) (hl:d.rows.length≤1000000) (hi:d.ins.length≤1000000):R.Mc 442 [.loc 0 1 0 0,.int .i64 hd] (je R d) (.int .i64 (lC d hd).2) (je R (lC d hd).1) 1:=
 h.WC.aV 100 1 rfl rfl rfl fun X bb hfit hp=>by
  generalize hq:lC d hd=q
  unfold lC at hq
  unfold je
  refine sh ?_
  refine cM false [0] (sj h.rK d hd hl) ?_
  repeat (intro _; first|refine eK ?_|refine eP ?_)
  rcases jF (pY hd) d.rows with⟨a,r,e1,e2,_,e3,e4⟩|⟨e1,e2⟩
  ·have e3:bE d.rows hd=some r:=e3
   rw[e3,if_pos (by simp)]at hq
   have ha:=(List.getElem?_eq_some_iff.1 e2).1
   rw[e1]
   refine sh ?_
   refine aq (by simp) ?_
   refine sh ?_
   refine iS (by rw[Int.toNat_natCast,Nc]) ?_
   refine sh ?_
   refine iS (by rw[show ((a:Int)+1).toNat=a+1 by omega,Nd]) ?_
   refine sh ?_
   refine au.inv 100 (fun i:Nat=>i≤d.ins.length) (fun i=>⟨[(0,.loc 0 1 0 0),(1,.int .i64 hd),(6,.ba 2 ((d.ins.take i).filter fun x=> !fk hd x).length),(7,.int .i64 i)],[(0,.var (R.ty 56) [.aH 40 (gD (d.rows.eraseP (pY hd))),.aH 16 (b8 d.ins)]),(2,.arr (R.ty 44) 16 (b8 ((d.ins.take i).filter fun x=> !fk hd x)))],3⟩) (fun i=>d.ins.length - i) (0) ?_ ⟨⟨_,hp,rfl⟩,?_,?_⟩ ?_
   ·exact Nat.zero_le _
   ·all_goals repeat' (first|exact True.intro|refine And.intro ?_ ?_|(intro _u; clear _u)|(with_reducible first|exact ai.fg|refine eM ?_ ?_|refine eF ?_ ?_ ?_|refine eN ?_|refine eL ?_ ?_ ?_|refine eA ?_ ?_|refine aj.mk ⟨_,hp,rfl⟩ ?_ ?_)|refine aj.mk ⟨_,hp,rfl⟩ ?_ ?_)
    all_goals try first|with_reducible rfl|omega|exact .inl (by decide)|(simp; done)|rfl
   ·all_goals repeat' (first|exact True.intro|refine And.intro ?_ ?_|(intro _u; clear _u)|(with_reducible first|exact ai.fg|refine eM ?_ ?_|refine eF ?_ ?_ ?_|refine eN ?_|refine eL ?_ ?_ ?_|refine eA ?_ ?_|refine aj.mk ⟨_,hp,rfl⟩ ?_ ?_)|refine aj.mk ⟨_,hp,rfl⟩ ?_ ?_)
    all_goals try first|with_reducible rfl|omega|exact .inl (by decide)|(simp; done)|rfl
    all_goals (rw[←e4,←ux]; simp[gD])
   ·intro i hii
    dsimp only
    refine sh ?_
    refine cS (fun h1=> ?_) (fun h1=> ?_)
    ·obtain⟨x,hx⟩:∃u_,d.ins[i]? =some u_:=⟨_,List.getElem?_eq_getElem (by first|omega|(simp<;>omega))⟩
     refine sh ?_
     refine ab hx ?_
     have ef:=Cy (p:=fun x=> !fk hd x) hx
     have el:((d.ins.take i).filter fun x=> !fk hd x).length≤i:=Nat.le_trans (List.length_filter_le _ _) (by rw[List.length_take]; omega)
     obtain⟨O,hO⟩:∃O,((d.ins.take i).filter fun x=> !fk hd x)=O:=⟨_,rfl⟩
     rw[hO]at ef el ⊢
     refine sh ?_
     refine cS (fun k1=> ?_) (fun k1=> ?_)
     ·refine sh ?_
      refine cS (fun k2=> ?_) (fun k2=> ?_)
      ·refine sh ?_
       refine cS (fun k3=> ?_) (fun k3=> ?_)
       ·have e:fk hd x=false:=by simp[fk]; omega
        rw[e,if_pos (by rfl)]at ef
        refine sh ?_
        refine nX (i+1) ?_ ?_ ⟨_,hp,rfl⟩ ?_ ?_
        ·omega
        ·omega
        ·all_goals repeat' (first|exact True.intro|refine And.intro ?_ ?_|(intro _u; clear _u)|(with_reducible first|exact ai.fg|refine eM ?_ ?_|refine eF ?_ ?_ ?_|refine eN ?_|refine eL ?_ ?_ ?_|refine eA ?_ ?_|refine aj.mk ⟨_,hp,rfl⟩ ?_ ?_)|refine aj.mk ⟨_,hp,rfl⟩ ?_ ?_)
         all_goals try first|with_reducible rfl|omega|exact .inl (by decide)|(simp; done)|rfl
         all_goals first|(rw[ef]; done)|(rw[ef]; simp; done)
        ·all_goals repeat' (first|exact True.intro|refine And.intro ?_ ?_|(intro _u; clear _u)|(with_reducible first|exact ai.fg|refine eM ?_ ?_|refine eF ?_ ?_ ?_|refine eN ?_|refine eL ?_ ?_ ?_|refine eA ?_ ?_|refine aj.mk ⟨_,hp,rfl⟩ ?_ ?_)|refine aj.mk ⟨_,hp,rfl⟩ ?_ ?_)
         all_goals try first|with_reducible rfl|omega|exact .inl (by decide)|(simp; done)|rfl
         all_goals first|(right; simp[b8,In.row]; done)|(rw[ef,AO]; rfl)
       ·have e:fk hd x=true:=by simp[fk]; omega
        rw[e,if_neg (by simp)]at ef
        refine sh ?_
        refine nX (i+1) ?_ ?_ ⟨_,hp,rfl⟩ ?_ ?_
        ·omega
        ·omega
        ·all_goals repeat' (first|exact True.intro|refine And.intro ?_ ?_|(intro _u; clear _u)|(with_reducible first|exact ai.fg|refine eM ?_ ?_|refine eF ?_ ?_ ?_|refine eN ?_|refine eL ?_ ?_ ?_|refine eA ?_ ?_|refine aj.mk ⟨_,hp,rfl⟩ ?_ ?_)|refine aj.mk ⟨_,hp,rfl⟩ ?_ ?_)
         all_goals try first|with_reducible rfl|omega|exact .inl (by decide)|(simp; done)|rfl
         all_goals (rw[ef]; simp)
        ·all_goals repeat' (first|exact True.intro|refine And.intro ?_ ?_|(intro _u; clear _u)|(with_reducible first|exact ai.fg|refine eM ?_ ?_|refine eF ?_ ?_ ?_|refine eN ?_|refine eL ?_ ?_ ?_|refine eA ?_ ?_|refine aj.mk ⟨_,hp,rfl⟩ ?_ ?_)|refine aj.mk ⟨_,hp,rfl⟩ ?_ ?_)
         all_goals try first|with_reducible rfl|omega|exact .inl (by decide)|(simp; done)|rfl
         all_goals (rw[ef]; simp)
      ·have e:fk hd x=true:=by simp[fk]; omega
       rw[e,if_neg (by simp)]at ef
       refine sh ?_
       refine nX (i+1) ?_ ?_ ⟨_,hp,rfl⟩ ?_ ?_
       ·omega
       ·omega
       ·all_goals repeat' (first|exact True.intro|refine And.intro ?_ ?_|(intro _u; clear _u)|(with_reducible first|exact ai.fg|refine eM ?_ ?_|refine eF ?_ ?_ ?_|refine eN ?_|refine eL ?_ ?_ ?_|refine eA ?_ ?_|refine aj.mk ⟨_,hp,rfl⟩ ?_ ?_)|refine aj.mk ⟨_,hp,rfl⟩ ?_ ?_)
        all_goals try first|with_reducible rfl|omega|exact .inl (by decide)|(simp; done)|rfl
        all_goals (rw[ef]; simp)
       ·all_goals repeat' (first|exact True.intro|refine And.intro ?_ ?_|(intro _u; clear _u)|(with_reducible first|exact ai.fg|refine eM ?_ ?_|refine eF ?_ ?_ ?_|refine eN ?_|refine eL ?_ ?_ ?_|refine eA ?_ ?_|refine aj.mk ⟨_,hp,rfl⟩ ?_ ?_)|refine aj.mk ⟨_,hp,rfl⟩ ?_ ?_)
        all_goals try first|with_reducible rfl|omega|exact .inl (by decide)|(simp; done)|rfl
        all_goals (rw[ef]; simp)
     ·have e:fk hd x=true:=by simp[fk]; omega
      rw[e,if_neg (by simp)]at ef
      refine sh ?_
      refine nX (i+1) ?_ ?_ ⟨_,hp,rfl⟩ ?_ ?_
      ·omega
      ·omega
      ·all_goals repeat' (first|exact True.intro|refine And.intro ?_ ?_|(intro _u; clear _u)|(with_reducible first|exact ai.fg|refine eM ?_ ?_|refine eF ?_ ?_ ?_|refine eN ?_|refine eL ?_ ?_ ?_|refine eA ?_ ?_|refine aj.mk ⟨_,hp,rfl⟩ ?_ ?_)|refine aj.mk ⟨_,hp,rfl⟩ ?_ ?_)
       all_goals try first|with_reducible rfl|omega|exact .inl (by decide)|(simp; done)|rfl
       all_goals (rw[ef]; simp)
      ·all_goals repeat' (first|exact True.intro|refine And.intro ?_ ?_|(intro _u; clear _u)|(with_reducible first|exact ai.fg|refine eM ?_ ?_|refine eF ?_ ?_ ?_|refine eN ?_|refine eL ?_ ?_ ?_|refine eA ?_ ?_|refine aj.mk ⟨_,hp,rfl⟩ ?_ ?_)|refine aj.mk ⟨_,hp,rfl⟩ ?_ ?_)
       all_goals try first|with_reducible rfl|omega|exact .inl (by decide)|(simp; done)|rfl
       all_goals (rw[ef]; simp)
    ·rw[List.take_of_length_le (by omega)]
     subst hq
     refine sh ?_
     exact rM [0]
  ·have e2:bE d.rows hd=none:=e2
   rw[e2,if_neg (by simp)]at hq
   rw[e1]
   refine sh ?_
   refine ah (by simp) ?_
   subst hq
   refine sh ?_
   exact rM [0]
def CA (t:Tb) (x:In):Tb × Int:=
 if x.n<0∨65536<x.n then (t,2)else if bZ t.rows x≠0 then (t,bZ t.rows x)else if (eY t.ins x).isSome=true then (t,10)
 else match bE t.rows x.bK with
  |none=>(t,11)
  |some r=>if vE x.t r.a.m.v≠0 then (t,vE x.t r.a.m.v)else (⟨t.rows,lI (gJ x) x t.ins⟩,0)
theorem oL (h:Int) (l:List Rw):(∃ (i:Nat) (r:Rw),zB (pY h) l=i∧l[i]? =some r∧bE l h=some r)∨(zB (pY h) l= -1∧bE l h=none):=by
 rcases jF (pY h) l with⟨i,r,e1,e2,_,e3,_⟩|⟨e1,e2⟩
 ·exact .inl ⟨i,r,e1,e2,e3⟩
 ·exact .inr ⟨e1,e2⟩
theorem mE (x:In) (l:List In):(0≤zB (aU x) l∧(eY l x).isSome=true)∨(zB (aU x) l= -1∧(eY l x).isSome=false):=by
 rcases jF (aU x) l with⟨i,r,e1,e2,_,e3,_⟩|⟨e1,e2⟩
 ·have e3:eY l x=some r:=e3
  exact .inl ⟨by omega,by rw[e3]; rfl⟩
 ·have e2:eY l x=none:=e2
  exact .inr ⟨e1,by rw[e2]; rfl⟩
end Go.UM
namespace Go.UM
open Go.AM
set_option maxRecDepth 4000
set_option maxHeartbeats 8000000 in
theorem Ng {R:Env} (h:Me R) (d:Tb) (x:In) (ok:∀r ∈ d.rows,xF r) (hx:x.t.I) (hl:d.rows.length≤1000000) (hil:d.ins.length≤1000000):
  R.Mc 443 [.loc 0 1 0 0,.agg x.row] (je R d) (.int .i64 (CA d x).2) (je R (CA d x).1) 1:=
 h.WE.aV 100 1 rfl rfl rfl fun X bb hfit hp=>by
  generalize hq:CA d x=q
  unfold CA at hq
  unfold je
  refine sh ?_
  refine cS (fun h1=> ?_) (fun h1=> ?_)
  ·rw[if_pos (by omega)]at hq
   subst hq
   refine sh ?_
   exact rM [0]
  ·refine sh ?_
   refine cS (fun h2=> ?_) (fun h2=> ?_)
   ·rw[if_pos (by omega)]at hq
    subst hq
    refine sh ?_
    exact rM [0]
   ·rw[if_neg (by omega)]at hq
    refine sh ?_
    refine cM false [0] (sj h.rK d x.bK hl) ?_
    repeat (intro _; first|refine eK ?_|refine eP ?_)
    refine sh ?_
    refine cM false [0] (sj h.rK d x.eW hl) ?_
    repeat (intro _; first|refine eK ?_|refine eP ?_)
    refine sh ?_
    refine cM false [0] (sj h.rK d x.dB hl) ?_
    repeat (intro _; first|refine eK ?_|refine eP ?_)
    rcases oL x.bK d.rows with⟨i,a,ha1,ha2,pF⟩|⟨ha1,pF⟩
    ·have la:=(List.getElem?_eq_some_iff.1 ha2).1
     rcases oL x.eW d.rows with⟨j,b,sw,OI,Kh⟩|⟨sw,Kh⟩
     ·have lb:=(List.getElem?_eq_some_iff.1 OI).1
      rcases oL x.dB d.rows with⟨k,c,hc1,jg,vU⟩|⟨hc1,vU⟩
      ·have lc:=(List.getElem?_eq_some_iff.1 jg).1
       rw[ha1,sw,hc1]
       have et:bZ d.rows x=if x.dB=0 then (if a.f.kind≠1∨b.f.kind≠3 then 12 else 0)else if a.f.kind≠1∨b.f.kind≠3∨c.f.kind≠2 then 12 else 0:=by unfold bZ; rw[pF,Kh,vU]
       refine sh ?_
       refine aq (by simp) ?_
       refine sh ?_
       refine aq (by simp) ?_
       refine sh ?_
       refine aq (by simp) ?_
       refine sh ?_
       refine ab ha2 ?_
       refine sh ?_
       refine cS (fun k1=> ?_) (fun k1=> ?_)
       ·rw[if_pos (by rw[et]; split<;>rw[if_pos (.inl k1)]<;>simp),show bZ d.rows x=12 by rw[et]; split<;>rw[if_pos (.inl k1)]]at hq
        subst hq
        refine sh ?_
        exact rM [0]
       ·refine sh ?_
        refine ab OI ?_
        refine sh ?_
        refine cS (fun k2=> ?_) (fun k2=> ?_)
        ·rw[if_pos (by rw[et]; split; rw[if_pos (.inr k2)]; simp; rw[if_pos (.inr (.inl k2))]; simp),show bZ d.rows x=12 by rw[et]; split; rw[if_pos (.inr k2)]; rw[if_pos (.inr (.inl k2))]]at hq
         subst hq
         refine sh ?_
         exact rM [0]
        ·refine sh ?_
         refine cS (fun k3=> ?_) (fun k3=> ?_)
         ·refine sh ?_
          refine ab jg ?_
          refine sh ?_
          refine cS (fun k4=> ?_) (fun k4=> ?_)
          ·have xU:bZ d.rows x=12:=by rw[et,if_neg k3,if_pos (.inr (.inr k4))]
           rw[if_pos (by rw[xU]; simp),xU]at hq
           subst hq
           refine sh ?_
           exact rM [0]
          ·have xU:bZ d.rows x=0:=by rw[et,if_neg k3,if_neg (by omega)]
           rw[if_neg (by rw[xU]; simp)]at hq
           have hvs:=(ok a (kY pF).1).AE (by omega)
           refine sh ?_
           refine cM false [0] (qf h.xe d x hil) ?_
           repeat (intro _; first|refine eK ?_|refine eP ?_)
           rcases mE x d.ins with⟨f1,f2⟩|⟨f1,f2⟩
           ·rw[if_pos f2]at hq
            refine sh ?_
            refine ah (by simp; omega) ?_
            subst hq
            refine sh ?_
            exact rM [0]
           ·rw[if_neg (by rw[f2]; simp),pF]at hq
            rw[f1]
            refine sh ?_
            refine aq (by simp) ?_
            dsimp only at hq
            refine sh ?_
            refine ab ha2 ?_
            refine sh ?_
            refine gk 100 (fun k:Nat=>k≤a.a.m.v.length∧∀ (j:Nat) (u:T3),j<k→a.a.m.v[j]? =some u→(dK x.t u).2=0) (fun k=>⟨[(0,.loc 0 1 0 0),(3,.loc 1 1 0 0),(8,.aH 3 (bD a.a.m.v)),(9,.int .i64 k)],[(0,.var (R.ty 56) [.aH 40 (gD d.rows),.aH 16 (b8 d.ins)]),(1,.var (R.ty 44) x.row)],2⟩) (fun k=>a.a.m.v.length - k) (0) ?_ ?_
            ·exact⟨Nat.zero_le _,fun j u hj=>absurd hj (Nat.not_lt_zero j)⟩
            ·intro k hk
             dsimp only
             have hlen:=hvs.1
             refine sh ?_
             refine cS (fun h4=> ?_) (fun h4=> ?_)
             ·obtain⟨v,hv⟩:∃u_,a.a.m.v[k]? =some u_:=⟨_,List.getElem?_eq_getElem (by first|omega|(simp<;>omega))⟩
              refine sh ?_
              refine ab hv ?_
              refine sh ?_
              refine ae.pure h.n242.HD.hb (oE h.n242 hx (vF (hvs.2 v (List.mem_of_getElem? hv)))) rfl ?_
              refine sh ?_
              refine cS (fun h5=> ?_) (fun h5=> ?_)
              ·rw[if_pos (by rw[iX hv hk.2 h5]; exact h5),iX hv hk.2 h5]at hq
               subst hq
               refine sh ?_
               exact rM [0]
              ·refine sh ?_
               refine kq (k+1) ?_ ?_
               ·refine⟨by omega,fun j u hj hu=> ?_⟩
                by_cases e:j=k
                ·subst e
                 rw[hv]at hu
                 cases hu
                 exact h5
                ·exact hk.2 j u (by omega) hu
               ·omega
             ·rw[ly (fun j u hj=>hk.2 j u (by omega)),if_neg (by simp)]at hq
              refine sh ?_
              refine gk 100 (fun i:Nat=>i≤d.ins.length) (fun i=>⟨[(0,.loc 0 1 0 0),(3,.loc 1 1 0 0),(12,.ba 2 (cz (gJ x) x (d.ins.take i)).1.length),(13,.bool (cz (gJ x) x (d.ins.take i)).2),(14,.int .i64 i)],[(0,.var (R.ty 56) [.aH 40 (gD d.rows),.aH 16 (b8 d.ins)]),(1,.var (R.ty 44) x.row),(2,.arr (R.ty 44) 16 (b8 (cz (gJ x) x (d.ins.take i)).1))],3⟩) (fun i=>d.ins.length - i) (0) ?_ ?_
              ·exact Nat.zero_le _
              ·intro i hi
               dsimp only
               have hlen:=nO (p:=gJ x) (x:=x) (d.ins.take i)
               rw[List.length_take]at hlen
               refine sh ?_
               refine cS (fun h6=> ?_) (fun h6=> ?_)
               ·obtain⟨r,hr⟩:∃u_,d.ins[i]? =some u_:=⟨_,List.getElem?_eq_getElem (by omega)⟩
                have e1:cz (gJ x) x (d.ins.take (i+1))=iE (gJ x) x (cz (gJ x) x (d.ins.take i)) r:=by rw[az hr,lB]
                obtain⟨⟨O,b⟩,hO⟩:∃s,cz (gJ x) x (d.ins.take i)=s:=⟨_,rfl⟩
                rw[hO]at e1 hlen ⊢
                dsimp only at hlen ⊢
                cases b with
                |false=>
                 refine sh ?_
                 refine ab hr ?_
                 refine sh ?_
                 refine ae.pure h.nz.BV.hb (nP h.nz x r) rfl ?_
                 by_cases h7:j5 x r<0
                 ·refine sh ?_
                  refine ah (by simpa using h7) ?_
                  have e2:cz (gJ x) x (d.ins.take (i+1))=(O++ [x]++ [r],true):=by rw[e1]; unfold iE; rw[if_pos ⟨rfl,by simp[gJ]; omega⟩]
                  refine sh ?_
                  refine ab hr ?_
                  refine sh ?_
                  refine nX (i+1) ?_ ?_ ⟨_,hp,rfl⟩ ?_ ?_
                  ·omega
                  ·omega
                  ·all_goals repeat' (first|exact True.intro|refine And.intro ?_ ?_|(intro _u; clear _u)|(with_reducible first|exact ai.fg|refine eM ?_ ?_|refine eF ?_ ?_ ?_|refine eN ?_|refine eL ?_ ?_ ?_|refine eA ?_ ?_|refine aj.mk ⟨_,hp,rfl⟩ ?_ ?_)|refine aj.mk ⟨_,hp,rfl⟩ ?_ ?_)
                   all_goals try first|with_reducible rfl|omega|exact .inl (by decide)|(simp; done)|rfl
                   all_goals first|(rw[e2]; done)|(rw[e2]; simp; done)
                  ·all_goals repeat' (first|exact True.intro|refine And.intro ?_ ?_|(intro _u; clear _u)|(with_reducible first|exact ai.fg|refine eM ?_ ?_|refine eF ?_ ?_ ?_|refine eN ?_|refine eL ?_ ?_ ?_|refine eA ?_ ?_|refine aj.mk ⟨_,hp,rfl⟩ ?_ ?_)|refine aj.mk ⟨_,hp,rfl⟩ ?_ ?_)
                   all_goals try first|with_reducible rfl|omega|exact .inl (by decide)|(simp; done)|rfl
                   all_goals first|(right; simp[b8,In.row]; done)|(rw[e2]; simp[b8,In.row]; done)
                 ·refine sh ?_
                  refine aq (by simpa using h7) ?_
                  have e2:cz (gJ x) x (d.ins.take (i+1))=(O++ [r],false):=by rw[e1]; unfold iE; rw[if_neg (by simp[gJ]; omega)]
                  refine sh ?_
                  refine ab hr ?_
                  refine sh ?_
                  refine nX (i+1) ?_ ?_ ⟨_,hp,rfl⟩ ?_ ?_
                  ·omega
                  ·omega
                  ·all_goals repeat' (first|exact True.intro|refine And.intro ?_ ?_|(intro _u; clear _u)|(with_reducible first|exact ai.fg|refine eM ?_ ?_|refine eF ?_ ?_ ?_|refine eN ?_|refine eL ?_ ?_ ?_|refine eA ?_ ?_|refine aj.mk ⟨_,hp,rfl⟩ ?_ ?_)|refine aj.mk ⟨_,hp,rfl⟩ ?_ ?_)
                   all_goals try first|with_reducible rfl|omega|exact .inl (by decide)|(simp; done)|rfl
                   all_goals first|(rw[e2]; done)|(rw[e2]; simp; done)
                  ·all_goals repeat' (first|exact True.intro|refine And.intro ?_ ?_|(intro _u; clear _u)|(with_reducible first|exact ai.fg|refine eM ?_ ?_|refine eF ?_ ?_ ?_|refine eN ?_|refine eL ?_ ?_ ?_|refine eA ?_ ?_|refine aj.mk ⟨_,hp,rfl⟩ ?_ ?_)|refine aj.mk ⟨_,hp,rfl⟩ ?_ ?_)
                   all_goals try first|with_reducible rfl|omega|exact .inl (by decide)|(simp; done)|rfl
                   all_goals first|(right; simp[b8,In.row]; done)|(rw[e2]; simp[b8,In.row]; done)
                |true=>
                 have e2:cz (gJ x) x (d.ins.take (i+1))=(O++ [r],true):=by rw[e1]; unfold iE; rw[if_neg (by simp)]
                 refine sh ?_
                 refine ab hr ?_
                 refine sh ?_
                 refine nX (i+1) ?_ ?_ ⟨_,hp,rfl⟩ ?_ ?_
                 ·omega
                 ·omega
                 ·all_goals repeat' (first|exact True.intro|refine And.intro ?_ ?_|(intro _u; clear _u)|(with_reducible first|exact ai.fg|refine eM ?_ ?_|refine eF ?_ ?_ ?_|refine eN ?_|refine eL ?_ ?_ ?_|refine eA ?_ ?_|refine aj.mk ⟨_,hp,rfl⟩ ?_ ?_)|refine aj.mk ⟨_,hp,rfl⟩ ?_ ?_)
                  all_goals try first|with_reducible rfl|omega|exact .inl (by decide)|(simp; done)|rfl
                  all_goals first|(rw[e2]; done)|(rw[e2]; simp; done)
                 ·all_goals repeat' (first|exact True.intro|refine And.intro ?_ ?_|(intro _u; clear _u)|(with_reducible first|exact ai.fg|refine eM ?_ ?_|refine eF ?_ ?_ ?_|refine eN ?_|refine eL ?_ ?_ ?_|refine eA ?_ ?_|refine aj.mk ⟨_,hp,rfl⟩ ?_ ?_)|refine aj.mk ⟨_,hp,rfl⟩ ?_ ?_)
                  all_goals try first|with_reducible rfl|omega|exact .inl (by decide)|(simp; done)|rfl
                  all_goals first|(right; simp[b8,In.row]; done)|(rw[e2]; simp[b8,In.row]; done)
               ·rw[List.take_of_length_le (by omega)]at hlen ⊢
                obtain⟨⟨O,b⟩,hO⟩:∃s,cz (gJ x) x d.ins=s:=⟨_,rfl⟩
                have hL:lI (gJ x) x d.ins=if b=true then O else O++ [x]:=by unfold lI; rw[hO]
                rw[hL]at hq
                rw[hO]at hlen ⊢
                dsimp only at hlen ⊢
                cases b with
                |false=>
                 rw[if_neg (by simp)]at hq
                 subst hq
                 refine sh ?_
                 refine rM [0] ?_
                 all_goals repeat' (first|exact True.intro|refine And.intro ?_ ?_|(intro _u; clear _u)|(with_reducible first|exact ai.fg|refine eM ?_ ?_|refine eF ?_ ?_ ?_|refine eN ?_|refine eL ?_ ?_ ?_|refine eA ?_ ?_|refine aj.mk ⟨_,hp,rfl⟩ ?_ ?_)|refine aj.mk ⟨_,hp,rfl⟩ ?_ ?_)
                 all_goals try first|with_reducible rfl|omega|exact .inl (by decide)|(simp; done)|rfl
                 all_goals (simp[b8,In.row]; done)
                |true=>
                 rw[if_pos rfl]at hq
                 subst hq
                 refine sh ?_
                 exact rM [0]
         ·have xU:bZ d.rows x=0:=by rw[et,if_pos k3,if_neg (by omega)]
          rw[if_neg (by rw[xU]; simp)]at hq
          have hvs:=(ok a (kY pF).1).AE (by omega)
          refine sh ?_
          refine cM false [0] (qf h.xe d x hil) ?_
          repeat (intro _; first|refine eK ?_|refine eP ?_)
          rcases mE x d.ins with⟨f1,f2⟩|⟨f1,f2⟩
          ·rw[if_pos f2]at hq
           refine sh ?_
           refine ah (by simp; omega) ?_
           subst hq
           refine sh ?_
           exact rM [0]
          ·rw[if_neg (by rw[f2]; simp),pF]at hq
           rw[f1]
           refine sh ?_
           refine aq (by simp) ?_
           dsimp only at hq
           refine sh ?_
           refine ab ha2 ?_
           refine sh ?_
           refine gk 100 (fun k:Nat=>k≤a.a.m.v.length∧∀ (j:Nat) (u:T3),j<k→a.a.m.v[j]? =some u→(dK x.t u).2=0) (fun k=>⟨[(0,.loc 0 1 0 0),(3,.loc 1 1 0 0),(8,.aH 3 (bD a.a.m.v)),(9,.int .i64 k)],[(0,.var (R.ty 56) [.aH 40 (gD d.rows),.aH 16 (b8 d.ins)]),(1,.var (R.ty 44) x.row)],2⟩) (fun k=>a.a.m.v.length - k) (0) ?_ ?_
           ·exact⟨Nat.zero_le _,fun j u hj=>absurd hj (Nat.not_lt_zero j)⟩
           ·intro k hk
            dsimp only
            have hlen:=hvs.1
            refine sh ?_
            refine cS (fun h4=> ?_) (fun h4=> ?_)
            ·obtain⟨v,hv⟩:∃u_,a.a.m.v[k]? =some u_:=⟨_,List.getElem?_eq_getElem (by first|omega|(simp<;>omega))⟩
             refine sh ?_
             refine ab hv ?_
             refine sh ?_
             refine ae.pure h.n242.HD.hb (oE h.n242 hx (vF (hvs.2 v (List.mem_of_getElem? hv)))) rfl ?_
             refine sh ?_
             refine cS (fun h5=> ?_) (fun h5=> ?_)
             ·rw[if_pos (by rw[iX hv hk.2 h5]; exact h5),iX hv hk.2 h5]at hq
              subst hq
              refine sh ?_
              exact rM [0]
             ·refine sh ?_
              refine kq (k+1) ?_ ?_
              ·refine⟨by omega,fun j u hj hu=> ?_⟩
               by_cases e:j=k
               ·subst e
                rw[hv]at hu
                cases hu
                exact h5
               ·exact hk.2 j u (by omega) hu
              ·omega
            ·rw[ly (fun j u hj=>hk.2 j u (by omega)),if_neg (by simp)]at hq
             refine sh ?_
             refine gk 100 (fun i:Nat=>i≤d.ins.length) (fun i=>⟨[(0,.loc 0 1 0 0),(3,.loc 1 1 0 0),(12,.ba 2 (cz (gJ x) x (d.ins.take i)).1.length),(13,.bool (cz (gJ x) x (d.ins.take i)).2),(14,.int .i64 i)],[(0,.var (R.ty 56) [.aH 40 (gD d.rows),.aH 16 (b8 d.ins)]),(1,.var (R.ty 44) x.row),(2,.arr (R.ty 44) 16 (b8 (cz (gJ x) x (d.ins.take i)).1))],3⟩) (fun i=>d.ins.length - i) (0) ?_ ?_
             ·exact Nat.zero_le _
             ·intro i hi
              dsimp only
              have hlen:=nO (p:=gJ x) (x:=x) (d.ins.take i)
              rw[List.length_take]at hlen
              refine sh ?_
              refine cS (fun h6=> ?_) (fun h6=> ?_)
              ·obtain⟨r,hr⟩:∃u_,d.ins[i]? =some u_:=⟨_,List.getElem?_eq_getElem (by omega)⟩
               have e1:cz (gJ x) x (d.ins.take (i+1))=iE (gJ x) x (cz (gJ x) x (d.ins.take i)) r:=by rw[az hr,lB]
               obtain⟨⟨O,b⟩,hO⟩:∃s,cz (gJ x) x (d.ins.take i)=s:=⟨_,rfl⟩
               rw[hO]at e1 hlen ⊢
               dsimp only at hlen ⊢
               cases b with
               |false=>
                refine sh ?_
                refine ab hr ?_
                refine sh ?_
                refine ae.pure h.nz.BV.hb (nP h.nz x r) rfl ?_
                by_cases h7:j5 x r<0
                ·refine sh ?_
                 refine ah (by simpa using h7) ?_
                 have e2:cz (gJ x) x (d.ins.take (i+1))=(O++ [x]++ [r],true):=by rw[e1]; unfold iE; rw[if_pos ⟨rfl,by simp[gJ]; omega⟩]
                 refine sh ?_
                 refine ab hr ?_
                 refine sh ?_
                 refine nX (i+1) ?_ ?_ ⟨_,hp,rfl⟩ ?_ ?_
                 ·omega
                 ·omega
                 ·all_goals repeat' (first|exact True.intro|refine And.intro ?_ ?_|(intro _u; clear _u)|(with_reducible first|exact ai.fg|refine eM ?_ ?_|refine eF ?_ ?_ ?_|refine eN ?_|refine eL ?_ ?_ ?_|refine eA ?_ ?_|refine aj.mk ⟨_,hp,rfl⟩ ?_ ?_)|refine aj.mk ⟨_,hp,rfl⟩ ?_ ?_)
                  all_goals try first|with_reducible rfl|omega|exact .inl (by decide)|(simp; done)|rfl
                  all_goals first|(rw[e2]; done)|(rw[e2]; simp; done)
                 ·all_goals repeat' (first|exact True.intro|refine And.intro ?_ ?_|(intro _u; clear _u)|(with_reducible first|exact ai.fg|refine eM ?_ ?_|refine eF ?_ ?_ ?_|refine eN ?_|refine eL ?_ ?_ ?_|refine eA ?_ ?_|refine aj.mk ⟨_,hp,rfl⟩ ?_ ?_)|refine aj.mk ⟨_,hp,rfl⟩ ?_ ?_)
                  all_goals try first|with_reducible rfl|omega|exact .inl (by decide)|(simp; done)|rfl
                  all_goals first|(right; simp[b8,In.row]; done)|(rw[e2]; simp[b8,In.row]; done)
                ·refine sh ?_
                 refine aq (by simpa using h7) ?_
                 have e2:cz (gJ x) x (d.ins.take (i+1))=(O++ [r],false):=by rw[e1]; unfold iE; rw[if_neg (by simp[gJ]; omega)]
                 refine sh ?_
                 refine ab hr ?_
                 refine sh ?_
                 refine nX (i+1) ?_ ?_ ⟨_,hp,rfl⟩ ?_ ?_
                 ·omega
                 ·omega
                 ·all_goals repeat' (first|exact True.intro|refine And.intro ?_ ?_|(intro _u; clear _u)|(with_reducible first|exact ai.fg|refine eM ?_ ?_|refine eF ?_ ?_ ?_|refine eN ?_|refine eL ?_ ?_ ?_|refine eA ?_ ?_|refine aj.mk ⟨_,hp,rfl⟩ ?_ ?_)|refine aj.mk ⟨_,hp,rfl⟩ ?_ ?_)
                  all_goals try first|with_reducible rfl|omega|exact .inl (by decide)|(simp; done)|rfl
                  all_goals first|(rw[e2]; done)|(rw[e2]; simp; done)
                 ·all_goals repeat' (first|exact True.intro|refine And.intro ?_ ?_|(intro _u; clear _u)|(with_reducible first|exact ai.fg|refine eM ?_ ?_|refine eF ?_ ?_ ?_|refine eN ?_|refine eL ?_ ?_ ?_|refine eA ?_ ?_|refine aj.mk ⟨_,hp,rfl⟩ ?_ ?_)|refine aj.mk ⟨_,hp,rfl⟩ ?_ ?_)
                  all_goals try first|with_reducible rfl|omega|exact .inl (by decide)|(simp; done)|rfl
                  all_goals first|(right; simp[b8,In.row]; done)|(rw[e2]; simp[b8,In.row]; done)
               |true=>
                have e2:cz (gJ x) x (d.ins.take (i+1))=(O++ [r],true):=by rw[e1]; unfold iE; rw[if_neg (by simp)]
                refine sh ?_
                refine ab hr ?_
                refine sh ?_
                refine nX (i+1) ?_ ?_ ⟨_,hp,rfl⟩ ?_ ?_
                ·omega
                ·omega
                ·all_goals repeat' (first|exact True.intro|refine And.intro ?_ ?_|(intro _u; clear _u)|(with_reducible first|exact ai.fg|refine eM ?_ ?_|refine eF ?_ ?_ ?_|refine eN ?_|refine eL ?_ ?_ ?_|refine eA ?_ ?_|refine aj.mk ⟨_,hp,rfl⟩ ?_ ?_)|refine aj.mk ⟨_,hp,rfl⟩ ?_ ?_)
                 all_goals try first|with_reducible rfl|omega|exact .inl (by decide)|(simp; done)|rfl
                 all_goals first|(rw[e2]; done)|(rw[e2]; simp; done)
                ·all_goals repeat' (first|exact True.intro|refine And.intro ?_ ?_|(intro _u; clear _u)|(with_reducible first|exact ai.fg|refine eM ?_ ?_|refine eF ?_ ?_ ?_|refine eN ?_|refine eL ?_ ?_ ?_|refine eA ?_ ?_|refine aj.mk ⟨_,hp,rfl⟩ ?_ ?_)|refine aj.mk ⟨_,hp,rfl⟩ ?_ ?_)
                 all_goals try first|with_reducible rfl|omega|exact .inl (by decide)|(simp; done)|rfl
                 all_goals first|(right; simp[b8,In.row]; done)|(rw[e2]; simp[b8,In.row]; done)
              ·rw[List.take_of_length_le (by omega)]at hlen ⊢
               obtain⟨⟨O,b⟩,hO⟩:∃s,cz (gJ x) x d.ins=s:=⟨_,rfl⟩
               have hL:lI (gJ x) x d.ins=if b=true then O else O++ [x]:=by unfold lI; rw[hO]
               rw[hL]at hq
               rw[hO]at hlen ⊢
               dsimp only at hlen ⊢
               cases b with
               |false=>
                rw[if_neg (by simp)]at hq
                subst hq
                refine sh ?_
                refine rM [0] ?_
                all_goals repeat' (first|exact True.intro|refine And.intro ?_ ?_|(intro _u; clear _u)|(with_reducible first|exact ai.fg|refine eM ?_ ?_|refine eF ?_ ?_ ?_|refine eN ?_|refine eL ?_ ?_ ?_|refine eA ?_ ?_|refine aj.mk ⟨_,hp,rfl⟩ ?_ ?_)|refine aj.mk ⟨_,hp,rfl⟩ ?_ ?_)
                all_goals try first|with_reducible rfl|omega|exact .inl (by decide)|(simp; done)|rfl
                all_goals (simp[b8,In.row]; done)
               |true=>
                rw[if_pos rfl]at hq
                subst hq
                refine sh ?_
                exact rM [0]
      ·rw[ha1,sw,hc1]
       refine sh ?_
       refine aq (by simp) ?_
       refine sh ?_
       refine aq (by simp) ?_
       refine sh ?_
       refine ah (by simp) ?_
       refine sh ?_
       refine cS (fun k3=> ?_) (fun k3=> ?_)
       ·have xU:bZ d.rows x=11:=by unfold bZ; rw[pF,Kh,vU]; dsimp only; rw[if_neg k3]
        rw[if_pos (by rw[xU]; simp),xU]at hq
        subst hq
        refine sh ?_
        exact rM [0]
       ·have et:bZ d.rows x=if a.f.kind≠1∨b.f.kind≠3 then 12 else 0:=by unfold bZ; rw[pF,Kh]; dsimp only; rw[if_pos k3]
        refine sh ?_
        refine ab ha2 ?_
        refine sh ?_
        refine cS (fun k1=> ?_) (fun k1=> ?_)
        ·rw[if_pos (by rw[et,if_pos (.inl k1)]; simp),et,if_pos (.inl k1)]at hq
         subst hq
         refine sh ?_
         exact rM [0]
        ·refine sh ?_
         refine ab OI ?_
         refine sh ?_
         refine cS (fun k2=> ?_) (fun k2=> ?_)
         ·rw[if_pos (by rw[et,if_pos (.inr k2)]; simp),et,if_pos (.inr k2)]at hq
          subst hq
          refine sh ?_
          exact rM [0]
         ·refine sh ?_
          refine aq (by simpa using k3) ?_
          have xU:bZ d.rows x=0:=by rw[et,if_neg (by omega)]
          rw[if_neg (by rw[xU]; simp)]at hq
          have hvs:=(ok a (kY pF).1).AE (by omega)
          refine sh ?_
          refine cM false [0] (qf h.xe d x hil) ?_
          repeat (intro _; first|refine eK ?_|refine eP ?_)
          rcases mE x d.ins with⟨f1,f2⟩|⟨f1,f2⟩
          ·rw[if_pos f2]at hq
           refine sh ?_
           refine ah (by simp; omega) ?_
           subst hq
           refine sh ?_
           exact rM [0]
          ·rw[if_neg (by rw[f2]; simp),pF]at hq
           rw[f1]
           refine sh ?_
           refine aq (by simp) ?_
           dsimp only at hq
           refine sh ?_
           refine ab ha2 ?_
           refine sh ?_
           refine gk 100 (fun k:Nat=>k≤a.a.m.v.length∧∀ (j:Nat) (u:T3),j<k→a.a.m.v[j]? =some u→(dK x.t u).2=0) (fun k=>⟨[(0,.loc 0 1 0 0),(3,.loc 1 1 0 0),(8,.aH 3 (bD a.a.m.v)),(9,.int .i64 k)],[(0,.var (R.ty 56) [.aH 40 (gD d.rows),.aH 16 (b8 d.ins)]),(1,.var (R.ty 44) x.row)],2⟩) (fun k=>a.a.m.v.length - k) (0) ?_ ?_
           ·exact⟨Nat.zero_le _,fun j u hj=>absurd hj (Nat.not_lt_zero j)⟩
           ·intro k hk
            dsimp only
            have hlen:=hvs.1
            refine sh ?_
            refine cS (fun h4=> ?_) (fun h4=> ?_)
            ·obtain⟨v,hv⟩:∃u_,a.a.m.v[k]? =some u_:=⟨_,List.getElem?_eq_getElem (by first|omega|(simp<;>omega))⟩
             refine sh ?_
             refine ab hv ?_
             refine sh ?_
             refine ae.pure h.n242.HD.hb (oE h.n242 hx (vF (hvs.2 v (List.mem_of_getElem? hv)))) rfl ?_
             refine sh ?_
             refine cS (fun h5=> ?_) (fun h5=> ?_)
             ·rw[if_pos (by rw[iX hv hk.2 h5]; exact h5),iX hv hk.2 h5]at hq
              subst hq
              refine sh ?_
              exact rM [0]
             ·refine sh ?_
              refine kq (k+1) ?_ ?_
              ·refine⟨by omega,fun j u hj hu=> ?_⟩
               by_cases e:j=k
               ·subst e
                rw[hv]at hu
                cases hu
                exact h5
               ·exact hk.2 j u (by omega) hu
              ·omega
            ·rw[ly (fun j u hj=>hk.2 j u (by omega)),if_neg (by simp)]at hq
             refine sh ?_
             refine gk 100 (fun i:Nat=>i≤d.ins.length) (fun i=>⟨[(0,.loc 0 1 0 0),(3,.loc 1 1 0 0),(12,.ba 2 (cz (gJ x) x (d.ins.take i)).1.length),(13,.bool (cz (gJ x) x (d.ins.take i)).2),(14,.int .i64 i)],[(0,.var (R.ty 56) [.aH 40 (gD d.rows),.aH 16 (b8 d.ins)]),(1,.var (R.ty 44) x.row),(2,.arr (R.ty 44) 16 (b8 (cz (gJ x) x (d.ins.take i)).1))],3⟩) (fun i=>d.ins.length - i) (0) ?_ ?_
             ·exact Nat.zero_le _
             ·intro i hi
              dsimp only
              have hlen:=nO (p:=gJ x) (x:=x) (d.ins.take i)
              rw[List.length_take]at hlen
              refine sh ?_
              refine cS (fun h6=> ?_) (fun h6=> ?_)
              ·obtain⟨r,hr⟩:∃u_,d.ins[i]? =some u_:=⟨_,List.getElem?_eq_getElem (by omega)⟩
               have e1:cz (gJ x) x (d.ins.take (i+1))=iE (gJ x) x (cz (gJ x) x (d.ins.take i)) r:=by rw[az hr,lB]
               obtain⟨⟨O,b⟩,hO⟩:∃s,cz (gJ x) x (d.ins.take i)=s:=⟨_,rfl⟩
               rw[hO]at e1 hlen ⊢
               dsimp only at hlen ⊢
               cases b with
               |false=>
                refine sh ?_
                refine ab hr ?_
                refine sh ?_
                refine ae.pure h.nz.BV.hb (nP h.nz x r) rfl ?_
                by_cases h7:j5 x r<0
                ·refine sh ?_
                 refine ah (by simpa using h7) ?_
                 have e2:cz (gJ x) x (d.ins.take (i+1))=(O++ [x]++ [r],true):=by rw[e1]; unfold iE; rw[if_pos ⟨rfl,by simp[gJ]; omega⟩]
                 refine sh ?_
                 refine ab hr ?_
                 refine sh ?_
                 refine nX (i+1) ?_ ?_ ⟨_,hp,rfl⟩ ?_ ?_
                 ·omega
                 ·omega
                 ·all_goals repeat' (first|exact True.intro|refine And.intro ?_ ?_|(intro _u; clear _u)|(with_reducible first|exact ai.fg|refine eM ?_ ?_|refine eF ?_ ?_ ?_|refine eN ?_|refine eL ?_ ?_ ?_|refine eA ?_ ?_|refine aj.mk ⟨_,hp,rfl⟩ ?_ ?_)|refine aj.mk ⟨_,hp,rfl⟩ ?_ ?_)
                  all_goals try first|with_reducible rfl|omega|exact .inl (by decide)|(simp; done)|rfl
                  all_goals first|(rw[e2]; done)|(rw[e2]; simp; done)
                 ·all_goals repeat' (first|exact True.intro|refine And.intro ?_ ?_|(intro _u; clear _u)|(with_reducible first|exact ai.fg|refine eM ?_ ?_|refine eF ?_ ?_ ?_|refine eN ?_|refine eL ?_ ?_ ?_|refine eA ?_ ?_|refine aj.mk ⟨_,hp,rfl⟩ ?_ ?_)|refine aj.mk ⟨_,hp,rfl⟩ ?_ ?_)
                  all_goals try first|with_reducible rfl|omega|exact .inl (by decide)|(simp; done)|rfl
                  all_goals first|(right; simp[b8,In.row]; done)|(rw[e2]; simp[b8,In.row]; done)
                ·refine sh ?_
                 refine aq (by simpa using h7) ?_
                 have e2:cz (gJ x) x (d.ins.take (i+1))=(O++ [r],false):=by rw[e1]; unfold iE; rw[if_neg (by simp[gJ]; omega)]
                 refine sh ?_
                 refine ab hr ?_
                 refine sh ?_
                 refine nX (i+1) ?_ ?_ ⟨_,hp,rfl⟩ ?_ ?_
                 ·omega
                 ·omega
                 ·all_goals repeat' (first|exact True.intro|refine And.intro ?_ ?_|(intro _u; clear _u)|(with_reducible first|exact ai.fg|refine eM ?_ ?_|refine eF ?_ ?_ ?_|refine eN ?_|refine eL ?_ ?_ ?_|refine eA ?_ ?_|refine aj.mk ⟨_,hp,rfl⟩ ?_ ?_)|refine aj.mk ⟨_,hp,rfl⟩ ?_ ?_)
                  all_goals try first|with_reducible rfl|omega|exact .inl (by decide)|(simp; done)|rfl
                  all_goals first|(rw[e2]; done)|(rw[e2]; simp; done)
                 ·all_goals repeat' (first|exact True.intro|refine And.intro ?_ ?_|(intro _u; clear _u)|(with_reducible first|exact ai.fg|refine eM ?_ ?_|refine eF ?_ ?_ ?_|refine eN ?_|refine eL ?_ ?_ ?_|refine eA ?_ ?_|refine aj.mk ⟨_,hp,rfl⟩ ?_ ?_)|refine aj.mk ⟨_,hp,rfl⟩ ?_ ?_)
                  all_goals try first|with_reducible rfl|omega|exact .inl (by decide)|(simp; done)|rfl
                  all_goals first|(right; simp[b8,In.row]; done)|(rw[e2]; simp[b8,In.row]; done)
               |true=>
                have e2:cz (gJ x) x (d.ins.take (i+1))=(O++ [r],true):=by rw[e1]; unfold iE; rw[if_neg (by simp)]
                refine sh ?_
                refine ab hr ?_
                refine sh ?_
                refine nX (i+1) ?_ ?_ ⟨_,hp,rfl⟩ ?_ ?_
                ·omega
                ·omega
                ·all_goals repeat' (first|exact True.intro|refine And.intro ?_ ?_|(intro _u; clear _u)|(with_reducible first|exact ai.fg|refine eM ?_ ?_|refine eF ?_ ?_ ?_|refine eN ?_|refine eL ?_ ?_ ?_|refine eA ?_ ?_|refine aj.mk ⟨_,hp,rfl⟩ ?_ ?_)|refine aj.mk ⟨_,hp,rfl⟩ ?_ ?_)
                 all_goals try first|with_reducible rfl|omega|exact .inl (by decide)|(simp; done)|rfl
                 all_goals first|(rw[e2]; done)|(rw[e2]; simp; done)
                ·all_goals repeat' (first|exact True.intro|refine And.intro ?_ ?_|(intro _u; clear _u)|(with_reducible first|exact ai.fg|refine eM ?_ ?_|refine eF ?_ ?_ ?_|refine eN ?_|refine eL ?_ ?_ ?_|refine eA ?_ ?_|refine aj.mk ⟨_,hp,rfl⟩ ?_ ?_)|refine aj.mk ⟨_,hp,rfl⟩ ?_ ?_)
                 all_goals try first|with_reducible rfl|omega|exact .inl (by decide)|(simp; done)|rfl
                 all_goals first|(right; simp[b8,In.row]; done)|(rw[e2]; simp[b8,In.row]; done)
              ·rw[List.take_of_length_le (by omega)]at hlen ⊢
               obtain⟨⟨O,b⟩,hO⟩:∃s,cz (gJ x) x d.ins=s:=⟨_,rfl⟩
               have hL:lI (gJ x) x d.ins=if b=true then O else O++ [x]:=by unfold lI; rw[hO]
               rw[hL]at hq
               rw[hO]at hlen ⊢
               dsimp only at hlen ⊢
               cases b with
               |false=>
                rw[if_neg (by simp)]at hq
                subst hq
                refine sh ?_
                refine rM [0] ?_
                all_goals repeat' (first|exact True.intro|refine And.intro ?_ ?_|(intro _u; clear _u)|(with_reducible first|exact ai.fg|refine eM ?_ ?_|refine eF ?_ ?_ ?_|refine eN ?_|refine eL ?_ ?_ ?_|refine eA ?_ ?_|refine aj.mk ⟨_,hp,rfl⟩ ?_ ?_)|refine aj.mk ⟨_,hp,rfl⟩ ?_ ?_)
                all_goals try first|with_reducible rfl|omega|exact .inl (by decide)|(simp; done)|rfl
                all_goals (simp[b8,In.row]; done)
               |true=>
                rw[if_pos rfl]at hq
                subst hq
                refine sh ?_
                exact rM [0]
     ·rw[ha1,sw]
      have xU:bZ d.rows x=11:=by unfold bZ; rw[pF,Kh]
      rw[if_pos (by rw[xU]; simp),xU]at hq
      refine sh ?_
      refine aq (by simp) ?_
      refine sh ?_
      refine ah (by simp) ?_
      subst hq
      refine sh ?_
      exact rM [0]
    ·rw[ha1]
     have xU:bZ d.rows x=11:=by unfold bZ; rw[pF]
     rw[if_pos (by rw[xU]; simp),xU]at hq
     refine sh ?_
     refine ah (by simp) ?_
     subst hq
     refine sh ?_
     exact rM [0]
end Go.UM
namespace Go.UM
open Go.AM Go.RowKit Go.Proofs
def FI (P:Program) (f:Nat):Prop:=∀ (b:Nat) (es:Array MapEntry) (ck:Nat) (w:World),w.heap[b]? =some (.map es ck)→Calls P f #[.map (some b)] w fun e w'=>e= .returned (.map (some w.heap.size))∧w'=w.alloc (.map es ck)
theorem xV {R:Env} {g:Nat} (hb:b6 R.P (R.ft g)) (CL:FI R.P (R.ft g)) (k:Nat) (ka va d:Bool) (sz:Nat) (es:List (List AV)):
  R.Mc g [.omap 0] [(0,.map k ka va d sz es)] (.omap 1) [(0,.map k ka va d sz es),(1,.map k ka va d sz es)] 2:=by
 refine⟨hb,fun w I ρ vs hW hr=> ?_,rfl⟩
 have W:=hW 0
 obtain⟨hvl,hr⟩:=hr
 obtain⟨v0,rfl⟩:∃v0,vs=[v0]:=by
  match vs,hvl with
  |[a],_=>exact⟨a,rfl⟩
 have r0:=hr 0 (by simp)
 have r0:aL ρ _ I w (· <1) (.omap 0) v0:=r0
 have Tj:aa (ax [(0,bx.map k ka va d sz es)]) 0=some ⟨0,sz,es,some (k,ka,va,d)⟩:=rfl
 obtain⟨gm,cm,hρ,rfl⟩:∃gm cm,ρ 0=some (gm,cm)∧v0= .map (some gm):=by
  cases r0 with
  |omap _ _ _ _ h=>exact h sz (by rw[aA]; exact⟨_,Tj,rfl,rfl⟩)
 have B:=W.aP 0 _ Tj
 obtain⟨cs,fr,oK,l8,hI,Np,hlen,hcap,hcs,hcell⟩:=B.real gm cm hρ
 obtain⟨en,ck,hg,hs,MC⟩:=oK
 refine (CL gm en ck w hg).mono ?_
 rintro e w' ⟨rfl,rfl⟩
 refine⟨_,rfl,?_⟩
 obtain⟨E1,W1⟩:=W.put (w':=w.alloc (.map en ck)) 1 ⟨0,sz,es,some (k,ka,va,d)⟩ w.heap.size cm cs fr rfl rfl rfl (by simp) (fun k hk _=>Below.heap_alloc w _ k hk)
  ⟨en,ck,heap_alloc_new w _,hs,MC⟩ l8 (.inl (Nat.le_refl _)) (fun b0 h0=>by have h0:(Option.none:Option aW)=some b0:=h0; cases h0) (fun h=>absurd h (Nat.lt_irrefl 1)) B.even hlen hcap hcs hcell
 have e1:cu (aa (ax [(0,bx.map k ka va d sz es)])) 1 ⟨0,sz,es,some (k,ka,va,d)⟩=aa (ax [(0,bx.map k ka va d sz es),(1,bx.map k ka va d sz es)]):=by
  funext m
  by_cases hm:m=1
  ·subst hm; rfl
  ·have:(m==1)=false:=by simpa using hm
   simp[cu,hm,ax,aa,this]
 rw[e1]at W1
 refine⟨_,I,0,W1.lP (fun m hm=>by rcases hm with rfl|hm; exact Nat.lt_succ_self 1; exact Nat.lt_succ_of_lt hm),?_⟩
 exact pj (cap:=cm) (Nat.lt_succ_self 1) (by simp[gE])
end Go.UM
namespace Go.UM
open Go.AM
set_option maxRecDepth 4000
def jf:As:=⟨3,⟨[],[],[]⟩,⟨0,[]⟩,⟨0,z3,0⟩,⟨0,z3,z3,z3,z3⟩⟩
def Ir:Mf:=⟨0,3,0,0,0,0,0,0,0,0,0,0,0,0,0⟩
theorem xW {R:Env} (h:HN R):R.Pc 431 [] (.agg jf.row):=
 h.BY.enter 60 rfl fun X bb hfit hp=>by
  refine sh ?_
  exact rT
theorem Is:df jf=0:=by decide
def t5:Tb:=⟨[⟨5,Ir,jf⟩],[]⟩
theorem w1:ko ⟨[],[]⟩ 5 Ir jf=(t5,0):=by unfold ko; rw[Is]; rfl
theorem w2:ko t5 5 Ir jf=(t5,10):=rfl
theorem w3:gI t5 5=(⟨[],[]⟩,0):=rfl
theorem Jr:j7 t5 1:=by
 have:=sb xM (hd:=5) (f:=Ir) (a:=jf) (by simp[jf])
 rwa[w1]at this
theorem CB {R:Env} (h:Mj R) (K:xN R):R.Pz true 423 [] (.bool true):=
 h.Sy.D8 100 rfl fun X bb hfit hp hz=>by
  have fx:jf.x.t.length≤1000:=by simp[jf]
  have fb:jf.bare.vR:=by refine⟨?_,?_,?_,?_⟩<;>simp[jf,As.bare]
  have c1:=sa h.n346 true true ⟨[],[]⟩ 5 Ir jf fx fb (by simp)
  have c2:=sa h.n346 true true t5 5 Ir jf fx fb (by simp[t5])
  have c3:=oJ h.sW true true t5 Jr.nd 5
  have c4:=sa h.n346 false false ⟨[],[]⟩ 5 Ir jf fx fb (by simp)
  have c5:=vM h.xf K false false t5 Jr (by omega)
  rw[w1]at c1 c4
  rw[w2]at c2
  rw[w3]at c3
  refine sh ?_
  refine cM false [] (Fl h.n345) ?_
  repeat (intro _; first|refine eK ?_|refine eP ?_)
  refine sh ?_
  refine ae.pure h.nA.BY.hb (xW h.nA) rfl ?_
  refine sh ?_
  refine cW false [0,1,2] (c1) ?_
  repeat (intro _; first|refine eK ?_|refine eP ?_)
  refine sh ?_
  refine ah (by rfl) ?_
  refine sh ?_
  refine ae.pure h.nA.BY.hb (xW h.nA) rfl ?_
  refine sh ?_
  refine cW false [0,1,2] (c2) ?_
  repeat (intro _; first|refine eK ?_|refine eP ?_)
  refine sh ?_
  refine ah (by rfl) ?_
  refine sh ?_
  refine cW false [0,1,2] (c3) ?_
  repeat (intro _; first|refine eK ?_|refine eP ?_)
  refine sh ?_
  refine ah (by rfl) ?_
  refine sh ?_
  refine ae.pure h.nA.BY.hb (xW h.nA) rfl ?_
  refine sh ?_
  refine cW false [0,1,2] (c4) ?_
  repeat (intro _; first|refine eK ?_|refine eP ?_)
  refine sh ?_
  refine ah (by rfl) ?_
  refine sh ?_
  refine cW false [0,1,2] (c5) ?_
  repeat (intro _; first|refine eK ?_|refine eP ?_)
  refine sh ?_
  refine rT ?_
  all_goals repeat' (first|exact True.intro|refine And.intro ?_ ?_|(intro _u; clear _u)|(with_reducible first|exact ai.fg|refine eM ?_ ?_|refine eF ?_ ?_ ?_|refine eN ?_|refine eL ?_ ?_ ?_|refine eA ?_ ?_|refine aj.mk ⟨_,hp,rfl⟩ ?_ ?_)|refine aj.mk ⟨_,hp,rfl⟩ ?_ ?_)
  all_goals try first|with_reducible rfl|omega|exact .inl (by decide)|(simp; done)|rfl
  rw[dr]; rfl
def xX (l:List Ac):List (List AV):=l.map Ac.row
@[simp] theorem xY (l:List Ac):(xX l).length=l.length:=by simp[xX]
@[simp] theorem Tl (l:List Ac):mF (xX l):=by simp[xX,Ac.row]
instance {l:List Ac}:ki (xX l) l.length:=⟨xY l⟩
theorem gK (l:List In):(cZ l).length=l.length:=by simp[cZ]
theorem Js (c:Ac):c.ku.a.x.t.length≤1000:=by simp[Ac.ku,As.ku]; omega
theorem Tm (c:Ac):c.ku.a.bare.vR:=by
 have h1:c.ku.a.m.v.length≤70:=by simp[Ac.ku,As.ku,Ms.ku]; omega
 have h2:c.ku.a.m.uv.length≤70:=by simp[Ac.ku,As.ku,Ms.ku]; omega
 have h3:c.ku.a.m.t.length≤70:=by simp[Ac.ku,As.ku,Ms.ku]; omega
 have h4:c.ku.a.x.t.length≤260:=by simp[Ac.ku,As.ku]; omega
 generalize c.ku.a=a at h1 h2 h3 h4
 unfold As.bare
 refine⟨?_,?_,?_,?_⟩<;>repeat' split
 all_goals first|omega|(dsimp only; omega)|simp[s4,Uw]
end Go.UM
namespace Go.UM
open Go.AM
set_option maxRecDepth 4000
def s5 (t:Tb):Tb:=⟨ca t.rows,cZ t.ins⟩
def NI (t:Tb) (c:Ac):Tb × Int:=if c.k=0 then uw t c.h c.f c.a else if c.k=1 then lC t c.h else if c.k=2 then CA t c.i else uy t c.i
theorem Iu {R:Env} (h:Mk R) (d:Tb) (c:Ac) (ok:∀r ∈ d.rows,xF r) (fa:c.a.vR) (hx:c.i.t.I) (hl:d.rows.length≤1000000) (hi:d.ins.length≤1000000):
  R.Mc 432 [.loc 0 1 0 0,.agg c.row] (je R d) (.int .i64 (NI d c).2) (je R (NI d c).1) 1:=
 h.WH.aV 100 1 rfl rfl rfl fun X bb hfit hp=>by
  generalize hq:NI d c=q
  unfold NI at hq
  unfold je
  refine sh ?_
  refine cS (fun k0=> ?_) (fun k0=> ?_)
  ·rw[if_pos k0]at hq
   subst hq
   refine sh ?_
   refine cM false [0] (Ip h.Mn d c.h c.f c.a fa hl) ?_
   repeat (intro _; first|refine eK ?_|refine eP ?_)
   refine sh ?_
   exact rM [0]
  ·rw[if_neg k0]at hq
   refine sh ?_
   refine cS (fun k1=> ?_) (fun k1=> ?_)
   ·rw[if_pos k1]at hq
    subst hq
    refine sh ?_
    refine cM false [0] (Cz h.Mo d c.h hl hi) ?_
    repeat (intro _; first|refine eK ?_|refine eP ?_)
    refine sh ?_
    exact rM [0]
   ·rw[if_neg k1]at hq
    refine sh ?_
    refine cS (fun k2=> ?_) (fun k2=> ?_)
    ·rw[if_pos k2]at hq
     subst hq
     refine sh ?_
     refine cM false [0] (Ng h.Mp d c.i ok hx hl hi) ?_
     repeat (intro _; first|refine eK ?_|refine eP ?_)
     refine sh ?_
     exact rM [0]
    ·rw[if_neg k2]at hq
     subst hq
     refine sh ?_
     refine cM false [0] (Iq h.Mq d c.i hi) ?_
     repeat (intro _; first|refine eK ?_|refine eP ?_)
     refine sh ?_
     exact rM [0]
theorem vQ {l:List Rw} {h:Int} (e:(bE l h).isSome≠true):∀r ∈ l,r.h≠h:=fun r hr k=>by
 apply e
 unfold bE
 rw[List.find?_isSome]
 exact⟨r,hr,by simpa using k⟩
theorem xZ {l:List Rw} (rd:l.Pairwise fun a b=>a.h≠b.h) (x:In):bZ (ca l) x=bZ l x:=by
 unfold bZ
 rw[eU rd,eU rd,eU rd]
theorem Nh {t:Tb} {n:Nat} (ok:j7 t n) (c:Ac):NI (s5 t) c=(s5 (Cs t c).1,(Cs t c).2):=by
 unfold NI Cs
 split
 ·unfold uw ko s5
  dsimp only
  rw[eU ok.rd]
  split
  ·rfl
  ·split
   ·rfl
   ·rename_i k
    split
    ·rfl
    ·split
     ·rfl
     ·dsimp only
      rw[Cw (by
       rw[List.pairwise_append]
       exact⟨ok.rd,by simp,fun r hr q hq=>by simp only[List.mem_singleton]at hq; subst hq; exact vQ k r hr⟩)]
 ·split
  ·unfold lC gI s5
   dsimp only
   rw[eU ok.rd]
   split
   ·dsimp only
    rw[xR ok.rd,vO ok.nd]; rfl
   ·rfl
  ·split
   ·unfold CA xD s5
    dsimp only
    rw[xZ ok.rd,eU ok.rd,si ok.nd]
    split
    ·rfl
    ·split
     ·rfl
     ·split
      ·rfl
      ·rename_i k
       cases bE t.rows c.i.bK with
       |none=>rfl
       |some r=>
        dsimp only
        split
        ·rfl
        ·dsimp only
         rw[Cx (by
          rw[List.pairwise_append]
          refine⟨ok.nd,by simp,fun y hy q hq=> ?_⟩
          simp only[List.mem_singleton]at hq
          subst hq
          rw[mC]
          cases hs:aU c.i y with
          |false=>rfl
          |true=>
           exfalso
           apply k
           unfold eY
           rw[List.find?_isSome]
           exact⟨y,hy,hs⟩)]
   ·unfold uy pB s5
    dsimp only
    rw[si ok.nd]
    split
    ·dsimp only
     rw[xS ok.nd]
    ·rfl
structure WW (R:Env):Prop where
 r:∀ (d:Bool) (es:List (List AV)),R.Mc 439 [.omap 0] [(0,.map 1 false true d 41 es)] (.omap 1) [(0,.map 1 false true d 41 es),(1,.map 1 false true d 41 es)] 2
 i:∀ (d:Bool) (es:List (List AV)),R.Mc 440 [.omap 0] [(0,.map 4 true true d 16 es)] (.omap 1) [(0,.map 4 true true d 16 es),(1,.map 4 true true d 16 es)] 2
theorem FJ {R:Env} (h:Hx R) (C:WW R) (d1 d2:Bool) (t:Tb):
  R.Mc 430 [.loc 2 1 0 0] (eC R d1 d2 t) (.loc 5 1 0 0) (eC R d1 d2 t++ [(3,.map 1 false true d1 41 (iD t.rows)),(4,.map 4 true true d2 16 (b8 t.ins)),(5,.var (R.ty 47) [.omap 3,.omap 4])]) 6:=
 h.Ro.aV 100 3 rfl rfl rfl fun X bb hfit hp=>by
  unfold eC
  refine sh ?_
  refine cM false [0,1,2] (j4 h.eV d1 d2 t) ?_
  repeat (intro _; first|refine eK ?_|refine eP ?_)
  refine sh ?_
  refine cM false [0] (C.r d1 (iD t.rows)) ?_
  repeat (intro _; first|refine eK ?_|refine eP ?_)
  refine sh ?_
  refine cM false [1] (C.i d2 (b8 t.ins)) ?_
  repeat (intro _; first|refine eK ?_|refine eP ?_)
  refine sh ?_
  exact rM [0,1,2,3,4,5]
abbrev ky (R:Env):af:=[(0,.var (R.ty 47) [.cb,.cb])]
theorem nQ {R:Env} (h:rJ R):R.Mc 355 [.loc 0 1 0 0] (ky R) (.bool true) (ky R) 1:=
 h.Ex.aV 60 1 rfl rfl rfl fun X bb hfit hp=>by
  unfold ky
  refine sh ?_
  exact rM [0]
theorem AP {R:Env} (h:rJ R):R.Pc 355 [.bG] (.bool true):=
 h.Ex.enter 60 rfl fun X bb hfit hp=>by
  refine sh ?_
  exact rT
theorem Iv {R:Env} (h:BS R) (hd:Int) (f:Mf) (a:As):R.Mc 346 [.loc 0 1 0 0,.int .i64 hd,.agg f.row,.agg a.row] (ky R) (.int .i64 1) (ky R) 1:=
 h.Q1.aV 60 1 rfl rfl rfl fun X bb hfit hp=>by
  unfold ky
  refine sh ?_
  refine cM false [0] (nQ h.eV) ?_
  repeat (intro _; first|refine eK ?_|refine eP ?_)
  refine sh ?_
  exact rM [0]
theorem CC {R:Env} (h:BT R) (hd:Int):R.Mc 428 [.loc 0 1 0 0,.int .i64 hd] (ky R) (.int .i64 1) (ky R) 1:=
 h.Rk.aV 60 1 rfl rfl rfl fun X bb hfit hp=>by
  unfold ky
  refine sh ?_
  refine cM false [0] (nQ h.eV) ?_
  repeat (intro _; first|refine eK ?_|refine eP ?_)
  refine sh ?_
  exact rM [0]
theorem Ni {R:Env} (h:Ez R) (x:In):R.Mc 347 [.loc 0 1 0 0,.agg x.row] (ky R) (.int .i64 1) (ky R) 1:=
 h.Q5.aV 60 1 rfl rfl rfl fun X bb hfit hp=>by
  unfold ky
  refine sh ?_
  refine cM false [0] (nQ h.eV) ?_
  repeat (intro _; first|refine eK ?_|refine eP ?_)
  refine sh ?_
  exact rM [0]
theorem Iw {R:Env} (h:EB R) (x:In):R.Mc 427 [.loc 0 1 0 0,.agg x.row] (ky R) (.int .i64 1) (ky R) 1:=
 h.Rf.aV 60 1 rfl rfl rfl fun X bb hfit hp=>by
  unfold ky
  refine sh ?_
  refine cM false [0] (nQ h.eV) ?_
  repeat (intro _; first|refine eK ?_|refine eP ?_)
  refine sh ?_
  exact rM [0]
theorem FK {R:Env} (h:Hu R):R.Mc 419 [.loc 0 1 0 0] (ky R) .ap (ky R) 1:=
 h.Rc.aV 60 1 rfl rfl rfl fun X bb hfit hp=>by
  unfold ky
  refine sh ?_
  refine cM false [0] (nQ h.eV) ?_
  repeat (intro _; first|refine eK ?_|refine eP ?_)
  refine sh ?_
  exact rM [0]
theorem Ix {R:Env} (h:Hx R):R.Mc 430 [.bG] [] .bG [] 0:=
 h.Ro.aV 60 0 rfl rfl rfl fun X bb hfit hp=>by
  refine sh ?_
  refine ae.pure h.eV.Ex.hb (AP h.eV) rfl ?_
  refine sh ?_
  exact rM []
theorem Iy {R:Env} (h:EA R):R.Mc 418 [.bG] [] .ap [] 0:=
 h.Q7.aV 60 0 rfl rfl rfl fun X bb hfit hp=>by
  refine sh ?_
  refine ae.pure h.eV.Ex.hb (AP h.eV) rfl ?_
  refine sh ?_
  exact rM []
end Go.UM
namespace Go.UM
open Go.AM
set_option maxRecDepth 4000
def mf0:Mf:=⟨0,0,0,0,0,0,0,0,0,0,0,0,0,0,0⟩
def in0:In:=⟨0,0,0,0,⟨0,0,0,0,0,0,0,0,0,⟨0,0,0⟩⟩⟩
theorem fbm:jf.bare.vR:=by refine⟨?_,?_,?_,?_⟩<;>simp[jf,As.bare]
theorem Tn (c:Ac):c.ku.a.vR:=by
 refine⟨?_,?_,?_,?_⟩<;>simp[Ac.ku,As.ku,Ms.ku]<;>omega
set_option maxHeartbeats 8000000 in
theorem CD {R:Env} (h:SB R) (K:xN R) (C:WW R) (gR:List In→List In) (S:Fw R gR) (hs:M6 gR) (l:List Ac) (hx:∀c ∈ l,c.i.t.I):R.Pz true 429 [.aH 57 (xX l)] (.bool true):=
 h.WI.D8 200 rfl fun X bb hfit hp hz=>by
  refine sh ?_
  refine cM false [] (Fl h.n345) ?_
  repeat (intro _; first|refine eK ?_|refine eP ?_)
  refine sh ?_
  refine au.inv 200 (fun s:Nat × Tb=>s.1≤30∧j7 s.2 s.1) (fun s=>⟨[(0,.aH 57 (xX l)),(3,.loc 2 1 0 0),(4,.loc 3 1 0 0),(5,.int .i64 s.1)],[(0,.map 1 false true false 41 (iD s.2.rows)),(1,.map 4 true true false 16 (b8 s.2.ins)),(2,.var (R.ty 47) [.omap 0,.omap 1]),(3,.var (R.ty 56) [.aH 40 (gD (ca s.2.rows)),.aH 16 (b8 (cZ s.2.ins))])],4⟩) (fun s=>30 - s.1) ((0,⟨[],[]⟩)) ?_ ⟨⟨_,hp,rfl⟩,?_,?_⟩ ?_
  ·exact⟨Nat.zero_le _,xM⟩
  ·all_goals repeat' (first|exact True.intro|refine And.intro ?_ ?_|(intro _u; clear _u)|(with_reducible first|exact ai.fg|refine eM ?_ ?_|refine eF ?_ ?_ ?_|refine eN ?_|refine eL ?_ ?_ ?_|refine eA ?_ ?_|refine aj.mk ⟨_,hp,rfl⟩ ?_ ?_)|refine aj.mk ⟨_,hp,rfl⟩ ?_ ?_)
   all_goals try first|with_reducible rfl|omega|exact .inl (by decide)|(simp; done)|rfl
  ·all_goals repeat' (first|exact True.intro|refine And.intro ?_ ?_|(intro _u; clear _u)|(with_reducible first|exact ai.fg|refine eM ?_ ?_|refine eF ?_ ?_ ?_|refine eN ?_|refine eL ?_ ?_ ?_|refine eA ?_ ?_|refine aj.mk ⟨_,hp,rfl⟩ ?_ ?_)|refine aj.mk ⟨_,hp,rfl⟩ ?_ ?_)
   all_goals try first|with_reducible rfl|omega|exact .inl (by decide)|(simp; done)|rfl
   all_goals first|(show gD (ca [])=[]; simp[ca,gD]; done)|(show b8 (cZ [])=[]; simp[cZ,b8]; done)
  ·rintro⟨i,t⟩ ⟨hi,ok⟩
   dsimp only at hi ok ⊢
   refine sh ?_
   refine cS (fun h1=> ?_) (fun h1=> ?_)
   refine sh ?_
   refine cS (fun h2=> ?_) (fun h2=> ?_)
   ·obtain⟨c,hc⟩:∃u_,l[i]? =some u_:=⟨_,List.getElem?_eq_getElem (by first|omega|(simp<;>omega))⟩
    refine sh ?_
    refine ab hc ?_
    have hxc:=hx c (List.mem_of_getElem? hc)
    have CE:=M7 ok (c:=c.ku) (Js c)
    have cT:=Ti h.Mr false false t c.ku ok (by omega) (Js c) (Tm c) hxc
    have cR:=Iu h.Mu (s5 t) c.ku (fun r hr=>ok.row r (dc.1 hr)) (Tn c) hxc (by have:=ok.rl; simp[s5]; omega) (by have:=ok.il; simp[s5,gK]; omega)
    rw[Nh ok]at cR
    dsimp only[s5]at cR
    have r1:=vM h.xf K false false _ CE (by omega)
    have i1:=xL h.EF gR S hs false false _ CE.nd (by have:=CE.il; omega)
    refine sh ?_
    refine ae.pure h.HO.Su.hb (Im h.HO c) rfl ?_
    refine sh ?_
    refine cS (fun h4=> ?_) (fun h4=> ?_)
    ·refine sh ?_
     refine cM false [0,1,2] (FJ h.EG C false false t) ?_
     repeat (intro _; first|refine eK ?_|refine eP ?_)
     refine sh ?_
     refine ae.pure h.nA.BY.hb (xW h.nA) rfl ?_
     refine sh ?_
     refine cM false [5,6,7] (sa h.n346 false false t 1 Ir jf (by simp[jf]) fbm (by have:=ok.rl; omega)) ?_
     repeat (intro _; first|refine eK ?_|refine eP ?_)
     refine sh ?_
     refine cM false [5,6,7] (oJ h.sW false false (ko t 1 Ir jf).1 (sb ok (by simp[jf])).nd 2) ?_
     repeat (intro _; first|refine eK ?_|refine eP ?_)
     refine sh ?_
     refine cW false [0,1,2] (cT) ?_
     repeat (intro _; first|refine eK ?_|refine eP ?_)
     refine sh ?_
     refine cM false [3] (cR) ?_
     repeat (intro _; first|refine eK ?_|refine eP ?_)
     refine sh ?_
     refine aq (by simp) ?_
     refine sh ?_
     refine cW false [0,1,2] (r1) ?_
     repeat (intro _; first|refine eK ?_|refine eP ?_)
     refine sh ?_
     refine cM true [] ((vK h.xg _ (by rw[dr]; have:=CE.rl; omega) (fun r hr=>jC (CE.row r (dc.1 hr)).a (CE.row r (dc.1 hr)).x)).mc h.xg.HK.hb) ?_
     repeat (intro _; first|refine eK ?_|refine eP ?_)
     refine sh ?_
     refine cW false [0,1,2] (i1) ?_
     repeat (intro _; first|refine eK ?_|refine eP ?_)
     refine sh ?_
     refine cM true [] ((vJ h.n343 (cZ (Cs t c.ku).1.ins) (by rw[gK]; have:=CE.il; omega)).mc h.n343.HJ.hb) ?_
     repeat (intro _; first|refine eK ?_|refine eP ?_)
     refine sh ?_
     refine kq ((i+1,(Cs t c.ku).1)) ?_ ?_
     ·exact⟨by omega,CE⟩
     ·dsimp only; omega
    ·refine sh ?_
     refine cW false [0,1,2] (cT) ?_
     repeat (intro _; first|refine eK ?_|refine eP ?_)
     refine sh ?_
     refine cM false [3] (cR) ?_
     repeat (intro _; first|refine eK ?_|refine eP ?_)
     refine sh ?_
     refine aq (by simp) ?_
     refine sh ?_
     refine cW false [0,1,2] (r1) ?_
     repeat (intro _; first|refine eK ?_|refine eP ?_)
     refine sh ?_
     refine cM true [] ((vK h.xg _ (by rw[dr]; have:=CE.rl; omega) (fun r hr=>jC (CE.row r (dc.1 hr)).a (CE.row r (dc.1 hr)).x)).mc h.xg.HK.hb) ?_
     repeat (intro _; first|refine eK ?_|refine eP ?_)
     refine sh ?_
     refine cW false [0,1,2] (i1) ?_
     repeat (intro _; first|refine eK ?_|refine eP ?_)
     refine sh ?_
     refine cM true [] ((vJ h.n343 (cZ (Cs t c.ku).1.ins) (by rw[gK]; have:=CE.il; omega)).mc h.n343.HJ.hb) ?_
     repeat (intro _; first|refine eK ?_|refine eP ?_)
     refine sh ?_
     refine kq ((i+1,(Cs t c.ku).1)) ?_ ?_
     ·exact⟨by omega,CE⟩
     ·dsimp only; omega
   all_goals
    have r1:=vM h.xf K false false t ok (by omega)
    have i1:=xL h.EF gR S hs false false t ok.nd (by have:=ok.il; omega)
    refine sh ?_
    refine cM false [0,1,2] (FJ h.EG C false false t) ?_
    repeat (intro _; first|refine eK ?_|refine eP ?_)
    refine sh ?_
    refine cW false [4,5,6] (r1) ?_
    repeat (intro _; first|refine eK ?_|refine eP ?_)
    refine sh ?_
    refine cM true [] ((vK h.xg _ (by rw[dr]; have:=ok.rl; omega) (fun r hr=>jC (ok.row r (dc.1 hr)).a (ok.row r (dc.1 hr)).x)).mc h.xg.HK.hb) ?_
    repeat (intro _; first|refine eK ?_|refine eP ?_)
    refine sh ?_
    refine cW false [4,5,6] (i1) ?_
    repeat (intro _; first|refine eK ?_|refine eP ?_)
    refine sh ?_
    refine cM true [] ((vJ h.n343 (cZ t.ins) (by rw[gK]; have:=ok.il; omega)).mc h.n343.HJ.hb) ?_
    repeat (intro _; first|refine eK ?_|refine eP ?_)
    refine sh ?_
    refine ae.pure h.nA.BY.hb (xW h.nA) rfl ?_
    refine sh ?_
    refine cW false [7] (Iv h.n346 1 mf0 jf) ?_
    repeat (intro _; first|refine eK ?_|refine eP ?_)
    refine sh ?_
    refine ah (by rfl) ?_
    refine sh ?_
    refine cW false [7] (CC h.sW 1) ?_
    repeat (intro _; first|refine eK ?_|refine eP ?_)
    refine sh ?_
    refine ah (by rfl) ?_
    refine sh ?_
    refine cW false [7] (Ni h.BW in0) ?_
    repeat (intro _; first|refine eK ?_|refine eP ?_)
    refine sh ?_
    refine ah (by rfl) ?_
    refine sh ?_
    refine cW false [7] (Iw h.BX in0) ?_
    repeat (intro _; first|refine eK ?_|refine eP ?_)
    refine sh ?_
    refine ah (by rfl) ?_
    refine sh ?_
    refine cW false [] (Ix h.EG) ?_
    repeat (intro _; first|refine eK ?_|refine eP ?_)
    refine sh ?_
    refine cW false [] (Iy h.xf) ?_
    repeat (intro _; first|refine eK ?_|refine eP ?_)
    refine sh ?_
    refine ah (by rfl) ?_
    refine sh ?_
    refine cW false [7] (FK h.EF) ?_
    repeat (intro _; first|refine eK ?_|refine eP ?_)
    refine sh ?_
    refine ah (by rfl) ?_
    refine sh ?_
    refine ae.pure h.HP.Sy.hb (CB h.HP K) rfl ?_
    refine sh ?_
    exact rT
end Go.UM
namespace Go.UM
open Go.AM
end Go.UM
