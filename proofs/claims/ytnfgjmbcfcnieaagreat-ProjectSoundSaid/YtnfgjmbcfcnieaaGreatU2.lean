/- Of the reckoning machine, and what is proved with it: texts joined by program. -/
import Derived.Test.YtnfgjmbcfcnieaaGreatK3
import Derived.Shelf.SlSortCmp.InsertionK
import Derived.Test.YtnfgjmbcfcnieaaGreatU1
import Derived.Test.YtnfgjmbcfcnieaaGreatU0
import Derived.Maps.Own
import Derived.Lib.SlKeysI
import Derived.Shelf.SlSortCmp.NoneTotal
import Derived.Shelf.SlSortCmp.WholeK
set_option linter.all false
namespace Go.UM
open Go.AM Go.Shelf Go.RowKit Go.Lib Go.Sort Go.Proofs
section
variable {α:Type} [Inhabited α]
def qM (aQ:α→List Int) (x:α):List Value:=(aQ x).map (Value.int .i64)
def eH (aQ:α→List Int) (x:α):List AV:=(aQ x).map (AV.int .i64)
structure mE (P:Program) (f g k:Nat) (aQ:α→List Int) (cf:α→α→Int) (gv:List α→List α):Prop where
 nil:∀ (p:Option Addr) (cap:Nat) (fv:Value) (w:World),Calls P f #[.slice p 0 cap,fv] w fun e w'=>e= .returned (.tuple #[])∧w'=w
 row:∀ (aU cap:Nat) (l:List α) (w:World),CmpLays P g #[] (qM aQ) k cf aU 0 l.length w→HoldsK (qM aQ) k w aU 0 l.toArray→aU<w.heap.size→l.length<4611686018427387904→
  Calls P f #[.slice (some ⟨aU,0,none⟩) l.length cap,.func (.func g) #[] #[]] w fun e w'=>e= .returned (.tuple #[])∧∃n os,w'=sortWorldK (qM aQ) k w aU 0 n (gv l).toArray os
theorem Hz {ρ:AM.Place} {L:ba} {I:Nat→Prop} {w:World} {N:Nat→Prop} {n:Int} {v:Value} (h:aN ρ L I w N (.int .i64 n) v):v= .int .i64 n:=by cases h; rfl
omit [Inhabited α] in
theorem Cq {ρ:AM.Place} {L:ba} {I:Nat→Prop} {w:World} {N:Nat→Prop} (aQ:α→List Int) (x:α):aN ρ L I w N (.agg (eH aQ x)) (.agg (qM aQ x).toArray):=by
 refine .agg _ _ (by simp[eH,qM]) (fun u hu=> ?_) fun j hj=> ?_
 ·obtain⟨n,_,rfl⟩:=List.mem_map.1 hu; rfl
 ·have hj':j< (aQ x).length:=by simpa[eH]using hj
  simp only[eH,qM,List.getD_eq_getElem?_getD,List.getElem?_map,List.getElem?_eq_getElem hj',Option.map_some,Option.getD_some]
  exact .int _ _
theorem KZ {w w1:World} (h:Blw w w1):∃q os,w1=grow (w.drewN q) os:=by
 refine⟨w1.drawn - w.drawn,w1.heap.extract w.heap.size w1.heap.size,?_⟩
 obtain⟨heap,tape,drawn,os,output⟩:=w
 obtain⟨HA,ae3,Bn,os1,X2⟩:=w1
 obtain⟨⟨h1,h2,h3,h4,h5⟩,h6⟩:=h
 simp only at h1 h2 h3 h4 h5 h6
 subst h1; subst h2; subst h3
 have e1:HA=heap++HA.extract heap.size HA.size:=by
  apply Array.ext_getElem?
  intro i
  by_cases hi:i<heap.size
  ·rw[Array.getElem?_append_left hi]; exact h5 i hi
  ·rw[Array.getElem?_append_right (by omega),Array.getElem?_extract]
   have e:heap.size+ (i - heap.size)=i:=by omega
   rw[e]
   split
   ·rfl
   ·rw[Array.getElem?_eq_none (by omega)]
 have h6:drawn≤Bn:=h6
 have e2:Bn=drawn+ (Bn - drawn):=by omega
 simp only[grow,World.drewN]
 rw[←e1,←e2]
theorem HB {P:Program} {g k:Nat} {aQ:α→List Int} {cf:α→α→Int} (h:∀x y,Ak P g [.agg (eH aQ x),.agg (eH aQ y)] (.int .i64 (cf x y))) (aU size:Nat) (w:World):CmpLays P g #[] (qM aQ) k cf aU 0 size w:=by
 intro m os dk hdk x y
 refine (h x y cH (sortWorldK (qM aQ) k w aU 0 m dk os) [.agg (qM aQ x).toArray,.agg (qM aQ y).toArray] (fun _ h=>h.elim) ⟨rfl,fun j hj=> ?_⟩).mono ?_
 ·match j,hj with
  |0,_=>exact Cq aQ x
  |1,_=>exact Cq aQ y
 ·rintro e w' ⟨v,I1,rfl,hb,_,_,_,hr⟩
  rw[Hz hr]
  obtain⟨q,os',e⟩:=KZ hb
  exact⟨rfl,q,os',e⟩
omit [Inhabited α] in
theorem pf {aQ:α→List Int} {k:Nat} (hk:∀x,(aQ x).length=k) (x:α) {j:Nat} (hj:j<k):(qM aQ x)[j]! = .int .i64 ((aQ x)[j]'(by rw[hk]; exact hj))∧(eH aQ x).getD j .bad= .int .i64 ((aQ x)[j]'(by rw[hk]; exact hj)):=by
 have hj':j< (aQ x).length:=by rw[hk]; exact hj
 constructor
 ·rw[getElem!_pos _ j (by simpa[qM]using hj')]; simp[qM]
 ·simp[eH,List.getD_eq_getElem?_getD,hj']
theorem xH {aQ:α→List Int} {k:Nat} (l:List α) {i j:Nat} (hi:i<l.length) (hj:j<k):(flatK (qM aQ) k l.toArray)[i*k+j]! =(qM aQ l[i])[j]! :=by
 have hlt:i*k+j<l.length*k:=by
  have:(i+1)*k≤l.length*k:=Nat.mul_le_mul_right _ hi
  rw[Nat.add_mul,Nat.one_mul]at this; omega
 rw[get_flatK _ _ _ _ (by simpa using hlt)]
 have e1:(i*k+j) / k=i:=by rw[Nat.add_comm,Nat.add_mul_div_right _ _ (by omega),Nat.div_eq_of_lt hj,Nat.zero_add]
 have e2:(i*k+j) % k=j:=by rw[Nat.add_comm,Nat.add_mul_mod_self_right,Nat.mod_eq_of_lt hj]
 rw[e1,e2,getElem!_pos l.toArray i (by simpa using hi)]
 simp
omit [Inhabited α] in
theorem zo {aQ:α→List Int} (l:List α) {i:Nat} (hi:i<l.length):(l.map (eH aQ)).getD i []=eH aQ l[i]:=by
 simp[List.getD_eq_getElem?_getD,hi]
structure zp (P:Program) (f k:Nat) (aQ:α→List Int) (gv:List α→List α) (ea:List AV) (ev:List Value):Prop where
 ex:∀ (ρ:AM.Place) (L:ba) (I:Nat→Prop) (w:World) (N:Nat→Prop) (vs:List Value),dv ρ L I w N ea vs→vs=ev
 nil:∀ (p:Option Addr) (cap:Nat) (w:World),Calls P f (.slice p 0 cap::ev).toArray w fun e w'=>e= .returned (.tuple #[])∧w'=w
 row:∀ (aU cap:Nat) (l:List α) (w:World),HoldsK (qM aQ) k w aU 0 l.toArray→aU<w.heap.size→l.length<4611686018427387904→
  Calls P f (.slice (some ⟨aU,0,none⟩) l.length cap::ev).toArray w fun e w'=>e= .returned (.tuple #[])∧∃n os,w'=sortWorldK (qM aQ) k w aU 0 n (gv l).toArray os
theorem mE.e {P:Program} {f g k:Nat} {aQ:α→List Int} {cf:α→α→Int} {gv:List α→List α} (S:mE P f g k aQ cf gv) (hcmp:∀x y,Ak P g [.agg (eH aQ x),.agg (eH aQ y)] (.int .i64 (cf x y))):
  zp P f k aQ gv [.bR (.fn g) []] [.func (.func g) #[] #[]]:=by
 refine⟨fun ρ L I w N vs h=> ?_,fun p cap w=>S.nil p cap _ w,fun aU cap l w hH hb hl=>S.row aU cap l w (HB hcmp aU l.length w) hH hb hl⟩
 obtain⟨hl,hr⟩:=h
 match vs,hl with
 |[v],_=>
  have r1:aN ρ L I w N (.bR (.fn g) []) v:=hr 0 (by simp)
  cases r1 with
  |bR _ _ us hu _=>
   obtain rfl:=List.eq_nil_of_length_eq_zero hu
   rfl
theorem HC {R:Env} {f k ty:Nat} {aQ:α→List Int} {gv:List α→List α} {ea:List AV} {ex:List Value} (hb:cx R.P (R.ft f)) (S:zp R.P (R.ft f) k aQ gv ea ex) (hk:∀x,(aQ x).length=k) (QC:0<k)
  (hlen:∀l,(gv l).length=l.length) (l:List α) (hl:l.length<4611686018427387904):
  R.Mc f (.bc 0 l.length::ea) [(0,.arr ty k (l.map (eH aQ)))] (.aP []) [(0,.arr ty k ((gv l).map (eH aQ)))] 1:=by
 refine⟨hb,fun w I ρ vs hW hr=> ?_,rfl⟩
 have W:=hW 0
 obtain⟨hvl,hr⟩:=hr
 obtain⟨v0,r,rfl⟩:∃v0 r,vs=v0::r:=by
  match vs,hvl with
  |a::r,_=>exact⟨a,r,rfl⟩
 have r0:aN ρ (lens (ab (aA [(0,.arr ty k (l.map (eH aQ)))]))) I w (· <1) (.bc 0 l.length) v0:=hr 0 (by simp)
 obtain rfl:=S.ex _ _ _ _ _ r ⟨by simpa using hvl,fun j hj=>by have:=hr (j+1) (by simpa using hj); simpa using this⟩
 have hM:ab (aA [(0,bI.arr ty k (l.map (eH aQ)))]) 0=some ⟨ty,k,l.map (eH aQ),none⟩:=rfl
 have B:=W.aU 0 _ hM
 have done:∀ (w1:World),l=[]→w1=w→∃v,Ending.returned (.tuple #[])= .returned v∧∃ρ1 I1 s,c6 ⟨w,1,I,s,ρ,lens (ab (aA [(0,.arr ty k (l.map (eH aQ)))]))⟩ ρ1 I1 (ab (aA [(0,.arr ty k ((gv l).map (eH aQ)))])) (· <1) w1∧aN ρ1 (lens (ab (aA [(0,.arr ty k ((gv l).map (eH aQ)))]))) I1 w1 (· <1) (.aP []) v:=by
  rintro w1 rfl rfl
  have:gv []=[]:=List.eq_nil_of_length_eq_zero (by rw[hlen]; rfl)
  rw[this]
  exact⟨_,rfl,ρ,I,0,W,.aP [] [] rfl (fun j hj=>by simp at hj)⟩
 cases r0 with
 |bc _ _ _ hn h1 h=>
  rcases (h l.length k (by rw[aC]; exact⟨_,hM,by simp[bh.ln],rfl⟩)).2 rfl with⟨hv,q,rfl⟩|⟨gb,cap,hρ,rfl⟩
  ·have he:l=[]:=by have:=B.ep hv; simpa using this
   refine (S.nil q 0 w).mono ?_
   rintro e w' ⟨rfl,h⟩
   exact done w' he h
  ·by_cases he:l=[]
   ·have e0:l.length=0:=by rw[he]; rfl
    rw[e0]
    refine (S.nil (some ⟨gb,0,none⟩) cap w).mono ?_
    rintro e w' ⟨rfl,h⟩
    exact done w' he h
   ·obtain⟨cs,fr,p9,nG,qS,hown,hlc,mX,hcs,hcell⟩:=B.real gb cap hρ
    have p9:w.heap[gb]? =some (.cells cs ty fr):=p9
    have hlc:l.length≤cap:=by simpa using hlc
    have hcs:cs.size=cap*k:=hcs
    have hlt:=(Array.getElem?_eq_some_iff.1 p9).1
    have hH:HoldsK (qM aQ) k w gb 0 l.toArray:=by
     intro t ht
     have ht':t<l.length*k:=by simpa using ht
     have hi:t / k<l.length:=by rw[Nat.div_lt_iff_lt_mul QC]; exact ht'
     have hj:t % k<k:=Nat.mod_lt _ QC
     have et:t / k*k+t % k=t:=by rw[Nat.mul_comm]; exact Nat.div_add_mod t k
     obtain⟨u,hu,_,En⟩:=hcell (t / k) (t % k) (by simpa using hi) hj
     rw[show ((⟨ty,k,l.map (eH aQ),none⟩:bh).es.getD (t / k) [])=eH aQ l[t / k]from zo l hi,(pf hk l[t / k] hj).2]at En
     have BC:=Hz En
     have ef:=xH (aQ:=aQ) (k:=k) l hi hj
     rw[et]at ef
     have hu:cs[t]? =some u:=by rw[←et]; exact hu
     refine⟨?_,?_⟩
     ·rw[ef,(pf hk l[t / k] hj).1,Nat.zero_add]
      simp only[World.cell?,p9,Option.isSome_none,Bool.false_eq_true,if_false,id]
      rw[hu,BC]
     ·have hf:=nG t (Array.getElem?_eq_some_iff.1 hu).1
      simp only[World.frozen?,p9,Nat.zero_add]
      simp
      omega
    refine (S.row gb cap l w hH hlt hl).mono ?_
    rintro e w' ⟨rfl,n,os,Wj⟩
    have hheap:w'.heap=(w.heap.modify gb (onCells (putCells id 0 (flatK (qM aQ) k (gv l).toArray))))++os:=by rw[Wj]; rfl
    have hat:∀q,q<w.heap.size→w'.heap[q]? =(w.heap.modify gb (onCells (putCells id 0 (flatK (qM aQ) k (gv l).toArray))))[q]? :=fun q hq=>by
     rw[hheap,Array.getElem?_append_left (by simpa using hq)]
    have uj:w'.heap[gb]? =some (.cells (putCells id 0 (flatK (qM aQ) k (gv l).toArray) cs) ty fr):=by
     rw[hat gb hlt,Array.getElem?_modify,if_pos rfl,p9]; rfl
    have hput:∀t,t<l.length*k→(putCells id 0 (flatK (qM aQ) k (gv l).toArray) cs)[t]? =some (flatK (qM aQ) k (gv l).toArray)[t]! :=fun t ht=>by
     have:t<cs.size:=by
      rw[hcs]; exact Nat.lt_of_lt_of_le ht (Nat.mul_le_mul_right _ hlc)
     unfold putCells
     rw[Array.getElem?_mapIdx,Array.getElem?_eq_getElem this,Option.map_some,if_pos (by simp[hlen]; exact ht)]
     simp
    obtain⟨E,W1⟩:=W.put (w':=w') 0 ⟨ty,k,(gv l).map (eH aQ),none⟩ gb cap (putCells id 0 (flatK (qM aQ) k (gv l).toArray) cs) fr (by rw[Wj]; rfl) (by rw[Wj]; rfl) (by rw[Wj]; rfl) (by rw[hheap]; simp)
     (fun q hq hne=>by rw[hat q hq,Array.getElem?_modify,if_neg (fun e=>hne e.symm)]) uj (fun o ho=>nG o (by simpa[putCells]using ho)) (.inr ⟨cap,hρ,_,hM⟩)
     (fun b0 h0=>by rw[hM]at h0; cases h0; exact⟨rfl,by simp[bh.ln,hlen],fun _=>hρ⟩) (fun _=>⟨_,hM⟩)
     (fun e he=>by obtain⟨x,_,rfl⟩:=List.mem_map.1 he; simp[eH,hk]) (by simpa[hlen]using hlc) mX (by simpa[putCells]using hcs)
     (fun i j hi hj=>by
       have hi':i< (gv l).length:=by simpa using hi
       have hj:j<k:=hj
       have aaK:i*k+j<l.length*k:=by
        have:(i+1)*k≤l.length*k:=Nat.mul_le_mul_right _ (by rw[hlen]at hi'; exact hi')
        rw[Nat.add_mul,Nat.one_mul]at this; omega
       refine⟨_,hput _ aaK,?_,?_⟩
       ·rw[xH _ hi' hj,(pf hk _ hj).1]; rfl
       ·rw[xH _ hi' hj,(pf hk _ hj).1,show ((⟨ty,k,(gv l).map (eH aQ),none⟩:bh).es.getD i [])=eH aQ (gv l)[i]from zo _ hi',(pf hk _ hj).2]
        exact .int _ _)
     (fun _ _ _ _ _ _ h=>by cases h) (by rw[Wj]; show w.drawn≤w.drawn+n; omega)
    have e1:cW (ab (aA [(0,bI.arr ty k (l.map (eH aQ)))])) 0 ⟨ty,k,(gv l).map (eH aQ),none⟩=ab (aA [(0,.arr ty k ((gv l).map (eH aQ)))]):=by
     funext m
     by_cases hm:m=0
     ·subst hm; rfl
     ·have:(m==0)=false:=by simpa using hm
      simp[cW,hm,aA,ab,this]
    rw[e1]at W1
    exact⟨_,rfl,_,I,0,W1.mY (fun m hm=>by rcases hm with rfl|hm; exact Nat.zero_lt_one; exact hm),.aP [] [] rfl (fun j hj=>by simp at hj)⟩
theorem K0 {R:Env} {f g k ty:Nat} {aQ:α→List Int} {cf:α→α→Int} {gv:List α→List α} (hb:cx R.P (R.ft f)) (S:mE R.P (R.ft f) (R.ft g) k aQ cf gv) (hk:∀x,(aQ x).length=k) (QC:0<k)
 (hcmp:∀x y,R.Pc g [.agg (eH aQ x),.agg (eH aQ y)] (.int .i64 (cf x y))) (hlen:∀l,(gv l).length=l.length) (l:List α) (hl:l.length<4611686018427387904):
 R.Mc f [.bc 0 l.length,.bR (.fn (R.ft g)) []] [(0,.arr ty k (l.map (eH aQ)))] (.aP []) [(0,.arr ty k ((gv l).map (eH aQ)))] 1:=HC hb (S.e hcmp) hk QC hlen l hl
theorem HD {R:Env} {f g k:Nat} {aQ:α→List Int} {cf:α→α→Int} {gv:List α→List α} (S:mE R.P (R.ft f) (R.ft g) k aQ cf gv):R.Pc f [.ao,.bR (.fn (R.ft g)) []] (.aP []):=by
 intro I w vs hI hr
 obtain⟨hvl,hr⟩:=hr
 obtain⟨v0,v1,rfl⟩:∃v0 v1,vs=[v0,v1]:=by
  match vs,hvl with
  |[a,b],_=>exact⟨a,b,rfl⟩
 have r0:aN cY ga I w cH .ao v0:=hr 0 (by simp)
 cases r0
 refine (S.nil Option.none 0 v1 w).mono ?_
 rintro e w' ⟨rfl,rfl⟩
 exact⟨_,I,rfl,⟨Below.refl _ _,Nat.le_refl _⟩,fun _ h=>h,hI,fun _ _ h=>h,.aP [] [] rfl (fun j hj=>by simp at hj)⟩
end
end Go.UM
namespace Go.UM
open Go.AM
set_option maxRecDepth 4000
def n2 (x y:Int):Int:=if x<y then -1 else if y<x then 1 else 0
theorem Mi {R:Env} (h:NI R) (x:Int):R.Pc 468 [.int .i64 x] (.bool false):=
 h.NJ.enter 60 rfl fun X bb hfit hp=>by
  refine sh ?_
  exact rT
theorem Cr {R:Env} (h:NK R) (x y:Int):R.Pc 451 [.int .i64 x,.int .i64 y] (.int .i64 (n2 x y)):=
 h.GN.enter 100 rfl fun X bb hfit hp=>by
  generalize hq:n2 x y=q
  unfold n2 at hq
  refine sh ?_
  refine ae.pure h.DL.NJ.hb (Mi h.DL x) rfl ?_
  refine sh ?_
  refine ae.pure h.DL.NJ.hb (Mi h.DL y) rfl ?_
  refine sh ?_
  refine cS (fun h1=> ?_) (fun h1=> ?_)
  ·rw[if_pos h1]at hq
   subst hq
   refine sh ?_
   exact rT
  ·rw[if_neg (by omega)]at hq
   refine sh ?_
   refine cS (fun h2=> ?_) (fun h2=> ?_)
   ·rw[if_pos h2]at hq
    subst hq
    refine sh ?_
    exact rT
   ·rw[if_neg (by omega)]at hq
    subst hq
    refine sh ?_
    exact rT
def Eo:List Int→Int
 |[]=>0
 |x::r=>if x=0 then Eo r else x
theorem aaL {R:Env} (h:NM R) (l:List Int) (hl:l.length≤1073741824):R.Pc 452 [.aJ 1 (bB .i64 l)] (.int .i64 (Eo l)):=
 h.S6.enter 100 rfl fun X bb hfit hp=>by
  refine sh ?_
  refine gW 100 (fun i:Nat=>i≤l.length∧Eo (l.drop i)=Eo l) (fun i=>⟨[(3,.int .i64 0),(6,.aJ 1 (bB .i64 l)),(7,.int .i64 l.length),(8,.int .i64 i)],[],0⟩) (fun i=>l.length - i) (0) ?_ ?_
  ·exact⟨Nat.zero_le _,by simp⟩
  ·intro i hi
   dsimp only
   refine sh ?_
   refine cS (fun h1=> ?_) (fun h1=> ?_)
   ·obtain⟨x,hx⟩:∃u_,l[i]? =some u_:=⟨_,List.getElem?_eq_getElem (by first|omega|(simp<;>omega))⟩
    refine sh ?_
    refine aa hx ?_
    have hd:Eo l=Eo (x::l.drop (i+1)):=by
     rw[←hi.2]
     congr 1
     have:=(List.getElem?_eq_some_iff.1 hx)
     rw[←this.2,List.getElem_cons_drop]
    refine sh ?_
    refine cS (fun h2=> ?_) (fun h2=> ?_)
    ·refine sh ?_
     refine rT ?_
     all_goals repeat' (first|exact True.intro|refine And.intro ?_ ?_|(intro _u; clear _u)|(with_reducible first|exact ai.fg|refine eM ?_ ?_|refine eF ?_ ?_ ?_|refine eN ?_|refine eL ?_ ?_ ?_|refine eA ?_ ?_|refine ap.mk ⟨_,hp,rfl⟩ ?_ ?_)|refine ap.mk ⟨_,hp,rfl⟩ ?_ ?_)
     all_goals try first|with_reducible rfl|omega|exact .inl (by decide)|(simp; done)|rfl
     rw[hd,Eo,if_neg h2]
    ·refine sh ?_
     refine lz (i+1) ?_ ?_
     ·exact⟨by omega,by rw[hd,Eo,if_pos (by omega)]⟩
     ·omega
   ·refine sh ?_
    refine rT ?_
    all_goals repeat' (first|exact True.intro|refine And.intro ?_ ?_|(intro _u; clear _u)|(with_reducible first|exact ai.fg|refine eM ?_ ?_|refine eF ?_ ?_ ?_|refine eN ?_|refine eL ?_ ?_ ?_|refine eA ?_ ?_|refine ap.mk ⟨_,hp,rfl⟩ ?_ ?_)|refine ap.mk ⟨_,hp,rfl⟩ ?_ ?_)
    all_goals try first|with_reducible rfl|omega|exact .inl (by decide)|(simp; done)|rfl
    rw[←hi.2,List.drop_eq_nil_of_le (by omega)]; rfl
def k7 (x y:In):Int:=Eo [n2 x.aT y.aT,n2 x.dr y.dr,n2 x.ct y.ct,n2 x.n y.n]
theorem K1 {R:Env} (h:OI R) (x y:In):R.Pc 450 [.agg [.int .i64 x.aT,.int .i64 x.dr,.int .i64 x.ct,.int .i64 x.n],.agg [.int .i64 y.aT,.int .i64 y.dr,.int .i64 y.ct,.int .i64 y.n]] (.int .i64 (k7 x y)):=
 h.UC.enter 100 rfl fun X bb hfit hp=>by
  refine sh ?_
  refine ae.pure h.uO.GN.hb (Cr h.uO x.aT y.aT) rfl ?_
  refine sh ?_
  refine ae.pure h.uO.GN.hb (Cr h.uO x.dr y.dr) rfl ?_
  refine sh ?_
  refine ae.pure h.uO.GN.hb (Cr h.uO x.ct y.ct) rfl ?_
  refine sh ?_
  refine ae.pure h.uO.GN.hb (Cr h.uO x.n y.n) rfl ?_
  refine sh ?_
  refine cM true [] ((aaL h.J5 [n2 x.aT y.aT,n2 x.dr y.dr,n2 x.ct y.ct,n2 x.n y.n] (by simp)).mc h.J5.S6.hb) ?_
  repeat (intro _; first|refine eK ?_|refine eP ?_)
  refine sh ?_
  exact rT
theorem Qe {R:Env} (h:OJ R) (x y:In):R.Pc 436 [.agg x.row,.agg y.row] (.int .i64 (k7 x y)):=
 h.aab.enter 100 rfl fun X bb hfit hp=>by
  refine sh ?_
  refine ae.pure h.lA.AX.hb (Eg h.lA x) rfl ?_
  refine sh ?_
  refine ae.pure h.lA.AX.hb (Eg h.lA y) rfl ?_
  refine sh ?_
  refine ae.pure h.J6.UC.hb (K1 h.J6 x y) rfl ?_
  refine sh ?_
  exact rT
def inN (x:In):List Int:=[x.aT,x.dr,x.ct,x.n,x.t.m0,x.t.m1,x.t.m2,x.t.m3,x.t.m4,x.t.m5,x.t.m6,x.t.m7,x.t.m8,x.t.t.a,x.t.t.b,x.t.t.c]
def xU:List In→List Bool→List In
 |x::l,b::sn=>if b=true then x::xU l sn else xU l sn
 |_,_=>[]
theorem zq:∀l:List In,xU l ((cD l).map fun _=>false)=[]
 |[]=>rfl
 |x::l=>by
  show (if false=true then x::xU l ((cD l).map fun _=>false)else xU l ((cD l).map fun _=>false))=[]
  rw[if_neg (by simp)]; exact zq l
theorem Cs:∀ {l:List In} {sn:List Bool},sn.length=l.length→(∀q ∈ sn,q=true)→xU l sn=l
 |[],[],_,_=>rfl
 |x::l,b::sn,h,ha=>by
  rw[xU,if_pos (ha b (by simp)),Cs (by simpa using h) fun q hq=>ha q (by simp[hq])]
 |[],_::_,h,_=>by simp at h
 |_::_,[],h,_=>by simp at h
theorem Ct:∀ (l:List In) (sn:List Bool),(xU l sn).length≤l.length
 |x::l,b::sn=>by
  have:=Ct l sn
  rw[xU]; split<;>simp only[List.length_cons]<;>omega
 |[],_=>by simp[xU]
 |_::_,[]=>by simp[xU]
theorem xI:∀ {l:List In} {sn:List Bool} {i:Nat} {x:In},l[i]? =some x→sn[i]? =some false→(x::xU l sn).Perm (xU l (sn.set i true))
 |[],_,i,x,h,_=>by simp at h
 |_::_,[],i,x,_,h=>by simp at h
 |y::l,b::sn,0,x,h,hs=>by
  simp at h hs; subst h; subst hs
  rw[List.set_cons_zero,xU,xU,if_neg (by simp),if_pos rfl]
 |y::l,b::sn,i+1,x,h,hs=>by
  have ih:=xI (l:=l) (sn:=sn) (i:=i) (x:=x) (by simpa using h) (by simpa using hs)
  rw[List.set_cons_succ,xU,xU]
  by_cases hb:b=true
  ·rw[if_pos hb,if_pos hb]
   exact (List.Perm.swap y x _).trans (ih.cons y)
  ·rw[if_neg hb,if_neg hb]; exact ih
theorem Cu {a b:Int} {r:List Int}:Eo (n2 a b::r)<0↔a<b∨(a=b∧Eo r<0):=by
 show (if n2 a b=0 then Eo r else n2 a b)<0↔_
 unfold n2
 by_cases h1:a<b
 ·rw[if_pos h1,if_neg (by omega)]; omega
 ·rw[if_neg h1]
  by_cases h2:b<a
  ·rw[if_pos h2,if_neg (by omega)]; omega
  ·rw[if_neg h2,if_pos rfl]; omega
theorem dN {x y:In}:k7 x y<0↔x.aT<y.aT∨x.aT=y.aT∧(x.dr<y.dr∨x.dr=y.dr∧(x.ct<y.ct∨x.ct=y.ct∧x.n<y.n)):=by
 unfold k7
 rw[Cu,Cu,Cu,Cu]
 simp[Eo]
theorem eB {x y:In}:be x y=true↔x.aT=y.aT∧x.dr=y.dr∧x.ct=y.ct∧x.n=y.n:=by simp[be]
def leI (x y:In):Bool:=decide (¬k7 y x<0)
theorem k8 {x y:In}:leI x y=true↔¬k7 y x<0:=by simp[leI]
theorem mF (x y:In):(leI x y||leI y x)=true:=by
 rw[Bool.or_eq_true,k8,k8,dN,dN]; omega
theorem kq (x y z:In) (h1:leI x y=true) (h2:leI y z=true):leI x z=true:=by
 rw[k8,dN]at h1 h2 ⊢; omega
theorem zu {x y:In} (h1:leI x y=true) (h2:leI y x=true):be x y=true:=by
 rw[k8,dN]at h1 h2
 rw[eB]; omega
def cE (l:List In):List In:=l.mergeSort leI
structure K2 (gv:List In→List In):Prop where
 perm:∀l,(gv l).Perm l
 ord:∀l,(gv l).Pairwise fun x y=>leI x y=true
theorem K2.eq {gv:List In→List In} (S:K2 gv) {out l:List In} (nd:l.Pairwise fun a b=>be a b=false) (h:out.Perm l):gv out=cE l:=by
 refine List.Perm.eq_of_pairwise (le:=fun x y=>leI x y=true) ?_ (S.ord out) (List.pairwise_mergeSort kq mF l) ((S.perm out).trans (h.trans (List.mergeSort_perm l leI).symm))
 intro a b ha hb h1 h2
 have Wl:a ∈ l:=h.mem_iff.1 ((S.perm out).mem_iff.1 ha)
 have hb':b ∈ l:=(List.mergeSort_perm l leI).mem_iff.1 hb
 have hs:=zu h1 h2
 have hs':be b a=true:=zu h2 h1
 obtain⟨i,hi,rfl⟩:=List.getElem_of_mem Wl
 obtain⟨j,hj,rfl⟩:=List.getElem_of_mem hb'
 rw[List.pairwise_iff_getElem]at nd
 rcases Nat.lt_trichotomy i j with h|h|h
 ·rw[nd i j hi hj h]at hs; cases hs
 ·subst h; rfl
 ·rw[nd j i hj hi h]at hs'; cases hs'
instance:Inhabited In:=⟨⟨0,0,0,0,⟨0,0,0,0,0,0,0,0,0,⟨0,0,0⟩⟩⟩⟩
abbrev zv (R:Env) (gv:List In→List In):Prop:=mE R.P (R.ft 435) (R.ft 436) 16 inN k7 gv
set_option maxHeartbeats 2000000 in
theorem HE {R:Env} (h:OK R) (gv:List In→List In) (S:zv R gv) (hs:K2 gv) (d1 d2:Bool) (t:Tb) (nd:t.ins.Pairwise fun a b=>be a b=false) (hn:t.ins.length≤1000000):
  R.Mc 419 [.loc 2 1 0 0] (eb R d1 d2 t) (.bc 3 (cE t.ins).length) (eb R d1 false t++ [(3,.arr (R.ty 44) 16 (cD (cE t.ins)))]) 4:=
 h.aac.bC 100 3 rfl rfl rfl fun X bb hfit hp=>by
  unfold eb
  refine sh ?_
  refine cM false [0,1,2] (k6 h.jQ d1 d2 t) ?_
  repeat (intro _; first|refine eK ?_|refine eP ?_)
  refine sh ?_
  refine⟨fun r=> ?_⟩
  refine sh ?_
  refine gW 100 (Sum.elim (fun s:List Bool=>s=(cD t.ins).map fun _=>false) (fun s:List Bool × Option Nat × List In=>s.1.length=t.ins.length∧s.2.2.Perm (xU t.ins s.1))) (Sum.elim (fun s=>⟨[(3,.ao),(12,.mS 1 r)],[(0,.map 1 false true d1 41 (hJ t.rows)),(1,.map 4 true true (.it r s none) 16 (cD t.ins)),(2,.var (R.ty 47) [.omap 0,.omap 1])],3⟩) (fun s=>⟨[(3,.bc 3 s.2.2.length),(12,.mS 1 r)],[(0,.map 1 false true d1 41 (hJ t.rows)),(1,.map 4 true true (.it r s.1 s.2.1) 16 (cD t.ins)),(2,.var (R.ty 47) [.omap 0,.omap 1]),(3,.arr (R.ty 44) 16 (cD s.2.2))],4⟩)) (Sum.elim (fun s=>nF s) (fun s=>nF s.1)) (.inl ((cD t.ins).map fun _=>false)) ?_ ?_
  ·rfl
  ·rintro (sn|⟨sn,la,out⟩) hv
   ·dsimp only[Sum.elim_inl]at hv ⊢
    refine sh ?_
    refine⟨rfl,fun h1 h2=> ?_,fun i row h1 h2 h3=> ?_⟩
    ·have e:t.ins=[]:=by
      subst hv
      cases hl:t.ins with
      |nil=>rfl
      |cons x l=>rw[hl]at h1; have:=h1 false (by simp[cD]); cases this
     have hr:=e
     refine sh ?_
     refine ae.pure h.J7.SY.hb (HD S) rfl ?_
     rw[e,show cE []=[]from by simp[cE]]
     refine sh ?_
     exact rM [0,1,2,50]
    ·obtain⟨x,hx,rfl⟩:=Bl h1
     refine sh ?_
     refine⟨⟨rfl,i,x.row,rfl,h1,?_⟩⟩
     refine sh ?_
     refine nR [0,1,2,6] (.inr (sn.set i true,some i,[x])) ?_ ?_
     ·refine⟨by rw[List.length_set]; simpa using h3,?_⟩
      have:=xI hx h2
      rw[hv,zq]at this
      rw[hv]; exact this
     ·have:=xG h2
      show nF (sn.set i true)<nF sn
      omega
   ·dsimp only[Sum.elim_inr]at hv ⊢
    refine sh ?_
    refine⟨rfl,fun h1 h2=> ?_,fun i row h1 h2 h3=> ?_⟩
    ·have e:out.Perm t.ins:=by have:=hv.2; rwa[Cs hv.1 h1]at this
     have e2:=hs.eq nd e
     have el:out.length=(cE t.ins).length:=by rw[←e2,(hs.perm out).length_eq]
     have c:R.Mc 435 [.bc 0 out.length,.bR (.fn (R.ft 436)) []] [(0,.arr (R.ty 44) 16 (cD out))] (.aP []) [(0,.arr (R.ty 44) 16 (cD (cE t.ins)))] 1:=by
      rw[←e2]
      exact K0 (ty:=R.ty 44) h.J7.SY.hb S (fun _=>rfl) (by omega) (fun x y=>Qe h.OL x y) (fun l=>(hs.perm l).length_eq) out (by rw[e.length_eq]; omega)
     refine sh ?_
     refine cM false [3] (c) ?_
     repeat (intro _; first|refine eK ?_|refine eP ?_)
     refine sh ?_
     exact rM [0,1,2,3]
    ·obtain⟨x,hx,rfl⟩:=Bl h1
     have hb:out.length≤1000000:=by
      have:=hv.2.length_eq
      have:=Ct t.ins sn
      omega
     refine sh ?_
     refine⟨⟨rfl,i,x.row,rfl,h1,?_⟩⟩
     refine sh ?_
     refine nX (.inr (sn.set i true,some i,out++ [x])) ?_ ?_ ⟨_,hp,rfl⟩ ?_ ?_
     ·refine⟨by rw[List.length_set]; exact hv.1,?_⟩
      exact (List.perm_append_singleton x out).trans ((hv.2.cons x).trans (xI hx h2))
     ·have:=xG h2
      show nF (sn.set i true)<nF sn
      omega
     ·all_goals repeat' (first|exact True.intro|refine And.intro ?_ ?_|(intro _u; clear _u)|(with_reducible first|exact ai.fg|refine eM ?_ ?_|refine eF ?_ ?_ ?_|refine eN ?_|refine eL ?_ ?_ ?_|refine eA ?_ ?_|refine ap.mk ⟨_,hp,rfl⟩ ?_ ?_)|refine ap.mk ⟨_,hp,rfl⟩ ?_ ?_)
      all_goals try first|with_reducible rfl|omega|exact .inl (by decide)|(simp; done)|rfl
     ·all_goals repeat' (first|exact True.intro|refine And.intro ?_ ?_|(intro _u; clear _u)|(with_reducible first|exact ai.fg|refine eM ?_ ?_|refine eF ?_ ?_ ?_|refine eN ?_|refine eL ?_ ?_ ?_|refine eA ?_ ?_|refine ap.mk ⟨_,hp,rfl⟩ ?_ ?_)|refine ap.mk ⟨_,hp,rfl⟩ ?_ ?_)
      all_goals try first|with_reducible rfl|omega|exact .inl (by decide)|(simp; done)|rfl
      all_goals first|exact (A' out [x]).symm|(right; simp[In.row])
end Go.UM
namespace Go.UM
open Go.AM
set_option maxRecDepth 4000
structure Ac where
 k:Int
 h:Int
 f:Mf
 a:As
 i:In
def Ac.row (c:Ac):List AV:=[.int .i64 c.k,.int .i64 c.h,.int .u64 c.f.id,.int .i64 c.f.kind,.int .u32 c.f.label,.int .u8 c.f.m0,.int .u8 c.f.m1,.int .u8 c.f.m2,.int .u8 c.f.m3,.int .u8 c.f.m4,.int .u8 c.f.m5,.int .u8 c.f.m6,.int .u8 c.f.m7,
 .int .u32 c.f.first,.int .u32 c.f.last,.int .i64 c.f.size,.int .i64 c.f.chunks,.int .i64 c.a.k,.aJ 3 (bJ c.a.m.v),.aJ 2 (cV c.a.m.uv),.aJ 3 (bJ c.a.m.t),.int .i64 c.a.x.side,.aJ 3 (bJ c.a.x.t),
 .int .i64 c.a.mt.k,.int .i64 c.a.mt.c.a,.int .i64 c.a.mt.c.b,.int .i64 c.a.mt.c.c,.int .i64 c.a.mt.r,
 .int .i64 c.a.li.k,.int .i64 c.a.li.c.a,.int .i64 c.a.li.c.b,.int .i64 c.a.li.c.c,.int .i64 c.a.li.p.a,.int .i64 c.a.li.p.b,.int .i64 c.a.li.p.c,.int .i64 c.a.li.u.a,.int .i64 c.a.li.u.b,.int .i64 c.a.li.u.c,.int .i64 c.a.li.v.a,.int .i64 c.a.li.v.b,.int .i64 c.a.li.v.c,
 .int .i64 c.i.aT,.int .i64 c.i.dr,.int .i64 c.i.ct,.int .i64 c.i.n,.int .i64 c.i.t.m0,.int .i64 c.i.t.m1,.int .i64 c.i.t.m2,.int .i64 c.i.t.m3,.int .i64 c.i.t.m4,.int .i64 c.i.t.m5,.int .i64 c.i.t.m6,.int .i64 c.i.t.m7,.int .i64 c.i.t.m8,.int .i64 c.i.t.t.a,.int .i64 c.i.t.t.b,.int .i64 c.i.t.t.c]
def As.kC (a:As):As:=⟨a.k,a.m.kC,⟨a.x.side,a.x.t.take 260⟩,a.mt,a.li⟩
def Ac.kC (c:Ac):Ac:=⟨c.k,c.h,c.f,c.a.kC,c.i⟩
theorem K3 {R:Env} (h:Pv R) (c:Ac):R.Pc 420 [.agg c.row] (.agg c.kC.row):=
 h.VG.enter 100 rfl fun X bb hfit hp=>by
  refine sh ?_
  refine ae.pure h.n191.UQ.hb (KO h.n191 c.a.m) rfl ?_
  refine sh ?_
  refine jF (by exact PY _ _) ?_
  refine sh ?_
  exact rT
def Bo (t:Tb) (c:Ac):Tb × Int:=if c.k=0 then gy t c.h c.f c.a else if c.k=1 then fq t c.h else if c.k=2 then jS t c.i else l8 t c.i
structure jf (t:Tb) (n:Nat):Prop where
 row:∀r ∈ t.rows,fE r
 nd:t.ins.Pairwise fun a b=>be a b=false
 rd:t.rows.Pairwise fun a b=>a.h≠b.h
 rl:t.rows.length≤n
 il:t.ins.length≤n
theorem Wm {R:Env} (h:Pw R) (d1 d2:Bool) (t:Tb) (c:Ac) {n:Nat} (ok:jf t n) (hn:n≤1000000) (fx:c.a.x.t.length≤1000) (fb:c.a.bare.Bg) (hx:c.i.t.I):
  R.Mc 421 [.loc 2 1 0 0,.agg c.row] (eb R d1 d2 t) (.int .i64 (Bo t c).2) (eb R false false (Bo t c).1) 3:=
 h.aaw.bC 100 3 rfl rfl rfl fun X bb hfit hp=>by
  have h1:=ok.rl
  have h2:=ok.il
  generalize hq:Bo t c=q
  unfold Bo at hq
  unfold eb
  refine sh ?_
  refine cS (fun k0=> ?_) (fun k0=> ?_)
  ·rw[if_pos k0]at hq
   subst hq
   refine sh ?_
   refine cM false [0,1,2] (Bk h.n346 d1 d2 t c.h c.f c.a fx fb (by omega)) ?_
   repeat (intro _; first|refine eK ?_|refine eP ?_)
   refine sh ?_
   exact rM [0,1,2]
  ·rw[if_neg k0]at hq
   refine sh ?_
   refine cS (fun k1=> ?_) (fun k1=> ?_)
   ·rw[if_pos k1]at hq
    subst hq
    refine sh ?_
    refine cM false [0,1,2] (Em h.Py d1 d2 t ok.nd c.h) ?_
    repeat (intro _; first|refine eK ?_|refine eP ?_)
    refine sh ?_
    exact rM [0,1,2]
   ·rw[if_neg k1]at hq
    refine sh ?_
    refine cS (fun k2=> ?_) (fun k2=> ?_)
    ·rw[if_pos k2]at hq
     subst hq
     refine sh ?_
     refine cM false [0,1,2] (Hx h.DP d1 d2 t c.i ok.row hx (by omega)) ?_
     repeat (intro _; first|refine eK ?_|refine eP ?_)
     refine sh ?_
     exact rM [0,1,2]
    ·rw[if_neg k2]at hq
     subst hq
     refine sh ?_
     refine cM false [0,1,2] (KY h.Px d1 d2 t c.i) ?_
     repeat (intro _; first|refine eK ?_|refine eP ?_)
     refine sh ?_
     exact rM [0,1,2]
end Go.UM
namespace Go.UM
open Go.AM
set_option maxRecDepth 4000
instance {l:List Rw}:iu (iz l) l.length:=⟨nY l⟩
theorem HF {t:Tb} {x:In} (h:(jS t x).2≠0):(jS t x).1=t:=by
 unfold jS at h ⊢
 split
 ·rfl
 ·rename_i k1
  rw[if_neg k1]at h
  split
  ·rfl
  ·rename_i k2
   rw[if_neg k2]at h
   split
   ·rfl
   ·rename_i k3
    rw[if_neg k3]at h
    cases hr:aW t.rows x.aT with
    |none=>rfl
    |some r=>
     rw[hr]at h
     dsimp only at h ⊢
     split
     ·rfl
     ·rename_i k4
      rw[if_neg k4]at h
      exact absurd rfl h
theorem jf.mono {t:Tb} {n m:Nat} (h:jf t n) (k:n≤m):jf t m:=⟨h.row,h.nd,h.rd,Nat.le_trans h.rl k,Nat.le_trans h.il k⟩
theorem zw:jf ⟨[],[]⟩ 0:=⟨fun r h=>by simp at h,.nil,.nil,Nat.le_refl _,Nat.le_refl _⟩
theorem oa (x y:In):be x y=be y x:=by
 rw[Bool.eq_iff_iff,eB,eB]; omega
theorem tR {t:Tb} {n:Nat} (ok:jf t n) {hd:Int} {f:Mf} {a:As} (fx:a.x.t.length≤1000):jf (gy t hd f a).1 (n+1):=by
 have old:=ok.mono (Nat.le_succ n)
 unfold gy
 split
 ·exact old
 ·rename_i k1
  split
  ·exact old
  ·rename_i k2
   split
   ·exact old
   ·rename_i k3
    split
    ·exact old
    ·rename_i k4
     have hn:∀r ∈ t.rows,r.h≠hd:=fun r hr e=>by
      apply k2
      unfold aW
      rw[List.find?_isSome]
      exact⟨r,hr,by simpa using e⟩
     refine⟨fun r hr=> ?_,ok.nd,?_,?_,old.il⟩
     ·rcases List.mem_append.1 hr with h|h
      ·exact ok.row r h
      ·simp only[List.mem_singleton]at h
       subst h
       exact⟨⟨by show 1≤hd; omega,by show hd≤65536; omega⟩,Classical.byContradiction k3,Classical.byContradiction k4,fx⟩
     ·rw[List.pairwise_append]
      exact⟨ok.rd,by simp,fun r hr q hq=>by simp only[List.mem_singleton]at hq; subst hq; exact hn r hr⟩
     ·simp only[List.length_append,List.length_singleton]
      have:=ok.rl; omega
theorem Bp {t:Tb} {n:Nat} (ok:jf t n) {hd:Int}:jf (fq t hd).1 n:=by
 unfold fq
 split
 ·exact⟨fun r hr=>ok.row r (List.eraseP_sublist.subset hr),ok.nd.sublist List.filter_sublist,ok.rd.sublist List.eraseP_sublist,Nat.le_trans List.eraseP_sublist.length_le ok.rl,Nat.le_trans List.filter_sublist.length_le ok.il⟩
 ·exact ok
theorem HG {t:Tb} {n:Nat} (ok:jf t n) {x:In}:jf (l8 t x).1 n:=by
 unfold l8
 split
 ·exact⟨ok.row,ok.nd.sublist List.eraseP_sublist,ok.rd,ok.rl,Nat.le_trans List.eraseP_sublist.length_le ok.il⟩
 ·exact ok
theorem Cv {t:Tb} {n:Nat} (ok:jf t n) {x:In}:jf (jS t x).1 (n+1):=by
 have old:=ok.mono (Nat.le_succ n)
 unfold jS
 split
 ·exact old
 ·split
  ·exact old
  ·split
   ·exact old
   ·rename_i k3
    cases hr:aW t.rows x.aT with
    |none=>exact old
    |some r=>
     dsimp only
     split
     ·exact old
     ·refine⟨ok.row,?_,ok.rd,old.rl,?_⟩
      ·rw[List.pairwise_append]
       refine⟨ok.nd,by simp,fun y hy q hq=> ?_⟩
       simp only[List.mem_singleton]at hq
       subst hq
       rw[oa]
       cases hs:be q y with
       |false=>rfl
       |true=>
        exfalso
        apply k3
        unfold dZ
        rw[List.find?_isSome]
        exact⟨y,hy,hs⟩
      ·simp only[List.length_append,List.length_singleton]
       have:=ok.il; omega
theorem HH {t:Tb} {n:Nat} (ok:jf t n) {c:Ac} (fx:c.a.x.t.length≤1000):jf (Bo t c).1 (n+1):=by
 unfold Bo
 split
 ·exact tR ok fx
 ·split
  ·exact (Bp ok).mono (Nat.le_succ n)
  ·split
   ·exact Cv ok
   ·exact (HG ok).mono (Nat.le_succ n)
end Go.UM
namespace Go.UM
open Go.AM
set_option maxRecDepth 4000
def jX (x y:Rw):Bool:=decide (x.h≤y.h)
def bf (l:List Rw):List Rw:=l.mergeSort jX
@[simp] theorem gn (l:List Rw):(bf l).length=l.length:=by simp[bf]
theorem eC {l:List Rw} {r:Rw}:r ∈ bf l↔r ∈ l:=(List.mergeSort_perm l jX).mem_iff
theorem ek {l:List Rw} (rd:l.Pairwise fun a b=>a.h≠b.h) {r:Rw} (hr:r ∈ l):aW l r.h=some r:=by
 induction l with
 |nil=>simp at hr
 |cons a l ih=>
  obtain⟨h1,h2⟩:=List.pairwise_cons.1 rd
  unfold aW
  rw[List.find?_cons]
  rcases List.mem_cons.1 hr with rfl|h
  ·simp
  ·have:(a.h==r.h)=false:=by simpa using h1 r h
   rw[this]
   exact ih h2 h
def dW (l:List Rw):List Int:=(bf l).map (·.h)
abbrev v6 (R:Env):Prop:=∀ (d1:Bool) (l:List Rw),l.Pairwise (fun a b=>a.h≠b.h)→(∀r ∈ l,fE r)→l.length≤1000000→
 R.Mz true 434 [.bR (.fn (R.ft 447)) [.loc 0 1 0 0]] [(0,.var (R.ty 57) [.omap 1]),(1,.map 1 false true d1 41 (hJ l))] (.bc 2 (dW l).length) [(0,.var (R.ty 57) [.omap 1]),(1,.map 1 false true d1 41 (hJ l)),(2,.arr (R.ty 10) 1 (bB .i64 (dW l)))] 3
theorem Qf {R:Env} (h:NH R) (d1:Bool) (l:List Rw):R.Mc 433 [.omap 0] [(0,.map 1 false true d1 41 (hJ l))] (.bR (.fn (R.ft 447)) [.loc 1 1 0 0]) [(0,.map 1 false true d1 41 (hJ l)),(1,.var (R.ty 57) [.omap 0])] 2:=
 h.ZI.bC 60 1 rfl rfl rfl fun X bb hfit hp=>by
  refine sh ?_
  exact rM [0,1]
theorem HI {l:List Rw} {i:Nat} {k:Int} (h:(dW l)[i]? =some k):∃r,(bf l)[i]? =some r∧r.h=k:=by
 unfold dW at h
 rw[List.getElem?_map]at h
 exact Option.map_eq_some_iff.1 h
theorem HJ {l:List Rw} {i:Nat} {r:Rw} (h:l[i]? =some r):iz (l.take i)++ [r.row]=iz (l.take (i+1)):=by
 rw[List.take_add_one,h]; simp[iz]
set_option maxHeartbeats 4000000 in
theorem K4 {R:Env} (h:OF R) (K:v6 R) (d1 d2:Bool) (t:Tb) {n:Nat} (ok:jf t n) (hn:n≤1000000):
  R.Mz true 418 [.loc 2 1 0 0] (eb R d1 d2 t) (.bc 3 (bf t.rows).length) (eb R d1 d2 t++ [(3,.arr (R.ty 45) 40 (iz (bf t.rows)))]) 4:=
 h.aaa.B4 100 3 rfl rfl rfl fun X bb hfit hp hz=>by
  have hl:=ok.rl
  have hk:(dW t.rows).length=t.rows.length:=by simp[dW]
  unfold eb
  refine sh ?_
  refine cM false [0,1,2] (k6 h.jQ d1 d2 t) ?_
  repeat (intro _; first|refine eK ?_|refine eP ?_)
  refine sh ?_
  refine cM false [0] (Qf h.OG d1 t.rows) ?_
  repeat (intro _; first|refine eK ?_|refine eP ?_)
  refine sh ?_
  refine cM false [3,0] (K d1 t.rows ok.rd ok.row (by omega)) ?_
  repeat (intro _; first|refine eK ?_|refine eP ?_)
  refine sh ?_
  refine gW 100 (Sum.elim (fun _:Unit=>True) (fun i:Nat=>1≤i∧i≤t.rows.length)) (Sum.elim (fun _=>⟨[(0,.loc 2 1 0 0),(3,.ao),(14,.bc 4 (dW t.rows).length),(15,.int .i64 (dW t.rows).length),(16,.int .i64 0)],[(0,.map 1 false true d1 41 (hJ t.rows)),(1,.map 4 true true d2 16 (cD t.ins)),(2,.var (R.ty 47) [.omap 0,.omap 1]),(3,.var (R.ty 57) [.omap 0]),(4,.arr (R.ty 10) 1 (bB .i64 (dW t.rows)))],5⟩) (fun i=>⟨[(0,.loc 2 1 0 0),(3,.bc 5 ((bf t.rows).take i).length),(14,.bc 4 (dW t.rows).length),(15,.int .i64 (dW t.rows).length),(16,.int .i64 i)],[(0,.map 1 false true d1 41 (hJ t.rows)),(1,.map 4 true true d2 16 (cD t.ins)),(2,.var (R.ty 47) [.omap 0,.omap 1]),(3,.var (R.ty 57) [.omap 0]),(4,.arr (R.ty 10) 1 (bB .i64 (dW t.rows))),(5,.arr (R.ty 45) 40 (iz ((bf t.rows).take i)))],6⟩)) (Sum.elim (fun _=>t.rows.length+1) (fun i=>t.rows.length - i)) (.inl ()) ?_ ?_
  ·trivial
  ·rintro (_|i) hv
   ·dsimp only[Sum.elim_inl]at hv ⊢
    refine sh ?_
    refine cS (fun h1=> ?_) (fun h1=> ?_)
    ·obtain⟨k,hkk⟩:∃u_,(dW t.rows)[0]? =some u_:=⟨_,List.getElem?_eq_getElem (by omega)⟩
     refine sh ?_
     refine te (by simp) hkk ?_
     obtain⟨r,hr,rfl⟩:=HI hkk
     have hm:=eC.1 (List.mem_of_getElem? hr)
     refine sh ?_
     refine n1 fun j=> ?_
     rw[ek ok.rd hm]
     dsimp only[Option.map_some]
     refine sh ?_
     refine ae.pure h.uN.J0.hb (p8 h.uN r.a (tP (ok.row r hm).a (ok.row r hm).x)) rfl ?_
     have e1:(bf t.rows).take 1=[r]:=by
      cases hq:bf t.rows with
      |nil=>rw[hq]at hr; simp at hr
      |cons a q=>rw[hq]at hr; simp at hr; rw[hr]; rfl
     refine sh ?_
     refine QR [0,1,2,3,4,7] (.inr 1) ?_ ?_ ?_
     ·exact⟨by omega,by omega⟩
     ·dsimp only[Sum.elim_inr]; omega
     ·all_goals repeat' (first|exact True.intro|refine And.intro ?_ ?_|(intro _u; clear _u)|(with_reducible first|exact ai.fg|refine eM ?_ ?_|refine eF ?_ ?_ ?_|refine eN ?_|refine eL ?_ ?_ ?_|refine eA ?_ ?_|refine ap.mk ⟨_,hp,rfl⟩ ?_ ?_)|refine ap.mk ⟨_,hp,rfl⟩ ?_ ?_)
      all_goals try first|with_reducible rfl|omega|exact .inl (by decide)|(simp; done)|rfl
      all_goals first|(rw[e1]; rfl)|(rw[e1]; simp[Rw.row,iz])
    ·have e:t.rows=[]:=List.eq_nil_of_length_eq_zero (by omega)
     rw[e,show bf []=[]from by simp[bf]]
     refine sh ?_
     exact rM [0,1,2,50]
   ·dsimp only[Sum.elim_inr]at hv ⊢
    have ht:((bf t.rows).take i).length=i:=by rw[List.length_take,gn]; omega
    refine sh ?_
    refine cS (fun h1=> ?_) (fun h1=> ?_)
    ·obtain⟨k,hkk⟩:∃u_,(dW t.rows)[i]? =some u_:=⟨_,List.getElem?_eq_getElem (by omega)⟩
     refine sh ?_
     refine te (by simp) hkk ?_
     obtain⟨r,hr,rfl⟩:=HI hkk
     have hm:=eC.1 (List.mem_of_getElem? hr)
     refine sh ?_
     refine n1 fun j=> ?_
     rw[ek ok.rd hm]
     dsimp only[Option.map_some]
     refine sh ?_
     refine ae.pure h.uN.J0.hb (p8 h.uN r.a (tP (ok.row r hm).a (ok.row r hm).x)) rfl ?_
     refine sh ?_
     refine nX (.inr (i+1)) ?_ ?_ ⟨_,hp,rfl⟩ ?_ ?_
     ·exact⟨by omega,by omega⟩
     ·dsimp only[Sum.elim_inr]; omega
     ·all_goals repeat' (first|exact True.intro|refine And.intro ?_ ?_|(intro _u; clear _u)|(with_reducible first|exact ai.fg|refine eM ?_ ?_|refine eF ?_ ?_ ?_|refine eN ?_|refine eL ?_ ?_ ?_|refine eA ?_ ?_|refine ap.mk ⟨_,hp,rfl⟩ ?_ ?_)|refine ap.mk ⟨_,hp,rfl⟩ ?_ ?_)
      all_goals try first|with_reducible rfl|omega|exact .inl (by decide)|(simp; done)|rfl
      all_goals (simp only[List.length_append,nY,List.length_take,gn,List.length_singleton]; omega)
     ·all_goals repeat' (first|exact True.intro|refine And.intro ?_ ?_|(intro _u; clear _u)|(with_reducible first|exact ai.fg|refine eM ?_ ?_|refine eF ?_ ?_ ?_|refine eN ?_|refine eL ?_ ?_ ?_|refine eA ?_ ?_|refine ap.mk ⟨_,hp,rfl⟩ ?_ ?_)|refine ap.mk ⟨_,hp,rfl⟩ ?_ ?_)
      all_goals try first|with_reducible rfl|omega|exact .inl (by decide)|(simp; done)|rfl
      all_goals first|exact HJ hr|(right; simp[Rw.row])
    ·have e:(bf t.rows).take i=bf t.rows:=List.take_of_length_le (by rw[gn]; omega)
     rw[e]
     refine sh ?_
     exact rM [0,1,2,5]
end Go.UM
namespace Go.UM
open Go.AM Go.RowKit Go.Proofs
def Cw (P:Program) (f g kt et:Nat):Prop:=
 ∀ (b nn Bm:Nat) (D0:DataW Unit) (Q:Value→Option (DataW Unit × List MemPlace)) (w:World),Bm<w.heap.size→w.cell? ⟨Bm,0,none⟩=some (.map (some b))→w.ownsMap P kt Q b nn D0→Maps.size D0≤maxLen→Maps.size D0*8≤140737488355328→
   Calls P f #[.func (.func g) #[] #[.pointer (some ⟨Bm,0,none⟩)]] w fun e w'=>∃ (v:Value) (ss:List Int),e= .returned v∧ss.Perm (intKeys D0)∧
    w'.ownsRow w.heap.size et 1 v ss.length ((ss.mergeSort (fun x y=>decide (x≤y))).map encZ)∧(v= .slice none 0 0↔ss=[])∧Go.RowKit.Below w.heap.size w w'
theorem Ep {l:List Rw} {ss:List Int} (h:ss.Perm (l.map (·.h))):ss.mergeSort (fun x y=>decide (x≤y))=dW l:=by
 have tr:∀a b c:Int,decide (a≤b)=true→decide (b≤c)=true→decide (a≤c)=true:=fun a b c h1 h2=>by simp only[decide_eq_true_eq]at *; omega
 have to:∀a b:Int,(decide (a≤b)||decide (b≤a))=true:=fun a b=>by simp only[Bool.or_eq_true,decide_eq_true_eq]; omega
 have tr':∀x y z:Rw,jX x y=true→jX y z=true→jX x z=true:=fun x y z h1 h2=>by simp only[jX,decide_eq_true_eq]at h1 h2 ⊢; omega
 have to':∀x y:Rw,(jX x y||jX y x)=true:=fun x y=>by simp only[jX,Bool.or_eq_true,decide_eq_true_eq]; omega
 refine List.Perm.eq_of_pairwise (le:=fun a b=>decide (a≤b)=true) (fun a b _ _ h1 h2=>by simp only[decide_eq_true_eq]at h1 h2; omega) (List.pairwise_mergeSort tr to ss) ?_ ((List.mergeSort_perm ss _).trans (h.trans ((List.mergeSort_perm l jX).map (·.h)).symm))
 unfold dW
 rw[List.pairwise_map]
 exact List.pairwise_mergeSort tr' to' l
def qN:Value→Option (DataW Unit × List MemPlace):=fun _=>some (.nil,[])
theorem bG {ρ:AM.Place} {L:ba} {I:Nat→Prop} {w:World} {N:Nat→Prop} {n:Int} {v:Value} (h:aN ρ L I w N (.int .i64 n) v):v= .int .i64 n:=by cases h; rfl
theorem HK {P:Program} {kt:Nat} (QS:P.underlying kt=some (.int .i64)) {l:List Rw} (rd:l.Pairwise fun a b=>a.h≠b.h) (ok:∀r ∈ l,fE r) (hl:l.length≤1000000) {en:Array MapEntry} {ck gm:Nat} {w:World} (hg:w.heap[gm]? =some (.map en ck)) (hs:en.size=l.length)
  (hb:∀ (i j:Nat) (e f:MapEntry),en[i]? =some e→en[j]? =some f→i<j→e.born<f.born) (Xk:∀ (i:Nat) (e:MapEntry),en[i]? =some e→e.born<ck)
  (hk:∀ (i:Nat) (e:MapEntry) (r:Rw),en[i]? =some e→l[i]? =some r→e.key= .int .i64 r.h):
  ∃D0:DataW Unit,w.ownsMap P kt qN gm l.length D0∧Maps.size D0=l.length∧(intKeys D0).Perm (l.map (·.h)):=by
 have hrd:∀ (i:Nat) (e:MapEntry) (r:Rw),en[i]? =some e→l[i]? =some r→WideElems.rd P kt qN e=some (.int .i64 r.h,.nil):=by
  intro i e r he hr
  have hh:=(ok r (List.mem_of_getElem? hr)).h
  have hw:(Lit.int .i64 r.h).wf=true:=by simp[Lit.wf,IntKind.min,IntKind.max,IntKind.bits,IntKind.signed]; omega
  unfold WideElems.rd
  rw[hk i e r he hr]
  simp[keyOf,QS,mapKey,hw,qN]
 have each:∀ (i:Nat) (e:MapEntry),en[i]? =some e→∃r,l[i]? =some r:=fun i e he=>by
  have:=(Array.getElem?_eq_some_iff.1 he).1
  exact⟨l[i]'(by omega),List.getElem?_eq_getElem (by omega)⟩
 have Qg:en.toList.map (WideElems.rg P kt qN)=l.map fun r=>((.int .i64 r.h,.nil):Lit × DataW Unit):=by
  apply List.ext_getElem?
  intro i
  rw[List.getElem?_map,List.getElem?_map]
  cases he:en.toList[i]? with
  |none=>
   have:l[i]? =none:=by
    rw[List.getElem?_eq_none_iff]at he ⊢
    simp at he; omega
   rw[this]; rfl
  |some e=>
   have he':en[i]? =some e:=by simpa using he
   obtain⟨r,hr⟩:=each i e he'
   rw[hr]
   simp only[Option.map_some]
   unfold WideElems.rg
   rw[hrd i e r he' hr]; rfl
 refine⟨_,⟨en,ck,hg,⟨?_,⟨?_,?_,?_⟩,?_⟩,Nat.le_of_eq hs,rfl⟩,?_,?_⟩
 ·rw[hs]; have:(1000000:Nat)≤maxLen:=by decide
  omega
 ·intro x hx
  obtain⟨i,hi,rfl⟩:=List.getElem_of_mem hx
  exact Xk i _ (by rw[Array.getElem_toList]; exact Array.getElem?_eq_getElem (by simpa using hi))
 ·show List.Pairwise (· ≠ ·) _
  rw[List.pairwise_map,List.pairwise_iff_getElem]
  intro i j hi hj hij
  have:=hb i j _ _ (Array.getElem?_eq_getElem (by simpa using hi)) (Array.getElem?_eq_getElem (by simpa using hj)) hij
  simp only[Array.getElem_toList]
  omega
 ·show List.Pairwise (· ≠ ·) _
  rw[List.pairwise_map,List.pairwise_iff_getElem]
  intro i j hi hj hij
  have hi':i<en.size:=by simpa using hi
  have hj':j<en.size:=by simpa using hj
  simp only[Array.getElem_toList]
  rw[hk i _ l[i] (Array.getElem?_eq_getElem hi') (List.getElem?_eq_getElem (by omega)),hk j _ l[j] (Array.getElem?_eq_getElem hj') (List.getElem?_eq_getElem (by omega))]
  intro e
  exact List.pairwise_iff_getElem.1 rd i j (by omega) (by omega) hij (by simpa using e)
 ·intro x hx
  obtain⟨i,hi,rfl⟩:=List.getElem_of_mem hx
  have hi':i<en.size:=by simpa using hi
  exact⟨_,hrd i _ l[i] (by rw[Array.getElem_toList]; exact Array.getElem?_eq_getElem hi') (List.getElem?_eq_getElem (by omega))⟩
 ·rw[Maps.size_eq,length_sorted,List.length_map]; simpa using hs
 ·rw[Qg]
  have:=(Go.WideShapes.sorted_perm (l.map fun r=>((.int .i64 r.h,.nil):Lit × DataW Unit))).map fun p=>intOf p.1
  rw[List.map_map]at this
  exact this
set_option maxHeartbeats 1000000 in
theorem HL {R:Env} {kt:Nat} (hb:cx R.P (R.ft 434)) (QS:R.P.underlying kt=some (.int .i64)) (KL:Cw R.P (R.ft 434) (R.ft 447) kt (R.ty 10)):v6 R:=by
 intro d1 l rd ok hl
 refine⟨hb,fun w I ρ vs hW hr=> ?_,rfl⟩
 have W:=hW 0
 obtain⟨hvl,hr⟩:=hr
 obtain⟨v0,rfl⟩:∃v0,vs=[v0]:=by
  match vs,hvl with
  |[a],_=>exact⟨a,rfl⟩
 have r0:=hr 0 (by simp)
 have r0:aN ρ _ I w (· <2) (.bR (.fn (R.ft 447)) [.loc 0 1 0 0]) v0:=r0
 have Wn:ab (aA [(0,bI.var (R.ty 57) [.omap 1]),(1,.map 1 false true d1 41 (hJ l))]) 0=some ⟨R.ty 57,1,[[.omap 1]],none⟩:=rfl
 have hM1:ab (aA [(0,bI.var (R.ty 57) [.omap 1]),(1,.map 1 false true d1 41 (hJ l))]) 1=some ⟨0,41,hJ l,some (1,false,true,d1)⟩:=rfl
 cases r0 with
 |bR _ _ us Yu Yv=>
  obtain⟨u0,rfl⟩:∃u0,us=[u0]:=by
   match us,Yu with
   |[a],_=>exact⟨a,rfl⟩
  have q0:=Yv 0 (by simp)
  have q0:aN ρ _ I w (· <2) (.loc 0 1 0 0) u0:=q0
  obtain⟨_,g,cap,sX,rfl⟩:=fV (sz:=1) q0 (by rw[aC]; exact⟨_,Wn,rfl,rfl⟩)
  obtain⟨cs,fr,p9,_,_,_,_,_,_,hcell⟩:=(W.aU 0 _ Wn).real g cap sX
  have p9:w.heap[g]? =some (.cells cs (R.ty 57) fr):=p9
  obtain⟨u,hu,_,En⟩:=hcell 0 0 (by simp) (by simp)
  have En:aN ρ _ I w (· <2) (.omap 1) u:=En
  have hu:cs[0]? =some u:=by simpa using hu
  obtain⟨gm,cm,F5,rfl⟩:∃gm cm,ρ 1=some (gm,cm)∧u= .map (some gm):=by
   cases En with
   |omap _ _ _ _ h=>exact h 41 (by rw[aC]; exact⟨_,hM1,rfl,rfl⟩)
  have B1:=W.aU 1 _ hM1
  obtain⟨cs1,fr1,Qg,_,_,_,_,_,_,Qh⟩:=B1.real gm cm F5
  obtain⟨en,ck,hg,hs,MC⟩:=Qg
  have hs:en.size=l.length:=by simpa using hs
  have hkey:∀ (i:Nat) (e:MapEntry) (r:Rw),en[i]? =some e→l[i]? =some r→e.key= .int .i64 r.h:=by
   intro i e r he hr
   obtain⟨k1,k2,k3,k4⟩:=MC.key i e he
   have hi:=(List.getElem?_eq_some_iff.1 hr).1
   obtain⟨u,hu,_,En⟩:=Qh i 0 (by simpa using hi) (by simp)
   have hrow:(hJ l).getD i []=uT r:=by
    unfold hJ
    rw[List.getD_eq_getElem?_getD,List.getElem?_map,hr]; rfl
   have En:aN ρ _ I w (· <2) (((hJ l).getD i []).getD 0 .bad) u:=En
   rw[hrow]at En
   have En:=bG En
   have hf:aL e.key=[e.key]:=by
    cases hk:e.key<;>first|rfl|(rw[hk]at k3; simp[fQ]at k3)
   have:=MC.cell i e 0 e.key he (by rw[hf]; rfl)
   rw[this]at hu
   cases hu
   exact En
  obtain⟨D0,hown,hsz,Wo⟩:=HK QS rd ok hl hg hs MC.born MC.clock hkey
  have hlt:=(Array.getElem?_eq_some_iff.1 p9).1
  have hc:w.cell? ⟨g,0,none⟩=some (.map (some gm)):=by
   simp only[World.cell?,p9,Option.isSome_none,Bool.false_eq_true,if_false]
   exact hu
  have ER:(1000000:Nat)≤maxLen:=by decide
  have x6:=KL gm l.length g D0 qN w hlt hc hown (by omega) (by omega)
  refine x6.mono ?_
  rintro e w' ⟨v,ss,rfl,hp,⟨_,hrow⟩,hnil,sS⟩
  have hp:=hp.trans Wo
  have hkl:=Ep hp
  have hlen:(dW l).length=ss.length:=by rw[←hkl,List.length_mergeSort]
  refine⟨v,rfl,?_⟩
  obtain⟨E0,W0⟩:=W.ext' (w':= {w with drawn:=w'.drawn}) (I':=I) rfl rfl rfl (Nat.le_refl _) (fun _ _=>rfl) (fun _ h=>h) W.lt (fun _ _ h=>h) (Nat.zero_le _)
  rcases hrow with⟨rfl,h0⟩|⟨gb,cp,cur,rfl,hge,hgb,hle,mX,hcs,Xl⟩
  ·have e0:dW l=[]:=List.eq_nil_of_length_eq_zero (by omega)
   obtain⟨E1,W1⟩:=W.ext' (w':=w') (I':=I) sS.os sS.tape sS.output sS.size sS.block (fun _ h=>h) (fun g hg=>Nat.lt_of_lt_of_le (W.lt g hg) sS.size) (fun _ _ h=>h) (Nat.zero_le _)
   obtain⟨E2,W2⟩:=W1.ep (n:=2) (Nat.lt_irrefl 2) (R.ty 10) 1
   have e1:cW (ab (aA [(0,bI.var (R.ty 57) [.omap 1]),(1,.map 1 false true d1 41 (hJ l))])) 2 ⟨R.ty 10,1,[],none⟩=ab (aA [(0,.var (R.ty 57) [.omap 1]),(1,.map 1 false true d1 41 (hJ l)),(2,.arr (R.ty 10) 1 (bB .i64 (dW l)))]):=by
    rw[e0]
    funext m
    by_cases hm:m=2
    ·subst hm; rfl
    ·have:(m==2)=false:=by simpa using hm
     simp[cW,hm,aA,ab,this]
   rw[e1]at W2
   refine⟨_,I,0,W2.mY (fun m hm=>by rcases hm with rfl|hm; exact Nat.lt_succ_self 2; exact Nat.lt_succ_of_lt hm),?_⟩
   rw[show (dW l).length=0 from by rw[e0]; rfl]
   refine .bc 2 0 _ (Nat.lt_succ_self 2) rfl fun k sz hk=>⟨Nat.zero_le _,fun _=> .inl ⟨if_pos rfl,_,rfl⟩⟩
  ·have hgb:w'.heap[gb]? =some (.cells cur (R.ty 10) (0,0)):=hgb
   have eD:(bB .i64 (dW l)).length=ss.length:=by simp[bB,hlen]
   obtain⟨E1,W1⟩:=W0.put (w':=w') 2 ⟨R.ty 10,1,bB .i64 (dW l),none⟩ gb cp cur (0,0) sS.os sS.tape sS.output sS.size (fun k hk _=>sS.block k hk) hgb (fun o _ h=>by omega) (.inl hge)
    (fun b0 h0=>by have h0:(Option.none:Option bh)=some b0:=h0; cases h0) (fun h=>absurd h (Nat.lt_irrefl 2)) (fun e he=>by obtain⟨x,_,rfl⟩:=List.mem_map.1 he; rfl) (by show (bB .i64 (dW l)).length≤cp; omega) mX hcs
    (fun i j hi hj=>by
      have hi:i< (bB .i64 (dW l)).length:=hi
      have hj:j<1:=hj
      have e0:j=0:=by omega
      subst e0
      have hi':i< (dW l).length:=by omega
      have hat:(cur.toList.take (ss.length*1))[i]? =some (encZ (dW l)[i]):=by rw[Xl,hkl,List.getElem?_map,List.getElem?_eq_getElem hi']; rfl
      rw[List.getElem?_take_of_lt (by omega)]at hat
      refine⟨encZ (dW l)[i],by simpa using hat,rfl,?_⟩
      rw[show (((⟨R.ty 10,1,bB .i64 (dW l),none⟩:bh).es.getD i []).getD 0 .bad)= .int .i64 (dW l)[i]from by
       have e2:(bB .i64 (dW l))[i]? =some [.int .i64 (dW l)[i]]:=by unfold bB; rw[List.getElem?_map,List.getElem?_eq_getElem hi']; rfl
       show ((bB .i64 (dW l)).getD i []).getD 0 .bad=_
       rw[List.getD_eq_getElem?_getD (l:=bB .i64 (dW l)),e2]; rfl]
      exact .int _ _)
   have e1:cW (ab (aA [(0,bI.var (R.ty 57) [.omap 1]),(1,.map 1 false true d1 41 (hJ l))])) 2 ⟨R.ty 10,1,bB .i64 (dW l),none⟩=ab (aA [(0,.var (R.ty 57) [.omap 1]),(1,.map 1 false true d1 41 (hJ l)),(2,.arr (R.ty 10) 1 (bB .i64 (dW l)))]):=by
    funext m
    by_cases hm:m=2
    ·subst hm; rfl
    ·have:(m==2)=false:=by simpa using hm
     simp[cW,hm,aA,ab,this]
   rw[e1]at W1
   refine⟨_,I,0,W1.mY (fun m hm=>by rcases hm with rfl|hm; exact Nat.lt_succ_self 2; exact Nat.lt_succ_of_lt hm),?_⟩
   rw[hlen]
   refine .bc 2 ss.length _ (Nat.lt_succ_self 2) rfl fun k sz hk=> ?_
   obtain⟨b,hb,h1,_⟩:=aC.1 hk
   have hb:some (⟨R.ty 10,1,bB .i64 (dW l),Option.none⟩:bh)=some b:=hb
   cases hb
   have h1:(bB .i64 (dW l)).length=k:=h1
   exact⟨by omega,fun _=> .inr ⟨gb,cp,by simp[iv],rfl⟩⟩
end Go.UM
namespace Go.UM
open Go.AM Go.Shelf Go.RowKit Go.Lib Go.Sort Go.Proofs
section
variable {α:Type} [Inhabited α]
def xJ (cf:α→α→Int) (l:List α):List α:=(pdq (ltOf cf) l.toArray 0 l.toArray.size (Lib.bitLen l.toArray.size) true true).toList
theorem Bq {P:Program} {ρ:Ren} (L:SlLaysF0.n6 P ρ) {k:Nat} (aE:∀w,(isAgg (ρ.t 24)).run P w= .ok true w) (zE:∀w,(Go.sizeOf (ρ.t 24)).run P w= .ok k w) {aQ:α→List Int} (hk:∀x,(aQ x).length=k)
  {cf:α→α→Int} (hO:SWO (ltOf cf)) {g:Nat} (eg:∀args w,(callFunc g args).run P w= .ok (.enter g args) w):mE P (ρ.f 6) g k aQ cf (xJ cf):=by
 refine⟨fun p cap fv w=>AnyF.slices_SortFunc_none L p cap fv w,fun aU cap l w hc hH hb hl=> ?_⟩
 have h:=AnyQ.slices_SortFunc_eq L k aE zE (qM aQ) (fun x=>by simp[qM,hk]) (fun x v hv=>by obtain⟨n,_,rfl⟩:=List.mem_map.1 hv; rfl) cf hO g #[] aU 0 cap l.toArray w eg (by simpa using hc) hH hb (by simpa using hl)
 have e:(xJ cf l).toArray=pdq (ltOf cf) l.toArray 0 l.toArray.size (Lib.bitLen l.toArray.size) true true:=by simp[xJ]
 rw[e]
 rwa[List.size_toArray]at h ⊢
theorem Er (cf:α→α→Int) (hO:SWO (ltOf cf)) (l:List α):(xJ cf l).Perm l:=by
 have h:=(pdq_sorts (ltOf cf) hO l.toArray 0 l.toArray.size (Lib.bitLen l.toArray.size) true true (Nat.zero_le _) (Nat.le_refl _) (Or.inl rfl)).1
 obtain⟨h1,_,h3⟩:=h
 unfold xJ
 generalize pdq (ltOf cf) l.toArray 0 l.toArray.size (Lib.bitLen l.toArray.size) true true=d at h1 h3 ⊢
 rw[←h1]at h3
 have e1:d.extract 0 d.size=d:=by simp
 rw[e1]at h3
 rw[h1]at h3
 simpa using h3
theorem HM (cf:α→α→Int) (hO:SWO (ltOf cf)) (l:List α):(xJ cf l).Pairwise fun x y=>ltOf cf y x=false:=by
 have h:=pdq_sorts (ltOf cf) hO l.toArray 0 l.toArray.size (Lib.bitLen l.toArray.size) true true (Nat.zero_le _) (Nat.le_refl _) (Or.inl rfl)
 obtain⟨⟨h1,_,_⟩,h2⟩:=h
 unfold xJ
 generalize pdq (ltOf cf) l.toArray 0 l.toArray.size (Lib.bitLen l.toArray.size) true true=d at h1 h2 ⊢
 rw[List.pairwise_iff_getElem]
 intro i j hi hj hij
 have hj':j<d.size:=by simpa using hj
 have:=h2 i j (Nat.zero_le _) hij (by omega)
 rw[getElem!_pos d j hj',getElem!_pos d i (by omega)]at this
 simpa using this
end
theorem tT:SWO (ltOf k7) where
 irrefl x:=by simp only[ltOf,decide_eq_false_iff_not,dN]; omega
 trans x y z h1 h2:=by simp only[ltOf,decide_eq_true_eq,dN]at *; omega
 ntrans x y z h1 h2:=by simp only[ltOf,decide_eq_false_iff_not,dN]at *; omega
theorem HN:K2 (xJ k7):=⟨fun l=>Er k7 tT l,fun l=>(HM k7 tT l).imp fun {a b} h=>by
 simp only[ltOf,decide_eq_false_iff_not]at h
 exact k8.2 h⟩
end Go.UM
namespace Go.UM
open Go.AM
set_option maxRecDepth 4000
theorem HO {l l':List Rw} (h:l.Perm l') (rd:l.Pairwise fun a b=>a.h≠b.h):bf l=bf l':=by
 have tr:∀x y z:Rw,jX x y=true→jX y z=true→jX x z=true:=fun x y z h1 h2=>by simp only[jX,decide_eq_true_eq]at h1 h2 ⊢; omega
 have to:∀x y:Rw,(jX x y||jX y x)=true:=fun x y=>by simp only[jX,Bool.or_eq_true,decide_eq_true_eq]; omega
 refine List.Perm.eq_of_pairwise (le:=fun x y=>jX x y=true) ?_ (List.pairwise_mergeSort tr to l) (List.pairwise_mergeSort tr to l') ((List.mergeSort_perm l jX).trans (h.trans (List.mergeSort_perm l' jX).symm))
 intro a b ha hb h1 h2
 have Wl:a ∈ l:=(List.mergeSort_perm l jX).mem_iff.1 ha
 have hb':b ∈ l:=h.mem_iff.2 ((List.mergeSort_perm l' jX).mem_iff.1 hb)
 have e:a.h=b.h:=by simp only[jX,decide_eq_true_eq]at h1 h2; omega
 have k1:=ek rd Wl
 rw[e,ek rd hb']at k1
 exact (Option.some.inj k1).symm
def tle (b:Bool) (hd:Int) (f:Mf) (a:As):Int:=if hd<1∨65536<hd then 2 else if b=true then 10 else if du a≠0 then du a else if f.kind≠a.k then 12 else 0
theorem v7 (t:Tb) (hd:Int) (f:Mf) (a:As):gy t hd f a=(if tle (aW t.rows hd).isSome hd f a=0 then ⟨t.rows++ [⟨hd,f,a⟩],t.ins⟩else t,tle (aW t.rows hd).isSome hd f a):=by
 unfold gy tle
 by_cases k1:hd<1∨65536<hd
 ·rw[if_pos k1,if_pos k1]; rfl
 ·rw[if_neg k1,if_neg k1]
  by_cases k2:(aW t.rows hd).isSome=true
  ·rw[if_pos k2,if_pos k2]; rfl
  ·rw[if_neg k2,if_neg k2]
   by_cases k3:du a≠0
   ·rw[if_pos k3,if_pos k3,if_neg k3]
   ·rw[if_neg k3,if_neg k3]
    by_cases k4:f.kind≠a.k
    ·rw[if_pos k4,if_pos k4]; rfl
    ·rw[if_neg k4,if_neg k4]; rfl
end Go.UM
namespace Go.UM
open Go.AM
set_option maxRecDepth 4000
theorem oc {a l:List In} (nd:l.Pairwise fun a b=>be a b=false) (h:a.Perm l) (ord:a.Pairwise fun x y=>leI x y=true):a=cE l:=by
 classical
 have:=K2.eq (gv:=fun x=>if x=l then a else cE x) ⟨fun x=>by
  by_cases e:x=l
  ·simp only[if_pos e]; rw[e]; exact h
  ·simp only[if_neg e]; exact List.mergeSort_perm x leI,fun x=>by
  by_cases e:x=l
  ·simp only[if_pos e]; exact ord
  ·simp only[if_neg e]; exact List.pairwise_mergeSort kq mF x⟩ nd (.refl l)
 simpa using this
theorem kr {l:List In} {x:In}:x ∈ cE l↔x ∈ l:=(List.mergeSort_perm l leI).mem_iff
theorem xK {l:List In} (nd:l.Pairwise fun a b=>be a b=false) (p:In→Bool):(cE l).filter p=cE (l.filter p):=
 oc (nd.sublist List.filter_sublist) ((List.mergeSort_perm l leI).filter p) ((List.pairwise_mergeSort kq mF l).sublist List.filter_sublist)
theorem HP {t:Tb} {x:In} (h:(jS t x).2=0):(jS t x).1=⟨t.rows,t.ins++ [x]⟩∧dZ t.ins x=none∧(jS ⟨t.rows,t.ins++ [x]⟩ x).2=10:=by
 unfold jS at h ⊢
 by_cases k1:x.n<0∨65536<x.n
 ·rw[if_pos k1]at h; exact absurd h (by simp)
 ·rw[if_neg k1]at h ⊢
  rw[if_neg k1]
  by_cases k2:bT t.rows x≠0
  ·rw[if_pos k2]at h; exact absurd h k2
  ·rw[if_neg k2]at h ⊢
   rw[if_neg k2]
   by_cases k3:(dZ t.ins x).isSome=true
   ·rw[if_pos k3]at h; exact absurd h (by simp)
   ·rw[if_neg k3]at h ⊢
    have hn:dZ t.ins x=none:=by simpa using k3
    have hs:(dZ (t.ins++ [x]) x).isSome=true:=by
     unfold dZ
     rw[List.find?_isSome]
     exact⟨x,by simp,by simp[be]⟩
    rw[if_pos hs]
    cases hr:aW t.rows x.aT with
    |none=>rw[hr]at h; exact absurd h (by simp)
    |some r=>
     rw[hr]at h
     dsimp only at h ⊢
     by_cases k4:tQ x.t r.a.m.v≠0
     ·rw[if_pos k4]at h; exact absurd h k4
     ·rw[if_neg k4]; exact⟨rfl,hn,rfl⟩
end Go.UM
namespace Go.UM
open Go.AM
set_option maxRecDepth 4000
def Es (l:List Rw) (x:In):Prop:=∃a b,aW l x.aT=some a∧a.f.kind=1∧aW l x.dr=some b∧b.f.kind=3∧(x.ct=0∨∃c,aW l x.ct=some c∧c.f.kind=2)∧tQ x.t a.a.m.v=0
theorem Es.mono {l l':List Rw} {x:In} (h:Es l x) (k1:∀r,aW l x.aT=some r→aW l' x.aT=some r) (k2:∀r,aW l x.dr=some r→aW l' x.dr=some r) (k3:∀r,aW l x.ct=some r→aW l' x.ct=some r):Es l' x:=by
 obtain⟨a,b,h1,h2,h3,h4,h5,h6⟩:=h
 refine⟨a,b,k1 a h1,h2,k2 b h3,h4,?_,h6⟩
 rcases h5 with h|⟨c,h,h'⟩
 ·exact .inl h
 ·exact .inr ⟨c,k3 c h,h'⟩
theorem jT {l:List Rw} {q r:Rw} {h:Int} (e:aW l h=some r):aW (l++ [q]) h=some r:=by
 unfold aW at*
 rw[List.find?_append,e]; rfl
theorem od {l:List Rw} {hd h:Int} (hne:h≠hd):aW (l.eraseP fun r=>r.h==hd) h=aW l h:=by
 unfold aW
 induction l with
 |nil=>rfl
 |cons a l ih=>
  by_cases e:(a.h==hd)=true
  ·rw[List.eraseP_cons_of_pos (p:=fun r:Rw=>r.h==hd) e]
   have:(a.h==h)=false:=by
    have e:a.h=hd:=by simpa using e
    simpa[e]using Ne.symm hne
   rw[List.find?_cons,this]
  ·rw[List.eraseP_cons_of_neg (p:=fun r:Rw=>r.h==hd) e,List.find?_cons,List.find?_cons,ih]
structure oe (t:Tb):Prop where
 ok:∀x ∈ t.ins,Es t.rows x
 it:∀x ∈ t.ins,x.t.I
theorem HQ:oe ⟨[],[]⟩:=⟨fun x h=>by simp at h,fun x h=>by simp at h⟩
theorem Et {l:List Rw} {x:In} (h:bT l x=0):∃a b,aW l x.aT=some a∧a.f.kind=1∧aW l x.dr=some b∧b.f.kind=3∧(x.ct=0∨∃c,aW l x.ct=some c∧c.f.kind=2):=by
 unfold bT at h
 cases ha:aW l x.aT with
 |none=>rw[ha]at h; cases h
 |some a=>
  rw[ha]at h
  dsimp only at h
  cases hb:aW l x.dr with
  |none=>rw[hb]at h; cases h
  |some b=>
   rw[hb]at h
   dsimp only at h
   by_cases hx:x.ct=0
   ·rw[if_pos hx]at h
    by_cases k:a.f.kind≠1∨b.f.kind≠3
    ·rw[if_pos k]at h; cases h
    ·exact⟨a,b,rfl,by omega,rfl,by omega,.inl hx⟩
   ·rw[if_neg hx]at h
    cases hc:aW l x.ct with
    |none=>rw[hc]at h; cases h
    |some c=>
     rw[hc]at h
     dsimp only at h
     by_cases k:a.f.kind≠1∨b.f.kind≠3∨c.f.kind≠2
     ·rw[if_pos k]at h; cases h
     ·exact⟨a,b,rfl,by omega,rfl,by omega,.inr ⟨c,rfl,by omega⟩⟩
theorem HR {t:Tb} (s:oe t) {hd:Int} {f:Mf} {a:As}:oe (gy t hd f a).1:=by
 rw[v7]
 dsimp only
 split
 ·exact⟨fun x hx=>(s.ok x hx).mono (fun r h=>jT h) (fun r h=>jT h) (fun r h=>jT h),s.it⟩
 ·exact s
theorem Br {t:Tb} (s:oe t) {hd:Int}:oe (fq t hd).1:=by
 unfold fq
 split
 ·refine⟨fun x hx=> ?_,fun x hx=>s.it x (List.mem_filter.1 hx).1⟩
  obtain⟨h1,h2⟩:=List.mem_filter.1 hx
  have h2:((x.aT≠hd∧x.dr≠hd)∧x.ct≠hd):=by simpa[fP]using h2
  exact (s.ok x h1).mono (fun r h=>by rw[od h2.1.1]; exact h) (fun r h=>by rw[od h2.1.2]; exact h) (fun r h=>by rw[od h2.2]; exact h)
 ·exact s
theorem HS {t:Tb} (s:oe t) {x:In}:oe (l8 t x).1:=by
 unfold l8
 split
 ·exact⟨fun y hy=>s.ok y (List.eraseP_sublist.subset hy),fun y hy=>s.it y (List.eraseP_sublist.subset hy)⟩
 ·exact s
theorem K5 {t:Tb} (s:oe t) {x:In} (hx:x.t.I):oe (jS t x).1:=by
 by_cases h:(jS t x).2=0
 ·rw[(HP h).1]
  refine⟨fun y hy=> ?_,fun y hy=> ?_⟩
  ·rcases List.mem_append.1 hy with h'|h'
   ·exact s.ok y h'
   ·simp only[List.mem_singleton]at h'
    subst h'
    unfold jS at h
    by_cases k1:y.n<0∨65536<y.n
    ·rw[if_pos k1]at h; exact absurd h (by simp)
    ·rw[if_neg k1]at h
     by_cases k2:bT t.rows y≠0
     ·rw[if_pos k2]at h; exact absurd h k2
     ·rw[if_neg k2]at h
      by_cases k3:(dZ t.ins y).isSome=true
      ·rw[if_pos k3]at h; exact absurd h (by simp)
      ·rw[if_neg k3]at h
       obtain⟨a,b,h1,h2,h3,h4,h5⟩:=Et (Classical.byContradiction k2)
       rw[h1]at h
       dsimp only at h
       by_cases k4:tQ y.t a.a.m.v≠0
       ·rw[if_pos k4]at h; exact absurd h k4
       ·exact⟨a,b,h1,h2,h3,h4,h5,Classical.byContradiction k4⟩
  ·rcases List.mem_append.1 hy with h'|h'
   ·exact s.it y h'
   ·simp only[List.mem_singleton]at h'; subst h'; exact hx
 ·rw[HF h]; exact s
theorem Qi {t:Tb} (s:oe t) {c:Ac} (hx:c.i.t.I):oe (Bo t c).1:=by
 unfold Bo
 split
 ·exact HR s
 ·split
  ·exact Br s
  ·split
   ·exact K5 s hx
   ·exact HS s
theorem mG {l:List Rw} (rd:l.Pairwise fun a b=>a.h≠b.h):(bf l).Pairwise fun a b=>a.h<b.h:=by
 have tr:∀x y z:Rw,jX x y=true→jX y z=true→jX x z=true:=fun x y z h1 h2=>by simp only[jX,decide_eq_true_eq]at h1 h2 ⊢; omega
 have to:∀x y:Rw,(jX x y||jX y x)=true:=fun x y=>by simp only[jX,Bool.or_eq_true,decide_eq_true_eq]; omega
 have h1:(bf l).Pairwise fun a b=>jX a b=true:=List.pairwise_mergeSort tr to l
 have h2:(bf l).Pairwise fun a b=>a.h≠b.h:=(List.mergeSort_perm l jX).symm.pairwise rd (fun h=>Ne.symm h)
 exact (h1.and h2).imp fun {a b} h=>by
  have:=h.1
  simp only[jX,decide_eq_true_eq]at this
  have:=h.2
  omega
theorem k9 {l:List Rw} (rd:l.Pairwise fun a b=>a.h≠b.h) {h:Int} {r:Rw} (e:aW l h=some r):aW (bf l) h=some r:=by
 obtain⟨h1,h2⟩:=cz e
 rw[←h2]
 exact ek ((mG rd).imp fun {a b} h=>by omega) (eC.2 h1)
theorem Eu {l:List In} (nd:l.Pairwise fun a b=>be a b=false):(cE l).Pairwise fun a b=>be a b=false:=
 (List.mergeSort_perm l leI).symm.pairwise nd (fun h=>by rw[oa]; exact h)
end Go.UM
namespace Go.UM
open Go.AM
set_option maxRecDepth 4000
section
variable {α:Type}
def jr (p:α→Bool) (x:α) (s:List α × Bool) (r:α):List α × Bool:=if s.2=false∧p r=true then (s.1++ [x]++ [r],true)else (s.1++ [r],s.2)
def c5 (p:α→Bool) (x:α) (l:List α):List α × Bool:=l.foldl (jr p x) ([],false)
def mP (p:α→Bool) (x:α) (l:List α):List α:=if (c5 p x l).2=true then (c5 p x l).1 else (c5 p x l).1++ [x]
variable {p:α→Bool} {x:α}
theorem mH (l:List α) (r:α):c5 p x (l++ [r])=jr p x (c5 p x l) r:=by simp[c5]
theorem pg:∀ (l o:List α) (b:Bool),l.foldl (jr p x) (o,b)=if b=true then (o++l,true)else if l.any p=true then (o++(l.takeWhile (fun r=> !p r)++x::l.dropWhile (fun r=> !p r)),true)else (o++l,false)
 |[],o,b=>by cases b<;>simp
 |r::l,o,b=>by
  rw[List.foldl_cons]
  cases b with
  |true=>
   have e:jr p x (o,true) r=(o++ [r],true):=if_neg (by simp)
   rw[e,pg l,if_pos rfl,if_pos rfl,List.append_assoc]; rfl
  |false=>
   cases h:p r with
   |true=>
    have e:jr p x (o,false) r=(o++ [x]++ [r],true):=if_pos ⟨rfl,h⟩
    rw[e,pg l,if_pos rfl]
    simp[h]
   |false=>
    have e:jr p x (o,false) r=(o++ [r],false):=if_neg (by simp[h])
    rw[e,pg l]
    simp only[Bool.false_eq_true,if_false,List.any_cons,h,Bool.false_or]
    split
    ·simp[h]
    ·simp
theorem tU {q:α→Bool} {l:List α} (h:∀r ∈ l,q r=true):l.takeWhile q=l:=by
 induction l with
 |nil=>rfl
 |cons a l ih=>rw[List.takeWhile_cons,if_pos (h a (by simp)),ih fun r hr=>h r (by simp[hr])]
theorem dropWhile_nil {q:α→Bool} {l:List α} (h:∀r ∈ l,q r=true):l.dropWhile q=[]:=by
 induction l with
 |nil=>rfl
 |cons a l ih=>rw[List.dropWhile_cons,if_pos (h a (by simp)),ih fun r hr=>h r (by simp[hr])]
theorem Cx (l:List α):mP p x l=l.takeWhile (fun r=> !p r)++x::l.dropWhile (fun r=> !p r):=by
 unfold mP c5
 rw[pg]
 simp only[Bool.false_eq_true,if_false,List.nil_append]
 cases h:l.any p with
 |true=>simp
 |false=>
  have hn:∀r ∈ l,(!p r)=true:=fun r hr=>by
   have:=List.any_eq_false.1 h r hr
   simpa using this
  simp only[Bool.false_eq_true,if_false]
  rw[tU hn,dropWhile_nil hn]
theorem pj (l:List α):(c5 p x l).1.length≤l.length+1:=by
 unfold c5
 rw[pg]
 simp only[Bool.false_eq_true,if_false,List.nil_append]
 split
 ·have:=congrArg List.length (List.takeWhile_append_dropWhile (p:=fun r=> !p r) (l:=l))
  simp only[List.length_append,List.length_cons]at this ⊢
  omega
 ·simp
theorem v8 (l:List α):(mP p x l).Perm (l++ [x]):=by
 rw[Cx]
 refine List.perm_middle.trans ?_
 rw[List.takeWhile_append_dropWhile]
 exact (List.perm_append_singleton x l).symm
theorem zx {le:α→α→Prop} (tr:∀a b c,le a b→le b c→le a c) {l:List α} (hl:l.Pairwise le) (h1:∀r ∈ l,p r=true→le x r) (h2:∀r ∈ l,p r=false→le r x):(mP p x l).Pairwise le:=by
 rw[Cx]
 have e:=List.takeWhile_append_dropWhile (p:=fun r=> !p r) (l:=l)
 have nK:=hl
 rw[←e]at nK
 obtain⟨k1,k2,k3⟩:=List.pairwise_append.1 nK
 have ht:∀r ∈ l.takeWhile (fun r=> !p r),le r x:=fun r hr=>h2 r (List.takeWhile_sublist _ |>.subset hr) (by
  have:=List.all_takeWhile (p:=fun r=> !p r) (l:=l)
  have:=List.all_eq_true.1 this r hr
  simpa using this)
 have hd:∀r ∈ l.dropWhile (fun r=> !p r),le x r:=by
  cases hq:l.dropWhile (fun r=> !p r)with
  |nil=>intro r hr; simp at hr
  |cons a q=>
   have ha:p a=true:=by
    have:=List.head?_dropWhile_not (fun r=> !p r) l
    rw[hq]at this
    simpa using this
   have dQ:a ∈ l:=(List.dropWhile_sublist (fun r=> !p r)).subset (hq ▸ List.mem_cons_self)
   have hxa:=h1 a dQ ha
   rw[hq]at k2
   intro r hr
   rcases List.mem_cons.1 hr with rfl|h
   ·exact hxa
   ·exact tr _ _ _ hxa ((List.pairwise_cons.1 k2).1 r h)
 rw[List.pairwise_append]
 refine⟨k1,List.pairwise_cons.2 ⟨hd,k2⟩,fun a ha b hb=> ?_⟩
 rcases List.mem_cons.1 hb with rfl|h
 ·exact ht a ha
 ·exact tr _ _ _ (ht a ha) (hd b h)
def pm (p:α→Bool) (l:List α):Int:=match l.findIdx? p with
 |some i=>i
 |none=> -1
theorem zy {l:List α} {i:Nat} {r:α} (h:l[i]? =some r) (hp:p r=true) (hn:∀ (j:Nat) (y:α),j<i→l[j]? =some y→p y=false):pm p l=i:=by
 have:l.findIdx? p=some i:=by
  rw[List.findIdx?_eq_some_iff_getElem]
  obtain⟨hi,e⟩:=List.getElem?_eq_some_iff.1 h
  exact⟨hi,by rw[e]; exact hp,fun j hj=>by rw[hn j _ hj (List.getElem?_eq_getElem (by omega))]; simp⟩
 unfold pm; rw[this]
theorem tV {l:List α} (hn:∀ (j:Nat) (y:α),j<l.length→l[j]? =some y→p y=false):pm p l= -1:=by
 have:l.findIdx? p=none:=by
  rw[List.findIdx?_eq_none_iff]
  intro y hy
  obtain⟨j,hj,rfl⟩:=List.getElem_of_mem hy
  exact hn j _ hj (List.getElem?_eq_getElem hj)
 unfold pm; rw[this]
theorem fN (p:α→Bool) (l:List α):(∃ (i:Nat) (r:α),pm p l=i∧l[i]? =some r∧p r=true∧l.find? p=some r∧l.eraseIdx i=l.eraseP p)∨(pm p l= -1∧l.find? p=none):=by
 cases h:l.findIdx? p with
 |none=>
  refine .inr ⟨by unfold pm; rw[h],?_⟩
  rw[List.find?_eq_none]
  intro y hy
  have:=List.findIdx?_eq_none_iff.1 h y hy
  simp[this]
 |some i=>
  obtain⟨hi,hp,hn⟩:=List.findIdx?_eq_some_iff_getElem.1 h
  refine .inl ⟨i,l[i],by unfold pm; rw[h],List.getElem?_eq_getElem hi,hp,?_,?_⟩
  ·rw[List.find?_eq_some_iff_getElem]
   exact⟨hp,i,hi,rfl,fun j hj=>by simpa using hn j hj⟩
  ·rw[List.eraseP_eq_eraseIdx,h]
end
theorem og {a l:List Rw} (rd:l.Pairwise fun a b=>a.h≠b.h) (h:a.Perm l) (ord:a.Pairwise fun x y=>jX x y=true):a=bf l:=by
 have e:=HO h.symm rd
 rw[e]
 unfold bf
 rw[List.mergeSort_of_pairwise ord]
theorem we (l:List Rw):(bf l).Pairwise fun x y=>jX x y=true:=
 List.pairwise_mergeSort (fun x y z h1 h2=>by simp only[jX,decide_eq_true_eq]at h1 h2 ⊢; omega) (fun x y=>by simp only[jX,Bool.or_eq_true,decide_eq_true_eq]; omega) l
theorem tW (l:List Rw):(bf l).Perm l:=List.mergeSort_perm l jX
def xL (x:Rw) (r:Rw):Bool:=decide (x.h<r.h)
theorem Ew {l:List Rw} {x:Rw} (rd:(l++ [x]).Pairwise fun a b=>a.h≠b.h):bf (l++ [x])=mP (xL x) x (bf l):=by
 refine (og rd ((v8 _).trans ((tW l).append_right [x])) (zx (fun a b c h1 h2=>by simp only[jX,decide_eq_true_eq]at h1 h2 ⊢; omega) (we l) (fun r _ h=> ?_) (fun r _ h=> ?_))).symm
 ·simp only[xL,decide_eq_true_eq]at h
  simp only[jX,decide_eq_true_eq]; omega
 ·simp only[xL,decide_eq_false_iff_not]at h
  simp only[jX,decide_eq_true_eq]; omega
theorem fO {l:List Rw} (rd:l.Pairwise fun a b=>a.h≠b.h) (h:Int):aW (bf l) h=aW l h:=by
 cases e:aW l h with
 |some r=>exact k9 rd e
 |none=>
  unfold aW at e ⊢
  rw[List.find?_eq_none]at e ⊢
  exact fun r hr=>e r (eC.1 hr)
theorem zA {l:List Rw} (rd:l.Pairwise fun a b=>a.h≠b.h) (h:Int):bf (l.eraseP fun r=>r.h==h)=(bf l).eraseP fun r=>r.h==h:=by
 refine (og (rd.sublist List.eraseP_sublist) ?_ ((we l).sublist List.eraseP_sublist)).symm
 have nd:∀ {m:List Rw},m.Pairwise (fun a b=>a.h≠b.h)→m.eraseP (fun r=>r.h==h)=m.filter (fun r=> !(r.h==h)):=by
  intro m
  induction m with
  |nil=>intro _; rfl
  |cons a m ih=>
   intro hm
   obtain⟨h1,h2⟩:=List.pairwise_cons.1 hm
   by_cases k:(a.h==h)=true
   ·rw[List.eraseP_cons_of_pos (p:=fun r:Rw=>r.h==h) k]
    have e:m.filter (fun r=> !(r.h==h))=m:=List.filter_eq_self.2 fun r hr=>by
     have:=h1 r hr
     simp only[beq_iff_eq]at k
     simp; omega
    simp[List.filter_cons,k,e]
   ·rw[List.eraseP_cons_of_neg (p:=fun r:Rw=>r.h==h) k,ih h2]
    simp[List.filter_cons,k]
 rw[nd rd,nd ((mG rd).imp fun {a b} k=>by omega)]
 exact (tW l).filter _
def iA (x:In) (r:In):Bool:=decide (k7 x r<0)
theorem tX (l:List In):(cE l).Perm l:=List.mergeSort_perm l leI
theorem wg (l:List In):(cE l).Pairwise fun x y=>leI x y=true:=List.pairwise_mergeSort kq mF l
theorem Ex {l:List In} {x:In} (nd:(l++ [x]).Pairwise fun a b=>be a b=false):cE (l++ [x])=mP (iA x) x (cE l):=by
 refine (oc nd ((v8 _).trans ((tX l).append_right [x])) (zx (fun a b c h1 h2=>kq a b c h1 h2) (wg l) (fun r _ h=> ?_) (fun r _ h=> ?_))).symm
 ·simp only[iA,decide_eq_true_eq,dN]at h
  rw[k8,dN]; omega
 ·simp only[iA,decide_eq_false_iff_not]at h
  rw[k8]; exact h
theorem tY {l:List In} (nd:l.Pairwise fun a b=>be a b=false) (x:In):(dZ (cE l) x).isSome=(dZ l x).isSome:=by
 unfold dZ
 rw[Bool.eq_iff_iff,List.find?_isSome,List.find?_isSome]
 exact⟨fun⟨y,h1,h2⟩=>⟨y,kr.1 h1,h2⟩,fun⟨y,h1,h2⟩=>⟨y,kr.2 h1,h2⟩⟩
theorem zB {l:List In} (nd:l.Pairwise fun a b=>be a b=false) (x:In):cE (l.eraseP (be x))=(cE l).eraseP (be x):=by
 refine (oc (nd.sublist List.eraseP_sublist) ?_ ((wg l).sublist List.eraseP_sublist)).symm
 have nd':∀ {m:List In},m.Pairwise (fun a b=>be a b=false)→m.eraseP (be x)=m.filter (fun r=> !be x r):=by
  intro m
  induction m with
  |nil=>intro _; rfl
  |cons a m ih=>
   intro hm
   obtain⟨h1,h2⟩:=List.pairwise_cons.1 hm
   by_cases k:be x a=true
   ·rw[List.eraseP_cons_of_pos k]
    have e:m.filter (fun r=> !be x r)=m:=List.filter_eq_self.2 fun r hr=>by
     have:=h1 r hr
     have k':=eB.1 k
     cases hs:be x r with
     |false=>rfl
     |true=>
      have h3:=eB.1 hs
      rw[eB.2 (by omega)]at this; cases this
    simp[List.filter_cons,k,e]
   ·rw[List.eraseP_cons_of_neg k,ih h2]
    simp[List.filter_cons,k]
 rw[nd' nd,nd' (Eu nd)]
 exact (tX l).filter _
end Go.UM
namespace Go.UM
open Go.AM
set_option maxRecDepth 4000
abbrev jU (R:Env) (d:Tb):ah:=[(0,.var (R.ty 56) [.aJ 40 (iz d.rows),.aJ 16 (cD d.ins)])]
def dC (h:Int) (r:Rw):Bool:=r.h==h
theorem tZ {R:Env} (h:GU R) (d:Tb) (hd:Int) (hl:d.rows.length≤1000000):R.Mc 454 [.loc 0 1 0 0,.int .i64 hd] (jU R d) (.int .i64 (pm (dC hd) d.rows)) (jU R d) 1:=
 h.aaq.bC 100 1 rfl rfl rfl fun X bb hfit hp=>by
  unfold jU
  refine sh ?_
  refine gW 100 (fun i:Nat=>i≤d.rows.length∧∀ (j:Nat) (y:Rw),j<i→d.rows[j]? =some y→dC hd y=false) (fun i=>⟨[(0,.loc 0 1 0 0),(1,.int .i64 hd),(5,.int .i64 i)],[(0,.var (R.ty 56) [.aJ 40 (iz d.rows),.aJ 16 (cD d.ins)])],1⟩) (fun i=>d.rows.length - i) (0) ?_ ?_
  ·exact⟨Nat.zero_le _,fun j y hj=>absurd hj (Nat.not_lt_zero j)⟩
  ·intro i hi
   dsimp only
   refine sh ?_
   refine cS (fun h1=> ?_) (fun h1=> ?_)
   ·obtain⟨r,hr⟩:∃u_,d.rows[i]? =some u_:=⟨_,List.getElem?_eq_getElem (by first|omega|(simp<;>omega))⟩
    refine sh ?_
    refine aa hr ?_
    refine sh ?_
    refine cS (fun h2=> ?_) (fun h2=> ?_)
    ·rw[zy hr (by simpa[dC]using h2) hi.2]
     refine sh ?_
     exact rM [0]
    ·refine sh ?_
     refine lz (i+1) ?_ ?_
     ·refine⟨by omega,fun j y hj hy=> ?_⟩
      by_cases e:j=i
      ·subst e; rw[hr]at hy; cases hy; simpa[dC]using h2
      ·exact hi.2 j y (by omega) hy
     ·omega
   ·rw[tV (fun j y hj=>hi.2 j y (by omega))]
    refine sh ?_
    exact rM [0]
theorem po {R:Env} (h:Km R) (x y:In):R.Pc 456 [.agg x.row,.agg y.row] (.bool (decide (k7 x y<0))):=
 h.DO.enter 100 rfl fun X bb hfit hp=>by
  have e:decide (k7 x y<0)=decide (x.aT<y.aT∨x.aT=y.aT∧(x.dr<y.dr∨x.dr=y.dr∧(x.ct<y.ct∨x.ct=y.ct∧x.n<y.n))):=by rw[decide_eq_decide]; exact dN
  rw[e]
  refine sh ?_
  refine aq.one 100 ?_
  refine sh ?_
  refine af (by decide) ?_
  refine sh ?_
  refine⟨rfl,?_⟩
  refine sh ?_
  refine⟨rfl,?_⟩
  refine sh ?_
  refine cS (fun h1=> ?_) (fun h1=> ?_)
  ·refine sh ?_
   refine⟨rfl,?_⟩
   refine sh ?_
   refine⟨rfl,?_⟩
   refine sh ?_
   refine rT ?_
   all_goals repeat' (first|exact True.intro|refine And.intro ?_ ?_|(intro _u; clear _u)|(with_reducible first|exact ai.fg|refine eM ?_ ?_|refine eF ?_ ?_ ?_|refine eN ?_|refine eL ?_ ?_ ?_|refine eA ?_ ?_|refine ap.mk ⟨_,hp,rfl⟩ ?_ ?_)|refine ap.mk ⟨_,hp,rfl⟩ ?_ ?_)
   all_goals try first|with_reducible rfl|omega|exact .inl (by decide)|(simp; done)|rfl
   simp; omega
  ·refine sh ?_
   refine aq.one 100 ?_
   refine sh ?_
   refine af (by decide) ?_
   refine sh ?_
   refine⟨rfl,?_⟩
   refine sh ?_
   refine⟨rfl,?_⟩
   refine sh ?_
   refine cS (fun h2=> ?_) (fun h2=> ?_)
   ·refine sh ?_
    refine⟨rfl,?_⟩
    refine sh ?_
    refine⟨rfl,?_⟩
    refine sh ?_
    refine rT ?_
    all_goals repeat' (first|exact True.intro|refine And.intro ?_ ?_|(intro _u; clear _u)|(with_reducible first|exact ai.fg|refine eM ?_ ?_|refine eF ?_ ?_ ?_|refine eN ?_|refine eL ?_ ?_ ?_|refine eA ?_ ?_|refine ap.mk ⟨_,hp,rfl⟩ ?_ ?_)|refine ap.mk ⟨_,hp,rfl⟩ ?_ ?_)
    all_goals try first|with_reducible rfl|omega|exact .inl (by decide)|(simp; done)|rfl
    rw[decide_eq_decide]; omega
   ·refine sh ?_
    refine aq.one 100 ?_
    refine sh ?_
    refine af (by decide) ?_
    refine sh ?_
    refine⟨rfl,?_⟩
    refine sh ?_
    refine⟨rfl,?_⟩
    refine sh ?_
    refine cS (fun h3=> ?_) (fun h3=> ?_)
    ·refine sh ?_
     refine⟨rfl,?_⟩
     refine sh ?_
     refine⟨rfl,?_⟩
     refine sh ?_
     refine rT ?_
     all_goals repeat' (first|exact True.intro|refine And.intro ?_ ?_|(intro _u; clear _u)|(with_reducible first|exact ai.fg|refine eM ?_ ?_|refine eF ?_ ?_ ?_|refine eN ?_|refine eL ?_ ?_ ?_|refine eA ?_ ?_|refine ap.mk ⟨_,hp,rfl⟩ ?_ ?_)|refine ap.mk ⟨_,hp,rfl⟩ ?_ ?_)
     all_goals try first|with_reducible rfl|omega|exact .inl (by decide)|(simp; done)|rfl
     rw[decide_eq_decide]; omega
    ·refine sh ?_
     refine aq.one 100 ?_
     refine sh ?_
     refine af (by decide) ?_
     refine sh ?_
     refine⟨rfl,?_⟩
     refine sh ?_
     refine⟨rfl,?_⟩
     refine sh ?_
     refine cS (fun h4=> ?_) (fun h4=> ?_)
     ·refine sh ?_
      refine⟨rfl,?_⟩
      refine sh ?_
      refine⟨rfl,?_⟩
      refine sh ?_
      refine rT ?_
      all_goals repeat' (first|exact True.intro|refine And.intro ?_ ?_|(intro _u; clear _u)|(with_reducible first|exact ai.fg|refine eM ?_ ?_|refine eF ?_ ?_ ?_|refine eN ?_|refine eL ?_ ?_ ?_|refine eA ?_ ?_|refine ap.mk ⟨_,hp,rfl⟩ ?_ ?_)|refine ap.mk ⟨_,hp,rfl⟩ ?_ ?_)
      all_goals try first|with_reducible rfl|omega|exact .inl (by decide)|(simp; done)|rfl
      rw[decide_eq_decide]; omega
     ·refine sh ?_
      refine aq.one 100 ?_
      refine sh ?_
      refine aj (by decide) ?_
      refine sh ?_
      refine rT ?_
      all_goals repeat' (first|exact True.intro|refine And.intro ?_ ?_|(intro _u; clear _u)|(with_reducible first|exact ai.fg|refine eM ?_ ?_|refine eF ?_ ?_ ?_|refine eN ?_|refine eL ?_ ?_ ?_|refine eA ?_ ?_|refine ap.mk ⟨_,hp,rfl⟩ ?_ ?_)|refine ap.mk ⟨_,hp,rfl⟩ ?_ ?_)
      all_goals try first|with_reducible rfl|omega|exact .inl (by decide)|(simp; done)|rfl
      simp; omega
theorem rJ {R:Env} (h:Kn R) (d:Tb) (x:In) (hl:d.ins.length≤1000000):R.Mc 455 [.loc 0 1 0 0,.agg x.row] (jU R d) (.int .i64 (pm (be x) d.ins)) (jU R d) 1:=
 h.aat.bC 100 1 rfl rfl rfl fun X bb hfit hp=>by
  unfold jU
  refine sh ?_
  refine gW 100 (fun i:Nat=>i≤d.ins.length∧∀ (j:Nat) (y:In),j<i→d.ins[j]? =some y→be x y=false) (fun i=>⟨[(0,.loc 0 1 0 0),(3,.loc 1 1 0 0),(5,.int .i64 i)],[(0,.var (R.ty 56) [.aJ 40 (iz d.rows),.aJ 16 (cD d.ins)]),(1,.var (R.ty 44) x.row)],2⟩) (fun i=>d.ins.length - i) (0) ?_ ?_
  ·exact⟨Nat.zero_le _,fun j y hj=>absurd hj (Nat.not_lt_zero j)⟩
  ·intro i hi
   dsimp only
   refine sh ?_
   refine cS (fun h1=> ?_) (fun h1=> ?_)
   ·obtain⟨r,hr⟩:∃u_,d.ins[i]? =some u_:=⟨_,List.getElem?_eq_getElem (by first|omega|(simp<;>omega))⟩
    refine sh ?_
    refine aa hr ?_
    refine sh ?_
    refine ae.pure h.oW.DO.hb (po h.oW x r) rfl ?_
    by_cases h2:k7 x r<0
    ·refine sh ?_
     refine aj (by simp[h2]) ?_
     have hs:be x r=false:=by
      cases hs:be x r with
      |false=>rfl
      |true=>
       have:=eB.1 hs
       rw[dN]at h2; omega
     refine sh ?_
     refine lz (i+1) ?_ ?_
     ·refine⟨by omega,fun j y hj hy=> ?_⟩
      by_cases e:j=i
      ·subst e; rw[hr]at hy; cases hy; exact hs
      ·exact hi.2 j y (by omega) hy
     ·omega
    ·refine sh ?_
     refine af (by simp[h2]) ?_
     refine sh ?_
     refine aa hr ?_
     refine sh ?_
     refine ae.pure h.oW.DO.hb (po h.oW r x) rfl ?_
     by_cases hs:be x r=true
     ·have hs':=eB.1 hs
      refine sh ?_
      refine af (by rw[dN]at h2; simp[dN]; omega) ?_
      rw[zy hr hs hi.2]
      refine sh ?_
      exact rM [0]
     ·have hs':¬ (x.aT=r.aT∧x.dr=r.dr∧x.ct=r.ct∧x.n=r.n):=fun k=>hs (eB.2 k)
      have hs:be x r=false:=by simpa using hs
      refine sh ?_
      refine aj (by rw[dN]at h2; rw[Bool.not_eq_false',decide_eq_true_eq,dN]; omega) ?_
      refine sh ?_
      refine lz (i+1) ?_ ?_
      ·refine⟨by omega,fun j y hj hy=> ?_⟩
       by_cases e:j=i
       ·subst e; rw[hr]at hy; cases hy; exact hs
       ·exact hi.2 j y (by omega) hy
      ·omega
   ·rw[tV (fun j y hj=>hi.2 j y (by omega))]
    refine sh ?_
    exact rM [0]
def wh (t:Tb) (hd:Int) (f:Mf) (a:As):Tb × Int:=
 if hd<1∨65536<hd then (t,2)else if (aW t.rows hd).isSome=true then (t,10)else if du a≠0 then (t,du a)else if f.kind≠a.k then (t,12)else (⟨mP (xL ⟨hd,f,a⟩) ⟨hd,f,a⟩ t.rows,t.ins⟩,0)
theorem zC (l:List Rw) (h:Int):(0≤pm (dC h) l↔(aW l h).isSome=true):=by
 rcases fN (dC h) l with⟨i,r,e1,_,_,e2,_⟩|⟨e1,e2⟩
 ·have e2:aW l h=some r:=e2
  rw[e1,e2]; simp
 ·have e2:aW l h=none:=e2
  rw[e1,e2]; simp
instance {l:List Rw} {x:Rw}:iu (iz l++ [x.row]) (l.length+1):=⟨by simp⟩
set_option maxHeartbeats 4000000 in
theorem K6 {R:Env} (h:Pr R) (d:Tb) (hd:Int) (f:Mf) (a:As) (fa:a.Bg) (hl:d.rows.length≤1000000):
  R.Mc 441 [.loc 0 1 0 0,.int .i64 hd,.agg f.row,.agg a.row] (jU R d) (.int .i64 (wh d hd f a).2) (jU R (wh d hd f a).1) 1:=
 h.aar.bC 100 1 rfl rfl rfl fun X bb hfit hp=>by
  generalize hq:wh d hd f a=q
  unfold wh at hq
  unfold jU
  refine sh ?_
  refine cS (fun h1=> ?_) (fun h1=> ?_)
  ·rw[if_pos (by omega)]at hq
   subst hq
   refine sh ?_
   exact rM [0]
  ·refine sh ?_
   refine cS (fun h2=> ?_) (fun h2=> ?_)
   ·rw[if_pos (by omega)]at hq
    subst hq
    refine sh ?_
    exact rM [0]
   ·rw[if_neg (by omega)]at hq
    refine sh ?_
    refine cM false [0] (tZ h.tn d hd hl) ?_
    repeat (intro _; first|refine eK ?_|refine eP ?_)
    refine sh ?_
    refine cS (fun h3=> ?_) (fun h3=> ?_)
    ·rw[if_pos ((zC _ _).1 (by omega))]at hq
     subst hq
     refine sh ?_
     exact rM [0]
    ·rw[if_neg (fun k=>by have:=(zC _ _).2 k; omega)]at hq
     refine sh ?_
     refine ae.pure h.n295.Vx.hb (Hr h.n295 a fa) rfl ?_
     refine sh ?_
     refine cS (fun h4=> ?_) (fun h4=> ?_)
     ·rw[if_pos h4]at hq
      subst hq
      refine sh ?_
      exact rM [0]
     ·rw[if_neg (by simpa using h4)]at hq
      refine sh ?_
      refine cS (fun h5=> ?_) (fun h5=> ?_)
      ·rw[if_pos h5]at hq
       subst hq
       refine sh ?_
       exact rM [0]
      ·rw[if_neg (by simpa using h5)]at hq
       obtain⟨x,hx⟩:∃x:Rw,x=⟨hd,f,a⟩:=⟨_,rfl⟩
       rw[←hx]at hq
       have hxh:x.h=hd:=by rw[hx]
       have hxr:x.row= .int .i64 hd::(f.row++a.row):=by rw[hx]; rfl
       refine sh ?_
       refine gW 100 (fun i:Nat=>i≤d.rows.length) (fun i=>⟨[(0,.loc 0 1 0 0),(1,.int .i64 hd),(6,.loc 1 1 0 0),(7,.loc 2 1 0 0),(10,.bc 3 (c5 (xL x) x (d.rows.take i)).1.length),(11,.bool (c5 (xL x) x (d.rows.take i)).2),(12,.int .i64 i)],[(0,.var (R.ty 56) [.aJ 40 (iz d.rows),.aJ 16 (cD d.ins)]),(1,.var (R.ty 2) f.row),(2,.var (R.ty 39) a.row),(3,.arr (R.ty 45) 40 (iz (c5 (xL x) x (d.rows.take i)).1))],4⟩) (fun i=>d.rows.length - i) (0) ?_ ?_
       ·exact Nat.zero_le _
       ·intro i hi
        dsimp only
        have hlen:=pj (p:=xL x) (x:=x) (d.rows.take i)
        rw[List.length_take]at hlen
        refine sh ?_
        refine cS (fun h6=> ?_) (fun h6=> ?_)
        ·obtain⟨r,hr⟩:∃u_,d.rows[i]? =some u_:=⟨_,List.getElem?_eq_getElem (by omega)⟩
         have e1:c5 (xL x) x (d.rows.take (i+1))=jr (xL x) x (c5 (xL x) x (d.rows.take i)) r:=by rw[ay hr,mH]
         obtain⟨⟨O,b⟩,hO⟩:∃s,c5 (xL x) x (d.rows.take i)=s:=⟨_,rfl⟩
         rw[hO]at e1 hlen ⊢
         dsimp only at hlen ⊢
         cases b with
         |false=>
          refine sh ?_
          refine aa hr ?_
          refine sh ?_
          refine cS (fun h7=> ?_) (fun h7=> ?_)
          ·have e2:c5 (xL x) x (d.rows.take (i+1))=(O++ [x]++ [r],true):=by rw[e1]; unfold jr; rw[if_pos ⟨rfl,by simp[xL]; omega⟩]
           refine sh ?_
           refine aa hr ?_
           refine sh ?_
           refine nX (i+1) ?_ ?_ ⟨_,hp,rfl⟩ ?_ ?_
           ·omega
           ·omega
           ·all_goals repeat' (first|exact True.intro|refine And.intro ?_ ?_|(intro _u; clear _u)|(with_reducible first|exact ai.fg|refine eM ?_ ?_|refine eF ?_ ?_ ?_|refine eN ?_|refine eL ?_ ?_ ?_|refine eA ?_ ?_|refine ap.mk ⟨_,hp,rfl⟩ ?_ ?_)|refine ap.mk ⟨_,hp,rfl⟩ ?_ ?_)
            all_goals try first|with_reducible rfl|omega|exact .inl (by decide)|(simp; done)|rfl
            all_goals first|(rw[e2]; done)|(rw[e2]; simp; done)
           ·all_goals repeat' (first|exact True.intro|refine And.intro ?_ ?_|(intro _u; clear _u)|(with_reducible first|exact ai.fg|refine eM ?_ ?_|refine eF ?_ ?_ ?_|refine eN ?_|refine eL ?_ ?_ ?_|refine eA ?_ ?_|refine ap.mk ⟨_,hp,rfl⟩ ?_ ?_)|refine ap.mk ⟨_,hp,rfl⟩ ?_ ?_)
            all_goals try first|with_reducible rfl|omega|exact .inl (by decide)|(simp; done)|rfl
            all_goals first|(right; simp[iz,Rw.row]; done)|(rw[e2]; simp[iz,Rw.row,hx]; done)
          ·have e2:c5 (xL x) x (d.rows.take (i+1))=(O++ [r],false):=by rw[e1]; unfold jr; rw[if_neg (by simp[xL]; omega)]
           refine sh ?_
           refine aa hr ?_
           refine sh ?_
           refine nX (i+1) ?_ ?_ ⟨_,hp,rfl⟩ ?_ ?_
           ·omega
           ·omega
           ·all_goals repeat' (first|exact True.intro|refine And.intro ?_ ?_|(intro _u; clear _u)|(with_reducible first|exact ai.fg|refine eM ?_ ?_|refine eF ?_ ?_ ?_|refine eN ?_|refine eL ?_ ?_ ?_|refine eA ?_ ?_|refine ap.mk ⟨_,hp,rfl⟩ ?_ ?_)|refine ap.mk ⟨_,hp,rfl⟩ ?_ ?_)
            all_goals try first|with_reducible rfl|omega|exact .inl (by decide)|(simp; done)|rfl
            all_goals first|(rw[e2]; done)|(rw[e2]; simp; done)
           ·all_goals repeat' (first|exact True.intro|refine And.intro ?_ ?_|(intro _u; clear _u)|(with_reducible first|exact ai.fg|refine eM ?_ ?_|refine eF ?_ ?_ ?_|refine eN ?_|refine eL ?_ ?_ ?_|refine eA ?_ ?_|refine ap.mk ⟨_,hp,rfl⟩ ?_ ?_)|refine ap.mk ⟨_,hp,rfl⟩ ?_ ?_)
            all_goals try first|with_reducible rfl|omega|exact .inl (by decide)|(simp; done)|rfl
            all_goals first|(right; simp[iz,Rw.row]; done)|(rw[e2]; simp[iz,Rw.row,hx]; done)
         |true=>
          have e2:c5 (xL x) x (d.rows.take (i+1))=(O++ [r],true):=by rw[e1]; unfold jr; rw[if_neg (by simp)]
          refine sh ?_
          refine aa hr ?_
          refine sh ?_
          refine nX (i+1) ?_ ?_ ⟨_,hp,rfl⟩ ?_ ?_
          ·omega
          ·omega
          ·all_goals repeat' (first|exact True.intro|refine And.intro ?_ ?_|(intro _u; clear _u)|(with_reducible first|exact ai.fg|refine eM ?_ ?_|refine eF ?_ ?_ ?_|refine eN ?_|refine eL ?_ ?_ ?_|refine eA ?_ ?_|refine ap.mk ⟨_,hp,rfl⟩ ?_ ?_)|refine ap.mk ⟨_,hp,rfl⟩ ?_ ?_)
           all_goals try first|with_reducible rfl|omega|exact .inl (by decide)|(simp; done)|rfl
           all_goals first|(rw[e2]; done)|(rw[e2]; simp; done)
          ·all_goals repeat' (first|exact True.intro|refine And.intro ?_ ?_|(intro _u; clear _u)|(with_reducible first|exact ai.fg|refine eM ?_ ?_|refine eF ?_ ?_ ?_|refine eN ?_|refine eL ?_ ?_ ?_|refine eA ?_ ?_|refine ap.mk ⟨_,hp,rfl⟩ ?_ ?_)|refine ap.mk ⟨_,hp,rfl⟩ ?_ ?_)
           all_goals try first|with_reducible rfl|omega|exact .inl (by decide)|(simp; done)|rfl
           all_goals first|(right; simp[iz,Rw.row]; done)|(rw[e2]; simp[iz,Rw.row,hx]; done)
        ·rw[List.take_of_length_le (by omega)]at hlen ⊢
         obtain⟨⟨O,b⟩,hO⟩:∃s,c5 (xL x) x d.rows=s:=⟨_,rfl⟩
         have hL:mP (xL x) x d.rows=if b=true then O else O++ [x]:=by unfold mP; rw[hO]
         rw[hL]at hq
         rw[hO]at hlen ⊢
         dsimp only at hlen ⊢
         cases b with
         |false=>
          rw[if_neg (by simp)]at hq
          subst hq
          refine sh ?_
          refine rM [0] ?_
          all_goals repeat' (first|exact True.intro|refine And.intro ?_ ?_|(intro _u; clear _u)|(with_reducible first|exact ai.fg|refine eM ?_ ?_|refine eF ?_ ?_ ?_|refine eN ?_|refine eL ?_ ?_ ?_|refine eA ?_ ?_|refine ap.mk ⟨_,hp,rfl⟩ ?_ ?_)|refine ap.mk ⟨_,hp,rfl⟩ ?_ ?_)
          all_goals try first|with_reducible rfl|omega|exact .inl (by decide)|(simp; done)|rfl
          all_goals (simp[iz,Rw.row,hx]; done)
         |true=>
          rw[if_pos rfl]at hq
          subst hq
          refine sh ?_
          exact rM [0]
end Go.UM
namespace Go.UM
open Go.AM
set_option maxRecDepth 4000
theorem wi {α:Type} (l:List α) (i:Nat):l.take i++l.drop (i+1)=l.eraseIdx i:=(List.eraseIdx_eq_take_drop_succ ..).symm
theorem HT (l:List In) (i:Nat):(cD l).take i=cD (l.take i):=by simp[cD,List.map_take]
theorem HU (l:List In) (i:Nat):(cD l).drop i=cD (l.drop i):=by simp[cD,List.map_drop]
theorem Qj (l:List Rw) (i:Nat):(iz l).take i=iz (l.take i):=by simp[iz,List.map_take]
theorem Qk (l:List Rw) (i:Nat):(iz l).drop i=iz (l.drop i):=by simp[iz,List.map_drop]
theorem Cy (a b:List In):cD (a++b)=cD a++cD b:=by simp[cD]
def wj (t:Tb) (x:In):Tb × Int:=if (dZ t.ins x).isSome=true then (⟨t.rows,t.ins.eraseP (be x)⟩,0)else (t,11)
theorem K7 {R:Env} (h:Pu R) (d:Tb) (x:In) (hl:d.ins.length≤1000000):R.Mc 444 [.loc 0 1 0 0,.agg x.row] (jU R d) (.int .i64 (wj d x).2) (jU R (wj d x).1) 1:=
 h.aav.bC 100 1 rfl rfl rfl fun X bb hfit hp=>by
  generalize hq:wj d x=q
  unfold wj at hq
  unfold jU
  refine sh ?_
  refine cM false [0] (rJ h.y1 d x hl) ?_
  repeat (intro _; first|refine eK ?_|refine eP ?_)
  rcases fN (be x) d.ins with⟨i,r,e1,e2,_,e3,e4⟩|⟨e1,e2⟩
  ·have e3:dZ d.ins x=some r:=e3
   rw[e3,if_pos (by simp)]at hq
   have hi:=(List.getElem?_eq_some_iff.1 e2).1
   rw[e1]
   refine sh ?_
   refine aj (by simp) ?_
   refine sh ?_
   refine jF (by rw[Int.toNat_natCast,HT]) ?_
   refine sh ?_
   refine jF (by rw[show ((i:Int)+1).toNat=i+1 by omega,HU]) ?_
   subst hq
   refine sh ?_
   refine rM [0] ?_
   all_goals repeat' (first|exact True.intro|refine And.intro ?_ ?_|(intro _u; clear _u)|(with_reducible first|exact ai.fg|refine eM ?_ ?_|refine eF ?_ ?_ ?_|refine eN ?_|refine eL ?_ ?_ ?_|refine eA ?_ ?_|refine ap.mk ⟨_,hp,rfl⟩ ?_ ?_)|refine ap.mk ⟨_,hp,rfl⟩ ?_ ?_)
   all_goals try first|with_reducible rfl|omega|exact .inl (by decide)|(simp; done)|rfl
   all_goals (show []++cD (d.ins.take i)++cD (d.ins.drop (i+1))=cD (d.ins.eraseP (be x)); rw[←e4,←wi,Cy,List.nil_append])
  ·have e2:dZ d.ins x=none:=e2
   rw[e2,if_neg (by simp)]at hq
   rw[e1]
   refine sh ?_
   refine af (by simp) ?_
   subst hq
   refine sh ?_
   exact rM [0]
def mI (t:Tb) (hd:Int):Tb × Int:=if (aW t.rows hd).isSome=true then (⟨t.rows.eraseP (dC hd),t.ins.filter fun x=> !fP hd x⟩,0)else (t,11)
theorem Ey {α:Type} {p:α→Bool} {l:List α} {i:Nat} {x:α} (h:l[i]? =some x):(l.take (i+1)).filter p=(l.take i).filter p++(if p x=true then [x]else []):=by
 rw[ay h,List.filter_append]
 congr 1
 simp[List.filter_cons]
set_option maxHeartbeats 1000000 in
theorem Ez {R:Env} (h:Ps R) (d:Tb) (hd:Int) (hl:d.rows.length≤1000000) (hi:d.ins.length≤1000000):R.Mc 442 [.loc 0 1 0 0,.int .i64 hd] (jU R d) (.int .i64 (mI d hd).2) (jU R (mI d hd).1) 1:=
 h.aas.bC 100 1 rfl rfl rfl fun X bb hfit hp=>by
  generalize hq:mI d hd=q
  unfold mI at hq
  unfold jU
  refine sh ?_
  refine cM false [0] (tZ h.tn d hd hl) ?_
  repeat (intro _; first|refine eK ?_|refine eP ?_)
  rcases fN (dC hd) d.rows with⟨a,r,e1,e2,_,e3,e4⟩|⟨e1,e2⟩
  ·have e3:aW d.rows hd=some r:=e3
   rw[e3,if_pos (by simp)]at hq
   have ha:=(List.getElem?_eq_some_iff.1 e2).1
   rw[e1]
   refine sh ?_
   refine aj (by simp) ?_
   refine sh ?_
   refine jF (by rw[Int.toNat_natCast,Qj]) ?_
   refine sh ?_
   refine jF (by rw[show ((a:Int)+1).toNat=a+1 by omega,Qk]) ?_
   refine sh ?_
   refine aq.inv 100 (fun i:Nat=>i≤d.ins.length) (fun i=>⟨[(0,.loc 0 1 0 0),(1,.int .i64 hd),(6,.bc 2 ((d.ins.take i).filter fun x=> !fP hd x).length),(7,.int .i64 i)],[(0,.var (R.ty 56) [.aJ 40 (iz (d.rows.eraseP (dC hd))),.aJ 16 (cD d.ins)]),(2,.arr (R.ty 44) 16 (cD ((d.ins.take i).filter fun x=> !fP hd x)))],3⟩) (fun i=>d.ins.length - i) (0) ?_ ⟨⟨_,hp,rfl⟩,?_,?_⟩ ?_
   ·exact Nat.zero_le _
   ·all_goals repeat' (first|exact True.intro|refine And.intro ?_ ?_|(intro _u; clear _u)|(with_reducible first|exact ai.fg|refine eM ?_ ?_|refine eF ?_ ?_ ?_|refine eN ?_|refine eL ?_ ?_ ?_|refine eA ?_ ?_|refine ap.mk ⟨_,hp,rfl⟩ ?_ ?_)|refine ap.mk ⟨_,hp,rfl⟩ ?_ ?_)
    all_goals try first|with_reducible rfl|omega|exact .inl (by decide)|(simp; done)|rfl
   ·all_goals repeat' (first|exact True.intro|refine And.intro ?_ ?_|(intro _u; clear _u)|(with_reducible first|exact ai.fg|refine eM ?_ ?_|refine eF ?_ ?_ ?_|refine eN ?_|refine eL ?_ ?_ ?_|refine eA ?_ ?_|refine ap.mk ⟨_,hp,rfl⟩ ?_ ?_)|refine ap.mk ⟨_,hp,rfl⟩ ?_ ?_)
    all_goals try first|with_reducible rfl|omega|exact .inl (by decide)|(simp; done)|rfl
    all_goals (rw[←e4,←wi]; simp[iz])
   ·intro i hii
    dsimp only
    refine sh ?_
    refine cS (fun h1=> ?_) (fun h1=> ?_)
    ·obtain⟨x,hx⟩:∃u_,d.ins[i]? =some u_:=⟨_,List.getElem?_eq_getElem (by first|omega|(simp<;>omega))⟩
     refine sh ?_
     refine aa hx ?_
     have ef:=Ey (p:=fun x=> !fP hd x) hx
     have el:((d.ins.take i).filter fun x=> !fP hd x).length≤i:=Nat.le_trans (List.length_filter_le _ _) (by rw[List.length_take]; omega)
     obtain⟨O,hO⟩:∃O,((d.ins.take i).filter fun x=> !fP hd x)=O:=⟨_,rfl⟩
     rw[hO]at ef el ⊢
     refine sh ?_
     refine cS (fun k1=> ?_) (fun k1=> ?_)
     ·refine sh ?_
      refine cS (fun k2=> ?_) (fun k2=> ?_)
      ·refine sh ?_
       refine cS (fun k3=> ?_) (fun k3=> ?_)
       ·have e:fP hd x=false:=by simp[fP]; omega
        rw[e,if_pos (by rfl)]at ef
        refine sh ?_
        refine nX (i+1) ?_ ?_ ⟨_,hp,rfl⟩ ?_ ?_
        ·omega
        ·omega
        ·all_goals repeat' (first|exact True.intro|refine And.intro ?_ ?_|(intro _u; clear _u)|(with_reducible first|exact ai.fg|refine eM ?_ ?_|refine eF ?_ ?_ ?_|refine eN ?_|refine eL ?_ ?_ ?_|refine eA ?_ ?_|refine ap.mk ⟨_,hp,rfl⟩ ?_ ?_)|refine ap.mk ⟨_,hp,rfl⟩ ?_ ?_)
         all_goals try first|with_reducible rfl|omega|exact .inl (by decide)|(simp; done)|rfl
         all_goals first|(rw[ef]; done)|(rw[ef]; simp; done)
        ·all_goals repeat' (first|exact True.intro|refine And.intro ?_ ?_|(intro _u; clear _u)|(with_reducible first|exact ai.fg|refine eM ?_ ?_|refine eF ?_ ?_ ?_|refine eN ?_|refine eL ?_ ?_ ?_|refine eA ?_ ?_|refine ap.mk ⟨_,hp,rfl⟩ ?_ ?_)|refine ap.mk ⟨_,hp,rfl⟩ ?_ ?_)
         all_goals try first|with_reducible rfl|omega|exact .inl (by decide)|(simp; done)|rfl
         all_goals first|(right; simp[cD,In.row]; done)|(rw[ef,Cy]; rfl)
       ·have e:fP hd x=true:=by simp[fP]; omega
        rw[e,if_neg (by simp)]at ef
        refine sh ?_
        refine nX (i+1) ?_ ?_ ⟨_,hp,rfl⟩ ?_ ?_
        ·omega
        ·omega
        ·all_goals repeat' (first|exact True.intro|refine And.intro ?_ ?_|(intro _u; clear _u)|(with_reducible first|exact ai.fg|refine eM ?_ ?_|refine eF ?_ ?_ ?_|refine eN ?_|refine eL ?_ ?_ ?_|refine eA ?_ ?_|refine ap.mk ⟨_,hp,rfl⟩ ?_ ?_)|refine ap.mk ⟨_,hp,rfl⟩ ?_ ?_)
         all_goals try first|with_reducible rfl|omega|exact .inl (by decide)|(simp; done)|rfl
         all_goals (rw[ef]; simp)
        ·all_goals repeat' (first|exact True.intro|refine And.intro ?_ ?_|(intro _u; clear _u)|(with_reducible first|exact ai.fg|refine eM ?_ ?_|refine eF ?_ ?_ ?_|refine eN ?_|refine eL ?_ ?_ ?_|refine eA ?_ ?_|refine ap.mk ⟨_,hp,rfl⟩ ?_ ?_)|refine ap.mk ⟨_,hp,rfl⟩ ?_ ?_)
         all_goals try first|with_reducible rfl|omega|exact .inl (by decide)|(simp; done)|rfl
         all_goals (rw[ef]; simp)
      ·have e:fP hd x=true:=by simp[fP]; omega
       rw[e,if_neg (by simp)]at ef
       refine sh ?_
       refine nX (i+1) ?_ ?_ ⟨_,hp,rfl⟩ ?_ ?_
       ·omega
       ·omega
       ·all_goals repeat' (first|exact True.intro|refine And.intro ?_ ?_|(intro _u; clear _u)|(with_reducible first|exact ai.fg|refine eM ?_ ?_|refine eF ?_ ?_ ?_|refine eN ?_|refine eL ?_ ?_ ?_|refine eA ?_ ?_|refine ap.mk ⟨_,hp,rfl⟩ ?_ ?_)|refine ap.mk ⟨_,hp,rfl⟩ ?_ ?_)
        all_goals try first|with_reducible rfl|omega|exact .inl (by decide)|(simp; done)|rfl
        all_goals (rw[ef]; simp)
       ·all_goals repeat' (first|exact True.intro|refine And.intro ?_ ?_|(intro _u; clear _u)|(with_reducible first|exact ai.fg|refine eM ?_ ?_|refine eF ?_ ?_ ?_|refine eN ?_|refine eL ?_ ?_ ?_|refine eA ?_ ?_|refine ap.mk ⟨_,hp,rfl⟩ ?_ ?_)|refine ap.mk ⟨_,hp,rfl⟩ ?_ ?_)
        all_goals try first|with_reducible rfl|omega|exact .inl (by decide)|(simp; done)|rfl
        all_goals (rw[ef]; simp)
     ·have e:fP hd x=true:=by simp[fP]; omega
      rw[e,if_neg (by simp)]at ef
      refine sh ?_
      refine nX (i+1) ?_ ?_ ⟨_,hp,rfl⟩ ?_ ?_
      ·omega
      ·omega
      ·all_goals repeat' (first|exact True.intro|refine And.intro ?_ ?_|(intro _u; clear _u)|(with_reducible first|exact ai.fg|refine eM ?_ ?_|refine eF ?_ ?_ ?_|refine eN ?_|refine eL ?_ ?_ ?_|refine eA ?_ ?_|refine ap.mk ⟨_,hp,rfl⟩ ?_ ?_)|refine ap.mk ⟨_,hp,rfl⟩ ?_ ?_)
       all_goals try first|with_reducible rfl|omega|exact .inl (by decide)|(simp; done)|rfl
       all_goals (rw[ef]; simp)
      ·all_goals repeat' (first|exact True.intro|refine And.intro ?_ ?_|(intro _u; clear _u)|(with_reducible first|exact ai.fg|refine eM ?_ ?_|refine eF ?_ ?_ ?_|refine eN ?_|refine eL ?_ ?_ ?_|refine eA ?_ ?_|refine ap.mk ⟨_,hp,rfl⟩ ?_ ?_)|refine ap.mk ⟨_,hp,rfl⟩ ?_ ?_)
       all_goals try first|with_reducible rfl|omega|exact .inl (by decide)|(simp; done)|rfl
       all_goals (rw[ef]; simp)
    ·rw[List.take_of_length_le (by omega)]
     subst hq
     refine sh ?_
     exact rM [0]
  ·have e2:aW d.rows hd=none:=e2
   rw[e2,if_neg (by simp)]at hq
   rw[e1]
   refine sh ?_
   refine af (by simp) ?_
   subst hq
   refine sh ?_
   exact rM [0]
def EA (t:Tb) (x:In):Tb × Int:=
 if x.n<0∨65536<x.n then (t,2)else if bT t.rows x≠0 then (t,bT t.rows x)else if (dZ t.ins x).isSome=true then (t,10)
 else match aW t.rows x.aT with
  |none=>(t,11)
  |some r=>if tQ x.t r.a.m.v≠0 then (t,tQ x.t r.a.m.v)else (⟨t.rows,mP (iA x) x t.ins⟩,0)
theorem p' (h:Int) (l:List Rw):(∃ (i:Nat) (r:Rw),pm (dC h) l=i∧l[i]? =some r∧aW l h=some r)∨(pm (dC h) l= -1∧aW l h=none):=by
 rcases fN (dC h) l with⟨i,r,e1,e2,_,e3,_⟩|⟨e1,e2⟩
 ·exact .inl ⟨i,r,e1,e2,e3⟩
 ·exact .inr ⟨e1,e2⟩
theorem oh (x:In) (l:List In):(0≤pm (be x) l∧(dZ l x).isSome=true)∨(pm (be x) l= -1∧(dZ l x).isSome=false):=by
 rcases fN (be x) l with⟨i,r,e1,e2,_,e3,_⟩|⟨e1,e2⟩
 ·have e3:dZ l x=some r:=e3
  exact .inl ⟨by omega,by rw[e3]; rfl⟩
 ·have e2:dZ l x=none:=e2
  exact .inr ⟨e1,by rw[e2]; rfl⟩
end Go.UM
namespace Go.UM
open Go.AM
set_option maxRecDepth 4000
set_option maxHeartbeats 8000000 in
theorem Ql {R:Env} (h:Pt R) (d:Tb) (x:In) (ok:∀r ∈ d.rows,fE r) (hx:x.t.I) (hl:d.rows.length≤1000000) (hil:d.ins.length≤1000000):
  R.Mc 443 [.loc 0 1 0 0,.agg x.row] (jU R d) (.int .i64 (EA d x).2) (jU R (EA d x).1) 1:=
 h.aau.bC 100 1 rfl rfl rfl fun X bb hfit hp=>by
  generalize hq:EA d x=q
  unfold EA at hq
  unfold jU
  refine sh ?_
  refine cS (fun h1=> ?_) (fun h1=> ?_)
  ·rw[if_pos (by omega)]at hq
   subst hq
   refine sh ?_
   exact rM [0]
  ·refine sh ?_
   refine cS (fun h2=> ?_) (fun h2=> ?_)
   ·rw[if_pos (by omega)]at hq
    subst hq
    refine sh ?_
    exact rM [0]
   ·rw[if_neg (by omega)]at hq
    refine sh ?_
    refine cM false [0] (tZ h.tn d x.aT hl) ?_
    repeat (intro _; first|refine eK ?_|refine eP ?_)
    refine sh ?_
    refine cM false [0] (tZ h.tn d x.dr hl) ?_
    repeat (intro _; first|refine eK ?_|refine eP ?_)
    refine sh ?_
    refine cM false [0] (tZ h.tn d x.ct hl) ?_
    repeat (intro _; first|refine eK ?_|refine eP ?_)
    rcases p' x.aT d.rows with⟨i,a,ha1,ha2,qT⟩|⟨ha1,qT⟩
    ·have la:=(List.getElem?_eq_some_iff.1 ha2).1
     rcases p' x.dr d.rows with⟨j,b,uq,R3,Nn⟩|⟨uq,Nn⟩
     ·have lb:=(List.getElem?_eq_some_iff.1 R3).1
      rcases p' x.ct d.rows with⟨k,c,hc1,jV,ur⟩|⟨hc1,ur⟩
      ·have lc:=(List.getElem?_eq_some_iff.1 jV).1
       rw[ha1,uq,hc1]
       have et:bT d.rows x=if x.ct=0 then (if a.f.kind≠1∨b.f.kind≠3 then 12 else 0)else if a.f.kind≠1∨b.f.kind≠3∨c.f.kind≠2 then 12 else 0:=by unfold bT; rw[qT,Nn,ur]
       refine sh ?_
       refine aj (by simp) ?_
       refine sh ?_
       refine aj (by simp) ?_
       refine sh ?_
       refine aj (by simp) ?_
       refine sh ?_
       refine aa ha2 ?_
       refine sh ?_
       refine cS (fun k1=> ?_) (fun k1=> ?_)
       ·rw[if_pos (by rw[et]; split<;>rw[if_pos (.inl k1)]<;>simp),show bT d.rows x=12 by rw[et]; split<;>rw[if_pos (.inl k1)]]at hq
        subst hq
        refine sh ?_
        exact rM [0]
       ·refine sh ?_
        refine aa R3 ?_
        refine sh ?_
        refine cS (fun k2=> ?_) (fun k2=> ?_)
        ·rw[if_pos (by rw[et]; split; rw[if_pos (.inr k2)]; simp; rw[if_pos (.inr (.inl k2))]; simp),show bT d.rows x=12 by rw[et]; split; rw[if_pos (.inr k2)]; rw[if_pos (.inr (.inl k2))]]at hq
         subst hq
         refine sh ?_
         exact rM [0]
        ·refine sh ?_
         refine cS (fun k3=> ?_) (fun k3=> ?_)
         ·refine sh ?_
          refine aa jV ?_
          refine sh ?_
          refine cS (fun k4=> ?_) (fun k4=> ?_)
          ·have zD:bT d.rows x=12:=by rw[et,if_neg k3,if_pos (.inr (.inr k4))]
           rw[if_pos (by rw[zD]; simp),zD]at hq
           subst hq
           refine sh ?_
           exact rM [0]
          ·have zD:bT d.rows x=0:=by rw[et,if_neg k3,if_neg (by omega)]
           rw[if_neg (by rw[zD]; simp)]at hq
           have hvs:=(ok a (cz qT).1).Co (by omega)
           refine sh ?_
           refine cM false [0] (rJ h.y1 d x hil) ?_
           repeat (intro _; first|refine eK ?_|refine eP ?_)
           rcases oh x d.ins with⟨f1,f2⟩|⟨f1,f2⟩
           ·rw[if_pos f2]at hq
            refine sh ?_
            refine af (by simp; omega) ?_
            subst hq
            refine sh ?_
            exact rM [0]
           ·rw[if_neg (by rw[f2]; simp),qT]at hq
            rw[f1]
            refine sh ?_
            refine aj (by simp) ?_
            dsimp only at hq
            refine sh ?_
            refine aa ha2 ?_
            refine sh ?_
            refine gW 100 (fun k:Nat=>k≤a.a.m.v.length∧∀ (j:Nat) (u:T3),j<k→a.a.m.v[j]? =some u→(bX x.t u).2=0) (fun k=>⟨[(0,.loc 0 1 0 0),(3,.loc 1 1 0 0),(8,.aJ 3 (bJ a.a.m.v)),(9,.int .i64 k)],[(0,.var (R.ty 56) [.aJ 40 (iz d.rows),.aJ 16 (cD d.ins)]),(1,.var (R.ty 44) x.row)],2⟩) (fun k=>a.a.m.v.length - k) (0) ?_ ?_
            ·exact⟨Nat.zero_le _,fun j u hj=>absurd hj (Nat.not_lt_zero j)⟩
            ·intro k hk
             dsimp only
             have hlen:=hvs.1
             refine sh ?_
             refine cS (fun h4=> ?_) (fun h4=> ?_)
             ·obtain⟨v,hv⟩:∃u_,a.a.m.v[k]? =some u_:=⟨_,List.getElem?_eq_getElem (by first|omega|(simp<;>omega))⟩
              refine sh ?_
              refine aa hv ?_
              refine sh ?_
              refine ae.pure h.n242.Kg.hb (pZ h.n242 hx (xF (hvs.2 v (List.mem_of_getElem? hv)))) rfl ?_
              refine sh ?_
              refine cS (fun h5=> ?_) (fun h5=> ?_)
              ·rw[if_pos (by rw[jK hv hk.2 h5]; exact h5),jK hv hk.2 h5]at hq
               subst hq
               refine sh ?_
               exact rM [0]
              ·refine sh ?_
               refine lz (k+1) ?_ ?_
               ·refine⟨by omega,fun j u hj hu=> ?_⟩
                by_cases e:j=k
                ·subst e
                 rw[hv]at hu
                 cases hu
                 exact h5
                ·exact hk.2 j u (by omega) hu
               ·omega
             ·rw[mD (fun j u hj=>hk.2 j u (by omega)),if_neg (by simp)]at hq
              refine sh ?_
              refine gW 100 (fun i:Nat=>i≤d.ins.length) (fun i=>⟨[(0,.loc 0 1 0 0),(3,.loc 1 1 0 0),(12,.bc 2 (c5 (iA x) x (d.ins.take i)).1.length),(13,.bool (c5 (iA x) x (d.ins.take i)).2),(14,.int .i64 i)],[(0,.var (R.ty 56) [.aJ 40 (iz d.rows),.aJ 16 (cD d.ins)]),(1,.var (R.ty 44) x.row),(2,.arr (R.ty 44) 16 (cD (c5 (iA x) x (d.ins.take i)).1))],3⟩) (fun i=>d.ins.length - i) (0) ?_ ?_
              ·exact Nat.zero_le _
              ·intro i hi
               dsimp only
               have hlen:=pj (p:=iA x) (x:=x) (d.ins.take i)
               rw[List.length_take]at hlen
               refine sh ?_
               refine cS (fun h6=> ?_) (fun h6=> ?_)
               ·obtain⟨r,hr⟩:∃u_,d.ins[i]? =some u_:=⟨_,List.getElem?_eq_getElem (by omega)⟩
                have e1:c5 (iA x) x (d.ins.take (i+1))=jr (iA x) x (c5 (iA x) x (d.ins.take i)) r:=by rw[ay hr,mH]
                obtain⟨⟨O,b⟩,hO⟩:∃s,c5 (iA x) x (d.ins.take i)=s:=⟨_,rfl⟩
                rw[hO]at e1 hlen ⊢
                dsimp only at hlen ⊢
                cases b with
                |false=>
                 refine sh ?_
                 refine aa hr ?_
                 refine sh ?_
                 refine ae.pure h.oW.DO.hb (po h.oW x r) rfl ?_
                 by_cases h7:k7 x r<0
                 ·refine sh ?_
                  refine af (by simpa using h7) ?_
                  have e2:c5 (iA x) x (d.ins.take (i+1))=(O++ [x]++ [r],true):=by rw[e1]; unfold jr; rw[if_pos ⟨rfl,by simp[iA]; omega⟩]
                  refine sh ?_
                  refine aa hr ?_
                  refine sh ?_
                  refine nX (i+1) ?_ ?_ ⟨_,hp,rfl⟩ ?_ ?_
                  ·omega
                  ·omega
                  ·all_goals repeat' (first|exact True.intro|refine And.intro ?_ ?_|(intro _u; clear _u)|(with_reducible first|exact ai.fg|refine eM ?_ ?_|refine eF ?_ ?_ ?_|refine eN ?_|refine eL ?_ ?_ ?_|refine eA ?_ ?_|refine ap.mk ⟨_,hp,rfl⟩ ?_ ?_)|refine ap.mk ⟨_,hp,rfl⟩ ?_ ?_)
                   all_goals try first|with_reducible rfl|omega|exact .inl (by decide)|(simp; done)|rfl
                   all_goals first|(rw[e2]; done)|(rw[e2]; simp; done)
                  ·all_goals repeat' (first|exact True.intro|refine And.intro ?_ ?_|(intro _u; clear _u)|(with_reducible first|exact ai.fg|refine eM ?_ ?_|refine eF ?_ ?_ ?_|refine eN ?_|refine eL ?_ ?_ ?_|refine eA ?_ ?_|refine ap.mk ⟨_,hp,rfl⟩ ?_ ?_)|refine ap.mk ⟨_,hp,rfl⟩ ?_ ?_)
                   all_goals try first|with_reducible rfl|omega|exact .inl (by decide)|(simp; done)|rfl
                   all_goals first|(right; simp[cD,In.row]; done)|(rw[e2]; simp[cD,In.row]; done)
                 ·refine sh ?_
                  refine aj (by simpa using h7) ?_
                  have e2:c5 (iA x) x (d.ins.take (i+1))=(O++ [r],false):=by rw[e1]; unfold jr; rw[if_neg (by simp[iA]; omega)]
                  refine sh ?_
                  refine aa hr ?_
                  refine sh ?_
                  refine nX (i+1) ?_ ?_ ⟨_,hp,rfl⟩ ?_ ?_
                  ·omega
                  ·omega
                  ·all_goals repeat' (first|exact True.intro|refine And.intro ?_ ?_|(intro _u; clear _u)|(with_reducible first|exact ai.fg|refine eM ?_ ?_|refine eF ?_ ?_ ?_|refine eN ?_|refine eL ?_ ?_ ?_|refine eA ?_ ?_|refine ap.mk ⟨_,hp,rfl⟩ ?_ ?_)|refine ap.mk ⟨_,hp,rfl⟩ ?_ ?_)
                   all_goals try first|with_reducible rfl|omega|exact .inl (by decide)|(simp; done)|rfl
                   all_goals first|(rw[e2]; done)|(rw[e2]; simp; done)
                  ·all_goals repeat' (first|exact True.intro|refine And.intro ?_ ?_|(intro _u; clear _u)|(with_reducible first|exact ai.fg|refine eM ?_ ?_|refine eF ?_ ?_ ?_|refine eN ?_|refine eL ?_ ?_ ?_|refine eA ?_ ?_|refine ap.mk ⟨_,hp,rfl⟩ ?_ ?_)|refine ap.mk ⟨_,hp,rfl⟩ ?_ ?_)
                   all_goals try first|with_reducible rfl|omega|exact .inl (by decide)|(simp; done)|rfl
                   all_goals first|(right; simp[cD,In.row]; done)|(rw[e2]; simp[cD,In.row]; done)
                |true=>
                 have e2:c5 (iA x) x (d.ins.take (i+1))=(O++ [r],true):=by rw[e1]; unfold jr; rw[if_neg (by simp)]
                 refine sh ?_
                 refine aa hr ?_
                 refine sh ?_
                 refine nX (i+1) ?_ ?_ ⟨_,hp,rfl⟩ ?_ ?_
                 ·omega
                 ·omega
                 ·all_goals repeat' (first|exact True.intro|refine And.intro ?_ ?_|(intro _u; clear _u)|(with_reducible first|exact ai.fg|refine eM ?_ ?_|refine eF ?_ ?_ ?_|refine eN ?_|refine eL ?_ ?_ ?_|refine eA ?_ ?_|refine ap.mk ⟨_,hp,rfl⟩ ?_ ?_)|refine ap.mk ⟨_,hp,rfl⟩ ?_ ?_)
                  all_goals try first|with_reducible rfl|omega|exact .inl (by decide)|(simp; done)|rfl
                  all_goals first|(rw[e2]; done)|(rw[e2]; simp; done)
                 ·all_goals repeat' (first|exact True.intro|refine And.intro ?_ ?_|(intro _u; clear _u)|(with_reducible first|exact ai.fg|refine eM ?_ ?_|refine eF ?_ ?_ ?_|refine eN ?_|refine eL ?_ ?_ ?_|refine eA ?_ ?_|refine ap.mk ⟨_,hp,rfl⟩ ?_ ?_)|refine ap.mk ⟨_,hp,rfl⟩ ?_ ?_)
                  all_goals try first|with_reducible rfl|omega|exact .inl (by decide)|(simp; done)|rfl
                  all_goals first|(right; simp[cD,In.row]; done)|(rw[e2]; simp[cD,In.row]; done)
               ·rw[List.take_of_length_le (by omega)]at hlen ⊢
                obtain⟨⟨O,b⟩,hO⟩:∃s,c5 (iA x) x d.ins=s:=⟨_,rfl⟩
                have hL:mP (iA x) x d.ins=if b=true then O else O++ [x]:=by unfold mP; rw[hO]
                rw[hL]at hq
                rw[hO]at hlen ⊢
                dsimp only at hlen ⊢
                cases b with
                |false=>
                 rw[if_neg (by simp)]at hq
                 subst hq
                 refine sh ?_
                 refine rM [0] ?_
                 all_goals repeat' (first|exact True.intro|refine And.intro ?_ ?_|(intro _u; clear _u)|(with_reducible first|exact ai.fg|refine eM ?_ ?_|refine eF ?_ ?_ ?_|refine eN ?_|refine eL ?_ ?_ ?_|refine eA ?_ ?_|refine ap.mk ⟨_,hp,rfl⟩ ?_ ?_)|refine ap.mk ⟨_,hp,rfl⟩ ?_ ?_)
                 all_goals try first|with_reducible rfl|omega|exact .inl (by decide)|(simp; done)|rfl
                 all_goals (simp[cD,In.row]; done)
                |true=>
                 rw[if_pos rfl]at hq
                 subst hq
                 refine sh ?_
                 exact rM [0]
         ·have zD:bT d.rows x=0:=by rw[et,if_pos k3,if_neg (by omega)]
          rw[if_neg (by rw[zD]; simp)]at hq
          have hvs:=(ok a (cz qT).1).Co (by omega)
          refine sh ?_
          refine cM false [0] (rJ h.y1 d x hil) ?_
          repeat (intro _; first|refine eK ?_|refine eP ?_)
          rcases oh x d.ins with⟨f1,f2⟩|⟨f1,f2⟩
          ·rw[if_pos f2]at hq
           refine sh ?_
           refine af (by simp; omega) ?_
           subst hq
           refine sh ?_
           exact rM [0]
          ·rw[if_neg (by rw[f2]; simp),qT]at hq
           rw[f1]
           refine sh ?_
           refine aj (by simp) ?_
           dsimp only at hq
           refine sh ?_
           refine aa ha2 ?_
           refine sh ?_
           refine gW 100 (fun k:Nat=>k≤a.a.m.v.length∧∀ (j:Nat) (u:T3),j<k→a.a.m.v[j]? =some u→(bX x.t u).2=0) (fun k=>⟨[(0,.loc 0 1 0 0),(3,.loc 1 1 0 0),(8,.aJ 3 (bJ a.a.m.v)),(9,.int .i64 k)],[(0,.var (R.ty 56) [.aJ 40 (iz d.rows),.aJ 16 (cD d.ins)]),(1,.var (R.ty 44) x.row)],2⟩) (fun k=>a.a.m.v.length - k) (0) ?_ ?_
           ·exact⟨Nat.zero_le _,fun j u hj=>absurd hj (Nat.not_lt_zero j)⟩
           ·intro k hk
            dsimp only
            have hlen:=hvs.1
            refine sh ?_
            refine cS (fun h4=> ?_) (fun h4=> ?_)
            ·obtain⟨v,hv⟩:∃u_,a.a.m.v[k]? =some u_:=⟨_,List.getElem?_eq_getElem (by first|omega|(simp<;>omega))⟩
             refine sh ?_
             refine aa hv ?_
             refine sh ?_
             refine ae.pure h.n242.Kg.hb (pZ h.n242 hx (xF (hvs.2 v (List.mem_of_getElem? hv)))) rfl ?_
             refine sh ?_
             refine cS (fun h5=> ?_) (fun h5=> ?_)
             ·rw[if_pos (by rw[jK hv hk.2 h5]; exact h5),jK hv hk.2 h5]at hq
              subst hq
              refine sh ?_
              exact rM [0]
             ·refine sh ?_
              refine lz (k+1) ?_ ?_
              ·refine⟨by omega,fun j u hj hu=> ?_⟩
               by_cases e:j=k
               ·subst e
                rw[hv]at hu
                cases hu
                exact h5
               ·exact hk.2 j u (by omega) hu
              ·omega
            ·rw[mD (fun j u hj=>hk.2 j u (by omega)),if_neg (by simp)]at hq
             refine sh ?_
             refine gW 100 (fun i:Nat=>i≤d.ins.length) (fun i=>⟨[(0,.loc 0 1 0 0),(3,.loc 1 1 0 0),(12,.bc 2 (c5 (iA x) x (d.ins.take i)).1.length),(13,.bool (c5 (iA x) x (d.ins.take i)).2),(14,.int .i64 i)],[(0,.var (R.ty 56) [.aJ 40 (iz d.rows),.aJ 16 (cD d.ins)]),(1,.var (R.ty 44) x.row),(2,.arr (R.ty 44) 16 (cD (c5 (iA x) x (d.ins.take i)).1))],3⟩) (fun i=>d.ins.length - i) (0) ?_ ?_
             ·exact Nat.zero_le _
             ·intro i hi
              dsimp only
              have hlen:=pj (p:=iA x) (x:=x) (d.ins.take i)
              rw[List.length_take]at hlen
              refine sh ?_
              refine cS (fun h6=> ?_) (fun h6=> ?_)
              ·obtain⟨r,hr⟩:∃u_,d.ins[i]? =some u_:=⟨_,List.getElem?_eq_getElem (by omega)⟩
               have e1:c5 (iA x) x (d.ins.take (i+1))=jr (iA x) x (c5 (iA x) x (d.ins.take i)) r:=by rw[ay hr,mH]
               obtain⟨⟨O,b⟩,hO⟩:∃s,c5 (iA x) x (d.ins.take i)=s:=⟨_,rfl⟩
               rw[hO]at e1 hlen ⊢
               dsimp only at hlen ⊢
               cases b with
               |false=>
                refine sh ?_
                refine aa hr ?_
                refine sh ?_
                refine ae.pure h.oW.DO.hb (po h.oW x r) rfl ?_
                by_cases h7:k7 x r<0
                ·refine sh ?_
                 refine af (by simpa using h7) ?_
                 have e2:c5 (iA x) x (d.ins.take (i+1))=(O++ [x]++ [r],true):=by rw[e1]; unfold jr; rw[if_pos ⟨rfl,by simp[iA]; omega⟩]
                 refine sh ?_
                 refine aa hr ?_
                 refine sh ?_
                 refine nX (i+1) ?_ ?_ ⟨_,hp,rfl⟩ ?_ ?_
                 ·omega
                 ·omega
                 ·all_goals repeat' (first|exact True.intro|refine And.intro ?_ ?_|(intro _u; clear _u)|(with_reducible first|exact ai.fg|refine eM ?_ ?_|refine eF ?_ ?_ ?_|refine eN ?_|refine eL ?_ ?_ ?_|refine eA ?_ ?_|refine ap.mk ⟨_,hp,rfl⟩ ?_ ?_)|refine ap.mk ⟨_,hp,rfl⟩ ?_ ?_)
                  all_goals try first|with_reducible rfl|omega|exact .inl (by decide)|(simp; done)|rfl
                  all_goals first|(rw[e2]; done)|(rw[e2]; simp; done)
                 ·all_goals repeat' (first|exact True.intro|refine And.intro ?_ ?_|(intro _u; clear _u)|(with_reducible first|exact ai.fg|refine eM ?_ ?_|refine eF ?_ ?_ ?_|refine eN ?_|refine eL ?_ ?_ ?_|refine eA ?_ ?_|refine ap.mk ⟨_,hp,rfl⟩ ?_ ?_)|refine ap.mk ⟨_,hp,rfl⟩ ?_ ?_)
                  all_goals try first|with_reducible rfl|omega|exact .inl (by decide)|(simp; done)|rfl
                  all_goals first|(right; simp[cD,In.row]; done)|(rw[e2]; simp[cD,In.row]; done)
                ·refine sh ?_
                 refine aj (by simpa using h7) ?_
                 have e2:c5 (iA x) x (d.ins.take (i+1))=(O++ [r],false):=by rw[e1]; unfold jr; rw[if_neg (by simp[iA]; omega)]
                 refine sh ?_
                 refine aa hr ?_
                 refine sh ?_
                 refine nX (i+1) ?_ ?_ ⟨_,hp,rfl⟩ ?_ ?_
                 ·omega
                 ·omega
                 ·all_goals repeat' (first|exact True.intro|refine And.intro ?_ ?_|(intro _u; clear _u)|(with_reducible first|exact ai.fg|refine eM ?_ ?_|refine eF ?_ ?_ ?_|refine eN ?_|refine eL ?_ ?_ ?_|refine eA ?_ ?_|refine ap.mk ⟨_,hp,rfl⟩ ?_ ?_)|refine ap.mk ⟨_,hp,rfl⟩ ?_ ?_)
                  all_goals try first|with_reducible rfl|omega|exact .inl (by decide)|(simp; done)|rfl
                  all_goals first|(rw[e2]; done)|(rw[e2]; simp; done)
                 ·all_goals repeat' (first|exact True.intro|refine And.intro ?_ ?_|(intro _u; clear _u)|(with_reducible first|exact ai.fg|refine eM ?_ ?_|refine eF ?_ ?_ ?_|refine eN ?_|refine eL ?_ ?_ ?_|refine eA ?_ ?_|refine ap.mk ⟨_,hp,rfl⟩ ?_ ?_)|refine ap.mk ⟨_,hp,rfl⟩ ?_ ?_)
                  all_goals try first|with_reducible rfl|omega|exact .inl (by decide)|(simp; done)|rfl
                  all_goals first|(right; simp[cD,In.row]; done)|(rw[e2]; simp[cD,In.row]; done)
               |true=>
                have e2:c5 (iA x) x (d.ins.take (i+1))=(O++ [r],true):=by rw[e1]; unfold jr; rw[if_neg (by simp)]
                refine sh ?_
                refine aa hr ?_
                refine sh ?_
                refine nX (i+1) ?_ ?_ ⟨_,hp,rfl⟩ ?_ ?_
                ·omega
                ·omega
                ·all_goals repeat' (first|exact True.intro|refine And.intro ?_ ?_|(intro _u; clear _u)|(with_reducible first|exact ai.fg|refine eM ?_ ?_|refine eF ?_ ?_ ?_|refine eN ?_|refine eL ?_ ?_ ?_|refine eA ?_ ?_|refine ap.mk ⟨_,hp,rfl⟩ ?_ ?_)|refine ap.mk ⟨_,hp,rfl⟩ ?_ ?_)
                 all_goals try first|with_reducible rfl|omega|exact .inl (by decide)|(simp; done)|rfl
                 all_goals first|(rw[e2]; done)|(rw[e2]; simp; done)
                ·all_goals repeat' (first|exact True.intro|refine And.intro ?_ ?_|(intro _u; clear _u)|(with_reducible first|exact ai.fg|refine eM ?_ ?_|refine eF ?_ ?_ ?_|refine eN ?_|refine eL ?_ ?_ ?_|refine eA ?_ ?_|refine ap.mk ⟨_,hp,rfl⟩ ?_ ?_)|refine ap.mk ⟨_,hp,rfl⟩ ?_ ?_)
                 all_goals try first|with_reducible rfl|omega|exact .inl (by decide)|(simp; done)|rfl
                 all_goals first|(right; simp[cD,In.row]; done)|(rw[e2]; simp[cD,In.row]; done)
              ·rw[List.take_of_length_le (by omega)]at hlen ⊢
               obtain⟨⟨O,b⟩,hO⟩:∃s,c5 (iA x) x d.ins=s:=⟨_,rfl⟩
               have hL:mP (iA x) x d.ins=if b=true then O else O++ [x]:=by unfold mP; rw[hO]
               rw[hL]at hq
               rw[hO]at hlen ⊢
               dsimp only at hlen ⊢
               cases b with
               |false=>
                rw[if_neg (by simp)]at hq
                subst hq
                refine sh ?_
                refine rM [0] ?_
                all_goals repeat' (first|exact True.intro|refine And.intro ?_ ?_|(intro _u; clear _u)|(with_reducible first|exact ai.fg|refine eM ?_ ?_|refine eF ?_ ?_ ?_|refine eN ?_|refine eL ?_ ?_ ?_|refine eA ?_ ?_|refine ap.mk ⟨_,hp,rfl⟩ ?_ ?_)|refine ap.mk ⟨_,hp,rfl⟩ ?_ ?_)
                all_goals try first|with_reducible rfl|omega|exact .inl (by decide)|(simp; done)|rfl
                all_goals (simp[cD,In.row]; done)
               |true=>
                rw[if_pos rfl]at hq
                subst hq
                refine sh ?_
                exact rM [0]
      ·rw[ha1,uq,hc1]
       refine sh ?_
       refine aj (by simp) ?_
       refine sh ?_
       refine aj (by simp) ?_
       refine sh ?_
       refine af (by simp) ?_
       refine sh ?_
       refine cS (fun k3=> ?_) (fun k3=> ?_)
       ·have zD:bT d.rows x=11:=by unfold bT; rw[qT,Nn,ur]; dsimp only; rw[if_neg k3]
        rw[if_pos (by rw[zD]; simp),zD]at hq
        subst hq
        refine sh ?_
        exact rM [0]
       ·have et:bT d.rows x=if a.f.kind≠1∨b.f.kind≠3 then 12 else 0:=by unfold bT; rw[qT,Nn]; dsimp only; rw[if_pos k3]
        refine sh ?_
        refine aa ha2 ?_
        refine sh ?_
        refine cS (fun k1=> ?_) (fun k1=> ?_)
        ·rw[if_pos (by rw[et,if_pos (.inl k1)]; simp),et,if_pos (.inl k1)]at hq
         subst hq
         refine sh ?_
         exact rM [0]
        ·refine sh ?_
         refine aa R3 ?_
         refine sh ?_
         refine cS (fun k2=> ?_) (fun k2=> ?_)
         ·rw[if_pos (by rw[et,if_pos (.inr k2)]; simp),et,if_pos (.inr k2)]at hq
          subst hq
          refine sh ?_
          exact rM [0]
         ·refine sh ?_
          refine aj (by simpa using k3) ?_
          have zD:bT d.rows x=0:=by rw[et,if_neg (by omega)]
          rw[if_neg (by rw[zD]; simp)]at hq
          have hvs:=(ok a (cz qT).1).Co (by omega)
          refine sh ?_
          refine cM false [0] (rJ h.y1 d x hil) ?_
          repeat (intro _; first|refine eK ?_|refine eP ?_)
          rcases oh x d.ins with⟨f1,f2⟩|⟨f1,f2⟩
          ·rw[if_pos f2]at hq
           refine sh ?_
           refine af (by simp; omega) ?_
           subst hq
           refine sh ?_
           exact rM [0]
          ·rw[if_neg (by rw[f2]; simp),qT]at hq
           rw[f1]
           refine sh ?_
           refine aj (by simp) ?_
           dsimp only at hq
           refine sh ?_
           refine aa ha2 ?_
           refine sh ?_
           refine gW 100 (fun k:Nat=>k≤a.a.m.v.length∧∀ (j:Nat) (u:T3),j<k→a.a.m.v[j]? =some u→(bX x.t u).2=0) (fun k=>⟨[(0,.loc 0 1 0 0),(3,.loc 1 1 0 0),(8,.aJ 3 (bJ a.a.m.v)),(9,.int .i64 k)],[(0,.var (R.ty 56) [.aJ 40 (iz d.rows),.aJ 16 (cD d.ins)]),(1,.var (R.ty 44) x.row)],2⟩) (fun k=>a.a.m.v.length - k) (0) ?_ ?_
           ·exact⟨Nat.zero_le _,fun j u hj=>absurd hj (Nat.not_lt_zero j)⟩
           ·intro k hk
            dsimp only
            have hlen:=hvs.1
            refine sh ?_
            refine cS (fun h4=> ?_) (fun h4=> ?_)
            ·obtain⟨v,hv⟩:∃u_,a.a.m.v[k]? =some u_:=⟨_,List.getElem?_eq_getElem (by first|omega|(simp<;>omega))⟩
             refine sh ?_
             refine aa hv ?_
             refine sh ?_
             refine ae.pure h.n242.Kg.hb (pZ h.n242 hx (xF (hvs.2 v (List.mem_of_getElem? hv)))) rfl ?_
             refine sh ?_
             refine cS (fun h5=> ?_) (fun h5=> ?_)
             ·rw[if_pos (by rw[jK hv hk.2 h5]; exact h5),jK hv hk.2 h5]at hq
              subst hq
              refine sh ?_
              exact rM [0]
             ·refine sh ?_
              refine lz (k+1) ?_ ?_
              ·refine⟨by omega,fun j u hj hu=> ?_⟩
               by_cases e:j=k
               ·subst e
                rw[hv]at hu
                cases hu
                exact h5
               ·exact hk.2 j u (by omega) hu
              ·omega
            ·rw[mD (fun j u hj=>hk.2 j u (by omega)),if_neg (by simp)]at hq
             refine sh ?_
             refine gW 100 (fun i:Nat=>i≤d.ins.length) (fun i=>⟨[(0,.loc 0 1 0 0),(3,.loc 1 1 0 0),(12,.bc 2 (c5 (iA x) x (d.ins.take i)).1.length),(13,.bool (c5 (iA x) x (d.ins.take i)).2),(14,.int .i64 i)],[(0,.var (R.ty 56) [.aJ 40 (iz d.rows),.aJ 16 (cD d.ins)]),(1,.var (R.ty 44) x.row),(2,.arr (R.ty 44) 16 (cD (c5 (iA x) x (d.ins.take i)).1))],3⟩) (fun i=>d.ins.length - i) (0) ?_ ?_
             ·exact Nat.zero_le _
             ·intro i hi
              dsimp only
              have hlen:=pj (p:=iA x) (x:=x) (d.ins.take i)
              rw[List.length_take]at hlen
              refine sh ?_
              refine cS (fun h6=> ?_) (fun h6=> ?_)
              ·obtain⟨r,hr⟩:∃u_,d.ins[i]? =some u_:=⟨_,List.getElem?_eq_getElem (by omega)⟩
               have e1:c5 (iA x) x (d.ins.take (i+1))=jr (iA x) x (c5 (iA x) x (d.ins.take i)) r:=by rw[ay hr,mH]
               obtain⟨⟨O,b⟩,hO⟩:∃s,c5 (iA x) x (d.ins.take i)=s:=⟨_,rfl⟩
               rw[hO]at e1 hlen ⊢
               dsimp only at hlen ⊢
               cases b with
               |false=>
                refine sh ?_
                refine aa hr ?_
                refine sh ?_
                refine ae.pure h.oW.DO.hb (po h.oW x r) rfl ?_
                by_cases h7:k7 x r<0
                ·refine sh ?_
                 refine af (by simpa using h7) ?_
                 have e2:c5 (iA x) x (d.ins.take (i+1))=(O++ [x]++ [r],true):=by rw[e1]; unfold jr; rw[if_pos ⟨rfl,by simp[iA]; omega⟩]
                 refine sh ?_
                 refine aa hr ?_
                 refine sh ?_
                 refine nX (i+1) ?_ ?_ ⟨_,hp,rfl⟩ ?_ ?_
                 ·omega
                 ·omega
                 ·all_goals repeat' (first|exact True.intro|refine And.intro ?_ ?_|(intro _u; clear _u)|(with_reducible first|exact ai.fg|refine eM ?_ ?_|refine eF ?_ ?_ ?_|refine eN ?_|refine eL ?_ ?_ ?_|refine eA ?_ ?_|refine ap.mk ⟨_,hp,rfl⟩ ?_ ?_)|refine ap.mk ⟨_,hp,rfl⟩ ?_ ?_)
                  all_goals try first|with_reducible rfl|omega|exact .inl (by decide)|(simp; done)|rfl
                  all_goals first|(rw[e2]; done)|(rw[e2]; simp; done)
                 ·all_goals repeat' (first|exact True.intro|refine And.intro ?_ ?_|(intro _u; clear _u)|(with_reducible first|exact ai.fg|refine eM ?_ ?_|refine eF ?_ ?_ ?_|refine eN ?_|refine eL ?_ ?_ ?_|refine eA ?_ ?_|refine ap.mk ⟨_,hp,rfl⟩ ?_ ?_)|refine ap.mk ⟨_,hp,rfl⟩ ?_ ?_)
                  all_goals try first|with_reducible rfl|omega|exact .inl (by decide)|(simp; done)|rfl
                  all_goals first|(right; simp[cD,In.row]; done)|(rw[e2]; simp[cD,In.row]; done)
                ·refine sh ?_
                 refine aj (by simpa using h7) ?_
                 have e2:c5 (iA x) x (d.ins.take (i+1))=(O++ [r],false):=by rw[e1]; unfold jr; rw[if_neg (by simp[iA]; omega)]
                 refine sh ?_
                 refine aa hr ?_
                 refine sh ?_
                 refine nX (i+1) ?_ ?_ ⟨_,hp,rfl⟩ ?_ ?_
                 ·omega
                 ·omega
                 ·all_goals repeat' (first|exact True.intro|refine And.intro ?_ ?_|(intro _u; clear _u)|(with_reducible first|exact ai.fg|refine eM ?_ ?_|refine eF ?_ ?_ ?_|refine eN ?_|refine eL ?_ ?_ ?_|refine eA ?_ ?_|refine ap.mk ⟨_,hp,rfl⟩ ?_ ?_)|refine ap.mk ⟨_,hp,rfl⟩ ?_ ?_)
                  all_goals try first|with_reducible rfl|omega|exact .inl (by decide)|(simp; done)|rfl
                  all_goals first|(rw[e2]; done)|(rw[e2]; simp; done)
                 ·all_goals repeat' (first|exact True.intro|refine And.intro ?_ ?_|(intro _u; clear _u)|(with_reducible first|exact ai.fg|refine eM ?_ ?_|refine eF ?_ ?_ ?_|refine eN ?_|refine eL ?_ ?_ ?_|refine eA ?_ ?_|refine ap.mk ⟨_,hp,rfl⟩ ?_ ?_)|refine ap.mk ⟨_,hp,rfl⟩ ?_ ?_)
                  all_goals try first|with_reducible rfl|omega|exact .inl (by decide)|(simp; done)|rfl
                  all_goals first|(right; simp[cD,In.row]; done)|(rw[e2]; simp[cD,In.row]; done)
               |true=>
                have e2:c5 (iA x) x (d.ins.take (i+1))=(O++ [r],true):=by rw[e1]; unfold jr; rw[if_neg (by simp)]
                refine sh ?_
                refine aa hr ?_
                refine sh ?_
                refine nX (i+1) ?_ ?_ ⟨_,hp,rfl⟩ ?_ ?_
                ·omega
                ·omega
                ·all_goals repeat' (first|exact True.intro|refine And.intro ?_ ?_|(intro _u; clear _u)|(with_reducible first|exact ai.fg|refine eM ?_ ?_|refine eF ?_ ?_ ?_|refine eN ?_|refine eL ?_ ?_ ?_|refine eA ?_ ?_|refine ap.mk ⟨_,hp,rfl⟩ ?_ ?_)|refine ap.mk ⟨_,hp,rfl⟩ ?_ ?_)
                 all_goals try first|with_reducible rfl|omega|exact .inl (by decide)|(simp; done)|rfl
                 all_goals first|(rw[e2]; done)|(rw[e2]; simp; done)
                ·all_goals repeat' (first|exact True.intro|refine And.intro ?_ ?_|(intro _u; clear _u)|(with_reducible first|exact ai.fg|refine eM ?_ ?_|refine eF ?_ ?_ ?_|refine eN ?_|refine eL ?_ ?_ ?_|refine eA ?_ ?_|refine ap.mk ⟨_,hp,rfl⟩ ?_ ?_)|refine ap.mk ⟨_,hp,rfl⟩ ?_ ?_)
                 all_goals try first|with_reducible rfl|omega|exact .inl (by decide)|(simp; done)|rfl
                 all_goals first|(right; simp[cD,In.row]; done)|(rw[e2]; simp[cD,In.row]; done)
              ·rw[List.take_of_length_le (by omega)]at hlen ⊢
               obtain⟨⟨O,b⟩,hO⟩:∃s,c5 (iA x) x d.ins=s:=⟨_,rfl⟩
               have hL:mP (iA x) x d.ins=if b=true then O else O++ [x]:=by unfold mP; rw[hO]
               rw[hL]at hq
               rw[hO]at hlen ⊢
               dsimp only at hlen ⊢
               cases b with
               |false=>
                rw[if_neg (by simp)]at hq
                subst hq
                refine sh ?_
                refine rM [0] ?_
                all_goals repeat' (first|exact True.intro|refine And.intro ?_ ?_|(intro _u; clear _u)|(with_reducible first|exact ai.fg|refine eM ?_ ?_|refine eF ?_ ?_ ?_|refine eN ?_|refine eL ?_ ?_ ?_|refine eA ?_ ?_|refine ap.mk ⟨_,hp,rfl⟩ ?_ ?_)|refine ap.mk ⟨_,hp,rfl⟩ ?_ ?_)
                all_goals try first|with_reducible rfl|omega|exact .inl (by decide)|(simp; done)|rfl
                all_goals (simp[cD,In.row]; done)
               |true=>
                rw[if_pos rfl]at hq
                subst hq
                refine sh ?_
                exact rM [0]
     ·rw[ha1,uq]
      have zD:bT d.rows x=11:=by unfold bT; rw[qT,Nn]
      rw[if_pos (by rw[zD]; simp),zD]at hq
      refine sh ?_
      refine aj (by simp) ?_
      refine sh ?_
      refine af (by simp) ?_
      subst hq
      refine sh ?_
      exact rM [0]
    ·rw[ha1]
     have zD:bT d.rows x=11:=by unfold bT; rw[qT]
     rw[if_pos (by rw[zD]; simp),zD]at hq
     refine sh ?_
     refine af (by simp) ?_
     subst hq
     refine sh ?_
     exact rM [0]
end Go.UM
namespace Go.UM
open Go.AM Go.RowKit Go.Proofs
def HV (P:Program) (f:Nat):Prop:=∀ (b:Nat) (es:Array MapEntry) (ck:Nat) (w:World),w.heap[b]? =some (.map es ck)→Calls P f #[.map (some b)] w fun e w'=>e= .returned (.map (some w.heap.size))∧w'=w.alloc (.map es ck)
theorem zG {R:Env} {g:Nat} (hb:cx R.P (R.ft g)) (CL:HV R.P (R.ft g)) (k:Nat) (ka va d:Bool) (sz:Nat) (es:List (List AV)):
  R.Mc g [.omap 0] [(0,.map k ka va d sz es)] (.omap 1) [(0,.map k ka va d sz es),(1,.map k ka va d sz es)] 2:=by
 refine⟨hb,fun w I ρ vs hW hr=> ?_,rfl⟩
 have W:=hW 0
 obtain⟨hvl,hr⟩:=hr
 obtain⟨v0,rfl⟩:∃v0,vs=[v0]:=by
  match vs,hvl with
  |[a],_=>exact⟨a,rfl⟩
 have r0:=hr 0 (by simp)
 have r0:aN ρ _ I w (· <1) (.omap 0) v0:=r0
 have Wn:ab (aA [(0,bI.map k ka va d sz es)]) 0=some ⟨0,sz,es,some (k,ka,va,d)⟩:=rfl
 obtain⟨gm,cm,hρ,rfl⟩:∃gm cm,ρ 0=some (gm,cm)∧v0= .map (some gm):=by
  cases r0 with
  |omap _ _ _ _ h=>exact h sz (by rw[aC]; exact⟨_,Wn,rfl,rfl⟩)
 have B:=W.aU 0 _ Wn
 obtain⟨cs,fr,p9,nG,hI,Lt,hlen,hcap,hcs,hcell⟩:=B.real gm cm hρ
 obtain⟨en,ck,hg,hs,MC⟩:=p9
 refine (CL gm en ck w hg).mono ?_
 rintro e w' ⟨rfl,rfl⟩
 refine⟨_,rfl,?_⟩
 obtain⟨E1,W1⟩:=W.put (w':=w.alloc (.map en ck)) 1 ⟨0,sz,es,some (k,ka,va,d)⟩ w.heap.size cm cs fr rfl rfl rfl (by simp) (fun k hk _=>Below.heap_alloc w _ k hk)
  ⟨en,ck,heap_alloc_new w _,hs,MC⟩ nG (.inl (Nat.le_refl _)) (fun b0 h0=>by have h0:(Option.none:Option bh)=some b0:=h0; cases h0) (fun h=>absurd h (Nat.lt_irrefl 1)) B.even hlen hcap hcs hcell
 have e1:cW (ab (aA [(0,bI.map k ka va d sz es)])) 1 ⟨0,sz,es,some (k,ka,va,d)⟩=ab (aA [(0,bI.map k ka va d sz es),(1,bI.map k ka va d sz es)]):=by
  funext m
  by_cases hm:m=1
  ·subst hm; rfl
  ·have:(m==1)=false:=by simpa using hm
   simp[cW,hm,aA,ab,this]
 rw[e1]at W1
 refine⟨_,I,0,W1.mY (fun m hm=>by rcases hm with rfl|hm; exact Nat.lt_succ_self 1; exact Nat.lt_succ_of_lt hm),?_⟩
 exact qB (cap:=cm) (Nat.lt_succ_self 1) (by simp[iv])
end Go.UM
namespace Go.UM
open Go.AM
set_option maxRecDepth 4000
def rq:As:=⟨3,⟨[],[],[]⟩,⟨0,[]⟩,⟨0,z3,0⟩,⟨0,z3,z3,z3,z3⟩⟩
def mf3:Mf:=⟨0,3,0,0,0,0,0,0,0,0,0,0,0,0,0⟩
theorem Cz:du rq=0:=by decide
def t5:Tb:=⟨[⟨5,mf3,rq⟩],[]⟩
theorem w1:gy ⟨[],[]⟩ 5 mf3 rq=(t5,0):=by unfold gy; rw[Cz]; rfl
theorem w2:gy t5 5 mf3 rq=(t5,10):=rfl
theorem w3:fq t5 5=(⟨[],[]⟩,0):=rfl
def xM (l:List Ac):List (List AV):=l.map Ac.row
@[simp] theorem zH (l:List Ac):(xM l).length=l.length:=by simp[xM]
@[simp] theorem Wp (l:List Ac):mz (xM l):=by simp[xM,Ac.row]
instance {l:List Ac}:iu (xM l) l.length:=⟨zH l⟩
theorem lf (l:List In):(cE l).length=l.length:=by simp[cE]
theorem HW (c:Ac):c.kC.a.x.t.length≤1000:=by simp[Ac.kC,As.kC]; omega
theorem Wq (c:Ac):c.kC.a.bare.Bg:=by
 have h1:c.kC.a.m.v.length≤70:=by simp[Ac.kC,As.kC,Ms.kC]; omega
 have h2:c.kC.a.m.uv.length≤70:=by simp[Ac.kC,As.kC,Ms.kC]; omega
 have h3:c.kC.a.m.t.length≤70:=by simp[Ac.kC,As.kC,Ms.kC]; omega
 have h4:c.kC.a.x.t.length≤260:=by simp[Ac.kC,As.kC]; omega
 generalize c.kC.a=a at h1 h2 h3 h4
 unfold As.bare
 refine⟨?_,?_,?_,?_⟩<;>repeat' split
 all_goals first|omega|(dsimp only; omega)|simp[p6,XZ]
end Go.UM
namespace Go.UM
open Go.AM
set_option maxRecDepth 4000
def oi (t:Tb):Tb:=⟨bf t.rows,cE t.ins⟩
def QX (t:Tb) (c:Ac):Tb × Int:=if c.k=0 then wh t c.h c.f c.a else if c.k=1 then mI t c.h else if c.k=2 then EA t c.i else wj t c.i
theorem K8 {R:Env} (h:PA R) (d:Tb) (c:Ac) (ok:∀r ∈ d.rows,fE r) (fa:c.a.Bg) (hx:c.i.t.I) (hl:d.rows.length≤1000000) (hi:d.ins.length≤1000000):
  R.Mc 432 [.loc 0 1 0 0,.agg c.row] (jU R d) (.int .i64 (QX d c).2) (jU R (QX d c).1) 1:=
 h.aax.bC 100 1 rfl rfl rfl fun X bb hfit hp=>by
  generalize hq:QX d c=q
  unfold QX at hq
  unfold jU
  refine sh ?_
  refine cS (fun k0=> ?_) (fun k0=> ?_)
  ·rw[if_pos k0]at hq
   subst hq
   refine sh ?_
   refine cM false [0] (K6 h.PB d c.h c.f c.a fa hl) ?_
   repeat (intro _; first|refine eK ?_|refine eP ?_)
   refine sh ?_
   exact rM [0]
  ·rw[if_neg k0]at hq
   refine sh ?_
   refine cS (fun k1=> ?_) (fun k1=> ?_)
   ·rw[if_pos k1]at hq
    subst hq
    refine sh ?_
    refine cM false [0] (Ez h.PC d c.h hl hi) ?_
    repeat (intro _; first|refine eK ?_|refine eP ?_)
    refine sh ?_
    exact rM [0]
   ·rw[if_neg k1]at hq
    refine sh ?_
    refine cS (fun k2=> ?_) (fun k2=> ?_)
    ·rw[if_pos k2]at hq
     subst hq
     refine sh ?_
     refine cM false [0] (Ql h.PD d c.i ok hx hl hi) ?_
     repeat (intro _; first|refine eK ?_|refine eP ?_)
     refine sh ?_
     exact rM [0]
    ·rw[if_neg k2]at hq
     subst hq
     refine sh ?_
     refine cM false [0] (K7 h.PE d c.i hi) ?_
     repeat (intro _; first|refine eK ?_|refine eP ?_)
     refine sh ?_
     exact rM [0]
theorem xN {l:List Rw} {h:Int} (e:(aW l h).isSome≠true):∀r ∈ l,r.h≠h:=fun r hr k=>by
 apply e
 unfold aW
 rw[List.find?_isSome]
 exact⟨r,hr,by simpa using k⟩
theorem zI {l:List Rw} (rd:l.Pairwise fun a b=>a.h≠b.h) (x:In):bT (bf l) x=bT l x:=by
 unfold bT
 rw[fO rd,fO rd,fO rd]
theorem Qm {t:Tb} {n:Nat} (ok:jf t n) (c:Ac):QX (oi t) c=(oi (Bo t c).1,(Bo t c).2):=by
 unfold QX Bo
 split
 ·unfold wh gy oi
  dsimp only
  rw[fO ok.rd]
  split
  ·rfl
  ·split
   ·rfl
   ·rename_i k
    split
    ·rfl
    ·split
     ·rfl
     ·dsimp only
      rw[Ew (by
       rw[List.pairwise_append]
       exact⟨ok.rd,by simp,fun r hr q hq=>by simp only[List.mem_singleton]at hq; subst hq; exact xN k r hr⟩)]
 ·split
  ·unfold mI fq oi
   dsimp only
   rw[fO ok.rd]
   split
   ·dsimp only
    rw[zA ok.rd,xK ok.nd]; rfl
   ·rfl
  ·split
   ·unfold EA jS oi
    dsimp only
    rw[zI ok.rd,fO ok.rd,tY ok.nd]
    split
    ·rfl
    ·split
     ·rfl
     ·split
      ·rfl
      ·rename_i k
       cases aW t.rows c.i.aT with
       |none=>rfl
       |some r=>
        dsimp only
        split
        ·rfl
        ·dsimp only
         rw[Ex (by
          rw[List.pairwise_append]
          refine⟨ok.nd,by simp,fun y hy q hq=> ?_⟩
          simp only[List.mem_singleton]at hq
          subst hq
          rw[oa]
          cases hs:be c.i y with
          |false=>rfl
          |true=>
           exfalso
           apply k
           unfold dZ
           rw[List.find?_isSome]
           exact⟨y,hy,hs⟩)]
   ·unfold wj l8 oi
    dsimp only
    rw[tY ok.nd]
    split
    ·dsimp only
     rw[zB ok.nd]
    ·rfl
structure Wr (R:Env):Prop where
 r:∀ (d:Bool) (es:List (List AV)),R.Mc 439 [.omap 0] [(0,.map 1 false true d 41 es)] (.omap 1) [(0,.map 1 false true d 41 es),(1,.map 1 false true d 41 es)] 2
 i:∀ (d:Bool) (es:List (List AV)),R.Mc 440 [.omap 0] [(0,.map 4 true true d 16 es)] (.omap 1) [(0,.map 4 true true d 16 es),(1,.map 4 true true d 16 es)] 2
theorem Qn {R:Env} (h:OQ R) (C:Wr R) (d1 d2:Bool) (t:Tb):
  R.Mc 430 [.loc 2 1 0 0] (eb R d1 d2 t) (.loc 5 1 0 0) (eb R d1 d2 t++ [(3,.map 1 false true d1 41 (hJ t.rows)),(4,.map 4 true true d2 16 (cD t.ins)),(5,.var (R.ty 47) [.omap 3,.omap 4])]) 6:=
 h.aag.bC 100 3 rfl rfl rfl fun X bb hfit hp=>by
  unfold eb
  refine sh ?_
  refine cM false [0,1,2] (k6 h.jQ d1 d2 t) ?_
  repeat (intro _; first|refine eK ?_|refine eP ?_)
  refine sh ?_
  refine cM false [0] (C.r d1 (hJ t.rows)) ?_
  repeat (intro _; first|refine eK ?_|refine eP ?_)
  refine sh ?_
  refine cM false [1] (C.i d2 (cD t.ins)) ?_
  repeat (intro _; first|refine eK ?_|refine eP ?_)
  refine sh ?_
  exact rM [0,1,2,3,4,5]
end Go.UM
namespace Go.UM
open Go.AM
set_option maxRecDepth 4000
def X3 (l:List T3):List Int:=l.flatMap fun t=>[t.a,t.b,t.c]
end Go.UM
namespace Go.UM
open Go.AM
set_option maxRecDepth 4000
def e8 (x:Int):List UInt8:=enc 8 (x % 18446744073709551616)
end Go.UM
namespace Go.UM
open Go.AM
set_option maxRecDepth 4000
structure rK where
 (p q r:T3)
 (ua ub va vb wa wb dr ct obj lC:Int)
def rK.row (t:rK):List AV:=[.int .i64 t.p.a,.int .i64 t.p.b,.int .i64 t.p.c,.int .i64 t.q.a,.int .i64 t.q.b,.int .i64 t.q.c,.int .i64 t.r.a,.int .i64 t.r.b,.int .i64 t.r.c,
 .int .i64 t.ua,.int .i64 t.ub,.int .i64 t.va,.int .i64 t.vb,.int .i64 t.wa,.int .i64 t.wb,.int .i64 t.dr,.int .i64 t.ct,.int .i64 t.obj,.int .u8 t.lC]
def rK.aQ (t:rK):List Int:=X3 [t.p,t.q,t.r]++ [t.ua,t.ub]++ [t.va,t.vb]++ [t.wa,t.wb]++ [t.dr,t.ct,t.obj,t.lC]
structure rK.Ok (t:rK):Prop where
 p:bg .i64 t.p.a∧bg .i64 t.p.b∧bg .i64 t.p.c
 q:bg .i64 t.q.a∧bg .i64 t.q.b∧bg .i64 t.q.c
 r:bg .i64 t.r.a∧bg .i64 t.r.b∧bg .i64 t.r.c
 u:bg .i64 t.ua∧bg .i64 t.ub
 v:bg .i64 t.va∧bg .i64 t.vb
 w:bg .i64 t.wa∧bg .i64 t.wb
 m:bg .i64 t.dr∧bg .i64 t.ct∧bg .i64 t.obj∧bg .u8 t.lC
def qa (l:List rK):List (List AV):=l.map rK.row
@[simp] theorem zJ (l:List rK):(qa l).length=l.length:=by simp[qa]
@[simp] theorem Ws (l:List rK):mz (qa l):=by simp[qa,rK.row]
instance {l:List rK}:iu (qa l) l.length:=⟨zJ l⟩
def ku (l:List jj):List (List AV):=l.map jj.row
@[simp] theorem xO (l:List jj):(ku l).length=l.length:=by simp[ku]
@[simp] theorem QY (l:List jj):mz (ku l):=by simp[ku,jj.row]
instance {l:List jj}:iu (ku l) l.length:=⟨xO l⟩
def kw (l:List je):List (List AV):=l.map je.row
@[simp] theorem xP (l:List je):(kw l).length=l.length:=by simp[kw]
@[simp] theorem QZ (l:List je):mz (kw l):=by simp[kw,je.row]
instance {l:List je}:iu (kw l) l.length:=⟨xP l⟩
def ky (l:List hG):List (List AV):=l.map hG.row
@[simp] theorem xQ (l:List hG):(ky l).length=l.length:=by simp[ky]
@[simp] theorem Q0 (l:List hG):mz (ky l):=by simp[ky,hG.row]
instance {l:List hG}:iu (ky l) l.length:=⟨xQ l⟩
structure ec where
 cj:List rK
 ff:List jj
 dg:List hG
 gw:List je
 ids:List Int
 js:List Int
 (xV fr to:Int)
def ec.row (s:ec):List AV:=[.aJ 19 (qa s.cj),.aJ 5 (ku s.ff),.aJ 2 (ky s.dg),.aJ 13 (kw s.gw),.aJ 1 (bB .u64 s.ids),.aJ 1 (bB .u32 s.js),.int .u32 s.xV,.int .u32 s.fr,.int .u32 s.to]
def jj.aQ (m:jj):List Int:=[m.k]++ [m.c.a,m.c.b,m.c.c]++ [m.r]
def hG.aQ (t:hG):List Int:=[t.side,(t.t.length:Int)]++X3 t.t
def je.aQ (l:je):List Int:=[l.k]++ [l.c.a,l.c.b,l.c.c]++X3 [l.p,l.u,l.v]
def EB {α:Type} (l:List α) (f:α→List Int):List Int:=(l.length:Int)::l.flatMap f
def ec.aQ (s:ec):List Int:=EB s.cj rK.aQ++EB s.ff jj.aQ++EB s.dg hG.aQ++EB s.gw je.aQ++EB s.ids (fun x=>[wr .i64 x])++EB s.js (fun x=>[x])++ [s.xV,s.fr,s.to]
structure ec.Ok (s:ec):Prop where
 nt:s.cj.length≤2000
 nm:s.ff.length≤100
 nx:s.dg.length≤30∧∀t ∈ s.dg,t.t.length≤300
 nl:s.gw.length≤100
 ni:s.ids.length≤100
 nb:s.js.length≤100
 t:∀t ∈ s.cj,t.Ok
 m:∀m ∈ s.ff,∀x ∈ m.aQ,bg .i64 x
 x:∀t ∈ s.dg,∀x ∈ t.aQ,bg .i64 x
 l:∀t ∈ s.gw,∀x ∈ t.aQ,bg .i64 x
 i:∀x ∈ s.ids,bg .u64 x
 b:∀x ∈ s.js,bg .u32 x
 e:bg .u32 s.xV∧bg .u32 s.fr∧bg .u32 s.to
theorem pU (x:Int):bg .i64 (wr .i64 x):=by
 simp only[bg,wr,IntKind.wrap,IntKind.bits,IntKind.signed]
 simp
 omega
end Go.UM
namespace Go.UM
open Go.AM
set_option maxRecDepth 4000
end Go.UM
namespace Go.UM
open Go.AM
set_option maxRecDepth 4000
end Go.UM
namespace Go.UM
open Go.AM
set_option maxRecDepth 4000
noncomputable def seq (a b:ec):Bool:= @decide (a=b) (Classical.propDecidable _)
end Go.UM
namespace Go.UM
open Go.AM
set_option maxRecDepth 4000
def hG.Wt (t:hG):hG:=⟨t.side,t.t.take 260⟩
def ec.kC (s:ec):ec:=⟨s.cj.take 20,s.ff.take 10,(s.dg.take 5).map hG.Wt,s.gw.take 10,s.ids.take 20,s.js.take 20,s.xV,s.fr,s.to⟩
end Go.UM
namespace Go.UM
open Go.AM
set_option maxRecDepth 4000
end Go.UM
namespace Go.UM
open Go.AM
set_option maxRecDepth 4000
end Go.UM
namespace Go.UM
open Go.AM
set_option maxRecDepth 4000
end Go.UM
namespace Go.UM
open Go.AM
set_option maxRecDepth 4000
end Go.UM
namespace Go.UM
open Go.AM
set_option maxRecDepth 4000
def dH (f:Mf) (l:Int):Int:=if l<0∨8≤l then 0 else f.lC l.toNat
abbrev mkR (f:Mf):List AV:=[.int .u8 f.m0,.int .u8 f.m1,.int .u8 f.m2,.int .u8 f.m3,.int .u8 f.m4,.int .u8 f.m5,.int .u8 f.m6,.int .u8 f.m7]
theorem rL {R:Env} (h:XQ R) (f:Mf) (l:Int):R.Pc 11 [.agg (mkR f),.int .i64 l] (.int .u8 (dH f l)):=
 h.Us.enter 60 rfl fun X b hfit hp=>by
  refine sh ?_
  refine cS (fun h1=> ?_) (fun h1=> ?_)
  ·refine sh ?_
   refine rT ?_
   all_goals repeat' (first|exact True.intro|refine And.intro ?_ ?_|(intro _u; clear _u)|(with_reducible first|exact ai.fg|refine eM ?_ ?_|refine eF ?_ ?_ ?_|refine eN ?_|refine eL ?_ ?_ ?_|refine eA ?_ ?_|refine ap.mk ⟨_,hp,rfl⟩ ?_ ?_)|refine ap.mk ⟨_,hp,rfl⟩ ?_ ?_)
   all_goals try first|with_reducible rfl|omega|exact .inl (by decide)|(simp; done)|rfl
   simp[dH,h1]
  ·refine sh ?_
   refine cS (fun h2=> ?_) (fun h2=> ?_)
   ·refine sh ?_
    refine rT ?_
    all_goals repeat' (first|exact True.intro|refine And.intro ?_ ?_|(intro _u; clear _u)|(with_reducible first|exact ai.fg|refine eM ?_ ?_|refine eF ?_ ?_ ?_|refine eN ?_|refine eL ?_ ?_ ?_|refine eA ?_ ?_|refine ap.mk ⟨_,hp,rfl⟩ ?_ ?_)|refine ap.mk ⟨_,hp,rfl⟩ ?_ ?_)
    all_goals try first|with_reducible rfl|omega|exact .inl (by decide)|(simp; done)|rfl
    have h2:8≤l:=by omega
    simp[dH,h2]
   ·refine st ?_
    obtain h3|h3|h3|h3|h3|h3|h3|h3:l=0∨l=1∨l=2∨l=3∨l=4∨l=5∨l=6∨l=7:=by omega
    all_goals subst h3; intro _u; clear _u
    all_goals first|refine qI 0 rfl rfl ?_|refine qI 1 rfl rfl ?_|refine qI 2 rfl rfl ?_|refine qI 3 rfl rfl ?_|refine qI 4 rfl rfl ?_|refine qI 5 rfl rfl ?_|refine qI 6 rfl rfl ?_|refine qI 7 rfl rfl ?_
    all_goals
     refine sh ?_
     exact rT
theorem K9 {R:Env} (h:ZU R) (f:Mf) (l:Int):R.Pc 12 [.agg (mkR f),.int .i64 l] (.bool (dH f l != 0)):=
 h.o12.enter 60 rfl fun X b hfit hp=>by
  refine sh ?_
  refine ae.pure h.n11.Us.hb (rL h.n11 f l) rfl ?_
  refine sh ?_
  exact rT
def HX (a b:Int):Int:=er .or .u32 a b
theorem HY {a:Int} (h:bg .u32 a):HX 0 a=a:=by
 have h:0≤a∧a≤4294967295:=h
 obtain⟨n,rfl⟩:∃n:Nat,a=n:=⟨a.toNat,by omega⟩
 have hn:n<2 ^ 32:=by omega
 show IntKind.wrap .u32 ((BitVec.ofInt 32 0||| BitVec.ofInt 32 (n:Int)).toNat:Int)=_
 have e1:(BitVec.ofInt 32 0||| BitVec.ofInt 32 (n:Int))=BitVec.ofNat 32 n:=by simp
 rw[e1,BitVec.toNat_ofNat,Nat.mod_eq_of_lt hn]
 show IntKind.wrap .u32 (n:Int)=_
 simp[IntKind.wrap,IntKind.bits,IntKind.signed]
 omega
theorem HZ (a b:Int):bg .u32 (HX a b):=by
 have:((BitVec.ofInt 32 a||| BitVec.ofInt 32 b).toNat:Int)<4294967296:=by
  have:=(BitVec.ofInt 32 a||| BitVec.ofInt 32 b).isLt
  omega
 show 0≤IntKind.wrap .u32 ((BitVec.ofInt 32 a||| BitVec.ofInt 32 b).toNat:Int)∧IntKind.wrap .u32 ((BitVec.ofInt 32 a||| BitVec.ofInt 32 b).toNat:Int)≤4294967295
 generalize ((BitVec.ofInt 32 a||| BitVec.ofInt 32 b).toNat:Int)=z at this
 simp[IntKind.wrap,IntKind.bits,IntKind.signed]
 omega
theorem H0 {R:Env} (h:XP R) (x y:Int):R.Pc 17 [.int .u32 x,.int .u32 y] (.int .u32 (HX x y)):=
 h.ZT.enter 60 rfl fun X b hfit hp=>by
  refine sh ?_
  exact rT
theorem H1 {R:Env} (h:ZS R) (k:XP R) (a b:Int) (ha:bg .u32 a):R.Pc 16 [.int .u32 0,.aJ 1 (bB .u32 [a,b]),.bR (.fn (R.ft 17)) []] (.int .u32 (HX a b)):=
 h.o16.enter 60 rfl fun X bb hfit hp=>by
  refine sh ?_
  refine aq.one 100 ?_
  refine sh ?_
  refine af (by rfl) ?_
  obtain⟨x,hx⟩:∃u_,[a,b][0]? =some u_:=⟨_,List.getElem?_eq_getElem (by first|omega|(simp<;>omega))⟩
  refine sh ?_
  refine aa hx ?_
  obtain rfl:x=a:=by simpa using hx.symm
  refine sh ?_
  refine ae.pure k.ZT.hb (H0 k _ _) rfl ?_
  rw[HY ha]
  refine sh ?_
  refine aq.one 100 ?_
  refine sh ?_
  refine af (by rfl) ?_
  obtain⟨y,hy⟩:∃u_,[x,b][1]? =some u_:=⟨_,List.getElem?_eq_getElem (by first|omega|(simp<;>omega))⟩
  refine sh ?_
  refine aa hy ?_
  obtain rfl:y=b:=by simpa using hy.symm
  refine sh ?_
  refine ae.pure k.ZT.hb (H0 k _ _) rfl ?_
  refine sh ?_
  refine aq.one 100 ?_
  refine sh ?_
  refine aj (by rfl) ?_
  refine sh ?_
  exact rT
theorem La {R:Env} (h:N4 R) (a b:Int) (ha:bg .u32 a):R.Pc 4 [.aJ 1 (bB .u32 [a,b])] (.int .u32 (HX a b)):=
 h.o4.enter 60 rfl fun X bb hfit hp=>by
  refine sh ?_
  refine ae.pure h.n16.o16.hb (H1 h.n16 h.n17 a b ha) rfl ?_
  refine sh ?_
  exact rT
theorem H2 {R:Env} (h:XR R) (a b:Int) (m:Mf):R.Pc 19 [.agg [.int .u32 a,.int .u32 b],.agg m.row] (.agg [.int .u32 (max a m.first),.int .u32 (min b m.last)]):=
 h.o19.enter 60 rfl fun X bb hfit hp=>by
  refine sh ?_
  exact rT
theorem H3 {R:Env} (h:ZV R) (k:XR R) (a b:Int) (m:Mf):R.Pc 18 [.agg [.int .u32 a,.int .u32 b],.aJ 15 [m.row],.bR (.fn (R.ft 19)) []] (.agg [.int .u32 (max a m.first),.int .u32 (min b m.last)]):=
 h.o18.enter 60 rfl fun X bb hfit hp=>by
  refine sh ?_
  refine aq.one 100 ?_
  refine sh ?_
  refine af (by rfl) ?_
  refine sh ?_
  refine aa (f:=Mf.row) (l:=[m]) (i:=0) rfl ?_
  refine sh ?_
  refine ae.pure k.o19.hb (H2 k a b m) rfl ?_
  refine sh ?_
  refine aq.one 100 ?_
  refine sh ?_
  refine aj (by rfl) ?_
  refine sh ?_
  exact rT
theorem H4 {R:Env} (h:ZW R) (a b:Int) (m:Mf):R.Pc 14 [.int .u32 a,.int .u32 b,.aJ 15 [m.row]] (.aP [.int .u32 (max a m.first),.int .u32 (min b m.last)]):=
 h.o14.enter 60 rfl fun X bb hfit hp=>by
  refine sh ?_
  refine ae.pure h.n18.o18.hb (H3 h.n18 h.n19 a b m) rfl ?_
  refine sh ?_
  exact rT
def Bs (n:Int):Int:=if n=0 then 16 else if n=1 then 64 else if n=2 then 256 else 0
def H5 (n:Int):Int:=if n=0 then 4 else if n=1 then 4 else if n=2 then 8 else 0
theorem xR {R:Env} (h:J' R) (n:Int):R.Pc 495 [.int .i64 n] (.aP [.int .i64 (Bs n),.int .i64 (H5 n)]):=
 h.Ka.enter 60 rfl fun X bb hfit hp=>by
  unfold Bs H5
  refine sh ?_
  refine cS (fun h0=> ?_) (fun h0=> ?_)
  ·rw[if_pos h0,if_pos h0]
   refine sh ?_
   exact rT
  ·rw[if_neg h0,if_neg h0]
   refine sh ?_
   refine cS (fun h1=> ?_) (fun h1=> ?_)
   ·rw[if_pos h1,if_pos h1]
    refine sh ?_
    exact rT
   ·rw[if_neg h1,if_neg h1]
    refine sh ?_
    refine cS (fun h2=> ?_) (fun h2=> ?_)
    ·rw[if_pos h2,if_pos h2]
     refine sh ?_
     exact rT
    ·rw[if_neg h2,if_neg h2]
     refine sh ?_
     exact rT
def qO (s:ec) (n:Int):Int:=if Bs n<s.cj.length∨H5 n<s.gw.length then 15 else 0
theorem H6 {R:Env} (h:O0 R) (s:ec) (n:Int):R.Pc 496 [.agg s.row,.int .i64 n] (.int .i64 (qO s n)):=
 h.O1.enter 60 rfl fun X bb hfit hp=>by
  refine sh ?_
  refine ae.pure h.uP.Ka.hb (xR h.uP n) rfl ?_
  refine sh ?_
  refine cS (fun k1=> ?_) (fun k1=> ?_)
  ·rw[qO,if_pos (by omega)]
   refine sh ?_
   exact rT
  ·refine sh ?_
   refine cS (fun k2=> ?_) (fun k2=> ?_)
   ·rw[qO,if_pos (by omega)]
    refine sh ?_
    exact rT
   ·rw[qO,if_neg (by omega)]
    refine sh ?_
    exact rT
end Go.UM
namespace Go.UM
open Go.AM
set_option maxRecDepth 4000
structure jg where
 s:ec
 ms:List Rw
 pl:List (Int × Int)
 ks:List (Int × Int)
def ec.qP:ec:=⟨[],[],[],[],[],[],0,0,4294967295⟩
def jg.qP:jg:=⟨ec.qP,[],[],[]⟩
def dD (s:ec) (r:Rw):ec:=⟨s.cj,if r.a.k=3 then s.ff++ [r.a.mt]else s.ff,if r.a.k=2 then s.dg++ [r.a.x]else s.dg,if r.a.k=4 then s.gw++ [r.a.li]else s.gw,s.ids++ [r.f.id],s.js++ [r.f.label],HX s.xV r.f.label,max s.fr r.f.first,min s.to r.f.last⟩
def qb (lay:Int) (z:jg) (r:Rw):jg:=if dH r.f lay=0 then z else
 ⟨dD z.s r,if r.a.k=1 then z.ms++ [r]else z.ms,z.pl++ [(r.h,(z.s.ids.length:Int))],if r.a.k=3 then z.ks++ [(r.h,(z.s.ff.length:Int))]else if r.a.k=2 then z.ks++ [(r.h,(z.s.dg.length:Int))]else z.ks⟩
def ir (lay:Int) (l:List Rw):jg:=l.foldl (qb lay) jg.qP
theorem wl (lay:Int) (l:List Rw) (r:Rw):ir lay (l++ [r])=qb lay (ir lay l) r:=by simp[ir]
theorem l9 {P:List Rw→jg→Prop} (lay:Int) (h0:P [] jg.qP) (hs:∀l z r,P l z→P (l++ [r]) (qb lay z r)) (l:List Rw):P l (ir lay l):=by
 have:∀n,∀l:List Rw,l.length=n→P l (ir lay l):=by
  intro n
  induction n with
  |zero=>intro l hl; rw[List.eq_nil_of_length_eq_zero hl]; exact h0
  |succ n ih=>
   intro l hl
   obtain⟨m,r,rfl⟩:∃m r,l=m++ [r]:=⟨l.dropLast,l.getLast (by intro e; simp[e]at hl),(List.dropLast_concat_getLast _).symm⟩
   rw[wl]
   exact hs m _ r (ih m (by simpa using hl))
 exact this _ l rfl
structure Wu (n:Nat) (z:jg):Prop where
 t:z.s.cj=[]
 m:z.s.ff.length≤n
 x:z.s.dg.length≤n
 l:z.s.gw.length≤n
 i:z.s.ids.length≤n
 b:z.s.js.length≤n
 c:bg .u32 z.s.xV
 ms:z.ms.length≤n
 pl:z.pl.length≤n
 ks:z.ks.length≤n
theorem CA (lay:Int) (l:List Rw):Wu l.length (ir lay l):=by
 refine l9 (P:=fun l z=>Wu l.length z) lay ⟨rfl,Nat.le_refl _,Nat.le_refl _,Nat.le_refl _,Nat.le_refl _,Nat.le_refl _,⟨by decide,by decide⟩,Nat.le_refl _,Nat.le_refl _,Nat.le_refl _⟩ (fun l z r h=> ?_) l
 obtain⟨h0,h1,h2,h3,h4,h5,h6,h7,h8,h9⟩:=h
 have e:(l++ [r]).length=l.length+1:=by simp
 rw[e]
 unfold qb dD
 split
 ·exact⟨h0,by omega,by omega,by omega,by omega,by omega,h6,by omega,by omega,by omega⟩
 ·refine⟨h0,?_,?_,?_,?_,?_,HZ _ _,?_,?_,?_⟩<;>dsimp only<;>repeat' split
  all_goals (try simp only[List.length_append,List.length_singleton]); omega
theorem H7 (lay:Int) (l:List Rw):(∀q ∈ (ir lay l).ms,q ∈ l)∧(∀q ∈ (ir lay l).pl,∃r ∈ l,r.h=q.1)∧(∀q ∈ (ir lay l).ks,∃r ∈ l,r.h=q.1):=by
 refine l9 (P:=fun l z=>(∀q ∈ z.ms,q ∈ l)∧(∀q ∈ z.pl,∃r ∈ l,r.h=q.1)∧(∀q ∈ z.ks,∃r ∈ l,r.h=q.1)) lay (by simp[jg.qP]) (fun l z r h=> ?_) l
 obtain⟨h1,h2,h3⟩:=h
 have up:∀ {q:Int × Int},(∃r ∈ l,r.h=q.1)→∃x ∈ l++ [r],x.h=q.1:=fun⟨x,hx,e⟩=>⟨x,by simp[hx],e⟩
 have top:∀ {q:Int × Int},q.1=r.h→∃x ∈ l++ [r],x.h=q.1:=fun e=>⟨r,by simp,e.symm⟩
 unfold qb
 split
 ·exact⟨fun q hq=>by simp[h1 q hq],fun q hq=>up (h2 q hq),fun q hq=>up (h3 q hq)⟩
 ·refine⟨fun q hq=> ?_,fun q hq=> ?_,fun q hq=> ?_⟩
  ·dsimp only at hq
   split at hq
   ·rcases List.mem_append.1 hq with k|k
    ·simp[h1 q k]
    ·simp at k; simp[k]
   ·simp[h1 q hq]
  ·rcases List.mem_append.1 hq with k|k
   ·exact up (h2 q k)
   ·simp at k; exact top (by rw[k])
  ·dsimp only at hq
   split at hq
   ·rcases List.mem_append.1 hq with k|k
    ·exact up (h3 q k)
    ·simp at k; exact top (by rw[k])
   ·split at hq
    ·rcases List.mem_append.1 hq with k|k
     ·exact up (h3 q k)
     ·simp at k; exact top (by rw[k])
    ·exact up (h3 q hq)
def eo (l:List (Int × Int)) (h:Int):Option Int:=(l.find? fun q=>q.1==h).map (·.2)
theorem aaP {h:Int} {l:List (Int × Int)}:∀e ∈ cV l,dM [.i] [.int .i64 h] e=true:=by
 intro e he
 obtain⟨r,_,rfl⟩:=List.mem_map.1 he
 rfl
theorem Bt (h:Int):∀l:List (Int × Int),∃i:Nat,bL [.int .i64 h] (cV l)=(eo l h).map fun v=>(i,[.int .i64 v])
 |[]=>⟨0,rfl⟩
 |r::l=>by
  obtain⟨i,hi⟩:=Bt h l
  have e:kB [.int .i64 h] (p2 r)=(r.1==h):=by
   show ((h==r.1)&&true)=_
   rw[Bool.and_true]; exact Bool.beq_comm
  by_cases hh:(r.1==h)=true
  ·refine⟨0,?_⟩
   show (if kB [.int .i64 h] (p2 r)then some (0,(p2 r).drop 1)else _)=_
   rw[e,if_pos hh]; simp only[eo,List.find?_cons,hh]; rfl
  ·refine⟨i+1,?_⟩
   show (if kB [.int .i64 h] (p2 r)then some (0,(p2 r).drop 1)else (bL [.int .i64 h] (cV l)).map fun q=>(q.1+1,q.2))=_
   rw[e,if_neg hh,hi]; simp only[eo,List.find?_cons,hh]
   cases List.find? (fun q=>q.1==h) l<;>rfl
theorem zK {h:Int} {l:List (Int × Int)} {K:Option (Nat × List AV)→Prop} (k:∀i:Nat,K ((eo l h).map fun v=>(i,[.int .i64 v]))):Ix [.i] [.int .i64 h] (cV l) K:=by
 obtain⟨i,hi⟩:=Bt h l
 exact⟨aaP,by rw[hi]; exact k i⟩
theorem wm {l:List (Int × Int)} {h:Int} (hn:∀q ∈ l,q.1≠h):eo l h=none:=by
 unfold eo
 rw[List.find?_eq_none.2 fun q hq=>by simpa using hn q hq]; rfl
theorem zL {l:List Rw} {h:Int} (hn:∀q ∈ l,q.h≠h):aW l h=none:=by
 unfold aW
 exact List.find?_eq_none.2 fun q hq=>by simpa using hn q hq
abbrev Bu (R:Env) (z:jg):ah:=[(0,.var (R.ty 61) [.bc 4 z.s.cj.length,.bc 5 z.s.ff.length,.bc 6 z.s.dg.length,.bc 7 z.s.gw.length,.bc 8 z.s.ids.length,.bc 9 z.s.js.length,.int .u32 z.s.xV,.int .u32 z.s.fr,.int .u32 z.s.to,.omap 1,.omap 2,.omap 3]),
 (1,.map 1 false true true 41 (hJ z.ms)),(2,.map 1 false false true 2 (cV z.pl)),(3,.map 1 false false true 2 (cV z.ks)),
 (4,.arr (R.ty 60) 19 (qa z.s.cj)),(5,.arr (R.ty 40) 5 (ku z.s.ff)),(6,.arr (R.ty 12) 2 (ky z.s.dg)),(7,.arr (R.ty 41) 13 (kw z.s.gw)),(8,.arr (R.ty 6) 1 (bB .u64 z.s.ids)),(9,.arr (R.ty 0) 1 (bB .u32 z.s.js))]
abbrev Mj (R:Env):ah:=[(0,.var (R.ty 61) [.ao,.ao,.ao,.ao,.ao,.ao,.int .u32 0,.int .u32 0,.int .u32 0,.omap 1,.omap 2,.omap 3]),
 (1,.map 1 false true true 41 []),(2,.map 1 false false true 2 []),(3,.map 1 false false true 2 [])]
set_option maxHeartbeats 8000000 in
theorem Lb {R:Env} (h:OT R) (L:List Rw) (lay:Int) (hl:L.length≤1000000) (asc:L.Pairwise fun a b=>a.h<b.h):
  R.Mc 505 [.loc 0 1 0 0,.aJ 40 (iz L),.int .i64 lay] (Mj R) (.aP []) (Bu R (ir lay L)) 10:=
 h.aah.bC 200 4 rfl rfl rfl fun X bb hfit hp=>by
  unfold Mj
  refine sh ?_
  refine gW 200 (fun i:Nat=>i≤L.length) (fun i=>⟨[(0,.loc 0 1 0 0),(2,.int .i64 lay),(12,.aJ 40 (iz L)),(13,.int .i64 L.length),(14,.int .i64 i)],Bu R (ir lay (L.take i)),10⟩) (fun i=>L.length - i) (0) ?_ ?_
  ·exact Nat.zero_le _
  ·intro i hi
   dsimp only
   have B:=CA lay (L.take i)
   have Kx:=H7 lay (L.take i)
   have ht:(L.take i).length=i:=by rw[List.length_take]; omega
   rw[ht]at B
   refine sh ?_
   refine cS (fun h1=> ?_) (fun h1=> ?_)
   ·obtain⟨r,hr⟩:∃u_,L[i]? =some u_:=⟨_,List.getElem?_eq_getElem (by first|omega|(simp<;>omega))⟩
    refine sh ?_
    refine aa hr ?_
    have e2:ir lay (L.take (i+1))=qb lay (ir lay (L.take i)) r:=by rw[ay hr,wl]
    have lt:∀q ∈ L.take i,q.h≠r.h:=fun q hq=>by
     obtain⟨j,hj,rfl⟩:=List.getElem_of_mem hq
     rw[List.getElem_take]
     obtain⟨a1,rfl⟩:=List.getElem?_eq_some_iff.1 hr
     have:=List.pairwise_iff_getElem.1 asc j i (by omega) a1 (by omega)
     omega
    obtain⟨z,hz⟩:∃z,ir lay (L.take i)=z:=⟨_,rfl⟩
    rw[hz]at e2 B Kx ⊢
    obtain⟨b0,b1,b2,b3,b4,b5,b6,b7,b8,b9⟩:=B
    obtain⟨k1,k2,k3⟩:=Kx
    have g1:aW z.ms r.h=none:=zL fun q hq=>lt q (k1 q hq)
    have g2:eo z.pl r.h=none:=wm fun q hq=>by obtain⟨x,hx,e⟩:=k2 q hq; rw[←e]; exact lt x hx
    have g3:eo z.ks r.h=none:=wm fun q hq=>by obtain⟨x,hx,e⟩:=k3 q hq; rw[←e]; exact lt x hx
    unfold qb at e2
    refine sh ?_
    refine ae.pure h.n12.o12.hb (K9 h.n12 r.f lay) rfl ?_
    by_cases hb:dH r.f lay=0
    ·refine sh ?_
     refine af (by simp[hb]) ?_
     rw[if_pos hb]at e2
     refine sh ?_
     refine nX (i+1) ?_ ?_ ⟨_,hp,rfl⟩ ?_ ?_
     ·omega
     ·omega
     ·all_goals repeat' (first|exact True.intro|refine And.intro ?_ ?_|(intro _u; clear _u)|(with_reducible first|exact ai.fg|refine eM ?_ ?_|refine eF ?_ ?_ ?_|refine eN ?_|refine eL ?_ ?_ ?_|refine eA ?_ ?_|refine ap.mk ⟨_,hp,rfl⟩ ?_ ?_)|refine ap.mk ⟨_,hp,rfl⟩ ?_ ?_)
      all_goals try first|with_reducible rfl|omega|exact .inl (by decide)|(simp; done)|rfl
      all_goals (rw[e2]; done)
     ·all_goals repeat' (first|exact True.intro|refine And.intro ?_ ?_|(intro _u; clear _u)|(with_reducible first|exact ai.fg|refine eM ?_ ?_|refine eF ?_ ?_ ?_|refine eN ?_|refine eL ?_ ?_ ?_|refine eA ?_ ?_|refine ap.mk ⟨_,hp,rfl⟩ ?_ ?_)|refine ap.mk ⟨_,hp,rfl⟩ ?_ ?_)
      all_goals try first|with_reducible rfl|omega|exact .inl (by decide)|(simp; done)|rfl
      all_goals (rw[e2]; done)
    ·refine sh ?_
     refine aj (by simp[hb]) ?_
     rw[if_neg hb]at e2
     refine sh ?_
     refine zK fun j=> ?_
     rw[g2]
     dsimp only[Option.map_none]
     refine sh ?_
     refine cM true [] ((La h.n4 z.s.xV r.f.label b6).mc h.n4.o4.hb) ?_
     repeat (intro _; first|refine eK ?_|refine eP ?_)
     refine sh ?_
     refine cM true [] ((H4 h.n14 z.s.fr z.s.to r.f).mc h.n14.o14.hb) ?_
     repeat (intro _; first|refine eK ?_|refine eP ?_)
     refine sh ?_
     refine cS (fun q1=> ?_) (fun q1=> ?_)
     ·have e3:ir lay (L.take (i+1))=⟨dD z.s r,z.ms++ [r],z.pl++ [(r.h,(z.s.ids.length:Int))],z.ks⟩:=by rw[e2]; simp[q1]
      have e4:dD z.s r=⟨z.s.cj,z.s.ff,z.s.dg,z.s.gw,z.s.ids++ [r.f.id],z.s.js++ [r.f.label],HX z.s.xV r.f.label,max z.s.fr r.f.first,min z.s.to r.f.last⟩:=by unfold dD; simp[q1]
      rw[e4]at e3
      refine sh ?_
      refine n1 fun j=> ?_
      rw[g1]
      dsimp only[Option.map_none]
      refine sh ?_
      refine nX (i+1) ?_ ?_ ⟨_,hp,rfl⟩ ?_ ?_
      ·omega
      ·omega
      ·all_goals repeat' (first|exact True.intro|refine And.intro ?_ ?_|(intro _u; clear _u)|(with_reducible first|exact ai.fg|refine eM ?_ ?_|refine eF ?_ ?_ ?_|refine eN ?_|refine eL ?_ ?_ ?_|refine eA ?_ ?_|refine ap.mk ⟨_,hp,rfl⟩ ?_ ?_)|refine ap.mk ⟨_,hp,rfl⟩ ?_ ?_)
       all_goals try first|with_reducible rfl|omega|exact .inl (by decide)|(simp; done)|rfl
      ·all_goals repeat' (first|exact True.intro|refine And.intro ?_ ?_|(intro _u; clear _u)|(with_reducible first|exact ai.fg|refine eM ?_ ?_|refine eF ?_ ?_ ?_|refine eN ?_|refine eL ?_ ?_ ?_|refine eA ?_ ?_|refine ap.mk ⟨_,hp,rfl⟩ ?_ ?_)|refine ap.mk ⟨_,hp,rfl⟩ ?_ ?_)
       all_goals try first|with_reducible rfl|omega|exact .inl (by decide)|(simp; done)|rfl
       all_goals first|(rw[e3]; done)|(rw[e3]; simp[bB,cV,p2,hJ,uT,Rw.row,ku,ky,kw,jj.row,hG.row,je.row]; done)
     ·refine sh ?_
      refine cS (fun q3=> ?_) (fun q3=> ?_)
      ·have e3:ir lay (L.take (i+1))=⟨dD z.s r,z.ms,z.pl++ [(r.h,(z.s.ids.length:Int))],z.ks++ [(r.h,(z.s.ff.length:Int))]⟩:=by rw[e2]; simp[q3]
       have e4:dD z.s r=⟨z.s.cj,z.s.ff++ [r.a.mt],z.s.dg,z.s.gw,z.s.ids++ [r.f.id],z.s.js++ [r.f.label],HX z.s.xV r.f.label,max z.s.fr r.f.first,min z.s.to r.f.last⟩:=by unfold dD; simp[q3]
       rw[e4]at e3
       refine sh ?_
       refine zK fun j=> ?_
       rw[g3]
       dsimp only[Option.map_none]
       refine sh ?_
       refine nX (i+1) ?_ ?_ ⟨_,hp,rfl⟩ ?_ ?_
       ·omega
       ·omega
       ·all_goals repeat' (first|exact True.intro|refine And.intro ?_ ?_|(intro _u; clear _u)|(with_reducible first|exact ai.fg|refine eM ?_ ?_|refine eF ?_ ?_ ?_|refine eN ?_|refine eL ?_ ?_ ?_|refine eA ?_ ?_|refine ap.mk ⟨_,hp,rfl⟩ ?_ ?_)|refine ap.mk ⟨_,hp,rfl⟩ ?_ ?_)
        all_goals try first|with_reducible rfl|omega|exact .inl (by decide)|(simp; done)|rfl
       ·all_goals repeat' (first|exact True.intro|refine And.intro ?_ ?_|(intro _u; clear _u)|(with_reducible first|exact ai.fg|refine eM ?_ ?_|refine eF ?_ ?_ ?_|refine eN ?_|refine eL ?_ ?_ ?_|refine eA ?_ ?_|refine ap.mk ⟨_,hp,rfl⟩ ?_ ?_)|refine ap.mk ⟨_,hp,rfl⟩ ?_ ?_)
        all_goals try first|with_reducible rfl|omega|exact .inl (by decide)|(simp; done)|rfl
        all_goals first|(rw[e3]; done)|(rw[e3]; simp[bB,cV,p2,hJ,uT,Rw.row,ku,ky,kw,jj.row,hG.row,je.row]; done)
      ·refine sh ?_
       refine cS (fun q2=> ?_) (fun q2=> ?_)
       ·have e3:ir lay (L.take (i+1))=⟨dD z.s r,z.ms,z.pl++ [(r.h,(z.s.ids.length:Int))],z.ks++ [(r.h,(z.s.dg.length:Int))]⟩:=by rw[e2]; simp[q2]
        have e4:dD z.s r=⟨z.s.cj,z.s.ff,z.s.dg++ [r.a.x],z.s.gw,z.s.ids++ [r.f.id],z.s.js++ [r.f.label],HX z.s.xV r.f.label,max z.s.fr r.f.first,min z.s.to r.f.last⟩:=by unfold dD; simp[q2]
        rw[e4]at e3
        refine sh ?_
        refine zK fun j=> ?_
        rw[g3]
        dsimp only[Option.map_none]
        refine sh ?_
        refine nX (i+1) ?_ ?_ ⟨_,hp,rfl⟩ ?_ ?_
        ·omega
        ·omega
        ·all_goals repeat' (first|exact True.intro|refine And.intro ?_ ?_|(intro _u; clear _u)|(with_reducible first|exact ai.fg|refine eM ?_ ?_|refine eF ?_ ?_ ?_|refine eN ?_|refine eL ?_ ?_ ?_|refine eA ?_ ?_|refine ap.mk ⟨_,hp,rfl⟩ ?_ ?_)|refine ap.mk ⟨_,hp,rfl⟩ ?_ ?_)
         all_goals try first|with_reducible rfl|omega|exact .inl (by decide)|(simp; done)|rfl
        ·all_goals repeat' (first|exact True.intro|refine And.intro ?_ ?_|(intro _u; clear _u)|(with_reducible first|exact ai.fg|refine eM ?_ ?_|refine eF ?_ ?_ ?_|refine eN ?_|refine eL ?_ ?_ ?_|refine eA ?_ ?_|refine ap.mk ⟨_,hp,rfl⟩ ?_ ?_)|refine ap.mk ⟨_,hp,rfl⟩ ?_ ?_)
         all_goals try first|with_reducible rfl|omega|exact .inl (by decide)|(simp; done)|rfl
         all_goals first|(rw[e3]; done)|(rw[e3]; simp[bB,cV,p2,hJ,uT,Rw.row,ku,ky,kw,jj.row,hG.row,je.row]; done)
       ·have e3:ir lay (L.take (i+1))=⟨dD z.s r,z.ms,z.pl++ [(r.h,(z.s.ids.length:Int))],z.ks⟩:=by rw[e2]; simp[q1,q2,q3]
        refine sh ?_
        refine cS (fun q4=> ?_) (fun q4=> ?_)
        ·have e4:dD z.s r=⟨z.s.cj,z.s.ff,z.s.dg,z.s.gw++ [r.a.li],z.s.ids++ [r.f.id],z.s.js++ [r.f.label],HX z.s.xV r.f.label,max z.s.fr r.f.first,min z.s.to r.f.last⟩:=by unfold dD; simp[q4]
         rw[e4]at e3
         refine sh ?_
         refine nX (i+1) ?_ ?_ ⟨_,hp,rfl⟩ ?_ ?_
         ·omega
         ·omega
         ·all_goals repeat' (first|exact True.intro|refine And.intro ?_ ?_|(intro _u; clear _u)|(with_reducible first|exact ai.fg|refine eM ?_ ?_|refine eF ?_ ?_ ?_|refine eN ?_|refine eL ?_ ?_ ?_|refine eA ?_ ?_|refine ap.mk ⟨_,hp,rfl⟩ ?_ ?_)|refine ap.mk ⟨_,hp,rfl⟩ ?_ ?_)
          all_goals try first|with_reducible rfl|omega|exact .inl (by decide)|(simp; done)|rfl
         ·all_goals repeat' (first|exact True.intro|refine And.intro ?_ ?_|(intro _u; clear _u)|(with_reducible first|exact ai.fg|refine eM ?_ ?_|refine eF ?_ ?_ ?_|refine eN ?_|refine eL ?_ ?_ ?_|refine eA ?_ ?_|refine ap.mk ⟨_,hp,rfl⟩ ?_ ?_)|refine ap.mk ⟨_,hp,rfl⟩ ?_ ?_)
          all_goals try first|with_reducible rfl|omega|exact .inl (by decide)|(simp; done)|rfl
          all_goals first|(rw[e3]; done)|(rw[e3]; simp[bB,cV,p2,hJ,uT,Rw.row,ku,ky,kw,jj.row,hG.row,je.row]; done)
        ·have e4:dD z.s r=⟨z.s.cj,z.s.ff,z.s.dg,z.s.gw,z.s.ids++ [r.f.id],z.s.js++ [r.f.label],HX z.s.xV r.f.label,max z.s.fr r.f.first,min z.s.to r.f.last⟩:=by unfold dD; simp[q2,q3,q4]
         rw[e4]at e3
         refine sh ?_
         refine nX (i+1) ?_ ?_ ⟨_,hp,rfl⟩ ?_ ?_
         ·omega
         ·omega
         ·all_goals repeat' (first|exact True.intro|refine And.intro ?_ ?_|(intro _u; clear _u)|(with_reducible first|exact ai.fg|refine eM ?_ ?_|refine eF ?_ ?_ ?_|refine eN ?_|refine eL ?_ ?_ ?_|refine eA ?_ ?_|refine ap.mk ⟨_,hp,rfl⟩ ?_ ?_)|refine ap.mk ⟨_,hp,rfl⟩ ?_ ?_)
          all_goals try first|with_reducible rfl|omega|exact .inl (by decide)|(simp; done)|rfl
         ·all_goals repeat' (first|exact True.intro|refine And.intro ?_ ?_|(intro _u; clear _u)|(with_reducible first|exact ai.fg|refine eM ?_ ?_|refine eF ?_ ?_ ?_|refine eN ?_|refine eL ?_ ?_ ?_|refine eA ?_ ?_|refine ap.mk ⟨_,hp,rfl⟩ ?_ ?_)|refine ap.mk ⟨_,hp,rfl⟩ ?_ ?_)
          all_goals try first|with_reducible rfl|omega|exact .inl (by decide)|(simp; done)|rfl
          all_goals first|(rw[e3]; done)|(rw[e3]; simp[bB,cV,p2,hJ,uT,Rw.row,ku,ky,kw,jj.row,hG.row,je.row]; done)
   ·rw[List.take_of_length_le (by omega)]
    refine sh ?_
    exact rM [0,1,2,3,4,5,6,7,8,9]
end Go.UM
namespace Go.UM
open Go.AM
set_option maxRecDepth 4000
def Wv (l:List T3) (i:Int):T3:=l.getD i.toNat ⟨0,0,0⟩
def EV (l:List (Int × Int)) (i:Int):Int × Int:=l.getD i.toNat (0,0)
def kz (x:Af) (m:Ms) (dr ct obj lC:Int) (c:T3):rK:=
 ⟨(bX x (Wv m.v c.a)).1,(bX x (Wv m.v c.b)).1,(bX x (Wv m.v c.c)).1,(EV m.uv c.a).1,(EV m.uv c.a).2,(EV m.uv c.b).1,(EV m.uv c.b).2,(EV m.uv c.c).1,(EV m.uv c.c).2,dr,ct,obj,lC⟩
def ec.add (s:ec) (l:List rK):ec:=⟨s.cj++l,s.ff,s.dg,s.gw,s.ids,s.js,s.xV,s.fr,s.to⟩
def jg.add (z:jg) (l:List rK):jg:=⟨z.s.add l,z.ms,z.pl,z.ks⟩
def ud (z:jg) (k:In):Option Int:=if k.ct=0 then some (-1)else eo z.ks k.ct
def iB (lay:Int) (z:jg) (k:In):jg:=match aW z.ms k.aT,eo z.ks k.dr,ud z k with
 |some r,some m,some t=>z.add (r.a.m.t.map (kz k.t r.a.m m t ((eo z.pl k.aT).getD 0) (dH r.f lay)))
 |_,_,_=>z
theorem Ww {l:List (Int × Int)} (h:∀q ∈ l,bg .i64 q.1∧bg .i64 q.2):∀r ∈ cV l,jl r=true:=by
 intro r hr
 obtain⟨q,hq,rfl⟩:=List.mem_map.1 hr
 have:=h q hq
 simp[p2,jl]
theorem Wx (l:List (Int × Int)) (h:Int):CO (bL [.int .i64 h] (cV l))= .int .i64 ((eo l h).getD 0):=by
 obtain⟨i,hi⟩:=Bt h l
 rw[hi]
 cases eo l h<;>rfl
theorem gp {l:List T3} {i:Int} {v:T3} (h:l[i.toNat]? =some v):Wv l i=v:=by rw[Wv,List.getD_eq_getElem?_getD,h]; rfl
theorem fh {l:List (Int × Int)} {i:Int} {v:Int × Int} (h:l[i.toNat]? =some v):EV l i=v:=by rw[EV,List.getD_eq_getElem?_getD,h]; rfl
theorem add_succ {z:jg} {l:List rK} {j:Nat} {c:rK} (h:l[j]? =some c):(z.add (l.take (j+1))).s.cj=(z.add (l.take j)).s.cj++ [c]:=by
 rw[ay h]
 simp[jg.add,ec.add]
theorem qc {lay:Int} {z:jg} {k:In} (h:aW z.ms k.aT=none∨eo z.ks k.dr=none∨ud z k=none):iB lay z k=z:=by
 unfold iB
 rcases h with h|h|h
 ·rw[h]
 ·rw[h]; cases aW z.ms k.aT<;>rfl
 ·rw[h]; cases aW z.ms k.aT<;>cases eo z.ks k.dr<;>rfl
theorem ue {lay:Int} {z:jg} {k:In} {r:Rw} {m t:Int} (h1:aW z.ms k.aT=some r) (h2:eo z.ks k.dr=some m) (h3:ud z k=some t):
  iB lay z k=z.add (r.a.m.t.map (kz k.t r.a.m m t ((eo z.pl k.aT).getD 0) (dH r.f lay))):=by
 unfold iB
 rw[h1,h2,h3]
set_option maxHeartbeats 8000000 in
theorem Lc {R:Env} (h:OU R) (z:jg) (k:In) (lay:Int) (ok:∀r ∈ z.ms,r.a.k=1∧fE r) (hx:k.t.I) (ht:z.s.cj.length≤1000000) (Lt:∀q ∈ z.pl,bg .i64 q.1∧bg .i64 q.2):
  R.Mc 506 [.loc 0 1 0 0,.agg k.row,.int .i64 lay] (Bu R z) (.aP []) (Bu R (iB lay z k)) 10:=
 h.aai.bC 200 10 rfl rfl rfl fun X bb hfit hp=>by
  have Qo:=Ww Lt
  have Qp:=Wx z.pl k.aT
  refine sh ?_
  refine n1 fun i1=> ?_
  cases hr:aW z.ms k.aT with
  |none=>
   have hsk:iB lay z k=z:=qc (.inl hr)
   dsimp only[Option.map_none]
   refine sh ?_
   refine zK fun i2=> ?_
   cases hm:eo z.ks k.dr
   all_goals
    dsimp only[Option.map_none,Option.map_some]
    refine sh ?_
    refine zK fun i3=> ?_
    cases ht:eo z.ks k.ct
    all_goals
     dsimp only[Option.map_none,Option.map_some]
     refine sh ?_
     refine cS (fun k0=> ?_) (fun k0=> ?_)
     ·rw[hsk]
      refine sh ?_
      exact rM [0,1,2,3,4,5,6,7,8,9]
     ·rw[hsk]
      refine sh ?_
      exact rM [0,1,2,3,4,5,6,7,8,9]
  |some r=>
   dsimp only[Option.map_some]
   refine sh ?_
   refine zK fun i2=> ?_
   cases hm:eo z.ks k.dr with
   |none=>
    have hsk:iB lay z k=z:=qc (.inr (.inl hm))
    dsimp only[Option.map_none]
    refine sh ?_
    refine zK fun i3=> ?_
    cases ht:eo z.ks k.ct
    all_goals
     dsimp only[Option.map_none,Option.map_some]
     refine sh ?_
     refine cS (fun k0=> ?_) (fun k0=> ?_)
     ·rw[hsk]
      refine sh ?_
      exact rM [0,1,2,3,4,5,6,7,8,9]
     ·rw[hsk]
      refine sh ?_
      exact rM [0,1,2,3,4,5,6,7,8,9]
   |some m=>
    dsimp only[Option.map_some]
    refine sh ?_
    refine zK fun i3=> ?_
    cases htx:eo z.ks k.ct with
    |none=>
     dsimp only[Option.map_none]
     refine sh ?_
     refine cS (fun k0=> ?_) (fun k0=> ?_)
     ·obtain⟨t,X4⟩:∃t:Int,-1=t:=⟨_,rfl⟩
      have et:ud z k=some t:=by rw[ud,if_pos k0,X4]
      rw[ue hr hm et]
      have rk:=ok r (cz hr).1
      have rm:=jc (by have:=(dB rk.2.a).1; rw[own,if_pos rk.1]at this; exact this)
      have H8:∀v ∈ r.a.m.v,v.I:=fun v hv=>by
       have:=rm.pv v hv
       exact⟨by simp only[bg]; omega,by simp only[bg]; omega,by simp only[bg]; omega⟩
      obtain⟨ob,Mk⟩:∃ob,(eo z.pl k.aT).getD 0=ob:=⟨_,rfl⟩
      rw[Mk]
      obtain⟨g,hg⟩:∃g,kz k.t r.a.m m t ob (dH r.f lay)=g:=⟨_,rfl⟩
      rw[hg]
      obtain⟨T,hT⟩:∃T,r.a.m.t.map g=T:=⟨_,rfl⟩
      have hTl:T.length=r.a.m.t.length:=by rw[←hT,List.length_map]
      rw[hT]
      refine sh ?_
      refine aq.inv 200 (fun j:Nat=>j≤r.a.m.t.length) (fun j=>⟨[(0,.loc 0 1 0 0),(2,.int .i64 lay),(4,.loc 10 1 0 0),(6,.loc 11 1 0 0),(8,.int .i64 m),(10,.int .i64 t),(12,.loc 12 1 0 0),(65,.aJ 3 (bJ r.a.m.t)),(66,.int .i64 r.a.m.t.length),(67,.int .i64 j)],Bu R (z.add (T.take j))++ [(10,.var (R.ty 44) k.row),(11,.var (R.ty 45) r.row),(12,.var (R.ty 25) r.a.m.row)],13⟩) (fun j=>r.a.m.t.length - j) (0) ?_ ⟨⟨_,hp,rfl⟩,?_,?_⟩ ?_
      ·exact Nat.zero_le _
      ·all_goals repeat' (first|exact True.intro|refine And.intro ?_ ?_|(intro _u; clear _u)|(with_reducible first|exact ai.fg|refine eM ?_ ?_|refine eF ?_ ?_ ?_|refine eN ?_|refine eL ?_ ?_ ?_|refine eA ?_ ?_|refine ap.mk ⟨_,hp,rfl⟩ ?_ ?_)|refine ap.mk ⟨_,hp,rfl⟩ ?_ ?_)
       all_goals try first|with_reducible rfl|omega|exact .inl (by decide)|(simp; done)|rfl
       all_goals (simp[jg.add,ec.add]; done)
      ·all_goals repeat' (first|exact True.intro|refine And.intro ?_ ?_|(intro _u; clear _u)|(with_reducible first|exact ai.fg|refine eM ?_ ?_|refine eF ?_ ?_ ?_|refine eN ?_|refine eL ?_ ?_ ?_|refine eA ?_ ?_|refine ap.mk ⟨_,hp,rfl⟩ ?_ ?_)|refine ap.mk ⟨_,hp,rfl⟩ ?_ ?_)
       all_goals try first|with_reducible rfl|omega|exact .inl (by decide)|(simp; done)|rfl
       all_goals (simp[jg.add,ec.add]; done)
      ·intro j hj
       dsimp only
       refine sh ?_
       refine cS (fun h1=> ?_) (fun h1=> ?_)
       ·obtain⟨c,hc⟩:∃u_,r.a.m.t[j]? =some u_:=⟨_,List.getElem?_eq_getElem (by first|omega|(simp<;>omega))⟩
        refine sh ?_
        refine aa hc ?_
        have ur:=rm.pt c (List.mem_of_getElem? hc)
        have huv:=rm.uv
        have EO:=rm.t.2
        have hlen:(z.add (T.take j)).s.cj.length≤1000064:=by
         have:=rm.t.2
         simp[jg.add,ec.add]; omega
        refine sh ?_
        refine afv Qo (Qp.trans (by rw[Mk])) ?_
        refine sh ?_
        refine ae.pure h.n11.Us.hb (rL h.n11 r.f lay) rfl ?_
        refine sh ?_
        refine aq.one 200 ?_
        refine sh ?_
        refine af (by rfl) ?_
        obtain⟨va,um⟩:∃u_,r.a.m.v[c.a.toNat]? =some u_:=⟨_,List.getElem?_eq_getElem (by omega)⟩
        obtain⟨ua,Mn⟩:∃u_,r.a.m.uv[c.a.toNat]? =some u_:=⟨_,List.getElem?_eq_getElem (by omega)⟩
        refine sh ?_
        refine aa um ?_
        refine sh ?_
        refine ae.pure h.n241.tj.hb (eX h.n241 hx (H8 va (List.mem_of_getElem? um))) rfl ?_
        refine sh ?_
        refine aa Mn ?_
        refine sh ?_
        refine aq.one 200 ?_
        refine sh ?_
        refine af (by rfl) ?_
        obtain⟨vb,H9⟩:∃u_,r.a.m.v[c.b.toNat]? =some u_:=⟨_,List.getElem?_eq_getElem (by omega)⟩
        obtain⟨ub,Mo⟩:∃u_,r.a.m.uv[c.b.toNat]? =some u_:=⟨_,List.getElem?_eq_getElem (by omega)⟩
        refine sh ?_
        refine aa H9 ?_
        refine sh ?_
        refine ae.pure h.n241.tj.hb (eX h.n241 hx (H8 vb (List.mem_of_getElem? H9))) rfl ?_
        refine sh ?_
        refine aa Mo ?_
        refine sh ?_
        refine aq.one 200 ?_
        refine sh ?_
        refine af (by rfl) ?_
        obtain⟨vc,H'⟩:∃u_,r.a.m.v[c.c.toNat]? =some u_:=⟨_,List.getElem?_eq_getElem (by omega)⟩
        obtain⟨uc,Mp⟩:∃u_,r.a.m.uv[c.c.toNat]? =some u_:=⟨_,List.getElem?_eq_getElem (by omega)⟩
        refine sh ?_
        refine aa H' ?_
        refine sh ?_
        refine ae.pure h.n241.tj.hb (eX h.n241 hx (H8 vc (List.mem_of_getElem? H'))) rfl ?_
        refine sh ?_
        refine aa Mp ?_
        refine sh ?_
        refine aq.one 200 ?_
        refine sh ?_
        refine aj (by rfl) ?_
        have e3:(kz k.t r.a.m m t ob (dH r.f lay) c)=⟨(bX k.t va).1,(bX k.t vb).1,(bX k.t vc).1,ua.1,ua.2,ub.1,ub.2,uc.1,uc.2,m,t,ob,dH r.f lay⟩:=by
         simp only[kz,gp um,gp H9,gp H',fh Mn,fh Mo,fh Mp]
        rw[hg]at e3
        have Mq:T[j]? =some (g c):=by rw[←hT,List.getElem?_map,hc]; rfl
        refine sh ?_
        refine nX (j+1) ?_ ?_ ⟨_,hp,rfl⟩ ?_ ?_
        ·omega
        ·omega
        ·all_goals repeat' (first|exact True.intro|refine And.intro ?_ ?_|(intro _u; clear _u)|(with_reducible first|exact ai.fg|refine eM ?_ ?_|refine eF ?_ ?_ ?_|refine eN ?_|refine eL ?_ ?_ ?_|refine eA ?_ ?_|refine ap.mk ⟨_,hp,rfl⟩ ?_ ?_)|refine ap.mk ⟨_,hp,rfl⟩ ?_ ?_)
         all_goals try first|with_reducible rfl|omega|exact .inl (by decide)|(simp; done)|rfl
         all_goals (rw[add_succ Mq]; simp; done)
        ·all_goals repeat' (first|exact True.intro|refine And.intro ?_ ?_|(intro _u; clear _u)|(with_reducible first|exact ai.fg|refine eM ?_ ?_|refine eF ?_ ?_ ?_|refine eN ?_|refine eL ?_ ?_ ?_|refine eA ?_ ?_|refine ap.mk ⟨_,hp,rfl⟩ ?_ ?_)|refine ap.mk ⟨_,hp,rfl⟩ ?_ ?_)
         all_goals try first|with_reducible rfl|omega|exact .inl (by decide)|(simp; done)|rfl
         all_goals (rw[add_succ Mq]; simp[qa,e3,rK.row]; done)
       ·rw[List.take_of_length_le (by omega)]
        refine sh ?_
        exact rM [0,1,2,3,4,5,6,7,8,9]
     ·rw[qc (.inr (.inr (by rw[ud,if_neg k0,htx])))]
      refine sh ?_
      exact rM [0,1,2,3,4,5,6,7,8,9]
    |some t=>
     dsimp only[Option.map_some]
     refine sh ?_
     refine cS (fun k0=> ?_) (fun k0=> ?_)
     ·obtain⟨t,X4⟩:∃t:Int,-1=t:=⟨_,rfl⟩
      have et:ud z k=some t:=by rw[ud,if_pos k0,X4]
      rw[ue hr hm et]
      have rk:=ok r (cz hr).1
      have rm:=jc (by have:=(dB rk.2.a).1; rw[own,if_pos rk.1]at this; exact this)
      have H8:∀v ∈ r.a.m.v,v.I:=fun v hv=>by
       have:=rm.pv v hv
       exact⟨by simp only[bg]; omega,by simp only[bg]; omega,by simp only[bg]; omega⟩
      obtain⟨ob,Mk⟩:∃ob,(eo z.pl k.aT).getD 0=ob:=⟨_,rfl⟩
      rw[Mk]
      obtain⟨g,hg⟩:∃g,kz k.t r.a.m m t ob (dH r.f lay)=g:=⟨_,rfl⟩
      rw[hg]
      obtain⟨T,hT⟩:∃T,r.a.m.t.map g=T:=⟨_,rfl⟩
      have hTl:T.length=r.a.m.t.length:=by rw[←hT,List.length_map]
      rw[hT]
      refine sh ?_
      refine aq.inv 200 (fun j:Nat=>j≤r.a.m.t.length) (fun j=>⟨[(0,.loc 0 1 0 0),(2,.int .i64 lay),(4,.loc 10 1 0 0),(6,.loc 11 1 0 0),(8,.int .i64 m),(10,.int .i64 t),(12,.loc 12 1 0 0),(65,.aJ 3 (bJ r.a.m.t)),(66,.int .i64 r.a.m.t.length),(67,.int .i64 j)],Bu R (z.add (T.take j))++ [(10,.var (R.ty 44) k.row),(11,.var (R.ty 45) r.row),(12,.var (R.ty 25) r.a.m.row)],13⟩) (fun j=>r.a.m.t.length - j) (0) ?_ ⟨⟨_,hp,rfl⟩,?_,?_⟩ ?_
      ·exact Nat.zero_le _
      ·all_goals repeat' (first|exact True.intro|refine And.intro ?_ ?_|(intro _u; clear _u)|(with_reducible first|exact ai.fg|refine eM ?_ ?_|refine eF ?_ ?_ ?_|refine eN ?_|refine eL ?_ ?_ ?_|refine eA ?_ ?_|refine ap.mk ⟨_,hp,rfl⟩ ?_ ?_)|refine ap.mk ⟨_,hp,rfl⟩ ?_ ?_)
       all_goals try first|with_reducible rfl|omega|exact .inl (by decide)|(simp; done)|rfl
       all_goals (simp[jg.add,ec.add]; done)
      ·all_goals repeat' (first|exact True.intro|refine And.intro ?_ ?_|(intro _u; clear _u)|(with_reducible first|exact ai.fg|refine eM ?_ ?_|refine eF ?_ ?_ ?_|refine eN ?_|refine eL ?_ ?_ ?_|refine eA ?_ ?_|refine ap.mk ⟨_,hp,rfl⟩ ?_ ?_)|refine ap.mk ⟨_,hp,rfl⟩ ?_ ?_)
       all_goals try first|with_reducible rfl|omega|exact .inl (by decide)|(simp; done)|rfl
       all_goals (simp[jg.add,ec.add]; done)
      ·intro j hj
       dsimp only
       refine sh ?_
       refine cS (fun h1=> ?_) (fun h1=> ?_)
       ·obtain⟨c,hc⟩:∃u_,r.a.m.t[j]? =some u_:=⟨_,List.getElem?_eq_getElem (by first|omega|(simp<;>omega))⟩
        refine sh ?_
        refine aa hc ?_
        have ur:=rm.pt c (List.mem_of_getElem? hc)
        have huv:=rm.uv
        have EO:=rm.t.2
        have hlen:(z.add (T.take j)).s.cj.length≤1000064:=by
         have:=rm.t.2
         simp[jg.add,ec.add]; omega
        refine sh ?_
        refine afv Qo (Qp.trans (by rw[Mk])) ?_
        refine sh ?_
        refine ae.pure h.n11.Us.hb (rL h.n11 r.f lay) rfl ?_
        refine sh ?_
        refine aq.one 200 ?_
        refine sh ?_
        refine af (by rfl) ?_
        obtain⟨va,um⟩:∃u_,r.a.m.v[c.a.toNat]? =some u_:=⟨_,List.getElem?_eq_getElem (by omega)⟩
        obtain⟨ua,Mn⟩:∃u_,r.a.m.uv[c.a.toNat]? =some u_:=⟨_,List.getElem?_eq_getElem (by omega)⟩
        refine sh ?_
        refine aa um ?_
        refine sh ?_
        refine ae.pure h.n241.tj.hb (eX h.n241 hx (H8 va (List.mem_of_getElem? um))) rfl ?_
        refine sh ?_
        refine aa Mn ?_
        refine sh ?_
        refine aq.one 200 ?_
        refine sh ?_
        refine af (by rfl) ?_
        obtain⟨vb,H9⟩:∃u_,r.a.m.v[c.b.toNat]? =some u_:=⟨_,List.getElem?_eq_getElem (by omega)⟩
        obtain⟨ub,Mo⟩:∃u_,r.a.m.uv[c.b.toNat]? =some u_:=⟨_,List.getElem?_eq_getElem (by omega)⟩
        refine sh ?_
        refine aa H9 ?_
        refine sh ?_
        refine ae.pure h.n241.tj.hb (eX h.n241 hx (H8 vb (List.mem_of_getElem? H9))) rfl ?_
        refine sh ?_
        refine aa Mo ?_
        refine sh ?_
        refine aq.one 200 ?_
        refine sh ?_
        refine af (by rfl) ?_
        obtain⟨vc,H'⟩:∃u_,r.a.m.v[c.c.toNat]? =some u_:=⟨_,List.getElem?_eq_getElem (by omega)⟩
        obtain⟨uc,Mp⟩:∃u_,r.a.m.uv[c.c.toNat]? =some u_:=⟨_,List.getElem?_eq_getElem (by omega)⟩
        refine sh ?_
        refine aa H' ?_
        refine sh ?_
        refine ae.pure h.n241.tj.hb (eX h.n241 hx (H8 vc (List.mem_of_getElem? H'))) rfl ?_
        refine sh ?_
        refine aa Mp ?_
        refine sh ?_
        refine aq.one 200 ?_
        refine sh ?_
        refine aj (by rfl) ?_
        have e3:(kz k.t r.a.m m t ob (dH r.f lay) c)=⟨(bX k.t va).1,(bX k.t vb).1,(bX k.t vc).1,ua.1,ua.2,ub.1,ub.2,uc.1,uc.2,m,t,ob,dH r.f lay⟩:=by
         simp only[kz,gp um,gp H9,gp H',fh Mn,fh Mo,fh Mp]
        rw[hg]at e3
        have Mq:T[j]? =some (g c):=by rw[←hT,List.getElem?_map,hc]; rfl
        refine sh ?_
        refine nX (j+1) ?_ ?_ ⟨_,hp,rfl⟩ ?_ ?_
        ·omega
        ·omega
        ·all_goals repeat' (first|exact True.intro|refine And.intro ?_ ?_|(intro _u; clear _u)|(with_reducible first|exact ai.fg|refine eM ?_ ?_|refine eF ?_ ?_ ?_|refine eN ?_|refine eL ?_ ?_ ?_|refine eA ?_ ?_|refine ap.mk ⟨_,hp,rfl⟩ ?_ ?_)|refine ap.mk ⟨_,hp,rfl⟩ ?_ ?_)
         all_goals try first|with_reducible rfl|omega|exact .inl (by decide)|(simp; done)|rfl
         all_goals (rw[add_succ Mq]; simp; done)
        ·all_goals repeat' (first|exact True.intro|refine And.intro ?_ ?_|(intro _u; clear _u)|(with_reducible first|exact ai.fg|refine eM ?_ ?_|refine eF ?_ ?_ ?_|refine eN ?_|refine eL ?_ ?_ ?_|refine eA ?_ ?_|refine ap.mk ⟨_,hp,rfl⟩ ?_ ?_)|refine ap.mk ⟨_,hp,rfl⟩ ?_ ?_)
         all_goals try first|with_reducible rfl|omega|exact .inl (by decide)|(simp; done)|rfl
         all_goals (rw[add_succ Mq]; simp[qa,e3,rK.row]; done)
       ·rw[List.take_of_length_le (by omega)]
        refine sh ?_
        exact rM [0,1,2,3,4,5,6,7,8,9]
     ·have X4:t=t:=rfl
      have et:ud z k=some t:=by rw[ud,if_neg k0,htx]
      rw[ue hr hm et]
      have rk:=ok r (cz hr).1
      have rm:=jc (by have:=(dB rk.2.a).1; rw[own,if_pos rk.1]at this; exact this)
      have H8:∀v ∈ r.a.m.v,v.I:=fun v hv=>by
       have:=rm.pv v hv
       exact⟨by simp only[bg]; omega,by simp only[bg]; omega,by simp only[bg]; omega⟩
      obtain⟨ob,Mk⟩:∃ob,(eo z.pl k.aT).getD 0=ob:=⟨_,rfl⟩
      rw[Mk]
      obtain⟨g,hg⟩:∃g,kz k.t r.a.m m t ob (dH r.f lay)=g:=⟨_,rfl⟩
      rw[hg]
      obtain⟨T,hT⟩:∃T,r.a.m.t.map g=T:=⟨_,rfl⟩
      have hTl:T.length=r.a.m.t.length:=by rw[←hT,List.length_map]
      rw[hT]
      refine sh ?_
      refine aq.inv 200 (fun j:Nat=>j≤r.a.m.t.length) (fun j=>⟨[(0,.loc 0 1 0 0),(2,.int .i64 lay),(4,.loc 10 1 0 0),(6,.loc 11 1 0 0),(8,.int .i64 m),(10,.int .i64 t),(12,.loc 12 1 0 0),(65,.aJ 3 (bJ r.a.m.t)),(66,.int .i64 r.a.m.t.length),(67,.int .i64 j)],Bu R (z.add (T.take j))++ [(10,.var (R.ty 44) k.row),(11,.var (R.ty 45) r.row),(12,.var (R.ty 25) r.a.m.row)],13⟩) (fun j=>r.a.m.t.length - j) (0) ?_ ⟨⟨_,hp,rfl⟩,?_,?_⟩ ?_
      ·exact Nat.zero_le _
      ·all_goals repeat' (first|exact True.intro|refine And.intro ?_ ?_|(intro _u; clear _u)|(with_reducible first|exact ai.fg|refine eM ?_ ?_|refine eF ?_ ?_ ?_|refine eN ?_|refine eL ?_ ?_ ?_|refine eA ?_ ?_|refine ap.mk ⟨_,hp,rfl⟩ ?_ ?_)|refine ap.mk ⟨_,hp,rfl⟩ ?_ ?_)
       all_goals try first|with_reducible rfl|omega|exact .inl (by decide)|(simp; done)|rfl
       all_goals (simp[jg.add,ec.add]; done)
      ·all_goals repeat' (first|exact True.intro|refine And.intro ?_ ?_|(intro _u; clear _u)|(with_reducible first|exact ai.fg|refine eM ?_ ?_|refine eF ?_ ?_ ?_|refine eN ?_|refine eL ?_ ?_ ?_|refine eA ?_ ?_|refine ap.mk ⟨_,hp,rfl⟩ ?_ ?_)|refine ap.mk ⟨_,hp,rfl⟩ ?_ ?_)
       all_goals try first|with_reducible rfl|omega|exact .inl (by decide)|(simp; done)|rfl
       all_goals (simp[jg.add,ec.add]; done)
      ·intro j hj
       dsimp only
       refine sh ?_
       refine cS (fun h1=> ?_) (fun h1=> ?_)
       ·obtain⟨c,hc⟩:∃u_,r.a.m.t[j]? =some u_:=⟨_,List.getElem?_eq_getElem (by first|omega|(simp<;>omega))⟩
        refine sh ?_
        refine aa hc ?_
        have ur:=rm.pt c (List.mem_of_getElem? hc)
        have huv:=rm.uv
        have EO:=rm.t.2
        have hlen:(z.add (T.take j)).s.cj.length≤1000064:=by
         have:=rm.t.2
         simp[jg.add,ec.add]; omega
        refine sh ?_
        refine afv Qo (Qp.trans (by rw[Mk])) ?_
        refine sh ?_
        refine ae.pure h.n11.Us.hb (rL h.n11 r.f lay) rfl ?_
        refine sh ?_
        refine aq.one 200 ?_
        refine sh ?_
        refine af (by rfl) ?_
        obtain⟨va,um⟩:∃u_,r.a.m.v[c.a.toNat]? =some u_:=⟨_,List.getElem?_eq_getElem (by omega)⟩
        obtain⟨ua,Mn⟩:∃u_,r.a.m.uv[c.a.toNat]? =some u_:=⟨_,List.getElem?_eq_getElem (by omega)⟩
        refine sh ?_
        refine aa um ?_
        refine sh ?_
        refine ae.pure h.n241.tj.hb (eX h.n241 hx (H8 va (List.mem_of_getElem? um))) rfl ?_
        refine sh ?_
        refine aa Mn ?_
        refine sh ?_
        refine aq.one 200 ?_
        refine sh ?_
        refine af (by rfl) ?_
        obtain⟨vb,H9⟩:∃u_,r.a.m.v[c.b.toNat]? =some u_:=⟨_,List.getElem?_eq_getElem (by omega)⟩
        obtain⟨ub,Mo⟩:∃u_,r.a.m.uv[c.b.toNat]? =some u_:=⟨_,List.getElem?_eq_getElem (by omega)⟩
        refine sh ?_
        refine aa H9 ?_
        refine sh ?_
        refine ae.pure h.n241.tj.hb (eX h.n241 hx (H8 vb (List.mem_of_getElem? H9))) rfl ?_
        refine sh ?_
        refine aa Mo ?_
        refine sh ?_
        refine aq.one 200 ?_
        refine sh ?_
        refine af (by rfl) ?_
        obtain⟨vc,H'⟩:∃u_,r.a.m.v[c.c.toNat]? =some u_:=⟨_,List.getElem?_eq_getElem (by omega)⟩
        obtain⟨uc,Mp⟩:∃u_,r.a.m.uv[c.c.toNat]? =some u_:=⟨_,List.getElem?_eq_getElem (by omega)⟩
        refine sh ?_
        refine aa H' ?_
        refine sh ?_
        refine ae.pure h.n241.tj.hb (eX h.n241 hx (H8 vc (List.mem_of_getElem? H'))) rfl ?_
        refine sh ?_
        refine aa Mp ?_
        refine sh ?_
        refine aq.one 200 ?_
        refine sh ?_
        refine aj (by rfl) ?_
        have e3:(kz k.t r.a.m m t ob (dH r.f lay) c)=⟨(bX k.t va).1,(bX k.t vb).1,(bX k.t vc).1,ua.1,ua.2,ub.1,ub.2,uc.1,uc.2,m,t,ob,dH r.f lay⟩:=by
         simp only[kz,gp um,gp H9,gp H',fh Mn,fh Mo,fh Mp]
        rw[hg]at e3
        have Mq:T[j]? =some (g c):=by rw[←hT,List.getElem?_map,hc]; rfl
        refine sh ?_
        refine nX (j+1) ?_ ?_ ⟨_,hp,rfl⟩ ?_ ?_
        ·omega
        ·omega
        ·all_goals repeat' (first|exact True.intro|refine And.intro ?_ ?_|(intro _u; clear _u)|(with_reducible first|exact ai.fg|refine eM ?_ ?_|refine eF ?_ ?_ ?_|refine eN ?_|refine eL ?_ ?_ ?_|refine eA ?_ ?_|refine ap.mk ⟨_,hp,rfl⟩ ?_ ?_)|refine ap.mk ⟨_,hp,rfl⟩ ?_ ?_)
         all_goals try first|with_reducible rfl|omega|exact .inl (by decide)|(simp; done)|rfl
         all_goals (rw[add_succ Mq]; simp; done)
        ·all_goals repeat' (first|exact True.intro|refine And.intro ?_ ?_|(intro _u; clear _u)|(with_reducible first|exact ai.fg|refine eM ?_ ?_|refine eF ?_ ?_ ?_|refine eN ?_|refine eL ?_ ?_ ?_|refine eA ?_ ?_|refine ap.mk ⟨_,hp,rfl⟩ ?_ ?_)|refine ap.mk ⟨_,hp,rfl⟩ ?_ ?_)
         all_goals try first|with_reducible rfl|omega|exact .inl (by decide)|(simp; done)|rfl
         all_goals (rw[add_succ Mq]; simp[qa,e3,rK.row]; done)
       ·rw[List.take_of_length_le (by omega)]
        refine sh ?_
        exact rM [0,1,2,3,4,5,6,7,8,9]
end Go.UM
namespace Go.UM
open Go.AM
set_option maxRecDepth 4000
theorem fbm:rq.bare.Bg:=by refine⟨?_,?_,?_,?_⟩<;>simp[rq,As.bare]
theorem Wy (c:Ac):c.kC.a.Bg:=by
 refine⟨?_,?_,?_,?_⟩<;>simp[Ac.kC,As.kC,Ms.kC]<;>omega
end Go.UM
namespace Go.UM
open Go.AM
set_option maxRecDepth 4000
def mQ (lay:Int) (L:List Rw) (N:List In):jg:=N.foldl (iB lay) (ir lay L)
theorem EC (lay:Int) (L:List Rw) (N:List In) (k:In):mQ lay L (N++ [k])=iB lay (mQ lay L N) k:=by simp[mQ]
theorem qd (lay:Int) (z:jg) (k:In):(iB lay z k).ms=z.ms∧(iB lay z k).pl=z.pl∧(iB lay z k).ks=z.ks:=by
 unfold iB
 split<;>exact⟨rfl,rfl,rfl⟩
theorem Bv (lay:Int) (N:List In):∀z:jg,(N.foldl (iB lay) z).ms=z.ms∧(N.foldl (iB lay) z).pl=z.pl∧(N.foldl (iB lay) z).ks=z.ks:=by
 induction N with
 |nil=>exact fun z=>⟨rfl,rfl,rfl⟩
 |cons k N ih=>
  intro z
  obtain⟨h1,h2,h3⟩:=ih (iB lay z k)
  obtain⟨g1,g2,g3⟩:=qd lay z k
  exact⟨h1.trans g1,h2.trans g2,h3.trans g3⟩
theorem ED {lay:Int} {z:jg} {k:In} (ok:∀r ∈ z.ms,r.a.k=1∧fE r):(iB lay z k).s.cj.length≤z.s.cj.length+64:=by
 unfold iB
 split
 ·rename_i r m t h1 _ _
  have rk:=ok r (cz h1).1
  have rm:=jc (by have:=(dB rk.2.a).1; rw[own,if_pos rk.1]at this; exact this)
  have:=rm.t.2
  simp[jg.add,ec.add]; omega
 ·omega
theorem Ia (lay:Int) (L:List Rw) (ok:∀r ∈ L,fE r):∀r ∈ (ir lay L).ms,r.a.k=1∧fE r:=by
 refine l9 (P:=fun l z=>(∀r ∈ l,fE r)→∀r ∈ z.ms,r.a.k=1∧fE r) lay (by simp[jg.qP]) (fun l z x h ok r hr=> ?_) L ok
 have old:=h (fun r hr=>ok r (by simp[hr]))
 unfold qb at hr
 split at hr
 ·exact old r hr
 ·dsimp only at hr
  split at hr
  ·rename_i k1
   rcases List.mem_append.1 hr with q|q
   ·exact old r q
   ·simp only[List.mem_singleton]at q
    subst q
    exact⟨k1,ok r (by simp)⟩
  ·exact old r hr
theorem Qq (lay:Int) (L:List Rw) (ok:∀r ∈ L,fE r) (hl:L.length≤1000000):∀q ∈ (ir lay L).pl,bg .i64 q.1∧bg .i64 q.2:=by
 have:∀q ∈ (ir lay L).pl,(1≤q.1∧q.1≤65536)∧(0≤q.2∧q.2≤L.length):=by
  refine l9 (P:=fun l z=>(∀r ∈ l,fE r)→z.s.ids.length≤l.length∧∀q ∈ z.pl,(1≤q.1∧q.1≤65536)∧(0≤q.2∧q.2≤(l.length:Int))) lay (by simp[jg.qP,ec.qP]) (fun l z x h ok=> ?_) L ok |>.2
  obtain⟨h1,h2⟩:=h (fun r hr=>ok r (by simp[hr]))
  have e:(l++ [x]).length=l.length+1:=by simp
  rw[e]
  unfold qb
  split
  ·exact⟨by omega,fun q hq=>by have:=h2 q hq; omega⟩
  ·refine⟨by simp[dD]; omega,fun q hq=> ?_⟩
   rcases List.mem_append.1 hq with k|k
   ·have:=h2 q k; omega
   ·simp only[List.mem_singleton]at k
    subst k
    have:=(ok x (by simp)).h
    dsimp only
    omega
 intro q hq
 have:=this q hq
 exact⟨by simp only[bg]; omega,by simp only[bg]; omega⟩
theorem EE (lay:Int) (L:List Rw) (N:List In) (ok:∀r ∈ L,fE r):(mQ lay L N).s.cj.length≤64*N.length:=by
 have:∀ (N:List In) (z:jg),(∀r ∈ z.ms,r.a.k=1∧fE r)→(N.foldl (iB lay) z).s.cj.length≤z.s.cj.length+64*N.length:=by
  intro N
  induction N with
  |nil=>intro z _; simp
  |cons k N ih=>
   intro z hz
   have h1:=ih (iB lay z k) (by rw[(qd lay z k).1]; exact hz)
   have h2:=ED (lay:=lay) (k:=k) hz
   rw[List.foldl_cons,List.length_cons]
   omega
 have h:=this N (ir lay L) (Ia lay L ok)
 rw[(CA lay L).t]at h
 simpa[mQ]using h
abbrev WA (R:Env) (d:Bool) (t:Tb) (z:jg):ah:=[(0,.map 1 false true d 41 (hJ t.rows)),(1,.map 4 true true false 16 (cD t.ins)),(2,.var (R.ty 47) [.omap 0,.omap 1]),(3,.var (R.ty 59) [.ao,.ao,.ao,.ao,.ao,.ao,.int .u32 0,.int .u32 0,.int .u32 0]),
 (10,.var (R.ty 61) [.bc 12 z.s.cj.length,.bc 13 z.s.ff.length,.bc 14 z.s.dg.length,.bc 15 z.s.gw.length,.bc 16 z.s.ids.length,.bc 17 z.s.js.length,.int .u32 z.s.xV,.int .u32 z.s.fr,.int .u32 z.s.to,.omap 7,.omap 8,.omap 9]),
 (7,.map 1 false true true 41 (hJ z.ms)),(8,.map 1 false false true 2 (cV z.pl)),(9,.map 1 false false true 2 (cV z.ks)),
 (12,.arr (R.ty 60) 19 (qa z.s.cj)),(13,.arr (R.ty 40) 5 (ku z.s.ff)),(14,.arr (R.ty 12) 2 (ky z.s.dg)),(15,.arr (R.ty 41) 13 (kw z.s.gw)),(16,.arr (R.ty 6) 1 (bB .u64 z.s.ids)),(17,.arr (R.ty 0) 1 (bB .u32 z.s.js))]
set_option maxHeartbeats 4000000 in
theorem Ib {R:Env} (h:J9 R) (K:v6 R) (C:Wr R) (gv:List In→List In) (S:zv R gv) (hs:K2 gv) (t:Tb) {n:Nat} (ok:jf t n) (hn:n≤10000) (hx:∀x ∈ t.ins,x.t.I) (lay:Int) (agd:0≤lay∧lay<8):
  R.Mz true 491 [.loc 2 1 0 0,.int .i64 lay] (eb R false false t) (.aP [.agg (mQ lay (bf t.rows) (cE t.ins)).s.row,.int .i64 0]) (eb R false false t) 3:=
 h.aaj.B4 200 3 rfl rfl rfl fun X bb hfit hp hz=>by
  have h1:=ok.rl
  have h2:=ok.il
  have c1:=K4 h.OV K false false t ok (by omega)
  have c2:=HE h.OW gv S hs false false t ok.nd (by omega)
  obtain⟨L,hL⟩:∃L,bf t.rows=L:=⟨_,rfl⟩
  obtain⟨N,hN⟩:∃N,cE t.ins=N:=⟨_,rfl⟩
  have age:L.length≤10000:=by rw[←hL,gn]; omega
  have agf:N.length≤10000:=by rw[←hN,lf]; omega
  have asc:L.Pairwise (fun a b=>a.h<b.h):=hL ▸ mG ok.rd
  have Ic:∀r ∈ L,fE r:=fun r hr=>ok.row r (eC.1 (hL ▸ hr))
  have xok:∀x ∈ N,x.t.I:=fun x hx'=>hx x (kr.1 (hN ▸ hx'))
  rw[hL]at c1 ⊢
  rw[hN]at c2 ⊢
  unfold eb
  refine sh ?_
  refine cM false [0,1,2] (Qn h.OX C false false t) ?_
  repeat (intro _; first|refine eK ?_|refine eP ?_)
  refine sh ?_
  refine cS (fun k1=> ?_) (fun k1=> ?_)
  ·exact absurd k1 (by omega)
  ·refine sh ?_
   refine cS (fun k2=> ?_) (fun k2=> ?_)
   ·exact absurd k2 (by omega)
   ·refine sh ?_
    refine cM false [0,1,2] (c1) ?_
    repeat (intro _; first|refine eK ?_|refine eP ?_)
    refine sh ?_
    refine ae.let [11] rfl hp rfl ?_
    repeat ((intro _u; clear _u); first|refine eZ ?_|refine eZ ?_ (by simp; omega)|refine Gt.drop ?_)
    refine sh ?_
    refine cM false [10,7,8,9] (Lb h.OY L lay (by omega) asc) ?_
    repeat (intro _; first|refine eK ?_|refine eP ?_)
    refine sh ?_
    refine cM false [0,1,2] (c2) ?_
    repeat (intro _; first|refine eK ?_|refine eP ?_)
    refine sh ?_
    refine gW 200 (fun i:Nat=>i≤N.length) (fun i=>⟨[(1,.int .i64 lay),(4,.loc 3 1 0 0),(6,.loc 10 1 0 0),(33,.aJ 16 (cD N)),(34,.int .i64 N.length),(35,.int .i64 i)],WA R false t (mQ lay L (N.take i)),18⟩) (fun i=>N.length - i) (0) ?_ ?_
    ·exact Nat.zero_le _
    ·intro i hi
     dsimp only
     refine sh ?_
     refine cS (fun g1=> ?_) (fun g1=> ?_)
     ·obtain⟨x,hx⟩:∃u_,N[i]? =some u_:=⟨_,List.getElem?_eq_getElem (by first|omega|(simp<;>omega))⟩
      refine sh ?_
      refine aa hx ?_
      have zm:=Bv lay (N.take i) (ir lay L)
      refine sh ?_
      refine cM false [10,7,8,9,12,13,14,15,16,17] (Lc h.OZ (mQ lay L (N.take i)) x lay (by rw[mQ,zm.1]; exact Ia lay L Ic) (xok x (List.mem_of_getElem? hx)) (by have:=EE lay L (N.take i) Ic; rw[List.length_take]at this; omega) (by rw[mQ,zm.2.1]; exact Qq lay L Ic (by omega))) ?_
      repeat (intro _; first|refine eK ?_|refine eP ?_)
      rw[←EC,←ay hx]
      refine sh ?_
      refine lz (i+1) ?_ ?_
      ·omega
      ·omega
     ·rw[List.take_of_length_le (by omega)]
      refine sh ?_
      exact rM [0,1,2]
end Go.UM
namespace Go.UM
open Go.AM
set_option maxRecDepth 4000
def m19:Ms:=⟨[⟨0,0,0⟩,⟨5,0,0⟩,⟨0,7,0⟩],[(0,0),(0,0),(0,0)],[⟨0,1,2⟩,⟨2,1,0⟩]⟩
def Ie:As:=⟨1,m19,⟨0,[]⟩,⟨0,z3,0⟩,⟨0,z3,z3,z3,z3⟩⟩
def f19 (k:Int):Mf:=⟨0,k,0,1,0,0,0,0,0,0,0,0,0,0,0⟩
def EF:In:=⟨1,2,0,0,GY⟩
theorem Qr:du Ie=0:=by kernel_rfl
def CB:List Rw:=[⟨1,f19 1,Ie⟩,⟨2,f19 3,rq⟩]
def t19:Tb:=⟨CB,[EF]⟩
theorem WB:gy ⟨[],[]⟩ 1 (f19 1) Ie=(⟨[⟨1,f19 1,Ie⟩],[]⟩,0):=by unfold gy; rw[Qr]; rfl
theorem WC:gy ⟨[⟨1,f19 1,Ie⟩],[]⟩ 2 (f19 3) rq=(⟨CB,[]⟩,0):=by unfold gy; rw[Cz]; rfl
theorem WD:jS ⟨CB,[]⟩ EF=(t19,0):=by kernel_rfl
theorem aaS:bf CB=CB:=by
 refine (og (l:=CB) ?_ (List.Perm.refl _) ?_).symm
 ·simp[CB]
 ·simp[CB,jX]
theorem aaT:cE [EF]=[EF]:=by simp[cE]
theorem p19:(mQ 0 CB [EF]).s.cj.length=2∧(mQ 0 CB [EF]).s.ff.length=1∧((mQ 0 CB [EF]).s.cj.map (·.ct))=[-1,-1]:=⟨by kernel_rfl,by kernel_rfl,by kernel_rfl⟩
theorem Ld:jf t19 3∧∀x ∈ t19.ins,x.t.I:=by
 have h1:=tR zw (hd:=1) (f:=f19 1) (a:=Ie) (by simp[Ie])
 rw[WB]at h1
 have h2:=tR h1 (hd:=2) (f:=f19 3) (a:=rq) (by simp[rq])
 rw[WC]at h2
 have h3:=Cv h2 (x:=EF)
 rw[WD]at h3
 refine⟨h3,fun x hx=> ?_⟩
 have:x=EF:=by simpa[t19]using hx
 subst this
 exact Kv
set_option maxHeartbeats 4000000 in
theorem wo {R:Env} (h:PI R) (K:v6 R) (C:Wr R) (gv:List In→List In) (S:zv R gv) (hs:K2 gv):R.Pz true 493 [] (.bool true):=
 h.PJ.Gp 200 rfl fun X bb hfit hp hz=>by
  have c1:=Bk h.n346 true true ⟨[],[]⟩ 1 (f19 1) Ie (by simp[Ie]) (by refine⟨?_,?_,?_,?_⟩<;>simp[Ie,m19,As.bare,p6]) (by simp)
  have c2:=Bk h.n346 true true ⟨[⟨1,f19 1,Ie⟩],[]⟩ 2 (f19 3) rq (by simp[rq]) fbm (by simp)
  have c3:=Hx h.DP true true ⟨CB,[]⟩ EF (fun r hr=>Ld.1.row r hr) (Ld.2 EF (by simp[t19])) (by simp)
  have c4:=Ib h.DQ K C gv S hs t19 Ld.1 (by omega) Ld.2 0 (by omega)
  rw[show t19.rows=CB from rfl,aaS,show t19.ins=[EF]from rfl,aaT]at c4
  obtain⟨q1,q2,q3⟩:=p19
  obtain⟨Z,hZ⟩:∃Z,(mQ 0 CB [EF]).s=Z:=⟨_,rfl⟩
  rw[hZ]at c4 q1 q2 q3
  rw[WB]at c1
  rw[WC]at c2
  rw[WD]at c3
  refine sh ?_
  refine cM false [] (Hu h.n345) ?_
  repeat (intro _; first|refine eK ?_|refine eP ?_)
  refine sh ?_
  refine Sl 3 rfl rfl (by omega) ?_
  refine sh ?_
  refine ae.let [3,4,5] rfl hp rfl ?_
  repeat ((intro _u; clear _u); first|refine eZ ?_|refine eZ ?_ (by simp; omega)|refine Gt.drop ?_)
  refine sh ?_
  refine cM false [0,1,2] (c1) ?_
  repeat (intro _; first|refine eK ?_|refine eP ?_)
  refine sh ?_
  refine cM false [0,1,2] (c2) ?_
  repeat (intro _; first|refine eK ?_|refine eP ?_)
  refine sh ?_
  refine ae.pure h.n221.TL.hb (KF h.n221) rfl ?_
  refine sh ?_
  refine cM false [0,1,2] (c3) ?_
  repeat (intro _; first|refine eK ?_|refine eP ?_)
  refine sh ?_
  refine cM false [0,1,2] (c4) ?_
  repeat (intro _; first|refine eK ?_|refine eP ?_)
  refine sh ?_
  refine af (by rfl) ?_
  refine sh ?_
  refine af (by rw[q1]; rfl) ?_
  refine sh ?_
  refine af (by rw[q2]; rfl) ?_
  obtain⟨a,ha⟩:∃u_,Z.cj[0]? =some u_:=⟨_,List.getElem?_eq_getElem (by first|omega|(simp<;>omega))⟩
  refine sh ?_
  refine aa ha ?_
  refine sh ?_
  refine rT ?_
  all_goals repeat' (first|exact True.intro|refine And.intro ?_ ?_|(intro _u; clear _u)|(with_reducible first|exact ai.fg|refine eM ?_ ?_|refine eF ?_ ?_ ?_|refine eN ?_|refine eL ?_ ?_ ?_|refine eA ?_ ?_|refine ap.mk ⟨_,hp,rfl⟩ ?_ ?_)|refine ap.mk ⟨_,hp,rfl⟩ ?_ ?_)
  all_goals try first|with_reducible rfl|omega|exact .inl (by decide)|(simp; done)|rfl
  have Wl:a.ct= -1:=by
   have:=congrArg (fun l=>l[0]?) q3
   simp[ha]at this
   exact this
  simp[Wl]
end Go.UM
namespace Go.UM
open Go.AM
set_option maxRecDepth 4000
theorem If {k a b c r:Int} (h0:bg .i64 k) (h1:bg .i64 a) (h2:bg .i64 b) (h3:bg .i64 c) (h4:bg .i64 r):∀y ∈ (jj.aQ ⟨k,⟨a,b,c⟩,r⟩),bg .i64 y:=fun y hy=>by
 simp only[jj.aQ,List.cons_append,List.nil_append,List.mem_cons,List.not_mem_nil,or_false]at hy
 rcases hy with rfl|rfl|rfl|rfl|rfl<;>assumption
theorem EG {l:je} (h0:bg .i64 l.k) (h1:l.c.I) (h2:l.p.I) (h3:l.u.I) (h4:l.v.I):∀y ∈ l.aQ,bg .i64 y:=fun y hy=>by
 obtain⟨a1,a2,a3⟩:=h1
 obtain⟨b1,b2,b3⟩:=h2
 obtain⟨c1,c2,c3⟩:=h3
 obtain⟨d1,d2,d3⟩:=h4
 simp only[je.aQ,X3,List.flatMap_cons,List.flatMap_nil,List.cons_append,List.nil_append,List.append_nil,List.mem_cons,List.not_mem_nil,or_false]at hy
 rcases hy with rfl|rfl|rfl|rfl|rfl|rfl|rfl|rfl|rfl|rfl|rfl|rfl|rfl<;>assumption
def hG.I (t:hG):Prop:=bg .i64 t.side∧∀p ∈ t.t,p.I
theorem Ig {t:hG} (h:t.I) (hl:t.t.length≤1000):∀y ∈ t.aQ,bg .i64 y:=fun y hy=>by
 simp only[hG.aQ,List.cons_append,List.nil_append,List.mem_cons]at hy
 rcases hy with rfl|rfl|hy
 ·exact h.1
 ·simp only[bg]; omega
 ·obtain⟨p,hp,hy⟩:=List.mem_flatMap.1 hy
  obtain⟨h1,h2,h3⟩:=h.2 p hp
  simp only[List.mem_cons,List.not_mem_nil,or_false]at hy
  rcases hy with rfl|rfl|rfl<;>assumption
structure ec.I (s:ec):Prop where
 t:∀t ∈ s.cj,t.Ok
 m:∀m ∈ s.ff,∀x ∈ m.aQ,bg .i64 x
 x:∀t ∈ s.dg,t.I
 l:∀t ∈ s.gw,∀x ∈ t.aQ,bg .i64 x
 i:∀x ∈ s.ids,bg .u64 x
 b:∀x ∈ s.js,bg .u32 x
 e:bg .u32 s.xV∧bg .u32 s.fr∧bg .u32 s.to
end Go.UM
namespace Go.UM
open Go.AM
set_option maxRecDepth 4000
def oj (lay:Int) (r:Rw):Bool:=dH r.f lay != 0
def c8 (lay:Int) (l:List Rw):List Rw:=l.filter (oj lay)
def nE (k:Int) (r:Rw):Bool:=k==0||r.a.k==k
def bD (V:List Rw) (h k:Int):Int:=pm (dC h) (V.filter (nE k))
theorem xS {α:Type} {p:α→Bool} {l:List α} (h:∀y ∈ l,p y=false):pm p l= -1:=tV fun j y _ hy=>h y (List.mem_of_getElem? hy)
end Go.UM
namespace Go.UM
open Go.AM
set_option maxRecDepth 4000
def dI (V:List Rw) (lay:Int) (s:ec) (k:In):ec:=
 if bD V k.aT 0<0∨bD V k.dr 3<0∨(bD V k.ct 2<0∧k.ct≠0)then s else match V[(bD V k.aT 0).toNat]? with
  |some r=>s.add (r.a.m.t.map (kz k.t r.a.m (bD V k.dr 3) (bD V k.ct 2) (bD V k.aT 0) (dH r.f lay)))
  |none=>s
def Ih (lay:Int) (d:Tb):ec:=d.ins.foldl (dI (c8 lay d.rows) lay) ((c8 lay d.rows).foldl dD ec.qP)
structure WE (n:Nat) (s:ec):Prop where
 t:s.cj=[]
 m:s.ff.length≤n
 x:s.dg.length≤n
 l:s.gw.length≤n
 i:s.ids.length≤n
 b:s.js.length≤n
theorem CC:∀ (l:List Rw) (s:ec) (n:Nat),WE n s→WE (n+l.length) (l.foldl dD s)
 |[],s,n,h=>h
 |r::l,s,n,h=>by
  have:=CC l (dD s r) (n+1) (by
   obtain⟨h0,h1,h2,h3,h4,h5⟩:=h
   refine⟨h0,?_,?_,?_,?_,?_⟩<;>unfold dD<;>dsimp only<;>repeat' split
   all_goals (try simp only[List.length_append,List.length_singleton]); omega)
  rw[List.foldl_cons,List.length_cons]
  rwa[show n+ (l.length+1)=n+1+l.length by omega]
theorem Ii (s:ec) (l:List rK):(s.add l).cj.length=s.cj.length+l.length:=by simp[ec.add]
theorem CD (V:List Rw):V.filter (nE 0)=V:=List.filter_eq_self.2 fun r _=>by simp[nE]
theorem pq (V:List Rw) (h:Int):(∃ (o:Nat) (r:Rw),bD V h 0=o∧V[o]? =some r∧r.h=h)∨bD V h 0= -1:=by
 unfold bD
 rw[CD]
 rcases fN (dC h) V with⟨i,r,e1,e2,e3,_⟩|⟨e1,_⟩
 ·exact .inl ⟨i,r,e1,e2,by simpa[dC]using e3⟩
 ·exact .inr e1
theorem CE {V:List Rw} (ok:∀r ∈ V,r.a.m.t.length≤64) (lay:Int):∀ (N:List In) (s:ec),(N.foldl (dI V lay) s).cj.length≤s.cj.length+64*N.length
 |[],s=>by simp
 |k::N,s=>by
  have h1:=CE ok lay N (dI V lay s k)
  have h2:(dI V lay s k).cj.length≤s.cj.length+64:=by
   unfold dI
   split
   ·omega
   ·split
    ·rename_i r hr
     rw[Ii,List.length_map]
     have:=ok r (List.mem_of_getElem? hr)
     omega
    ·omega
  rw[List.foldl_cons,List.length_cons]
  omega
theorem Ij {r:Rw} (o:fE r):r.a.m.t.length≤64:=by
 obtain⟨h1,h2,_⟩:=dB o.a
 by_cases k:r.a.k=1
 ·rw[own,if_pos k]at h1
  exact (tO h1).2.1
 ·have e:r.a.m=p6:=by
   have e1:r.a.bare.m=(As.zero r.a.k).m:=by rw[h2]
   have e2:r.a.bare.m=r.a.m:=by unfold As.bare; rw[if_neg k]; repeat' split
                                all_goals rfl
   rw[←e2,e1]; rfl
  rw[e]; simp[p6]
end Go.UM
namespace Go.UM
open Go.AM
set_option maxRecDepth 4000
theorem zM {α:Type} {p:α→Bool} {l m:List α} (h:0≤pm p l):pm p (l++m)=pm p l:=by
 unfold pm at h ⊢
 rw[List.findIdx?_append]
 cases e:l.findIdx? p with
 |some i=>rfl
 |none=>rw[e]at h; simp at h
theorem qQ {α:Type} {p:α→Bool} {l:List α} {x:α} (h:∀y ∈ l,p y=false) (hx:p x=true):pm p (l++ [x])=l.length:=by
 unfold pm
 rw[List.findIdx?_append,List.findIdx?_eq_none_iff.2 h]
 simp[List.findIdx?_cons,hx]
theorem Qs {α:Type} {p:α→Bool} {l:List α} {x:α} (hm:x ∈ l) (hx:p x=true):0≤pm p l:=by
 rcases fN p l with⟨i,r,e1,_⟩|⟨_,e2⟩
 ·omega
 ·rw[List.find?_eq_none]at e2
  exact absurd hx (by simpa using e2 x hm)
theorem kA {V:List Rw} {r:Rw} (hr:r ∈ V) {k:Int} (hk:nE k r=true):0≤bD V r.h k:=Qs (List.mem_filter.2 ⟨hr,hk⟩) (by simp[dC])
theorem gY {V:List Rw} {h:Int} (hn:∀r ∈ V,r.h≠h) (k:Int):bD V h k= -1:=xS fun y hy=>by
 simpa[dC]using hn y (List.mem_filter.1 hy).1
theorem uf {V W:List Rw} {h k:Int} (e:0≤bD V h k):bD (V++W) h k=bD V h k:=by
 unfold bD at e ⊢
 rw[List.filter_append]
 exact zM e
def kk (r:Rw):Bool:=r.a.k==3||r.a.k==2
theorem zN (l:List (Int × Int)) (q:Int × Int) (h:Int):eo (l++ [q]) h=(eo l h).or (if q.1=h then some q.2 else none):=by
 unfold eo
 rw[List.find?_append]
 cases List.find? (fun q=>q.1==h) l with
 |some x=>rfl
 |none=>
  by_cases e:q.1=h
  ·simp[List.find?_cons,e]
  ·have:(q.1==h)=false:=by simpa using e
   simp[List.find?_cons,this,e]
structure zO (V:List Rw) (z:jg):Prop where
 s:z.s=V.foldl dD ec.qP
 ms:z.ms=V.filter fun r=>r.a.k==1
 li:z.s.ids.length=V.length
 lm:z.s.ff.length=(V.filter (nE 3)).length
 lx:z.s.dg.length=(V.filter (nE 2)).length
 pl:∀h,eo z.pl h=if 0≤bD V h 0 then some (bD V h 0)else none
 ks:∀h,eo z.ks h=(V.find? fun r=>kk r&&dC h r).map fun r=>bD V h r.a.k
theorem EH {V:List Rw} {z:jg} {lay:Int} {x:Rw} (h:zO V z) (hb:dH x.f lay≠0):zO (V++ [x]) (qb lay z x):=by
 obtain⟨h1,h2,h3,h4,h5,h6,h7⟩:=h
 unfold qb
 rw[if_neg hb]
 refine⟨?_,?_,?_,?_,?_,fun k=> ?_,fun k=> ?_⟩
 ·simp[h1]
 ·dsimp only
  rw[List.filter_append,h2]
  by_cases k:x.a.k=1<;>simp[k]
 ·simp[dD,h3]
 ·show (dD z.s x).ff.length=_
  unfold dD
  dsimp only
  rw[List.filter_append,List.length_append]
  by_cases k:x.a.k=3
  ·simp[k,h4,nE]
  ·have:nE 3 x=false:=by simp[nE,k]
   simp[k,h4,this]
 ·show (dD z.s x).dg.length=_
  unfold dD
  dsimp only
  rw[List.filter_append,List.length_append]
  by_cases k:x.a.k=2
  ·simp[k,h5,nE]
  ·have:nE 2 x=false:=by simp[nE,k]
   simp[k,h5,this]
 ·dsimp only
  rw[zN,h6]
  by_cases e:0≤bD V k 0
  ·rw[if_pos e,uf e,if_pos e]; rfl
  ·rw[if_neg e]
   have hn:∀r ∈ V,dC k r=false:=fun r hr=>by
    cases q:dC k r with
    |false=>rfl
    |true=>
     have q:r.h=k:=by simpa[dC]using q
     exact absurd (q ▸ kA hr (k:=0) (by simp[nE])) e
   by_cases ex:x.h=k
   ·have e2:bD (V++ [x]) k 0=V.length:=by
     unfold bD
     rw[CD]
     exact qQ hn (by simp[dC,ex])
    rw[if_pos ex,e2,if_pos (by omega),h3]; rfl
   ·have e2:bD (V++ [x]) k 0= -1:=gY (fun r hr=>by
     rcases List.mem_append.1 hr with q|q
     ·simpa[dC]using hn r q
     ·simp only[List.mem_singleton]at q
      subst q
      exact ex) 0
    rw[if_neg ex,e2,if_neg (by omega)]; rfl
 ·dsimp only
  rw[List.find?_append]
  have old:∀r,V.find? (fun r=>kk r&&dC k r)=some r→bD (V++ [x]) k r.a.k=bD V k r.a.k:=fun r hr=>by
   have hm:=List.mem_of_find?_eq_some hr
   have hp:=List.find?_some hr
   simp only[Bool.and_eq_true]at hp
   have hh:r.h=k:=by simpa[dC]using hp.2
   exact uf (hh ▸ kA hm (by simp[nE]))
  by_cases hkx:kk x=true
  ·have X5:x.a.k=3∨x.a.k=2:=by simpa[kk]using hkx
   have e:(if x.a.k=3 then z.ks++ [(x.h,(z.s.ff.length:Int))]else if x.a.k=2 then z.ks++ [(x.h,(z.s.dg.length:Int))]else z.ks)=z.ks++ [(x.h,((V.filter (nE x.a.k)).length:Int))]:=by
    rcases X5 with q|q
    ·rw[if_pos q,h4,q]
    ·rw[if_neg (by omega),if_pos q,h5,q]
   rw[e,zN,h7]
   cases hf:V.find? (fun r=>kk r&&dC k r)with
   |some r=>simp[old r hf]
   |none=>
    have hn:∀y ∈ V.filter (nE x.a.k),dC k y=false:=fun y hy=>by
     obtain⟨m1,m2⟩:=List.mem_filter.1 hy
     have m3:y.a.k=x.a.k:=by
      have:x.a.k=0∨y.a.k=x.a.k:=by simpa[nE]using m2
      omega
     have:=List.find?_eq_none.1 hf y m1
     have hk:kk y=true:=by simp only[kk,m3]; exact hkx
     rw[hk]at this
     simpa using this
    by_cases ex:x.h=k
    ·have hx:dC k x=true:=by simp[dC,ex]
     have e2:bD (V++ [x]) k x.a.k=(V.filter (nE x.a.k)).length:=by
      unfold bD
      rw[List.filter_append,show [x].filter (nE x.a.k)=[x] by simp[nE]]
      exact qQ hn hx
     simp[List.find?_cons,hkx,hx,ex,e2]
    ·have hx:dC k x=false:=by simp[dC,ex]
     simp[List.find?_cons,hkx,hx,ex]
  ·have hkx:kk x=false:=by simpa using hkx
   have X5:x.a.k≠3∧x.a.k≠2:=by simpa[kk]using hkx
   rw[if_neg X5.1,if_neg X5.2,h7]
   cases hf:V.find? (fun r=>kk r&&dC k r)with
   |some r=>simp[old r hf]
   |none=>simp[List.find?_cons,hkx]
theorem CF (lay:Int) (L:List Rw):zO (c8 lay L) (ir lay L):=by
 refine l9 (P:=fun l z=>zO (c8 lay l) z) lay ⟨rfl,rfl,rfl,rfl,rfl,fun h=>rfl,fun h=>rfl⟩ (fun l z x h=> ?_) L
 unfold c8 at h ⊢
 rw[List.filter_append]
 by_cases hb:dH x.f lay=0
 ·have e:qb lay z x=z:=by unfold qb; rw[if_pos hb]
  have e2:[x].filter (oj lay)=[]:=by simp[oj,hb]
  rw[e,e2,List.append_nil]
  exact h
 ·have e2:[x].filter (oj lay)=[x]:=by simp[oj,hb]
  rw[e2]
  exact EH h hb
end Go.UM
namespace Go.UM
open Go.AM
set_option maxRecDepth 4000
theorem wq {α:Type} {p:α→Bool} {l:List α} {x:α} (hm:x ∈ l) (hx:p x=true) (hu:∀y ∈ l,p y=true→y=x):l.find? p=some x:=by
 cases h:l.find? p with
 |none=>exact absurd hx (by simpa using List.find?_eq_none.1 h x hm)
 |some y=>rw[hu y (List.mem_of_find?_eq_some h) (List.find?_some h)]
theorem ol {L:List Rw} (rd:L.Pairwise fun a b=>a.h≠b.h) (lay:Int) {h:Int} {r:Rw} (e:aW L h=some r):
  (r ∈ c8 lay L∧∀y ∈ c8 lay L,y.h=h→y=r)∨∀y ∈ c8 lay L,y.h≠h:=by
 have un:∀y ∈ L,y.h=h→y=r:=fun y hy k=>by
  have:=ek rd hy
  rw[k,e]at this
  exact (Option.some.inj this).symm
 cases hs:oj lay r with
 |true=>exact .inl ⟨List.mem_filter.2 ⟨(cz e).1,hs⟩,fun y hy k=>un y (List.mem_filter.1 hy).1 k⟩
 |false=>
  refine .inr fun y hy k=> ?_
  obtain⟨h1,h2⟩:=List.mem_filter.1 hy
  rw[un y h1 k,hs]at h2
  cases h2
theorem CG {V:List Rw} {z:jg} (S:zO V z) {h:Int} {r:Rw} (hr:r ∈ V) (hh:r.h=h) (hu:∀y ∈ V,y.h=h→y=r) (hk:kk r=true):eo z.ks h=some (bD V h r.a.k):=by
 rw[S.ks,wq hr (by simp[hk,dC,hh]) (fun y hy k=>hu y hy (by simp[dC]at k; exact k.2))]; rfl
theorem Ik {V:List Rw} {z:jg} (S:zO V z) {h:Int} (hn:∀y ∈ V,y.h≠h):eo z.ks h=none:=by
 rw[S.ks,List.find?_eq_none.2 fun y hy=>by simp[dC,hn y hy]]; rfl
theorem WF {L:List Rw} (rd:L.Pairwise fun a b=>a.h≠b.h) (Ic:∀r ∈ L,fE r) (lay:Int) {z z':jg} (S:zO (c8 lay L) z) (e1:z'.ms=z.ms) (e2:z'.pl=z.pl) (e3:z'.ks=z.ks) {k:In} (io:Es L k):(iB lay z' k).s=dI (c8 lay L) lay z'.s k:=by
 obtain⟨a,b,ha,ka,hb,kb,hx,_⟩:=io
 have vr:∀r ∈ c8 lay L,fE r:=fun r hr=>Ic r (List.mem_filter.1 hr).1
 have a1:a.a.k=1:=(Ic a (cz ha).1).k.symm.trans ka
 have b3:b.a.k=3:=(Ic b (cz hb).1).k.symm.trans kb
 have sa:=ol rd lay ha
 have sb:=ol rd lay hb
 have sx:k.ct=0∨∃c,c.a.k=2∧c.h=k.ct∧((c ∈ c8 lay L∧∀y ∈ c8 lay L,y.h=k.ct→y=c)∨∀y ∈ c8 lay L,y.h≠k.ct):=hx.imp_right fun⟨c,h1,h2⟩=>
  ⟨c,(Ic c (cz h1).1).k.symm.trans h2,(cz h1).2,ol rd lay h1⟩
 obtain⟨V,hV⟩:∃V,c8 lay L=V:=⟨_,rfl⟩
 rw[hV]at S vr sa sb sx ⊢
 unfold dI iB ud
 rw[e1,e2,e3]
 rcases sa with⟨am,au⟩|an
 ·have r1:aW z.ms k.aT=some a:=by
   rw[S.ms]
   exact wq (List.mem_filter.2 ⟨am,by simp[a1]⟩) (by simp[(cz ha).2]) (fun y hy q=>au y (List.mem_filter.1 hy).1 (by simpa using q))
  have o1:0≤bD V k.aT 0:=(cz ha).2 ▸ kA am (by simp[nE])
  have o2:V[(bD V k.aT 0).toNat]? =some a:=by
   rcases pq V k.aT with⟨o,r,q1,q2,q3⟩|q
   ·rw[q1,Int.toNat_natCast,q2,au r (List.mem_of_getElem? q2) q3]
   ·omega
  have o3:(eo z.pl k.aT).getD 0=bD V k.aT 0:=by rw[S.pl,if_pos o1]; rfl
  rw[r1,o2,o3]
  rcases sb with⟨bm,bu⟩|bn
  ·have m1:=CG S bm (cz hb).2 bu (by simp[kk,b3])
   rw[b3]at m1
   have m2:0≤bD V k.dr 3:=(cz hb).2 ▸ kA bm (by simp[nE,b3])
   rw[m1]
   by_cases k0:k.ct=0
   ·have t1:bD V k.ct 2= -1:=gY (fun r hr=>by have:=(vr r hr).h; omega) 2
    rw[if_pos k0,if_neg (by omega),t1]; rfl
   ·rw[if_neg k0]
    rcases sx with sx|⟨c,c2,ch,sc⟩
    ·exact absurd sx k0
    ·rcases sc with⟨cm,cu⟩|cn
     ·have t1:=CG S cm ch cu (by simp[kk,c2])
      rw[c2]at t1
      have t2:0≤bD V k.ct 2:=ch ▸ kA cm (by simp[nE,c2])
      rw[t1,if_neg (by omega)]; rfl
     ·rw[Ik S cn,gY cn 2,if_pos (by omega)]
  ·generalize (if k.ct=0 then some (-1:Int)else eo z.ks k.ct)=tx
   rw[Ik S bn,gY bn 3,if_pos (by omega)]
 ·have r1:aW z.ms k.aT=none:=by
   rw[S.ms]
   exact zL fun q hq=>an q (List.mem_filter.1 hq).1
  generalize (if k.ct=0 then some (-1:Int)else eo z.ks k.ct)=tx
  rw[r1,gY an 0,if_pos (by omega)]
theorem CH {L:List Rw} (rd:L.Pairwise fun a b=>a.h≠b.h) (Ic:∀r ∈ L,fE r) (lay:Int) {z:jg} (S:zO (c8 lay L) z):∀ (N:List In) (z':jg),z'.ms=z.ms→z'.pl=z.pl→z'.ks=z.ks→(∀k ∈ N,Es L k)→(N.foldl (iB lay) z').s=N.foldl (dI (c8 lay L) lay) z'.s
 |[],z',_,_,_,_=>rfl
 |k::N,z',e1,e2,e3,io=>by
  obtain⟨g1,g2,g3⟩:=qd lay z' k
  rw[List.foldl_cons,List.foldl_cons,CH rd Ic lay S N _ (g1.trans e1) (g2.trans e2) (g3.trans e3) (fun k hk=>io k (by simp[hk])),WF rd Ic lay S e1 e2 e3 (io k (by simp))]
theorem Il {t:Tb} {n:Nat} (ok:jf t n) (sd:oe t) (lay:Int):(mQ lay (bf t.rows) (cE t.ins)).s=Ih lay (oi t):=by
 have rd:(bf t.rows).Pairwise fun a b=>a.h≠b.h:=(mG ok.rd).imp fun {a b} h=>by omega
 have S:=CF lay (bf t.rows)
 unfold mQ Ih oi
 rw[CH rd (fun r hr=>ok.row r (eC.1 hr)) lay S _ _ rfl rfl rfl (fun k hk=>(sd.ok k (kr.1 hk)).mono (fun r h=>k9 ok.rd h) (fun r h=>k9 ok.rd h) (fun r h=>k9 ok.rd h)),S.s]
end Go.UM
namespace Go.UM
open Go.AM
set_option maxRecDepth 4000
structure Mf.I (w:Mf):Prop where
 id:bg .u64 w.id
 la:bg .u32 w.label
 fi:bg .u32 w.first
 li:bg .u32 w.last
 ms:∀i,bg .u8 (w.lC i)
structure Ac.I (c:Ac):Prop where
 t:c.i.t.I
 f:c.f.I
def lg (l:List Ac):Tb:=l.foldl (fun t c=>(Bo t c.kC).1) ⟨[],[]⟩
theorem wu (l:List Ac) (c:Ac):lg (l++ [c])=(Bo (lg l) c.kC).1:=by simp[lg]
structure WG (r:Rw):Prop where
 f:r.f.I
 x:r.a.x.t.length≤260
theorem Im {t:Tb} {c:Ac} (h:∀r ∈ t.rows,WG r) (hc:c.f.I):∀r ∈ (Bo t c.kC).1.rows,WG r:=by
 intro r hr
 unfold Bo at hr
 split at hr
 ·rw[v7]at hr
  dsimp only at hr
  split at hr
  ·rcases List.mem_append.1 hr with q|q
   ·exact h r q
   ·simp only[List.mem_singleton]at q
    subst q
    exact⟨hc,by simp[Ac.kC,As.kC]; omega⟩
  ·exact h r hr
 ·split at hr
  ·unfold fq at hr
   split at hr
   ·exact h r (List.eraseP_sublist.subset hr)
   ·exact h r hr
  ·split at hr
   ·have e:(jS t c.kC.i).1.rows=t.rows:=by
     unfold jS
     repeat' split
     all_goals rfl
    rw[e]at hr
    exact h r hr
   ·unfold l8 at hr
    split at hr
    ·exact h r hr
    ·exact h r hr
theorem CI:∀ (l:List Ac),(∀c ∈ l,c.I)→jf (lg l) l.length∧oe (lg l)∧∀r ∈ (lg l).rows,WG r:=by
 intro l
 have:∀n,∀l:List Ac,l.length=n→(∀c ∈ l,c.I)→jf (lg l) l.length∧oe (lg l)∧∀r ∈ (lg l).rows,WG r:=by
  intro n
  induction n with
  |zero=>
   intro l hl _
   rw[List.eq_nil_of_length_eq_zero hl]
   exact⟨zw,HQ,by simp[lg]⟩
  |succ n ih=>
   intro l hl hc
   obtain⟨m,c,rfl⟩:∃m c,l=m++ [c]:=⟨l.dropLast,l.getLast (by intro e; simp[e]at hl),(List.dropLast_concat_getLast _).symm⟩
   obtain⟨h1,h2,h3⟩:=ih m (by simpa using hl) (fun c nM=>hc c (by simp[nM]))
   have cI:=hc c (by simp)
   rw[wu,List.length_append]
   exact⟨HH h1 (HW c),Qi h2 cI.t,Im h3 cI.f⟩
 exact this _ l rfl
set_option maxHeartbeats 4000000 in
theorem Io {R:Env} (h:PF R) (l:List Ac) (hc:∀c ∈ l,c.I):R.Mc 490 [.aJ 57 (xM l)] [] (.aP [.loc 2 1 0 0,.loc 3 1 0 0]) (eb R false false (lg (l.take 30))++ [(3,.var (R.ty 56) [.aJ 40 (iz (bf (lg (l.take 30)).rows)),.aJ 16 (cD (cE (lg (l.take 30)).ins))])]) 4:=
 h.aay.bC 200 0 rfl rfl rfl fun X bb hfit hp=>by
  refine sh ?_
  refine cM false [] (Hu h.n345) ?_
  repeat (intro _; first|refine eK ?_|refine eP ?_)
  refine sh ?_
  refine aq.inv 200 (fun i:Nat=>i≤30∧i≤l.length) (fun i=>⟨[(0,.aJ 57 (xM l)),(4,.loc 2 1 0 0),(5,.loc 3 1 0 0),(6,.int .i64 i)],eb R false false (lg (l.take i))++ [(3,.var (R.ty 56) [.aJ 40 (iz (bf (lg (l.take i)).rows)),.aJ 16 (cD (cE (lg (l.take i)).ins))])],4⟩) (fun i=>30 - i) (0) ?_ ⟨⟨_,hp,rfl⟩,?_,?_⟩ ?_
  ·exact⟨Nat.zero_le _,Nat.zero_le _⟩
  ·all_goals repeat' (first|exact True.intro|refine And.intro ?_ ?_|(intro _u; clear _u)|(with_reducible first|exact ai.fg|refine eM ?_ ?_|refine eF ?_ ?_ ?_|refine eN ?_|refine eL ?_ ?_ ?_|refine eA ?_ ?_|refine ap.mk ⟨_,hp,rfl⟩ ?_ ?_)|refine ap.mk ⟨_,hp,rfl⟩ ?_ ?_)
   all_goals try first|with_reducible rfl|omega|exact .inl (by decide)|(simp; done)|rfl
  ·all_goals repeat' (first|exact True.intro|refine And.intro ?_ ?_|(intro _u; clear _u)|(with_reducible first|exact ai.fg|refine eM ?_ ?_|refine eF ?_ ?_ ?_|refine eN ?_|refine eL ?_ ?_ ?_|refine eA ?_ ?_|refine ap.mk ⟨_,hp,rfl⟩ ?_ ?_)|refine ap.mk ⟨_,hp,rfl⟩ ?_ ?_)
   all_goals try first|with_reducible rfl|omega|exact .inl (by decide)|(simp; done)|rfl
   all_goals first|(show iz (bf [])=[]; simp[bf,iz]; done)|(show cD (cE [])=[]; simp[cE,cD]; done)
  ·rintro i ⟨hi,hil⟩
   dsimp only
   obtain⟨ok,sd,xr⟩:=CI (l.take i) (fun c nM=>hc c (List.mem_of_mem_take nM))
   rw[show (l.take i).length=i by rw[List.length_take]; omega]at ok
   refine sh ?_
   refine cS (fun h1=> ?_) (fun h1=> ?_)
   refine sh ?_
   refine cS (fun h2=> ?_) (fun h2=> ?_)
   ·obtain⟨c,nM⟩:∃u_,l[i]? =some u_:=⟨_,List.getElem?_eq_getElem (by omega)⟩
    have hxc:=(hc c (List.mem_of_getElem? nM)).t
    have okT:=HH ok (c:=c.kC) (HW c)
    have cT:=Wm h.PG false false (lg (l.take i)) c.kC ok (by omega) (HW c) (Wq c) hxc
    have cR:=K8 h.PH (oi (lg (l.take i))) c.kC (fun r hr=>ok.row r (eC.1 hr)) (Wy c) hxc (by have:=ok.rl; simp[oi]; omega) (by have:=ok.il; simp[oi,lf]; omega)
    rw[Qm ok]at cR
    dsimp only[oi]at cR
    rw[←wu,←ay nM]at cT cR
    refine sh ?_
    refine aa nM ?_
    refine sh ?_
    refine ae.pure h.Ko.VG.hb (K3 h.Ko c) rfl ?_
    refine sh ?_
    refine cM false [0,1,2] (cT) ?_
    repeat (intro _; first|refine eK ?_|refine eP ?_)
    refine sh ?_
    refine cM false [3] (cR) ?_
    repeat (intro _; first|refine eK ?_|refine eP ?_)
    refine sh ?_
    refine lz (i+1) ?_ ?_
    ·exact⟨by omega,by omega⟩
    ·omega
   ·have e:i=30:=by omega
    subst e
    refine sh ?_
    exact rM [0,1,2,3]
   ·rw[show l.take i=l.take 30 by rw[List.take_of_length_le (by omega),List.take_of_length_le (by omega)]]
    refine sh ?_
    exact rM [0,1,2,3]
end Go.UM
