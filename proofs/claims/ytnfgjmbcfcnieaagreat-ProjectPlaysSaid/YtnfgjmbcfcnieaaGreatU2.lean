/- Of the reckoning machine, and what is proved with it: texts joined by program. -/
import Derived.Test.YtnfgjmbcfcnieaaGreatU1
import Derived.Maps.Own
import Derived.Lib.SlKeysI
import Derived.Shelf.SlSortCmp.NoneTotal
import Derived.Shelf.SlSortCmp.WholeK
import Derived.Test.YtnfgjmbcfcnieaaGreatU0
set_option linter.all false
namespace Go.UM
open Go.AM Go.RowKit Go.Proofs
def DA(P:Program)(f g kt et:Nat):Prop:=
 ∀(b nn Bm:Nat)(D0:DataW Unit)(Q:Value->Option (DataW Unit × List MemPlace))(w:World),Bm<w.heap.size->w.cell? ⟨Bm,0,none⟩=some (.map (some b))->w.ownsMap P kt Q b nn D0->Maps.size D0<=maxLen->Maps.size D0*8<=140737488355328->
  Calls P f #[.func (.func g) #[] #[.pointer (some ⟨Bm,0,none⟩)]] w fun e w'=>∃(v:Value)(ss:List Int),e= .returned v/\ss.Perm (intKeys D0)/\
   w'.ownsRow w.heap.size et 1 v ss.length ((ss.mergeSort (fun x y=>decide (x<=y))).map encZ)/\(v= .slice none 0 0↔ss=[])/\Go.RowKit.Below w.heap.size w w'
theorem FN{l:List Rw}{ss:List Int}(h:ss.Perm (l.map (·.h))):ss.mergeSort (fun x y=>decide (x<=y))=eC l:=by
 have tr:∀a b c:Int,decide (a<=b)=true->decide (b<=c)=true->decide (a<=c)=true:=fun a b c h1 h2=>by simp only[decide_eq_true_eq]at *; omega
 have to:∀a b:Int,(decide (a<=b)||decide (b<=a))=true:=fun a b=>by simp only[Bool.or_eq_true,decide_eq_true_eq]; omega
 have tr':∀x y z:Rw,kB x y=true->kB y z=true->kB x z=true:=fun x y z h1 h2=>by simp only[kB,decide_eq_true_eq]at h1 h2 ⊢; omega
 have to':∀x y:Rw,(kB x y||kB y x)=true:=fun x y=>by simp only[kB,Bool.or_eq_true,decide_eq_true_eq]; omega
 refine List.Perm.eq_of_pairwise (le:=fun a b=>decide (a<=b)=true) (fun a b _ _ h1 h2=>by simp only[decide_eq_true_eq]at h1 h2; omega) (List.pairwise_mergeSort tr to ss) ?_ ((List.mergeSort_perm ss _).trans (h.trans ((List.mergeSort_perm l kB).map (·.h)).symm))
 unfold eC
 rw[List.pairwise_map]
 exact List.pairwise_mergeSort tr' to' l
def qN:Value->Option (DataW Unit × List MemPlace):=fun _=>some (.nil,[])
theorem bN{ρ:AM.Place}{L:bi}{I:Nat->Prop}{w:World}{N:Nat->Prop}{n:Int}{v:Value}(h:aP ρ L I w N (.int .i64 n) v):v= .int .i64 n:=by cases h; rfl
theorem IY{P:Program}{kt:Nat}(SH:P.underlying kt=some (.int .i64)){l:List Rw}(rd:l.Pairwise fun a b=>a.h≠b.h)(ok:∀r ∈ l,fA r)(hl:l.length<=1000000){en:Array MapEntry}{ck gm:Nat}{w:World}(hg:w.heap[gm]? =some (.map en ck))(hs:en.size=l.length)
  (hb:∀(i j:Nat)(e f:MapEntry),en[i]? =some e->en[j]? =some f->i<j->e.born<f.born) (Y6:∀(i:Nat)(e:MapEntry),en[i]? =some e->e.born<ck)
  (hk:∀(i:Nat)(e:MapEntry)(r:Rw),en[i]? =some e->l[i]? =some r->e.key= .int .i64 r.h):
  ∃D0:DataW Unit,w.ownsMap P kt qN gm l.length D0/\Maps.size D0=l.length/\(intKeys D0).Perm (l.map (·.h)):=by
 have hrd:∀(i:Nat)(e:MapEntry)(r:Rw),en[i]? =some e->l[i]? =some r->WideElems.rd P kt qN e=some (.int .i64 r.h,.nil):=by
  intro i e r he hr
  have hh:=(ok r (List.mem_of_getElem? hr)).h
  have hw:(Lit.int .i64 r.h).wf=true:=by simp[Lit.wf,IntKind.min,IntKind.max,IntKind.bits,IntKind.signed]; omega
  unfold WideElems.rd
  rw[hk i e r he hr]
  simp[keyOf,SH,mapKey,hw,qN]
 have each:∀(i:Nat)(e:MapEntry),en[i]? =some e->∃r,l[i]? =some r:=fun i e he=>by
  have:=(Array.getElem?_eq_some_iff.1 he).1
  exact⟨l[i]'(by omega),List.getElem?_eq_getElem (by omega)⟩
 have RX:en.toList.map (WideElems.rg P kt qN)=l.map fun r=>((.int .i64 r.h,.nil):Lit × DataW Unit):=by
  apply List.ext_getElem?
  intro i
  rw[List.getElem?_map,List.getElem?_map]
  cases he:en.toList[i]? with
  |none=>
   have:l[i]? =none:=by
    rw[List.getElem?_eq_none_iff]at he ⊢
    simp at he; omega
   rw[this]; rfl
  |some e=>
   have he':en[i]? =some e:=by simpa using he
   obtain⟨r,hr⟩:=each i e he'
   rw[hr]
   simp only[Option.map_some]
   unfold WideElems.rg
   rw[hrd i e r he' hr]; rfl
 refine⟨_,⟨en,ck,hg,⟨?_,⟨?_,?_,?_⟩,?_⟩,Nat.le_of_eq hs,rfl⟩,?_,?_⟩
 ·rw[hs]; have:(1000000:Nat)<=maxLen:=by decide
  omega
 ·intro x hx
  obtain⟨i,hi,rfl⟩:=List.getElem_of_mem hx
  exact Y6 i _ (by rw[Array.getElem_toList]; exact Array.getElem?_eq_getElem (by simpa using hi))
 ·show List.Pairwise (· ≠ ·) _
  rw[List.pairwise_map,List.pairwise_iff_getElem]
  intro i j hi hj hij
  have:=hb i j _ _ (Array.getElem?_eq_getElem (by simpa using hi)) (Array.getElem?_eq_getElem (by simpa using hj)) hij
  simp only[Array.getElem_toList]
  omega
 ·show List.Pairwise (· ≠ ·) _
  rw[List.pairwise_map,List.pairwise_iff_getElem]
  intro i j hi hj hij
  have hi':i<en.size:=by simpa using hi
  have hj':j<en.size:=by simpa using hj
  simp only[Array.getElem_toList]
  rw[hk i _ l[i] (Array.getElem?_eq_getElem hi') (List.getElem?_eq_getElem (by omega)),hk j _ l[j] (Array.getElem?_eq_getElem hj') (List.getElem?_eq_getElem (by omega))]
  intro e
  exact List.pairwise_iff_getElem.1 rd i j (by omega) (by omega) hij (by simpa using e)
 ·intro x hx
  obtain⟨i,hi,rfl⟩:=List.getElem_of_mem hx
  have hi':i<en.size:=by simpa using hi
  exact⟨_,hrd i _ l[i] (by rw[Array.getElem_toList]; exact Array.getElem?_eq_getElem hi') (List.getElem?_eq_getElem (by omega))⟩
 ·rw[Maps.size_eq,length_sorted,List.length_map]; simpa using hs
 ·rw[RX]
  have:=(Go.WideShapes.sorted_perm (l.map fun r=>((.int .i64 r.h,.nil):Lit × DataW Unit))).map fun p=>intOf p.1
  rw[List.map_map]at this
  exact this
set_option maxHeartbeats 1000000 in
theorem IZ{R:Env}{kt:Nat}(hb:cZ R.P (R.ft 434))(SH:R.P.underlying kt=some (.int .i64))(KL:DA R.P (R.ft 434) (R.ft 447) kt (R.ty 10)):wK R:=by
 intro d1 l rd ok hl
 refine⟨hb,fun w I ρ vs hW hr=> ?_,rfl⟩
 have W:=hW 0
 obtain⟨hvl,hr⟩:=hr
 obtain⟨v0,rfl⟩:∃v0,vs=[v0]:=by
  match vs,hvl with
  |[a],_=>exact⟨a,rfl⟩
 have r0:=hr 0 (by simp)
 have r0:aP ρ _ I w (· <2) (.ce (.fn (R.ft 447)) [.loc 0 1 0 0]) v0:=r0
 have Yf:ab (az [(0,bP.var (R.ty 57) [.omap 1]),(1,.map 1 false true d1 41 (iI l))]) 0=some ⟨R.ty 57,1,[[.omap 1]],none⟩:=rfl
 have hM1:ab (az [(0,bP.var (R.ty 57) [.omap 1]),(1,.map 1 false true d1 41 (iI l))]) 1=some ⟨0,41,iI l,some (1,false,true,d1)⟩:=rfl
 cases r0 with
 |ce _ _ us hul hur=>
  obtain⟨u0,rfl⟩:∃u0,us=[u0]:=by
   match us,hul with
   |[a],_=>exact⟨a,rfl⟩
  have q0:=hur 0 (by simp)
  have q0:aP ρ _ I w (· <2) (.loc 0 1 0 0) u0:=q0
  obtain⟨_,g,cap,ti,rfl⟩:=gB (sz:=1) q0 (by rw[aC]; exact⟨_,Yf,rfl,rfl⟩)
  obtain⟨cs,fr,qp,_,_,_,_,_,_,hcell⟩:=(W.bf 0 _ Yf).real g cap ti
  have qp:w.heap[g]? =some (.cells cs (R.ty 57) fr):=qp
  obtain⟨u,hu,_,FL⟩:=hcell 0 0 (by simp) (by simp)
  have FL:aP ρ _ I w (· <2) (.omap 1) u:=FL
  have hu:cs[0]? =some u:=by simpa using hu
  obtain⟨gm,cm,Hj,rfl⟩:∃gm cm,ρ 1=some (gm,cm)/\u= .map (some gm):=by
   cases FL with
   |omap _ _ _ _ h=>exact h 41 (by rw[aC]; exact⟨_,hM1,rfl,rfl⟩)
  have B1:=W.bf 1 _ hM1
  obtain⟨cs1,fr1,RX,_,_,_,_,_,_,RY⟩:=B1.real gm cm Hj
  obtain⟨en,ck,hg,hs,MC⟩:=RX
  have hs:en.size=l.length:=by simpa using hs
  have hkey:∀(i:Nat)(e:MapEntry)(r:Rw),en[i]? =some e->l[i]? =some r->e.key= .int .i64 r.h:=by
   intro i e r he hr
   obtain⟨k1,k2,k3,k4⟩:=MC.key i e he
   have hi:=(List.getElem?_eq_some_iff.1 hr).1
   obtain⟨u,hu,_,FL⟩:=RY i 0 (by simpa using hi) (by simp)
   have hrow:(iI l).getD i []=vp r:=by
    unfold iI
    rw[List.getD_eq_getElem?_getD,List.getElem?_map,hr]; rfl
   have FL:aP ρ _ I w (· <2) (((iI l).getD i []).getD 0 .bad) u:=FL
   rw[hrow]at FL
   have FL:=bN FL
   have hf:aN e.key=[e.key]:=by
    cases hk:e.key<;>first|rfl|(rw[hk]at k3; simp[gw]at k3)
   have:=MC.cell i e 0 e.key he (by rw[hf]; rfl)
   rw[this]at hu
   cases hu
   exact FL
  obtain⟨D0,hown,hsz,Yg⟩:=IY SH rd ok hl hg hs MC.born MC.clock hkey
  have hlt:=(Array.getElem?_eq_some_iff.1 qp).1
  have hc:w.cell? ⟨g,0,none⟩=some (.map (some gm)):=by
   simp only[World.cell?,qp,Option.isSome_none,Bool.false_eq_true,if_false]
   exact hu
  have Ge:(1000000:Nat)<=maxLen:=by decide
  have yG:=KL gm l.length g D0 qN w hlt hc hown (by omega) (by omega)
  refine yG.mono ?_
  rintro e w' ⟨v,ss,rfl,hp,⟨_,hrow⟩,hnil,rF⟩
  have hp:=hp.trans Yg
  have hkl:=FN hp
  have hlen:(eC l).length=ss.length:=by rw[<-hkl,List.length_mergeSort]
  refine⟨v,rfl,?_⟩
  obtain⟨E0,W0⟩:=W.ext' (w':= {w with drawn:=w'.drawn}) (I':=I) rfl rfl rfl (Nat.le_refl _) (fun _ _=>rfl) (fun _ h=>h) W.lt (fun _ _ h=>h) (Nat.zero_le _)
  rcases hrow with⟨rfl,h0⟩|⟨gb,cp,cur,rfl,hge,hgb,hle,nK,hcs,Y7⟩
  ·have e0:eC l=[]:=List.eq_nil_of_length_eq_zero (by omega)
   obtain⟨E1,W1⟩:=W.ext' (w':=w') (I':=I) rF.os rF.tape rF.output rF.size rF.block (fun _ h=>h) (fun g hg=>Nat.lt_of_lt_of_le (W.lt g hg) rF.size) (fun _ _ h=>h) (Nat.zero_le _)
   obtain⟨E2,W2⟩:=W1.eW (n:=2) (Nat.lt_irrefl 2) (R.ty 10) 1
   have e1:dc (ab (az [(0,bP.var (R.ty 57) [.omap 1]),(1,.map 1 false true d1 41 (iI l))])) 2 ⟨R.ty 10,1,[],none⟩=ab (az [(0,.var (R.ty 57) [.omap 1]),(1,.map 1 false true d1 41 (iI l)),(2,.arr (R.ty 10) 1 (bp .i64 (eC l)))]):=by
    rw[e0]
    funext m
    by_cases hm:m=2
    ·subst hm; rfl
    ·have:(m==2)=false:=by simpa using hm
     simp[dc,hm,az,ab,this]
   rw[e1]at W2
   refine⟨_,I,0,W2.nL (fun m hm=>by rcases hm with rfl|hm; exact Nat.lt_succ_self 2; exact Nat.lt_succ_of_lt hm),?_⟩
   rw[show (eC l).length=0 from by rw[e0]; rfl]
   refine .aV 2 0 _ (Nat.lt_succ_self 2) rfl fun k sz hk=>⟨Nat.zero_le _,fun _=> .inl ⟨if_pos rfl,_,rfl⟩⟩
  ·have hgb:w'.heap[gb]? =some (.cells cur (R.ty 10) (0,0)):=hgb
   have fq:(bp .i64 (eC l)).length=ss.length:=by simp[bp,hlen]
   obtain⟨E1,W1⟩:=W0.put (w':=w') 2 ⟨R.ty 10,1,bp .i64 (eC l),none⟩ gb cp cur (0,0) rF.os rF.tape rF.output rF.size (fun k hk _=>rF.block k hk) hgb (fun o _ h=>by omega) (.inl hge)
    (fun b0 h0=>by have h0:(Option.none:Option bD)=some b0:=h0; cases h0) (fun h=>absurd h (Nat.lt_irrefl 2)) (fun e he=>by obtain⟨x,_,rfl⟩:=List.mem_map.1 he; rfl) (by show (bp .i64 (eC l)).length<=cp; omega) nK hcs
    (fun i j hi hj=>by
      have hi:i< (bp .i64 (eC l)).length:=hi
      have hj:j<1:=hj
      have e0:j=0:=by omega
      subst e0
      have hi':i< (eC l).length:=by omega
      have hat:(cur.toList.take (ss.length*1))[i]? =some (encZ (eC l)[i]):=by rw[Y7,hkl,List.getElem?_map,List.getElem?_eq_getElem hi']; rfl
      rw[List.getElem?_take_of_lt (by omega)]at hat
      refine⟨encZ (eC l)[i],by simpa using hat,rfl,?_⟩
      rw[show (((⟨R.ty 10,1,bp .i64 (eC l),none⟩:bD).es.getD i []).getD 0 .bad)= .int .i64 (eC l)[i]from by
       have e2:(bp .i64 (eC l))[i]? =some [.int .i64 (eC l)[i]]:=by unfold bp; rw[List.getElem?_map,List.getElem?_eq_getElem hi']; rfl
       show ((bp .i64 (eC l)).getD i []).getD 0 .bad=_
       rw[List.getD_eq_getElem?_getD (l:=bp .i64 (eC l)),e2]; rfl]
      exact .int _ _)
   have e1:dc (ab (az [(0,bP.var (R.ty 57) [.omap 1]),(1,.map 1 false true d1 41 (iI l))])) 2 ⟨R.ty 10,1,bp .i64 (eC l),none⟩=ab (az [(0,.var (R.ty 57) [.omap 1]),(1,.map 1 false true d1 41 (iI l)),(2,.arr (R.ty 10) 1 (bp .i64 (eC l)))]):=by
    funext m
    by_cases hm:m=2
    ·subst hm; rfl
    ·have:(m==2)=false:=by simpa using hm
     simp[dc,hm,az,ab,this]
   rw[e1]at W1
   refine⟨_,I,0,W1.nL (fun m hm=>by rcases hm with rfl|hm; exact Nat.lt_succ_self 2; exact Nat.lt_succ_of_lt hm),?_⟩
   rw[hlen]
   refine .aV 2 ss.length _ (Nat.lt_succ_self 2) rfl fun k sz hk=> ?_
   obtain⟨b,hb,h1,_⟩:=aC.1 hk
   have hb:some (⟨R.ty 10,1,bp .i64 (eC l),Option.none⟩:bD)=some b:=hb
   cases hb
   have h1:(bp .i64 (eC l)).length=k:=h1
   exact⟨by omega,fun _=> .inr ⟨gb,cp,by simp[iW],rfl⟩⟩
end Go.UM
namespace Go.UM
open Go.AM Go.Shelf Go.RowKit Go.Lib Go.Sort Go.Proofs
section
variable {α:Type} [Inhabited α]
def yd(cf:α->α->Int)(l:List α):List α:=(pdq (ltOf cf) l.toArray 0 l.toArray.size (Lib.bitLen l.toArray.size) true true).toList
theorem Cn{P:Program}{ρ:Ren}(L:SlLaysF0.n6 P ρ){k:Nat}(aE:∀w,(isAgg (ρ.t 24)).run P w= .ok true w)(zE:∀w,(Go.sizeOf (ρ.t 24)).run P w= .ok k w){ap:α->List Int}(hk:∀x,(ap x).length=k)
  {cf:α->α->Int} (hO:SWO (ltOf cf)) {g:Nat} (eg:∀args w,(callFunc g args).run P w= .ok (.enter g args) w):mW P (ρ.f 6) g k ap cf (yd cf):=by
 refine⟨fun p cap fv w=>AnyF.slices_SortFunc_none L p cap fv w,fun bf cap l w hc hH hb hl=> ?_⟩
 have h:=AnyQ.slices_SortFunc_eq L k aE zE (rc ap) (fun x=>by simp[rc,hk]) (fun x v hv=>by obtain⟨n,_,rfl⟩:=List.mem_map.1 hv; rfl) cf hO g #[] bf 0 cap l.toArray w eg (by simpa using hc) hH hb (by simpa using hl)
 have e:(yd cf l).toArray=pdq (ltOf cf) l.toArray 0 l.toArray.size (Lib.bitLen l.toArray.size) true true:=by simp[yd]
 rw[e]
 rwa[List.size_toArray]at h ⊢
theorem FP(cf:α->α->Int)(hO:SWO (ltOf cf))(l:List α):(yd cf l).Perm l:=by
 have h:=(pdq_sorts (ltOf cf) hO l.toArray 0 l.toArray.size (Lib.bitLen l.toArray.size) true true (Nat.zero_le _) (Nat.le_refl _) (Or.inl rfl)).1
 obtain⟨h1,_,h3⟩:=h
 unfold yd
 generalize pdq (ltOf cf) l.toArray 0 l.toArray.size (Lib.bitLen l.toArray.size) true true=d at h1 h3 ⊢
 rw[<-h1]at h3
 have e1:d.extract 0 d.size=d:=by simp
 rw[e1]at h3
 rw[h1]at h3
 simpa using h3
theorem I3(cf:α->α->Int)(hO:SWO (ltOf cf))(l:List α):(yd cf l).Pairwise fun x y=>ltOf cf y x=false:=by
 have h:=pdq_sorts (ltOf cf) hO l.toArray 0 l.toArray.size (Lib.bitLen l.toArray.size) true true (Nat.zero_le _) (Nat.le_refl _) (Or.inl rfl)
 obtain⟨⟨h1,_,_⟩,h2⟩:=h
 unfold yd
 generalize pdq (ltOf cf) l.toArray 0 l.toArray.size (Lib.bitLen l.toArray.size) true true=d at h1 h2 ⊢
 rw[List.pairwise_iff_getElem]
 intro i j hi hj hij
 have hj':j<d.size:=by simpa using hj
 have:=h2 i j (Nat.zero_le _) hij (by omega)
 rw[getElem!_pos d j hj',getElem!_pos d i (by omega)]at this
 simpa using this
end
theorem ur:SWO (ltOf lE) where
 irrefl x:=by simp only[ltOf,decide_eq_false_iff_not,ec]; omega
 trans x y z h1 h2:=by simp only[ltOf,decide_eq_true_eq,ec]at *; omega
 ntrans x y z h1 h2:=by simp only[ltOf,decide_eq_false_iff_not,ec]at *; omega
theorem I4:MA (yd lE):=⟨fun l=>FP lE ur l,fun l=>(I3 lE ur l).imp fun {a b} h=>by
 simp only[ltOf,decide_eq_false_iff_not]at h
 exact lF.2 h⟩
end Go.UM
namespace Go.UM
open Go.AM
set_option maxRecDepth 4000
theorem I5{l l':List Rw}(h:l.Perm l')(rd:l.Pairwise fun a b=>a.h≠b.h):bv l=bv l':=by
 have tr:∀x y z:Rw,kB x y=true->kB y z=true->kB x z=true:=fun x y z h1 h2=>by simp only[kB,decide_eq_true_eq]at h1 h2 ⊢; omega
 have to:∀x y:Rw,(kB x y||kB y x)=true:=fun x y=>by simp only[kB,Bool.or_eq_true,decide_eq_true_eq]; omega
 refine List.Perm.eq_of_pairwise (le:=fun x y=>kB x y=true) ?_ (List.pairwise_mergeSort tr to l) (List.pairwise_mergeSort tr to l') ((List.mergeSort_perm l kB).trans (h.trans (List.mergeSort_perm l' kB).symm))
 intro a b ha hb h1 h2
 have Yd:a ∈ l:=(List.mergeSort_perm l kB).mem_iff.1 ha
 have hb':b ∈ l:=h.mem_iff.2 ((List.mergeSort_perm l' kB).mem_iff.1 hb)
 have e:a.h=b.h:=by simp only[kB,decide_eq_true_eq]at h1 h2; omega
 have k1:=dV rd Yd
 rw[e,dV rd hb']at k1
 exact (Option.some.inj k1).symm
def tle(b:Bool)(hd:Int)(f:Mf)(a:As):Int:=if hd<1\/ 65536<hd then 2 else if b=true then 10 else if dK a≠0 then dK a else if f.kind≠a.k then 12 else 0
theorem wL(t:Tb)(hd:Int)(f:Mf)(a:As):gY t hd f a=(if tle (be t.rows hd).isSome hd f a=0 then ⟨t.rows++ [⟨hd,f,a⟩],t.ins⟩else t,tle (be t.rows hd).isSome hd f a):=by
 unfold gY tle
 by_cases k1:hd<1\/ 65536<hd
 ·rw[if_pos k1,if_pos k1]; rfl
 ·rw[if_neg k1,if_neg k1]
  by_cases k2:(be t.rows hd).isSome=true
  ·rw[if_pos k2,if_pos k2]; rfl
  ·rw[if_neg k2,if_neg k2]
   by_cases k3:dK a≠0
   ·rw[if_pos k3,if_pos k3,if_neg k3]
   ·rw[if_neg k3,if_neg k3]
    by_cases k4:f.kind≠a.k
    ·rw[if_pos k4,if_pos k4]; rfl
    ·rw[if_neg k4,if_neg k4]; rfl
end Go.UM
namespace Go.UM
open Go.AM
set_option maxRecDepth 4000
theorem oC{a l:List In}(nd:l.Pairwise fun a b=>bt a b=false)(h:a.Perm l)(ord:a.Pairwise fun x y=>leI x y=true):a=cQ l:=by
 classical
 have:=MA.eq (gU:=fun x=>if x=l then a else cQ x) ⟨fun x=>by
  by_cases e:x=l
  ·simp only[if_pos e]; rw[e]; exact h
  ·simp only[if_neg e]; exact List.mergeSort_perm x leI,fun x=>by
  by_cases e:x=l
  ·simp only[if_pos e]; exact ord
  ·simp only[if_neg e]; exact List.pairwise_mergeSort kQ mX x⟩ nd (.refl l)
 simpa using this
theorem im{l:List In}{x:In}:x ∈ cQ l↔x ∈ l:=(List.mergeSort_perm l leI).mem_iff
theorem ye{l:List In}(nd:l.Pairwise fun a b=>bt a b=false)(p:In->Bool):(cQ l).filter p=cQ (l.filter p):=
 oC (nd.sublist List.filter_sublist) ((List.mergeSort_perm l leI).filter p) ((List.pairwise_mergeSort kQ mX l).sublist List.filter_sublist)
theorem I6{t:Tb}{x:In}(h:(kp t x).2=0):(kp t x).1=⟨t.rows,t.ins++ [x]⟩/\eG t.ins x=none/\(kp ⟨t.rows,t.ins++ [x]⟩ x).2=10:=by
 unfold kp at h ⊢
 by_cases k1:x.n<0\/ 65536<x.n
 ·rw[if_pos k1]at h; exact absurd h (by simp)
 ·rw[if_neg k1]at h ⊢
  rw[if_neg k1]
  by_cases k2:ca t.rows x≠0
  ·rw[if_pos k2]at h; exact absurd h k2
  ·rw[if_neg k2]at h ⊢
   rw[if_neg k2]
   by_cases k3:(eG t.ins x).isSome=true
   ·rw[if_pos k3]at h; exact absurd h (by simp)
   ·rw[if_neg k3]at h ⊢
    have hn:eG t.ins x=none:=by simpa using k3
    have hs:(eG (t.ins++ [x]) x).isSome=true:=by
     unfold eG
     rw[List.find?_isSome]
     exact⟨x,by simp,by simp[bt]⟩
    rw[if_pos hs]
    cases hr:be t.rows x.bc with
    |none=>rw[hr]at h; exact absurd h (by simp)
    |some r=>
     rw[hr]at h
     dsimp only at h ⊢
     by_cases k4:uo x.t r.a.m.v≠0
     ·rw[if_pos k4]at h; exact absurd h k4
     ·rw[if_neg k4]; exact⟨rfl,hn,rfl⟩
end Go.UM
namespace Go.UM
open Go.AM
set_option maxRecDepth 4000
def Co(l:List Rw)(x:In):Prop:=∃a b,be l x.bc=some a/\a.f.kind=1/\be l x.dp=some b/\b.f.kind=3/\(x.cw=0\/∃c,be l x.cw=some c/\c.f.kind=2)/\uo x.t a.a.m.v=0
theorem Co.mono{l l':List Rw}{x:In}(h:Co l x)(k1:∀r,be l x.bc=some r->be l' x.bc=some r)(k2:∀r,be l x.dp=some r->be l' x.dp=some r)(k3:∀r,be l x.cw=some r->be l' x.cw=some r):Co l' x:=by
 obtain⟨a,b,h1,h2,h3,h4,h5,h6⟩:=h
 refine⟨a,b,k1 a h1,h2,k2 b h3,h4,?_,h6⟩
 rcases h5 with h|⟨c,h,h'⟩
 ·exact .inl h
 ·exact .inr ⟨c,k3 c h,h'⟩
theorem kq{l:List Rw}{q r:Rw}{h:Int}(e:be l h=some r):be (l++ [q]) h=some r:=by
 unfold be at*
 rw[List.find?_append,e]; rfl
theorem oD{l:List Rw}{hd h:Int}(hne:h≠hd):be (l.eraseP fun r=>r.h==hd) h=be l h:=by
 unfold be
 induction l with
 |nil=>rfl
 |cons a l ih=>
  by_cases e:(a.h==hd)=true
  ·rw[List.eraseP_cons_of_pos (p:=fun r:Rw=>r.h==hd) e]
   have:(a.h==h)=false:=by
    have e:a.h=hd:=by simpa using e
    simpa[e]using Ne.symm hne
   rw[List.find?_cons,this]
  ·rw[List.eraseP_cons_of_neg (p:=fun r:Rw=>r.h==hd) e,List.find?_cons,List.find?_cons,ih]
structure oE(t:Tb):Prop where
 ok:∀x ∈ t.ins,Co t.rows x
 it:∀x ∈ t.ins,x.t.I
theorem I7:oE ⟨[],[]⟩:=⟨fun x h=>by simp at h,fun x h=>by simp at h⟩
theorem FQ{l:List Rw}{x:In}(h:ca l x=0):∃a b,be l x.bc=some a/\a.f.kind=1/\be l x.dp=some b/\b.f.kind=3/\(x.cw=0\/∃c,be l x.cw=some c/\c.f.kind=2):=by
 unfold ca at h
 cases ha:be l x.bc with
 |none=>rw[ha]at h; cases h
 |some a=>
  rw[ha]at h
  dsimp only at h
  cases hb:be l x.dp with
  |none=>rw[hb]at h; cases h
  |some b=>
   rw[hb]at h
   dsimp only at h
   by_cases hx:x.cw=0
   ·rw[if_pos hx]at h
    by_cases k:a.f.kind≠1\/ b.f.kind≠3
    ·rw[if_pos k]at h; cases h
    ·exact⟨a,b,rfl,by omega,rfl,by omega,.inl hx⟩
   ·rw[if_neg hx]at h
    cases hc:be l x.cw with
    |none=>rw[hc]at h; cases h
    |some c=>
     rw[hc]at h
     dsimp only at h
     by_cases k:a.f.kind≠1\/ b.f.kind≠3\/ c.f.kind≠2
     ·rw[if_pos k]at h; cases h
     ·exact⟨a,b,rfl,by omega,rfl,by omega,.inr ⟨c,rfl,by omega⟩⟩
theorem I8{t:Tb}(s:oE t){hd:Int}{f:Mf}{a:As}:oE (gY t hd f a).1:=by
 rw[wL]
 dsimp only
 split
 ·exact⟨fun x hx=>(s.ok x hx).mono (fun r h=>kq h) (fun r h=>kq h) (fun r h=>kq h),s.it⟩
 ·exact s
theorem Cp{t:Tb}(s:oE t){hd:Int}:oE (fR t hd).1:=by
 unfold fR
 split
 ·refine⟨fun x hx=> ?_,fun x hx=>s.it x (List.mem_filter.1 hx).1⟩
  obtain⟨h1,h2⟩:=List.mem_filter.1 hx
  have h2:((x.bc≠hd/\x.dp≠hd)/\x.cw≠hd):=by simpa[gu]using h2
  exact (s.ok x h1).mono (fun r h=>by rw[oD h2.1.1]; exact h) (fun r h=>by rw[oD h2.1.2]; exact h) (fun r h=>by rw[oD h2.2]; exact h)
 ·exact s
theorem I9{t:Tb}(s:oE t){x:In}:oE (mE t x).1:=by
 unfold mE
 split
 ·exact⟨fun y hy=>s.ok y (List.eraseP_sublist.subset hy),fun y hy=>s.it y (List.eraseP_sublist.subset hy)⟩
 ·exact s
theorem ME{t:Tb}(s:oE t){x:In}(hx:x.t.I):oE (kp t x).1:=by
 by_cases h:(kp t x).2=0
 ·rw[(I6 h).1]
  refine⟨fun y hy=> ?_,fun y hy=> ?_⟩
  ·rcases List.mem_append.1 hy with h'|h'
   ·exact s.ok y h'
   ·simp only[List.mem_singleton]at h'
    subst h'
    unfold kp at h
    by_cases k1:y.n<0\/ 65536<y.n
    ·rw[if_pos k1]at h; exact absurd h (by simp)
    ·rw[if_neg k1]at h
     by_cases k2:ca t.rows y≠0
     ·rw[if_pos k2]at h; exact absurd h k2
     ·rw[if_neg k2]at h
      by_cases k3:(eG t.ins y).isSome=true
      ·rw[if_pos k3]at h; exact absurd h (by simp)
      ·rw[if_neg k3]at h
       obtain⟨a,b,h1,h2,h3,h4,h5⟩:=FQ (Classical.byContradiction k2)
       rw[h1]at h
       dsimp only at h
       by_cases k4:uo y.t a.a.m.v≠0
       ·rw[if_pos k4]at h; exact absurd h k4
       ·exact⟨a,b,h1,h2,h3,h4,h5,Classical.byContradiction k4⟩
  ·rcases List.mem_append.1 hy with h'|h'
   ·exact s.it y h'
   ·simp only[List.mem_singleton]at h'; subst h'; exact hx
 ·rw[IT h]; exact s
theorem RZ{t:Tb}(s:oE t){c:Ac}(hx:c.i.t.I):oE (Cl t c).1:=by
 unfold Cl
 split
 ·exact I8 s
 ·split
  ·exact Cp s
  ·split
   ·exact ME s hx
   ·exact I9 s
theorem kR{l:List Rw}(rd:l.Pairwise fun a b=>a.h≠b.h):(bv l).Pairwise fun a b=>a.h<b.h:=by
 have tr:∀x y z:Rw,kB x y=true->kB y z=true->kB x z=true:=fun x y z h1 h2=>by simp only[kB,decide_eq_true_eq]at h1 h2 ⊢; omega
 have to:∀x y:Rw,(kB x y||kB y x)=true:=fun x y=>by simp only[kB,Bool.or_eq_true,decide_eq_true_eq]; omega
 have h1:(bv l).Pairwise fun a b=>kB a b=true:=List.pairwise_mergeSort tr to l
 have h2:(bv l).Pairwise fun a b=>a.h≠b.h:=(List.mergeSort_perm l kB).symm.pairwise rd (fun h=>Ne.symm h)
 exact (h1.and h2).imp fun {a b} h=>by
  have:=h.1
  simp only[kB,decide_eq_true_eq]at this
  have:=h.2
  omega
theorem fX{l:List Rw}(rd:l.Pairwise fun a b=>a.h≠b.h){h:Int}{r:Rw}(e:be l h=some r):be (bv l) h=some r:=by
 obtain⟨h1,h2⟩:=cJ e
 rw[<-h2]
 exact dV ((kR rd).imp fun {a b} h=>by omega) (eo.2 h1)
theorem FR{l:List In}(nd:l.Pairwise fun a b=>bt a b=false):(cQ l).Pairwise fun a b=>bt a b=false:=
 (List.mergeSort_perm l leI).symm.pairwise nd (fun h=>by rw[oB]; exact h)
end Go.UM
namespace Go.UM
open Go.AM
set_option maxRecDepth 4000
section
variable {α:Type}
def jM(p:α->Bool)(x:α)(s:List α × Bool)(r:α):List α × Bool:=if s.2=false/\p r=true then (s.1++ [x]++ [r],true)else (s.1++ [r],s.2)
def dg(p:α->Bool)(x:α)(l:List α):List α × Bool:=l.foldl (jM p x) ([],false)
def ny(p:α->Bool)(x:α)(l:List α):List α:=if (dg p x l).2=true then (dg p x l).1 else (dg p x l).1++ [x]
variable {p:α->Bool} {x:α}
theorem mY(l:List α)(r:α):dg p x (l++ [r])=jM p x (dg p x l) r:=by simp[dg]
theorem pM:∀(l o:List α)(b:Bool),l.foldl (jM p x) (o,b)=if b=true then (o++l,true)else if l.any p=true then (o++(l.takeWhile (fun r=> !p r)++x::l.dropWhile (fun r=> !p r)),true)else (o++l,false)
 |[],o,b=>by cases b<;>simp
 |r::l,o,b=>by
  rw[List.foldl_cons]
  cases b with
  |true=>
   have e:jM p x (o,true) r=(o++ [r],true):=if_neg (by simp)
   rw[e,pM l,if_pos rfl,if_pos rfl,List.append_assoc]; rfl
  |false=>
   cases h:p r with
   |true=>
    have e:jM p x (o,false) r=(o++ [x]++ [r],true):=if_pos ⟨rfl,h⟩
    rw[e,pM l,if_pos rfl]
    simp[h]
   |false=>
    have e:jM p x (o,false) r=(o++ [r],false):=if_neg (by simp[h])
    rw[e,pM l]
    simp only[Bool.false_eq_true,if_false,List.any_cons,h,Bool.false_or]
    split
    ·simp[h]
    ·simp
theorem ut{q:α->Bool}{l:List α}(h:∀r ∈ l,q r=true):l.takeWhile q=l:=by
 induction l with
 |nil=>rfl
 |cons a l ih=>rw[List.takeWhile_cons,if_pos (h a (by simp)),ih fun r hr=>h r (by simp[hr])]
theorem dropWhile_nil{q:α->Bool}{l:List α}(h:∀r ∈ l,q r=true):l.dropWhile q=[]:=by
 induction l with
 |nil=>rfl
 |cons a l ih=>rw[List.dropWhile_cons,if_pos (h a (by simp)),ih fun r hr=>h r (by simp[hr])]
theorem DB(l:List α):ny p x l=l.takeWhile (fun r=> !p r)++x::l.dropWhile (fun r=> !p r):=by
 unfold ny dg
 rw[pM]
 simp only[Bool.false_eq_true,if_false,List.nil_append]
 cases h:l.any p with
 |true=>simp
 |false=>
  have hn:∀r ∈ l,(!p r)=true:=fun r hr=>by
   have:=List.any_eq_false.1 h r hr
   simpa using this
  simp only[Bool.false_eq_true,if_false]
  rw[ut hn,dropWhile_nil hn]
theorem pN(l:List α):(dg p x l).1.length<=l.length+1:=by
 unfold dg
 rw[pM]
 simp only[Bool.false_eq_true,if_false,List.nil_append]
 split
 ·have:=congrArg List.length (List.takeWhile_append_dropWhile (p:=fun r=> !p r) (l:=l))
  simp only[List.length_append,List.length_cons]at this ⊢
  omega
 ·simp
theorem wM(l:List α):(ny p x l).Perm (l++ [x]):=by
 rw[DB]
 refine List.perm_middle.trans ?_
 rw[List.takeWhile_append_dropWhile]
 exact (List.perm_append_singleton x l).symm
theorem Ao{le:α->α->Prop}(tr:∀a b c,le a b->le b c->le a c){l:List α}(hl:l.Pairwise le)(h1:∀r ∈ l,p r=true->le x r)(h2:∀r ∈ l,p r=false->le r x):(ny p x l).Pairwise le:=by
 rw[DB]
 have e:=List.takeWhile_append_dropWhile (p:=fun r=> !p r) (l:=l)
 have og:=hl
 rw[<-e]at og
 obtain⟨k1,k2,k3⟩:=List.pairwise_append.1 og
 have ht:∀r ∈ l.takeWhile (fun r=> !p r),le r x:=fun r hr=>h2 r (List.takeWhile_sublist _ |>.subset hr) (by
  have:=List.all_takeWhile (p:=fun r=> !p r) (l:=l)
  have:=List.all_eq_true.1 this r hr
  simpa using this)
 have hd:∀r ∈ l.dropWhile (fun r=> !p r),le x r:=by
  cases hq:l.dropWhile (fun r=> !p r)with
  |nil=>intro r hr; simp at hr
  |cons a q=>
   have ha:p a=true:=by
    have:=List.head?_dropWhile_not (fun r=> !p r) l
    rw[hq]at this
    simpa using this
   have ej:a ∈ l:=(List.dropWhile_sublist (fun r=> !p r)).subset (hq ▸ List.mem_cons_self)
   have hxa:=h1 a ej ha
   rw[hq]at k2
   intro r hr
   rcases List.mem_cons.1 hr with rfl|h
   ·exact hxa
   ·exact tr _ _ _ hxa ((List.pairwise_cons.1 k2).1 r h)
 rw[List.pairwise_append]
 refine⟨k1,List.pairwise_cons.2 ⟨hd,k2⟩,fun a ha b hb=> ?_⟩
 rcases List.mem_cons.1 hb with rfl|h
 ·exact ht a ha
 ·exact tr _ _ _ (ht a ha) (hd b h)
def pO(p:α->Bool)(l:List α):Int:=match l.findIdx? p with
 |some i=>i
 |none=> -1
theorem pP{l:List α}{i:Nat}{r:α}(h:l[i]? =some r)(hp:p r=true)(hn:∀(j:Nat)(y:α),j<i->l[j]? =some y->p y=false):pO p l=i:=by
 have:l.findIdx? p=some i:=by
  rw[List.findIdx?_eq_some_iff_getElem]
  obtain⟨hi,e⟩:=List.getElem?_eq_some_iff.1 h
  exact⟨hi,by rw[e]; exact hp,fun j hj=>by rw[hn j _ hj (List.getElem?_eq_getElem (by omega))]; simp⟩
 unfold pO; rw[this]
theorem uu{l:List α}(hn:∀(j:Nat)(y:α),j<l.length->l[j]? =some y->p y=false):pO p l= -1:=by
 have:l.findIdx? p=none:=by
  rw[List.findIdx?_eq_none_iff]
  intro y hy
  obtain⟨j,hj,rfl⟩:=List.getElem_of_mem hy
  exact hn j _ hj (List.getElem?_eq_getElem hj)
 unfold pO; rw[this]
theorem gk(p:α->Bool)(l:List α):(∃(i:Nat)(r:α),pO p l=i/\l[i]? =some r/\p r=true/\l.find? p=some r/\l.eraseIdx i=l.eraseP p)\/(pO p l= -1/\l.find? p=none):=by
 cases h:l.findIdx? p with
 |none=>
  refine .inr ⟨by unfold pO; rw[h],?_⟩
  rw[List.find?_eq_none]
  intro y hy
  have:=List.findIdx?_eq_none_iff.1 h y hy
  simp[this]
 |some i=>
  obtain⟨hi,hp,hn⟩:=List.findIdx?_eq_some_iff_getElem.1 h
  refine .inl ⟨i,l[i],by unfold pO; rw[h],List.getElem?_eq_getElem hi,hp,?_,?_⟩
  ·rw[List.find?_eq_some_iff_getElem]
   exact⟨hp,i,hi,rfl,fun j hj=>by simpa using hn j hj⟩
  ·rw[List.eraseP_eq_eraseIdx,h]
end
theorem oF{a l:List Rw}(rd:l.Pairwise fun a b=>a.h≠b.h)(h:a.Perm l)(ord:a.Pairwise fun x y=>kB x y=true):a=bv l:=by
 have e:=I5 h.symm rd
 rw[e]
 unfold bv
 rw[List.mergeSort_of_pairwise ord]
theorem wN(l:List Rw):(bv l).Pairwise fun x y=>kB x y=true:=
 List.pairwise_mergeSort (fun x y z h1 h2=>by simp only[kB,decide_eq_true_eq]at h1 h2 ⊢; omega) (fun x y=>by simp only[kB,Bool.or_eq_true,decide_eq_true_eq]; omega) l
theorem uw(l:List Rw):(bv l).Perm l:=List.mergeSort_perm l kB
def yf(x:Rw)(r:Rw):Bool:=decide (x.h<r.h)
theorem FT{l:List Rw}{x:Rw}(rd:(l++ [x]).Pairwise fun a b=>a.h≠b.h):bv (l++ [x])=ny (yf x) x (bv l):=by
 refine (oF rd ((wM _).trans ((uw l).append_right [x])) (Ao (fun a b c h1 h2=>by simp only[kB,decide_eq_true_eq]at h1 h2 ⊢; omega) (wN l) (fun r _ h=> ?_) (fun r _ h=> ?_))).symm
 ·simp only[yf,decide_eq_true_eq]at h
  simp only[kB,decide_eq_true_eq]; omega
 ·simp only[yf,decide_eq_false_iff_not]at h
  simp only[kB,decide_eq_true_eq]; omega
theorem gl{l:List Rw}(rd:l.Pairwise fun a b=>a.h≠b.h)(h:Int):be (bv l) h=be l h:=by
 cases e:be l h with
 |some r=>exact fX rd e
 |none=>
  unfold be at e ⊢
  rw[List.find?_eq_none]at e ⊢
  exact fun r hr=>e r (eo.1 hr)
theorem Ap{l:List Rw}(rd:l.Pairwise fun a b=>a.h≠b.h)(h:Int):bv (l.eraseP fun r=>r.h==h)=(bv l).eraseP fun r=>r.h==h:=by
 refine (oF (rd.sublist List.eraseP_sublist) ?_ ((wN l).sublist List.eraseP_sublist)).symm
 have nd:∀{m:List Rw},m.Pairwise (fun a b=>a.h≠b.h)->m.eraseP (fun r=>r.h==h)=m.filter (fun r=> !(r.h==h)):=by
  intro m
  induction m with
  |nil=>intro _; rfl
  |cons a m ih=>
   intro hm
   obtain⟨h1,h2⟩:=List.pairwise_cons.1 hm
   by_cases k:(a.h==h)=true
   ·rw[List.eraseP_cons_of_pos (p:=fun r:Rw=>r.h==h) k]
    have e:m.filter (fun r=> !(r.h==h))=m:=List.filter_eq_self.2 fun r hr=>by
     have:=h1 r hr
     simp only[beq_iff_eq]at k
     simp; omega
    simp[List.filter_cons,k,e]
   ·rw[List.eraseP_cons_of_neg (p:=fun r:Rw=>r.h==h) k,ih h2]
    simp[List.filter_cons,k]
 rw[nd rd,nd ((kR rd).imp fun {a b} k=>by omega)]
 exact (uw l).filter _
def jc(x:In)(r:In):Bool:=decide (lE x r<0)
theorem ux(l:List In):(cQ l).Perm l:=List.mergeSort_perm l leI
theorem wO(l:List In):(cQ l).Pairwise fun x y=>leI x y=true:=List.pairwise_mergeSort kQ mX l
theorem FU{l:List In}{x:In}(nd:(l++ [x]).Pairwise fun a b=>bt a b=false):cQ (l++ [x])=ny (jc x) x (cQ l):=by
 refine (oC nd ((wM _).trans ((ux l).append_right [x])) (Ao (fun a b c h1 h2=>kQ a b c h1 h2) (wO l) (fun r _ h=> ?_) (fun r _ h=> ?_))).symm
 ·simp only[jc,decide_eq_true_eq,ec]at h
  rw[lF,ec]; omega
 ·simp only[jc,decide_eq_false_iff_not]at h
  rw[lF]; exact h
theorem uy{l:List In}(nd:l.Pairwise fun a b=>bt a b=false)(x:In):(eG (cQ l) x).isSome=(eG l x).isSome:=by
 unfold eG
 rw[Bool.eq_iff_iff,List.find?_isSome,List.find?_isSome]
 exact⟨fun⟨y,h1,h2⟩=>⟨y,im.1 h1,h2⟩,fun⟨y,h1,h2⟩=>⟨y,im.2 h1,h2⟩⟩
theorem Aq{l:List In}(nd:l.Pairwise fun a b=>bt a b=false)(x:In):cQ (l.eraseP (bt x))=(cQ l).eraseP (bt x):=by
 refine (oC (nd.sublist List.eraseP_sublist) ?_ ((wO l).sublist List.eraseP_sublist)).symm
 have nd':∀{m:List In},m.Pairwise (fun a b=>bt a b=false)->m.eraseP (bt x)=m.filter (fun r=> !bt x r):=by
  intro m
  induction m with
  |nil=>intro _; rfl
  |cons a m ih=>
   intro hm
   obtain⟨h1,h2⟩:=List.pairwise_cons.1 hm
   by_cases k:bt x a=true
   ·rw[List.eraseP_cons_of_pos k]
    have e:m.filter (fun r=> !bt x r)=m:=List.filter_eq_self.2 fun r hr=>by
     have:=h1 r hr
     have k':=fm.1 k
     cases hs:bt x r with
     |false=>rfl
     |true=>
      have h3:=fm.1 hs
      rw[fm.2 (by omega)]at this; cases this
    simp[List.filter_cons,k,e]
   ·rw[List.eraseP_cons_of_neg k,ih h2]
    simp[List.filter_cons,k]
 rw[nd' nd,nd' (FR nd)]
 exact (ux l).filter _
end Go.UM
namespace Go.UM
open Go.AM
set_option maxRecDepth 4000
abbrev iq(R:Env)(d:Tb):ah:=[(0,.var (R.ty 56) [.aD 40 (gT d.rows),.aD 16 (cN d.ins)])]
def dm(h:Int)(r:Rw):Bool:=r.h==h
theorem uz{R:Env}(h:H5 R)(d:Tb)(hd:Int)(hl:d.rows.length<=1000000):R.Mc 454 [.loc 0 1 0 0,.int .i64 hd] (iq R d) (.int .i64 (pO (dm hd) d.rows)) (iq R d) 1:=
 h.ab2.aY 100 1 rfl rfl rfl fun X bb hfit hp=>by
  unfold iq
  refine sh ?_
  refine eH 100 (fun i:Nat=>i<=d.rows.length/\∀(j:Nat)(y:Rw),j<i->d.rows[j]? =some y->dm hd y=false) (fun i=>⟨[(0,.loc 0 1 0 0),(1,.int .i64 hd),(5,.int .i64 i)],[(0,.var (R.ty 56) [.aD 40 (gT d.rows),.aD 16 (cN d.ins)])],1⟩) (fun i=>d.rows.length - i) (0) ?_ ?_
  ·exact⟨Nat.zero_le _,fun j y hj=>absurd hj (Nat.not_lt_zero j)⟩
  ·intro i hi
   dsimp only
   refine sh ?_
   refine cS (fun h1=> ?_) (fun h1=> ?_)
   ·obtain⟨r,hr⟩:∃u_,d.rows[i]? =some u_:=⟨_,List.getElem?_eq_getElem (by first|omega|(simp<;>omega))⟩
    refine sh ?_
    refine aa hr ?_
    refine sh ?_
    refine cS (fun h2=> ?_) (fun h2=> ?_)
    ·rw[pP hr (by simpa[dm]using h2) hi.2]
     refine sh ?_
     exact rM [0]
    ·refine sh ?_
     refine lO (i+1) ?_ ?_
     ·refine⟨by omega,fun j y hj hy=> ?_⟩
      by_cases e:j=i
      ·subst e; rw[hr]at hy; cases hy; simpa[dm]using h2
      ·exact hi.2 j y (by omega) hy
     ·omega
   ·rw[uu (fun j y hj=>hi.2 j y (by omega))]
    refine sh ?_
    exact rM [0]
theorem pQ{R:Env}(h:LF R)(x y:In):R.Pc 456 [.agg x.row,.agg y.row] (.bool (decide (lE x y<0))):=
 h.E8.enter 100 rfl fun X bb hfit hp=>by
  have e:decide (lE x y<0)=decide (x.bc<y.bc\/ x.bc=y.bc/\(x.dp<y.dp\/ x.dp=y.dp/\(x.cw<y.cw\/ x.cw=y.cw/\x.n<y.n))):=by rw[decide_eq_decide]; exact ec
  rw[e]
  refine sh ?_
  refine aj.one 100 ?_
  refine sh ?_
  refine af (by decide) ?_
  refine sh ?_
  refine⟨rfl,?_⟩
  refine sh ?_
  refine⟨rfl,?_⟩
  refine sh ?_
  refine cS (fun h1=> ?_) (fun h1=> ?_)
  ·refine sh ?_
   refine⟨rfl,?_⟩
   refine sh ?_
   refine⟨rfl,?_⟩
   refine sh ?_
   refine rT ?_
   refine bj ?_
   simp; omega
  ·refine sh ?_
   refine aj.one 100 ?_
   refine sh ?_
   refine af (by decide) ?_
   refine sh ?_
   refine⟨rfl,?_⟩
   refine sh ?_
   refine⟨rfl,?_⟩
   refine sh ?_
   refine cS (fun h2=> ?_) (fun h2=> ?_)
   ·refine sh ?_
    refine⟨rfl,?_⟩
    refine sh ?_
    refine⟨rfl,?_⟩
    refine sh ?_
    refine rT ?_
    refine bj ?_
    rw[decide_eq_decide]; omega
   ·refine sh ?_
    refine aj.one 100 ?_
    refine sh ?_
    refine af (by decide) ?_
    refine sh ?_
    refine⟨rfl,?_⟩
    refine sh ?_
    refine⟨rfl,?_⟩
    refine sh ?_
    refine cS (fun h3=> ?_) (fun h3=> ?_)
    ·refine sh ?_
     refine⟨rfl,?_⟩
     refine sh ?_
     refine⟨rfl,?_⟩
     refine sh ?_
     refine rT ?_
     refine bj ?_
     rw[decide_eq_decide]; omega
    ·refine sh ?_
     refine aj.one 100 ?_
     refine sh ?_
     refine af (by decide) ?_
     refine sh ?_
     refine⟨rfl,?_⟩
     refine sh ?_
     refine⟨rfl,?_⟩
     refine sh ?_
     refine cS (fun h4=> ?_) (fun h4=> ?_)
     ·refine sh ?_
      refine⟨rfl,?_⟩
      refine sh ?_
      refine⟨rfl,?_⟩
      refine sh ?_
      refine rT ?_
      refine bj ?_
      rw[decide_eq_decide]; omega
     ·refine sh ?_
      refine aj.one 100 ?_
      refine sh ?_
      refine ay (by decide) ?_
      refine sh ?_
      refine rT ?_
      refine bj ?_
      simp; omega
theorem r5{R:Env}(h:LG R)(d:Tb)(x:In)(hl:d.ins.length<=1000000):R.Mc 455 [.loc 0 1 0 0,.agg x.row] (iq R d) (.int .i64 (pO (bt x) d.ins)) (iq R d) 1:=
 h.ab5.aY 100 1 rfl rfl rfl fun X bb hfit hp=>by
  unfold iq
  refine sh ?_
  refine eH 100 (fun i:Nat=>i<=d.ins.length/\∀(j:Nat)(y:In),j<i->d.ins[j]? =some y->bt x y=false) (fun i=>⟨[(0,.loc 0 1 0 0),(3,.loc 1 1 0 0),(5,.int .i64 i)],[(0,.var (R.ty 56) [.aD 40 (gT d.rows),.aD 16 (cN d.ins)]),(1,.var (R.ty 44) x.row)],2⟩) (fun i=>d.ins.length - i) (0) ?_ ?_
  ·exact⟨Nat.zero_le _,fun j y hj=>absurd hj (Nat.not_lt_zero j)⟩
  ·intro i hi
   dsimp only
   refine sh ?_
   refine cS (fun h1=> ?_) (fun h1=> ?_)
   ·obtain⟨r,hr⟩:∃u_,d.ins[i]? =some u_:=⟨_,List.getElem?_eq_getElem (by first|omega|(simp<;>omega))⟩
    refine sh ?_
    refine aa hr ?_
    refine sh ?_
    refine ae.pure h.pB.E8.hb (pQ h.pB x r) rfl ?_
    by_cases h2:lE x r<0
    ·refine sh ?_
     refine ay (by simp[h2]) ?_
     have hs:bt x r=false:=by
      cases hs:bt x r with
      |false=>rfl
      |true=>
       have:=fm.1 hs
       rw[ec]at h2; omega
     refine sh ?_
     refine lO (i+1) ?_ ?_
     ·refine⟨by omega,fun j y hj hy=> ?_⟩
      by_cases e:j=i
      ·subst e; rw[hr]at hy; cases hy; exact hs
      ·exact hi.2 j y (by omega) hy
     ·omega
    ·refine sh ?_
     refine af (by simp[h2]) ?_
     refine sh ?_
     refine aa hr ?_
     refine sh ?_
     refine ae.pure h.pB.E8.hb (pQ h.pB r x) rfl ?_
     by_cases hs:bt x r=true
     ·have hs':=fm.1 hs
      refine sh ?_
      refine af (by rw[ec]at h2; simp[ec]; omega) ?_
      rw[pP hr hs hi.2]
      refine sh ?_
      exact rM [0]
     ·have hs':¬ (x.bc=r.bc/\x.dp=r.dp/\x.cw=r.cw/\x.n=r.n):=fun k=>hs (fm.2 k)
      have hs:bt x r=false:=by simpa using hs
      refine sh ?_
      refine ay (by rw[ec]at h2; rw[Bool.not_eq_false',decide_eq_true_eq,ec]; omega) ?_
      refine sh ?_
      refine lO (i+1) ?_ ?_
      ·refine⟨by omega,fun j y hj hy=> ?_⟩
       by_cases e:j=i
       ·subst e; rw[hr]at hy; cases hy; exact hs
       ·exact hi.2 j y (by omega) hy
      ·omega
   ·rw[uu (fun j y hj=>hi.2 j y (by omega))]
    refine sh ?_
    exact rM [0]
def wP(t:Tb)(hd:Int)(f:Mf)(a:As):Tb × Int:=
 if hd<1\/ 65536<hd then (t,2)else if (be t.rows hd).isSome=true then (t,10)else if dK a≠0 then (t,dK a)else if f.kind≠a.k then (t,12)else (⟨ny (yf ⟨hd,f,a⟩) ⟨hd,f,a⟩ t.rows,t.ins⟩,0)
theorem Ar(l:List Rw)(h:Int):(0<=pO (dm h) l↔(be l h).isSome=true):=by
 rcases gk (dm h) l with⟨i,r,e1,_,_,e2,_⟩|⟨e1,e2⟩
 ·have e2:be l h=some r:=e2
  rw[e1,e2]; simp
 ·have e2:be l h=none:=e2
  rw[e1,e2]; simp
instance {l:List Rw}{x:Rw}:iU (gT l++ [x.row]) (l.length+1):=⟨by simp⟩
set_option maxHeartbeats 4000000 in
theorem MF{R:Env}(h:QT R)(d:Tb)(hd:Int)(f:Mf)(a:As)(fa:a.Gh)(hl:d.rows.length<=1000000):
  R.Mc 441 [.loc 0 1 0 0,.int .i64 hd,.agg f.row,.agg a.row] (iq R d) (.int .i64 (wP d hd f a).2) (iq R (wP d hd f a).1) 1:=
 h.ab3.aY 100 1 rfl rfl rfl fun X bb hfit hp=>by
  generalize hq:wP d hd f a=q
  unfold wP at hq
  unfold iq
  refine sh ?_
  refine cS (fun h1=> ?_) (fun h1=> ?_)
  ·rw[if_pos (by omega)]at hq
   subst hq
   refine sh ?_
   exact rM [0]
  ·refine sh ?_
   refine cS (fun h2=> ?_) (fun h2=> ?_)
   ·rw[if_pos (by omega)]at hq
    subst hq
    refine sh ?_
    exact rM [0]
   ·rw[if_neg (by omega)]at hq
    refine sh ?_
    refine cM false [0] (uz h.tI d hd hl) ?_
    repeat (intro _; first|refine eK ?_|refine eP ?_)
    refine sh ?_
    refine cS (fun h3=> ?_) (fun h3=> ?_)
    ·rw[if_pos ((Ar _ _).1 (by omega))]at hq
     subst hq
     refine sh ?_
     exact rM [0]
    ·rw[if_neg (fun k=>by have:=(Ar _ _).2 k; omega)]at hq
     refine sh ?_
     refine ae.pure h.n295.Xj.hb (IE h.n295 a fa) rfl ?_
     refine sh ?_
     refine cS (fun h4=> ?_) (fun h4=> ?_)
     ·rw[if_pos h4]at hq
      subst hq
      refine sh ?_
      exact rM [0]
     ·rw[if_neg (by simpa using h4)]at hq
      refine sh ?_
      refine cS (fun h5=> ?_) (fun h5=> ?_)
      ·rw[if_pos h5]at hq
       subst hq
       refine sh ?_
       exact rM [0]
      ·rw[if_neg (by simpa using h5)]at hq
       obtain⟨x,hx⟩:∃x:Rw,x=⟨hd,f,a⟩:=⟨_,rfl⟩
       rw[<-hx]at hq
       have hxh:x.h=hd:=by rw[hx]
       have hxr:x.row= .int .i64 hd::(f.row++a.row):=by rw[hx]; rfl
       refine sh ?_
       refine eH 100 (fun i:Nat=>i<=d.rows.length) (fun i=>⟨[(0,.loc 0 1 0 0),(1,.int .i64 hd),(6,.loc 1 1 0 0),(7,.loc 2 1 0 0),(10,.aV 3 (dg (yf x) x (d.rows.take i)).1.length),(11,.bool (dg (yf x) x (d.rows.take i)).2),(12,.int .i64 i)],[(0,.var (R.ty 56) [.aD 40 (gT d.rows),.aD 16 (cN d.ins)]),(1,.var (R.ty 2) f.row),(2,.var (R.ty 39) a.row),(3,.arr (R.ty 45) 40 (gT (dg (yf x) x (d.rows.take i)).1))],4⟩) (fun i=>d.rows.length - i) (0) ?_ ?_
       ·exact Nat.zero_le _
       ·intro i hi
        dsimp only
        have hlen:=pN (p:=yf x) (x:=x) (d.rows.take i)
        rw[List.length_take]at hlen
        refine sh ?_
        refine cS (fun h6=> ?_) (fun h6=> ?_)
        ·obtain⟨r,hr⟩:∃u_,d.rows[i]? =some u_:=⟨_,List.getElem?_eq_getElem (by omega)⟩
         have e1:dg (yf x) x (d.rows.take (i+1))=jM (yf x) x (dg (yf x) x (d.rows.take i)) r:=by rw[ao hr,mY]
         obtain⟨⟨O,b⟩,hO⟩:∃s,dg (yf x) x (d.rows.take i)=s:=⟨_,rfl⟩
         rw[hO]at e1 hlen ⊢
         dsimp only at hlen ⊢
         cases b with
         |false=>
          refine sh ?_
          refine aa hr ?_
          refine sh ?_
          refine cS (fun h7=> ?_) (fun h7=> ?_)
          ·have e2:dg (yf x) x (d.rows.take (i+1))=(O++ [x]++ [r],true):=by rw[e1]; unfold jM; rw[if_pos ⟨rfl,by simp[yf]; omega⟩]
           refine sh ?_
           refine aa hr ?_
           refine sh ?_
           refine nX (i+1) ?_ ?_ ⟨_,hp,rfl⟩ ?_ ?_
           ·omega
           ·omega
           ·refine iH ?_ ?_
            all_goals first|(rw[e2]; done)|(rw[e2]; simp; done)
           ·refine bj ?_
            all_goals first|(right; simp[gT,Rw.row]; done)|(rw[e2]; simp[gT,Rw.row,hx]; done)
          ·have e2:dg (yf x) x (d.rows.take (i+1))=(O++ [r],false):=by rw[e1]; unfold jM; rw[if_neg (by simp[yf]; omega)]
           refine sh ?_
           refine aa hr ?_
           refine sh ?_
           refine nX (i+1) ?_ ?_ ⟨_,hp,rfl⟩ ?_ ?_
           ·omega
           ·omega
           ·refine iH ?_ ?_
            all_goals first|(rw[e2]; done)|(rw[e2]; simp; done)
           ·refine bj ?_
            all_goals first|(right; simp[gT,Rw.row]; done)|(rw[e2]; simp[gT,Rw.row,hx]; done)
         |true=>
          have e2:dg (yf x) x (d.rows.take (i+1))=(O++ [r],true):=by rw[e1]; unfold jM; rw[if_neg (by simp)]
          refine sh ?_
          refine aa hr ?_
          refine sh ?_
          refine nX (i+1) ?_ ?_ ⟨_,hp,rfl⟩ ?_ ?_
          ·omega
          ·omega
          ·refine iH ?_ ?_
           all_goals first|(rw[e2]; done)|(rw[e2]; simp; done)
          ·refine bj ?_
           all_goals first|(right; simp[gT,Rw.row]; done)|(rw[e2]; simp[gT,Rw.row,hx]; done)
        ·rw[List.take_of_length_le (by omega)]at hlen ⊢
         obtain⟨⟨O,b⟩,hO⟩:∃s,dg (yf x) x d.rows=s:=⟨_,rfl⟩
         have hL:ny (yf x) x d.rows=if b=true then O else O++ [x]:=by unfold ny; rw[hO]
         rw[hL]at hq
         rw[hO]at hlen ⊢
         dsimp only at hlen ⊢
         cases b with
         |false=>
          rw[if_neg (by simp)]at hq
          subst hq
          refine sh ?_
          refine rM [0] ?_
          refine bj ?_
          all_goals (simp[gT,Rw.row,hx]; done)
         |true=>
          rw[if_pos rfl]at hq
          subst hq
          refine sh ?_
          exact rM [0]
end Go.UM
namespace Go.UM
open Go.AM
set_option maxRecDepth 4000
theorem wQ{α:Type}(l:List α)(i:Nat):l.take i++l.drop (i+1)=l.eraseIdx i:=(List.eraseIdx_eq_take_drop_succ ..).symm
theorem Ja(l:List In)(i:Nat):(cN l).take i=cN (l.take i):=by simp[cN,List.map_take]
theorem Jb(l:List In)(i:Nat):(cN l).drop i=cN (l.drop i):=by simp[cN,List.map_drop]
theorem R2(l:List Rw)(i:Nat):(gT l).take i=gT (l.take i):=by simp[gT,List.map_take]
theorem R3(l:List Rw)(i:Nat):(gT l).drop i=gT (l.drop i):=by simp[gT,List.map_drop]
theorem DC(a b:List In):cN (a++b)=cN a++cN b:=by simp[cN]
def wR(t:Tb)(x:In):Tb × Int:=if (eG t.ins x).isSome=true then (⟨t.rows,t.ins.eraseP (bt x)⟩,0)else (t,11)
theorem MG{R:Env}(h:QW R)(d:Tb)(x:In)(hl:d.ins.length<=1000000):R.Mc 444 [.loc 0 1 0 0,.agg x.row] (iq R d) (.int .i64 (wR d x).2) (iq R (wR d x).1) 1:=
 h.ab7.aY 100 1 rfl rfl rfl fun X bb hfit hp=>by
  generalize hq:wR d x=q
  unfold wR at hq
  unfold iq
  refine sh ?_
  refine cM false [0] (r5 h.zQ d x hl) ?_
  repeat (intro _; first|refine eK ?_|refine eP ?_)
  rcases gk (bt x) d.ins with⟨i,r,e1,e2,_,e3,e4⟩|⟨e1,e2⟩
  ·have e3:eG d.ins x=some r:=e3
   rw[e3,if_pos (by simp)]at hq
   have hi:=(List.getElem?_eq_some_iff.1 e2).1
   rw[e1]
   refine sh ?_
   refine ay (by simp) ?_
   refine sh ?_
   refine jZ (by rw[Int.toNat_natCast,Ja]) ?_
   refine sh ?_
   refine jZ (by rw[show ((i:Int)+1).toNat=i+1 by omega,Jb]) ?_
   subst hq
   refine sh ?_
   refine rM [0] ?_
   refine bj ?_
   all_goals (show []++cN (d.ins.take i)++cN (d.ins.drop (i+1))=cN (d.ins.eraseP (bt x)); rw[<-e4,<-wQ,DC,List.nil_append])
  ·have e2:eG d.ins x=none:=e2
   rw[e2,if_neg (by simp)]at hq
   rw[e1]
   refine sh ?_
   refine af (by simp) ?_
   subst hq
   refine sh ?_
   exact rM [0]
def mZ(t:Tb)(hd:Int):Tb × Int:=if (be t.rows hd).isSome=true then (⟨t.rows.eraseP (dm hd),t.ins.filter fun x=> !gu hd x⟩,0)else (t,11)
theorem qq{α:Type}{p:α->Bool}{l:List α}{i:Nat}{x:α}(h:l[i]? =some x):(l.take (i+1)).filter p=(l.take i).filter p++(if p x=true then [x]else []):=by
 rw[ao h,List.filter_append]
 congr 1
 simp[List.filter_cons]
set_option maxHeartbeats 1000000 in
theorem FV{R:Env}(h:QU R)(d:Tb)(hd:Int)(hl:d.rows.length<=1000000)(hi:d.ins.length<=1000000):R.Mc 442 [.loc 0 1 0 0,.int .i64 hd] (iq R d) (.int .i64 (mZ d hd).2) (iq R (mZ d hd).1) 1:=
 h.ab4.aY 100 1 rfl rfl rfl fun X bb hfit hp=>by
  generalize hq:mZ d hd=q
  unfold mZ at hq
  unfold iq
  refine sh ?_
  refine cM false [0] (uz h.tI d hd hl) ?_
  repeat (intro _; first|refine eK ?_|refine eP ?_)
  rcases gk (dm hd) d.rows with⟨a,r,e1,e2,_,e3,e4⟩|⟨e1,e2⟩
  ·have e3:be d.rows hd=some r:=e3
   rw[e3,if_pos (by simp)]at hq
   have ha:=(List.getElem?_eq_some_iff.1 e2).1
   rw[e1]
   refine sh ?_
   refine ay (by simp) ?_
   refine sh ?_
   refine jZ (by rw[Int.toNat_natCast,R2]) ?_
   refine sh ?_
   refine jZ (by rw[show ((a:Int)+1).toNat=a+1 by omega,R3]) ?_
   refine sh ?_
   refine aj.inv 100 (fun i:Nat=>i<=d.ins.length) (fun i=>⟨[(0,.loc 0 1 0 0),(1,.int .i64 hd),(6,.aV 2 ((d.ins.take i).filter fun x=> !gu hd x).length),(7,.int .i64 i)],[(0,.var (R.ty 56) [.aD 40 (gT (d.rows.eraseP (dm hd))),.aD 16 (cN d.ins)]),(2,.arr (R.ty 44) 16 (cN ((d.ins.take i).filter fun x=> !gu hd x)))],3⟩) (fun i=>d.ins.length - i) (0) ?_ ⟨⟨_,hp,rfl⟩,?_,?_⟩ ?_
   ·exact Nat.zero_le _
   ·exact fu
   ·refine bj ?_
    all_goals (rw[<-e4,<-wQ]; simp[gT])
   ·intro i hii
    dsimp only
    refine sh ?_
    refine cS (fun h1=> ?_) (fun h1=> ?_)
    ·obtain⟨x,hx⟩:∃u_,d.ins[i]? =some u_:=⟨_,List.getElem?_eq_getElem (by first|omega|(simp<;>omega))⟩
     refine sh ?_
     refine aa hx ?_
     have ef:=qq (p:=fun x=> !gu hd x) hx
     have el:((d.ins.take i).filter fun x=> !gu hd x).length<=i:=Nat.le_trans (List.length_filter_le _ _) (by rw[List.length_take]; omega)
     obtain⟨O,hO⟩:∃O,((d.ins.take i).filter fun x=> !gu hd x)=O:=⟨_,rfl⟩
     rw[hO]at ef el ⊢
     refine sh ?_
     refine cS (fun k1=> ?_) (fun k1=> ?_)
     ·refine sh ?_
      refine cS (fun k2=> ?_) (fun k2=> ?_)
      ·refine sh ?_
       refine cS (fun k3=> ?_) (fun k3=> ?_)
       ·have e:gu hd x=false:=by simp[gu]; omega
        rw[e,if_pos (by rfl)]at ef
        refine sh ?_
        refine nX (i+1) ?_ ?_ ⟨_,hp,rfl⟩ ?_ ?_
        ·omega
        ·omega
        ·refine bj ?_
         all_goals first|(rw[ef]; done)|(rw[ef]; simp; done)
        ·refine bj ?_
         all_goals first|(right; simp[cN,In.row]; done)|(rw[ef,DC]; rfl)
       ·have e:gu hd x=true:=by simp[gu]; omega
        rw[e,if_neg (by simp)]at ef
        refine sh ?_
        refine nX (i+1) ?_ ?_ ⟨_,hp,rfl⟩ ?_ ?_
        ·omega
        ·omega
        ·refine bj ?_
         all_goals (rw[ef]; simp)
        ·refine bj ?_
         all_goals (rw[ef]; simp)
      ·have e:gu hd x=true:=by simp[gu]; omega
       rw[e,if_neg (by simp)]at ef
       refine sh ?_
       refine nX (i+1) ?_ ?_ ⟨_,hp,rfl⟩ ?_ ?_
       ·omega
       ·omega
       ·refine bj ?_
        all_goals (rw[ef]; simp)
       ·refine bj ?_
        all_goals (rw[ef]; simp)
     ·have e:gu hd x=true:=by simp[gu]; omega
      rw[e,if_neg (by simp)]at ef
      refine sh ?_
      refine nX (i+1) ?_ ?_ ⟨_,hp,rfl⟩ ?_ ?_
      ·omega
      ·omega
      ·refine bj ?_
       all_goals (rw[ef]; simp)
      ·refine bj ?_
       all_goals (rw[ef]; simp)
    ·rw[List.take_of_length_le (by omega)]
     subst hq
     refine sh ?_
     exact rM [0]
  ·have e2:be d.rows hd=none:=e2
   rw[e2,if_neg (by simp)]at hq
   rw[e1]
   refine sh ?_
   refine af (by simp) ?_
   subst hq
   refine sh ?_
   exact rM [0]
def FW(t:Tb)(x:In):Tb × Int:=
 if x.n<0\/ 65536<x.n then (t,2)else if ca t.rows x≠0 then (t,ca t.rows x)else if (eG t.ins x).isSome=true then (t,10)
 else match be t.rows x.bc with
  |none=>(t,11)
  |some r=>if uo x.t r.a.m.v≠0 then (t,uo x.t r.a.m.v)else (⟨t.rows,ny (jc x) x t.ins⟩,0)
theorem qt(h:Int)(l:List Rw):(∃(i:Nat)(r:Rw),pO (dm h) l=i/\l[i]? =some r/\be l h=some r)\/(pO (dm h) l= -1/\be l h=none):=by
 rcases gk (dm h) l with⟨i,r,e1,e2,_,e3,_⟩|⟨e1,e2⟩
 ·exact .inl ⟨i,r,e1,e2,e3⟩
 ·exact .inr ⟨e1,e2⟩
theorem oG(x:In)(l:List In):(0<=pO (bt x) l/\(eG l x).isSome=true)\/(pO (bt x) l= -1/\(eG l x).isSome=false):=by
 rcases gk (bt x) l with⟨i,r,e1,e2,_,e3,_⟩|⟨e1,e2⟩
 ·have e3:eG l x=some r:=e3
  exact .inl ⟨by omega,by rw[e3]; rfl⟩
 ·have e2:eG l x=none:=e2
  exact .inr ⟨e1,by rw[e2]; rfl⟩
end Go.UM
namespace Go.UM
open Go.AM
set_option maxRecDepth 4000
set_option maxHeartbeats 8000000 in
theorem R4{R:Env}(h:QV R)(d:Tb)(x:In)(ok:∀r ∈ d.rows,fA r)(hx:x.t.I)(hl:d.rows.length<=1000000)(hil:d.ins.length<=1000000):
  R.Mc 443 [.loc 0 1 0 0,.agg x.row] (iq R d) (.int .i64 (FW d x).2) (iq R (FW d x).1) 1:=
 h.ab6.aY 100 1 rfl rfl rfl fun X bb hfit hp=>by
  generalize hq:FW d x=q
  unfold FW at hq
  unfold iq
  refine sh ?_
  refine cS (fun h1=> ?_) (fun h1=> ?_)
  ·rw[if_pos (by omega)]at hq
   subst hq
   refine sh ?_
   exact rM [0]
  ·refine sh ?_
   refine cS (fun h2=> ?_) (fun h2=> ?_)
   ·rw[if_pos (by omega)]at hq
    subst hq
    refine sh ?_
    exact rM [0]
   ·rw[if_neg (by omega)]at hq
    refine sh ?_
    refine cM false [0] (uz h.tI d x.bc hl) ?_
    repeat (intro _; first|refine eK ?_|refine eP ?_)
    refine sh ?_
    refine cM false [0] (uz h.tI d x.dp hl) ?_
    repeat (intro _; first|refine eK ?_|refine eP ?_)
    refine sh ?_
    refine cM false [0] (uz h.tI d x.cw hl) ?_
    repeat (intro _; first|refine eK ?_|refine eP ?_)
    rcases qt x.bc d.rows with⟨i,a,ha1,ha2,rr⟩|⟨ha1,rr⟩
    ·have la:=(List.getElem?_eq_some_iff.1 ha2).1
     rcases qt x.dp d.rows with⟨j,b,uN,TP,OS⟩|⟨uN,OS⟩
     ·have lb:=(List.getElem?_eq_some_iff.1 TP).1
      rcases qt x.cw d.rows with⟨k,c,hc1,kw,si⟩|⟨hc1,si⟩
      ·have lc:=(List.getElem?_eq_some_iff.1 kw).1
       rw[ha1,uN,hc1]
       have et:ca d.rows x=if x.cw=0 then (if a.f.kind≠1\/ b.f.kind≠3 then 12 else 0)else if a.f.kind≠1\/ b.f.kind≠3\/ c.f.kind≠2 then 12 else 0:=by unfold ca; rw[rr,OS,si]
       refine sh ?_
       refine ay (by simp) ?_
       refine sh ?_
       refine ay (by simp) ?_
       refine sh ?_
       refine ay (by simp) ?_
       refine sh ?_
       refine aa ha2 ?_
       refine sh ?_
       refine cS (fun k1=> ?_) (fun k1=> ?_)
       ·rw[if_pos (by rw[et]; split<;>rw[if_pos (.inl k1)]<;>simp),show ca d.rows x=12 by rw[et]; split<;>rw[if_pos (.inl k1)]]at hq
        subst hq
        refine sh ?_
        exact rM [0]
       ·refine sh ?_
        refine aa TP ?_
        refine sh ?_
        refine cS (fun k2=> ?_) (fun k2=> ?_)
        ·rw[if_pos (by rw[et]; split; rw[if_pos (.inr k2)]; simp; rw[if_pos (.inr (.inl k2))]; simp),show ca d.rows x=12 by rw[et]; split; rw[if_pos (.inr k2)]; rw[if_pos (.inr (.inl k2))]]at hq
         subst hq
         refine sh ?_
         exact rM [0]
        ·refine sh ?_
         refine cS (fun k3=> ?_) (fun k3=> ?_)
         ·refine sh ?_
          refine aa kw ?_
          refine sh ?_
          refine cS (fun k4=> ?_) (fun k4=> ?_)
          ·have Au:ca d.rows x=12:=by rw[et,if_neg k3,if_pos (.inr (.inr k4))]
           rw[if_pos (by rw[Au]; simp),Au]at hq
           subst hq
           refine sh ?_
           exact rM [0]
          ·have Au:ca d.rows x=0:=by rw[et,if_neg k3,if_neg (by omega)]
           rw[if_neg (by rw[Au]; simp)]at hq
           have hvs:=(ok a (cJ rr).1).Dr (by omega)
           refine sh ?_
           refine cM false [0] (r5 h.zQ d x hil) ?_
           repeat (intro _; first|refine eK ?_|refine eP ?_)
           rcases oG x d.ins with⟨f1,f2⟩|⟨f1,f2⟩
           ·rw[if_pos f2]at hq
            refine sh ?_
            refine af (by simp; omega) ?_
            subst hq
            refine sh ?_
            exact rM [0]
           ·rw[if_neg (by rw[f2]; simp),rr]at hq
            rw[f1]
            refine sh ?_
            refine ay (by simp) ?_
            dsimp only at hq
            refine sh ?_
            refine aa ha2 ?_
            refine sh ?_
            refine eH 100 (fun k:Nat=>k<=a.a.m.v.length/\∀(j:Nat)(u:T3),j<k->a.a.m.v[j]? =some u->(bK x.t u).2=0) (fun k=>⟨[(0,.loc 0 1 0 0),(3,.loc 1 1 0 0),(8,.aD 3 (bW a.a.m.v)),(9,.int .i64 k)],[(0,.var (R.ty 56) [.aD 40 (gT d.rows),.aD 16 (cN d.ins)]),(1,.var (R.ty 44) x.row)],2⟩) (fun k=>a.a.m.v.length - k) (0) ?_ ?_
            ·exact⟨Nat.zero_le _,fun j u hj=>absurd hj (Nat.not_lt_zero j)⟩
            ·intro k hk
             dsimp only
             have hlen:=hvs.1
             refine sh ?_
             refine cS (fun h4=> ?_) (fun h4=> ?_)
             ·obtain⟨v,hv⟩:∃u_,a.a.m.v[k]? =some u_:=⟨_,List.getElem?_eq_getElem (by first|omega|(simp<;>omega))⟩
              refine sh ?_
              refine aa hv ?_
              refine sh ?_
              refine ae.pure h.n242.vh.hb (fj h.n242 hx (x0 (hvs.2 v (List.mem_of_getElem? hv)))) rfl ?_
              refine sh ?_
              refine cS (fun h5=> ?_) (fun h5=> ?_)
              ·rw[if_pos (by rw[j7 hv hk.2 h5]; exact h5),j7 hv hk.2 h5]at hq
               subst hq
               refine sh ?_
               exact rM [0]
              ·refine sh ?_
               refine lO (k+1) ?_ ?_
               ·refine⟨by omega,fun j u hj hu=> ?_⟩
                by_cases e:j=k
                ·subst e
                 rw[hv]at hu
                 cases hu
                 exact h5
                ·exact hk.2 j u (by omega) hu
               ·omega
             ·rw[mV (fun j u hj=>hk.2 j u (by omega)),if_neg (by simp)]at hq
              refine sh ?_
              refine eH 100 (fun i:Nat=>i<=d.ins.length) (fun i=>⟨[(0,.loc 0 1 0 0),(3,.loc 1 1 0 0),(12,.aV 2 (dg (jc x) x (d.ins.take i)).1.length),(13,.bool (dg (jc x) x (d.ins.take i)).2),(14,.int .i64 i)],[(0,.var (R.ty 56) [.aD 40 (gT d.rows),.aD 16 (cN d.ins)]),(1,.var (R.ty 44) x.row),(2,.arr (R.ty 44) 16 (cN (dg (jc x) x (d.ins.take i)).1))],3⟩) (fun i=>d.ins.length - i) (0) ?_ ?_
              ·exact Nat.zero_le _
              ·intro i hi
               dsimp only
               have hlen:=pN (p:=jc x) (x:=x) (d.ins.take i)
               rw[List.length_take]at hlen
               refine sh ?_
               refine cS (fun h6=> ?_) (fun h6=> ?_)
               ·obtain⟨r,hr⟩:∃u_,d.ins[i]? =some u_:=⟨_,List.getElem?_eq_getElem (by omega)⟩
                have e1:dg (jc x) x (d.ins.take (i+1))=jM (jc x) x (dg (jc x) x (d.ins.take i)) r:=by rw[ao hr,mY]
                obtain⟨⟨O,b⟩,hO⟩:∃s,dg (jc x) x (d.ins.take i)=s:=⟨_,rfl⟩
                rw[hO]at e1 hlen ⊢
                dsimp only at hlen ⊢
                cases b with
                |false=>
                 refine sh ?_
                 refine aa hr ?_
                 refine sh ?_
                 refine ae.pure h.pB.E8.hb (pQ h.pB x r) rfl ?_
                 by_cases h7:lE x r<0
                 ·refine sh ?_
                  refine af (by simpa using h7) ?_
                  have e2:dg (jc x) x (d.ins.take (i+1))=(O++ [x]++ [r],true):=by rw[e1]; unfold jM; rw[if_pos ⟨rfl,by simp[jc]; omega⟩]
                  refine sh ?_
                  refine aa hr ?_
                  refine sh ?_
                  refine nX (i+1) ?_ ?_ ⟨_,hp,rfl⟩ ?_ ?_
                  ·omega
                  ·omega
                  ·refine iH ?_ ?_
                   all_goals first|(rw[e2]; done)|(rw[e2]; simp; done)
                  ·refine bj ?_
                   all_goals first|(right; simp[cN,In.row]; done)|(rw[e2]; simp[cN,In.row]; done)
                 ·refine sh ?_
                  refine ay (by simpa using h7) ?_
                  have e2:dg (jc x) x (d.ins.take (i+1))=(O++ [r],false):=by rw[e1]; unfold jM; rw[if_neg (by simp[jc]; omega)]
                  refine sh ?_
                  refine aa hr ?_
                  refine sh ?_
                  refine nX (i+1) ?_ ?_ ⟨_,hp,rfl⟩ ?_ ?_
                  ·omega
                  ·omega
                  ·refine iH ?_ ?_
                   all_goals first|(rw[e2]; done)|(rw[e2]; simp; done)
                  ·refine bj ?_
                   all_goals first|(right; simp[cN,In.row]; done)|(rw[e2]; simp[cN,In.row]; done)
                |true=>
                 have e2:dg (jc x) x (d.ins.take (i+1))=(O++ [r],true):=by rw[e1]; unfold jM; rw[if_neg (by simp)]
                 refine sh ?_
                 refine aa hr ?_
                 refine sh ?_
                 refine nX (i+1) ?_ ?_ ⟨_,hp,rfl⟩ ?_ ?_
                 ·omega
                 ·omega
                 ·refine iH ?_ ?_
                  all_goals first|(rw[e2]; done)|(rw[e2]; simp; done)
                 ·refine bj ?_
                  all_goals first|(right; simp[cN,In.row]; done)|(rw[e2]; simp[cN,In.row]; done)
               ·rw[List.take_of_length_le (by omega)]at hlen ⊢
                obtain⟨⟨O,b⟩,hO⟩:∃s,dg (jc x) x d.ins=s:=⟨_,rfl⟩
                have hL:ny (jc x) x d.ins=if b=true then O else O++ [x]:=by unfold ny; rw[hO]
                rw[hL]at hq
                rw[hO]at hlen ⊢
                dsimp only at hlen ⊢
                cases b with
                |false=>
                 rw[if_neg (by simp)]at hq
                 subst hq
                 refine sh ?_
                 refine rM [0] ?_
                 refine bj ?_
                 all_goals (simp[cN,In.row]; done)
                |true=>
                 rw[if_pos rfl]at hq
                 subst hq
                 refine sh ?_
                 exact rM [0]
         ·have Au:ca d.rows x=0:=by rw[et,if_pos k3,if_neg (by omega)]
          rw[if_neg (by rw[Au]; simp)]at hq
          have hvs:=(ok a (cJ rr).1).Dr (by omega)
          refine sh ?_
          refine cM false [0] (r5 h.zQ d x hil) ?_
          repeat (intro _; first|refine eK ?_|refine eP ?_)
          rcases oG x d.ins with⟨f1,f2⟩|⟨f1,f2⟩
          ·rw[if_pos f2]at hq
           refine sh ?_
           refine af (by simp; omega) ?_
           subst hq
           refine sh ?_
           exact rM [0]
          ·rw[if_neg (by rw[f2]; simp),rr]at hq
           rw[f1]
           refine sh ?_
           refine ay (by simp) ?_
           dsimp only at hq
           refine sh ?_
           refine aa ha2 ?_
           refine sh ?_
           refine eH 100 (fun k:Nat=>k<=a.a.m.v.length/\∀(j:Nat)(u:T3),j<k->a.a.m.v[j]? =some u->(bK x.t u).2=0) (fun k=>⟨[(0,.loc 0 1 0 0),(3,.loc 1 1 0 0),(8,.aD 3 (bW a.a.m.v)),(9,.int .i64 k)],[(0,.var (R.ty 56) [.aD 40 (gT d.rows),.aD 16 (cN d.ins)]),(1,.var (R.ty 44) x.row)],2⟩) (fun k=>a.a.m.v.length - k) (0) ?_ ?_
           ·exact⟨Nat.zero_le _,fun j u hj=>absurd hj (Nat.not_lt_zero j)⟩
           ·intro k hk
            dsimp only
            have hlen:=hvs.1
            refine sh ?_
            refine cS (fun h4=> ?_) (fun h4=> ?_)
            ·obtain⟨v,hv⟩:∃u_,a.a.m.v[k]? =some u_:=⟨_,List.getElem?_eq_getElem (by first|omega|(simp<;>omega))⟩
             refine sh ?_
             refine aa hv ?_
             refine sh ?_
             refine ae.pure h.n242.vh.hb (fj h.n242 hx (x0 (hvs.2 v (List.mem_of_getElem? hv)))) rfl ?_
             refine sh ?_
             refine cS (fun h5=> ?_) (fun h5=> ?_)
             ·rw[if_pos (by rw[j7 hv hk.2 h5]; exact h5),j7 hv hk.2 h5]at hq
              subst hq
              refine sh ?_
              exact rM [0]
             ·refine sh ?_
              refine lO (k+1) ?_ ?_
              ·refine⟨by omega,fun j u hj hu=> ?_⟩
               by_cases e:j=k
               ·subst e
                rw[hv]at hu
                cases hu
                exact h5
               ·exact hk.2 j u (by omega) hu
              ·omega
            ·rw[mV (fun j u hj=>hk.2 j u (by omega)),if_neg (by simp)]at hq
             refine sh ?_
             refine eH 100 (fun i:Nat=>i<=d.ins.length) (fun i=>⟨[(0,.loc 0 1 0 0),(3,.loc 1 1 0 0),(12,.aV 2 (dg (jc x) x (d.ins.take i)).1.length),(13,.bool (dg (jc x) x (d.ins.take i)).2),(14,.int .i64 i)],[(0,.var (R.ty 56) [.aD 40 (gT d.rows),.aD 16 (cN d.ins)]),(1,.var (R.ty 44) x.row),(2,.arr (R.ty 44) 16 (cN (dg (jc x) x (d.ins.take i)).1))],3⟩) (fun i=>d.ins.length - i) (0) ?_ ?_
             ·exact Nat.zero_le _
             ·intro i hi
              dsimp only
              have hlen:=pN (p:=jc x) (x:=x) (d.ins.take i)
              rw[List.length_take]at hlen
              refine sh ?_
              refine cS (fun h6=> ?_) (fun h6=> ?_)
              ·obtain⟨r,hr⟩:∃u_,d.ins[i]? =some u_:=⟨_,List.getElem?_eq_getElem (by omega)⟩
               have e1:dg (jc x) x (d.ins.take (i+1))=jM (jc x) x (dg (jc x) x (d.ins.take i)) r:=by rw[ao hr,mY]
               obtain⟨⟨O,b⟩,hO⟩:∃s,dg (jc x) x (d.ins.take i)=s:=⟨_,rfl⟩
               rw[hO]at e1 hlen ⊢
               dsimp only at hlen ⊢
               cases b with
               |false=>
                refine sh ?_
                refine aa hr ?_
                refine sh ?_
                refine ae.pure h.pB.E8.hb (pQ h.pB x r) rfl ?_
                by_cases h7:lE x r<0
                ·refine sh ?_
                 refine af (by simpa using h7) ?_
                 have e2:dg (jc x) x (d.ins.take (i+1))=(O++ [x]++ [r],true):=by rw[e1]; unfold jM; rw[if_pos ⟨rfl,by simp[jc]; omega⟩]
                 refine sh ?_
                 refine aa hr ?_
                 refine sh ?_
                 refine nX (i+1) ?_ ?_ ⟨_,hp,rfl⟩ ?_ ?_
                 ·omega
                 ·omega
                 ·refine iH ?_ ?_
                  all_goals first|(rw[e2]; done)|(rw[e2]; simp; done)
                 ·refine bj ?_
                  all_goals first|(right; simp[cN,In.row]; done)|(rw[e2]; simp[cN,In.row]; done)
                ·refine sh ?_
                 refine ay (by simpa using h7) ?_
                 have e2:dg (jc x) x (d.ins.take (i+1))=(O++ [r],false):=by rw[e1]; unfold jM; rw[if_neg (by simp[jc]; omega)]
                 refine sh ?_
                 refine aa hr ?_
                 refine sh ?_
                 refine nX (i+1) ?_ ?_ ⟨_,hp,rfl⟩ ?_ ?_
                 ·omega
                 ·omega
                 ·refine iH ?_ ?_
                  all_goals first|(rw[e2]; done)|(rw[e2]; simp; done)
                 ·refine bj ?_
                  all_goals first|(right; simp[cN,In.row]; done)|(rw[e2]; simp[cN,In.row]; done)
               |true=>
                have e2:dg (jc x) x (d.ins.take (i+1))=(O++ [r],true):=by rw[e1]; unfold jM; rw[if_neg (by simp)]
                refine sh ?_
                refine aa hr ?_
                refine sh ?_
                refine nX (i+1) ?_ ?_ ⟨_,hp,rfl⟩ ?_ ?_
                ·omega
                ·omega
                ·refine iH ?_ ?_
                 all_goals first|(rw[e2]; done)|(rw[e2]; simp; done)
                ·refine bj ?_
                 all_goals first|(right; simp[cN,In.row]; done)|(rw[e2]; simp[cN,In.row]; done)
              ·rw[List.take_of_length_le (by omega)]at hlen ⊢
               obtain⟨⟨O,b⟩,hO⟩:∃s,dg (jc x) x d.ins=s:=⟨_,rfl⟩
               have hL:ny (jc x) x d.ins=if b=true then O else O++ [x]:=by unfold ny; rw[hO]
               rw[hL]at hq
               rw[hO]at hlen ⊢
               dsimp only at hlen ⊢
               cases b with
               |false=>
                rw[if_neg (by simp)]at hq
                subst hq
                refine sh ?_
                refine rM [0] ?_
                refine bj ?_
                all_goals (simp[cN,In.row]; done)
               |true=>
                rw[if_pos rfl]at hq
                subst hq
                refine sh ?_
                exact rM [0]
      ·rw[ha1,uN,hc1]
       refine sh ?_
       refine ay (by simp) ?_
       refine sh ?_
       refine ay (by simp) ?_
       refine sh ?_
       refine af (by simp) ?_
       refine sh ?_
       refine cS (fun k3=> ?_) (fun k3=> ?_)
       ·have Au:ca d.rows x=11:=by unfold ca; rw[rr,OS,si]; dsimp only; rw[if_neg k3]
        rw[if_pos (by rw[Au]; simp),Au]at hq
        subst hq
        refine sh ?_
        exact rM [0]
       ·have et:ca d.rows x=if a.f.kind≠1\/ b.f.kind≠3 then 12 else 0:=by unfold ca; rw[rr,OS]; dsimp only; rw[if_pos k3]
        refine sh ?_
        refine aa ha2 ?_
        refine sh ?_
        refine cS (fun k1=> ?_) (fun k1=> ?_)
        ·rw[if_pos (by rw[et,if_pos (.inl k1)]; simp),et,if_pos (.inl k1)]at hq
         subst hq
         refine sh ?_
         exact rM [0]
        ·refine sh ?_
         refine aa TP ?_
         refine sh ?_
         refine cS (fun k2=> ?_) (fun k2=> ?_)
         ·rw[if_pos (by rw[et,if_pos (.inr k2)]; simp),et,if_pos (.inr k2)]at hq
          subst hq
          refine sh ?_
          exact rM [0]
         ·refine sh ?_
          refine ay (by simpa using k3) ?_
          have Au:ca d.rows x=0:=by rw[et,if_neg (by omega)]
          rw[if_neg (by rw[Au]; simp)]at hq
          have hvs:=(ok a (cJ rr).1).Dr (by omega)
          refine sh ?_
          refine cM false [0] (r5 h.zQ d x hil) ?_
          repeat (intro _; first|refine eK ?_|refine eP ?_)
          rcases oG x d.ins with⟨f1,f2⟩|⟨f1,f2⟩
          ·rw[if_pos f2]at hq
           refine sh ?_
           refine af (by simp; omega) ?_
           subst hq
           refine sh ?_
           exact rM [0]
          ·rw[if_neg (by rw[f2]; simp),rr]at hq
           rw[f1]
           refine sh ?_
           refine ay (by simp) ?_
           dsimp only at hq
           refine sh ?_
           refine aa ha2 ?_
           refine sh ?_
           refine eH 100 (fun k:Nat=>k<=a.a.m.v.length/\∀(j:Nat)(u:T3),j<k->a.a.m.v[j]? =some u->(bK x.t u).2=0) (fun k=>⟨[(0,.loc 0 1 0 0),(3,.loc 1 1 0 0),(8,.aD 3 (bW a.a.m.v)),(9,.int .i64 k)],[(0,.var (R.ty 56) [.aD 40 (gT d.rows),.aD 16 (cN d.ins)]),(1,.var (R.ty 44) x.row)],2⟩) (fun k=>a.a.m.v.length - k) (0) ?_ ?_
           ·exact⟨Nat.zero_le _,fun j u hj=>absurd hj (Nat.not_lt_zero j)⟩
           ·intro k hk
            dsimp only
            have hlen:=hvs.1
            refine sh ?_
            refine cS (fun h4=> ?_) (fun h4=> ?_)
            ·obtain⟨v,hv⟩:∃u_,a.a.m.v[k]? =some u_:=⟨_,List.getElem?_eq_getElem (by first|omega|(simp<;>omega))⟩
             refine sh ?_
             refine aa hv ?_
             refine sh ?_
             refine ae.pure h.n242.vh.hb (fj h.n242 hx (x0 (hvs.2 v (List.mem_of_getElem? hv)))) rfl ?_
             refine sh ?_
             refine cS (fun h5=> ?_) (fun h5=> ?_)
             ·rw[if_pos (by rw[j7 hv hk.2 h5]; exact h5),j7 hv hk.2 h5]at hq
              subst hq
              refine sh ?_
              exact rM [0]
             ·refine sh ?_
              refine lO (k+1) ?_ ?_
              ·refine⟨by omega,fun j u hj hu=> ?_⟩
               by_cases e:j=k
               ·subst e
                rw[hv]at hu
                cases hu
                exact h5
               ·exact hk.2 j u (by omega) hu
              ·omega
            ·rw[mV (fun j u hj=>hk.2 j u (by omega)),if_neg (by simp)]at hq
             refine sh ?_
             refine eH 100 (fun i:Nat=>i<=d.ins.length) (fun i=>⟨[(0,.loc 0 1 0 0),(3,.loc 1 1 0 0),(12,.aV 2 (dg (jc x) x (d.ins.take i)).1.length),(13,.bool (dg (jc x) x (d.ins.take i)).2),(14,.int .i64 i)],[(0,.var (R.ty 56) [.aD 40 (gT d.rows),.aD 16 (cN d.ins)]),(1,.var (R.ty 44) x.row),(2,.arr (R.ty 44) 16 (cN (dg (jc x) x (d.ins.take i)).1))],3⟩) (fun i=>d.ins.length - i) (0) ?_ ?_
             ·exact Nat.zero_le _
             ·intro i hi
              dsimp only
              have hlen:=pN (p:=jc x) (x:=x) (d.ins.take i)
              rw[List.length_take]at hlen
              refine sh ?_
              refine cS (fun h6=> ?_) (fun h6=> ?_)
              ·obtain⟨r,hr⟩:∃u_,d.ins[i]? =some u_:=⟨_,List.getElem?_eq_getElem (by omega)⟩
               have e1:dg (jc x) x (d.ins.take (i+1))=jM (jc x) x (dg (jc x) x (d.ins.take i)) r:=by rw[ao hr,mY]
               obtain⟨⟨O,b⟩,hO⟩:∃s,dg (jc x) x (d.ins.take i)=s:=⟨_,rfl⟩
               rw[hO]at e1 hlen ⊢
               dsimp only at hlen ⊢
               cases b with
               |false=>
                refine sh ?_
                refine aa hr ?_
                refine sh ?_
                refine ae.pure h.pB.E8.hb (pQ h.pB x r) rfl ?_
                by_cases h7:lE x r<0
                ·refine sh ?_
                 refine af (by simpa using h7) ?_
                 have e2:dg (jc x) x (d.ins.take (i+1))=(O++ [x]++ [r],true):=by rw[e1]; unfold jM; rw[if_pos ⟨rfl,by simp[jc]; omega⟩]
                 refine sh ?_
                 refine aa hr ?_
                 refine sh ?_
                 refine nX (i+1) ?_ ?_ ⟨_,hp,rfl⟩ ?_ ?_
                 ·omega
                 ·omega
                 ·refine iH ?_ ?_
                  all_goals first|(rw[e2]; done)|(rw[e2]; simp; done)
                 ·refine bj ?_
                  all_goals first|(right; simp[cN,In.row]; done)|(rw[e2]; simp[cN,In.row]; done)
                ·refine sh ?_
                 refine ay (by simpa using h7) ?_
                 have e2:dg (jc x) x (d.ins.take (i+1))=(O++ [r],false):=by rw[e1]; unfold jM; rw[if_neg (by simp[jc]; omega)]
                 refine sh ?_
                 refine aa hr ?_
                 refine sh ?_
                 refine nX (i+1) ?_ ?_ ⟨_,hp,rfl⟩ ?_ ?_
                 ·omega
                 ·omega
                 ·refine iH ?_ ?_
                  all_goals first|(rw[e2]; done)|(rw[e2]; simp; done)
                 ·refine bj ?_
                  all_goals first|(right; simp[cN,In.row]; done)|(rw[e2]; simp[cN,In.row]; done)
               |true=>
                have e2:dg (jc x) x (d.ins.take (i+1))=(O++ [r],true):=by rw[e1]; unfold jM; rw[if_neg (by simp)]
                refine sh ?_
                refine aa hr ?_
                refine sh ?_
                refine nX (i+1) ?_ ?_ ⟨_,hp,rfl⟩ ?_ ?_
                ·omega
                ·omega
                ·refine iH ?_ ?_
                 all_goals first|(rw[e2]; done)|(rw[e2]; simp; done)
                ·refine bj ?_
                 all_goals first|(right; simp[cN,In.row]; done)|(rw[e2]; simp[cN,In.row]; done)
              ·rw[List.take_of_length_le (by omega)]at hlen ⊢
               obtain⟨⟨O,b⟩,hO⟩:∃s,dg (jc x) x d.ins=s:=⟨_,rfl⟩
               have hL:ny (jc x) x d.ins=if b=true then O else O++ [x]:=by unfold ny; rw[hO]
               rw[hL]at hq
               rw[hO]at hlen ⊢
               dsimp only at hlen ⊢
               cases b with
               |false=>
                rw[if_neg (by simp)]at hq
                subst hq
                refine sh ?_
                refine rM [0] ?_
                refine bj ?_
                all_goals (simp[cN,In.row]; done)
               |true=>
                rw[if_pos rfl]at hq
                subst hq
                refine sh ?_
                exact rM [0]
     ·rw[ha1,uN]
      have Au:ca d.rows x=11:=by unfold ca; rw[rr,OS]
      rw[if_pos (by rw[Au]; simp),Au]at hq
      refine sh ?_
      refine ay (by simp) ?_
      refine sh ?_
      refine af (by simp) ?_
      subst hq
      refine sh ?_
      exact rM [0]
    ·rw[ha1]
     have Au:ca d.rows x=11:=by unfold ca; rw[rr]
     rw[if_pos (by rw[Au]; simp),Au]at hq
     refine sh ?_
     refine af (by simp) ?_
     subst hq
     refine sh ?_
     exact rM [0]
end Go.UM
namespace Go.UM
open Go.AM Go.RowKit Go.Proofs
def Jc(P:Program)(f:Nat):Prop:=∀(b:Nat)(es:Array MapEntry)(ck:Nat)(w:World),w.heap[b]? =some (.map es ck)->Calls P f #[.map (some b)] w fun e w'=>e= .returned (.map (some w.heap.size))/\w'=w.alloc (.map es ck)
theorem Av{R:Env}{g:Nat}(hb:cZ R.P (R.ft g))(CL:Jc R.P (R.ft g))(k:Nat)(ka va d:Bool)(sz:Nat)(es:List (List AV)):
  R.Mc g [.omap 0] [(0,.map k ka va d sz es)] (.omap 1) [(0,.map k ka va d sz es),(1,.map k ka va d sz es)] 2:=by
 refine⟨hb,fun w I ρ vs hW hr=> ?_,rfl⟩
 have W:=hW 0
 obtain⟨hvl,hr⟩:=hr
 obtain⟨v0,rfl⟩:∃v0,vs=[v0]:=by
  match vs,hvl with
  |[a],_=>exact⟨a,rfl⟩
 have r0:=hr 0 (by simp)
 have r0:aP ρ _ I w (· <1) (.omap 0) v0:=r0
 have Yf:ab (az [(0,bP.map k ka va d sz es)]) 0=some ⟨0,sz,es,some (k,ka,va,d)⟩:=rfl
 obtain⟨gm,cm,hρ,rfl⟩:∃gm cm,ρ 0=some (gm,cm)/\v0= .map (some gm):=by
  cases r0 with
  |omap _ _ _ _ h=>exact h sz (by rw[aC]; exact⟨_,Yf,rfl,rfl⟩)
 have B:=W.bf 0 _ Yf
 obtain⟨cs,fr,qp,oc,hI,Ni,hlen,hcap,hcs,hcell⟩:=B.real gm cm hρ
 obtain⟨en,ck,hg,hs,MC⟩:=qp
 refine (CL gm en ck w hg).mono ?_
 rintro e w' ⟨rfl,rfl⟩
 refine⟨_,rfl,?_⟩
 obtain⟨E1,W1⟩:=W.put (w':=w.alloc (.map en ck)) 1 ⟨0,sz,es,some (k,ka,va,d)⟩ w.heap.size cm cs fr rfl rfl rfl (by simp) (fun k hk _=>Below.heap_alloc w _ k hk)
  ⟨en,ck,heap_alloc_new w _,hs,MC⟩ oc (.inl (Nat.le_refl _)) (fun b0 h0=>by have h0:(Option.none:Option bD)=some b0:=h0; cases h0) (fun h=>absurd h (Nat.lt_irrefl 1)) B.even hlen hcap hcs hcell
 have e1:dc (ab (az [(0,bP.map k ka va d sz es)])) 1 ⟨0,sz,es,some (k,ka,va,d)⟩=ab (az [(0,bP.map k ka va d sz es),(1,bP.map k ka va d sz es)]):=by
  funext m
  by_cases hm:m=1
  ·subst hm; rfl
  ·have:(m==1)=false:=by simpa using hm
   simp[dc,hm,az,ab,this]
 rw[e1]at W1
 refine⟨_,I,0,W1.nL (fun m hm=>by rcases hm with rfl|hm; exact Nat.lt_succ_self 1; exact Nat.lt_succ_of_lt hm),?_⟩
 exact qR (cap:=cm) (Nat.lt_succ_self 1) (by simp[iW])
end Go.UM
namespace Go.UM
open Go.AM
set_option maxRecDepth 4000
def rJ:As:=⟨3,⟨[],[],[]⟩,⟨0,[]⟩,⟨0,z3,0⟩,⟨0,z3,z3,z3,z3⟩⟩
def mf3:Mf:=⟨0,3,0,0,0,0,0,0,0,0,0,0,0,0,0⟩
theorem DD:dK rJ=0:=by decide
def t5:Tb:=⟨[⟨5,mf3,rJ⟩],[]⟩
theorem w1:gY ⟨[],[]⟩ 5 mf3 rJ=(t5,0):=by unfold gY; rw[DD]; rfl
theorem w2:gY t5 5 mf3 rJ=(t5,10):=rfl
theorem w3:fR t5 5=(⟨[],[]⟩,0):=rfl
def Cq(l:List Ac):List (List AV):=l.map Ac.row
@[simp] theorem Aw(l:List Ac):(Cq l).length=l.length:=by simp[Cq]
instance {l:List Ac}:iU (Cq l) l.length:=⟨Aw l⟩
theorem jd(l:List In):(cQ l).length=l.length:=by simp[cQ]
theorem Jd(c:Ac):c.lB.a.x.t.length<=1000:=by simp[Ac.lB,As.lB]; omega
theorem Yh(c:Ac):c.lB.a.bare.Gh:=by
 have h1:c.lB.a.m.v.length<=70:=by simp[Ac.lB,As.lB,Ms.lB]; omega
 have h2:c.lB.a.m.uv.length<=70:=by simp[Ac.lB,As.lB,Ms.lB]; omega
 have h3:c.lB.a.m.t.length<=70:=by simp[Ac.lB,As.lB,Ms.lB]; omega
 have h4:c.lB.a.x.t.length<=260:=by simp[Ac.lB,As.lB]; omega
 generalize c.lB.a=a at h1 h2 h3 h4
 unfold As.bare
 refine⟨?_,?_,?_,?_⟩<;>repeat' split
 all_goals first|omega|(dsimp only; omega)|simp[vn,zTx]
end Go.UM
namespace Go.UM
open Go.AM
set_option maxRecDepth 4000
def kr(t:Tb):Tb:=⟨bv t.rows,cQ t.ins⟩
def SK(t:Tb)(c:Ac):Tb × Int:=if c.k=0 then wP t c.h c.f c.a else if c.k=1 then mZ t c.h else if c.k=2 then FW t c.i else wR t c.i
theorem MH{R:Env}(h:Q1 R)(d:Tb)(c:Ac)(ok:∀r ∈ d.rows,fA r)(fa:c.a.Gh)(hx:c.i.t.I)(hl:d.rows.length<=1000000)(hi:d.ins.length<=1000000):
  R.Mc 432 [.loc 0 1 0 0,.agg c.row] (iq R d) (.int .i64 (SK d c).2) (iq R (SK d c).1) 1:=
 h.ab9.aY 100 1 rfl rfl rfl fun X bb hfit hp=>by
  generalize hq:SK d c=q
  unfold SK at hq
  unfold iq
  refine sh ?_
  refine cS (fun k0=> ?_) (fun k0=> ?_)
  ·rw[if_pos k0]at hq
   subst hq
   refine sh ?_
   refine cM false [0] (MF h.Q2 d c.h c.f c.a fa hl) ?_
   repeat (intro _; first|refine eK ?_|refine eP ?_)
   refine sh ?_
   exact rM [0]
  ·rw[if_neg k0]at hq
   refine sh ?_
   refine cS (fun k1=> ?_) (fun k1=> ?_)
   ·rw[if_pos k1]at hq
    subst hq
    refine sh ?_
    refine cM false [0] (FV h.Q3 d c.h hl hi) ?_
    repeat (intro _; first|refine eK ?_|refine eP ?_)
    refine sh ?_
    exact rM [0]
   ·rw[if_neg k1]at hq
    refine sh ?_
    refine cS (fun k2=> ?_) (fun k2=> ?_)
    ·rw[if_pos k2]at hq
     subst hq
     refine sh ?_
     refine cM false [0] (R4 h.Q4 d c.i ok hx hl hi) ?_
     repeat (intro _; first|refine eK ?_|refine eP ?_)
     refine sh ?_
     exact rM [0]
    ·rw[if_neg k2]at hq
     subst hq
     refine sh ?_
     refine cM false [0] (MG h.Q5 d c.i hi) ?_
     repeat (intro _; first|refine eK ?_|refine eP ?_)
     refine sh ?_
     exact rM [0]
theorem yg{l:List Rw}{h:Int}(e:(be l h).isSome≠true):∀r ∈ l,r.h≠h:=fun r hr k=>by
 apply e
 unfold be
 rw[List.find?_isSome]
 exact⟨r,hr,by simpa using k⟩
theorem Ax{l:List Rw}(rd:l.Pairwise fun a b=>a.h≠b.h)(x:In):ca (bv l) x=ca l x:=by
 unfold ca
 rw[gl rd,gl rd,gl rd]
theorem R5{t:Tb}{n:Nat}(ok:jE t n)(c:Ac):SK (kr t) c=(kr (Cl t c).1,(Cl t c).2):=by
 unfold SK Cl
 split
 ·unfold wP gY kr
  dsimp only
  rw[gl ok.rd]
  split
  ·rfl
  ·split
   ·rfl
   ·rename_i k
    split
    ·rfl
    ·split
     ·rfl
     ·dsimp only
      rw[FT (by
       rw[List.pairwise_append]
       exact⟨ok.rd,by simp,fun r hr q hq=>by simp only[List.mem_singleton]at hq; subst hq; exact yg k r hr⟩)]
 ·split
  ·unfold mZ fR kr
   dsimp only
   rw[gl ok.rd]
   split
   ·dsimp only
    rw[Ap ok.rd,ye ok.nd]; rfl
   ·rfl
  ·split
   ·unfold FW kp kr
    dsimp only
    rw[Ax ok.rd,gl ok.rd,uy ok.nd]
    split
    ·rfl
    ·split
     ·rfl
     ·split
      ·rfl
      ·rename_i k
       cases be t.rows c.i.bc with
       |none=>rfl
       |some r=>
        dsimp only
        split
        ·rfl
        ·dsimp only
         rw[FU (by
          rw[List.pairwise_append]
          refine⟨ok.nd,by simp,fun y hy q hq=> ?_⟩
          simp only[List.mem_singleton]at hq
          subst hq
          rw[oB]
          cases hs:bt c.i y with
          |false=>rfl
          |true=>
           exfalso
           apply k
           unfold eG
           rw[List.find?_isSome]
           exact⟨y,hy,hs⟩)]
   ·unfold wR mE kr
    dsimp only
    rw[uy ok.nd]
    split
    ·dsimp only
     rw[Aq ok.nd]
    ·rfl
structure SL(R:Env):Prop where
 r:∀(d:Bool)(es:List (List AV)),R.Mc 439 [.omap 0] [(0,.map 1 false true d 41 es)] (.omap 1) [(0,.map 1 false true d 41 es),(1,.map 1 false true d 41 es)] 2
 i:∀(d:Bool)(es:List (List AV)),R.Mc 440 [.omap 0] [(0,.map 4 true true d 16 es)] (.omap 1) [(0,.map 4 true true d 16 es),(1,.map 4 true true d 16 es)] 2
theorem Je{R:Env}(h:H1 R)(C:SL R)(d1 d2:Bool)(t:Tb):
  R.Mc 430 [.loc 2 1 0 0] (eb R d1 d2 t) (.loc 5 1 0 0) (eb R d1 d2 t++ [(3,.map 1 false true d1 41 (iI t.rows)),(4,.map 4 true true d2 16 (cN t.ins)),(5,.var (R.ty 47) [.omap 3,.omap 4])]) 6:=
 h.Qg.aY 100 3 rfl rfl rfl fun X bb hfit hp=>by
  unfold eb
  refine sh ?_
  refine cM false [0,1,2] (lD h.ja d1 d2 t) ?_
  repeat (intro _; first|refine eK ?_|refine eP ?_)
  refine sh ?_
  refine cM false [0] (C.r d1 (iI t.rows)) ?_
  repeat (intro _; first|refine eK ?_|refine eP ?_)
  refine sh ?_
  refine cM false [1] (C.i d2 (cN t.ins)) ?_
  repeat (intro _; first|refine eK ?_|refine eP ?_)
  refine sh ?_
  exact rM [0,1,2,3,4,5]
abbrev yi(R:Env):ah:=[(0,.var (R.ty 47) [.cj,.cj])]
theorem MI{R:Env}(h:tH R):R.Mc 355 [.loc 0 1 0 0] (yi R) (.bool true) (yi R) 1:=
 h.Lf.aY 60 1 rfl rfl rfl fun X bb hfit hp=>by
  unfold yi
  refine sh ?_
  exact rM [0]
theorem MJ{R:Env}(h:tH R):R.Pc 355 [.bM] (.bool true):=
 h.Lf.enter 60 rfl fun X bb hfit hp=>by
  refine sh ?_
  exact rT
theorem MK{R:Env}(h:H1 R):R.Mc 430 [.bM] [] .bM [] 0:=
 h.Qg.aY 60 0 rfl rfl rfl fun X bb hfit hp=>by
  refine sh ?_
  refine ae.pure h.ja.Lf.hb (MJ h.ja) rfl ?_
  refine sh ?_
  exact rM []
end Go.UM
namespace Go.UM
open Go.AM
set_option maxRecDepth 4000
def kV(l:List T3):List Int:=l.flatMap fun t=>[t.a,t.b,t.c]
theorem bY(l:List T3):(kV l).length=3*l.length:=by
 induction l with
 |nil=>rfl
 |cons x r ih=>simp[kV]at ih ⊢; omega
theorem uA{l:List T3}{k:Nat}{x:T3}(h:l[k]? =some x):kV (l.take (k+1))=kV (l.take k)++ [x.a,x.b,x.c]:=by
 unfold kV; rw[ao h]; simp
end Go.UM
namespace Go.UM
open Go.AM
set_option maxRecDepth 4000
def e8(x:Int):List UInt8:=enc 8 (x % 18446744073709551616)
def aJ(n:List Int):List UInt8:=n.flatMap e8
theorem Cr(x:Int):(e8 x).length=8:=by simp[e8,enc]
theorem aK(n:List Int):(aJ n).length=8*n.length:=by
 induction n with
 |nil=>rfl
 |cons x r ih=>simp only[aJ,List.flatMap_cons,List.length_append,List.length_cons]at ih ⊢; rw[ih,Cr]; omega
theorem r6(a b:List Int):aJ (a++b)=aJ a++aJ b:=by simp[aJ]
theorem Jf{b:List UInt8}{n:List Int}(h:∀x ∈ n,aR .i64 x):gX b 8 n=(b++aJ n,0):=by
 rw[pI (by decide) (by decide) (by
  rw[List.any_eq_false]
  intro x hx
  have:=h x hx
  simp only[aR]at this
  simp
  omega),rX (by decide) (by decide) (by
  intro x hx
  obtain⟨y,_,rfl⟩:=List.mem_map.1 hx
  simp
  omega)]
 congr 1
 rw[List.flatMap_map]
 rfl
theorem Jg{R:Env}(h:PI R)(x:Int)(hx:aR .i64 x):R.Mc 71 [.aD 1 (aT []),.int .i64 8,.aD 1 (bp .i64 [x])] [] (.aQ [.aV 0 (e8 x).length,.int .i64 0]) [(0,.arr (R.ty 4) 1 (aT (e8 x)))] 1:=by
 have c:=tV h [] 8 [x] (by simp) (by simpa using hx)
 rw[Jf (by simpa using hx)]at c
 simpa[aJ]using c
theorem dR{R:Env}(h:H2 R)(b:List UInt8)(n:List Int)(hb:b.length<=1000000)(hn:n.length<=1000)(hi:∀x ∈ n,aR .i64 x):
  R.Mc 508 [.loc 0 1 0 0,.aD 1 (bp .i64 n)] [(0,.var (R.ty 62) [.aV 1 b.length]),(1,.arr (R.ty 4) 1 (aT b))] (.aQ []) [(0,.var (R.ty 62) [.aV 1 (b++aJ n).length]),(1,.arr (R.ty 4) 1 (aT (b++aJ n)))] 2:=
 h.Ws.aY 100 2 rfl rfl rfl fun X bb hfit hp=>by
  refine sh ?_
  refine aj.inv 100 (fun k:Nat=>k<=n.length) (fun k=>⟨[(0,.loc 0 1 0 0),(8,.aD 1 (bp .i64 n)),(9,.int .i64 n.length),(10,.int .i64 k)],[(0,.var (R.ty 62) [.aV 1 (b++aJ (n.take k)).length]),(1,.arr (R.ty 4) 1 (aT (b++aJ (n.take k))))],2⟩) (fun k=>n.length - k) (0) ?_ ⟨⟨_,hp,rfl⟩,?_,?_⟩ ?_
  ·exact Nat.zero_le _
  ·exact fu
   all_goals simp[aJ]
  ·refine iH ?_ ?_
   all_goals simp[aJ]
  ·intro k hk
   dsimp only
   refine sh ?_
   refine cS (fun h1=> ?_) (fun h1=> ?_)
   ·obtain⟨x,hx⟩:∃u_,n[k]? =some u_:=⟨_,List.getElem?_eq_getElem (by first|omega|(simp<;>omega))⟩
    refine sh ?_
    refine aa hx ?_
    have N7:=hi x (List.mem_of_getElem? hx)
    refine sh ?_
    refine cM true [] (Jg h.JQ x N7) ?_
    repeat (intro _; first|refine eK ?_|refine eP ?_)
    have e1:aJ (n.take (k+1))=aJ (n.take k)++e8 x:=by rw[ao hx,r6]; simp[aJ]
    have e2:=aK (n.take k)
    have e3:=Cr x
    rw[List.length_take]at e2
    generalize aJ (n.take k)=C at e1 e2 ⊢
    refine sh ?_
    refine uP [0,1] (k+1) ?_ ?_ ?_
    ·omega
    ·omega
    ·refine iH ?_ ?_
     all_goals (rw[e1]; simp)
   ·rw[List.take_of_length_le (by omega)]
    refine sh ?_
    exact rM [0,1]
theorem ML{R:Env}(h:H2 R)(x:Int)(hx:aR .i64 x):
  R.Mc 508 [.loc 0 1 0 0,.aD 1 (bp .i64 [x])] [(0,.var (R.ty 62) [.ai])] (.aQ []) [(0,.var (R.ty 62) [.aV 1 (aJ [x]).length]),(1,.arr (R.ty 4) 1 (aT (aJ [x])))] 2:=
 h.Ws.aY 100 1 rfl rfl rfl fun X bb hfit hp=>by
  have e3:=Cr x
  have e4:aJ [x]=e8 x:=by simp[aJ]
  rw[e4]
  refine sh ?_
  refine aj.one 100 ?_
  refine sh ?_
  refine af (by rfl) ?_
  obtain⟨y,hy⟩:∃u_,[x][0]? =some u_:=⟨_,List.getElem?_eq_getElem (by first|omega|(simp<;>omega))⟩
  refine sh ?_
  refine aa hy ?_
  obtain rfl:y=x:=by simpa using hy.symm
  refine sh ?_
  refine cM true [] (Jg h.JQ y hx) ?_
  repeat (intro _; first|refine eK ?_|refine eP ?_)
  refine sh ?_
  refine aj.one 100 ?_
  refine sh ?_
  refine ay (by rfl) ?_
  refine sh ?_
  exact rM [0,3]
theorem Ay{R:Env}(h:Qs R)(b:List UInt8)(l:List T3)(hb:b.length<=900000)(hn:l.length<=100)(hi:∀t ∈ l,aR .i64 t.a/\aR .i64 t.b/\aR .i64 t.c):
  R.Mc 509 [.loc 0 1 0 0,.aD 3 (bW l)] [(0,.var (R.ty 62) [.aV 1 b.length]),(1,.arr (R.ty 4) 1 (aT b))] (.aQ []) [(0,.var (R.ty 62) [.aV 1 (b++aJ (kV l)).length]),(1,.arr (R.ty 4) 1 (aT (b++aJ (kV l))))] 2:=
 h.abW.aY 100 2 rfl rfl rfl fun X bb hfit hp=>by
  refine sh ?_
  refine aj.inv 100 (fun k:Nat=>k<=l.length) (fun k=>⟨[(0,.loc 0 1 0 0),(6,.aD 3 (bW l)),(7,.int .i64 l.length),(8,.int .i64 k)],[(0,.var (R.ty 62) [.aV 1 (b++aJ (kV (l.take k))).length]),(1,.arr (R.ty 4) 1 (aT (b++aJ (kV (l.take k)))))],2⟩) (fun k=>l.length - k) (0) ?_ ⟨⟨_,hp,rfl⟩,?_,?_⟩ ?_
  ·exact Nat.zero_le _
  ·exact fu
   all_goals simp[aJ,kV]
  ·refine iH ?_ ?_
   all_goals simp[aJ,kV]
  ·intro k hk
   dsimp only
   refine sh ?_
   refine cS (fun h1=> ?_) (fun h1=> ?_)
   ·obtain⟨x,hx⟩:∃u_,l[k]? =some u_:=⟨_,List.getElem?_eq_getElem (by first|omega|(simp<;>omega))⟩
    refine sh ?_
    refine aa hx ?_
    obtain⟨i1,i2,i3⟩:=hi x (List.mem_of_getElem? hx)
    have e1:=uA hx
    have e2:=aK (kV (l.take k))
    rw[bY,List.length_take]at e2
    have rF:(b++aJ (kV (l.take k))).length<=1000000:=by rw[List.length_append]; omega
    refine sh ?_
    refine cM true [0,1] (dR h.iO (b++aJ (kV (l.take k))) [x.a,x.b,x.c] rF (by simp) (by simpa using⟨i1,i2,i3⟩)) ?_
    repeat (intro _; first|refine eK ?_|refine eP ?_)
    refine sh ?_
    refine uP [0,1] (k+1) ?_ ?_ ?_
    ·omega
    ·omega
    ·refine iH ?_ ?_
     all_goals (rw[e1,r6]; simp)
   ·rw[List.take_of_length_le (by omega)]
    refine sh ?_
    exact rM [0,1]
end Go.UM
namespace Go.UM
open Go.AM
set_option maxRecDepth 4000
structure j8 where
 (p q r:T3)
 (ua ub va vb wa wb dp cw obj gv:Int)
def j8.row(t:j8):List AV:=[.int .i64 t.p.a,.int .i64 t.p.b,.int .i64 t.p.c,.int .i64 t.q.a,.int .i64 t.q.b,.int .i64 t.q.c,.int .i64 t.r.a,.int .i64 t.r.b,.int .i64 t.r.c,
 .int .i64 t.ua,.int .i64 t.ub,.int .i64 t.va,.int .i64 t.vb,.int .i64 t.wa,.int .i64 t.wb,.int .i64 t.dp,.int .i64 t.cw,.int .i64 t.obj,.int .u8 t.gv]
def j8.ap(t:j8):List Int:=kV [t.p,t.q,t.r]++ [t.ua,t.ub]++ [t.va,t.vb]++ [t.wa,t.wb]++ [t.dp,t.cw,t.obj,t.gv]
structure j8.Ok(t:j8):Prop where
 p:aR .i64 t.p.a/\aR .i64 t.p.b/\aR .i64 t.p.c
 q:aR .i64 t.q.a/\aR .i64 t.q.b/\aR .i64 t.q.c
 r:aR .i64 t.r.a/\aR .i64 t.r.b/\aR .i64 t.r.c
 u:aR .i64 t.ua/\aR .i64 t.ub
 v:aR .i64 t.va/\aR .i64 t.vb
 w:aR .i64 t.wa/\aR .i64 t.wb
 m:aR .i64 t.dp/\aR .i64 t.cw/\aR .i64 t.obj/\aR .u8 t.gv
def oH(l:List j8):List (List AV):=l.map j8.row
@[simp] theorem Az(l:List j8):(oH l).length=l.length:=by simp[oH]
@[simp] theorem Yi(l:List j8):ox (oH l):=by simp[oH,j8.row]
instance {l:List j8}:iU (oH l) l.length:=⟨Az l⟩
def gP(l:List fk):List (List AV):=l.map fk.row
@[simp] theorem yj(l:List fk):(gP l).length=l.length:=by simp[gP]
@[simp] theorem SM(l:List fk):ox (gP l):=by simp[gP,fk.row]
instance {l:List fk}:iU (gP l) l.length:=⟨yj l⟩
def gQ(l:List eV):List (List AV):=l.map eV.row
@[simp] theorem yk(l:List eV):(gQ l).length=l.length:=by simp[gQ]
@[simp] theorem SN(l:List eV):ox (gQ l):=by simp[gQ,eV.row]
instance {l:List eV}:iU (gQ l) l.length:=⟨yk l⟩
def gn(l:List dN):List (List AV):=l.map dN.row
@[simp] theorem yn(l:List dN):(gn l).length=l.length:=by simp[gn]
@[simp] theorem SO(l:List dN):ox (gn l):=by simp[gn,dN.row]
instance {l:List dN}:iU (gn l) l.length:=⟨yn l⟩
structure cV where
 aS:List j8
 bw:List fk
 aW:List dN
 bG:List eV
 ids:List Int
 bL:List Int
 (nz fr to:Int)
def cV.row(s:cV):List AV:=[.aD 19 (oH s.aS),.aD 5 (gP s.bw),.aD 2 (gn s.aW),.aD 13 (gQ s.bG),.aD 1 (bp .u64 s.ids),.aD 1 (bp .u32 s.bL),.int .u32 s.nz,.int .u32 s.fr,.int .u32 s.to]
def fk.ap(m:fk):List Int:=[m.k]++ [m.c.a,m.c.b,m.c.c]++ [m.r]
def dN.ap(t:dN):List Int:=[t.side,(t.t.length:Int)]++kV t.t
def eV.ap(l:eV):List Int:=[l.k]++ [l.c.a,l.c.b,l.c.c]++kV [l.p,l.u,l.v]
def AA{α:Type}(l:List α)(f:α->List Int):List Int:=(l.length:Int)::l.flatMap f
def cV.ap(s:cV):List Int:=AA s.aS j8.ap++AA s.bw fk.ap++AA s.aW dN.ap++AA s.bG eV.ap++AA s.ids (fun x=>[wr .i64 x])++AA s.bL (fun x=>[x])++ [s.nz,s.fr,s.to]
structure cV.Ok(s:cV):Prop where
 nt:s.aS.length<=2000
 nm:s.bw.length<=100
 nx:s.aW.length<=30/\∀t ∈ s.aW,t.t.length<=300
 nl:s.bG.length<=100
 ni:s.ids.length<=100
 nb:s.bL.length<=100
 t:∀t ∈ s.aS,t.Ok
 m:∀m ∈ s.bw,∀x ∈ m.ap,aR .i64 x
 x:∀t ∈ s.aW,∀x ∈ t.ap,aR .i64 x
 l:∀t ∈ s.bG,∀x ∈ t.ap,aR .i64 x
 i:∀x ∈ s.ids,aR .u64 x
 b:∀x ∈ s.bL,aR .u32 x
 e:aR .u32 s.nz/\aR .u32 s.fr/\aR .u32 s.to
theorem cb{α:Type}(f:α->List Int)(c:Nat):∀l:List α,(∀x ∈ l,(f x).length<=c)->(l.flatMap f).length<=c*l.length
 |[],_=>by simp
 |x::r,h=>by
  have h1:=h x (by simp)
  have h2:=cb f c r fun y hy=>h y (by simp[hy])
  rw[List.flatMap_cons,List.length_append,List.length_cons,Nat.mul_add]
  omega
theorem c8{α:Type}{f:α->List Int}{l:List α}{k:Nat}{x:α}(h:l[k]? =some x):(l.take (k+1)).flatMap f=(l.take k).flatMap f++f x:=by
 rw[ao h,List.flatMap_append]; simp
theorem mB(x:Int):aR .i64 (wr .i64 x):=by
 simp only[aR,wr,IntKind.wrap,IntKind.bits,IntKind.signed]
 simp
 omega
set_option maxHeartbeats 2000000 in
theorem wS{R:Env}(h:Qt R)(s:cV)(ok:s.Ok):R.Pc 499 [.agg s.row] (.aD 1 (aT (aJ s.ap))):=
 h.Qu.enter 300 rfl fun X bb hfit hp=>by
  have nt:=ok.nt
  have hl:aR .i64 (s.aS.length:Int):=by simp only[aR]; omega
  refine sh ?_
  refine cM true [1] (ML h.iO (s.aS.length:Int) hl) ?_
  repeat (intro _; first|refine eK ?_|refine eP ?_)
  refine sh ?_
  refine eH 200 (fun k:Nat=>k<=s.aS.length) (fun k=>⟨[(1,.loc 0 1 0 0),(3,.loc 1 1 0 0),(29,.aD 19 (oH s.aS)),(30,.int .i64 s.aS.length),(31,.int .i64 k)],[(0,.var (R.ty 59) s.row),(1,.var (R.ty 62) [.aV 3 (aJ ((s.aS.length:Int)::(s.aS.take k).flatMap j8.ap)).length]),(3,.arr (R.ty 4) 1 (aT (aJ ((s.aS.length:Int)::(s.aS.take k).flatMap j8.ap))))],4⟩) (fun k=>s.aS.length - k) (0) ?_ ?_
  ·exact Nat.zero_le _
  ·intro k hk
   dsimp only
   refine sh ?_
   refine cS (fun h1=> ?_) (fun h1=> ?_)
   ·obtain⟨x,hx⟩:∃u_,s.aS[k]? =some u_:=⟨_,List.getElem?_eq_getElem (by first|omega|(simp<;>omega))⟩
    refine sh ?_
    refine aa hx ?_
    have eU:=ok.t x (List.mem_of_getElem? hx)
    have e1:=c8 (f:=j8.ap) hx
    have e2:=cb j8.ap 19 (s.aS.take k) fun _ _=>Nat.le_refl _
    rw[List.length_take]at e2
    generalize hC:(s.aS.take k).flatMap j8.ap=C at e1 e2 ⊢
    have e3:=aK ((s.aS.length:Int)::C)
    rw[List.length_cons]at e3
    refine sh ?_
    refine cM true [1,3] (Ay h.Ls (aJ ((s.aS.length:Int)::C)) [x.p,x.q,x.r] (by omega) (by simp) (by simpa using⟨eU.p,eU.q,eU.r⟩)) ?_
    repeat (intro _; first|refine eK ?_|refine eP ?_)
    have f0:=aK (kV [x.p,x.q,x.r])
    rw[bY]at f0
    have f1:(aJ ((s.aS.length:Int)::C)++aJ (kV [x.p,x.q,x.r])).length<=900000:=by rw[List.length_append]; simp only[List.length_cons,List.length_nil]at f0; omega
    generalize hB:aJ ((s.aS.length:Int)::C)++aJ (kV [x.p,x.q,x.r])=B at f1 ⊢
    refine sh ?_
    refine aj.one 100 ?_
    refine sh ?_
    refine af (by decide) ?_
    refine sh ?_
    refine cM true [1,3] (dR h.iO B [x.ua,x.ub] (by omega) (by simp) (by simpa using eU.u)) ?_
    repeat (intro _; first|refine eK ?_|refine eP ?_)
    refine sh ?_
    refine aj.one 100 ?_
    refine sh ?_
    refine af (by decide) ?_
    have l1:=aK [x.ua,x.ub]
    have f2:(B++aJ [x.ua,x.ub]).length<=910000:=by rw[List.length_append,l1]; simp only[List.length_cons,List.length_nil]; omega
    refine sh ?_
    refine cM true [1,3] (dR h.iO (B++aJ [x.ua,x.ub]) [x.va,x.vb] (by omega) (by simp) (by simpa using eU.v)) ?_
    repeat (intro _; first|refine eK ?_|refine eP ?_)
    refine sh ?_
    refine aj.one 100 ?_
    refine sh ?_
    refine af (by decide) ?_
    have l2:=aK [x.va,x.vb]
    have f3:(B++aJ [x.ua,x.ub]++aJ [x.va,x.vb]).length<=920000:=by rw[List.length_append,l2]; simp only[List.length_cons,List.length_nil]; omega
    refine sh ?_
    refine cM true [1,3] (dR h.iO (B++aJ [x.ua,x.ub]++aJ [x.va,x.vb]) [x.wa,x.wb] (by omega) (by simp) (by simpa using eU.w)) ?_
    repeat (intro _; first|refine eK ?_|refine eP ?_)
    refine sh ?_
    refine aj.one 100 ?_
    refine sh ?_
    refine ay (by decide) ?_
    have l3:=aK [x.wa,x.wb]
    have f4:(B++aJ [x.ua,x.ub]++aJ [x.va,x.vb]++aJ [x.wa,x.wb]).length<=930000:=by rw[List.length_append,l3]; simp only[List.length_cons,List.length_nil]; omega
    have hm:=eU.m
    have hm8:0<=x.gv/\x.gv<=255:=by have:=hm.2.2.2; simp only[aR]at this; omega
    have hmk:aR .i64 x.gv:=by have:=hm.2.2.2; simp only[aR]at this ⊢; omega
    refine sh ?_
    refine cM true [1,3] (dR h.iO (B++aJ [x.ua,x.ub]++aJ [x.va,x.vb]++aJ [x.wa,x.wb]) [x.dp,x.cw,x.obj,x.gv] (by omega) (by simp) (by simpa using⟨hm.1,hm.2.1,hm.2.2.1,hmk⟩)) ?_
    repeat (intro _; first|refine eK ?_|refine eP ?_)
    have e5:aJ ((s.aS.length:Int)::(C++x.ap))=B++aJ [x.ua,x.ub]++aJ [x.va,x.vb]++aJ [x.wa,x.wb]++aJ [x.dp,x.cw,x.obj,x.gv]:=by
     rw[<-hB]; simp[aJ,j8.ap]
    refine sh ?_
    refine uP [0,1,2,3] (k+1) ?_ ?_ ?_
    ·omega
    ·omega
    ·refine iH ?_ ?_
     all_goals (rw[e1,e5]; try simp)
   ·rw[List.take_of_length_le (by omega)]
    clear hk h1
    have hA0:(aJ ((s.aS.length:Int)::s.aS.flatMap j8.ap)).length<=310000:=by
     have:=cb j8.ap 19 s.aS fun _ _=>Nat.le_refl _
     rw[aK,List.length_cons]; omega
    generalize R6:aJ ((s.aS.length:Int)::s.aS.flatMap j8.ap)=A0 at hA0 ⊢
    have n1:=ok.nm
    have uY:aR .i64 (s.bw.length:Int):=by simp only[aR]; omega
    refine sh ?_
    refine cM true [1,3] (dR h.iO A0 [(s.bw.length:Int)] (by omega) (by simp) (by simpa using uY)) ?_
    repeat (intro _; first|refine eK ?_|refine eP ?_)
    refine sh ?_
    refine eH 200 (fun k:Nat=>k<=s.bw.length) (fun k=>⟨[(1,.loc 0 1 0 0),(3,.loc 1 1 0 0),(68,.aD 5 (gP s.bw)),(69,.int .i64 s.bw.length),(70,.int .i64 k)],[(0,.var (R.ty 59) s.row),(1,.var (R.ty 62) [.aV 3 (A0++aJ ((s.bw.length:Int)::(s.bw.take k).flatMap fk.ap)).length]),(3,.arr (R.ty 4) 1 (aT (A0++aJ ((s.bw.length:Int)::(s.bw.take k).flatMap fk.ap))))],4⟩) (fun k=>s.bw.length - k) (0) ?_ ?_
    ·exact Nat.zero_le _
    ·intro k hk
     dsimp only
     refine sh ?_
     refine cS (fun h1=> ?_) (fun h1=> ?_)
     ·obtain⟨x,hx⟩:∃u_,s.bw[k]? =some u_:=⟨_,List.getElem?_eq_getElem (by first|omega|(simp<;>omega))⟩
      refine sh ?_
      refine aa hx ?_
      have vq:=List.mem_of_getElem? hx
      have e1:=c8 (f:=fk.ap) hx
      have e2:=cb (fk.ap) 5 (s.bw.take k) fun y hy=>by first|exact Nat.le_refl _|(have:=n1.2 y (List.mem_of_mem_take hy); simp only[dN.ap,List.length_append,bY,List.length_cons,List.length_nil]; omega)
      rw[List.length_take]at e2
      generalize (s.bw.take k).flatMap fk.ap=C at e1 e2 ⊢
      have e3:=aK ((s.bw.length:Int)::C)
      rw[List.length_cons]at e3
      have f0:(A0++aJ ((s.bw.length:Int)::C)).length<=320000:=by rw[List.length_append]; omega
      generalize hB:A0++aJ ((s.bw.length:Int)::C)=B at f0 ⊢
      have eU:=ok.m x vq
      simp only[fk.ap,List.mem_append,List.mem_cons,List.not_mem_nil,or_false]at eU
      refine sh ?_
      refine cM true [1,3] (dR h.iO (B) [x.k] (by omega) (by simp) (by simpa using eU x.k (by simp))) ?_
      repeat (intro _; first|refine eK ?_|refine eP ?_)
      have g0:(B++aJ [x.k]).length<=700000+1000:=by
       have:=aK [x.k]
       rw[List.length_append,this]; simp only[List.length_cons,List.length_nil]; omega
      refine sh ?_
      refine cM true [1,3] (dR h.iO (B++aJ [x.k]) [x.c.a,x.c.b,x.c.c] (by omega) (by simp) (by simpa using⟨eU x.c.a (by simp),eU x.c.b (by simp),eU x.c.c (by simp)⟩)) ?_
      repeat (intro _; first|refine eK ?_|refine eP ?_)
      have g1:(B++aJ [x.k]++aJ [x.c.a,x.c.b,x.c.c]).length<=700000+2000:=by
       have:=aK [x.c.a,x.c.b,x.c.c]
       rw[List.length_append,this]; simp only[List.length_cons,List.length_nil]; omega
      refine sh ?_
      refine cM true [1,3] (dR h.iO (B++aJ [x.k]++aJ [x.c.a,x.c.b,x.c.c]) [x.r] (by omega) (by simp) (by simpa using eU x.r (by simp))) ?_
      repeat (intro _; first|refine eK ?_|refine eP ?_)
      have e5:A0++aJ ((s.bw.length:Int)::(C++x.ap))=B++aJ [x.k]++aJ [x.c.a,x.c.b,x.c.c]++aJ [x.r]:=by
       rw[<-hB]; simp[aJ,fk.ap]
      refine sh ?_
      refine uP [0,1,2,3] (k+1) ?_ ?_ ?_
      ·omega
      ·omega
      ·refine iH ?_ ?_
       all_goals (rw[e1,e5]; try simp)
     ·rw[List.take_of_length_le (by omega)]
      clear hk h1
      have hA1:(A0++aJ ((s.bw.length:Int)::s.bw.flatMap fk.ap)).length<=320000:=by
       have:=cb (fk.ap) 5 s.bw fun y hy=>by first|exact Nat.le_refl _|(have:=n1.2 y hy; simp only[dN.ap,List.length_append,bY,List.length_cons,List.length_nil]; omega)
       rw[List.length_append,aK,List.length_cons]; omega
      generalize R7:A0++aJ ((s.bw.length:Int)::s.bw.flatMap fk.ap)=A1 at hA1 ⊢
      have n2:=ok.nx
      have hl2:aR .i64 (s.aW.length:Int):=by simp only[aR]; omega
      refine sh ?_
      refine cM true [1,3] (dR h.iO A1 [(s.aW.length:Int)] (by omega) (by simp) (by simpa using hl2)) ?_
      repeat (intro _; first|refine eK ?_|refine eP ?_)
      refine sh ?_
      refine eH 200 (fun k:Nat=>k<=s.aW.length) (fun k=>⟨[(1,.loc 0 1 0 0),(3,.loc 1 1 0 0),(96,.aD 2 (gn s.aW)),(97,.int .i64 s.aW.length),(98,.int .i64 k)],[(0,.var (R.ty 59) s.row),(1,.var (R.ty 62) [.aV 3 (A1++aJ ((s.aW.length:Int)::(s.aW.take k).flatMap dN.ap)).length]),(3,.arr (R.ty 4) 1 (aT (A1++aJ ((s.aW.length:Int)::(s.aW.take k).flatMap dN.ap))))],4⟩) (fun k=>s.aW.length - k) (0) ?_ ?_
      ·exact Nat.zero_le _
      ·intro k hk
       dsimp only
       refine sh ?_
       refine cS (fun h1=> ?_) (fun h1=> ?_)
       ·obtain⟨x,hx⟩:∃u_,s.aW[k]? =some u_:=⟨_,List.getElem?_eq_getElem (by first|omega|(simp<;>omega))⟩
        refine sh ?_
        refine aa hx ?_
        have vq:=List.mem_of_getElem? hx
        have e1:=c8 (f:=dN.ap) hx
        have e2:=cb (dN.ap) 1000 (s.aW.take k) fun y hy=>by first|exact Nat.le_refl _|(have:=n2.2 y (List.mem_of_mem_take hy); simp only[dN.ap,List.length_append,bY,List.length_cons,List.length_nil]; omega)
        rw[List.length_take]at e2
        generalize (s.aW.take k).flatMap dN.ap=C at e1 e2 ⊢
        have e3:=aK ((s.aW.length:Int)::C)
        rw[List.length_cons]at e3
        have f0:(A1++aJ ((s.aW.length:Int)::C)).length<=570000:=by rw[List.length_append]; omega
        generalize hB:A1++aJ ((s.aW.length:Int)::C)=B at f0 ⊢
        have eU:=ok.x x vq
        have hxt:=n2.2 x vq
        have i1:aR .i64 x.side:=eU _ (by simp[dN.ap])
        have i2:aR .i64 (x.t.length:Int):=by simp only[aR]; omega
        refine sh ?_
        refine cM true [1,3] (dR h.iO (B) [x.side,(x.t.length:Int)] (by omega) (by simp) (by simpa using⟨i1,i2⟩)) ?_
        repeat (intro _; first|refine eK ?_|refine eP ?_)
        have g0:=aK [x.side,(x.t.length:Int)]
        have g1:(B++aJ [x.side,(x.t.length:Int)]).length<=700100:=by rw[List.length_append,g0]; simp only[List.length_cons,List.length_nil]; omega
        generalize hD:B++aJ [x.side,(x.t.length:Int)]=D at g1 ⊢
        refine sh ?_
        refine aj.inv 200 (fun j:Nat=>j<=x.t.length) (fun j=>⟨[(1,.loc 0 1 0 0),(3,.loc 1 1 0 0),(96,.aD 2 (gn s.aW)),(97,.int .i64 s.aW.length),(98,.int .i64 k),(111,.aD 3 (bW x.t)),(112,.int .i64 x.t.length),(113,.int .i64 j)],[(0,.var (R.ty 59) s.row),(1,.var (R.ty 62) [.aV 3 (D++aJ (kV (x.t.take j))).length]),(3,.arr (R.ty 4) 1 (aT (D++aJ (kV (x.t.take j)))))],4⟩) (fun j=>x.t.length - j) (0) ?_ ⟨⟨_,hp,rfl⟩,?_,?_⟩ ?_
        ·exact Nat.zero_le _
        ·exact fu
         all_goals simp[aJ,kV]
        ·refine iH ?_ ?_
         all_goals simp[aJ,kV]
        ·intro j hj
         dsimp only
         refine sh ?_
         refine cS (fun h2=> ?_) (fun h2=> ?_)
         ·obtain⟨y,hy⟩:∃u_,x.t[j]? =some u_:=⟨_,List.getElem?_eq_getElem (by first|omega|(simp<;>omega))⟩
          refine sh ?_
          refine aa hy ?_
          have kz:=List.mem_of_getElem? hy
          have q1:=uA hy
          have q2:=aK (kV (x.t.take j))
          rw[bY,List.length_take]at q2
          generalize kV (x.t.take j)=T at q1 q2 ⊢
          have q3:(D++aJ T).length<=740000:=by rw[List.length_append]; omega
          have q4:∀z ∈ [y.a,y.b,y.c],aR .i64 z:=fun z hz=>eU z (by simp only[dN.ap,List.mem_append]; exact .inr (List.mem_flatMap.2 ⟨y,kz,hz⟩))
          refine sh ?_
          refine cM true [1,3] (dR h.iO (D++aJ T) [y.a,y.b,y.c] (by omega) (by simp) q4) ?_
          repeat (intro _; first|refine eK ?_|refine eP ?_)
          refine sh ?_
          refine uP [0,1,2,3] (j+1) ?_ ?_ ?_
          ·omega
          ·omega
          ·refine iH ?_ ?_
           all_goals (rw[q1,r6]; try simp)
         ·rw[List.take_of_length_le (by omega)]
          have e5:A1++aJ ((s.aW.length:Int)::(C++x.ap))=D++aJ (kV x.t):=by
           rw[<-hD,<-hB]; simp[aJ,dN.ap]
          refine sh ?_
          refine uP [0,1,2,3] (k+1) ?_ ?_ ?_
          ·omega
          ·omega
          ·refine iH ?_ ?_
           all_goals (rw[e1,e5]; try simp)
       ·rw[List.take_of_length_le (by omega)]
        clear hk h1
        have hA2:(A1++aJ ((s.aW.length:Int)::s.aW.flatMap dN.ap)).length<=570000:=by
         have:=cb (dN.ap) 1000 s.aW fun y hy=>by first|exact Nat.le_refl _|(have:=n2.2 y hy; simp only[dN.ap,List.length_append,bY,List.length_cons,List.length_nil]; omega)
         rw[List.length_append,aK,List.length_cons]; omega
        generalize R8:A1++aJ ((s.aW.length:Int)::s.aW.flatMap dN.ap)=A2 at hA2 ⊢
        have n3:=ok.nl
        have hl3:aR .i64 (s.bG.length:Int):=by simp only[aR]; omega
        refine sh ?_
        refine cM true [1,3] (dR h.iO A2 [(s.bG.length:Int)] (by omega) (by simp) (by simpa using hl3)) ?_
        repeat (intro _; first|refine eK ?_|refine eP ?_)
        refine sh ?_
        refine eH 200 (fun k:Nat=>k<=s.bG.length) (fun k=>⟨[(1,.loc 0 1 0 0),(3,.loc 1 1 0 0),(129,.aD 13 (gQ s.bG)),(130,.int .i64 s.bG.length),(131,.int .i64 k)],[(0,.var (R.ty 59) s.row),(1,.var (R.ty 62) [.aV 3 (A2++aJ ((s.bG.length:Int)::(s.bG.take k).flatMap eV.ap)).length]),(3,.arr (R.ty 4) 1 (aT (A2++aJ ((s.bG.length:Int)::(s.bG.take k).flatMap eV.ap))))],4⟩) (fun k=>s.bG.length - k) (0) ?_ ?_
        ·exact Nat.zero_le _
        ·intro k hk
         dsimp only
         refine sh ?_
         refine cS (fun h1=> ?_) (fun h1=> ?_)
         ·obtain⟨x,hx⟩:∃u_,s.bG[k]? =some u_:=⟨_,List.getElem?_eq_getElem (by first|omega|(simp<;>omega))⟩
          refine sh ?_
          refine aa hx ?_
          have vq:=List.mem_of_getElem? hx
          have e1:=c8 (f:=eV.ap) hx
          have e2:=cb (eV.ap) 13 (s.bG.take k) fun y hy=>by first|exact Nat.le_refl _|(have:=n3.2 y (List.mem_of_mem_take hy); simp only[dN.ap,List.length_append,bY,List.length_cons,List.length_nil]; omega)
          rw[List.length_take]at e2
          generalize (s.bG.take k).flatMap eV.ap=C at e1 e2 ⊢
          have e3:=aK ((s.bG.length:Int)::C)
          rw[List.length_cons]at e3
          have f0:(A2++aJ ((s.bG.length:Int)::C)).length<=590000:=by rw[List.length_append]; omega
          generalize hB:A2++aJ ((s.bG.length:Int)::C)=B at f0 ⊢
          have eU:=ok.l x vq
          simp only[eV.ap,kV,List.flatMap_cons,List.flatMap_nil,List.mem_append,List.mem_cons,List.not_mem_nil,or_false]at eU
          refine sh ?_
          refine cM true [1,3] (dR h.iO (B) [x.k] (by omega) (by simp) (by simpa using eU x.k (by simp))) ?_
          repeat (intro _; first|refine eK ?_|refine eP ?_)
          have g0:(B++aJ [x.k]).length<=700000+1000:=by
           have:=aK [x.k]
           rw[List.length_append,this]; simp only[List.length_cons,List.length_nil]; omega
          refine sh ?_
          refine cM true [1,3] (dR h.iO (B++aJ [x.k]) [x.c.a,x.c.b,x.c.c] (by omega) (by simp) (by simpa using⟨eU x.c.a (by simp),eU x.c.b (by simp),eU x.c.c (by simp)⟩)) ?_
          repeat (intro _; first|refine eK ?_|refine eP ?_)
          have g1:(B++aJ [x.k]++aJ [x.c.a,x.c.b,x.c.c]).length<=700000+2000:=by
           have:=aK [x.c.a,x.c.b,x.c.c]
           rw[List.length_append,this]; simp only[List.length_cons,List.length_nil]; omega
          refine sh ?_
          refine cM true [1,3] (Ay h.Ls (B++aJ [x.k]++aJ [x.c.a,x.c.b,x.c.c]) [x.p,x.u,x.v] (by omega) (by simp) (by simpa using⟨⟨eU x.p.a (by simp),eU x.p.b (by simp),eU x.p.c (by simp)⟩,⟨eU x.u.a (by simp),eU x.u.b (by simp),eU x.u.c (by simp)⟩,eU x.v.a (by simp),eU x.v.b (by simp),eU x.v.c (by simp)⟩)) ?_
          repeat (intro _; first|refine eK ?_|refine eP ?_)
          have e5:A2++aJ ((s.bG.length:Int)::(C++x.ap))=B++aJ [x.k]++aJ [x.c.a,x.c.b,x.c.c]++aJ (kV [x.p,x.u,x.v]):=by
           rw[<-hB]; simp[aJ,eV.ap]
          refine sh ?_
          refine uP [0,1,2,3] (k+1) ?_ ?_ ?_
          ·omega
          ·omega
          ·refine iH ?_ ?_
           all_goals (rw[e1,e5]; try simp)
         ·rw[List.take_of_length_le (by omega)]
          clear hk h1
          have hA3:(A2++aJ ((s.bG.length:Int)::s.bG.flatMap eV.ap)).length<=590000:=by
           have:=cb (eV.ap) 13 s.bG fun y hy=>by first|exact Nat.le_refl _|(have:=n3.2 y hy; simp only[dN.ap,List.length_append,bY,List.length_cons,List.length_nil]; omega)
           rw[List.length_append,aK,List.length_cons]; omega
          generalize R9:A2++aJ ((s.bG.length:Int)::s.bG.flatMap eV.ap)=A3 at hA3 ⊢
          have n4:=ok.ni
          have hl4:aR .i64 (s.ids.length:Int):=by simp only[aR]; omega
          refine sh ?_
          refine cM true [1,3] (dR h.iO A3 [(s.ids.length:Int)] (by omega) (by simp) (by simpa using hl4)) ?_
          repeat (intro _; first|refine eK ?_|refine eP ?_)
          refine sh ?_
          refine eH 200 (fun k:Nat=>k<=s.ids.length) (fun k=>⟨[(1,.loc 0 1 0 0),(3,.loc 1 1 0 0),(161,.aD 1 (bp .u64 s.ids)),(162,.int .i64 s.ids.length),(163,.int .i64 k)],[(0,.var (R.ty 59) s.row),(1,.var (R.ty 62) [.aV 3 (A3++aJ ((s.ids.length:Int)::(s.ids.take k).flatMap fun x=>[wr .i64 x])).length]),(3,.arr (R.ty 4) 1 (aT (A3++aJ ((s.ids.length:Int)::(s.ids.take k).flatMap fun x=>[wr .i64 x]))))],4⟩) (fun k=>s.ids.length - k) (0) ?_ ?_
          ·exact Nat.zero_le _
          ·intro k hk
           dsimp only
           refine sh ?_
           refine cS (fun h1=> ?_) (fun h1=> ?_)
           ·obtain⟨x,hx⟩:∃u_,s.ids[k]? =some u_:=⟨_,List.getElem?_eq_getElem (by first|omega|(simp<;>omega))⟩
            refine sh ?_
            refine aa hx ?_
            have vq:=List.mem_of_getElem? hx
            have e1:=c8 (f:=fun x=>[wr .i64 x]) hx
            have e2:=cb (fun x=>[wr .i64 x]) 1 (s.ids.take k) fun y hy=>by first|exact Nat.le_refl _|(have:=n4.2 y (List.mem_of_mem_take hy); simp only[dN.ap,List.length_append,bY,List.length_cons,List.length_nil]; omega)
            rw[List.length_take]at e2
            generalize (s.ids.take k).flatMap (fun x=>[wr .i64 x])=C at e1 e2 ⊢
            have e3:=aK ((s.ids.length:Int)::C)
            rw[List.length_cons]at e3
            have f0:(A3++aJ ((s.ids.length:Int)::C)).length<=600000:=by rw[List.length_append]; omega
            generalize hB:A3++aJ ((s.ids.length:Int)::C)=B at f0 ⊢
            refine sh ?_
            refine bC ?_
            have i1:aR .i64 (wr .i64 x):=mB x
            refine sh ?_
            refine cM true [1,3] (dR h.iO (B) [wr .i64 x] (by omega) (by simp) (by simpa using i1)) ?_
            repeat (intro _; first|refine eK ?_|refine eP ?_)
            have e5:A3++aJ ((s.ids.length:Int)::(C++ [wr .i64 x]))=B++aJ [wr .i64 x]:=by
             rw[<-hB]; simp[aJ]
            refine sh ?_
            refine uP [0,1,2,3] (k+1) ?_ ?_ ?_
            ·omega
            ·omega
            ·refine iH ?_ ?_
             all_goals (rw[e1,e5]; try simp)
           ·rw[List.take_of_length_le (by omega)]
            clear hk h1
            have hA4:(A3++aJ ((s.ids.length:Int)::s.ids.flatMap fun x=>[wr .i64 x])).length<=600000:=by
             have:=cb (fun x=>[wr .i64 x]) 1 s.ids fun y hy=>by first|exact Nat.le_refl _|(have:=n4.2 y hy; simp only[dN.ap,List.length_append,bY,List.length_cons,List.length_nil]; omega)
             rw[List.length_append,aK,List.length_cons]; omega
            generalize R':A3++aJ ((s.ids.length:Int)::s.ids.flatMap (fun x=>[wr .i64 x]))=A4 at hA4 ⊢
            have n5:=ok.nb
            have hl5:aR .i64 (s.bL.length:Int):=by simp only[aR]; omega
            refine sh ?_
            refine cM true [1,3] (dR h.iO A4 [(s.bL.length:Int)] (by omega) (by simp) (by simpa using hl5)) ?_
            repeat (intro _; first|refine eK ?_|refine eP ?_)
            refine sh ?_
            refine eH 200 (fun k:Nat=>k<=s.bL.length) (fun k=>⟨[(1,.loc 0 1 0 0),(3,.loc 1 1 0 0),(180,.aD 1 (bp .u32 s.bL)),(181,.int .i64 s.bL.length),(182,.int .i64 k)],[(0,.var (R.ty 59) s.row),(1,.var (R.ty 62) [.aV 3 (A4++aJ ((s.bL.length:Int)::(s.bL.take k).flatMap fun x=>[x])).length]),(3,.arr (R.ty 4) 1 (aT (A4++aJ ((s.bL.length:Int)::(s.bL.take k).flatMap fun x=>[x]))))],4⟩) (fun k=>s.bL.length - k) (0) ?_ ?_
            ·exact Nat.zero_le _
            ·intro k hk
             dsimp only
             refine sh ?_
             refine cS (fun h1=> ?_) (fun h1=> ?_)
             ·obtain⟨x,hx⟩:∃u_,s.bL[k]? =some u_:=⟨_,List.getElem?_eq_getElem (by first|omega|(simp<;>omega))⟩
              refine sh ?_
              refine aa hx ?_
              have vq:=List.mem_of_getElem? hx
              have e1:=c8 (f:=fun x=>[x]) hx
              have e2:=cb (fun x=>[x]) 1 (s.bL.take k) fun y hy=>by first|exact Nat.le_refl _|(have:=n5.2 y (List.mem_of_mem_take hy); simp only[dN.ap,List.length_append,bY,List.length_cons,List.length_nil]; omega)
              rw[List.length_take]at e2
              generalize (s.bL.take k).flatMap (fun x=>[x])=C at e1 e2 ⊢
              have e3:=aK ((s.bL.length:Int)::C)
              rw[List.length_cons]at e3
              have f0:(A4++aJ ((s.bL.length:Int)::C)).length<=610000:=by rw[List.length_append]; omega
              generalize hB:A4++aJ ((s.bL.length:Int)::C)=B at f0 ⊢
              have i0:=ok.b x vq
              have i1:0<=x/\x<=4294967295:=by simp only[aR]at i0; omega
              have i2:aR .i64 x:=by simp only[aR]; omega
              refine sh ?_
              refine cM true [1,3] (dR h.iO (B) [x] (by omega) (by simp) (by simpa using i2)) ?_
              repeat (intro _; first|refine eK ?_|refine eP ?_)
              have e5:A4++aJ ((s.bL.length:Int)::(C++ [x]))=B++aJ [x]:=by
               rw[<-hB]; simp[aJ]
              refine sh ?_
              refine uP [0,1,2,3] (k+1) ?_ ?_ ?_
              ·omega
              ·omega
              ·refine iH ?_ ?_
               all_goals (rw[e1,e5]; try simp)
             ·rw[List.take_of_length_le (by omega)]
              clear hk h1
              have hA5:(A4++aJ ((s.bL.length:Int)::s.bL.flatMap fun x=>[x])).length<=610000:=by
               have:=cb (fun x=>[x]) 1 s.bL fun y hy=>by first|exact Nat.le_refl _|(have:=n5.2 y hy; simp only[dN.ap,List.length_append,bY,List.length_cons,List.length_nil]; omega)
               rw[List.length_append,aK,List.length_cons]; omega
              generalize Sa:A4++aJ ((s.bL.length:Int)::s.bL.flatMap (fun x=>[x]))=A5 at hA5 ⊢
              obtain⟨z1,z2,z3⟩:=ok.e
              have y1:0<=s.nz/\s.nz<=4294967295:=by simp only[aR]at z1; omega
              have y2:0<=s.fr/\s.fr<=4294967295:=by simp only[aR]at z2; omega
              have y3:0<=s.to/\s.to<=4294967295:=by simp only[aR]at z3; omega
              refine sh ?_
              refine cM true [1,3] (dR h.iO A5 [s.nz,s.fr,s.to] (by omega) (by simp) (by simp only[List.mem_cons,List.not_mem_nil,or_false,aR]; omega)) ?_
              repeat (intro _; first|refine eK ?_|refine eP ?_)
              have e9:aJ s.ap=A5++aJ [s.nz,s.fr,s.to]:=by
               rw[<-Sa,<-R',<-R9,<-R8,<-R7,<-R6]; simp[cV.ap,AA,aJ]
              rw[e9]
              refine sh ?_
              exact rT
end Go.UM
namespace Go.UM
open Go.AM
set_option maxRecDepth 4000
end Go.UM
namespace Go.UM
open Go.AM
set_option maxRecDepth 4000
end Go.UM
namespace Go.UM
open Go.AM
set_option maxRecDepth 4000
theorem gp{α:Type}{a b:List α}{k:Nat}{x y:α}(hx:a[k]? =some x)(hy:b[k]? =some y)(h:x≠y):a≠b:=fun e=>h (by rw[e,hy]at hx; simpa using hx.symm)
theorem gq{α:Type}{a b:List α}{k:Nat}{x:α}(h:a.take k=b.take k)(hx:a[k]? =some x)(hy:b[k]? =some x):a.take (k+1)=b.take (k+1):=by rw[ao hx,ao hy,h]
theorem kS{α:Type}{a b:List α}{k:Nat}(h:a.take k=b.take k)(hl:a.length=b.length)(hk:a.length<=k):a=b:=by
 rwa[List.take_of_length_le hk,List.take_of_length_le (by omega)]at h
theorem Sb{R:Env}(h:Q7 R)(a b:List Int)(hl:a.length=b.length)(hn:a.length<=1000):R.Pc 507 [.aD 1 (bp .u32 a),.aD 1 (bp .u32 b)] (.bool (decide (a=b))):=
 h.XA.enter 60 rfl fun X bb hfit hp=>by
  refine sh ?_
  refine eH 60 (fun k:Nat=>k<=a.length/\a.take k=b.take k) (fun k=>⟨[(0,.aD 1 (bp .u32 a)),(1,.aD 1 (bp .u32 b)),(5,.int .i64 k)],[],0⟩) (fun k=>a.length - k) (0) ?_ ?_
  ·exact⟨Nat.zero_le _,by simp⟩
  ·intro k hk
   obtain⟨k1,k2⟩:=hk
   dsimp only
   refine sh ?_
   refine cS (fun h1=> ?_) (fun h1=> ?_)
   ·obtain⟨x,hx⟩:∃u_,a[k]? =some u_:=⟨_,List.getElem?_eq_getElem (by first|omega|(simp<;>omega))⟩
    refine sh ?_
    refine aa hx ?_
    obtain⟨y,hy⟩:∃u_,b[k]? =some u_:=⟨_,List.getElem?_eq_getElem (by first|omega|(simp<;>omega))⟩
    refine sh ?_
    refine aa hy ?_
    refine sh ?_
    refine cS (fun h2=> ?_) (fun h2=> ?_)
    ·rw[decide_eq_false (gp hx hy h2)]
     refine sh ?_
     exact rT
    ·obtain rfl:x=y:=by simpa using h2
     refine sh ?_
     refine lO (k+1) ?_ ?_
     ·exact⟨by omega,gq k2 hx hy⟩
     ·omega
   ·rw[decide_eq_true (kS k2 hl (by omega))]
    refine sh ?_
    exact rT
noncomputable def seq(a b:cV):Bool:= @decide (a=b) (Classical.propDecidable _)
theorem iS{a b:cV}(h:a≠b):seq a b=false:= @decide_eq_false _ (Classical.propDecidable _) h
theorem DE{a b:cV}(h:a=b):seq a b=true:= @decide_eq_true _ (Classical.propDecidable _) h
set_option maxHeartbeats 2000000 in
theorem DF{R:Env}(h:Q8 R)(a b:cV)(ha:a.Ok)(hb:b.Ok):R.Pc 492 [.agg a.row,.agg b.row] (.bool (seq a b)):=
 h.Q9.enter 300 rfl fun X bb hfit hp=>by
  have c1:=ha.nt
  have c2:=ha.nm
  have c3:=ha.nx.1
  have c4:=ha.nl
  have c5:=ha.ni
  have c6:=ha.nb
  refine sh ?_
  refine cS (fun g1=> ?_) (fun g1=> ?_)
  ·rw[iS fun e=>by subst e; exact g1 rfl]
   refine sh ?_
   exact rT
  ·have l1:a.aS.length=b.aS.length:=by omega
   refine sh ?_
   refine cS (fun g2=> ?_) (fun g2=> ?_)
   ·rw[iS fun e=>by subst e; exact g2 rfl]
    refine sh ?_
    exact rT
   ·have l2:a.bw.length=b.bw.length:=by omega
    refine sh ?_
    refine cS (fun g3=> ?_) (fun g3=> ?_)
    ·rw[iS fun e=>by subst e; exact g3 rfl]
     refine sh ?_
     exact rT
    ·have l3:a.aW.length=b.aW.length:=by omega
     refine sh ?_
     refine cS (fun g4=> ?_) (fun g4=> ?_)
     ·rw[iS fun e=>by subst e; exact g4 rfl]
      refine sh ?_
      exact rT
     ·have l4:a.bG.length=b.bG.length:=by omega
      refine sh ?_
      refine cS (fun g5=> ?_) (fun g5=> ?_)
      ·rw[iS fun e=>by subst e; exact g5 rfl]
       refine sh ?_
       exact rT
      ·have l5:a.ids.length=b.ids.length:=by omega
       refine sh ?_
       refine cS (fun g6=> ?_) (fun g6=> ?_)
       ·rw[iS fun e=>by subst e; exact g6 rfl]
        refine sh ?_
        exact rT
       ·have l6:a.bL.length=b.bL.length:=by omega
        refine sh ?_
        refine ae.pure h.LJ.XA.hb (Sb h.LJ a.bL b.bL l6 (by omega)) rfl ?_
        refine sh ?_
        refine cS (fun g7=> ?_) (fun g7=> ?_)
        ·rw[iS fun e=>by subst e; simp at g7]
         refine sh ?_
         exact rT
        ·have m6:a.bL=b.bL:=by simpa using g7
         refine sh ?_
         refine eH 200 (fun k:Nat=>k<=a.aS.length/\a.aS.take k=b.aS.take k) (fun k=>⟨[(2,.loc 0 1 0 0),(3,.loc 1 1 0 0),(5,.int .i64 k)],[(0,.var (R.ty 59) a.row),(1,.var (R.ty 59) b.row)],2⟩) (fun k=>a.aS.length - k) (0) ?_ ?_
         ·exact⟨Nat.zero_le _,by simp⟩
         ·intro k hk
          obtain⟨k1,k2⟩:=hk
          dsimp only
          refine sh ?_
          refine cS (fun h1=> ?_) (fun h1=> ?_)
          ·obtain⟨x,hx⟩:∃u_,a.aS[k]? =some u_:=⟨_,List.getElem?_eq_getElem (by first|omega|(simp<;>omega))⟩
           refine sh ?_
           refine aa hx ?_
           obtain⟨y,hy⟩:∃u_,b.aS[k]? =some u_:=⟨_,List.getElem?_eq_getElem (by first|omega|(simp<;>omega))⟩
           refine sh ?_
           refine aa hy ?_
           refine sh ?_
           refine cS (fun h2=> ?_) (fun h2=> ?_)
           ·have hne:x≠y:=fun e=>by subst e; simp at h2
            rw[iS fun e=>by subst e; exact gp hx hy hne rfl]
            refine sh ?_
            exact rT
           ·have hxy:x=y:=by
             obtain⟨⟨a1,a2,a3⟩,⟨a4,a5,a6⟩,⟨a7,a8,a9⟩,b1,b2,b3,b4,b5,b6,d1,d2,d3,d4⟩:=x; obtain⟨⟨a1',a2',a3'⟩,⟨a4',a5',a6'⟩,⟨a7',a8',a9'⟩,b1',b2',b3',b4',b5',b6',d1',d2',d3',d4'⟩:=y; simp at h2 ⊢; simp[h2]
            subst hxy
            refine sh ?_
            refine lO (k+1) ?_ ?_
            ·exact⟨by omega,gq k2 hx hy⟩
            ·omega
          ·have m1:a.aS=b.aS:=kS k2 l1 (by omega)
           clear k1 k2 h1
           refine sh ?_
           refine eH 200 (fun k:Nat=>k<=a.bw.length/\a.bw.take k=b.bw.take k) (fun k=>⟨[(2,.loc 0 1 0 0),(3,.loc 1 1 0 0),(6,.int .i64 k)],[(0,.var (R.ty 59) a.row),(1,.var (R.ty 59) b.row)],2⟩) (fun k=>a.bw.length - k) (0) ?_ ?_
           ·exact⟨Nat.zero_le _,by simp⟩
           ·intro k hk
            obtain⟨k1,k2⟩:=hk
            dsimp only
            refine sh ?_
            refine cS (fun h1=> ?_) (fun h1=> ?_)
            ·obtain⟨x,hx⟩:∃u_,a.bw[k]? =some u_:=⟨_,List.getElem?_eq_getElem (by first|omega|(simp<;>omega))⟩
             refine sh ?_
             refine aa hx ?_
             obtain⟨y,hy⟩:∃u_,b.bw[k]? =some u_:=⟨_,List.getElem?_eq_getElem (by first|omega|(simp<;>omega))⟩
             refine sh ?_
             refine aa hy ?_
             refine sh ?_
             refine cS (fun h2=> ?_) (fun h2=> ?_)
             ·have hne:x≠y:=fun e=>by subst e; simp at h2
              rw[iS fun e=>by subst e; exact gp hx hy hne rfl]
              refine sh ?_
              exact rT
             ·have hxy:x=y:=by
               obtain⟨k1',⟨a1,a2,a3⟩,r1⟩:=x; obtain⟨k2',⟨b1,b2,b3⟩,r2⟩:=y; simp at h2 ⊢; simp[h2]
              subst hxy
              refine sh ?_
              refine lO (k+1) ?_ ?_
              ·exact⟨by omega,gq k2 hx hy⟩
              ·omega
            ·have m2:a.bw=b.bw:=kS k2 l2 (by omega)
             clear k1 k2 h1
             refine sh ?_
             refine eH 200 (fun k:Nat=>k<=a.aW.length/\a.aW.take k=b.aW.take k) (fun k=>⟨[(2,.loc 0 1 0 0),(3,.loc 1 1 0 0),(7,.int .i64 k)],[(0,.var (R.ty 59) a.row),(1,.var (R.ty 59) b.row)],2⟩) (fun k=>a.aW.length - k) (0) ?_ ?_
             ·exact⟨Nat.zero_le _,by simp⟩
             ·intro k hk
              obtain⟨k1,k2⟩:=hk
              dsimp only
              refine sh ?_
              refine cS (fun h1=> ?_) (fun h1=> ?_)
              ·obtain⟨x,hx⟩:∃u_,a.aW[k]? =some u_:=⟨_,List.getElem?_eq_getElem (by first|omega|(simp<;>omega))⟩
               refine sh ?_
               refine aa hx ?_
               obtain⟨y,hy⟩:∃u_,b.aW[k]? =some u_:=⟨_,List.getElem?_eq_getElem (by first|omega|(simp<;>omega))⟩
               refine sh ?_
               refine aa hy ?_
               have hxt:=ha.nx.2 x (List.mem_of_getElem? hx)
               refine sh ?_
               refine ae.pure h.ZE.o89.hb (FC h.ZE x y (by omega)) rfl ?_
               refine sh ?_
               refine cS (fun h2=> ?_) (fun h2=> ?_)
               ·have hne:x≠y:=fun e=>by subst e; simp at h2
                rw[iS fun e=>by subst e; exact gp hx hy hne rfl]
                refine sh ?_
                exact rT
               ·have hxy:x=y:=by
                 obtain⟨s1,t1⟩:=x; obtain⟨s2,t2⟩:=y
                 simp at h2; obtain⟨e1,e2⟩:=h2; rw[e1,e2]
                subst hxy
                refine sh ?_
                refine lO (k+1) ?_ ?_
                ·exact⟨by omega,gq k2 hx hy⟩
                ·omega
              ·have m3:a.aW=b.aW:=kS k2 l3 (by omega)
               clear k1 k2 h1
               refine sh ?_
               refine eH 200 (fun k:Nat=>k<=a.bG.length/\a.bG.take k=b.bG.take k) (fun k=>⟨[(2,.loc 0 1 0 0),(3,.loc 1 1 0 0),(8,.int .i64 k)],[(0,.var (R.ty 59) a.row),(1,.var (R.ty 59) b.row)],2⟩) (fun k=>a.bG.length - k) (0) ?_ ?_
               ·exact⟨Nat.zero_le _,by simp⟩
               ·intro k hk
                obtain⟨k1,k2⟩:=hk
                dsimp only
                refine sh ?_
                refine cS (fun h1=> ?_) (fun h1=> ?_)
                ·obtain⟨x,hx⟩:∃u_,a.bG[k]? =some u_:=⟨_,List.getElem?_eq_getElem (by first|omega|(simp<;>omega))⟩
                 refine sh ?_
                 refine aa hx ?_
                 obtain⟨y,hy⟩:∃u_,b.bG[k]? =some u_:=⟨_,List.getElem?_eq_getElem (by first|omega|(simp<;>omega))⟩
                 refine sh ?_
                 refine aa hy ?_
                 refine sh ?_
                 refine cS (fun h2=> ?_) (fun h2=> ?_)
                 ·have hne:x≠y:=fun e=>by subst e; simp at h2
                  rw[iS fun e=>by subst e; exact gp hx hy hne rfl]
                  refine sh ?_
                  exact rT
                 ·have hxy:x=y:=by
                   obtain⟨k1',⟨a1,a2,a3⟩,⟨b1,b2,b3⟩,⟨d1,d2,d3⟩,⟨e1,e2,e3⟩⟩:=x; obtain⟨k2',⟨a1',a2',a3'⟩,⟨b1',b2',b3'⟩,⟨d1',d2',d3'⟩,⟨e1',e2',e3'⟩⟩:=y; simp at h2 ⊢; simp[h2]
                  subst hxy
                  refine sh ?_
                  refine lO (k+1) ?_ ?_
                  ·exact⟨by omega,gq k2 hx hy⟩
                  ·omega
                ·have m4:a.bG=b.bG:=kS k2 l4 (by omega)
                 clear k1 k2 h1
                 refine sh ?_
                 refine eH 200 (fun k:Nat=>k<=a.ids.length/\a.ids.take k=b.ids.take k) (fun k=>⟨[(2,.loc 0 1 0 0),(3,.loc 1 1 0 0),(9,.int .i64 k)],[(0,.var (R.ty 59) a.row),(1,.var (R.ty 59) b.row)],2⟩) (fun k=>a.ids.length - k) (0) ?_ ?_
                 ·exact⟨Nat.zero_le _,by simp⟩
                 ·intro k hk
                  obtain⟨k1,k2⟩:=hk
                  dsimp only
                  refine sh ?_
                  refine cS (fun h1=> ?_) (fun h1=> ?_)
                  ·obtain⟨x,hx⟩:∃u_,a.ids[k]? =some u_:=⟨_,List.getElem?_eq_getElem (by first|omega|(simp<;>omega))⟩
                   refine sh ?_
                   refine aa hx ?_
                   obtain⟨y,hy⟩:∃u_,b.ids[k]? =some u_:=⟨_,List.getElem?_eq_getElem (by first|omega|(simp<;>omega))⟩
                   refine sh ?_
                   refine aa hy ?_
                   refine sh ?_
                   refine cS (fun h2=> ?_) (fun h2=> ?_)
                   ·have hne:x≠y:=h2
                    rw[iS fun e=>by subst e; exact gp hx hy hne rfl]
                    refine sh ?_
                    exact rT
                   ·have hxy:x=y:=by simpa using h2
                    subst hxy
                    refine sh ?_
                    refine lO (k+1) ?_ ?_
                    ·exact⟨by omega,gq k2 hx hy⟩
                    ·omega
                  ·have m5:a.ids=b.ids:=kS k2 l5 (by omega)
                   clear k1 k2 h1
                   have last:seq a b=(decide (a.nz=b.nz)&&decide (a.fr=b.fr)&&decide (a.to=b.to)):=by
                    rw[Bool.eq_iff_iff]
                    simp only[seq,decide_eq_true_eq,Bool.and_eq_true]
                    constructor
                    ·intro e; subst e; exact⟨⟨rfl,rfl⟩,rfl⟩
                    ·rintro⟨⟨e1,e2⟩,e3⟩
                     obtain⟨x1,x2,x3,x4,x5,x6,x7,x8,x9⟩:=a
                     obtain⟨y1,y2,y3,y4,y5,y6,y7,y8,y9⟩:=b
                     dsimp only at m1 m2 m3 m4 m5 m6 e1 e2 e3
                     subst m1; subst m2; subst m3; subst m4; subst m5; subst m6; subst e1; subst e2; subst e3; rfl
                   rw[last]
                   refine sh ?_
                   refine cS (fun g8=> ?_) (fun g8=> ?_)
                   ·refine sh ?_
                    refine cS (fun g9=> ?_) (fun g9=> ?_)
                    ·refine sh ?_
                     refine rT ?_
                     refine bj ?_
                     simp[g8,g9]
                     by_cases h9:a.to=b.to<;>simp[h9]
                    ·refine sh ?_
                     refine rT ?_
                     refine bj ?_
                     simp[g8,g9]
                   ·refine sh ?_
                    refine rT ?_
                    refine bj ?_
                    simp[g8]
end Go.UM
namespace Go.UM
open Go.AM
set_option maxRecDepth 4000
end Go.UM
namespace Go.UM
open Go.AM
set_option maxRecDepth 4000
theorem Jh{R:Env}(h:W4 R)(n:List Int)(hl:n.length<=1000)(hn:∀x ∈ n,aR .i64 x):R.Mc 72 [.aD 1 (aT []),.int .i64 8,.aD 1 (bp .i64 n)] [] (.aQ [.aV 0 (aJ n).length,.int .i64 0]) [(0,.arr (R.ty 4) 1 (aT (aJ n)))] 1:=by
 have c:=wF h [] 8 n (by simp; omega) hn
 rw[Jf hn]at c
 simpa using c
theorem ed{R:Env}(h:LL R)(b:List UInt8)(n:List Int)(hb:b.length<=1000000)(hl:n.length<=1000)(hi:∀x ∈ n,aR .i64 x):
  R.Mc 510 [.aV 0 b.length,.aD 1 (bp .i64 n)] [(0,.arr (R.ty 4) 1 (aT b))] (.aV 0 (b++aJ n).length) [(0,.arr (R.ty 4) 1 (aT (b++aJ n)))] 1:=
 h.XD.aY 60 1 rfl rfl rfl fun X bb hfit hp=>by
  have e:=aK n
  refine sh ?_
  refine cM false [] (Jh h.QL n hl hi) ?_
  repeat (intro _; first|refine eK ?_|refine eP ?_)
  refine sh ?_
  refine rM [0] ?_
  exact fu
  all_goals simp
theorem MM{R:Env}(h:LL R)(x:Int)(hi:aR .i64 x):
  R.Mc 510 [.ai,.aD 1 (bp .i64 [x])] [] (.aV 0 (aJ [x]).length) [(0,.arr (R.ty 4) 1 (aT (aJ [x])))] 1:=
 h.XD.aY 60 0 rfl rfl rfl fun X bb hfit hp=>by
  have e:(aJ [x]).length=8:=by rw[aK]; rfl
  refine sh ?_
  refine cM false [] (Jh h.QL [x] (by simp) (by simpa using hi)) ?_
  repeat (intro _; first|refine eK ?_|refine eP ?_)
  refine sh ?_
  exact rM [1]
end Go.UM
namespace Go.UM
open Go.AM
set_option maxRecDepth 4000
set_option maxHeartbeats 2000000 in
theorem uB{R:Env}(h:Ra R)(s:cV)(ok:s.Ok):R.Pc 500 [.agg s.row] (.aD 1 (aT (aJ s.ap))):=
 h.Rb.enter 300 rfl fun X bb hfit hp=>by
  have nt:=ok.nt
  have hl:aR .i64 (s.aS.length:Int):=by simp only[aR]; omega
  refine sh ?_
  refine cM true [] (MM h.jK (s.aS.length:Int) hl) ?_
  repeat (intro _; first|refine eK ?_|refine eP ?_)
  refine sh ?_
  refine eH 200 (fun k:Nat=>k<=s.aS.length) (fun k=>⟨[(1,.loc 0 1 0 0),(3,.aV 2 (aJ ((s.aS.length:Int)::(s.aS.take k).flatMap j8.ap)).length),(4,.int .i64 k)],[(0,.var (R.ty 59) s.row),(2,.arr (R.ty 4) 1 (aT (aJ ((s.aS.length:Int)::(s.aS.take k).flatMap j8.ap))))],3⟩) (fun k=>s.aS.length - k) (0) ?_ ?_
  ·exact Nat.zero_le _
  ·intro k hk
   dsimp only
   refine sh ?_
   refine cS (fun h1=> ?_) (fun h1=> ?_)
   ·obtain⟨x,hx⟩:∃u_,s.aS[k]? =some u_:=⟨_,List.getElem?_eq_getElem (by first|omega|(simp<;>omega))⟩
    refine sh ?_
    refine aa hx ?_
    have vq:=List.mem_of_getElem? hx
    have e1:=c8 (f:=j8.ap) hx
    have e2:=cb (j8.ap) 19 (s.aS.take k) fun y hy=>by first|exact Nat.le_refl _|(have:=n0.2 y (List.mem_of_mem_take hy); simp only[dN.ap,List.length_append,bY,List.length_cons,List.length_nil]; omega)
    rw[List.length_take]at e2
    generalize (s.aS.take k).flatMap j8.ap=C at e1 e2 ⊢
    have e3:=aK ((s.aS.length:Int)::C)
    rw[List.length_cons]at e3
    have f0:(aJ ((s.aS.length:Int)::C)).length<=310000:=by omega
    generalize hB:aJ ((s.aS.length:Int)::C)=B at f0 ⊢
    have eU:=ok.t x vq
    refine sh ?_
    refine aj.one 100 ?_
    refine sh ?_
    refine af (by decide) ?_
    refine sh ?_
    refine cM true [2] (ed h.jK (B) [x.p.a,x.p.b,x.p.c] (by omega) (by simp) (by simpa using eU.p)) ?_
    repeat (intro _; first|refine eK ?_|refine eP ?_)
    have g0:(B++aJ [x.p.a,x.p.b,x.p.c]).length<=700000+1000:=by
     have:=aK [x.p.a,x.p.b,x.p.c]
     rw[List.length_append,this]; simp only[List.length_cons,List.length_nil]; omega
    refine sh ?_
    refine aj.one 100 ?_
    refine sh ?_
    refine af (by decide) ?_
    refine sh ?_
    refine cM true [2] (ed h.jK (B++aJ [x.p.a,x.p.b,x.p.c]) [x.q.a,x.q.b,x.q.c] (by omega) (by simp) (by simpa using eU.q)) ?_
    repeat (intro _; first|refine eK ?_|refine eP ?_)
    have g1:(B++aJ [x.p.a,x.p.b,x.p.c]++aJ [x.q.a,x.q.b,x.q.c]).length<=700000+2000:=by
     have:=aK [x.q.a,x.q.b,x.q.c]
     rw[List.length_append,this]; simp only[List.length_cons,List.length_nil]; omega
    refine sh ?_
    refine aj.one 100 ?_
    refine sh ?_
    refine af (by decide) ?_
    refine sh ?_
    refine cM true [2] (ed h.jK (B++aJ [x.p.a,x.p.b,x.p.c]++aJ [x.q.a,x.q.b,x.q.c]) [x.r.a,x.r.b,x.r.c] (by omega) (by simp) (by simpa using eU.r)) ?_
    repeat (intro _; first|refine eK ?_|refine eP ?_)
    have g2:(B++aJ [x.p.a,x.p.b,x.p.c]++aJ [x.q.a,x.q.b,x.q.c]++aJ [x.r.a,x.r.b,x.r.c]).length<=700000+3000:=by
     have:=aK [x.r.a,x.r.b,x.r.c]
     rw[List.length_append,this]; simp only[List.length_cons,List.length_nil]; omega
    refine sh ?_
    refine aj.one 100 ?_
    refine sh ?_
    refine ay (by decide) ?_
    refine sh ?_
    refine aj.one 100 ?_
    refine sh ?_
    refine af (by decide) ?_
    refine sh ?_
    refine cM true [2] (ed h.jK (B++aJ [x.p.a,x.p.b,x.p.c]++aJ [x.q.a,x.q.b,x.q.c]++aJ [x.r.a,x.r.b,x.r.c]) [x.ua,x.ub] (by omega) (by simp) (by simpa using eU.u)) ?_
    repeat (intro _; first|refine eK ?_|refine eP ?_)
    have g3:(B++aJ [x.p.a,x.p.b,x.p.c]++aJ [x.q.a,x.q.b,x.q.c]++aJ [x.r.a,x.r.b,x.r.c]++aJ [x.ua,x.ub]).length<=700000+4000:=by
     have:=aK [x.ua,x.ub]
     rw[List.length_append,this]; simp only[List.length_cons,List.length_nil]; omega
    refine sh ?_
    refine aj.one 100 ?_
    refine sh ?_
    refine af (by decide) ?_
    refine sh ?_
    refine cM true [2] (ed h.jK (B++aJ [x.p.a,x.p.b,x.p.c]++aJ [x.q.a,x.q.b,x.q.c]++aJ [x.r.a,x.r.b,x.r.c]++aJ [x.ua,x.ub]) [x.va,x.vb] (by omega) (by simp) (by simpa using eU.v)) ?_
    repeat (intro _; first|refine eK ?_|refine eP ?_)
    have g4:(B++aJ [x.p.a,x.p.b,x.p.c]++aJ [x.q.a,x.q.b,x.q.c]++aJ [x.r.a,x.r.b,x.r.c]++aJ [x.ua,x.ub]++aJ [x.va,x.vb]).length<=700000+5000:=by
     have:=aK [x.va,x.vb]
     rw[List.length_append,this]; simp only[List.length_cons,List.length_nil]; omega
    refine sh ?_
    refine aj.one 100 ?_
    refine sh ?_
    refine af (by decide) ?_
    refine sh ?_
    refine cM true [2] (ed h.jK (B++aJ [x.p.a,x.p.b,x.p.c]++aJ [x.q.a,x.q.b,x.q.c]++aJ [x.r.a,x.r.b,x.r.c]++aJ [x.ua,x.ub]++aJ [x.va,x.vb]) [x.wa,x.wb] (by omega) (by simp) (by simpa using eU.w)) ?_
    repeat (intro _; first|refine eK ?_|refine eP ?_)
    have g5:(B++aJ [x.p.a,x.p.b,x.p.c]++aJ [x.q.a,x.q.b,x.q.c]++aJ [x.r.a,x.r.b,x.r.c]++aJ [x.ua,x.ub]++aJ [x.va,x.vb]++aJ [x.wa,x.wb]).length<=700000+6000:=by
     have:=aK [x.wa,x.wb]
     rw[List.length_append,this]; simp only[List.length_cons,List.length_nil]; omega
    refine sh ?_
    refine aj.one 100 ?_
    refine sh ?_
    refine ay (by decide) ?_
    have hm:=eU.m
    have hm8:0<=x.gv/\x.gv<=255:=by have:=hm.2.2.2; simp only[aR]at this; omega
    have hmk:aR .i64 x.gv:=by have:=hm.2.2.2; simp only[aR]at this ⊢; omega
    refine sh ?_
    refine cM true [2] (ed h.jK (B++aJ [x.p.a,x.p.b,x.p.c]++aJ [x.q.a,x.q.b,x.q.c]++aJ [x.r.a,x.r.b,x.r.c]++aJ [x.ua,x.ub]++aJ [x.va,x.vb]++aJ [x.wa,x.wb]) [x.dp,x.cw,x.obj,x.gv] (by omega) (by simp) (by simpa using⟨hm.1,hm.2.1,hm.2.2.1,hmk⟩)) ?_
    repeat (intro _; first|refine eK ?_|refine eP ?_)
    have g7:(B++aJ [x.p.a,x.p.b,x.p.c]++aJ [x.q.a,x.q.b,x.q.c]++aJ [x.r.a,x.r.b,x.r.c]++aJ [x.ua,x.ub]++aJ [x.va,x.vb]++aJ [x.wa,x.wb]++aJ [x.dp,x.cw,x.obj,x.gv]).length<=700000+8000:=by
     have:=aK [x.dp,x.cw,x.obj,x.gv]
     rw[List.length_append,this]; simp only[List.length_cons,List.length_nil]; omega
    have e5:aJ ((s.aS.length:Int)::(C++x.ap))=B++aJ [x.p.a,x.p.b,x.p.c]++aJ [x.q.a,x.q.b,x.q.c]++aJ [x.r.a,x.r.b,x.r.c]++aJ [x.ua,x.ub]++aJ [x.va,x.vb]++aJ [x.wa,x.wb]++aJ [x.dp,x.cw,x.obj,x.gv]:=by
     rw[<-hB]; simp[aJ,j8.ap,kV]
    refine sh ?_
    refine uP [0,1,2] (k+1) ?_ ?_ ?_
    ·omega
    ·omega
    ·refine iH ?_ ?_
     all_goals (rw[e1,e5]; try simp)
   ·rw[List.take_of_length_le (by omega)]
    clear hk h1
    have hA0:(aJ ((s.aS.length:Int)::s.aS.flatMap j8.ap)).length<=310000:=by
     have:=cb (j8.ap) 19 s.aS fun y hy=>by first|exact Nat.le_refl _|(have:=n0.2 y hy; simp only[dN.ap,List.length_append,bY,List.length_cons,List.length_nil]; omega)
     rw[aK,List.length_cons]; omega
    generalize R6:aJ ((s.aS.length:Int)::s.aS.flatMap j8.ap)=A0 at hA0 ⊢
    have n1:=ok.nm
    have uY:aR .i64 (s.bw.length:Int):=by simp only[aR]; omega
    refine sh ?_
    refine cM true [2] (ed h.jK A0 [(s.bw.length:Int)] (by omega) (by simp) (by simpa using uY)) ?_
    repeat (intro _; first|refine eK ?_|refine eP ?_)
    refine sh ?_
    refine eH 200 (fun k:Nat=>k<=s.bw.length) (fun k=>⟨[(1,.loc 0 1 0 0),(3,.aV 2 (A0++aJ ((s.bw.length:Int)::(s.bw.take k).flatMap fk.ap)).length),(8,.int .i64 k)],[(0,.var (R.ty 59) s.row),(2,.arr (R.ty 4) 1 (aT (A0++aJ ((s.bw.length:Int)::(s.bw.take k).flatMap fk.ap))))],3⟩) (fun k=>s.bw.length - k) (0) ?_ ?_
    ·exact Nat.zero_le _
    ·intro k hk
     dsimp only
     refine sh ?_
     refine cS (fun h1=> ?_) (fun h1=> ?_)
     ·obtain⟨x,hx⟩:∃u_,s.bw[k]? =some u_:=⟨_,List.getElem?_eq_getElem (by first|omega|(simp<;>omega))⟩
      refine sh ?_
      refine aa hx ?_
      have vq:=List.mem_of_getElem? hx
      have e1:=c8 (f:=fk.ap) hx
      have e2:=cb (fk.ap) 5 (s.bw.take k) fun y hy=>by first|exact Nat.le_refl _|(have:=n1.2 y (List.mem_of_mem_take hy); simp only[dN.ap,List.length_append,bY,List.length_cons,List.length_nil]; omega)
      rw[List.length_take]at e2
      generalize (s.bw.take k).flatMap fk.ap=C at e1 e2 ⊢
      have e3:=aK ((s.bw.length:Int)::C)
      rw[List.length_cons]at e3
      have f0:(A0++aJ ((s.bw.length:Int)::C)).length<=320000:=by rw[List.length_append]; omega
      generalize hB:A0++aJ ((s.bw.length:Int)::C)=B at f0 ⊢
      have eU:=ok.m x vq
      refine sh ?_
      refine cM true [2] (ed h.jK (B) [x.k,x.c.a,x.c.b,x.c.c,x.r] (by omega) (by simp) (by simpa[fk.ap]using eU)) ?_
      repeat (intro _; first|refine eK ?_|refine eP ?_)
      have g0:(B++aJ [x.k,x.c.a,x.c.b,x.c.c,x.r]).length<=700000+1000:=by
       have:=aK [x.k,x.c.a,x.c.b,x.c.c,x.r]
       rw[List.length_append,this]; simp only[List.length_cons,List.length_nil]; omega
      have e5:A0++aJ ((s.bw.length:Int)::(C++x.ap))=B++aJ [x.k,x.c.a,x.c.b,x.c.c,x.r]:=by
       rw[<-hB]; simp[aJ,fk.ap]
      refine sh ?_
      refine uP [0,1,2] (k+1) ?_ ?_ ?_
      ·omega
      ·omega
      ·refine iH ?_ ?_
       all_goals (rw[e1,e5]; try simp)
     ·rw[List.take_of_length_le (by omega)]
      clear hk h1
      have hA1:(A0++aJ ((s.bw.length:Int)::s.bw.flatMap fk.ap)).length<=320000:=by
       have:=cb (fk.ap) 5 s.bw fun y hy=>by first|exact Nat.le_refl _|(have:=n1.2 y hy; simp only[dN.ap,List.length_append,bY,List.length_cons,List.length_nil]; omega)
       rw[List.length_append,aK,List.length_cons]; omega
      generalize R7:A0++aJ ((s.bw.length:Int)::s.bw.flatMap fk.ap)=A1 at hA1 ⊢
      have n2:=ok.nx
      have hl2:aR .i64 (s.aW.length:Int):=by simp only[aR]; omega
      refine sh ?_
      refine cM true [2] (ed h.jK A1 [(s.aW.length:Int)] (by omega) (by simp) (by simpa using hl2)) ?_
      repeat (intro _; first|refine eK ?_|refine eP ?_)
      refine sh ?_
      refine eH 200 (fun k:Nat=>k<=s.aW.length) (fun k=>⟨[(1,.loc 0 1 0 0),(3,.aV 2 (A1++aJ ((s.aW.length:Int)::(s.aW.take k).flatMap dN.ap)).length),(10,.int .i64 k)],[(0,.var (R.ty 59) s.row),(2,.arr (R.ty 4) 1 (aT (A1++aJ ((s.aW.length:Int)::(s.aW.take k).flatMap dN.ap))))],3⟩) (fun k=>s.aW.length - k) (0) ?_ ?_
      ·exact Nat.zero_le _
      ·intro k hk
       dsimp only
       refine sh ?_
       refine cS (fun h1=> ?_) (fun h1=> ?_)
       ·obtain⟨x,hx⟩:∃u_,s.aW[k]? =some u_:=⟨_,List.getElem?_eq_getElem (by first|omega|(simp<;>omega))⟩
        refine sh ?_
        refine aa hx ?_
        have vq:=List.mem_of_getElem? hx
        have e1:=c8 (f:=dN.ap) hx
        have e2:=cb (dN.ap) 1000 (s.aW.take k) fun y hy=>by first|exact Nat.le_refl _|(have:=n2.2 y (List.mem_of_mem_take hy); simp only[dN.ap,List.length_append,bY,List.length_cons,List.length_nil]; omega)
        rw[List.length_take]at e2
        generalize (s.aW.take k).flatMap dN.ap=C at e1 e2 ⊢
        have e3:=aK ((s.aW.length:Int)::C)
        rw[List.length_cons]at e3
        have f0:(A1++aJ ((s.aW.length:Int)::C)).length<=570000:=by rw[List.length_append]; omega
        generalize hB:A1++aJ ((s.aW.length:Int)::C)=B at f0 ⊢
        have eU:=ok.x x vq
        have hxt:=n2.2 x vq
        have i1:aR .i64 x.side:=eU _ (by simp[dN.ap])
        have i2:aR .i64 (x.t.length:Int):=by simp only[aR]; omega
        refine sh ?_
        refine cM true [2] (ed h.jK (B) [x.side,(x.t.length:Int)] (by omega) (by simp) (by simpa using⟨i1,i2⟩)) ?_
        repeat (intro _; first|refine eK ?_|refine eP ?_)
        have g0:(B++aJ [x.side,(x.t.length:Int)]).length<=700000+1000:=by
         have:=aK [x.side,(x.t.length:Int)]
         rw[List.length_append,this]; simp only[List.length_cons,List.length_nil]; omega
        generalize hD:B++aJ [x.side,(x.t.length:Int)]=D at g0 ⊢
        refine sh ?_
        refine aj.inv 200 (fun j:Nat=>j<=x.t.length) (fun j=>⟨[(1,.loc 0 1 0 0),(3,.aV 2 (D++aJ (kV (x.t.take j))).length),(10,.int .i64 k),(11,.loc 3 1 0 0),(12,.int .i64 j)],[(0,.var (R.ty 59) s.row),(2,.arr (R.ty 4) 1 (aT (D++aJ (kV (x.t.take j))))),(3,.var (R.ty 12) x.row)],4⟩) (fun j=>x.t.length - j) (0) ?_ ⟨⟨_,hp,rfl⟩,?_,?_⟩ ?_
        ·exact Nat.zero_le _
        ·refine bj ?_
         all_goals simp[aJ,kV]
        ·refine bj ?_
         all_goals simp[aJ,kV]
        ·intro j hj
         dsimp only
         refine sh ?_
         refine cS (fun h2=> ?_) (fun h2=> ?_)
         ·have hy0:j<x.t.length:=by omega
          obtain⟨y,hy⟩:∃y,x.t[j]? =some y:=⟨_,List.getElem?_eq_getElem hy0⟩
          have kz:=List.mem_of_getElem? hy
          have q1:=uA hy
          have q2:=aK (kV (x.t.take j))
          rw[bY,List.length_take]at q2
          generalize kV (x.t.take j)=T at q1 q2 ⊢
          have q3:(D++aJ T).length<=740000:=by rw[List.length_append]; omega
          have q4:∀z ∈ [y.a,y.b,y.c],aR .i64 z:=fun z hz=>eU z (by simp only[dN.ap,List.mem_append]; exact .inr (List.mem_flatMap.2 ⟨y,kz,hz⟩))
          refine sh ?_
          refine aa hy ?_
          refine sh ?_
          refine aa hy ?_
          refine sh ?_
          refine aa hy ?_
          refine sh ?_
          refine cM true [2] (ed h.jK (D++aJ T) [y.a,y.b,y.c] (by omega) (by simp) q4) ?_
          repeat (intro _; first|refine eK ?_|refine eP ?_)
          refine sh ?_
          refine uP [0,1,2,3] (j+1) ?_ ?_ ?_
          ·omega
          ·omega
          ·refine iH ?_ ?_
           all_goals (rw[q1,r6]; try simp)
         ·rw[List.take_of_length_le (by omega)]
          have e5:A1++aJ ((s.aW.length:Int)::(C++x.ap))=D++aJ (kV x.t):=by
           rw[<-hD,<-hB]; simp[aJ,dN.ap]
          refine sh ?_
          refine uP [0,1,2] (k+1) ?_ ?_ ?_
          ·omega
          ·omega
          ·refine iH ?_ ?_
           all_goals (rw[e1,e5]; try simp)
       ·rw[List.take_of_length_le (by omega)]
        clear hk h1
        have hA2:(A1++aJ ((s.aW.length:Int)::s.aW.flatMap dN.ap)).length<=570000:=by
         have:=cb (dN.ap) 1000 s.aW fun y hy=>by first|exact Nat.le_refl _|(have:=n2.2 y hy; simp only[dN.ap,List.length_append,bY,List.length_cons,List.length_nil]; omega)
         rw[List.length_append,aK,List.length_cons]; omega
        generalize R8:A1++aJ ((s.aW.length:Int)::s.aW.flatMap dN.ap)=A2 at hA2 ⊢
        have n3:=ok.nl
        have hl3:aR .i64 (s.bG.length:Int):=by simp only[aR]; omega
        refine sh ?_
        refine cM true [2] (ed h.jK A2 [(s.bG.length:Int)] (by omega) (by simp) (by simpa using hl3)) ?_
        repeat (intro _; first|refine eK ?_|refine eP ?_)
        refine sh ?_
        refine eH 200 (fun k:Nat=>k<=s.bG.length) (fun k=>⟨[(1,.loc 0 1 0 0),(3,.aV 2 (A2++aJ ((s.bG.length:Int)::(s.bG.take k).flatMap eV.ap)).length),(13,.int .i64 k)],[(0,.var (R.ty 59) s.row),(2,.arr (R.ty 4) 1 (aT (A2++aJ ((s.bG.length:Int)::(s.bG.take k).flatMap eV.ap))))],3⟩) (fun k=>s.bG.length - k) (0) ?_ ?_
        ·exact Nat.zero_le _
        ·intro k hk
         dsimp only
         refine sh ?_
         refine cS (fun h1=> ?_) (fun h1=> ?_)
         ·obtain⟨x,hx⟩:∃u_,s.bG[k]? =some u_:=⟨_,List.getElem?_eq_getElem (by first|omega|(simp<;>omega))⟩
          refine sh ?_
          refine aa hx ?_
          have vq:=List.mem_of_getElem? hx
          have e1:=c8 (f:=eV.ap) hx
          have e2:=cb (eV.ap) 13 (s.bG.take k) fun y hy=>by first|exact Nat.le_refl _|(have:=n3.2 y (List.mem_of_mem_take hy); simp only[dN.ap,List.length_append,bY,List.length_cons,List.length_nil]; omega)
          rw[List.length_take]at e2
          generalize (s.bG.take k).flatMap eV.ap=C at e1 e2 ⊢
          have e3:=aK ((s.bG.length:Int)::C)
          rw[List.length_cons]at e3
          have f0:(A2++aJ ((s.bG.length:Int)::C)).length<=590000:=by rw[List.length_append]; omega
          generalize hB:A2++aJ ((s.bG.length:Int)::C)=B at f0 ⊢
          have eU:=ok.l x vq
          refine sh ?_
          refine cM true [2] (ed h.jK (B) [x.k,x.c.a,x.c.b,x.c.c,x.p.a,x.p.b,x.p.c,x.u.a,x.u.b,x.u.c,x.v.a,x.v.b,x.v.c] (by omega) (by simp) (by simpa[eV.ap,kV]using eU)) ?_
          repeat (intro _; first|refine eK ?_|refine eP ?_)
          have g0:(B++aJ [x.k,x.c.a,x.c.b,x.c.c,x.p.a,x.p.b,x.p.c,x.u.a,x.u.b,x.u.c,x.v.a,x.v.b,x.v.c]).length<=700000+1000:=by
           have:=aK [x.k,x.c.a,x.c.b,x.c.c,x.p.a,x.p.b,x.p.c,x.u.a,x.u.b,x.u.c,x.v.a,x.v.b,x.v.c]
           rw[List.length_append,this]; simp only[List.length_cons,List.length_nil]; omega
          have e5:A2++aJ ((s.bG.length:Int)::(C++x.ap))=B++aJ [x.k,x.c.a,x.c.b,x.c.c,x.p.a,x.p.b,x.p.c,x.u.a,x.u.b,x.u.c,x.v.a,x.v.b,x.v.c]:=by
           rw[<-hB]; simp[aJ,eV.ap,kV]
          refine sh ?_
          refine uP [0,1,2] (k+1) ?_ ?_ ?_
          ·omega
          ·omega
          ·refine iH ?_ ?_
           all_goals (rw[e1,e5]; try simp)
         ·rw[List.take_of_length_le (by omega)]
          clear hk h1
          have hA3:(A2++aJ ((s.bG.length:Int)::s.bG.flatMap eV.ap)).length<=590000:=by
           have:=cb (eV.ap) 13 s.bG fun y hy=>by first|exact Nat.le_refl _|(have:=n3.2 y hy; simp only[dN.ap,List.length_append,bY,List.length_cons,List.length_nil]; omega)
           rw[List.length_append,aK,List.length_cons]; omega
          generalize R9:A2++aJ ((s.bG.length:Int)::s.bG.flatMap eV.ap)=A3 at hA3 ⊢
          have n4:=ok.ni
          have hl4:aR .i64 (s.ids.length:Int):=by simp only[aR]; omega
          refine sh ?_
          refine cM true [2] (ed h.jK A3 [(s.ids.length:Int)] (by omega) (by simp) (by simpa using hl4)) ?_
          repeat (intro _; first|refine eK ?_|refine eP ?_)
          refine sh ?_
          refine eH 200 (fun k:Nat=>k<=s.ids.length) (fun k=>⟨[(1,.loc 0 1 0 0),(3,.aV 2 (A3++aJ ((s.ids.length:Int)::(s.ids.take k).flatMap (fun x=>[wr .i64 x]))).length),(15,.int .i64 k)],[(0,.var (R.ty 59) s.row),(2,.arr (R.ty 4) 1 (aT (A3++aJ ((s.ids.length:Int)::(s.ids.take k).flatMap (fun x=>[wr .i64 x])))))],3⟩) (fun k=>s.ids.length - k) (0) ?_ ?_
          ·exact Nat.zero_le _
          ·intro k hk
           dsimp only
           refine sh ?_
           refine cS (fun h1=> ?_) (fun h1=> ?_)
           ·obtain⟨x,hx⟩:∃u_,s.ids[k]? =some u_:=⟨_,List.getElem?_eq_getElem (by first|omega|(simp<;>omega))⟩
            refine sh ?_
            refine aa hx ?_
            have vq:=List.mem_of_getElem? hx
            have e1:=c8 (f:=fun x=>[wr .i64 x]) hx
            have e2:=cb (fun x=>[wr .i64 x]) 1 (s.ids.take k) fun y hy=>by first|exact Nat.le_refl _|(have:=n4.2 y (List.mem_of_mem_take hy); simp only[dN.ap,List.length_append,bY,List.length_cons,List.length_nil]; omega)
            rw[List.length_take]at e2
            generalize (s.ids.take k).flatMap (fun x=>[wr .i64 x])=C at e1 e2 ⊢
            have e3:=aK ((s.ids.length:Int)::C)
            rw[List.length_cons]at e3
            have f0:(A3++aJ ((s.ids.length:Int)::C)).length<=600000:=by rw[List.length_append]; omega
            generalize hB:A3++aJ ((s.ids.length:Int)::C)=B at f0 ⊢
            refine sh ?_
            refine bC ?_
            have i1:aR .i64 (wr .i64 x):=mB x
            refine sh ?_
            refine cM true [2] (ed h.jK (B) [wr .i64 x] (by omega) (by simp) (by simpa using i1)) ?_
            repeat (intro _; first|refine eK ?_|refine eP ?_)
            have g0:(B++aJ [wr .i64 x]).length<=700000+1000:=by
             have:=aK [wr .i64 x]
             rw[List.length_append,this]; simp only[List.length_cons,List.length_nil]; omega
            have e5:A3++aJ ((s.ids.length:Int)::(C++ [wr .i64 x]))=B++aJ [wr .i64 x]:=by
             rw[<-hB]; simp[aJ]
            refine sh ?_
            refine uP [0,1,2] (k+1) ?_ ?_ ?_
            ·omega
            ·omega
            ·refine iH ?_ ?_
             all_goals (rw[e1,e5]; try simp)
           ·rw[List.take_of_length_le (by omega)]
            clear hk h1
            have hA4:(A3++aJ ((s.ids.length:Int)::s.ids.flatMap (fun x=>[wr .i64 x]))).length<=600000:=by
             have:=cb (fun x=>[wr .i64 x]) 1 s.ids fun y hy=>by first|exact Nat.le_refl _|(have:=n4.2 y hy; simp only[dN.ap,List.length_append,bY,List.length_cons,List.length_nil]; omega)
             rw[List.length_append,aK,List.length_cons]; omega
            generalize R':A3++aJ ((s.ids.length:Int)::s.ids.flatMap (fun x=>[wr .i64 x]))=A4 at hA4 ⊢
            have n5:=ok.nb
            have hl5:aR .i64 (s.bL.length:Int):=by simp only[aR]; omega
            refine sh ?_
            refine cM true [2] (ed h.jK A4 [(s.bL.length:Int)] (by omega) (by simp) (by simpa using hl5)) ?_
            repeat (intro _; first|refine eK ?_|refine eP ?_)
            refine sh ?_
            refine eH 200 (fun k:Nat=>k<=s.bL.length) (fun k=>⟨[(1,.loc 0 1 0 0),(3,.aV 2 (A4++aJ ((s.bL.length:Int)::(s.bL.take k).flatMap (fun x=>[x]))).length),(16,.int .i64 k)],[(0,.var (R.ty 59) s.row),(2,.arr (R.ty 4) 1 (aT (A4++aJ ((s.bL.length:Int)::(s.bL.take k).flatMap (fun x=>[x])))))],3⟩) (fun k=>s.bL.length - k) (0) ?_ ?_
            ·exact Nat.zero_le _
            ·intro k hk
             dsimp only
             refine sh ?_
             refine cS (fun h1=> ?_) (fun h1=> ?_)
             ·obtain⟨x,hx⟩:∃u_,s.bL[k]? =some u_:=⟨_,List.getElem?_eq_getElem (by first|omega|(simp<;>omega))⟩
              refine sh ?_
              refine aa hx ?_
              have vq:=List.mem_of_getElem? hx
              have e1:=c8 (f:=fun x=>[x]) hx
              have e2:=cb (fun x=>[x]) 1 (s.bL.take k) fun y hy=>by first|exact Nat.le_refl _|(have:=n5.2 y (List.mem_of_mem_take hy); simp only[dN.ap,List.length_append,bY,List.length_cons,List.length_nil]; omega)
              rw[List.length_take]at e2
              generalize (s.bL.take k).flatMap (fun x=>[x])=C at e1 e2 ⊢
              have e3:=aK ((s.bL.length:Int)::C)
              rw[List.length_cons]at e3
              have f0:(A4++aJ ((s.bL.length:Int)::C)).length<=610000:=by rw[List.length_append]; omega
              generalize hB:A4++aJ ((s.bL.length:Int)::C)=B at f0 ⊢
              have i0:=ok.b x vq
              have i1:0<=x/\x<=4294967295:=by simp only[aR]at i0; omega
              have i2:aR .i64 x:=by simp only[aR]; omega
              refine sh ?_
              refine cM true [2] (ed h.jK (B) [x] (by omega) (by simp) (by simpa using i2)) ?_
              repeat (intro _; first|refine eK ?_|refine eP ?_)
              have g0:(B++aJ [x]).length<=700000+1000:=by
               have:=aK [x]
               rw[List.length_append,this]; simp only[List.length_cons,List.length_nil]; omega
              have e5:A4++aJ ((s.bL.length:Int)::(C++ [x]))=B++aJ [x]:=by
               rw[<-hB]; simp[aJ]
              refine sh ?_
              refine uP [0,1,2] (k+1) ?_ ?_ ?_
              ·omega
              ·omega
              ·refine iH ?_ ?_
               all_goals (rw[e1,e5]; try simp)
             ·rw[List.take_of_length_le (by omega)]
              clear hk h1
              have hA5:(A4++aJ ((s.bL.length:Int)::s.bL.flatMap (fun x=>[x]))).length<=610000:=by
               have:=cb (fun x=>[x]) 1 s.bL fun y hy=>by first|exact Nat.le_refl _|(have:=n5.2 y hy; simp only[dN.ap,List.length_append,bY,List.length_cons,List.length_nil]; omega)
               rw[List.length_append,aK,List.length_cons]; omega
              generalize Sa:A4++aJ ((s.bL.length:Int)::s.bL.flatMap (fun x=>[x]))=A5 at hA5 ⊢
              obtain⟨z1,z2,z3⟩:=ok.e
              have y1:0<=s.nz/\s.nz<=4294967295:=by simp only[aR]at z1; omega
              have y2:0<=s.fr/\s.fr<=4294967295:=by simp only[aR]at z2; omega
              have y3:0<=s.to/\s.to<=4294967295:=by simp only[aR]at z3; omega
              refine sh ?_
              refine cM true [2] (ed h.jK A5 [s.nz,s.fr,s.to] (by omega) (by simp) (by simp only[List.mem_cons,List.not_mem_nil,or_false,aR]; omega)) ?_
              repeat (intro _; first|refine eK ?_|refine eP ?_)
              have e9:aJ s.ap=A5++aJ [s.nz,s.fr,s.to]:=by
               rw[<-Sa,<-R',<-R9,<-R8,<-R7,<-R6]; simp[cV.ap,AA,aJ]
              rw[e9]
              refine sh ?_
              exact rT
end Go.UM
namespace Go.UM
open Go.AM
set_option maxRecDepth 4000
theorem NV{R:Env}(h:N47 R)(a b:List UInt8):R.Pc 47 [.aD 1 (aT a),.aD 1 (aT b)] (.bool (a==b)):=
 h.o47.enter 60 rfl fun X bb hfit hp=>by
  refine sh ?_
  exact rT
end Go.UM
namespace Go.UM
open Go.AM
set_option maxRecDepth 4000
end Go.UM
namespace Go.UM
open Go.AM
set_option maxRecDepth 4000
def cX(f:Mf)(l:Int):Int:=if l<0\/ 8<=l then 0 else f.gv l.toNat
abbrev mkR(f:Mf):List AV:=[.int .u8 f.m0,.int .u8 f.m1,.int .u8 f.m2,.int .u8 f.m3,.int .u8 f.m4,.int .u8 f.m5,.int .u8 f.m6,.int .u8 f.m7]
theorem r7{R:Env}(h:Zy R)(f:Mf)(l:Int):R.Pc 11 [.agg (mkR f),.int .i64 l] (.int .u8 (cX f l)):=
 h.V3.enter 60 rfl fun X b hfit hp=>by
  refine sh ?_
  refine cS (fun h1=> ?_) (fun h1=> ?_)
  ·refine sh ?_
   refine rT ?_
   refine bj ?_
   simp[cX,h1]
  ·refine sh ?_
   refine cS (fun h2=> ?_) (fun h2=> ?_)
   ·refine sh ?_
    refine rT ?_
    refine bj ?_
    have h2:8<=l:=by omega
    simp[cX,h2]
   ·refine st ?_
    obtain h3|h3|h3|h3|h3|h3|h3|h3:l=0\/ l=1\/ l=2\/ l=3\/ l=4\/ l=5\/ l=6\/ l=7:=by omega
    all_goals subst h3; intro _u; clear _u
    all_goals first|refine iV 0 rfl rfl ?_|refine iV 1 rfl rfl ?_|refine iV 2 rfl rfl ?_|refine iV 3 rfl rfl ?_|refine iV 4 rfl rfl ?_|refine iV 5 rfl rfl ?_|refine iV 6 rfl rfl ?_|refine iV 7 rfl rfl ?_
    all_goals
     refine sh ?_
     exact rT
theorem uC{R:Env}(h:LH R)(f:Mf)(l:Int):R.Pc 514 [.agg (mkR f),.int .i64 l] (.int .u8 (cX f l)):=
 h.LI.enter 60 rfl fun X b hfit hp=>by
  refine sh ?_
  refine cS (fun h1=> ?_) (fun h1=> ?_)
  ·refine sh ?_
   refine rT ?_
   refine bj ?_
   simp[cX,h1]
  ·refine sh ?_
   refine cS (fun h2=> ?_) (fun h2=> ?_)
   ·refine sh ?_
    refine rT ?_
    refine bj ?_
    have h2:8<=l:=by omega
    simp[cX,h2]
   ·refine st ?_
    obtain h3|h3|h3|h3|h3|h3|h3|h3:l=0\/ l=1\/ l=2\/ l=3\/ l=4\/ l=5\/ l=6\/ l=7:=by omega
    all_goals subst h3; intro _u; clear _u
    all_goals first|refine iV 0 rfl rfl ?_|refine iV 1 rfl rfl ?_|refine iV 2 rfl rfl ?_|refine iV 3 rfl rfl ?_|refine iV 4 rfl rfl ?_|refine iV 5 rfl rfl ?_|refine iV 6 rfl rfl ?_|refine iV 7 rfl rfl ?_
    all_goals
     refine sh ?_
     exact rT
theorem MN{R:Env}(h:N12 R)(f:Mf)(l:Int):R.Pc 12 [.agg (mkR f),.int .i64 l] (.bool (cX f l != 0)):=
 h.o12.enter 60 rfl fun X b hfit hp=>by
  refine sh ?_
  refine ae.pure h.n11.V3.hb (r7 h.n11 f l) rfl ?_
  refine sh ?_
  exact rT
def AL(a b:Int):Int:=eX .or .u32 a b
theorem Ji{a:Int}(h:aR .u32 a):AL 0 a=a:=by
 have h:0<=a/\a<=4294967295:=h
 obtain⟨n,rfl⟩:∃n:Nat,a=n:=⟨a.toNat,by omega⟩
 have hn:n<2 ^ 32:=by omega
 show IntKind.wrap .u32 ((BitVec.ofInt 32 0||| BitVec.ofInt 32 (n:Int)).toNat:Int)=_
 have e1:(BitVec.ofInt 32 0||| BitVec.ofInt 32 (n:Int))=BitVec.ofNat 32 n:=by simp
 rw[e1,BitVec.toNat_ofNat,Nat.mod_eq_of_lt hn]
 show IntKind.wrap .u32 (n:Int)=_
 simp[IntKind.wrap,IntKind.bits,IntKind.signed]
 omega
theorem Jj(a b:Int):aR .u32 (AL a b):=by
 have:((BitVec.ofInt 32 a||| BitVec.ofInt 32 b).toNat:Int)<4294967296:=by
  have:=(BitVec.ofInt 32 a||| BitVec.ofInt 32 b).isLt
  omega
 show 0<=IntKind.wrap .u32 ((BitVec.ofInt 32 a||| BitVec.ofInt 32 b).toNat:Int)/\IntKind.wrap .u32 ((BitVec.ofInt 32 a||| BitVec.ofInt 32 b).toNat:Int)<=4294967295
 generalize ((BitVec.ofInt 32 a||| BitVec.ofInt 32 b).toNat:Int)=z at this
 simp[IntKind.wrap,IntKind.bits,IntKind.signed]
 omega
theorem Jk{R:Env}(h:Zx R)(x y:Int):R.Pc 17 [.int .u32 x,.int .u32 y] (.int .u32 (AL x y)):=
 h.o17.enter 60 rfl fun X b hfit hp=>by
  refine sh ?_
  exact rT
theorem MO{R:Env}(h:Q6 R)(x y:Int):R.Pc 512 [.int .u32 x,.int .u32 y] (.int .u32 (AL x y)):=
 h.Xy.enter 60 rfl fun X b hfit hp=>by
  refine sh ?_
  exact rT
theorem Jl{R:Env}(h:N16 R)(k:Zx R)(a b:Int)(ha:aR .u32 a):R.Pc 16 [.int .u32 0,.aD 1 (bp .u32 [a,b]),.ce (.fn (R.ft 17)) []] (.int .u32 (AL a b)):=
 h.o16.enter 60 rfl fun X bb hfit hp=>by
  refine sh ?_
  refine aj.one 100 ?_
  refine sh ?_
  refine af (by rfl) ?_
  obtain⟨x,hx⟩:∃u_,[a,b][0]? =some u_:=⟨_,List.getElem?_eq_getElem (by first|omega|(simp<;>omega))⟩
  refine sh ?_
  refine aa hx ?_
  obtain rfl:x=a:=by simpa using hx.symm
  refine sh ?_
  refine ae.pure k.o17.hb (Jk k _ _) rfl ?_
  rw[Ji ha]
  refine sh ?_
  refine aj.one 100 ?_
  refine sh ?_
  refine af (by rfl) ?_
  obtain⟨y,hy⟩:∃u_,[x,b][1]? =some u_:=⟨_,List.getElem?_eq_getElem (by first|omega|(simp<;>omega))⟩
  refine sh ?_
  refine aa hy ?_
  obtain rfl:y=b:=by simpa using hy.symm
  refine sh ?_
  refine ae.pure k.o17.hb (Jk k _ _) rfl ?_
  refine sh ?_
  refine aj.one 100 ?_
  refine sh ?_
  refine ay (by rfl) ?_
  refine sh ?_
  exact rT
theorem MP{R:Env}(h:N4 R)(a b:Int)(ha:aR .u32 a):R.Pc 4 [.aD 1 (bp .u32 [a,b])] (.int .u32 (AL a b)):=
 h.o4.enter 60 rfl fun X bb hfit hp=>by
  refine sh ?_
  refine ae.pure h.n16.o16.hb (Jl h.n16 h.n17 a b ha) rfl ?_
  refine sh ?_
  exact rT
theorem Jm{R:Env}(h:Zz R)(a b:Int)(m:Mf):R.Pc 19 [.agg [.int .u32 a,.int .u32 b],.agg m.row] (.agg [.int .u32 (max a m.first),.int .u32 (min b m.last)]):=
 h.o19.enter 60 rfl fun X bb hfit hp=>by
  refine sh ?_
  exact rT
theorem Jn{R:Env}(h:N18 R)(k:Zz R)(a b:Int)(m:Mf):R.Pc 18 [.agg [.int .u32 a,.int .u32 b],.aD 15 [m.row],.ce (.fn (R.ft 19)) []] (.agg [.int .u32 (max a m.first),.int .u32 (min b m.last)]):=
 h.o18.enter 60 rfl fun X bb hfit hp=>by
  refine sh ?_
  refine aj.one 100 ?_
  refine sh ?_
  refine af (by rfl) ?_
  refine sh ?_
  refine aa (f:=Mf.row) (l:=[m]) (i:=0) rfl ?_
  refine sh ?_
  refine ae.pure k.o19.hb (Jm k a b m) rfl ?_
  refine sh ?_
  refine aj.one 100 ?_
  refine sh ?_
  refine ay (by rfl) ?_
  refine sh ?_
  exact rT
theorem Jo{R:Env}(h:N14 R)(a b:Int)(m:Mf):R.Pc 14 [.int .u32 a,.int .u32 b,.aD 15 [m.row]] (.aQ [.int .u32 (max a m.first),.int .u32 (min b m.last)]):=
 h.o14.enter 60 rfl fun X bb hfit hp=>by
  refine sh ?_
  refine ae.pure h.n18.o18.hb (Jn h.n18 h.n19 a b m) rfl ?_
  refine sh ?_
  exact rT
def oI(n:Int):Int:=if n=0 then 16 else if n=1 then 64 else if n=2 then 256 else 0
def uD(n:Int):Int:=if n=0 then 4 else if n=1 then 4 else if n=2 then 8 else 0
theorem MQ{R:Env}(h:Qp R)(n:Int):R.Pc 495 [.int .i64 n] (.aQ [.int .i64 (oI n),.int .i64 (uD n)]):=
 h.Wp.enter 60 rfl fun X bb hfit hp=>by
  unfold oI uD
  refine sh ?_
  refine cS (fun h0=> ?_) (fun h0=> ?_)
  ·rw[if_pos h0,if_pos h0]
   refine sh ?_
   exact rT
  ·rw[if_neg h0,if_neg h0]
   refine sh ?_
   refine cS (fun h1=> ?_) (fun h1=> ?_)
   ·rw[if_pos h1,if_pos h1]
    refine sh ?_
    exact rT
   ·rw[if_neg h1,if_neg h1]
    refine sh ?_
    refine cS (fun h2=> ?_) (fun h2=> ?_)
    ·rw[if_pos h2,if_pos h2]
     refine sh ?_
     exact rT
    ·rw[if_neg h2,if_neg h2]
     refine sh ?_
     exact rT
def iE(s:cV)(n:Int):Int:=if oI n<s.aS.length\/ uD n<s.bG.length then 15 else 0
theorem Jp{R:Env}(h:Qq R)(s:cV)(n:Int):R.Pc 496 [.agg s.row,.int .i64 n] (.int .i64 (iE s n)):=
 h.Qr.enter 60 rfl fun X bb hfit hp=>by
  refine sh ?_
  refine ae.pure h.Lr.Wp.hb (MQ h.Lr n) rfl ?_
  refine sh ?_
  refine cS (fun k1=> ?_) (fun k1=> ?_)
  ·rw[iE,if_pos (by omega)]
   refine sh ?_
   exact rT
  ·refine sh ?_
   refine cS (fun k2=> ?_) (fun k2=> ?_)
   ·rw[iE,if_pos (by omega)]
    refine sh ?_
    exact rT
   ·rw[iE,if_neg (by omega)]
    refine sh ?_
    exact rT
theorem DG{R:Env}(h:Rf R)(s:cV)(n:Int):R.Pc 503 [.agg s.row,.int .i64 n] (.int .i64 (iE s n)):=
 h.Rg.enter 60 rfl fun X bb hfit hp=>by
  refine sh ?_
  refine cS (fun h0=> ?_) (fun h0=> ?_)
  ·refine sh ?_
   refine cS (fun k1=> ?_) (fun k1=> ?_)
   ·rw[iE,if_pos (by unfold oI; omega)]
    refine sh ?_
    exact rT
   ·refine sh ?_
    refine cS (fun k2=> ?_) (fun k2=> ?_)
    ·rw[iE,if_pos (by unfold oI uD; omega)]
     refine sh ?_
     exact rT
    ·rw[iE,if_neg (by unfold oI uD; omega)]
     refine sh ?_
     exact rT
  ·refine sh ?_
   refine cS (fun h1=> ?_) (fun h1=> ?_)
   ·refine sh ?_
    refine cS (fun k1=> ?_) (fun k1=> ?_)
    ·rw[iE,if_pos (by unfold oI; omega)]
     refine sh ?_
     exact rT
    ·refine sh ?_
     refine cS (fun k2=> ?_) (fun k2=> ?_)
     ·rw[iE,if_pos (by unfold oI uD; omega)]
      refine sh ?_
      exact rT
     ·rw[iE,if_neg (by unfold oI uD; omega)]
      refine sh ?_
      exact rT
   ·refine sh ?_
    refine cS (fun h2=> ?_) (fun h2=> ?_)
    ·refine sh ?_
     refine cS (fun k1=> ?_) (fun k1=> ?_)
     ·rw[iE,if_pos (by unfold oI; omega)]
      refine sh ?_
      exact rT
     ·refine sh ?_
      refine cS (fun k2=> ?_) (fun k2=> ?_)
      ·rw[iE,if_pos (by unfold oI uD; omega)]
       refine sh ?_
       exact rT
      ·rw[iE,if_neg (by unfold oI uD; omega)]
       refine sh ?_
       exact rT
    ·refine sh ?_
     refine cS (fun k1=> ?_) (fun k1=> ?_)
     ·rw[iE,if_pos (by unfold oI; omega)]
      refine sh ?_
      exact rT
     ·refine sh ?_
      refine cS (fun k2=> ?_) (fun k2=> ?_)
      ·rw[iE,if_pos (by unfold oI uD; omega)]
       refine sh ?_
       exact rT
      ·rw[iE,if_neg (by unfold oI uD; omega)]
       refine sh ?_
       exact rT
end Go.UM
namespace Go.UM
open Go.AM
set_option maxRecDepth 4000
structure jF where
 s:cV
 ms:List Rw
 pl:List (Int × Int)
 ks:List (Int × Int)
def cV.nA:cV:=⟨[],[],[],[],[],[],0,0,4294967295⟩
def jF.nA:jF:=⟨cV.nA,[],[],[]⟩
def cO(s:cV)(r:Rw):cV:=⟨s.aS,if r.a.k=3 then s.bw++ [r.a.mt]else s.bw,if r.a.k=2 then s.aW++ [r.a.x]else s.aW,if r.a.k=4 then s.bG++ [r.a.li]else s.bG,s.ids++ [r.f.id],s.bL++ [r.f.label],AL s.nz r.f.label,max s.fr r.f.first,min s.to r.f.last⟩
def qu(lay:Int)(z:jF)(r:Rw):jF:=if cX r.f lay=0 then z else
 ⟨cO z.s r,if r.a.k=1 then z.ms++ [r]else z.ms,z.pl++ [(r.h,(z.s.ids.length:Int))],if r.a.k=3 then z.ks++ [(r.h,(z.s.bw.length:Int))]else if r.a.k=2 then z.ks++ [(r.h,(z.s.aW.length:Int))]else z.ks⟩
def iT(lay:Int)(l:List Rw):jF:=l.foldl (qu lay) jF.nA
theorem wT(lay:Int)(l:List Rw)(r:Rw):iT lay (l++ [r])=qu lay (iT lay l) r:=by simp[iT]
theorem mF{P:List Rw->jF->Prop}(lay:Int)(h0:P [] jF.nA)(hs:∀l z r,P l z->P (l++ [r]) (qu lay z r))(l:List Rw):P l (iT lay l):=by
 have:∀n,∀l:List Rw,l.length=n->P l (iT lay l):=by
  intro n
  induction n with
  |zero=>intro l hl; rw[List.eq_nil_of_length_eq_zero hl]; exact h0
  |succ n ih=>
   intro l hl
   obtain⟨m,r,rfl⟩:∃m r,l=m++ [r]:=⟨l.dropLast,l.getLast (by intro e; simp[e]at hl),(List.dropLast_concat_getLast _).symm⟩
   rw[wT]
   exact hs m _ r (ih m (by simpa using hl))
 exact this _ l rfl
structure Yj(n:Nat)(z:jF):Prop where
 t:z.s.aS=[]
 m:z.s.bw.length<=n
 x:z.s.aW.length<=n
 l:z.s.bG.length<=n
 i:z.s.ids.length<=n
 b:z.s.bL.length<=n
 c:aR .u32 z.s.nz
 ms:z.ms.length<=n
 pl:z.pl.length<=n
 ks:z.ks.length<=n
theorem DH(lay:Int)(l:List Rw):Yj l.length (iT lay l):=by
 refine mF (P:=fun l z=>Yj l.length z) lay ⟨rfl,Nat.le_refl _,Nat.le_refl _,Nat.le_refl _,Nat.le_refl _,Nat.le_refl _,⟨by decide,by decide⟩,Nat.le_refl _,Nat.le_refl _,Nat.le_refl _⟩ (fun l z r h=> ?_) l
 obtain⟨h0,h1,h2,h3,h4,h5,h6,h7,h8,h9⟩:=h
 have e:(l++ [r]).length=l.length+1:=by simp
 rw[e]
 unfold qu cO
 split
 ·exact⟨h0,by omega,by omega,by omega,by omega,by omega,h6,by omega,by omega,by omega⟩
 ·refine⟨h0,?_,?_,?_,?_,?_,Jj _ _,?_,?_,?_⟩<;>dsimp only<;>repeat' split
  all_goals (try simp only[List.length_append,List.length_singleton]); omega
theorem Jq(lay:Int)(l:List Rw):(∀q ∈ (iT lay l).ms,q ∈ l)/\(∀q ∈ (iT lay l).pl,∃r ∈ l,r.h=q.1)/\(∀q ∈ (iT lay l).ks,∃r ∈ l,r.h=q.1):=by
 refine mF (P:=fun l z=>(∀q ∈ z.ms,q ∈ l)/\(∀q ∈ z.pl,∃r ∈ l,r.h=q.1)/\(∀q ∈ z.ks,∃r ∈ l,r.h=q.1)) lay (by simp[jF.nA]) (fun l z r h=> ?_) l
 obtain⟨h1,h2,h3⟩:=h
 have up:∀{q:Int × Int},(∃r ∈ l,r.h=q.1)->∃x ∈ l++ [r],x.h=q.1:=fun⟨x,hx,e⟩=>⟨x,by simp[hx],e⟩
 have top:∀{q:Int × Int},q.1=r.h->∃x ∈ l++ [r],x.h=q.1:=fun e=>⟨r,by simp,e.symm⟩
 unfold qu
 split
 ·exact⟨fun q hq=>by simp[h1 q hq],fun q hq=>up (h2 q hq),fun q hq=>up (h3 q hq)⟩
 ·refine⟨fun q hq=> ?_,fun q hq=> ?_,fun q hq=> ?_⟩
  ·dsimp only at hq
   split at hq
   ·rcases List.mem_append.1 hq with k|k
    ·simp[h1 q k]
    ·simp at k; simp[k]
   ·simp[h1 q hq]
  ·rcases List.mem_append.1 hq with k|k
   ·exact up (h2 q k)
   ·simp at k; exact top (by rw[k])
  ·dsimp only at hq
   split at hq
   ·rcases List.mem_append.1 hq with k|k
    ·exact up (h3 q k)
    ·simp at k; exact top (by rw[k])
   ·split at hq
    ·rcases List.mem_append.1 hq with k|k
     ·exact up (h3 q k)
     ·simp at k; exact top (by rw[k])
    ·exact up (h3 q hq)
def eT(l:List (Int × Int))(h:Int):Option Int:=(l.find? fun q=>q.1==h).map (·.2)
theorem acB{h:Int}{l:List (Int × Int)}:∀e ∈ dH l,dZ [.i] [.int .i64 h] e=true:=by
 intro e he
 obtain⟨r,_,rfl⟩:=List.mem_map.1 he
 rfl
theorem Cs(h:Int):∀l:List (Int × Int),∃i:Nat,bR [.int .i64 h] (dH l)=(eT l h).map fun v=>(i,[.int .i64 v])
 |[]=>⟨0,rfl⟩
 |r::l=>by
  obtain⟨i,hi⟩:=Cs h l
  have e:kU [.int .i64 h] (p2 r)=(r.1==h):=by
   show ((h==r.1)&&true)=_
   rw[Bool.and_true]; exact Bool.beq_comm
  by_cases hh:(r.1==h)=true
  ·refine⟨0,?_⟩
   show (if kU [.int .i64 h] (p2 r)then some (0,(p2 r).drop 1)else _)=_
   rw[e,if_pos hh]; simp only[eT,List.find?_cons,hh]; rfl
  ·refine⟨i+1,?_⟩
   show (if kU [.int .i64 h] (p2 r)then some (0,(p2 r).drop 1)else (bR [.int .i64 h] (dH l)).map fun q=>(q.1+1,q.2))=_
   rw[e,if_neg hh,hi]; simp only[eT,List.find?_cons,hh]
   cases List.find? (fun q=>q.1==h) l<;>rfl
theorem AB{h:Int}{l:List (Int × Int)}{K:Option (Nat × List AV)->Prop}(k:∀i:Nat,K ((eT l h).map fun v=>(i,[.int .i64 v]))):JK [.i] [.int .i64 h] (dH l) K:=by
 obtain⟨i,hi⟩:=Cs h l
 exact⟨acB,by rw[hi]; exact k i⟩
theorem wU{l:List (Int × Int)}{h:Int}(hn:∀q ∈ l,q.1≠h):eT l h=none:=by
 unfold eT
 rw[List.find?_eq_none.2 fun q hq=>by simpa using hn q hq]; rfl
theorem AC{l:List Rw}{h:Int}(hn:∀q ∈ l,q.h≠h):be l h=none:=by
 unfold be
 exact List.find?_eq_none.2 fun q hq=>by simpa using hn q hq
abbrev Ct(R:Env)(z:jF):ah:=[(0,.var (R.ty 61) [.aV 4 z.s.aS.length,.aV 5 z.s.bw.length,.aV 6 z.s.aW.length,.aV 7 z.s.bG.length,.aV 8 z.s.ids.length,.aV 9 z.s.bL.length,.int .u32 z.s.nz,.int .u32 z.s.fr,.int .u32 z.s.to,.omap 1,.omap 2,.omap 3]),
 (1,.map 1 false true true 41 (iI z.ms)),(2,.map 1 false false true 2 (dH z.pl)),(3,.map 1 false false true 2 (dH z.ks)),
 (4,.arr (R.ty 60) 19 (oH z.s.aS)),(5,.arr (R.ty 40) 5 (gP z.s.bw)),(6,.arr (R.ty 12) 2 (gn z.s.aW)),(7,.arr (R.ty 41) 13 (gQ z.s.bG)),(8,.arr (R.ty 6) 1 (bp .u64 z.s.ids)),(9,.arr (R.ty 0) 1 (bp .u32 z.s.bL))]
abbrev NW(R:Env):ah:=[(0,.var (R.ty 61) [.ai,.ai,.ai,.ai,.ai,.ai,.int .u32 0,.int .u32 0,.int .u32 0,.omap 1,.omap 2,.omap 3]),
 (1,.map 1 false true true 41 []),(2,.map 1 false false true 2 []),(3,.map 1 false false true 2 [])]
set_option maxHeartbeats 8000000 in
theorem MR{R:Env}(h:Qj R)(L:List Rw)(lay:Int)(hl:L.length<=1000000)(asc:L.Pairwise fun a b=>a.h<b.h):
  R.Mc 505 [.loc 0 1 0 0,.aD 40 (gT L),.int .i64 lay] (NW R) (.aQ []) (Ct R (iT lay L)) 10:=
 h.abU.aY 200 4 rfl rfl rfl fun X bb hfit hp=>by
  unfold NW
  refine sh ?_
  refine eH 200 (fun i:Nat=>i<=L.length) (fun i=>⟨[(0,.loc 0 1 0 0),(2,.int .i64 lay),(12,.aD 40 (gT L)),(13,.int .i64 L.length),(14,.int .i64 i)],Ct R (iT lay (L.take i)),10⟩) (fun i=>L.length - i) (0) ?_ ?_
  ·exact Nat.zero_le _
  ·intro i hi
   dsimp only
   have B:=DH lay (L.take i)
   have Kx:=Jq lay (L.take i)
   have ht:(L.take i).length=i:=by rw[List.length_take]; omega
   rw[ht]at B
   refine sh ?_
   refine cS (fun h1=> ?_) (fun h1=> ?_)
   ·obtain⟨r,hr⟩:∃u_,L[i]? =some u_:=⟨_,List.getElem?_eq_getElem (by first|omega|(simp<;>omega))⟩
    refine sh ?_
    refine aa hr ?_
    have e2:iT lay (L.take (i+1))=qu lay (iT lay (L.take i)) r:=by rw[ao hr,wT]
    have lt:∀q ∈ L.take i,q.h≠r.h:=fun q hq=>by
     obtain⟨j,hj,rfl⟩:=List.getElem_of_mem hq
     rw[List.getElem_take]
     obtain⟨a1,rfl⟩:=List.getElem?_eq_some_iff.1 hr
     have:=List.pairwise_iff_getElem.1 asc j i (by omega) a1 (by omega)
     omega
    obtain⟨z,hz⟩:∃z,iT lay (L.take i)=z:=⟨_,rfl⟩
    rw[hz]at e2 B Kx ⊢
    obtain⟨b0,b1,b2,b3,b4,b5,b6,b7,b8,b9⟩:=B
    obtain⟨k1,k2,k3⟩:=Kx
    have g1:be z.ms r.h=none:=AC fun q hq=>lt q (k1 q hq)
    have g2:eT z.pl r.h=none:=wU fun q hq=>by obtain⟨x,hx,e⟩:=k2 q hq; rw[<-e]; exact lt x hx
    have g3:eT z.ks r.h=none:=wU fun q hq=>by obtain⟨x,hx,e⟩:=k3 q hq; rw[<-e]; exact lt x hx
    unfold qu at e2
    refine sh ?_
    refine ae.pure h.n12.o12.hb (MN h.n12 r.f lay) rfl ?_
    by_cases hb:cX r.f lay=0
    ·refine sh ?_
     refine af (by simp[hb]) ?_
     rw[if_pos hb]at e2
     refine sh ?_
     refine nX (i+1) ?_ ?_ ⟨_,hp,rfl⟩ ?_ ?_
     ·omega
     ·omega
     ·exact fu
      all_goals (rw[e2]; done)
     ·all_goals repeat' (first|exact True.intro|refine And.intro ?_ ?_|(intro _u; clear _u)|(with_reducible first|exact eu.fg|refine eM ?_ ?_|refine eF ?_ ?_ ?_|refine eN ?_|refine eL ?_ ?_ ?_|refine eA ?_ ?_|refine jy.mk ⟨_,hp,rfl⟩ ?_ ?_)|refine jy.mk ⟨_,hp,rfl⟩ ?_ ?_)
      all_goals try first|with_reducible rfl|omega|exact .inl (by decide)|(simp; done)|rfl
      all_goals (rw[e2]; done)
    ·refine sh ?_
     refine ay (by simp[hb]) ?_
     rw[if_neg hb]at e2
     refine sh ?_
     refine AB fun j=> ?_
     rw[g2]
     dsimp only[Option.map_none]
     refine sh ?_
     refine cM true [] ((MP h.n4 z.s.nz r.f.label b6).mc h.n4.o4.hb) ?_
     repeat (intro _; first|refine eK ?_|refine eP ?_)
     refine sh ?_
     refine cM true [] ((Jo h.n14 z.s.fr z.s.to r.f).mc h.n14.o14.hb) ?_
     repeat (intro _; first|refine eK ?_|refine eP ?_)
     refine sh ?_
     refine cS (fun q1=> ?_) (fun q1=> ?_)
     ·have e3:iT lay (L.take (i+1))=⟨cO z.s r,z.ms++ [r],z.pl++ [(r.h,(z.s.ids.length:Int))],z.ks⟩:=by rw[e2]; simp[q1]
      have e4:cO z.s r=⟨z.s.aS,z.s.bw,z.s.aW,z.s.bG,z.s.ids++ [r.f.id],z.s.bL++ [r.f.label],AL z.s.nz r.f.label,max z.s.fr r.f.first,min z.s.to r.f.last⟩:=by unfold cO; simp[q1]
      rw[e4]at e3
      refine sh ?_
      refine oz fun j=> ?_
      rw[g1]
      dsimp only[Option.map_none]
      refine sh ?_
      refine nX (i+1) ?_ ?_ ⟨_,hp,rfl⟩ ?_ ?_
      ·omega
      ·omega
      ·exact fu
      ·all_goals repeat' (first|exact True.intro|refine And.intro ?_ ?_|(intro _u; clear _u)|(with_reducible first|exact eu.fg|refine eM ?_ ?_|refine eF ?_ ?_ ?_|refine eN ?_|refine eL ?_ ?_ ?_|refine eA ?_ ?_|refine jy.mk ⟨_,hp,rfl⟩ ?_ ?_)|refine jy.mk ⟨_,hp,rfl⟩ ?_ ?_)
       all_goals try first|with_reducible rfl|omega|exact .inl (by decide)|(simp; done)|rfl
       all_goals first|(rw[e3]; done)|(rw[e3]; simp[bp,dH,p2,iI,vp,Rw.row,gP,gn,gQ,fk.row,dN.row,eV.row]; done)
     ·refine sh ?_
      refine cS (fun q3=> ?_) (fun q3=> ?_)
      ·have e3:iT lay (L.take (i+1))=⟨cO z.s r,z.ms,z.pl++ [(r.h,(z.s.ids.length:Int))],z.ks++ [(r.h,(z.s.bw.length:Int))]⟩:=by rw[e2]; simp[q3]
       have e4:cO z.s r=⟨z.s.aS,z.s.bw++ [r.a.mt],z.s.aW,z.s.bG,z.s.ids++ [r.f.id],z.s.bL++ [r.f.label],AL z.s.nz r.f.label,max z.s.fr r.f.first,min z.s.to r.f.last⟩:=by unfold cO; simp[q3]
       rw[e4]at e3
       refine sh ?_
       refine AB fun j=> ?_
       rw[g3]
       dsimp only[Option.map_none]
       refine sh ?_
       refine nX (i+1) ?_ ?_ ⟨_,hp,rfl⟩ ?_ ?_
       ·omega
       ·omega
       ·exact fu
       ·all_goals repeat' (first|exact True.intro|refine And.intro ?_ ?_|(intro _u; clear _u)|(with_reducible first|exact eu.fg|refine eM ?_ ?_|refine eF ?_ ?_ ?_|refine eN ?_|refine eL ?_ ?_ ?_|refine eA ?_ ?_|refine jy.mk ⟨_,hp,rfl⟩ ?_ ?_)|refine jy.mk ⟨_,hp,rfl⟩ ?_ ?_)
        all_goals try first|with_reducible rfl|omega|exact .inl (by decide)|(simp; done)|rfl
        all_goals first|(rw[e3]; done)|(rw[e3]; simp[bp,dH,p2,iI,vp,Rw.row,gP,gn,gQ,fk.row,dN.row,eV.row]; done)
      ·refine sh ?_
       refine cS (fun q2=> ?_) (fun q2=> ?_)
       ·have e3:iT lay (L.take (i+1))=⟨cO z.s r,z.ms,z.pl++ [(r.h,(z.s.ids.length:Int))],z.ks++ [(r.h,(z.s.aW.length:Int))]⟩:=by rw[e2]; simp[q2]
        have e4:cO z.s r=⟨z.s.aS,z.s.bw,z.s.aW++ [r.a.x],z.s.bG,z.s.ids++ [r.f.id],z.s.bL++ [r.f.label],AL z.s.nz r.f.label,max z.s.fr r.f.first,min z.s.to r.f.last⟩:=by unfold cO; simp[q2]
        rw[e4]at e3
        refine sh ?_
        refine AB fun j=> ?_
        rw[g3]
        dsimp only[Option.map_none]
        refine sh ?_
        refine nX (i+1) ?_ ?_ ⟨_,hp,rfl⟩ ?_ ?_
        ·omega
        ·omega
        ·exact fu
        ·all_goals repeat' (first|exact True.intro|refine And.intro ?_ ?_|(intro _u; clear _u)|(with_reducible first|exact eu.fg|refine eM ?_ ?_|refine eF ?_ ?_ ?_|refine eN ?_|refine eL ?_ ?_ ?_|refine eA ?_ ?_|refine jy.mk ⟨_,hp,rfl⟩ ?_ ?_)|refine jy.mk ⟨_,hp,rfl⟩ ?_ ?_)
         all_goals try first|with_reducible rfl|omega|exact .inl (by decide)|(simp; done)|rfl
         all_goals first|(rw[e3]; done)|(rw[e3]; simp[bp,dH,p2,iI,vp,Rw.row,gP,gn,gQ,fk.row,dN.row,eV.row]; done)
       ·have e3:iT lay (L.take (i+1))=⟨cO z.s r,z.ms,z.pl++ [(r.h,(z.s.ids.length:Int))],z.ks⟩:=by rw[e2]; simp[q1,q2,q3]
        refine sh ?_
        refine cS (fun q4=> ?_) (fun q4=> ?_)
        ·have e4:cO z.s r=⟨z.s.aS,z.s.bw,z.s.aW,z.s.bG++ [r.a.li],z.s.ids++ [r.f.id],z.s.bL++ [r.f.label],AL z.s.nz r.f.label,max z.s.fr r.f.first,min z.s.to r.f.last⟩:=by unfold cO; simp[q4]
         rw[e4]at e3
         refine sh ?_
         refine nX (i+1) ?_ ?_ ⟨_,hp,rfl⟩ ?_ ?_
         ·omega
         ·omega
         ·exact fu
         ·all_goals repeat' (first|exact True.intro|refine And.intro ?_ ?_|(intro _u; clear _u)|(with_reducible first|exact eu.fg|refine eM ?_ ?_|refine eF ?_ ?_ ?_|refine eN ?_|refine eL ?_ ?_ ?_|refine eA ?_ ?_|refine jy.mk ⟨_,hp,rfl⟩ ?_ ?_)|refine jy.mk ⟨_,hp,rfl⟩ ?_ ?_)
          all_goals try first|with_reducible rfl|omega|exact .inl (by decide)|(simp; done)|rfl
          all_goals first|(rw[e3]; done)|(rw[e3]; simp[bp,dH,p2,iI,vp,Rw.row,gP,gn,gQ,fk.row,dN.row,eV.row]; done)
        ·have e4:cO z.s r=⟨z.s.aS,z.s.bw,z.s.aW,z.s.bG,z.s.ids++ [r.f.id],z.s.bL++ [r.f.label],AL z.s.nz r.f.label,max z.s.fr r.f.first,min z.s.to r.f.last⟩:=by unfold cO; simp[q2,q3,q4]
         rw[e4]at e3
         refine sh ?_
         refine nX (i+1) ?_ ?_ ⟨_,hp,rfl⟩ ?_ ?_
         ·omega
         ·omega
         ·exact fu
         ·all_goals repeat' (first|exact True.intro|refine And.intro ?_ ?_|(intro _u; clear _u)|(with_reducible first|exact eu.fg|refine eM ?_ ?_|refine eF ?_ ?_ ?_|refine eN ?_|refine eL ?_ ?_ ?_|refine eA ?_ ?_|refine jy.mk ⟨_,hp,rfl⟩ ?_ ?_)|refine jy.mk ⟨_,hp,rfl⟩ ?_ ?_)
          all_goals try first|with_reducible rfl|omega|exact .inl (by decide)|(simp; done)|rfl
          all_goals first|(rw[e3]; done)|(rw[e3]; simp[bp,dH,p2,iI,vp,Rw.row,gP,gn,gQ,fk.row,dN.row,eV.row]; done)
   ·rw[List.take_of_length_le (by omega)]
    refine sh ?_
    exact rM [0,1,2,3,4,5,6,7,8,9]
end Go.UM
namespace Go.UM
open Go.AM
set_option maxRecDepth 4000
def Yk(l:List T3)(i:Int):T3:=l.getD i.toNat ⟨0,0,0⟩
def Gj(l:List (Int × Int))(i:Int):Int × Int:=l.getD i.toNat (0,0)
def gR(x:Af)(m:Ms)(dp cw obj gv:Int)(c:T3):j8:=
 ⟨(bK x (Yk m.v c.a)).1,(bK x (Yk m.v c.b)).1,(bK x (Yk m.v c.c)).1,(Gj m.uv c.a).1,(Gj m.uv c.a).2,(Gj m.uv c.b).1,(Gj m.uv c.b).2,(Gj m.uv c.c).1,(Gj m.uv c.c).2,dp,cw,obj,gv⟩
def cV.add(s:cV)(l:List j8):cV:=⟨s.aS++l,s.bw,s.aW,s.bG,s.ids,s.bL,s.nz,s.fr,s.to⟩
def jF.add(z:jF)(l:List j8):jF:=⟨z.s.add l,z.ms,z.pl,z.ks⟩
def uE(z:jF)(k:In):Option Int:=if k.cw=0 then some (-1)else eT z.ks k.cw
def je(lay:Int)(z:jF)(k:In):jF:=match be z.ms k.bc,eT z.ks k.dp,uE z k with
 |some r,some m,some t=>z.add (r.a.m.t.map (gR k.t r.a.m m t ((eT z.pl k.bc).getD 0) (cX r.f lay)))
 |_,_,_=>z
theorem Yl{l:List (Int × Int)}(h:∀q ∈ l,aR .i64 q.1/\aR .i64 q.2):∀r ∈ dH l,jG r=true:=by
 intro r hr
 obtain⟨q,hq,rfl⟩:=List.mem_map.1 hr
 have:=h q hq
 simp[p2,jG]
theorem Ym(l:List (Int × Int))(h:Int):DY (bR [.int .i64 h] (dH l))= .int .i64 ((eT l h).getD 0):=by
 obtain⟨i,hi⟩:=Cs h l
 rw[hi]
 cases eT l h<;>rfl
theorem du{l:List T3}{i:Int}{v:T3}(h:l[i.toNat]? =some v):Yk l i=v:=by rw[Yk,List.getD_eq_getElem?_getD,h]; rfl
theorem da{l:List (Int × Int)}{i:Int}{v:Int × Int}(h:l[i.toNat]? =some v):Gj l i=v:=by rw[Gj,List.getD_eq_getElem?_getD,h]; rfl
theorem add_succ{z:jF}{l:List j8}{j:Nat}{c:j8}(h:l[j]? =some c):(z.add (l.take (j+1))).s.aS=(z.add (l.take j)).s.aS++ [c]:=by
 rw[ao h]
 simp[jF.add,cV.add]
theorem qv{lay:Int}{z:jF}{k:In}(h:be z.ms k.bc=none\/ eT z.ks k.dp=none\/ uE z k=none):je lay z k=z:=by
 unfold je
 rcases h with h|h|h
 ·rw[h]
 ·rw[h]; cases be z.ms k.bc<;>rfl
 ·rw[h]; cases be z.ms k.bc<;>cases eT z.ks k.dp<;>rfl
theorem uF{lay:Int}{z:jF}{k:In}{r:Rw}{m t:Int}(h1:be z.ms k.bc=some r)(h2:eT z.ks k.dp=some m)(h3:uE z k=some t):
  je lay z k=z.add (r.a.m.t.map (gR k.t r.a.m m t ((eT z.pl k.bc).getD 0) (cX r.f lay))):=by
 unfold je
 rw[h1,h2,h3]
set_option maxHeartbeats 8000000 in
theorem MS{R:Env}(h:Qk R)(z:jF)(k:In)(lay:Int)(ok:∀r ∈ z.ms,r.a.k=1/\fA r)(hx:k.t.I)(ht:z.s.aS.length<=1000000)(Ni:∀q ∈ z.pl,aR .i64 q.1/\aR .i64 q.2):
  R.Mc 506 [.loc 0 1 0 0,.agg k.row,.int .i64 lay] (Ct R z) (.aQ []) (Ct R (je lay z k)) 10:=
 h.abV.aY 200 10 rfl rfl rfl fun X bb hfit hp=>by
  have Sd:=Yl Ni
  have Se:=Ym z.pl k.bc
  refine sh ?_
  refine oz fun i1=> ?_
  cases hr:be z.ms k.bc with
  |none=>
   have hsk:je lay z k=z:=qv (.inl hr)
   dsimp only[Option.map_none]
   refine sh ?_
   refine AB fun i2=> ?_
   cases hm:eT z.ks k.dp
   all_goals
    dsimp only[Option.map_none,Option.map_some]
    refine sh ?_
    refine AB fun i3=> ?_
    cases ht:eT z.ks k.cw
    all_goals
     dsimp only[Option.map_none,Option.map_some]
     refine sh ?_
     refine cS (fun k0=> ?_) (fun k0=> ?_)
     ·rw[hsk]
      refine sh ?_
      exact rM [0,1,2,3,4,5,6,7,8,9]
     ·rw[hsk]
      refine sh ?_
      exact rM [0,1,2,3,4,5,6,7,8,9]
  |some r=>
   dsimp only[Option.map_some]
   refine sh ?_
   refine AB fun i2=> ?_
   cases hm:eT z.ks k.dp with
   |none=>
    have hsk:je lay z k=z:=qv (.inr (.inl hm))
    dsimp only[Option.map_none]
    refine sh ?_
    refine AB fun i3=> ?_
    cases ht:eT z.ks k.cw
    all_goals
     dsimp only[Option.map_none,Option.map_some]
     refine sh ?_
     refine cS (fun k0=> ?_) (fun k0=> ?_)
     ·rw[hsk]
      refine sh ?_
      exact rM [0,1,2,3,4,5,6,7,8,9]
     ·rw[hsk]
      refine sh ?_
      exact rM [0,1,2,3,4,5,6,7,8,9]
   |some m=>
    dsimp only[Option.map_some]
    refine sh ?_
    refine AB fun i3=> ?_
    cases htx:eT z.ks k.cw with
    |none=>
     dsimp only[Option.map_none]
     refine sh ?_
     refine cS (fun k0=> ?_) (fun k0=> ?_)
     ·obtain⟨t,ZK⟩:∃t:Int,-1=t:=⟨_,rfl⟩
      have et:uE z k=some t:=by rw[uE,if_pos k0,ZK]
      rw[uF hr hm et]
      have rk:=ok r (cJ hr).1
      have rm:=iD (by have:=(dA rk.2.a).1; rw[own,if_pos rk.1]at this; exact this)
      have yx:∀v ∈ r.a.m.v,v.I:=fun v hv=>by
       have:=rm.pv v hv
       exact⟨by simp only[aR]; omega,by simp only[aR]; omega,by simp only[aR]; omega⟩
      obtain⟨ob,NY⟩:∃ob,(eT z.pl k.bc).getD 0=ob:=⟨_,rfl⟩
      rw[NY]
      obtain⟨g,hg⟩:∃g,gR k.t r.a.m m t ob (cX r.f lay)=g:=⟨_,rfl⟩
      rw[hg]
      obtain⟨T,hT⟩:∃T,r.a.m.t.map g=T:=⟨_,rfl⟩
      have ZL:T.length=r.a.m.t.length:=by rw[<-hT,List.length_map]
      rw[hT]
      refine sh ?_
      refine aj.inv 200 (fun j:Nat=>j<=r.a.m.t.length) (fun j=>⟨[(0,.loc 0 1 0 0),(2,.int .i64 lay),(4,.loc 10 1 0 0),(6,.loc 11 1 0 0),(8,.int .i64 m),(10,.int .i64 t),(12,.loc 12 1 0 0),(65,.aD 3 (bW r.a.m.t)),(66,.int .i64 r.a.m.t.length),(67,.int .i64 j)],Ct R (z.add (T.take j))++ [(10,.var (R.ty 44) k.row),(11,.var (R.ty 45) r.row),(12,.var (R.ty 25) r.a.m.row)],13⟩) (fun j=>r.a.m.t.length - j) (0) ?_ ⟨⟨_,hp,rfl⟩,?_,?_⟩ ?_
      ·exact Nat.zero_le _
      ·exact fu
       all_goals (simp[jF.add,cV.add]; done)
      ·refine iH ?_ ?_
       all_goals (simp[jF.add,cV.add]; done)
      ·intro j hj
       dsimp only
       refine sh ?_
       refine cS (fun h1=> ?_) (fun h1=> ?_)
       ·obtain⟨c,hc⟩:∃u_,r.a.m.t[j]? =some u_:=⟨_,List.getElem?_eq_getElem (by first|omega|(simp<;>omega))⟩
        refine sh ?_
        refine aa hc ?_
        have si:=rm.pt c (List.mem_of_getElem? hc)
        have Yn:=rm.uv
        have CI:=rm.t.2
        have hlen:(z.add (T.take j)).s.aS.length<=1000064:=by
         have:=rm.t.2
         simp[jF.add,cV.add]; omega
        refine sh ?_
        refine afv Sd (Se.trans (by rw[NY])) ?_
        refine sh ?_
        refine ae.pure h.n11.V3.hb (r7 h.n11 r.f lay) rfl ?_
        refine sh ?_
        refine aj.one 200 ?_
        refine sh ?_
        refine af (by rfl) ?_
        obtain⟨va,oL⟩:∃u_,r.a.m.v[c.a.toNat]? =some u_:=⟨_,List.getElem?_eq_getElem (by omega)⟩
        obtain⟨ua,DI⟩:∃u_,r.a.m.uv[c.a.toNat]? =some u_:=⟨_,List.getElem?_eq_getElem (by omega)⟩
        refine sh ?_
        refine aa oL ?_
        refine sh ?_
        refine ae.pure h.n241.tG.hb (fK h.n241 hx (yx va (List.mem_of_getElem? oL))) rfl ?_
        refine sh ?_
        refine aa DI ?_
        refine sh ?_
        refine aj.one 200 ?_
        refine sh ?_
        refine af (by rfl) ?_
        obtain⟨vb,yo⟩:∃u_,r.a.m.v[c.b.toNat]? =some u_:=⟨_,List.getElem?_eq_getElem (by omega)⟩
        obtain⟨ub,DJ⟩:∃u_,r.a.m.uv[c.b.toNat]? =some u_:=⟨_,List.getElem?_eq_getElem (by omega)⟩
        refine sh ?_
        refine aa yo ?_
        refine sh ?_
        refine ae.pure h.n241.tG.hb (fK h.n241 hx (yx vb (List.mem_of_getElem? yo))) rfl ?_
        refine sh ?_
        refine aa DJ ?_
        refine sh ?_
        refine aj.one 200 ?_
        refine sh ?_
        refine af (by rfl) ?_
        obtain⟨vc,yp⟩:∃u_,r.a.m.v[c.c.toNat]? =some u_:=⟨_,List.getElem?_eq_getElem (by omega)⟩
        obtain⟨uc,DK⟩:∃u_,r.a.m.uv[c.c.toNat]? =some u_:=⟨_,List.getElem?_eq_getElem (by omega)⟩
        refine sh ?_
        refine aa yp ?_
        refine sh ?_
        refine ae.pure h.n241.tG.hb (fK h.n241 hx (yx vc (List.mem_of_getElem? yp))) rfl ?_
        refine sh ?_
        refine aa DK ?_
        refine sh ?_
        refine aj.one 200 ?_
        refine sh ?_
        refine ay (by rfl) ?_
        have e3:(gR k.t r.a.m m t ob (cX r.f lay) c)=⟨(bK k.t va).1,(bK k.t vb).1,(bK k.t vc).1,ua.1,ua.2,ub.1,ub.2,uc.1,uc.2,m,t,ob,cX r.f lay⟩:=by
         simp only[gR,du oL,du yo,du yp,da DI,da DJ,da DK]
        rw[hg]at e3
        have Gk:T[j]? =some (g c):=by rw[<-hT,List.getElem?_map,hc]; rfl
        refine sh ?_
        refine nX (j+1) ?_ ?_ ⟨_,hp,rfl⟩ ?_ ?_
        ·omega
        ·omega
        ·exact fu
         all_goals (rw[add_succ Gk]; simp; done)
        ·refine iH ?_ ?_
         all_goals (rw[add_succ Gk]; simp[oH,e3,j8.row]; done)
       ·rw[List.take_of_length_le (by omega)]
        refine sh ?_
        exact rM [0,1,2,3,4,5,6,7,8,9]
     ·rw[qv (.inr (.inr (by rw[uE,if_neg k0,htx])))]
      refine sh ?_
      exact rM [0,1,2,3,4,5,6,7,8,9]
    |some t=>
     dsimp only[Option.map_some]
     refine sh ?_
     refine cS (fun k0=> ?_) (fun k0=> ?_)
     ·obtain⟨t,ZK⟩:∃t:Int,-1=t:=⟨_,rfl⟩
      have et:uE z k=some t:=by rw[uE,if_pos k0,ZK]
      rw[uF hr hm et]
      have rk:=ok r (cJ hr).1
      have rm:=iD (by have:=(dA rk.2.a).1; rw[own,if_pos rk.1]at this; exact this)
      have yx:∀v ∈ r.a.m.v,v.I:=fun v hv=>by
       have:=rm.pv v hv
       exact⟨by simp only[aR]; omega,by simp only[aR]; omega,by simp only[aR]; omega⟩
      obtain⟨ob,NY⟩:∃ob,(eT z.pl k.bc).getD 0=ob:=⟨_,rfl⟩
      rw[NY]
      obtain⟨g,hg⟩:∃g,gR k.t r.a.m m t ob (cX r.f lay)=g:=⟨_,rfl⟩
      rw[hg]
      obtain⟨T,hT⟩:∃T,r.a.m.t.map g=T:=⟨_,rfl⟩
      have ZL:T.length=r.a.m.t.length:=by rw[<-hT,List.length_map]
      rw[hT]
      refine sh ?_
      refine aj.inv 200 (fun j:Nat=>j<=r.a.m.t.length) (fun j=>⟨[(0,.loc 0 1 0 0),(2,.int .i64 lay),(4,.loc 10 1 0 0),(6,.loc 11 1 0 0),(8,.int .i64 m),(10,.int .i64 t),(12,.loc 12 1 0 0),(65,.aD 3 (bW r.a.m.t)),(66,.int .i64 r.a.m.t.length),(67,.int .i64 j)],Ct R (z.add (T.take j))++ [(10,.var (R.ty 44) k.row),(11,.var (R.ty 45) r.row),(12,.var (R.ty 25) r.a.m.row)],13⟩) (fun j=>r.a.m.t.length - j) (0) ?_ ⟨⟨_,hp,rfl⟩,?_,?_⟩ ?_
      ·exact Nat.zero_le _
      ·exact fu
       all_goals (simp[jF.add,cV.add]; done)
      ·refine iH ?_ ?_
       all_goals (simp[jF.add,cV.add]; done)
      ·intro j hj
       dsimp only
       refine sh ?_
       refine cS (fun h1=> ?_) (fun h1=> ?_)
       ·obtain⟨c,hc⟩:∃u_,r.a.m.t[j]? =some u_:=⟨_,List.getElem?_eq_getElem (by first|omega|(simp<;>omega))⟩
        refine sh ?_
        refine aa hc ?_
        have si:=rm.pt c (List.mem_of_getElem? hc)
        have Yn:=rm.uv
        have CI:=rm.t.2
        have hlen:(z.add (T.take j)).s.aS.length<=1000064:=by
         have:=rm.t.2
         simp[jF.add,cV.add]; omega
        refine sh ?_
        refine afv Sd (Se.trans (by rw[NY])) ?_
        refine sh ?_
        refine ae.pure h.n11.V3.hb (r7 h.n11 r.f lay) rfl ?_
        refine sh ?_
        refine aj.one 200 ?_
        refine sh ?_
        refine af (by rfl) ?_
        obtain⟨va,oL⟩:∃u_,r.a.m.v[c.a.toNat]? =some u_:=⟨_,List.getElem?_eq_getElem (by omega)⟩
        obtain⟨ua,DI⟩:∃u_,r.a.m.uv[c.a.toNat]? =some u_:=⟨_,List.getElem?_eq_getElem (by omega)⟩
        refine sh ?_
        refine aa oL ?_
        refine sh ?_
        refine ae.pure h.n241.tG.hb (fK h.n241 hx (yx va (List.mem_of_getElem? oL))) rfl ?_
        refine sh ?_
        refine aa DI ?_
        refine sh ?_
        refine aj.one 200 ?_
        refine sh ?_
        refine af (by rfl) ?_
        obtain⟨vb,yo⟩:∃u_,r.a.m.v[c.b.toNat]? =some u_:=⟨_,List.getElem?_eq_getElem (by omega)⟩
        obtain⟨ub,DJ⟩:∃u_,r.a.m.uv[c.b.toNat]? =some u_:=⟨_,List.getElem?_eq_getElem (by omega)⟩
        refine sh ?_
        refine aa yo ?_
        refine sh ?_
        refine ae.pure h.n241.tG.hb (fK h.n241 hx (yx vb (List.mem_of_getElem? yo))) rfl ?_
        refine sh ?_
        refine aa DJ ?_
        refine sh ?_
        refine aj.one 200 ?_
        refine sh ?_
        refine af (by rfl) ?_
        obtain⟨vc,yp⟩:∃u_,r.a.m.v[c.c.toNat]? =some u_:=⟨_,List.getElem?_eq_getElem (by omega)⟩
        obtain⟨uc,DK⟩:∃u_,r.a.m.uv[c.c.toNat]? =some u_:=⟨_,List.getElem?_eq_getElem (by omega)⟩
        refine sh ?_
        refine aa yp ?_
        refine sh ?_
        refine ae.pure h.n241.tG.hb (fK h.n241 hx (yx vc (List.mem_of_getElem? yp))) rfl ?_
        refine sh ?_
        refine aa DK ?_
        refine sh ?_
        refine aj.one 200 ?_
        refine sh ?_
        refine ay (by rfl) ?_
        have e3:(gR k.t r.a.m m t ob (cX r.f lay) c)=⟨(bK k.t va).1,(bK k.t vb).1,(bK k.t vc).1,ua.1,ua.2,ub.1,ub.2,uc.1,uc.2,m,t,ob,cX r.f lay⟩:=by
         simp only[gR,du oL,du yo,du yp,da DI,da DJ,da DK]
        rw[hg]at e3
        have Gk:T[j]? =some (g c):=by rw[<-hT,List.getElem?_map,hc]; rfl
        refine sh ?_
        refine nX (j+1) ?_ ?_ ⟨_,hp,rfl⟩ ?_ ?_
        ·omega
        ·omega
        ·exact fu
         all_goals (rw[add_succ Gk]; simp; done)
        ·refine iH ?_ ?_
         all_goals (rw[add_succ Gk]; simp[oH,e3,j8.row]; done)
       ·rw[List.take_of_length_le (by omega)]
        refine sh ?_
        exact rM [0,1,2,3,4,5,6,7,8,9]
     ·have ZK:t=t:=rfl
      have et:uE z k=some t:=by rw[uE,if_neg k0,htx]
      rw[uF hr hm et]
      have rk:=ok r (cJ hr).1
      have rm:=iD (by have:=(dA rk.2.a).1; rw[own,if_pos rk.1]at this; exact this)
      have yx:∀v ∈ r.a.m.v,v.I:=fun v hv=>by
       have:=rm.pv v hv
       exact⟨by simp only[aR]; omega,by simp only[aR]; omega,by simp only[aR]; omega⟩
      obtain⟨ob,NY⟩:∃ob,(eT z.pl k.bc).getD 0=ob:=⟨_,rfl⟩
      rw[NY]
      obtain⟨g,hg⟩:∃g,gR k.t r.a.m m t ob (cX r.f lay)=g:=⟨_,rfl⟩
      rw[hg]
      obtain⟨T,hT⟩:∃T,r.a.m.t.map g=T:=⟨_,rfl⟩
      have ZL:T.length=r.a.m.t.length:=by rw[<-hT,List.length_map]
      rw[hT]
      refine sh ?_
      refine aj.inv 200 (fun j:Nat=>j<=r.a.m.t.length) (fun j=>⟨[(0,.loc 0 1 0 0),(2,.int .i64 lay),(4,.loc 10 1 0 0),(6,.loc 11 1 0 0),(8,.int .i64 m),(10,.int .i64 t),(12,.loc 12 1 0 0),(65,.aD 3 (bW r.a.m.t)),(66,.int .i64 r.a.m.t.length),(67,.int .i64 j)],Ct R (z.add (T.take j))++ [(10,.var (R.ty 44) k.row),(11,.var (R.ty 45) r.row),(12,.var (R.ty 25) r.a.m.row)],13⟩) (fun j=>r.a.m.t.length - j) (0) ?_ ⟨⟨_,hp,rfl⟩,?_,?_⟩ ?_
      ·exact Nat.zero_le _
      ·exact fu
       all_goals (simp[jF.add,cV.add]; done)
      ·refine iH ?_ ?_
       all_goals (simp[jF.add,cV.add]; done)
      ·intro j hj
       dsimp only
       refine sh ?_
       refine cS (fun h1=> ?_) (fun h1=> ?_)
       ·obtain⟨c,hc⟩:∃u_,r.a.m.t[j]? =some u_:=⟨_,List.getElem?_eq_getElem (by first|omega|(simp<;>omega))⟩
        refine sh ?_
        refine aa hc ?_
        have si:=rm.pt c (List.mem_of_getElem? hc)
        have Yn:=rm.uv
        have CI:=rm.t.2
        have hlen:(z.add (T.take j)).s.aS.length<=1000064:=by
         have:=rm.t.2
         simp[jF.add,cV.add]; omega
        refine sh ?_
        refine afv Sd (Se.trans (by rw[NY])) ?_
        refine sh ?_
        refine ae.pure h.n11.V3.hb (r7 h.n11 r.f lay) rfl ?_
        refine sh ?_
        refine aj.one 200 ?_
        refine sh ?_
        refine af (by rfl) ?_
        obtain⟨va,oL⟩:∃u_,r.a.m.v[c.a.toNat]? =some u_:=⟨_,List.getElem?_eq_getElem (by omega)⟩
        obtain⟨ua,DI⟩:∃u_,r.a.m.uv[c.a.toNat]? =some u_:=⟨_,List.getElem?_eq_getElem (by omega)⟩
        refine sh ?_
        refine aa oL ?_
        refine sh ?_
        refine ae.pure h.n241.tG.hb (fK h.n241 hx (yx va (List.mem_of_getElem? oL))) rfl ?_
        refine sh ?_
        refine aa DI ?_
        refine sh ?_
        refine aj.one 200 ?_
        refine sh ?_
        refine af (by rfl) ?_
        obtain⟨vb,yo⟩:∃u_,r.a.m.v[c.b.toNat]? =some u_:=⟨_,List.getElem?_eq_getElem (by omega)⟩
        obtain⟨ub,DJ⟩:∃u_,r.a.m.uv[c.b.toNat]? =some u_:=⟨_,List.getElem?_eq_getElem (by omega)⟩
        refine sh ?_
        refine aa yo ?_
        refine sh ?_
        refine ae.pure h.n241.tG.hb (fK h.n241 hx (yx vb (List.mem_of_getElem? yo))) rfl ?_
        refine sh ?_
        refine aa DJ ?_
        refine sh ?_
        refine aj.one 200 ?_
        refine sh ?_
        refine af (by rfl) ?_
        obtain⟨vc,yp⟩:∃u_,r.a.m.v[c.c.toNat]? =some u_:=⟨_,List.getElem?_eq_getElem (by omega)⟩
        obtain⟨uc,DK⟩:∃u_,r.a.m.uv[c.c.toNat]? =some u_:=⟨_,List.getElem?_eq_getElem (by omega)⟩
        refine sh ?_
        refine aa yp ?_
        refine sh ?_
        refine ae.pure h.n241.tG.hb (fK h.n241 hx (yx vc (List.mem_of_getElem? yp))) rfl ?_
        refine sh ?_
        refine aa DK ?_
        refine sh ?_
        refine aj.one 200 ?_
        refine sh ?_
        refine ay (by rfl) ?_
        have e3:(gR k.t r.a.m m t ob (cX r.f lay) c)=⟨(bK k.t va).1,(bK k.t vb).1,(bK k.t vc).1,ua.1,ua.2,ub.1,ub.2,uc.1,uc.2,m,t,ob,cX r.f lay⟩:=by
         simp only[gR,du oL,du yo,du yp,da DI,da DJ,da DK]
        rw[hg]at e3
        have Gk:T[j]? =some (g c):=by rw[<-hT,List.getElem?_map,hc]; rfl
        refine sh ?_
        refine nX (j+1) ?_ ?_ ⟨_,hp,rfl⟩ ?_ ?_
        ·omega
        ·omega
        ·exact fu
         all_goals (rw[add_succ Gk]; simp; done)
        ·refine iH ?_ ?_
         all_goals (rw[add_succ Gk]; simp[oH,e3,j8.row]; done)
       ·rw[List.take_of_length_le (by omega)]
        refine sh ?_
        exact rM [0,1,2,3,4,5,6,7,8,9]
end Go.UM
namespace Go.UM
open Go.AM
set_option maxRecDepth 4000
theorem fbm:rJ.bare.Gh:=by refine⟨?_,?_,?_,?_⟩<;>simp[rJ,As.bare]
theorem Yo(c:Ac):c.lB.a.Gh:=by
 refine⟨?_,?_,?_,?_⟩<;>simp[Ac.lB,As.lB,Ms.lB]<;>omega
end Go.UM
namespace Go.UM
open Go.AM
set_option maxRecDepth 4000
def nB(lay:Int)(L:List Rw)(N:List In):jF:=N.foldl (je lay) (iT lay L)
theorem FX(lay:Int)(L:List Rw)(N:List In)(k:In):nB lay L (N++ [k])=je lay (nB lay L N) k:=by simp[nB]
theorem qw(lay:Int)(z:jF)(k:In):(je lay z k).ms=z.ms/\(je lay z k).pl=z.pl/\(je lay z k).ks=z.ks:=by
 unfold je
 split<;>exact⟨rfl,rfl,rfl⟩
theorem Cu(lay:Int)(N:List In):∀z:jF,(N.foldl (je lay) z).ms=z.ms/\(N.foldl (je lay) z).pl=z.pl/\(N.foldl (je lay) z).ks=z.ks:=by
 induction N with
 |nil=>exact fun z=>⟨rfl,rfl,rfl⟩
 |cons k N ih=>
  intro z
  obtain⟨h1,h2,h3⟩:=ih (je lay z k)
  obtain⟨g1,g2,g3⟩:=qw lay z k
  exact⟨h1.trans g1,h2.trans g2,h3.trans g3⟩
theorem FY{lay:Int}{z:jF}{k:In}(ok:∀r ∈ z.ms,r.a.k=1/\fA r):(je lay z k).s.aS.length<=z.s.aS.length+64:=by
 unfold je
 split
 ·rename_i r m t h1 _ _
  have rk:=ok r (cJ h1).1
  have rm:=iD (by have:=(dA rk.2.a).1; rw[own,if_pos rk.1]at this; exact this)
  have:=rm.t.2
  simp[jF.add,cV.add]; omega
 ·omega
theorem Jr(lay:Int)(L:List Rw)(ok:∀r ∈ L,fA r):∀r ∈ (iT lay L).ms,r.a.k=1/\fA r:=by
 refine mF (P:=fun l z=>(∀r ∈ l,fA r)->∀r ∈ z.ms,r.a.k=1/\fA r) lay (by simp[jF.nA]) (fun l z x h ok r hr=> ?_) L ok
 have old:=h (fun r hr=>ok r (by simp[hr]))
 unfold qu at hr
 split at hr
 ·exact old r hr
 ·dsimp only at hr
  split at hr
  ·rename_i k1
   rcases List.mem_append.1 hr with q|q
   ·exact old r q
   ·simp only[List.mem_singleton]at q
    subst q
    exact⟨k1,ok r (by simp)⟩
  ·exact old r hr
theorem Sf(lay:Int)(L:List Rw)(ok:∀r ∈ L,fA r)(hl:L.length<=1000000):∀q ∈ (iT lay L).pl,aR .i64 q.1/\aR .i64 q.2:=by
 have:∀q ∈ (iT lay L).pl,(1<=q.1/\q.1<=65536)/\(0<=q.2/\q.2<=L.length):=by
  refine mF (P:=fun l z=>(∀r ∈ l,fA r)->z.s.ids.length<=l.length/\∀q ∈ z.pl,(1<=q.1/\q.1<=65536)/\(0<=q.2/\q.2<=(l.length:Int))) lay (by simp[jF.nA,cV.nA]) (fun l z x h ok=> ?_) L ok |>.2
  obtain⟨h1,h2⟩:=h (fun r hr=>ok r (by simp[hr]))
  have e:(l++ [x]).length=l.length+1:=by simp
  rw[e]
  unfold qu
  split
  ·exact⟨by omega,fun q hq=>by have:=h2 q hq; omega⟩
  ·refine⟨by simp[cO]; omega,fun q hq=> ?_⟩
   rcases List.mem_append.1 hq with k|k
   ·have:=h2 q k; omega
   ·simp only[List.mem_singleton]at k
    subst k
    have:=(ok x (by simp)).h
    dsimp only
    omega
 intro q hq
 have:=this q hq
 exact⟨by simp only[aR]; omega,by simp only[aR]; omega⟩
theorem FZ(lay:Int)(L:List Rw)(N:List In)(ok:∀r ∈ L,fA r):(nB lay L N).s.aS.length<=64*N.length:=by
 have:∀(N:List In)(z:jF),(∀r ∈ z.ms,r.a.k=1/\fA r)->(N.foldl (je lay) z).s.aS.length<=z.s.aS.length+64*N.length:=by
  intro N
  induction N with
  |nil=>intro z _; simp
  |cons k N ih=>
   intro z hz
   have h1:=ih (je lay z k) (by rw[(qw lay z k).1]; exact hz)
   have h2:=FY (lay:=lay) (k:=k) hz
   rw[List.foldl_cons,List.length_cons]
   omega
 have h:=this N (iT lay L) (Jr lay L ok)
 rw[(DH lay L).t]at h
 simpa[nB]using h
abbrev Yp(R:Env)(d:Bool)(t:Tb)(z:jF):ah:=[(0,.map 1 false true d 41 (iI t.rows)),(1,.map 4 true true false 16 (cN t.ins)),(2,.var (R.ty 47) [.omap 0,.omap 1]),(3,.var (R.ty 59) [.ai,.ai,.ai,.ai,.ai,.ai,.int .u32 0,.int .u32 0,.int .u32 0]),
 (10,.var (R.ty 61) [.aV 12 z.s.aS.length,.aV 13 z.s.bw.length,.aV 14 z.s.aW.length,.aV 15 z.s.bG.length,.aV 16 z.s.ids.length,.aV 17 z.s.bL.length,.int .u32 z.s.nz,.int .u32 z.s.fr,.int .u32 z.s.to,.omap 7,.omap 8,.omap 9]),
 (7,.map 1 false true true 41 (iI z.ms)),(8,.map 1 false false true 2 (dH z.pl)),(9,.map 1 false false true 2 (dH z.ks)),
 (12,.arr (R.ty 60) 19 (oH z.s.aS)),(13,.arr (R.ty 40) 5 (gP z.s.bw)),(14,.arr (R.ty 12) 2 (gn z.s.aW)),(15,.arr (R.ty 41) 13 (gQ z.s.bG)),(16,.arr (R.ty 6) 1 (bp .u64 z.s.ids)),(17,.arr (R.ty 0) 1 (bp .u32 z.s.bL))]
set_option maxHeartbeats 4000000 in
theorem Js{R:Env}(h:BU R)(K:wK R)(C:SL R)(gU:List In->List In)(S:Am R gU)(hs:MA gU)(t:Tb){n:Nat}(ok:jE t n)(hn:n<=10000)(hx:∀x ∈ t.ins,x.t.I)(lay:Int)(AD:0<=lay/\lay<8):
  R.Mz true 491 [.loc 2 1 0 0,.int .i64 lay] (eb R false false t) (.aQ [.agg (nB lay (bv t.rows) (cQ t.ins)).s.row,.int .i64 0]) (eb R false false t) 3:=
 h.Lq.C5 200 3 rfl rfl rfl fun X bb hfit hp hz=>by
  have h1:=ok.rl
  have h2:=ok.il
  have c1:=MD h.Ql K false false t ok (by omega)
  have c2:=IS h.Qm gU S hs false false t ok.nd (by omega)
  obtain⟨L,hL⟩:∃L,bv t.rows=L:=⟨_,rfl⟩
  obtain⟨N,hN⟩:∃N,cQ t.ins=N:=⟨_,rfl⟩
  have aid:L.length<=10000:=by rw[<-hL,gO]; omega
  have aie:N.length<=10000:=by rw[<-hN,jd]; omega
  have asc:L.Pairwise (fun a b=>a.h<b.h):=hL ▸ kR ok.rd
  have Jt:∀r ∈ L,fA r:=fun r hr=>ok.row r (eo.1 (hL ▸ hr))
  have xok:∀x ∈ N,x.t.I:=fun x hx'=>hx x (im.1 (hN ▸ hx'))
  rw[hL]at c1 ⊢
  rw[hN]at c2 ⊢
  unfold eb
  refine sh ?_
  refine cM false [0,1,2] (Je h.E6 C false false t) ?_
  repeat (intro _; first|refine eK ?_|refine eP ?_)
  refine sh ?_
  refine cS (fun k1=> ?_) (fun k1=> ?_)
  ·exact absurd k1 (by omega)
  ·refine sh ?_
   refine cS (fun k2=> ?_) (fun k2=> ?_)
   ·exact absurd k2 (by omega)
   ·refine sh ?_
    refine cM false [0,1,2] (c1) ?_
    repeat (intro _; first|refine eK ?_|refine eP ?_)
    refine sh ?_
    refine ae.let [11] rfl hp rfl ?_
    repeat ((intro _u; clear _u); first|refine eZ ?_|refine eZ ?_ (by simp; omega)|refine HF.drop ?_)
    refine sh ?_
    refine cM false [10,7,8,9] (MR h.Qn L lay (by omega) asc) ?_
    repeat (intro _; first|refine eK ?_|refine eP ?_)
    refine sh ?_
    refine cM false [0,1,2] (c2) ?_
    repeat (intro _; first|refine eK ?_|refine eP ?_)
    refine sh ?_
    refine eH 200 (fun i:Nat=>i<=N.length) (fun i=>⟨[(1,.int .i64 lay),(4,.loc 3 1 0 0),(6,.loc 10 1 0 0),(33,.aD 16 (cN N)),(34,.int .i64 N.length),(35,.int .i64 i)],Yp R false t (nB lay L (N.take i)),18⟩) (fun i=>N.length - i) (0) ?_ ?_
    ·exact Nat.zero_le _
    ·intro i hi
     dsimp only
     refine sh ?_
     refine cS (fun g1=> ?_) (fun g1=> ?_)
     ·obtain⟨x,hx⟩:∃u_,N[i]? =some u_:=⟨_,List.getElem?_eq_getElem (by first|omega|(simp<;>omega))⟩
      refine sh ?_
      refine aa hx ?_
      have zm:=Cu lay (N.take i) (iT lay L)
      refine sh ?_
      refine cM false [10,7,8,9,12,13,14,15,16,17] (MS h.Qo (nB lay L (N.take i)) x lay (by rw[nB,zm.1]; exact Jr lay L Jt) (xok x (List.mem_of_getElem? hx)) (by have:=FZ lay L (N.take i) Jt; rw[List.length_take]at this; omega) (by rw[nB,zm.2.1]; exact Sf lay L Jt (by omega))) ?_
      repeat (intro _; first|refine eK ?_|refine eP ?_)
      rw[<-FX,<-ao hx]
      refine sh ?_
      refine lO (i+1) ?_ ?_
      ·omega
      ·omega
     ·rw[List.take_of_length_le (by omega)]
      refine sh ?_
      exact rM [0,1,2]
end Go.UM
namespace Go.UM
open Go.AM
set_option maxRecDepth 4000
def m19:Ms:=⟨[⟨0,0,0⟩,⟨5,0,0⟩,⟨0,7,0⟩],[(0,0),(0,0),(0,0)],[⟨0,1,2⟩,⟨2,1,0⟩]⟩
def Ju:As:=⟨1,m19,⟨0,[]⟩,⟨0,z3,0⟩,⟨0,z3,z3,z3,z3⟩⟩
def f19(k:Int):Mf:=⟨0,k,0,1,0,0,0,0,0,0,0,0,0,0,0⟩
def F3:In:=⟨1,2,0,0,H9⟩
theorem Sg:dK Ju=0:=by kernel_rfl
def DL:List Rw:=[⟨1,f19 1,Ju⟩,⟨2,f19 3,rJ⟩]
def t19:Tb:=⟨DL,[F3]⟩
theorem Yq:gY ⟨[],[]⟩ 1 (f19 1) Ju=(⟨[⟨1,f19 1,Ju⟩],[]⟩,0):=by unfold gY; rw[Sg]; rfl
theorem Yr:gY ⟨[⟨1,f19 1,Ju⟩],[]⟩ 2 (f19 3) rJ=(⟨DL,[]⟩,0):=by unfold gY; rw[DD]; rfl
theorem Ys:kp ⟨DL,[]⟩ F3=(t19,0):=by kernel_rfl
theorem acD:bv DL=DL:=by
 refine (oF (l:=DL) ?_ (List.Perm.refl _) ?_).symm
 ·simp[DL]
 ·simp[DL,kB]
theorem acE:cQ [F3]=[F3]:=by simp[cQ]
theorem p19:(nB 0 DL [F3]).s.aS.length=2/\(nB 0 DL [F3]).s.bw.length=1/\((nB 0 DL [F3]).s.aS.map (·.cw))=[-1,-1]:=⟨by kernel_rfl,by kernel_rfl,by kernel_rfl⟩
theorem MT:jE t19 3/\∀x ∈ t19.ins,x.t.I:=by
 have h1:=uq An (hd:=1) (f:=f19 1) (a:=Ju) (by simp[Ju])
 rw[Yq]at h1
 have h2:=uq h1 (hd:=2) (f:=f19 3) (a:=rJ) (by simp[rJ])
 rw[Yr]at h2
 have h3:=Dz h2 (x:=F3)
 rw[Ys]at h3
 refine⟨h3,fun x hx=> ?_⟩
 have:x=F3:=by simpa[t19]using hx
 subst this
 exact LY
set_option maxHeartbeats 4000000 in
theorem wV{R:Env}(h:Ro R)(K:wK R)(C:SL R)(gU:List In->List In)(S:Am R gU)(hs:MA gU):R.Pz true 493 [] (.bool true):=
 h.Rp.HC 200 rfl fun X bb hfit hp hz=>by
  have c1:=Ci h.n346 true true ⟨[],[]⟩ 1 (f19 1) Ju (by simp[Ju]) (by refine⟨?_,?_,?_,?_⟩<;>simp[Ju,m19,As.bare,vn]) (by simp)
  have c2:=Ci h.n346 true true ⟨[⟨1,f19 1,Ju⟩],[]⟩ 2 (f19 3) rJ (by simp[rJ]) fbm (by simp)
  have c3:=IK h.E9 true true ⟨DL,[]⟩ F3 (fun r hr=>MT.1.row r hr) (MT.2 F3 (by simp[t19])) (by simp)
  have c4:=Js h.tJ K C gU S hs t19 MT.1 (by omega) MT.2 0 (by omega)
  rw[show t19.rows=DL from rfl,acD,show t19.ins=[F3]from rfl,acE]at c4
  obtain⟨q1,q2,q3⟩:=p19
  obtain⟨Z,hZ⟩:∃Z,(nB 0 DL [F3]).s=Z:=⟨_,rfl⟩
  rw[hZ]at c4 q1 q2 q3
  rw[Yq]at c1
  rw[Yr]at c2
  rw[Ys]at c3
  refine sh ?_
  refine cM false [] (IH h.n345) ?_
  repeat (intro _; first|refine eK ?_|refine eP ?_)
  refine sh ?_
  refine T' 3 rfl rfl (by omega) ?_
  refine sh ?_
  refine ae.let [3,4,5] rfl hp rfl ?_
  repeat ((intro _u; clear _u); first|refine eZ ?_|refine eZ ?_ (by simp; omega)|refine HF.drop ?_)
  refine sh ?_
  refine cM false [0,1,2] (c1) ?_
  repeat (intro _; first|refine eK ?_|refine eP ?_)
  refine sh ?_
  refine cM false [0,1,2] (c2) ?_
  repeat (intro _; first|refine eK ?_|refine eP ?_)
  refine sh ?_
  refine ae.pure h.n221.Vn.hb (Ma h.n221) rfl ?_
  refine sh ?_
  refine cM false [0,1,2] (c3) ?_
  repeat (intro _; first|refine eK ?_|refine eP ?_)
  refine sh ?_
  refine cM false [0,1,2] (c4) ?_
  repeat (intro _; first|refine eK ?_|refine eP ?_)
  refine sh ?_
  refine af (by rfl) ?_
  refine sh ?_
  refine af (by rw[q1]; rfl) ?_
  refine sh ?_
  refine af (by rw[q2]; rfl) ?_
  obtain⟨a,ha⟩:∃u_,Z.aS[0]? =some u_:=⟨_,List.getElem?_eq_getElem (by first|omega|(simp<;>omega))⟩
  refine sh ?_
  refine aa ha ?_
  refine sh ?_
  refine rT ?_
  refine bj ?_
  have Yd:a.cw= -1:=by
   have:=congrArg (fun l=>l[0]?) q3
   simp[ha]at this
   exact this
  simp[Yd]
end Go.UM
namespace Go.UM
open Go.AM
set_option maxRecDepth 4000
theorem Jv{k a b c r:Int}(h0:aR .i64 k)(h1:aR .i64 a)(h2:aR .i64 b)(h3:aR .i64 c)(h4:aR .i64 r):∀y ∈ (fk.ap ⟨k,⟨a,b,c⟩,r⟩),aR .i64 y:=fun y hy=>by
 simp only[fk.ap,List.cons_append,List.nil_append,List.mem_cons,List.not_mem_nil,or_false]at hy
 rcases hy with rfl|rfl|rfl|rfl|rfl<;>assumption
theorem F4{l:eV}(h0:aR .i64 l.k)(h1:l.c.I)(h2:l.p.I)(h3:l.u.I)(h4:l.v.I):∀y ∈ l.ap,aR .i64 y:=fun y hy=>by
 obtain⟨a1,a2,a3⟩:=h1
 obtain⟨b1,b2,b3⟩:=h2
 obtain⟨c1,c2,c3⟩:=h3
 obtain⟨d1,d2,d3⟩:=h4
 simp only[eV.ap,kV,List.flatMap_cons,List.flatMap_nil,List.cons_append,List.nil_append,List.append_nil,List.mem_cons,List.not_mem_nil,or_false]at hy
 rcases hy with rfl|rfl|rfl|rfl|rfl|rfl|rfl|rfl|rfl|rfl|rfl|rfl|rfl<;>assumption
def dN.I(t:dN):Prop:=aR .i64 t.side/\∀p ∈ t.t,p.I
theorem Jw{t:dN}(h:t.I)(hl:t.t.length<=1000):∀y ∈ t.ap,aR .i64 y:=fun y hy=>by
 simp only[dN.ap,List.cons_append,List.nil_append,List.mem_cons]at hy
 rcases hy with rfl|rfl|hy
 ·exact h.1
 ·simp only[aR]; omega
 ·obtain⟨p,hp,hy⟩:=List.mem_flatMap.1 hy
  obtain⟨h1,h2,h3⟩:=h.2 p hp
  simp only[List.mem_cons,List.not_mem_nil,or_false]at hy
  rcases hy with rfl|rfl|rfl<;>assumption
structure cV.I(s:cV):Prop where
 t:∀t ∈ s.aS,t.Ok
 m:∀m ∈ s.bw,∀x ∈ m.ap,aR .i64 x
 x:∀t ∈ s.aW,t.I
 l:∀t ∈ s.bG,∀x ∈ t.ap,aR .i64 x
 i:∀x ∈ s.ids,aR .u64 x
 b:∀x ∈ s.bL,aR .u32 x
 e:aR .u32 s.nz/\aR .u32 s.fr/\aR .u32 s.to
end Go.UM
namespace Go.UM
open Go.AM
set_option maxRecDepth 4000
def ku(lay:Int)(r:Rw):Bool:=cX r.f lay != 0
def ci(lay:Int)(l:List Rw):List Rw:=l.filter (ku lay)
def kC(k:Int)(r:Rw):Bool:=k==0||r.a.k==k
def bx(V:List Rw)(h k:Int):Int:=pO (dm h) (V.filter (kC k))
theorem AE{α:Type}{p:α->Bool}{l:List α}{i:Nat}{x:α}(h:l[i]? =some x)(hp:p x=true):(l.filter p)[((l.take i).filter p).length]? =some x:=by
 have e:l=l.take i++x::l.drop (i+1):=by
  rw[<-(List.getElem?_eq_some_iff.1 h).2,List.getElem_cons_drop,List.take_append_drop]
 have e2:l.filter p=(l.take i).filter p++x::(l.drop (i+1)).filter p:=by
  conv=>lhs; rw[e]
  simp[List.filter_append,List.filter_cons,hp]
 rw[e2]; simp
theorem AF{α:Type}{p:α->Bool}{l:List α}{i j:Nat}{y:α}(hj:j< ((l.take i).filter p).length)(h:(l.filter p)[j]? =some y):y ∈ (l.take i).filter p:=by
 have e:l.filter p=(l.take i).filter p++(l.drop i).filter p:=by rw[<-List.filter_append,List.take_append_drop]
 rw[e,List.getElem?_append_left hj]at h
 exact List.mem_of_getElem? h
theorem pR{α:Type}{p:α->Bool}{l:List α}(h:∀y ∈ l,p y=false):pO p l= -1:=uu fun j y _ hy=>h y (List.mem_of_getElem? hy)
theorem uG{R:Env}(h:Re R)(V:List Rw)(hd k:Int)(hl:V.length<=1000000):R.Pc 513 [.aD 40 (gT V),.int .i64 hd,.int .i64 k] (.int .i64 (bx V hd k)):=
 h.LM.enter 100 rfl fun X bb hfit hp=>by
  refine sh ?_
  refine eH 100 (fun i:Nat=>i<=V.length/\∀y ∈ (V.take i).filter (kC k),dm hd y=false) (fun i=>⟨[(0,.aD 40 (gT V)),(1,.int .i64 hd),(2,.int .i64 k),(7,.int .i64 ((V.take i).filter (kC k)).length),(8,.int .i64 i)],[],0⟩) (fun i=>V.length - i) (0) ?_ ?_
  ·exact⟨Nat.zero_le _,by simp⟩
  ·intro i hi
   dsimp only
   refine sh ?_
   refine cS (fun h1=> ?_) (fun h1=> ?_)
   ·obtain⟨r,hr⟩:∃u_,V[i]? =some u_:=⟨_,List.getElem?_eq_getElem (by omega)⟩
    have ef:=qq (p:=kC k) hr
    have fl:((V.take i).filter (kC k)).length<=i:=Nat.le_trans (List.length_filter_le _ _) (by rw[List.length_take]; omega)
    refine sh ?_
    refine cS (fun h0=> ?_) (fun h0=> ?_)
    ·have hk:kC k r=true:=by simp[kC,h0]
     rw[hk,if_pos rfl]at ef
     refine sh ?_
     refine aa hr ?_
     refine sh ?_
     refine cS (fun h2=> ?_) (fun h2=> ?_)
     ·have e:=pP (p:=dm hd) (AE hr hk) (by simpa[dm]using h2) (fun j y hj hy=>hi.2 y (AF hj hy))
      rw[bx,e]
      refine sh ?_
      exact rT
     ·refine sh ?_
      refine nX (i+1) ?_ ?_ ⟨_,hp,rfl⟩ ?_ ?_
      ·refine⟨by omega,fun y hy=> ?_⟩
       rw[ef]at hy
       rcases List.mem_append.1 hy with q|q
       ·exact hi.2 y q
       ·simp only[List.mem_singleton]at q
        subst q
        simpa[dm]using h2
      ·omega
      ·refine bj ?_
       all_goals (rw[ef]; simp; done)
      ·exact fu
    ·refine sh ?_
     refine aa hr ?_
     refine sh ?_
     refine cS (fun h3=> ?_) (fun h3=> ?_)
     ·have hk:kC k r=true:=by simp[kC,h3]
      rw[hk,if_pos rfl]at ef
      refine sh ?_
      refine aa hr ?_
      refine sh ?_
      refine cS (fun h2=> ?_) (fun h2=> ?_)
      ·have e:=pP (p:=dm hd) (AE hr hk) (by simpa[dm]using h2) (fun j y hj hy=>hi.2 y (AF hj hy))
       rw[bx,e]
       refine sh ?_
       exact rT
      ·refine sh ?_
       refine nX (i+1) ?_ ?_ ⟨_,hp,rfl⟩ ?_ ?_
       ·refine⟨by omega,fun y hy=> ?_⟩
        rw[ef]at hy
        rcases List.mem_append.1 hy with q|q
        ·exact hi.2 y q
        ·simp only[List.mem_singleton]at q
         subst q
         simpa[dm]using h2
       ·omega
       ·refine bj ?_
        all_goals (rw[ef]; simp; done)
       ·exact fu
     ·have hk:kC k r=false:=by simp[kC,h0,h3]
      rw[hk,if_neg (by simp),List.append_nil]at ef
      refine sh ?_
      refine nX (i+1) ?_ ?_ ⟨_,hp,rfl⟩ ?_ ?_
      ·exact⟨by omega,by rw[ef]; exact hi.2⟩
      ·omega
      ·refine bj ?_
       all_goals (rw[ef]; done)
      ·exact fu
   ·rw[bx,pR (by have:=hi.2; rwa[List.take_of_length_le (by omega)]at this)]
    refine sh ?_
    exact rT
theorem MU{R:Env}(h:Rc R)(L:List Rw)(lay:Int)(hl:L.length<=1000000):R.Pc 511 [.aD 40 (gT L),.int .i64 lay] (.aD 40 (gT (ci lay L))):=
 h.XG.enter 100 rfl fun X bb hfit hp=>by
  refine sh ?_
  refine eH 100 (fun i:Nat=>i<=L.length) (fun i=>⟨[(0,.aD 40 (gT L)),(1,.int .i64 lay),(5,.aV 0 (ci lay (L.take i)).length),(6,.int .i64 i)],[(0,.arr (R.ty 45) 40 (gT (ci lay (L.take i))))],1⟩) (fun i=>L.length - i) (0) ?_ ?_
  ·exact Nat.zero_le _
  ·intro i hi
   dsimp only
   refine sh ?_
   refine cS (fun h1=> ?_) (fun h1=> ?_)
   ·obtain⟨r,hr⟩:∃u_,L[i]? =some u_:=⟨_,List.getElem?_eq_getElem (by first|omega|(simp<;>omega))⟩
    refine sh ?_
    refine aa hr ?_
    have ef:ci lay (L.take (i+1))=ci lay (L.take i)++(if ku lay r=true then [r]else []):=qq hr
    have fl:(ci lay (L.take i)).length<=i:=Nat.le_trans (List.length_filter_le _ _) (by rw[List.length_take]; omega)
    refine sh ?_
    refine ae.pure h.vi.LI.hb (uC h.vi r.f lay) rfl ?_
    obtain⟨O,hO⟩:∃O,ci lay (L.take i)=O:=⟨_,rfl⟩
    rw[hO]at ef fl ⊢
    refine sh ?_
    refine cS (fun h2=> ?_) (fun h2=> ?_)
    ·rw[if_pos (by simpa[ku]using h2)]at ef
     refine sh ?_
     refine aa hr ?_
     refine sh ?_
     refine nX (i+1) ?_ ?_ ⟨_,hp,rfl⟩ ?_ ?_
     ·omega
     ·omega
     ·refine bj ?_
      all_goals (rw[ef]; simp; done)
     ·refine bj ?_
      all_goals first|(right; simp[Rw.row]; done)|(rw[ef]; simp[gT,Rw.row]; done)
    ·rw[if_neg (by simpa[ku]using h2),List.append_nil]at ef
     refine sh ?_
     refine nX (i+1) ?_ ?_ ⟨_,hp,rfl⟩ ?_ ?_
     ·omega
     ·omega
     ·refine bj ?_
      all_goals (rw[ef]; done)
     ·refine bj ?_
      all_goals (rw[ef]; done)
   ·rw[List.take_of_length_le (by omega)]
    refine sh ?_
    exact rT
end Go.UM
