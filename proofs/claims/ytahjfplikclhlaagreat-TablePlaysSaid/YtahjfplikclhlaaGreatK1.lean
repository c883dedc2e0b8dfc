/- Of the reckoning machine, and what is proved with it: texts joined by program. -/
import Derived.Test.YtahjfplikclhlaaGreatK0
import Derived.RangeFuncRecord
import Derived.Laws.StructEq
import Derived.ChangeKeysEq
import Derived.Laws.Cover3
import Derived.Laws.Pointers
import Derived.Laws.BytesString
import Derived.Laws.MakeOwn
import Derived.Lib.ConvBytes
import Derived.WideKeyRuns
set_option linter.all false
namespace Go.AM
open Go.RowKit
def ll (w:World) (l:Nat):Prop:=∀off,w.cell? ⟨l,off,none⟩=none
theorem mP {w:World} {l:Nat} {r:Loop} (h:w.heap[l]? =some (.loop r)):ll w l:=fun off=>by simp[World.cell?,h]
theorem pe {w:World} {l:Nat} {r:Option (List Deferred)} (h:w.heap[l]? =some (.deferred r)):ll w l:=fun off=>by simp[World.cell?,h]
theorem dj {w:World} {l k:Nat} {o:Obj} (h:k≠l):(w.putObj l o).heap[k]? =w.heap[k]? :=World.putObj_heap_other (by omega)
theorem putObj_size (w:World) (l:Nat) (o:Obj):(w.putObj l o).heap.size=w.heap.size:=by simp[World.putObj]
theorem tn {w:World} {l:Nat} {o:Obj} (hc:ll w l) {b off:Nat} {v:Value} (h:w.cell? ⟨b,off,none⟩=some v):(w.putObj l o).cell? ⟨b,off,none⟩=some v:=by
 have hb:b≠l:=fun e=>by subst e; rw[hc]at h; simp at h
 exact (cell_of_heap (dj hb)).trans h
theorem aL.A3 {ρ:Place} {L:aT} {I:Nat→Prop} {w:World} {l:Nat} (o:Obj) (hc:ll w l) {N:Nat→Prop} {a:AV} {v:Value} (h:aL ρ L I w N a v):aL ρ L I (w.putObj l o) N a v:=by
 induction h with
 |int k n=>exact .int k n
 |bool b=>exact .bool b
 |str s=>exact .str s
 |bG=>exact .bG
 |ap=>exact .ap
 |ar=>exact .ar
 |dy=>exact .dy
 |cb=>exact .cb
 |lJ n r=>exact .lJ n r
 |loc n len i off v hn h1 h=>exact .loc n len i off v hn h1 h
 |ba n len v hn h1 h=>exact .ba n len v hn h1 h
 |dE n len i off bP v hn h1 h=>exact .dE n len i off bP v hn h1 h
 |omap n v hn h1 h=>exact .omap n v hn h1 h
 |cn sz a cap hc=>exact .cn sz a cap hc
 |aH sz es b o cap c hl sF hI hs h1 hcell hr ih=>exact .aH sz es b o cap c hl sF hI hs h1 (fun i j hi hj=>tn hc (hcell i j hi hj)) ih
 |aY e off b o c hI h1 hcell hr ih=>exact .aY e off b o c hI h1 (fun j hj=>tn hc (hcell j hj)) ih
 |bL f aN vs hl hr ih=>exact .bL f aN vs hl ih
 |oM f aN vs hl hr ih=>exact .oM f aN vs hl ih
 |agg cs vs hl h1 hr ih=>exact .agg cs vs hl h1 ih
 |aO cs vs hl hr ih=>exact .aO cs vs hl ih
 |bad v=>exact .bad v
section
variable {C:bV} {ρ:Place} {I:Nat→Prop} {M:bf} {N:Nat→Prop} {w:World} {l:Nat}
theorem Dh (o:Obj) (hc:ll w l) (hI:I l) {TO:World} (h0:TO.heap.size=C.w0.heap.size) {n:Nat} {b:aW} (B:qh C ρ (lens M) I w N n b):qh {C with w0:=TO} ρ (lens M) I (w.putObj l o) N n b:=by
 refine⟨B.lt,B.even,B.dM,fun g cap hg=> ?_,fun k ka va r sn la hb=> ?_⟩
 rotate_left
 ·obtain⟨g,cap,hg,i1,i2,i3⟩:=B.iter k ka va r sn la hb
  obtain⟨_,_,_,_,jg,_⟩:=B.real g cap hg
  exact⟨g,cap,hg,by show TO.heap.size≤r; omega,i2,i3.at (dj fun e=>jg (e ▸ hI)) (dj fun e=>i2 (e ▸ hI))⟩
 obtain⟨cs,fr,hc1,AQ,jg,vU,zG,x5,AR,AS⟩:=B.real g cap hg
 have hne:g≠l:=fun e=>jg (e ▸ hI)
 refine⟨cs,fr,hc1.at (dj hne),AQ,jg,?_,zG,x5,AR,fun i j hi hj=> ?_⟩
 ·rcases vU with h|h
  ·exact .inl h
  ·exact .inr (by show TO.heap.size≤g; omega)
 ·obtain⟨u,hu,nT,hr⟩:=AS i j hi hj
  exact⟨u,hu,nT,hr.A3 o hc⟩
theorem cC.A3 (h:cC C ρ I M N w) (o:Obj) (hc:ll w l) (hI:I l) (hl:C.w0.heap.size≤l):cC C ρ I M N (w.putObj l o):=by
 refine⟨fun n b hb=>Dh o hc hI rfl (h.aP n b hb),h.inj,h.nW,fun g hg=>by rw[putObj_size]; exact h.lt g hg,h.old,?_,h.pn,h.CS,h.par⟩
 exact⟨h.keeps.os,h.keeps.tape,h.keeps.output,h.keeps.drawn,by rw[putObj_size]; exact h.keeps.size,fun g hg hf=>(dj (by omega)).trans (h.keeps.block g hg hf)⟩
theorem cC.JH (h:cC C ρ I M N w) (hI:C.I0 l) {o:Obj} (hl:C.w0.heap[l]? =some o):I l∧w.heap[l]? =some o:=
 ⟨h.nW l hI,(h.keeps.block l (Array.getElem?_eq_some_iff.1 hl).1 (fun hf=>(h.CS l hf).2 hI)).trans hl⟩
end
end Go.AM
namespace Go.AM
open Go.RowKit
variable {P:Program} {T:TT} {X:bV}
theorem wl {S:St} {a:Act} {w w1:World} {ρ:Place} {I:Nat→Prop} (hF:jk ρ I w X S a) {av:AV} {ws:List (Nat × aW)} {v:Value} {aS:Nat} {nw:List Nat} {d:Option Nat}
  (yq:∀p ∈ ws,p.1<aS) (hle:S.nx≤aS) (hd:∀x,d=some x→x<X.size) (hp:gv X (aa S.M) (· <S.nx) ρ I w av ws v w1):
  ∃ρ1 I1,(∀g,I g→I1 g)∧(∀g,I g→w1.heap[g]? =w.heap[g]?)∧cC X ρ1 I1 (aa (cq S.M ws)) (· <aS) w1∧jk ρ1 I1 w1 X ⟨gq S.F d av,cq S.M ws,aS⟩ (a.put d v):=by
 obtain⟨ρ1,I1,E,W,R⟩:=hp
 have hN:∀m,eE (· <S.nx) ws m→m<aS:=by
  rintro m (h|⟨b,h⟩)
  ·have:m<S.nx:=h
   omega
  ·exact yq _ h
 have hM:aa (cq S.M ws)=cP (aa S.M) ws:=gV ws S.M
 refine⟨ρ1,I1,E.nW,E.cell,?_,?_,?_,?_⟩
 ·show cC X ρ1 I1 (aa (cq S.M ws)) (· <aS) w1
  rw[hM]
  refine⟨fun n b hb=> ?_,W.inj,W.nW,W.lt,W.old,W.keeps,fun n hn=>hN n (W.pn n hn),W.CS,W.par⟩
  have B:=W.aP n b hb
  refine⟨hN n B.lt,B.even,B.dM,fun g cap hρ=> ?_,B.iter⟩
  obtain⟨cs,fr,hc1,AQ,jg,vU,zG,x5,AR,AS⟩:=B.real g cap hρ
  refine⟨cs,fr,hc1,AQ,jg,vU,zG,x5,AR,fun i j hi hj=> ?_⟩
  obtain⟨u,hu,nT,hr⟩:=AS i j hi hj
  exact⟨u,hu,nT,hr.wide hN⟩
 ·intro i
  show aL ρ1 (lens (aa (cq S.M ws))) I1 w1 (· <aS) (look (gq S.F d av) i) ((a.put d v).tmps.getD i undef)
  rw[hM]
  rcases wa (a:=a) (d:=d) (v:=v) (F:=S.F) (av:=av) (i:=i) hF.size hd with⟨h1,h2⟩|⟨h1,h2⟩
  ·rw[h1,h2]; exact R.wide hN
  ·rw[h1,h2]; exact ((hF.rep i).so E (fun _ h=>h)).wide (fun m h=>by have:m<S.nx:=h; show m<aS; omega)
 ·cases d<;>exact hF.defers.so E
 ·cases d with
  |none=>exact hF.size
  |some x=>simpa[Act.put]using hF.size
theorem lm {S:St} {a:Act} {w w1:World} {ρ:Place} {I:Nat→Prop} (hF:jk ρ I w X S a) {av:AV} {ws:List (Nat × aW)} {v:Value} {aS:Nat} {nw:List Nat} {d:Option Nat}
  (yq:∀p ∈ ws,p.1<aS) (hle:S.nx≤aS) (hd:∀x,d=some x→x<X.size) (hp:gv X (aa S.M) (· <S.nx) ρ I w av ws v w1):iw X ⟨gq S.F d av,cq S.M ws,aS⟩ (a.put d v) w1:=by
 obtain⟨ρ1,I1,_,_,h1,h2⟩:=wl (nw:=nw) hF yq hle hd hp
 exact⟨ρ1,I1,h1,h2⟩
theorem Di {a:Act} {F:aR} {b:Bool} {s:Nat} (h:a.tmps.getD s undef= .bool b) (i:Nat):look ((s,AV.bool b)::F) i=AV.bool b∧a.tmps.getD i undef= .bool b∨look ((s,AV.bool b)::F) i=look F i:=by
 by_cases e:i=s
 ·subst e; exact .inl ⟨by simp[look],h⟩
 ·have hb:(i==s)=false:=by simpa using e
  exact .inr (by simp[look,hb])
theorem jp {S:St} {a:Act} {w:World} {s:Nat} {b:Bool} (h:iw X S a w) (hv:a.tmps.getD s undef= .bool b):iw X ⟨(s,.bool b)::S.F,S.M,S.nx⟩ a w:=by
 obtain⟨ρ,I,W,F⟩:=h
 refine⟨ρ,I,W,fun i=> ?_,F.defers,F.size⟩
 rcases Di (F:=S.F) hv i with⟨h1,h2⟩|h1
 ·rw[h1,h2]; exact .bool _
 ·rw[h1]; exact F.rep i
theorem gG.steps {b:Frame} {R:St→Prop} {ks pf:List It} {a a':Act} {w w':World} (hs:∀cs,Steps P (lone (b.atR a (ks.map It.item)) cs w) (lone (b.atR a' (pf.map It.item)) cs w')) (hsub:∀c post k',(It.dX c post::k') <:+ pf→(It.dX c post::k') <:+ ks)
  (h:gG P X b R pf a' w'):gG P X b R ks a w:=by
 intro cs
 obtain⟨a2,w2,S2,hS,h1|h1⟩:=h cs
 ·obtain⟨todo,hl,h2,h3⟩:=h1
  exact⟨a2,w2,S2,hS,.inl ⟨todo,hl,(hs cs).trans h2,h3⟩⟩
 ·obtain⟨c,post,k',h2,h3,h4⟩:=h1
  exact⟨a2,w2,S2,hS,.inr ⟨c,post,k',hsub _ _ _ h2,(hs cs).trans h3,h4⟩⟩
section
variable {b:Frame} {a:Act} {w:World} {k:List Item} {cs:List Frame}
theorem step_scope {c:Code}:step P (lone (b.atR a (.code (.scope c)::k)) cs w)= .next (lone (b.atR a (.code c:: .inScope c::k)) cs w):=
 step_lone_go (by simp[stepG,stepG.exec,Frame.atR])
theorem step_inScope {c:Code}:step P (lone (b.atR a (.inScope c::k)) cs w)= .next (lone (b.atR a k) cs w):=
 step_lone_go (by simp[stepG,stepG.exec,Frame.atR])
end
theorem qD {b:Frame} {a:Act} {w:World} {cs:List Frame} {todo:List Item} (hb:b.roundOf=none) (h:zI b.roundOf.isSome todo):Steps P (lone (b.atR a todo) cs w) (lone {b.atR a todo with mode:= .returning} cs w):=by
 rcases h with rfl|⟨_,k,rfl⟩
 ·exact .one (stepR_end hb)
 ·exact .one (stepR_ret hb)
theorem mQ {b:Frame} {a:Act} {w:World} {cs:List Frame} {todo:List Item} {ρ:Place} {I:Nat→Prop} {M:bf} {N:Nat→Prop} (W:cC X ρ I M N w) (hd:kA I w X a.defers):
  ∃w1,Steps P (lone {b.atR a todo with mode:= .returning} cs w) (lone {b.atR {a with defers:=[]} todo with mode:= .returning} cs w1)∧cC X ρ I M N w1∧
   ∀N' av v,aL ρ (lens M) I w N' av v→aL ρ (lens M) I w1 N' av v:=by
 obtain⟨Ds,h1,h2,h3⟩:=hd
 obtain⟨tm,ds⟩:=a
 simp only at h1
 subst h1
 induction Ds generalizing w with
 |nil=>exact⟨w,.refl _ _,W,fun _ _ _ h=>h⟩
 |cons D Ds ih=>
  obtain⟨k1,k2,k3⟩:=h3 D List.mem_cons_self
  rw[List.nodup_cons]at h2
  have W':=W.A3 (.deferred none) (pe k3) k2 k1
  obtain⟨w1,s1,s2,s3⟩:=ih W' h2.2 (fun D' gp=>by
   obtain⟨q1,q2,q3⟩:=h3 D' (List.mem_cons_of_mem _ gp)
   exact⟨q1,q2,(dj (fun e=>h2.1 (by rw[←e]; exact gp))).trans q3⟩)
  refine⟨w1,.head (step_lone_go ?_) s1,s2,fun N' av v h=>s3 _ _ _ (h.A3 _ (pe k3))⟩
  simp[stepG,unwind,Frame.atR,run_takeDeferred k3]
theorem ec {c:IE} {post:St→Prop} {k' k:List It} {x y:It} (hx:∀c p,x≠ .dX c p) (h:(It.dX c post::k') <:+ x::k):(It.dX c post::k') <:+ y::k:=by
 rcases List.suffix_cons_iff.1 h with h|h
 ·exact (hx c post (List.cons.inj h).1.symm).elim
 ·exact h.trans (List.suffix_cons _ _)
theorem gg {c:IE} {post:St→Prop} {k' k:List It} {y:It} (h:(It.dX c post::k') <:+ k):(It.dX c post::k') <:+ y::k:=h.trans (List.suffix_cons _ _)
theorem dH {id:Nat}:∀ {k k':List It},IH id k=some k'→k' <:+ k∧exitTo id (k.map It.item)=some (k'.map It.item)
 |[],k',h=>by simp[IH]at h
 | .aP id'::k,k',h=>by
   simp only[IH]at h
   by_cases Nv:id'=id
   ·subst Nv
    simp at h
    subst h
    exact⟨List.suffix_cons _ _,by simp[It.item,exitTo]⟩
   ·have hb:(id'==id)=false:=by simpa using Nv
    rw[hb]at h
    obtain⟨h1,h2⟩:=dH (k:=k) h
    exact⟨h1.trans (List.suffix_cons _ _),by simp[It.item,exitTo,hb,h2]⟩
 | .code c::k,k',h=>by
   obtain⟨h1,h2⟩:=dH (k:=k) h
   exact⟨h1.trans (List.suffix_cons _ _),by simp[It.item,exitTo,h2]⟩
 | .inl c::k,k',h=>by
   obtain⟨h1,h2⟩:=dH (k:=k) h
   exact⟨h1.trans (List.suffix_cons _ _),by simp[It.item,exitTo,h2]⟩
 | .dX c p::k,k',h=>by
   obtain⟨h1,h2⟩:=dH (k:=k) h
   exact⟨h1.trans (List.suffix_cons _ _),by cases c<;>simp[It.item,IE.item,exitTo,h2]⟩
 | .k8 c::k,k',h=>by
   obtain⟨h1,h2⟩:=dH (k:=k) h
   exact⟨h1.trans (List.suffix_cons _ _),by simp[It.item,exitTo,h2]⟩
 | .ops all i r gd::k,k',h=>by
   obtain⟨h1,h2⟩:=dH (k:=k) h
   exact⟨h1.trans (List.suffix_cons _ _),by simp[It.item,exitTo,h2]⟩
theorem JI {size id:Nat} {nr:Bool} {k k':List It} (h:IH id k=some k') (hk:∀x ∈ k,AW size nr x):∀x ∈ k',AW size nr x:=fun x hx=>hk x ((dH h).1.subset hx)
theorem Dj {c0:Code} {c:IE} {post:St→Prop} {k' k:List It} (h:(It.dX c post::k') <:+ .code c0:: .inl c0::k):(It.dX c post::k') <:+ .inl c0::k:=by
 rcases List.suffix_cons_iff.1 h with h|h
 ·simp at h
 ·exact h
theorem A4 {c0 c1:Code} {c:IE} {post:St→Prop} {k' k:List It} (h:(It.dX c post::k') <:+ .code c0:: .inl c0::k):(It.dX c post::k') <:+ .code c1::k:=by
 rcases List.suffix_cons_iff.1 h with h|h
 ·simp at h
 ·exact ec (by simp) h
end Go.AM
namespace Go.AM
open Go.RowKit
variable {P:Program} {T:TT} {X:bV}
def cx:Place:=fun _=>none
def fy:aT:=fun _=>none
structure N4 (z:Bool) (w w':World):Prop extends Below w.heap.size w w' where
 drawn:(zd z w).drawn≤w'.drawn
abbrev Blw:=N4 false
def fA (z:Bool) (P:Program) (f:Nat) (args:List AV) (av:AV):Prop:=
 ∀I w vs,(∀g,I g→g<w.heap.size)→c6 cx fy I w ch args vs→
  Calls P f vs.toArray w fun e w1=>∃v I1,e= .returned v∧N4 z w w1∧(∀g,I g→I1 g)∧(∀g,I1 g→g<w1.heap.size)∧(∀g,g<w.heap.size→I1 g→I g)∧aL cx fy I1 w1 ch av v
abbrev yr:=fA false
mutual
theorem fB {N:Nat→Prop}:∀ (a:AV),(∀m ∈ a.names,N m)→a.under N
 | .loc n len i off,h=>by simpa[AV.under]using h n (by simp[AV.names])
 | .ba n len,h=>by simpa[AV.under]using h n (by simp[AV.names])
 | .dE n len i off bP,h=>by simpa[AV.under]using h n (by simp[AV.names])
 | .omap n,h=>by simpa[AV.under]using h n (by simp[AV.names])
 | .bL f cs,h=>by simpa[AV.under]using du cs (fun m hm=>h m (by simpa[AV.names]using hm))
 | .agg cs,h=>by simpa[AV.under]using du cs (fun m hm=>h m (by simpa[AV.names]using hm))
 | .aO cs,h=>by simpa[AV.under]using du cs (fun m hm=>h m (by simpa[AV.names]using hm))
 | .int ..,_=>by simp[AV.under]
 | .bool ..,_=>by simp[AV.under]
 | .str ..,_=>by simp[AV.under]
 | .bG,_=>by simp[AV.under]
 | .ap,_=>by simp[AV.under]
 | .ar,_=>by simp[AV.under]
 | .dy,_=>by simp[AV.under]
 | .cb,_=>by simp[AV.under]
 | .lJ ..,_=>by simp[AV.under]
 | .aH ..,_=>by simp[AV.under]
 | .aY ..,_=>by simp[AV.under]
 | .bad,_=>by simp[AV.under]
theorem du {N:Nat→Prop}:∀ (cs:List AV),(∀m ∈ AV.ay cs,N m)→AV.fe N cs
 |[],_=>by simp[AV.fe]
 |c::cs,h=>by
  simp only[AV.fe]
  exact⟨fB c (fun m hm=>h m (by simp[AV.ay,hm])),du cs (fun m hm=>h m (by simp[AV.ay,hm]))⟩
end
theorem aL.alone {ρ:Place} {L:aT} {I:Nat→Prop} {w:World} {N:Nat→Prop} {a:AV} {v:Value} (h:aL ρ L I w N a v) (hn:a.names=[]) (ρ':Place) (L':aT):aL ρ' L' I w ch a v:=
 (h.low (N':=ch) (fB a (fun m hm=>by rw[hn]at hm; simp at hm))).bare (fun _ h=>h) ρ' L'
theorem dm {cs:List AV} (h:AV.ay cs=[]) (j:Nat):(cs.getD j .bad).names=[]:=by
 induction cs generalizing j with
 |nil=>simp[AV.names]
 |cons c cs ih=>
  simp only[AV.ay,List.append_eq_nil_iff]at h
  cases j with
  |zero=>simpa using h.1
  |succ j=>simpa using ih h.2 j
theorem c6.alone {ρ:Place} {L:aT} {I:Nat→Prop} {w:World} {N:Nat→Prop} {as:List AV} {vs:List Value} (h:c6 ρ L I w N as vs) (hn:AV.ay as=[]) (ρ':Place) (L':aT):c6 ρ' L' I w ch as vs:=
 ⟨h.1,fun j hj=>(h.2 j hj).alone (dm hn j) ρ' L'⟩
theorem fA.N5 {z:Bool} {f:Nat} {args:List AV} {av:AV} (h:fA z P f args av) (hz:s6 z X) (hn:AV.ay args=[]) (M:bf):oN P X f args M av [] []:=by
 refine⟨fun p hp=>by simp at hp,fun M' N ρ I w vs hW _ _ hR=> ?_⟩
 refine (h I w vs hW.lt (hR.alone hn _ _)).mono ?_
 rintro e w1 ⟨v,I1,rfl,hb,h1,h2,h3,hr⟩
 obtain⟨E,W⟩:=hW.ext' (w':=w1) (I':=I1) hb.os hb.tape hb.output hb.size hb.block h1 h2 h3 (hz.le hW.keeps.drawn hb.drawn)
 refine⟨v,rfl,ρ,I1,E,by rw[oc]; exact W,?_⟩
 exact ((hr.bare (fun _ h=>h) ρ (lens M')).wide (fun _ h=>h.elim))
def b6 (P:Program) (f:Nat):Prop:=∃fn,P.funcs[f]? =some fn∧(fn.name== "runtime.NumGoroutine")=false∧fn.body.isNone=false
def mR (T:TT):List ResultVar→aR→Mem→(List AV→Prop)→Prop
 |[],_,_,K=>K []
 | .tmp t::r,F,M,K=>mR T r F M fun vs=>K (look F t::vs)
 | .cell a t::r,F,M,K=>iy (T.d t).ok (lK T t (look F a) M fun v=>mR T r F M fun vs=>K (v::vs))
def one (vs:List AV):AV:=match vs with
 |[v]=>v
 |vs=> .aO vs
section
variable {I:Nat→Prop} {w:World} {ρ:Place} {M:Mem} {N:Nat→Prop}
def p8 (tmps:Array Value):ResultVar→Sem Value
 | .tmp t=>pure (tmps.getD t undef)
 | .cell a t=>do loadVar t (←asAddr (tmps.getD a undef))
theorem kG (hT:cU P T) (hW:cC X ρ I (aa M) N w) {F:aR} {tmps:Array Value} (hF:∀i,aL ρ (lens (aa M)) I w N (look F i) (tmps.getD i undef)):∀ {rs:List ResultVar} {K:List AV→Prop},mR T rs F M K→
  ∃fH vs,K fH∧c6 ρ (lens (aa M)) I w N fH vs∧(rs.mapM (p8 tmps)).run P w= .ok vs w∧vs.length=rs.length
 |[],K,h=>⟨[],[],h,⟨rfl,fun j hj=>by simp at hj⟩,rfl,rfl⟩
 | .tmp t::r,K,h=>by
   obtain⟨fH,vs,h1,h2,h3,h4⟩:=kG hT hW hF (rs:=r) h
   refine⟨_,tmps.getD t undef::vs,h1,⟨by simp[h2.1],fun j hj=> ?_⟩,?_,by simp[h4]⟩
   ·cases j with
    |zero=>simpa using hF t
    |succ j=>simpa using h2.2 j (by simpa using hj)
   ·simp only[List.mapM_cons,Sem.run_bind,Sem.run_pure,Result.andThen_ok,p8,h3]
 | .cell a t::r,K,h=>by
   simp only[mR]at h
   obtain⟨hok,h⟩:=aw h
   have N6:∃av,(∃v ad,tmps.getD a undef= .pointer (some ad)∧(loadVar t ad).run P w= .ok v w∧aL ρ (lens (aa M)) I w N av v)∧mR T r F M fun vs=>K (av::vs):=by
    cases hl:look F a with
    |loc n len i off=>
     rw[hl]at h
     simp only[lK,alive]at h
     cases hb:aa M n with
     |none=>rw[hb]at h; exact h.elim
     |some b=>
      rw[hb]at h
      obtain⟨hc1,hmp,h2⟩:=aw h
      obtain⟨av,ha1,ha2,pF,hk⟩:=ep h2
      have hlen:b.ln=len:=by simpa using hc1
      have dw:lens (aa M) n=some (len,b.sz):=by rw[aA]; exact⟨b,hb,hlen,rfl⟩
      have hr:=hF a
      rw[hl]at hr
      obtain⟨hn,g,cap,hρ,hv⟩:=fj hr dw
      obtain⟨f,hf⟩:=(hW.aP n b hb).row hmp hρ i
      obtain⟨v,CH,Jx⟩:=dO (K:=fun _=>True) hT hok (off:=off) f hf ha1 ha2 pF
      exact⟨av,⟨v,_,hv,CH,Jx⟩,hk⟩
    |aY e off=>
     rw[hl]at h
     simp only[lK]at h
     obtain⟨av,ha1,ha2,pF,hk⟩:=ep h
     have hr:=hF a
     rw[hl]at hr
     generalize TN:tmps.getD a undef=vv at hr
     cases hr with
     |aY _ _ b q c hI h1 hcell hr=>
      obtain⟨v,CH,Jx⟩:=dO (K:=fun _=>True) (N:=N) hT hok (off:=off) c (fun j hj=>⟨hcell j hj,h1 j hj,(hr j hj).wide (fun _ h=>h.elim)⟩) ha1 ha2 pF
      exact⟨av,⟨v,_,rfl,CH,Jx⟩,hk⟩
    |_=>rw[hl]at h; exact h.elim
   obtain⟨av,⟨v,ad,hv,hrun,uA⟩,hk⟩:=N6
   obtain⟨fH,vs,h1,h2,h3,h4⟩:=kG hT hW hF (rs:=r) hk
   refine⟨_,v::vs,h1,⟨by simp[h2.1],fun j hj=> ?_⟩,?_,by simp[h4]⟩
   ·cases j with
    |zero=>simpa using uA
    |succ j=>simpa using h2.2 j (by simpa using hj)
   ·simp only[List.mapM_cons,Sem.run_bind,Sem.run_pure,Result.andThen_ok,p8,hv,asAddr,hrun,h3]
theorem Ge {I:Nat→Prop} {w:World} {ρ:Place} {L:aT} {N:Nat→Prop} {fH:List AV} {vs:List Value} (h:c6 ρ L I w N fH vs):
  aL ρ L I w N (one fH) (if h:vs.toArray.size=1 then vs.toArray[0]else .tuple vs.toArray):=by
 obtain⟨hl,hr⟩:=h
 cases fH with
 |nil=>
  cases vs with
  |nil=>exact .aO [] [] rfl (fun j hj=>by simp at hj)
  |cons _ _=>simp at hl
 |cons a r=>
  cases vs with
  |nil=>simp at hl
  |cons v q=>
   cases r with
   |nil=>
    cases q with
    |nil=>exact hr 0 (by simp)
    |cons _ _=>simp at hl
   |cons b r=>
    cases q with
    |nil=>simp at hl
    |cons u q=>
     have:¬ (v::u::q).toArray.size=1:=by simp
     rw[dif_neg this]
     exact .aO _ _ hl hr
theorem lQ (hT:cU P T) (hW:cC X ρ I (aa M) N w) {F:aR} {tmps:Array Value} (hF:∀i,aL ρ (lens (aa M)) I w N (look F i) (tmps.getD i undef)) {fn:Func} {K:List AV→Prop} (h:mR T fn.results.toList F M K):
  ∃fH v,K fH∧(results fn tmps).run P w= .ok v w∧aL ρ (lens (aa M)) I w N (one fH) v:=by
 obtain⟨fH,vs,h1,h2,h3,h4⟩:=kG hT hW hF h
 have hrun:(results fn tmps).run P w= .ok (if h:vs.toArray.size=1 then vs.toArray[0]else .tuple vs.toArray) w:=by
  unfold results
  have e:∀g:ResultVar→Sem Value,(∀r,g r=p8 tmps r)→(List.mapM g fn.results.toList).run P w= .ok vs w:=fun g hg=>by rw[funext hg]; exact h3
  simp only[Sem.run_bind,Array.mapM_eq_mapM_toList,Sem.run_map]
  rw[e _ (fun r=>by cases r<;>rfl)]
  simp only[Result.andThen_ok,Sem.run_pure]
 refine⟨fH,_,h1,hrun,?_⟩
 exact Ge h2
end
def mj (i:Nat):List AV→aR
 |[]=>[]
 |a::r=>(i,a)::mj (i+1) r
theorem oh:∀ (as:List AV) (i j:Nat),look (mj i as) j=if i≤j∧j<i+as.length then as.getD (j - i) .bad else .bad
 |[],i,j=>by simp only[mj,look,List.length_nil]; rw[if_neg (by omega)]
 |a::r,i,j=>by
  by_cases h:j=i
  ·subst h; simp[mj,look]
  ·have hb:(j==i)=false:=by simpa using h
   simp only[mj,look,hb,cond_false,oh r (i+1) j,List.length_cons]
   by_cases h2:i+1≤j∧j<i+1+r.length
   ·rw[if_pos h2,if_pos (by omega)]
    have:j - i=(j - (i+1))+1:=by omega
    rw[this]; simp
   ·rw[if_neg h2,if_neg (by omega)]
def UX (w:World) (I:Nat→Prop) (size:Nat):bV:=⟨w,0,I,size,cx,fy⟩
mutual
def AV.fit:AV→Prop
 | .aH _ es=>es.length≤maxLen∧AV.A5 es
 | .agg cs=>AV.kH cs
 | .aO cs=>AV.kH cs
 | .bL _ cs=>AV.kH cs
 | .aY e _=>AV.kH e
 |_=>True
def AV.kH:List AV→Prop
 |[]=>True
 |c::r=>AV.fit c∧AV.kH r
def AV.A5:List (List AV)→Prop
 |[]=>True
 |e::r=>AV.kH e∧AV.A5 r
end
theorem iL:∀ (cs:List AV),(∀j,j<cs.length→(cs.getD j .bad).fit)→AV.kH cs
 |[],_=>by simp[AV.kH]
 |c::r,h=>by
  simp only[AV.kH]
  exact⟨by simpa using h 0 (by simp),iL r (fun j hj=>by simpa using h (j+1) (by simpa using hj))⟩
theorem wm:∀ (es:List (List AV)),AV.A5 es↔∀e ∈ es,AV.kH e
 |[]=>by simp[AV.A5]
 |e::r=>by simp[AV.A5,wm r]
theorem aL.fit {ρ:Place} {L:aT} {I:Nat→Prop} {w:World} {N:Nat→Prop} {a:AV} {v:Value} (h:aL ρ L I w N a v):a.fit:=by
 induction h with
 |cn=>simp[AV.fit,AV.A5]
 |aH sz es b o cap c hl hc hI hs h1 hcell hr ih=>
  simp only[AV.fit]
  refine⟨by omega,(wm es).2 fun e he=> ?_⟩
  obtain⟨i,hi,rfl⟩:=List.getElem_of_mem he
  have hel:es.getD i []=es[i]:=by simp[List.getD_eq_getElem?_getD,hi]
  refine iL _ fun j hj=> ?_
  have:=ih i j hi (by rw[←hs _ (List.getElem_mem hi)]; exact hj)
  rwa[hel]at this
 |aY e off b o c hI h1 hcell hr ih=>simp only[AV.fit]; exact iL _ ih
 |bL f aN vs hl hr ih=>simp only[AV.fit]; exact iL _ ih
 |oM f aN vs hl hr ih=>simp only[AV.fit]; exact iL _ ih
 |agg cs vs hl h1 hr ih=>simp only[AV.fit]; exact iL _ ih
 |aO cs vs hl hr ih=>simp only[AV.fit]; exact iL _ ih
 |_=>simp[AV.fit]
theorem c6.fit {ρ:Place} {L:aT} {I:Nat→Prop} {w:World} {N:Nat→Prop} {as:List AV} {vs:List Value} (h:c6 ρ L I w N as vs):AV.kH as:=
 iL _ fun j hj=>(h.2 j hj).fit
end Go.AM
namespace Go.AM
open Go.RowKit
def Gf:TypeDesc→TD
 | .bool=> .bool
 | .int k=> .int k
 | .string=> .str
 | .pointer e=> .ptr e
 | .slice e=> .slice e
 | .array n e=> .arr n e
 | .map k e=> .map k e
 | .struct fs=> .struct (fs.toList.map fun f=>(f.offset,f.type))
 | .func .. => .func
 | .interface _=> .iface
 | .tuple _=> .aO
 |_=> .other
def TP (P:Program) (t:Nat):TD:=match P.underlying t,P.info? t with
 |some D,some i=>bif Nat.ble i.bytes 131072&&i.zero.isSome then Gf D else .other
 |_,_=> .other
def UY (P:Program) (t:Nat):Nat:=match P.info? t with
 |some i=>i.size
 |none=>0
def UZ (P:Program) (t:Nat):AV:=match P.info? t with
 |some i=>(match i.zero with
  |some z=>ID z
  |none=> .bad)
 |none=> .bad
def yu (P:Program):TT:=⟨TP P,UY P,UZ P⟩
theorem A6:∀D:TypeDesc,Gf D≠ .other→(Gf D).fits D:=by
 intro D h
 cases D<;>simp_all[Gf,TD.fits]
theorem Gg (P:Program):cU P (yu P):=by
 intro t ht
 simp only[yu,TP]at ht
 cases hD:P.underlying t with
 |none=>rw[hD]at ht; exact (ht rfl).elim
 |some D=>
  cases hi:P.info? t with
  |none=>rw[hD,hi]at ht; exact (ht rfl).elim
  |some i=>
   rw[hD,hi]at ht
   simp only at ht
   cases hc:Nat.ble i.bytes 131072&&i.zero.isSome with
   |false=>rw[hc]at ht; exact (ht rfl).elim
   |true=>
    rw[hc]at ht
    simp only[Bool.and_eq_true,Option.isSome_iff_exists]at hc
    obtain⟨hb,z,hz⟩:=hc
    refine⟨D,i,z,rfl,?_,rfl,?_,Nat.le_of_ble_eq_true hb,hz,?_⟩
    ·simp only[yu,TP,hD,hi,hz,hb,Option.isSome_some,Bool.and_self,cond_true]
     exact A6 D ht
    ·simp only[yu,UY,hi]
    ·simp only[yu,UZ,hi,hz]
def N7 (ds:List TD) (ss:List Nat) (zs:List AV):TT:=⟨fun t=>ds.getD t .other,fun t=>ss.getD t 0,fun t=>zs.getD t .bad⟩
theorem JJ {P:Program} {ds:List TD} {ss:List Nat} {zs:List AV} (n:Nat) (h1:(List.range n).map (TP P)=ds) (h2:(List.range n).map (UY P)=ss) (h3:(List.range n).map (UZ P)=zs):cU P (N7 ds ss zs):=by
 subst h1; subst h2; subst h3
 intro t ht
 have hlt:t<n:=by
  refine Classical.byContradiction fun h=>ht ?_
  simp[N7,List.getD_eq_getElem?_getD,h]
 have:=Gg P t (by simpa[N7,yu,List.getD_eq_getElem?_getD,hlt]using ht)
 simpa[N7,yu,List.getD_eq_getElem?_getD,hlt]using this
end Go.AM
namespace Go.AM
open Go.RowKit
inductive LK where
 |i|b|s
def kf (n:Nat) (l:List LK):List LK:=(List.replicate n l).flatten
def uN (P:Program) (f:Nat→Option (List LK)):List Field→Nat→Option (List LK)
 |[],_=>some []
 |x::r,off=>if x.name != "_" &&x.offset==off then (match f x.type,P.info? x.type with
  |some l,some i=>if i.size==l.length then (uN P f r (off+l.length)).map (l++ ·)else none
  |_,_=>none)else none
def lq (P:Program):Nat→Nat→Option (List LK)
 |0,_=>none
 |d+1,t=>match P.underlying t with
  |some .bool=>some [.b]
  |some (.int _)=>some [.i]
  |some .string=>some [.s]
  |some (.struct fs)=>if P.stoodInHeld t then none else uN P (lq P d) fs.toList 0
  |some (.array n e)=>(match lq P d e,P.info? e with
   |some l,some i=>if i.size==l.length then some (kf n l)else none
   |_,_=>none)
  |_=>none
def aK (P:Program) (t:Nat):Bool:=match P.underlying t with
 |some (.struct _)=>true
 |some (.array _ _)=>true
 |_=>false
inductive JK:LK→Value→Value→Bool→Prop
 |i (k:IntKind) (x y:Int):JK .i (.int k x) (.int k y) (x==y)
 |b (x y:Bool):JK .b (.bool x) (.bool y) (x==y)
 |s (x y:List UInt8):JK .s (.string ⟨x.toArray⟩) (.string ⟨y.toArray⟩) (x==y)
inductive lD:List LK→List Value→List Value→List Bool→Prop
 |nil:lD [] [] [] []
 |cons {l ls v vs u us r rs} (h:JK l v u r) (t:lD ls vs us rs):lD (l::ls) (v::vs) (u::us) (r::rs)
theorem lD.split:∀ {l1 l2:List LK} {vs us:List Value} {rs:List Bool},lD (l1++l2) vs us rs→
  ∃v1 v2 u1 u2 r1 r2,vs=v1++v2∧us=u1++u2∧rs=r1++r2∧lD l1 v1 u1 r1∧lD l2 v2 u2 r2∧v1.length=l1.length∧u1.length=l1.length
 |[],l2,vs,us,rs,h=>⟨[],vs,[],us,[],rs,rfl,rfl,rfl,.nil,h,rfl,rfl⟩
 |a::l1,l2,_,_,_,.cons (v:=v) (u:=u) (r:=r) h t=>by
  obtain⟨v1,v2,u1,u2,r1,r2,rfl,rfl,rfl,h1,h2,h3,h4⟩:=t.split (l1:=l1)
  exact⟨v::v1,v2,u::u1,u2,r::r1,r2,rfl,rfl,rfl,.cons h h1,h2,by simp[h3],by simp[h4]⟩
def valOf (ag:Bool) (vs:List Value):Value:=if ag then .agg vs.toArray else vs.headD default
theorem uO {P:Program} {w:World} {t:Nat} {D:TypeDesc} (h:P.underlying t=some D):(isAgg t).run P w= .ok (aK P t) w:=by
 unfold isAgg aK
 simp only[Sem.run_bind,run_underlying h,Result.andThen_ok,h]
 cases D<;>rfl
theorem eH {P:Program} {w:World} {t:Nat} {D:TypeDesc} {i:TypeInfo} (h:P.underlying t=some D) (hi:P.info? t=some i) {pre mid post:List Value} (hm:mid.length=i.size) (h1:aK P t=false→mid.length=1):
  (part t (pre++(mid++post)).toArray pre.length).run P w= .ok (valOf (aK P t) mid) w:=by
 unfold part
 simp only[Sem.run_bind,uO h,Result.andThen_ok]
 cases iz:aK P t with
 |true=>
  simp only[if_pos,Sem.run_bind,br hi,Result.andThen_ok,Sem.run_pure,valOf]
  have:(pre++(mid++post)).toArray.extract pre.length (pre.length+i.size)=mid.toArray:=by
   apply Array.ext'
   simp[←hm]
  rw[this]
 |false=>
  obtain⟨v,rfl⟩:∃v,mid=[v]:=List.length_eq_one_iff.1 (h1 iz)
  simp[valOf]
theorem iM {P:Program}:∀ {d t:Nat} {ls:List LK},lq P d t=some ls→aK P t=false→ls.length=1
 |0,_,_,h,_=>by simp[lq]at h
 |d+1,t,ls,h,ha=>by
  unfold lq at h
  unfold aK at ha
  split at h<;>simp_all<;>first|(rw[←h]; rfl)|skip
theorem zN {P:Program}:∀ {d t:Nat} {ls:List LK},lq P d t=some ls→∃D,P.underlying t=some D
 |0,_,_,h=>by simp[lq]at h
 |d+1,t,ls,h=>by
  unfold lq at h
  cases hu:P.underlying t with
  |none=>rw[hu]at h; simp at h
  |some D=>exact⟨D,rfl⟩
theorem gz {P:Program}:∀ (d:Nat) (m t:Nat) (ls:List LK) (w:World) (vs us:List Value) (rs:List Bool),lq P d t=some ls→lD ls vs us rs→
  (Op.equalIn (d+m) t (valOf (aK P t) vs) (valOf (aK P t) us)).run P w= .ok (rs.all id) w
 |0,_,_,_,_,_,_,_,h,_=>by simp[lq]at h
 |d+1,m,t,ls,w,vs,us,rs,h,hv=>by
  have e:d+1+m=(d+m)+1:=by omega
  rw[e]
  have ih:=gz (P:=P) d m
  unfold lq at h
  cases hu:P.underlying t with
  |none=>rw[hu]at h; simp at h
  |some D=>
   rw[hu]at h
   cases D<;>simp only[reduceCtorEq]at h
   case bool=>
    obtain rfl:[LK.b]=ls:=by simpa using h
    have ha:aK P t=false:=by simp[aK,hu]
    rcases hv with _|⟨hl,ht⟩
    cases hl; cases ht
    rw[ha]
    simp only[valOf,Bool.false_eq_true,if_false,List.headD_cons]
    rw[run_equalIn_bool' _ _ _ _ _ hu]; simp
   case int k=>
    obtain rfl:[LK.i]=ls:=by simpa using h
    have ha:aK P t=false:=by simp[aK,hu]
    rcases hv with _|⟨hl,ht⟩
    cases hl; cases ht
    rw[ha]
    simp only[valOf,Bool.false_eq_true,if_false,List.headD_cons]
    rw[run_equalIn_int _ _ _ _ _ _ _ hu]; simp
   case string=>
    obtain rfl:[LK.s]=ls:=by simpa using h
    have ha:aK P t=false:=by simp[aK,hu]
    rcases hv with _|⟨hl,ht⟩
    cases hl; cases ht
    rw[ha]
    simp only[valOf,Bool.false_eq_true,if_false,List.headD_cons]
    rw[run_equalIn_string _ _ _ _ _ hu]
    simp[ByteArray.toList_eq]
   case struct fs=>
    have ha:aK P t=true:=by simp[aK,hu]
    have TK:P.fieldsOf t=fs:=by simp[Program.fieldsOf,hu]
    cases hst:P.stoodInHeld t with
    |true=>simp[hst]at h
    |false=>
     simp only[hst,Bool.false_eq_true,if_false]at h
     rw[ha]
     simp only[valOf,if_pos]
     rw[run_equalIn_struct w (d+m) t _ _ (by rw[TK]; exact hu) hst,TK]
     have go:∀ (fl:List Field) (off:Nat) (ls:List LK) (w:World) (p q vs us:List Value) (rs:List Bool),uN P (lq P d) fl off=some ls→lD ls vs us rs→p.length=off→q.length=off→
       (Op.eqFields (d+m) (p++vs).toArray (q++us).toArray fl).run P w= .ok (rs.all id) w:=by
      intro fl
      induction fl with
      |nil=>
       intro off ls w p q vs us rs hl hv _ _
       obtain rfl:[]=ls:=by simpa[uN]using hl
       cases hv
       simp[Op.eqFields]
      |cons f fl ihf=>
       intro off ls w p q vs us rs hl hv hp hq
       simp only[uN]at hl
       split at hl
       ·rename_i hc
        simp only[Bool.and_eq_true,bne_iff_ne,ne_eq,beq_iff_eq]at hc
        split at hl
        ·rename_i l i wo CJ
         split at hl
         ·rename_i hsz
          have hsz:i.size=l.length:=by simpa using hsz
          obtain⟨l2,hl2,rfl⟩:∃l2,uN P (lq P d) fl (off+l.length)=some l2∧l++l2=ls:=by
           simpa using hl
          obtain⟨v1,v2,u1,u2,r1,r2,rfl,rfl,rfl,h1,h2,h3,h4⟩:=hv.split
          obtain⟨D,hD⟩:=zN wo
          have p1:=eH (w:=w) hD CJ (pre:=p) (mid:=v1) (post:=v2) (by omega) (fun h=>by rw[h3]; exact iM wo h)
          have p2:=eH (w:=w) hD CJ (pre:=q) (mid:=u1) (post:=u2) (by omega) (fun h=>by rw[h4]; exact iM wo h)
          rw[hp,←hc.2]at p1
          rw[hq,←hc.2]at p2
          simp only[Op.eqFields,if_pos hc.1,ne_eq,hc.1,not_false_eq_true,Sem.run_bind,p1,p2,Result.andThen_ok,ih _ _ _ _ _ _ wo h1]
          have h5:=ihf (off+l.length) l2 w (p++v1) (q++u1) v2 u2 r2 hl2 h2 (by simp; omega) (by simp; omega)
          rw[List.append_assoc,List.append_assoc]at h5
          simp only[if_true,Sem.run_bind,p1,p2,Result.andThen_ok,ih _ _ _ _ _ _ wo h1]
          cases hr:r1.all id with
          |true=>simp only[Bool.not_true,Bool.false_eq_true,if_false,h5,List.all_append,hr,Bool.true_and]
          |false=>simp only[Bool.not_false,if_true,Sem.run_pure,List.all_append,hr,Bool.false_and]
         ·simp at hl
        ·simp at hl
       ·simp at hl
     exact go fs.toList 0 ls w [] [] vs us rs h hv rfl rfl
   case array n e=>
    have ha:aK P t=true:=by simp[aK,hu]
    split at h
    ·rename_i l i wo CJ
     split at h
     ·rename_i hsz
      have hsz:i.size=l.length:=by simpa using hsz
      obtain rfl:kf n l=ls:=by simpa using h
      rw[ha]
      simp only[valOf,if_pos]
      rw[run_equalIn_array w (d+m) _ _ hu CJ]
      have hc:P.cellsOf e=l.length:=by simp[Program.cellsOf,CJ,hsz]
      rw[hc]
      obtain⟨D,hD⟩:=zN wo
      have go:∀ (k j:Nat) (w:World) (p q vs us:List Value) (rs:List Bool),lD (kf k l) vs us rs→p.length=j*l.length→q.length=j*l.length→
        (Op.eqItems (d+m) e l.length (p++vs).toArray (q++us).toArray (List.range' j k)).run P w= .ok (rs.all id) w:=by
       intro k
       induction k with
       |zero=>
        intro j w p q vs us rs hv _ _
        simp only[kf,List.replicate_zero,List.flatten_nil]at hv
        cases hv
        simp[Op.eqItems]
       |succ k ihk=>
        intro j w p q vs us rs hv hp hq
        have e1:kf (k+1) l=l++kf k l:=by simp[kf,List.replicate_succ]
        rw[e1]at hv
        obtain⟨v1,v2,u1,u2,r1,r2,rfl,rfl,rfl,h1,h2,h3,h4⟩:=hv.split
        have p1:=eH (w:=w) hD CJ (pre:=p) (mid:=v1) (post:=v2) (by omega) (fun h=>by rw[h3]; exact iM wo h)
        have p2:=eH (w:=w) hD CJ (pre:=q) (mid:=u1) (post:=u2) (by omega) (fun h=>by rw[h4]; exact iM wo h)
        rw[hp]at p1
        rw[hq]at p2
        have h5:=ihk (j+1) w (p++v1) (q++u1) v2 u2 r2 h2 (by rw[List.length_append,hp,h3,Nat.succ_mul]) (by rw[List.length_append,hq,h4,Nat.succ_mul])
        rw[List.append_assoc,List.append_assoc]at h5
        simp only[List.range'_succ,Op.eqItems,Sem.run_bind,p1,p2,Result.andThen_ok,ih _ _ _ _ _ _ wo h1]
        cases hr:r1.all id with
        |true=>simp only[Bool.not_true,Bool.false_eq_true,if_false,h5,List.all_append,hr,Bool.true_and]
        |false=>simp only[Bool.not_false,if_true,Sem.run_pure,List.all_append,hr,Bool.false_and]
      rw[List.range_eq_range']
      exact go n 0 w [] [] vs us rs hv (by simp) (by simp)
     ·simp at h
    ·simp at h
end Go.AM
namespace Go.AM
open Go.RowKit
variable {P:Program} {T:TT} {X:bV} {o:Oper} {F:aR} {M:bf}
inductive JL:LK→AV→AV→Bool→Prop
 |i (k:IntKind) (x y:Int):JL .i (.int k x) (.int k y) (x==y)
 |b (x y:Bool):JL .b (.bool x) (.bool y) (x==y)
 |s (x y:List UInt8):JL .s (.str x) (.str y) (x==y)
inductive sI:List LK→List AV→List AV→List Bool→Prop
 |nil:sI [] [] [] []
 |cons {l ls v vs u us r rs} (h:JL l v u r) (t:sI ls vs us rs):sI (l::ls) (v::vs) (u::us) (r::rs)
theorem JL.val {ρ:Place} {L:aT} {I:Nat→Prop} {w:World} {N:Nat→Prop} {l:LK} {a b:AV} {r:Bool} {v u:Value} (h:JL l a b r) (h1:aL ρ L I w N a v) (h2:aL ρ L I w N b u):JK l v u r:=by
 cases h with
 |i k x y=>rw[bu h1,bu h2]; exact .i k x y
 |b x y=>rw[fu h1,fu h2]; exact .b x y
 |s x y=>rw[fV h1,fV h2]; exact .s x y
theorem sI.val {ρ:Place} {L:aT} {I:Nat→Prop} {w:World} {N:Nat→Prop}:∀ {ls:List LK} {as bs:List AV} {rs:List Bool} {vs us:List Value},sI ls as bs rs→vs.length=as.length→us.length=bs.length→
  (∀j,j<as.length→aL ρ L I w N (as.getD j .bad) (vs.getD j default))→(∀j,j<bs.length→aL ρ L I w N (bs.getD j .bad) (us.getD j default))→lD ls vs us rs
 |_,_,_,_,[],[],.nil,_,_,_,_=> .nil
 |_,_,_,_,v::vs,u::us,.cons h t,hv,hu,h1,h2=>
  .cons (h.val (by simpa using h1 0 (by simp)) (by simpa using h2 0 (by simp))) (t.val (by simpa using hv) (by simpa using hu)
    (fun j hj=>by simpa using h1 (j+1) (by simpa using hj)) (fun j hj=>by simpa using h2 (j+1) (by simpa using hj)))
 |_,_,_,_,_::_,[],.nil,hv,_,_,_=>by simp at hv
 |_,_,_,_,[],_::_,.nil,_,hu,_,_=>by simp at hu
 |_,_,_,_,_::_,_::_,.nil,hv,_,_,_=>by simp at hv
 |_,_,_,_,[],_,.cons _ _,hv,_,_,_=>by simp at hv
 |_,_,_,_,_::_,[],.cons _ _,_,hu,_,_=>by simp at hu
theorem wq {neg:Bool} {t yt:TypeId} {x y:Operand} {d:Nat} (hd:d≤10000) {ls:List LK} {as bs:List AV} {rs:List Bool} (ho:o.op= .binOp (if neg then .neq else .eql) t x y yt) (hg:P.eqGuardType P.depth t=false) (ha:aK P t=true)
  (hl:lq P d t=some ls) (hx:ev F x= .agg as) (hy:ev F y= .agg bs) (h:sI ls as bs rs):bB P X o F M (.bool (if neg then !(rs.all id)else rs.all id)) [] []:=by
 have hx':x ∈ o.op.operands.toList:=by simp[ho,Op.operands]
 have hy':y ∈ o.op.operands.toList:=by simp[ho,Op.operands]
 refine aD fun M' N ρ I ac w hW hU hN=> ?_
 have r1:=ao hU x hx'
 have r2:=ao hU y hy'
 rw[hx]at r1
 rw[hy]at r2
 generalize hv:ac.eval x=v at r1
 generalize hu:ac.eval y=u at r2
 cases r1 with
 |agg _ vs hvl CH JM=>
  cases r2 with
  |agg _ us U0 nT U1=>
   have h4:=h.val hvl U0 JM U1
   have e:=gz d (10000 - d) t ls w vs us rs hl h4
   rw[ha]at e
   simp only[valOf,if_true]at e
   have e2:d+ (10000 - d)=10000:=by omega
   rw[e2]at e
   refine⟨_,?_,.bool _⟩
   have g:=run_eqGuard_agg w (if neg then .neq else .eql) t x y vs.toArray us.toArray hg
   cases neg<;>simp_all[execOp,Sem.run_bind,run_eql_struct,run_neq_struct]
theorem uP {neg:Bool} {t yt:TypeId} {x y:Operand} {a b:Bool} (ho:o.op= .binOp (if neg then .neq else .eql) t x y yt) (hu:P.underlying t=some .bool) (hx:ev F x= .bool a) (hy:ev F y= .bool b):
  bB P X o F M (.bool (if neg then a != b else a==b)) [] []:=by
 have hx':x ∈ o.op.operands.toList:=by simp[ho,Op.operands]
 have hy':y ∈ o.op.operands.toList:=by simp[ho,Op.operands]
 refine aD fun M' N ρ I ac w hW hU hN=>⟨_,?_,.bool _⟩
 have r1:=fu (hx ▸ ao hU x hx')
 have r2:=fu (hy ▸ ao hU y hy')
 have e:=run_equal_bool w t a b hu
 cases neg<;>simp[execOp,ho,r1,r2,Sem.run_bind,eqGuard,binOp,e,bne]
def JN (op:BinOp) (a b:List UInt8) (K:AV→Prop):Prop:=
 match op with
 | .add=>(a.length+b.length≤9223372036854775807)∧K (.str (a++b))
 | .eql=>K (.bool (a==b))
 | .neq=>K (.bool !(a==b))
 | .lss=>K (.bool (Op.bytesLess a b))
 | .leq=>K (.bool (Op.bytesLess a b||a==b))
 | .gtr=>K (.bool !(Op.bytesLess a b||a==b))
 | .geq=>K (.bool !(Op.bytesLess a b))
 |_=>False
theorem Dk {op:BinOp} {t yt:TypeId} {x y:Operand} {a b:List UInt8} {K:AV→Prop} (ho:o.op= .binOp op t x y yt) (hx:ev F x= .str a) (hy:ev F y= .str b) (h:JN op a b K):∃av,bB P X o F M av [] []∧K av:=by
 have hx':x ∈ o.op.operands.toList:=by simp[ho,Op.operands]
 have hy':y ∈ o.op.operands.toList:=by simp[ho,Op.operands]
 have go:∀av v,(∀ρ L I w N,aL ρ L I w N av v)→(∀w,(Op.stringOp op ⟨a.toArray⟩ ⟨b.toArray⟩).run P w= .ok v w)→K av→∃av,bB P X o F M av [] []∧K av:=by
  intro av v hr hrun hk
  refine⟨av,aD fun M' N ρ I ac w hW hU hN=>⟨v,?_,hr _ _ _ _ _⟩,hk⟩
  have r1:=fV (hx ▸ ao hU x hx')
  have r2:=fV (hy ▸ ao hU y hy')
  have g:(eqGuard op t x y (.string ⟨a.toArray⟩) (.string ⟨b.toArray⟩)).run P w= .ok () w:=by
   unfold eqGuard; cases op<;>simp
  have e:binOp op t (.string ⟨a.toArray⟩) (.string ⟨b.toArray⟩)=Op.stringOp op ⟨a.toArray⟩ ⟨b.toArray⟩:=by cases op<;>rfl
  simp only[execOp,ho,r1,r2,Sem.run_bind,g,Result.andThen_ok,e,hrun,Sem.run_pure]
 have tl:∀l:List UInt8,(⟨l.toArray⟩:ByteArray).toList=l:=fun l=>by rw[ByteArray.toList_eq]
 cases op<;>simp only[JN]at h<;>try exact h.elim
 case add=>
  refine go _ (.string ⟨(a++b).toArray⟩) (fun _ _ _ _ _=> .str _) (fun w=> ?_) h.2
  have e:(⟨a.toArray⟩:ByteArray)++⟨b.toArray⟩=⟨(a++b).toArray⟩:=by
   apply ByteArray.ext
   simp
  have h1:=h.1
  have hs:¬ ((((⟨a.toArray⟩:ByteArray).size+ (⟨b.toArray⟩:ByteArray).size:Nat):Int)>IntKind.i64.max):=by
   show ¬ (((a.toArray.size+b.toArray.size:Nat):Int)>9223372036854775807)
   simp only[List.size_toArray]
   omega
  simp only[Op.stringOp,if_neg hs,e,Sem.run_pure]
 all_goals exact go _ _ (fun _ _ _ _ _=> .bool _) (fun w=>by simp only[Op.stringOp,tl,Sem.run_pure]) h
end Go.AM
namespace Go.AM
open Go.RowKit
variable {P:Program} {T:TT} {X:bV} {o:Oper} {F:aR} {M:bf}
theorem pK {neg:Bool} {t e:TypeId} {y:Operand} {x:Operand} {q:Option Addr} {l c:Nat} {w:World} (hu:P.underlying t=some (.slice e)):
  (do eqGuard (if neg then .neq else .eql) t x y (.slice q l c) (.slice none 0 0); binOp (if neg then .neq else .eql) t (.slice q l c) (.slice none 0 0):Sem Value).run P w= .ok (.bool (if neg then !q.isNone else q.isNone)) w:=by
 have e1:=run_equal_slice_nil w t e q l c hu
 cases neg<;>simp[Sem.run_bind,eqGuard,binOp,e1]
theorem sJ {neg:Bool} {t e:TypeId} {y:Operand} {x:Operand} {q:Option Addr} {w:World} (hu:P.underlying t=some (.pointer e)):
  (do eqGuard (if neg then .neq else .eql) t x y (.pointer q) (.pointer none); binOp (if neg then .neq else .eql) t (.pointer q) (.pointer none):Sem Value).run P w= .ok (.bool (if neg then !q.isNone else q.isNone)) w:=by
 have e0:P.pointee t=e:=by simp[Program.pointee,hu]
 have e1:=run_equal_pointer_nil w t q (by rw[e0]; exact hu)
 cases neg<;>simp[Sem.run_bind,eqGuard,binOp,e1]
theorem jL {neg:Bool} {t e yt:TypeId} {x:Operand} {b:Bool} {Ml:Mem} (hM:M=aa Ml) (ho:o.op= .binOp (if neg then .neq else .eql) t x (.const (.pointer none)) yt) (hu:P.underlying t=some (.pointer e))
  (hx:(ev F x= .bG∧b=true)∨((∃r q,ev F x= .aY r q)∧b=false)∨(∃n len i q bl,ev F x= .loc n len i q∧aa Ml n=some bl∧bl.ln=len)∧b=false):bB P X o F M (.bool (if neg then !b else b)) [] []:=by
 have hx':x ∈ o.op.operands.toList:=by simp[ho,Op.operands]
 refine aD fun M' N ρ I ac w hW hU hN=> ?_
 have r1:=ao hU x hx'
 have key:∃q:Option Addr,ac.eval x= .pointer q∧q.isNone=b:=by
  rcases hx with⟨h,rfl⟩|⟨⟨r,q,h⟩,rfl⟩|⟨⟨n,len,i,q,bl,h,hb,hl⟩,rfl⟩
  ·rw[h]at r1
   generalize ac.eval x=v at r1
   cases r1
   exact⟨none,rfl,rfl⟩
  ·rw[h]at r1
   generalize ac.eval x=v at r1
   cases r1
   exact⟨_,rfl,rfl⟩
  ·rw[h]at r1
   obtain⟨sl,dR,dZ⟩:=bc (F:=F) x hx' (n:=n) (by rw[h]; simp[AV.names])
   have b9:M' n=some bl:=(hN sl dR n dZ).trans (by rw[hM]; exact hb)
   have dw:lens M' n=some (len,bl.sz):=by rw[aA]; exact⟨bl,b9,hl,rfl⟩
   obtain⟨_,g,cap,_,hv⟩:=fj r1 dw
   exact⟨_,hv,rfl⟩
 obtain⟨q,hv,hq⟩:=key
 refine⟨_,?_,.bool _⟩
 have e1:=sJ (P:=P) (neg:=neg) (y:= .const (.pointer none)) (x:=x) (q:=q) (w:=w) hu
 rw[hq]at e1
 have hc:ac.eval (.const (.pointer none))= .pointer none:=rfl
 simp only[execOp,ho,hv,hc]
 simp only[Sem.run_bind]at e1 ⊢
 rw[e1]
 simp
theorem sK {neg:Bool} {t e yt:TypeId} {x:Operand} {s:Nat} {es:List (List AV)} (ho:o.op= .binOp (if neg then .neq else .eql) t x (.const (.slice none 0 0)) yt) (hu:P.underlying t=some (.slice e)) (hx:ev F x= .aH s es)
  {M':bf} {N:Nat→Prop} {ρ:Place} {I:Nat→Prop} {a:Act} {w:World} (hW:cC X ρ I M' N w) (hU:∀s ∈ cQ o.op,aL ρ (lens M') I w N (look F s) (a.tmps.getD s undef)):
  ∃b:Bool,(b=true→es=[])∧bJ P X o a M' N ρ I w (.bool (if neg then !b else b)) []:=by
 have hx':x ∈ o.op.operands.toList:=by simp[ho,Op.operands]
 have r1:=ao hU x hx'
 rw[hx]at r1
 have key:∃ (q:Option Addr) (c:Nat),a.eval x= .slice q es.length c∧(q.isNone=true→es=[]):=by
  generalize a.eval x=v at r1
  cases r1 with
  |cn _ q cap=>exact⟨q,cap,rfl,fun _=>rfl⟩
  |aH _ _ b o cap c hl=>exact⟨_,cap,rfl,fun h=>by simp at h⟩
 obtain⟨q,c,hv,hq⟩:=key
 refine⟨q.isNone,hq,?_⟩
 have e1:=pK (P:=P) (neg:=neg) (y:= .const (.slice none 0 0)) (x:=x) (q:=q) (l:=es.length) (c:=c) (w:=w) hu
 have hr:(execOp a.eval o).run P w= .ok (.value (.bool (if neg then !q.isNone else q.isNone))) w:=by
  have hc:a.eval (.const (.slice none 0 0))= .slice none 0 0:=rfl
  simp only[execOp,ho,hv,hc]
  simp only[Sem.run_bind]at e1 ⊢
  rw[e1]
  simp
 unfold bJ
 rw[hr]
 exact gv.value hW (.bool _)
theorem yv (hT:cU P T) {t e:Nat} {x h m:Operand} {k k':IntKind} {n:Nat} (ht:T.d t= .slice e) (hok:(T.d e).ok=true) (ho:o.op= .slice t x none (some h) (some m)) (hh:ev F h= .int k 0) (hm:ev F m= .int k' 0)
  (hx:∃s es,ev F x= .aH s es):bB P X o F M (.ba n 0) [(n,⟨e,T.s e,[],none⟩)] [n]:=by
 have hx':x ∈ o.op.operands.toList:=by simp[ho,Op.operands]
 have hh':h ∈ o.op.operands.toList:=by simp[ho,Op.operands]
 have hm':m ∈ o.op.operands.toList:=by simp[ho,Op.operands]
 obtain⟨D,it,z,hD,hf,_⟩:=hT t (by rw[ht]; simp)
 have gp:=bO ht hf
 subst gp
 obtain⟨_,ie,_,_,_,hie,lf,_⟩:=hT e (TD.dt hok)
 obtain⟨s,es,hx⟩:=hx
 refine⟨fun p hp=> .inl (by simp at hp; simp[hp]),fun M' N ρ I ac w hW hU hN hF=> ?_⟩
 have hn:¬N n:=hF n (by simp)
 have r1:=ao hU x hx'
 have r2:=bu (hh ▸ ao hU h hh')
 have r3:=bu (hm ▸ ao hU m hm')
 rw[hx]at r1
 obtain⟨q,cap,hv,hle⟩:=p5 r1
 have hb:(Instr.sliceBounds true es.length cap (none:Option Value) (some (.int k 0)) (some (.int k' 0))).run P w= .ok (0,0,0) w:=by
  have e1:=run_sliceBound (P:=P) (k:=k') (i:=0) (y:=cap) (c:= .slice3Acap) (w:=w) ⟨by omega,by omega⟩
  have e2:=run_sliceBound (P:=P) (k:=k) (i:=0) (y:=0) (c:= .slice3B) (w:=w) ⟨by omega,by omega⟩
  simp[Instr.sliceBounds,e1,e2,Sem.run_bind,Instr.sliceBound,asIntOf]
 have hrun:=oY (a:=q) (len:=es.length) hD hie hb
 obtain⟨E,W⟩:=hW.dM hn e (T.s e)
 unfold bJ
 have hr:(execOp ac.eval o).run P w= .ok (.value (.slice q 0 0)) w:=by
  simp only[execOp,ho,Option.map_none,Option.map_some,hv,r2,r3,Sem.run_bind,hrun]
  simp
 rw[hr]
 refine⟨_,I,E,by rw[bC]; exact W,?_⟩
 refine .ba n _ _ (.inr ⟨_,List.mem_singleton.2 rfl⟩) rfl fun l yb me=> ?_
 change lens (cu M' n _) n=_ at me
 rw[cj,if_pos rfl]at me
 simp at me
 exact⟨by simp,fun _=> .inl ⟨by simp,q,rfl⟩⟩
theorem wu (hT:cU P T) {t m e:Nat} {x ix:Operand} {cs:List AV} {k:IntKind} {j:Int} {K:AV→Prop} (ht:T.d t= .arr m e) (hok:(T.d e).ok=true) (ho:o.op= .index t x ix) (hx:ev F x= .agg cs) (hi:ev F ix= .int k j)
  (hj:0≤j∧j< (m:Int)) (h:apart (T.d e).ag (T.s e) (j.toNat*T.s e) cs K):∃av,bB P X o F M av [] []∧K av:=by
 have hx':x ∈ o.op.operands.toList:=by simp[ho,Op.operands]
 have hi':ix ∈ o.op.operands.toList:=by simp[ho,Op.operands]
 obtain⟨D,it,z,hD,hf,_⟩:=hT t (by rw[ht]; simp)
 have gp:=fm ht hf
 subst gp
 obtain⟨De,ie,_,CK,IP,hie,lf,_⟩:=hT e (TD.dt hok)
 obtain⟨av,h1,h2,h3,h4⟩:=ep h
 refine⟨av,aD fun M' N ρ I ac w hW hU hN=> ?_,h4⟩
 have r1:=ao hU x hx'
 have r2:=bu (hi ▸ ao hU ix hi')
 rw[hx]at r1
 generalize hv:ac.eval x=v at r1
 generalize hoff:j.toNat*T.s e=off at h1 h2
 have hle:off+T.s e≤cs.length∨T.s e=0:=by
  simp only[List.length_take,List.length_drop]at h1; omega
 cases r1 with
 |agg _ vs hvl CH JM=>
  have Dl:∃u,(part e vs.toArray off).run P w= .ok u w∧aL ρ (lens M') I w N av u:=by
   unfold part
   simp only[Sem.run_bind,mb CK IP,Result.andThen_ok]
   cases iz:(T.d e).ag with
   |true=>
    simp only[if_pos,Sem.run_bind,br hie,Result.andThen_ok,Sem.run_pure]
    refine⟨_,rfl,?_⟩
    rw[h2,iz,if_pos rfl,lf]
    have hex:vs.toArray.extract off (off+T.s e)=((vs.drop off).take (T.s e)).toArray:=by
     apply Array.ext'
     simp
    rw[hex]
    refine .agg _ _ (by rw[h1]; simp only[List.length_take,List.length_drop]; omega) (fun u hu=>CH u (List.mem_of_mem_drop (List.mem_of_mem_take hu))) (fun i hi=> ?_)
    rw[h1]at hi
    rw[cG _ _ _ _ _ hi,cG _ _ _ _ _ hi]
    exact JM (off+i) (by omega)
   |false=>
    have h5:=h3 iz
    have hlt:off<cs.length:=by omega
    have uQ:off<vs.length:=by omega
    simp only[Bool.false_eq_true,if_false]
    have:vs.toArray[off]? =some vs[off]:=by simp[uQ]
    rw[this]
    refine⟨_,Sem.run_pure _ _ _,?_⟩
    rw[h2,iz,h5]
    have e1:((cs.drop off).take 1).headD .bad=cs.getD off .bad:=by
     rw[List.drop_eq_getElem_cons hlt,List.take_succ_cons]
     simp[List.getD_eq_getElem?_getD,hlt]
    simp only[Bool.false_eq_true,if_false,e1]
    have:=JM off hlt
    rwa[show vs.getD off default=vs[off] by simp[List.getD_eq_getElem?_getD,uQ]]at this
  obtain⟨u,hu,hr⟩:=Dl
  refine⟨u,?_,hr⟩
  simp only[execOp,ho,hv,r2,Instr.index,asIntOf,Sem.run_bind,Sem.run_pure,Result.andThen_ok,run_underlying hD,if_pos hj,br hie,lf,hoff,hu]
theorem wv (hT:cU P T) {t:Nat} {x ix:Operand} {s:List UInt8} {k:IntKind} {j:Int} (ht:T.d t= .str) (ho:o.op= .index t x ix) (hx:ev F x= .str s) (hi:ev F ix= .int k j) (hj:0≤j∧j< (s.length:Int)):
  bB P X o F M (.int .u8 (s.getD j.toNat 0).toNat) [] []:=by
 have hx':x ∈ o.op.operands.toList:=by simp[ho,Op.operands]
 have hi':ix ∈ o.op.operands.toList:=by simp[ho,Op.operands]
 obtain⟨D,it,z,hD,hf,_⟩:=hT t (by rw[ht]; simp)
 have gp:=fq ht hf
 subst gp
 refine aD fun M' N ρ I ac w hW hU hN=>⟨_,?_,.int _ _⟩
 have r1:=fV (hx ▸ ao hU x hx')
 have r2:=bu (hi ▸ ao hU ix hi')
 have hlt:j.toNat<s.length:=by omega
 have e1:(⟨s.toArray⟩:ByteArray)[j.toNat]? =some s[j.toNat]:=by
  have hsz:j.toNat< (⟨s.toArray⟩:ByteArray).size:=by show j.toNat<s.toArray.size; simpa using hlt
  rw[getElem?_pos (⟨s.toArray⟩:ByteArray) j.toNat hsz]
  rfl
 simp only[execOp,ho,r1,r2,Instr.index,asIntOf,Sem.run_bind,Sem.run_pure,Result.andThen_ok,run_underlying hD,if_pos hj.1,e1]
 simp[List.getD_eq_getElem?_getD,hlt]
theorem foldl_push (s:List UInt8):∀r:ByteArray,(s.map fun c=>((c.toNat:Int))).foldl (fun r n=>r.push (UInt8.ofNat n.toNat)) r=⟨(r.data.toList++s).toArray⟩:=by
 induction s with
 |nil=>intro r; simp
 |cons c s ih=>
  intro r
  simp only[List.map_cons,List.foldl_cons,ih]
  congr 1
  simp[ByteArray.push]
theorem Dm (hT:cU P T) {s t e:Nat} {x:Operand} {Ml:Mem} {K:AV→Prop} (hM:M=aa Ml) (hs:T.d s= .slice e) (he:T.d e= .int .u8) (ht:T.d t= .str) (ho:o.op= .convert s t x) (dZ:¬ ∃q,ev F x= .str q)
  (h:l9 Ml 1 (ev F x) fun xs=>∃b:List UInt8,xs=b.map (fun c=>[AV.int .u8 c.toNat])∧K (.str b)):∃av,bB P X o F M av [] []∧K av:=by
 have hx:x ∈ o.op.operands.toList:=by simp[ho,Op.operands]
 obtain⟨D,_,_,hD,hf,_⟩:=hT s (by rw[hs]; simp)
 have:=bO hs hf
 subst this
 obtain⟨D,_,_,CK,hf,_⟩:=hT e (by rw[he]; simp)
 have:=fits_int he hf
 subst this
 obtain⟨D,_,_,U2,hf,_⟩:=hT t (by rw[ht]; simp)
 have:=fq ht hf
 subst this
 obtain⟨xs,⟨b,rfl,hk⟩,hsrc⟩:=jH (X:=X) (o:=o) (tx:=s) hT hM hx (.inl ⟨_,hD⟩) (fun h=>(dZ h).elim) (fun _=>⟨_,hD⟩) h
 refine⟨_,aD fun M' N ρ I ac w hW hU hN=> ?_,hk⟩
 obtain⟨vs,hS,hL,-⟩:=hsrc M' N ρ I ac w hW hU hN
 have hvs:vs=b.map fun c=>Value.int .u8 (c.toNat:Int):=by
  apply List.ext_getElem
  ·rw[hL.1]; simp
  ·intro i h1 h2
   have hi:i<b.length:=by simpa using h2
   obtain⟨u,hu,hr⟩:=hL.2.2 i 0 (by simpa using hi) (by omega)
   rw[Nat.mul_one,Nat.add_zero,List.getElem?_eq_getElem h1]at hu
   simp only[Option.some.injEq]at hu
   have e1:((b.map fun c=>[AV.int .u8 (c.toNat:Int)]).getD i []).getD 0 .bad= .int .u8 (b[i].toNat:Int):=by
    simp[List.getD_eq_getElem?_getD,hi]
   rw[e1]at hr
   rw[hu,bu hr.2]
   simp
 have dR:∃q l c,ac.eval x= .slice q l c:=by
  have r1:=ao hU x hx
  cases bQ:ev F x with
  |aH s es=>rw[bQ]at r1; obtain⟨q,cap,hv,_⟩:=p5 r1; exact⟨_,_,_,hv⟩
  |ap=>
   rw[bQ]at r1
   generalize ac.eval x=v at r1
   cases r1
   exact⟨_,_,_,rfl⟩
  |ba n len=>
   rw[bQ]at h r1
   simp only[l9,alive]at h
   cases hb:aa Ml n with
   |none=>rw[hb]at h; exact h.elim
   |some bl=>
    rw[hb]at h
    obtain⟨hc1,hmp,_⟩:=aw h
    have hl:bl.ln=len:=by simpa using hc1
    obtain⟨sl,dR,dZ⟩:=bc (F:=F) x hx (n:=n) (by rw[bQ]; simp[AV.names])
    have b9:M' n=some bl:=(hN sl dR n dZ).trans (by rw[hM]; exact hb)
    have dw:lens M' n=some (len,bl.sz):=by rw[aA]; exact⟨bl,b9,hl,rfl⟩
    obtain⟨_,⟨_,q,hv⟩|⟨g,cap,_,hv⟩⟩:=iI r1 dw
    ·exact⟨_,_,_,hv⟩
    ·exact⟨_,_,_,hv⟩
  |dE n len i off bP=>
   rw[bQ]at h r1
   simp only[l9,alive]at h
   cases hb:aa Ml n with
   |none=>rw[hb]at h; exact h.elim
   |some bl=>
    rw[hb]at h
    obtain⟨hc1,hmp,_⟩:=aw h
    have hl:bl.ln=len:=by simpa using hc1
    obtain⟨sl,dR,dZ⟩:=bc (F:=F) x hx (n:=n) (by rw[bQ]; simp[AV.names])
    have b9:M' n=some bl:=(hN sl dR n dZ).trans (by rw[hM]; exact hb)
    have dw:lens M' n=some (len,bl.sz):=by rw[aA]; exact⟨bl,b9,hl,rfl⟩
    obtain⟨_,g,cap,c,_,hv,_⟩:=k9 r1 dw
    exact⟨_,_,_,hv⟩
  |str q=>exact (dZ ⟨q,bQ⟩).elim
  |_=>rw[bQ]at h; exact h.elim
 obtain⟨q,l,c,hv⟩:=dR
 have hl:l=b.length:=by
  have:=hS.len w
  rw[hv]at this
  simpa[Builtin.lenOf]using this
 refine⟨.string ⟨b.toArray⟩,?_,.str _⟩
 have hrun:(Conv.bytesToString (ac.eval x)).run P w= .ok (.string ⟨b.toArray⟩) w:=by
  rw[hv]
  cases q with
  |none=>
   have hc:=hS.cells
   rw[hv,hvs]at hc
   have:b=[]:=by
    simp[Builtin.firstCells]at hc
    exact hc
   subst this
   simp[Conv.bytesToString]
   rfl
  |some a=>
   have hc:=hS.cells
   rw[hv,hvs]at hc
   simp only[Builtin.firstCells,List.length_map,Nat.mul_one]at hc
   have:=run_bytesToString (P:=P) w a l c (b.map fun c=>(c.toNat:Int)) (by rw[hl,hc]; simp[List.map_map,Function.comp_def])
   rw[this,foldl_push]
   simp
 simp only[execOp,ho,convert,Sem.run_bind,run_underlying hD,run_underlying U2,Result.andThen_ok]
 have e9:∀v:Value,v=ac.eval x→True:=fun _ _=>trivial
 rw[hv]at hrun ⊢
 simp only[Sem.run_bind,run_underlying CK,Result.andThen_ok,hrun,Sem.run_pure]
end Go.AM
namespace Go.AM
open Go.RowKit
variable {P:Program} {T:TT} {X:bV} {o:Oper} {F:aR} {M:bf}
theorem yw {ρ:Place} {L:aT} {I:Nat→Prop} {w:World} {N:Nat→Prop} {n len i off sz g cap bP c:Nat} (hn:N n) (hl:L n=some (len,sz)) (hρ:ρ n=some (g,cap)) (h1:bP≤c) (h2:c≤maxLen):
  aL ρ L I w N (.dE n len i off bP) (.slice (some ⟨g,i*sz+off,none⟩) bP c):=
 .dE n len i off bP _ hn rfl fun l yb h=>by
   rw[hl]at h
   simp only[Option.some.injEq,Prod.mk.injEq]at h
   obtain⟨rfl,rfl⟩:=h
   exact⟨Nat.le_refl _,fun _=>⟨g,cap,c,hρ,rfl,h1,h2⟩⟩
theorem kg {t m e:Nat} {ie:TypeInfo} {a:Addr} {w:World} (hD:P.underlying t=some (.array m e)) (hi':P.info? e=some ie):
  (Instr.sliceAt t (.pointer (some a)) none none none).run P w= .ok (.slice (some a) m m) w:=by
 have:a.add 0=a:=by simp[Addr.add]
 simp[Instr.sliceAt,Sem.run_bind,run_underlying hD,Instr.sureAddr,Instr.sliceBounds,br hi',this]
theorem sL (hT:cU P T) {t m e n len i off:Nat} {x:Operand} {Ml:Mem} {b:aW} (hM:M=aa Ml) (ht:T.d t= .arr m e) (hok:(T.d e).ok=true) (ho:o.op= .slice t x none none none) (hm:m≤maxLen)
  (bQ:ev F x= .loc n len i off) (hb:aa Ml n=some b) (hl:b.ln=len):bB P X o F M (.dE n len i off m) [] []:=by
 have hx:x ∈ o.op.operands.toList:=by simp[ho,Op.operands]
 obtain⟨D,it,z,hD,hf,_⟩:=hT t (by rw[ht]; simp)
 have gp:=fm ht hf
 subst gp
 obtain⟨De,ie,_,CK,IP,hie,lf,_⟩:=hT e (TD.dt hok)
 refine aD fun M' N ρ I a w hW hU hN=> ?_
 have r1:=ao hU x hx
 rw[bQ]at r1
 obtain⟨sl,dR,dZ⟩:=bc (F:=F) x hx (n:=n) (by rw[bQ]; simp[AV.names])
 have b9:M' n=some b:=(hN sl dR n dZ).trans (by rw[hM]; exact hb)
 have dw:lens M' n=some (len,b.sz):=by rw[aA]; exact⟨b,b9,hl,rfl⟩
 obtain⟨hn,g,cap,hρ,hv⟩:=fj r1 dw
 refine⟨_,?_,yw hn dw hρ (Nat.le_refl m) hm⟩
 simp only[execOp,ho,hv,Option.map_none,Sem.run_bind,kg hD hie,Result.andThen_ok,Sem.run_pure]
theorem sM (hT:cU P T) {t m e off:Nat} {x:Operand} {r:List AV} (ht:T.d t= .arr m e) (hok:(T.d e).ok=true) (ho:o.op= .slice t x none none none) (hm:m≤maxLen)
  (bQ:ev F x= .aY r off) (hfit:off+m*T.s e≤r.length):bB P X o F M (.aH (T.s e) (n2 (T.s e) m (r.drop off))) [] []:=by
 have hx:x ∈ o.op.operands.toList:=by simp[ho,Op.operands]
 obtain⟨D,it,z,hD,hf,_⟩:=hT t (by rw[ht]; simp)
 have gp:=fm ht hf
 subst gp
 obtain⟨De,ie,_,CK,IP,hie,lf,_⟩:=hT e (TD.dt hok)
 refine aD fun M' N ρ I a w hW hU hN=> ?_
 have r1:=ao hU x hx
 rw[bQ]at r1
 generalize hv:a.eval x=v at r1
 cases r1 with
 |aY _ _ b q c hI h1 hcell hr=>
  refine⟨.slice (some ⟨b,q+off,none⟩) m m,?_,?_⟩
  ·simp only[execOp,ho,hv,Option.map_none,Sem.run_bind,kg hD hie,Result.andThen_ok,Sem.run_pure]
  ·have hlen:(n2 (T.s e) m (r.drop off)).length=m:=dG
   have hlt:∀i j,i<m→j<T.s e→off+ (i*T.s e+j)<r.length:=fun i j hi hj=>by
    have:=kE (sz:=T.s e) hi hj
    omega
   have key:=aL.aH (ρ:=ρ) (L:=lens M') (I:=I) (w:=w) (N:=N) (T.s e) (n2 (T.s e) m (r.drop off)) b (q+off) m (fun i j=>c (off+ (i*T.s e+j))) (by rw[hlen]; exact Nat.le_refl _) hm hI
    (fun l hl=>by
      obtain⟨p,hp,rfl⟩:=List.mem_iff_getElem.1 hl
      rw[hlen]at hp
      have e1:=jl (sz:=T.s e) (r:=r.drop off) hp
      rw[List.getD_eq_getElem?_getD,List.getElem?_eq_getElem (by rw[hlen]; exact hp),Option.getD_some]at e1
      rw[e1]
      have:(p+1)*T.s e≤m*T.s e:=Nat.mul_le_mul_right _ hp
      rw[Nat.add_mul,Nat.one_mul]at this
      simp only[List.length_take,List.length_drop]; omega)
    (fun i j hi hj=>h1 _ (hlt i j (by rwa[hlen]at hi) hj))
    (fun i j hi hj=>by
      have:=hcell _ (hlt i j (by rwa[hlen]at hi) hj)
      rwa[show q+off+i*T.s e+j=q+ (off+ (i*T.s e+j)) by omega])
    (fun i j hi hj=>by
      rw[hlen]at hi
      have:=hr _ (hlt i j hi hj)
      rw[jl hi,cG _ _ _ _ _ hj]
      simpa only[List.getD_eq_getElem?_getD,List.getElem?_drop]using this)
   rwa[hlen]at key
theorem A7 {ρ:Place} {I:Nat→Prop} {M':bf} {N:Nat→Prop} {w:World} (hW:cC X ρ I M' N w) {n i off g cap:Nat} {b:aW} {fH:List AV} {mS:List Value} (b9:M' n=some b) (hmp:b.mp=none) (hρ:ρ n=some (g,cap)) (hi':i<b.es.length)
  (hcl:mS.length=fH.length) (CZ:∀u ∈ mS,u.oneCell'=true) (UE:∀j,j<fH.length→aL ρ (lens M') I w N (fH.getD j .bad) (mS.getD j default)) (hoff:off+fH.length≤b.sz):
  (storeCells ⟨g,i*b.sz+off,none⟩ mS).run P w= .ok () (w.setCells g (i*b.sz+off) mS)∧
  ∃ρ1,kZ N ρ (lens M') I w ρ1 (lens (cP M' [(n,⟨b.ty,b.sz,b.es.set i (bA off fH (b.es.getD i [])),none⟩)])) I (w.setCells g (i*b.sz+off) mS)∧
   cC X ρ1 I (cP M' [(n,⟨b.ty,b.sz,b.es.set i (bA off fH (b.es.getD i [])),none⟩)]) (eE N [(n,⟨b.ty,b.sz,b.es.set i (bA off fH (b.es.getD i [])),none⟩)]) (w.setCells g (i*b.sz+off) mS):=by
 have B:=hW.aP n b b9
 obtain⟨cs,fr,hg,l8,pE,hown,hlc,lO,hcs,hc⟩:=B.real g cap hρ
 have hg:=hg.cells hmp
 have NS:=aW.cL hmp
 have hel:(b.es.getD i []).length=b.sz:=by
  rw[List.getD_eq_getElem?_getD,List.getElem?_eq_getElem hi',Option.getD_some]
  exact B.even _ (List.getElem_mem _)
 have hrow:i*b.sz+b.sz≤cs.size:=by
  rw[hcs]
  calc i*b.sz+b.sz=(i+1)*b.sz:=by rw[Nat.add_mul,Nat.one_mul]
   _≤cap*b.sz:=Nat.mul_le_mul_right _ (by omega)
 have hin:∀j,j<b.sz→i*b.sz+j<cs.size:=fun j hj=>by omega
 have mM:∀k,w.cell? ⟨g,k,none⟩=cs[k]? :=fun k=>by simp[World.cell?,hg]
 have UF:∀k,k<cs.size→w.frozen? ⟨g,k,none⟩=false:=fun k hk=>by
  have:=l8 k hk
  simp only[World.frozen?,hg]
  simpa using this
 refine⟨?_,?_⟩
 ·have hst:=run_storeCells_cells (P:=P) g (i*b.sz+off) mS 0 w
   (fun j hj=>by
     rw[Nat.add_zero,mM,Nat.add_assoc,Array.getElem?_eq_getElem (hin (off+j) (by omega))]; rfl)
   (fun j hj=>by rw[Nat.add_zero,Nat.add_assoc]; exact UF _ (hin (off+j) (by omega)))
   CZ
  rwa[Nat.add_zero]at hst
 ·obtain⟨cs',h1,h2,h3⟩:=fW g b.ty fr mS (i*b.sz+off) w cs hg (by rw[hcl]; omega)
  have key:∀p q,p<b.es.length→q<b.sz→∃u,cs'[p*b.sz+q]? =some u∧u.oneCell'=true∧aL ρ (lens M') I w N (((b.es.set i (bA off fH (b.es.getD i []))).getD p []).getD q .bad) u:=by
   intro p q hp hq
   rw[h3,hcl]
   by_cases hpi:p=i
   ·subst hpi
    have e1:(b.es.set p (bA off fH (b.es.getD p []))).getD p []=bA off fH (b.es.getD p []):=by
     simp[List.getD_eq_getElem?_getD,hp]
    rw[e1,kD _ _ _ _ (by omega)]
    by_cases II:off≤q∧q<off+fH.length
    ·rw[if_pos (by omega),if_pos II]
     have e2:p*b.sz+q - (p*b.sz+off)=q - off:=by omega
     rw[e2]
     have Jy:q - off<mS.length:=by rw[hcl]; omega
     refine⟨mS[q - off],List.getElem?_eq_getElem Jy,CZ _ (List.getElem_mem _),?_⟩
     have:=UE (q - off) (by omega)
     rwa[List.getD_eq_getElem?_getD (l:=mS),List.getElem?_eq_getElem Jy,Option.getD_some]at this
    ·rw[if_neg (by omega),if_neg II]
     exact hc p q hp hq
   ·have e1:(b.es.set i (bA off fH (b.es.getD i []))).getD p []=b.es.getD p []:=by
     simp[List.getD_eq_getElem?_getD,List.getElem?_set,Ne.symm hpi]
    rw[e1]
    rw[if_neg]
    ·exact hc p q hp hq
    ·rintro⟨ha,hb'⟩
     rcases Nat.lt_or_gt_of_ne hpi with hlt|hgt
     ·have:(p+1)*b.sz≤i*b.sz:=Nat.mul_le_mul_right _ hlt
      rw[Nat.add_mul,Nat.one_mul]at this
      omega
     ·have:(i+1)*b.sz≤p*b.sz:=Nat.mul_le_mul_right _ hgt
      rw[Nat.add_mul,Nat.one_mul]at this
      omega
  have jj:∀b0,M' n=some b0→b0=b:=fun b0 h0=>by rw[b9]at h0; exact (Option.some.inj h0).symm
  obtain⟨E,W⟩:=hW.put (w':=w.setCells g (i*b.sz+off) mS) n ⟨b.ty,b.sz,b.es.set i (bA off fH (b.es.getD i [])),none⟩ g cap cs' fr
   (os_setCells _ _ _ _) (fX _ _ _ _) (gH _ _ _ _) (by rw[size_setCells]; exact Nat.le_refl _) (fun k _ hk=>dN g _ _ _ _ hk) h1 (fun q hq=>l8 q (by omega))
   (.inr ⟨cap,hρ,b,b9⟩) (fun b0 h0=>by rw[jj b0 h0,NS]; exact⟨rfl,by simp[aW.ln],fun _=>hρ⟩) (fun _=>⟨b,b9⟩)
   (fun e he=>by
     rcases List.mem_or_eq_of_mem_set he with he|rfl
     ·exact B.even e he
     ·show (bA _ _ _).length=b.sz
      unfold bA
      rw[List.length_append,List.length_append,List.length_take,List.length_drop,hel]; omega)
   (by simpa using hlc) lO (by rw[h2]; exact hcs) (by simpa using key)
  exact⟨_,E,by rw[bC]; exact W⟩
theorem ww {sz:Nat}:∀ {xs:List (List AV)},(∀e ∈ xs,e.length=sz)→xs.flatten.length=xs.length*sz
 |[],_=>by simp
 |e::r,h=>by
  rw[List.flatten_cons,List.length_append,ww (fun e he=>h e (List.mem_cons_of_mem _ he)),h e List.mem_cons_self,List.length_cons,Nat.add_mul,Nat.one_mul,Nat.add_comm]
theorem tp {sz:Nat}:∀ {xs:List (List AV)} {k:Nat},(∀e ∈ xs,e.length=sz)→k<xs.length*sz→∃p q,p<xs.length∧q<sz∧k=p*sz+q∧xs.flatten.getD k .bad=(xs.getD p []).getD q .bad
 |[],k,_,hk=>by simp at hk
 |e::r,k,h,hk=>by
  have he:=h e List.mem_cons_self
  by_cases hlt:k<sz
  ·refine⟨0,k,by simp,hlt,by simp,?_⟩
   simp only[List.flatten_cons,List.getD_eq_getElem?_getD,List.getElem?_append_left (show k<e.length by omega),List.getElem?_cons_zero,Option.getD_some]
  ·rw[List.length_cons,Nat.add_mul,Nat.one_mul]at hk
   obtain⟨p,q,hp,hq,hkk,hg⟩:=tp (xs:=r) (k:=k - sz) (fun e he=>h e (List.mem_cons_of_mem _ he)) (by omega)
   refine⟨p+1,q,by simpa using hp,hq,by rw[Nat.add_mul,Nat.one_mul]; omega,?_⟩
   rw[List.getD_cons_succ,←hg]
   simp only[List.flatten_cons,List.getD_eq_getElem?_getD,List.getElem?_append_right (show e.length≤k by omega),he]
theorem A8 (hT:cU P T) {x y:Operand} {t t' e n len i off bP:Nat} {Ml:Mem} {b:aW} {K:List (List AV)→Prop} (hM:M=aa Ml) (ho:o.op= .call {callee:= .builtin .copy,args:= #[x,y],argTypes:= #[t,t']})
  (ht:T.d t= .slice e) (hok:(T.d e).ok=true) (bQ:ev F x= .dE n len i off bP) (hb:aa Ml n=some b) (hmp:b.mp=none) (hl:b.ln=len) (hi:i<b.es.length) (hfit:off+bP*T.s e≤b.sz)
  (hk:(∃e,P.underlying t'=some (.slice e))∨P.underlying t'=some .string) (hks:(∃s,ev F y= .str s)→P.underlying t'=some .string) (hkl:(¬ ∃s,ev F y= .str s)→∃e,P.underlying t'=some (.slice e)) (h:l9 Ml (T.s e) (ev F y) K):
  ∃xs,K xs∧bB P X o F M (.int .i64 ((min xs.length bP:Nat):Int)) [(n,⟨b.ty,b.sz,b.es.set i (bA off ((xs.take bP).flatten) (b.es.getD i [])),none⟩)] []∧n ∈ (ev F x).names:=by
 have hx:x ∈ o.op.operands.toList:=by simp[ho,Op.operands,Call.operands]
 have hy:y ∈ o.op.operands.toList:=by simp[ho,Op.operands,Call.operands]
 obtain⟨D,it,z,hD,hf,_⟩:=hT t (by rw[ht]; simp)
 have gp:=bO ht hf
 subst gp
 obtain⟨De,ie,_,CK,IP,hie,lf,_⟩:=hT e (TD.dt hok)
 obtain⟨xs,hkx,hsrc⟩:=jH (X:=X) (o:=o) hT hM hy hk hks hkl h
 obtain⟨sl,dR,dZ⟩:=bc (F:=F) x hx (n:=n) (by rw[bQ]; simp[AV.names])
 refine⟨xs,hkx,⟨fun p hp=> .inr ⟨sl,dR,by simp at hp; rw[hp]; exact dZ⟩,fun M' N ρ I a w hW hU hN _=> ?_⟩,by rw[bQ]; simp[AV.names]⟩
 have r1:=ao hU x hx
 rw[bQ]at r1
 have b9:M' n=some b:=(hN sl dR n dZ).trans (by rw[hM]; exact hb)
 have dw:lens M' n=some (len,b.sz):=by rw[aA]; exact⟨b,b9,hl,rfl⟩
 obtain⟨hn,g,cap,c,hρ,hv,_⟩:=k9 r1 dw
 obtain⟨vs,hS,hL,U3⟩:=hsrc M' N ρ I a w hW hU hN
 have Gd:(xs.take bP).length=min bP xs.length:=List.length_take
 have sB:∀e' ∈ xs.take bP,e'.length=T.s e:=fun e' he=>hL.2.1 e' (List.mem_of_mem_take he)
 have hfl:=ww sB
 have hle:min xs.length bP*T.s e≤bP*T.s e:=Nat.mul_le_mul_right _ (Nat.min_le_right _ _)
 have hle2:min xs.length bP*T.s e≤xs.length*T.s e:=Nat.mul_le_mul_right _ (Nat.min_le_left _ _)
 rw[Gd,Nat.min_comm]at hfl
 have hvl:(vs.take (min xs.length bP*T.s e)).length=((xs.take bP).flatten).length:=by
  rw[hfl,List.length_take,hL.1]; omega
 have hone:∀u ∈ vs.take (min xs.length bP*T.s e),u.oneCell'=true:=fun u hu=>hL.one u (List.mem_of_mem_take hu)
 obtain⟨hst,ρ1,E,W⟩:=A7 (P:=P) hW (off:=off) (fH:=(xs.take bP).flatten) (mS:=vs.take (min xs.length bP*T.s e)) b9 hmp hρ hi hvl hone (fun k hk'=>by
  rw[hfl]at hk'
  obtain⟨p,q,hp,hq,hkk,hg⟩:=tp (xs:=xs.take bP) (k:=k) sB (by rw[Gd,Nat.min_comm]; exact hk')
  rw[Gd]at hp
  obtain⟨u,hu,_,hr⟩:=hL.2.2 p q (by omega) hq
  rw[hg]
  have e1:(xs.take bP).getD p []=xs.getD p []:=by
   simp only[List.getD_eq_getElem?_getD,List.getElem?_take]
   rw[if_pos (by omega)]
  have e2:(vs.take (min xs.length bP*T.s e)).getD k default=u:=by
   rw[List.getD_eq_getElem?_getD,List.getElem?_take,if_pos hk',hkk,hu]; rfl
  rw[e1,e2]; exact hr) (by rw[hfl]; omega)
 unfold bJ
 have hrun:(execOp a.eval o).run P w= .ok (.value (.int .i64 ((min xs.length bP:Nat):Int))) (w.setCells g (i*b.sz+off) (vs.take (min xs.length bP*T.s e))):=by
  have hp:=U3 (min xs.length bP) (Nat.min_le_left _ _)
  rw[gY ho]
  have e0:(Array.map a.eval #[x,y])= #[a.eval x,a.eval y]:=by simp
  have em:Nat.min xs.length bP=min xs.length bP:=rfl
  simp only[e0,builtin,hv,Builtin.copy_,Sem.run_bind,run_underlying hD,Result.andThen_ok,hS.len,br hie,lf,em,hp,Sem.run_pure,List.toList_toArray,hst,goInt]
  simp[hst,run_underlying hD,hS.len,br hie,lf,hp,goInt,em]
 rw[hrun]
 exact⟨ρ1,I,E,W,.int _ _⟩
theorem Do (hT:cU P T) {n t e len:Nat} {x y:Operand} {k k':IntKind} (ho:o.op= .makeSlice t x y) (ht:T.d t= .slice e) (hok:(T.d e).ok=true) (hs:bH (T.z e)=true) (hl:(cells (T.z e)).length=T.s e) (hz:T.s e≠0)
  (hx:ev F x= .int k len) (hy:ev F y= .int k' len) (hlen:len≤gu):bB P X o F M (.ba n len) [(n,⟨e,T.s e,List.replicate len (cells (T.z e)),none⟩)] [n]:=by
 have hx':x ∈ o.op.operands.toList:=by simp[ho,Op.operands]
 have hy':y ∈ o.op.operands.toList:=by simp[ho,Op.operands]
 obtain⟨D,it,z,hD,hf,hi,hsz,_⟩:=hT t (by rw[ht]; simp)
 have gp:=bO ht hf
 subst gp
 obtain⟨_,ie,ze,_,_,hie,lf,hby,JA,gN⟩:=hT e (TD.dt hok)
 refine oX (cap:=len) (by simp) (fun M' N ρ I a w hW hU=> ?_)
 have hc:aZ ρ (lens M') I w N (cells (T.z e)) ze.cells:=by rw[gN]; exact aZ.eb (fh _ _ _ _ _ ze) (by rw[←gN]; exact hs)
 have r1:=bu (hx ▸ ao hU x hx')
 have r2:=bu (hy ▸ ao hU y hy')
 have hmax:len≤maxLen:=by simp only[maxLen,gu]at *; omega
 have hrow:=gW.C0 (n:=len) hc hl hz
 refine⟨madeCells ze.cells (len*ie.size),?_,by rw[size_madeCells,lf],Nat.le_refl _,hmax,by rw[lf]; exact hrow⟩
 have hb:(ie.bytes:Int)* (len:Int)≤281474976710656:=by
  have h1:ie.bytes*len≤131072*1073741824:=Nat.mul_le_mul hby hlen
  have h2:((ie.bytes*len:Nat):Int)≤281474976710656:=by omega
  rwa[Int.natCast_mul]at h2
 have h3:=run_make (P:=P) w t e ie ze hD hie JA k k' (len:Int) (len:Int) (by omega) (Int.le_refl _) hb (by simp only[gu]at hlen; omega)
 simp only[execOp,ho,r1,r2,Sem.run_bind,h3,Result.andThen_ok,Sem.run_pure,Int.toNat_natCast]
theorem Dp (hT:cU P T) {n s t e:Nat} {x:Operand} {l:List UInt8} (ho:o.op= .convert s t x) (hs:T.d s= .str) (ht:T.d t= .slice e) (he:T.d e= .int .u8) (hx:ev F x= .str l) (hlen:l.length≤gu):
  bB P X o F M (.ba n l.length) [(n,⟨e,1,l.map fun c=>[AV.int .u8 c.toNat],none⟩)] [n]:=by
 have hx':x ∈ o.op.operands.toList:=by simp[ho,Op.operands]
 obtain⟨D,_,_,TL,hf,_⟩:=hT s (by rw[hs]; simp)
 have:=fq hs hf
 subst this
 obtain⟨D,_,_,U2,hf,_⟩:=hT t (by rw[ht]; simp)
 have:=bO ht hf
 subst this
 obtain⟨D,_,_,CK,hf,_⟩:=hT e (by rw[he]; simp)
 have:=fits_int he hf
 subst this
 refine⟨fun p hp=> .inl (by simp at hp; simp[hp]),fun M' N ρ I ac w hW hU hN hF=> ?_⟩
 have hn:¬N n:=hF n (by simp)
 have r1:=fV (hx ▸ ao hU x hx')
 have hd:∀b0,M' n=some b0→False:=fun b0 h0=>hn (hW.aP n b0 h0).lt
 have hsz:(⟨l.toArray⟩:ByteArray).size=l.length:=by show l.toArray.size=_; simp
 have hge:=grownCap_ge w l.length 0 e
 have lO:=grownCap_le_maxLen w l.length 0 e (by simp only[maxLen,gu]at *; omega)
 have hcs:(Lib.bytesCells w e ⟨l.toArray⟩).size=grownCap w l.length 0 e:=by
  simp only[Lib.bytesCells,Array.size_append,Array.size_map,Array.size_replicate,hsz,List.size_toArray]; omega
 have hrow:∀i j,i<l.length→j<1→∃u,(Lib.bytesCells w e ⟨l.toArray⟩)[i*1+j]? =some u∧u.oneCell'=true∧aL ρ (lens M') I w N (((l.map fun c=>[AV.int .u8 (c.toNat:Int)]).getD i []).getD j .bad) u:=by
  intro i j hi hj
  have U4:j=0:=by omega
  subst U4
  refine⟨.int .u8 (l[i].toNat:Int),?_,rfl,?_⟩
  ·rw[Nat.mul_one,Nat.add_zero,Lib.bytesCells,Array.getElem?_append_left (by simpa using hi)]
   simp[hi]
  ·have:((l.map fun c=>[AV.int .u8 (c.toNat:Int)]).getD i []).getD 0 .bad= .int .u8 (l[i].toNat:Int):=by simp[List.getD_eq_getElem?_getD,hi]
   rw[this]; exact .int _ _
 obtain⟨E,W⟩:=hW.put (w':=Lib.bytesWorld w e ⟨l.toArray⟩) n ⟨e,1,l.map fun c=>[AV.int .u8 (c.toNat:Int)],none⟩ w.heap.size (grownCap w l.length 0 e) (Lib.bytesCells w e ⟨l.toArray⟩) ((Lib.bytesCells w e ⟨l.toArray⟩).size,(Lib.bytesCells w e ⟨l.toArray⟩).size+1)
  rfl rfl rfl (by rw[Lib.bytesWorld_size]; omega) (fun k hk _=>Lib.bytesWorld_at_old w e _ k hk) (Lib.bytesWorld_at_new w e _) (fun o h1 h2=>by omega)
  (.inl (Nat.le_refl _)) (fun b0 h0=>(hd b0 h0).elim) (fun h=>(hn h).elim) (fun r hr=>by obtain⟨_,_,rfl⟩:=List.mem_map.1 hr; rfl) (by simpa using hge) lO (by rw[hcs]; simp) (by simpa using hrow)
 unfold bJ
 have hrun:(execOp ac.eval o).run P w= .ok (.value (.slice (some ⟨w.heap.size,0,none⟩) l.length (grownCap w l.length 0 e))) (Lib.bytesWorld w e ⟨l.toArray⟩):=by
  have:=Lib.run_convert_string_bytes (P:=P) w s t e ⟨l.toArray⟩ TL U2 CK
  simp only[execOp,ho,r1,Sem.run_bind,this,Result.andThen_ok,Sem.run_pure,hsz]
 rw[hrun]
 refine⟨_,I,E,by rw[bC]; exact W,?_⟩
 refine jG (sz:=1) (.inr ⟨_,List.mem_singleton.2 rfl⟩) ?_ (by simp[gE])
 show lens (cu M' n _) n=_
 rw[cj,if_pos rfl]; simp[aW.ln]
end Go.AM
namespace Go.AM
open Go.RowKit
variable {P:Program} {T:TT} {X:bV} {o:Oper} {F:aR} {M:bf}
section
variable {w:World} {t tx ty e:TypeId} {i:TypeInfo} {z:Value} {k k':IntKind} {n:Nat}
theorem iZ {zz:Array Value} {m:Nat} (h:m*zz.size=0):Builtin.zeroCells zz m= #[]:=by
 simp[Builtin.zeroCells,h]
theorem wrap_small (h:n≤gu):IntKind.i64.wrap (n:Int)=n:=by
 simp only[gu]at h
 simp only[IntKind.wrap,IntKind.bits,IntKind.signed]; simp; omega
theorem ja (ht:P.underlying t=some (.slice e)) (hx:P.underlying tx=some (.int k)) (hi:P.info? e=some i) (hz:i.zero=some z) (hzs:z.cells.size=i.size) (hn:n≤gu) (hby:i.bytes≤131072)
  (base:Option Addr) (sLen sCap:Nat) (hroom:sLen+n≤sCap) (w':World)
  (hst:∀a,base=some a→(storeCells (a.add (sLen*i.size)) (Builtin.zeroCells z.cells n).toList).run P w= .ok () w') (h0:base=none→w'=w):
  (Builtin.append_ #[t,tx] ty #[.slice base sLen sCap,.int k' n]).run P w= .ok (.slice base (sLen+n) sCap) w':=by
 have h48:¬ (281474976710656< (n:Int)* (i.bytes:Int)):=by
  have h1:n*i.bytes≤1073741824*131072:=Nat.mul_le_mul hn hby
  have h2:((n*i.bytes:Nat):Int)≤281474976710656:=by omega
  rw[Int.natCast_mul]at h2; omega
 have hneg:¬ ((n:Int)<0):=by omega
 have hap:(if n*i.size=0 then (pure #[]:Sem (Array Value))else do pure (Builtin.zeroCells (←zeroValue e).cells n)).run P w= .ok (Builtin.zeroCells z.cells n) w:=by
  split
  ·rename_i h
   rw[iZ (by rw[hzs]; exact h)]; simp
  ·simp[zeroValue,typeInfo,hi,hz]
 cases base with
 |none=>
  have:=h0 rfl
  subst this
  simp[Builtin.append_,run_underlying ht,run_underlying hx,sizeOf,typeInfo,zeroValue,hz,hi,wrap_small hn,hneg,h48,hroom,asInt,asIntOf]
 |some a=>
  have hst:=hst a rfl
  simp[Builtin.append_,run_underlying ht,run_underlying hx,sizeOf,typeInfo,zeroValue,hz,hi,wrap_small hn,hneg,h48,hroom,asInt,asIntOf]at hap hst ⊢
  by_cases h:n*i.size=0
  ·have h2:=hap h
   rw[h2]at hst
   simp[h,hst]
  ·simp[h,hst]
theorem jb (ht:P.underlying t=some (.slice e)) (hx:P.underlying tx=some (.int k)) (hi:P.info? e=some i) (hz:i.zero=some z) (hzs:z.cells.size=i.size) (hn:n≤gu) (hby:i.bytes≤131072)
  (base:Option Addr) (sLen sCap:Nat) (olds:List Value) (hold:(Builtin.firstCells i.size sLen (.slice base sLen sCap)).run P w.drew= .ok olds.toArray w.drew)
  (hg:sCap<sLen+n) (ZV:((sLen+n:Nat):Int)≤9223372036854775807) (hfit:Builtin.nextslicecap (sLen+n) sCap*i.bytes≤281474976710656):
  (Builtin.append_ #[t,tx] ty #[.slice base sLen sCap,.int k' n]).run P w= .ok (.slice (some ⟨w.heap.size,0,none⟩) (sLen+n) (grownCap w (sLen+n) sCap e))
    (w.drew.alloc (.cells ((olds++(Builtin.zeroCells z.cells n).toList).toArray++Builtin.zeroCells z.cells (grownCap w (sLen+n) sCap e - (sLen+n))) e)):=by
 have h48:¬ (281474976710656< (n:Int)* (i.bytes:Int)):=by
  have h1:n*i.bytes≤1073741824*131072:=Nat.mul_le_mul hn hby
  have h2:((n*i.bytes:Nat):Int)≤281474976710656:=by omega
  rw[Int.natCast_mul]at h2; omega
 have hneg:¬ ((n:Int)<0):=by omega
 have hnr:¬ (sLen+n≤sCap):=by omega
 have h63':¬ (9223372036854775807< ((sLen:Int)+ (n:Int))):=by omega
 have U5:¬ (281474976710656<Builtin.nextslicecap (sLen+n) sCap*i.bytes):=by omega
 have hap:(if n*i.size=0 then (pure #[]:Sem (Array Value))else do pure (Builtin.zeroCells (←zeroValue e).cells n)).run P w.drew= .ok (Builtin.zeroCells z.cells n) w.drew:=by
  split
  ·rename_i h
   rw[iZ (by rw[hzs]; exact h)]; simp
  ·simp[zeroValue,typeInfo,hi,hz]
 simp[Builtin.append_,run_underlying ht,run_underlying hx,sizeOf,typeInfo,zeroValue,hi,hz,wrap_small hn,hneg,h48,hnr,h63',U5,asInt,asIntOf,Question.forced,hold,newRow,grownCap]at hap ⊢
 by_cases h:n*i.size=0
 ·have h2:=hap h
  simp[h,h2]
 ·simp[h]
  congr 2
  apply Array.ext'
  simp[List.append_assoc]
end
theorem tq {ρ:Place} {L:aT} {I:Nat→Prop} {w:World} {N:Nat→Prop} {z:Value} {a:AV} {sz n:Nat} (h:aZ ρ L I w N (cells a) z.cells) (hl:(cells a).length=sz) (hpos:sz≠0):
  c7 ρ L I w N sz (List.replicate n (cells a)) (Builtin.zeroCells z.cells n).toList:=by
 have hz:z.cells.size=sz:=by rw[h.1,hl]
 have hr:=gW.C0 (n:=n) h hl hpos
 have e:Builtin.zeroCells z.cells n=(Array.range (n*sz)).map (z.cells[· % z.cells.size]!):=by simp only[Builtin.zeroCells,hz]
 rw[e]
 refine⟨by simp,hr.2.1,fun i j hi hj=> ?_⟩
 obtain⟨u,hu,h1⟩:=hr.2.2 i j hi hj
 exact⟨u,by rw[Array.getElem?_toList]; exact hu,h1⟩
def mT (T:TT) (t:Nat) (s x:AV) (S:St) (K:AV→Mem→Nat→Prop):Prop:=
 match T.d t,x with
 | .slice e,.int _ m=>
   (match s with
   | .ba n len=>alive S.M n len fun b=>iy (b.sz==T.s e&&b.ty==e) ((0≤m∧len+m.toNat≤gu)∧
       K (.ba n (len+m.toNat)) (fK S.M n ⟨b.ty,b.sz,b.es++List.replicate m.toNat (cells (T.z e)),none⟩) S.nx)
   | .ap=>(0≤m∧m.toNat≤gu)∧K (.ba S.nx m.toNat) (fK S.M S.nx ⟨e,T.s e,List.replicate m.toNat (cells (T.z e)),none⟩) (S.nx+1)
   |_=>False)
 |_,_=>False
theorem uR (hT:cU P T) {s x:Operand} {t t' nx:Nat} {Ml:Mem} {K:AV→Mem→Nat→Prop} (hM:M=aa Ml) (ho:o.op= .call {callee:= .builtin .append,args:= #[s,x],argTypes:= #[t,t']})
  (hok:∀e,T.d t= .slice e→(T.d e).ok=true∧bH (T.z e)=true∧(cells (T.z e)).length=T.s e∧T.s e≠0) (hint:∃k,T.d t'= .int k)
  (h:mT T t (ev F s) (ev F x) ⟨F,Ml,nx⟩ K):
  ∃av n b nw aS,bB P X o F M av [(n,b)] nw∧K av (fK Ml n b) aS∧((nw=[nx]∧aS=nx+1∧n=nx)∨(aS=nx∧nw=[]∧n ∈ (ev F s).names)):=by
 have hs:s ∈ o.op.operands.toList:=by simp[ho,Op.operands,Call.operands]
 have hx:x ∈ o.op.operands.toList:=by simp[ho,Op.operands,Call.operands]
 unfold mT at h
 cases ht:T.d t with
 |slice e=>
  cases TQ:ev F x with
  |int kx m=>
   rw[ht,TQ]at h
   simp only at h
   obtain⟨D,it,z0,hD,hf,_⟩:=hT t (by rw[ht]; simp)
   have gp:=bO ht hf
   subst gp
   obtain⟨JC,mN,hcl,hpos⟩:=hok e ht
   obtain⟨_,ie,z,_,_,hie,lf,hby,hz,gN⟩:=hT e (TD.dt JC)
   obtain⟨k',hk'⟩:=hint
   obtain⟨D',_,_,Nw,hfx,_⟩:=hT t' (by rw[hk']; simp)
   have:=fits_int hk' hfx
   subst this
   have hzs:z.cells.size=T.s e:=by
    have:=(aZ.eb (ρ:=fun _=>none) (L:=fun _=>none) (I:=fun _=>False) (w:=default) (N:=ch) (fh _ _ _ _ _ z) (by rw[←gN]; exact mN)).1
    rw[this,←gN,hcl]
   have A9:z.cells.size=ie.size:=by rw[hzs,lf]
   have hfit:∀need old,old<need→need≤gu→Builtin.nextslicecap need old*ie.bytes≤281474976710656:=fun need old h1 h2=>by
    refine growslice_fits h1 ?_
    calc need*ie.bytes≤gu*131072:=Nat.mul_le_mul h2 hby
     _=140737488355328:=by simp[gu]
   have hcells:∀ (ρ:Place) (L:aT) (I:Nat→Prop) (w:World) (N:Nat→Prop),aZ ρ L I w N (cells (T.z e)) z.cells:=fun ρ L I w N=>by rw[gN]; exact aZ.eb (fh _ _ _ _ _ z) (by rw[←gN]; exact mN)
   cases hss:ev F s with
   |ba n len=>
    rw[hss]at h
    simp only[alive]at h
    cases hb:aa Ml n with
    |none=>rw[hb]at h; exact h.elim
    |some b=>
     rw[hb]at h
     obtain⟨hc1,hmp,h2⟩:=aw h
     obtain⟨jg,⟨hm0,gx⟩,hk⟩:=aw h2
     have hl:b.es.length=len:=(aW.cL hmp).symm.trans (by simpa using hc1)
     simp only[Bool.and_eq_true,beq_iff_eq]at jg
     obtain⟨hsz,yg⟩:=jg
     generalize hmn:m.toNat=q at*
     obtain rfl:m=(q:Int):=by omega
     obtain⟨sl,dR,dZ⟩:=bc (F:=F) s hs (n:=n) (by rw[hss]; simp[AV.names])
     refine⟨_,n,_,[],nx,?_,hk,.inr ⟨rfl,rfl,by simp[AV.names]⟩⟩
     refine⟨fun p hp=> .inr ⟨sl,dR,by simp at hp; rw[hp]; exact dZ⟩,fun M' N ρ I a w hW hU hN _=> ?_⟩
     have b9:M' n=some b:=(hN sl dR n dZ).trans (by rw[hM]; exact hb)
     have dw:lens M' n=some (b.es.length,b.sz):=by rw[aA]; exact⟨b,b9,aW.cL hmp,rfl⟩
     have hL:=tq (n:=q) (hcells ρ (lens M') I w N) hcl hpos
     have Nx:q≤gu:=by omega
     have r1:=ao hU s hs
     rw[hss]at r1
     have r2:=bu (TQ ▸ ao hU x hx)
     subst hl
     obtain⟨hn,h2⟩:=iI r1 dw
     unfold bJ
     rw[di ho,r2]
     rw[←hsz]at hL
     have hxl:(List.replicate q (cells (T.z e))).length=q:=by simp
     rcases h2 with⟨h0,r,hv⟩|⟨g,cap,hρ,hv⟩
     ·have hB:=hW.aP n b b9
      have he:b.es=[]:=hB.dM h0
      rw[hv]
      by_cases hx0:q=0
      ·subst hx0
       have hz0:(Builtin.zeroCells z.cells 0).toList=[]:=by rw[iZ (by simp)]
       have hrun:=ja (P:=P) (w:=w) (t:=t) (tx:=t') (ty:=o.type) (k':=kx) hD Nw hie hz A9 Nx hby r 0 0 (by simp) w (fun a ha=>by rw[hz0]; simp[storeCells]) (fun _=>rfl)
       rw[hrun]
       refine⟨ρ,I,?_,?_,?_⟩
       ·show kZ N ρ (lens M') I w ρ (lens (cu M' n _)) I w
        have:(⟨b.ty,b.sz,b.es++List.replicate 0 (cells (T.z e)),none⟩:aW)=b:=by have:=hmp; cases b; simp_all
        rw[this,lg b9]; exact kZ.refl _ _ _ _ _
       ·show cC X ρ I (cu M' n _) _ w
        have:(⟨b.ty,b.sz,b.es++List.replicate 0 (cells (T.z e)),none⟩:aW)=b:=by have:=hmp; cases b; simp_all
        rw[this,lg b9]
        have F5:eE N [(n,b)]=N:=by
         rw[bC]; funext m; simp only[x4,eq_iff_iff]
         exact⟨fun h=>h.elim (fun e=>e ▸ hn) id,.inr⟩
        rw[bC]at F5 ⊢
        rw[F5]; exact hW
       ·refine .ba n _ _ (.inl hn) rfl fun l yb me=> ?_
        have:(⟨b.ty,b.sz,b.es++List.replicate 0 (cells (T.z e)),none⟩:aW)=b:=by have:=hmp; cases b; simp_all
        rw[this]at me
        change lens (cu M' n b) n=_ at me
        rw[cj,if_pos rfl,aW.cL hmp]at me
        simp at me
        exact⟨by omega,fun _=> .inl ⟨h0,r,rfl⟩⟩
      ·have JD:(Builtin.firstCells ie.size 0 (.slice r 0 0)).run P w.drew= .ok #[] w.drew:=by
        cases r with
        |none=>exact run_firstCells_none w.drew ie.size 0 0 0
        |some a=>exact run_firstCells_some w.drew ie.size 0 a 0 0 [] (by simp) (fun j v hv=>by simp at hv)
       have hrun:=jb (P:=P) (w:=w) (t:=t) (tx:=t') (ty:=o.type) (k':=kx) (n:=q) hD Nw hie hz A9 Nx hby r 0 0 [] JD (by omega) (by simp[gu]at Nx ⊢; omega) (hfit _ _ (by omega) (by omega))
       rw[hrun]
       have gf:=jm (X:=X) (e:=e) (olds:=[]) (old:=0) (z:=z) hW (fun _=>⟨b,b9⟩) (fun b0 h0=>by rw[b9]at h0; cases h0; exact⟨rfl,he,hmp⟩) (by rw[hxl]; omega) ⟨by simp,by simp,fun i j hi=>by simp at hi⟩ hL (by rw[hzs,hsz]) (by rw[hxl]; simpa using Nx)
       have e1:b.es.length+q=([]:List (List AV)).length+ (List.replicate q (cells (T.z e))).length:=by rw[he,hxl]
       have e2:(⟨b.ty,b.sz,b.es++List.replicate q (cells (T.z e)),none⟩:aW)=⟨e,b.sz,[]++List.replicate q (cells (T.z e)),none⟩:=by rw[he,yg]
       have e3:0+q=([]:List (List AV)).length+ (List.replicate q (cells (T.z e))).length:=by rw[hxl]; rfl
       rw[e1,e2,e3]
       exact gf
     ·rw[hv]
      by_cases hroom:b.es.length+q≤cap
      ·obtain⟨g1,g2,g3⟩:=v7 hW b9 hmp hρ hL (by rw[hxl]; exact hroom)
       have hone:∀u ∈ (Builtin.zeroCells z.cells q).toList,u.oneCell'=true:=hL.one
       have hst:=run_storeCells_cells (P:=P) g (0+b.es.length*b.sz) _ 0 w (by simpa using g1) (by simpa using g2) hone
       have hrun:=ja (P:=P) (w:=w) (t:=t) (tx:=t') (ty:=o.type) (k':=kx) hD Nw hie hz A9 Nx hby (some ⟨g,0,none⟩) b.es.length cap hroom (w.setCells g (0+b.es.length*b.sz) (Builtin.zeroCells z.cells q).toList)
        (fun a ha=>by
          cases ha
          rw[bT,lf,←hsz]
          simpa using hst) (fun h=>by cases h)
       rw[hrun]
       rw[hxl]at g3
       exact g3
      ·have hB:=hW.aP n b b9
       obtain⟨olds,IJ,NW⟩:=hB.list hmp hρ
       have UQ:(Builtin.firstCells ie.size b.es.length (.slice (some ⟨g,0,none⟩) b.es.length cap)).run P w.drew= .ok olds.toArray w.drew:=
        run_firstCells_some (P:=P) w.drew ie.size b.es.length _ _ _ _ (by rw[lf,←hsz]; exact IJ.1) (fun k u hu=>by rw[bT,Nat.zero_add]; exact NW k u hu)
       have hrun:=jb (P:=P) (w:=w) (t:=t) (tx:=t') (ty:=o.type) (k':=kx) (n:=q) hD Nw hie hz A9 Nx hby _ b.es.length cap olds UQ (by omega) (by simp[gu]at gx ⊢; omega) (hfit _ _ (by omega) gx)
       rw[hrun]
       have gf:=jm (X:=X) (e:=e) (old:=cap) (z:=z) hW (fun _=>⟨b,b9⟩) (fun b0 h0=>by rw[b9]at h0; cases h0; exact⟨rfl,rfl,hmp⟩)
        (by
          have hcap:b.es.length≤cap:=by obtain⟨_,_,_,_,_,_,hh,_⟩:=hB.real g cap hρ; exact hh
          rw[hxl]; omega) IJ hL (by rw[hzs,hsz]) (by rw[hxl]; exact gx)
       rw[hxl]at gf
       rw[←yg]at gf ⊢
       exact gf
   |ap=>
    rw[hss]at h
    obtain⟨⟨hm0,gx⟩,hk⟩:=h
    generalize hmn:m.toNat=q at*
    obtain rfl:m=(q:Int):=by omega
    refine⟨_,nx,_,[nx],nx+1,?_,hk,.inl ⟨rfl,rfl,rfl⟩⟩
    refine⟨fun p hp=> .inl (by simp at hp; simp[hp]),fun M' N ρ I a w hW hU hN hF=> ?_⟩
    have hn:¬N nx:=hF nx (by simp)
    have hL:=tq (n:=q) (hcells ρ (lens M') I w N) hcl hpos
    have r1:=ao hU s hs
    have r2:=bu (TQ ▸ ao hU x hx)
    rw[hss]at r1
    generalize hv:a.eval s=v at r1
    cases r1
    unfold bJ
    rw[di ho,hv,r2]
    have hxl:(List.replicate q (cells (T.z e))).length=q:=by simp
    by_cases hx0:q=0
    ·subst hx0
     have hrun:=ja (P:=P) (w:=w) (t:=t) (tx:=t') (ty:=o.type) (k':=kx) hD Nw hie hz A9 gx hby none 0 0 (by simp) w (fun a ha=>by cases ha) (fun _=>rfl)
     rw[hrun]
     obtain⟨E,W⟩:=hW.dM hn e (T.s e)
     refine⟨_,I,E,by rw[bC]; exact W,?_⟩
     refine .ba nx _ _ (.inr ⟨_,List.mem_singleton.2 rfl⟩) rfl fun l yb me=> ?_
     change lens (cu M' nx _) nx=_ at me
     rw[cj,if_pos rfl]at me
     simp[aW.ln]at me
     exact⟨by omega,fun _=> .inl ⟨by simp,none,rfl⟩⟩
    ·have hrun:=jb (P:=P) (w:=w) (t:=t) (tx:=t') (ty:=o.type) (k':=kx) (n:=q) hD Nw hie hz A9 gx hby none 0 0 [] (run_firstCells_none w.drew ie.size 0 0 0) (by omega) (by simp[gu]at gx ⊢; omega) (hfit _ _ (by omega) (by omega))
     rw[hrun]
     have gf:=jm (X:=X) (n:=nx) (e:=e) (olds:=[]) (mO:=[]) (old:=0) (z:=z) hW (fun h=>(hn h).elim) (fun b0 h0=>(hn (hW.aP nx b0 h0).lt).elim) (by rw[hxl]; omega) ⟨by simp,by simp,fun i j hi=>by simp at hi⟩ hL hzs (by rw[hxl]; simpa using gx)
     have e1:q=([]:List (List AV)).length+ (List.replicate q (cells (T.z e))).length:=by rw[hxl]; simp
     have e2:(⟨e,T.s e,List.replicate q (cells (T.z e)),none⟩:aW)=⟨e,T.s e,[]++List.replicate q (cells (T.z e)),none⟩:=by simp
     have e3:0+q=([]:List (List AV)).length+ (List.replicate q (cells (T.z e))).length:=by rw[hxl]; rfl
     rw[e2,e3]
     show gv X M' N ρ I w (.ba nx q) _ _ _
     have:AV.ba nx q= .ba nx (([]:List (List AV)).length+ (List.replicate q (cells (T.z e))).length):=by rw[←e1]
     rw[this]
     exact gf
   |_=>rw[hss]at h; exact h.elim
  |_=>rw[ht,TQ]at h; exact h.elim
 |_=>rw[ht]at h; exact h.elim
end Go.AM
namespace Go.AM
open Go.RowKit
variable {P:Program} {T:TT} {X:bV} {o:Oper} {F:aR} {M:bf}
inductive N8:LK→Value→Prop
 |i (k:IntKind) (x:Int):N8 .i (.int k x)
 |b (x:Bool):N8 .b (.bool x)
 |s (x:List UInt8):N8 .s (.string ⟨x.toArray⟩)
inductive kI:List LK→List Value→Prop
 |nil:kI [] []
 |cons {l ls v vs} (h:N8 l v) (t:kI ls vs):kI (l::ls) (v::vs)
theorem kI.split:∀ {l1 l2:List LK} {vs:List Value},kI (l1++l2) vs→∃v1 v2,vs=v1++v2∧kI l1 v1∧kI l2 v2∧v1.length=l1.length
 |[],l2,vs,h=>⟨[],vs,rfl,.nil,h,rfl⟩
 |a::l1,l2,_,.cons (v:=v) h t=>by
  obtain⟨v1,v2,rfl,h1,h2,h3⟩:=t.split (l1:=l1)
  exact⟨v::v1,v2,rfl,.cons h h1,h2,by simp[h3]⟩
theorem qE {d:Nat}:∀ (fl:List Field) (off:Nat) (ls:List LK) (p vs:List Value),uN P (lq P d) fl off=some ls→kI ls vs→p.length=off→
  ∀f ∈ fl,f.name≠ "_" ∧∃l mid,lq P d f.type=some l∧kI l mid∧∀w,(part f.type (p++vs).toArray f.offset).run P w= .ok (valOf (aK P f.type) mid) w
 |[],_,_,_,_,_,_,_,f,hf=>by simp at hf
 |x::fl,off,ls,p,vs,hl,hv,hp,f,hf=>by
  simp only[uN]at hl
  split at hl
  ·rename_i hc
   simp only[Bool.and_eq_true,bne_iff_ne,ne_eq,beq_iff_eq]at hc
   split at hl
   ·rename_i l i wo CJ
    split at hl
    ·rename_i hsz
     have hsz:i.size=l.length:=by simpa using hsz
     obtain⟨l2,hl2,rfl⟩:∃l2,uN P (lq P d) fl (off+l.length)=some l2∧l++l2=ls:=by simpa using hl
     obtain⟨v1,v2,rfl,h1,h2,h3⟩:=hv.split
     rcases List.mem_cons.1 hf with rfl|hf
     ·obtain⟨D,hD⟩:=zN wo
      refine⟨hc.1,l,v1,wo,h1,fun w=> ?_⟩
      have p1:=eH (w:=w) hD CJ (pre:=p) (mid:=v1) (post:=v2) (by omega) (fun h=>by rw[h3]; exact iM wo h)
      rwa[hp,←hc.2]at p1
     ·have:=qE fl (off+l.length) l2 (p++v1) v2 hl2 h2 (by simp; omega) f hf
      rwa[List.append_assoc]at this
    ·simp at hl
   ·simp at hl
  ·simp at hl
theorem tu {d e:Nat} {l:List LK} {i:TypeInfo} (hl:lq P d e=some l) (hi:P.info? e=some i) (hsz:i.size=l.length):∀ (k j:Nat) (p vs:List Value),kI (kf k l) vs→p.length=j*l.length→
  ∀q ∈ List.range' j k,∃mid,kI l mid∧∀w,(part e (p++vs).toArray (q*i.size)).run P w= .ok (valOf (aK P e) mid) w
 |0,_,_,_,_,_,q,hq=>by simp at hq
 |k+1,j,p,vs,hv,hp,q,hq=>by
  have e1:kf (k+1) l=l++kf k l:=by simp[kf,List.replicate_succ]
  rw[e1]at hv
  obtain⟨v1,v2,rfl,h1,h2,h3⟩:=hv.split
  rw[List.range'_succ]at hq
  rcases List.mem_cons.1 hq with rfl|hq
  ·obtain⟨D,hD⟩:=zN hl
   refine⟨v1,h1,fun w=> ?_⟩
   have p1:=eH (w:=w) hD hi (pre:=p) (mid:=v1) (post:=v2) (by omega) (fun h=>by rw[h3]; exact iM hl h)
   rwa[hp,←hsz]at p1
  ·have:=tu hl hi hsz k (j+1) (p++v1) v2 h2 (by rw[List.length_append,hp,h3,Nat.succ_mul]) q hq
   rwa[List.append_assoc]at this
theorem db {em:Bool}:∀ (d:Nat) (m t:Nat) (ls:List LK) (w:World) (vs:List Value),lq P d t=some ls→kI ls vs→
  (Instr.checkKey em (d+m) t (valOf (aK P t) vs)).run P w= .ok () w
 |0,_,_,_,_,_,h,_=>by simp[lq]at h
 |d+1,m,t,ls,w,vs,h,hv=>by
  have e:d+1+m=(d+m)+1:=by omega
  rw[e]
  have ih:=db (em:=em) d m
  unfold lq at h
  cases hu:P.underlying t with
  |none=>rw[hu]at h; simp at h
  |some D=>
   rw[hu]at h
   cases D<;>simp only[reduceCtorEq]at h
   case bool=>
    obtain rfl:[LK.b]=ls:=by simpa using h
    have ha:aK P t=false:=by simp[aK,hu]
    rcases hv with _|⟨hl,ht⟩
    cases hl; cases ht
    simp[Instr.checkKey,run_underlying hu]
   case int k=>
    obtain rfl:[LK.i]=ls:=by simpa using h
    have ha:aK P t=false:=by simp[aK,hu]
    rcases hv with _|⟨hl,ht⟩
    cases hl; cases ht
    simp[Instr.checkKey,run_underlying hu]
   case string=>
    obtain rfl:[LK.s]=ls:=by simpa using h
    have ha:aK P t=false:=by simp[aK,hu]
    rcases hv with _|⟨hl,ht⟩
    cases hl; cases ht
    simp[Instr.checkKey,run_underlying hu]
   case struct fs=>
    have ha:aK P t=true:=by simp[aK,hu]
    cases hst:P.stoodInHeld t with
    |true=>simp[hst]at h
    |false=>
     simp only[hst,Bool.false_eq_true,if_false]at h
     have each:=qE (P:=P) fs.toList 0 ls [] vs h hv rfl
     simp only[List.nil_append]at each
     rw[ha]
     simp only[valOf,if_pos]
     rw[Instr.checkKey]
     simp only[Sem.run_bind,run_underlying hu,Result.andThen_ok]
     rw[←Array.forIn_toList]
     generalize fs.toList=L at each
     induction L with
     |nil=>simp
     |cons f L U6=>
      obtain⟨hn,l,mid,h1,h2,h3⟩:=each f (by simp)
      simp only[List.forIn_cons,Sem.run_bind,hn,ne_eq,not_false_eq_true,if_true,h3,ih _ _ _ _ h1 h2,Result.andThen_ok,Sem.run_pure]
      exact U6 (fun y hy=>each y (by simp[hy]))
   case array n e=>
    have ha:aK P t=true:=by simp[aK,hu]
    split at h
    ·rename_i l i wo CJ
     split at h
     ·rename_i hsz
      have hsz:i.size=l.length:=by simpa using hsz
      obtain rfl:kf n l=ls:=by simpa using h
      have each:=tu wo CJ hsz n 0 [] vs hv (by simp)
      simp only[List.nil_append]at each
      rw[ha]
      simp only[valOf,if_pos]
      rw[Instr.checkKey]
      simp only[Sem.run_bind,run_underlying hu,Result.andThen_ok]
      simp only[Std.Legacy.Range.forIn_eq_forIn_range',Std.Legacy.Range.size,Nat.sub_zero,Nat.add_one_sub_one,Nat.div_one]
      generalize List.range' 0 n=L at each
      induction L with
      |nil=>simp
      |cons j L U6=>
       obtain⟨mid,h2,h3⟩:=each j (by simp)
       simp only[List.forIn_cons,Sem.run_bind,br CJ,h3,ih _ _ _ _ wo h2,Result.andThen_ok,Sem.run_pure]
       exact U6 (fun y hy=>each y (by simp[hy]))
     ·simp at h
    ·simp at h
def Gh (ag:Bool) (ls:List LK) (Dq:List Value) (kc:List AV) (test:List AV→List AV→Bool) (e:MapEntry) (r:List AV):Prop:=
 ∃us rs,e.key=valOf ag us∧lD ls Dq us rs∧rs.all id=test kc r
inductive Dr {α β:Type} (R:α→β→Prop):List α→List β→Prop
 |nil:Dr R [] []
 |cons {a b as bs} (h:R a b) (t:Dr R as bs):Dr R (a::as) (b::bs)
theorem Dr.of {α β:Type} {R:α→β→Prop}:∀ {as:List α} {bs:List β},as.length=bs.length→(∀ (i:Nat) (a:α) (b:β),as[i]? =some a→bs[i]? =some b→R a b)→Dr R as bs
 |[],[],_,_=> .nil
 |a::as,b::bs,hl,h=> .cons (h 0 a b rfl rfl) (Dr.of (by simpa using hl) fun i x y hx hy=>h (i+1) x y (by simpa using hx) (by simpa using hy))
 |[],_::_,hl,_=>by simp at hl
 |_::_,[],hl,_=>by simp at hl
def dv:List LK→List AV→List AV→Bool
 |[],[],_=>true
 | .i::l,.int k _::r,.int k' _::s=>pZ k k'&&dv l r s
 | .b::l,.bool _::r,.bool _::s=>dv l r s
 | .s::l,.str _::r,.str _::s=>dv l r s
 |_,_,_=>false
theorem jq:∀ {ls:List LK} {kc r:List AV},dv ls kc r=true→∃rs,sI ls kc (r.take kc.length) rs∧rs.all id=kp kc r
 |[],[],r,_=>⟨[],by simpa using sI.nil,by simp[kp]⟩
 | .i::l,.int k x::a,.int k' y::s,h=>by
   simp only[dv,Bool.and_eq_true]at h
   obtain rfl:=gT h.1
   obtain⟨rs,h1,h2⟩:=jq h.2
   exact⟨_,.cons (.i k x y) h1,by simp[kp,h2]⟩
 | .b::l,.bool x::a,.bool y::s,h=>by
   simp only[dv]at h
   obtain⟨rs,h1,h2⟩:=jq h
   exact⟨_,.cons (.b x y) h1,by simp[kp,h2]⟩
 | .s::l,.str x::a,.str y::s,h=>by
   simp only[dv]at h
   obtain⟨rs,h1,h2⟩:=jq h
   exact⟨_,.cons (.s x y) h1,by simp[kp,h2]⟩
def iN (kc:List AV):List MapEntry→List (List AV)→Nat→Option (Nat × Value)
 |e::en,r::es,i=>if kp kc r then some (i,e.val)else iN kc en es (i+1)
 |_,_,_=>none
theorem hQ {kc:List AV}:∀ {en:List MapEntry} {es:List (List AV)} {i:Nat},en.length=es.length→
  (bM kc es=none∧iN kc en es i=none)∨∃j e r,bM kc es=some (j,r.drop kc.length)∧iN kc en es i=some (i+j,e.val)∧en[j]? =some e∧es[j]? =some r∧kp kc r=true
 |[],[],_,_=> .inl ⟨rfl,rfl⟩
 |e::en,r::es,i,hl=>by
  simp only[bM,iN]
  by_cases h:kp kc r=true
  ·rw[if_pos h,if_pos h]
   exact .inr ⟨0,e,r,rfl,rfl,rfl,rfl,h⟩
  ·rw[if_neg h,if_neg h]
   rcases hQ (kc:=kc) (en:=en) (es:=es) (i:=i+1) (by simpa using hl)with⟨h1,h2⟩|⟨j,e2,r2,h1,h2,h3,h4,h5⟩
   ·exact .inl ⟨by rw[h1]; rfl,h2⟩
   ·exact .inr ⟨j+1,e2,r2,by rw[h1]; rfl,by rw[h2]; congr 2; omega,by simpa using h3,by simpa using h4,h5⟩
 |[],_::_,_,hl=>by simp at hl
 |_::_,[],_,hl=>by simp at hl
theorem JK.same {D:TypeDesc} {l:LK} {v u:Value} {r:Bool} (hD:(D= .bool∧l= .b)∨(∃k,D= .int k∧l= .i)∨(D= .string∧l= .s)) (h:JK l v u r):Instr.sameNow D v u=some r:=by
 rcases hD with⟨rfl,rfl⟩|⟨k,rfl,rfl⟩|⟨rfl,rfl⟩
 ·cases h; simp[Instr.sameNow]
 ·cases h; simp[Instr.sameNow]
 ·cases h
  rename_i x y
  simp only[Instr.sameNow,Option.some.injEq]
  show (x.toArray==y.toArray)=(x==y)
  simp
theorem pg {D:TypeDesc} {l:LK} {kv:Value} {kc:List AV} (hD:(D= .bool∧l= .b)∨(∃k,D= .int k∧l= .i)∨(D= .string∧l= .s)):∀ {en:List MapEntry} {es:List (List AV)} {i:Nat},Dr (Gh false [l] [kv] kc kp) en es→
  Instr.findNow D kv en i=some (iN kc en es i)
 |_,_,_,.nil=>rfl
 |_,_,i,.cons (a:=e) (b:=r) h t=>by
  obtain⟨us,rs,hk,h4,ht⟩:=h
  cases h4 with
  |cons hl h0=>
   rename_i q rs
   cases h0
   simp only[valOf,Bool.false_eq_true,if_false,List.headD_cons]at hk
   have:=hl.same hD
   simp only[Instr.findNow,iN,hk,this]
   simp only[List.all_cons,List.all_nil,Bool.and_true,id]at ht
   rw[←ht]
   cases q with
   |true=>rfl
   |false=>exact pg hD t
theorem er {d t:Nat} {ls:List LK} (hd:d≤10000) (hl:lq P d t=some ls) {Dq:List Value} {kc:List AV} (w:World):∀ {en:List MapEntry} {es:List (List AV)} {i:Nat},Dr (Gh (aK P t) ls Dq kc kp) en es→
  (Instr.findAsking t (valOf (aK P t) Dq) en i).run P w= .ok (iN kc en es i) w
 |_,_,_,.nil=>by simp[Instr.findAsking,iN]
 |_,_,i,.cons (a:=e) (b:=r) h tl=>by
  obtain⟨us,rs,hk,h4,ht⟩:=h
  have he:=gz d (10000 - d) t ls w Dq us rs hl h4
  rw[show d+ (10000 - d)=10000 by omega]at he
  have TR:(Op.equal t (valOf (aK P t) Dq) e.key).run P w= .ok (rs.all id) w:=by rw[hk]; exact he
  simp only[Instr.findAsking,Sem.run_bind,TR,Result.andThen_ok,iN,ht]
  cases kp kc r with
  |true=>simp
  |false=>simpa using er hd hl w tl
theorem ei {d t:Nat} {ls:List LK} (hd:d≤10000) (hl:lq P d t=some ls) {Dq:List Value} {kc:List AV} (w:World) (hkl:kI ls Dq) {en:List MapEntry} {es:List (List AV)} (h:Dr (Gh (aK P t) ls Dq kc kp) en es):
  (Instr.findKey t (valOf (aK P t) Dq) en).run P w= .ok (iN kc en es 0) w:=by
 cases d with
 |zero=>simp[lq]at hl
 |succ d=>
  have me:=hl
  unfold lq at hl
  cases hu:P.underlying t with
  |none=>rw[hu]at hl; simp at hl
  |some D=>
   rw[hu]at hl
   have plain:∀l,ls=[l]→aK P t=false→((D= .bool∧l= .b)∨(∃k,D= .int k∧l= .i)∨(D= .string∧l= .s))→(Instr.findKey t (valOf (aK P t) Dq) en).run P w= .ok (iN kc en es 0) w:=by
    intro l hls ha hD
    subst hls
    rcases hkl with _|⟨h1,h0⟩
    cases h0
    rw[ha]at h ⊢
    simp only[valOf,Bool.false_eq_true,if_false,List.headD_cons]
    exact MapKept.run_findKey hu (pg hD h)
   cases D<;>simp only[reduceCtorEq]at hl
   case bool=>exact plain .b (by simpa using hl.symm) (by simp[aK,hu]) (.inl ⟨rfl,rfl⟩)
   case int k=>exact plain .i (by simpa using hl.symm) (by simp[aK,hu]) (.inr (.inl ⟨k,rfl,rfl⟩))
   case string=>exact plain .s (by simpa using hl.symm) (by simp[aK,hu]) (.inr (.inr ⟨rfl,rfl⟩))
   case struct fs=>
    rw[run_findKey_eq w (by rw[hu])]
    exact er hd me w h
   case array n e=>
    rw[run_findKey_eq w (by rw[hu])]
    exact er hd me w h
theorem lD.eq:∀ {ls:List LK} {vs us:List Value} {rs:List Bool},lD ls vs us rs→rs.all id=true→us=vs
 |_,_,_,_,.nil,_=>rfl
 |_,_,_,_,.cons h t,hr=>by
  simp only[List.all_cons,Bool.and_eq_true,id]at hr
  rw[t.eq hr.2]
  congr 1
  cases h<;>simp_all
theorem lD.N9:∀ {ls:List LK} {vs us:List Value} {rs:List Bool},lD ls vs us rs→kI ls vs
 |_,_,_,_,.nil=> .nil
 |_,_,_,_,.cons h t=> .cons (by cases h<;>constructor) t.N9
theorem lR {n:Nat} {l:LK} {v:Value} (h:N8 l v):Instr.sameBits n v v=true:=by
 cases h<;>cases n<;>simp[Instr.sameBits,MapKept.bytes_beq]
theorem mU {n:Nat}:∀ {ls:List LK} {vs:List Value},kI ls vs→(vs.zip vs).all (fun q=>Instr.sameBits n q.1 q.2)=true
 |_,_,.nil=>rfl
 |_,_,.cons h t=>by simp[lR h,mU t]
theorem mV {ag:Bool} {ls:List LK} {vs:List Value} (h:kI ls vs) (hone:ag=false→ls.length=1) (w:World):(Instr.keyThatStays (valOf ag vs) (valOf ag vs)).run P w= .ok (valOf ag vs) w:=by
 have:Instr.sameBits 10000 (valOf ag vs) (valOf ag vs)=true:=by
  cases ag with
  |true=>
   simp only[valOf,if_true]
   have:=mU (n:=9999) h
   simp[Instr.sameBits,this]
  |false=>
   obtain⟨l,rfl⟩:=List.length_eq_one_iff.1 (hone rfl)
   rcases h with _|⟨h1,h0⟩
   cases h0
   exact lR h1
 simp[Instr.keyThatStays,this]
end Go.AM
namespace Go.AM
open Go.RowKit Go.MapKept
variable {P:Program} {T:TT} {X:bV} {o:Oper} {F:aR} {M:bf}
def AV.iA:AV→Bool
 | .agg _=>true
 |_=>false
def mW (ag:Bool) (l:List AV):AV:=if ag then .agg l else l.headD .bad
section
variable {ρ ρ':Place} {L L':aT} {I I':Nat→Prop} {w w':World} {N N':Nat→Prop}
theorem dg {v:Value} (h:v.oneCell'=true):fc v=false∧aJ v=[v]:=by cases v<;>first|exact⟨rfl,rfl⟩|simp[Value.oneCell']at h
theorem ew (v:Value):valOf (fc v) (aJ v)=v:=by cases v<;>simp[valOf,fc,aJ]
theorem c9 {a:AV} {v:Value} (h:aL ρ L I w N a v) (hs:bH a=true):fc v=a.iA∧(aJ v).length=(cells a).length∧(∀u ∈ aJ v,u.oneCell'=true)∧∀j,j< (cells a).length→aL ρ L I w N ((cells a).getD j .bad) ((aJ v).getD j default):=by
 have key:fc v=a.iA∧aJ v=v.cells.toList:=by
  cases h with
  |bad=>simp[bH]at hs
  |aO=>simp[bH]at hs
  |agg cs vs hl h1 hr=>exact⟨rfl,rfl⟩
  |loc n len i off _ hn h1 h=>rw[(dg h1).1,(dg h1).2,dY h1]; exact⟨rfl,rfl⟩
  |ba n len _ hn h1 h=>rw[(dg h1).1,(dg h1).2,dY h1]; exact⟨rfl,rfl⟩
  |dE n len i off bP _ hn h1 h=>rw[(dg h1).1,(dg h1).2,dY h1]; exact⟨rfl,rfl⟩
  |omap n _ hn h1 h=>rw[(dg h1).1,(dg h1).2,dY h1]; exact⟨rfl,rfl⟩
  |_=>exact⟨rfl,rfl⟩
 obtain⟨h1,h2,h3⟩:=od h hs
 rw[key.2]
 exact⟨key.1,h1,h2,h3⟩
structure oi (ρ:Place) (L:aT) (I:Nat→Prop) (w:World) (N:Nat→Prop) (k:Nat) (ka va:Bool) (sz:Nat) (key val:Value) (r:List AV):Prop where
 rl:r.length=sz
 kl:(aJ key).length=k
 fl:k+ (aJ val).length=sz
 ka:fc key=ka
 va:fc val=va
 cell:∀j,j<sz→((aJ key++aJ val).getD j default).oneCell'=true∧aL ρ L I w N (r.getD j .bad) ((aJ key++aJ val).getD j default)
structure lE (ρ:Place) (L:aT) (I:Nat→Prop) (w:World) (N:Nat→Prop) (k:Nat) (ka va:Bool) (sz:Nat) (es:List (List AV)) (en:Array MapEntry):Prop where
 len:en.size=es.length
 row:∀ (i:Nat) (e:MapEntry) (r:List AV),en[i]? =some e→es[i]? =some r→oi ρ L I w N k ka va sz e.key e.val r
structure kJ (dn:Dn) (en:Array MapEntry) (ck:Nat):Prop where
 born:∀ (i j:Nat) (e f:MapEntry),en[i]? =some e→en[j]? =some f→i<j→e.born<f.born
 clock:∀ (i:Nat) (e:MapEntry),en[i]? =some e→e.born<ck
 den:dn.all=true→ck=en.size∧∀ (i:Nat) (e:MapEntry),en[i]? =some e→e.born=i
variable {k sz:Nat} {ka va:Bool} {dn:Dn} {es:List (List AV)} {en:Array MapEntry} {ck:Nat}
def hY (sz:Nat) (en:Array MapEntry):Array Value:=Array.ofFn fun p:Fin (maxLen*sz)=>((en[p.val / sz]?).map fun e=>(aJ e.key++aJ e.val).getD (p.val % sz) undef).getD undef
theorem tv (hsz:sz≠0) {i j:Nat} {e:MapEntry} (he:en[i]? =some e) (hi:i<maxLen) (hj:j<sz):(hY sz en)[i*sz+j]? =some ((aJ e.key++aJ e.val).getD j undef):=by
 have hlt:i*sz+j<maxLen*sz:=by
  have:(i+1)*sz≤maxLen*sz:=Nat.mul_le_mul_right _ hi
  rw[Nat.add_mul,Nat.one_mul]at this; omega
 have h1:(i*sz+j) / sz=i:=by rw[Nat.add_comm,Nat.add_mul_div_right _ _ (Nat.pos_of_ne_zero hsz),Nat.div_eq_of_lt hj,Nat.zero_add]
 have h2:(i*sz+j) % sz=j:=by rw[Nat.add_comm,Nat.add_mul_mod_self_right,Nat.mod_eq_of_lt hj]
 unfold hY
 rw[Array.getElem?_eq_getElem (by simpa using hlt),Array.getElem_ofFn]
 simp only[h1,h2,he,Option.map_some,Option.getD_some]
theorem oj (hsz:sz≠0) (hR:lE ρ L I w N k ka va sz es en) (hC:kJ dn en ck) (hle:es.length≤maxLen):vT k ka va dn sz en ck (hY sz en):=by
 have row:∀ (i:Nat) (e:MapEntry),en[i]? =some e→i<maxLen∧∃r,oi ρ L I w N k ka va sz e.key e.val r:=fun i e he=>by
  have hlt:=(Array.getElem?_eq_some_iff.1 he).1
  have uQ:i<es.length:=by rw[←hR.len]; exact hlt
  exact⟨by omega,es[i],hR.row i e _ he (List.getElem?_eq_getElem uQ)⟩
 refine⟨fun i e he=> ?_,fun i e j u he hu=> ?_,hC.born,hC.clock,hC.den,by simp[hY],hsz⟩
 ·obtain⟨_,r,h⟩:=row i e he
  exact⟨h.kl,by rw[List.length_append,h.kl]; exact h.fl,h.ka,h.va⟩
 ·obtain⟨hi,r,h⟩:=row i e he
  have hj:j<sz:=by
   have:=(List.getElem?_eq_some_iff.1 hu).1
   rw[List.length_append,h.kl,h.fl]at this; exact this
  rw[tv hsz he hi hj,List.getD_eq_getElem?_getD,hu]; rfl
theorem ml (hsz:sz≠0) (hR:lE ρ L I w N k ka va sz es en) (hle:es.length≤maxLen):∀i j,i<es.length→j<sz→∃u,(hY sz en)[i*sz+j]? =some u∧u.oneCell'=true∧aL ρ L I w N ((es.getD i []).getD j .bad) u:=by
 intro i j hi hj
 have hi':i<en.size:=by rw[hR.len]; exact hi
 have h:=hR.row i en[i] es[i] (Array.getElem?_eq_getElem hi') (List.getElem?_eq_getElem hi)
 obtain⟨h1,h2⟩:=h.cell j hj
 have hlt:j< (aJ en[i].key++aJ en[i].val).length:=by rw[List.length_append,h.kl,h.fl]; exact hj
 refine⟨_,tv hsz (Array.getElem?_eq_getElem hi') (by omega) hj,?_,?_⟩
 ·rw[List.getD_eq_getElem?_getD,List.getElem?_eq_getElem hlt]at h1 ⊢; exact h1
 ·rw[List.getD_eq_getElem?_getD (l:=es),List.getElem?_eq_getElem hi,Option.getD_some]
  rw[List.getD_eq_getElem?_getD (l:=aJ en[i].key++aJ en[i].val),List.getElem?_eq_getElem hlt]at h2 ⊢; exact h2
theorem fC {n g cap:Nat} {b:aW} (hW:cC X ρ I M N w) (b9:M n=some b) (hmp:b.mp=some (k,ka,va,dn)) (hρ:ρ n=some (g,cap)):
  ∃en ck,w.heap[g]? =some (.map en ck)∧lE ρ (lens M) I w N k ka va b.sz b.es en∧kJ dn en ck∧b.sz≠0∧cap=maxLen∧b.es.length≤maxLen:=by
 have B:=hW.aP n b b9
 obtain⟨cs,fr,hg,l8,pE,hown,hlc,lO,hcs,hc⟩:=B.real g cap hρ
 rw[hmp]at hg
 obtain⟨en,ck,h1,h2,h3⟩:=hg
 have hcap:cap=maxLen:=by
  have:=h3.room.1
  rw[hcs]at this
  exact Nat.eq_of_mul_eq_mul_right (Nat.pos_of_ne_zero h3.room.2) this
 refine⟨en,ck,h1,⟨h2,fun i e r he hr=> ?_⟩,⟨h3.born,h3.clock,h3.den⟩,h3.room.2,hcap,by omega⟩
 obtain⟨k1,k2,k3,k4⟩:=h3.key i e he
 have hi:i<b.es.length:=(List.getElem?_eq_some_iff.1 hr).1
 refine⟨B.even r (List.mem_of_getElem? hr),k1,by rw[List.length_append,k1]at k2; exact k2,k3,k4,fun j hj=> ?_⟩
 obtain⟨u,nT,Dt,hu3⟩:=hc i j hi hj
 have hlt:j< (aJ e.key++aJ e.val).length:=by rw[k2]; exact hj
 have ZW:=h3.cell i e j _ he (List.getElem?_eq_getElem hlt)
 rw[nT]at ZW
 have e1:(aJ e.key++aJ e.val).getD j default=u:=by
  rw[List.getD_eq_getElem?_getD,List.getElem?_eq_getElem hlt]; exact (Option.some.inj ZW).symm
 have e2:b.es.getD i []=r:=by rw[List.getD_eq_getElem?_getD,hr]; rfl
 rw[e1,←e2]
 exact⟨Dt,hu3⟩
theorem jM {n g cap:Nat} {b:aW} {v:Value} {av:AV} (hW:cC X ρ I M N w) (b9:M n=some b) (hmp:b.mp=some (k,ka,va,dn)) (hρ:ρ n=some (g,cap)) {A':Array MapEntry} {Gi:Nat} {es':List (List AV)} {Gj:Dn}
  (hR:lE ρ (lens M) I w N k ka va b.sz es' A') (hC:kJ Gj A' Gi) (hle:es'.length≤maxLen) (hr:aL ρ (lens M) I w N av v) (hit:∀r sn la,Gj= .it r sn la→X.w0.heap.size≤r∧¬I r∧CG {w with heap:=w.heap.setIfInBounds g (.map A' Gi)} g r sn la):
  gv X M N ρ I w av [(n,⟨b.ty,b.sz,es',some (k,ka,va,Gj)⟩)] v {w with heap:=w.heap.setIfInBounds g (.map A' Gi)}:=by
 have B:=hW.aP n b b9
 obtain⟨en,ck,hg,_,_,hsz,rfl,_⟩:=fC hW b9 hmp hρ
 have jj:∀b0,M n=some b0→b0=b:=fun b0 h0=>by rw[b9]at h0; exact (Option.some.inj h0).symm
 obtain⟨h1,h2⟩:=heap_set (o':= .map A' Gi) hg
 obtain⟨E,W⟩:=hW.put (w':= {w with heap:=w.heap.setIfInBounds g (.map A' Gi)}) n ⟨b.ty,b.sz,es',some (k,ka,va,Gj)⟩ g maxLen (hY b.sz A') (0,0) rfl rfl rfl (by simp) (fun q _ hq=>h2 q hq)
  ⟨A',Gi,h1,hR.len,oj hsz hR hC hle⟩ (fun o _ h=>by omega) (.inr ⟨maxLen,hρ,b,b9⟩) (fun b0 h0=>by rw[jj b0 h0]; refine⟨rfl,by simp[aW.ln,hmp],fun _=>hρ⟩) (fun _=>⟨b,b9⟩)
  (fun e he=>by
    obtain⟨i,hi,rfl⟩:=List.getElem_of_mem he
    have hi':i<A'.size:=by rw[hR.len]; exact hi
    exact (hR.row i A'[i] es'[i] (Array.getElem?_eq_getElem hi') (List.getElem?_eq_getElem hi)).rl)
  hle (Nat.le_refl _) (by simp[hY]) (ml hsz hR hle) (fun k' FM FN r sn la hb=>by cases hb; exact hit r sn la rfl)
 refine⟨_,_,E,by rw[bC]; exact W,?_⟩
 rw[bC]
 exact (hr.so E (fun _ h=>h)).wide (fun _ h=> .inr h)
theorem kJ.push {key val:Value} (h:kJ dn en ck):kJ dn.up (en.push ⟨key,val,ck⟩) (ck+1):=by
 have Gk:∀ (i:Nat) (e:MapEntry),(en.push ⟨key,val,ck⟩)[i]? =some e→(i<en.size∧en[i]? =some e)∨(i=en.size∧e.born=ck):=fun i e he=>by
  rw[Array.getElem?_push]at he
  split at he
  ·rename_i hi; exact .inr ⟨hi,by simp at he; rw[←he]⟩
  ·exact .inl ⟨(Array.getElem?_eq_some_iff.1 he).1,he⟩
 refine⟨fun i j e f he hf hij=> ?_,fun i e he=> ?_,fun hd=> ?_⟩
 ·rcases Gk i e he with⟨h1,h2⟩|⟨h1,h2⟩<;>rcases Gk j f hf with⟨h3,h4⟩|⟨h3,h4⟩
  ·exact h.born i j e f h2 h4 hij
  ·have:=h.clock i e h2; omega
  ·omega
  ·omega
 ·rcases Gk i e he with⟨h1,h2⟩|⟨h1,h2⟩
  ·have:=h.clock i e h2; omega
  ·omega
 ·obtain⟨h1,h2⟩:=h.den (by rw[←Dn.CQ]; exact hd)
  refine⟨by simp[h1],fun i e he=> ?_⟩
  rcases Gk i e he with⟨_,h4⟩|⟨h3,h4⟩
  ·exact h2 i e h4
  ·omega
theorem kJ.modify {f:MapEntry→MapEntry} (hf:∀e,(f e).born=e.born) (i:Nat) (h:kJ dn en ck):kJ dn (en.modify i f) ck:=by
 have Gk:∀ (j:Nat) (e:MapEntry),(en.modify i f)[j]? =some e→∃e0,en[j]? =some e0∧e.born=e0.born:=fun j e he=>by
  rw[Array.getElem?_modify]at he
  split at he
  ·obtain⟨e0,h1,rfl⟩:=Option.map_eq_some_iff.1 he
   exact⟨e0,h1,hf e0⟩
  ·exact⟨e,he,rfl⟩
 refine⟨fun a b e g he hg hab=> ?_,fun a e he=> ?_,fun hd=> ?_⟩
 ·obtain⟨e0,h1,h2⟩:=Gk a e he
  obtain⟨g0,h3,h4⟩:=Gk b g hg
  have:=h.born a b e0 g0 h1 h3 hab; omega
 ·obtain⟨e0,h1,h2⟩:=Gk a e he
  have:=h.clock a e0 h1; omega
 ·obtain⟨h1,h2⟩:=h.den hd
  refine⟨by simp[h1],fun a e he=> ?_⟩
  obtain⟨e0,h3,h4⟩:=Gk a e he
  have:=h2 a e0 h3; omega
theorem kJ.up (h:kJ dn en ck):kJ dn.up en ck:=
 ⟨h.born,h.clock,fun hd=>h.den (by rw[←Dn.CQ]; exact hd)⟩
theorem lE.push {key val:Value} {r:List AV} (h:lE ρ L I w N k ka va sz es en) (he:oi ρ L I w N k ka va sz key val r) (c:Nat):lE ρ L I w N k ka va sz (es++ [r]) (en.push ⟨key,val,c⟩):=by
 refine⟨by simp[h.len],fun i e q h1 h2=> ?_⟩
 rw[Array.getElem?_push]at h1
 split at h1
 ·rename_i hi
  have hl:=h.len
  have:q=r:=by rw[List.getElem?_append_right (by omega)]at h2; simp[hi,h.len]at h2; exact h2.symm
  simp at h1
  rw[this,←h1]; exact he
 ·rename_i hi
  have hlt:=(Array.getElem?_eq_some_iff.1 h1).1
  rw[List.getElem?_append_left (by rw[←h.len]; exact hlt)]at h2
  exact h.row i e q h1 h2
theorem lE.set {f:MapEntry→MapEntry} {i:Nat} {r:List AV} (h:lE ρ L I w N k ka va sz es en) (he:∀e,en[i]? =some e→oi ρ L I w N k ka va sz (f e).key (f e).val r):lE ρ L I w N k ka va sz (es.set i r) (en.modify i f):=by
 refine⟨by simp[h.len],fun j e q h1 h2=> ?_⟩
 rw[Array.getElem?_modify]at h1
 split at h1
 ·rename_i hij
  subst hij
  obtain⟨e0,h3,rfl⟩:=Option.map_eq_some_iff.1 h1
  have hlt:=(Array.getElem?_eq_some_iff.1 h3).1
  rw[List.getElem?_set_self (by rw[←h.len]; exact hlt)]at h2
  cases h2
  exact he e0 h3
 ·rename_i hij
  rw[List.getElem?_set_ne hij]at h2
  exact h.row j e q h1 h2
theorem oi.mk' {a b:AV} {key val:Value} (h1:aL ρ L I w N a key) (s1:bH a=true) (h2:aL ρ L I w N b val) (s2:bH b=true) (hk:(cells a).length=k) (hf:k+ (cells b).length=sz) (hka:a.iA=ka) (FP:b.iA=va):
  oi ρ L I w N k ka va sz key val (cells a++cells b):=by
 obtain⟨p1,p2,p3,p4⟩:=c9 h1 s1
 obtain⟨q1,q2,q3,q4⟩:=c9 h2 s2
 refine⟨by rw[List.length_append]; omega,by omega,by omega,p1.trans hka,q1.trans FP,fun j hj=> ?_⟩
 by_cases hjk:j<k
 ·have e1:(aJ key++aJ val).getD j default=(aJ key).getD j default:=by rw[List.getD_eq_getElem?_getD,List.getElem?_append_left (by omega),List.getD_eq_getElem?_getD]
  have e2:(cells a++cells b).getD j .bad=(cells a).getD j .bad:=by rw[List.getD_eq_getElem?_getD,List.getElem?_append_left (by omega),List.getD_eq_getElem?_getD]
  rw[e1,e2]
  refine⟨?_,p4 j (by omega)⟩
  rw[List.getD_eq_getElem?_getD,List.getElem?_eq_getElem (by omega)]
  exact p3 _ (List.getElem_mem _)
 ·have e1:(aJ key++aJ val).getD j default=(aJ val).getD (j - k) default:=by rw[List.getD_eq_getElem?_getD,List.getElem?_append_right (by omega),List.getD_eq_getElem?_getD,p2,hk]
  have e2:(cells a++cells b).getD j .bad=(cells b).getD (j - k) .bad:=by rw[List.getD_eq_getElem?_getD,List.getElem?_append_right (by omega),List.getD_eq_getElem?_getD,hk]
  rw[e1,e2]
  refine⟨?_,q4 (j - k) (by omega)⟩
  rw[List.getD_eq_getElem?_getD,List.getElem?_eq_getElem (by omega)]
  exact q3 _ (List.getElem_mem _)
theorem oi.val {key val:Value} {r:List AV} (h:oi ρ L I w N k ka va sz key val r) (hv:va=false→k<sz):aL ρ L I w N (mW va (r.drop k)) val:=by
 have hc:∀j,j< (aJ val).length→((aJ val).getD j default).oneCell'=true∧aL ρ L I w N ((r.drop k).getD j .bad) ((aJ val).getD j default):=fun j hj=>by
  have:=h.cell (k+j) (by have:=h.fl; omega)
  have e1:(aJ key++aJ val).getD (k+j) default=(aJ val).getD j default:=by
   rw[List.getD_eq_getElem?_getD,List.getElem?_append_right (by rw[h.kl]; omega),List.getD_eq_getElem?_getD,h.kl]
   congr 2; omega
  have e2:(r.drop k).getD j .bad=r.getD (k+j) .bad:=by simp[List.getD_eq_getElem?_getD,List.getElem?_drop]
  rw[e1]at this
  rw[e2]; exact this
 have FP:=h.va
 have hfl:=h.fl
 have hrl:=h.rl
 cases va with
 |true=>
  cases val<;>simp only[fc,Bool.false_eq_true]at FP
  rename_i cs
  simp only[aJ]at hc hfl
  have:=aL.agg (ρ:=ρ) (L:=L) (I:=I) (w:=w) (N:=N) (r.drop k) cs.toList (by rw[List.length_drop,hrl]; omega) (fun u hu=>by
   obtain⟨j,hj,rfl⟩:=List.getElem_of_mem hu
   have:=(hc j hj).1
   rwa[List.getD_eq_getElem?_getD,List.getElem?_eq_getElem hj,Option.getD_some]at this) (fun j hj=>(hc j (by rw[List.length_drop,hrl]at hj; omega)).2)
  simpa[mW]using this
 |false=>
  have hf:aJ val=[val]:=by cases val<;>first|rfl|simp[fc]at FP
  have:=(hc 0 (by rw[hf]; simp)).2
  rw[hf]at this
  have e:(r.drop k).headD .bad=(r.drop k).getD 0 .bad:=by cases r.drop k<;>rfl
  simp only[mW,Bool.false_eq_true,if_false,e]
  simpa using this
theorem p9 {t d:Nat} {ls:List LK} {a:AV} {kv:Value} (hl:lq P d t=some ls) (iz:aK P t=ka) (h:aL ρ L I w N a kv) (hs:bH a=true) (hk:(cells a).length=k) (hR:lE ρ L I w N k ka va sz es en) (hok:∀r ∈ es,dv ls (cells a) r=true):
  Dr (Gh (aK P t) ls (aJ kv) (cells a) kp) en.toList es:=by
 obtain⟨p1,p2,p3,p4⟩:=c9 h hs
 refine Dr.of (by simpa using hR.len) fun i e r he hr=> ?_
 have hE:=hR.row i e r (by simpa using he) hr
 obtain⟨rs,h1,h2⟩:=jq (hok r (List.mem_of_getElem? hr))
 refine⟨aJ e.key,rs,by rw[iz,←hE.ka]; exact (ew _).symm,?_,h2⟩
 have hle:k≤r.length:=by have:=hE.rl; have:=hE.fl; omega
 refine h1.val p2 (by rw[List.length_take,hE.kl]; omega) p4 fun j hj=> ?_
 have hj':j<k:=by rw[List.length_take]at hj; omega
 have:=(hE.cell j (by have:=hE.fl; omega)).2
 have e1:(aJ e.key++aJ e.val).getD j default=(aJ e.key).getD j default:=by rw[List.getD_eq_getElem?_getD,List.getElem?_append_left (by rw[hE.kl]; exact hj'),List.getD_eq_getElem?_getD]
 have e2:(r.take (cells a).length).getD j .bad=r.getD j .bad:=by simp only[List.getD_eq_getElem?_getD,List.getElem?_take]; rw[if_pos (by omega)]
 rw[e1]at this
 rw[e2]; exact this
end
theorem mX {ls:List LK} {a:AV} {ρ:Place} {L:aT} {I:Nat→Prop} {w:World} {N:Nat→Prop} {kv:Value} (h:aL ρ L I w N a kv) (hs:bH a=true) (hok:dv ls (cells a) (cells a)=true):kI ls (aJ kv):=by
 obtain⟨p1,p2,p3,p4⟩:=c9 h hs
 obtain⟨rs,h1,_⟩:=jq hok
 rw[List.take_length]at h1
 exact (h1.val p2 p2 p4 p4).N9
end Go.AM
namespace Go.AM
open Go.RowKit Go.MapKept
variable {P:Program} {T:TT} {X:bV} {o:Oper} {F:aR} {M:bf}
theorem kK {d:TD} {D:TypeDesc} {k e:Nat} (hd:d= .map k e) (h:d.fits D):D= .map k e:=by
 subst hd; cases D<;>simp_all[TD.fits]
theorem jr {ρ:Place} {L:aT} {I:Nat→Prop} {w:World} {N:Nat→Prop} {n sz:Nat} {v:Value} (h:aL ρ L I w N (.omap n) v) (hl:L n=some (0,sz)):N n∧∃g cap,ρ n=some (g,cap)∧v= .map (some g):=by
 cases h with
 |omap _ _ hn h1 h=>exact⟨hn,h sz hl⟩
theorem pj {ρ:Place} {L:aT} {I:Nat→Prop} {w:World} {N:Nat→Prop} {n g cap:Nat} (hn:N n) (hρ:ρ n=some (g,cap)):aL ρ L I w N (.omap n) (.map (some g)):=
 .omap n _ hn rfl fun _ _=>⟨g,cap,hρ,rfl⟩
theorem uS {n t:Nat} {k:Nat} {ka va:Bool} {sz:Nat} (hsz:sz≠0) (ho:o.op= .makeMap t none):bB P X o F M (.omap n) [(n,⟨0,sz,[],some (k,ka,va,.b true)⟩)] [n]:=by
 refine⟨fun p hp=> .inl (by simp at hp; simp[hp]),fun M' N ρ I ac w hW hU hN hF=> ?_⟩
 have hn:¬N n:=hF n (by simp)
 have hd:∀b0,M' n=some b0→False:=fun b0 h0=>hn (hW.aP n b0 h0).lt
 have hR:lE ρ (lens M') I w N k ka va sz [] #[]:=⟨rfl,fun i e r h _=>by simp at h⟩
 have hC:kJ (.b true) #[] 0:=⟨fun i j e f h=>by simp at h,fun i e h=>by simp at h,fun _=>⟨rfl,fun i e h=>by simp at h⟩⟩
 obtain⟨E,W⟩:=hW.put (w':=w.alloc (.map #[] 0)) n ⟨0,sz,[],some (k,ka,va,.b true)⟩ w.heap.size maxLen (hY sz #[]) (0,0) rfl rfl rfl (by simp) (fun k hk _=>Below.heap_alloc w _ k hk)
  ⟨#[],0,heap_alloc_new w _,rfl,oj hsz hR hC (by simp)⟩ (fun o _ h=>by omega)
  (.inl (Nat.le_refl _)) (fun b0 h0=>(hd b0 h0).elim) (fun h=>(hn h).elim) (fun e he=>by simp at he) (by simp) (Nat.le_refl _) (by simp[hY]) (ml hsz hR (by simp))
 unfold bJ
 have hrun:(execOp ac.eval o).run P w= .ok (.value (.map (some w.heap.size))) (w.alloc (.map #[] 0)):=by
  simp[execOp,ho,run_makeMap]
 rw[hrun]
 refine⟨_,I,E,by rw[bC]; exact W,?_⟩
 rw[bC]
 exact pj (cap:=maxLen) (.inl rfl) (by simp[gE])
section
variable {t kt et n d k:Nat} {ka va:Bool} {dn:Dn} {b:aW} {ls:List LK} {x key:Operand}
theorem qF {w:World} {g:Nat} {en:Array MapEntry} {ck:Nat} {kv z:Value} {i:TypeInfo} {ok:Bool} {r:Option (Nat × Value)} (hu:P.underlying t=some (.map kt et)) (hg:w.heap[g]? =some (.map en ck))
  (hc:∀em,(Instr.checkKey em 10000 kt kv).run P w= .ok () w) (hf:(Instr.findKey kt kv en.toList).run P w= .ok r w) (hi:P.info? et=some i) (hz:i.zero=some z):
  (Instr.lookup t (.map (some g)) kv ok).run P w= .ok (if ok then .tuple #[(r.map (·.2)).getD z,.bool r.isSome]else (r.map (·.2)).getD z) w:=by
 cases r with
 |none=>simp[Instr.lookup,run_underlying hu,MapKept.run_getObj_map hg,hc,hf,fi hi hz]
 |some q=>simp[Instr.lookup,run_underlying hu,MapKept.run_getObj_map hg,hc,hf]
def yx (ok:Bool) (v:AV) (is:Bool):AV:=if ok then .aO [v,.bool is]else v
def sN (va:Bool) (z:AV) (q:Option (Nat × List AV)):AV:=match q with
 |some q=>mW va q.2
 |none=>z
theorem pm (hT:cU P T) {ok:Bool} (ho:o.op= .lookup t x key ok) (ht:T.d t= .map kt et) (Du:(T.d et).ok=true) (hx:ev F x= .omap n) (hb:M n=some b) (hmp:b.mp=some (k,ka,va,dn))
  (hd:d≤10000) (hl:lq P d kt=some ls) (iz:aK P kt=ka) (hs:bH (ev F key)=true) (hka:(ev F key).iA=ka) (hk:(cells (ev F key)).length=k) (hkk:dv ls (cells (ev F key)) (cells (ev F key))=true)
  (hok:∀r ∈ b.es,dv ls (cells (ev F key)) r=true) (hv:va=false→k<b.sz):
  bB P X o F M (yx ok (sN va (T.z et) (bM (cells (ev F key)) b.es)) (bM (cells (ev F key)) b.es).isSome) [] []:=by
 have sv:x ∈ o.op.operands.toList:=by simp[ho,Op.operands]
 have JO:key ∈ o.op.operands.toList:=by simp[ho,Op.operands]
 obtain⟨D,it,z,hD,hf,_⟩:=hT t (by rw[ht]; simp)
 have gp:=kK ht hf
 subst gp
 obtain⟨De,ie,ze,CK,IP,hie,lf,_,JA,gN⟩:=hT et (TD.dt Du)
 refine aD fun M' N ρ I a w hW hU hN=> ?_
 have r1:=ao hU x sv
 have r2:=ao hU key JO
 rw[hx]at r1
 obtain⟨sl,dR,dZ⟩:=bc (F:=F) x sv (n:=n) (by rw[hx]; simp[AV.names])
 have b9:M' n=some b:=(hN sl dR n dZ).trans hb
 have dw:lens M' n=some (0,b.sz):=by rw[aA]; exact⟨b,b9,by simp[aW.ln,hmp],rfl⟩
 obtain⟨hn,g,cap,hρ,oQ⟩:=jr r1 dw
 obtain⟨en,ck,hg,hR,hC,hsz,_,_⟩:=fC hW b9 hmp hρ
 have Ba:valOf (aK P kt) (aJ (a.eval key))=a.eval key:=by
  rw[iz,←hka,←(c9 r2 hs).1]; exact ew _
 have Bb:=mX r2 hs hkk
 have eJ:=ei hd hl w Bb (p9 hl iz r2 hs hk hR hok)
 have sO:∀em,(Instr.checkKey em 10000 kt (a.eval key)).run P w= .ok () w:=fun em=>by
  have:=db (em:=em) d (10000 - d) kt ls w _ hl Bb
  rw[show d+ (10000 - d)=10000 by omega,Ba]at this; exact this
 rw[Ba]at eJ
 refine⟨if ok then .tuple #[((iN (cells (ev F key)) en.toList b.es 0).map (·.2)).getD ze,.bool (iN (cells (ev F key)) en.toList b.es 0).isSome]else ((iN (cells (ev F key)) en.toList b.es 0).map (·.2)).getD ze,?_,?_⟩
 ·simp only[execOp,ho,oQ,Sem.run_bind,qF hD hg sO eJ hie JA,Result.andThen_ok,Sem.run_pure]
 ·rcases hQ (kc:=cells (ev F key)) (en:=en.toList) (es:=b.es) (i:=0) (by simpa using hR.len)with⟨h1,h2⟩|⟨j,e,r,h1,h2,h3,h4,h5⟩
  ·rw[h1,h2]
   have hz:aL ρ (lens M') I w N (T.z et) ze:=by rw[gN]; exact fh _ _ _ _ _ _
   cases ok with
   |false=>simpa[yx,sN]using hz
   |true=>
    simp only[yx,sN,if_true,Option.map_none,Option.getD_none,Option.isSome_none]
    exact .aO [T.z et,.bool false] [ze,.bool false] rfl fun j hj=>by
     match j,hj with
     |0,_=>simpa using hz
     |1,_=>exact .bool _
  ·rw[h1,h2]
   have hE:=hR.row j e r (by simpa using h3) h4
   have hval:aL ρ (lens M') I w N (mW va (r.drop (cells (ev F key)).length)) e.val:=by rw[hk]; exact hE.val hv
   cases ok with
   |false=>simpa[yx,sN]using hval
   |true=>
    simp only[yx,sN,if_true,Option.map_some,Option.getD_some,Option.isSome_some]
    exact .aO [_,.bool true] [e.val,.bool true] rfl fun j hj=>by
     match j,hj with
     |0,_=>simpa using hval
     |1,_=>exact .bool _
def Gl (kc vs:List AV) (es:List (List AV)):List (List AV):=match bM kc es with
 |some q=>es.set q.1 (kc++vs)
 |none=>es++ [kc++vs]
theorem Gm {ls:List LK} {kc r:List AV} (h1:dv ls kc r=true) (h2:kp kc r=true):∃rs,sI ls kc (r.take kc.length) rs∧rs.all id=true:=by
 obtain⟨rs,h3,h4⟩:=jq h1
 exact⟨rs,h3,by rw[h4]; exact h2⟩
theorem wx {ρ:Place} {L:aT} {I:Nat→Prop} {w:World} {N:Nat→Prop} {a:AV} {kv:Value} {e:MapEntry} {r:List AV} {sz:Nat} (h:aL ρ L I w N a kv) (hs:bH a=true) (hka:a.iA=ka) (hk:(cells a).length=k)
  (hE:oi ρ L I w N k ka va sz e.key e.val r) (hok:dv ls (cells a) r=true) (hB:kp (cells a) r=true):e.key=kv:=by
 obtain⟨p1,p2,p3,p4⟩:=c9 h hs
 obtain⟨rs,h1,h2⟩:=Gm hok hB
 have hle:k≤r.length:=by have:=hE.rl; have:=hE.fl; omega
 have h4:=h1.val p2 (us:=aJ e.key) (by rw[List.length_take,hE.kl]; omega) p4 fun j hj=>by
  have hj':j<k:=by rw[List.length_take]at hj; omega
  have:=(hE.cell j (by have:=hE.fl; omega)).2
  have e1:(aJ e.key++aJ e.val).getD j default=(aJ e.key).getD j default:=by rw[List.getD_eq_getElem?_getD,List.getElem?_append_left (by rw[hE.kl]; exact hj'),List.getD_eq_getElem?_getD]
  have e2:(r.take (cells a).length).getD j .bad=r.getD j .bad:=by simp only[List.getD_eq_getElem?_getD,List.getElem?_take]; rw[if_pos (by omega)]
  rw[e1]at this
  rw[e2]; exact this
 have:=h4.eq h2
 rw[←ew e.key,hE.ka,this,←hka,←p1,ew]
theorem qG (hT:cU P T) {val:Operand} (ho:o.op= .mapUpdate t x key val∨o.op= .insert t x key val) (ht:T.d t= .map kt et) (hx:ev F x= .omap n) (hb:M n=some b) (hmp:b.mp=some (k,ka,va,dn))
  (hd:d≤10000) (hl:lq P d kt=some ls) (iz:aK P kt=ka) (hs:bH (ev F key)=true) (hka:(ev F key).iA=ka) (hk:(cells (ev F key)).length=k) (hkk:dv ls (cells (ev F key)) (cells (ev F key))=true)
  (hok:∀r ∈ b.es,dv ls (cells (ev F key)) r=true) (Oa:bH (ev F val)=true) (FP:(ev F val).iA=va) (hvl:k+ (cells (ev F val)).length=b.sz) (hle:b.es.length+1≤gu):
  bB P X o F M (.aO []) [(n,⟨b.ty,b.sz,Gl (cells (ev F key)) (cells (ev F val)) b.es,some (k,ka,va,dn.up)⟩)] []∧n ∈ (ev F x).names:=by
 have sv:x ∈ o.op.operands.toList:=by rcases ho with ho|ho<;>simp[ho,Op.operands]
 have JO:key ∈ o.op.operands.toList:=by rcases ho with ho|ho<;>simp[ho,Op.operands]
 have U7:val ∈ o.op.operands.toList:=by rcases ho with ho|ho<;>simp[ho,Op.operands]
 obtain⟨D,it,z,hD,hf,_⟩:=hT t (by rw[ht]; simp)
 have gp:=kK ht hf
 subst gp
 obtain⟨sl,dR,dZ⟩:=bc (F:=F) x sv (n:=n) (by rw[hx]; simp[AV.names])
 refine⟨⟨fun p hp=> .inr ⟨sl,dR,by simp at hp; rw[hp]; exact dZ⟩,fun M' N ρ I a w hW hU hN _=> ?_⟩,by rw[hx]; simp[AV.names]⟩
 have r1:=ao hU x sv
 have r2:=ao hU key JO
 have r3:=ao hU val U7
 rw[hx]at r1
 have b9:M' n=some b:=(hN sl dR n dZ).trans hb
 have dw:lens M' n=some (0,b.sz):=by rw[aA]; exact⟨b,b9,by simp[aW.ln,hmp],rfl⟩
 obtain⟨hn,g,cap,hρ,oQ⟩:=jr r1 dw
 obtain⟨en,ck,hg,hR,hC,hsz,_,_⟩:=fC hW b9 hmp hρ
 have Ba:valOf (aK P kt) (aJ (a.eval key))=a.eval key:=by
  rw[iz,←hka,←(c9 r2 hs).1]; exact ew _
 have Bb:=mX r2 hs hkk
 have eJ:=ei hd hl w Bb (p9 hl iz r2 hs hk hR hok)
 have sO:∀em,(Instr.checkKey em 10000 kt (a.eval key)).run P w= .ok () w:=fun em=>by
  have:=db (em:=em) d (10000 - d) kt ls w _ hl Bb
  rw[show d+ (10000 - d)=10000 by omega,Ba]at this; exact this
 have hst:(Instr.keyThatStays (a.eval key) (a.eval key)).run P w= .ok (a.eval key) w:=by
  have:=mV (P:=P) (ag:=aK P kt) Bb (fun h=>iM hl h) w
  rwa[Ba]at this
 rw[Ba]at eJ
 have IQ:∀w',(Instr.mapUpdate t (.map (some g)) (a.eval key) (a.eval val)).run P w= .ok () w'→(execOp a.eval o).run P w= .ok .skip w':=fun w' h=>by
  rcases ho with ho|ho<;>simp[execOp,ho,oQ,h]
 have hmk:=oi.mk' r2 hs r3 Oa hk hvl hka FP
 unfold bJ Gl
 rcases hQ (kc:=cells (ev F key)) (en:=en.toList) (es:=b.es) (i:=0) (by simpa using hR.len)with⟨h1,h2⟩|⟨j,e,r,h1,h2,h3,h4,h5⟩
 ·rw[h2]at eJ
  rw[h1,IQ {w with heap:=w.heap.setIfInBounds g (.map (en.push ⟨a.eval key,a.eval val,ck⟩) (ck+1))} (by
   simp[Instr.mapUpdate,run_underlying hD,MapKept.run_getObj_map hg,sO,eJ,MapKept.run_setObj_map _ hg])]
  exact jM hW b9 hmp hρ (hR.push hmk ck) hC.push (by simp only[List.length_append,List.length_singleton]; simp only[gu]at hle; simp only[maxLen]; omega) (.aO [] [] rfl (fun j hj=>by simp at hj)) (fun _ _ _ h=>(Dn.CR h).elim)
 ·rw[h2,Nat.zero_add]at eJ
  have JP:en[j]? =some e:=by simpa using h3
  have hE:=hR.row j e r JP h4
  have hkey:=wx r2 hs hka hk hE (hok r (List.mem_of_getElem? h4)) h5
  rw[h1,IQ {w with heap:=w.heap.setIfInBounds g (.map (en.modify j fun e=> {e with key:=a.eval key,val:=a.eval val}) ck)} (by
   simp[Instr.mapUpdate,run_underlying hD,MapKept.run_getObj_map hg,sO,eJ,JP,hkey,hst,MapKept.run_setObj_map _ hg])]
  exact jM hW b9 hmp hρ (hR.set (f:=fun e=> {e with key:=a.eval key,val:=a.eval val}) fun _ _=>hmk) (hC.up.modify (f:=fun e=> {e with key:=a.eval key,val:=a.eval val}) (fun _=>rfl) j) (by rw[List.length_set]; simp only[gu]at hle; simp only[maxLen]; omega) (.aO [] [] rfl (fun j hj=>by simp at hj)) (fun _ _ _ h=>(Dn.CR h).elim)
def yy (kc zs:List AV) (es:List (List AV)):List (List AV):=match bM kc es with
 |some _=>es
 |none=>es++ [kc++zs]
def uT (kc:List AV) (es:List (List AV)):Nat:=match bM kc es with
 |some q=>q.1
 |none=>es.length
theorem lU (hT:cU P T) (ho:o.op= .mapEntry t x key) (ht:T.d t= .map kt et) (Du:(T.d et).ok=true) (hx:ev F x= .omap n) (hb:M n=some b) (hmp:b.mp=some (k,ka,va,.b true))
  (hd:d≤10000) (hl:lq P d kt=some ls) (iz:aK P kt=ka) (hs:bH (ev F key)=true) (hka:(ev F key).iA=ka) (hk:(cells (ev F key)).length=k) (hkk:dv ls (cells (ev F key)) (cells (ev F key))=true)
  (hok:(∀r ∈ b.es,r.length=b.sz)→∀r ∈ b.es,dv ls (cells (ev F key)) r=true) (Oa:bH (T.z et)=true) (FP:(T.z et).iA=va) (hvl:k+ (cells (T.z et)).length=b.sz) (hv:va=false→k<b.sz) (hle:b.es.length+1≤gu):
  bB P X o F M (.aO [sN va (T.z et) (bM (cells (ev F key)) b.es),.int .i64 (uT (cells (ev F key)) b.es)]) [(n,⟨b.ty,b.sz,yy (cells (ev F key)) (cells (T.z et)) b.es,some (k,ka,va,.b true)⟩)] []∧n ∈ (ev F x).names:=by
 have sv:x ∈ o.op.operands.toList:=by simp[ho,Op.operands]
 have JO:key ∈ o.op.operands.toList:=by simp[ho,Op.operands]
 obtain⟨D,it,z,hD,hf,_⟩:=hT t (by rw[ht]; simp)
 have gp:=kK ht hf
 subst gp
 obtain⟨De,ie,ze,CK,IP,hie,lf,_,JA,gN⟩:=hT et (TD.dt Du)
 obtain⟨sl,dR,dZ⟩:=bc (F:=F) x sv (n:=n) (by rw[hx]; simp[AV.names])
 refine⟨⟨fun p hp=> .inr ⟨sl,dR,by simp at hp; rw[hp]; exact dZ⟩,fun M' N ρ I a w hW hU hN _=> ?_⟩,by rw[hx]; simp[AV.names]⟩
 have r1:=ao hU x sv
 have r2:=ao hU key JO
 rw[hx]at r1
 have b9:M' n=some b:=(hN sl dR n dZ).trans hb
 have dw:lens M' n=some (0,b.sz):=by rw[aA]; exact⟨b,b9,by simp[aW.ln,hmp],rfl⟩
 obtain⟨hn,g,cap,hρ,oQ⟩:=jr r1 dw
 obtain⟨en,ck,hg,hR,hC,hsz,_,CM⟩:=fC hW b9 hmp hρ
 have hok:=hok (hW.aP n b b9).even
 have Ba:valOf (aK P kt) (aJ (a.eval key))=a.eval key:=by
  rw[iz,←hka,←(c9 r2 hs).1]; exact ew _
 have Bb:=mX r2 hs hkk
 have eJ:=ei hd hl w Bb (p9 hl iz r2 hs hk hR hok)
 have sO:∀em,(Instr.checkKey em 10000 kt (a.eval key)).run P w= .ok () w:=fun em=>by
  have:=db (em:=em) d (10000 - d) kt ls w _ hl Bb
  rw[show d+ (10000 - d)=10000 by omega,Ba]at this; exact this
 have hst:(Instr.keyThatStays (a.eval key) (a.eval key)).run P w= .ok (a.eval key) w:=by
  have:=mV (P:=P) (ag:=aK P kt) Bb (fun h=>iM hl h) w
  rwa[Ba]at this
 rw[Ba]at eJ
 have ZX:aL ρ (lens M') I w N (T.z et) ze:=by rw[gN]; exact fh _ _ _ _ _ _
 obtain⟨TS,zO⟩:=hC.den rfl
 have two:∀ {a1 a2:AV} {v1 v2:Value},aL ρ (lens M') I w N a1 v1→aL ρ (lens M') I w N a2 v2→aL ρ (lens M') I w N (.aO [a1,a2]) (.tuple #[v1,v2]):=fun {a1 a2 v1 v2} q1 q2=> .aO [a1,a2] [v1,v2] rfl fun j hj=>by
  match j,hj with
  |0,_=>simpa using q1
  |1,_=>simpa using q2
 unfold bJ yy uT
 rcases hQ (kc:=cells (ev F key)) (en:=en.toList) (es:=b.es) (i:=0) (by simpa using hR.len)with⟨h1,h2⟩|⟨j,e,r,h1,h2,h3,h4,h5⟩
 ·rw[h2]at eJ
  have hrun:(execOp a.eval o).run P w= .ok (.value (.tuple #[ze,goInt ck])) {w with heap:=w.heap.setIfInBounds g (.map (en.push ⟨a.eval key,ze,ck⟩) (ck+1))}:=by
   simp[execOp,ho,oQ,Instr.mapEntry,run_underlying hD,MapKept.run_getObj_map hg,sO,eJ,fi hie JA,MapKept.run_setObj_map _ hg]
  rw[h1,hrun]
  refine jM hW b9 hmp hρ (hR.push (oi.mk' r2 hs ZX Oa hk hvl hka FP) ck) hC.push (by simp only[List.length_append,List.length_singleton]; simp only[gu]at hle; simp only[maxLen]; omega) (two ZX ?_) (fun _ _ _ h=>by cases h)
  rw[TS,hR.len]; exact .int _ _
 ·rw[h2,Nat.zero_add]at eJ
  have JP:en[j]? =some e:=by simpa using h3
  have hE:=hR.row j e r JP h4
  have hkey:=wx r2 hs hka hk hE (hok r (List.mem_of_getElem? h4)) h5
  have hrun:(execOp a.eval o).run P w= .ok (.value (.tuple #[e.val,goInt e.born])) {w with heap:=w.heap.setIfInBounds g (.map (en.modify j fun e=> {e with key:=a.eval key}) ck)}:=by
   simp[execOp,ho,oQ,Instr.mapEntry,run_underlying hD,MapKept.run_getObj_map hg,sO,eJ,JP,hkey,hst,MapKept.run_setObj_map _ hg]
  rw[h1,hrun]
  have Nu:lE ρ (lens M') I w N k ka va b.sz b.es (en.modify j fun e=> {e with key:=a.eval key}):=by
   have:=hR.set (i:=j) (f:=fun e=> {e with key:=a.eval key}) (r:=r) (fun e0 ZY=>by rw[JP]at ZY; cases ZY; rw[←hkey]; exact hE)
   have hlt:=(List.getElem?_eq_some_iff.1 h4)
   rwa[←hlt.2,List.set_getElem_self]at this
  refine jM hW b9 hmp hρ Nu (hC.modify (f:=fun e=> {e with key:=a.eval key}) (fun _=>rfl) j) CM (two ?_ ?_) (fun _ _ _ h=>by cases h)
  ·simp only[sN]
   rw[hk]; exact hE.val hv
  ·have:=zO j e JP
   rw[this]; exact .int _ _
theorem pM {stamp val:Operand} {q:IntKind} {j:Nat} {r:List AV} (ho:o.op= .entryStore t x stamp val) (hx:ev F x= .omap n) (hb:M n=some b) (hmp:b.mp=some (k,ka,va,.b true))
  (hst:ev F stamp= .int q j) (hr:b.es[j]? =some r) (Oa:bH (ev F val)=true) (FP:(ev F val).iA=va) (hvl:k+ (cells (ev F val)).length=b.sz):
  bB P X o F M (.aO []) [(n,⟨b.ty,b.sz,b.es.set j (r.take k++cells (ev F val)),some (k,ka,va,.b true)⟩)] []∧n ∈ (ev F x).names:=by
 have sv:x ∈ o.op.operands.toList:=by simp[ho,Op.operands]
 have hso:stamp ∈ o.op.operands.toList:=by simp[ho,Op.operands]
 have U7:val ∈ o.op.operands.toList:=by simp[ho,Op.operands]
 obtain⟨sl,dR,dZ⟩:=bc (F:=F) x sv (n:=n) (by rw[hx]; simp[AV.names])
 refine⟨⟨fun p hp=> .inr ⟨sl,dR,by simp at hp; rw[hp]; exact dZ⟩,fun M' N ρ I a w hW hU hN _=> ?_⟩,by rw[hx]; simp[AV.names]⟩
 have r1:=ao hU x sv
 have r2:=bu (hst ▸ ao hU stamp hso)
 have r3:=ao hU val U7
 rw[hx]at r1
 have b9:M' n=some b:=(hN sl dR n dZ).trans hb
 have dw:lens M' n=some (0,b.sz):=by rw[aA]; exact⟨b,b9,by simp[aW.ln,hmp],rfl⟩
 obtain⟨hn,g,cap,hρ,oQ⟩:=jr r1 dw
 obtain⟨en,ck,hg,hR,hC,hsz,_,CM⟩:=fC hW b9 hmp hρ
 obtain⟨TS,zO⟩:=hC.den rfl
 have hj:j<b.es.length:=(List.getElem?_eq_some_iff.1 hr).1
 have ZZ:j<en.size:=by rw[hR.len]; exact hj
 have hidx:en.findIdx? (fun e=>(e.born:Int)==(j:Int))=some j:=by
  rw[Array.findIdx?_eq_some_iff_getElem]
  refine⟨ZZ,?_,fun i hi=> ?_⟩
  ·have:=zO j en[j] (Array.getElem?_eq_getElem ZZ)
   simp[this]
  ·have:=zO i (en[i]'(by omega)) (Array.getElem?_eq_getElem (by omega))
   simp only[this,Bool.not_eq_true,beq_eq_false_iff_ne,ne_eq]; omega
 have hrun:(execOp a.eval o).run P w= .ok .skip {w with heap:=w.heap.setIfInBounds g (.map (en.modify j fun e=> {e with val:=a.eval val}) ck)}:=by
  simp[execOp,ho,oQ,r2,Instr.entryStore,MapKept.run_getObj_map hg,asInt,asIntOf,hidx,MapKept.run_setObj_map _ hg]
 unfold bJ
 rw[hrun]
 refine jM hW b9 hmp hρ (hR.set (i:=j) (f:=fun e=> {e with val:=a.eval val}) fun e he=> ?_) (hC.modify (f:=fun e=> {e with val:=a.eval val}) (fun _=>rfl) j) (by rw[List.length_set]; exact CM) (.aO [] [] rfl (fun j hj=>by simp at hj)) (fun _ _ _ h=>by cases h)
 have hE:=hR.row j e r he hr
 obtain⟨q1,q2,q3,q4⟩:=c9 r3 Oa
 have hle:k≤r.length:=by have:=hE.rl; have:=hE.fl; omega
 have TU:(r.take k).length=k:=by rw[List.length_take]; omega
 refine⟨by rw[List.length_append,TU]; omega,hE.kl,by show k+ (aJ (a.eval val)).length=_; omega,hE.ka,q1.trans FP,fun p hp=> ?_⟩
 show ((aJ e.key++aJ (a.eval val)).getD p default).oneCell'=true∧aL ρ (lens M') I w N ((r.take k++cells (ev F val)).getD p .bad) ((aJ e.key++aJ (a.eval val)).getD p default)
 by_cases hpk:p<k
 ·have:=hE.cell p hp
  have e0:(aJ e.key++aJ e.val).getD p default=(aJ e.key).getD p default:=by rw[List.getD_eq_getElem?_getD,List.getElem?_append_left (by rw[hE.kl]; exact hpk),List.getD_eq_getElem?_getD]
  have e1:(aJ e.key++aJ (a.eval val)).getD p default=(aJ e.key).getD p default:=by rw[List.getD_eq_getElem?_getD,List.getElem?_append_left (by rw[hE.kl]; exact hpk),List.getD_eq_getElem?_getD]
  have e2:(r.take k++cells (ev F val)).getD p .bad=r.getD p .bad:=by
   rw[List.getD_eq_getElem?_getD,List.getElem?_append_left (by omega),List.getElem?_take,if_pos hpk,List.getD_eq_getElem?_getD]
  rw[e0]at this
  rw[e1,e2]; exact this
 ·have e1:(aJ e.key++aJ (a.eval val)).getD p default=(aJ (a.eval val)).getD (p - k) default:=by rw[List.getD_eq_getElem?_getD,List.getElem?_append_right (by rw[hE.kl]; omega),List.getD_eq_getElem?_getD,hE.kl]
  have e2:(r.take k++cells (ev F val)).getD p .bad=(cells (ev F val)).getD (p - k) .bad:=by rw[List.getD_eq_getElem?_getD,List.getElem?_append_right (by omega),List.getD_eq_getElem?_getD,TU]
  rw[e1,e2]
  refine⟨?_,q4 (p - k) (by omega)⟩
  rw[List.getD_eq_getElem?_getD,List.getElem?_eq_getElem (by omega)]
  exact q3 _ (List.getElem_mem _)
end
end Go.AM
namespace Go.AM
open Go.RowKit Go.MapKept
variable {P:Program} {T:TT} {X:bV} {o:Oper} {F:aR} {M:bf}
theorem mK.ob {av:AV} (h:mK P X o F M av):bB P X o F M av [] []:=
 ⟨fun p hp=>by simp at hp,fun M' N ρ I a w W hr hM _=>h M' N ρ I a w W hr (fun s hs n hn=>by rw[hM s hs n hn])⟩
theorem yz:∀ {ls:List LK} {kc r:List AV},dv ls kc kc=true→jh kc=true→jh r=true→kc.length≤r.length→dv ls kc r=true
 |[],[],_,_,_,_,_=>by simp[dv]
 | .i::l,.int k x::a,r,h,g,g2,hl=>by
   cases k<;>simp only[jh,Bool.false_eq_true]at g
   cases r with
   |nil=>simp at hl
   |cons c s=>
    cases c with
    |int k2 y=>
     cases k2<;>simp only[jh,Bool.false_eq_true]at g2
     simp only[dv,Bool.and_eq_true]at h ⊢
     exact⟨rfl,yz h.2 g g2 (by simpa using hl)⟩
    |_=>simp[jh]at g2
 | .i::l,[],_,h,_,_,_=>by simp[dv]at h
 | .b::l,[],_,h,_,_,_=>by simp[dv]at h
 | .s::l,[],_,h,_,_,_=>by simp[dv]at h
 |[],_::_,_,h,_,_,_=>by simp[dv]at h
 | .b::l,c::a,_,h,g,_,_=>by cases c<;>simp[dv,jh]at h g
 | .s::l,c::a,_,h,g,_,_=>by cases c<;>simp[dv,jh]at h g
 | .i::l,.bool _::a,_,_,g,_,_=>by simp[jh]at g
 | .i::l,.str _::a,_,_,g,_,_=>by simp[jh]at g
 | .i::l,.bG::a,_,_,g,_,_=>by simp[jh]at g
 | .i::l,.ap::a,_,_,g,_,_=>by simp[jh]at g
 | .i::l,.ar::a,_,_,g,_,_=>by simp[jh]at g
 | .i::l,.dy::a,_,_,g,_,_=>by simp[jh]at g
 | .i::l,.cb::a,_,_,g,_,_=>by simp[jh]at g
 | .i::l,.loc .. ::a,_,_,g,_,_=>by simp[jh]at g
 | .i::l,.ba .. ::a,_,_,g,_,_=>by simp[jh]at g
 | .i::l,.dE .. ::a,_,_,g,_,_=>by simp[jh]at g
 | .i::l,.aH .. ::a,_,_,g,_,_=>by simp[jh]at g
 | .i::l,.aY .. ::a,_,_,g,_,_=>by simp[jh]at g
 | .i::l,.omap .. ::a,_,_,g,_,_=>by simp[jh]at g
 | .i::l,.bL .. ::a,_,_,g,_,_=>by simp[jh]at g
 | .i::l,.agg .. ::a,_,_,g,_,_=>by simp[jh]at g
 | .i::l,.aO .. ::a,_,_,g,_,_=>by simp[jh]at g
 | .i::l,.bad::a,_,_,g,_,_=>by simp[jh]at g
theorem Bc (q:Option (Nat × List AV)):sN false (.int .i64 0) q=F3 q:=by cases q<;>rfl
section
variable {t kt et n d k:Nat} {ka:Bool} {dn:Dn} {b:aW} {ls:List LK} {x key:Operand}
theorem Dv (hT:cU P T) (ho:o.op= .lookup t x key false) (ht:T.d t= .map kt et) (Du:(T.d et).ok=true) (hz:T.z et= .int .i64 0) (hx:ev F x= .omap n) (hb:M n=some b) (hmp:b.mp=some (k,ka,false,dn))
  (hd:d≤10000) (hl:lq P d kt=some ls) (iz:aK P kt=ka) (hs:bH (ev F key)=true) (hka:(ev F key).iA=ka) (hk:(cells (ev F key)).length=k) (hkk:dv ls (cells (ev F key)) (cells (ev F key))=true)
  (hg:jh (cells (ev F key))=true) (Ob:∀r ∈ b.es,jh r=true) (hsz:b.sz=k+1):
  mK P X o F M (F3 (bM (cells (ev F key)) b.es)):=by
 intro M' N ρ I a w hW hU hV
 have sv:x ∈ o.op.operands.toList:=by simp[ho,Op.operands]
 obtain⟨sl,dR,dZ⟩:=bc (F:=F) x sv (n:=n) (by rw[hx]; simp[AV.names])
 have hv:=hV sl dR n dZ
 rw[hb]at hv
 cases hb':M' n with
 |none=>rw[hb']at hv; simp[Vw]at hv
 |some b'=>
  rw[hb']at hv
  simp only[Vw,Option.map_some,Option.some.injEq,Prod.mk.injEq]at hv
  obtain⟨v1,v2,v3,v4⟩:=hv
  have U8:∀r ∈ b'.es,jh r=true:=v4.symm ▸ Ob
  have Z0:=congrFun v3 (cells (ev F key))
  rw[v1,if_pos (by omega),if_pos (by omega)]at Z0
  have hok:∀r ∈ b'.es,dv ls (cells (ev F key)) r=true:=fun r hr=>yz hkk hg (U8 r hr) (by
   have:=(hW.aP n b' hb').even r hr
   omega)
  have D:=pm (X:=X) (M:=M') hT ho ht Du hx hb' (v2.trans hmp) hd hl iz hs hka hk hkk hok (fun _=>by omega)
  simp only[yx,Bool.false_eq_true,if_false,hz,Bc]at D
  rw[Z0]at D
  exact D.2 M' N ρ I a w hW hU (fun _ _ _ _=>rfl) (fun _ h=>by simp at h)
theorem tw {kc r:List AV}:∀ {es:List (List AV)},bM kc (es++ [r])=match bM kc es with
  |some q=>some q
  |none=>if kp kc r then some (es.length,r.drop kc.length)else none
 |[]=>by simp only[List.nil_append,bM]; cases kp kc r<;>rfl
 |e::es=>by
  simp only[List.cons_append,bM]
  by_cases h:kp kc e=true
  ·simp[h]
  ·simp only[if_neg h]
   rw[tw (es:=es)]
   cases bM kc es with
   |some q=>rfl
   |none=>by_cases h2:kp kc r=true<;>simp[h2]
theorem zP:∀ {a b:List AV},jh (a++b)=(jh a&&jh b)
 |[],b=>by simp[jh]
 |c::a,b=>by
  cases c<;>simp only[List.cons_append,jh,Bool.false_and]
  rename_i k y
  cases k<;>simp only[jh,zP,Bool.false_and]
theorem Gn {kc:List AV} (hmp:b.mp=some (k,ka,false,.b true)) (hk:kc.length=k) (hsz:b.sz=k+1) (hg:jh kc=true):Vw (some b)=Vw (some ⟨b.ty,b.sz,yy kc [.int .i64 0] b.es,some (k,ka,false,.b true)⟩):=by
 simp only[Vw,Option.map_some,Option.some.injEq,Prod.mk.injEq]
 refine⟨trivial,hmp,?_,?_⟩
 ·funext U9
  split
  ·rename_i hl
   unfold yy
   cases hm:bM kc b.es with
   |some q=>rfl
   |none=>
    simp only
    rw[tw]
    cases hm':bM U9 b.es with
    |some q=>rfl
    |none=>
     simp only
     split
     ·have:(kc++ [AV.int .i64 0]).drop U9.length=[.int .i64 0]:=by
       rw[show U9.length=kc.length by omega,List.drop_left]
      rw[this]; rfl
     ·rfl
  ·rfl
 ·apply propext
  unfold yy
  cases bM kc b.es with
  |some q=>exact Iff.rfl
  |none=>
   simp only[List.mem_append,List.mem_singleton]
   exact⟨fun h r hr=>hr.elim (h r) (fun e=>by rw[e,zP,hg]; rfl),fun h r hr=>h r (.inl hr)⟩
end
end Go.AM
namespace Go.AM
open Go.RowKit
structure Env where
 P:Program
 T:TT
 ok:PT P T
 ft:Nat→Nat
 ty:Nat→Nat
inductive Sc where
 |t (n:Nat)
 |k (v:AV)
 |f (g:Nat)
inductive tz where
 |mv (x:Sc)
 |pick (c a b:Sc)
 |alloc (ty:Nat) (z:List AV)
 |box (ty:Nat) (x:Sc)
 |build (z:List AV) (ps:List (Nat × Nat × Sc))
 |aI (ty sz len:Nat) (z:List AV) (ps:List (Nat × Sc))
 |load (ag:Bool) (n:Nat) (x:Sc)
 |store (n:Nat) (x v:Sc)
 |bv (x:Sc)
 |bin (op:BinOp) (x y:Sc)
 |JQ (neg:Bool) (x y:Sc)
 |Gp (neg:Bool) (x:Sc)
 |yA (neg:Bool) (x:Sc)
 |Gq (neg:Bool) (x:Sc)
 |Z8 (m sz:Nat) (x:Sc)
 |IR (ty sz:Nat) (x:Sc)
 |ol (neg:Bool) (ls:List LK) (x y:Sc)
 |Z9 (op:BinOp) (x y:Sc)
 |un (op:UnOp) (x:Sc)
 |conv (k:IntKind) (x:Sc)
 |Oc (x:Sc)
 |Z' (ty:Nat) (x:Sc)
 |b2s (x:Sc)
 |Ny (g:Nat) (cs:List Sc)
 |aC (off:Nat) (x:Sc)
 |Dw (ag:Bool) (off n:Nat) (x:Sc)
 |jN (sz:Nat) (x i:Sc)
 |bt (m sz:Nat) (x i:Sc)
 |JR (ag:Bool) (m sz:Nat) (x i:Sc)
 |Od (x i:Sc)
 |sP (ty sz:Nat) (x:Sc) (lo hi mx:Option Sc)
 |JS (m sz:Nat) (x:Sc) (lo hi mx:Option Sc)
 |Oe (x:Sc) (lo hi:Option Sc)
 |ext (x:Sc) (i:Nat)
 |call (g:Nat) (as:List Sc)
 |gC (f:Sc) (as:List Sc)
 |tA (f:Sc) (as:List Sc)
 |dh (f:Sc) (as:List Sc)
 |po (g:Nat) (as:List Sc)
 |JT (n:Nat)
 |gh (x:Sc)
 |JU (x:Sc)
 |mm (mx:Bool) (as:List Sc)
 |app (ty sz:Nat) (s x:Sc)
 |Gs (ty:Nat) (s x:Sc)
 |Gt (ty sz:Nat) (z:List AV) (s x:Sc)
 |mks (ty sz:Nat) (z:List AV) (l c:Sc)
 |copy (sz:Nat) (x y:Sc)
 |TV (k:Nat) (ka va:Bool) (sz:Nat)
 |Gu (ls:List LK) (ag va:Bool) (z:AV) (ok:Bool) (x key:Sc)
 |JV (ls:List LK) (ag va:Bool) (x key v:Sc)
 |U' (ls:List LK) (ag va:Bool) (z:AV) (x key:Sc)
 |Va (va:Bool) (x st v:Sc)
 |JW (ls:List LK) (ag:Bool) (x key:Sc)
 |bX (ls:List LK) (ag:Bool) (x key:Sc)
 |IS (ls:List LK) (ag:Bool) (x key:Sc)
 |JX (x:Sc)
 |Nz (x:Sc)
 |F9 (x:Sc)
structure bY where
 d:Option Nat
 g:Option (Nat × Bool)
 o:tz
inductive cr where
 |bad
 |skip
 |ret
 |exit (id:Nat)
 |ops (l:List bY)
 |draw (ms:List Nat) (us:List (List Nat)) (l:List bY)
 |IT (ms:List Nat) (us:List (List Nat)) (l l2:List bY)
 |seq (a b:cr)
 |cond (c:Sc) (a b:cr)
 |block (id:Nat) (c:cr)
 |loop (c:cr)
 |qH (ls:List Nat) (c:cr)
 |scope (c:cr)
 |uU (f:Sc) (ps:List Nat) (Vb body:cr)
inductive uV where
 |t (n:Nat)
 |cell (a:Nat) (ag:Bool) (n:Nat)
structure bo where
 np:Nat
 rs:List uV
 body:cr
inductive bx where
 |var (ty:Nat) (row:List AV)
 |arr (ty sz:Nat) (es:List (List AV))
 |map (k:Nat) (ka va:Bool) (dn:Dn) (sz:Nat) (es:List (List AV))
def bx.aP:bx→aW
 | .var ty row=>⟨ty,row.length,[row],none⟩
 | .arr ty sz es=>⟨ty,sz,es,none⟩
 | .map k ka va dn sz es=>⟨0,sz,es,some (k,ka,va,dn)⟩
abbrev af:=List (Nat × bx)
def ax:af→Mem
 |[]=>[]
 |(n,b)::r=>(n,b.aP)::ax r
structure pN (b:Bool) (X Y:Prop):Prop where
 t:b=true→X
 f:b=false→Y
structure FQ (k:IntKind) (n:Int) (K:Int→Prop):Prop where
 h:K (wr k n)
structure Of (es:List (List AV)) (i:Nat) (K:List AV→Prop):Prop where
 h:K (es.getD i [])
structure TW (i:Int) (m:Nat) (K:Nat→Prop):Prop where
 h:(0≤i∧i< (m:Int))∧K i.toNat
theorem pN.sound {b:Bool} {X Y:Prop} (h:pN b X Y):(b=true∧X)∨(b=false∧Y):=by
 cases b
 ·exact .inr ⟨rfl,h.f rfl⟩
 ·exact .inl ⟨rfl,h.t rfl⟩
abbrev KS:=aR→af→Nat→Prop
def lV:aR→Nat→(AV→Prop)→Prop
 |[],_,K=>K .bad
 |(j,v)::r,i,K=>bif Nat.beq i j then K v else lV r i K
theorem ce (a b:Nat):Nat.beq a b=(a==b):=by
 by_cases h:a=b
 ·subst h; simp
 ·have:(a==b)=false:=by simpa using h
  rw[this]; exact Bool.eq_false_iff.2 (fun e=>h (Nat.eq_of_beq_eq_true e))
theorem gi:∀ (F:aR) (i:Nat) (K:AV→Prop),lV F i K=K (look F i)
 |[],_,_=>rfl
 |(j,v)::r,i,K=>by
  simp only[lV,look,ce]
  cases i==j
  ·exact gi r i K
  ·rfl
def Env.cl (R:Env) (g:Nat) (cs:List AV):AV:= .bL (.fn (R.ft g)) cs
def dd (R:Env) (F:aR):Sc→(AV→Prop)→Prop
 | .t n,K=>lV F n K
 | .k v,K=>K v
 | .f g,K=>K (R.cl g [])
def lr (R:Env) (F:aR):Sc→AV
 | .t n=>look F n
 | .k v=>v
 | .f g=>R.cl g []
theorem aF (R:Env) (F:aR) (x:Sc) (K:AV→Prop):dd R F x K=K (lr R F x):=by
 cases x
 ·exact gi _ _ _
 ·rfl
 ·rfl
def qI (R:Env) (F:aR):List Sc→(List AV→Prop)→Prop
 |[],K=>K []
 |x::r,K=>dd R F x fun v=>qI R F r fun l=>K (v::l)
theorem fD (R:Env) (F:aR):∀ (l:List Sc) (K:List AV→Prop),qI R F l K=K (l.map (lr R F))
 |[],_=>rfl
 |x::r,K=>by simp only[qI,aF,fD R F r,List.map_cons]
def yB (R:Env) (F:aR):Option Sc→(Option AV→Prop)→Prop
 |none,K=>K none
 |some x,K=>dd R F x fun v=>K (some v)
theorem zQ (R:Env) (F:aR) (x:Option Sc) (K:Option AV→Prop):yB R F x K=K (x.map (lr R F)):=by
 cases x
 ·rfl
 ·simp only[yB,aF,Option.map_some]
def aG (d:Option Nat) (v:AV) (F:aR) (M:af) (nx:Nat) (K:KS):Prop:=
 match d with
 |none=>K F M nx
 |some i=>K ((i,v)::F) M nx
def zR (F:aR):List Nat→(aR→Prop)→Prop
 |[],K=>K []
 |i::r,K=>lV F i fun v=>zR F r fun F'=>K ((i,v)::F')
theorem qJ {F:aR}:∀ {l:List Nat} {K:aR→Prop},zR F l K→∃F',(∀i,look F' i=look F i∨look F' i= .bad)∧K F'
 |[],K,h=>⟨[],fun _=> .inr rfl,h⟩
 |i::r,K,h=>by
  simp only[zR,gi]at h
  obtain⟨F',h1,h2⟩:=qJ (l:=r) (K:=fun F'=>K ((i,look F i)::F')) h
  refine⟨(i,look F i)::F',fun j=> ?_,h2⟩
  by_cases e:j=i
  ·subst e; left; simp[look]
  ·have:(j==i)=false:=by simpa using e
   simp only[look,this,cond_false]
   exact h1 j
def cH:af→Nat→(bx→Prop)→Prop
 |[],_,_=>False
 |(m,b)::r,n,K=>bif Nat.beq n m then K b else cH r n K
theorem aM:∀ {M:af} {n:Nat} {K:bx→Prop},cH M n K→∃b,aa (ax M) n=some b.aP∧K b
 |[],_,_,h=>h.elim
 |(m,b)::r,n,K,h=>by
  simp only[cH,ce]at h
  simp only[ax,aa]
  cases hb:n==m with
  |true=>rw[hb]at h; exact⟨b,rfl,h⟩
  |false=>rw[hb]at h; exact aM (M:=r) h
def gj:af→Nat→bx→(af→Prop)→Prop
 |[],n,b,K=>K [(n,b)]
 |(m,c)::r,n,b,K=>bif Nat.beq n m then K ((m,b)::r)else gj r n b fun r'=>K ((m,c)::r')
theorem bU:∀ {M:af} {n:Nat} {b:bx} {K:af→Prop},gj M n b K→∃M',ax M'=fK (ax M) n b.aP∧K M'
 |[],n,b,K,h=>⟨_,rfl,h⟩
 |(m,c)::r,n,b,K,h=>by
  simp only[gj,ce]at h
  simp only[ax,fK]
  cases hb:n==m with
  |true=>rw[hb]at h; exact⟨_,rfl,h⟩
  |false=>
   rw[hb]at h
   obtain⟨M',h1,h2⟩:=bU (M:=r) (K:=fun r'=>K ((m,c)::r')) h
   exact⟨_,by simp only[ax,h1]; rfl,h2⟩
theorem p' (M:af) (n:Nat) (b:bx):aa (ax ((n,b)::M))=aa (fK (ax M) n b.aP):=by
 funext m
 rw[k6]
 simp only[ax,aa]
 by_cases h:m=n
 ·subst h; simp
 ·have:(m==n)=false:=by simpa using h
  simp[this,h]
def wy:Nat→List AV→(List AV→Prop)→Prop
 |0,_,K=>K []
 |n+1,c::r,K=>wy n r fun l=>K (c::l)
 |_+1,[],_=>False
theorem jO:∀ {n:Nat} {cs:List AV} {K:List AV→Prop},wy n cs K→(cs.take n).length=n∧K (cs.take n)
 |0,_,_,h=>⟨rfl,h⟩
 |n+1,c::r,K,h=>by
  obtain⟨h1,h2⟩:=jO (K:=fun l=>K (c::l)) h
  exact⟨by simp only[List.take_succ_cons,List.length_cons,h1],by simpa using h2⟩
 |_+1,[],_,h=>h.elim
def IU (n:Nat) (cs:List AV) (K:AV→Prop):Prop:=
 match n,cs with
 |1,c::_=>K c
 |_,_=>False
def Dx (ag:Bool) (n:Nat) (cs:List AV) (K:AV→Prop):Prop:=
 match ag with
 |true=>wy n cs fun l=>K (.agg l)
 |false=>IU n cs K
def qK (ag:Bool) (n:Nat):Nat→List AV→(AV→Prop)→Prop
 |0,cs,K=>Dx ag n cs K
 |off+1,_::r,K=>qK ag n off r K
 |_+1,[],_=>False
theorem hZ {ag:Bool} {n:Nat}:∀ {off:Nat} {cs:List AV} {K:AV→Prop},qK ag n off cs K→apart ag n off cs K
 |0,cs,K,h=>by
  simp only[qK,Dx]at h
  simp only[apart,List.drop_zero]
  cases ag with
  |true=>
   simp only at h
   obtain⟨h1,h2⟩:=jO h
   exact aB (by simp only[h1,beq_self_eq_true]) h2
  |false=>
   simp only[IU]at h
   split at h
   ·exact aB rfl (aB rfl h)
   ·exact False.elim h
 |off+1,c::r,K,h=>by
  have:=hZ (off:=off) (cs:=r) h
  simpa[apart]using this
 |_+1,[],_,h=>h.elim
def zS:List AV→List AV→(List AV→Prop)→Prop
 |[],cs,K=>K cs
 |v::r,_::cs,K=>zS r cs fun l=>K (v::l)
 |_::_,[],_=>False
def jP:Nat→List AV→List AV→(List AV→Prop)→Prop
 |0,vs,cs,K=>zS vs cs K
 |off+1,vs,c::cs,K=>jP off vs cs fun l=>K (c::l)
 |_+1,_,[],_=>False
theorem qL:∀ {vs cs:List AV} {K:List AV→Prop},zS vs cs K→vs.length≤cs.length∧K (vs++cs.drop vs.length)
 |[],cs,K,h=>⟨Nat.zero_le _,by simpa[zS]using h⟩
 |v::r,c::cs,K,h=>by
  obtain⟨h1,h2⟩:=qL (vs:=r) (cs:=cs) (K:=fun l=>K (v::l)) h
  exact⟨by simpa using h1,by simpa using h2⟩
 |_::_,[],_,h=>h.elim
theorem dP:∀ {off:Nat} {vs cs:List AV} {K:List AV→Prop},jP off vs cs K→off+vs.length≤cs.length∧K (bA off vs cs)
 |0,vs,cs,K,h=>by
  obtain⟨h1,h2⟩:=qL h
  exact⟨by omega,by simpa[bA]using h2⟩
 |off+1,vs,c::cs,K,h=>by
  obtain⟨h1,h2⟩:=dP (off:=off) (vs:=vs) (cs:=cs) (K:=fun l=>K (c::l)) h
  refine⟨by simp only[List.length_cons]; omega,?_⟩
  have e:bA (off+1) vs (c::cs)=c::bA off vs cs:=by
   simp only[bA,List.take_succ_cons,List.cons_append]
   congr 3
   rw[show off+1+vs.length=(off+vs.length)+1 by omega,List.drop_succ_cons]
  rw[e]; exact h2
 |_+1,_,[],_,h=>h.elim
def jQ (v:AV) (K:List AV→Prop):Prop:=
 match v with
 | .agg cs=>K cs
 | .bad=>False
 | .aO _=>False
 | .int k n=>K [.int k n]
 | .bool b=>K [.bool b]
 | .str s=>K [.str s]
 | .bG=>K [.bG]
 | .ap=>K [.ap]
 | .ar=>K [.ar]
 | .dy=>K [.dy]
 | .cb=>K [.cb]
 | .lJ _ _=>False
 | .loc n len i off=>K [.loc n len i off]
 | .ba n len=>K [.ba n len]
 | .dE n len i off bP=>K [.dE n len i off bP]
 | .omap n=>K [.omap n]
 | .aH sz es=>K [.aH sz es]
 | .aY e off=>K [.aY e off]
 | .bL f cs=>K [.bL f cs]
theorem cD {v:AV} {K:List AV→Prop} (h:jQ v K):bH v=true∧K (cells v):=by
 cases v<;>first|exact⟨rfl,h⟩|exact h.elim
def wz (vs:List AV) (n:Nat) (K:Prop):Prop:=bif Nat.beq vs.length n then K else False
theorem ic {vs:List AV} {n:Nat} {K:Prop} (h:wz vs n K):vs.length=n∧K:=by
 unfold wz at h
 cases hb:Nat.beq vs.length n with
 |true=>rw[hb]at h; exact⟨Nat.eq_of_beq_eq_true hb,h⟩
 |false=>rw[hb]at h; exact h.elim
def Bd (R:Env) (F:aR):List (Nat × Nat × Sc)→List AV→(List AV→Prop)→Prop
 |[],cs,K=>K cs
 |(off,n,x)::r,cs,K=>dd R F x fun v=>jQ v fun vs=>wz vs n (jP off vs cs fun cs'=>Bd R F r cs' K)
def JY:Nat→List AV→List (List AV)→(List (List AV)→Prop)→Prop
 |0,v,_::r,K=>K (v::r)
 |n+1,v,e::r,K=>JY n v r fun l=>K (e::l)
 |_,_,[],_=>False
theorem tB:∀ {i:Nat} {v:List AV} {es:List (List AV)} {K:List (List AV)→Prop},JY i v es K→i<es.length∧K (es.set i v)
 |0,v,e::r,K,h=>⟨by simp,h⟩
 |n+1,v,e::r,K,h=>by
  obtain⟨h1,h2⟩:=tB (K:=fun l=>K (e::l)) h
  exact⟨by simpa using h1,by simpa using h2⟩
 |0,_,[],_,h=>h.elim
 |_+1,_,[],_,h=>h.elim
def JZ (z:List AV):Nat→(List (List AV)→Prop)→Prop
 |0,K=>K []
 |n+1,K=>JZ z n fun l=>K (z::l)
theorem tC {z:List AV}:∀ {n:Nat} {K:List (List AV)→Prop},JZ z n K→K (List.replicate n z)
 |0,_,h=>h
 |n+1,K,h=>by
  have:=tC (K:=fun l=>K (z::l)) h
  simpa[List.replicate_succ]using this
def tD:Nat→List AV→(List AV→Prop)→Prop
 |0,r,K=>K r
 |n+1,_::r,K=>tD n r K
 |_+1,[],_=>False
def J0:Nat→List AV→(List AV→List AV→Prop)→Prop
 |0,r,K=>K [] r
 |n+1,c::r,K=>J0 n r fun l r'=>K (c::l) r'
 |_+1,[],_=>False
def zU (sz:Nat):Nat→List AV→(List (List AV)→Prop)→Prop
 |0,_,K=>K []
 |n+1,r,K=>J0 sz r fun l r'=>zU sz n r' fun es=>K (l::es)
theorem jR:∀ {n:Nat} {r:List AV} {K:List AV→Prop},tD n r K→n≤r.length∧K (r.drop n)
 |0,_,_,h=>⟨Nat.zero_le _,h⟩
 |n+1,c::r,K,h=>by
  obtain⟨h1,h2⟩:=jR (n:=n) (r:=r) h
  exact⟨by simpa using h1,by simpa using h2⟩
 |_+1,[],_,h=>h.elim
theorem tE:∀ {n:Nat} {r:List AV} {K:List AV→List AV→Prop},J0 n r K→n≤r.length∧K (r.take n) (r.drop n)
 |0,_,_,h=>⟨Nat.zero_le _,h⟩
 |n+1,c::r,K,h=>by
  obtain⟨h1,h2⟩:=tE (n:=n) (r:=r) (K:=fun l r'=>K (c::l) r') h
  exact⟨by simpa using h1,by simpa using h2⟩
 |_+1,[],_,h=>h.elim
theorem mn {sz:Nat}:∀ {n:Nat} {r:List AV} {K:List (List AV)→Prop},zU sz n r K→n*sz≤r.length∧K (n2 sz n r)
 |0,_,_,h=>⟨by simp,h⟩
 |n+1,r,K,h=>by
  obtain⟨h1,h2⟩:=tE h
  obtain⟨h3,h4⟩:=mn (n:=n) (r:=r.drop sz) (K:=fun es=>K (r.take sz::es)) h2
  refine⟨?_,h4⟩
  rw[List.length_drop]at h3
  rw[Nat.add_mul,Nat.one_mul]; omega
def zV (R:Env) (F:aR) (sz:Nat):List (Nat × Sc)→List (List AV)→(List (List AV)→Prop)→Prop
 |[],es,K=>K es
 |(i,x)::r,es,K=>dd R F x fun v=>jQ v fun vs=>wz vs sz (JY i vs es fun es'=>zV R F sz r es' K)
end Go.AM
namespace Go.AM
open Go.RowKit
variable {X:bV}
theorem fP {cs:List AV} {j n:Nat} (hj:j<cs.length) (hn:n ∈ (cs.getD j .bad).names):n ∈ AV.ay cs:=by
 induction cs generalizing j with
 |nil=>simp at hj
 |cons c cs ih=>
  simp only[AV.ay,List.mem_append]
  cases j with
  |zero=>left; simpa using hn
  |succ j=>right; exact ih (j:=j) (by simpa using hj) (by simpa using hn)
inductive Fz (D:Nat→Prop) (M:Mem):AV→AV→Prop
 |same (v:AV) (h:v.names=[]):Fz D M v v
 |ap (sz:Nat):Fz D M .ap (.aH sz [])
 |ba (n:Nat) (b:aW) (es:List (List AV)) (hD:D n) (hb:aa M n=some b) (hmp:b.mp=none) (hl:es.length=b.es.length) (hs:∀i,i<es.length→(es.getD i []).length=(b.es.getD i []).length)
   (h:∀i j,i<es.length→j<b.sz→Fz D M ((b.es.getD i []).getD j .bad) ((es.getD i []).getD j .bad)):Fz D M (.ba n b.es.length) (.aH b.sz es)
 |loc (n i off:Nat) (b:aW) (row:List AV) (hD:D n) (hb:aa M n=some b) (hmp:b.mp=none) (hi:i<b.es.length) (hl:row.length=(b.es.getD i []).length)
   (h:∀j,j<b.sz→Fz D M ((b.es.getD i []).getD j .bad) (row.getD j .bad)):Fz D M (.loc n b.es.length i off) (.aY row off)
 |bL (f:CP) (cs ds:List AV) (hl:ds.length=cs.length) (h:∀j,j<cs.length→Fz D M (cs.getD j .bad) (ds.getD j .bad)):Fz D M (.bL f cs) (.bL f ds)
 |agg (cs ds:List AV) (hl:ds.length=cs.length) (h:∀j,j<cs.length→Fz D M (cs.getD j .bad) (ds.getD j .bad)):Fz D M (.agg cs) (.agg ds)
 |aO (cs ds:List AV) (hl:ds.length=cs.length) (h:∀j,j<cs.length→Fz D M (cs.getD j .bad) (ds.getD j .bad)):Fz D M (.aO cs) (.aO ds)
theorem fY:∀ {cs:List AV},(∀j,j<cs.length→(cs.getD j .bad).names=[])→AV.ay cs=[]
 |[],_=>rfl
 |c::r,h=>by
  simp only[AV.ay,List.append_eq_nil_iff]
  exact⟨by simpa using h 0 (by simp),fY (fun j hj=>by simpa using h (j+1) (by simpa using hj))⟩
theorem Fz.names {D:Nat→Prop} {M:Mem} {v a:AV} (h:Fz D M v a):a.names=[]:=by
 induction h with
 |same v h=>exact h
 |ap=>rfl
 |ba=>rfl
 |loc=>rfl
 |bL f cs ds hl h ih=>simp only[AV.names]; exact fY (fun j hj=>ih j (by omega))
 |agg cs ds hl h ih=>simp only[AV.names]; exact fY (fun j hj=>ih j (by omega))
 |aO cs ds hl h ih=>simp only[AV.names]; exact fY (fun j hj=>ih j (by omega))
theorem Fz.sound {D:Nat→Prop} {M:Mem} {ρ:Place} {I:Nat→Prop} {w:World} {N:Nat→Prop} (hW:cC X ρ I (aa M) N w) {v a:AV} (h:Fz D M v a):∀ {u:Value},aL ρ (lens (aa M)) I w N v u→
  aL cx fy (fun g=>I g∨∃n cap b,D n∧aa M n=some b∧ρ n=some (g,cap)) w ch a u:=by
 have E:kZ N ρ (lens (aa M)) I w ρ (lens (aa M)) (fun g=>I g∨∃n cap b,D n∧aa M n=some b∧ρ n=some (g,cap)) w:=⟨fun _ _ _ _ _ _=>rfl,fun _ len _ _ h=>⟨len,h,Nat.le_refl _⟩,fun b hb=> .inl hb,fun _ _=>rfl⟩
 induction h with
 |same v h=>exact fun hr=>(hr.so E (fun _ h=>h)).alone h _ _
 |ap sz=>
  intro u hr
  cases hr
  exact .cn _ _ _ (by simp[maxLen])
 |ba n b es hD hb hmp hl hs h ih=>
  intro u hr
  have dw:lens (aa M) n=some (b.es.length,b.sz):=by rw[aA]; exact⟨b,hb,aW.cL hmp,rfl⟩
  have B:=hW.aP n b hb
  obtain⟨hn,⟨h0,q,hv⟩|⟨g,cap,hρ,hv⟩⟩:=iI hr dw
  ·have he:=B.dM h0
   rw[he]at hl
   have he':es=[]:=List.eq_nil_of_length_eq_zero (by simpa using hl)
   rw[hv,he']
   exact .cn _ _ _ (by simp[maxLen])
  ·obtain⟨cs,fr,hg,l8,pE,hown,hlc,lO,hcs,ke⟩:=B.real g cap hρ
   have hg:=hg.cells hmp
   rw[hv,←hl]
   refine .aH b.sz es g 0 cap (fun i j=>(cs[i*b.sz+j]?).getD undef) (by omega) lO (.inr ⟨n,cap,b,hD,hb,hρ⟩) (fun e he=> ?_) (fun i j hi hj=> ?_) (fun i j hi hj=> ?_) (fun i j hi hj=> ?_)
   ·obtain⟨i,hi,rfl⟩:=List.getElem_of_mem he
    have h1:=hs i hi
    have h2:es.getD i []=es[i]:=by simp[List.getD_eq_getElem?_getD,hi]
    have h3:b.es.getD i []=b.es[i]'(by omega):=by simp[List.getD_eq_getElem?_getD,show i<b.es.length by omega]
    rw[←h2,h1,h3]
    exact B.even _ (List.getElem_mem _)
   ·obtain⟨u,hu,h1,_⟩:=ke i j (by omega) hj
    rw[hu]; exact h1
   ·obtain⟨u,hu,h1,_⟩:=ke i j (by omega) hj
    simp only[World.cell?,hg,Nat.zero_add,hu]; rfl
   ·obtain⟨u,hu,h1,hr⟩:=ke i j (by omega) hj
    rw[hu]
    exact ih i j hi hj hr
 |loc n i off b row hD hb hmp hi hl h ih=>
  intro u hr
  have dw:lens (aa M) n=some (b.es.length,b.sz):=by rw[aA]; exact⟨b,hb,aW.cL hmp,rfl⟩
  have B:=hW.aP n b hb
  obtain⟨hn,g,cap,hρ,hv⟩:=fj hr dw
  obtain⟨cs,fr,hg,l8,pE,hown,hlc,lO,hcs,ke⟩:=B.real g cap hρ
  have hg:=hg.cells hmp
  have hrow:(b.es.getD i []).length=b.sz:=by
   have h3:b.es.getD i []=b.es[i]:=by simp[List.getD_eq_getElem?_getD,hi]
   rw[h3]; exact B.even _ (List.getElem_mem _)
  rw[hv]
  refine .aY row off g (i*b.sz) (fun j=>(cs[i*b.sz+j]?).getD undef) (.inr ⟨n,cap,b,hD,hb,hρ⟩) (fun j hj=> ?_) (fun j hj=> ?_) (fun j hj=> ?_)
  ·obtain⟨u,hu,h1,_⟩:=ke i j hi (by omega)
   rw[hu]; exact h1
  ·obtain⟨u,hu,h1,_⟩:=ke i j hi (by omega)
   simp only[World.cell?,hg,hu]; rfl
  ·obtain⟨u,hu,h1,hr⟩:=ke i j hi (by omega)
   rw[hu]
   exact ih j (by omega) hr
 |bL f cs ds hl h ih=>
  intro u hr
  cases hr with
  |bL f _ vs hvl hr=>exact .bL f ds vs (by omega) (fun j hj=>ih j (by omega) (hr j (by omega)))
  |oM f _ vs hvl hr=>exact .oM f ds vs (by omega) (fun j hj=>ih j (by omega) (hr j (by omega)))
 |agg cs ds hl h ih=>
  intro u hr
  cases hr with
  |agg _ vs hvl h1 hr=>exact .agg ds vs (by omega) h1 (fun j hj=>ih j (by omega) (hr j (by omega)))
 |aO cs ds hl h ih=>
  intro u hr
  cases hr with
  |aO _ vs hvl hr=>exact .aO ds vs (by omega) (fun j hj=>ih j (by omega) (hr j (by omega)))
end Go.AM
namespace Go.AM
open Go.RowKit
variable {R:Env} {X:bV}
inductive Mt (D:Nat→Prop) (M M':Mem) (nx:Nat):AV→AV→Prop
 |same (v:AV):Mt D M M' nx v v
 |drop (v:AV):Mt D M M' nx v .bad
 |fz (v a:AV) (h:Fz D M v a):Mt D M M' nx v a
 |dM (n:Nat) (b:aW) (hb:aa M' n=some b) (he:b.es=[]) (hn:nx≤n):Mt D M M' nx .ap (.ba n 0)
 |bL (f:CP) (cs ds:List AV) (hl:ds.length=cs.length) (h:∀j,j<cs.length→Mt D M M' nx (cs.getD j .bad) (ds.getD j .bad)):Mt D M M' nx (.bL f cs) (.bL f ds)
 |agg (cs ds:List AV) (hl:ds.length=cs.length) (h:∀j,j<cs.length→Mt D M M' nx (cs.getD j .bad) (ds.getD j .bad)):Mt D M M' nx (.agg cs) (.agg ds)
 |aO (cs ds:List AV) (hl:ds.length=cs.length) (h:∀j,j<cs.length→Mt D M M' nx (cs.getD j .bad) (ds.getD j .bad)):Mt D M M' nx (.aO cs) (.aO ds)
def ai (d d':Dn):Prop:=d'=d∨d'= .b false
@[refl] theorem ai.refl (d:Dn):ai d d:= .inl rfl
theorem ai.fg {d:Dn}:ai d (.b false):= .inr rfl
def IV (d d':Dn):Prop:=match d' with
 | .b x=>ai d (.b x)
 | .it _ _ _=>False
def yC (r:Dn→Dn→Prop) (m m':Option (Nat × Bool × Bool × Dn)):Prop:=match m,m' with
 |none,none=>True
 |some (k,ka,va,d),some (k',FM,FN,d')=>k=k'∧ka=FM∧va=FN∧r d d'
 |_,_=>False
theorem yC.refl (m:Option (Nat × Bool × Bool × Dn)):yC ai m m:=by
 rcases m with _|⟨k,ka,va,d⟩
 ·trivial
 ·exact⟨rfl,rfl,rfl,.inl rfl⟩
theorem yC.ln {r:Dn→Dn→Prop} {b b':aW} (h:yC r b.mp b'.mp) (hl:b.es.length=b'.es.length):b.ln=b'.ln:=by
 unfold aW.ln
 generalize b.mp=m at h ⊢
 generalize b'.mp=m' at h ⊢
 cases m<;>cases m'<;>first|exact h.elim|exact hl|rfl
theorem ai.all {d d':Dn} (h:ai d d') (ha:d'.all=true):d.all=true:=by
 rcases h with rfl|rfl
 ·exact ha
 ·exact Bool.noConfusion ha
theorem IV.le {d d':Dn} (h:IV d d'):ai d d':=by cases d'<;>first|exact h|exact False.elim h
theorem IV.all {d d':Dn} (h:IV d d') (ha:d'.all=true):d.all=true:=h.le.all ha
theorem IV.no {d:Dn} {r:Nat} {sn:List Bool} {la:Option Nat} (h:IV d (.it r sn la)):False:=h
theorem ai.it {d:Dn} {r:Nat} {sn:List Bool} {la:Option Nat} (h:ai d (.it r sn la)):d= .it r sn la:=by
 rcases h with h|h
 ·exact h.symm
 ·cases h
theorem dW.le {r:Dn→Dn→Prop} (hr:∀d d',r d d'→d'.all=true→d.all=true) {m m':Option (Nat × Bool × Bool × Dn)} {sz len ty:Nat} {o:Option Obj} {cs:Array Value} {fr:Nat × Nat} (h:dW m sz len o cs ty fr) (hm:yC r m m'):dW m' sz len o cs ty fr:=by
 rcases m with _|⟨k,ka,va,d⟩<;>rcases m' with _|⟨k',FM,FN,d'⟩
 ·exact h
 ·exact hm.elim
 ·exact hm.elim
 ·obtain⟨rfl,rfl,rfl,h4⟩:=hm
  obtain⟨en,ck,h1,h2,h3⟩:=h
  exact⟨en,ck,h1,h2,h3.key,h3.cell,h3.born,h3.clock,fun ha=>h3.den (hr _ _ h4 ha),h3.room⟩
structure IW (D:Nat→Prop) (M M':Mem) (nx:Nat) (b b':aW):Prop where
 ty:b.ty=b'.ty
 sz:b.sz=b'.sz
 mp:yC ai b.mp b'.mp
 len:b.es.length=b'.es.length
 row:∀i,i<b.es.length→(b.es.getD i []).length=(b'.es.getD i []).length
 cell:∀i j,i<b.es.length→j<b.sz→Mt D M M' nx ((b.es.getD i []).getD j .bad) ((b'.es.getD i []).getD j .bad)
theorem IW.ln {D:Nat→Prop} {M M':Mem} {nx:Nat} {b b':aW} (h:IW D M M' nx b b'):b.ln=b'.ln:=h.mp.ln h.len
def Vc (nx:Nat) (b:aW):Prop:=∀e ∈ b.es,AV.fe (· <nx) e
structure Wk (X:bV) (S S':St):Prop where
 p:X.p≤S'.nx
 F:∀i,look S'.F i= .bad∨(Mt (fun n=>X.p≤n∧aa S'.M n=none) S.M S'.M S.nx (look S.F i) (look S'.F i)∧(S.nx≤S'.nx∨(look S'.F i).under (· <S'.nx)))
 M:∀n b',aa S'.M n=some b'→((∃b,aa S.M n=some b∧IW (fun n=>X.p≤n∧aa S'.M n=none) S.M S'.M S.nx b b')∧(S.nx≤S'.nx∨(n<S'.nx∧Vc S'.nx b')))∨(aa S.M n=none∧S.nx≤n∧n<S'.nx∧b'.es=[]∧b'.mp=none)
def lF (S:St) (ρ:Place):Place:=fun n=>if S.nx≤n then none else ρ n
def Og (X:bV) (S S':St) (ρ:Place) (I:Nat→Prop):Nat→Prop:=fun g=>I g∨∃n cap b,(X.p≤n∧aa S'.M n=none)∧aa S.M n=some b∧ρ n=some (g,cap)
theorem uW {S S':St} (h:Wk X S S') {w:World} {ρ:Place} {I:Nat→Prop} (W:cC X ρ I (aa S.M) (· <S.nx) w):
  cC X (lF S ρ) (Og X S S' ρ I) (aa S'.M) (· <S'.nx) w∧∀v a u,aL ρ (lens (aa S.M)) I w (· <S.nx) v u→Mt (fun n=>X.p≤n∧aa S'.M n=none) S.M S'.M S.nx v a→(S.nx≤S'.nx∨a.under (· <S'.nx))→aL (lF S ρ) (lens (aa S'.M)) (Og X S S' ρ I) w (· <S'.nx) a u:=by
 obtain⟨hp,hF,hM⟩:=h
 let D:Nat→Prop:=fun n=>X.p≤n∧aa S'.M n=none
 let ρ':Place:=lF S ρ
 let I':Nat→Prop:=Og X S S' ρ I
 have hlt:∀n b,aa S.M n=some b→n<S.nx:=fun n b h=>(W.aP n b h).lt
 have Oh:∀n len sz,n<S.nx→lens (aa S'.M) n=some (len,sz)→lens (aa S.M) n=some (len,sz):=by
  intro n len sz hn hl
  obtain⟨b',hb',rfl,rfl⟩:=aA.1 hl
  rcases hM n b' hb' with⟨⟨b,hb,hB⟩,_⟩|⟨_,h2,_⟩
  ·exact aA.2 ⟨b,hb,hB.ln,hB.sz⟩
  ·omega
 have E:kZ (· <S.nx) ρ (lens (aa S.M)) I w ρ' (lens (aa S'.M)) I' w:=by
  refine⟨fun n _ _ hn _ _=> ?_,fun n len sz hn h=>⟨len,Oh n len sz hn h,Nat.le_refl _⟩,fun b hb=> .inl hb,fun _ _=>rfl⟩
  have:¬S.nx≤n:=by have:n<S.nx:=hn; omega
  simp[ρ',lF,this]
 have rM:∀v a,Mt D S.M S'.M S.nx v a→∀u,aL ρ (lens (aa S.M)) I w (· <S.nx) v u→aL ρ' (lens (aa S'.M)) I' w (fun _=>True) a u:=by
  intro v a hm
  induction hm with
  |same v=>exact fun u hr=>(hr.so E (fun _ h=>h)).wide (fun _ _=>trivial)
  |drop v=>exact fun u _=> .bad u
  |fz v a h=>exact fun u hr=>((h.sound W hr).bare (fun _ h=>h) _ _).wide (fun _ h=>h.elim)
  |dM n b hb he hn=>
   intro u hr
   cases hr
   refine .ba n 0 _ trivial rfl fun l sz hl=> ?_
   obtain⟨b',hb',rfl,rfl⟩:=aA.1 hl
   rw[hb]at hb'
   cases hb'
   rw[aW.CT he]
   exact⟨Nat.le_refl _,fun _=> .inl ⟨by simp[ρ',lF,hn],none,rfl⟩⟩
  |bL f cs ds hl h ih=>
   intro u hr
   cases hr with
   |bL f _ vs hvl hr=>exact .bL f ds vs (by omega) (fun j hj=>ih j (by omega) _ (hr j (by omega)))
   |oM f _ vs hvl hr=>exact .oM f ds vs (by omega) (fun j hj=>ih j (by omega) _ (hr j (by omega)))
  |agg cs ds hl h ih=>
   intro u hr
   cases hr with
   |agg _ vs hvl h1 hr=>exact .agg ds vs (by omega) h1 (fun j hj=>ih j (by omega) _ (hr j (by omega)))
  |aO cs ds hl h ih=>
   intro u hr
   cases hr with
   |aO _ vs hvl hr=>exact .aO ds vs (by omega) (fun j hj=>ih j (by omega) _ (hr j (by omega)))
 have bound:∀v a,Mt D S.M S'.M S.nx v a→(∀m ∈ v.names,m<S.nx)→S.nx≤S'.nx→∀m ∈ a.names,m<S'.nx:=by
  intro v a hm
  induction hm with
  |same v=>exact fun h hle m hm=>by have:=h m hm; omega
  |drop v=>intro _ _ m hm; simp[AV.names]at hm
  |fz v a h=>intro _ _ m hm; rw[h.names]at hm; simp at hm
  |dM n b hb he hn=>
   intro _ hle m hm
   simp[AV.names]at hm
   subst hm
   rcases hM m b hb with⟨⟨b0,hb0,_⟩,_⟩|⟨_,_,h,_⟩
   ·have:=hlt m b0 hb0; omega
   ·exact h
  |bL f cs ds hl h ih=>
   intro hv hle m hm
   simp only[AV.names]at hm
   obtain⟨j,hj,Db⟩:=c8 hm
   exact ih j (by omega) (fun m hm=>hv m (by simp only[AV.names]; exact fP (by omega) hm)) hle m Db
  |agg cs ds hl h ih=>
   intro hv hle m hm
   simp only[AV.names]at hm
   obtain⟨j,hj,Db⟩:=c8 hm
   exact ih j (by omega) (fun m hm=>hv m (by simp only[AV.names]; exact fP (by omega) hm)) hle m Db
  |aO cs ds hl h ih=>
   intro hv hle m hm
   simp only[AV.names]at hm
   obtain⟨j,hj,Db⟩:=c8 hm
   exact ih j (by omega) (fun m hm=>hv m (by simp only[AV.names]; exact fP (by omega) hm)) hle m Db
 have low:∀v a u,aL ρ (lens (aa S.M)) I w (· <S.nx) v u→Mt D S.M S'.M S.nx v a→(S.nx≤S'.nx∨a.under (· <S'.nx))→aL ρ' (lens (aa S'.M)) I' w (· <S'.nx) a u:=by
  intro v a u hr hm h
  refine (rM v a hm u hr).low ?_
  rcases h with h|h
  ·exact fB a (fun m hm'=>bound v a hm (fun m hm=>jo hr m hm) h m hm')
  ·exact h
 refine⟨⟨fun n b' hb'=> ?_,fun n m b b' g c c' hb hb' h1 h2=> ?_,fun g hg=> .inl (W.nW g hg),?_,?_,W.keeps,fun n hn=>by show n<S'.nx; omega,W.CS,W.k7 E⟩,low⟩
 ·rcases hM n b' hb' with⟨⟨b,hb,hB⟩,hu⟩|⟨h0,h1,hn,h2,hmn⟩
  ·have B:=W.aP n b hb
   have hnlt:=hlt n b hb
   have hn:n<S'.nx:=by rcases hu with h|h<;>omega
   have hu:S.nx≤S'.nx∨Vc S'.nx b':=hu.imp id (fun h=>h.2)
   have yD:lF S ρ n=ρ n:=by simp only[lF]; rw[if_neg (by omega)]
   refine⟨hn,fun e he=> ?_,fun h0=> ?_,fun g cap hρ=> ?_,fun k ka va r sn la hb'=> ?_⟩
   rotate_right
   ·have hmp:=hB.mp
    rw[hb']at hmp
    obtain⟨k0,NA,NB,d0,Vd⟩:∃k0 NA NB d0,b.mp=some (k0,NA,NB,d0):=by
     cases hm:b.mp with
     |none=>rw[hm]at hmp; exact hmp.elim
     |some q=>exact⟨_,_,_,_,rfl⟩
    rw[Vd]at hmp
    obtain⟨_,_,_,h4⟩:=hmp
    rw[h4.it]at Vd
    obtain⟨g,cap,hρ,i1,i2,i3⟩:=B.iter _ _ _ _ _ _ Vd
    refine⟨g,cap,by rw[yD]; exact hρ,i1,?_,i3⟩
    rintro (h|⟨m,c',bm,⟨_,Ve⟩,Vf,J1⟩)
    ·exact i2 h
    ·obtain⟨_,_,_,_,_,k2,_⟩:=i3
     obtain⟨_,_,hc1,_⟩:=(W.aP m bm Vf).real _ c' J1
     exact hc1.qg k2
   ·obtain⟨i,hi,rfl⟩:=List.getElem_of_mem he
    have h1:i<b.es.length:=by have:=hB.len; omega
    have h3:=hB.row i h1
    have h4:=B.even b.es[i] (List.getElem_mem _)
    rw[List.getD_eq_getElem?_getD,List.getD_eq_getElem?_getD,List.getElem?_eq_getElem hi,List.getElem?_eq_getElem h1,Option.getD_some,Option.getD_some]at h3
    have:=hB.sz
    omega
   ·rw[yD]at h0
    have h3:=B.dM h0
    have:=hB.len
    rw[h3]at this
    exact List.eq_nil_of_length_eq_zero (by simpa using this.symm)
   ·rw[yD]at hρ
    obtain⟨cs,fr,hg,l8,pE,hown,hlc,lO,hcs,ke⟩:=B.real g cap hρ
    have e1:=hB.len
    have e2:=hB.sz
    refine⟨cs,fr,by rw[←hB.ty,←hB.sz,←hB.len]; exact hg.le (fun _ _ h=>h.all) hB.mp,l8,?_,hown,by omega,lO,by rw[←hB.sz]; exact hcs,fun i j hi hj=> ?_⟩
    ·rintro (h|⟨m,c',bm,⟨_,Ve⟩,Vf,J1⟩)
     ·exact pE h
     ·have:=W.inj n m b bm g cap c' hb Vf hρ J1
      subst this
      rw[hb']at Ve; simp at Ve
    ·obtain⟨u,nT,Dt,hr⟩:=ke i j (by omega) (by omega)
     refine⟨u,by rw[←hB.sz]; exact nT,Dt,?_⟩
     refine low _ _ _ hr (hB.cell i j (by omega) (by omega)) ?_
     rcases hu with hu|hu
     ·exact .inl hu
     ·right
      have ye:b'.es.getD i [] ∈ b'.es:=by
       rw[List.getD_eq_getElem?_getD,List.getElem?_eq_getElem hi,Option.getD_some]; exact List.getElem_mem _
      have hel:(b'.es.getD i []).length=b.sz:=by
       rw[←hB.row i (by omega),List.getD_eq_getElem?_getD,List.getElem?_eq_getElem (show i<b.es.length by omega),Option.getD_some]
       exact B.even _ (List.getElem_mem _)
      exact AV.eD _ _ (hu _ ye) (by omega)
  ·refine⟨hn,fun e he=>by rw[h2]at he; simp at he,fun _=>h2,fun g cap hρ=> ?_,fun _ _ _ _ _ _ h=>by rw[hmn]at h; cases h⟩
   change lF S ρ n=_ at hρ
   simp only[lF,if_pos h1]at hρ
   simp at hρ
 ·have o1:S.nx≤n→False:=fun h=>by simp only[lF,if_pos h]at h1; simp at h1
  have o2:S.nx≤m→False:=fun h=>by simp only[lF,if_pos h]at h2; simp at h2
  have e1:ρ n=some (g,c):=by simpa[lF,show ¬S.nx≤n from o1]using h1
  have e2:ρ m=some (g,c'):=by simpa[lF,show ¬S.nx≤m from o2]using h2
  rcases hM n b hb with⟨⟨b0,hb0,_⟩,_⟩|⟨_,h,_⟩
  ·rcases hM m b' hb' with⟨⟨b1,sw,_⟩,_⟩|⟨_,h,_⟩
   ·exact W.inj n m b0 b1 g c c' hb0 sw e1 e2
   ·exact (o2 h).elim
  ·exact (o1 h).elim
 ·rintro g (hg|⟨n,cap,b,_,hb,hρ⟩)
  ·exact W.lt g hg
  ·obtain⟨cs,fr,hc,_⟩:=(W.aP n b hb).real g cap hρ
   exact hc.lt
 ·rintro g hg (h|⟨n,cap,b,⟨Gb,_⟩,hb,hρ⟩)
  ·exact W.old g hg h
  ·obtain⟨cs,fr,hc,_,_,hown,_⟩:=(W.aP n b hb).real g cap hρ
   rcases hown with⟨h,_⟩|h
   ·exact absurd h (Nat.not_lt.2 Gb)
   ·exact absurd hg (Nat.not_lt.2 h)
theorem IX {S S':St} (h:Wk X S S') {a:Act} {w:World} {ρ:Place} {I:Nat→Prop} (W:cC X ρ I (aa S.M) (· <S.nx) w) (F:jk ρ I w X S a):
  cC X (lF S ρ) (Og X S S' ρ I) (aa S'.M) (· <S'.nx) w∧jk (lF S ρ) (Og X S S' ρ I) w X S' a:=by
 obtain⟨h1,low⟩:=uW h W
 refine⟨h1,fun i=> ?_,F.defers.mono (fun g hg=> .inl hg),F.size⟩
 rcases h.F i with h|⟨hm,hu⟩
 ·rw[h]; exact .bad _
 ·exact low _ _ _ (F.rep i) hm hu
theorem yE {S S':St} (h:Wk X S S') {a:Act} {w:World} (hS:iw X S a w):iw X S' a w:=by
 obtain⟨ρ,I,W,F⟩:=hS
 obtain⟨W',F'⟩:=IX h W F
 exact⟨_,_,W',F'⟩
end Go.AM
namespace Go.AM
open Go.RowKit
def dT (a b:Bool):Bool:=match a,b with
 |true,true=>true
 |false,false=>true
 |_,_=>false
theorem cy {a b:Bool} (h:dT a b=true):a=b:=by cases a<;>cases b<;>simp_all[dT]
structure Dy (es:List (List AV)) (len i:Nat) (K:List AV→Prop):Prop where
 len:es.length=len
 h:K (es.getD i [])
structure VIx (ag:Bool) (m sz:Nat) (cs:List AV) (j:Int) (K:AV→Prop):Prop where
 lt:0≤j∧j< (m:Int)
 h:apart ag sz (j.toNat*sz) cs K
structure uX {α:Type} (xs:List α) (K:List α→Prop):Prop where
 h:K xs
structure Oi (es:List (List AV)) (K:Nat→Prop):Prop where
 h:K es.length
structure ACp (es:List (List AV)) (bP:Nat) (K:List AV→Nat→Prop):Prop where
 h:K ((es.take bP).flatten) (min es.length bP)
structure Vg (a b:Int) (K:Nat→Prop):Prop where
 h:(0≤a∧a≤1073741824∧a=b)∧K a.toNat
structure Oj (es:List (List AV)) (K:List UInt8→Prop):Prop where
 h:∃s:List UInt8,es=s.map (fun c=>[AV.int .u8 c.toNat])∧K s
structure Dz {α:Type} (es:List α) (Y N:Prop):Prop where
 y:es=[]→Y
 n:N
structure qM (R:Env) (X:bV) (f:Nat) (args:List AV) (F:aR) (M:af) (nx:Nat) (d:Option Nat) (K:KS):Prop where
 body:b6 R.P f
 h:∃av ws nw aS M',oN R.P X f args (aa (ax M)) av ws nw∧(nx≤aS∧∀n ∈ nw,nx≤n∧n<aS)∧aa (ax M')=aa (cq (ax M) ws)∧aG d av F M' aS K
structure kL (R:Env) (X:bV) (f:Nat) (args:List AV) (F:aR) (M:af) (nx:Nat) (d:Option Nat) (K:KS):Prop where
 body:b6 R.P f
 h:∃F' M' aS,K F' M' aS∧∀ρ I (a:Act) w vs,(∀x,d=some x→x<X.size)→cC X ρ I (aa (ax M)) (· <nx) w→jk ρ I w X ⟨F,ax M,nx⟩ a→c6 ρ (lens (aa (ax M))) I w (· <nx) args vs→
  Calls R.P f vs.toArray w fun e w1=>∃v,e= .returned v∧iw X ⟨F',ax M',aS⟩ (a.put d v) w1
structure om (R:Env) (X:bV) (f:Nat) (args:List AV) (F:aR) (M:af) (nx:Nat) (d:Option Nat) (K:KS):Prop where
 body:b6 R.P f
 h:∃av ws nw aS M',oN R.P X f args (aa (ax M)) av ws nw∧(∀p ∈ ws,p.1 ∈ nw)∧(nx≤aS∧∀n ∈ nw,nx≤n∧n<aS)∧aa (ax M')=aa (cq (ax M) ws)∧aG d av F M' aS K
def sQ:af→Nat→List Nat
 |[],_=>[]
 |(m,b)::r,n=>bif Nat.beq n m then (match b with
  | .var _ row=>AV.ay row
  | .arr _ _ _=>[]
  | .map .. =>[])else sQ r n
def uY (M:af):List Nat→List Nat
 |[]=>[]
 |n::r=>n::(sQ M n++uY M r)
structure oo (R:Env) (X:bV) (f:Nat) (args:List AV) (F:aR) (M:af) (nx:Nat) (d:Option Nat) (K:KS):Prop where
 body:b6 R.P f
 h:∃av ws nw aS M',IF R.P X f args (uY M (AV.ay args)) (aa (ax M)) av ws nw∧(nx≤aS∧∀n ∈ nw,nx≤n∧n<aS)∧aa (ax M')=aa (cq (ax M) ws)∧aG d av F M' aS K
def DA (P:Program) (f:Nat) (args:List AV) (av:AV):Prop:=
 ∀ (ρ:Place) (L:aT) (I:Nat→Prop) (N:Nat→Prop) (w:World) (vs:List Value),c6 ρ L I w N args vs→∃v,(callFunc f vs.toArray).run P w= .ok (.value v) w∧aL ρ L I w N av v
structure qO (R:Env) (f:Nat) (args:List AV) (F:aR) (M:af) (nx:Nat) (d:Option Nat) (K:KS):Prop where
 h:∃av,DA R.P f args av∧aG d av F M nx K
def Gv (P:Program) (l:Nat) (vs:List Value) (w:World) (Q:World→Prop):Prop:=
 ∃r:Loop,w.heap[l]? =some (.loop r)∧vs.length=r.params.size∧∀c cs,∃w',Q w'∧
  Steps P (lone (Frame.round l r.fn ((r.params.zip vs.toArray).foldl (fun t (q,v)=>t.setIfInBounds q v) r.tmps) r.assign r.body .normal) (c::cs) w) (lone (c.finish (.bool true)) cs w')
structure qP (R:Env) (X:bV) (l:Nat) (tm:List Value) (aN args:List AV) (F:aR) (M:af) (nx:Nat) (d:Option Nat) (K:KS):Prop where
 h:∃F' M' aS,K F' M' aS∧∀ρ I (a:Act) w vs,(∀x,d=some x→x<X.size)→cC X ρ I (aa (ax M)) (· <nx) w→jk ρ I w X ⟨F,ax M,nx⟩ a→c6 ρ (lens (aa (ax M))) I w (· <nx) args vs→
  c6 ρ (lens (aa (ax M))) I w (· <nx) aN tm→Gv R.P l vs w fun w1=>iw X ⟨F',ax M',aS⟩ (a.put d (.bool true)) w1
structure ae (R:Env) (X:bV) (lo:Bool) (f:Nat) (args:List AV) (F:aR) (M:af) (nx:Nat) (d:Option Nat) (K:KS):Prop where
 h:qM R X f args F M nx d K∨(lo=false∧kL R X f args F M nx d K)
def zW (v:AV) (X Y:Prop):Prop:=
 match v with
 | .bool t=>True→pN t X Y
 |_=>False
def jS (M:af) (n len:Nat) (K:bx→Prop):Prop:=
 cH M n fun b=>match b with
  | .var ty row=>bif Nat.beq len 1 then K (.var ty row)else False
  | .arr ty sz es=>True→es.length=len∧K (.arr ty sz es)
  | .map .. =>False
def zX (ag:Bool) (n:Nat) (v:AV) (M:af) (K:AV→Prop):Prop:=
 match v with
 | .loc nm len i off=>cH M nm fun b=>match b with
   | .var _ row=>bif Nat.beq len 1 then (bif Nat.beq i 0 then qK ag n off row K else False)else False
   | .arr _ _ es=>True→Dy es len i fun row=>qK ag n off row K
   | .map .. =>False
 | .aY e off=>qK ag n off e K
 |_=>False
def DB (a:AV) (cs:List AV) (M:af) (K:af→Prop):Prop:=
 match a with
 | .loc nm len i off=>cH M nm fun b=>match b with
   | .var ty row=>bif Nat.beq len 1 then (bif Nat.beq i 0 then jP off cs row fun row'=>gj M nm (.var ty row') K else False)else False
   | .arr ty sz es=>True→Dy es len i fun row=>jP off cs row fun row'=>gj M nm (.arr ty sz (es.set i row')) K
   | .map .. =>False
 |_=>False
def jc (k k':IntKind) (X:Prop):Prop:=bif pZ k k' then X else False
def J2 (op:BinOp) (v u:AV) (K:AV→Prop):Prop:=
 match v,u with
 | .int k a,.int k' b=>
   match op with
   | .shl=>True→0≤b∧K (.int k (nZ k a b))
   | .shr=>True→0≤b∧K (.int k (eo k a b))
   | .add=>jc k k' (True→FQ k (a+b) fun m=>K (.int k m))
   | .sub=>jc k k' (True→FQ k (a - b) fun m=>K (.int k m))
   | .mul=>jc k k' (True→FQ k (a*b) fun m=>K (.int k m))
   | .quo=>jc k k' (True→b≠0∧(True→FQ k (a.tdiv b) fun m=>K (.int k m)))
   | .rem=>jc k k' (True→b≠0∧K (.int k (a.tmod b)))
   | .and=>jc k k' (K (.int k (dS .and k a b)))
   | .or=>jc k k' (K (.int k (dS .or k a b)))
   | .xor=>jc k k' (K (.int k (dS .xor k a b)))
   | .andNot=>jc k k' (K (.int k (dS .andNot k a b)))
   | .eql=>jc k k' (K (.bool (a==b)))
   | .neq=>jc k k' (K (.bool (a != b)))
   | .lss=>jc k k' (K (.bool (decide (a<b))))
   | .leq=>jc k k' (K (.bool (decide (a≤b))))
   | .gtr=>jc k k' (K (.bool (decide (a>b))))
   | .geq=>jc k k' (K (.bool (decide (a≥b))))
 |_,_=>False
def J3 (l:LK) (a b:AV) (K:Bool→Prop):Prop:=
 match l,a,b with
 | .i,.int k x,.int k' y=>bif pZ k k' then K (x==y)else False
 | .b,.bool x,.bool y=>K (x==y)
 | .s,.str x,.str y=>K (x==y)
 |_,_,_=>False
def Be:List LK→List AV→List AV→(Bool→Prop)→Prop
 |l::r,a::as,b::bs,K=>J3 l a b fun t=>(match r with
  |[]=>Be r as bs fun _=>K t
  |_=>Be r as bs fun u=>K (t&&u))
 |[],[],[],K=>K true
 |_,_,_,_=>False
def Vh (neg:Bool) (K:AV→Prop) (r:Bool):Prop:=
 match neg with
 |true=>K (.bool !r)
 |false=>K (.bool r)
def Ol (op:BinOp) (a b:List UInt8) (K:AV→Prop):Prop:=
 match op with
 | .add=>True→(a.length+b.length≤9223372036854775807)∧K (.str (a++b))
 | .eql=>K (.bool (a==b))
 | .neq=>K (.bool !(a==b))
 | .lss=>K (.bool (Op.bytesLess a b))
 | .leq=>K (.bool (Op.bytesLess a b||a==b))
 | .gtr=>K (.bool !(Op.bytesLess a b||a==b))
 | .geq=>K (.bool !(Op.bytesLess a b))
 |_=>False
def Vi (op:UnOp) (v:AV) (K:AV→Prop):Prop:=
 match op,v with
 | .neg,.int k n=>True→FQ k (0 - n) fun m=>K (.int k m)
 | .xor,.int k n=>K (.int k (dS .xor k (if k.signed then -1 else k.max) n))
 | .not,.bool b=>K (.bool !b)
 |_,_=>False
def DC (sz:Nat) (v ix:AV) (M:af) (K:AV→Prop):Prop:=
 match ix with
 | .int _ j=>(match v with
   | .aH s es=>bif Nat.beq s sz then (True→(0≤j∧j<es.length)∧(True→Of es j.toNat fun row=>K (.aY row 0)))else False
   | .ba nm len=>cH M nm fun b=>(match b with
     | .arr _ s es=>bif Nat.beq s sz then (True→(es.length=len∧0≤j∧j<len)∧K (.loc nm len j.toNat 0))else False
     | .var .. =>False
     | .map .. =>False)
   | .dE nm len i off bP=>jS M nm len fun _=>True→TW j bP fun c=>K (.loc nm len i (off+c*sz))
   |_=>False)
 |_=>False
def DD (m sz:Nat) (v ix:AV) (M:af) (K:AV→Prop):Prop:=
 match ix with
 | .int _ j=>(match v with
   | .loc nm len i off=>jS M nm len fun _=>True→TW j m fun c=>K (.loc nm len i (off+c*sz))
   | .aY row off=>True→TW j m fun c=>K (.aY row (off+c*sz))
   |_=>False)
 |_=>False
def TX (mx:Bool) (k:IntKind) (a:Int):List AV→(AV→Prop)→Prop
 |[],K=>K (.int k a)
 | .int _ b::r,K=>(match mx with
   |true=>TX mx k (max a b) r K
   |false=>TX mx k (min a b) r K)
 |_,_=>False
def mmK (mx:Bool) (as:List AV) (K:AV→Prop):Prop:=
 match as with
 | .int k a::r=>TX mx k a r K
 |_=>False
def tF (sz:Nat) (x:AV) (M:af) (K:List (List AV)→Prop):Prop:=
 match x with
 | .aH s es=>bif Nat.beq s sz then K es else False
 | .ap=>K []
 | .ba n len=>cH M n fun b=>(match b with
   | .arr _ s es=>bif Nat.beq s sz then (True→es.length=len∧K es)else False
   | .var .. =>False
   | .map .. =>False)
 | .dE n len i off bP=>cH M n fun b=>(match b with
   | .var _ row=>bif Nat.beq len 1 then (bif Nat.beq i 0 then (bif Nat.beq sz 0 then False else tD off row fun r=>zU sz bP r K)else False)else False
   | .arr .. =>False
   | .map .. =>False)
 |_=>False
def IY (sz:Nat) (v:AV) (M:af) (src:(List (List AV)→Prop)→Prop) (K:Nat→af→Prop):Prop:=
 match v with
 | .dE n len i off bP=>cH M n fun b=>(match b with
   | .var ty row=>bif Nat.beq len 1 then (bif Nat.beq i 0 then (bif Nat.ble (off+bP*sz) row.length then src fun xs=>True→ACp xs bP fun vs k=>jP off vs row fun row'=>gj M n (.var ty row') fun M'=>K k M' else False)else False)else False
   | .arr .. =>False
   | .map .. =>False)
 |_=>False
def yF (x:AV) (K:List (List AV)→Prop):Prop:=
 match x with
 | .str s=>K (s.map fun c=>[.int .u8 c.toNat])
 |_=>False
def DE (ty sz:Nat) (s:AV) (src:(List (List AV)→Prop)→Prop) (M:af) (nx:Nat) (K:AV→af→Nat→Prop):Prop:=
 match s with
 | .ba n len=>cH M n fun b=>(match b with
   | .arr t z es=>bif Nat.beq z sz then (True→(t=ty∧es.length=len)∧src fun xs=>True→es.length+xs.length≤1073741824∧gj M n (.arr t z (es++xs)) fun M'=>K (.ba n (es++xs).length) M' nx)else False
   | .var .. =>False
   | .map .. =>False)
 | .ap=>src fun xs=>True→xs.length≤1073741824∧K (.ba nx xs.length) ((nx,.arr ty sz xs)::M) (nx+1)
 |_=>False
def IZ (ty sz:Nat) (z:List AV) (s x:AV) (M:af) (nx:Nat) (K:AV→af→Nat→Prop):Prop:=
 match x with
 | .int _ m=>(match s with
   | .ba n len=>cH M n fun b=>(match b with
     | .arr t q es=>bif Nat.beq q sz then (True→(t=ty∧es.length=len)∧(True→Vg m m fun k=>True→es.length+k≤1073741824∧gj M n (.arr t q (es++List.replicate k z)) fun M'=>K (.ba n (es++List.replicate k z).length) M' nx))else False
     | .var .. =>False
     | .map .. =>False)
   | .ap=>True→Vg m m fun k=>K (.ba nx k) ((nx,.arr ty sz (List.replicate k z))::M) (nx+1)
   |_=>False)
 |_=>False
def DF (sz:Nat) (v:AV) (lo hi mx:Option AV) (K:AV→Prop):Prop:=
 match v with
 | .aH s es=>bif Nat.beq s sz then (match lo,hi,mx with
   |none,some (.int _ h),none=>True→(0≤h∧h≤es.length)∧(True→uX (es.take h.toNat) fun xs=>K (.aH sz xs))
   |some (.int _ l),none,none=>True→(0≤l∧l≤es.length)∧(True→uX (es.drop l.toNat) fun xs=>K (.aH sz xs))
   |some (.int _ l),some (.int _ h),none=>True→(0≤l∧l≤h∧h≤es.length)∧(True→uX ((es.take h.toNat).drop l.toNat) fun xs=>K (.aH sz xs))
   |none,some (.int _ h),some (.int _ m)=>True→(0≤h∧h≤m∧m≤es.length)∧(True→uX (es.take h.toNat) fun xs=>K (.aH sz xs))
   |_,_,_=>False)else False
 |_=>False
def DG (v:AV) (lo hi:Option AV) (K:AV→Prop):Prop:=
 match v with
 | .str s=>(match lo,hi with
   |none,some (.int _ h)=>True→(0≤h∧h≤s.length)∧(True→uX (s.take h.toNat) fun xs=>K (.str xs))
   |some (.int _ l),none=>True→(0≤l∧l≤s.length)∧(True→uX (s.drop l.toNat) fun xs=>K (.str xs))
   |some (.int _ l),some (.int _ h)=>True→(0≤l∧l≤h∧h≤s.length)∧(True→uX ((s.take h.toNat).drop l.toNat) fun xs=>K (.str xs))
   |_,_=>False)
 |_=>False
def DH (v:AV) (M:af) (K:AV→Prop):Prop:=
 match v with
 | .aH _ es=>True→Oi es fun n=>K (.int .i64 n)
 | .ba n len=>jS M n len fun _=>K (.int .i64 len)
 | .dE n len _ _ bP=>jS M n len fun _=>K (.int .i64 bP)
 | .ap=>K (.int .i64 0)
 |_=>False
def J4:Nat→List AV→(AV→Prop)→Prop
 |0,v::_,K=>K v
 |n+1,_::r,K=>J4 n r K
 |_,[],_=>False
structure Gw (ls:List LK) (kc:List AV) (es:List (List AV)) (K:Option (Nat × List AV)→Prop):Prop where
 ok:∀r ∈ es,dv ls kc r=true
 h:K (bM kc es)
structure AFv (kc:List AV) (es:List (List AV)) (K:AV→Prop):Prop where
 g:∀r ∈ es,jh r=true
 h:K (F3 (bM kc es))
structure AFg (kc:List AV) (es:List (List AV)) (K:Option (Nat × List AV)→Prop):Prop where
 g:∀r ∈ es,jh r=true
 h:K (bM kc es)
structure AEn (es:List (List AV)) (j:Int) (K:Nat→List AV→Prop):Prop where
 h:∃ (i:Nat) (r:List AV),j=i∧es[i]? =some r∧K i r
structure IRg (K:Nat→Prop):Prop where
 h:∀r,K r
structure INx (r r':Nat) (es:List (List AV)) (sn:List Bool) (Y:Prop) (K:Nat→Prop):Prop where
 e:r'=r
 fin:(∀q ∈ sn,q=true)→sn.length=es.length→Y
 go:∀i row,es[i]? =some row→sn[i]? =some false→sn.length=es.length→K i
structure IEt (r r':Nat) (la:Option Nat) (es:List (List AV)) (K:List AV→Prop):Prop where
 h:r'=r∧∃i row,la=some i∧es[i]? =some row∧K row
def Gx (q:Option (Nat × List AV)) (es:List (List AV)) (dn:Dn) (K:List (List AV)→Dn→Prop):Prop:=
 match q with
 |some q=>K (es.eraseIdx q.1) (dn.dl q.1)
 |none=>K es dn.up
def yG (ls:List LK) (ag:Bool) (u:AV) (K:List AV→Prop):Prop:=jQ u fun kc=>bif dT u.iA ag&&Nat.beq kc.length ls.length&&dv ls kc kc then K kc else False
def yH (va:Bool) (l:List AV) (K:AV→Prop):Prop:=
 match va with
 |true=>K (.agg l)
 |false=>match l with
  |c::_=>K c
  |[]=>False
def Om (ok va:Bool) (z:AV) (q:Option (Nat × List AV)) (K:AV→Prop):Prop:=
 match q with
 |some q=>yH va q.2 fun v=>(match ok with
  |true=>K (.aO [v,.bool true])
  |false=>K v)
 |none=>(match ok with
  |true=>K (.aO [z,.bool false])
  |false=>K z)
def J5 (q:Option (Nat × List AV)) (es:List (List AV)) (r:List AV) (K:List (List AV)→Prop):Prop:=
 match q with
 |some q=>K (es.set q.1 r)
 |none=>K (es++ [r])
def Gy (va:Bool) (z:AV) (q:Option (Nat × List AV)) (es:List (List AV)) (kc zs:List AV) (K:AV→Nat→List (List AV)→Prop):Prop:=
 match q with
 |some q=>yH va q.2 fun v=>K v q.1 es
 |none=>K z es.length (es++ [kc++zs])
def yI (ls:List LK) (ag va:Bool) (v:AV) (M:af) (K:Nat→Dn→Nat→List (List AV)→Prop):Prop:=
 match v with
 | .omap n=>cH M n fun b=>(match b with
   | .map k ka vb dn sz es=>bif Nat.beq k ls.length&&dT ka ag&&dT vb va&&Nat.blt k sz then K n dn sz es else False
   | .arr .. =>False
   | .var .. =>False)
 |_=>False
def zY (v:AV) (M:af) (K:Nat→Nat→Bool→Bool→Dn→Nat→List (List AV)→Prop):Prop:=
 match v with
 | .omap n=>cH M n fun b=>(match b with
   | .map k ka va dn sz es=>K n k ka va dn sz es
   | .arr .. =>False
   | .var .. =>False)
 |_=>False
def TY (v:AV) (M:af) (K:Nat→Nat→Nat→Bool→Bool→Nat→List Bool→Option Nat→Nat→List (List AV)→Prop):Prop:=
 match v with
 | .lJ n r'=>cH M n fun b=>(match b with
   | .map k ka va dn sz es=>(match dn with
     | .it r sn la=>K n r' k ka va r sn la sz es
     | .b _=>False)
   | .arr .. =>False
   | .var .. =>False)
 |_=>False
def cV (R:Env) (X:bV) (lo:Bool) (i:tz) (d:Option Nat) (F:aR) (M:af) (nx:Nat) (K:KS):Prop:=
 match i with
 | .mv x=>dd R F x fun v=>aG d v F M nx K
 | .pick c a b=>dd R F c fun v=>zW v (dd R F a fun u=>aG d u F M nx K) (dd R F b fun u=>aG d u F M nx K)
 | .alloc ty z=>aG d (.loc nx 1 0 0) F ((nx,.var (R.ty ty) z)::M) (nx+1) K
 | .box ty x=>dd R F x fun v=>jQ v fun cs=>aG d (.loc nx 1 0 0) F ((nx,.var (R.ty ty) cs)::M) (nx+1) K
 | .build z ps=>Bd R F ps z fun cs=>aG d (.agg cs) F M nx K
 | .aI ty sz len z ps=>JZ z len fun es=>zV R F sz ps es fun es'=>aG d (.ba nx len) F ((nx,.arr (R.ty ty) sz es')::M) (nx+1) K
 | .load ag n x=>dd R F x fun v=>zX ag n v M fun u=>aG d u F M nx K
 | .store n x v=>dd R F x fun a=>dd R F v fun u=>jQ u fun cs=>wz cs n (DB a cs M fun M'=>aG d (.aO []) F M' nx K)
 | .bv x=>dd R F x fun v=>(match v with
   | .loc nm len i q=>jS M nm len fun _=>aG d (.loc nm len i q) F M nx K
   | .aY e q=>aG d (.aY e q) F M nx K
   | .bL f cs=>aG d (.bL f cs) F M nx K
   |_=>False)
 | .bin op x y=>dd R F x fun v=>dd R F y fun u=>J2 op v u fun r=>aG d r F M nx K
 | .JQ neg x y=>dd R F x fun v=>dd R F y fun u=>(match v,u with
   | .bool a,.bool b=>(match neg with
     |true=>aG d (.bool (a != b)) F M nx K
     |false=>aG d (.bool (a==b)) F M nx K)
   |_,_=>False)
 | .ol neg ls x y=>dd R F x fun v=>dd R F y fun u=>(match v,u with
   | .agg as,.agg bs=>Be ls as bs (Vh neg fun r=>aG d r F M nx K)
   |_,_=>False)
 | .Z9 op x y=>dd R F x fun v=>dd R F y fun u=>(match v,u with
   | .str a,.str b=>Ol op a b fun r=>aG d r F M nx K
   |_,_=>False)
 | .un op x=>dd R F x fun v=>Vi op v fun r=>aG d r F M nx K
 | .conv k x=>dd R F x fun v=>(match v with
   | .int _ n=>True→FQ k n fun m=>aG d (.int k m) F M nx K
   |_=>False)
 | .Oc x=>dd R F x fun v=>(match v with
   | .str s=>aG d (.str s) F M nx K
   |_=>False)
 | .Ny g cs=>qI R F cs fun l=>aG d (R.cl g l) F M nx K
 | .aC off x=>dd R F x fun v=>(match v with
   | .loc nm len i q=>jS M nm len fun _=>aG d (.loc nm len i (q+off)) F M nx K
   | .aY e q=>aG d (.aY e (q+off)) F M nx K
   |_=>False)
 | .jN sz x i=>dd R F x fun v=>dd R F i fun ix=>DC sz v ix M fun r=>aG d r F M nx K
 | .bt m sz x i=>dd R F x fun v=>dd R F i fun ix=>DD m sz v ix M fun r=>aG d r F M nx K
 | .sP _ sz x lo hi mx=>dd R F x fun v=>yB R F lo fun l=>yB R F hi fun h=>yB R F mx fun m=>DF sz v l h m fun r=>aG d r F M nx K
 | .Oe x lo hi=>dd R F x fun v=>yB R F lo fun l=>yB R F hi fun h=>DG v l h fun r=>aG d r F M nx K
 | .ext x i=>dd R F x fun v=>(match v with
   | .aO vs=>J4 i vs fun r=>aG d r F M nx K
   |_=>False)
 | .call g as=>qI R F as fun l=>True→ae R X lo (R.ft g) l F M nx d K
 | .gC f as=>dd R F f fun v=>(match v with
   | .bL (.fn g) aN=>qI R F as fun l=>True→ae R X lo g (l++aN) F M nx d K
   | .bL (.lp l tm) aN=>(match lo with
     |true=>False
     |false=>qI R F as fun args=>True→qP R X l tm aN args F M nx d K)
   |_=>False)
 | .po g as=>qI R F as fun l=>True→qO R (R.ft g) l F M nx d K
 | .tA f as=>dd R F f fun v=>(match v with
   | .bL (.fn g) aN=>qI R F as fun l=>True→om R X g (l++aN) F M nx d K
   |_=>False)
 | .dh f as=>dd R F f fun v=>(match v with
   | .bL (.fn g) aN=>qI R F as fun l=>(match lo with
     |true=>True→oo R X g (l++aN) F M nx d K
     |false=>False)
   |_=>False)
 | .Gp neg x=>dd R F x fun v=>(match v with
   | .bG=>(match neg with
     |true=>aG d (.bool false) F M nx K
     |false=>aG d (.bool true) F M nx K)
   | .aY _ _=>aG d (.bool neg) F M nx K
   | .loc nm len _ _=>jS M nm len fun _=>aG d (.bool neg) F M nx K
   |_=>False)
 | .yA neg x=>dd R F x fun v=>(match v with
   | .aH _ es=>(match lo with
     |true=>False
     |false=>True→Dz es (match neg with
      |true=>aG d (.bool false) F M nx K
      |false=>aG d (.bool true) F M nx K) (aG d (.bool neg) F M nx K))
   |_=>False)
 | .Gq neg x=>dd R F x fun v=>(match v with
   | .cb=>(match neg with
     |true=>aG d (.bool false) F M nx K
     |false=>aG d (.bool true) F M nx K)
   | .omap n=>cH M n fun b=>(match b with
     | .map _ _ _ _ _ _=>aG d (.bool neg) F M nx K
     |_=>False)
   |_=>False)
 | .Z8 m _ x=>dd R F x fun v=>(match v with
   | .aH _ es=>True→(m≤es.length∧0<m)∧(True→uX (es.take m).flatten fun row=>aG d (.aY row 0) F M nx K)
   |_=>False)
 | .Dw ag off n x=>dd R F x fun v=>(match v with
   | .agg cs=>qK ag n off cs fun r=>aG d r F M nx K
   |_=>False)
 | .IR ty sz x=>dd R F x fun v=>(match v with
   | .aH _ _=>aG d (.ba nx 0) F ((nx,.arr (R.ty ty) sz [])::M) (nx+1) K
   |_=>False)
 | .JR ag m sz x i=>dd R F x fun v=>dd R F i fun ix=>(match v,ix with
   | .agg cs,.int _ j=>True→VIx ag m sz cs j fun r=>aG d r F M nx K
   |_,_=>False)
 | .Od x i=>dd R F x fun v=>dd R F i fun ix=>(match v,ix with
   | .str s,.int _ j=>True→(0≤j∧j< (s.length:Int))∧aG d (.int .u8 (s.getD j.toNat 0).toNat) F M nx K
   |_,_=>False)
 | .b2s x=>dd R F x fun v=>tF 1 v M fun es=>True→Oj es fun s=>aG d (.str s) F M nx K
 | .JS m sz x lo hi mx=>(match lo,hi,mx with
   |none,none,none=>dd R F x fun v=>(match v with
    | .loc nm len i off=>jS M nm len fun _=>aG d (.dE nm len i off m) F M nx K
    | .aY r off=>bif Nat.beq sz 0 then False else tD off r fun r'=>zU sz m r' fun es=>aG d (.aH sz es) F M nx K
    |_=>False)
   |_,_,_=>False)
 | .copy sz x y=>dd R F x fun v=>dd R F y fun u=>IY sz v M (tF sz u M) fun n M'=>aG d (.int .i64 n) F M' nx K
 | .mks ty sz z l c=>dd R F l fun v=>dd R F c fun u=>(match v,u with
   | .int _ a,.int _ b=>True→Vg a b fun n=>aG d (.ba nx n) F ((nx,.arr (R.ty ty) sz (List.replicate n z))::M) (nx+1) K
   |_,_=>False)
 | .Z' ty x=>dd R F x fun v=>(match v with
   | .str s=>True→s.length≤1073741824∧aG d (.ba nx s.length) F ((nx,.arr (R.ty ty) 1 (s.map fun c=>[.int .u8 c.toNat]))::M) (nx+1) K
   |_=>False)
 | .JT n=>aG d (.int .i64 n) F M nx K
 | .gh x=>dd R F x fun v=>DH v M fun r=>aG d r F M nx K
 | .JU x=>dd R F x fun v=>(match v with
   | .str s=>aG d (.int .i64 s.length) F M nx K
   |_=>False)
 | .mm mx as=>qI R F as fun l=>mmK mx l fun r=>aG d r F M nx K
 | .app ty sz s x=>dd R F s fun v=>dd R F x fun u=>DE (R.ty ty) sz v (tF sz u M) M nx fun r M' aS=>aG d r F M' aS K
 | .Gt ty sz z s x=>dd R F s fun v=>dd R F x fun u=>IZ (R.ty ty) sz z v u M nx fun r M' aS=>aG d r F M' aS K
 | .Gs ty s x=>dd R F s fun v=>dd R F x fun u=>DE (R.ty ty) 1 v (yF u) M nx fun r M' aS=>aG d r F M' aS K
 | .TV k ka va sz=>aG d (.omap nx) F ((nx,.map k ka va true sz [])::M) (nx+1) K
 | .Gu ls ag va z ok x key=>dd R F x fun v=>dd R F key fun u=>yI ls ag va v M fun _ _ _ es=>yG ls ag u fun kc=>True→Gw ls kc es fun q=>Om ok va z q fun r=>aG d r F M nx K
 | .JV ls ag va x key y=>dd R F x fun v=>dd R F key fun u=>dd R F y fun w=>yI ls ag va v M fun n dn sz es=>yG ls ag u fun kc=>jQ w fun vs=>bif dT w.iA va&&Nat.beq (ls.length+vs.length) sz then
     (True→Gw ls kc es fun q=>True→es.length+1≤1073741824∧J5 q es (kc++vs) fun es'=>gj M n (.map ls.length ag va dn.up sz es') fun M'=>aG d (.aO []) F M' nx K)else False
 | .U' ls ag va z x key=>dd R F x fun v=>dd R F key fun u=>yI ls ag va v M fun n dn sz es=>yG ls ag u fun kc=>jQ z fun zs=>bif dT z.iA va&&Nat.beq (ls.length+zs.length) sz&&dn.all then
     (True→Gw ls kc es fun q=>True→es.length+1≤1073741824∧Gy va z q es kc zs fun r i es'=>gj M n (.map ls.length ag va true sz es') fun M'=>aG d (.aO [r,.int .i64 i]) F M' nx K)else False
 | .JW ls ag x key=>dd R F x fun v=>dd R F key fun u=>yI ls ag false v M fun _ _ sz es=>yG ls ag u fun kc=>bif Nat.beq sz (ls.length+1)&&jh kc then (True→AFv kc es fun r=>aG d r F M nx K)else False
 | .bX ls ag x key=>dd R F x fun v=>dd R F key fun u=>yI ls ag false v M fun n dn sz es=>yG ls ag u fun kc=>bif Nat.beq sz (ls.length+1)&&jh kc&&dn.all then
     (True→AFg kc es fun q=>True→es.length+1≤1073741824∧Gy false (.int .i64 0) q es kc [.int .i64 0] fun r i es'=>gj M n (.map ls.length ag false true sz es') fun M'=>aG d (.aO [r,.int .i64 i]) F M' nx K)else False
 | .IS ls ag x key=>dd R F x fun v=>dd R F key fun u=>zY v M fun n k ka va dn sz es=>bif Nat.beq k ls.length&&dT ka ag then yG ls ag u fun kc=>True→Gw ls kc es fun q=>Gx q es dn fun es' Gj=>gj M n (.map ls.length ag va Gj sz es') fun M'=>aG d (.aO []) F M' nx K else False
 | .JX x=>dd R F x fun v=>(match lo with
   |true=>False
   |false=>zY v M fun n k ka va _ sz es=>True→IRg fun r=>gj M n (.map k ka va (.it r (es.map fun _=>false) none) sz es) fun M'=>aG d (.lJ n r) F M' nx K)
 | .Nz x=>dd R F x fun v=>(match lo with
   |true=>False
   |false=>TY v M fun n r' k ka va r sn _ sz es=>True→INx r r' es sn (aG d (.aO [.bool false]) F M nx K) fun i=>gj M n (.map k ka va (.it r (sn.set i true) (some i)) sz es) fun M'=>aG d (.aO [.bool true,.bad,.bad]) F M' nx K)
 | .F9 x=>dd R F x fun v=>(match lo with
   |true=>False
   |false=>TY v M fun _ r' k ka va r _ la sz es=>bif Nat.blt 0 k&&Nat.blt k sz then (True→IEt r r' la es fun row=>wy k row fun kc=>yH ka kc fun a=>tD k row fun vc=>yH va vc fun b=>aG d (.aO [a,b]) F M nx K)else False)
 | .Va va x st y=>dd R F x fun v=>dd R F st fun u=>dd R F y fun w=>(match v,u with
   | .omap n,.int _ j=>cH M n fun b=>(match b with
     | .map k ka vb dn sz es=>jQ w fun vs=>bif dT w.iA va&&dT vb va&&Nat.beq (k+vs.length) sz&&dn.all then
         (True→AEn es j fun i row=>wy k row fun kc=>gj M n (.map k ka va true sz (es.set i (kc++vs))) fun M'=>aG d (.aO []) F M' nx K)else False
     | .arr .. =>False
     | .var .. =>False)
   |_,_=>False)
def Gz (a b:AV):Bool:=
 match a,b with
 | .int k n,.int k' n'=>pZ k k'&&decide (n=n')
 | .bool x,.bool y=>x==y
 | .str s,.str t=>decide (s=t)
 | .bG,.bG=>true
 | .ap,.ap=>true
 | .ar,.ar=>true
 | .dy,.dy=>true
 | .cb,.cb=>true
 |_,_=>false
def pO:List AV→List AV→Bool
 |[],[]=>true
 |a::r,b::s=>Gz a b&&pO r s
 |_,_=>false
def yJ (a b:AV):Bool:=
 match a,b with
 | .agg cs,.agg ds=>pO cs ds
 | .aO cs,.aO ds=>pO cs ds
 |a,b=>Gz a b
theorem zZ {a b:AV} (h:Gz a b=true):a=b:=by
 cases a<;>cases b<;>simp_all[Gz]
 exact gT h.1
theorem iO:∀ {a b:List AV},pO a b=true→a=b
 |[],[],_=>rfl
 |a::r,b::s,h=>by
  simp only[pO,Bool.and_eq_true]at h
  rw[zZ h.1,iO h.2]
 |[],_::_,h=>by simp[pO]at h
 |_::_,[],h=>by simp[pO]at h
theorem mY {a b:AV} (h:yJ a b=true):a=b:=by
 unfold yJ at h
 split at h
 ·rw[iO h]
 ·rw[iO h]
 ·exact zZ h
def ct (R:Env):Operand→Sc→Bool
 | .tmp t,.t n=>Nat.beq t n
 | .const v,.k u=>yJ (ID v) u
 | .func f,.f g=>Nat.beq (R.ft g) f
 |_,_=>false
def mo (R:Env):List Operand→List Sc→Bool
 |[],[]=>true
 |x::r,y::s=>ct R x y&&mo R r s
 |_,_=>false
def yK (R:Env):Option Operand→Option Sc→Bool
 |none,none=>true
 |some x,some y=>ct R x y
 |_,_=>false
theorem an {R:Env} {F:aR} {x:Operand} {y:Sc} (h:ct R x y=true):ev F x=lr R F y:=by
 cases x<;>cases y<;>simp only[ct]at h<;>first|(simp at h; done)|skip
 ·rw[Nat.eq_of_beq_eq_true h]; rfl
 ·exact mY h
 ·simp only[ev,lr,Env.cl,Nat.eq_of_beq_eq_true h]
theorem dF {R:Env} {F:aR}:∀ {xs:List Operand} {ys:List Sc},mo R xs ys=true→mH F xs=ys.map (lr R F)
 |[],[],_=>rfl
 |x::r,y::s,h=>by
  simp only[mo,Bool.and_eq_true]at h
  simp only[mH,List.map_cons,an (F:=F) h.1,dF h.2]
 |[],_::_,h=>by simp[mo]at h
 |_::_,[],h=>by simp[mo]at h
theorem mZ {R:Env} {F:aR} {x:Option Operand} {y:Option Sc} (h:yK R x y=true):sr F x=y.map (lr R F):=by
 cases x<;>cases y<;>simp only[yK]at h<;>first|(simp at h; done)|rfl|skip
 simp only[sr,Option.map_some,an (F:=F) h]
def Bf (R:Env) (fs:List (Nat × Nat)):List (Nat × Operand)→List (Nat × Nat × Sc)→Bool
 |[],[]=>true
 |(i,x)::r,(off,n,y)::s=>(match fs[i]? with
  |some (o,t)=>Nat.beq o off&&Nat.beq (R.T.s t) n&& !Nat.beq n 0
  |none=>false)&&ct R x y&&Bf R fs r s
 |_,_=>false
def Bg (R:Env) (sz:Nat):List (Nat × Operand)→List (Nat × Nat × Sc)→Bool
 |[],[]=>true
 |(i,x)::r,(off,n,y)::s=>Nat.beq (i*sz) off&&Nat.beq sz n&& !Nat.beq n 0&&ct R x y&&Bg R sz r s
 |_,_=>false
def Bh (R:Env):List (Nat × Operand)→List (Nat × Sc)→Bool
 |[],[]=>true
 |(i,x)::r,(j,y)::s=>Nat.beq i j&&ct R x y&&Bh R r s
 |_,_=>false
def J6:BinOp→Nat
 | .add=>0| .sub=>1| .mul=>2| .quo=>3| .rem=>4| .and=>5| .or=>6| .xor=>7| .shl=>8| .shr=>9| .andNot=>10| .eql=>11| .neq=>12| .lss=>13| .leq=>14| .gtr=>15| .geq=>16
theorem DI {a b:BinOp} (h:Nat.beq (J6 a) (J6 b)=true):a=b:=by
 have:=Nat.eq_of_beq_eq_true h
 cases a<;>cases b<;>first|rfl|(simp[J6]at this)
def On:UnOp→Nat
 | .neg=>0| .not=>1| .xor=>2| .plus=>3
theorem J7 {a b:UnOp} (h:Nat.beq (On a) (On b)=true):a=b:=by
 have:=Nat.eq_of_beq_eq_true h
 cases a<;>cases b<;>first|rfl|(simp[On]at this)
def TZ:Option Operand→Bool
 |some (.const (.int _ (.ofNat 0)))=>true
 |_=>false
theorem DJ {b:Option Operand} (h:TZ b=true):∃k,b=some (.const (.int k 0)):=by
 unfold TZ at h
 split at h
 ·exact⟨_,rfl⟩
 ·simp at h
def isEq (op:BinOp) (neg:Bool):Bool:=
 match op,neg with
 | .eql,false=>true
 | .neq,true=>true
 |_,_=>false
theorem isEq_eq {op:BinOp} {neg:Bool} (h:isEq op neg=true):op=if neg then .neq else .eql:=by cases op<;>cases neg<;>simp_all[isEq]
def Bi:List LK→List LK→Bool
 |[],[]=>true
 | .i::r,.i::s=>Bi r s
 | .b::r,.b::s=>Bi r s
 | .s::r,.s::s=>Bi r s
 |_,_=>false
theorem na:∀ {a b:List LK},Bi a b=true→a=b
 |[],[],_=>rfl
 | .i::r,.i::s,h=>by rw[na (a:=r) (b:=s) h]
 | .b::r,.b::s,h=>by rw[na (a:=r) (b:=s) h]
 | .s::r,.s::s,h=>by rw[na (a:=r) (b:=s) h]
def qQ (R:Env) (t:Nat) (ls:List LK) (ag:Bool):Bool:=match R.T.d t with
 | .map k _=>dT (aK R.P k) ag&&(match lq R.P 8 k with
   |some l=>Bi l ls
   |none=>false)
 |_=>false
def bw (R:Env) (c:Call) (i:tz):Bool:=
 match c.callee,i with
 | .value f,.call g as=>ct R f (.f g)&&mo R c.args.toList as
 | .value f,.gC y as=>ct R f y&&mo R c.args.toList as
 | .value f,.tA y as=>ct R f y&&mo R c.args.toList as
 | .value f,.dh y as=>ct R f y&&mo R c.args.toList as
 | .value f,.po g as=>ct R f (.f g)&&mo R c.args.toList as
 | .builtin .len,.JT n=>(match c.args.toList,c.argTypes.toList with
   |[_],[t]=>(match R.T.d t with
    | .arr m _=>Nat.beq m n
    |_=>false)
   |_,_=>false)
 | .builtin .len,.gh y=>(match c.args.toList,c.argTypes.toList with
   |[x],[t]=>ct R x y&&(match R.T.d t with
    | .slice _=>true
    |_=>false)
   |_,_=>false)
 | .builtin .len,.JU y=>(match c.args.toList,c.argTypes.toList with
   |[x],[t]=>ct R x y&&(match R.T.d t with
    | .str=>true
    |_=>false)
   |_,_=>false)
 | .builtin .min,.mm false as=>mo R c.args.toList as
 | .builtin .max,.mm true as=>mo R c.args.toList as
 | .builtin .append,.app ty sz s y=>(match c.args.toList,c.argTypes.toList with
   |[x1,x2],[t,t']=>ct R x1 s&&ct R x2 y&&(match R.T.d t,R.T.d t' with
    | .slice e,.slice _=>Nat.beq (R.ty ty) e&&Nat.beq (R.T.s e) sz&&(R.T.d e).ok&&bH (R.T.z e)&&Nat.beq (cells (R.T.z e)).length (R.T.s e)
    |_,_=>false)
   |_,_=>false)
 | .builtin .copy,.copy sz s y=>(match c.args.toList,c.argTypes.toList with
   |[x1,x2],[t,t']=>ct R x1 s&&ct R x2 y&&(match R.T.d t,R.T.d t' with
    | .slice e,.slice _=>Nat.beq (R.T.s e) sz&&(R.T.d e).ok
    |_,_=>false)
   |_,_=>false)
 | .builtin .append,.Gt ty sz z s y=>(match c.args.toList,c.argTypes.toList with
   |[x1,x2],[t,t']=>ct R x1 s&&ct R x2 y&&(match R.T.d t,R.T.d t' with
    | .slice e,.int _=>Nat.beq (R.ty ty) e&&Nat.beq (R.T.s e) sz&&(R.T.d e).ok&&bH (R.T.z e)&&Nat.beq (cells (R.T.z e)).length (R.T.s e)&&pO (cells (R.T.z e)) z&& !Nat.beq sz 0
    |_,_=>false)
   |_,_=>false)
 | .builtin .delete,.IS ls ag y u=>(match c.args.toList,c.argTypes.toList with
   |[x1,x2],[t,_]=>ct R x1 y&&ct R x2 u&&qQ R t ls ag
   |_,_=>false)
 | .builtin .append,.Gs ty s y=>(match c.args.toList,c.argTypes.toList with
   |[x1,x2],[t,t']=>ct R x1 s&&ct R x2 y&&(match R.T.d t,R.T.d t' with
    | .slice e,.str=>Nat.beq (R.ty ty) e&&Nat.beq (R.T.s e) 1&&(R.T.d e).ok&&bH (R.T.z e)&&Nat.beq (cells (R.T.z e)).length (R.T.s e)
    |_,_=>false)
   |_,_=>false)
 |_,_=>false
def cO (R:Env) (o:Op) (i:tz):Bool:=
 match o,i with
 | .move x,.mv y=>ct R x y
 | .assign x,.mv y=>ct R x y
 | .pick c a b,.pick c' a' b'=>ct R c c'&&ct R a a'&&ct R b b'
 | .alloc t,.alloc ty z=>Nat.beq (R.ty ty) t&&(R.T.d t).ok&&bH (R.T.z t)&&pO (cells (R.T.z t)) z
 | .box t x,.box ty y=>Nat.beq (R.ty ty) t&&ct R x y
 | .build t ps,.build z qs=>bH (R.T.z t)&&Nat.beq (cells (R.T.z t)).length (R.T.s t)&&pO (cells (R.T.z t)) z&&(match R.T.d t with
   | .struct fs=>CW R.T.d fs&&Bf R fs ps.toList qs
   | .arr _ e=>(R.T.d e).ok&&Bg R (R.T.s e) ps.toList qs
   |_=>false)
 | .buildSlice t len ps,.aI ty sz len' z qs=>(match R.T.d t with
   | .slice e=>Nat.beq (R.ty ty) e&&Nat.beq (R.T.s e) sz&&Nat.beq len len'&&(R.T.d e).ok&&bH (R.T.z e)&&pO (cells (R.T.z e)) z&&Nat.beq (cells (R.T.z e)).length sz&& !Nat.beq sz 0&&Nat.ble (len*sz) 16777216&&Bh R ps.toList qs
   |_=>false)
 | .load t a,.load ag n y=>(R.T.d t).ok&&dT (R.T.d t).ag ag&&Nat.beq (R.T.s t) n&&ct R a y
 | .store t a x,.store n y u=>(R.T.d t).ok&&Nat.beq (R.T.s t) n&& !Nat.beq n 0&&ct R a y&&ct R x u
 | .nilCheck x,.bv y=>ct R x y
 | .binOp op _ x y _,.bin op' x' y'=>Nat.beq (J6 op) (J6 op')&&ct R x x'&&ct R y y'
 | .binOp op t x y _,.JQ neg x' y'=>isEq op neg&&ct R x x'&&ct R y y'&&(match R.P.underlying t with
   |some .bool=>true
   |_=>false)
 | .binOp op t x y _,.ol neg ls x' y'=>isEq op neg&&ct R x x'&&ct R y y'&& !R.P.eqGuardType R.P.depth t&&aK R.P t&&(match lq R.P 8 t with
   |some l=>Bi l ls
   |none=>false)
 | .binOp op _ x y _,.Z9 op' x' y'=>Nat.beq (J6 op) (J6 op')&&ct R x x'&&ct R y y'
 | .unOp op _ x,.un op' x'=>Nat.beq (On op) (On op')&&ct R x x'
 | .convert s t x,.conv k y=>(R.T.d s).ok&&(match R.T.d t with
   | .int k'=>pZ k' k
   |_=>false)&&ct R x y
 | .convert s t x,.Oc y=>(R.T.d s).ok&&(match R.T.d t with
   | .str=>true
   |_=>false)&&ct R x y
 | .makeFunc (.func f) first aN,.Ny g cs=>first.isEmpty&&Nat.beq (R.ft g) f&&mo R aN.toList cs
 | .fieldAddr s x f,.aC off y=>ct R x y&&(match R.T.d s with
   | .struct fs=>(match fs[f]? with
     |some (o,ft)=>Nat.beq o off&&(R.T.d ft).ok&& !Nat.beq (R.T.s ft) 0
     |none=>false)
   |_=>false)
 | .indexAddr t x j,.jN sz y i=>ct R x y&&ct R j i&&(match R.T.d t with
   | .slice e=>Nat.beq (R.T.s e) sz&&(R.T.d e).ok
   |_=>false)
 | .indexAddr t x j,.bt m sz y i=>ct R x y&&ct R j i&&(match R.T.d t with
   | .arr k e=>Nat.beq k m&&Nat.beq (R.T.s e) sz&&(R.T.d e).ok
   |_=>false)
 | .slice t x a b c,.sP ty sz y l h m=>ct R x y&&yK R a l&&yK R b h&&yK R c m&&(match R.T.d t with
   | .slice e=>Nat.beq (R.ty ty) e&&Nat.beq (R.T.s e) sz&&(R.T.d e).ok
   |_=>false)
 | .slice t x a b c,.JS m sz y l h mx=>ct R x y&&a.isNone&&b.isNone&&c.isNone&&l.isNone&&h.isNone&&mx.isNone&&Nat.ble m 1000000&&(match R.T.d t with
   | .arr k e=>Nat.beq k m&&Nat.beq (R.T.s e) sz&&(R.T.d e).ok
   |_=>false)
 | .makeSlice t l c,.mks ty sz z l' c'=>ct R l l'&&ct R c c'&&(match R.T.d t with
   | .slice e=>Nat.beq (R.ty ty) e&&Nat.beq (R.T.s e) sz&&(R.T.d e).ok&&bH (R.T.z e)&&pO (cells (R.T.z e)) z&&Nat.beq (cells (R.T.z e)).length sz&& !Nat.beq sz 0
   |_=>false)
 | .convert s t x,.Z' ty y=>ct R x y&&(match R.T.d s,R.T.d t with
   | .str,.slice e=>Nat.beq (R.ty ty) e&&(match R.T.d e with
     | .int .u8=>true
     |_=>false)
   |_,_=>false)
 | .slice t x a b c,.Oe y l h=>ct R x y&&yK R a l&&yK R b h&&c.isNone&&(match R.T.d t with
   | .str=>true
   |_=>false)
 | .binOp op t x (.const c) _,.Gp neg x'=>isEq op neg&&ct R x x'&&(match c,R.P.underlying t with
   | .pointer none,some (.pointer _)=>true
   |_,_=>false)
 | .binOp op t x (.const c) _,.yA neg x'=>isEq op neg&&ct R x x'&&(match c,R.P.underlying t with
   | .slice none 0 0,some (.slice _)=>true
   |_,_=>false)
 | .binOp op t x (.const c) _,.Gq neg x'=>isEq op neg&&ct R x x'&&(match c,R.P.underlying t with
   | .map none,some (.map _ _)=>true
   |_,_=>false)
 | .sliceToArrayPointer t x,.Z8 m sz y=>ct R x y&&(match R.T.d t with
   | .arr k e=>Nat.beq k m&&Nat.beq (R.T.s e) sz&&(R.T.d e).ok
   |_=>false)
 | .field t x f,.Dw ag off n y=>ct R x y&&(match R.T.d t with
   | .struct fs=>(match fs[f]? with
     |some (o,ft)=>Nat.beq o off&&(R.T.d ft).ok&&Nat.beq (R.T.s ft) n&&dT (R.T.d ft).ag ag
     |none=>false)
   |_=>false)
 | .slice t x a b c,.IR ty sz y=>ct R x y&&a.isNone&&TZ b&&TZ c&&(match R.T.d t with
   | .slice e=>Nat.beq (R.ty ty) e&&Nat.beq (R.T.s e) sz&&(R.T.d e).ok
   |_=>false)
 | .index t x j,.JR ag m sz y i=>ct R x y&&ct R j i&&(match R.T.d t with
   | .arr k e=>Nat.beq k m&&Nat.beq (R.T.s e) sz&&(R.T.d e).ok&&dT (R.T.d e).ag ag
   |_=>false)
 | .index t x j,.Od y i=>ct R x y&&ct R j i&&(match R.T.d t with
   | .str=>true
   |_=>false)
 | .convert s t x,.b2s y=>ct R x y&&(match R.T.d s,R.T.d t with
   | .slice e,.str=>(match R.T.d e with
     | .int .u8=>true
     |_=>false)
   |_,_=>false)
 | .extract x i,.ext y j=>ct R x y&&Nat.beq i j
 | .makeMap _ none,.TV _ _ _ sz=> !Nat.beq sz 0
 | .lookup t x y ok,.Gu ls ag _ z GA x' y'=>dT ok GA&&ct R x x'&&ct R y y'&&qQ R t ls ag&&(match R.T.d t with
   | .map _ e=>(R.T.d e).ok&&yJ (R.T.z e) z
   |_=>false)
 | .mapUpdate t x y v,.JV ls ag _ x' y' v'=>ct R x x'&&ct R y y'&&ct R v v'&&qQ R t ls ag
 | .insert t x y v,.JV ls ag _ x' y' v'=>ct R x x'&&ct R y y'&&ct R v v'&&qQ R t ls ag
 | .mapEntry t x y,.U' ls ag _ z x' y'=>ct R x x'&&ct R y y'&&qQ R t ls ag&&(match R.T.d t with
   | .map _ e=>(R.T.d e).ok&&yJ (R.T.z e) z
   |_=>false)
 | .lookup t x y false,.JW ls ag x' y'=>ct R x x'&&ct R y y'&&qQ R t ls ag&&(match R.T.d t with
   | .map _ e=>(R.T.d e).ok&&yJ (R.T.z e) (.int .i64 0)
   |_=>false)
 | .mapEntry t x y,.bX ls ag x' y'=>ct R x x'&&ct R y y'&&qQ R t ls ag&&(match R.T.d t with
   | .map _ e=>(R.T.d e).ok&&yJ (R.T.z e) (.int .i64 0)
   |_=>false)
 | .entryStore _ x st v,.Va _ x' st' v'=>ct R x x'&&ct R st st'&&ct R v v'
 | .range t x,.JX y=>ct R x y&&(match R.T.d t with
   | .map _ _=>true
   |_=>false)
 | .next x false,.Nz y=>ct R x y
 | .entry x,.F9 y=>ct R x y
 | .call c,i=>bw R c i
 |_,_=>false
end Go.AM
namespace Go.AM
open Go.RowKit
variable {P:Program} {T:TT} {X:bV} {o:Oper} {F:aR} {M:bf}
theorem Bj (hT:cU P T) {t f off e:Nat} {fs:List (Nat × Nat)} {x:Operand} {cs:List AV} {K:AV→Prop} (ht:T.d t= .struct fs) (Oo:fs[f]? =some (off,e)) (hok:(T.d e).ok=true) (ho:o.op= .field t x f) (hx:ev F x= .agg cs)
  (h:apart (T.d e).ag (T.s e) off cs K):∃av,bB P X o F M av [] []∧K av:=by
 have hx':x ∈ o.op.operands.toList:=by simp[ho,Op.operands]
 obtain⟨D,it,z,hD,hf,_⟩:=hT t (by rw[ht]; simp)
 rw[ht]at hf
 obtain⟨gs,rfl,Jz⟩:=iH rfl hf
 obtain⟨De,ie,_,CK,IP,hie,lf,_⟩:=hT e (TD.dt hok)
 obtain⟨av,h1,h2,h3,h4⟩:=ep h
 obtain⟨fd,hfd,hfo,hft⟩:∃fd,gs[f]? =some fd∧fd.offset=off∧fd.type=e:=by
  rw[Jz,List.getElem?_map]at Oo
  cases hg:gs.toList[f]? with
  |none=>simp[hg]at Oo
  |some fd=>
   simp only[hg,Option.map_some,Option.some.injEq,Prod.mk.injEq]at Oo
   exact⟨fd,by simpa using hg,Oo.1,Oo.2⟩
 refine⟨av,aD fun M' N ρ I ac w hW hU hN=> ?_,h4⟩
 have r1:=ao hU x hx'
 rw[hx]at r1
 generalize hv:ac.eval x=v at r1
 have hle:off+T.s e≤cs.length∨T.s e=0:=by
  simp only[List.length_take,List.length_drop]at h1; omega
 cases r1 with
 |agg _ vs hvl CH JM=>
  have Dl:∃u,(part e vs.toArray off).run P w= .ok u w∧aL ρ (lens M') I w N av u:=by
   unfold part
   simp only[Sem.run_bind,mb CK IP,Result.andThen_ok]
   cases iz:(T.d e).ag with
   |true=>
    simp only[if_pos,Sem.run_bind,br hie,Result.andThen_ok,Sem.run_pure]
    refine⟨_,rfl,?_⟩
    rw[h2,iz,if_pos rfl,lf]
    have hex:vs.toArray.extract off (off+T.s e)=((vs.drop off).take (T.s e)).toArray:=by
     apply Array.ext'
     simp
    rw[hex]
    refine .agg _ _ (by rw[h1]; simp only[List.length_take,List.length_drop]; omega) (fun u hu=>CH u (List.mem_of_mem_drop (List.mem_of_mem_take hu))) (fun i hi=> ?_)
    rw[h1]at hi
    rw[cG _ _ _ _ _ hi,cG _ _ _ _ _ hi]
    exact JM (off+i) (by omega)
   |false=>
    have h5:=h3 iz
    have hlt:off<cs.length:=by omega
    have uQ:off<vs.length:=by omega
    simp only[Bool.false_eq_true,if_false]
    have:vs.toArray[off]? =some vs[off]:=by simp[uQ]
    rw[this]
    refine⟨_,Sem.run_pure _ _ _,?_⟩
    rw[h2,iz,h5]
    have e1:((cs.drop off).take 1).headD .bad=cs.getD off .bad:=by
     rw[List.drop_eq_getElem_cons hlt,List.take_succ_cons]
     simp[List.getD_eq_getElem?_getD,hlt]
    simp only[Bool.false_eq_true,if_false,e1]
    have:=JM off hlt
    rwa[show vs.getD off default=vs[off] by simp[List.getD_eq_getElem?_getD,uQ]]at this
  obtain⟨u,hu,hr⟩:=Dl
  refine⟨u,?_,hr⟩
  simp only[execOp,ho,hv,Instr.field,asAgg,Sem.run_bind,Sem.run_pure,Result.andThen_ok,run_underlying hD,hfd,hfo,hft,hu]
theorem qR {a b:List AV} {sz j:Nat} (h:a.length=sz):(a++b).getD j .bad=if j<sz then a.getD j .bad else b.getD (j - sz) .bad:=by
 subst h
 by_cases hlt:j<a.length
 ·rw[if_pos hlt]; simp[List.getD_eq_getElem?_getD,List.getElem?_append_left hlt]
 ·rw[if_neg hlt]; simp[List.getD_eq_getElem?_getD,List.getElem?_append_right (Nat.le_of_not_lt hlt)]
theorem DK (hT:cU P T) {t m e sz:Nat} {x:Operand} {es:List (List AV)} (ht:T.d t= .arr m e) (ho:o.op= .sliceToArrayPointer t x) (hx:ev F x= .aH sz es) (hm:m≤es.length) (h0:0<m):
  bB P X o F M (.aY (es.take m).flatten 0) [] []:=by
 have hx':x ∈ o.op.operands.toList:=by simp[ho,Op.operands]
 obtain⟨D,it,z,hD,hf,_⟩:=hT t (by rw[ht]; simp)
 obtain rfl:=fm ht hf
 refine aD fun M' N ρ I ac w hW hU hN=> ?_
 have r1:=ao hU x hx'
 rw[hx]at r1
 generalize hv:ac.eval x=v at r1
 cases r1 with
 |cn=>simp at hm; omega
 |aH _ _ b q cap c hl hc hI hs h1 hcell hr=>
  refine⟨.pointer (some ⟨b,q,none⟩),?_,?_⟩
  ·simp only[execOp,ho,hv,Instr.arrayAt,Sem.run_bind,Sem.run_pure,Result.andThen_ok,run_underlying hD,if_neg (Nat.not_lt.2 hm)]
  ·have hfl:(es.take m).flatten.length=m*sz:=by
    rw[List.length_flatten,show (es.take m).map List.length=List.replicate m sz from ?_]
    ·simp
    ·apply List.ext_getElem
     ·simp; omega
     ·intro i hi hi'
      simp at hi ⊢
      exact hs _ (List.getElem_mem _)
   have Bk:∀j,j<m*sz→j / sz<es.length∧j % sz<sz∧(es.take m).flatten.getD j .bad=(es.getD (j / sz) []).getD (j % sz) .bad:=by
    intro j hj
    have hsz:0<sz:=by
     rcases Nat.eq_zero_or_pos sz with h|h
     ·subst h; simp at hj
     ·exact h
    have hd:j / sz<m:=Nat.div_lt_of_lt_mul (by rw[Nat.mul_comm]; exact hj)
    refine⟨by omega,Nat.mod_lt _ hsz,?_⟩
    have key:∀ (l:List (List AV)) (j:Nat),(∀e ∈ l,e.length=sz)→l.flatten.getD j .bad=(l.getD (j / sz) []).getD (j % sz) .bad:=by
     intro l
     induction l with
     |nil=>intro j _; simp
     |cons a r ih=>
      intro j hl
      have ha:=hl a List.mem_cons_self
      rw[List.flatten_cons,qR ha]
      by_cases hlt:j<sz
      ·rw[if_pos hlt,Nat.div_eq_of_lt hlt,Nat.mod_eq_of_lt hlt]; rfl
      ·rw[if_neg hlt,ih (j - sz) (fun e he=>hl e (List.mem_cons_of_mem _ he))]
       have e1:j / sz=(j - sz) / sz+1:=by
        rw[Nat.div_eq_sub_div hsz (by omega)]
       have e2:j % sz=(j - sz) % sz:=by
        rw[Nat.mod_eq_sub_mod (by omega)]
       rw[e1,e2]; simp
    rw[key _ _ (fun e he=>hs e (List.mem_of_mem_take he))]
    congr 1
    simp[List.getD_eq_getElem?_getD,List.getElem?_take,hd]
   refine .aY _ 0 b q (fun j=>c (j / sz) (j % sz)) hI (fun j hj=> ?_) (fun j hj=> ?_) (fun j hj=> ?_)
   ·rw[hfl]at hj
    obtain⟨a1,a2,_⟩:=Bk j hj
    exact h1 _ _ a1 a2
   ·rw[hfl]at hj
    obtain⟨a1,a2,_⟩:=Bk j hj
    have:=hcell _ _ a1 a2
    have e:q+j / sz*sz+j % sz=q+j:=by rw[Nat.add_assoc,Nat.div_add_mod' j sz]
    rwa[e]at this
   ·rw[hfl]at hj
    obtain⟨a1,a2,a3⟩:=Bk j hj
    rw[a3]; exact hr _ _ a1 a2
theorem sR {neg:Bool} {t k e:TypeId} {y:Operand} {x:Operand} {q:Option Nat} {w:World} (hu:P.underlying t=some (.map k e)):
  (do eqGuard (if neg then .neq else .eql) t x y (.map q) (.map none); binOp (if neg then .neq else .eql) t (.map q) (.map none):Sem Value).run P w= .ok (.bool (if neg then !q.isNone else q.isNone)) w:=by
 have e1:=run_equal_map_nil (P:=P) (w:=w) t k e q hu
 cases neg<;>simp[Sem.run_bind,eqGuard,binOp,e1]
theorem nb {neg:Bool} {t k e yt:TypeId} {x:Operand} {b:Bool} {Ml:Mem} (hM:M=aa Ml) (ho:o.op= .binOp (if neg then .neq else .eql) t x (.const (.map none)) yt) (hu:P.underlying t=some (.map k e))
  (hx:(ev F x= .cb∧b=true)∨(∃n bl,ev F x= .omap n∧aa Ml n=some bl∧bl.ln=0)∧b=false):bB P X o F M (.bool (if neg then !b else b)) [] []:=by
 have hx':x ∈ o.op.operands.toList:=by simp[ho,Op.operands]
 refine aD fun M' N ρ I ac w hW hU hN=> ?_
 have r1:=ao hU x hx'
 have key:∃q:Option Nat,ac.eval x= .map q∧q.isNone=b:=by
  rcases hx with⟨h,rfl⟩|⟨⟨n,bl,h,hb,hl⟩,rfl⟩
  ·rw[h]at r1
   generalize ac.eval x=v at r1
   cases r1
   exact⟨none,rfl,rfl⟩
  ·rw[h]at r1
   obtain⟨sl,dR,dZ⟩:=bc (F:=F) x hx' (n:=n) (by rw[h]; simp[AV.names])
   have b9:M' n=some bl:=(hN sl dR n dZ).trans (by rw[hM]; exact hb)
   have dw:lens M' n=some (0,bl.sz):=by rw[aA]; exact⟨bl,b9,hl,rfl⟩
   generalize ac.eval x=v at r1
   cases r1 with
   |omap _ _ hn h1 h=>
    obtain⟨g,cap,_,hv⟩:=h _ dw
    exact⟨_,hv,rfl⟩
 obtain⟨q,hv,hq⟩:=key
 refine⟨_,?_,.bool _⟩
 have e1:=sR (P:=P) (neg:=neg) (y:= .const (.map none)) (x:=x) (q:=q) (w:=w) hu
 rw[hq]at e1
 have hc:ac.eval (.const (.map none))= .map none:=rfl
 simp only[execOp,ho,hv,hc]
 simp only[Sem.run_bind]at e1 ⊢
 rw[e1]
 simp
end Go.AM
