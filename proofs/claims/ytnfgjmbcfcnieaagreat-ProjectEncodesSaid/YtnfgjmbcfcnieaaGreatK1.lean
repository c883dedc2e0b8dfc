/- Of the reckoning machine, and what is proved with it: texts joined by program. -/
import Derived.Test.YtnfgjmbcfcnieaaGreatK0
import Derived.RangeFuncRecord
import Derived.Laws.StructEq
import Derived.ChangeKeysEq
import Derived.Laws.Cover3
import Derived.Laws.Pointers
import Derived.Laws.BytesString
import Derived.Laws.MakeOwn
import Derived.Lib.ConvBytes
import Derived.WideKeyRuns
set_option linter.all false
namespace Go.AM
open Go.RowKit
def lh (w:World) (l:Nat):Prop:=∀off,w.cell? ⟨l,off,none⟩=none
theorem mJ {w:World} {l:Nat} {r:Loop} (h:w.heap[l]? =some (.loop r)):lh w l:=fun off=>by simp[World.cell?,h]
theorem oV {w:World} {l:Nat} {r:Option (List Deferred)} (h:w.heap[l]? =some (.deferred r)):lh w l:=fun off=>by simp[World.cell?,h]
theorem dC {w:World} {l k:Nat} {o:Obj} (h:k≠l):(w.putObj l o).heap[k]? =w.heap[k]? :=World.putObj_heap_other (by omega)
theorem putObj_size (w:World) (l:Nat) (o:Obj):(w.putObj l o).heap.size=w.heap.size:=by simp[World.putObj]
theorem s6 {w:World} {l:Nat} {o:Obj} (hc:lh w l) {b off:Nat} {v:Value} (h:w.cell? ⟨b,off,none⟩=some v):(w.putObj l o).cell? ⟨b,off,none⟩=some v:=by
 have hb:b≠l:=fun e=>by subst e; rw[hc]at h; simp at h
 exact (cell_of_heap (dC hb)).trans h
theorem aS.A7 {ρ:Place} {L:bn} {I:Nat→Prop} {w:World} {l:Nat} (o:Obj) (hc:lh w l) {N:Nat→Prop} {a:AV} {v:Value} (h:aS ρ L I w N a v):aS ρ L I (w.putObj l o) N a v:=by
 induction h with
 |int k n=>exact .int k n
 |bool b=>exact .bool b
 |str s=>exact .str s
 |bU=>exact .bU
 |an=>exact .an
 |au=>exact .au
 |dL=>exact .dL
 |ci=>exact .ci
 |lW n r=>exact .lW n r
 |loc n len i off v hn h1 h=>exact .loc n len i off v hn h1 h
 |bh n len v hn h1 h=>exact .bh n len v hn h1 h
 |dP n len i off ca v hn h1 h=>exact .dP n len i off ca v hn h1 h
 |omap n v hn h1 h=>exact .omap n v hn h1 h
 |cI sz a cap hc=>exact .cI sz a cap hc
 |aO sz es b o cap c hl sk hI hs h1 hcell hr ih=>exact .aO sz es b o cap c hl sk hI hs h1 (fun i j hi hj=>s6 hc (hcell i j hi hj)) ih
 |bv e off b o c hI h1 hcell hr ih=>exact .bv e off b o c hI h1 (fun j hj=>s6 hc (hcell j hj)) ih
 |bW f aW vs hl hr ih=>exact .bW f aW vs hl ih
 |oE f aW vs hl hr ih=>exact .oE f aW vs hl ih
 |agg cs vs hl h1 hr ih=>exact .agg cs vs hl h1 ih
 |aU cs vs hl hr ih=>exact .aU cs vs hl ih
 |bad v=>exact .bad v
section
variable {C:ct} {ρ:Place} {I:Nat→Prop} {M:bA} {N:Nat→Prop} {w:World} {l:Nat}
theorem Dh (o:Obj) (hc:lh w l) (hI:I l) {SZ:World} (h0:SZ.heap.size=C.w0.heap.size) {n:Nat} {b:bu} (B:p9 C ρ (lens M) I w N n b):p9 {C with w0:=SZ} ρ (lens M) I (w.putObj l o) N n b:=by
 refine⟨B.lt,B.even,B.dY,fun g cap hg=> ?_,fun k ka va r sn la hb=> ?_⟩
 rotate_left
 ·obtain⟨g,cap,hg,i1,i2,i3⟩:=B.iter k ka va r sn la hb
  obtain⟨_,_,_,_,jK,_⟩:=B.real g cap hg
  exact⟨g,cap,hg,by show SZ.heap.size≤r; omega,i2,i3.at (dC fun e=>jK (e ▸ hI)) (dC fun e=>i2 (e ▸ hI))⟩
 obtain⟨cs,fr,hc1,AN,jK,xE,zC,xH,AO,AP⟩:=B.real g cap hg
 have hne:g≠l:=fun e=>jK (e ▸ hI)
 refine⟨cs,fr,hc1.at (dC hne),AN,jK,?_,zC,xH,AO,fun i j hi hj=> ?_⟩
 ·rcases xE with h|h
  ·exact .inl h
  ·exact .inr (by show SZ.heap.size≤g; omega)
 ·obtain⟨u,hu,nK,hr⟩:=AP i j hi hj
  exact⟨u,hu,nK,hr.A7 o hc⟩
theorem cY.A7 (h:cY C ρ I M N w) (o:Obj) (hc:lh w l) (hI:I l) (hl:C.w0.heap.size≤l):cY C ρ I M N (w.putObj l o):=by
 refine⟨fun n b hb=>Dh o hc hI rfl (h.bg n b hb),h.inj,h.nN,fun g hg=>by rw[putObj_size]; exact h.lt g hg,h.old,?_,h.pn,h.CR,h.par⟩
 exact⟨h.keeps.os,h.keeps.tape,h.keeps.output,h.keeps.drawn,by rw[putObj_size]; exact h.keeps.size,fun g hg hf=>(dC (by omega)).trans (h.keeps.block g hg hf)⟩
theorem cY.JQ (h:cY C ρ I M N w) (hI:C.I0 l) {o:Obj} (hl:C.w0.heap[l]? =some o):I l∧w.heap[l]? =some o:=
 ⟨h.nN l hI,(h.keeps.block l (Array.getElem?_eq_some_iff.1 hl).1 (fun hf=>(h.CR l hf).2 hI)).trans hl⟩
end
end Go.AM
namespace Go.AM
open Go.RowKit
variable {P:Program} {T:TT} {X:ct}
theorem vS {S:St} {a:Act} {w w1:World} {ρ:Place} {I:Nat→Prop} (hF:js ρ I w X S a) {av:AV} {ws:List (Nat × bu)} {v:Value} {bp:Nat} {nw:List Nat} {d:Option Nat}
  (xZ:∀p ∈ ws,p.1<bp) (hle:S.nx≤bp) (hd:∀x,d=some x→x<X.size) (hp:gC X (ae S.M) (· <S.nx) ρ I w av ws v w1):
  ∃ρ1 I1,(∀g,I g→I1 g)∧(∀g,I g→w1.heap[g]? =w.heap[g]?)∧cY X ρ1 I1 (ae (cL S.M ws)) (· <bp) w1∧js ρ1 I1 w1 X ⟨gB S.F d av,cL S.M ws,bp⟩ (a.put d v):=by
 obtain⟨ρ1,I1,E,W,R⟩:=hp
 have hN:∀m,eT (· <S.nx) ws m→m<bp:=by
  rintro m (h|⟨b,h⟩)
  ·have:m<S.nx:=h
   omega
  ·exact xZ _ h
 have hM:ae (cL S.M ws)=df (ae S.M) ws:=ig ws S.M
 refine⟨ρ1,I1,E.nN,E.cell,?_,?_,?_,?_⟩
 ·show cY X ρ1 I1 (ae (cL S.M ws)) (· <bp) w1
  rw[hM]
  refine⟨fun n b hb=> ?_,W.inj,W.nN,W.lt,W.old,W.keeps,fun n hn=>hN n (W.pn n hn),W.CR,W.par⟩
  have B:=W.bg n b hb
  refine⟨hN n B.lt,B.even,B.dY,fun g cap hρ=> ?_,B.iter⟩
  obtain⟨cs,fr,hc1,AN,jK,xE,zC,xH,AO,AP⟩:=B.real g cap hρ
  refine⟨cs,fr,hc1,AN,jK,xE,zC,xH,AO,fun i j hi hj=> ?_⟩
  obtain⟨u,hu,nK,hr⟩:=AP i j hi hj
  exact⟨u,hu,nK,hr.wide hN⟩
 ·intro i
  show aS ρ1 (lens (ae (cL S.M ws))) I1 w1 (· <bp) (look (gB S.F d av) i) ((a.put d v).tmps.getD i undef)
  rw[hM]
  rcases vK (a:=a) (d:=d) (v:=v) (F:=S.F) (av:=av) (i:=i) hF.size hd with⟨h1,h2⟩|⟨h1,h2⟩
  ·rw[h1,h2]; exact R.wide hN
  ·rw[h1,h2]; exact ((hF.rep i).rZ E (fun _ h=>h)).wide (fun m h=>by have:m<S.nx:=h; show m<bp; omega)
 ·cases d<;>exact hF.defers.rZ E
 ·cases d with
  |none=>exact hF.size
  |some x=>simpa[Act.put]using hF.size
theorem lk {S:St} {a:Act} {w w1:World} {ρ:Place} {I:Nat→Prop} (hF:js ρ I w X S a) {av:AV} {ws:List (Nat × bu)} {v:Value} {bp:Nat} {nw:List Nat} {d:Option Nat}
  (xZ:∀p ∈ ws,p.1<bp) (hle:S.nx≤bp) (hd:∀x,d=some x→x<X.size) (hp:gC X (ae S.M) (· <S.nx) ρ I w av ws v w1):iJ X ⟨gB S.F d av,cL S.M ws,bp⟩ (a.put d v) w1:=by
 obtain⟨ρ1,I1,_,_,h1,h2⟩:=vS (nw:=nw) hF xZ hle hd hp
 exact⟨ρ1,I1,h1,h2⟩
theorem Di {a:Act} {F:bj} {b:Bool} {s:Nat} (h:a.tmps.getD s undef= .bool b) (i:Nat):look ((s,AV.bool b)::F) i=AV.bool b∧a.tmps.getD i undef= .bool b∨look ((s,AV.bool b)::F) i=look F i:=by
 by_cases e:i=s
 ·subst e; exact .inl ⟨by simp[look],h⟩
 ·have hb:(i==s)=false:=by simpa using e
  exact .inr (by simp[look,hb])
theorem jw {S:St} {a:Act} {w:World} {s:Nat} {b:Bool} (h:iJ X S a w) (hv:a.tmps.getD s undef= .bool b):iJ X ⟨(s,.bool b)::S.F,S.M,S.nx⟩ a w:=by
 obtain⟨ρ,I,W,F⟩:=h
 refine⟨ρ,I,W,fun i=> ?_,F.defers,F.size⟩
 rcases Di (F:=S.F) hv i with⟨h1,h2⟩|h1
 ·rw[h1,h2]; exact .bool _
 ·rw[h1]; exact F.rep i
theorem gO.steps {b:Frame} {R:St→Prop} {ks oW:List It} {a a':Act} {w w':World} (hs:∀cs,Steps P (lone (b.atR a (ks.map It.item)) cs w) (lone (b.atR a' (oW.map It.item)) cs w')) (hsub:∀c post k',(It.fe c post::k') <:+ oW→(It.fe c post::k') <:+ ks)
  (h:gO P X b R oW a' w'):gO P X b R ks a w:=by
 intro cs
 obtain⟨a2,w2,S2,hS,h1|h1⟩:=h cs
 ·obtain⟨todo,hl,h2,h3⟩:=h1
  exact⟨a2,w2,S2,hS,.inl ⟨todo,hl,(hs cs).trans h2,h3⟩⟩
 ·obtain⟨c,post,k',h2,h3,h4⟩:=h1
  exact⟨a2,w2,S2,hS,.inr ⟨c,post,k',hsub _ _ _ h2,(hs cs).trans h3,h4⟩⟩
section
variable {b:Frame} {a:Act} {w:World} {k:List Item} {cs:List Frame}
theorem step_scope {c:Code}:step P (lone (b.atR a (.code (.scope c)::k)) cs w)= .next (lone (b.atR a (.code c:: .inScope c::k)) cs w):=
 step_lone_go (by simp[stepG,stepG.exec,Frame.atR])
theorem step_inScope {c:Code}:step P (lone (b.atR a (.inScope c::k)) cs w)= .next (lone (b.atR a k) cs w):=
 step_lone_go (by simp[stepG,stepG.exec,Frame.atR])
end
theorem qv {b:Frame} {a:Act} {w:World} {cs:List Frame} {todo:List Item} (hb:b.roundOf=none) (h:zG b.roundOf.isSome todo):Steps P (lone (b.atR a todo) cs w) (lone {b.atR a todo with mode:= .returning} cs w):=by
 rcases h with rfl|⟨_,k,rfl⟩
 ·exact .one (stepR_end hb)
 ·exact .one (stepR_ret hb)
theorem mK {b:Frame} {a:Act} {w:World} {cs:List Frame} {todo:List Item} {ρ:Place} {I:Nat→Prop} {M:bA} {N:Nat→Prop} (W:cY X ρ I M N w) (hd:kr I w X a.defers):
  ∃w1,Steps P (lone {b.atR a todo with mode:= .returning} cs w) (lone {b.atR {a with defers:=[]} todo with mode:= .returning} cs w1)∧cY X ρ I M N w1∧
   ∀N' av v,aS ρ (lens M) I w N' av v→aS ρ (lens M) I w1 N' av v:=by
 obtain⟨Ds,h1,h2,h3⟩:=hd
 obtain⟨tm,ds⟩:=a
 simp only at h1
 subst h1
 induction Ds generalizing w with
 |nil=>exact⟨w,.refl _ _,W,fun _ _ _ h=>h⟩
 |cons D Ds ih=>
  obtain⟨k1,k2,k3⟩:=h3 D List.mem_cons_self
  rw[List.nodup_cons]at h2
  have W':=W.A7 (.deferred none) (oV k3) k2 k1
  obtain⟨w1,s1,s2,s3⟩:=ih W' h2.2 (fun D' gA=>by
   obtain⟨q1,q2,q3⟩:=h3 D' (List.mem_cons_of_mem _ gA)
   exact⟨q1,q2,(dC (fun e=>h2.1 (by rw[←e]; exact gA))).trans q3⟩)
  refine⟨w1,.head (step_lone_go ?_) s1,s2,fun N' av v h=>s3 _ _ _ (h.A7 _ (oV k3))⟩
  simp[stepG,unwind,Frame.atR,run_takeDeferred k3]
theorem ew {c:IB} {post:St→Prop} {k' k:List It} {x y:It} (hx:∀c p,x≠ .fe c p) (h:(It.fe c post::k') <:+ x::k):(It.fe c post::k') <:+ y::k:=by
 rcases List.suffix_cons_iff.1 h with h|h
 ·exact (hx c post (List.cons.inj h).1.symm).elim
 ·exact h.trans (List.suffix_cons _ _)
theorem gp {c:IB} {post:St→Prop} {k' k:List It} {y:It} (h:(It.fe c post::k') <:+ k):(It.fe c post::k') <:+ y::k:=h.trans (List.suffix_cons _ _)
theorem dU {id:Nat}:∀ {k k':List It},IE id k=some k'→k' <:+ k∧exitTo id (k.map It.item)=some (k'.map It.item)
 |[],k',h=>by simp[IE]at h
 | .bg id'::k,k',h=>by
   simp only[IE]at h
   by_cases NF:id'=id
   ·subst NF
    simp at h
    subst h
    exact⟨List.suffix_cons _ _,by simp[It.item,exitTo]⟩
   ·have hb:(id'==id)=false:=by simpa using NF
    rw[hb]at h
    obtain⟨h1,h2⟩:=dU (k:=k) h
    exact⟨h1.trans (List.suffix_cons _ _),by simp[It.item,exitTo,hb,h2]⟩
 | .code c::k,k',h=>by
   obtain⟨h1,h2⟩:=dU (k:=k) h
   exact⟨h1.trans (List.suffix_cons _ _),by simp[It.item,exitTo,h2]⟩
 | .inl c::k,k',h=>by
   obtain⟨h1,h2⟩:=dU (k:=k) h
   exact⟨h1.trans (List.suffix_cons _ _),by simp[It.item,exitTo,h2]⟩
 | .fe c p::k,k',h=>by
   obtain⟨h1,h2⟩:=dU (k:=k) h
   exact⟨h1.trans (List.suffix_cons _ _),by cases c<;>simp[It.item,IB.item,exitTo,h2]⟩
 | .k7 c::k,k',h=>by
   obtain⟨h1,h2⟩:=dU (k:=k) h
   exact⟨h1.trans (List.suffix_cons _ _),by simp[It.item,exitTo,h2]⟩
 | .ops all i r gd::k,k',h=>by
   obtain⟨h1,h2⟩:=dU (k:=k) h
   exact⟨h1.trans (List.suffix_cons _ _),by simp[It.item,exitTo,h2]⟩
theorem JR {size id:Nat} {nr:Bool} {k k':List It} (h:IE id k=some k') (hk:∀x ∈ k,AT size nr x):∀x ∈ k',AT size nr x:=fun x hx=>hk x ((dU h).1.subset hx)
theorem Dj {c0:Code} {c:IB} {post:St→Prop} {k' k:List It} (h:(It.fe c post::k') <:+ .code c0:: .inl c0::k):(It.fe c post::k') <:+ .inl c0::k:=by
 rcases List.suffix_cons_iff.1 h with h|h
 ·simp at h
 ·exact h
theorem A8 {c0 c1:Code} {c:IB} {post:St→Prop} {k' k:List It} (h:(It.fe c post::k') <:+ .code c0:: .inl c0::k):(It.fe c post::k') <:+ .code c1::k:=by
 rcases List.suffix_cons_iff.1 h with h|h
 ·simp at h
 ·exact ew (by simp) h
end Go.AM
namespace Go.AM
open Go.RowKit
variable {P:Program} {T:TT} {X:ct}
def cU:Place:=fun _=>none
def fB:bn:=fun _=>none
structure Oe (z:Bool) (w w':World):Prop extends Below w.heap.size w w' where
 drawn:(zd z w).drawn≤w'.drawn
abbrev ZS:=Oe false
def fC (z:Bool) (P:Program) (f:Nat) (args:List AV) (av:AV):Prop:=
 ∀I w vs,(∀g,I g→g<w.heap.size)→dp cU fB I w cE args vs→
  Calls P f vs.toArray w fun e w1=>∃v I1,e= .returned v∧Oe z w w1∧(∀g,I g→I1 g)∧(∀g,I1 g→g<w1.heap.size)∧(∀g,g<w.heap.size→I1 g→I g)∧aS cU fB I1 w1 cE av v
abbrev x0:=fC false
mutual
theorem fD {N:Nat→Prop}:∀ (a:AV),(∀m ∈ a.names,N m)→a.under N
 | .loc n len i off,h=>by simpa[AV.under]using h n (by simp[AV.names])
 | .bh n len,h=>by simpa[AV.under]using h n (by simp[AV.names])
 | .dP n len i off ca,h=>by simpa[AV.under]using h n (by simp[AV.names])
 | .omap n,h=>by simpa[AV.under]using h n (by simp[AV.names])
 | .bW f cs,h=>by simpa[AV.under]using dH cs (fun m hm=>h m (by simpa[AV.names]using hm))
 | .agg cs,h=>by simpa[AV.under]using dH cs (fun m hm=>h m (by simpa[AV.names]using hm))
 | .aU cs,h=>by simpa[AV.under]using dH cs (fun m hm=>h m (by simpa[AV.names]using hm))
 | .int ..,_=>by simp[AV.under]
 | .bool ..,_=>by simp[AV.under]
 | .str ..,_=>by simp[AV.under]
 | .bU,_=>by simp[AV.under]
 | .an,_=>by simp[AV.under]
 | .au,_=>by simp[AV.under]
 | .dL,_=>by simp[AV.under]
 | .ci,_=>by simp[AV.under]
 | .lW ..,_=>by simp[AV.under]
 | .aO ..,_=>by simp[AV.under]
 | .bv ..,_=>by simp[AV.under]
 | .bad,_=>by simp[AV.under]
theorem dH {N:Nat→Prop}:∀ (cs:List AV),(∀m ∈ AV.aD cs,N m)→AV.fh N cs
 |[],_=>by simp[AV.fh]
 |c::cs,h=>by
  simp only[AV.fh]
  exact⟨fD c (fun m hm=>h m (by simp[AV.aD,hm])),dH cs (fun m hm=>h m (by simp[AV.aD,hm]))⟩
end
theorem aS.alone {ρ:Place} {L:bn} {I:Nat→Prop} {w:World} {N:Nat→Prop} {a:AV} {v:Value} (h:aS ρ L I w N a v) (hn:a.names=[]) (ρ':Place) (L':bn):aS ρ' L' I w cE a v:=
 (h.low (N':=cE) (fD a (fun m hm=>by rw[hn]at hm; simp at hm))).bare (fun _ h=>h) ρ' L'
theorem dD {cs:List AV} (h:AV.aD cs=[]) (j:Nat):(cs.getD j .bad).names=[]:=by
 induction cs generalizing j with
 |nil=>simp[AV.names]
 |cons c cs ih=>
  simp only[AV.aD,List.append_eq_nil_iff]at h
  cases j with
  |zero=>simpa using h.1
  |succ j=>simpa using ih h.2 j
theorem dp.alone {ρ:Place} {L:bn} {I:Nat→Prop} {w:World} {N:Nat→Prop} {as:List AV} {vs:List Value} (h:dp ρ L I w N as vs) (hn:AV.aD as=[]) (ρ':Place) (L':bn):dp ρ' L' I w cE as vs:=
 ⟨h.1,fun j hj=>(h.2 j hj).alone (dD hn j) ρ' L'⟩
theorem fC.Of {z:Bool} {f:Nat} {args:List AV} {av:AV} (h:fC z P f args av) (hz:vz z X) (hn:AV.aD args=[]) (M:bA):oF P X f args M av [] []:=by
 refine⟨fun p hp=>by simp at hp,fun M' N ρ I w vs hW _ _ hR=> ?_⟩
 refine (h I w vs hW.lt (hR.alone hn _ _)).mono ?_
 rintro e w1 ⟨v,I1,rfl,hb,h1,h2,h3,hr⟩
 obtain⟨E,W⟩:=hW.ext' (w':=w1) (I':=I1) hb.os hb.tape hb.output hb.size hb.block h1 h2 h3 (hz.le hW.keeps.drawn hb.drawn)
 refine⟨v,rfl,ρ,I1,E,by rw[nV]; exact W,?_⟩
 exact ((hr.bare (fun _ h=>h) ρ (lens M')).wide (fun _ h=>h.elim))
def cx (P:Program) (f:Nat):Prop:=∃fn,P.funcs[f]? =some fn∧(fn.name== "runtime.NumGoroutine")=false∧fn.body.isNone=false
def mL (T:TT):List ResultVar→bj→Mem→(List AV→Prop)→Prop
 |[],_,_,K=>K []
 | .tmp t::r,F,M,K=>mL T r F M fun vs=>K (look F t::vs)
 | .cell a t::r,F,M,K=>iK (T.d t).ok (lD T t (look F a) M fun v=>mL T r F M fun vs=>K (v::vs))
def one (vs:List AV):AV:=match vs with
 |[v]=>v
 |vs=> .aU vs
section
variable {I:Nat→Prop} {w:World} {ρ:Place} {M:Mem} {N:Nat→Prop}
def pV (tmps:Array Value):ResultVar→Sem Value
 | .tmp t=>pure (tmps.getD t undef)
 | .cell a t=>do loadVar t (←asAddr (tmps.getD a undef))
theorem kB (hT:dh P T) (hW:cY X ρ I (ae M) N w) {F:bj} {tmps:Array Value} (hF:∀i,aS ρ (lens (ae M)) I w N (look F i) (tmps.getD i undef)):∀ {rs:List ResultVar} {K:List AV→Prop},mL T rs F M K→
  ∃fN vs,K fN∧dp ρ (lens (ae M)) I w N fN vs∧(rs.mapM (pV tmps)).run P w= .ok vs w∧vs.length=rs.length
 |[],K,h=>⟨[],[],h,⟨rfl,fun j hj=>by simp at hj⟩,rfl,rfl⟩
 | .tmp t::r,K,h=>by
   obtain⟨fN,vs,h1,h2,h3,h4⟩:=kB hT hW hF (rs:=r) h
   refine⟨_,tmps.getD t undef::vs,h1,⟨by simp[h2.1],fun j hj=> ?_⟩,?_,by simp[h4]⟩
   ·cases j with
    |zero=>simpa using hF t
    |succ j=>simpa using h2.2 j (by simpa using hj)
   ·simp only[List.mapM_cons,Sem.run_bind,Sem.run_pure,Result.andThen_ok,pV,h3]
 | .cell a t::r,K,h=>by
   simp only[mL]at h
   obtain⟨hok,h⟩:=aB h
   have Og:∃av,(∃v ad,tmps.getD a undef= .pointer (some ad)∧(loadVar t ad).run P w= .ok v w∧aS ρ (lens (ae M)) I w N av v)∧mL T r F M fun vs=>K (av::vs):=by
    cases hl:look F a with
    |loc n len i off=>
     rw[hl]at h
     simp only[lD,alive]at h
     cases hb:ae M n with
     |none=>rw[hb]at h; exact h.elim
     |some b=>
      rw[hb]at h
      obtain⟨hc1,hmp,h2⟩:=aB h
      obtain⟨av,ha1,ha2,CG,hk⟩:=eG h2
      have hlen:b.ln=len:=by simpa using hc1
      have dJ:lens (ae M) n=some (len,b.sz):=by rw[aH]; exact⟨b,hb,hlen,rfl⟩
      have hr:=hF a
      rw[hl]at hr
      obtain⟨hn,g,cap,hρ,hv⟩:=fq hr dJ
      obtain⟨f,hf⟩:=(hW.bg n b hb).row hmp hρ i
      obtain⟨v,CH,JG⟩:=eb (K:=fun _=>True) hT hok (off:=off) f hf ha1 ha2 CG
      exact⟨av,⟨v,_,hv,CH,JG⟩,hk⟩
    |bv e off=>
     rw[hl]at h
     simp only[lD]at h
     obtain⟨av,ha1,ha2,CG,hk⟩:=eG h
     have hr:=hF a
     rw[hl]at hr
     generalize SY:tmps.getD a undef=vv at hr
     cases hr with
     |bv _ _ b q c hI h1 hcell hr=>
      obtain⟨v,CH,JG⟩:=eb (K:=fun _=>True) (N:=N) hT hok (off:=off) c (fun j hj=>⟨hcell j hj,h1 j hj,(hr j hj).wide (fun _ h=>h.elim)⟩) ha1 ha2 CG
      exact⟨av,⟨v,_,rfl,CH,JG⟩,hk⟩
    |_=>rw[hl]at h; exact h.elim
   obtain⟨av,⟨v,ad,hv,hrun,ul⟩,hk⟩:=Og
   obtain⟨fN,vs,h1,h2,h3,h4⟩:=kB hT hW hF (rs:=r) hk
   refine⟨_,v::vs,h1,⟨by simp[h2.1],fun j hj=> ?_⟩,?_,by simp[h4]⟩
   ·cases j with
    |zero=>simpa using ul
    |succ j=>simpa using h2.2 j (by simpa using hj)
   ·simp only[List.mapM_cons,Sem.run_bind,Sem.run_pure,Result.andThen_ok,pV,hv,asAddr,hrun,h3]
theorem Gp {I:Nat→Prop} {w:World} {ρ:Place} {L:bn} {N:Nat→Prop} {fN:List AV} {vs:List Value} (h:dp ρ L I w N fN vs):
  aS ρ L I w N (one fN) (if h:vs.toArray.size=1 then vs.toArray[0]else .tuple vs.toArray):=by
 obtain⟨hl,hr⟩:=h
 cases fN with
 |nil=>
  cases vs with
  |nil=>exact .aU [] [] rfl (fun j hj=>by simp at hj)
  |cons _ _=>simp at hl
 |cons a r=>
  cases vs with
  |nil=>simp at hl
  |cons v q=>
   cases r with
   |nil=>
    cases q with
    |nil=>exact hr 0 (by simp)
    |cons _ _=>simp at hl
   |cons b r=>
    cases q with
    |nil=>simp at hl
    |cons u q=>
     have:¬ (v::u::q).toArray.size=1:=by simp
     rw[dif_neg this]
     exact .aU _ _ hl hr
theorem lK (hT:dh P T) (hW:cY X ρ I (ae M) N w) {F:bj} {tmps:Array Value} (hF:∀i,aS ρ (lens (ae M)) I w N (look F i) (tmps.getD i undef)) {fn:Func} {K:List AV→Prop} (h:mL T fn.results.toList F M K):
  ∃fN v,K fN∧(results fn tmps).run P w= .ok v w∧aS ρ (lens (ae M)) I w N (one fN) v:=by
 obtain⟨fN,vs,h1,h2,h3,h4⟩:=kB hT hW hF h
 have hrun:(results fn tmps).run P w= .ok (if h:vs.toArray.size=1 then vs.toArray[0]else .tuple vs.toArray) w:=by
  unfold results
  have e:∀g:ResultVar→Sem Value,(∀r,g r=pV tmps r)→(List.mapM g fn.results.toList).run P w= .ok vs w:=fun g hg=>by rw[funext hg]; exact h3
  simp only[Sem.run_bind,Array.mapM_eq_mapM_toList,Sem.run_map]
  rw[e _ (fun r=>by cases r<;>rfl)]
  simp only[Result.andThen_ok,Sem.run_pure]
 refine⟨fN,_,h1,hrun,?_⟩
 exact Gp h2
end
def me (i:Nat):List AV→bj
 |[]=>[]
 |a::r=>(i,a)::me (i+1) r
theorem oa:∀ (as:List AV) (i j:Nat),look (me i as) j=if i≤j∧j<i+as.length then as.getD (j - i) .bad else .bad
 |[],i,j=>by simp only[me,look,List.length_nil]; rw[if_neg (by omega)]
 |a::r,i,j=>by
  by_cases h:j=i
  ·subst h; simp[me,look]
  ·have hb:(j==i)=false:=by simpa using h
   simp only[me,look,hb,cond_false,oa r (i+1) j,List.length_cons]
   by_cases h2:i+1≤j∧j<i+1+r.length
   ·rw[if_pos h2,if_pos (by omega)]
    have:j - i=(j - (i+1))+1:=by omega
    rw[this]; simp
   ·rw[if_neg h2,if_neg (by omega)]
def Ug (w:World) (I:Nat→Prop) (size:Nat):ct:=⟨w,0,I,size,cU,fB⟩
mutual
def AV.fit:AV→Prop
 | .aO _ es=>es.length≤maxLen∧AV.A9 es
 | .agg cs=>AV.kC cs
 | .aU cs=>AV.kC cs
 | .bW _ cs=>AV.kC cs
 | .bv e _=>AV.kC e
 |_=>True
def AV.kC:List AV→Prop
 |[]=>True
 |c::r=>AV.fit c∧AV.kC r
def AV.A9:List (List AV)→Prop
 |[]=>True
 |e::r=>AV.kC e∧AV.A9 r
end
theorem iX:∀ (cs:List AV),(∀j,j<cs.length→(cs.getD j .bad).fit)→AV.kC cs
 |[],_=>by simp[AV.kC]
 |c::r,h=>by
  simp only[AV.kC]
  exact⟨by simpa using h 0 (by simp),iX r (fun j hj=>by simpa using h (j+1) (by simpa using hj))⟩
theorem vT:∀ (es:List (List AV)),AV.A9 es↔∀e ∈ es,AV.kC e
 |[]=>by simp[AV.A9]
 |e::r=>by simp[AV.A9,vT r]
theorem aS.fit {ρ:Place} {L:bn} {I:Nat→Prop} {w:World} {N:Nat→Prop} {a:AV} {v:Value} (h:aS ρ L I w N a v):a.fit:=by
 induction h with
 |cI=>simp[AV.fit,AV.A9]
 |aO sz es b o cap c hl hc hI hs h1 hcell hr ih=>
  simp only[AV.fit]
  refine⟨by omega,(vT es).2 fun e he=> ?_⟩
  obtain⟨i,hi,rfl⟩:=List.getElem_of_mem he
  have hel:es.getD i []=es[i]:=by simp[List.getD_eq_getElem?_getD,hi]
  refine iX _ fun j hj=> ?_
  have:=ih i j hi (by rw[←hs _ (List.getElem_mem hi)]; exact hj)
  rwa[hel]at this
 |bv e off b o c hI h1 hcell hr ih=>simp only[AV.fit]; exact iX _ ih
 |bW f aW vs hl hr ih=>simp only[AV.fit]; exact iX _ ih
 |oE f aW vs hl hr ih=>simp only[AV.fit]; exact iX _ ih
 |agg cs vs hl h1 hr ih=>simp only[AV.fit]; exact iX _ ih
 |aU cs vs hl hr ih=>simp only[AV.fit]; exact iX _ ih
 |_=>simp[AV.fit]
theorem dp.fit {ρ:Place} {L:bn} {I:Nat→Prop} {w:World} {N:Nat→Prop} {as:List AV} {vs:List Value} (h:dp ρ L I w N as vs):AV.kC as:=
 iX _ fun j hj=>(h.2 j hj).fit
end Go.AM
namespace Go.AM
open Go.RowKit
def Gq:TypeDesc→TD
 | .bool=> .bool
 | .int k=> .int k
 | .string=> .str
 | .pointer e=> .ptr e
 | .slice e=> .slice e
 | .array n e=> .arr n e
 | .map k e=> .map k e
 | .struct fs=> .struct (fs.toList.map fun f=>(f.offset,f.type))
 | .func .. => .func
 | .interface _=> .iface
 | .tuple _=> .aU
 |_=> .other
def S0 (P:Program) (t:Nat):TD:=match P.underlying t,P.info? t with
 |some D,some i=>bif Nat.ble i.bytes 131072&&i.zero.isSome then Gq D else .other
 |_,_=> .other
def Uh (P:Program) (t:Nat):Nat:=match P.info? t with
 |some i=>i.size
 |none=>0
def Ui (P:Program) (t:Nat):AV:=match P.info? t with
 |some i=>(match i.zero with
  |some z=>IA z
  |none=> .bad)
 |none=> .bad
def ya (P:Program):TT:=⟨S0 P,Uh P,Ui P⟩
theorem A':∀D:TypeDesc,Gq D≠ .other→(Gq D).fits D:=by
 intro D h
 cases D<;>simp_all[Gq,TD.fits]
theorem Gs (P:Program):dh P (ya P):=by
 intro t ht
 simp only[ya,S0]at ht
 cases hD:P.underlying t with
 |none=>rw[hD]at ht; exact (ht rfl).elim
 |some D=>
  cases hi:P.info? t with
  |none=>rw[hD,hi]at ht; exact (ht rfl).elim
  |some i=>
   rw[hD,hi]at ht
   simp only at ht
   cases hc:Nat.ble i.bytes 131072&&i.zero.isSome with
   |false=>rw[hc]at ht; exact (ht rfl).elim
   |true=>
    rw[hc]at ht
    simp only[Bool.and_eq_true,Option.isSome_iff_exists]at hc
    obtain⟨hb,z,hz⟩:=hc
    refine⟨D,i,z,rfl,?_,rfl,?_,Nat.le_of_ble_eq_true hb,hz,?_⟩
    ·simp only[ya,S0,hD,hi,hz,hb,Option.isSome_some,Bool.and_self,cond_true]
     exact A' D ht
    ·simp only[ya,Uh,hi]
    ·simp only[ya,Ui,hi,hz]
def Oh (ds:List TD) (ss:List Nat) (zs:List AV):TT:=⟨fun t=>ds.getD t .other,fun t=>ss.getD t 0,fun t=>zs.getD t .bad⟩
theorem JS {P:Program} {ds:List TD} {ss:List Nat} {zs:List AV} (n:Nat) (h1:(List.range n).map (S0 P)=ds) (h2:(List.range n).map (Uh P)=ss) (h3:(List.range n).map (Ui P)=zs):dh P (Oh ds ss zs):=by
 subst h1; subst h2; subst h3
 intro t ht
 have hlt:t<n:=by
  refine Classical.byContradiction fun h=>ht ?_
  simp[Oh,List.getD_eq_getElem?_getD,h]
 have:=Gs P t (by simpa[Oh,ya,List.getD_eq_getElem?_getD,hlt]using ht)
 simpa[Oh,ya,List.getD_eq_getElem?_getD,hlt]using this
end Go.AM
namespace Go.AM
open Go.RowKit
inductive LK where
 |i|b|s
def kf (n:Nat) (l:List LK):List LK:=(List.replicate n l).flatten
def uD (P:Program) (f:Nat→Option (List LK)):List Field→Nat→Option (List LK)
 |[],_=>some []
 |x::r,off=>if x.name != "_" &&x.offset==off then (match f x.type,P.info? x.type with
  |some l,some i=>if i.size==l.length then (uD P f r (off+l.length)).map (l++ ·)else none
  |_,_=>none)else none
def ll (P:Program):Nat→Nat→Option (List LK)
 |0,_=>none
 |d+1,t=>match P.underlying t with
  |some .bool=>some [.b]
  |some (.int _)=>some [.i]
  |some .string=>some [.s]
  |some (.struct fs)=>if P.stoodInHeld t then none else uD P (ll P d) fs.toList 0
  |some (.array n e)=>(match ll P d e,P.info? e with
   |some l,some i=>if i.size==l.length then some (kf n l)else none
   |_,_=>none)
  |_=>none
def aR (P:Program) (t:Nat):Bool:=match P.underlying t with
 |some (.struct _)=>true
 |some (.array _ _)=>true
 |_=>false
inductive JT:LK→Value→Value→Bool→Prop
 |i (k:IntKind) (x y:Int):JT .i (.int k x) (.int k y) (x==y)
 |b (x y:Bool):JT .b (.bool x) (.bool y) (x==y)
 |s (x y:List UInt8):JT .s (.string ⟨x.toArray⟩) (.string ⟨y.toArray⟩) (x==y)
inductive lw:List LK→List Value→List Value→List Bool→Prop
 |nil:lw [] [] [] []
 |cons {l ls v vs u us r rs} (h:JT l v u r) (t:lw ls vs us rs):lw (l::ls) (v::vs) (u::us) (r::rs)
theorem lw.split:∀ {l1 l2:List LK} {vs us:List Value} {rs:List Bool},lw (l1++l2) vs us rs→
  ∃v1 v2 u1 u2 r1 r2,vs=v1++v2∧us=u1++u2∧rs=r1++r2∧lw l1 v1 u1 r1∧lw l2 v2 u2 r2∧v1.length=l1.length∧u1.length=l1.length
 |[],l2,vs,us,rs,h=>⟨[],vs,[],us,[],rs,rfl,rfl,rfl,.nil,h,rfl,rfl⟩
 |a::l1,l2,_,_,_,.cons (v:=v) (u:=u) (r:=r) h t=>by
  obtain⟨v1,v2,u1,u2,r1,r2,rfl,rfl,rfl,h1,h2,h3,h4⟩:=t.split (l1:=l1)
  exact⟨v::v1,v2,u::u1,u2,r::r1,r2,rfl,rfl,rfl,.cons h h1,h2,by simp[h3],by simp[h4]⟩
def valOf (ag:Bool) (vs:List Value):Value:=if ag then .agg vs.toArray else vs.headD default
theorem uE {P:Program} {w:World} {t:Nat} {D:TypeDesc} (h:P.underlying t=some D):(isAgg t).run P w= .ok (aR P t) w:=by
 unfold isAgg aR
 simp only[Sem.run_bind,run_underlying h,Result.andThen_ok,h]
 cases D<;>rfl
theorem eV {P:Program} {w:World} {t:Nat} {D:TypeDesc} {i:TypeInfo} (h:P.underlying t=some D) (hi:P.info? t=some i) {pre mid post:List Value} (hm:mid.length=i.size) (h1:aR P t=false→mid.length=1):
  (part t (pre++(mid++post)).toArray pre.length).run P w= .ok (valOf (aR P t) mid) w:=by
 unfold part
 simp only[Sem.run_bind,uE h,Result.andThen_ok]
 cases iM:aR P t with
 |true=>
  simp only[if_pos,Sem.run_bind,bG hi,Result.andThen_ok,Sem.run_pure,valOf]
  have:(pre++(mid++post)).toArray.extract pre.length (pre.length+i.size)=mid.toArray:=by
   apply Array.ext'
   simp[←hm]
  rw[this]
 |false=>
  obtain⟨v,rfl⟩:∃v,mid=[v]:=List.length_eq_one_iff.1 (h1 iM)
  simp[valOf]
theorem iY {P:Program}:∀ {d t:Nat} {ls:List LK},ll P d t=some ls→aR P t=false→ls.length=1
 |0,_,_,h,_=>by simp[ll]at h
 |d+1,t,ls,h,ha=>by
  unfold ll at h
  unfold aR at ha
  split at h<;>simp_all<;>first|(rw[←h]; rfl)|skip
theorem zL {P:Program}:∀ {d t:Nat} {ls:List LK},ll P d t=some ls→∃D,P.underlying t=some D
 |0,_,_,h=>by simp[ll]at h
 |d+1,t,ls,h=>by
  unfold ll at h
  cases hu:P.underlying t with
  |none=>rw[hu]at h; simp at h
  |some D=>exact⟨D,rfl⟩
theorem gG {P:Program}:∀ (d:Nat) (m t:Nat) (ls:List LK) (w:World) (vs us:List Value) (rs:List Bool),ll P d t=some ls→lw ls vs us rs→
  (Op.equalIn (d+m) t (valOf (aR P t) vs) (valOf (aR P t) us)).run P w= .ok (rs.all id) w
 |0,_,_,_,_,_,_,_,h,_=>by simp[ll]at h
 |d+1,m,t,ls,w,vs,us,rs,h,hv=>by
  have e:d+1+m=(d+m)+1:=by omega
  rw[e]
  have ih:=gG (P:=P) d m
  unfold ll at h
  cases hu:P.underlying t with
  |none=>rw[hu]at h; simp at h
  |some D=>
   rw[hu]at h
   cases D<;>simp only[reduceCtorEq]at h
   case bool=>
    obtain rfl:[LK.b]=ls:=by simpa using h
    have ha:aR P t=false:=by simp[aR,hu]
    rcases hv with _|⟨hl,ht⟩
    cases hl; cases ht
    rw[ha]
    simp only[valOf,Bool.false_eq_true,if_false,List.headD_cons]
    rw[run_equalIn_bool' _ _ _ _ _ hu]; simp
   case int k=>
    obtain rfl:[LK.i]=ls:=by simpa using h
    have ha:aR P t=false:=by simp[aR,hu]
    rcases hv with _|⟨hl,ht⟩
    cases hl; cases ht
    rw[ha]
    simp only[valOf,Bool.false_eq_true,if_false,List.headD_cons]
    rw[run_equalIn_int _ _ _ _ _ _ _ hu]; simp
   case string=>
    obtain rfl:[LK.s]=ls:=by simpa using h
    have ha:aR P t=false:=by simp[aR,hu]
    rcases hv with _|⟨hl,ht⟩
    cases hl; cases ht
    rw[ha]
    simp only[valOf,Bool.false_eq_true,if_false,List.headD_cons]
    rw[run_equalIn_string _ _ _ _ _ hu]
    simp[ByteArray.toList_eq]
   case struct fs=>
    have ha:aR P t=true:=by simp[aR,hu]
    have SU:P.fieldsOf t=fs:=by simp[Program.fieldsOf,hu]
    cases hst:P.stoodInHeld t with
    |true=>simp[hst]at h
    |false=>
     simp only[hst,Bool.false_eq_true,if_false]at h
     rw[ha]
     simp only[valOf,if_pos]
     rw[run_equalIn_struct w (d+m) t _ _ (by rw[SU]; exact hu) hst,SU]
     have go:∀ (fl:List Field) (off:Nat) (ls:List LK) (w:World) (p q vs us:List Value) (rs:List Bool),uD P (ll P d) fl off=some ls→lw ls vs us rs→p.length=off→q.length=off→
       (Op.eqFields (d+m) (p++vs).toArray (q++us).toArray fl).run P w= .ok (rs.all id) w:=by
      intro fl
      induction fl with
      |nil=>
       intro off ls w p q vs us rs hl hv _ _
       obtain rfl:[]=ls:=by simpa[uD]using hl
       cases hv
       simp[Op.eqFields]
      |cons f fl ZT=>
       intro off ls w p q vs us rs hl hv hp hq
       simp only[uD]at hl
       split at hl
       ·rename_i hc
        simp only[Bool.and_eq_true,bne_iff_ne,ne_eq,beq_iff_eq]at hc
        split at hl
        ·rename_i l i sq CJ
         split at hl
         ·rename_i hsz
          have hsz:i.size=l.length:=by simpa using hsz
          obtain⟨l2,hl2,rfl⟩:∃l2,uD P (ll P d) fl (off+l.length)=some l2∧l++l2=ls:=by
           simpa using hl
          obtain⟨v1,v2,u1,u2,r1,r2,rfl,rfl,rfl,h1,h2,h3,h4⟩:=hv.split
          obtain⟨D,hD⟩:=zL sq
          have p1:=eV (w:=w) hD CJ (pre:=p) (mid:=v1) (post:=v2) (by omega) (fun h=>by rw[h3]; exact iY sq h)
          have p2:=eV (w:=w) hD CJ (pre:=q) (mid:=u1) (post:=u2) (by omega) (fun h=>by rw[h4]; exact iY sq h)
          rw[hp,←hc.2]at p1
          rw[hq,←hc.2]at p2
          simp only[Op.eqFields,if_pos hc.1,ne_eq,hc.1,not_false_eq_true,Sem.run_bind,p1,p2,Result.andThen_ok,ih _ _ _ _ _ _ sq h1]
          have h5:=ZT (off+l.length) l2 w (p++v1) (q++u1) v2 u2 r2 hl2 h2 (by simp; omega) (by simp; omega)
          rw[List.append_assoc,List.append_assoc]at h5
          simp only[if_true,Sem.run_bind,p1,p2,Result.andThen_ok,ih _ _ _ _ _ _ sq h1]
          cases hr:r1.all id with
          |true=>simp only[Bool.not_true,Bool.false_eq_true,if_false,h5,List.all_append,hr,Bool.true_and]
          |false=>simp only[Bool.not_false,if_true,Sem.run_pure,List.all_append,hr,Bool.false_and]
         ·simp at hl
        ·simp at hl
       ·simp at hl
     exact go fs.toList 0 ls w [] [] vs us rs h hv rfl rfl
   case array n e=>
    have ha:aR P t=true:=by simp[aR,hu]
    split at h
    ·rename_i l i sq CJ
     split at h
     ·rename_i hsz
      have hsz:i.size=l.length:=by simpa using hsz
      obtain rfl:kf n l=ls:=by simpa using h
      rw[ha]
      simp only[valOf,if_pos]
      rw[run_equalIn_array w (d+m) _ _ hu CJ]
      have hc:P.cellsOf e=l.length:=by simp[Program.cellsOf,CJ,hsz]
      rw[hc]
      obtain⟨D,hD⟩:=zL sq
      have go:∀ (k j:Nat) (w:World) (p q vs us:List Value) (rs:List Bool),lw (kf k l) vs us rs→p.length=j*l.length→q.length=j*l.length→
        (Op.eqItems (d+m) e l.length (p++vs).toArray (q++us).toArray (List.range' j k)).run P w= .ok (rs.all id) w:=by
       intro k
       induction k with
       |zero=>
        intro j w p q vs us rs hv _ _
        simp only[kf,List.replicate_zero,List.flatten_nil]at hv
        cases hv
        simp[Op.eqItems]
       |succ k ZU=>
        intro j w p q vs us rs hv hp hq
        have e1:kf (k+1) l=l++kf k l:=by simp[kf,List.replicate_succ]
        rw[e1]at hv
        obtain⟨v1,v2,u1,u2,r1,r2,rfl,rfl,rfl,h1,h2,h3,h4⟩:=hv.split
        have p1:=eV (w:=w) hD CJ (pre:=p) (mid:=v1) (post:=v2) (by omega) (fun h=>by rw[h3]; exact iY sq h)
        have p2:=eV (w:=w) hD CJ (pre:=q) (mid:=u1) (post:=u2) (by omega) (fun h=>by rw[h4]; exact iY sq h)
        rw[hp]at p1
        rw[hq]at p2
        have h5:=ZU (j+1) w (p++v1) (q++u1) v2 u2 r2 h2 (by rw[List.length_append,hp,h3,Nat.succ_mul]) (by rw[List.length_append,hq,h4,Nat.succ_mul])
        rw[List.append_assoc,List.append_assoc]at h5
        simp only[List.range'_succ,Op.eqItems,Sem.run_bind,p1,p2,Result.andThen_ok,ih _ _ _ _ _ _ sq h1]
        cases hr:r1.all id with
        |true=>simp only[Bool.not_true,Bool.false_eq_true,if_false,h5,List.all_append,hr,Bool.true_and]
        |false=>simp only[Bool.not_false,if_true,Sem.run_pure,List.all_append,hr,Bool.false_and]
      rw[List.range_eq_range']
      exact go n 0 w [] [] vs us rs hv (by simp) (by simp)
     ·simp at h
    ·simp at h
end Go.AM
namespace Go.AM
open Go.RowKit
variable {P:Program} {T:TT} {X:ct} {o:Oper} {F:bj} {M:bA}
inductive JU:LK→AV→AV→Bool→Prop
 |i (k:IntKind) (x y:Int):JU .i (.int k x) (.int k y) (x==y)
 |b (x y:Bool):JU .b (.bool x) (.bool y) (x==y)
 |s (x y:List UInt8):JU .s (.str x) (.str y) (x==y)
inductive sr:List LK→List AV→List AV→List Bool→Prop
 |nil:sr [] [] [] []
 |cons {l ls v vs u us r rs} (h:JU l v u r) (t:sr ls vs us rs):sr (l::ls) (v::vs) (u::us) (r::rs)
theorem JU.val {ρ:Place} {L:bn} {I:Nat→Prop} {w:World} {N:Nat→Prop} {l:LK} {a b:AV} {r:Bool} {v u:Value} (h:JU l a b r) (h1:aS ρ L I w N a v) (h2:aS ρ L I w N b u):JT l v u r:=by
 cases h with
 |i k x y=>rw[bH h1,bH h2]; exact .i k x y
 |b x y=>rw[fA h1,fA h2]; exact .b x y
 |s x y=>rw[gh h1,gh h2]; exact .s x y
theorem sr.val {ρ:Place} {L:bn} {I:Nat→Prop} {w:World} {N:Nat→Prop}:∀ {ls:List LK} {as bs:List AV} {rs:List Bool} {vs us:List Value},sr ls as bs rs→vs.length=as.length→us.length=bs.length→
  (∀j,j<as.length→aS ρ L I w N (as.getD j .bad) (vs.getD j default))→(∀j,j<bs.length→aS ρ L I w N (bs.getD j .bad) (us.getD j default))→lw ls vs us rs
 |_,_,_,_,[],[],.nil,_,_,_,_=> .nil
 |_,_,_,_,v::vs,u::us,.cons h t,hv,hu,h1,h2=>
  .cons (h.val (by simpa using h1 0 (by simp)) (by simpa using h2 0 (by simp))) (t.val (by simpa using hv) (by simpa using hu)
    (fun j hj=>by simpa using h1 (j+1) (by simpa using hj)) (fun j hj=>by simpa using h2 (j+1) (by simpa using hj)))
 |_,_,_,_,_::_,[],.nil,hv,_,_,_=>by simp at hv
 |_,_,_,_,[],_::_,.nil,_,hu,_,_=>by simp at hu
 |_,_,_,_,_::_,_::_,.nil,hv,_,_,_=>by simp at hv
 |_,_,_,_,[],_,.cons _ _,hv,_,_,_=>by simp at hv
 |_,_,_,_,_::_,[],.cons _ _,_,hu,_,_=>by simp at hu
theorem vU {neg:Bool} {t yt:TypeId} {x y:Operand} {d:Nat} (hd:d≤10000) {ls:List LK} {as bs:List AV} {rs:List Bool} (ho:o.op= .binOp (if neg then .neq else .eql) t x y yt) (hg:P.eqGuardType P.depth t=false) (ha:aR P t=true)
  (hl:ll P d t=some ls) (hx:ev F x= .agg as) (hy:ev F y= .agg bs) (h:sr ls as bs rs):bP P X o F M (.bool (if neg then !(rs.all id)else rs.all id)) [] []:=by
 have hx':x ∈ o.op.operands.toList:=by simp[ho,Op.operands]
 have hy':y ∈ o.op.operands.toList:=by simp[ho,Op.operands]
 refine aJ fun M' N ρ I ac w hW hU hN=> ?_
 have r1:=ay hU x hx'
 have r2:=ay hU y hy'
 rw[hx]at r1
 rw[hy]at r2
 generalize hv:ac.eval x=v at r1
 generalize hu:ac.eval y=u at r2
 cases r1 with
 |agg _ vs hvl CH JV=>
  cases r2 with
  |agg _ us Uj nK Uk=>
   have h4:=h.val hvl Uj JV Uk
   have e:=gG d (10000 - d) t ls w vs us rs hl h4
   rw[ha]at e
   simp only[valOf,if_true]at e
   have e2:d+ (10000 - d)=10000:=by omega
   rw[e2]at e
   refine⟨_,?_,.bool _⟩
   have g:=run_eqGuard_agg w (if neg then .neq else .eql) t x y vs.toArray us.toArray hg
   cases neg<;>simp_all[execOp,Sem.run_bind,run_eql_struct,run_neq_struct]
theorem uF {neg:Bool} {t yt:TypeId} {x y:Operand} {a b:Bool} (ho:o.op= .binOp (if neg then .neq else .eql) t x y yt) (hu:P.underlying t=some .bool) (hx:ev F x= .bool a) (hy:ev F y= .bool b):
  bP P X o F M (.bool (if neg then a != b else a==b)) [] []:=by
 have hx':x ∈ o.op.operands.toList:=by simp[ho,Op.operands]
 have hy':y ∈ o.op.operands.toList:=by simp[ho,Op.operands]
 refine aJ fun M' N ρ I ac w hW hU hN=>⟨_,?_,.bool _⟩
 have r1:=fA (hx ▸ ay hU x hx')
 have r2:=fA (hy ▸ ay hU y hy')
 have e:=run_equal_bool w t a b hu
 cases neg<;>simp[execOp,ho,r1,r2,Sem.run_bind,eqGuard,binOp,e,bne]
def JW (op:BinOp) (a b:List UInt8) (K:AV→Prop):Prop:=
 match op with
 | .add=>(a.length+b.length≤9223372036854775807)∧K (.str (a++b))
 | .eql=>K (.bool (a==b))
 | .neq=>K (.bool !(a==b))
 | .lss=>K (.bool (Op.bytesLess a b))
 | .leq=>K (.bool (Op.bytesLess a b||a==b))
 | .gtr=>K (.bool !(Op.bytesLess a b||a==b))
 | .geq=>K (.bool !(Op.bytesLess a b))
 |_=>False
theorem Dk {op:BinOp} {t yt:TypeId} {x y:Operand} {a b:List UInt8} {K:AV→Prop} (ho:o.op= .binOp op t x y yt) (hx:ev F x= .str a) (hy:ev F y= .str b) (h:JW op a b K):∃av,bP P X o F M av [] []∧K av:=by
 have hx':x ∈ o.op.operands.toList:=by simp[ho,Op.operands]
 have hy':y ∈ o.op.operands.toList:=by simp[ho,Op.operands]
 have go:∀av v,(∀ρ L I w N,aS ρ L I w N av v)→(∀w,(Op.stringOp op ⟨a.toArray⟩ ⟨b.toArray⟩).run P w= .ok v w)→K av→∃av,bP P X o F M av [] []∧K av:=by
  intro av v hr hrun hk
  refine⟨av,aJ fun M' N ρ I ac w hW hU hN=>⟨v,?_,hr _ _ _ _ _⟩,hk⟩
  have r1:=gh (hx ▸ ay hU x hx')
  have r2:=gh (hy ▸ ay hU y hy')
  have g:(eqGuard op t x y (.string ⟨a.toArray⟩) (.string ⟨b.toArray⟩)).run P w= .ok () w:=by
   unfold eqGuard; cases op<;>simp
  have e:binOp op t (.string ⟨a.toArray⟩) (.string ⟨b.toArray⟩)=Op.stringOp op ⟨a.toArray⟩ ⟨b.toArray⟩:=by cases op<;>rfl
  simp only[execOp,ho,r1,r2,Sem.run_bind,g,Result.andThen_ok,e,hrun,Sem.run_pure]
 have tl:∀l:List UInt8,(⟨l.toArray⟩:ByteArray).toList=l:=fun l=>by rw[ByteArray.toList_eq]
 cases op<;>simp only[JW]at h<;>try exact h.elim
 case add=>
  refine go _ (.string ⟨(a++b).toArray⟩) (fun _ _ _ _ _=> .str _) (fun w=> ?_) h.2
  have e:(⟨a.toArray⟩:ByteArray)++⟨b.toArray⟩=⟨(a++b).toArray⟩:=by
   apply ByteArray.ext
   simp
  have h1:=h.1
  have hs:¬ ((((⟨a.toArray⟩:ByteArray).size+ (⟨b.toArray⟩:ByteArray).size:Nat):Int)>IntKind.i64.max):=by
   show ¬ (((a.toArray.size+b.toArray.size:Nat):Int)>9223372036854775807)
   simp only[List.size_toArray]
   omega
  simp only[Op.stringOp,if_neg hs,e,Sem.run_pure]
 all_goals exact go _ _ (fun _ _ _ _ _=> .bool _) (fun w=>by simp only[Op.stringOp,tl,Sem.run_pure]) h
end Go.AM
namespace Go.AM
open Go.RowKit
variable {P:Program} {T:TT} {X:ct} {o:Oper} {F:bj} {M:bA}
theorem pD {neg:Bool} {t e:TypeId} {y:Operand} {x:Operand} {q:Option Addr} {l c:Nat} {w:World} (hu:P.underlying t=some (.slice e)):
  (do eqGuard (if neg then .neq else .eql) t x y (.slice q l c) (.slice none 0 0); binOp (if neg then .neq else .eql) t (.slice q l c) (.slice none 0 0):Sem Value).run P w= .ok (.bool (if neg then !q.isNone else q.isNone)) w:=by
 have e1:=run_equal_slice_nil w t e q l c hu
 cases neg<;>simp[Sem.run_bind,eqGuard,binOp,e1]
theorem su {neg:Bool} {t e:TypeId} {y:Operand} {x:Operand} {q:Option Addr} {w:World} (hu:P.underlying t=some (.pointer e)):
  (do eqGuard (if neg then .neq else .eql) t x y (.pointer q) (.pointer none); binOp (if neg then .neq else .eql) t (.pointer q) (.pointer none):Sem Value).run P w= .ok (.bool (if neg then !q.isNone else q.isNone)) w:=by
 have e0:P.pointee t=e:=by simp[Program.pointee,hu]
 have e1:=run_equal_pointer_nil w t q (by rw[e0]; exact hu)
 cases neg<;>simp[Sem.run_bind,eqGuard,binOp,e1]
theorem jQ {neg:Bool} {t e yt:TypeId} {x:Operand} {b:Bool} {Ml:Mem} (hM:M=ae Ml) (ho:o.op= .binOp (if neg then .neq else .eql) t x (.const (.pointer none)) yt) (hu:P.underlying t=some (.pointer e))
  (hx:(ev F x= .bU∧b=true)∨((∃r q,ev F x= .bv r q)∧b=false)∨(∃n len i q bl,ev F x= .loc n len i q∧ae Ml n=some bl∧bl.ln=len)∧b=false):bP P X o F M (.bool (if neg then !b else b)) [] []:=by
 have hx':x ∈ o.op.operands.toList:=by simp[ho,Op.operands]
 refine aJ fun M' N ρ I ac w hW hU hN=> ?_
 have r1:=ay hU x hx'
 have key:∃q:Option Addr,ac.eval x= .pointer q∧q.isNone=b:=by
  rcases hx with⟨h,rfl⟩|⟨⟨r,q,h⟩,rfl⟩|⟨⟨n,len,i,q,bl,h,hb,hl⟩,rfl⟩
  ·rw[h]at r1
   generalize ac.eval x=v at r1
   cases r1
   exact⟨none,rfl,rfl⟩
  ·rw[h]at r1
   generalize ac.eval x=v at r1
   cases r1
   exact⟨_,rfl,rfl⟩
  ·rw[h]at r1
   obtain⟨sl,ee,er⟩:=bz (F:=F) x hx' (n:=n) (by rw[h]; simp[AV.names])
   have cy:M' n=some bl:=(hN sl ee n er).trans (by rw[hM]; exact hb)
   have dJ:lens M' n=some (len,bl.sz):=by rw[aH]; exact⟨bl,cy,hl,rfl⟩
   obtain⟨_,g,cap,_,hv⟩:=fq r1 dJ
   exact⟨_,hv,rfl⟩
 obtain⟨q,hv,hq⟩:=key
 refine⟨_,?_,.bool _⟩
 have e1:=su (P:=P) (neg:=neg) (y:= .const (.pointer none)) (x:=x) (q:=q) (w:=w) hu
 rw[hq]at e1
 have hc:ac.eval (.const (.pointer none))= .pointer none:=rfl
 simp only[execOp,ho,hv,hc]
 simp only[Sem.run_bind]at e1 ⊢
 rw[e1]
 simp
theorem sv {neg:Bool} {t e yt:TypeId} {x:Operand} {s:Nat} {es:List (List AV)} (ho:o.op= .binOp (if neg then .neq else .eql) t x (.const (.slice none 0 0)) yt) (hu:P.underlying t=some (.slice e)) (hx:ev F x= .aO s es)
  {M':bA} {N:Nat→Prop} {ρ:Place} {I:Nat→Prop} {a:Act} {w:World} (hW:cY X ρ I M' N w) (hU:∀s ∈ dg o.op,aS ρ (lens M') I w N (look F s) (a.tmps.getD s undef)):
  ∃b:Bool,(b=true→es=[])∧bV P X o a M' N ρ I w (.bool (if neg then !b else b)) []:=by
 have hx':x ∈ o.op.operands.toList:=by simp[ho,Op.operands]
 have r1:=ay hU x hx'
 rw[hx]at r1
 have key:∃ (q:Option Addr) (c:Nat),a.eval x= .slice q es.length c∧(q.isNone=true→es=[]):=by
  generalize a.eval x=v at r1
  cases r1 with
  |cI _ q cap=>exact⟨q,cap,rfl,fun _=>rfl⟩
  |aO _ _ b o cap c hl=>exact⟨_,cap,rfl,fun h=>by simp at h⟩
 obtain⟨q,c,hv,hq⟩:=key
 refine⟨q.isNone,hq,?_⟩
 have e1:=pD (P:=P) (neg:=neg) (y:= .const (.slice none 0 0)) (x:=x) (q:=q) (l:=es.length) (c:=c) (w:=w) hu
 have hr:(execOp a.eval o).run P w= .ok (.value (.bool (if neg then !q.isNone else q.isNone))) w:=by
  have hc:a.eval (.const (.slice none 0 0))= .slice none 0 0:=rfl
  simp only[execOp,ho,hv,hc]
  simp only[Sem.run_bind]at e1 ⊢
  rw[e1]
  simp
 unfold bV
 rw[hr]
 exact gC.value hW (.bool _)
theorem yb (hT:dh P T) {t e:Nat} {x h m:Operand} {k k':IntKind} {n:Nat} (ht:T.d t= .slice e) (hok:(T.d e).ok=true) (ho:o.op= .slice t x none (some h) (some m)) (hh:ev F h= .int k 0) (hm:ev F m= .int k' 0)
  (hx:∃s es,ev F x= .aO s es):bP P X o F M (.bh n 0) [(n,⟨e,T.s e,[],none⟩)] [n]:=by
 have hx':x ∈ o.op.operands.toList:=by simp[ho,Op.operands]
 have ZV:h ∈ o.op.operands.toList:=by simp[ho,Op.operands]
 have hm':m ∈ o.op.operands.toList:=by simp[ho,Op.operands]
 obtain⟨D,it,z,hD,hf,_⟩:=hT t (by rw[ht]; simp)
 have gA:=bZ ht hf
 subst gA
 obtain⟨_,ie,_,_,_,hie,k9,_⟩:=hT e (TD.dG hok)
 obtain⟨s,es,hx⟩:=hx
 refine⟨fun p hp=> .inl (by simp at hp; simp[hp]),fun M' N ρ I ac w hW hU hN hF=> ?_⟩
 have hn:¬N n:=hF n (by simp)
 have r1:=ay hU x hx'
 have r2:=bH (hh ▸ ay hU h ZV)
 have r3:=bH (hm ▸ ay hU m hm')
 rw[hx]at r1
 obtain⟨q,cap,hv,hle⟩:=pS r1
 have hb:(Instr.sliceBounds true es.length cap (none:Option Value) (some (.int k 0)) (some (.int k' 0))).run P w= .ok (0,0,0) w:=by
  have e1:=run_sliceBound (P:=P) (k:=k') (i:=0) (y:=cap) (c:= .slice3Acap) (w:=w) ⟨by omega,by omega⟩
  have e2:=run_sliceBound (P:=P) (k:=k) (i:=0) (y:=0) (c:= .slice3B) (w:=w) ⟨by omega,by omega⟩
  simp[Instr.sliceBounds,e1,e2,Sem.run_bind,Instr.sliceBound,asIntOf]
 have hrun:=oQ (a:=q) (len:=es.length) hD hie hb
 obtain⟨E,W⟩:=hW.dY hn e (T.s e)
 unfold bV
 have hr:(execOp ac.eval o).run P w= .ok (.value (.slice q 0 0)) w:=by
  simp only[execOp,ho,Option.map_none,Option.map_some,hv,r2,r3,Sem.run_bind,hrun]
  simp
 rw[hr]
 refine⟨_,I,E,by rw[bQ]; exact W,?_⟩
 refine .bh n _ _ (.inr ⟨_,List.mem_singleton.2 rfl⟩) rfl fun l xN nL=> ?_
 change lens (cQ M' n _) n=_ at nL
 rw[cH,if_pos rfl]at nL
 simp at nL
 exact⟨by simp,fun _=> .inl ⟨by simp,q,rfl⟩⟩
theorem vV (hT:dh P T) {t m e:Nat} {x ix:Operand} {cs:List AV} {k:IntKind} {j:Int} {K:AV→Prop} (ht:T.d t= .arr m e) (hok:(T.d e).ok=true) (ho:o.op= .index t x ix) (hx:ev F x= .agg cs) (hi:ev F ix= .int k j)
  (hj:0≤j∧j< (m:Int)) (h:apart (T.d e).ag (T.s e) (j.toNat*T.s e) cs K):∃av,bP P X o F M av [] []∧K av:=by
 have hx':x ∈ o.op.operands.toList:=by simp[ho,Op.operands]
 have hi':ix ∈ o.op.operands.toList:=by simp[ho,Op.operands]
 obtain⟨D,it,z,hD,hf,_⟩:=hT t (by rw[ht]; simp)
 have gA:=fu ht hf
 subst gA
 obtain⟨De,ie,_,CK,IN,hie,k9,_⟩:=hT e (TD.dG hok)
 obtain⟨av,h1,h2,h3,h4⟩:=eG h
 refine⟨av,aJ fun M' N ρ I ac w hW hU hN=> ?_,h4⟩
 have r1:=ay hU x hx'
 have r2:=bH (hi ▸ ay hU ix hi')
 rw[hx]at r1
 generalize hv:ac.eval x=v at r1
 generalize hoff:j.toNat*T.s e=off at h1 h2
 have hle:off+T.s e≤cs.length∨T.s e=0:=by
  simp only[List.length_take,List.length_drop]at h1; omega
 cases r1 with
 |agg _ vs hvl CH JV=>
  have Dl:∃u,(part e vs.toArray off).run P w= .ok u w∧aS ρ (lens M') I w N av u:=by
   unfold part
   simp only[Sem.run_bind,l7 CK IN,Result.andThen_ok]
   cases iM:(T.d e).ag with
   |true=>
    simp only[if_pos,Sem.run_bind,bG hie,Result.andThen_ok,Sem.run_pure]
    refine⟨_,rfl,?_⟩
    rw[h2,iM,if_pos rfl,k9]
    have hex:vs.toArray.extract off (off+T.s e)=((vs.drop off).take (T.s e)).toArray:=by
     apply Array.ext'
     simp
    rw[hex]
    refine .agg _ _ (by rw[h1]; simp only[List.length_take,List.length_drop]; omega) (fun u hu=>CH u (List.mem_of_mem_drop (List.mem_of_mem_take hu))) (fun i hi=> ?_)
    rw[h1]at hi
    rw[c8 _ _ _ _ _ hi,c8 _ _ _ _ _ hi]
    exact JV (off+i) (by omega)
   |false=>
    have h5:=h3 iM
    have hlt:off<cs.length:=by omega
    have uG:off<vs.length:=by omega
    simp only[Bool.false_eq_true,if_false]
    have:vs.toArray[off]? =some vs[off]:=by simp[uG]
    rw[this]
    refine⟨_,Sem.run_pure _ _ _,?_⟩
    rw[h2,iM,h5]
    have e1:((cs.drop off).take 1).headD .bad=cs.getD off .bad:=by
     rw[List.drop_eq_getElem_cons hlt,List.take_succ_cons]
     simp[List.getD_eq_getElem?_getD,hlt]
    simp only[Bool.false_eq_true,if_false,e1]
    have:=JV off hlt
    rwa[show vs.getD off default=vs[off] by simp[List.getD_eq_getElem?_getD,uG]]at this
  obtain⟨u,hu,hr⟩:=Dl
  refine⟨u,?_,hr⟩
  simp only[execOp,ho,hv,r2,Instr.index,asIntOf,Sem.run_bind,Sem.run_pure,Result.andThen_ok,run_underlying hD,if_pos hj,bG hie,k9,hoff,hu]
theorem vW (hT:dh P T) {t:Nat} {x ix:Operand} {s:List UInt8} {k:IntKind} {j:Int} (ht:T.d t= .str) (ho:o.op= .index t x ix) (hx:ev F x= .str s) (hi:ev F ix= .int k j) (hj:0≤j∧j< (s.length:Int)):
  bP P X o F M (.int .u8 (s.getD j.toNat 0).toNat) [] []:=by
 have hx':x ∈ o.op.operands.toList:=by simp[ho,Op.operands]
 have hi':ix ∈ o.op.operands.toList:=by simp[ho,Op.operands]
 obtain⟨D,it,z,hD,hf,_⟩:=hT t (by rw[ht]; simp)
 have gA:=fy ht hf
 subst gA
 refine aJ fun M' N ρ I ac w hW hU hN=>⟨_,?_,.int _ _⟩
 have r1:=gh (hx ▸ ay hU x hx')
 have r2:=bH (hi ▸ ay hU ix hi')
 have hlt:j.toNat<s.length:=by omega
 have e1:(⟨s.toArray⟩:ByteArray)[j.toNat]? =some s[j.toNat]:=by
  have hsz:j.toNat< (⟨s.toArray⟩:ByteArray).size:=by show j.toNat<s.toArray.size; simpa using hlt
  rw[getElem?_pos (⟨s.toArray⟩:ByteArray) j.toNat hsz]
  rfl
 simp only[execOp,ho,r1,r2,Instr.index,asIntOf,Sem.run_bind,Sem.run_pure,Result.andThen_ok,run_underlying hD,if_pos hj.1,e1]
 simp[List.getD_eq_getElem?_getD,hlt]
theorem foldl_push (s:List UInt8):∀r:ByteArray,(s.map fun c=>((c.toNat:Int))).foldl (fun r n=>r.push (UInt8.ofNat n.toNat)) r=⟨(r.data.toList++s).toArray⟩:=by
 induction s with
 |nil=>intro r; simp
 |cons c s ih=>
  intro r
  simp only[List.map_cons,List.foldl_cons,ih]
  congr 1
  simp[ByteArray.push]
theorem Dm (hT:dh P T) {s t e:Nat} {x:Operand} {Ml:Mem} {K:AV→Prop} (hM:M=ae Ml) (hs:T.d s= .slice e) (he:T.d e= .int .u8) (ht:T.d t= .str) (ho:o.op= .convert s t x) (er:¬ ∃q,ev F x= .str q)
  (h:lY Ml 1 (ev F x) fun xs=>∃b:List UInt8,xs=b.map (fun c=>[AV.int .u8 c.toNat])∧K (.str b)):∃av,bP P X o F M av [] []∧K av:=by
 have hx:x ∈ o.op.operands.toList:=by simp[ho,Op.operands]
 obtain⟨D,_,_,hD,hf,_⟩:=hT s (by rw[hs]; simp)
 have:=bZ hs hf
 subst this
 obtain⟨D,_,_,CK,hf,_⟩:=hT e (by rw[he]; simp)
 have:=fits_int he hf
 subst this
 obtain⟨D,_,_,Ul,hf,_⟩:=hT t (by rw[ht]; simp)
 have:=fy ht hf
 subst this
 obtain⟨xs,⟨b,rfl,hk⟩,hsrc⟩:=jM (X:=X) (o:=o) (tx:=s) hT hM hx (.inl ⟨_,hD⟩) (fun h=>(er h).elim) (fun _=>⟨_,hD⟩) h
 refine⟨_,aJ fun M' N ρ I ac w hW hU hN=> ?_,hk⟩
 obtain⟨vs,hS,hL,-⟩:=hsrc M' N ρ I ac w hW hU hN
 have hvs:vs=b.map fun c=>Value.int .u8 (c.toNat:Int):=by
  apply List.ext_getElem
  ·rw[hL.1]; simp
  ·intro i h1 h2
   have hi:i<b.length:=by simpa using h2
   obtain⟨u,hu,hr⟩:=hL.2.2 i 0 (by simpa using hi) (by omega)
   rw[Nat.mul_one,Nat.add_zero,List.getElem?_eq_getElem h1]at hu
   simp only[Option.some.injEq]at hu
   have e1:((b.map fun c=>[AV.int .u8 (c.toNat:Int)]).getD i []).getD 0 .bad= .int .u8 (b[i].toNat:Int):=by
    simp[List.getD_eq_getElem?_getD,hi]
   rw[e1]at hr
   rw[hu,bH hr.2]
   simp
 have ee:∃q l c,ac.eval x= .slice q l c:=by
  have r1:=ay hU x hx
  cases ch:ev F x with
  |aO s es=>rw[ch]at r1; obtain⟨q,cap,hv,_⟩:=pS r1; exact⟨_,_,_,hv⟩
  |an=>
   rw[ch]at r1
   generalize ac.eval x=v at r1
   cases r1
   exact⟨_,_,_,rfl⟩
  |bh n len=>
   rw[ch]at h r1
   simp only[lY,alive]at h
   cases hb:ae Ml n with
   |none=>rw[hb]at h; exact h.elim
   |some bl=>
    rw[hb]at h
    obtain⟨hc1,hmp,_⟩:=aB h
    have hl:bl.ln=len:=by simpa using hc1
    obtain⟨sl,ee,er⟩:=bz (F:=F) x hx (n:=n) (by rw[ch]; simp[AV.names])
    have cy:M' n=some bl:=(hN sl ee n er).trans (by rw[hM]; exact hb)
    have dJ:lens M' n=some (len,bl.sz):=by rw[aH]; exact⟨bl,cy,hl,rfl⟩
    obtain⟨_,⟨_,q,hv⟩|⟨g,cap,_,hv⟩⟩:=iT r1 dJ
    ·exact⟨_,_,_,hv⟩
    ·exact⟨_,_,_,hv⟩
  |dP n len i off ca=>
   rw[ch]at h r1
   simp only[lY,alive]at h
   cases hb:ae Ml n with
   |none=>rw[hb]at h; exact h.elim
   |some bl=>
    rw[hb]at h
    obtain⟨hc1,hmp,_⟩:=aB h
    have hl:bl.ln=len:=by simpa using hc1
    obtain⟨sl,ee,er⟩:=bz (F:=F) x hx (n:=n) (by rw[ch]; simp[AV.names])
    have cy:M' n=some bl:=(hN sl ee n er).trans (by rw[hM]; exact hb)
    have dJ:lens M' n=some (len,bl.sz):=by rw[aH]; exact⟨bl,cy,hl,rfl⟩
    obtain⟨_,g,cap,c,_,hv,_⟩:=k8 r1 dJ
    exact⟨_,_,_,hv⟩
  |str q=>exact (er ⟨q,ch⟩).elim
  |_=>rw[ch]at h; exact h.elim
 obtain⟨q,l,c,hv⟩:=ee
 have hl:l=b.length:=by
  have:=hS.len w
  rw[hv]at this
  simpa[Builtin.lenOf]using this
 refine⟨.string ⟨b.toArray⟩,?_,.str _⟩
 have hrun:(Conv.bytesToString (ac.eval x)).run P w= .ok (.string ⟨b.toArray⟩) w:=by
  rw[hv]
  cases q with
  |none=>
   have hc:=hS.cells
   rw[hv,hvs]at hc
   have:b=[]:=by
    simp[Builtin.firstCells]at hc
    exact hc
   subst this
   simp[Conv.bytesToString]
   rfl
  |some a=>
   have hc:=hS.cells
   rw[hv,hvs]at hc
   simp only[Builtin.firstCells,List.length_map,Nat.mul_one]at hc
   have:=run_bytesToString (P:=P) w a l c (b.map fun c=>(c.toNat:Int)) (by rw[hl,hc]; simp[List.map_map,Function.comp_def])
   rw[this,foldl_push]
   simp
 simp only[execOp,ho,convert,Sem.run_bind,run_underlying hD,run_underlying Ul,Result.andThen_ok]
 have e9:∀v:Value,v=ac.eval x→True:=fun _ _=>trivial
 rw[hv]at hrun ⊢
 simp only[Sem.run_bind,run_underlying CK,Result.andThen_ok,hrun,Sem.run_pure]
end Go.AM
namespace Go.AM
open Go.RowKit
variable {P:Program} {T:TT} {X:ct} {o:Oper} {F:bj} {M:bA}
theorem yc {ρ:Place} {L:bn} {I:Nat→Prop} {w:World} {N:Nat→Prop} {n len i off sz g cap ca c:Nat} (hn:N n) (hl:L n=some (len,sz)) (hρ:ρ n=some (g,cap)) (h1:ca≤c) (h2:c≤maxLen):
  aS ρ L I w N (.dP n len i off ca) (.slice (some ⟨g,i*sz+off,none⟩) ca c):=
 .dP n len i off ca _ hn rfl fun l xN h=>by
   rw[hl]at h
   simp only[Option.some.injEq,Prod.mk.injEq]at h
   obtain⟨rfl,rfl⟩:=h
   exact⟨Nat.le_refl _,fun _=>⟨g,cap,c,hρ,rfl,h1,h2⟩⟩
theorem kg {t m e:Nat} {ie:TypeInfo} {a:Addr} {w:World} (hD:P.underlying t=some (.array m e)) (hi':P.info? e=some ie):
  (Instr.sliceAt t (.pointer (some a)) none none none).run P w= .ok (.slice (some a) m m) w:=by
 have:a.add 0=a:=by simp[Addr.add]
 simp[Instr.sliceAt,Sem.run_bind,run_underlying hD,Instr.sureAddr,Instr.sliceBounds,bG hi',this]
theorem sw (hT:dh P T) {t m e n len i off:Nat} {x:Operand} {Ml:Mem} {b:bu} (hM:M=ae Ml) (ht:T.d t= .arr m e) (hok:(T.d e).ok=true) (ho:o.op= .slice t x none none none) (hm:m≤maxLen)
  (ch:ev F x= .loc n len i off) (hb:ae Ml n=some b) (hl:b.ln=len):bP P X o F M (.dP n len i off m) [] []:=by
 have hx:x ∈ o.op.operands.toList:=by simp[ho,Op.operands]
 obtain⟨D,it,z,hD,hf,_⟩:=hT t (by rw[ht]; simp)
 have gA:=fu ht hf
 subst gA
 obtain⟨De,ie,_,CK,IN,hie,k9,_⟩:=hT e (TD.dG hok)
 refine aJ fun M' N ρ I a w hW hU hN=> ?_
 have r1:=ay hU x hx
 rw[ch]at r1
 obtain⟨sl,ee,er⟩:=bz (F:=F) x hx (n:=n) (by rw[ch]; simp[AV.names])
 have cy:M' n=some b:=(hN sl ee n er).trans (by rw[hM]; exact hb)
 have dJ:lens M' n=some (len,b.sz):=by rw[aH]; exact⟨b,cy,hl,rfl⟩
 obtain⟨hn,g,cap,hρ,hv⟩:=fq r1 dJ
 refine⟨_,?_,yc hn dJ hρ (Nat.le_refl m) hm⟩
 simp only[execOp,ho,hv,Option.map_none,Sem.run_bind,kg hD hie,Result.andThen_ok,Sem.run_pure]
theorem sy (hT:dh P T) {t m e off:Nat} {x:Operand} {r:List AV} (ht:T.d t= .arr m e) (hok:(T.d e).ok=true) (ho:o.op= .slice t x none none none) (hm:m≤maxLen)
  (ch:ev F x= .bv r off) (hfit:off+m*T.s e≤r.length):bP P X o F M (.aO (T.s e) (nQ (T.s e) m (r.drop off))) [] []:=by
 have hx:x ∈ o.op.operands.toList:=by simp[ho,Op.operands]
 obtain⟨D,it,z,hD,hf,_⟩:=hT t (by rw[ht]; simp)
 have gA:=fu ht hf
 subst gA
 obtain⟨De,ie,_,CK,IN,hie,k9,_⟩:=hT e (TD.dG hok)
 refine aJ fun M' N ρ I a w hW hU hN=> ?_
 have r1:=ay hU x hx
 rw[ch]at r1
 generalize hv:a.eval x=v at r1
 cases r1 with
 |bv _ _ b q c hI h1 hcell hr=>
  refine⟨.slice (some ⟨b,q+off,none⟩) m m,?_,?_⟩
  ·simp only[execOp,ho,hv,Option.map_none,Sem.run_bind,kg hD hie,Result.andThen_ok,Sem.run_pure]
  ·have hlen:(nQ (T.s e) m (r.drop off)).length=m:=dT
   have hlt:∀i j,i<m→j<T.s e→off+ (i*T.s e+j)<r.length:=fun i j hi hj=>by
    have:=kz (sz:=T.s e) hi hj
    omega
   have key:=aS.aO (ρ:=ρ) (L:=lens M') (I:=I) (w:=w) (N:=N) (T.s e) (nQ (T.s e) m (r.drop off)) b (q+off) m (fun i j=>c (off+ (i*T.s e+j))) (by rw[hlen]; exact Nat.le_refl _) hm hI
    (fun l hl=>by
      obtain⟨p,hp,rfl⟩:=List.mem_iff_getElem.1 hl
      rw[hlen]at hp
      have e1:=jt (sz:=T.s e) (r:=r.drop off) hp
      rw[List.getD_eq_getElem?_getD,List.getElem?_eq_getElem (by rw[hlen]; exact hp),Option.getD_some]at e1
      rw[e1]
      have:(p+1)*T.s e≤m*T.s e:=Nat.mul_le_mul_right _ hp
      rw[Nat.add_mul,Nat.one_mul]at this
      simp only[List.length_take,List.length_drop]; omega)
    (fun i j hi hj=>h1 _ (hlt i j (by rwa[hlen]at hi) hj))
    (fun i j hi hj=>by
      have:=hcell _ (hlt i j (by rwa[hlen]at hi) hj)
      rwa[show q+off+i*T.s e+j=q+ (off+ (i*T.s e+j)) by omega])
    (fun i j hi hj=>by
      rw[hlen]at hi
      have:=hr _ (hlt i j hi hj)
      rw[jt hi,c8 _ _ _ _ _ hj]
      simpa only[List.getD_eq_getElem?_getD,List.getElem?_drop]using this)
   rwa[hlen]at key
theorem Ba {ρ:Place} {I:Nat→Prop} {M':bA} {N:Nat→Prop} {w:World} (hW:cY X ρ I M' N w) {n i off g cap:Nat} {b:bu} {fN:List AV} {mM:List Value} (cy:M' n=some b) (hmp:b.mp=none) (hρ:ρ n=some (g,cap)) (hi':i<b.es.length)
  (hcl:mM.length=fN.length) (CY:∀u ∈ mM,u.oneCell'=true) (TZ:∀j,j<fN.length→aS ρ (lens M') I w N (fN.getD j .bad) (mM.getD j default)) (hoff:off+fN.length≤b.sz):
  (storeCells ⟨g,i*b.sz+off,none⟩ mM).run P w= .ok () (w.setCells g (i*b.sz+off) mM)∧
  ∃ρ1,kY N ρ (lens M') I w ρ1 (lens (df M' [(n,⟨b.ty,b.sz,b.es.set i (bO off fN (b.es.getD i [])),none⟩)])) I (w.setCells g (i*b.sz+off) mM)∧
   cY X ρ1 I (df M' [(n,⟨b.ty,b.sz,b.es.set i (bO off fN (b.es.getD i [])),none⟩)]) (eT N [(n,⟨b.ty,b.sz,b.es.set i (bO off fN (b.es.getD i [])),none⟩)]) (w.setCells g (i*b.sz+off) mM):=by
 have B:=hW.bg n b cy
 obtain⟨cs,fr,hg,lX,pw,hown,hlc,lI,hcs,hc⟩:=B.real g cap hρ
 have hg:=hg.cells hmp
 have N5:=bu.db hmp
 have hel:(b.es.getD i []).length=b.sz:=by
  rw[List.getD_eq_getElem?_getD,List.getElem?_eq_getElem hi',Option.getD_some]
  exact B.even _ (List.getElem_mem _)
 have hrow:i*b.sz+b.sz≤cs.size:=by
  rw[hcs]
  calc i*b.sz+b.sz=(i+1)*b.sz:=by rw[Nat.add_mul,Nat.one_mul]
   _≤cap*b.sz:=Nat.mul_le_mul_right _ (by omega)
 have hin:∀j,j<b.sz→i*b.sz+j<cs.size:=fun j hj=>by omega
 have mG:∀k,w.cell? ⟨g,k,none⟩=cs[k]? :=fun k=>by simp[World.cell?,hg]
 have T0:∀k,k<cs.size→w.frozen? ⟨g,k,none⟩=false:=fun k hk=>by
  have:=lX k hk
  simp only[World.frozen?,hg]
  simpa using this
 refine⟨?_,?_⟩
 ·have hst:=run_storeCells_cells (P:=P) g (i*b.sz+off) mM 0 w
   (fun j hj=>by
     rw[Nat.add_zero,mG,Nat.add_assoc,Array.getElem?_eq_getElem (hin (off+j) (by omega))]; rfl)
   (fun j hj=>by rw[Nat.add_zero,Nat.add_assoc]; exact T0 _ (hin (off+j) (by omega)))
   CY
  rwa[Nat.add_zero]at hst
 ·obtain⟨cs',h1,h2,h3⟩:=gi g b.ty fr mM (i*b.sz+off) w cs hg (by rw[hcl]; omega)
  have key:∀p q,p<b.es.length→q<b.sz→∃u,cs'[p*b.sz+q]? =some u∧u.oneCell'=true∧aS ρ (lens M') I w N (((b.es.set i (bO off fN (b.es.getD i []))).getD p []).getD q .bad) u:=by
   intro p q hp hq
   rw[h3,hcl]
   by_cases hpi:p=i
   ·subst hpi
    have e1:(b.es.set p (bO off fN (b.es.getD p []))).getD p []=bO off fN (b.es.getD p []):=by
     simp[List.getD_eq_getElem?_getD,hp]
    rw[e1,ky _ _ _ _ (by omega)]
    by_cases IF:off≤q∧q<off+fN.length
    ·rw[if_pos (by omega),if_pos IF]
     have e2:p*b.sz+q - (p*b.sz+off)=q - off:=by omega
     rw[e2]
     have JH:q - off<mM.length:=by rw[hcl]; omega
     refine⟨mM[q - off],List.getElem?_eq_getElem JH,CY _ (List.getElem_mem _),?_⟩
     have:=TZ (q - off) (by omega)
     rwa[List.getD_eq_getElem?_getD (l:=mM),List.getElem?_eq_getElem JH,Option.getD_some]at this
    ·rw[if_neg (by omega),if_neg IF]
     exact hc p q hp hq
   ·have e1:(b.es.set i (bO off fN (b.es.getD i []))).getD p []=b.es.getD p []:=by
     simp[List.getD_eq_getElem?_getD,List.getElem?_set,Ne.symm hpi]
    rw[e1]
    rw[if_neg]
    ·exact hc p q hp hq
    ·rintro⟨ha,hb'⟩
     rcases Nat.lt_or_gt_of_ne hpi with hlt|hgt
     ·have:(p+1)*b.sz≤i*b.sz:=Nat.mul_le_mul_right _ hlt
      rw[Nat.add_mul,Nat.one_mul]at this
      omega
     ·have:(i+1)*b.sz≤p*b.sz:=Nat.mul_le_mul_right _ hgt
      rw[Nat.add_mul,Nat.one_mul]at this
      omega
  have jr:∀b0,M' n=some b0→b0=b:=fun b0 h0=>by rw[cy]at h0; exact (Option.some.inj h0).symm
  obtain⟨E,W⟩:=hW.put (w':=w.setCells g (i*b.sz+off) mM) n ⟨b.ty,b.sz,b.es.set i (bO off fN (b.es.getD i [])),none⟩ g cap cs' fr
   (os_setCells _ _ _ _) (gj _ _ _ _) (gP _ _ _ _) (by rw[size_setCells]; exact Nat.le_refl _) (fun k _ hk=>dZ g _ _ _ _ hk) h1 (fun q hq=>lX q (by omega))
   (.inr ⟨cap,hρ,b,cy⟩) (fun b0 h0=>by rw[jr b0 h0,N5]; exact⟨rfl,by simp[bu.ln],fun _=>hρ⟩) (fun _=>⟨b,cy⟩)
   (fun e he=>by
     rcases List.mem_or_eq_of_mem_set he with he|rfl
     ·exact B.even e he
     ·show (bO _ _ _).length=b.sz
      unfold bO
      rw[List.length_append,List.length_append,List.length_take,List.length_drop,hel]; omega)
   (by simpa using hlc) lI (by rw[h2]; exact hcs) (by simpa using key)
  exact⟨_,E,by rw[bQ]; exact W⟩
theorem vX {sz:Nat}:∀ {xs:List (List AV)},(∀e ∈ xs,e.length=sz)→xs.flatten.length=xs.length*sz
 |[],_=>by simp
 |e::r,h=>by
  rw[List.flatten_cons,List.length_append,vX (fun e he=>h e (List.mem_cons_of_mem _ he)),h e List.mem_cons_self,List.length_cons,Nat.add_mul,Nat.one_mul,Nat.add_comm]
theorem s7 {sz:Nat}:∀ {xs:List (List AV)} {k:Nat},(∀e ∈ xs,e.length=sz)→k<xs.length*sz→∃p q,p<xs.length∧q<sz∧k=p*sz+q∧xs.flatten.getD k .bad=(xs.getD p []).getD q .bad
 |[],k,_,hk=>by simp at hk
 |e::r,k,h,hk=>by
  have he:=h e List.mem_cons_self
  by_cases hlt:k<sz
  ·refine⟨0,k,by simp,hlt,by simp,?_⟩
   simp only[List.flatten_cons,List.getD_eq_getElem?_getD,List.getElem?_append_left (show k<e.length by omega),List.getElem?_cons_zero,Option.getD_some]
  ·rw[List.length_cons,Nat.add_mul,Nat.one_mul]at hk
   obtain⟨p,q,hp,hq,hkk,hg⟩:=s7 (xs:=r) (k:=k - sz) (fun e he=>h e (List.mem_cons_of_mem _ he)) (by omega)
   refine⟨p+1,q,by simpa using hp,hq,by rw[Nat.add_mul,Nat.one_mul]; omega,?_⟩
   rw[List.getD_cons_succ,←hg]
   simp only[List.flatten_cons,List.getD_eq_getElem?_getD,List.getElem?_append_right (show e.length≤k by omega),he]
theorem Bb (hT:dh P T) {x y:Operand} {t t' e n len i off ca:Nat} {Ml:Mem} {b:bu} {K:List (List AV)→Prop} (hM:M=ae Ml) (ho:o.op= .call {callee:= .builtin .copy,args:= #[x,y],argTypes:= #[t,t']})
  (ht:T.d t= .slice e) (hok:(T.d e).ok=true) (ch:ev F x= .dP n len i off ca) (hb:ae Ml n=some b) (hmp:b.mp=none) (hl:b.ln=len) (hi:i<b.es.length) (hfit:off+ca*T.s e≤b.sz)
  (hk:(∃e,P.underlying t'=some (.slice e))∨P.underlying t'=some .string) (hks:(∃s,ev F y= .str s)→P.underlying t'=some .string) (hkl:(¬ ∃s,ev F y= .str s)→∃e,P.underlying t'=some (.slice e)) (h:lY Ml (T.s e) (ev F y) K):
  ∃xs,K xs∧bP P X o F M (.int .i64 ((min xs.length ca:Nat):Int)) [(n,⟨b.ty,b.sz,b.es.set i (bO off ((xs.take ca).flatten) (b.es.getD i [])),none⟩)] []∧n ∈ (ev F x).names:=by
 have hx:x ∈ o.op.operands.toList:=by simp[ho,Op.operands,Call.operands]
 have hy:y ∈ o.op.operands.toList:=by simp[ho,Op.operands,Call.operands]
 obtain⟨D,it,z,hD,hf,_⟩:=hT t (by rw[ht]; simp)
 have gA:=bZ ht hf
 subst gA
 obtain⟨De,ie,_,CK,IN,hie,k9,_⟩:=hT e (TD.dG hok)
 obtain⟨xs,hkx,hsrc⟩:=jM (X:=X) (o:=o) hT hM hy hk hks hkl h
 obtain⟨sl,ee,er⟩:=bz (F:=F) x hx (n:=n) (by rw[ch]; simp[AV.names])
 refine⟨xs,hkx,⟨fun p hp=> .inr ⟨sl,ee,by simp at hp; rw[hp]; exact er⟩,fun M' N ρ I a w hW hU hN _=> ?_⟩,by rw[ch]; simp[AV.names]⟩
 have r1:=ay hU x hx
 rw[ch]at r1
 have cy:M' n=some b:=(hN sl ee n er).trans (by rw[hM]; exact hb)
 have dJ:lens M' n=some (len,b.sz):=by rw[aH]; exact⟨b,cy,hl,rfl⟩
 obtain⟨hn,g,cap,c,hρ,hv,_⟩:=k8 r1 dJ
 obtain⟨vs,hS,hL,Um⟩:=hsrc M' N ρ I a w hW hU hN
 have Dd:(xs.take ca).length=min ca xs.length:=List.length_take
 have sf:∀e' ∈ xs.take ca,e'.length=T.s e:=fun e' he=>hL.2.1 e' (List.mem_of_mem_take he)
 have hfl:=vX sf
 have hle:min xs.length ca*T.s e≤ca*T.s e:=Nat.mul_le_mul_right _ (Nat.min_le_right _ _)
 have hle2:min xs.length ca*T.s e≤xs.length*T.s e:=Nat.mul_le_mul_right _ (Nat.min_le_left _ _)
 rw[Dd,Nat.min_comm]at hfl
 have hvl:(vs.take (min xs.length ca*T.s e)).length=((xs.take ca).flatten).length:=by
  rw[hfl,List.length_take,hL.1]; omega
 have hone:∀u ∈ vs.take (min xs.length ca*T.s e),u.oneCell'=true:=fun u hu=>hL.one u (List.mem_of_mem_take hu)
 obtain⟨hst,ρ1,E,W⟩:=Ba (P:=P) hW (off:=off) (fN:=(xs.take ca).flatten) (mM:=vs.take (min xs.length ca*T.s e)) cy hmp hρ hi hvl hone (fun k hk'=>by
  rw[hfl]at hk'
  obtain⟨p,q,hp,hq,hkk,hg⟩:=s7 (xs:=xs.take ca) (k:=k) sf (by rw[Dd,Nat.min_comm]; exact hk')
  rw[Dd]at hp
  obtain⟨u,hu,_,hr⟩:=hL.2.2 p q (by omega) hq
  rw[hg]
  have e1:(xs.take ca).getD p []=xs.getD p []:=by
   simp only[List.getD_eq_getElem?_getD,List.getElem?_take]
   rw[if_pos (by omega)]
  have e2:(vs.take (min xs.length ca*T.s e)).getD k default=u:=by
   rw[List.getD_eq_getElem?_getD,List.getElem?_take,if_pos hk',hkk,hu]; rfl
  rw[e1,e2]; exact hr) (by rw[hfl]; omega)
 unfold bV
 have hrun:(execOp a.eval o).run P w= .ok (.value (.int .i64 ((min xs.length ca:Nat):Int))) (w.setCells g (i*b.sz+off) (vs.take (min xs.length ca*T.s e))):=by
  have hp:=Um (min xs.length ca) (Nat.min_le_left _ _)
  rw[im ho]
  have e0:(Array.map a.eval #[x,y])= #[a.eval x,a.eval y]:=by simp
  have em:Nat.min xs.length ca=min xs.length ca:=rfl
  simp only[e0,builtin,hv,Builtin.copy_,Sem.run_bind,run_underlying hD,Result.andThen_ok,hS.len,bG hie,k9,em,hp,Sem.run_pure,List.toList_toArray,hst,goInt]
  simp[hst,run_underlying hD,hS.len,bG hie,k9,hp,goInt,em]
 rw[hrun]
 exact⟨ρ1,I,E,W,.int _ _⟩
theorem Do (hT:dh P T) {n t e len:Nat} {x y:Operand} {k k':IntKind} (ho:o.op= .makeSlice t x y) (ht:T.d t= .slice e) (hok:(T.d e).ok=true) (hs:bS (T.z e)=true) (hl:(cells (T.z e)).length=T.s e) (hz:T.s e≠0)
  (hx:ev F x= .int k len) (hy:ev F y= .int k' len) (hlen:len≤kj):bP P X o F M (.bh n len) [(n,⟨e,T.s e,List.replicate len (cells (T.z e)),none⟩)] [n]:=by
 have hx':x ∈ o.op.operands.toList:=by simp[ho,Op.operands]
 have hy':y ∈ o.op.operands.toList:=by simp[ho,Op.operands]
 obtain⟨D,it,z,hD,hf,hi,hsz,_⟩:=hT t (by rw[ht]; simp)
 have gA:=bZ ht hf
 subst gA
 obtain⟨_,ie,ze,_,_,hie,k9,hby,JJ,iU⟩:=hT e (TD.dG hok)
 refine oP (cap:=len) (by simp) (fun M' N ρ I a w hW hU=> ?_)
 have hc:bw ρ (lens M') I w N (cells (T.z e)) ze.cells:=by rw[iU]; exact bw.eu (fk _ _ _ _ _ ze) (by rw[←iU]; exact hs)
 have r1:=bH (hx ▸ ay hU x hx')
 have r2:=bH (hy ▸ ay hU y hy')
 have hmax:len≤maxLen:=by simp only[maxLen,kj]at *; omega
 have hrow:=ii.CZ (n:=len) hc hl hz
 refine⟨madeCells ze.cells (len*ie.size),?_,by rw[size_madeCells,k9],Nat.le_refl _,hmax,by rw[k9]; exact hrow⟩
 have hb:(ie.bytes:Int)* (len:Int)≤281474976710656:=by
  have h1:ie.bytes*len≤131072*1073741824:=Nat.mul_le_mul hby hlen
  have h2:((ie.bytes*len:Nat):Int)≤281474976710656:=by omega
  rwa[Int.natCast_mul]at h2
 have h3:=run_make (P:=P) w t e ie ze hD hie JJ k k' (len:Int) (len:Int) (by omega) (Int.le_refl _) hb (by simp only[kj]at hlen; omega)
 simp only[execOp,ho,r1,r2,Sem.run_bind,h3,Result.andThen_ok,Sem.run_pure,Int.toNat_natCast]
theorem Dp (hT:dh P T) {n s t e:Nat} {x:Operand} {l:List UInt8} (ho:o.op= .convert s t x) (hs:T.d s= .str) (ht:T.d t= .slice e) (he:T.d e= .int .u8) (hx:ev F x= .str l) (hlen:l.length≤kj):
  bP P X o F M (.bh n l.length) [(n,⟨e,1,l.map fun c=>[AV.int .u8 c.toNat],none⟩)] [n]:=by
 have hx':x ∈ o.op.operands.toList:=by simp[ho,Op.operands]
 obtain⟨D,_,_,SV,hf,_⟩:=hT s (by rw[hs]; simp)
 have:=fy hs hf
 subst this
 obtain⟨D,_,_,Ul,hf,_⟩:=hT t (by rw[ht]; simp)
 have:=bZ ht hf
 subst this
 obtain⟨D,_,_,CK,hf,_⟩:=hT e (by rw[he]; simp)
 have:=fits_int he hf
 subst this
 refine⟨fun p hp=> .inl (by simp at hp; simp[hp]),fun M' N ρ I ac w hW hU hN hF=> ?_⟩
 have hn:¬N n:=hF n (by simp)
 have r1:=gh (hx ▸ ay hU x hx')
 have hd:∀b0,M' n=some b0→False:=fun b0 h0=>hn (hW.bg n b0 h0).lt
 have hsz:(⟨l.toArray⟩:ByteArray).size=l.length:=by show l.toArray.size=_; simp
 have hge:=grownCap_ge w l.length 0 e
 have lI:=grownCap_le_maxLen w l.length 0 e (by simp only[maxLen,kj]at *; omega)
 have hcs:(Lib.bytesCells w e ⟨l.toArray⟩).size=grownCap w l.length 0 e:=by
  simp only[Lib.bytesCells,Array.size_append,Array.size_map,Array.size_replicate,hsz,List.size_toArray]; omega
 have hrow:∀i j,i<l.length→j<1→∃u,(Lib.bytesCells w e ⟨l.toArray⟩)[i*1+j]? =some u∧u.oneCell'=true∧aS ρ (lens M') I w N (((l.map fun c=>[AV.int .u8 (c.toNat:Int)]).getD i []).getD j .bad) u:=by
  intro i j hi hj
  have Un:j=0:=by omega
  subst Un
  refine⟨.int .u8 (l[i].toNat:Int),?_,rfl,?_⟩
  ·rw[Nat.mul_one,Nat.add_zero,Lib.bytesCells,Array.getElem?_append_left (by simpa using hi)]
   simp[hi]
  ·have:((l.map fun c=>[AV.int .u8 (c.toNat:Int)]).getD i []).getD 0 .bad= .int .u8 (l[i].toNat:Int):=by simp[List.getD_eq_getElem?_getD,hi]
   rw[this]; exact .int _ _
 obtain⟨E,W⟩:=hW.put (w':=Lib.bytesWorld w e ⟨l.toArray⟩) n ⟨e,1,l.map fun c=>[AV.int .u8 (c.toNat:Int)],none⟩ w.heap.size (grownCap w l.length 0 e) (Lib.bytesCells w e ⟨l.toArray⟩) ((Lib.bytesCells w e ⟨l.toArray⟩).size,(Lib.bytesCells w e ⟨l.toArray⟩).size+1)
  rfl rfl rfl (by rw[Lib.bytesWorld_size]; omega) (fun k hk _=>Lib.bytesWorld_at_old w e _ k hk) (Lib.bytesWorld_at_new w e _) (fun o h1 h2=>by omega)
  (.inl (Nat.le_refl _)) (fun b0 h0=>(hd b0 h0).elim) (fun h=>(hn h).elim) (fun r hr=>by obtain⟨_,_,rfl⟩:=List.mem_map.1 hr; rfl) (by simpa using hge) lI (by rw[hcs]; simp) (by simpa using hrow)
 unfold bV
 have hrun:(execOp ac.eval o).run P w= .ok (.value (.slice (some ⟨w.heap.size,0,none⟩) l.length (grownCap w l.length 0 e))) (Lib.bytesWorld w e ⟨l.toArray⟩):=by
  have:=Lib.run_convert_string_bytes (P:=P) w s t e ⟨l.toArray⟩ SV Ul CK
  simp only[execOp,ho,r1,Sem.run_bind,this,Result.andThen_ok,Sem.run_pure,hsz]
 rw[hrun]
 refine⟨_,I,E,by rw[bQ]; exact W,?_⟩
 refine jL (sz:=1) (.inr ⟨_,List.mem_singleton.2 rfl⟩) ?_ (by simp[gN])
 show lens (cQ M' n _) n=_
 rw[cH,if_pos rfl]; simp[bu.ln]
end Go.AM
namespace Go.AM
open Go.RowKit
variable {P:Program} {T:TT} {X:ct} {o:Oper} {F:bj} {M:bA}
section
variable {w:World} {t tx ty e:TypeId} {i:TypeInfo} {z:Value} {k k':IntKind} {n:Nat}
theorem jh {zz:Array Value} {m:Nat} (h:m*zz.size=0):Builtin.zeroCells zz m= #[]:=by
 simp[Builtin.zeroCells,h]
theorem wrap_small (h:n≤kj):IntKind.i64.wrap (n:Int)=n:=by
 simp only[kj]at h
 simp only[IntKind.wrap,IntKind.bits,IntKind.signed]; simp; omega
theorem ji (ht:P.underlying t=some (.slice e)) (hx:P.underlying tx=some (.int k)) (hi:P.info? e=some i) (hz:i.zero=some z) (hzs:z.cells.size=i.size) (hn:n≤kj) (hby:i.bytes≤131072)
  (base:Option Addr) (sLen sCap:Nat) (hroom:sLen+n≤sCap) (w':World)
  (hst:∀a,base=some a→(storeCells (a.add (sLen*i.size)) (Builtin.zeroCells z.cells n).toList).run P w= .ok () w') (h0:base=none→w'=w):
  (Builtin.append_ #[t,tx] ty #[.slice base sLen sCap,.int k' n]).run P w= .ok (.slice base (sLen+n) sCap) w':=by
 have h48:¬ (281474976710656< (n:Int)* (i.bytes:Int)):=by
  have h1:n*i.bytes≤1073741824*131072:=Nat.mul_le_mul hn hby
  have h2:((n*i.bytes:Nat):Int)≤281474976710656:=by omega
  rw[Int.natCast_mul]at h2; omega
 have hneg:¬ ((n:Int)<0):=by omega
 have hap:(if n*i.size=0 then (pure #[]:Sem (Array Value))else do pure (Builtin.zeroCells (←zeroValue e).cells n)).run P w= .ok (Builtin.zeroCells z.cells n) w:=by
  split
  ·rename_i h
   rw[jh (by rw[hzs]; exact h)]; simp
  ·simp[zeroValue,typeInfo,hi,hz]
 cases base with
 |none=>
  have:=h0 rfl
  subst this
  simp[Builtin.append_,run_underlying ht,run_underlying hx,sizeOf,typeInfo,zeroValue,hz,hi,wrap_small hn,hneg,h48,hroom,asInt,asIntOf]
 |some a=>
  have hst:=hst a rfl
  simp[Builtin.append_,run_underlying ht,run_underlying hx,sizeOf,typeInfo,zeroValue,hz,hi,wrap_small hn,hneg,h48,hroom,asInt,asIntOf]at hap hst ⊢
  by_cases h:n*i.size=0
  ·have h2:=hap h
   rw[h2]at hst
   simp[h,hst]
  ·simp[h,hst]
theorem jj (ht:P.underlying t=some (.slice e)) (hx:P.underlying tx=some (.int k)) (hi:P.info? e=some i) (hz:i.zero=some z) (hzs:z.cells.size=i.size) (hn:n≤kj) (hby:i.bytes≤131072)
  (base:Option Addr) (sLen sCap:Nat) (olds:List Value) (hold:(Builtin.firstCells i.size sLen (.slice base sLen sCap)).run P w.drew= .ok olds.toArray w.drew)
  (hg:sCap<sLen+n) (YB:((sLen+n:Nat):Int)≤9223372036854775807) (hfit:Builtin.nextslicecap (sLen+n) sCap*i.bytes≤281474976710656):
  (Builtin.append_ #[t,tx] ty #[.slice base sLen sCap,.int k' n]).run P w= .ok (.slice (some ⟨w.heap.size,0,none⟩) (sLen+n) (grownCap w (sLen+n) sCap e))
    (w.drew.alloc (.cells ((olds++(Builtin.zeroCells z.cells n).toList).toArray++Builtin.zeroCells z.cells (grownCap w (sLen+n) sCap e - (sLen+n))) e)):=by
 have h48:¬ (281474976710656< (n:Int)* (i.bytes:Int)):=by
  have h1:n*i.bytes≤1073741824*131072:=Nat.mul_le_mul hn hby
  have h2:((n*i.bytes:Nat):Int)≤281474976710656:=by omega
  rw[Int.natCast_mul]at h2; omega
 have hneg:¬ ((n:Int)<0):=by omega
 have ZW:¬ (sLen+n≤sCap):=by omega
 have h63':¬ (9223372036854775807< ((sLen:Int)+ (n:Int))):=by omega
 have Uo:¬ (281474976710656<Builtin.nextslicecap (sLen+n) sCap*i.bytes):=by omega
 have hap:(if n*i.size=0 then (pure #[]:Sem (Array Value))else do pure (Builtin.zeroCells (←zeroValue e).cells n)).run P w.drew= .ok (Builtin.zeroCells z.cells n) w.drew:=by
  split
  ·rename_i h
   rw[jh (by rw[hzs]; exact h)]; simp
  ·simp[zeroValue,typeInfo,hi,hz]
 simp[Builtin.append_,run_underlying ht,run_underlying hx,sizeOf,typeInfo,zeroValue,hi,hz,wrap_small hn,hneg,h48,ZW,h63',Uo,asInt,asIntOf,Question.forced,hold,newRow,grownCap]at hap ⊢
 by_cases h:n*i.size=0
 ·have h2:=hap h
  simp[h,h2]
 ·simp[h]
  congr 2
  apply Array.ext'
  simp[List.append_assoc]
end
theorem s8 {ρ:Place} {L:bn} {I:Nat→Prop} {w:World} {N:Nat→Prop} {z:Value} {a:AV} {sz n:Nat} (h:bw ρ L I w N (cells a) z.cells) (hl:(cells a).length=sz) (hpos:sz≠0):
  dq ρ L I w N sz (List.replicate n (cells a)) (Builtin.zeroCells z.cells n).toList:=by
 have hz:z.cells.size=sz:=by rw[h.1,hl]
 have hr:=ii.CZ (n:=n) h hl hpos
 have e:Builtin.zeroCells z.cells n=(Array.range (n*sz)).map (z.cells[· % z.cells.size]!):=by simp only[Builtin.zeroCells,hz]
 rw[e]
 refine⟨by simp,hr.2.1,fun i j hi hj=> ?_⟩
 obtain⟨u,hu,h1⟩:=hr.2.2 i j hi hj
 exact⟨u,by rw[Array.getElem?_toList]; exact hu,h1⟩
def mN (T:TT) (t:Nat) (s x:AV) (S:St) (K:AV→Mem→Nat→Prop):Prop:=
 match T.d t,x with
 | .slice e,.int _ m=>
   (match s with
   | .bh n len=>alive S.M n len fun b=>iK (b.sz==T.s e&&b.ty==e) ((0≤m∧len+m.toNat≤kj)∧
       K (.bh n (len+m.toNat)) (fR S.M n ⟨b.ty,b.sz,b.es++List.replicate m.toNat (cells (T.z e)),none⟩) S.nx)
   | .an=>(0≤m∧m.toNat≤kj)∧K (.bh S.nx m.toNat) (fR S.M S.nx ⟨e,T.s e,List.replicate m.toNat (cells (T.z e)),none⟩) (S.nx+1)
   |_=>False)
 |_,_=>False
theorem uH (hT:dh P T) {s x:Operand} {t t' nx:Nat} {Ml:Mem} {K:AV→Mem→Nat→Prop} (hM:M=ae Ml) (ho:o.op= .call {callee:= .builtin .append,args:= #[s,x],argTypes:= #[t,t']})
  (hok:∀e,T.d t= .slice e→(T.d e).ok=true∧bS (T.z e)=true∧(cells (T.z e)).length=T.s e∧T.s e≠0) (hint:∃k,T.d t'= .int k)
  (h:mN T t (ev F s) (ev F x) ⟨F,Ml,nx⟩ K):
  ∃av n b nw bp,bP P X o F M av [(n,b)] nw∧K av (fR Ml n b) bp∧((nw=[nx]∧bp=nx+1∧n=nx)∨(bp=nx∧nw=[]∧n ∈ (ev F s).names)):=by
 have hs:s ∈ o.op.operands.toList:=by simp[ho,Op.operands,Call.operands]
 have hx:x ∈ o.op.operands.toList:=by simp[ho,Op.operands,Call.operands]
 unfold mN at h
 cases ht:T.d t with
 |slice e=>
  cases S5:ev F x with
  |int kx m=>
   rw[ht,S5]at h
   simp only at h
   obtain⟨D,it,z0,hD,hf,_⟩:=hT t (by rw[ht]; simp)
   have gA:=bZ ht hf
   subst gA
   obtain⟨JM,mH,hcl,hpos⟩:=hok e ht
   obtain⟨_,ie,z,_,_,hie,k9,hby,hz,iU⟩:=hT e (TD.dG JM)
   obtain⟨k',hk'⟩:=hint
   obtain⟨D',_,_,NG,ZX,_⟩:=hT t' (by rw[hk']; simp)
   have:=fits_int hk' ZX
   subst this
   have hzs:z.cells.size=T.s e:=by
    have:=(bw.eu (ρ:=fun _=>none) (L:=fun _=>none) (I:=fun _=>False) (w:=default) (N:=cE) (fk _ _ _ _ _ z) (by rw[←iU]; exact mH)).1
    rw[this,←iU,hcl]
   have Bc:z.cells.size=ie.size:=by rw[hzs,k9]
   have hfit:∀need old,old<need→need≤kj→Builtin.nextslicecap need old*ie.bytes≤281474976710656:=fun need old h1 h2=>by
    refine growslice_fits h1 ?_
    calc need*ie.bytes≤kj*131072:=Nat.mul_le_mul h2 hby
     _=140737488355328:=by simp[kj]
   have hcells:∀ (ρ:Place) (L:bn) (I:Nat→Prop) (w:World) (N:Nat→Prop),bw ρ L I w N (cells (T.z e)) z.cells:=fun ρ L I w N=>by rw[iU]; exact bw.eu (fk _ _ _ _ _ z) (by rw[←iU]; exact mH)
   cases hss:ev F s with
   |bh n len=>
    rw[hss]at h
    simp only[alive]at h
    cases hb:ae Ml n with
    |none=>rw[hb]at h; exact h.elim
    |some b=>
     rw[hb]at h
     obtain⟨hc1,hmp,h2⟩:=aB h
     obtain⟨jK,⟨hm0,ik⟩,hk⟩:=aB h2
     have hl:b.es.length=len:=(bu.db hmp).symm.trans (by simpa using hc1)
     simp only[Bool.and_eq_true,beq_iff_eq]at jK
     obtain⟨hsz,xS⟩:=jK
     generalize hmn:m.toNat=q at*
     obtain rfl:m=(q:Int):=by omega
     obtain⟨sl,ee,er⟩:=bz (F:=F) s hs (n:=n) (by rw[hss]; simp[AV.names])
     refine⟨_,n,_,[],nx,?_,hk,.inr ⟨rfl,rfl,by simp[AV.names]⟩⟩
     refine⟨fun p hp=> .inr ⟨sl,ee,by simp at hp; rw[hp]; exact er⟩,fun M' N ρ I a w hW hU hN _=> ?_⟩
     have cy:M' n=some b:=(hN sl ee n er).trans (by rw[hM]; exact hb)
     have dJ:lens M' n=some (b.es.length,b.sz):=by rw[aH]; exact⟨b,cy,bu.db hmp,rfl⟩
     have hL:=s8 (n:=q) (hcells ρ (lens M') I w N) hcl hpos
     have NH:q≤kj:=by omega
     have r1:=ay hU s hs
     rw[hss]at r1
     have r2:=bH (S5 ▸ ay hU x hx)
     subst hl
     obtain⟨hn,h2⟩:=iT r1 dJ
     unfold bV
     rw[dB ho,r2]
     rw[←hsz]at hL
     have hxl:(List.replicate q (cells (T.z e))).length=q:=by simp
     rcases h2 with⟨h0,r,hv⟩|⟨g,cap,hρ,hv⟩
     ·have hB:=hW.bg n b cy
      have he:b.es=[]:=hB.dY h0
      rw[hv]
      by_cases hx0:q=0
      ·subst hx0
       have ZY:(Builtin.zeroCells z.cells 0).toList=[]:=by rw[jh (by simp)]
       have hrun:=ji (P:=P) (w:=w) (t:=t) (tx:=t') (ty:=o.type) (k':=kx) hD NG hie hz Bc NH hby r 0 0 (by simp) w (fun a ha=>by rw[ZY]; simp[storeCells]) (fun _=>rfl)
       rw[hrun]
       refine⟨ρ,I,?_,?_,?_⟩
       ·show kY N ρ (lens M') I w ρ (lens (cQ M' n _)) I w
        have:(⟨b.ty,b.sz,b.es++List.replicate 0 (cells (T.z e)),none⟩:bu)=b:=by have:=hmp; cases b; simp_all
        rw[this,lc cy]; exact kY.refl _ _ _ _ _
       ·show cY X ρ I (cQ M' n _) _ w
        have:(⟨b.ty,b.sz,b.es++List.replicate 0 (cells (T.z e)),none⟩:bu)=b:=by have:=hmp; cases b; simp_all
        rw[this,lc cy]
        have Gh:eT N [(n,b)]=N:=by
         rw[bQ]; funext m; simp only[xG,eq_iff_iff]
         exact⟨fun h=>h.elim (fun e=>e ▸ hn) id,.inr⟩
        rw[bQ]at Gh ⊢
        rw[Gh]; exact hW
       ·refine .bh n _ _ (.inl hn) rfl fun l xN nL=> ?_
        have:(⟨b.ty,b.sz,b.es++List.replicate 0 (cells (T.z e)),none⟩:bu)=b:=by have:=hmp; cases b; simp_all
        rw[this]at nL
        change lens (cQ M' n b) n=_ at nL
        rw[cH,if_pos rfl,bu.db hmp]at nL
        simp at nL
        exact⟨by omega,fun _=> .inl ⟨h0,r,rfl⟩⟩
      ·have JN:(Builtin.firstCells ie.size 0 (.slice r 0 0)).run P w.drew= .ok #[] w.drew:=by
        cases r with
        |none=>exact run_firstCells_none w.drew ie.size 0 0 0
        |some a=>exact run_firstCells_some w.drew ie.size 0 a 0 0 [] (by simp) (fun j v hv=>by simp at hv)
       have hrun:=jj (P:=P) (w:=w) (t:=t) (tx:=t') (ty:=o.type) (k':=kx) (n:=q) hD NG hie hz Bc NH hby r 0 0 [] JN (by omega) (by simp[kj]at NH ⊢; omega) (hfit _ _ (by omega) (by omega))
       rw[hrun]
       have gn:=ju (X:=X) (e:=e) (olds:=[]) (old:=0) (z:=z) hW (fun _=>⟨b,cy⟩) (fun b0 h0=>by rw[cy]at h0; cases h0; exact⟨rfl,he,hmp⟩) (by rw[hxl]; omega) ⟨by simp,by simp,fun i j hi=>by simp at hi⟩ hL (by rw[hzs,hsz]) (by rw[hxl]; simpa using NH)
       have e1:b.es.length+q=([]:List (List AV)).length+ (List.replicate q (cells (T.z e))).length:=by rw[he,hxl]
       have e2:(⟨b.ty,b.sz,b.es++List.replicate q (cells (T.z e)),none⟩:bu)=⟨e,b.sz,[]++List.replicate q (cells (T.z e)),none⟩:=by rw[he,xS]
       have e3:0+q=([]:List (List AV)).length+ (List.replicate q (cells (T.z e))).length:=by rw[hxl]; rfl
       rw[e1,e2,e3]
       exact gn
     ·rw[hv]
      by_cases hroom:b.es.length+q≤cap
      ·obtain⟨g1,g2,g3⟩:=vI hW cy hmp hρ hL (by rw[hxl]; exact hroom)
       have hone:∀u ∈ (Builtin.zeroCells z.cells q).toList,u.oneCell'=true:=hL.one
       have hst:=run_storeCells_cells (P:=P) g (0+b.es.length*b.sz) _ 0 w (by simpa using g1) (by simpa using g2) hone
       have hrun:=ji (P:=P) (w:=w) (t:=t) (tx:=t') (ty:=o.type) (k':=kx) hD NG hie hz Bc NH hby (some ⟨g,0,none⟩) b.es.length cap hroom (w.setCells g (0+b.es.length*b.sz) (Builtin.zeroCells z.cells q).toList)
        (fun a ha=>by
          cases ha
          rw[cj,k9,←hsz]
          simpa using hst) (fun h=>by cases h)
       rw[hrun]
       rw[hxl]at g3
       exact g3
      ·have hB:=hW.bg n b cy
       obtain⟨olds,IH,N9⟩:=hB.list hmp hρ
       have T':(Builtin.firstCells ie.size b.es.length (.slice (some ⟨g,0,none⟩) b.es.length cap)).run P w.drew= .ok olds.toArray w.drew:=
        run_firstCells_some (P:=P) w.drew ie.size b.es.length _ _ _ _ (by rw[k9,←hsz]; exact IH.1) (fun k u hu=>by rw[cj,Nat.zero_add]; exact N9 k u hu)
       have hrun:=jj (P:=P) (w:=w) (t:=t) (tx:=t') (ty:=o.type) (k':=kx) (n:=q) hD NG hie hz Bc NH hby _ b.es.length cap olds T' (by omega) (by simp[kj]at ik ⊢; omega) (hfit _ _ (by omega) ik)
       rw[hrun]
       have gn:=ju (X:=X) (e:=e) (old:=cap) (z:=z) hW (fun _=>⟨b,cy⟩) (fun b0 h0=>by rw[cy]at h0; cases h0; exact⟨rfl,rfl,hmp⟩)
        (by
          have hcap:b.es.length≤cap:=by obtain⟨_,_,_,_,_,_,hh,_⟩:=hB.real g cap hρ; exact hh
          rw[hxl]; omega) IH hL (by rw[hzs,hsz]) (by rw[hxl]; exact ik)
       rw[hxl]at gn
       rw[←xS]at gn ⊢
       exact gn
   |an=>
    rw[hss]at h
    obtain⟨⟨hm0,ik⟩,hk⟩:=h
    generalize hmn:m.toNat=q at*
    obtain rfl:m=(q:Int):=by omega
    refine⟨_,nx,_,[nx],nx+1,?_,hk,.inl ⟨rfl,rfl,rfl⟩⟩
    refine⟨fun p hp=> .inl (by simp at hp; simp[hp]),fun M' N ρ I a w hW hU hN hF=> ?_⟩
    have hn:¬N nx:=hF nx (by simp)
    have hL:=s8 (n:=q) (hcells ρ (lens M') I w N) hcl hpos
    have r1:=ay hU s hs
    have r2:=bH (S5 ▸ ay hU x hx)
    rw[hss]at r1
    generalize hv:a.eval s=v at r1
    cases r1
    unfold bV
    rw[dB ho,hv,r2]
    have hxl:(List.replicate q (cells (T.z e))).length=q:=by simp
    by_cases hx0:q=0
    ·subst hx0
     have hrun:=ji (P:=P) (w:=w) (t:=t) (tx:=t') (ty:=o.type) (k':=kx) hD NG hie hz Bc ik hby none 0 0 (by simp) w (fun a ha=>by cases ha) (fun _=>rfl)
     rw[hrun]
     obtain⟨E,W⟩:=hW.dY hn e (T.s e)
     refine⟨_,I,E,by rw[bQ]; exact W,?_⟩
     refine .bh nx _ _ (.inr ⟨_,List.mem_singleton.2 rfl⟩) rfl fun l xN nL=> ?_
     change lens (cQ M' nx _) nx=_ at nL
     rw[cH,if_pos rfl]at nL
     simp[bu.ln]at nL
     exact⟨by omega,fun _=> .inl ⟨by simp,none,rfl⟩⟩
    ·have hrun:=jj (P:=P) (w:=w) (t:=t) (tx:=t') (ty:=o.type) (k':=kx) (n:=q) hD NG hie hz Bc ik hby none 0 0 [] (run_firstCells_none w.drew ie.size 0 0 0) (by omega) (by simp[kj]at ik ⊢; omega) (hfit _ _ (by omega) (by omega))
     rw[hrun]
     have gn:=ju (X:=X) (n:=nx) (e:=e) (olds:=[]) (mI:=[]) (old:=0) (z:=z) hW (fun h=>(hn h).elim) (fun b0 h0=>(hn (hW.bg nx b0 h0).lt).elim) (by rw[hxl]; omega) ⟨by simp,by simp,fun i j hi=>by simp at hi⟩ hL hzs (by rw[hxl]; simpa using ik)
     have e1:q=([]:List (List AV)).length+ (List.replicate q (cells (T.z e))).length:=by rw[hxl]; simp
     have e2:(⟨e,T.s e,List.replicate q (cells (T.z e)),none⟩:bu)=⟨e,T.s e,[]++List.replicate q (cells (T.z e)),none⟩:=by simp
     have e3:0+q=([]:List (List AV)).length+ (List.replicate q (cells (T.z e))).length:=by rw[hxl]; rfl
     rw[e2,e3]
     show gC X M' N ρ I w (.bh nx q) _ _ _
     have:AV.bh nx q= .bh nx (([]:List (List AV)).length+ (List.replicate q (cells (T.z e))).length):=by rw[←e1]
     rw[this]
     exact gn
   |_=>rw[hss]at h; exact h.elim
  |_=>rw[ht,S5]at h; exact h.elim
 |_=>rw[ht]at h; exact h.elim
end Go.AM
namespace Go.AM
open Go.RowKit
variable {P:Program} {T:TT} {X:ct} {o:Oper} {F:bj} {M:bA}
inductive Oi:LK→Value→Prop
 |i (k:IntKind) (x:Int):Oi .i (.int k x)
 |b (x:Bool):Oi .b (.bool x)
 |s (x:List UInt8):Oi .s (.string ⟨x.toArray⟩)
inductive kD:List LK→List Value→Prop
 |nil:kD [] []
 |cons {l ls v vs} (h:Oi l v) (t:kD ls vs):kD (l::ls) (v::vs)
theorem kD.split:∀ {l1 l2:List LK} {vs:List Value},kD (l1++l2) vs→∃v1 v2,vs=v1++v2∧kD l1 v1∧kD l2 v2∧v1.length=l1.length
 |[],l2,vs,h=>⟨[],vs,rfl,.nil,h,rfl⟩
 |a::l1,l2,_,.cons (v:=v) h t=>by
  obtain⟨v1,v2,rfl,h1,h2,h3⟩:=t.split (l1:=l1)
  exact⟨v::v1,v2,rfl,.cons h h1,h2,by simp[h3]⟩
theorem qw {d:Nat}:∀ (fl:List Field) (off:Nat) (ls:List LK) (p vs:List Value),uD P (ll P d) fl off=some ls→kD ls vs→p.length=off→
  ∀f ∈ fl,f.name≠ "_" ∧∃l mid,ll P d f.type=some l∧kD l mid∧∀w,(part f.type (p++vs).toArray f.offset).run P w= .ok (valOf (aR P f.type) mid) w
 |[],_,_,_,_,_,_,_,f,hf=>by simp at hf
 |x::fl,off,ls,p,vs,hl,hv,hp,f,hf=>by
  simp only[uD]at hl
  split at hl
  ·rename_i hc
   simp only[Bool.and_eq_true,bne_iff_ne,ne_eq,beq_iff_eq]at hc
   split at hl
   ·rename_i l i sq CJ
    split at hl
    ·rename_i hsz
     have hsz:i.size=l.length:=by simpa using hsz
     obtain⟨l2,hl2,rfl⟩:∃l2,uD P (ll P d) fl (off+l.length)=some l2∧l++l2=ls:=by simpa using hl
     obtain⟨v1,v2,rfl,h1,h2,h3⟩:=hv.split
     rcases List.mem_cons.1 hf with rfl|hf
     ·obtain⟨D,hD⟩:=zL sq
      refine⟨hc.1,l,v1,sq,h1,fun w=> ?_⟩
      have p1:=eV (w:=w) hD CJ (pre:=p) (mid:=v1) (post:=v2) (by omega) (fun h=>by rw[h3]; exact iY sq h)
      rwa[hp,←hc.2]at p1
     ·have:=qw fl (off+l.length) l2 (p++v1) v2 hl2 h2 (by simp; omega) f hf
      rwa[List.append_assoc]at this
    ·simp at hl
   ·simp at hl
  ·simp at hl
theorem s9 {d e:Nat} {l:List LK} {i:TypeInfo} (hl:ll P d e=some l) (hi:P.info? e=some i) (hsz:i.size=l.length):∀ (k j:Nat) (p vs:List Value),kD (kf k l) vs→p.length=j*l.length→
  ∀q ∈ List.range' j k,∃mid,kD l mid∧∀w,(part e (p++vs).toArray (q*i.size)).run P w= .ok (valOf (aR P e) mid) w
 |0,_,_,_,_,_,q,hq=>by simp at hq
 |k+1,j,p,vs,hv,hp,q,hq=>by
  have e1:kf (k+1) l=l++kf k l:=by simp[kf,List.replicate_succ]
  rw[e1]at hv
  obtain⟨v1,v2,rfl,h1,h2,h3⟩:=hv.split
  rw[List.range'_succ]at hq
  rcases List.mem_cons.1 hq with rfl|hq
  ·obtain⟨D,hD⟩:=zL hl
   refine⟨v1,h1,fun w=> ?_⟩
   have p1:=eV (w:=w) hD hi (pre:=p) (mid:=v1) (post:=v2) (by omega) (fun h=>by rw[h3]; exact iY hl h)
   rwa[hp,←hsz]at p1
  ·have:=s9 hl hi hsz k (j+1) (p++v1) v2 h2 (by rw[List.length_append,hp,h3,Nat.succ_mul]) q hq
   rwa[List.append_assoc]at this
theorem dv {em:Bool}:∀ (d:Nat) (m t:Nat) (ls:List LK) (w:World) (vs:List Value),ll P d t=some ls→kD ls vs→
  (Instr.checkKey em (d+m) t (valOf (aR P t) vs)).run P w= .ok () w
 |0,_,_,_,_,_,h,_=>by simp[ll]at h
 |d+1,m,t,ls,w,vs,h,hv=>by
  have e:d+1+m=(d+m)+1:=by omega
  rw[e]
  have ih:=dv (em:=em) d m
  unfold ll at h
  cases hu:P.underlying t with
  |none=>rw[hu]at h; simp at h
  |some D=>
   rw[hu]at h
   cases D<;>simp only[reduceCtorEq]at h
   case bool=>
    obtain rfl:[LK.b]=ls:=by simpa using h
    have ha:aR P t=false:=by simp[aR,hu]
    rcases hv with _|⟨hl,ht⟩
    cases hl; cases ht
    simp[Instr.checkKey,run_underlying hu]
   case int k=>
    obtain rfl:[LK.i]=ls:=by simpa using h
    have ha:aR P t=false:=by simp[aR,hu]
    rcases hv with _|⟨hl,ht⟩
    cases hl; cases ht
    simp[Instr.checkKey,run_underlying hu]
   case string=>
    obtain rfl:[LK.s]=ls:=by simpa using h
    have ha:aR P t=false:=by simp[aR,hu]
    rcases hv with _|⟨hl,ht⟩
    cases hl; cases ht
    simp[Instr.checkKey,run_underlying hu]
   case struct fs=>
    have ha:aR P t=true:=by simp[aR,hu]
    cases hst:P.stoodInHeld t with
    |true=>simp[hst]at h
    |false=>
     simp only[hst,Bool.false_eq_true,if_false]at h
     have each:=qw (P:=P) fs.toList 0 ls [] vs h hv rfl
     simp only[List.nil_append]at each
     rw[ha]
     simp only[valOf,if_pos]
     rw[Instr.checkKey]
     simp only[Sem.run_bind,run_underlying hu,Result.andThen_ok]
     rw[←Array.forIn_toList]
     generalize fs.toList=L at each
     induction L with
     |nil=>simp
     |cons f L Up=>
      obtain⟨hn,l,mid,h1,h2,h3⟩:=each f (by simp)
      simp only[List.forIn_cons,Sem.run_bind,hn,ne_eq,not_false_eq_true,if_true,h3,ih _ _ _ _ h1 h2,Result.andThen_ok,Sem.run_pure]
      exact Up (fun y hy=>each y (by simp[hy]))
   case array n e=>
    have ha:aR P t=true:=by simp[aR,hu]
    split at h
    ·rename_i l i sq CJ
     split at h
     ·rename_i hsz
      have hsz:i.size=l.length:=by simpa using hsz
      obtain rfl:kf n l=ls:=by simpa using h
      have each:=s9 sq CJ hsz n 0 [] vs hv (by simp)
      simp only[List.nil_append]at each
      rw[ha]
      simp only[valOf,if_pos]
      rw[Instr.checkKey]
      simp only[Sem.run_bind,run_underlying hu,Result.andThen_ok]
      simp only[Std.Legacy.Range.forIn_eq_forIn_range',Std.Legacy.Range.size,Nat.sub_zero,Nat.add_one_sub_one,Nat.div_one]
      generalize List.range' 0 n=L at each
      induction L with
      |nil=>simp
      |cons j L Up=>
       obtain⟨mid,h2,h3⟩:=each j (by simp)
       simp only[List.forIn_cons,Sem.run_bind,bG CJ,h3,ih _ _ _ _ sq h2,Result.andThen_ok,Sem.run_pure]
       exact Up (fun y hy=>each y (by simp[hy]))
     ·simp at h
    ·simp at h
def Gt (ag:Bool) (ls:List LK) (Dq:List Value) (kc:List AV) (test:List AV→List AV→Bool) (e:MapEntry) (r:List AV):Prop:=
 ∃us rs,e.key=valOf ag us∧lw ls Dq us rs∧rs.all id=test kc r
inductive Dr {α β:Type} (R:α→β→Prop):List α→List β→Prop
 |nil:Dr R [] []
 |cons {a b as bs} (h:R a b) (t:Dr R as bs):Dr R (a::as) (b::bs)
theorem Dr.of {α β:Type} {R:α→β→Prop}:∀ {as:List α} {bs:List β},as.length=bs.length→(∀ (i:Nat) (a:α) (b:β),as[i]? =some a→bs[i]? =some b→R a b)→Dr R as bs
 |[],[],_,_=> .nil
 |a::as,b::bs,hl,h=> .cons (h 0 a b rfl rfl) (Dr.of (by simpa using hl) fun i x y hx hy=>h (i+1) x y (by simpa using hx) (by simpa using hy))
 |[],_::_,hl,_=>by simp at hl
 |_::_,[],hl,_=>by simp at hl
def dE:List LK→List AV→List AV→Bool
 |[],[],_=>true
 | .i::l,.int k _::r,.int k' _::s=>pQ k k'&&dE l r s
 | .b::l,.bool _::r,.bool _::s=>dE l r s
 | .s::l,.str _::r,.str _::s=>dE l r s
 |_,_,_=>false
theorem jx:∀ {ls:List LK} {kc r:List AV},dE ls kc r=true→∃rs,sr ls kc (r.take kc.length) rs∧rs.all id=lE kc r
 |[],[],r,_=>⟨[],by simpa using sr.nil,by simp[lE]⟩
 | .i::l,.int k x::a,.int k' y::s,h=>by
   simp only[dE,Bool.and_eq_true]at h
   obtain rfl:=hY h.1
   obtain⟨rs,h1,h2⟩:=jx h.2
   exact⟨_,.cons (.i k x y) h1,by simp[lE,h2]⟩
 | .b::l,.bool x::a,.bool y::s,h=>by
   simp only[dE]at h
   obtain⟨rs,h1,h2⟩:=jx h
   exact⟨_,.cons (.b x y) h1,by simp[lE,h2]⟩
 | .s::l,.str x::a,.str y::s,h=>by
   simp only[dE]at h
   obtain⟨rs,h1,h2⟩:=jx h
   exact⟨_,.cons (.s x y) h1,by simp[lE,h2]⟩
def iZ (kc:List AV):List MapEntry→List (List AV)→Nat→Option (Nat × Value)
 |e::en,r::es,i=>if lE kc r then some (i,e.val)else iZ kc en es (i+1)
 |_,_,_=>none
theorem iu {kc:List AV}:∀ {en:List MapEntry} {es:List (List AV)} {i:Nat},en.length=es.length→
  (cg kc es=none∧iZ kc en es i=none)∨∃j e r,cg kc es=some (j,r.drop kc.length)∧iZ kc en es i=some (i+j,e.val)∧en[j]? =some e∧es[j]? =some r∧lE kc r=true
 |[],[],_,_=> .inl ⟨rfl,rfl⟩
 |e::en,r::es,i,hl=>by
  simp only[cg,iZ]
  by_cases h:lE kc r=true
  ·rw[if_pos h,if_pos h]
   exact .inr ⟨0,e,r,rfl,rfl,rfl,rfl,h⟩
  ·rw[if_neg h,if_neg h]
   rcases iu (kc:=kc) (en:=en) (es:=es) (i:=i+1) (by simpa using hl)with⟨h1,h2⟩|⟨j,e2,r2,h1,h2,h3,h4,h5⟩
   ·exact .inl ⟨by rw[h1]; rfl,h2⟩
   ·exact .inr ⟨j+1,e2,r2,by rw[h1]; rfl,by rw[h2]; congr 2; omega,by simpa using h3,by simpa using h4,h5⟩
 |[],_::_,_,hl=>by simp at hl
 |_::_,[],_,hl=>by simp at hl
theorem JT.same {D:TypeDesc} {l:LK} {v u:Value} {r:Bool} (hD:(D= .bool∧l= .b)∨(∃k,D= .int k∧l= .i)∨(D= .string∧l= .s)) (h:JT l v u r):Instr.sameNow D v u=some r:=by
 rcases hD with⟨rfl,rfl⟩|⟨k,rfl,rfl⟩|⟨rfl,rfl⟩
 ·cases h; simp[Instr.sameNow]
 ·cases h; simp[Instr.sameNow]
 ·cases h
  rename_i x y
  simp only[Instr.sameNow,Option.some.injEq]
  show (x.toArray==y.toArray)=(x==y)
  simp
theorem oX {D:TypeDesc} {l:LK} {kv:Value} {kc:List AV} (hD:(D= .bool∧l= .b)∨(∃k,D= .int k∧l= .i)∨(D= .string∧l= .s)):∀ {en:List MapEntry} {es:List (List AV)} {i:Nat},Dr (Gt false [l] [kv] kc lE) en es→
  Instr.findNow D kv en i=some (iZ kc en es i)
 |_,_,_,.nil=>rfl
 |_,_,i,.cons (a:=e) (b:=r) h t=>by
  obtain⟨us,rs,hk,h4,ht⟩:=h
  cases h4 with
  |cons hl h0=>
   rename_i q rs
   cases h0
   simp only[valOf,Bool.false_eq_true,if_false,List.headD_cons]at hk
   have:=hl.same hD
   simp only[Instr.findNow,iZ,hk,this]
   simp only[List.all_cons,List.all_nil,Bool.and_true,id]at ht
   rw[←ht]
   cases q with
   |true=>rfl
   |false=>exact oX hD t
theorem eH {d t:Nat} {ls:List LK} (hd:d≤10000) (hl:ll P d t=some ls) {Dq:List Value} {kc:List AV} (w:World):∀ {en:List MapEntry} {es:List (List AV)} {i:Nat},Dr (Gt (aR P t) ls Dq kc lE) en es→
  (Instr.findAsking t (valOf (aR P t) Dq) en i).run P w= .ok (iZ kc en es i) w
 |_,_,_,.nil=>by simp[Instr.findAsking,iZ]
 |_,_,i,.cons (a:=e) (b:=r) h tl=>by
  obtain⟨us,rs,hk,h4,ht⟩:=h
  have he:=gG d (10000 - d) t ls w Dq us rs hl h4
  rw[show d+ (10000 - d)=10000 by omega]at he
  have S6:(Op.equal t (valOf (aR P t) Dq) e.key).run P w= .ok (rs.all id) w:=by rw[hk]; exact he
  simp only[Instr.findAsking,Sem.run_bind,S6,Result.andThen_ok,iZ,ht]
  cases lE kc r with
  |true=>simp
  |false=>simpa using eH hd hl w tl
theorem eD {d t:Nat} {ls:List LK} (hd:d≤10000) (hl:ll P d t=some ls) {Dq:List Value} {kc:List AV} (w:World) (hkl:kD ls Dq) {en:List MapEntry} {es:List (List AV)} (h:Dr (Gt (aR P t) ls Dq kc lE) en es):
  (Instr.findKey t (valOf (aR P t) Dq) en).run P w= .ok (iZ kc en es 0) w:=by
 cases d with
 |zero=>simp[ll]at hl
 |succ d=>
  have nL:=hl
  unfold ll at hl
  cases hu:P.underlying t with
  |none=>rw[hu]at hl; simp at hl
  |some D=>
   rw[hu]at hl
   have plain:∀l,ls=[l]→aR P t=false→((D= .bool∧l= .b)∨(∃k,D= .int k∧l= .i)∨(D= .string∧l= .s))→(Instr.findKey t (valOf (aR P t) Dq) en).run P w= .ok (iZ kc en es 0) w:=by
    intro l hls ha hD
    subst hls
    rcases hkl with _|⟨h1,h0⟩
    cases h0
    rw[ha]at h ⊢
    simp only[valOf,Bool.false_eq_true,if_false,List.headD_cons]
    exact MapKept.run_findKey hu (oX hD h)
   cases D<;>simp only[reduceCtorEq]at hl
   case bool=>exact plain .b (by simpa using hl.symm) (by simp[aR,hu]) (.inl ⟨rfl,rfl⟩)
   case int k=>exact plain .i (by simpa using hl.symm) (by simp[aR,hu]) (.inr (.inl ⟨k,rfl,rfl⟩))
   case string=>exact plain .s (by simpa using hl.symm) (by simp[aR,hu]) (.inr (.inr ⟨rfl,rfl⟩))
   case struct fs=>
    rw[run_findKey_eq w (by rw[hu])]
    exact eH hd nL w h
   case array n e=>
    rw[run_findKey_eq w (by rw[hu])]
    exact eH hd nL w h
theorem lw.eq:∀ {ls:List LK} {vs us:List Value} {rs:List Bool},lw ls vs us rs→rs.all id=true→us=vs
 |_,_,_,_,.nil,_=>rfl
 |_,_,_,_,.cons h t,hr=>by
  simp only[List.all_cons,Bool.and_eq_true,id]at hr
  rw[t.eq hr.2]
  congr 1
  cases h<;>simp_all
theorem lw.Oj:∀ {ls:List LK} {vs us:List Value} {rs:List Bool},lw ls vs us rs→kD ls vs
 |_,_,_,_,.nil=> .nil
 |_,_,_,_,.cons h t=> .cons (by cases h<;>constructor) t.Oj
theorem lL {n:Nat} {l:LK} {v:Value} (h:Oi l v):Instr.sameBits n v v=true:=by
 cases h<;>cases n<;>simp[Instr.sameBits,MapKept.bytes_beq]
theorem mO {n:Nat}:∀ {ls:List LK} {vs:List Value},kD ls vs→(vs.zip vs).all (fun q=>Instr.sameBits n q.1 q.2)=true
 |_,_,.nil=>rfl
 |_,_,.cons h t=>by simp[lL h,mO t]
theorem mP {ag:Bool} {ls:List LK} {vs:List Value} (h:kD ls vs) (hone:ag=false→ls.length=1) (w:World):(Instr.keyThatStays (valOf ag vs) (valOf ag vs)).run P w= .ok (valOf ag vs) w:=by
 have:Instr.sameBits 10000 (valOf ag vs) (valOf ag vs)=true:=by
  cases ag with
  |true=>
   simp only[valOf,if_true]
   have:=mO (n:=9999) h
   simp[Instr.sameBits,this]
  |false=>
   obtain⟨l,rfl⟩:=List.length_eq_one_iff.1 (hone rfl)
   rcases h with _|⟨h1,h0⟩
   cases h0
   exact lL h1
 simp[Instr.keyThatStays,this]
end Go.AM
namespace Go.AM
open Go.RowKit Go.MapKept
variable {P:Program} {T:TT} {X:ct} {o:Oper} {F:bj} {M:bA}
def AV.iN:AV→Bool
 | .agg _=>true
 |_=>false
def mQ (ag:Bool) (l:List AV):AV:=if ag then .agg l else l.headD .bad
section
variable {ρ ρ':Place} {L L':bn} {I I':Nat→Prop} {w w':World} {N N':Nat→Prop}
theorem dz {v:Value} (h:v.oneCell'=true):ff v=false∧aQ v=[v]:=by cases v<;>first|exact⟨rfl,rfl⟩|simp[Value.oneCell']at h
theorem eJ (v:Value):valOf (ff v) (aQ v)=v:=by cases v<;>simp[valOf,ff,aQ]
theorem dt {a:AV} {v:Value} (h:aS ρ L I w N a v) (hs:bS a=true):ff v=a.iN∧(aQ v).length=(cells a).length∧(∀u ∈ aQ v,u.oneCell'=true)∧∀j,j< (cells a).length→aS ρ L I w N ((cells a).getD j .bad) ((aQ v).getD j default):=by
 have key:ff v=a.iN∧aQ v=v.cells.toList:=by
  cases h with
  |bad=>simp[bS]at hs
  |aU=>simp[bS]at hs
  |agg cs vs hl h1 hr=>exact⟨rfl,rfl⟩
  |loc n len i off _ hn h1 h=>rw[(dz h1).1,(dz h1).2,ep h1]; exact⟨rfl,rfl⟩
  |bh n len _ hn h1 h=>rw[(dz h1).1,(dz h1).2,ep h1]; exact⟨rfl,rfl⟩
  |dP n len i off ca _ hn h1 h=>rw[(dz h1).1,(dz h1).2,ep h1]; exact⟨rfl,rfl⟩
  |omap n _ hn h1 h=>rw[(dz h1).1,(dz h1).2,ep h1]; exact⟨rfl,rfl⟩
  |_=>exact⟨rfl,rfl⟩
 obtain⟨h1,h2,h3⟩:=nW h hs
 rw[key.2]
 exact⟨key.1,h1,h2,h3⟩
structure oc (ρ:Place) (L:bn) (I:Nat→Prop) (w:World) (N:Nat→Prop) (k:Nat) (ka va:Bool) (sz:Nat) (key val:Value) (r:List AV):Prop where
 rl:r.length=sz
 kl:(aQ key).length=k
 fl:k+ (aQ val).length=sz
 ka:ff key=ka
 va:ff val=va
 cell:∀j,j<sz→((aQ key++aQ val).getD j default).oneCell'=true∧aS ρ L I w N (r.getD j .bad) ((aQ key++aQ val).getD j default)
structure lx (ρ:Place) (L:bn) (I:Nat→Prop) (w:World) (N:Nat→Prop) (k:Nat) (ka va:Bool) (sz:Nat) (es:List (List AV)) (en:Array MapEntry):Prop where
 len:en.size=es.length
 row:∀ (i:Nat) (e:MapEntry) (r:List AV),en[i]? =some e→es[i]? =some r→oc ρ L I w N k ka va sz e.key e.val r
structure kE (dn:Dn) (en:Array MapEntry) (ck:Nat):Prop where
 born:∀ (i j:Nat) (e f:MapEntry),en[i]? =some e→en[j]? =some f→i<j→e.born<f.born
 clock:∀ (i:Nat) (e:MapEntry),en[i]? =some e→e.born<ck
 den:dn.all=true→ck=en.size∧∀ (i:Nat) (e:MapEntry),en[i]? =some e→e.born=i
variable {k sz:Nat} {ka va:Bool} {dn:Dn} {es:List (List AV)} {en:Array MapEntry} {ck:Nat}
def iv (sz:Nat) (en:Array MapEntry):Array Value:=Array.ofFn fun p:Fin (maxLen*sz)=>((en[p.val / sz]?).map fun e=>(aQ e.key++aQ e.val).getD (p.val % sz) undef).getD undef
theorem ta (hsz:sz≠0) {i j:Nat} {e:MapEntry} (he:en[i]? =some e) (hi:i<maxLen) (hj:j<sz):(iv sz en)[i*sz+j]? =some ((aQ e.key++aQ e.val).getD j undef):=by
 have hlt:i*sz+j<maxLen*sz:=by
  have:(i+1)*sz≤maxLen*sz:=Nat.mul_le_mul_right _ hi
  rw[Nat.add_mul,Nat.one_mul]at this; omega
 have h1:(i*sz+j) / sz=i:=by rw[Nat.add_comm,Nat.add_mul_div_right _ _ (Nat.pos_of_ne_zero hsz),Nat.div_eq_of_lt hj,Nat.zero_add]
 have h2:(i*sz+j) % sz=j:=by rw[Nat.add_comm,Nat.add_mul_mod_self_right,Nat.mod_eq_of_lt hj]
 unfold iv
 rw[Array.getElem?_eq_getElem (by simpa using hlt),Array.getElem_ofFn]
 simp only[h1,h2,he,Option.map_some,Option.getD_some]
theorem od (hsz:sz≠0) (hR:lx ρ L I w N k ka va sz es en) (hC:kE dn en ck) (hle:es.length≤maxLen):vB k ka va dn sz en ck (iv sz en):=by
 have row:∀ (i:Nat) (e:MapEntry),en[i]? =some e→i<maxLen∧∃r,oc ρ L I w N k ka va sz e.key e.val r:=fun i e he=>by
  have hlt:=(Array.getElem?_eq_some_iff.1 he).1
  have uG:i<es.length:=by rw[←hR.len]; exact hlt
  exact⟨by omega,es[i],hR.row i e _ he (List.getElem?_eq_getElem uG)⟩
 refine⟨fun i e he=> ?_,fun i e j u he hu=> ?_,hC.born,hC.clock,hC.den,by simp[iv],hsz⟩
 ·obtain⟨_,r,h⟩:=row i e he
  exact⟨h.kl,by rw[List.length_append,h.kl]; exact h.fl,h.ka,h.va⟩
 ·obtain⟨hi,r,h⟩:=row i e he
  have hj:j<sz:=by
   have:=(List.getElem?_eq_some_iff.1 hu).1
   rw[List.length_append,h.kl,h.fl]at this; exact this
  rw[ta hsz he hi hj,List.getD_eq_getElem?_getD,hu]; rfl
theorem mf (hsz:sz≠0) (hR:lx ρ L I w N k ka va sz es en) (hle:es.length≤maxLen):∀i j,i<es.length→j<sz→∃u,(iv sz en)[i*sz+j]? =some u∧u.oneCell'=true∧aS ρ L I w N ((es.getD i []).getD j .bad) u:=by
 intro i j hi hj
 have hi':i<en.size:=by rw[hR.len]; exact hi
 have h:=hR.row i en[i] es[i] (Array.getElem?_eq_getElem hi') (List.getElem?_eq_getElem hi)
 obtain⟨h1,h2⟩:=h.cell j hj
 have hlt:j< (aQ en[i].key++aQ en[i].val).length:=by rw[List.length_append,h.kl,h.fl]; exact hj
 refine⟨_,ta hsz (Array.getElem?_eq_getElem hi') (by omega) hj,?_,?_⟩
 ·rw[List.getD_eq_getElem?_getD,List.getElem?_eq_getElem hlt]at h1 ⊢; exact h1
 ·rw[List.getD_eq_getElem?_getD (l:=es),List.getElem?_eq_getElem hi,Option.getD_some]
  rw[List.getD_eq_getElem?_getD (l:=aQ en[i].key++aQ en[i].val),List.getElem?_eq_getElem hlt]at h2 ⊢; exact h2
theorem fE {n g cap:Nat} {b:bu} (hW:cY X ρ I M N w) (cy:M n=some b) (hmp:b.mp=some (k,ka,va,dn)) (hρ:ρ n=some (g,cap)):
  ∃en ck,w.heap[g]? =some (.map en ck)∧lx ρ (lens M) I w N k ka va b.sz b.es en∧kE dn en ck∧b.sz≠0∧cap=maxLen∧b.es.length≤maxLen:=by
 have B:=hW.bg n b cy
 obtain⟨cs,fr,hg,lX,pw,hown,hlc,lI,hcs,hc⟩:=B.real g cap hρ
 rw[hmp]at hg
 obtain⟨en,ck,h1,h2,h3⟩:=hg
 have hcap:cap=maxLen:=by
  have:=h3.room.1
  rw[hcs]at this
  exact Nat.eq_of_mul_eq_mul_right (Nat.pos_of_ne_zero h3.room.2) this
 refine⟨en,ck,h1,⟨h2,fun i e r he hr=> ?_⟩,⟨h3.born,h3.clock,h3.den⟩,h3.room.2,hcap,by omega⟩
 obtain⟨k1,k2,k3,k4⟩:=h3.key i e he
 have hi:i<b.es.length:=(List.getElem?_eq_some_iff.1 hr).1
 refine⟨B.even r (List.mem_of_getElem? hr),k1,by rw[List.length_append,k1]at k2; exact k2,k3,k4,fun j hj=> ?_⟩
 obtain⟨u,nK,Dt,ZZ⟩:=hc i j hi hj
 have hlt:j< (aQ e.key++aQ e.val).length:=by rw[k2]; exact hj
 have YC:=h3.cell i e j _ he (List.getElem?_eq_getElem hlt)
 rw[nK]at YC
 have e1:(aQ e.key++aQ e.val).getD j default=u:=by
  rw[List.getD_eq_getElem?_getD,List.getElem?_eq_getElem hlt]; exact (Option.some.inj YC).symm
 have e2:b.es.getD i []=r:=by rw[List.getD_eq_getElem?_getD,hr]; rfl
 rw[e1,←e2]
 exact⟨Dt,ZZ⟩
theorem jR {n g cap:Nat} {b:bu} {v:Value} {av:AV} (hW:cY X ρ I M N w) (cy:M n=some b) (hmp:b.mp=some (k,ka,va,dn)) (hρ:ρ n=some (g,cap)) {Bd:Array MapEntry} {Gu:Nat} {es':List (List AV)} {Gv:Dn}
  (hR:lx ρ (lens M) I w N k ka va b.sz es' Bd) (hC:kE Gv Bd Gu) (hle:es'.length≤maxLen) (hr:aS ρ (lens M) I w N av v) (hit:∀r sn la,Gv= .it r sn la→X.w0.heap.size≤r∧¬I r∧CF {w with heap:=w.heap.setIfInBounds g (.map Bd Gu)} g r sn la):
  gC X M N ρ I w av [(n,⟨b.ty,b.sz,es',some (k,ka,va,Gv)⟩)] v {w with heap:=w.heap.setIfInBounds g (.map Bd Gu)}:=by
 have B:=hW.bg n b cy
 obtain⟨en,ck,hg,_,_,hsz,rfl,_⟩:=fE hW cy hmp hρ
 have jr:∀b0,M n=some b0→b0=b:=fun b0 h0=>by rw[cy]at h0; exact (Option.some.inj h0).symm
 obtain⟨h1,h2⟩:=heap_set (o':= .map Bd Gu) hg
 obtain⟨E,W⟩:=hW.put (w':= {w with heap:=w.heap.setIfInBounds g (.map Bd Gu)}) n ⟨b.ty,b.sz,es',some (k,ka,va,Gv)⟩ g maxLen (iv b.sz Bd) (0,0) rfl rfl rfl (by simp) (fun q _ hq=>h2 q hq)
  ⟨Bd,Gu,h1,hR.len,od hsz hR hC hle⟩ (fun o _ h=>by omega) (.inr ⟨maxLen,hρ,b,cy⟩) (fun b0 h0=>by rw[jr b0 h0]; refine⟨rfl,by simp[bu.ln,hmp],fun _=>hρ⟩) (fun _=>⟨b,cy⟩)
  (fun e he=>by
    obtain⟨i,hi,rfl⟩:=List.getElem_of_mem he
    have hi':i<Bd.size:=by rw[hR.len]; exact hi
    exact (hR.row i Bd[i] es'[i] (Array.getElem?_eq_getElem hi') (List.getElem?_eq_getElem hi)).rl)
  hle (Nat.le_refl _) (by simp[iv]) (mf hsz hR hle) (fun k' F3 F4 r sn la hb=>by cases hb; exact hit r sn la rfl)
 refine⟨_,_,E,by rw[bQ]; exact W,?_⟩
 rw[bQ]
 exact (hr.rZ E (fun _ h=>h)).wide (fun _ h=> .inr h)
theorem kE.push {key val:Value} (h:kE dn en ck):kE dn.up (en.push ⟨key,val,ck⟩) (ck+1):=by
 have Gw:∀ (i:Nat) (e:MapEntry),(en.push ⟨key,val,ck⟩)[i]? =some e→(i<en.size∧en[i]? =some e)∨(i=en.size∧e.born=ck):=fun i e he=>by
  rw[Array.getElem?_push]at he
  split at he
  ·rename_i hi; exact .inr ⟨hi,by simp at he; rw[←he]⟩
  ·exact .inl ⟨(Array.getElem?_eq_some_iff.1 he).1,he⟩
 refine⟨fun i j e f he hf hij=> ?_,fun i e he=> ?_,fun hd=> ?_⟩
 ·rcases Gw i e he with⟨h1,h2⟩|⟨h1,h2⟩<;>rcases Gw j f hf with⟨h3,h4⟩|⟨h3,h4⟩
  ·exact h.born i j e f h2 h4 hij
  ·have:=h.clock i e h2; omega
  ·omega
  ·omega
 ·rcases Gw i e he with⟨h1,h2⟩|⟨h1,h2⟩
  ·have:=h.clock i e h2; omega
  ·omega
 ·obtain⟨h1,h2⟩:=h.den (by rw[←Dn.CP]; exact hd)
  refine⟨by simp[h1],fun i e he=> ?_⟩
  rcases Gw i e he with⟨_,h4⟩|⟨h3,h4⟩
  ·exact h2 i e h4
  ·omega
theorem kE.modify {f:MapEntry→MapEntry} (hf:∀e,(f e).born=e.born) (i:Nat) (h:kE dn en ck):kE dn (en.modify i f) ck:=by
 have Gw:∀ (j:Nat) (e:MapEntry),(en.modify i f)[j]? =some e→∃e0,en[j]? =some e0∧e.born=e0.born:=fun j e he=>by
  rw[Array.getElem?_modify]at he
  split at he
  ·obtain⟨e0,h1,rfl⟩:=Option.map_eq_some_iff.1 he
   exact⟨e0,h1,hf e0⟩
  ·exact⟨e,he,rfl⟩
 refine⟨fun a b e g he hg hab=> ?_,fun a e he=> ?_,fun hd=> ?_⟩
 ·obtain⟨e0,h1,h2⟩:=Gw a e he
  obtain⟨g0,h3,h4⟩:=Gw b g hg
  have:=h.born a b e0 g0 h1 h3 hab; omega
 ·obtain⟨e0,h1,h2⟩:=Gw a e he
  have:=h.clock a e0 h1; omega
 ·obtain⟨h1,h2⟩:=h.den hd
  refine⟨by simp[h1],fun a e he=> ?_⟩
  obtain⟨e0,h3,h4⟩:=Gw a e he
  have:=h2 a e0 h3; omega
theorem kE.up (h:kE dn en ck):kE dn.up en ck:=
 ⟨h.born,h.clock,fun hd=>h.den (by rw[←Dn.CP]; exact hd)⟩
theorem lx.push {key val:Value} {r:List AV} (h:lx ρ L I w N k ka va sz es en) (he:oc ρ L I w N k ka va sz key val r) (c:Nat):lx ρ L I w N k ka va sz (es++ [r]) (en.push ⟨key,val,c⟩):=by
 refine⟨by simp[h.len],fun i e q h1 h2=> ?_⟩
 rw[Array.getElem?_push]at h1
 split at h1
 ·rename_i hi
  have hl:=h.len
  have:q=r:=by rw[List.getElem?_append_right (by omega)]at h2; simp[hi,h.len]at h2; exact h2.symm
  simp at h1
  rw[this,←h1]; exact he
 ·rename_i hi
  have hlt:=(Array.getElem?_eq_some_iff.1 h1).1
  rw[List.getElem?_append_left (by rw[←h.len]; exact hlt)]at h2
  exact h.row i e q h1 h2
theorem lx.set {f:MapEntry→MapEntry} {i:Nat} {r:List AV} (h:lx ρ L I w N k ka va sz es en) (he:∀e,en[i]? =some e→oc ρ L I w N k ka va sz (f e).key (f e).val r):lx ρ L I w N k ka va sz (es.set i r) (en.modify i f):=by
 refine⟨by simp[h.len],fun j e q h1 h2=> ?_⟩
 rw[Array.getElem?_modify]at h1
 split at h1
 ·rename_i hij
  subst hij
  obtain⟨e0,h3,rfl⟩:=Option.map_eq_some_iff.1 h1
  have hlt:=(Array.getElem?_eq_some_iff.1 h3).1
  rw[List.getElem?_set_self (by rw[←h.len]; exact hlt)]at h2
  cases h2
  exact he e0 h3
 ·rename_i hij
  rw[List.getElem?_set_ne hij]at h2
  exact h.row j e q h1 h2
theorem oc.mk' {a b:AV} {key val:Value} (h1:aS ρ L I w N a key) (s1:bS a=true) (h2:aS ρ L I w N b val) (s2:bS b=true) (hk:(cells a).length=k) (hf:k+ (cells b).length=sz) (hka:a.iN=ka) (r7:b.iN=va):
  oc ρ L I w N k ka va sz key val (cells a++cells b):=by
 obtain⟨p1,p2,p3,p4⟩:=dt h1 s1
 obtain⟨q1,q2,q3,q4⟩:=dt h2 s2
 refine⟨by rw[List.length_append]; omega,by omega,by omega,p1.trans hka,q1.trans r7,fun j hj=> ?_⟩
 by_cases hjk:j<k
 ·have e1:(aQ key++aQ val).getD j default=(aQ key).getD j default:=by rw[List.getD_eq_getElem?_getD,List.getElem?_append_left (by omega),List.getD_eq_getElem?_getD]
  have e2:(cells a++cells b).getD j .bad=(cells a).getD j .bad:=by rw[List.getD_eq_getElem?_getD,List.getElem?_append_left (by omega),List.getD_eq_getElem?_getD]
  rw[e1,e2]
  refine⟨?_,p4 j (by omega)⟩
  rw[List.getD_eq_getElem?_getD,List.getElem?_eq_getElem (by omega)]
  exact p3 _ (List.getElem_mem _)
 ·have e1:(aQ key++aQ val).getD j default=(aQ val).getD (j - k) default:=by rw[List.getD_eq_getElem?_getD,List.getElem?_append_right (by omega),List.getD_eq_getElem?_getD,p2,hk]
  have e2:(cells a++cells b).getD j .bad=(cells b).getD (j - k) .bad:=by rw[List.getD_eq_getElem?_getD,List.getElem?_append_right (by omega),List.getD_eq_getElem?_getD,hk]
  rw[e1,e2]
  refine⟨?_,q4 (j - k) (by omega)⟩
  rw[List.getD_eq_getElem?_getD,List.getElem?_eq_getElem (by omega)]
  exact q3 _ (List.getElem_mem _)
theorem oc.val {key val:Value} {r:List AV} (h:oc ρ L I w N k ka va sz key val r) (hv:va=false→k<sz):aS ρ L I w N (mQ va (r.drop k)) val:=by
 have hc:∀j,j< (aQ val).length→((aQ val).getD j default).oneCell'=true∧aS ρ L I w N ((r.drop k).getD j .bad) ((aQ val).getD j default):=fun j hj=>by
  have:=h.cell (k+j) (by have:=h.fl; omega)
  have e1:(aQ key++aQ val).getD (k+j) default=(aQ val).getD j default:=by
   rw[List.getD_eq_getElem?_getD,List.getElem?_append_right (by rw[h.kl]; omega),List.getD_eq_getElem?_getD,h.kl]
   congr 2; omega
  have e2:(r.drop k).getD j .bad=r.getD (k+j) .bad:=by simp[List.getD_eq_getElem?_getD,List.getElem?_drop]
  rw[e1]at this
  rw[e2]; exact this
 have r7:=h.va
 have hfl:=h.fl
 have hrl:=h.rl
 cases va with
 |true=>
  cases val<;>simp only[ff,Bool.false_eq_true]at r7
  rename_i cs
  simp only[aQ]at hc hfl
  have:=aS.agg (ρ:=ρ) (L:=L) (I:=I) (w:=w) (N:=N) (r.drop k) cs.toList (by rw[List.length_drop,hrl]; omega) (fun u hu=>by
   obtain⟨j,hj,rfl⟩:=List.getElem_of_mem hu
   have:=(hc j hj).1
   rwa[List.getD_eq_getElem?_getD,List.getElem?_eq_getElem hj,Option.getD_some]at this) (fun j hj=>(hc j (by rw[List.length_drop,hrl]at hj; omega)).2)
  simpa[mQ]using this
 |false=>
  have hf:aQ val=[val]:=by cases val<;>first|rfl|simp[ff]at r7
  have:=(hc 0 (by rw[hf]; simp)).2
  rw[hf]at this
  have e:(r.drop k).headD .bad=(r.drop k).getD 0 .bad:=by cases r.drop k<;>rfl
  simp only[mQ,Bool.false_eq_true,if_false,e]
  simpa using this
theorem pW {t d:Nat} {ls:List LK} {a:AV} {kv:Value} (hl:ll P d t=some ls) (iM:aR P t=ka) (h:aS ρ L I w N a kv) (hs:bS a=true) (hk:(cells a).length=k) (hR:lx ρ L I w N k ka va sz es en) (hok:∀r ∈ es,dE ls (cells a) r=true):
  Dr (Gt (aR P t) ls (aQ kv) (cells a) lE) en.toList es:=by
 obtain⟨p1,p2,p3,p4⟩:=dt h hs
 refine Dr.of (by simpa using hR.len) fun i e r he hr=> ?_
 have hE:=hR.row i e r (by simpa using he) hr
 obtain⟨rs,h1,h2⟩:=jx (hok r (List.mem_of_getElem? hr))
 refine⟨aQ e.key,rs,by rw[iM,←hE.ka]; exact (eJ _).symm,?_,h2⟩
 have hle:k≤r.length:=by have:=hE.rl; have:=hE.fl; omega
 refine h1.val p2 (by rw[List.length_take,hE.kl]; omega) p4 fun j hj=> ?_
 have hj':j<k:=by rw[List.length_take]at hj; omega
 have:=(hE.cell j (by have:=hE.fl; omega)).2
 have e1:(aQ e.key++aQ e.val).getD j default=(aQ e.key).getD j default:=by rw[List.getD_eq_getElem?_getD,List.getElem?_append_left (by rw[hE.kl]; exact hj'),List.getD_eq_getElem?_getD]
 have e2:(r.take (cells a).length).getD j .bad=r.getD j .bad:=by simp only[List.getD_eq_getElem?_getD,List.getElem?_take]; rw[if_pos (by omega)]
 rw[e1]at this
 rw[e2]; exact this
end
theorem mR {ls:List LK} {a:AV} {ρ:Place} {L:bn} {I:Nat→Prop} {w:World} {N:Nat→Prop} {kv:Value} (h:aS ρ L I w N a kv) (hs:bS a=true) (hok:dE ls (cells a) (cells a)=true):kD ls (aQ kv):=by
 obtain⟨p1,p2,p3,p4⟩:=dt h hs
 obtain⟨rs,h1,_⟩:=jx hok
 rw[List.take_length]at h1
 exact (h1.val p2 p2 p4 p4).Oj
end Go.AM
namespace Go.AM
open Go.RowKit Go.MapKept
variable {P:Program} {T:TT} {X:ct} {o:Oper} {F:bj} {M:bA}
theorem kF {d:TD} {D:TypeDesc} {k e:Nat} (hd:d= .map k e) (h:d.fits D):D= .map k e:=by
 subst hd; cases D<;>simp_all[TD.fits]
theorem jy {ρ:Place} {L:bn} {I:Nat→Prop} {w:World} {N:Nat→Prop} {n sz:Nat} {v:Value} (h:aS ρ L I w N (.omap n) v) (hl:L n=some (0,sz)):N n∧∃g cap,ρ n=some (g,cap)∧v= .map (some g):=by
 cases h with
 |omap _ _ hn h1 h=>exact⟨hn,h sz hl⟩
theorem oY {ρ:Place} {L:bn} {I:Nat→Prop} {w:World} {N:Nat→Prop} {n g cap:Nat} (hn:N n) (hρ:ρ n=some (g,cap)):aS ρ L I w N (.omap n) (.map (some g)):=
 .omap n _ hn rfl fun _ _=>⟨g,cap,hρ,rfl⟩
theorem uI {n t:Nat} {k:Nat} {ka va:Bool} {sz:Nat} (hsz:sz≠0) (ho:o.op= .makeMap t none):bP P X o F M (.omap n) [(n,⟨0,sz,[],some (k,ka,va,.b true)⟩)] [n]:=by
 refine⟨fun p hp=> .inl (by simp at hp; simp[hp]),fun M' N ρ I ac w hW hU hN hF=> ?_⟩
 have hn:¬N n:=hF n (by simp)
 have hd:∀b0,M' n=some b0→False:=fun b0 h0=>hn (hW.bg n b0 h0).lt
 have hR:lx ρ (lens M') I w N k ka va sz [] #[]:=⟨rfl,fun i e r h _=>by simp at h⟩
 have hC:kE (.b true) #[] 0:=⟨fun i j e f h=>by simp at h,fun i e h=>by simp at h,fun _=>⟨rfl,fun i e h=>by simp at h⟩⟩
 obtain⟨E,W⟩:=hW.put (w':=w.alloc (.map #[] 0)) n ⟨0,sz,[],some (k,ka,va,.b true)⟩ w.heap.size maxLen (iv sz #[]) (0,0) rfl rfl rfl (by simp) (fun k hk _=>Below.heap_alloc w _ k hk)
  ⟨#[],0,heap_alloc_new w _,rfl,od hsz hR hC (by simp)⟩ (fun o _ h=>by omega)
  (.inl (Nat.le_refl _)) (fun b0 h0=>(hd b0 h0).elim) (fun h=>(hn h).elim) (fun e he=>by simp at he) (by simp) (Nat.le_refl _) (by simp[iv]) (mf hsz hR (by simp))
 unfold bV
 have hrun:(execOp ac.eval o).run P w= .ok (.value (.map (some w.heap.size))) (w.alloc (.map #[] 0)):=by
  simp[execOp,ho,run_makeMap]
 rw[hrun]
 refine⟨_,I,E,by rw[bQ]; exact W,?_⟩
 rw[bQ]
 exact oY (cap:=maxLen) (.inl rfl) (by simp[gN])
section
variable {t kt et n d k:Nat} {ka va:Bool} {dn:Dn} {b:bu} {ls:List LK} {x key:Operand}
theorem qx {w:World} {g:Nat} {en:Array MapEntry} {ck:Nat} {kv z:Value} {i:TypeInfo} {ok:Bool} {r:Option (Nat × Value)} (hu:P.underlying t=some (.map kt et)) (hg:w.heap[g]? =some (.map en ck))
  (hc:∀em,(Instr.checkKey em 10000 kt kv).run P w= .ok () w) (hf:(Instr.findKey kt kv en.toList).run P w= .ok r w) (hi:P.info? et=some i) (hz:i.zero=some z):
  (Instr.lookup t (.map (some g)) kv ok).run P w= .ok (if ok then .tuple #[(r.map (·.2)).getD z,.bool r.isSome]else (r.map (·.2)).getD z) w:=by
 cases r with
 |none=>simp[Instr.lookup,run_underlying hu,MapKept.run_getObj_map hg,hc,hf,fm hi hz]
 |some q=>simp[Instr.lookup,run_underlying hu,MapKept.run_getObj_map hg,hc,hf]
def yd (ok:Bool) (v:AV) (is:Bool):AV:=if ok then .aU [v,.bool is]else v
def sA (va:Bool) (z:AV) (q:Option (Nat × List AV)):AV:=match q with
 |some q=>mQ va q.2
 |none=>z
theorem oZ (hT:dh P T) {ok:Bool} (ho:o.op= .lookup t x key ok) (ht:T.d t= .map kt et) (Du:(T.d et).ok=true) (hx:ev F x= .omap n) (hb:M n=some b) (hmp:b.mp=some (k,ka,va,dn))
  (hd:d≤10000) (hl:ll P d kt=some ls) (iM:aR P kt=ka) (hs:bS (ev F key)=true) (hka:(ev F key).iN=ka) (hk:(cells (ev F key)).length=k) (hkk:dE ls (cells (ev F key)) (cells (ev F key))=true)
  (hok:∀r ∈ b.es,dE ls (cells (ev F key)) r=true) (hv:va=false→k<b.sz):
  bP P X o F M (yd ok (sA va (T.z et) (cg (cells (ev F key)) b.es)) (cg (cells (ev F key)) b.es).isSome) [] []:=by
 have dX:x ∈ o.op.operands.toList:=by simp[ho,Op.operands]
 have JX:key ∈ o.op.operands.toList:=by simp[ho,Op.operands]
 obtain⟨D,it,z,hD,hf,_⟩:=hT t (by rw[ht]; simp)
 have gA:=kF ht hf
 subst gA
 obtain⟨De,ie,ze,CK,IN,hie,k9,_,JJ,iU⟩:=hT et (TD.dG Du)
 refine aJ fun M' N ρ I a w hW hU hN=> ?_
 have r1:=ay hU x dX
 have r2:=ay hU key JX
 rw[hx]at r1
 obtain⟨sl,ee,er⟩:=bz (F:=F) x dX (n:=n) (by rw[hx]; simp[AV.names])
 have cy:M' n=some b:=(hN sl ee n er).trans hb
 have dJ:lens M' n=some (0,b.sz):=by rw[aH]; exact⟨b,cy,by simp[bu.ln,hmp],rfl⟩
 obtain⟨hn,g,cap,hρ,oI⟩:=jy r1 dJ
 obtain⟨en,ck,hg,hR,hC,hsz,_,_⟩:=fE hW cy hmp hρ
 have Be:valOf (aR P kt) (aQ (a.eval key))=a.eval key:=by
  rw[iM,←hka,←(dt r2 hs).1]; exact eJ _
 have Bf:=mR r2 hs hkk
 have eW:=eD hd hl w Bf (pW hl iM r2 hs hk hR hok)
 have sB:∀em,(Instr.checkKey em 10000 kt (a.eval key)).run P w= .ok () w:=fun em=>by
  have:=dv (em:=em) d (10000 - d) kt ls w _ hl Bf
  rw[show d+ (10000 - d)=10000 by omega,Be]at this; exact this
 rw[Be]at eW
 refine⟨if ok then .tuple #[((iZ (cells (ev F key)) en.toList b.es 0).map (·.2)).getD ze,.bool (iZ (cells (ev F key)) en.toList b.es 0).isSome]else ((iZ (cells (ev F key)) en.toList b.es 0).map (·.2)).getD ze,?_,?_⟩
 ·simp only[execOp,ho,oI,Sem.run_bind,qx hD hg sB eW hie JJ,Result.andThen_ok,Sem.run_pure]
 ·rcases iu (kc:=cells (ev F key)) (en:=en.toList) (es:=b.es) (i:=0) (by simpa using hR.len)with⟨h1,h2⟩|⟨j,e,r,h1,h2,h3,h4,h5⟩
  ·rw[h1,h2]
   have hz:aS ρ (lens M') I w N (T.z et) ze:=by rw[iU]; exact fk _ _ _ _ _ _
   cases ok with
   |false=>simpa[yd,sA]using hz
   |true=>
    simp only[yd,sA,if_true,Option.map_none,Option.getD_none,Option.isSome_none]
    exact .aU [T.z et,.bool false] [ze,.bool false] rfl fun j hj=>by
     match j,hj with
     |0,_=>simpa using hz
     |1,_=>exact .bool _
  ·rw[h1,h2]
   have hE:=hR.row j e r (by simpa using h3) h4
   have hval:aS ρ (lens M') I w N (mQ va (r.drop (cells (ev F key)).length)) e.val:=by rw[hk]; exact hE.val hv
   cases ok with
   |false=>simpa[yd,sA]using hval
   |true=>
    simp only[yd,sA,if_true,Option.map_some,Option.getD_some,Option.isSome_some]
    exact .aU [_,.bool true] [e.val,.bool true] rfl fun j hj=>by
     match j,hj with
     |0,_=>simpa using hval
     |1,_=>exact .bool _
def Gx (kc vs:List AV) (es:List (List AV)):List (List AV):=match cg kc es with
 |some q=>es.set q.1 (kc++vs)
 |none=>es++ [kc++vs]
theorem Gy {ls:List LK} {kc r:List AV} (h1:dE ls kc r=true) (h2:lE kc r=true):∃rs,sr ls kc (r.take kc.length) rs∧rs.all id=true:=by
 obtain⟨rs,h3,h4⟩:=jx h1
 exact⟨rs,h3,by rw[h4]; exact h2⟩
theorem vY {ρ:Place} {L:bn} {I:Nat→Prop} {w:World} {N:Nat→Prop} {a:AV} {kv:Value} {e:MapEntry} {r:List AV} {sz:Nat} (h:aS ρ L I w N a kv) (hs:bS a=true) (hka:a.iN=ka) (hk:(cells a).length=k)
  (hE:oc ρ L I w N k ka va sz e.key e.val r) (hok:dE ls (cells a) r=true) (hB:lE (cells a) r=true):e.key=kv:=by
 obtain⟨p1,p2,p3,p4⟩:=dt h hs
 obtain⟨rs,h1,h2⟩:=Gy hok hB
 have hle:k≤r.length:=by have:=hE.rl; have:=hE.fl; omega
 have h4:=h1.val p2 (us:=aQ e.key) (by rw[List.length_take,hE.kl]; omega) p4 fun j hj=>by
  have hj':j<k:=by rw[List.length_take]at hj; omega
  have:=(hE.cell j (by have:=hE.fl; omega)).2
  have e1:(aQ e.key++aQ e.val).getD j default=(aQ e.key).getD j default:=by rw[List.getD_eq_getElem?_getD,List.getElem?_append_left (by rw[hE.kl]; exact hj'),List.getD_eq_getElem?_getD]
  have e2:(r.take (cells a).length).getD j .bad=r.getD j .bad:=by simp only[List.getD_eq_getElem?_getD,List.getElem?_take]; rw[if_pos (by omega)]
  rw[e1]at this
  rw[e2]; exact this
 have:=h4.eq h2
 rw[←eJ e.key,hE.ka,this,←hka,←p1,eJ]
theorem qy (hT:dh P T) {val:Operand} (ho:o.op= .mapUpdate t x key val∨o.op= .insert t x key val) (ht:T.d t= .map kt et) (hx:ev F x= .omap n) (hb:M n=some b) (hmp:b.mp=some (k,ka,va,dn))
  (hd:d≤10000) (hl:ll P d kt=some ls) (iM:aR P kt=ka) (hs:bS (ev F key)=true) (hka:(ev F key).iN=ka) (hk:(cells (ev F key)).length=k) (hkk:dE ls (cells (ev F key)) (cells (ev F key))=true)
  (hok:∀r ∈ b.es,dE ls (cells (ev F key)) r=true) (Ol:bS (ev F val)=true) (r7:(ev F val).iN=va) (hvl:k+ (cells (ev F val)).length=b.sz) (hle:b.es.length+1≤kj):
  bP P X o F M (.aU []) [(n,⟨b.ty,b.sz,Gx (cells (ev F key)) (cells (ev F val)) b.es,some (k,ka,va,dn.up)⟩)] []∧n ∈ (ev F x).names:=by
 have dX:x ∈ o.op.operands.toList:=by rcases ho with ho|ho<;>simp[ho,Op.operands]
 have JX:key ∈ o.op.operands.toList:=by rcases ho with ho|ho<;>simp[ho,Op.operands]
 have Uq:val ∈ o.op.operands.toList:=by rcases ho with ho|ho<;>simp[ho,Op.operands]
 obtain⟨D,it,z,hD,hf,_⟩:=hT t (by rw[ht]; simp)
 have gA:=kF ht hf
 subst gA
 obtain⟨sl,ee,er⟩:=bz (F:=F) x dX (n:=n) (by rw[hx]; simp[AV.names])
 refine⟨⟨fun p hp=> .inr ⟨sl,ee,by simp at hp; rw[hp]; exact er⟩,fun M' N ρ I a w hW hU hN _=> ?_⟩,by rw[hx]; simp[AV.names]⟩
 have r1:=ay hU x dX
 have r2:=ay hU key JX
 have r3:=ay hU val Uq
 rw[hx]at r1
 have cy:M' n=some b:=(hN sl ee n er).trans hb
 have dJ:lens M' n=some (0,b.sz):=by rw[aH]; exact⟨b,cy,by simp[bu.ln,hmp],rfl⟩
 obtain⟨hn,g,cap,hρ,oI⟩:=jy r1 dJ
 obtain⟨en,ck,hg,hR,hC,hsz,_,_⟩:=fE hW cy hmp hρ
 have Be:valOf (aR P kt) (aQ (a.eval key))=a.eval key:=by
  rw[iM,←hka,←(dt r2 hs).1]; exact eJ _
 have Bf:=mR r2 hs hkk
 have eW:=eD hd hl w Bf (pW hl iM r2 hs hk hR hok)
 have sB:∀em,(Instr.checkKey em 10000 kt (a.eval key)).run P w= .ok () w:=fun em=>by
  have:=dv (em:=em) d (10000 - d) kt ls w _ hl Bf
  rw[show d+ (10000 - d)=10000 by omega,Be]at this; exact this
 have hst:(Instr.keyThatStays (a.eval key) (a.eval key)).run P w= .ok (a.eval key) w:=by
  have:=mP (P:=P) (ag:=aR P kt) Bf (fun h=>iY hl h) w
  rwa[Be]at this
 rw[Be]at eW
 have IP:∀w',(Instr.mapUpdate t (.map (some g)) (a.eval key) (a.eval val)).run P w= .ok () w'→(execOp a.eval o).run P w= .ok .skip w':=fun w' h=>by
  rcases ho with ho|ho<;>simp[execOp,ho,oI,h]
 have hmk:=oc.mk' r2 hs r3 Ol hk hvl hka r7
 unfold bV Gx
 rcases iu (kc:=cells (ev F key)) (en:=en.toList) (es:=b.es) (i:=0) (by simpa using hR.len)with⟨h1,h2⟩|⟨j,e,r,h1,h2,h3,h4,h5⟩
 ·rw[h2]at eW
  rw[h1,IP {w with heap:=w.heap.setIfInBounds g (.map (en.push ⟨a.eval key,a.eval val,ck⟩) (ck+1))} (by
   simp[Instr.mapUpdate,run_underlying hD,MapKept.run_getObj_map hg,sB,eW,MapKept.run_setObj_map _ hg])]
  exact jR hW cy hmp hρ (hR.push hmk ck) hC.push (by simp only[List.length_append,List.length_singleton]; simp only[kj]at hle; simp only[maxLen]; omega) (.aU [] [] rfl (fun j hj=>by simp at hj)) (fun _ _ _ h=>(Dn.CQ h).elim)
 ·rw[h2,Nat.zero_add]at eW
  have JY:en[j]? =some e:=by simpa using h3
  have hE:=hR.row j e r JY h4
  have hkey:=vY r2 hs hka hk hE (hok r (List.mem_of_getElem? h4)) h5
  rw[h1,IP {w with heap:=w.heap.setIfInBounds g (.map (en.modify j fun e=> {e with key:=a.eval key,val:=a.eval val}) ck)} (by
   simp[Instr.mapUpdate,run_underlying hD,MapKept.run_getObj_map hg,sB,eW,JY,hkey,hst,MapKept.run_setObj_map _ hg])]
  exact jR hW cy hmp hρ (hR.set (f:=fun e=> {e with key:=a.eval key,val:=a.eval val}) fun _ _=>hmk) (hC.up.modify (f:=fun e=> {e with key:=a.eval key,val:=a.eval val}) (fun _=>rfl) j) (by rw[List.length_set]; simp only[kj]at hle; simp only[maxLen]; omega) (.aU [] [] rfl (fun j hj=>by simp at hj)) (fun _ _ _ h=>(Dn.CQ h).elim)
def ye (kc zs:List AV) (es:List (List AV)):List (List AV):=match cg kc es with
 |some _=>es
 |none=>es++ [kc++zs]
def uJ (kc:List AV) (es:List (List AV)):Nat:=match cg kc es with
 |some q=>q.1
 |none=>es.length
theorem lM (hT:dh P T) (ho:o.op= .mapEntry t x key) (ht:T.d t= .map kt et) (Du:(T.d et).ok=true) (hx:ev F x= .omap n) (hb:M n=some b) (hmp:b.mp=some (k,ka,va,.b true))
  (hd:d≤10000) (hl:ll P d kt=some ls) (iM:aR P kt=ka) (hs:bS (ev F key)=true) (hka:(ev F key).iN=ka) (hk:(cells (ev F key)).length=k) (hkk:dE ls (cells (ev F key)) (cells (ev F key))=true)
  (hok:(∀r ∈ b.es,r.length=b.sz)→∀r ∈ b.es,dE ls (cells (ev F key)) r=true) (Ol:bS (T.z et)=true) (r7:(T.z et).iN=va) (hvl:k+ (cells (T.z et)).length=b.sz) (hv:va=false→k<b.sz) (hle:b.es.length+1≤kj):
  bP P X o F M (.aU [sA va (T.z et) (cg (cells (ev F key)) b.es),.int .i64 (uJ (cells (ev F key)) b.es)]) [(n,⟨b.ty,b.sz,ye (cells (ev F key)) (cells (T.z et)) b.es,some (k,ka,va,.b true)⟩)] []∧n ∈ (ev F x).names:=by
 have dX:x ∈ o.op.operands.toList:=by simp[ho,Op.operands]
 have JX:key ∈ o.op.operands.toList:=by simp[ho,Op.operands]
 obtain⟨D,it,z,hD,hf,_⟩:=hT t (by rw[ht]; simp)
 have gA:=kF ht hf
 subst gA
 obtain⟨De,ie,ze,CK,IN,hie,k9,_,JJ,iU⟩:=hT et (TD.dG Du)
 obtain⟨sl,ee,er⟩:=bz (F:=F) x dX (n:=n) (by rw[hx]; simp[AV.names])
 refine⟨⟨fun p hp=> .inr ⟨sl,ee,by simp at hp; rw[hp]; exact er⟩,fun M' N ρ I a w hW hU hN _=> ?_⟩,by rw[hx]; simp[AV.names]⟩
 have r1:=ay hU x dX
 have r2:=ay hU key JX
 rw[hx]at r1
 have cy:M' n=some b:=(hN sl ee n er).trans hb
 have dJ:lens M' n=some (0,b.sz):=by rw[aH]; exact⟨b,cy,by simp[bu.ln,hmp],rfl⟩
 obtain⟨hn,g,cap,hρ,oI⟩:=jy r1 dJ
 obtain⟨en,ck,hg,hR,hC,hsz,_,CM⟩:=fE hW cy hmp hρ
 have hok:=hok (hW.bg n b cy).even
 have Be:valOf (aR P kt) (aQ (a.eval key))=a.eval key:=by
  rw[iM,←hka,←(dt r2 hs).1]; exact eJ _
 have Bf:=mR r2 hs hkk
 have eW:=eD hd hl w Bf (pW hl iM r2 hs hk hR hok)
 have sB:∀em,(Instr.checkKey em 10000 kt (a.eval key)).run P w= .ok () w:=fun em=>by
  have:=dv (em:=em) d (10000 - d) kt ls w _ hl Bf
  rw[show d+ (10000 - d)=10000 by omega,Be]at this; exact this
 have hst:(Instr.keyThatStays (a.eval key) (a.eval key)).run P w= .ok (a.eval key) w:=by
  have:=mP (P:=P) (ag:=aR P kt) Bf (fun h=>iY hl h) w
  rwa[Be]at this
 rw[Be]at eW
 have YD:aS ρ (lens M') I w N (T.z et) ze:=by rw[iU]; exact fk _ _ _ _ _ _
 obtain⟨S7,zM⟩:=hC.den rfl
 have two:∀ {a1 a2:AV} {v1 v2:Value},aS ρ (lens M') I w N a1 v1→aS ρ (lens M') I w N a2 v2→aS ρ (lens M') I w N (.aU [a1,a2]) (.tuple #[v1,v2]):=fun {a1 a2 v1 v2} q1 q2=> .aU [a1,a2] [v1,v2] rfl fun j hj=>by
  match j,hj with
  |0,_=>simpa using q1
  |1,_=>simpa using q2
 unfold bV ye uJ
 rcases iu (kc:=cells (ev F key)) (en:=en.toList) (es:=b.es) (i:=0) (by simpa using hR.len)with⟨h1,h2⟩|⟨j,e,r,h1,h2,h3,h4,h5⟩
 ·rw[h2]at eW
  have hrun:(execOp a.eval o).run P w= .ok (.value (.tuple #[ze,goInt ck])) {w with heap:=w.heap.setIfInBounds g (.map (en.push ⟨a.eval key,ze,ck⟩) (ck+1))}:=by
   simp[execOp,ho,oI,Instr.mapEntry,run_underlying hD,MapKept.run_getObj_map hg,sB,eW,fm hie JJ,MapKept.run_setObj_map _ hg]
  rw[h1,hrun]
  refine jR hW cy hmp hρ (hR.push (oc.mk' r2 hs YD Ol hk hvl hka r7) ck) hC.push (by simp only[List.length_append,List.length_singleton]; simp only[kj]at hle; simp only[maxLen]; omega) (two YD ?_) (fun _ _ _ h=>by cases h)
  rw[S7,hR.len]; exact .int _ _
 ·rw[h2,Nat.zero_add]at eW
  have JY:en[j]? =some e:=by simpa using h3
  have hE:=hR.row j e r JY h4
  have hkey:=vY r2 hs hka hk hE (hok r (List.mem_of_getElem? h4)) h5
  have hrun:(execOp a.eval o).run P w= .ok (.value (.tuple #[e.val,goInt e.born])) {w with heap:=w.heap.setIfInBounds g (.map (en.modify j fun e=> {e with key:=a.eval key}) ck)}:=by
   simp[execOp,ho,oI,Instr.mapEntry,run_underlying hD,MapKept.run_getObj_map hg,sB,eW,JY,hkey,hst,MapKept.run_setObj_map _ hg]
  rw[h1,hrun]
  have NE:lx ρ (lens M') I w N k ka va b.sz b.es (en.modify j fun e=> {e with key:=a.eval key}):=by
   have:=hR.set (i:=j) (f:=fun e=> {e with key:=a.eval key}) (r:=r) (fun e0 YE=>by rw[JY]at YE; cases YE; rw[←hkey]; exact hE)
   have hlt:=(List.getElem?_eq_some_iff.1 h4)
   rwa[←hlt.2,List.set_getElem_self]at this
  refine jR hW cy hmp hρ NE (hC.modify (f:=fun e=> {e with key:=a.eval key}) (fun _=>rfl) j) CM (two ?_ ?_) (fun _ _ _ h=>by cases h)
  ·simp only[sA]
   rw[hk]; exact hE.val hv
  ·have:=zM j e JY
   rw[this]; exact .int _ _
theorem pE {stamp val:Operand} {q:IntKind} {j:Nat} {r:List AV} (ho:o.op= .entryStore t x stamp val) (hx:ev F x= .omap n) (hb:M n=some b) (hmp:b.mp=some (k,ka,va,.b true))
  (hst:ev F stamp= .int q j) (hr:b.es[j]? =some r) (Ol:bS (ev F val)=true) (r7:(ev F val).iN=va) (hvl:k+ (cells (ev F val)).length=b.sz):
  bP P X o F M (.aU []) [(n,⟨b.ty,b.sz,b.es.set j (r.take k++cells (ev F val)),some (k,ka,va,.b true)⟩)] []∧n ∈ (ev F x).names:=by
 have dX:x ∈ o.op.operands.toList:=by simp[ho,Op.operands]
 have Z0:stamp ∈ o.op.operands.toList:=by simp[ho,Op.operands]
 have Uq:val ∈ o.op.operands.toList:=by simp[ho,Op.operands]
 obtain⟨sl,ee,er⟩:=bz (F:=F) x dX (n:=n) (by rw[hx]; simp[AV.names])
 refine⟨⟨fun p hp=> .inr ⟨sl,ee,by simp at hp; rw[hp]; exact er⟩,fun M' N ρ I a w hW hU hN _=> ?_⟩,by rw[hx]; simp[AV.names]⟩
 have r1:=ay hU x dX
 have r2:=bH (hst ▸ ay hU stamp Z0)
 have r3:=ay hU val Uq
 rw[hx]at r1
 have cy:M' n=some b:=(hN sl ee n er).trans hb
 have dJ:lens M' n=some (0,b.sz):=by rw[aH]; exact⟨b,cy,by simp[bu.ln,hmp],rfl⟩
 obtain⟨hn,g,cap,hρ,oI⟩:=jy r1 dJ
 obtain⟨en,ck,hg,hR,hC,hsz,_,CM⟩:=fE hW cy hmp hρ
 obtain⟨S7,zM⟩:=hC.den rfl
 have hj:j<b.es.length:=(List.getElem?_eq_some_iff.1 hr).1
 have YF:j<en.size:=by rw[hR.len]; exact hj
 have hidx:en.findIdx? (fun e=>(e.born:Int)==(j:Int))=some j:=by
  rw[Array.findIdx?_eq_some_iff_getElem]
  refine⟨YF,?_,fun i hi=> ?_⟩
  ·have:=zM j en[j] (Array.getElem?_eq_getElem YF)
   simp[this]
  ·have:=zM i (en[i]'(by omega)) (Array.getElem?_eq_getElem (by omega))
   simp only[this,Bool.not_eq_true,beq_eq_false_iff_ne,ne_eq]; omega
 have hrun:(execOp a.eval o).run P w= .ok .skip {w with heap:=w.heap.setIfInBounds g (.map (en.modify j fun e=> {e with val:=a.eval val}) ck)}:=by
  simp[execOp,ho,oI,r2,Instr.entryStore,MapKept.run_getObj_map hg,asInt,asIntOf,hidx,MapKept.run_setObj_map _ hg]
 unfold bV
 rw[hrun]
 refine jR hW cy hmp hρ (hR.set (i:=j) (f:=fun e=> {e with val:=a.eval val}) fun e he=> ?_) (hC.modify (f:=fun e=> {e with val:=a.eval val}) (fun _=>rfl) j) (by rw[List.length_set]; exact CM) (.aU [] [] rfl (fun j hj=>by simp at hj)) (fun _ _ _ h=>by cases h)
 have hE:=hR.row j e r he hr
 obtain⟨q1,q2,q3,q4⟩:=dt r3 Ol
 have hle:k≤r.length:=by have:=hE.rl; have:=hE.fl; omega
 have S8:(r.take k).length=k:=by rw[List.length_take]; omega
 refine⟨by rw[List.length_append,S8]; omega,hE.kl,by show k+ (aQ (a.eval val)).length=_; omega,hE.ka,q1.trans r7,fun p hp=> ?_⟩
 show ((aQ e.key++aQ (a.eval val)).getD p default).oneCell'=true∧aS ρ (lens M') I w N ((r.take k++cells (ev F val)).getD p .bad) ((aQ e.key++aQ (a.eval val)).getD p default)
 by_cases hpk:p<k
 ·have:=hE.cell p hp
  have e0:(aQ e.key++aQ e.val).getD p default=(aQ e.key).getD p default:=by rw[List.getD_eq_getElem?_getD,List.getElem?_append_left (by rw[hE.kl]; exact hpk),List.getD_eq_getElem?_getD]
  have e1:(aQ e.key++aQ (a.eval val)).getD p default=(aQ e.key).getD p default:=by rw[List.getD_eq_getElem?_getD,List.getElem?_append_left (by rw[hE.kl]; exact hpk),List.getD_eq_getElem?_getD]
  have e2:(r.take k++cells (ev F val)).getD p .bad=r.getD p .bad:=by
   rw[List.getD_eq_getElem?_getD,List.getElem?_append_left (by omega),List.getElem?_take,if_pos hpk,List.getD_eq_getElem?_getD]
  rw[e0]at this
  rw[e1,e2]; exact this
 ·have e1:(aQ e.key++aQ (a.eval val)).getD p default=(aQ (a.eval val)).getD (p - k) default:=by rw[List.getD_eq_getElem?_getD,List.getElem?_append_right (by rw[hE.kl]; omega),List.getD_eq_getElem?_getD,hE.kl]
  have e2:(r.take k++cells (ev F val)).getD p .bad=(cells (ev F val)).getD (p - k) .bad:=by rw[List.getD_eq_getElem?_getD,List.getElem?_append_right (by omega),List.getD_eq_getElem?_getD,S8]
  rw[e1,e2]
  refine⟨?_,q4 (p - k) (by omega)⟩
  rw[List.getD_eq_getElem?_getD,List.getElem?_eq_getElem (by omega)]
  exact q3 _ (List.getElem_mem _)
end
end Go.AM
namespace Go.AM
open Go.RowKit Go.MapKept
variable {P:Program} {T:TT} {X:ct} {o:Oper} {F:bj} {M:bA}
theorem mE.nU {av:AV} (h:mE P X o F M av):bP P X o F M av [] []:=
 ⟨fun p hp=>by simp at hp,fun M' N ρ I a w W hr hM _=>h M' N ρ I a w W hr (fun s hs n hn=>by rw[hM s hs n hn])⟩
theorem yf:∀ {ls:List LK} {kc r:List AV},dE ls kc kc=true→iL kc=true→iL r=true→kc.length≤r.length→dE ls kc r=true
 |[],[],_,_,_,_,_=>by simp[dE]
 | .i::l,.int k x::a,r,h,g,g2,hl=>by
   cases k<;>simp only[iL,Bool.false_eq_true]at g
   cases r with
   |nil=>simp at hl
   |cons c s=>
    cases c with
    |int k2 y=>
     cases k2<;>simp only[iL,Bool.false_eq_true]at g2
     simp only[dE,Bool.and_eq_true]at h ⊢
     exact⟨rfl,yf h.2 g g2 (by simpa using hl)⟩
    |_=>simp[iL]at g2
 | .i::l,[],_,h,_,_,_=>by simp[dE]at h
 | .b::l,[],_,h,_,_,_=>by simp[dE]at h
 | .s::l,[],_,h,_,_,_=>by simp[dE]at h
 |[],_::_,_,h,_,_,_=>by simp[dE]at h
 | .b::l,c::a,_,h,g,_,_=>by cases c<;>simp[dE,iL]at h g
 | .s::l,c::a,_,h,g,_,_=>by cases c<;>simp[dE,iL]at h g
 | .i::l,.bool _::a,_,_,g,_,_=>by simp[iL]at g
 | .i::l,.str _::a,_,_,g,_,_=>by simp[iL]at g
 | .i::l,.bU::a,_,_,g,_,_=>by simp[iL]at g
 | .i::l,.an::a,_,_,g,_,_=>by simp[iL]at g
 | .i::l,.au::a,_,_,g,_,_=>by simp[iL]at g
 | .i::l,.dL::a,_,_,g,_,_=>by simp[iL]at g
 | .i::l,.ci::a,_,_,g,_,_=>by simp[iL]at g
 | .i::l,.loc .. ::a,_,_,g,_,_=>by simp[iL]at g
 | .i::l,.bh .. ::a,_,_,g,_,_=>by simp[iL]at g
 | .i::l,.dP .. ::a,_,_,g,_,_=>by simp[iL]at g
 | .i::l,.aO .. ::a,_,_,g,_,_=>by simp[iL]at g
 | .i::l,.bv .. ::a,_,_,g,_,_=>by simp[iL]at g
 | .i::l,.omap .. ::a,_,_,g,_,_=>by simp[iL]at g
 | .i::l,.bW .. ::a,_,_,g,_,_=>by simp[iL]at g
 | .i::l,.agg .. ::a,_,_,g,_,_=>by simp[iL]at g
 | .i::l,.aU .. ::a,_,_,g,_,_=>by simp[iL]at g
 | .i::l,.bad::a,_,_,g,_,_=>by simp[iL]at g
theorem Bg (q:Option (Nat × List AV)):sA false (.int .i64 0) q=AQ q:=by cases q<;>rfl
section
variable {t kt et n d k:Nat} {ka:Bool} {dn:Dn} {b:bu} {ls:List LK} {x key:Operand}
theorem Dv (hT:dh P T) (ho:o.op= .lookup t x key false) (ht:T.d t= .map kt et) (Du:(T.d et).ok=true) (hz:T.z et= .int .i64 0) (hx:ev F x= .omap n) (hb:M n=some b) (hmp:b.mp=some (k,ka,false,dn))
  (hd:d≤10000) (hl:ll P d kt=some ls) (iM:aR P kt=ka) (hs:bS (ev F key)=true) (hka:(ev F key).iN=ka) (hk:(cells (ev F key)).length=k) (hkk:dE ls (cells (ev F key)) (cells (ev F key))=true)
  (hg:iL (cells (ev F key))=true) (Om:∀r ∈ b.es,iL r=true) (hsz:b.sz=k+1):
  mE P X o F M (AQ (cg (cells (ev F key)) b.es)):=by
 intro M' N ρ I a w hW hU hV
 have dX:x ∈ o.op.operands.toList:=by simp[ho,Op.operands]
 obtain⟨sl,ee,er⟩:=bz (F:=F) x dX (n:=n) (by rw[hx]; simp[AV.names])
 have hv:=hV sl ee n er
 rw[hb]at hv
 cases hb':M' n with
 |none=>rw[hb']at hv; simp[Vw]at hv
 |some b'=>
  rw[hb']at hv
  simp only[Vw,Option.map_some,Option.some.injEq,Prod.mk.injEq]at hv
  obtain⟨v1,v2,v3,v4⟩:=hv
  have Ur:∀r ∈ b'.es,iL r=true:=v4.symm ▸ Om
  have YG:=congrFun v3 (cells (ev F key))
  rw[v1,if_pos (by omega),if_pos (by omega)]at YG
  have hok:∀r ∈ b'.es,dE ls (cells (ev F key)) r=true:=fun r hr=>yf hkk hg (Ur r hr) (by
   have:=(hW.bg n b' hb').even r hr
   omega)
  have D:=oZ (X:=X) (M:=M') hT ho ht Du hx hb' (v2.trans hmp) hd hl iM hs hka hk hkk hok (fun _=>by omega)
  simp only[yd,Bool.false_eq_true,if_false,hz,Bg]at D
  rw[YG]at D
  exact D.2 M' N ρ I a w hW hU (fun _ _ _ _=>rfl) (fun _ h=>by simp at h)
theorem tc {kc r:List AV}:∀ {es:List (List AV)},cg kc (es++ [r])=match cg kc es with
  |some q=>some q
  |none=>if lE kc r then some (es.length,r.drop kc.length)else none
 |[]=>by simp only[List.nil_append,cg]; cases lE kc r<;>rfl
 |e::es=>by
  simp only[List.cons_append,cg]
  by_cases h:lE kc e=true
  ·simp[h]
  ·simp only[if_neg h]
   rw[tc (es:=es)]
   cases cg kc es with
   |some q=>rfl
   |none=>by_cases h2:lE kc r=true<;>simp[h2]
theorem zN:∀ {a b:List AV},iL (a++b)=(iL a&&iL b)
 |[],b=>by simp[iL]
 |c::a,b=>by
  cases c<;>simp only[List.cons_append,iL,Bool.false_and]
  rename_i k y
  cases k<;>simp only[iL,zN,Bool.false_and]
theorem Gz {kc:List AV} (hmp:b.mp=some (k,ka,false,.b true)) (hk:kc.length=k) (hsz:b.sz=k+1) (hg:iL kc=true):Vw (some b)=Vw (some ⟨b.ty,b.sz,ye kc [.int .i64 0] b.es,some (k,ka,false,.b true)⟩):=by
 simp only[Vw,Option.map_some,Option.some.injEq,Prod.mk.injEq]
 refine⟨trivial,hmp,?_,?_⟩
 ·funext Us
  split
  ·rename_i hl
   unfold ye
   cases hm:cg kc b.es with
   |some q=>rfl
   |none=>
    simp only
    rw[tc]
    cases hm':cg Us b.es with
    |some q=>rfl
    |none=>
     simp only
     split
     ·have:(kc++ [AV.int .i64 0]).drop Us.length=[.int .i64 0]:=by
       rw[show Us.length=kc.length by omega,List.drop_left]
      rw[this]; rfl
     ·rfl
  ·rfl
 ·apply propext
  unfold ye
  cases cg kc b.es with
  |some q=>exact Iff.rfl
  |none=>
   simp only[List.mem_append,List.mem_singleton]
   exact⟨fun h r hr=>hr.elim (h r) (fun e=>by rw[e,zN,hg]; rfl),fun h r hr=>h r (.inl hr)⟩
end
end Go.AM
namespace Go.AM
open Go.RowKit
structure Env where
 P:Program
 T:TT
 ok:PT P T
 ft:Nat→Nat
 ty:Nat→Nat
inductive Sc where
 |t (n:Nat)
 |k (v:AV)
 |f (g:Nat)
inductive td where
 |mv (x:Sc)
 |pick (c a b:Sc)
 |alloc (ty:Nat) (z:List AV)
 |box (ty:Nat) (x:Sc)
 |build (z:List AV) (ps:List (Nat × Nat × Sc))
 |aF (ty sz len:Nat) (z:List AV) (ps:List (Nat × Sc))
 |load (ag:Bool) (n:Nat) (x:Sc)
 |store (n:Nat) (x v:Sc)
 |bK (x:Sc)
 |bin (op:BinOp) (x y:Sc)
 |On (neg:Bool) (x y:Sc)
 |NI (neg:Bool) (x:Sc)
 |yg (neg:Bool) (x:Sc)
 |GA (neg:Bool) (x:Sc)
 |YH (m sz:Nat) (x:Sc)
 |IQ (ty sz:Nat) (x:Sc)
 |zO (neg:Bool) (ls:List LK) (x y:Sc)
 |Ut (op:BinOp) (x y:Sc)
 |un (op:UnOp) (x:Sc)
 |conv (k:IntKind) (x:Sc)
 |Oo (x:Sc)
 |YI (ty:Nat) (x:Sc)
 |S9 (x:Sc)
 |Oq (g:Nat) (cs:List Sc)
 |bM (off:Nat) (x:Sc)
 |Dw (ag:Bool) (off n:Nat) (x:Sc)
 |Bh (sz:Nat) (x i:Sc)
 |bJ (m sz:Nat) (x i:Sc)
 |Dx (ag:Bool) (m sz:Nat) (x i:Sc)
 |Ot (x i:Sc)
 |vZ (ty sz:Nat) (x:Sc) (lo hi mx:Option Sc)
 |v6 (m sz:Nat) (x:Sc) (lo hi mx:Option Sc)
 |Ou (x:Sc) (lo hi:Option Sc)
 |ext (x:Sc) (i:Nat)
 |call (g:Nat) (as:List Sc)
 |gq (f:Sc) (as:List Sc)
 |te (f:Sc) (as:List Sc)
 |mS (f:Sc) (as:List Sc)
 |o9 (g:Nat) (as:List Sc)
 |JZ (n:Nat)
 |gQ (x:Sc)
 |J0 (x:Sc)
 |mm (mx:Bool) (as:List Sc)
 |app (ty sz:Nat) (s x:Sc)
 |GB (ty:Nat) (s x:Sc)
 |GC (ty sz:Nat) (z:List AV) (s x:Sc)
 |Uu (ty sz:Nat) (z:List AV) (l c:Sc)
 |copy (sz:Nat) (x y:Sc)
 |J1 (k:Nat) (ka va:Bool) (sz:Nat)
 |F5 (ls:List LK) (ag va:Bool) (z:AV) (ok:Bool) (x key:Sc)
 |Dy (ls:List LK) (ag va:Bool) (x key v:Sc)
 |Uv (ls:List LK) (ag va:Bool) (z:AV) (x key:Sc)
 |Uw (va:Bool) (x st v:Sc)
 |IR (ls:List LK) (ag:Bool) (x key:Sc)
 |enc (ls:List LK) (ag:Bool) (x key:Sc)
 |Ov (ls:List LK) (ag:Bool) (x key:Sc)
 |NJ (x:Sc)
 |Ow (x:Sc)
 |II (x:Sc)
structure cu where
 d:Option Nat
 g:Option (Nat × Bool)
 o:td
inductive cN where
 |bad
 |skip
 |ret
 |exit (id:Nat)
 |ops (l:List cu)
 |draw (ms:List Nat) (us:List (List Nat)) (l:List cu)
 |IS (ms:List Nat) (us:List (List Nat)) (l l2:List cu)
 |seq (a b:cN)
 |cond (c:Sc) (a b:cN)
 |block (id:Nat) (c:cN)
 |loop (c:cN)
 |sC (ls:List Nat) (c:cN)
 |scope (c:cN)
 |uK (f:Sc) (ps:List Nat) (Ux body:cN)
inductive uL where
 |t (n:Nat)
 |cell (a:Nat) (ag:Bool) (n:Nat)
structure cb where
 np:Nat
 rs:List uL
 body:cN
inductive bN where
 |var (ty:Nat) (row:List AV)
 |arr (ty sz:Nat) (es:List (List AV))
 |map (k:Nat) (ka va:Bool) (dn:Dn) (sz:Nat) (es:List (List AV))
def bN.bg:bN→bu
 | .var ty row=>⟨ty,row.length,[row],none⟩
 | .arr ty sz es=>⟨ty,sz,es,none⟩
 | .map k ka va dn sz es=>⟨0,sz,es,some (k,ka,va,dn)⟩
abbrev aj:=List (Nat × bN)
def aC:aj→Mem
 |[]=>[]
 |(n,b)::r=>(n,b.bg)::aC r
structure pF (b:Bool) (X Y:Prop):Prop where
 t:b=true→X
 f:b=false→Y
structure F6 (k:IntKind) (n:Int) (K:Int→Prop):Prop where
 h:K (wr k n)
structure Ox (es:List (List AV)) (i:Nat) (K:List AV→Prop):Prop where
 h:K (es.getD i [])
structure Oy (i:Int) (m:Nat) (K:Nat→Prop):Prop where
 h:(0≤i∧i< (m:Int))∧K i.toNat
theorem pF.sound {b:Bool} {X Y:Prop} (h:pF b X Y):(b=true∧X)∨(b=false∧Y):=by
 cases b
 ·exact .inr ⟨rfl,h.f rfl⟩
 ·exact .inl ⟨rfl,h.t rfl⟩
abbrev KS:=bj→aj→Nat→Prop
def lN:bj→Nat→(AV→Prop)→Prop
 |[],_,K=>K .bad
 |(j,v)::r,i,K=>bif Nat.beq i j then K v else lN r i K
theorem cD (a b:Nat):Nat.beq a b=(a==b):=by
 by_cases h:a=b
 ·subst h; simp
 ·have:(a==b)=false:=by simpa using h
  rw[this]; exact Bool.eq_false_iff.2 (fun e=>h (Nat.eq_of_beq_eq_true e))
theorem gu:∀ (F:bj) (i:Nat) (K:AV→Prop),lN F i K=K (look F i)
 |[],_,_=>rfl
 |(j,v)::r,i,K=>by
  simp only[lN,look,cD]
  cases i==j
  ·exact gu r i K
  ·rfl
def Env.cl (R:Env) (g:Nat) (cs:List AV):AV:= .bW (.fn (R.ft g)) cs
def dx (R:Env) (F:bj):Sc→(AV→Prop)→Prop
 | .t n,K=>lN F n K
 | .k v,K=>K v
 | .f g,K=>K (R.cl g [])
def lm (R:Env) (F:bj):Sc→AV
 | .t n=>look F n
 | .k v=>v
 | .f g=>R.cl g []
theorem aM (R:Env) (F:bj) (x:Sc) (K:AV→Prop):dx R F x K=K (lm R F x):=by
 cases x
 ·exact gu _ _ _
 ·rfl
 ·rfl
def qz (R:Env) (F:bj):List Sc→(List AV→Prop)→Prop
 |[],K=>K []
 |x::r,K=>dx R F x fun v=>qz R F r fun l=>K (v::l)
theorem fF (R:Env) (F:bj):∀ (l:List Sc) (K:List AV→Prop),qz R F l K=K (l.map (lm R F))
 |[],_=>rfl
 |x::r,K=>by simp only[qz,aM,fF R F r,List.map_cons]
def yi (R:Env) (F:bj):Option Sc→(Option AV→Prop)→Prop
 |none,K=>K none
 |some x,K=>dx R F x fun v=>K (some v)
theorem zP (R:Env) (F:bj) (x:Option Sc) (K:Option AV→Prop):yi R F x K=K (x.map (lm R F)):=by
 cases x
 ·rfl
 ·simp only[yi,aM,Option.map_some]
def aP (d:Option Nat) (v:AV) (F:bj) (M:aj) (nx:Nat) (K:KS):Prop:=
 match d with
 |none=>K F M nx
 |some i=>K ((i,v)::F) M nx
def zQ (F:bj):List Nat→(bj→Prop)→Prop
 |[],K=>K []
 |i::r,K=>lN F i fun v=>zQ F r fun F'=>K ((i,v)::F')
theorem qA {F:bj}:∀ {l:List Nat} {K:bj→Prop},zQ F l K→∃F',(∀i,look F' i=look F i∨look F' i= .bad)∧K F'
 |[],K,h=>⟨[],fun _=> .inr rfl,h⟩
 |i::r,K,h=>by
  simp only[zQ,gu]at h
  obtain⟨F',h1,h2⟩:=qA (l:=r) (K:=fun F'=>K ((i,look F i)::F')) h
  refine⟨(i,look F i)::F',fun j=> ?_,h2⟩
  by_cases e:j=i
  ·subst e; left; simp[look]
  ·have:(j==i)=false:=by simpa using e
   simp only[look,this,cond_false]
   exact h1 j
def c9:aj→Nat→(bN→Prop)→Prop
 |[],_,_=>False
 |(m,b)::r,n,K=>bif Nat.beq n m then K b else c9 r n K
theorem aV:∀ {M:aj} {n:Nat} {K:bN→Prop},c9 M n K→∃b,ae (aC M) n=some b.bg∧K b
 |[],_,_,h=>h.elim
 |(m,b)::r,n,K,h=>by
  simp only[c9,cD]at h
  simp only[aC,ae]
  cases hb:n==m with
  |true=>rw[hb]at h; exact⟨b,rfl,h⟩
  |false=>rw[hb]at h; exact aV (M:=r) h
def gv:aj→Nat→bN→(aj→Prop)→Prop
 |[],n,b,K=>K [(n,b)]
 |(m,c)::r,n,b,K=>bif Nat.beq n m then K ((m,b)::r)else gv r n b fun r'=>K ((m,c)::r')
theorem cn:∀ {M:aj} {n:Nat} {b:bN} {K:aj→Prop},gv M n b K→∃M',aC M'=fR (aC M) n b.bg∧K M'
 |[],n,b,K,h=>⟨_,rfl,h⟩
 |(m,c)::r,n,b,K,h=>by
  simp only[gv,cD]at h
  simp only[aC,fR]
  cases hb:n==m with
  |true=>rw[hb]at h; exact⟨_,rfl,h⟩
  |false=>
   rw[hb]at h
   obtain⟨M',h1,h2⟩:=cn (M:=r) (K:=fun r'=>K ((m,c)::r')) h
   exact⟨_,by simp only[aC,h1]; rfl,h2⟩
theorem pX (M:aj) (n:Nat) (b:bN):ae (aC ((n,b)::M))=ae (fR (aC M) n b.bg):=by
 funext m
 rw[kZ]
 simp only[aC,ae]
 by_cases h:m=n
 ·subst h; simp
 ·have:(m==n)=false:=by simpa using h
  simp[this,h]
def v7:Nat→List AV→(List AV→Prop)→Prop
 |0,_,K=>K []
 |n+1,c::r,K=>v7 n r fun l=>K (c::l)
 |_+1,[],_=>False
theorem jS:∀ {n:Nat} {cs:List AV} {K:List AV→Prop},v7 n cs K→(cs.take n).length=n∧K (cs.take n)
 |0,_,_,h=>⟨rfl,h⟩
 |n+1,c::r,K,h=>by
  obtain⟨h1,h2⟩:=jS (K:=fun l=>K (c::l)) h
  exact⟨by simp only[List.take_succ_cons,List.length_cons,h1],by simpa using h2⟩
 |_+1,[],_,h=>h.elim
def IT (n:Nat) (cs:List AV) (K:AV→Prop):Prop:=
 match n,cs with
 |1,c::_=>K c
 |_,_=>False
def Dz (ag:Bool) (n:Nat) (cs:List AV) (K:AV→Prop):Prop:=
 match ag with
 |true=>v7 n cs fun l=>K (.agg l)
 |false=>IT n cs K
def qB (ag:Bool) (n:Nat):Nat→List AV→(AV→Prop)→Prop
 |0,cs,K=>Dz ag n cs K
 |off+1,_::r,K=>qB ag n off r K
 |_+1,[],_=>False
theorem iw {ag:Bool} {n:Nat}:∀ {off:Nat} {cs:List AV} {K:AV→Prop},qB ag n off cs K→apart ag n off cs K
 |0,cs,K,h=>by
  simp only[qB,Dz]at h
  simp only[apart,List.drop_zero]
  cases ag with
  |true=>
   simp only at h
   obtain⟨h1,h2⟩:=jS h
   exact aI (by simp only[h1,beq_self_eq_true]) h2
  |false=>
   simp only[IT]at h
   split at h
   ·exact aI rfl (aI rfl h)
   ·exact False.elim h
 |off+1,c::r,K,h=>by
  have:=iw (off:=off) (cs:=r) h
  simpa[apart]using this
 |_+1,[],_,h=>h.elim
def zR:List AV→List AV→(List AV→Prop)→Prop
 |[],cs,K=>K cs
 |v::r,_::cs,K=>zR r cs fun l=>K (v::l)
 |_::_,[],_=>False
def jT:Nat→List AV→List AV→(List AV→Prop)→Prop
 |0,vs,cs,K=>zR vs cs K
 |off+1,vs,c::cs,K=>jT off vs cs fun l=>K (c::l)
 |_+1,_,[],_=>False
theorem qC:∀ {vs cs:List AV} {K:List AV→Prop},zR vs cs K→vs.length≤cs.length∧K (vs++cs.drop vs.length)
 |[],cs,K,h=>⟨Nat.zero_le _,by simpa[zR]using h⟩
 |v::r,c::cs,K,h=>by
  obtain⟨h1,h2⟩:=qC (vs:=r) (cs:=cs) (K:=fun l=>K (v::l)) h
  exact⟨by simpa using h1,by simpa using h2⟩
 |_::_,[],_,h=>h.elim
theorem ec:∀ {off:Nat} {vs cs:List AV} {K:List AV→Prop},jT off vs cs K→off+vs.length≤cs.length∧K (bO off vs cs)
 |0,vs,cs,K,h=>by
  obtain⟨h1,h2⟩:=qC h
  exact⟨by omega,by simpa[bO]using h2⟩
 |off+1,vs,c::cs,K,h=>by
  obtain⟨h1,h2⟩:=ec (off:=off) (vs:=vs) (cs:=cs) (K:=fun l=>K (c::l)) h
  refine⟨by simp only[List.length_cons]; omega,?_⟩
  have e:bO (off+1) vs (c::cs)=c::bO off vs cs:=by
   simp only[bO,List.take_succ_cons,List.cons_append]
   congr 3
   rw[show off+1+vs.length=(off+vs.length)+1 by omega,List.drop_succ_cons]
  rw[e]; exact h2
 |_+1,_,[],_,h=>h.elim
def jU (v:AV) (K:List AV→Prop):Prop:=
 match v with
 | .agg cs=>K cs
 | .bad=>False
 | .aU _=>False
 | .int k n=>K [.int k n]
 | .bool b=>K [.bool b]
 | .str s=>K [.str s]
 | .bU=>K [.bU]
 | .an=>K [.an]
 | .au=>K [.au]
 | .dL=>K [.dL]
 | .ci=>K [.ci]
 | .lW _ _=>False
 | .loc n len i off=>K [.loc n len i off]
 | .bh n len=>K [.bh n len]
 | .dP n len i off ca=>K [.dP n len i off ca]
 | .omap n=>K [.omap n]
 | .aO sz es=>K [.aO sz es]
 | .bv e off=>K [.bv e off]
 | .bW f cs=>K [.bW f cs]
theorem cZ {v:AV} {K:List AV→Prop} (h:jU v K):bS v=true∧K (cells v):=by
 cases v<;>first|exact⟨rfl,h⟩|exact h.elim
def v8 (vs:List AV) (n:Nat) (K:Prop):Prop:=bif Nat.beq vs.length n then K else False
theorem iy {vs:List AV} {n:Nat} {K:Prop} (h:v8 vs n K):vs.length=n∧K:=by
 unfold v8 at h
 cases hb:Nat.beq vs.length n with
 |true=>rw[hb]at h; exact⟨Nat.eq_of_beq_eq_true hb,h⟩
 |false=>rw[hb]at h; exact h.elim
def Bi (R:Env) (F:bj):List (Nat × Nat × Sc)→List AV→(List AV→Prop)→Prop
 |[],cs,K=>K cs
 |(off,n,x)::r,cs,K=>dx R F x fun v=>jU v fun vs=>v8 vs n (jT off vs cs fun cs'=>Bi R F r cs' K)
def J2:Nat→List AV→List (List AV)→(List (List AV)→Prop)→Prop
 |0,v,_::r,K=>K (v::r)
 |n+1,v,e::r,K=>J2 n v r fun l=>K (e::l)
 |_,_,[],_=>False
theorem tf:∀ {i:Nat} {v:List AV} {es:List (List AV)} {K:List (List AV)→Prop},J2 i v es K→i<es.length∧K (es.set i v)
 |0,v,e::r,K,h=>⟨by simp,h⟩
 |n+1,v,e::r,K,h=>by
  obtain⟨h1,h2⟩:=tf (K:=fun l=>K (e::l)) h
  exact⟨by simpa using h1,by simpa using h2⟩
 |0,_,[],_,h=>h.elim
 |_+1,_,[],_,h=>h.elim
def J3 (z:List AV):Nat→(List (List AV)→Prop)→Prop
 |0,K=>K []
 |n+1,K=>J3 z n fun l=>K (z::l)
theorem tg {z:List AV}:∀ {n:Nat} {K:List (List AV)→Prop},J3 z n K→K (List.replicate n z)
 |0,_,h=>h
 |n+1,K,h=>by
  have:=tg (K:=fun l=>K (z::l)) h
  simpa[List.replicate_succ]using this
def th:Nat→List AV→(List AV→Prop)→Prop
 |0,r,K=>K r
 |n+1,_::r,K=>th n r K
 |_+1,[],_=>False
def J4:Nat→List AV→(List AV→List AV→Prop)→Prop
 |0,r,K=>K [] r
 |n+1,c::r,K=>J4 n r fun l r'=>K (c::l) r'
 |_+1,[],_=>False
def zS (sz:Nat):Nat→List AV→(List (List AV)→Prop)→Prop
 |0,_,K=>K []
 |n+1,r,K=>J4 sz r fun l r'=>zS sz n r' fun es=>K (l::es)
theorem jV:∀ {n:Nat} {r:List AV} {K:List AV→Prop},th n r K→n≤r.length∧K (r.drop n)
 |0,_,_,h=>⟨Nat.zero_le _,h⟩
 |n+1,c::r,K,h=>by
  obtain⟨h1,h2⟩:=jV (n:=n) (r:=r) h
  exact⟨by simpa using h1,by simpa using h2⟩
 |_+1,[],_,h=>h.elim
theorem ti:∀ {n:Nat} {r:List AV} {K:List AV→List AV→Prop},J4 n r K→n≤r.length∧K (r.take n) (r.drop n)
 |0,_,_,h=>⟨Nat.zero_le _,h⟩
 |n+1,c::r,K,h=>by
  obtain⟨h1,h2⟩:=ti (n:=n) (r:=r) (K:=fun l r'=>K (c::l) r') h
  exact⟨by simpa using h1,by simpa using h2⟩
 |_+1,[],_,h=>h.elim
theorem mg {sz:Nat}:∀ {n:Nat} {r:List AV} {K:List (List AV)→Prop},zS sz n r K→n*sz≤r.length∧K (nQ sz n r)
 |0,_,_,h=>⟨by simp,h⟩
 |n+1,r,K,h=>by
  obtain⟨h1,h2⟩:=ti h
  obtain⟨h3,h4⟩:=mg (n:=n) (r:=r.drop sz) (K:=fun es=>K (r.take sz::es)) h2
  refine⟨?_,h4⟩
  rw[List.length_drop]at h3
  rw[Nat.add_mul,Nat.one_mul]; omega
def zU (R:Env) (F:bj) (sz:Nat):List (Nat × Sc)→List (List AV)→(List (List AV)→Prop)→Prop
 |[],es,K=>K es
 |(i,x)::r,es,K=>dx R F x fun v=>jU v fun vs=>v8 vs sz (J2 i vs es fun es'=>zU R F sz r es' K)
end Go.AM
namespace Go.AM
open Go.RowKit
variable {X:ct}
theorem fW {cs:List AV} {j n:Nat} (hj:j<cs.length) (hn:n ∈ (cs.getD j .bad).names):n ∈ AV.aD cs:=by
 induction cs generalizing j with
 |nil=>simp at hj
 |cons c cs ih=>
  simp only[AV.aD,List.mem_append]
  cases j with
  |zero=>left; simpa using hn
  |succ j=>right; exact ih (j:=j) (by simpa using hj) (by simpa using hn)
inductive Fz (D:Nat→Prop) (M:Mem):AV→AV→Prop
 |same (v:AV) (h:v.names=[]):Fz D M v v
 |an (sz:Nat):Fz D M .an (.aO sz [])
 |bh (n:Nat) (b:bu) (es:List (List AV)) (hD:D n) (hb:ae M n=some b) (hmp:b.mp=none) (hl:es.length=b.es.length) (hs:∀i,i<es.length→(es.getD i []).length=(b.es.getD i []).length)
   (h:∀i j,i<es.length→j<b.sz→Fz D M ((b.es.getD i []).getD j .bad) ((es.getD i []).getD j .bad)):Fz D M (.bh n b.es.length) (.aO b.sz es)
 |loc (n i off:Nat) (b:bu) (row:List AV) (hD:D n) (hb:ae M n=some b) (hmp:b.mp=none) (hi:i<b.es.length) (hl:row.length=(b.es.getD i []).length)
   (h:∀j,j<b.sz→Fz D M ((b.es.getD i []).getD j .bad) (row.getD j .bad)):Fz D M (.loc n b.es.length i off) (.bv row off)
 |bW (f:CO) (cs ds:List AV) (hl:ds.length=cs.length) (h:∀j,j<cs.length→Fz D M (cs.getD j .bad) (ds.getD j .bad)):Fz D M (.bW f cs) (.bW f ds)
 |agg (cs ds:List AV) (hl:ds.length=cs.length) (h:∀j,j<cs.length→Fz D M (cs.getD j .bad) (ds.getD j .bad)):Fz D M (.agg cs) (.agg ds)
 |aU (cs ds:List AV) (hl:ds.length=cs.length) (h:∀j,j<cs.length→Fz D M (cs.getD j .bad) (ds.getD j .bad)):Fz D M (.aU cs) (.aU ds)
theorem gk:∀ {cs:List AV},(∀j,j<cs.length→(cs.getD j .bad).names=[])→AV.aD cs=[]
 |[],_=>rfl
 |c::r,h=>by
  simp only[AV.aD,List.append_eq_nil_iff]
  exact⟨by simpa using h 0 (by simp),gk (fun j hj=>by simpa using h (j+1) (by simpa using hj))⟩
theorem Fz.names {D:Nat→Prop} {M:Mem} {v a:AV} (h:Fz D M v a):a.names=[]:=by
 induction h with
 |same v h=>exact h
 |an=>rfl
 |bh=>rfl
 |loc=>rfl
 |bW f cs ds hl h ih=>simp only[AV.names]; exact gk (fun j hj=>ih j (by omega))
 |agg cs ds hl h ih=>simp only[AV.names]; exact gk (fun j hj=>ih j (by omega))
 |aU cs ds hl h ih=>simp only[AV.names]; exact gk (fun j hj=>ih j (by omega))
theorem Fz.sound {D:Nat→Prop} {M:Mem} {ρ:Place} {I:Nat→Prop} {w:World} {N:Nat→Prop} (hW:cY X ρ I (ae M) N w) {v a:AV} (h:Fz D M v a):∀ {u:Value},aS ρ (lens (ae M)) I w N v u→
  aS cU fB (fun g=>I g∨∃n cap b,D n∧ae M n=some b∧ρ n=some (g,cap)) w cE a u:=by
 have E:kY N ρ (lens (ae M)) I w ρ (lens (ae M)) (fun g=>I g∨∃n cap b,D n∧ae M n=some b∧ρ n=some (g,cap)) w:=⟨fun _ _ _ _ _ _=>rfl,fun _ len _ _ h=>⟨len,h,Nat.le_refl _⟩,fun b hb=> .inl hb,fun _ _=>rfl⟩
 induction h with
 |same v h=>exact fun hr=>(hr.rZ E (fun _ h=>h)).alone h _ _
 |an sz=>
  intro u hr
  cases hr
  exact .cI _ _ _ (by simp[maxLen])
 |bh n b es hD hb hmp hl hs h ih=>
  intro u hr
  have dJ:lens (ae M) n=some (b.es.length,b.sz):=by rw[aH]; exact⟨b,hb,bu.db hmp,rfl⟩
  have B:=hW.bg n b hb
  obtain⟨hn,⟨h0,q,hv⟩|⟨g,cap,hρ,hv⟩⟩:=iT hr dJ
  ·have he:=B.dY h0
   rw[he]at hl
   have he':es=[]:=List.eq_nil_of_length_eq_zero (by simpa using hl)
   rw[hv,he']
   exact .cI _ _ _ (by simp[maxLen])
  ·obtain⟨cs,fr,hg,lX,pw,hown,hlc,lI,hcs,ke⟩:=B.real g cap hρ
   have hg:=hg.cells hmp
   rw[hv,←hl]
   refine .aO b.sz es g 0 cap (fun i j=>(cs[i*b.sz+j]?).getD undef) (by omega) lI (.inr ⟨n,cap,b,hD,hb,hρ⟩) (fun e he=> ?_) (fun i j hi hj=> ?_) (fun i j hi hj=> ?_) (fun i j hi hj=> ?_)
   ·obtain⟨i,hi,rfl⟩:=List.getElem_of_mem he
    have h1:=hs i hi
    have h2:es.getD i []=es[i]:=by simp[List.getD_eq_getElem?_getD,hi]
    have h3:b.es.getD i []=b.es[i]'(by omega):=by simp[List.getD_eq_getElem?_getD,show i<b.es.length by omega]
    rw[←h2,h1,h3]
    exact B.even _ (List.getElem_mem _)
   ·obtain⟨u,hu,h1,_⟩:=ke i j (by omega) hj
    rw[hu]; exact h1
   ·obtain⟨u,hu,h1,_⟩:=ke i j (by omega) hj
    simp only[World.cell?,hg,Nat.zero_add,hu]; rfl
   ·obtain⟨u,hu,h1,hr⟩:=ke i j (by omega) hj
    rw[hu]
    exact ih i j hi hj hr
 |loc n i off b row hD hb hmp hi hl h ih=>
  intro u hr
  have dJ:lens (ae M) n=some (b.es.length,b.sz):=by rw[aH]; exact⟨b,hb,bu.db hmp,rfl⟩
  have B:=hW.bg n b hb
  obtain⟨hn,g,cap,hρ,hv⟩:=fq hr dJ
  obtain⟨cs,fr,hg,lX,pw,hown,hlc,lI,hcs,ke⟩:=B.real g cap hρ
  have hg:=hg.cells hmp
  have hrow:(b.es.getD i []).length=b.sz:=by
   have h3:b.es.getD i []=b.es[i]:=by simp[List.getD_eq_getElem?_getD,hi]
   rw[h3]; exact B.even _ (List.getElem_mem _)
  rw[hv]
  refine .bv row off g (i*b.sz) (fun j=>(cs[i*b.sz+j]?).getD undef) (.inr ⟨n,cap,b,hD,hb,hρ⟩) (fun j hj=> ?_) (fun j hj=> ?_) (fun j hj=> ?_)
  ·obtain⟨u,hu,h1,_⟩:=ke i j hi (by omega)
   rw[hu]; exact h1
  ·obtain⟨u,hu,h1,_⟩:=ke i j hi (by omega)
   simp only[World.cell?,hg,hu]; rfl
  ·obtain⟨u,hu,h1,hr⟩:=ke i j hi (by omega)
   rw[hu]
   exact ih j (by omega) hr
 |bW f cs ds hl h ih=>
  intro u hr
  cases hr with
  |bW f _ vs hvl hr=>exact .bW f ds vs (by omega) (fun j hj=>ih j (by omega) (hr j (by omega)))
  |oE f _ vs hvl hr=>exact .oE f ds vs (by omega) (fun j hj=>ih j (by omega) (hr j (by omega)))
 |agg cs ds hl h ih=>
  intro u hr
  cases hr with
  |agg _ vs hvl h1 hr=>exact .agg ds vs (by omega) h1 (fun j hj=>ih j (by omega) (hr j (by omega)))
 |aU cs ds hl h ih=>
  intro u hr
  cases hr with
  |aU _ vs hvl hr=>exact .aU ds vs (by omega) (fun j hj=>ih j (by omega) (hr j (by omega)))
end Go.AM
namespace Go.AM
open Go.RowKit
variable {R:Env} {X:ct}
inductive Mt (D:Nat→Prop) (M M':Mem) (nx:Nat):AV→AV→Prop
 |same (v:AV):Mt D M M' nx v v
 |drop (v:AV):Mt D M M' nx v .bad
 |fz (v a:AV) (h:Fz D M v a):Mt D M M' nx v a
 |dY (n:Nat) (b:bu) (hb:ae M' n=some b) (he:b.es=[]) (hn:nx≤n):Mt D M M' nx .an (.bh n 0)
 |bW (f:CO) (cs ds:List AV) (hl:ds.length=cs.length) (h:∀j,j<cs.length→Mt D M M' nx (cs.getD j .bad) (ds.getD j .bad)):Mt D M M' nx (.bW f cs) (.bW f ds)
 |agg (cs ds:List AV) (hl:ds.length=cs.length) (h:∀j,j<cs.length→Mt D M M' nx (cs.getD j .bad) (ds.getD j .bad)):Mt D M M' nx (.agg cs) (.agg ds)
 |aU (cs ds:List AV) (hl:ds.length=cs.length) (h:∀j,j<cs.length→Mt D M M' nx (cs.getD j .bad) (ds.getD j .bad)):Mt D M M' nx (.aU cs) (.aU ds)
def aw (d d':Dn):Prop:=d'=d∨d'= .b false
@[refl] theorem aw.refl (d:Dn):aw d d:= .inl rfl
theorem aw.fg {d:Dn}:aw d (.b false):= .inr rfl
def IU (d d':Dn):Prop:=match d' with
 | .b x=>aw d (.b x)
 | .it _ _ _=>False
def yj (r:Dn→Dn→Prop) (m m':Option (Nat × Bool × Bool × Dn)):Prop:=match m,m' with
 |none,none=>True
 |some (k,ka,va,d),some (k',F3,F4,d')=>k=k'∧ka=F3∧va=F4∧r d d'
 |_,_=>False
theorem yj.refl (m:Option (Nat × Bool × Bool × Dn)):yj aw m m:=by
 rcases m with _|⟨k,ka,va,d⟩
 ·trivial
 ·exact⟨rfl,rfl,rfl,.inl rfl⟩
theorem yj.ln {r:Dn→Dn→Prop} {b b':bu} (h:yj r b.mp b'.mp) (hl:b.es.length=b'.es.length):b.ln=b'.ln:=by
 unfold bu.ln
 generalize b.mp=m at h ⊢
 generalize b'.mp=m' at h ⊢
 cases m<;>cases m'<;>first|exact h.elim|exact hl|rfl
theorem aw.all {d d':Dn} (h:aw d d') (ha:d'.all=true):d.all=true:=by
 rcases h with rfl|rfl
 ·exact ha
 ·exact Bool.noConfusion ha
theorem IU.le {d d':Dn} (h:IU d d'):aw d d':=by cases d'<;>first|exact h|exact False.elim h
theorem IU.all {d d':Dn} (h:IU d d') (ha:d'.all=true):d.all=true:=h.le.all ha
theorem IU.no {d:Dn} {r:Nat} {sn:List Bool} {la:Option Nat} (h:IU d (.it r sn la)):False:=h
theorem aw.it {d:Dn} {r:Nat} {sn:List Bool} {la:Option Nat} (h:aw d (.it r sn la)):d= .it r sn la:=by
 rcases h with h|h
 ·exact h.symm
 ·cases h
theorem eo.le {r:Dn→Dn→Prop} (hr:∀d d',r d d'→d'.all=true→d.all=true) {m m':Option (Nat × Bool × Bool × Dn)} {sz len ty:Nat} {o:Option Obj} {cs:Array Value} {fr:Nat × Nat} (h:eo m sz len o cs ty fr) (hm:yj r m m'):eo m' sz len o cs ty fr:=by
 rcases m with _|⟨k,ka,va,d⟩<;>rcases m' with _|⟨k',F3,F4,d'⟩
 ·exact h
 ·exact hm.elim
 ·exact hm.elim
 ·obtain⟨rfl,rfl,rfl,h4⟩:=hm
  obtain⟨en,ck,h1,h2,h3⟩:=h
  exact⟨en,ck,h1,h2,h3.key,h3.cell,h3.born,h3.clock,fun ha=>h3.den (hr _ _ h4 ha),h3.room⟩
structure IV (D:Nat→Prop) (M M':Mem) (nx:Nat) (b b':bu):Prop where
 ty:b.ty=b'.ty
 sz:b.sz=b'.sz
 mp:yj aw b.mp b'.mp
 len:b.es.length=b'.es.length
 row:∀i,i<b.es.length→(b.es.getD i []).length=(b'.es.getD i []).length
 cell:∀i j,i<b.es.length→j<b.sz→Mt D M M' nx ((b.es.getD i []).getD j .bad) ((b'.es.getD i []).getD j .bad)
theorem IV.ln {D:Nat→Prop} {M M':Mem} {nx:Nat} {b b':bu} (h:IV D M M' nx b b'):b.ln=b'.ln:=h.mp.ln h.len
def Uy (nx:Nat) (b:bu):Prop:=∀e ∈ b.es,AV.fh (· <nx) e
structure Wk (X:ct) (S S':St):Prop where
 p:X.p≤S'.nx
 F:∀i,look S'.F i= .bad∨(Mt (fun n=>X.p≤n∧ae S'.M n=none) S.M S'.M S.nx (look S.F i) (look S'.F i)∧(S.nx≤S'.nx∨(look S'.F i).under (· <S'.nx)))
 M:∀n b',ae S'.M n=some b'→((∃b,ae S.M n=some b∧IV (fun n=>X.p≤n∧ae S'.M n=none) S.M S'.M S.nx b b')∧(S.nx≤S'.nx∨(n<S'.nx∧Uy S'.nx b')))∨(ae S.M n=none∧S.nx≤n∧n<S'.nx∧b'.es=[]∧b'.mp=none)
def ly (S:St) (ρ:Place):Place:=fun n=>if S.nx≤n then none else ρ n
def Oz (X:ct) (S S':St) (ρ:Place) (I:Nat→Prop):Nat→Prop:=fun g=>I g∨∃n cap b,(X.p≤n∧ae S'.M n=none)∧ae S.M n=some b∧ρ n=some (g,cap)
theorem uM {S S':St} (h:Wk X S S') {w:World} {ρ:Place} {I:Nat→Prop} (W:cY X ρ I (ae S.M) (· <S.nx) w):
  cY X (ly S ρ) (Oz X S S' ρ I) (ae S'.M) (· <S'.nx) w∧∀v a u,aS ρ (lens (ae S.M)) I w (· <S.nx) v u→Mt (fun n=>X.p≤n∧ae S'.M n=none) S.M S'.M S.nx v a→(S.nx≤S'.nx∨a.under (· <S'.nx))→aS (ly S ρ) (lens (ae S'.M)) (Oz X S S' ρ I) w (· <S'.nx) a u:=by
 obtain⟨hp,hF,hM⟩:=h
 let D:Nat→Prop:=fun n=>X.p≤n∧ae S'.M n=none
 let ρ':Place:=ly S ρ
 let I':Nat→Prop:=Oz X S S' ρ I
 have hlt:∀n b,ae S.M n=some b→n<S.nx:=fun n b h=>(W.bg n b h).lt
 have OA:∀n len sz,n<S.nx→lens (ae S'.M) n=some (len,sz)→lens (ae S.M) n=some (len,sz):=by
  intro n len sz hn hl
  obtain⟨b',hb',rfl,rfl⟩:=aH.1 hl
  rcases hM n b' hb' with⟨⟨b,hb,hB⟩,_⟩|⟨_,h2,_⟩
  ·exact aH.2 ⟨b,hb,hB.ln,hB.sz⟩
  ·omega
 have E:kY (· <S.nx) ρ (lens (ae S.M)) I w ρ' (lens (ae S'.M)) I' w:=by
  refine⟨fun n _ _ hn _ _=> ?_,fun n len sz hn h=>⟨len,OA n len sz hn h,Nat.le_refl _⟩,fun b hb=> .inl hb,fun _ _=>rfl⟩
  have:¬S.nx≤n:=by have:n<S.nx:=hn; omega
  simp[ρ',ly,this]
 have rM:∀v a,Mt D S.M S'.M S.nx v a→∀u,aS ρ (lens (ae S.M)) I w (· <S.nx) v u→aS ρ' (lens (ae S'.M)) I' w (fun _=>True) a u:=by
  intro v a hm
  induction hm with
  |same v=>exact fun u hr=>(hr.rZ E (fun _ h=>h)).wide (fun _ _=>trivial)
  |drop v=>exact fun u _=> .bad u
  |fz v a h=>exact fun u hr=>((h.sound W hr).bare (fun _ h=>h) _ _).wide (fun _ h=>h.elim)
  |dY n b hb he hn=>
   intro u hr
   cases hr
   refine .bh n 0 _ trivial rfl fun l sz hl=> ?_
   obtain⟨b',hb',rfl,rfl⟩:=aH.1 hl
   rw[hb]at hb'
   cases hb'
   rw[bu.CS he]
   exact⟨Nat.le_refl _,fun _=> .inl ⟨by simp[ρ',ly,hn],none,rfl⟩⟩
  |bW f cs ds hl h ih=>
   intro u hr
   cases hr with
   |bW f _ vs hvl hr=>exact .bW f ds vs (by omega) (fun j hj=>ih j (by omega) _ (hr j (by omega)))
   |oE f _ vs hvl hr=>exact .oE f ds vs (by omega) (fun j hj=>ih j (by omega) _ (hr j (by omega)))
  |agg cs ds hl h ih=>
   intro u hr
   cases hr with
   |agg _ vs hvl h1 hr=>exact .agg ds vs (by omega) h1 (fun j hj=>ih j (by omega) _ (hr j (by omega)))
  |aU cs ds hl h ih=>
   intro u hr
   cases hr with
   |aU _ vs hvl hr=>exact .aU ds vs (by omega) (fun j hj=>ih j (by omega) _ (hr j (by omega)))
 have bound:∀v a,Mt D S.M S'.M S.nx v a→(∀m ∈ v.names,m<S.nx)→S.nx≤S'.nx→∀m ∈ a.names,m<S'.nx:=by
  intro v a hm
  induction hm with
  |same v=>exact fun h hle m hm=>by have:=h m hm; omega
  |drop v=>intro _ _ m hm; simp[AV.names]at hm
  |fz v a h=>intro _ _ m hm; rw[h.names]at hm; simp at hm
  |dY n b hb he hn=>
   intro _ hle m hm
   simp[AV.names]at hm
   subst hm
   rcases hM m b hb with⟨⟨b0,hb0,_⟩,_⟩|⟨_,_,h,_⟩
   ·have:=hlt m b0 hb0; omega
   ·exact h
  |bW f cs ds hl h ih=>
   intro hv hle m hm
   simp only[AV.names]at hm
   obtain⟨j,hj,Da⟩:=dr hm
   exact ih j (by omega) (fun m hm=>hv m (by simp only[AV.names]; exact fW (by omega) hm)) hle m Da
  |agg cs ds hl h ih=>
   intro hv hle m hm
   simp only[AV.names]at hm
   obtain⟨j,hj,Da⟩:=dr hm
   exact ih j (by omega) (fun m hm=>hv m (by simp only[AV.names]; exact fW (by omega) hm)) hle m Da
  |aU cs ds hl h ih=>
   intro hv hle m hm
   simp only[AV.names]at hm
   obtain⟨j,hj,Da⟩:=dr hm
   exact ih j (by omega) (fun m hm=>hv m (by simp only[AV.names]; exact fW (by omega) hm)) hle m Da
 have low:∀v a u,aS ρ (lens (ae S.M)) I w (· <S.nx) v u→Mt D S.M S'.M S.nx v a→(S.nx≤S'.nx∨a.under (· <S'.nx))→aS ρ' (lens (ae S'.M)) I' w (· <S'.nx) a u:=by
  intro v a u hr hm h
  refine (rM v a hm u hr).low ?_
  rcases h with h|h
  ·exact fD a (fun m hm'=>bound v a hm (fun m hm=>jv hr m hm) h m hm')
  ·exact h
 refine⟨⟨fun n b' hb'=> ?_,fun n m b b' g c c' hb hb' h1 h2=> ?_,fun g hg=> .inl (W.nN g hg),?_,?_,W.keeps,fun n hn=>by show n<S'.nx; omega,W.CR,W.k6 E⟩,low⟩
 ·rcases hM n b' hb' with⟨⟨b,hb,hB⟩,hu⟩|⟨h0,h1,hn,h2,hmn⟩
  ·have B:=W.bg n b hb
   have hnlt:=hlt n b hb
   have hn:n<S'.nx:=by rcases hu with h|h<;>omega
   have hu:S.nx≤S'.nx∨Uy S'.nx b':=hu.imp id (fun h=>h.2)
   have yk:ly S ρ n=ρ n:=by simp only[ly]; rw[if_neg (by omega)]
   refine⟨hn,fun e he=> ?_,fun h0=> ?_,fun g cap hρ=> ?_,fun k ka va r sn la hb'=> ?_⟩
   rotate_right
   ·have hmp:=hB.mp
    rw[hb']at hmp
    obtain⟨k0,NK,NM,d0,Uz⟩:∃k0 NK NM d0,b.mp=some (k0,NK,NM,d0):=by
     cases hm:b.mp with
     |none=>rw[hm]at hmp; exact hmp.elim
     |some q=>exact⟨_,_,_,_,rfl⟩
    rw[Uz]at hmp
    obtain⟨_,_,_,h4⟩:=hmp
    rw[h4.it]at Uz
    obtain⟨g,cap,hρ,i1,i2,i3⟩:=B.iter _ _ _ _ _ _ Uz
    refine⟨g,cap,by rw[yk]; exact hρ,i1,?_,i3⟩
    rintro (h|⟨m,c',bm,⟨_,UA⟩,OB,J5⟩)
    ·exact i2 h
    ·obtain⟨_,_,_,_,_,k2,_⟩:=i3
     obtain⟨_,_,hc1,_⟩:=(W.bg m bm OB).real _ c' J5
     exact hc1.p8 k2
   ·obtain⟨i,hi,rfl⟩:=List.getElem_of_mem he
    have h1:i<b.es.length:=by have:=hB.len; omega
    have h3:=hB.row i h1
    have h4:=B.even b.es[i] (List.getElem_mem _)
    rw[List.getD_eq_getElem?_getD,List.getD_eq_getElem?_getD,List.getElem?_eq_getElem hi,List.getElem?_eq_getElem h1,Option.getD_some,Option.getD_some]at h3
    have:=hB.sz
    omega
   ·rw[yk]at h0
    have h3:=B.dY h0
    have:=hB.len
    rw[h3]at this
    exact List.eq_nil_of_length_eq_zero (by simpa using this.symm)
   ·rw[yk]at hρ
    obtain⟨cs,fr,hg,lX,pw,hown,hlc,lI,hcs,ke⟩:=B.real g cap hρ
    have e1:=hB.len
    have e2:=hB.sz
    refine⟨cs,fr,by rw[←hB.ty,←hB.sz,←hB.len]; exact hg.le (fun _ _ h=>h.all) hB.mp,lX,?_,hown,by omega,lI,by rw[←hB.sz]; exact hcs,fun i j hi hj=> ?_⟩
    ·rintro (h|⟨m,c',bm,⟨_,UA⟩,OB,J5⟩)
     ·exact pw h
     ·have:=W.inj n m b bm g cap c' hb OB hρ J5
      subst this
      rw[hb']at UA; simp at UA
    ·obtain⟨u,nK,Dt,hr⟩:=ke i j (by omega) (by omega)
     refine⟨u,by rw[←hB.sz]; exact nK,Dt,?_⟩
     refine low _ _ _ hr (hB.cell i j (by omega) (by omega)) ?_
     rcases hu with hu|hu
     ·exact .inl hu
     ·right
      have xQ:b'.es.getD i [] ∈ b'.es:=by
       rw[List.getD_eq_getElem?_getD,List.getElem?_eq_getElem hi,Option.getD_some]; exact List.getElem_mem _
      have hel:(b'.es.getD i []).length=b.sz:=by
       rw[←hB.row i (by omega),List.getD_eq_getElem?_getD,List.getElem?_eq_getElem (show i<b.es.length by omega),Option.getD_some]
       exact B.even _ (List.getElem_mem _)
      exact AV.eR _ _ (hu _ xQ) (by omega)
  ·refine⟨hn,fun e he=>by rw[h2]at he; simp at he,fun _=>h2,fun g cap hρ=> ?_,fun _ _ _ _ _ _ h=>by rw[hmn]at h; cases h⟩
   change ly S ρ n=_ at hρ
   simp only[ly,if_pos h1]at hρ
   simp at hρ
 ·have o1:S.nx≤n→False:=fun h=>by simp only[ly,if_pos h]at h1; simp at h1
  have o2:S.nx≤m→False:=fun h=>by simp only[ly,if_pos h]at h2; simp at h2
  have e1:ρ n=some (g,c):=by simpa[ly,show ¬S.nx≤n from o1]using h1
  have e2:ρ m=some (g,c'):=by simpa[ly,show ¬S.nx≤m from o2]using h2
  rcases hM n b hb with⟨⟨b0,hb0,_⟩,_⟩|⟨_,h,_⟩
  ·rcases hM m b' hb' with⟨⟨b1,we,_⟩,_⟩|⟨_,h,_⟩
   ·exact W.inj n m b0 b1 g c c' hb0 we e1 e2
   ·exact (o2 h).elim
  ·exact (o1 h).elim
 ·rintro g (hg|⟨n,cap,b,_,hb,hρ⟩)
  ·exact W.lt g hg
  ·obtain⟨cs,fr,hc,_⟩:=(W.bg n b hb).real g cap hρ
   exact hc.lt
 ·rintro g hg (h|⟨n,cap,b,⟨Gm,_⟩,hb,hρ⟩)
  ·exact W.old g hg h
  ·obtain⟨cs,fr,hc,_,_,hown,_⟩:=(W.bg n b hb).real g cap hρ
   rcases hown with⟨h,_⟩|h
   ·exact absurd h (Nat.not_lt.2 Gm)
   ·exact absurd hg (Nat.not_lt.2 h)
theorem IW {S S':St} (h:Wk X S S') {a:Act} {w:World} {ρ:Place} {I:Nat→Prop} (W:cY X ρ I (ae S.M) (· <S.nx) w) (F:js ρ I w X S a):
  cY X (ly S ρ) (Oz X S S' ρ I) (ae S'.M) (· <S'.nx) w∧js (ly S ρ) (Oz X S S' ρ I) w X S' a:=by
 obtain⟨h1,low⟩:=uM h W
 refine⟨h1,fun i=> ?_,F.defers.mono (fun g hg=> .inl hg),F.size⟩
 rcases h.F i with h|⟨hm,hu⟩
 ·rw[h]; exact .bad _
 ·exact low _ _ _ (F.rep i) hm hu
theorem yn {S S':St} (h:Wk X S S') {a:Act} {w:World} (hS:iJ X S a w):iJ X S' a w:=by
 obtain⟨ρ,I,W,F⟩:=hS
 obtain⟨W',F'⟩:=IW h W F
 exact⟨_,_,W',F'⟩
end Go.AM
namespace Go.AM
open Go.RowKit
def eh (a b:Bool):Bool:=match a,b with
 |true,true=>true
 |false,false=>true
 |_,_=>false
theorem cV {a b:Bool} (h:eh a b=true):a=b:=by cases a<;>cases b<;>simp_all[eh]
structure GD (es:List (List AV)) (len i:Nat) (K:List AV→Prop):Prop where
 len:es.length=len
 h:K (es.getD i [])
structure YJ (ag:Bool) (m sz:Nat) (cs:List AV) (j:Int) (K:AV→Prop):Prop where
 lt:0≤j∧j< (m:Int)
 h:apart ag sz (j.toNat*sz) cs K
structure uN {α:Type} (xs:List α) (K:List α→Prop):Prop where
 h:K xs
structure OC (es:List (List AV)) (K:Nat→Prop):Prop where
 h:K es.length
structure YK (es:List (List AV)) (ca:Nat) (K:List AV→Nat→Prop):Prop where
 h:K ((es.take ca).flatten) (min es.length ca)
structure Ta (a b:Int) (K:Nat→Prop):Prop where
 h:(0≤a∧a≤1073741824∧a=b)∧K a.toNat
structure OD (es:List (List AV)) (K:List UInt8→Prop):Prop where
 h:∃s:List UInt8,es=s.map (fun c=>[AV.int .u8 c.toNat])∧K s
structure DA {α:Type} (es:List α) (Y N:Prop):Prop where
 y:es=[]→Y
 n:N
structure qD (R:Env) (X:ct) (f:Nat) (args:List AV) (F:bj) (M:aj) (nx:Nat) (d:Option Nat) (K:KS):Prop where
 body:cx R.P f
 h:∃av ws nw bp M',oF R.P X f args (ae (aC M)) av ws nw∧(nx≤bp∧∀n ∈ nw,nx≤n∧n<bp)∧ae (aC M')=ae (cL (aC M) ws)∧aP d av F M' bp K
structure kG (R:Env) (X:ct) (f:Nat) (args:List AV) (F:bj) (M:aj) (nx:Nat) (d:Option Nat) (K:KS):Prop where
 body:cx R.P f
 h:∃F' M' bp,K F' M' bp∧∀ρ I (a:Act) w vs,(∀x,d=some x→x<X.size)→cY X ρ I (ae (aC M)) (· <nx) w→js ρ I w X ⟨F,aC M,nx⟩ a→dp ρ (lens (ae (aC M))) I w (· <nx) args vs→
  Calls R.P f vs.toArray w fun e w1=>∃v,e= .returned v∧iJ X ⟨F',aC M',bp⟩ (a.put d v) w1
structure qE (R:Env) (X:ct) (f:Nat) (args:List AV) (F:bj) (M:aj) (nx:Nat) (d:Option Nat) (K:KS):Prop where
 body:cx R.P f
 h:∃av ws nw bp M',oF R.P X f args (ae (aC M)) av ws nw∧(∀p ∈ ws,p.1 ∈ nw)∧(nx≤bp∧∀n ∈ nw,nx≤n∧n<bp)∧ae (aC M')=ae (cL (aC M) ws)∧aP d av F M' bp K
def uO:aj→Nat→List Nat
 |[],_=>[]
 |(m,b)::r,n=>bif Nat.beq n m then (match b with
  | .var _ row=>AV.aD row
  | .arr _ _ _=>[]
  | .map .. =>[])else uO r n
def wg (M:aj):List Nat→List Nat
 |[]=>[]
 |n::r=>n::(uO M n++wg M r)
structure qF (R:Env) (X:ct) (f:Nat) (args:List AV) (F:bj) (M:aj) (nx:Nat) (d:Option Nat) (K:KS):Prop where
 body:cx R.P f
 h:∃av ws nw bp M',IC R.P X f args (wg M (AV.aD args)) (ae (aC M)) av ws nw∧(nx≤bp∧∀n ∈ nw,nx≤n∧n<bp)∧ae (aC M')=ae (cL (aC M) ws)∧aP d av F M' bp K
def DB (P:Program) (f:Nat) (args:List AV) (av:AV):Prop:=
 ∀ (ρ:Place) (L:bn) (I:Nat→Prop) (N:Nat→Prop) (w:World) (vs:List Value),dp ρ L I w N args vs→∃v,(callFunc f vs.toArray).run P w= .ok (.value v) w∧aS ρ L I w N av v
structure qG (R:Env) (f:Nat) (args:List AV) (F:bj) (M:aj) (nx:Nat) (d:Option Nat) (K:KS):Prop where
 h:∃av,DB R.P f args av∧aP d av F M nx K
def GF (P:Program) (l:Nat) (vs:List Value) (w:World) (Q:World→Prop):Prop:=
 ∃r:Loop,w.heap[l]? =some (.loop r)∧vs.length=r.params.size∧∀c cs,∃w',Q w'∧
  Steps P (lone (Frame.round l r.fn ((r.params.zip vs.toArray).foldl (fun t (q,v)=>t.setIfInBounds q v) r.tmps) r.assign r.body .normal) (c::cs) w) (lone (c.finish (.bool true)) cs w')
structure qH (R:Env) (X:ct) (l:Nat) (tm:List Value) (aW args:List AV) (F:bj) (M:aj) (nx:Nat) (d:Option Nat) (K:KS):Prop where
 h:∃F' M' bp,K F' M' bp∧∀ρ I (a:Act) w vs,(∀x,d=some x→x<X.size)→cY X ρ I (ae (aC M)) (· <nx) w→js ρ I w X ⟨F,aC M,nx⟩ a→dp ρ (lens (ae (aC M))) I w (· <nx) args vs→
  dp ρ (lens (ae (aC M))) I w (· <nx) aW tm→GF R.P l vs w fun w1=>iJ X ⟨F',aC M',bp⟩ (a.put d (.bool true)) w1
structure aq (R:Env) (X:ct) (lo:Bool) (f:Nat) (args:List AV) (F:bj) (M:aj) (nx:Nat) (d:Option Nat) (K:KS):Prop where
 h:qD R X f args F M nx d K∨(lo=false∧kG R X f args F M nx d K)
def zV (v:AV) (X Y:Prop):Prop:=
 match v with
 | .bool t=>True→pF t X Y
 |_=>False
def jW (M:aj) (n len:Nat) (K:bN→Prop):Prop:=
 c9 M n fun b=>match b with
  | .var ty row=>bif Nat.beq len 1 then K (.var ty row)else False
  | .arr ty sz es=>True→es.length=len∧K (.arr ty sz es)
  | .map .. =>False
def zW (ag:Bool) (n:Nat) (v:AV) (M:aj) (K:AV→Prop):Prop:=
 match v with
 | .loc nm len i off=>c9 M nm fun b=>match b with
   | .var _ row=>bif Nat.beq len 1 then (bif Nat.beq i 0 then qB ag n off row K else False)else False
   | .arr _ _ es=>True→GD es len i fun row=>qB ag n off row K
   | .map .. =>False
 | .bv e off=>qB ag n off e K
 |_=>False
def DC (a:AV) (cs:List AV) (M:aj) (K:aj→Prop):Prop:=
 match a with
 | .loc nm len i off=>c9 M nm fun b=>match b with
   | .var ty row=>bif Nat.beq len 1 then (bif Nat.beq i 0 then jT off cs row fun row'=>gv M nm (.var ty row') K else False)else False
   | .arr ty sz es=>True→GD es len i fun row=>jT off cs row fun row'=>gv M nm (.arr ty sz (es.set i row')) K
   | .map .. =>False
 |_=>False
def jk (k k':IntKind) (X:Prop):Prop:=bif pQ k k' then X else False
def J6 (op:BinOp) (v u:AV) (K:AV→Prop):Prop:=
 match v,u with
 | .int k a,.int k' b=>
   match op with
   | .shl=>True→0≤b∧K (.int k (qb k a b))
   | .shr=>True→0≤b∧K (.int k (fi k a b))
   | .add=>jk k k' (True→F6 k (a+b) fun m=>K (.int k m))
   | .sub=>jk k k' (True→F6 k (a - b) fun m=>K (.int k m))
   | .mul=>jk k k' (True→F6 k (a*b) fun m=>K (.int k m))
   | .quo=>jk k k' (True→b≠0∧(True→F6 k (a.tdiv b) fun m=>K (.int k m)))
   | .rem=>jk k k' (True→b≠0∧K (.int k (a.tmod b)))
   | .and=>jk k k' (K (.int k (eE .and k a b)))
   | .or=>jk k k' (K (.int k (eE .or k a b)))
   | .xor=>jk k k' (K (.int k (eE .xor k a b)))
   | .andNot=>jk k k' (K (.int k (eE .andNot k a b)))
   | .eql=>jk k k' (K (.bool (a==b)))
   | .neq=>jk k k' (K (.bool (a != b)))
   | .lss=>jk k k' (K (.bool (decide (a<b))))
   | .leq=>jk k k' (K (.bool (decide (a≤b))))
   | .gtr=>jk k k' (K (.bool (decide (a>b))))
   | .geq=>jk k k' (K (.bool (decide (a≥b))))
 |_,_=>False
def J7 (l:LK) (a b:AV) (K:Bool→Prop):Prop:=
 match l,a,b with
 | .i,.int k x,.int k' y=>bif pQ k k' then K (x==y)else False
 | .b,.bool x,.bool y=>K (x==y)
 | .s,.str x,.str y=>K (x==y)
 |_,_,_=>False
def Bj:List LK→List AV→List AV→(Bool→Prop)→Prop
 |l::r,a::as,b::bs,K=>J7 l a b fun t=>(match r with
  |[]=>Bj r as bs fun _=>K t
  |_=>Bj r as bs fun u=>K (t&&u))
 |[],[],[],K=>K true
 |_,_,_,_=>False
def UB (neg:Bool) (K:AV→Prop) (r:Bool):Prop:=
 match neg with
 |true=>K (.bool !r)
 |false=>K (.bool r)
def OE (op:BinOp) (a b:List UInt8) (K:AV→Prop):Prop:=
 match op with
 | .add=>True→(a.length+b.length≤9223372036854775807)∧K (.str (a++b))
 | .eql=>K (.bool (a==b))
 | .neq=>K (.bool !(a==b))
 | .lss=>K (.bool (Op.bytesLess a b))
 | .leq=>K (.bool (Op.bytesLess a b||a==b))
 | .gtr=>K (.bool !(Op.bytesLess a b||a==b))
 | .geq=>K (.bool !(Op.bytesLess a b))
 |_=>False
def UC (op:UnOp) (v:AV) (K:AV→Prop):Prop:=
 match op,v with
 | .neg,.int k n=>True→F6 k (0 - n) fun m=>K (.int k m)
 | .xor,.int k n=>K (.int k (eE .xor k (if k.signed then -1 else k.max) n))
 | .not,.bool b=>K (.bool !b)
 |_,_=>False
def DD (sz:Nat) (v ix:AV) (M:aj) (K:AV→Prop):Prop:=
 match ix with
 | .int _ j=>(match v with
   | .aO s es=>bif Nat.beq s sz then (True→(0≤j∧j<es.length)∧(True→Ox es j.toNat fun row=>K (.bv row 0)))else False
   | .bh nm len=>c9 M nm fun b=>(match b with
     | .arr _ s es=>bif Nat.beq s sz then (True→(es.length=len∧0≤j∧j<len)∧K (.loc nm len j.toNat 0))else False
     | .var .. =>False
     | .map .. =>False)
   | .dP nm len i off ca=>jW M nm len fun _=>True→Oy j ca fun c=>K (.loc nm len i (off+c*sz))
   |_=>False)
 |_=>False
def DE (m sz:Nat) (v ix:AV) (M:aj) (K:AV→Prop):Prop:=
 match ix with
 | .int _ j=>(match v with
   | .loc nm len i off=>jW M nm len fun _=>True→Oy j m fun c=>K (.loc nm len i (off+c*sz))
   | .bv row off=>True→Oy j m fun c=>K (.bv row (off+c*sz))
   |_=>False)
 |_=>False
def Tc (mx:Bool) (k:IntKind) (a:Int):List AV→(AV→Prop)→Prop
 |[],K=>K (.int k a)
 | .int _ b::r,K=>(match mx with
   |true=>Tc mx k (max a b) r K
   |false=>Tc mx k (min a b) r K)
 |_,_=>False
def YL (mx:Bool) (as:List AV) (K:AV→Prop):Prop:=
 match as with
 | .int k a::r=>Tc mx k a r K
 |_=>False
def tj (sz:Nat) (x:AV) (M:aj) (K:List (List AV)→Prop):Prop:=
 match x with
 | .aO s es=>bif Nat.beq s sz then K es else False
 | .an=>K []
 | .bh n len=>c9 M n fun b=>(match b with
   | .arr _ s es=>bif Nat.beq s sz then (True→es.length=len∧K es)else False
   | .var .. =>False
   | .map .. =>False)
 | .dP n len i off ca=>c9 M n fun b=>(match b with
   | .var _ row=>bif Nat.beq len 1 then (bif Nat.beq i 0 then (bif Nat.beq sz 0 then False else th off row fun r=>zS sz ca r K)else False)else False
   | .arr .. =>False
   | .map .. =>False)
 |_=>False
def IX (sz:Nat) (v:AV) (M:aj) (src:(List (List AV)→Prop)→Prop) (K:Nat→aj→Prop):Prop:=
 match v with
 | .dP n len i off ca=>c9 M n fun b=>(match b with
   | .var ty row=>bif Nat.beq len 1 then (bif Nat.beq i 0 then (bif Nat.ble (off+ca*sz) row.length then src fun xs=>True→YK xs ca fun vs k=>jT off vs row fun row'=>gv M n (.var ty row') fun M'=>K k M' else False)else False)else False
   | .arr .. =>False
   | .map .. =>False)
 |_=>False
def yo (x:AV) (K:List (List AV)→Prop):Prop:=
 match x with
 | .str s=>K (s.map fun c=>[.int .u8 c.toNat])
 |_=>False
def DF (ty sz:Nat) (s:AV) (src:(List (List AV)→Prop)→Prop) (M:aj) (nx:Nat) (K:AV→aj→Nat→Prop):Prop:=
 match s with
 | .bh n len=>c9 M n fun b=>(match b with
   | .arr t z es=>bif Nat.beq z sz then (True→(t=ty∧es.length=len)∧src fun xs=>True→es.length+xs.length≤1073741824∧gv M n (.arr t z (es++xs)) fun M'=>K (.bh n (es++xs).length) M' nx)else False
   | .var .. =>False
   | .map .. =>False)
 | .an=>src fun xs=>True→xs.length≤1073741824∧K (.bh nx xs.length) ((nx,.arr ty sz xs)::M) (nx+1)
 |_=>False
def IY (ty sz:Nat) (z:List AV) (s x:AV) (M:aj) (nx:Nat) (K:AV→aj→Nat→Prop):Prop:=
 match x with
 | .int _ m=>(match s with
   | .bh n len=>c9 M n fun b=>(match b with
     | .arr t q es=>bif Nat.beq q sz then (True→(t=ty∧es.length=len)∧(True→Ta m m fun k=>True→es.length+k≤1073741824∧gv M n (.arr t q (es++List.replicate k z)) fun M'=>K (.bh n (es++List.replicate k z).length) M' nx))else False
     | .var .. =>False
     | .map .. =>False)
   | .an=>True→Ta m m fun k=>K (.bh nx k) ((nx,.arr ty sz (List.replicate k z))::M) (nx+1)
   |_=>False)
 |_=>False
def DG (sz:Nat) (v:AV) (lo hi mx:Option AV) (K:AV→Prop):Prop:=
 match v with
 | .aO s es=>bif Nat.beq s sz then (match lo,hi,mx with
   |none,some (.int _ h),none=>True→(0≤h∧h≤es.length)∧(True→uN (es.take h.toNat) fun xs=>K (.aO sz xs))
   |some (.int _ l),none,none=>True→(0≤l∧l≤es.length)∧(True→uN (es.drop l.toNat) fun xs=>K (.aO sz xs))
   |some (.int _ l),some (.int _ h),none=>True→(0≤l∧l≤h∧h≤es.length)∧(True→uN ((es.take h.toNat).drop l.toNat) fun xs=>K (.aO sz xs))
   |none,some (.int _ h),some (.int _ m)=>True→(0≤h∧h≤m∧m≤es.length)∧(True→uN (es.take h.toNat) fun xs=>K (.aO sz xs))
   |_,_,_=>False)else False
 |_=>False
def DH (v:AV) (lo hi:Option AV) (K:AV→Prop):Prop:=
 match v with
 | .str s=>(match lo,hi with
   |none,some (.int _ h)=>True→(0≤h∧h≤s.length)∧(True→uN (s.take h.toNat) fun xs=>K (.str xs))
   |some (.int _ l),none=>True→(0≤l∧l≤s.length)∧(True→uN (s.drop l.toNat) fun xs=>K (.str xs))
   |some (.int _ l),some (.int _ h)=>True→(0≤l∧l≤h∧h≤s.length)∧(True→uN ((s.take h.toNat).drop l.toNat) fun xs=>K (.str xs))
   |_,_=>False)
 |_=>False
def DI (v:AV) (M:aj) (K:AV→Prop):Prop:=
 match v with
 | .aO _ es=>True→OC es fun n=>K (.int .i64 n)
 | .bh n len=>jW M n len fun _=>K (.int .i64 len)
 | .dP n len _ _ ca=>jW M n len fun _=>K (.int .i64 ca)
 | .an=>K (.int .i64 0)
 |_=>False
def J8:Nat→List AV→(AV→Prop)→Prop
 |0,v::_,K=>K v
 |n+1,_::r,K=>J8 n r K
 |_,[],_=>False
structure J9 (ls:List LK) (kc:List AV) (es:List (List AV)) (K:Option (Nat × List AV)→Prop):Prop where
 ok:∀r ∈ es,dE ls kc r=true
 h:K (cg kc es)
structure YM (kc:List AV) (es:List (List AV)) (K:AV→Prop):Prop where
 g:∀r ∈ es,iL r=true
 h:K (AQ (cg kc es))
structure Z' (kc:List AV) (es:List (List AV)) (K:Option (Nat × List AV)→Prop):Prop where
 g:∀r ∈ es,iL r=true
 h:K (cg kc es)
structure AEn (es:List (List AV)) (j:Int) (K:Nat→List AV→Prop):Prop where
 h:∃ (i:Nat) (r:List AV),j=i∧es[i]? =some r∧K i r
structure IRg (K:Nat→Prop):Prop where
 h:∀r,K r
structure INx (r r':Nat) (es:List (List AV)) (sn:List Bool) (Y:Prop) (K:Nat→Prop):Prop where
 e:r'=r
 fin:(∀q ∈ sn,q=true)→sn.length=es.length→Y
 go:∀i row,es[i]? =some row→sn[i]? =some false→sn.length=es.length→K i
structure IEt (r r':Nat) (la:Option Nat) (es:List (List AV)) (K:List AV→Prop):Prop where
 h:r'=r∧∃i row,la=some i∧es[i]? =some row∧K row
def J' (q:Option (Nat × List AV)) (es:List (List AV)) (dn:Dn) (K:List (List AV)→Dn→Prop):Prop:=
 match q with
 |some q=>K (es.eraseIdx q.1) (dn.dl q.1)
 |none=>K es dn.up
def yp (ls:List LK) (ag:Bool) (u:AV) (K:List AV→Prop):Prop:=jU u fun kc=>bif eh u.iN ag&&Nat.beq kc.length ls.length&&dE ls kc kc then K kc else False
def yq (va:Bool) (l:List AV) (K:AV→Prop):Prop:=
 match va with
 |true=>K (.agg l)
 |false=>match l with
  |c::_=>K c
  |[]=>False
def OF (ok va:Bool) (z:AV) (q:Option (Nat × List AV)) (K:AV→Prop):Prop:=
 match q with
 |some q=>yq va q.2 fun v=>(match ok with
  |true=>K (.aU [v,.bool true])
  |false=>K v)
 |none=>(match ok with
  |true=>K (.aU [z,.bool false])
  |false=>K z)
def Ka (q:Option (Nat × List AV)) (es:List (List AV)) (r:List AV) (K:List (List AV)→Prop):Prop:=
 match q with
 |some q=>K (es.set q.1 r)
 |none=>K (es++ [r])
def GG (va:Bool) (z:AV) (q:Option (Nat × List AV)) (es:List (List AV)) (kc zs:List AV) (K:AV→Nat→List (List AV)→Prop):Prop:=
 match q with
 |some q=>yq va q.2 fun v=>K v q.1 es
 |none=>K z es.length (es++ [kc++zs])
def yr (ls:List LK) (ag va:Bool) (v:AV) (M:aj) (K:Nat→Dn→Nat→List (List AV)→Prop):Prop:=
 match v with
 | .omap n=>c9 M n fun b=>(match b with
   | .map k ka vb dn sz es=>bif Nat.beq k ls.length&&eh ka ag&&eh vb va&&Nat.blt k sz then K n dn sz es else False
   | .arr .. =>False
   | .var .. =>False)
 |_=>False
def zX (v:AV) (M:aj) (K:Nat→Nat→Bool→Bool→Dn→Nat→List (List AV)→Prop):Prop:=
 match v with
 | .omap n=>c9 M n fun b=>(match b with
   | .map k ka va dn sz es=>K n k ka va dn sz es
   | .arr .. =>False
   | .var .. =>False)
 |_=>False
def Td (v:AV) (M:aj) (K:Nat→Nat→Nat→Bool→Bool→Nat→List Bool→Option Nat→Nat→List (List AV)→Prop):Prop:=
 match v with
 | .lW n r'=>c9 M n fun b=>(match b with
   | .map k ka va dn sz es=>(match dn with
     | .it r sn la=>K n r' k ka va r sn la sz es
     | .b _=>False)
   | .arr .. =>False
   | .var .. =>False)
 |_=>False
def di (R:Env) (X:ct) (lo:Bool) (i:td) (d:Option Nat) (F:bj) (M:aj) (nx:Nat) (K:KS):Prop:=
 match i with
 | .mv x=>dx R F x fun v=>aP d v F M nx K
 | .pick c a b=>dx R F c fun v=>zV v (dx R F a fun u=>aP d u F M nx K) (dx R F b fun u=>aP d u F M nx K)
 | .alloc ty z=>aP d (.loc nx 1 0 0) F ((nx,.var (R.ty ty) z)::M) (nx+1) K
 | .box ty x=>dx R F x fun v=>jU v fun cs=>aP d (.loc nx 1 0 0) F ((nx,.var (R.ty ty) cs)::M) (nx+1) K
 | .build z ps=>Bi R F ps z fun cs=>aP d (.agg cs) F M nx K
 | .aF ty sz len z ps=>J3 z len fun es=>zU R F sz ps es fun es'=>aP d (.bh nx len) F ((nx,.arr (R.ty ty) sz es')::M) (nx+1) K
 | .load ag n x=>dx R F x fun v=>zW ag n v M fun u=>aP d u F M nx K
 | .store n x v=>dx R F x fun a=>dx R F v fun u=>jU u fun cs=>v8 cs n (DC a cs M fun M'=>aP d (.aU []) F M' nx K)
 | .bK x=>dx R F x fun v=>(match v with
   | .loc nm len i q=>jW M nm len fun _=>aP d (.loc nm len i q) F M nx K
   | .bv e q=>aP d (.bv e q) F M nx K
   | .bW f cs=>aP d (.bW f cs) F M nx K
   |_=>False)
 | .bin op x y=>dx R F x fun v=>dx R F y fun u=>J6 op v u fun r=>aP d r F M nx K
 | .On neg x y=>dx R F x fun v=>dx R F y fun u=>(match v,u with
   | .bool a,.bool b=>(match neg with
     |true=>aP d (.bool (a != b)) F M nx K
     |false=>aP d (.bool (a==b)) F M nx K)
   |_,_=>False)
 | .zO neg ls x y=>dx R F x fun v=>dx R F y fun u=>(match v,u with
   | .agg as,.agg bs=>Bj ls as bs (UB neg fun r=>aP d r F M nx K)
   |_,_=>False)
 | .Ut op x y=>dx R F x fun v=>dx R F y fun u=>(match v,u with
   | .str a,.str b=>OE op a b fun r=>aP d r F M nx K
   |_,_=>False)
 | .un op x=>dx R F x fun v=>UC op v fun r=>aP d r F M nx K
 | .conv k x=>dx R F x fun v=>(match v with
   | .int _ n=>True→F6 k n fun m=>aP d (.int k m) F M nx K
   |_=>False)
 | .Oo x=>dx R F x fun v=>(match v with
   | .str s=>aP d (.str s) F M nx K
   |_=>False)
 | .Oq g cs=>qz R F cs fun l=>aP d (R.cl g l) F M nx K
 | .bM off x=>dx R F x fun v=>(match v with
   | .loc nm len i q=>jW M nm len fun _=>aP d (.loc nm len i (q+off)) F M nx K
   | .bv e q=>aP d (.bv e (q+off)) F M nx K
   |_=>False)
 | .Bh sz x i=>dx R F x fun v=>dx R F i fun ix=>DD sz v ix M fun r=>aP d r F M nx K
 | .bJ m sz x i=>dx R F x fun v=>dx R F i fun ix=>DE m sz v ix M fun r=>aP d r F M nx K
 | .vZ _ sz x lo hi mx=>dx R F x fun v=>yi R F lo fun l=>yi R F hi fun h=>yi R F mx fun m=>DG sz v l h m fun r=>aP d r F M nx K
 | .Ou x lo hi=>dx R F x fun v=>yi R F lo fun l=>yi R F hi fun h=>DH v l h fun r=>aP d r F M nx K
 | .ext x i=>dx R F x fun v=>(match v with
   | .aU vs=>J8 i vs fun r=>aP d r F M nx K
   |_=>False)
 | .call g as=>qz R F as fun l=>True→aq R X lo (R.ft g) l F M nx d K
 | .gq f as=>dx R F f fun v=>(match v with
   | .bW (.fn g) aW=>qz R F as fun l=>True→aq R X lo g (l++aW) F M nx d K
   | .bW (.lp l tm) aW=>(match lo with
     |true=>False
     |false=>qz R F as fun args=>True→qH R X l tm aW args F M nx d K)
   |_=>False)
 | .o9 g as=>qz R F as fun l=>True→qG R (R.ft g) l F M nx d K
 | .te f as=>dx R F f fun v=>(match v with
   | .bW (.fn g) aW=>qz R F as fun l=>True→qE R X g (l++aW) F M nx d K
   |_=>False)
 | .mS f as=>dx R F f fun v=>(match v with
   | .bW (.fn g) aW=>qz R F as fun l=>(match lo with
     |true=>True→qF R X g (l++aW) F M nx d K
     |false=>False)
   |_=>False)
 | .NI neg x=>dx R F x fun v=>(match v with
   | .bU=>(match neg with
     |true=>aP d (.bool false) F M nx K
     |false=>aP d (.bool true) F M nx K)
   | .bv _ _=>aP d (.bool neg) F M nx K
   | .loc nm len _ _=>jW M nm len fun _=>aP d (.bool neg) F M nx K
   |_=>False)
 | .yg neg x=>dx R F x fun v=>(match v with
   | .aO _ es=>(match lo with
     |true=>False
     |false=>True→DA es (match neg with
      |true=>aP d (.bool false) F M nx K
      |false=>aP d (.bool true) F M nx K) (aP d (.bool neg) F M nx K))
   |_=>False)
 | .GA neg x=>dx R F x fun v=>(match v with
   | .ci=>(match neg with
     |true=>aP d (.bool false) F M nx K
     |false=>aP d (.bool true) F M nx K)
   | .omap n=>c9 M n fun b=>(match b with
     | .map _ _ _ _ _ _=>aP d (.bool neg) F M nx K
     |_=>False)
   |_=>False)
 | .YH m _ x=>dx R F x fun v=>(match v with
   | .aO _ es=>True→(m≤es.length∧0<m)∧(True→uN (es.take m).flatten fun row=>aP d (.bv row 0) F M nx K)
   |_=>False)
 | .Dw ag off n x=>dx R F x fun v=>(match v with
   | .agg cs=>qB ag n off cs fun r=>aP d r F M nx K
   |_=>False)
 | .IQ ty sz x=>dx R F x fun v=>(match v with
   | .aO _ _=>aP d (.bh nx 0) F ((nx,.arr (R.ty ty) sz [])::M) (nx+1) K
   |_=>False)
 | .Dx ag m sz x i=>dx R F x fun v=>dx R F i fun ix=>(match v,ix with
   | .agg cs,.int _ j=>True→YJ ag m sz cs j fun r=>aP d r F M nx K
   |_,_=>False)
 | .Ot x i=>dx R F x fun v=>dx R F i fun ix=>(match v,ix with
   | .str s,.int _ j=>True→(0≤j∧j< (s.length:Int))∧aP d (.int .u8 (s.getD j.toNat 0).toNat) F M nx K
   |_,_=>False)
 | .S9 x=>dx R F x fun v=>tj 1 v M fun es=>True→OD es fun s=>aP d (.str s) F M nx K
 | .v6 m sz x lo hi mx=>(match lo,hi,mx with
   |none,none,none=>dx R F x fun v=>(match v with
    | .loc nm len i off=>jW M nm len fun _=>aP d (.dP nm len i off m) F M nx K
    | .bv r off=>bif Nat.beq sz 0 then False else th off r fun r'=>zS sz m r' fun es=>aP d (.aO sz es) F M nx K
    |_=>False)
   |_,_,_=>False)
 | .copy sz x y=>dx R F x fun v=>dx R F y fun u=>IX sz v M (tj sz u M) fun n M'=>aP d (.int .i64 n) F M' nx K
 | .Uu ty sz z l c=>dx R F l fun v=>dx R F c fun u=>(match v,u with
   | .int _ a,.int _ b=>True→Ta a b fun n=>aP d (.bh nx n) F ((nx,.arr (R.ty ty) sz (List.replicate n z))::M) (nx+1) K
   |_,_=>False)
 | .YI ty x=>dx R F x fun v=>(match v with
   | .str s=>True→s.length≤1073741824∧aP d (.bh nx s.length) F ((nx,.arr (R.ty ty) 1 (s.map fun c=>[.int .u8 c.toNat]))::M) (nx+1) K
   |_=>False)
 | .JZ n=>aP d (.int .i64 n) F M nx K
 | .gQ x=>dx R F x fun v=>DI v M fun r=>aP d r F M nx K
 | .J0 x=>dx R F x fun v=>(match v with
   | .str s=>aP d (.int .i64 s.length) F M nx K
   |_=>False)
 | .mm mx as=>qz R F as fun l=>YL mx l fun r=>aP d r F M nx K
 | .app ty sz s x=>dx R F s fun v=>dx R F x fun u=>DF (R.ty ty) sz v (tj sz u M) M nx fun r M' bp=>aP d r F M' bp K
 | .GC ty sz z s x=>dx R F s fun v=>dx R F x fun u=>IY (R.ty ty) sz z v u M nx fun r M' bp=>aP d r F M' bp K
 | .GB ty s x=>dx R F s fun v=>dx R F x fun u=>DF (R.ty ty) 1 v (yo u) M nx fun r M' bp=>aP d r F M' bp K
 | .J1 k ka va sz=>aP d (.omap nx) F ((nx,.map k ka va true sz [])::M) (nx+1) K
 | .F5 ls ag va z ok x key=>dx R F x fun v=>dx R F key fun u=>yr ls ag va v M fun _ _ _ es=>yp ls ag u fun kc=>True→J9 ls kc es fun q=>OF ok va z q fun r=>aP d r F M nx K
 | .Dy ls ag va x key y=>dx R F x fun v=>dx R F key fun u=>dx R F y fun w=>yr ls ag va v M fun n dn sz es=>yp ls ag u fun kc=>jU w fun vs=>bif eh w.iN va&&Nat.beq (ls.length+vs.length) sz then
     (True→J9 ls kc es fun q=>True→es.length+1≤1073741824∧Ka q es (kc++vs) fun es'=>gv M n (.map ls.length ag va dn.up sz es') fun M'=>aP d (.aU []) F M' nx K)else False
 | .Uv ls ag va z x key=>dx R F x fun v=>dx R F key fun u=>yr ls ag va v M fun n dn sz es=>yp ls ag u fun kc=>jU z fun zs=>bif eh z.iN va&&Nat.beq (ls.length+zs.length) sz&&dn.all then
     (True→J9 ls kc es fun q=>True→es.length+1≤1073741824∧GG va z q es kc zs fun r i es'=>gv M n (.map ls.length ag va true sz es') fun M'=>aP d (.aU [r,.int .i64 i]) F M' nx K)else False
 | .IR ls ag x key=>dx R F x fun v=>dx R F key fun u=>yr ls ag false v M fun _ _ sz es=>yp ls ag u fun kc=>bif Nat.beq sz (ls.length+1)&&iL kc then (True→YM kc es fun r=>aP d r F M nx K)else False
 | .enc ls ag x key=>dx R F x fun v=>dx R F key fun u=>yr ls ag false v M fun n dn sz es=>yp ls ag u fun kc=>bif Nat.beq sz (ls.length+1)&&iL kc&&dn.all then
     (True→Z' kc es fun q=>True→es.length+1≤1073741824∧GG false (.int .i64 0) q es kc [.int .i64 0] fun r i es'=>gv M n (.map ls.length ag false true sz es') fun M'=>aP d (.aU [r,.int .i64 i]) F M' nx K)else False
 | .Ov ls ag x key=>dx R F x fun v=>dx R F key fun u=>zX v M fun n k ka va dn sz es=>bif Nat.beq k ls.length&&eh ka ag then yp ls ag u fun kc=>True→J9 ls kc es fun q=>J' q es dn fun es' Gv=>gv M n (.map ls.length ag va Gv sz es') fun M'=>aP d (.aU []) F M' nx K else False
 | .NJ x=>dx R F x fun v=>(match lo with
   |true=>False
   |false=>zX v M fun n k ka va _ sz es=>True→IRg fun r=>gv M n (.map k ka va (.it r (es.map fun _=>false) none) sz es) fun M'=>aP d (.lW n r) F M' nx K)
 | .Ow x=>dx R F x fun v=>(match lo with
   |true=>False
   |false=>Td v M fun n r' k ka va r sn _ sz es=>True→INx r r' es sn (aP d (.aU [.bool false]) F M nx K) fun i=>gv M n (.map k ka va (.it r (sn.set i true) (some i)) sz es) fun M'=>aP d (.aU [.bool true,.bad,.bad]) F M' nx K)
 | .II x=>dx R F x fun v=>(match lo with
   |true=>False
   |false=>Td v M fun _ r' k ka va r _ la sz es=>bif Nat.blt 0 k&&Nat.blt k sz then (True→IEt r r' la es fun row=>v7 k row fun kc=>yq ka kc fun a=>th k row fun vc=>yq va vc fun b=>aP d (.aU [a,b]) F M nx K)else False)
 | .Uw va x st y=>dx R F x fun v=>dx R F st fun u=>dx R F y fun w=>(match v,u with
   | .omap n,.int _ j=>c9 M n fun b=>(match b with
     | .map k ka vb dn sz es=>jU w fun vs=>bif eh w.iN va&&eh vb va&&Nat.beq (k+vs.length) sz&&dn.all then
         (True→AEn es j fun i row=>v7 k row fun kc=>gv M n (.map k ka va true sz (es.set i (kc++vs))) fun M'=>aP d (.aU []) F M' nx K)else False
     | .arr .. =>False
     | .var .. =>False)
   |_,_=>False)
def GH (a b:AV):Bool:=
 match a,b with
 | .int k n,.int k' n'=>pQ k k'&&decide (n=n')
 | .bool x,.bool y=>x==y
 | .str s,.str t=>decide (s=t)
 | .bU,.bU=>true
 | .an,.an=>true
 | .au,.au=>true
 | .dL,.dL=>true
 | .ci,.ci=>true
 |_,_=>false
def pG:List AV→List AV→Bool
 |[],[]=>true
 |a::r,b::s=>GH a b&&pG r s
 |_,_=>false
def yu (a b:AV):Bool:=
 match a,b with
 | .agg cs,.agg ds=>pG cs ds
 | .aU cs,.aU ds=>pG cs ds
 |a,b=>GH a b
theorem zY {a b:AV} (h:GH a b=true):a=b:=by
 cases a<;>cases b<;>simp_all[GH]
 exact hY h.1
theorem ja:∀ {a b:List AV},pG a b=true→a=b
 |[],[],_=>rfl
 |a::r,b::s,h=>by
  simp only[pG,Bool.and_eq_true]at h
  rw[zY h.1,ja h.2]
 |[],_::_,h=>by simp[pG]at h
 |_::_,[],h=>by simp[pG]at h
theorem mT {a b:AV} (h:yu a b=true):a=b:=by
 unfold yu at h
 split at h
 ·rw[ja h]
 ·rw[ja h]
 ·exact zY h
def cO (R:Env):Operand→Sc→Bool
 | .tmp t,.t n=>Nat.beq t n
 | .const v,.k u=>yu (IA v) u
 | .func f,.f g=>Nat.beq (R.ft g) f
 |_,_=>false
def mh (R:Env):List Operand→List Sc→Bool
 |[],[]=>true
 |x::r,y::s=>cO R x y&&mh R r s
 |_,_=>false
def yv (R:Env):Option Operand→Option Sc→Bool
 |none,none=>true
 |some x,some y=>cO R x y
 |_,_=>false
theorem ar {R:Env} {F:bj} {x:Operand} {y:Sc} (h:cO R x y=true):ev F x=lm R F y:=by
 cases x<;>cases y<;>simp only[cO]at h<;>first|(simp at h; done)|skip
 ·rw[Nat.eq_of_beq_eq_true h]; rfl
 ·exact mT h
 ·simp only[ev,lm,Env.cl,Nat.eq_of_beq_eq_true h]
theorem dQ {R:Env} {F:bj}:∀ {xs:List Operand} {ys:List Sc},mh R xs ys=true→mB F xs=ys.map (lm R F)
 |[],[],_=>rfl
 |x::r,y::s,h=>by
  simp only[mh,Bool.and_eq_true]at h
  simp only[mB,List.map_cons,ar (F:=F) h.1,dQ h.2]
 |[],_::_,h=>by simp[mh]at h
 |_::_,[],h=>by simp[mh]at h
theorem mU {R:Env} {F:bj} {x:Option Operand} {y:Option Sc} (h:yv R x y=true):r5 F x=y.map (lm R F):=by
 cases x<;>cases y<;>simp only[yv]at h<;>first|(simp at h; done)|rfl|skip
 simp only[r5,Option.map_some,ar (F:=F) h]
def Bk (R:Env) (fs:List (Nat × Nat)):List (Nat × Operand)→List (Nat × Nat × Sc)→Bool
 |[],[]=>true
 |(i,x)::r,(off,n,y)::s=>(match fs[i]? with
  |some (o,t)=>Nat.beq o off&&Nat.beq (R.T.s t) n&& !Nat.beq n 0
  |none=>false)&&cO R x y&&Bk R fs r s
 |_,_=>false
def Bl (R:Env) (sz:Nat):List (Nat × Operand)→List (Nat × Nat × Sc)→Bool
 |[],[]=>true
 |(i,x)::r,(off,n,y)::s=>Nat.beq (i*sz) off&&Nat.beq sz n&& !Nat.beq n 0&&cO R x y&&Bl R sz r s
 |_,_=>false
def Bn (R:Env):List (Nat × Operand)→List (Nat × Sc)→Bool
 |[],[]=>true
 |(i,x)::r,(j,y)::s=>Nat.beq i j&&cO R x y&&Bn R r s
 |_,_=>false
def Kb:BinOp→Nat
 | .add=>0| .sub=>1| .mul=>2| .quo=>3| .rem=>4| .and=>5| .or=>6| .xor=>7| .shl=>8| .shr=>9| .andNot=>10| .eql=>11| .neq=>12| .lss=>13| .leq=>14| .gtr=>15| .geq=>16
theorem DJ {a b:BinOp} (h:Nat.beq (Kb a) (Kb b)=true):a=b:=by
 have:=Nat.eq_of_beq_eq_true h
 cases a<;>cases b<;>first|rfl|(simp[Kb]at this)
def OG:UnOp→Nat
 | .neg=>0| .not=>1| .xor=>2| .plus=>3
theorem Kc {a b:UnOp} (h:Nat.beq (OG a) (OG b)=true):a=b:=by
 have:=Nat.eq_of_beq_eq_true h
 cases a<;>cases b<;>first|rfl|(simp[OG]at this)
def Te:Option Operand→Bool
 |some (.const (.int _ (.ofNat 0)))=>true
 |_=>false
theorem DK {b:Option Operand} (h:Te b=true):∃k,b=some (.const (.int k 0)):=by
 unfold Te at h
 split at h
 ·exact⟨_,rfl⟩
 ·simp at h
def isEq (op:BinOp) (neg:Bool):Bool:=
 match op,neg with
 | .eql,false=>true
 | .neq,true=>true
 |_,_=>false
theorem isEq_eq {op:BinOp} {neg:Bool} (h:isEq op neg=true):op=if neg then .neq else .eql:=by cases op<;>cases neg<;>simp_all[isEq]
def Bo:List LK→List LK→Bool
 |[],[]=>true
 | .i::r,.i::s=>Bo r s
 | .b::r,.b::s=>Bo r s
 | .s::r,.s::s=>Bo r s
 |_,_=>false
theorem mV:∀ {a b:List LK},Bo a b=true→a=b
 |[],[],_=>rfl
 | .i::r,.i::s,h=>by rw[mV (a:=r) (b:=s) h]
 | .b::r,.b::s,h=>by rw[mV (a:=r) (b:=s) h]
 | .s::r,.s::s,h=>by rw[mV (a:=r) (b:=s) h]
def qI (R:Env) (t:Nat) (ls:List LK) (ag:Bool):Bool:=match R.T.d t with
 | .map k _=>eh (aR R.P k) ag&&(match ll R.P 8 k with
   |some l=>Bo l ls
   |none=>false)
 |_=>false
def bL (R:Env) (c:Call) (i:td):Bool:=
 match c.callee,i with
 | .value f,.call g as=>cO R f (.f g)&&mh R c.args.toList as
 | .value f,.gq y as=>cO R f y&&mh R c.args.toList as
 | .value f,.te y as=>cO R f y&&mh R c.args.toList as
 | .value f,.mS y as=>cO R f y&&mh R c.args.toList as
 | .value f,.o9 g as=>cO R f (.f g)&&mh R c.args.toList as
 | .builtin .len,.JZ n=>(match c.args.toList,c.argTypes.toList with
   |[_],[t]=>(match R.T.d t with
    | .arr m _=>Nat.beq m n
    |_=>false)
   |_,_=>false)
 | .builtin .len,.gQ y=>(match c.args.toList,c.argTypes.toList with
   |[x],[t]=>cO R x y&&(match R.T.d t with
    | .slice _=>true
    |_=>false)
   |_,_=>false)
 | .builtin .len,.J0 y=>(match c.args.toList,c.argTypes.toList with
   |[x],[t]=>cO R x y&&(match R.T.d t with
    | .str=>true
    |_=>false)
   |_,_=>false)
 | .builtin .min,.mm false as=>mh R c.args.toList as
 | .builtin .max,.mm true as=>mh R c.args.toList as
 | .builtin .append,.app ty sz s y=>(match c.args.toList,c.argTypes.toList with
   |[x1,x2],[t,t']=>cO R x1 s&&cO R x2 y&&(match R.T.d t,R.T.d t' with
    | .slice e,.slice _=>Nat.beq (R.ty ty) e&&Nat.beq (R.T.s e) sz&&(R.T.d e).ok&&bS (R.T.z e)&&Nat.beq (cells (R.T.z e)).length (R.T.s e)
    |_,_=>false)
   |_,_=>false)
 | .builtin .copy,.copy sz s y=>(match c.args.toList,c.argTypes.toList with
   |[x1,x2],[t,t']=>cO R x1 s&&cO R x2 y&&(match R.T.d t,R.T.d t' with
    | .slice e,.slice _=>Nat.beq (R.T.s e) sz&&(R.T.d e).ok
    |_,_=>false)
   |_,_=>false)
 | .builtin .append,.GC ty sz z s y=>(match c.args.toList,c.argTypes.toList with
   |[x1,x2],[t,t']=>cO R x1 s&&cO R x2 y&&(match R.T.d t,R.T.d t' with
    | .slice e,.int _=>Nat.beq (R.ty ty) e&&Nat.beq (R.T.s e) sz&&(R.T.d e).ok&&bS (R.T.z e)&&Nat.beq (cells (R.T.z e)).length (R.T.s e)&&pG (cells (R.T.z e)) z&& !Nat.beq sz 0
    |_,_=>false)
   |_,_=>false)
 | .builtin .delete,.Ov ls ag y u=>(match c.args.toList,c.argTypes.toList with
   |[x1,x2],[t,_]=>cO R x1 y&&cO R x2 u&&qI R t ls ag
   |_,_=>false)
 | .builtin .append,.GB ty s y=>(match c.args.toList,c.argTypes.toList with
   |[x1,x2],[t,t']=>cO R x1 s&&cO R x2 y&&(match R.T.d t,R.T.d t' with
    | .slice e,.str=>Nat.beq (R.ty ty) e&&Nat.beq (R.T.s e) 1&&(R.T.d e).ok&&bS (R.T.z e)&&Nat.beq (cells (R.T.z e)).length (R.T.s e)
    |_,_=>false)
   |_,_=>false)
 |_,_=>false
def dd (R:Env) (o:Op) (i:td):Bool:=
 match o,i with
 | .move x,.mv y=>cO R x y
 | .assign x,.mv y=>cO R x y
 | .pick c a b,.pick c' a' b'=>cO R c c'&&cO R a a'&&cO R b b'
 | .alloc t,.alloc ty z=>Nat.beq (R.ty ty) t&&(R.T.d t).ok&&bS (R.T.z t)&&pG (cells (R.T.z t)) z
 | .box t x,.box ty y=>Nat.beq (R.ty ty) t&&cO R x y
 | .build t ps,.build z qs=>bS (R.T.z t)&&Nat.beq (cells (R.T.z t)).length (R.T.s t)&&pG (cells (R.T.z t)) z&&(match R.T.d t with
   | .struct fs=>CV R.T.d fs&&Bk R fs ps.toList qs
   | .arr _ e=>(R.T.d e).ok&&Bl R (R.T.s e) ps.toList qs
   |_=>false)
 | .buildSlice t len ps,.aF ty sz len' z qs=>(match R.T.d t with
   | .slice e=>Nat.beq (R.ty ty) e&&Nat.beq (R.T.s e) sz&&Nat.beq len len'&&(R.T.d e).ok&&bS (R.T.z e)&&pG (cells (R.T.z e)) z&&Nat.beq (cells (R.T.z e)).length sz&& !Nat.beq sz 0&&Nat.ble (len*sz) 16777216&&Bn R ps.toList qs
   |_=>false)
 | .load t a,.load ag n y=>(R.T.d t).ok&&eh (R.T.d t).ag ag&&Nat.beq (R.T.s t) n&&cO R a y
 | .store t a x,.store n y u=>(R.T.d t).ok&&Nat.beq (R.T.s t) n&& !Nat.beq n 0&&cO R a y&&cO R x u
 | .nilCheck x,.bK y=>cO R x y
 | .binOp op _ x y _,.bin op' x' y'=>Nat.beq (Kb op) (Kb op')&&cO R x x'&&cO R y y'
 | .binOp op t x y _,.On neg x' y'=>isEq op neg&&cO R x x'&&cO R y y'&&(match R.P.underlying t with
   |some .bool=>true
   |_=>false)
 | .binOp op t x y _,.zO neg ls x' y'=>isEq op neg&&cO R x x'&&cO R y y'&& !R.P.eqGuardType R.P.depth t&&aR R.P t&&(match ll R.P 8 t with
   |some l=>Bo l ls
   |none=>false)
 | .binOp op _ x y _,.Ut op' x' y'=>Nat.beq (Kb op) (Kb op')&&cO R x x'&&cO R y y'
 | .unOp op _ x,.un op' x'=>Nat.beq (OG op) (OG op')&&cO R x x'
 | .convert s t x,.conv k y=>(R.T.d s).ok&&(match R.T.d t with
   | .int k'=>pQ k' k
   |_=>false)&&cO R x y
 | .convert s t x,.Oo y=>(R.T.d s).ok&&(match R.T.d t with
   | .str=>true
   |_=>false)&&cO R x y
 | .makeFunc (.func f) first aW,.Oq g cs=>first.isEmpty&&Nat.beq (R.ft g) f&&mh R aW.toList cs
 | .fieldAddr s x f,.bM off y=>cO R x y&&(match R.T.d s with
   | .struct fs=>(match fs[f]? with
     |some (o,ft)=>Nat.beq o off&&(R.T.d ft).ok&& !Nat.beq (R.T.s ft) 0
     |none=>false)
   |_=>false)
 | .indexAddr t x j,.Bh sz y i=>cO R x y&&cO R j i&&(match R.T.d t with
   | .slice e=>Nat.beq (R.T.s e) sz&&(R.T.d e).ok
   |_=>false)
 | .indexAddr t x j,.bJ m sz y i=>cO R x y&&cO R j i&&(match R.T.d t with
   | .arr k e=>Nat.beq k m&&Nat.beq (R.T.s e) sz&&(R.T.d e).ok
   |_=>false)
 | .slice t x a b c,.vZ ty sz y l h m=>cO R x y&&yv R a l&&yv R b h&&yv R c m&&(match R.T.d t with
   | .slice e=>Nat.beq (R.ty ty) e&&Nat.beq (R.T.s e) sz&&(R.T.d e).ok
   |_=>false)
 | .slice t x a b c,.v6 m sz y l h mx=>cO R x y&&a.isNone&&b.isNone&&c.isNone&&l.isNone&&h.isNone&&mx.isNone&&Nat.ble m 1000000&&(match R.T.d t with
   | .arr k e=>Nat.beq k m&&Nat.beq (R.T.s e) sz&&(R.T.d e).ok
   |_=>false)
 | .makeSlice t l c,.Uu ty sz z l' c'=>cO R l l'&&cO R c c'&&(match R.T.d t with
   | .slice e=>Nat.beq (R.ty ty) e&&Nat.beq (R.T.s e) sz&&(R.T.d e).ok&&bS (R.T.z e)&&pG (cells (R.T.z e)) z&&Nat.beq (cells (R.T.z e)).length sz&& !Nat.beq sz 0
   |_=>false)
 | .convert s t x,.YI ty y=>cO R x y&&(match R.T.d s,R.T.d t with
   | .str,.slice e=>Nat.beq (R.ty ty) e&&(match R.T.d e with
     | .int .u8=>true
     |_=>false)
   |_,_=>false)
 | .slice t x a b c,.Ou y l h=>cO R x y&&yv R a l&&yv R b h&&c.isNone&&(match R.T.d t with
   | .str=>true
   |_=>false)
 | .binOp op t x (.const c) _,.NI neg x'=>isEq op neg&&cO R x x'&&(match c,R.P.underlying t with
   | .pointer none,some (.pointer _)=>true
   |_,_=>false)
 | .binOp op t x (.const c) _,.yg neg x'=>isEq op neg&&cO R x x'&&(match c,R.P.underlying t with
   | .slice none 0 0,some (.slice _)=>true
   |_,_=>false)
 | .binOp op t x (.const c) _,.GA neg x'=>isEq op neg&&cO R x x'&&(match c,R.P.underlying t with
   | .map none,some (.map _ _)=>true
   |_,_=>false)
 | .sliceToArrayPointer t x,.YH m sz y=>cO R x y&&(match R.T.d t with
   | .arr k e=>Nat.beq k m&&Nat.beq (R.T.s e) sz&&(R.T.d e).ok
   |_=>false)
 | .field t x f,.Dw ag off n y=>cO R x y&&(match R.T.d t with
   | .struct fs=>(match fs[f]? with
     |some (o,ft)=>Nat.beq o off&&(R.T.d ft).ok&&Nat.beq (R.T.s ft) n&&eh (R.T.d ft).ag ag
     |none=>false)
   |_=>false)
 | .slice t x a b c,.IQ ty sz y=>cO R x y&&a.isNone&&Te b&&Te c&&(match R.T.d t with
   | .slice e=>Nat.beq (R.ty ty) e&&Nat.beq (R.T.s e) sz&&(R.T.d e).ok
   |_=>false)
 | .index t x j,.Dx ag m sz y i=>cO R x y&&cO R j i&&(match R.T.d t with
   | .arr k e=>Nat.beq k m&&Nat.beq (R.T.s e) sz&&(R.T.d e).ok&&eh (R.T.d e).ag ag
   |_=>false)
 | .index t x j,.Ot y i=>cO R x y&&cO R j i&&(match R.T.d t with
   | .str=>true
   |_=>false)
 | .convert s t x,.S9 y=>cO R x y&&(match R.T.d s,R.T.d t with
   | .slice e,.str=>(match R.T.d e with
     | .int .u8=>true
     |_=>false)
   |_,_=>false)
 | .extract x i,.ext y j=>cO R x y&&Nat.beq i j
 | .makeMap _ none,.J1 _ _ _ sz=> !Nat.beq sz 0
 | .lookup t x y ok,.F5 ls ag _ z GI x' y'=>eh ok GI&&cO R x x'&&cO R y y'&&qI R t ls ag&&(match R.T.d t with
   | .map _ e=>(R.T.d e).ok&&yu (R.T.z e) z
   |_=>false)
 | .mapUpdate t x y v,.Dy ls ag _ x' y' v'=>cO R x x'&&cO R y y'&&cO R v v'&&qI R t ls ag
 | .insert t x y v,.Dy ls ag _ x' y' v'=>cO R x x'&&cO R y y'&&cO R v v'&&qI R t ls ag
 | .mapEntry t x y,.Uv ls ag _ z x' y'=>cO R x x'&&cO R y y'&&qI R t ls ag&&(match R.T.d t with
   | .map _ e=>(R.T.d e).ok&&yu (R.T.z e) z
   |_=>false)
 | .lookup t x y false,.IR ls ag x' y'=>cO R x x'&&cO R y y'&&qI R t ls ag&&(match R.T.d t with
   | .map _ e=>(R.T.d e).ok&&yu (R.T.z e) (.int .i64 0)
   |_=>false)
 | .mapEntry t x y,.enc ls ag x' y'=>cO R x x'&&cO R y y'&&qI R t ls ag&&(match R.T.d t with
   | .map _ e=>(R.T.d e).ok&&yu (R.T.z e) (.int .i64 0)
   |_=>false)
 | .entryStore _ x st v,.Uw _ x' st' v'=>cO R x x'&&cO R st st'&&cO R v v'
 | .range t x,.NJ y=>cO R x y&&(match R.T.d t with
   | .map _ _=>true
   |_=>false)
 | .next x false,.Ow y=>cO R x y
 | .entry x,.II y=>cO R x y
 | .call c,i=>bL R c i
 |_,_=>false
end Go.AM
namespace Go.AM
open Go.RowKit
variable {P:Program} {T:TT} {X:ct} {o:Oper} {F:bj} {M:bA}
theorem Bp (hT:dh P T) {t f off e:Nat} {fs:List (Nat × Nat)} {x:Operand} {cs:List AV} {K:AV→Prop} (ht:T.d t= .struct fs) (OH:fs[f]? =some (off,e)) (hok:(T.d e).ok=true) (ho:o.op= .field t x f) (hx:ev F x= .agg cs)
  (h:apart (T.d e).ag (T.s e) off cs K):∃av,bP P X o F M av [] []∧K av:=by
 have hx':x ∈ o.op.operands.toList:=by simp[ho,Op.operands]
 obtain⟨D,it,z,hD,hf,_⟩:=hT t (by rw[ht]; simp)
 rw[ht]at hf
 obtain⟨gs,rfl,JI⟩:=iS rfl hf
 obtain⟨De,ie,_,CK,IN,hie,k9,_⟩:=hT e (TD.dG hok)
 obtain⟨av,h1,h2,h3,h4⟩:=eG h
 obtain⟨fd,hfd,hfo,hft⟩:∃fd,gs[f]? =some fd∧fd.offset=off∧fd.type=e:=by
  rw[JI,List.getElem?_map]at OH
  cases hg:gs.toList[f]? with
  |none=>simp[hg]at OH
  |some fd=>
   simp only[hg,Option.map_some,Option.some.injEq,Prod.mk.injEq]at OH
   exact⟨fd,by simpa using hg,OH.1,OH.2⟩
 refine⟨av,aJ fun M' N ρ I ac w hW hU hN=> ?_,h4⟩
 have r1:=ay hU x hx'
 rw[hx]at r1
 generalize hv:ac.eval x=v at r1
 have hle:off+T.s e≤cs.length∨T.s e=0:=by
  simp only[List.length_take,List.length_drop]at h1; omega
 cases r1 with
 |agg _ vs hvl CH JV=>
  have Dl:∃u,(part e vs.toArray off).run P w= .ok u w∧aS ρ (lens M') I w N av u:=by
   unfold part
   simp only[Sem.run_bind,l7 CK IN,Result.andThen_ok]
   cases iM:(T.d e).ag with
   |true=>
    simp only[if_pos,Sem.run_bind,bG hie,Result.andThen_ok,Sem.run_pure]
    refine⟨_,rfl,?_⟩
    rw[h2,iM,if_pos rfl,k9]
    have hex:vs.toArray.extract off (off+T.s e)=((vs.drop off).take (T.s e)).toArray:=by
     apply Array.ext'
     simp
    rw[hex]
    refine .agg _ _ (by rw[h1]; simp only[List.length_take,List.length_drop]; omega) (fun u hu=>CH u (List.mem_of_mem_drop (List.mem_of_mem_take hu))) (fun i hi=> ?_)
    rw[h1]at hi
    rw[c8 _ _ _ _ _ hi,c8 _ _ _ _ _ hi]
    exact JV (off+i) (by omega)
   |false=>
    have h5:=h3 iM
    have hlt:off<cs.length:=by omega
    have uG:off<vs.length:=by omega
    simp only[Bool.false_eq_true,if_false]
    have:vs.toArray[off]? =some vs[off]:=by simp[uG]
    rw[this]
    refine⟨_,Sem.run_pure _ _ _,?_⟩
    rw[h2,iM,h5]
    have e1:((cs.drop off).take 1).headD .bad=cs.getD off .bad:=by
     rw[List.drop_eq_getElem_cons hlt,List.take_succ_cons]
     simp[List.getD_eq_getElem?_getD,hlt]
    simp only[Bool.false_eq_true,if_false,e1]
    have:=JV off hlt
    rwa[show vs.getD off default=vs[off] by simp[List.getD_eq_getElem?_getD,uG]]at this
  obtain⟨u,hu,hr⟩:=Dl
  refine⟨u,?_,hr⟩
  simp only[execOp,ho,hv,Instr.field,asAgg,Sem.run_bind,Sem.run_pure,Result.andThen_ok,run_underlying hD,hfd,hfo,hft,hu]
theorem qJ {a b:List AV} {sz j:Nat} (h:a.length=sz):(a++b).getD j .bad=if j<sz then a.getD j .bad else b.getD (j - sz) .bad:=by
 subst h
 by_cases hlt:j<a.length
 ·rw[if_pos hlt]; simp[List.getD_eq_getElem?_getD,List.getElem?_append_left hlt]
 ·rw[if_neg hlt]; simp[List.getD_eq_getElem?_getD,List.getElem?_append_right (Nat.le_of_not_lt hlt)]
theorem DL (hT:dh P T) {t m e sz:Nat} {x:Operand} {es:List (List AV)} (ht:T.d t= .arr m e) (ho:o.op= .sliceToArrayPointer t x) (hx:ev F x= .aO sz es) (hm:m≤es.length) (h0:0<m):
  bP P X o F M (.bv (es.take m).flatten 0) [] []:=by
 have hx':x ∈ o.op.operands.toList:=by simp[ho,Op.operands]
 obtain⟨D,it,z,hD,hf,_⟩:=hT t (by rw[ht]; simp)
 obtain rfl:=fu ht hf
 refine aJ fun M' N ρ I ac w hW hU hN=> ?_
 have r1:=ay hU x hx'
 rw[hx]at r1
 generalize hv:ac.eval x=v at r1
 cases r1 with
 |cI=>simp at hm; omega
 |aO _ _ b q cap c hl hc hI hs h1 hcell hr=>
  refine⟨.pointer (some ⟨b,q,none⟩),?_,?_⟩
  ·simp only[execOp,ho,hv,Instr.arrayAt,Sem.run_bind,Sem.run_pure,Result.andThen_ok,run_underlying hD,if_neg (Nat.not_lt.2 hm)]
  ·have hfl:(es.take m).flatten.length=m*sz:=by
    rw[List.length_flatten,show (es.take m).map List.length=List.replicate m sz from ?_]
    ·simp
    ·apply List.ext_getElem
     ·simp; omega
     ·intro i hi hi'
      simp at hi ⊢
      exact hs _ (List.getElem_mem _)
   have Bq:∀j,j<m*sz→j / sz<es.length∧j % sz<sz∧(es.take m).flatten.getD j .bad=(es.getD (j / sz) []).getD (j % sz) .bad:=by
    intro j hj
    have hsz:0<sz:=by
     rcases Nat.eq_zero_or_pos sz with h|h
     ·subst h; simp at hj
     ·exact h
    have hd:j / sz<m:=Nat.div_lt_of_lt_mul (by rw[Nat.mul_comm]; exact hj)
    refine⟨by omega,Nat.mod_lt _ hsz,?_⟩
    have key:∀ (l:List (List AV)) (j:Nat),(∀e ∈ l,e.length=sz)→l.flatten.getD j .bad=(l.getD (j / sz) []).getD (j % sz) .bad:=by
     intro l
     induction l with
     |nil=>intro j _; simp
     |cons a r ih=>
      intro j hl
      have ha:=hl a List.mem_cons_self
      rw[List.flatten_cons,qJ ha]
      by_cases hlt:j<sz
      ·rw[if_pos hlt,Nat.div_eq_of_lt hlt,Nat.mod_eq_of_lt hlt]; rfl
      ·rw[if_neg hlt,ih (j - sz) (fun e he=>hl e (List.mem_cons_of_mem _ he))]
       have e1:j / sz=(j - sz) / sz+1:=by
        rw[Nat.div_eq_sub_div hsz (by omega)]
       have e2:j % sz=(j - sz) % sz:=by
        rw[Nat.mod_eq_sub_mod (by omega)]
       rw[e1,e2]; simp
    rw[key _ _ (fun e he=>hs e (List.mem_of_mem_take he))]
    congr 1
    simp[List.getD_eq_getElem?_getD,List.getElem?_take,hd]
   refine .bv _ 0 b q (fun j=>c (j / sz) (j % sz)) hI (fun j hj=> ?_) (fun j hj=> ?_) (fun j hj=> ?_)
   ·rw[hfl]at hj
    obtain⟨a1,a2,_⟩:=Bq j hj
    exact h1 _ _ a1 a2
   ·rw[hfl]at hj
    obtain⟨a1,a2,_⟩:=Bq j hj
    have:=hcell _ _ a1 a2
    have e:q+j / sz*sz+j % sz=q+j:=by rw[Nat.add_assoc,Nat.div_add_mod' j sz]
    rwa[e]at this
   ·rw[hfl]at hj
    obtain⟨a1,a2,a3⟩:=Bq j hj
    rw[a3]; exact hr _ _ a1 a2
theorem sD {neg:Bool} {t k e:TypeId} {y:Operand} {x:Operand} {q:Option Nat} {w:World} (hu:P.underlying t=some (.map k e)):
  (do eqGuard (if neg then .neq else .eql) t x y (.map q) (.map none); binOp (if neg then .neq else .eql) t (.map q) (.map none):Sem Value).run P w= .ok (.bool (if neg then !q.isNone else q.isNone)) w:=by
 have e1:=run_equal_map_nil (P:=P) (w:=w) t k e q hu
 cases neg<;>simp[Sem.run_bind,eqGuard,binOp,e1]
theorem mW {neg:Bool} {t k e yt:TypeId} {x:Operand} {b:Bool} {Ml:Mem} (hM:M=ae Ml) (ho:o.op= .binOp (if neg then .neq else .eql) t x (.const (.map none)) yt) (hu:P.underlying t=some (.map k e))
  (hx:(ev F x= .ci∧b=true)∨(∃n bl,ev F x= .omap n∧ae Ml n=some bl∧bl.ln=0)∧b=false):bP P X o F M (.bool (if neg then !b else b)) [] []:=by
 have hx':x ∈ o.op.operands.toList:=by simp[ho,Op.operands]
 refine aJ fun M' N ρ I ac w hW hU hN=> ?_
 have r1:=ay hU x hx'
 have key:∃q:Option Nat,ac.eval x= .map q∧q.isNone=b:=by
  rcases hx with⟨h,rfl⟩|⟨⟨n,bl,h,hb,hl⟩,rfl⟩
  ·rw[h]at r1
   generalize ac.eval x=v at r1
   cases r1
   exact⟨none,rfl,rfl⟩
  ·rw[h]at r1
   obtain⟨sl,ee,er⟩:=bz (F:=F) x hx' (n:=n) (by rw[h]; simp[AV.names])
   have cy:M' n=some bl:=(hN sl ee n er).trans (by rw[hM]; exact hb)
   have dJ:lens M' n=some (0,bl.sz):=by rw[aH]; exact⟨bl,cy,hl,rfl⟩
   generalize ac.eval x=v at r1
   cases r1 with
   |omap _ _ hn h1 h=>
    obtain⟨g,cap,_,hv⟩:=h _ dJ
    exact⟨_,hv,rfl⟩
 obtain⟨q,hv,hq⟩:=key
 refine⟨_,?_,.bool _⟩
 have e1:=sD (P:=P) (neg:=neg) (y:= .const (.map none)) (x:=x) (q:=q) (w:=w) hu
 rw[hq]at e1
 have hc:ac.eval (.const (.map none))= .map none:=rfl
 simp only[execOp,ho,hv,hc]
 simp only[Sem.run_bind]at e1 ⊢
 rw[e1]
 simp
end Go.AM
