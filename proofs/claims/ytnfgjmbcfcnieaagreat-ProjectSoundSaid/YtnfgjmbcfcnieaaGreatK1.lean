/- Of the reckoning machine, and what is proved with it: texts joined by program. -/
import Derived.Test.YtnfgjmbcfcnieaaGreatK0
import Derived.RangeFuncRecord
import Derived.Laws.StructEq
import Derived.ChangeKeysEq
import Derived.Laws.Cover3
import Derived.Laws.Pointers
import Derived.Laws.BytesString
import Derived.Laws.MakeOwn
import Derived.Lib.ConvBytes
import Derived.WideKeyRuns
set_option linter.all false
namespace Go.AM
open Go.RowKit
def mn (w:World) (l:Nat):Prop:=∀off,w.cell? ⟨l,off,none⟩=none
theorem oB {w:World} {l:Nat} {r:Loop} (h:w.heap[l]? =some (.loop r)):mn w l:=fun off=>by simp[World.cell?,h]
theorem qy {w:World} {l:Nat} {r:Option (List Deferred)} (h:w.heap[l]? =some (.deferred r)):mn w l:=fun off=>by simp[World.cell?,h]
theorem dK {w:World} {l k:Nat} {o:Obj} (h:k≠l):(w.putObj l o).heap[k]? =w.heap[k]? :=World.putObj_heap_other (by omega)
theorem putObj_size (w:World) (l:Nat) (o:Obj):(w.putObj l o).heap.size=w.heap.size:=by simp[World.putObj]
theorem u' {w:World} {l:Nat} {o:Obj} (hc:mn w l) {b off:Nat} {v:Value} (h:w.cell? ⟨b,off,none⟩=some v):(w.putObj l o).cell? ⟨b,off,none⟩=some v:=by
 have hb:b≠l:=fun e=>by subst e; rw[hc]at h; simp at h
 exact (cell_of_heap (dK hb)).trans h
theorem aN.CY {ρ:Place} {L:ba} {I:Nat→Prop} {w:World} {l:Nat} (o:Obj) (hc:mn w l) {N:Nat→Prop} {a:AV} {v:Value} (h:aN ρ L I w N a v):aN ρ L I (w.putObj l o) N a v:=by
 induction h with
 |int k n=>exact .int k n
 |bool b=>exact .bool b
 |str s=>exact .str s
 |bP=>exact .bP
 |ao=>exact .ao
 |aw=>exact .aw
 |dS=>exact .dS
 |cb=>exact .cb
 |mS n r=>exact .mS n r
 |loc n len i off v hn h1 h=>exact .loc n len i off v hn h1 h
 |bc n len v hn h1 h=>exact .bc n len v hn h1 h
 |dX n len i off bY v hn h1 h=>exact .dX n len i off bY v hn h1 h
 |omap n v hn h1 h=>exact .omap n v hn h1 h
 |cO sz a cap hc=>exact .cO sz a cap hc
 |aJ sz es b o cap c hl nM hI hs h1 hcell hr ih=>exact .aJ sz es b o cap c hl nM hI hs h1 (fun i j hi hj=>u' hc (hcell i j hi hj)) ih
 |bi e off b o c hI h1 hcell hr ih=>exact .bi e off b o c hI h1 (fun j hj=>u' hc (hcell j hj)) ih
 |bR f aS vs hl hr ih=>exact .bR f aS vs hl ih
 |qf f aS vs hl hr ih=>exact .qf f aS vs hl ih
 |agg cs vs hl h1 hr ih=>exact .agg cs vs hl h1 ih
 |aP cs vs hl hr ih=>exact .aP cs vs hl ih
 |bad v=>exact .bad v
section
variable {C:cq} {ρ:Place} {I:Nat→Prop} {M:br} {N:Nat→Prop} {w:World} {l:Nat}
theorem Fv (o:Obj) (hc:mn w l) (hI:I l) {Xg:World} (h0:Xg.heap.size=C.w0.heap.size) {n:Nat} {b:bh} (B:rO C ρ (lens M) I w N n b):rO {C with w0:=Xg} ρ (lens M) I (w.putObj l o) N n b:=by
 refine⟨B.lt,B.even,B.ep,fun g cap hg=> ?_,fun k ka va r sn la hb=> ?_⟩
 rotate_left
 ·obtain⟨g,cap,hg,i1,i2,i3⟩:=B.iter k ka va r sn la hb
  obtain⟨_,_,_,_,jV,_⟩:=B.real g cap hg
  exact⟨g,cap,hg,by show Xg.heap.size≤r; omega,i2,i3.at (dK fun e=>jV (e ▸ hI)) (dK fun e=>i2 (e ▸ hI))⟩
 obtain⟨cs,fr,hc1,CK,jV,ur,Bz,zR,CM,CN⟩:=B.real g cap hg
 have hne:g≠l:=fun e=>jV (e ▸ hI)
 refine⟨cs,fr,hc1.at (dK hne),CK,jV,?_,Bz,zR,CM,fun i j hi hj=> ?_⟩
 ·rcases ur with h|h
  ·exact .inl h
  ·exact .inr (by show Xg.heap.size≤g; omega)
 ·obtain⟨u,hu,pr,hr⟩:=CN i j hi hj
  exact⟨u,hu,pr,hr.CY o hc⟩
theorem c6.CY (h:c6 C ρ I M N w) (o:Obj) (hc:mn w l) (hI:I l) (hl:C.w0.heap.size≤l):c6 C ρ I M N (w.putObj l o):=by
 refine⟨fun n b hb=>Fv o hc hI rfl (h.aU n b hb),h.inj,h.px,fun g hg=>by rw[putObj_size]; exact h.lt g hg,h.old,?_,h.pn,h.EZ,h.par⟩
 exact⟨h.keeps.os,h.keeps.tape,h.keeps.output,h.keeps.drawn,by rw[putObj_size]; exact h.keeps.size,fun g hg hf=>(dK (by omega)).trans (h.keeps.block g hg hf)⟩
theorem c6.MJ (h:c6 C ρ I M N w) (hI:C.I0 l) {o:Obj} (hl:C.w0.heap[l]? =some o):I l∧w.heap[l]? =some o:=
 ⟨h.px l hI,(h.keeps.block l (Array.getElem?_eq_some_iff.1 hl).1 (fun hf=>(h.EZ l hf).2 hI)).trans hl⟩
end
end Go.AM
namespace Go.AM
open Go.RowKit
variable {P:Program} {T:TT} {X:cq}
theorem ye {S:St} {a:Act} {w w1:World} {ρ:Place} {I:Nat→Prop} (hF:jZ ρ I w X S a) {av:AV} {ws:List (Nat × bh)} {v:Value} {aZ:Nat} {nw:List Nat} {d:Option Nat}
  (Aj:∀p ∈ ws,p.1<aZ) (hle:S.nx≤aZ) (hd:∀x,d=some x→x<X.size) (hp:ic X (ab S.M) (· <S.nx) ρ I w av ws v w1):
  ∃ρ1 I1,(∀g,I g→I1 g)∧(∀g,I g→w1.heap[g]? =w.heap[g]?)∧c6 X ρ1 I1 (ab (cP S.M ws)) (· <aZ) w1∧jZ ρ1 I1 w1 X ⟨hQ S.F d av,cP S.M ws,aZ⟩ (a.put d v):=by
 obtain⟨ρ1,I1,E,W,R⟩:=hp
 have hN:∀m,fG (· <S.nx) ws m→m<aZ:=by
  rintro m (h|⟨b,h⟩)
  ·have:m<S.nx:=h
   omega
  ·exact Aj _ h
 have hM:ab (cP S.M ws)=dh (ab S.M) ws:=iJ ws S.M
 refine⟨ρ1,I1,E.px,E.cell,?_,?_,?_,?_⟩
 ·show c6 X ρ1 I1 (ab (cP S.M ws)) (· <aZ) w1
  rw[hM]
  refine⟨fun n b hb=> ?_,W.inj,W.px,W.lt,W.old,W.keeps,fun n hn=>hN n (W.pn n hn),W.EZ,W.par⟩
  have B:=W.aU n b hb
  refine⟨hN n B.lt,B.even,B.ep,fun g cap hρ=> ?_,B.iter⟩
  obtain⟨cs,fr,hc1,CK,jV,ur,Bz,zR,CM,CN⟩:=B.real g cap hρ
  refine⟨cs,fr,hc1,CK,jV,ur,Bz,zR,CM,fun i j hi hj=> ?_⟩
  obtain⟨u,hu,pr,hr⟩:=CN i j hi hj
  exact⟨u,hu,pr,hr.wide hN⟩
 ·intro i
  show aN ρ1 (lens (ab (cP S.M ws))) I1 w1 (· <aZ) (look (hQ S.F d av) i) ((a.put d v).tmps.getD i undef)
  rw[hM]
  rcases x7 (a:=a) (d:=d) (v:=v) (F:=S.F) (av:=av) (i:=i) hF.size hd with⟨h1,h2⟩|⟨h1,h2⟩
  ·rw[h1,h2]; exact R.wide hN
  ·rw[h1,h2]; exact ((hF.rep i).ui E (fun _ h=>h)).wide (fun m h=>by have:m<S.nx:=h; show m<aZ; omega)
 ·cases d<;>exact hF.defers.ui E
 ·cases d with
  |none=>exact hF.size
  |some x=>simpa[Act.put]using hF.size
theorem mo {S:St} {a:Act} {w w1:World} {ρ:Place} {I:Nat→Prop} (hF:jZ ρ I w X S a) {av:AV} {ws:List (Nat × bh)} {v:Value} {aZ:Nat} {nw:List Nat} {d:Option Nat}
  (Aj:∀p ∈ ws,p.1<aZ) (hle:S.nx≤aZ) (hd:∀x,d=some x→x<X.size) (hp:ic X (ab S.M) (· <S.nx) ρ I w av ws v w1):jh X ⟨hQ S.F d av,cP S.M ws,aZ⟩ (a.put d v) w1:=by
 obtain⟨ρ1,I1,_,_,h1,h2⟩:=ye (nw:=nw) hF Aj hle hd hp
 exact⟨ρ1,I1,h1,h2⟩
theorem Fw {a:Act} {F:aY} {b:Bool} {s:Nat} (h:a.tmps.getD s undef= .bool b) (i:Nat):look ((s,AV.bool b)::F) i=AV.bool b∧a.tmps.getD i undef= .bool b∨look ((s,AV.bool b)::F) i=look F i:=by
 by_cases e:i=s
 ·subst e; exact .inl ⟨by simp[look],h⟩
 ·have hb:(i==s)=false:=by simpa using e
  exact .inr (by simp[look,hb])
theorem j5 {S:St} {a:Act} {w:World} {s:Nat} {b:Bool} (h:jh X S a w) (hv:a.tmps.getD s undef= .bool b):jh X ⟨(s,.bool b)::S.F,S.M,S.nx⟩ a w:=by
 obtain⟨ρ,I,W,F⟩:=h
 refine⟨ρ,I,W,fun i=> ?_,F.defers,F.size⟩
 rcases Fw (F:=S.F) hv i with⟨h1,h2⟩|h1
 ·rw[h1,h2]; exact .bool _
 ·rw[h1]; exact F.rep i
theorem iw.steps {b:Frame} {R:St→Prop} {ks qz:List It} {a a':Act} {w w':World} (hs:∀cs,Steps P (lone (b.atR a (ks.map It.item)) cs w) (lone (b.atR a' (qz.map It.item)) cs w')) (hsub:∀c post k',(It.eQ c post::k') <:+ qz→(It.eQ c post::k') <:+ ks)
  (h:iw P X b R qz a' w'):iw P X b R ks a w:=by
 intro cs
 obtain⟨a2,w2,S2,hS,h1|h1⟩:=h cs
 ·obtain⟨todo,hl,h2,h3⟩:=h1
  exact⟨a2,w2,S2,hS,.inl ⟨todo,hl,(hs cs).trans h2,h3⟩⟩
 ·obtain⟨c,post,k',h2,h3,h4⟩:=h1
  exact⟨a2,w2,S2,hS,.inr ⟨c,post,k',hsub _ _ _ h2,(hs cs).trans h3,h4⟩⟩
section
variable {b:Frame} {a:Act} {w:World} {k:List Item} {cs:List Frame}
theorem step_scope {c:Code}:step P (lone (b.atR a (.code (.scope c)::k)) cs w)= .next (lone (b.atR a (.code c:: .inScope c::k)) cs w):=
 step_lone_go (by simp[stepG,stepG.exec,Frame.atR])
theorem step_inScope {c:Code}:step P (lone (b.atR a (.inScope c::k)) cs w)= .next (lone (b.atR a k) cs w):=
 step_lone_go (by simp[stepG,stepG.exec,Frame.atR])
end
theorem si {b:Frame} {a:Act} {w:World} {cs:List Frame} {todo:List Item} (hb:b.roundOf=none) (h:BB b.roundOf.isSome todo):Steps P (lone (b.atR a todo) cs w) (lone {b.atR a todo with mode:= .returning} cs w):=by
 rcases h with rfl|⟨_,k,rfl⟩
 ·exact .one (stepR_end hb)
 ·exact .one (stepR_ret hb)
theorem oC {b:Frame} {a:Act} {w:World} {cs:List Frame} {todo:List Item} {ρ:Place} {I:Nat→Prop} {M:br} {N:Nat→Prop} (W:c6 X ρ I M N w) (hd:lE I w X a.defers):
  ∃w1,Steps P (lone {b.atR a todo with mode:= .returning} cs w) (lone {b.atR {a with defers:=[]} todo with mode:= .returning} cs w1)∧c6 X ρ I M N w1∧
   ∀N' av v,aN ρ (lens M) I w N' av v→aN ρ (lens M) I w1 N' av v:=by
 obtain⟨Ds,h1,h2,h3⟩:=hd
 obtain⟨tm,ds⟩:=a
 simp only at h1
 subst h1
 induction Ds generalizing w with
 |nil=>exact⟨w,.refl _ _,W,fun _ _ _ h=>h⟩
 |cons D Ds ih=>
  obtain⟨k1,k2,k3⟩:=h3 D List.mem_cons_self
  rw[List.nodup_cons]at h2
  have W':=W.CY (.deferred none) (qy k3) k2 k1
  obtain⟨w1,s1,s2,s3⟩:=ih W' h2.2 (fun D' gZ=>by
   obtain⟨q1,q2,q3⟩:=h3 D' (List.mem_cons_of_mem _ gZ)
   exact⟨q1,q2,(dK (fun e=>h2.1 (by rw[←e]; exact gZ))).trans q3⟩)
  refine⟨w1,.head (step_lone_go ?_) s1,s2,fun N' av v h=>s3 _ _ _ (h.CY _ (qy k3))⟩
  simp[stepG,unwind,Frame.atR,run_takeDeferred k3]
theorem eV {c:Lo} {post:St→Prop} {k' k:List It} {x y:It} (hx:∀c p,x≠ .eQ c p) (h:(It.eQ c post::k') <:+ x::k):(It.eQ c post::k') <:+ y::k:=by
 rcases List.suffix_cons_iff.1 h with h|h
 ·exact (hx c post (List.cons.inj h).1.symm).elim
 ·exact h.trans (List.suffix_cons _ _)
theorem gT {c:Lo} {post:St→Prop} {k' k:List It} {y:It} (h:(It.eQ c post::k') <:+ k):(It.eQ c post::k') <:+ y::k:=h.trans (List.suffix_cons _ _)
theorem ee {id:Nat}:∀ {k k':List It},Lr id k=some k'→k' <:+ k∧exitTo id (k.map It.item)=some (k'.map It.item)
 |[],k',h=>by simp[Lr]at h
 | .aU id'::k,k',h=>by
   simp only[Lr]at h
   by_cases QH:id'=id
   ·subst QH
    simp at h
    subst h
    exact⟨List.suffix_cons _ _,by simp[It.item,exitTo]⟩
   ·have hb:(id'==id)=false:=by simpa using QH
    rw[hb]at h
    obtain⟨h1,h2⟩:=ee (k:=k) h
    exact⟨h1.trans (List.suffix_cons _ _),by simp[It.item,exitTo,hb,h2]⟩
 | .code c::k,k',h=>by
   obtain⟨h1,h2⟩:=ee (k:=k) h
   exact⟨h1.trans (List.suffix_cons _ _),by simp[It.item,exitTo,h2]⟩
 | .inl c::k,k',h=>by
   obtain⟨h1,h2⟩:=ee (k:=k) h
   exact⟨h1.trans (List.suffix_cons _ _),by simp[It.item,exitTo,h2]⟩
 | .eQ c p::k,k',h=>by
   obtain⟨h1,h2⟩:=ee (k:=k) h
   exact⟨h1.trans (List.suffix_cons _ _),by cases c<;>simp[It.item,Lo.item,exitTo,h2]⟩
 | .mf c::k,k',h=>by
   obtain⟨h1,h2⟩:=ee (k:=k) h
   exact⟨h1.trans (List.suffix_cons _ _),by simp[It.item,exitTo,h2]⟩
 | .ops all i r gd::k,k',h=>by
   obtain⟨h1,h2⟩:=ee (k:=k) h
   exact⟨h1.trans (List.suffix_cons _ _),by simp[It.item,exitTo,h2]⟩
theorem MK {size id:Nat} {nr:Bool} {k k':List It} (h:Lr id k=some k') (hk:∀x ∈ k,CR size nr x):∀x ∈ k',CR size nr x:=fun x hx=>hk x ((ee h).1.subset hx)
theorem Fx {c0:Code} {c:Lo} {post:St→Prop} {k' k:List It} (h:(It.eQ c post::k') <:+ .code c0:: .inl c0::k):(It.eQ c post::k') <:+ .inl c0::k:=by
 rcases List.suffix_cons_iff.1 h with h|h
 ·simp at h
 ·exact h
theorem CZ {c0 c1:Code} {c:Lo} {post:St→Prop} {k' k:List It} (h:(It.eQ c post::k') <:+ .code c0:: .inl c0::k):(It.eQ c post::k') <:+ .code c1::k:=by
 rcases List.suffix_cons_iff.1 h with h|h
 ·simp at h
 ·exact eV (by simp) h
end Go.AM
namespace Go.AM
open Go.RowKit
variable {P:Program} {T:TT} {X:cq}
def cY:Place:=fun _=>none
def ga:ba:=fun _=>none
structure Rl (z:Bool) (w w':World):Prop extends Below w.heap.size w w' where
 drawn:(zd z w).drawn≤w'.drawn
abbrev Blw:=Rl false
def gf (z:Bool) (P:Program) (f:Nat) (args:List AV) (av:AV):Prop:=
 ∀I w vs,(∀g,I g→g<w.heap.size)→dv cY ga I w cH args vs→
  Calls P f vs.toArray w fun e w1=>∃v I1,e= .returned v∧Rl z w w1∧(∀g,I g→I1 g)∧(∀g,I1 g→g<w1.heap.size)∧(∀g,g<w.heap.size→I1 g→I g)∧aN cY ga I1 w1 cH av v
abbrev Ak:=gf false
mutual
theorem gg {N:Nat→Prop}:∀ (a:AV),(∀m ∈ a.names,N m)→a.under N
 | .loc n len i off,h=>by simpa[AV.under]using h n (by simp[AV.names])
 | .bc n len,h=>by simpa[AV.under]using h n (by simp[AV.names])
 | .dX n len i off bY,h=>by simpa[AV.under]using h n (by simp[AV.names])
 | .omap n,h=>by simpa[AV.under]using h n (by simp[AV.names])
 | .bR f cs,h=>by simpa[AV.under]using dP cs (fun m hm=>h m (by simpa[AV.names]using hm))
 | .agg cs,h=>by simpa[AV.under]using dP cs (fun m hm=>h m (by simpa[AV.names]using hm))
 | .aP cs,h=>by simpa[AV.under]using dP cs (fun m hm=>h m (by simpa[AV.names]using hm))
 | .int ..,_=>by simp[AV.under]
 | .bool ..,_=>by simp[AV.under]
 | .str ..,_=>by simp[AV.under]
 | .bP,_=>by simp[AV.under]
 | .ao,_=>by simp[AV.under]
 | .aw,_=>by simp[AV.under]
 | .dS,_=>by simp[AV.under]
 | .cb,_=>by simp[AV.under]
 | .mS ..,_=>by simp[AV.under]
 | .aJ ..,_=>by simp[AV.under]
 | .bi ..,_=>by simp[AV.under]
 | .bad,_=>by simp[AV.under]
theorem dP {N:Nat→Prop}:∀ (cs:List AV),(∀m ∈ AV.aB cs,N m)→AV.fR N cs
 |[],_=>by simp[AV.fR]
 |c::cs,h=>by
  simp only[AV.fR]
  exact⟨gg c (fun m hm=>h m (by simp[AV.aB,hm])),dP cs (fun m hm=>h m (by simp[AV.aB,hm]))⟩
end
theorem aN.alone {ρ:Place} {L:ba} {I:Nat→Prop} {w:World} {N:Nat→Prop} {a:AV} {v:Value} (h:aN ρ L I w N a v) (hn:a.names=[]) (ρ':Place) (L':ba):aN ρ' L' I w cH a v:=
 (h.low (N':=cH) (gg a (fun m hm=>by rw[hn]at hm; simp at hm))).bare (fun _ h=>h) ρ' L'
theorem dL {cs:List AV} (h:AV.aB cs=[]) (j:Nat):(cs.getD j .bad).names=[]:=by
 induction cs generalizing j with
 |nil=>simp[AV.names]
 |cons c cs ih=>
  simp only[AV.aB,List.append_eq_nil_iff]at h
  cases j with
  |zero=>simpa using h.1
  |succ j=>simpa using ih h.2 j
theorem dv.alone {ρ:Place} {L:ba} {I:Nat→Prop} {w:World} {N:Nat→Prop} {as:List AV} {vs:List Value} (h:dv ρ L I w N as vs) (hn:AV.aB as=[]) (ρ':Place) (L':ba):dv ρ' L' I w cH as vs:=
 ⟨h.1,fun j hj=>(h.2 j hj).alone (dL hn j) ρ' L'⟩
theorem gf.Ro {z:Bool} {f:Nat} {args:List AV} {av:AV} (h:gf z P f args av) (hz:wz z X) (hn:AV.aB args=[]) (M:br):qg P X f args M av [] []:=by
 refine⟨fun p hp=>by simp at hp,fun M' N ρ I w vs hW _ _ hR=> ?_⟩
 refine (h I w vs hW.lt (hR.alone hn _ _)).mono ?_
 rintro e w1 ⟨v,I1,rfl,hb,h1,h2,h3,hr⟩
 obtain⟨E,W⟩:=hW.ext' (w':=w1) (I':=I1) hb.os hb.tape hb.output hb.size hb.block h1 h2 h3 (hz.le hW.keeps.drawn hb.drawn)
 refine⟨v,rfl,ρ,I1,E,by rw[pF]; exact W,?_⟩
 exact ((hr.bare (fun _ h=>h) ρ (lens M')).wide (fun _ h=>h.elim))
def cx (P:Program) (f:Nat):Prop:=∃fn,P.funcs[f]? =some fn∧(fn.name== "runtime.NumGoroutine")=false∧fn.body.isNone=false
def oD (T:TT):List ResultVar→aY→Mem→(List AV→Prop)→Prop
 |[],_,_,K=>K []
 | .tmp t::r,F,M,K=>oD T r F M fun vs=>K (look F t::vs)
 | .cell a t::r,F,M,K=>jk (T.d t).ok (mT T t (look F a) M fun v=>oD T r F M fun vs=>K (v::vs))
def one (vs:List AV):AV:=match vs with
 |[v]=>v
 |vs=> .aP vs
section
variable {I:Nat→Prop} {w:World} {ρ:Place} {M:Mem} {N:Nat→Prop}
def rA (tmps:Array Value):ResultVar→Sem Value
 | .tmp t=>pure (tmps.getD t undef)
 | .cell a t=>do loadVar t (←asAddr (tmps.getD a undef))
theorem lK (hT:dj P T) (hW:c6 X ρ I (ab M) N w) {F:aY} {tmps:Array Value} (hF:∀i,aN ρ (lens (ab M)) I w N (look F i) (tmps.getD i undef)):∀ {rs:List ResultVar} {K:List AV→Prop},oD T rs F M K→
  ∃gq vs,K gq∧dv ρ (lens (ab M)) I w N gq vs∧(rs.mapM (rA tmps)).run P w= .ok vs w∧vs.length=rs.length
 |[],K,h=>⟨[],[],h,⟨rfl,fun j hj=>by simp at hj⟩,rfl,rfl⟩
 | .tmp t::r,K,h=>by
   obtain⟨gq,vs,h1,h2,h3,h4⟩:=lK hT hW hF (rs:=r) h
   refine⟨_,tmps.getD t undef::vs,h1,⟨by simp[h2.1],fun j hj=> ?_⟩,?_,by simp[h4]⟩
   ·cases j with
    |zero=>simpa using hF t
    |succ j=>simpa using h2.2 j (by simpa using hj)
   ·simp only[List.mapM_cons,Sem.run_bind,Sem.run_pure,Result.andThen_ok,rA,h3]
 | .cell a t::r,K,h=>by
   simp only[oD]at h
   obtain⟨hok,h⟩:=az h
   have Rp:∃av,(∃v ad,tmps.getD a undef= .pointer (some ad)∧(loadVar t ad).run P w= .ok v w∧aN ρ (lens (ab M)) I w N av v)∧oD T r F M fun vs=>K (av::vs):=by
    cases hl:look F a with
    |loc n len i off=>
     rw[hl]at h
     simp only[mT,alive]at h
     cases hb:ab M n with
     |none=>rw[hb]at h; exact h.elim
     |some b=>
      rw[hb]at h
      obtain⟨hc1,hmp,h2⟩:=az h
      obtain⟨av,ha1,ha2,qT,hk⟩:=fy h2
      have hlen:b.ln=len:=by simpa using hc1
      have dQ:lens (ab M) n=some (len,b.sz):=by rw[aC]; exact⟨b,hb,hlen,rfl⟩
      have hr:=hF a
      rw[hl]at hr
      obtain⟨hn,g,cap,hρ,hv⟩:=fV hr dQ
      obtain⟨f,hf⟩:=(hW.aU n b hb).row hmp hρ i
      obtain⟨v,EM,Mx⟩:=ew (K:=fun _=>True) hT hok (off:=off) f hf ha1 ha2 qT
      exact⟨av,⟨v,_,hv,EM,Mx⟩,hk⟩
    |bi e off=>
     rw[hl]at h
     simp only[mT]at h
     obtain⟨av,ha1,ha2,qT,hk⟩:=fy h
     have hr:=hF a
     rw[hl]at hr
     generalize Xf:tmps.getD a undef=vv at hr
     cases hr with
     |bi _ _ b q c hI h1 hcell hr=>
      obtain⟨v,EM,Mx⟩:=ew (K:=fun _=>True) (N:=N) hT hok (off:=off) c (fun j hj=>⟨hcell j hj,h1 j hj,(hr j hj).wide (fun _ h=>h.elim)⟩) ha1 ha2 qT
      exact⟨av,⟨v,_,rfl,EM,Mx⟩,hk⟩
    |_=>rw[hl]at h; exact h.elim
   obtain⟨av,⟨v,ad,hv,hrun,wx⟩,hk⟩:=Rp
   obtain⟨gq,vs,h1,h2,h3,h4⟩:=lK hT hW hF (rs:=r) hk
   refine⟨_,v::vs,h1,⟨by simp[h2.1],fun j hj=> ?_⟩,?_,by simp[h4]⟩
   ·cases j with
    |zero=>simpa using wx
    |succ j=>simpa using h2.2 j (by simpa using hj)
   ·simp only[List.mapM_cons,Sem.run_bind,Sem.run_pure,Result.andThen_ok,rA,hv,asAddr,hrun,h3]
theorem IQ {I:Nat→Prop} {w:World} {ρ:Place} {L:ba} {N:Nat→Prop} {gq:List AV} {vs:List Value} (h:dv ρ L I w N gq vs):
  aN ρ L I w N (one gq) (if h:vs.toArray.size=1 then vs.toArray[0]else .tuple vs.toArray):=by
 obtain⟨hl,hr⟩:=h
 cases gq with
 |nil=>
  cases vs with
  |nil=>exact .aP [] [] rfl (fun j hj=>by simp at hj)
  |cons _ _=>simp at hl
 |cons a r=>
  cases vs with
  |nil=>simp at hl
  |cons v q=>
   cases r with
   |nil=>
    cases q with
    |nil=>exact hr 0 (by simp)
    |cons _ _=>simp at hl
   |cons b r=>
    cases q with
    |nil=>simp at hl
    |cons u q=>
     have:¬ (v::u::q).toArray.size=1:=by simp
     rw[dif_neg this]
     exact .aP _ _ hl hr
theorem mZ (hT:dj P T) (hW:c6 X ρ I (ab M) N w) {F:aY} {tmps:Array Value} (hF:∀i,aN ρ (lens (ab M)) I w N (look F i) (tmps.getD i undef)) {fn:Func} {K:List AV→Prop} (h:oD T fn.results.toList F M K):
  ∃gq v,K gq∧(results fn tmps).run P w= .ok v w∧aN ρ (lens (ab M)) I w N (one gq) v:=by
 obtain⟨gq,vs,h1,h2,h3,h4⟩:=lK hT hW hF h
 have hrun:(results fn tmps).run P w= .ok (if h:vs.toArray.size=1 then vs.toArray[0]else .tuple vs.toArray) w:=by
  unfold results
  have e:∀g:ResultVar→Sem Value,(∀r,g r=rA tmps r)→(List.mapM g fn.results.toList).run P w= .ok vs w:=fun g hg=>by rw[funext hg]; exact h3
  simp only[Sem.run_bind,Array.mapM_eq_mapM_toList,Sem.run_map]
  rw[e _ (fun r=>by cases r<;>rfl)]
  simp only[Result.andThen_ok,Sem.run_pure]
 refine⟨gq,_,h1,hrun,?_⟩
 exact IQ h2
end
def nQ (i:Nat):List AV→aY
 |[]=>[]
 |a::r=>(i,a)::nQ (i+1) r
theorem pJ:∀ (as:List AV) (i j:Nat),look (nQ i as) j=if i≤j∧j<i+as.length then as.getD (j - i) .bad else .bad
 |[],i,j=>by simp only[nQ,look,List.length_nil]; rw[if_neg (by omega)]
 |a::r,i,j=>by
  by_cases h:j=i
  ·subst h; simp[nQ,look]
  ·have hb:(j==i)=false:=by simpa using h
   simp only[nQ,look,hb,cond_false,pJ r (i+1) j,List.length_cons]
   by_cases h2:i+1≤j∧j<i+1+r.length
   ·rw[if_pos h2,if_pos (by omega)]
    have:j - i=(j - (i+1))+1:=by omega
    rw[this]; simp
   ·rw[if_neg h2,if_neg (by omega)]
def Yr (w:World) (I:Nat→Prop) (size:Nat):cq:=⟨w,0,I,size,cY,ga⟩
mutual
def AV.fit:AV→Prop
 | .aJ _ es=>es.length≤maxLen∧AV.C0 es
 | .agg cs=>AV.lL cs
 | .aP cs=>AV.lL cs
 | .bR _ cs=>AV.lL cs
 | .bi e _=>AV.lL e
 |_=>True
def AV.lL:List AV→Prop
 |[]=>True
 |c::r=>AV.fit c∧AV.lL r
def AV.C0:List (List AV)→Prop
 |[]=>True
 |e::r=>AV.lL e∧AV.C0 r
end
theorem jz:∀ (cs:List AV),(∀j,j<cs.length→(cs.getD j .bad).fit)→AV.lL cs
 |[],_=>by simp[AV.lL]
 |c::r,h=>by
  simp only[AV.lL]
  exact⟨by simpa using h 0 (by simp),jz r (fun j hj=>by simpa using h (j+1) (by simpa using hj))⟩
theorem yf:∀ (es:List (List AV)),AV.C0 es↔∀e ∈ es,AV.lL e
 |[]=>by simp[AV.C0]
 |e::r=>by simp[AV.C0,yf r]
theorem aN.fit {ρ:Place} {L:ba} {I:Nat→Prop} {w:World} {N:Nat→Prop} {a:AV} {v:Value} (h:aN ρ L I w N a v):a.fit:=by
 induction h with
 |cO=>simp[AV.fit,AV.C0]
 |aJ sz es b o cap c hl hc hI hs h1 hcell hr ih=>
  simp only[AV.fit]
  refine⟨by omega,(yf es).2 fun e he=> ?_⟩
  obtain⟨i,hi,rfl⟩:=List.getElem_of_mem he
  have hel:es.getD i []=es[i]:=by simp[List.getD_eq_getElem?_getD,hi]
  refine jz _ fun j hj=> ?_
  have:=ih i j hi (by rw[←hs _ (List.getElem_mem hi)]; exact hj)
  rwa[hel]at this
 |bi e off b o c hI h1 hcell hr ih=>simp only[AV.fit]; exact jz _ ih
 |bR f aS vs hl hr ih=>simp only[AV.fit]; exact jz _ ih
 |qf f aS vs hl hr ih=>simp only[AV.fit]; exact jz _ ih
 |agg cs vs hl h1 hr ih=>simp only[AV.fit]; exact jz _ ih
 |aP cs vs hl hr ih=>simp only[AV.fit]; exact jz _ ih
 |_=>simp[AV.fit]
theorem dv.fit {ρ:Place} {L:ba} {I:Nat→Prop} {w:World} {N:Nat→Prop} {as:List AV} {vs:List Value} (h:dv ρ L I w N as vs):AV.lL as:=
 jz _ fun j hj=>(h.2 j hj).fit
end Go.AM
namespace Go.AM
open Go.RowKit
def IR:TypeDesc→TD
 | .bool=> .bool
 | .int k=> .int k
 | .string=> .str
 | .pointer e=> .ptr e
 | .slice e=> .slice e
 | .array n e=> .arr n e
 | .map k e=> .map k e
 | .struct fs=> .struct (fs.toList.map fun f=>(f.offset,f.type))
 | .func .. => .func
 | .interface _=> .iface
 | .tuple _=> .aP
 |_=> .other
def Xh (P:Program) (t:Nat):TD:=match P.underlying t,P.info? t with
 |some D,some i=>bif Nat.ble i.bytes 131072&&i.zero.isSome then IR D else .other
 |_,_=> .other
def Ys (P:Program) (t:Nat):Nat:=match P.info? t with
 |some i=>i.size
 |none=>0
def Yt (P:Program) (t:Nat):AV:=match P.info? t with
 |some i=>(match i.zero with
  |some z=>Ln z
  |none=> .bad)
 |none=> .bad
def Al (P:Program):TT:=⟨Xh P,Ys P,Yt P⟩
theorem C1:∀D:TypeDesc,IR D≠ .other→(IR D).fits D:=by
 intro D h
 cases D<;>simp_all[IR,TD.fits]
theorem IS (P:Program):dj P (Al P):=by
 intro t ht
 simp only[Al,Xh]at ht
 cases hD:P.underlying t with
 |none=>rw[hD]at ht; exact (ht rfl).elim
 |some D=>
  cases hi:P.info? t with
  |none=>rw[hD,hi]at ht; exact (ht rfl).elim
  |some i=>
   rw[hD,hi]at ht
   simp only at ht
   cases hc:Nat.ble i.bytes 131072&&i.zero.isSome with
   |false=>rw[hc]at ht; exact (ht rfl).elim
   |true=>
    rw[hc]at ht
    simp only[Bool.and_eq_true,Option.isSome_iff_exists]at hc
    obtain⟨hb,z,hz⟩:=hc
    refine⟨D,i,z,rfl,?_,rfl,?_,Nat.le_of_ble_eq_true hb,hz,?_⟩
    ·simp only[Al,Xh,hD,hi,hz,hb,Option.isSome_some,Bool.and_self,cond_true]
     exact C1 D ht
    ·simp only[Al,Ys,hi]
    ·simp only[Al,Yt,hi,hz]
def Rq (ds:List TD) (ss:List Nat) (zs:List AV):TT:=⟨fun t=>ds.getD t .other,fun t=>ss.getD t 0,fun t=>zs.getD t .bad⟩
theorem ML {P:Program} {ds:List TD} {ss:List Nat} {zs:List AV} (n:Nat) (h1:(List.range n).map (Xh P)=ds) (h2:(List.range n).map (Ys P)=ss) (h3:(List.range n).map (Yt P)=zs):dj P (Rq ds ss zs):=by
 subst h1; subst h2; subst h3
 intro t ht
 have hlt:t<n:=by
  refine Classical.byContradiction fun h=>ht ?_
  simp[Rq,List.getD_eq_getElem?_getD,h]
 have:=IS P t (by simpa[Rq,Al,List.getD_eq_getElem?_getD,hlt]using ht)
 simpa[Rq,Al,List.getD_eq_getElem?_getD,hlt]using this
end Go.AM
namespace Go.AM
open Go.RowKit
inductive LK where
 |i|b|s
def lr (n:Nat) (l:List LK):List LK:=(List.replicate n l).flatten
def wM (P:Program) (f:Nat→Option (List LK)):List Field→Nat→Option (List LK)
 |[],_=>some []
 |x::r,off=>if x.name != "_" &&x.offset==off then (match f x.type,P.info? x.type with
  |some l,some i=>if i.size==l.length then (wM P f r (off+l.length)).map (l++ ·)else none
  |_,_=>none)else none
def mr (P:Program):Nat→Nat→Option (List LK)
 |0,_=>none
 |d+1,t=>match P.underlying t with
  |some .bool=>some [.b]
  |some (.int _)=>some [.i]
  |some .string=>some [.s]
  |some (.struct fs)=>if P.stoodInHeld t then none else wM P (mr P d) fs.toList 0
  |some (.array n e)=>(match mr P d e,P.info? e with
   |some l,some i=>if i.size==l.length then some (lr n l)else none
   |_,_=>none)
  |_=>none
def aM (P:Program) (t:Nat):Bool:=match P.underlying t with
 |some (.struct _)=>true
 |some (.array _ _)=>true
 |_=>false
inductive MM:LK→Value→Value→Bool→Prop
 |i (k:IntKind) (x y:Int):MM .i (.int k x) (.int k y) (x==y)
 |b (x y:Bool):MM .b (.bool x) (.bool y) (x==y)
 |s (x y:List UInt8):MM .s (.string ⟨x.toArray⟩) (.string ⟨y.toArray⟩) (x==y)
inductive mJ:List LK→List Value→List Value→List Bool→Prop
 |nil:mJ [] [] [] []
 |cons {l ls v vs u us r rs} (h:MM l v u r) (t:mJ ls vs us rs):mJ (l::ls) (v::vs) (u::us) (r::rs)
theorem mJ.split:∀ {l1 l2:List LK} {vs us:List Value} {rs:List Bool},mJ (l1++l2) vs us rs→
  ∃v1 v2 u1 u2 r1 r2,vs=v1++v2∧us=u1++u2∧rs=r1++r2∧mJ l1 v1 u1 r1∧mJ l2 v2 u2 r2∧v1.length=l1.length∧u1.length=l1.length
 |[],l2,vs,us,rs,h=>⟨[],vs,[],us,[],rs,rfl,rfl,rfl,.nil,h,rfl,rfl⟩
 |a::l1,l2,_,_,_,.cons (v:=v) (u:=u) (r:=r) h t=>by
  obtain⟨v1,v2,u1,u2,r1,r2,rfl,rfl,rfl,h1,h2,h3,h4⟩:=t.split (l1:=l1)
  exact⟨v::v1,v2,u::u1,u2,r::r1,r2,rfl,rfl,rfl,.cons h h1,h2,by simp[h3],by simp[h4]⟩
def valOf (ag:Bool) (vs:List Value):Value:=if ag then .agg vs.toArray else vs.headD default
theorem wN {P:Program} {w:World} {t:Nat} {D:TypeDesc} (h:P.underlying t=some D):(isAgg t).run P w= .ok (aM P t) w:=by
 unfold isAgg aM
 simp only[Sem.run_bind,run_underlying h,Result.andThen_ok,h]
 cases D<;>rfl
theorem fI {P:Program} {w:World} {t:Nat} {D:TypeDesc} {i:TypeInfo} (h:P.underlying t=some D) (hi:P.info? t=some i) {pre mid post:List Value} (hm:mid.length=i.size) (h1:aM P t=false→mid.length=1):
  (part t (pre++(mid++post)).toArray pre.length).run P w= .ok (valOf (aM P t) mid) w:=by
 unfold part
 simp only[Sem.run_bind,wN h,Result.andThen_ok]
 cases jm:aM P t with
 |true=>
  simp only[if_pos,Sem.run_bind,bF hi,Result.andThen_ok,Sem.run_pure,valOf]
  have:(pre++(mid++post)).toArray.extract pre.length (pre.length+i.size)=mid.toArray:=by
   apply Array.ext'
   simp[←hm]
  rw[this]
 |false=>
  obtain⟨v,rfl⟩:∃v,mid=[v]:=List.length_eq_one_iff.1 (h1 jm)
  simp[valOf]
theorem jA {P:Program}:∀ {d t:Nat} {ls:List LK},mr P d t=some ls→aM P t=false→ls.length=1
 |0,_,_,h,_=>by simp[mr]at h
 |d+1,t,ls,h,ha=>by
  unfold mr at h
  unfold aM at ha
  split at h<;>simp_all<;>first|(rw[←h]; rfl)|skip
theorem BG {P:Program}:∀ {d t:Nat} {ls:List LK},mr P d t=some ls→∃D,P.underlying t=some D
 |0,_,_,h=>by simp[mr]at h
 |d+1,t,ls,h=>by
  unfold mr at h
  cases hu:P.underlying t with
  |none=>rw[hu]at h; simp at h
  |some D=>exact⟨D,rfl⟩
theorem ik {P:Program}:∀ (d:Nat) (m t:Nat) (ls:List LK) (w:World) (vs us:List Value) (rs:List Bool),mr P d t=some ls→mJ ls vs us rs→
  (Op.equalIn (d+m) t (valOf (aM P t) vs) (valOf (aM P t) us)).run P w= .ok (rs.all id) w
 |0,_,_,_,_,_,_,_,h,_=>by simp[mr]at h
 |d+1,m,t,ls,w,vs,us,rs,h,hv=>by
  have e:d+1+m=(d+m)+1:=by omega
  rw[e]
  have ih:=ik (P:=P) d m
  unfold mr at h
  cases hu:P.underlying t with
  |none=>rw[hu]at h; simp at h
  |some D=>
   rw[hu]at h
   cases D<;>simp only[reduceCtorEq]at h
   case bool=>
    obtain rfl:[LK.b]=ls:=by simpa using h
    have ha:aM P t=false:=by simp[aM,hu]
    rcases hv with _|⟨hl,ht⟩
    cases hl; cases ht
    rw[ha]
    simp only[valOf,Bool.false_eq_true,if_false,List.headD_cons]
    rw[run_equalIn_bool' _ _ _ _ _ hu]; simp
   case int k=>
    obtain rfl:[LK.i]=ls:=by simpa using h
    have ha:aM P t=false:=by simp[aM,hu]
    rcases hv with _|⟨hl,ht⟩
    cases hl; cases ht
    rw[ha]
    simp only[valOf,Bool.false_eq_true,if_false,List.headD_cons]
    rw[run_equalIn_int _ _ _ _ _ _ _ hu]; simp
   case string=>
    obtain rfl:[LK.s]=ls:=by simpa using h
    have ha:aM P t=false:=by simp[aM,hu]
    rcases hv with _|⟨hl,ht⟩
    cases hl; cases ht
    rw[ha]
    simp only[valOf,Bool.false_eq_true,if_false,List.headD_cons]
    rw[run_equalIn_string _ _ _ _ _ hu]
    simp[ByteArray.toList_eq]
   case struct fs=>
    have ha:aM P t=true:=by simp[aM,hu]
    have Xc:P.fieldsOf t=fs:=by simp[Program.fieldsOf,hu]
    cases hst:P.stoodInHeld t with
    |true=>simp[hst]at h
    |false=>
     simp only[hst,Bool.false_eq_true,if_false]at h
     rw[ha]
     simp only[valOf,if_pos]
     rw[run_equalIn_struct w (d+m) t _ _ (by rw[Xc]; exact hu) hst,Xc]
     have go:∀ (fl:List Field) (off:Nat) (ls:List LK) (w:World) (p q vs us:List Value) (rs:List Bool),wM P (mr P d) fl off=some ls→mJ ls vs us rs→p.length=off→q.length=off→
       (Op.eqFields (d+m) (p++vs).toArray (q++us).toArray fl).run P w= .ok (rs.all id) w:=by
      intro fl
      induction fl with
      |nil=>
       intro off ls w p q vs us rs hl hv _ _
       obtain rfl:[]=ls:=by simpa[wM]using hl
       cases hv
       simp[Op.eqFields]
      |cons f fl ihf=>
       intro off ls w p q vs us rs hl hv hp hq
       simp only[wM]at hl
       split at hl
       ·rename_i hc
        simp only[Bool.and_eq_true,bne_iff_ne,ne_eq,beq_iff_eq]at hc
        split at hl
        ·rename_i l i yg EP
         split at hl
         ·rename_i hsz
          have hsz:i.size=l.length:=by simpa using hsz
          obtain⟨l2,hl2,rfl⟩:∃l2,wM P (mr P d) fl (off+l.length)=some l2∧l++l2=ls:=by
           simpa using hl
          obtain⟨v1,v2,u1,u2,r1,r2,rfl,rfl,rfl,h1,h2,h3,h4⟩:=hv.split
          obtain⟨D,hD⟩:=BG yg
          have p1:=fI (w:=w) hD EP (pre:=p) (mid:=v1) (post:=v2) (by omega) (fun h=>by rw[h3]; exact jA yg h)
          have p2:=fI (w:=w) hD EP (pre:=q) (mid:=u1) (post:=u2) (by omega) (fun h=>by rw[h4]; exact jA yg h)
          rw[hp,←hc.2]at p1
          rw[hq,←hc.2]at p2
          simp only[Op.eqFields,if_pos hc.1,ne_eq,hc.1,not_false_eq_true,Sem.run_bind,p1,p2,Result.andThen_ok,ih _ _ _ _ _ _ yg h1]
          have h5:=ihf (off+l.length) l2 w (p++v1) (q++u1) v2 u2 r2 hl2 h2 (by simp; omega) (by simp; omega)
          rw[List.append_assoc,List.append_assoc]at h5
          simp only[if_true,Sem.run_bind,p1,p2,Result.andThen_ok,ih _ _ _ _ _ _ yg h1]
          cases hr:r1.all id with
          |true=>simp only[Bool.not_true,Bool.false_eq_true,if_false,h5,List.all_append,hr,Bool.true_and]
          |false=>simp only[Bool.not_false,if_true,Sem.run_pure,List.all_append,hr,Bool.false_and]
         ·simp at hl
        ·simp at hl
       ·simp at hl
     exact go fs.toList 0 ls w [] [] vs us rs h hv rfl rfl
   case array n e=>
    have ha:aM P t=true:=by simp[aM,hu]
    split at h
    ·rename_i l i yg EP
     split at h
     ·rename_i hsz
      have hsz:i.size=l.length:=by simpa using hsz
      obtain rfl:lr n l=ls:=by simpa using h
      rw[ha]
      simp only[valOf,if_pos]
      rw[run_equalIn_array w (d+m) _ _ hu EP]
      have hc:P.cellsOf e=l.length:=by simp[Program.cellsOf,EP,hsz]
      rw[hc]
      obtain⟨D,hD⟩:=BG yg
      have go:∀ (k j:Nat) (w:World) (p q vs us:List Value) (rs:List Bool),mJ (lr k l) vs us rs→p.length=j*l.length→q.length=j*l.length→
        (Op.eqItems (d+m) e l.length (p++vs).toArray (q++us).toArray (List.range' j k)).run P w= .ok (rs.all id) w:=by
       intro k
       induction k with
       |zero=>
        intro j w p q vs us rs hv _ _
        simp only[lr,List.replicate_zero,List.flatten_nil]at hv
        cases hv
        simp[Op.eqItems]
       |succ k ihk=>
        intro j w p q vs us rs hv hp hq
        have e1:lr (k+1) l=l++lr k l:=by simp[lr,List.replicate_succ]
        rw[e1]at hv
        obtain⟨v1,v2,u1,u2,r1,r2,rfl,rfl,rfl,h1,h2,h3,h4⟩:=hv.split
        have p1:=fI (w:=w) hD EP (pre:=p) (mid:=v1) (post:=v2) (by omega) (fun h=>by rw[h3]; exact jA yg h)
        have p2:=fI (w:=w) hD EP (pre:=q) (mid:=u1) (post:=u2) (by omega) (fun h=>by rw[h4]; exact jA yg h)
        rw[hp]at p1
        rw[hq]at p2
        have h5:=ihk (j+1) w (p++v1) (q++u1) v2 u2 r2 h2 (by rw[List.length_append,hp,h3,Nat.succ_mul]) (by rw[List.length_append,hq,h4,Nat.succ_mul])
        rw[List.append_assoc,List.append_assoc]at h5
        simp only[List.range'_succ,Op.eqItems,Sem.run_bind,p1,p2,Result.andThen_ok,ih _ _ _ _ _ _ yg h1]
        cases hr:r1.all id with
        |true=>simp only[Bool.not_true,Bool.false_eq_true,if_false,h5,List.all_append,hr,Bool.true_and]
        |false=>simp only[Bool.not_false,if_true,Sem.run_pure,List.all_append,hr,Bool.false_and]
      rw[List.range_eq_range']
      exact go n 0 w [] [] vs us rs hv (by simp) (by simp)
     ·simp at h
    ·simp at h
end Go.AM
namespace Go.AM
open Go.RowKit
variable {P:Program} {T:TT} {X:cq} {o:Oper} {F:aY} {M:br}
inductive MN:LK→AV→AV→Bool→Prop
 |i (k:IntKind) (x y:Int):MN .i (.int k x) (.int k y) (x==y)
 |b (x y:Bool):MN .b (.bool x) (.bool y) (x==y)
 |s (x y:List UInt8):MN .s (.str x) (.str y) (x==y)
inductive uC:List LK→List AV→List AV→List Bool→Prop
 |nil:uC [] [] [] []
 |cons {l ls v vs u us r rs} (h:MN l v u r) (t:uC ls vs us rs):uC (l::ls) (v::vs) (u::us) (r::rs)
theorem MN.val {ρ:Place} {L:ba} {I:Nat→Prop} {w:World} {N:Nat→Prop} {l:LK} {a b:AV} {r:Bool} {v u:Value} (h:MN l a b r) (h1:aN ρ L I w N a v) (h2:aN ρ L I w N b u):MM l v u r:=by
 cases h with
 |i k x y=>rw[bG h1,bG h2]; exact .i k x y
 |b x y=>rw[fY h1,fY h2]; exact .b x y
 |s x y=>rw[gN h1,gN h2]; exact .s x y
theorem uC.val {ρ:Place} {L:ba} {I:Nat→Prop} {w:World} {N:Nat→Prop}:∀ {ls:List LK} {as bs:List AV} {rs:List Bool} {vs us:List Value},uC ls as bs rs→vs.length=as.length→us.length=bs.length→
  (∀j,j<as.length→aN ρ L I w N (as.getD j .bad) (vs.getD j default))→(∀j,j<bs.length→aN ρ L I w N (bs.getD j .bad) (us.getD j default))→mJ ls vs us rs
 |_,_,_,_,[],[],.nil,_,_,_,_=> .nil
 |_,_,_,_,v::vs,u::us,.cons h t,hv,hu,h1,h2=>
  .cons (h.val (by simpa using h1 0 (by simp)) (by simpa using h2 0 (by simp))) (t.val (by simpa using hv) (by simpa using hu)
    (fun j hj=>by simpa using h1 (j+1) (by simpa using hj)) (fun j hj=>by simpa using h2 (j+1) (by simpa using hj)))
 |_,_,_,_,_::_,[],.nil,hv,_,_,_=>by simp at hv
 |_,_,_,_,[],_::_,.nil,_,hu,_,_=>by simp at hu
 |_,_,_,_,_::_,_::_,.nil,hv,_,_,_=>by simp at hv
 |_,_,_,_,[],_,.cons _ _,hv,_,_,_=>by simp at hv
 |_,_,_,_,_::_,[],.cons _ _,_,hu,_,_=>by simp at hu
theorem yi {neg:Bool} {t yt:TypeId} {x y:Operand} {d:Nat} (hd:d≤10000) {ls:List LK} {as bs:List AV} {rs:List Bool} (ho:o.op= .binOp (if neg then .neq else .eql) t x y yt) (hg:P.eqGuardType P.depth t=false) (ha:aM P t=true)
  (hl:mr P d t=some ls) (hx:ev F x= .agg as) (hy:ev F y= .agg bs) (h:uC ls as bs rs):bN P X o F M (.bool (if neg then !(rs.all id)else rs.all id)) [] []:=by
 have hx':x ∈ o.op.operands.toList:=by simp[ho,Op.operands]
 have hy':y ∈ o.op.operands.toList:=by simp[ho,Op.operands]
 refine aH fun M' N ρ I ac w hW hU hN=> ?_
 have r1:=ax hU x hx'
 have r2:=ax hU y hy'
 rw[hx]at r1
 rw[hy]at r2
 generalize hv:ac.eval x=v at r1
 generalize hu:ac.eval y=u at r2
 cases r1 with
 |agg _ vs hvl EM MO=>
  cases r2 with
  |agg _ us Yu pr Yv=>
   have h4:=h.val hvl Yu MO Yv
   have e:=ik d (10000 - d) t ls w vs us rs hl h4
   rw[ha]at e
   simp only[valOf,if_true]at e
   have e2:d+ (10000 - d)=10000:=by omega
   rw[e2]at e
   refine⟨_,?_,.bool _⟩
   have g:=run_eqGuard_agg w (if neg then .neq else .eql) t x y vs.toArray us.toArray hg
   cases neg<;>simp_all[execOp,Sem.run_bind,run_eql_struct,run_neq_struct]
theorem wO {neg:Bool} {t yt:TypeId} {x y:Operand} {a b:Bool} (ho:o.op= .binOp (if neg then .neq else .eql) t x y yt) (hu:P.underlying t=some .bool) (hx:ev F x= .bool a) (hy:ev F y= .bool b):
  bN P X o F M (.bool (if neg then a != b else a==b)) [] []:=by
 have hx':x ∈ o.op.operands.toList:=by simp[ho,Op.operands]
 have hy':y ∈ o.op.operands.toList:=by simp[ho,Op.operands]
 refine aH fun M' N ρ I ac w hW hU hN=>⟨_,?_,.bool _⟩
 have r1:=fY (hx ▸ ax hU x hx')
 have r2:=fY (hy ▸ ax hU y hy')
 have e:=run_equal_bool w t a b hu
 cases neg<;>simp[execOp,ho,r1,r2,Sem.run_bind,eqGuard,binOp,e,bne]
def MP (op:BinOp) (a b:List UInt8) (K:AV→Prop):Prop:=
 match op with
 | .add=>(a.length+b.length≤9223372036854775807)∧K (.str (a++b))
 | .eql=>K (.bool (a==b))
 | .neq=>K (.bool !(a==b))
 | .lss=>K (.bool (Op.bytesLess a b))
 | .leq=>K (.bool (Op.bytesLess a b||a==b))
 | .gtr=>K (.bool !(Op.bytesLess a b||a==b))
 | .geq=>K (.bool !(Op.bytesLess a b))
 |_=>False
theorem Fy {op:BinOp} {t yt:TypeId} {x y:Operand} {a b:List UInt8} {K:AV→Prop} (ho:o.op= .binOp op t x y yt) (hx:ev F x= .str a) (hy:ev F y= .str b) (h:MP op a b K):∃av,bN P X o F M av [] []∧K av:=by
 have hx':x ∈ o.op.operands.toList:=by simp[ho,Op.operands]
 have hy':y ∈ o.op.operands.toList:=by simp[ho,Op.operands]
 have go:∀av v,(∀ρ L I w N,aN ρ L I w N av v)→(∀w,(Op.stringOp op ⟨a.toArray⟩ ⟨b.toArray⟩).run P w= .ok v w)→K av→∃av,bN P X o F M av [] []∧K av:=by
  intro av v hr hrun hk
  refine⟨av,aH fun M' N ρ I ac w hW hU hN=>⟨v,?_,hr _ _ _ _ _⟩,hk⟩
  have r1:=gN (hx ▸ ax hU x hx')
  have r2:=gN (hy ▸ ax hU y hy')
  have g:(eqGuard op t x y (.string ⟨a.toArray⟩) (.string ⟨b.toArray⟩)).run P w= .ok () w:=by
   unfold eqGuard; cases op<;>simp
  have e:binOp op t (.string ⟨a.toArray⟩) (.string ⟨b.toArray⟩)=Op.stringOp op ⟨a.toArray⟩ ⟨b.toArray⟩:=by cases op<;>rfl
  simp only[execOp,ho,r1,r2,Sem.run_bind,g,Result.andThen_ok,e,hrun,Sem.run_pure]
 have tl:∀l:List UInt8,(⟨l.toArray⟩:ByteArray).toList=l:=fun l=>by rw[ByteArray.toList_eq]
 cases op<;>simp only[MP]at h<;>try exact h.elim
 case add=>
  refine go _ (.string ⟨(a++b).toArray⟩) (fun _ _ _ _ _=> .str _) (fun w=> ?_) h.2
  have e:(⟨a.toArray⟩:ByteArray)++⟨b.toArray⟩=⟨(a++b).toArray⟩:=by
   apply ByteArray.ext
   simp
  have h1:=h.1
  have hs:¬ ((((⟨a.toArray⟩:ByteArray).size+ (⟨b.toArray⟩:ByteArray).size:Nat):Int)>IntKind.i64.max):=by
   show ¬ (((a.toArray.size+b.toArray.size:Nat):Int)>9223372036854775807)
   simp only[List.size_toArray]
   omega
  simp only[Op.stringOp,if_neg hs,e,Sem.run_pure]
 all_goals exact go _ _ (fun _ _ _ _ _=> .bool _) (fun w=>by simp only[Op.stringOp,tl,Sem.run_pure]) h
end Go.AM
namespace Go.AM
open Go.RowKit
variable {P:Program} {T:TT} {X:cq} {o:Oper} {F:aY} {M:br}
theorem qY {neg:Bool} {t e:TypeId} {y:Operand} {x:Operand} {q:Option Addr} {l c:Nat} {w:World} (hu:P.underlying t=some (.slice e)):
  (do eqGuard (if neg then .neq else .eql) t x y (.slice q l c) (.slice none 0 0); binOp (if neg then .neq else .eql) t (.slice q l c) (.slice none 0 0):Sem Value).run P w= .ok (.bool (if neg then !q.isNone else q.isNone)) w:=by
 have e1:=run_equal_slice_nil w t e q l c hu
 cases neg<;>simp[Sem.run_bind,eqGuard,binOp,e1]
theorem uD {neg:Bool} {t e:TypeId} {y:Operand} {x:Operand} {q:Option Addr} {w:World} (hu:P.underlying t=some (.pointer e)):
  (do eqGuard (if neg then .neq else .eql) t x y (.pointer q) (.pointer none); binOp (if neg then .neq else .eql) t (.pointer q) (.pointer none):Sem Value).run P w= .ok (.bool (if neg then !q.isNone else q.isNone)) w:=by
 have e0:P.pointee t=e:=by simp[Program.pointee,hu]
 have e1:=run_equal_pointer_nil w t q (by rw[e0]; exact hu)
 cases neg<;>simp[Sem.run_bind,eqGuard,binOp,e1]
theorem kI {neg:Bool} {t e yt:TypeId} {x:Operand} {b:Bool} {Ml:Mem} (hM:M=ab Ml) (ho:o.op= .binOp (if neg then .neq else .eql) t x (.const (.pointer none)) yt) (hu:P.underlying t=some (.pointer e))
  (hx:(ev F x= .bP∧b=true)∨((∃r q,ev F x= .bi r q)∧b=false)∨(∃n len i q bl,ev F x= .loc n len i q∧ab Ml n=some bl∧bl.ln=len)∧b=false):bN P X o F M (.bool (if neg then !b else b)) [] []:=by
 have hx':x ∈ o.op.operands.toList:=by simp[ho,Op.operands]
 refine aH fun M' N ρ I ac w hW hU hN=> ?_
 have r1:=ax hU x hx'
 have key:∃q:Option Addr,ac.eval x= .pointer q∧q.isNone=b:=by
  rcases hx with⟨h,rfl⟩|⟨⟨r,q,h⟩,rfl⟩|⟨⟨n,len,i,q,bl,h,hb,hl⟩,rfl⟩
  ·rw[h]at r1
   generalize ac.eval x=v at r1
   cases r1
   exact⟨none,rfl,rfl⟩
  ·rw[h]at r1
   generalize ac.eval x=v at r1
   cases r1
   exact⟨_,rfl,rfl⟩
  ·rw[h]at r1
   obtain⟨sl,eD,eT⟩:=bo (F:=F) x hx' (n:=n) (by rw[h]; simp[AV.names])
   have cC:M' n=some bl:=(hN sl eD n eT).trans (by rw[hM]; exact hb)
   have dQ:lens M' n=some (len,bl.sz):=by rw[aC]; exact⟨bl,cC,hl,rfl⟩
   obtain⟨_,g,cap,_,hv⟩:=fV r1 dQ
   exact⟨_,hv,rfl⟩
 obtain⟨q,hv,hq⟩:=key
 refine⟨_,?_,.bool _⟩
 have e1:=uD (P:=P) (neg:=neg) (y:= .const (.pointer none)) (x:=x) (q:=q) (w:=w) hu
 rw[hq]at e1
 have hc:ac.eval (.const (.pointer none))= .pointer none:=rfl
 simp only[execOp,ho,hv,hc]
 simp only[Sem.run_bind]at e1 ⊢
 rw[e1]
 simp
theorem uE {neg:Bool} {t e yt:TypeId} {x:Operand} {s:Nat} {es:List (List AV)} (ho:o.op= .binOp (if neg then .neq else .eql) t x (.const (.slice none 0 0)) yt) (hu:P.underlying t=some (.slice e)) (hx:ev F x= .aJ s es)
  {M':br} {N:Nat→Prop} {ρ:Place} {I:Nat→Prop} {a:Act} {w:World} (hW:c6 X ρ I M' N w) (hU:∀s ∈ di o.op,aN ρ (lens M') I w N (look F s) (a.tmps.getD s undef)):
  ∃b:Bool,(b=true→es=[])∧bS P X o a M' N ρ I w (.bool (if neg then !b else b)) []:=by
 have hx':x ∈ o.op.operands.toList:=by simp[ho,Op.operands]
 have r1:=ax hU x hx'
 rw[hx]at r1
 have key:∃ (q:Option Addr) (c:Nat),a.eval x= .slice q es.length c∧(q.isNone=true→es=[]):=by
  generalize a.eval x=v at r1
  cases r1 with
  |cO _ q cap=>exact⟨q,cap,rfl,fun _=>rfl⟩
  |aJ _ _ b o cap c hl=>exact⟨_,cap,rfl,fun h=>by simp at h⟩
 obtain⟨q,c,hv,hq⟩:=key
 refine⟨q.isNone,hq,?_⟩
 have e1:=qY (P:=P) (neg:=neg) (y:= .const (.slice none 0 0)) (x:=x) (q:=q) (l:=es.length) (c:=c) (w:=w) hu
 have hr:(execOp a.eval o).run P w= .ok (.value (.bool (if neg then !q.isNone else q.isNone))) w:=by
  have hc:a.eval (.const (.slice none 0 0))= .slice none 0 0:=rfl
  simp only[execOp,ho,hv,hc]
  simp only[Sem.run_bind]at e1 ⊢
  rw[e1]
  simp
 unfold bS
 rw[hr]
 exact ic.value hW (.bool _)
theorem Am (hT:dj P T) {t e:Nat} {x h m:Operand} {k k':IntKind} {n:Nat} (ht:T.d t= .slice e) (hok:(T.d e).ok=true) (ho:o.op= .slice t x none (some h) (some m)) (hh:ev F h= .int k 0) (hm:ev F m= .int k' 0)
  (hx:∃s es,ev F x= .aJ s es):bN P X o F M (.bc n 0) [(n,⟨e,T.s e,[],none⟩)] [n]:=by
 have hx':x ∈ o.op.operands.toList:=by simp[ho,Op.operands]
 have hh':h ∈ o.op.operands.toList:=by simp[ho,Op.operands]
 have hm':m ∈ o.op.operands.toList:=by simp[ho,Op.operands]
 obtain⟨D,it,z,hD,hf,_⟩:=hT t (by rw[ht]; simp)
 have gZ:=bW ht hf
 subst gZ
 obtain⟨_,ie,_,_,_,hie,mh,_⟩:=hT e (TD.dO hok)
 obtain⟨s,es,hx⟩:=hx
 refine⟨fun p hp=> .inl (by simp at hp; simp[hp]),fun M' N ρ I ac w hW hU hN hF=> ?_⟩
 have hn:¬N n:=hF n (by simp)
 have r1:=ax hU x hx'
 have r2:=bG (hh ▸ ax hU h hh')
 have r3:=bG (hm ▸ ax hU m hm')
 rw[hx]at r1
 obtain⟨q,cap,hv,hle⟩:=rv r1
 have hb:(Instr.sliceBounds true es.length cap (none:Option Value) (some (.int k 0)) (some (.int k' 0))).run P w= .ok (0,0,0) w:=by
  have e1:=run_sliceBound (P:=P) (k:=k') (i:=0) (y:=cap) (c:= .slice3Acap) (w:=w) ⟨by omega,by omega⟩
  have e2:=run_sliceBound (P:=P) (k:=k) (i:=0) (y:=0) (c:= .slice3B) (w:=w) ⟨by omega,by omega⟩
  simp[Instr.sliceBounds,e1,e2,Sem.run_bind,Instr.sliceBound,asIntOf]
 have hrun:=qt (a:=q) (len:=es.length) hD hie hb
 obtain⟨E,W⟩:=hW.ep hn e (T.s e)
 unfold bS
 have hr:(execOp ac.eval o).run P w= .ok (.value (.slice q 0 0)) w:=by
  simp only[execOp,ho,Option.map_none,Option.map_some,hv,r2,r3,Sem.run_bind,hrun]
  simp
 rw[hr]
 refine⟨_,I,E,by rw[bO]; exact W,?_⟩
 refine .bc n _ _ (.inr ⟨_,List.mem_singleton.2 rfl⟩) rfl fun l zY nK=> ?_
 change lens (cW M' n _) n=_ at nK
 rw[cN,if_pos rfl]at nK
 simp at nK
 exact⟨by simp,fun _=> .inl ⟨by simp,q,rfl⟩⟩
theorem yj (hT:dj P T) {t m e:Nat} {x ix:Operand} {cs:List AV} {k:IntKind} {j:Int} {K:AV→Prop} (ht:T.d t= .arr m e) (hok:(T.d e).ok=true) (ho:o.op= .index t x ix) (hx:ev F x= .agg cs) (hi:ev F ix= .int k j)
  (hj:0≤j∧j< (m:Int)) (h:apart (T.d e).ag (T.s e) (j.toNat*T.s e) cs K):∃av,bN P X o F M av [] []∧K av:=by
 have hx':x ∈ o.op.operands.toList:=by simp[ho,Op.operands]
 have hi':ix ∈ o.op.operands.toList:=by simp[ho,Op.operands]
 obtain⟨D,it,z,hD,hf,_⟩:=hT t (by rw[ht]; simp)
 have gZ:=fW ht hf
 subst gZ
 obtain⟨De,ie,_,EQ,Lz,hie,mh,_⟩:=hT e (TD.dO hok)
 obtain⟨av,h1,h2,h3,h4⟩:=fy h
 refine⟨av,aH fun M' N ρ I ac w hW hU hN=> ?_,h4⟩
 have r1:=ax hU x hx'
 have r2:=bG (hi ▸ ax hU ix hi')
 rw[hx]at r1
 generalize hv:ac.eval x=v at r1
 generalize hoff:j.toNat*T.s e=off at h1 h2
 have hle:off+T.s e≤cs.length∨T.s e=0:=by
  simp only[List.length_take,List.length_drop]at h1; omega
 cases r1 with
 |agg _ vs hvl EM MO=>
  have FA:∃u,(part e vs.toArray off).run P w= .ok u w∧aN ρ (lens M') I w N av u:=by
   unfold part
   simp only[Sem.run_bind,nJ EQ Lz,Result.andThen_ok]
   cases jm:(T.d e).ag with
   |true=>
    simp only[if_pos,Sem.run_bind,bF hie,Result.andThen_ok,Sem.run_pure]
    refine⟨_,rfl,?_⟩
    rw[h2,jm,if_pos rfl,mh]
    have hex:vs.toArray.extract off (off+T.s e)=((vs.drop off).take (T.s e)).toArray:=by
     apply Array.ext'
     simp
    rw[hex]
    refine .agg _ _ (by rw[h1]; simp only[List.length_take,List.length_drop]; omega) (fun u hu=>EM u (List.mem_of_mem_drop (List.mem_of_mem_take hu))) (fun i hi=> ?_)
    rw[h1]at hi
    rw[c9 _ _ _ _ _ hi,c9 _ _ _ _ _ hi]
    exact MO (off+i) (by omega)
   |false=>
    have h5:=h3 jm
    have hlt:off<cs.length:=by omega
    have wP:off<vs.length:=by omega
    simp only[Bool.false_eq_true,if_false]
    have:vs.toArray[off]? =some vs[off]:=by simp[wP]
    rw[this]
    refine⟨_,Sem.run_pure _ _ _,?_⟩
    rw[h2,jm,h5]
    have e1:((cs.drop off).take 1).headD .bad=cs.getD off .bad:=by
     rw[List.drop_eq_getElem_cons hlt,List.take_succ_cons]
     simp[List.getD_eq_getElem?_getD,hlt]
    simp only[Bool.false_eq_true,if_false,e1]
    have:=MO off hlt
    rwa[show vs.getD off default=vs[off] by simp[List.getD_eq_getElem?_getD,wP]]at this
  obtain⟨u,hu,hr⟩:=FA
  refine⟨u,?_,hr⟩
  simp only[execOp,ho,hv,r2,Instr.index,asIntOf,Sem.run_bind,Sem.run_pure,Result.andThen_ok,run_underlying hD,if_pos hj,bF hie,mh,hoff,hu]
theorem yk (hT:dj P T) {t:Nat} {x ix:Operand} {s:List UInt8} {k:IntKind} {j:Int} (ht:T.d t= .str) (ho:o.op= .index t x ix) (hx:ev F x= .str s) (hi:ev F ix= .int k j) (hj:0≤j∧j< (s.length:Int)):
  bN P X o F M (.int .u8 (s.getD j.toNat 0).toNat) [] []:=by
 have hx':x ∈ o.op.operands.toList:=by simp[ho,Op.operands]
 have hi':ix ∈ o.op.operands.toList:=by simp[ho,Op.operands]
 obtain⟨D,it,z,hD,hf,_⟩:=hT t (by rw[ht]; simp)
 have gZ:=fX ht hf
 subst gZ
 refine aH fun M' N ρ I ac w hW hU hN=>⟨_,?_,.int _ _⟩
 have r1:=gN (hx ▸ ax hU x hx')
 have r2:=bG (hi ▸ ax hU ix hi')
 have hlt:j.toNat<s.length:=by omega
 have e1:(⟨s.toArray⟩:ByteArray)[j.toNat]? =some s[j.toNat]:=by
  have hsz:j.toNat< (⟨s.toArray⟩:ByteArray).size:=by show j.toNat<s.toArray.size; simpa using hlt
  rw[getElem?_pos (⟨s.toArray⟩:ByteArray) j.toNat hsz]
  rfl
 simp only[execOp,ho,r1,r2,Instr.index,asIntOf,Sem.run_bind,Sem.run_pure,Result.andThen_ok,run_underlying hD,if_pos hj.1,e1]
 simp[List.getD_eq_getElem?_getD,hlt]
theorem foldl_push (s:List UInt8):∀r:ByteArray,(s.map fun c=>((c.toNat:Int))).foldl (fun r n=>r.push (UInt8.ofNat n.toNat)) r=⟨(r.data.toList++s).toArray⟩:=by
 induction s with
 |nil=>intro r; simp
 |cons c s ih=>
  intro r
  simp only[List.map_cons,List.foldl_cons,ih]
  congr 1
  simp[ByteArray.push]
theorem FB (hT:dj P T) {s t e:Nat} {x:Operand} {Ml:Mem} {K:AV→Prop} (hM:M=ab Ml) (hs:T.d s= .slice e) (he:T.d e= .int .u8) (ht:T.d t= .str) (ho:o.op= .convert s t x) (eT:¬ ∃q,ev F x= .str q)
  (h:nH Ml 1 (ev F x) fun xs=>∃b:List UInt8,xs=b.map (fun c=>[AV.int .u8 c.toNat])∧K (.str b)):∃av,bN P X o F M av [] []∧K av:=by
 have hx:x ∈ o.op.operands.toList:=by simp[ho,Op.operands]
 obtain⟨D,_,_,hD,hf,_⟩:=hT s (by rw[hs]; simp)
 have:=bW hs hf
 subst this
 obtain⟨D,_,_,EQ,hf,_⟩:=hT e (by rw[he]; simp)
 have:=fits_int he hf
 subst this
 obtain⟨D,_,_,Yw,hf,_⟩:=hT t (by rw[ht]; simp)
 have:=fX ht hf
 subst this
 obtain⟨xs,⟨b,rfl,hk⟩,hsrc⟩:=kE (X:=X) (o:=o) (tx:=s) hT hM hx (.inl ⟨_,hD⟩) (fun h=>(eT h).elim) (fun _=>⟨_,hD⟩) h
 refine⟨_,aH fun M' N ρ I ac w hW hU hN=> ?_,hk⟩
 obtain⟨vs,hS,hL,-⟩:=hsrc M' N ρ I ac w hW hU hN
 have hvs:vs=b.map fun c=>Value.int .u8 (c.toNat:Int):=by
  apply List.ext_getElem
  ·rw[hL.1]; simp
  ·intro i h1 h2
   have hi:i<b.length:=by simpa using h2
   obtain⟨u,hu,hr⟩:=hL.2.2 i 0 (by simpa using hi) (by omega)
   rw[Nat.mul_one,Nat.add_zero,List.getElem?_eq_getElem h1]at hu
   simp only[Option.some.injEq]at hu
   have e1:((b.map fun c=>[AV.int .u8 (c.toNat:Int)]).getD i []).getD 0 .bad= .int .u8 (b[i].toNat:Int):=by
    simp[List.getD_eq_getElem?_getD,hi]
   rw[e1]at hr
   rw[hu,bG hr.2]
   simp
 have eD:∃q l c,ac.eval x= .slice q l c:=by
  have r1:=ax hU x hx
  cases bZ:ev F x with
  |aJ s es=>rw[bZ]at r1; obtain⟨q,cap,hv,_⟩:=rv r1; exact⟨_,_,_,hv⟩
  |ao=>
   rw[bZ]at r1
   generalize ac.eval x=v at r1
   cases r1
   exact⟨_,_,_,rfl⟩
  |bc n len=>
   rw[bZ]at h r1
   simp only[nH,alive]at h
   cases hb:ab Ml n with
   |none=>rw[hb]at h; exact h.elim
   |some bl=>
    rw[hb]at h
    obtain⟨hc1,hmp,_⟩:=az h
    have hl:bl.ln=len:=by simpa using hc1
    obtain⟨sl,eD,eT⟩:=bo (F:=F) x hx (n:=n) (by rw[bZ]; simp[AV.names])
    have cC:M' n=some bl:=(hN sl eD n eT).trans (by rw[hM]; exact hb)
    have dQ:lens M' n=some (len,bl.sz):=by rw[aC]; exact⟨bl,cC,hl,rfl⟩
    obtain⟨_,⟨_,q,hv⟩|⟨g,cap,_,hv⟩⟩:=jw r1 dQ
    ·exact⟨_,_,_,hv⟩
    ·exact⟨_,_,_,hv⟩
  |dX n len i off bY=>
   rw[bZ]at h r1
   simp only[nH,alive]at h
   cases hb:ab Ml n with
   |none=>rw[hb]at h; exact h.elim
   |some bl=>
    rw[hb]at h
    obtain⟨hc1,hmp,_⟩:=az h
    have hl:bl.ln=len:=by simpa using hc1
    obtain⟨sl,eD,eT⟩:=bo (F:=F) x hx (n:=n) (by rw[bZ]; simp[AV.names])
    have cC:M' n=some bl:=(hN sl eD n eT).trans (by rw[hM]; exact hb)
    have dQ:lens M' n=some (len,bl.sz):=by rw[aC]; exact⟨bl,cC,hl,rfl⟩
    obtain⟨_,g,cap,c,_,hv,_⟩:=mg r1 dQ
    exact⟨_,_,_,hv⟩
  |str q=>exact (eT ⟨q,bZ⟩).elim
  |_=>rw[bZ]at h; exact h.elim
 obtain⟨q,l,c,hv⟩:=eD
 have hl:l=b.length:=by
  have:=hS.len w
  rw[hv]at this
  simpa[Builtin.lenOf]using this
 refine⟨.string ⟨b.toArray⟩,?_,.str _⟩
 have hrun:(Conv.bytesToString (ac.eval x)).run P w= .ok (.string ⟨b.toArray⟩) w:=by
  rw[hv]
  cases q with
  |none=>
   have hc:=hS.cells
   rw[hv,hvs]at hc
   have:b=[]:=by
    simp[Builtin.firstCells]at hc
    exact hc
   subst this
   simp[Conv.bytesToString]
   rfl
  |some a=>
   have hc:=hS.cells
   rw[hv,hvs]at hc
   simp only[Builtin.firstCells,List.length_map,Nat.mul_one]at hc
   have:=run_bytesToString (P:=P) w a l c (b.map fun c=>(c.toNat:Int)) (by rw[hl,hc]; simp[List.map_map,Function.comp_def])
   rw[this,foldl_push]
   simp
 simp only[execOp,ho,convert,Sem.run_bind,run_underlying hD,run_underlying Yw,Result.andThen_ok]
 have e9:∀v:Value,v=ac.eval x→True:=fun _ _=>trivial
 rw[hv]at hrun ⊢
 simp only[Sem.run_bind,run_underlying EQ,Result.andThen_ok,hrun,Sem.run_pure]
end Go.AM
namespace Go.AM
open Go.RowKit
variable {P:Program} {T:TT} {X:cq} {o:Oper} {F:aY} {M:br}
theorem An {ρ:Place} {L:ba} {I:Nat→Prop} {w:World} {N:Nat→Prop} {n len i off sz g cap bY c:Nat} (hn:N n) (hl:L n=some (len,sz)) (hρ:ρ n=some (g,cap)) (h1:bY≤c) (h2:c≤maxLen):
  aN ρ L I w N (.dX n len i off bY) (.slice (some ⟨g,i*sz+off,none⟩) bY c):=
 .dX n len i off bY _ hn rfl fun l zY h=>by
   rw[hl]at h
   simp only[Option.some.injEq,Prod.mk.injEq]at h
   obtain⟨rfl,rfl⟩:=h
   exact⟨Nat.le_refl _,fun _=>⟨g,cap,c,hρ,rfl,h1,h2⟩⟩
theorem lu {t m e:Nat} {ie:TypeInfo} {a:Addr} {w:World} (hD:P.underlying t=some (.array m e)) (hi':P.info? e=some ie):
  (Instr.sliceAt t (.pointer (some a)) none none none).run P w= .ok (.slice (some a) m m) w:=by
 have:a.add 0=a:=by simp[Addr.add]
 simp[Instr.sliceAt,Sem.run_bind,run_underlying hD,Instr.sureAddr,Instr.sliceBounds,bF hi',this]
theorem uF (hT:dj P T) {t m e n len i off:Nat} {x:Operand} {Ml:Mem} {b:bh} (hM:M=ab Ml) (ht:T.d t= .arr m e) (hok:(T.d e).ok=true) (ho:o.op= .slice t x none none none) (hm:m≤maxLen)
  (bZ:ev F x= .loc n len i off) (hb:ab Ml n=some b) (hl:b.ln=len):bN P X o F M (.dX n len i off m) [] []:=by
 have hx:x ∈ o.op.operands.toList:=by simp[ho,Op.operands]
 obtain⟨D,it,z,hD,hf,_⟩:=hT t (by rw[ht]; simp)
 have gZ:=fW ht hf
 subst gZ
 obtain⟨De,ie,_,EQ,Lz,hie,mh,_⟩:=hT e (TD.dO hok)
 refine aH fun M' N ρ I a w hW hU hN=> ?_
 have r1:=ax hU x hx
 rw[bZ]at r1
 obtain⟨sl,eD,eT⟩:=bo (F:=F) x hx (n:=n) (by rw[bZ]; simp[AV.names])
 have cC:M' n=some b:=(hN sl eD n eT).trans (by rw[hM]; exact hb)
 have dQ:lens M' n=some (len,b.sz):=by rw[aC]; exact⟨b,cC,hl,rfl⟩
 obtain⟨hn,g,cap,hρ,hv⟩:=fV r1 dQ
 refine⟨_,?_,An hn dQ hρ (Nat.le_refl m) hm⟩
 simp only[execOp,ho,hv,Option.map_none,Sem.run_bind,lu hD hie,Result.andThen_ok,Sem.run_pure]
theorem uG (hT:dj P T) {t m e off:Nat} {x:Operand} {r:List AV} (ht:T.d t= .arr m e) (hok:(T.d e).ok=true) (ho:o.op= .slice t x none none none) (hm:m≤maxLen)
  (bZ:ev F x= .bi r off) (hfit:off+m*T.s e≤r.length):bN P X o F M (.aJ (T.s e) (pB (T.s e) m (r.drop off))) [] []:=by
 have hx:x ∈ o.op.operands.toList:=by simp[ho,Op.operands]
 obtain⟨D,it,z,hD,hf,_⟩:=hT t (by rw[ht]; simp)
 have gZ:=fW ht hf
 subst gZ
 obtain⟨De,ie,_,EQ,Lz,hie,mh,_⟩:=hT e (TD.dO hok)
 refine aH fun M' N ρ I a w hW hU hN=> ?_
 have r1:=ax hU x hx
 rw[bZ]at r1
 generalize hv:a.eval x=v at r1
 cases r1 with
 |bi _ _ b q c hI h1 hcell hr=>
  refine⟨.slice (some ⟨b,q+off,none⟩) m m,?_,?_⟩
  ·simp only[execOp,ho,hv,Option.map_none,Sem.run_bind,lu hD hie,Result.andThen_ok,Sem.run_pure]
  ·have hlen:(pB (T.s e) m (r.drop off)).length=m:=ed
   have hlt:∀i j,i<m→j<T.s e→off+ (i*T.s e+j)<r.length:=fun i j hi hj=>by
    have:=lI (sz:=T.s e) hi hj
    omega
   have key:=aN.aJ (ρ:=ρ) (L:=lens M') (I:=I) (w:=w) (N:=N) (T.s e) (pB (T.s e) m (r.drop off)) b (q+off) m (fun i j=>c (off+ (i*T.s e+j))) (by rw[hlen]; exact Nat.le_refl _) hm hI
    (fun l hl=>by
      obtain⟨p,hp,rfl⟩:=List.mem_iff_getElem.1 hl
      rw[hlen]at hp
      have e1:=j0 (sz:=T.s e) (r:=r.drop off) hp
      rw[List.getD_eq_getElem?_getD,List.getElem?_eq_getElem (by rw[hlen]; exact hp),Option.getD_some]at e1
      rw[e1]
      have:(p+1)*T.s e≤m*T.s e:=Nat.mul_le_mul_right _ hp
      rw[Nat.add_mul,Nat.one_mul]at this
      simp only[List.length_take,List.length_drop]; omega)
    (fun i j hi hj=>h1 _ (hlt i j (by rwa[hlen]at hi) hj))
    (fun i j hi hj=>by
      have:=hcell _ (hlt i j (by rwa[hlen]at hi) hj)
      rwa[show q+off+i*T.s e+j=q+ (off+ (i*T.s e+j)) by omega])
    (fun i j hi hj=>by
      rw[hlen]at hi
      have:=hr _ (hlt i j hi hj)
      rw[j0 hi,c9 _ _ _ _ _ hj]
      simpa only[List.getD_eq_getElem?_getD,List.getElem?_drop]using this)
   rwa[hlen]at key
theorem C2 {ρ:Place} {I:Nat→Prop} {M':br} {N:Nat→Prop} {w:World} (hW:c6 X ρ I M' N w) {n i off g cap:Nat} {b:bh} {gq:List AV} {oE:List Value} (cC:M' n=some b) (hmp:b.mp=none) (hρ:ρ n=some (g,cap)) (hi':i<b.es.length)
  (hcl:oE.length=gq.length) (E9:∀u ∈ oE,u.oneCell'=true) (X':∀j,j<gq.length→aN ρ (lens M') I w N (gq.getD j .bad) (oE.getD j default)) (hoff:off+gq.length≤b.sz):
  (storeCells ⟨g,i*b.sz+off,none⟩ oE).run P w= .ok () (w.setCells g (i*b.sz+off) oE)∧
  ∃ρ1,ma N ρ (lens M') I w ρ1 (lens (dh M' [(n,⟨b.ty,b.sz,b.es.set i (bM off gq (b.es.getD i [])),none⟩)])) I (w.setCells g (i*b.sz+off) oE)∧
   c6 X ρ1 I (dh M' [(n,⟨b.ty,b.sz,b.es.set i (bM off gq (b.es.getD i [])),none⟩)]) (fG N [(n,⟨b.ty,b.sz,b.es.set i (bM off gq (b.es.getD i [])),none⟩)]) (w.setCells g (i*b.sz+off) oE):=by
 have B:=hW.aU n b cC
 obtain⟨cs,fr,hg,nG,qS,hown,hlc,mX,hcs,hc⟩:=B.real g cap hρ
 have hg:=hg.cells hmp
 have Q9:=bh.dd hmp
 have hel:(b.es.getD i []).length=b.sz:=by
  rw[List.getD_eq_getElem?_getD,List.getElem?_eq_getElem hi',Option.getD_some]
  exact B.even _ (List.getElem_mem _)
 have hrow:i*b.sz+b.sz≤cs.size:=by
  rw[hcs]
  calc i*b.sz+b.sz=(i+1)*b.sz:=by rw[Nat.add_mul,Nat.one_mul]
   _≤cap*b.sz:=Nat.mul_le_mul_right _ (by omega)
 have hin:∀j,j<b.sz→i*b.sz+j<cs.size:=fun j hj=>by omega
 have oy:∀k,w.cell? ⟨g,k,none⟩=cs[k]? :=fun k=>by simp[World.cell?,hg]
 have Ya:∀k,k<cs.size→w.frozen? ⟨g,k,none⟩=false:=fun k hk=>by
  have:=nG k hk
  simp only[World.frozen?,hg]
  simpa using this
 refine⟨?_,?_⟩
 ·have hst:=run_storeCells_cells (P:=P) g (i*b.sz+off) oE 0 w
   (fun j hj=>by
     rw[Nat.add_zero,oy,Nat.add_assoc,Array.getElem?_eq_getElem (hin (off+j) (by omega))]; rfl)
   (fun j hj=>by rw[Nat.add_zero,Nat.add_assoc]; exact Ya _ (hin (off+j) (by omega)))
   E9
  rwa[Nat.add_zero]at hst
 ·obtain⟨cs',h1,h2,h3⟩:=gO g b.ty fr oE (i*b.sz+off) w cs hg (by rw[hcl]; omega)
  have key:∀p q,p<b.es.length→q<b.sz→∃u,cs'[p*b.sz+q]? =some u∧u.oneCell'=true∧aN ρ (lens M') I w N (((b.es.set i (bM off gq (b.es.getD i []))).getD p []).getD q .bad) u:=by
   intro p q hp hq
   rw[h3,hcl]
   by_cases hpi:p=i
   ·subst hpi
    have e1:(b.es.set p (bM off gq (b.es.getD p []))).getD p []=bM off gq (b.es.getD p []):=by
     simp[List.getD_eq_getElem?_getD,hp]
    rw[e1,lH _ _ _ _ (by omega)]
    by_cases Ls:off≤q∧q<off+gq.length
    ·rw[if_pos (by omega),if_pos Ls]
     have e2:p*b.sz+q - (p*b.sz+off)=q - off:=by omega
     rw[e2]
     have My:q - off<oE.length:=by rw[hcl]; omega
     refine⟨oE[q - off],List.getElem?_eq_getElem My,E9 _ (List.getElem_mem _),?_⟩
     have:=X' (q - off) (by omega)
     rwa[List.getD_eq_getElem?_getD (l:=oE),List.getElem?_eq_getElem My,Option.getD_some]at this
    ·rw[if_neg (by omega),if_neg Ls]
     exact hc p q hp hq
   ·have e1:(b.es.set i (bM off gq (b.es.getD i []))).getD p []=b.es.getD p []:=by
     simp[List.getD_eq_getElem?_getD,List.getElem?_set,Ne.symm hpi]
    rw[e1]
    rw[if_neg]
    ·exact hc p q hp hq
    ·rintro⟨ha,hb'⟩
     rcases Nat.lt_or_gt_of_ne hpi with hlt|hgt
     ·have:(p+1)*b.sz≤i*b.sz:=Nat.mul_le_mul_right _ hlt
      rw[Nat.add_mul,Nat.one_mul]at this
      omega
     ·have:(i+1)*b.sz≤p*b.sz:=Nat.mul_le_mul_right _ hgt
      rw[Nat.add_mul,Nat.one_mul]at this
      omega
  have jY:∀b0,M' n=some b0→b0=b:=fun b0 h0=>by rw[cC]at h0; exact (Option.some.inj h0).symm
  obtain⟨E,W⟩:=hW.put (w':=w.setCells g (i*b.sz+off) oE) n ⟨b.ty,b.sz,b.es.set i (bM off gq (b.es.getD i [])),none⟩ g cap cs' fr
   (os_setCells _ _ _ _) (gP _ _ _ _) (iy _ _ _ _) (by rw[size_setCells]; exact Nat.le_refl _) (fun k _ hk=>eu g _ _ _ _ hk) h1 (fun q hq=>nG q (by omega))
   (.inr ⟨cap,hρ,b,cC⟩) (fun b0 h0=>by rw[jY b0 h0,Q9]; exact⟨rfl,by simp[bh.ln],fun _=>hρ⟩) (fun _=>⟨b,cC⟩)
   (fun e he=>by
     rcases List.mem_or_eq_of_mem_set he with he|rfl
     ·exact B.even e he
     ·show (bM _ _ _).length=b.sz
      unfold bM
      rw[List.length_append,List.length_append,List.length_take,List.length_drop,hel]; omega)
   (by simpa using hlc) mX (by rw[h2]; exact hcs) (by simpa using key)
  exact⟨_,E,by rw[bO]; exact W⟩
theorem yn {sz:Nat}:∀ {xs:List (List AV)},(∀e ∈ xs,e.length=sz)→xs.flatten.length=xs.length*sz
 |[],_=>by simp
 |e::r,h=>by
  rw[List.flatten_cons,List.length_append,yn (fun e he=>h e (List.mem_cons_of_mem _ he)),h e List.mem_cons_self,List.length_cons,Nat.add_mul,Nat.one_mul,Nat.add_comm]
theorem vd {sz:Nat}:∀ {xs:List (List AV)} {k:Nat},(∀e ∈ xs,e.length=sz)→k<xs.length*sz→∃p q,p<xs.length∧q<sz∧k=p*sz+q∧xs.flatten.getD k .bad=(xs.getD p []).getD q .bad
 |[],k,_,hk=>by simp at hk
 |e::r,k,h,hk=>by
  have he:=h e List.mem_cons_self
  by_cases hlt:k<sz
  ·refine⟨0,k,by simp,hlt,by simp,?_⟩
   simp only[List.flatten_cons,List.getD_eq_getElem?_getD,List.getElem?_append_left (show k<e.length by omega),List.getElem?_cons_zero,Option.getD_some]
  ·rw[List.length_cons,Nat.add_mul,Nat.one_mul]at hk
   obtain⟨p,q,hp,hq,hkk,hg⟩:=vd (xs:=r) (k:=k - sz) (fun e he=>h e (List.mem_cons_of_mem _ he)) (by omega)
   refine⟨p+1,q,by simpa using hp,hq,by rw[Nat.add_mul,Nat.one_mul]; omega,?_⟩
   rw[List.getD_cons_succ,←hg]
   simp only[List.flatten_cons,List.getD_eq_getElem?_getD,List.getElem?_append_right (show e.length≤k by omega),he]
theorem C3 (hT:dj P T) {x y:Operand} {t t' e n len i off bY:Nat} {Ml:Mem} {b:bh} {K:List (List AV)→Prop} (hM:M=ab Ml) (ho:o.op= .call {callee:= .builtin .copy,args:= #[x,y],argTypes:= #[t,t']})
  (ht:T.d t= .slice e) (hok:(T.d e).ok=true) (bZ:ev F x= .dX n len i off bY) (hb:ab Ml n=some b) (hmp:b.mp=none) (hl:b.ln=len) (hi:i<b.es.length) (hfit:off+bY*T.s e≤b.sz)
  (hk:(∃e,P.underlying t'=some (.slice e))∨P.underlying t'=some .string) (hks:(∃s,ev F y= .str s)→P.underlying t'=some .string) (hkl:(¬ ∃s,ev F y= .str s)→∃e,P.underlying t'=some (.slice e)) (h:nH Ml (T.s e) (ev F y) K):
  ∃xs,K xs∧bN P X o F M (.int .i64 ((min xs.length bY:Nat):Int)) [(n,⟨b.ty,b.sz,b.es.set i (bM off ((xs.take bY).flatten) (b.es.getD i [])),none⟩)] []∧n ∈ (ev F x).names:=by
 have hx:x ∈ o.op.operands.toList:=by simp[ho,Op.operands,Call.operands]
 have hy:y ∈ o.op.operands.toList:=by simp[ho,Op.operands,Call.operands]
 obtain⟨D,it,z,hD,hf,_⟩:=hT t (by rw[ht]; simp)
 have gZ:=bW ht hf
 subst gZ
 obtain⟨De,ie,_,EQ,Lz,hie,mh,_⟩:=hT e (TD.dO hok)
 obtain⟨xs,hkx,hsrc⟩:=kE (X:=X) (o:=o) hT hM hy hk hks hkl h
 obtain⟨sl,eD,eT⟩:=bo (F:=F) x hx (n:=n) (by rw[bZ]; simp[AV.names])
 refine⟨xs,hkx,⟨fun p hp=> .inr ⟨sl,eD,by simp at hp; rw[hp]; exact eT⟩,fun M' N ρ I a w hW hU hN _=> ?_⟩,by rw[bZ]; simp[AV.names]⟩
 have r1:=ax hU x hx
 rw[bZ]at r1
 have cC:M' n=some b:=(hN sl eD n eT).trans (by rw[hM]; exact hb)
 have dQ:lens M' n=some (len,b.sz):=by rw[aC]; exact⟨b,cC,hl,rfl⟩
 obtain⟨hn,g,cap,c,hρ,hv,_⟩:=mg r1 dQ
 obtain⟨vs,hS,hL,Yx⟩:=hsrc M' N ρ I a w hW hU hN
 have EO:(xs.take bY).length=min bY xs.length:=List.length_take
 have uw:∀e' ∈ xs.take bY,e'.length=T.s e:=fun e' he=>hL.2.1 e' (List.mem_of_mem_take he)
 have hfl:=yn uw
 have hle:min xs.length bY*T.s e≤bY*T.s e:=Nat.mul_le_mul_right _ (Nat.min_le_right _ _)
 have hle2:min xs.length bY*T.s e≤xs.length*T.s e:=Nat.mul_le_mul_right _ (Nat.min_le_left _ _)
 rw[EO,Nat.min_comm]at hfl
 have hvl:(vs.take (min xs.length bY*T.s e)).length=((xs.take bY).flatten).length:=by
  rw[hfl,List.length_take,hL.1]; omega
 have hone:∀u ∈ vs.take (min xs.length bY*T.s e),u.oneCell'=true:=fun u hu=>hL.one u (List.mem_of_mem_take hu)
 obtain⟨hst,ρ1,E,W⟩:=C2 (P:=P) hW (off:=off) (gq:=(xs.take bY).flatten) (oE:=vs.take (min xs.length bY*T.s e)) cC hmp hρ hi hvl hone (fun k hk'=>by
  rw[hfl]at hk'
  obtain⟨p,q,hp,hq,hkk,hg⟩:=vd (xs:=xs.take bY) (k:=k) uw (by rw[EO,Nat.min_comm]; exact hk')
  rw[EO]at hp
  obtain⟨u,hu,_,hr⟩:=hL.2.2 p q (by omega) hq
  rw[hg]
  have e1:(xs.take bY).getD p []=xs.getD p []:=by
   simp only[List.getD_eq_getElem?_getD,List.getElem?_take]
   rw[if_pos (by omega)]
  have e2:(vs.take (min xs.length bY*T.s e)).getD k default=u:=by
   rw[List.getD_eq_getElem?_getD,List.getElem?_take,if_pos hk',hkk,hu]; rfl
  rw[e1,e2]; exact hr) (by rw[hfl]; omega)
 unfold bS
 have hrun:(execOp a.eval o).run P w= .ok (.value (.int .i64 ((min xs.length bY:Nat):Int))) (w.setCells g (i*b.sz+off) (vs.take (min xs.length bY*T.s e))):=by
  have hp:=Yx (min xs.length bY) (Nat.min_le_left _ _)
  rw[iM ho]
  have e0:(Array.map a.eval #[x,y])= #[a.eval x,a.eval y]:=by simp
  have em:Nat.min xs.length bY=min xs.length bY:=rfl
  simp only[e0,builtin,hv,Builtin.copy_,Sem.run_bind,run_underlying hD,Result.andThen_ok,hS.len,bF hie,mh,em,hp,Sem.run_pure,List.toList_toArray,hst,goInt]
  simp[hst,run_underlying hD,hS.len,bF hie,mh,hp,goInt,em]
 rw[hrun]
 exact⟨ρ1,I,E,W,.int _ _⟩
theorem FC (hT:dj P T) {n t e len:Nat} {x y:Operand} {k k':IntKind} (ho:o.op= .makeSlice t x y) (ht:T.d t= .slice e) (hok:(T.d e).ok=true) (hs:bQ (T.z e)=true) (hl:(cells (T.z e)).length=T.s e) (hz:T.s e≠0)
  (hx:ev F x= .int k len) (hy:ev F y= .int k' len) (hlen:len≤hY):bN P X o F M (.bc n len) [(n,⟨e,T.s e,List.replicate len (cells (T.z e)),none⟩)] [n]:=by
 have hx':x ∈ o.op.operands.toList:=by simp[ho,Op.operands]
 have hy':y ∈ o.op.operands.toList:=by simp[ho,Op.operands]
 obtain⟨D,it,z,hD,hf,hi,hsz,_⟩:=hT t (by rw[ht]; simp)
 have gZ:=bW ht hf
 subst gZ
 obtain⟨_,ie,ze,_,_,hie,mh,hby,MB,ji⟩:=hT e (TD.dO hok)
 refine qq (cap:=len) (by simp) (fun M' N ρ I a w hW hU=> ?_)
 have hc:bj ρ (lens M') I w N (cells (T.z e)) ze.cells:=by rw[ji]; exact bj.eU (fT _ _ _ _ _ ze) (by rw[←ji]; exact hs)
 have r1:=bG (hx ▸ ax hU x hx')
 have r2:=bG (hy ▸ ax hU y hy')
 have hmax:len≤maxLen:=by simp only[maxLen,hY]at *; omega
 have hrow:=iK.Fa (n:=len) hc hl hz
 refine⟨madeCells ze.cells (len*ie.size),?_,by rw[size_madeCells,mh],Nat.le_refl _,hmax,by rw[mh]; exact hrow⟩
 have hb:(ie.bytes:Int)* (len:Int)≤281474976710656:=by
  have h1:ie.bytes*len≤131072*1073741824:=Nat.mul_le_mul hby hlen
  have h2:((ie.bytes*len:Nat):Int)≤281474976710656:=by omega
  rwa[Int.natCast_mul]at h2
 have h3:=run_make (P:=P) w t e ie ze hD hie MB k k' (len:Int) (len:Int) (by omega) (Int.le_refl _) hb (by simp only[hY]at hlen; omega)
 simp only[execOp,ho,r1,r2,Sem.run_bind,h3,Result.andThen_ok,Sem.run_pure,Int.toNat_natCast]
theorem FD (hT:dj P T) {n s t e:Nat} {x:Operand} {l:List UInt8} (ho:o.op= .convert s t x) (hs:T.d s= .str) (ht:T.d t= .slice e) (he:T.d e= .int .u8) (hx:ev F x= .str l) (hlen:l.length≤hY):
  bN P X o F M (.bc n l.length) [(n,⟨e,1,l.map fun c=>[AV.int .u8 c.toNat],none⟩)] [n]:=by
 have hx':x ∈ o.op.operands.toList:=by simp[ho,Op.operands]
 obtain⟨D,_,_,Xd,hf,_⟩:=hT s (by rw[hs]; simp)
 have:=fX hs hf
 subst this
 obtain⟨D,_,_,Yw,hf,_⟩:=hT t (by rw[ht]; simp)
 have:=bW ht hf
 subst this
 obtain⟨D,_,_,EQ,hf,_⟩:=hT e (by rw[he]; simp)
 have:=fits_int he hf
 subst this
 refine⟨fun p hp=> .inl (by simp at hp; simp[hp]),fun M' N ρ I ac w hW hU hN hF=> ?_⟩
 have hn:¬N n:=hF n (by simp)
 have r1:=gN (hx ▸ ax hU x hx')
 have hd:∀b0,M' n=some b0→False:=fun b0 h0=>hn (hW.aU n b0 h0).lt
 have hsz:(⟨l.toArray⟩:ByteArray).size=l.length:=by show l.toArray.size=_; simp
 have hge:=grownCap_ge w l.length 0 e
 have mX:=grownCap_le_maxLen w l.length 0 e (by simp only[maxLen,hY]at *; omega)
 have hcs:(Lib.bytesCells w e ⟨l.toArray⟩).size=grownCap w l.length 0 e:=by
  simp only[Lib.bytesCells,Array.size_append,Array.size_map,Array.size_replicate,hsz,List.size_toArray]; omega
 have hrow:∀i j,i<l.length→j<1→∃u,(Lib.bytesCells w e ⟨l.toArray⟩)[i*1+j]? =some u∧u.oneCell'=true∧aN ρ (lens M') I w N (((l.map fun c=>[AV.int .u8 (c.toNat:Int)]).getD i []).getD j .bad) u:=by
  intro i j hi hj
  have Yy:j=0:=by omega
  subst Yy
  refine⟨.int .u8 (l[i].toNat:Int),?_,rfl,?_⟩
  ·rw[Nat.mul_one,Nat.add_zero,Lib.bytesCells,Array.getElem?_append_left (by simpa using hi)]
   simp[hi]
  ·have:((l.map fun c=>[AV.int .u8 (c.toNat:Int)]).getD i []).getD 0 .bad= .int .u8 (l[i].toNat:Int):=by simp[List.getD_eq_getElem?_getD,hi]
   rw[this]; exact .int _ _
 obtain⟨E,W⟩:=hW.put (w':=Lib.bytesWorld w e ⟨l.toArray⟩) n ⟨e,1,l.map fun c=>[AV.int .u8 (c.toNat:Int)],none⟩ w.heap.size (grownCap w l.length 0 e) (Lib.bytesCells w e ⟨l.toArray⟩) ((Lib.bytesCells w e ⟨l.toArray⟩).size,(Lib.bytesCells w e ⟨l.toArray⟩).size+1)
  rfl rfl rfl (by rw[Lib.bytesWorld_size]; omega) (fun k hk _=>Lib.bytesWorld_at_old w e _ k hk) (Lib.bytesWorld_at_new w e _) (fun o h1 h2=>by omega)
  (.inl (Nat.le_refl _)) (fun b0 h0=>(hd b0 h0).elim) (fun h=>(hn h).elim) (fun r hr=>by obtain⟨_,_,rfl⟩:=List.mem_map.1 hr; rfl) (by simpa using hge) mX (by rw[hcs]; simp) (by simpa using hrow)
 unfold bS
 have hrun:(execOp ac.eval o).run P w= .ok (.value (.slice (some ⟨w.heap.size,0,none⟩) l.length (grownCap w l.length 0 e))) (Lib.bytesWorld w e ⟨l.toArray⟩):=by
  have:=Lib.run_convert_string_bytes (P:=P) w s t e ⟨l.toArray⟩ Xd Yw EQ
  simp only[execOp,ho,r1,Sem.run_bind,this,Result.andThen_ok,Sem.run_pure,hsz]
 rw[hrun]
 refine⟨_,I,E,by rw[bO]; exact W,?_⟩
 refine kD (sz:=1) (.inr ⟨_,List.mem_singleton.2 rfl⟩) ?_ (by simp[iv])
 show lens (cW M' n _) n=_
 rw[cN,if_pos rfl]; simp[bh.ln]
end Go.AM
namespace Go.AM
open Go.RowKit
variable {P:Program} {T:TT} {X:cq} {o:Oper} {F:aY} {M:br}
section
variable {w:World} {t tx ty e:TypeId} {i:TypeInfo} {z:Value} {k k':IntKind} {n:Nat}
theorem jM {zz:Array Value} {m:Nat} (h:m*zz.size=0):Builtin.zeroCells zz m= #[]:=by
 simp[Builtin.zeroCells,h]
theorem wrap_small (h:n≤hY):IntKind.i64.wrap (n:Int)=n:=by
 simp only[hY]at h
 simp only[IntKind.wrap,IntKind.bits,IntKind.signed]; simp; omega
theorem jN (ht:P.underlying t=some (.slice e)) (hx:P.underlying tx=some (.int k)) (hi:P.info? e=some i) (hz:i.zero=some z) (hzs:z.cells.size=i.size) (hn:n≤hY) (hby:i.bytes≤131072)
  (base:Option Addr) (sLen sCap:Nat) (hroom:sLen+n≤sCap) (w':World)
  (hst:∀a,base=some a→(storeCells (a.add (sLen*i.size)) (Builtin.zeroCells z.cells n).toList).run P w= .ok () w') (h0:base=none→w'=w):
  (Builtin.append_ #[t,tx] ty #[.slice base sLen sCap,.int k' n]).run P w= .ok (.slice base (sLen+n) sCap) w':=by
 have h48:¬ (281474976710656< (n:Int)* (i.bytes:Int)):=by
  have h1:n*i.bytes≤1073741824*131072:=Nat.mul_le_mul hn hby
  have h2:((n*i.bytes:Nat):Int)≤281474976710656:=by omega
  rw[Int.natCast_mul]at h2; omega
 have hneg:¬ ((n:Int)<0):=by omega
 have hap:(if n*i.size=0 then (pure #[]:Sem (Array Value))else do pure (Builtin.zeroCells (←zeroValue e).cells n)).run P w= .ok (Builtin.zeroCells z.cells n) w:=by
  split
  ·rename_i h
   rw[jM (by rw[hzs]; exact h)]; simp
  ·simp[zeroValue,typeInfo,hi,hz]
 cases base with
 |none=>
  have:=h0 rfl
  subst this
  simp[Builtin.append_,run_underlying ht,run_underlying hx,sizeOf,typeInfo,zeroValue,hz,hi,wrap_small hn,hneg,h48,hroom,asInt,asIntOf]
 |some a=>
  have hst:=hst a rfl
  simp[Builtin.append_,run_underlying ht,run_underlying hx,sizeOf,typeInfo,zeroValue,hz,hi,wrap_small hn,hneg,h48,hroom,asInt,asIntOf]at hap hst ⊢
  by_cases h:n*i.size=0
  ·have h2:=hap h
   rw[h2]at hst
   simp[h,hst]
  ·simp[h,hst]
theorem jO (ht:P.underlying t=some (.slice e)) (hx:P.underlying tx=some (.int k)) (hi:P.info? e=some i) (hz:i.zero=some z) (hzs:z.cells.size=i.size) (hn:n≤hY) (hby:i.bytes≤131072)
  (base:Option Addr) (sLen sCap:Nat) (olds:List Value) (hold:(Builtin.firstCells i.size sLen (.slice base sLen sCap)).run P w.drew= .ok olds.toArray w.drew)
  (hg:sCap<sLen+n) (h63:((sLen+n:Nat):Int)≤9223372036854775807) (hfit:Builtin.nextslicecap (sLen+n) sCap*i.bytes≤281474976710656):
  (Builtin.append_ #[t,tx] ty #[.slice base sLen sCap,.int k' n]).run P w= .ok (.slice (some ⟨w.heap.size,0,none⟩) (sLen+n) (grownCap w (sLen+n) sCap e))
    (w.drew.alloc (.cells ((olds++(Builtin.zeroCells z.cells n).toList).toArray++Builtin.zeroCells z.cells (grownCap w (sLen+n) sCap e - (sLen+n))) e)):=by
 have h48:¬ (281474976710656< (n:Int)* (i.bytes:Int)):=by
  have h1:n*i.bytes≤1073741824*131072:=Nat.mul_le_mul hn hby
  have h2:((n*i.bytes:Nat):Int)≤281474976710656:=by omega
  rw[Int.natCast_mul]at h2; omega
 have hneg:¬ ((n:Int)<0):=by omega
 have hnr:¬ (sLen+n≤sCap):=by omega
 have h63':¬ (9223372036854775807< ((sLen:Int)+ (n:Int))):=by omega
 have Yz:¬ (281474976710656<Builtin.nextslicecap (sLen+n) sCap*i.bytes):=by omega
 have hap:(if n*i.size=0 then (pure #[]:Sem (Array Value))else do pure (Builtin.zeroCells (←zeroValue e).cells n)).run P w.drew= .ok (Builtin.zeroCells z.cells n) w.drew:=by
  split
  ·rename_i h
   rw[jM (by rw[hzs]; exact h)]; simp
  ·simp[zeroValue,typeInfo,hi,hz]
 simp[Builtin.append_,run_underlying ht,run_underlying hx,sizeOf,typeInfo,zeroValue,hi,hz,wrap_small hn,hneg,h48,hnr,h63',Yz,asInt,asIntOf,Question.forced,hold,newRow,grownCap]at hap ⊢
 by_cases h:n*i.size=0
 ·have h2:=hap h
  simp[h,h2]
 ·simp[h]
  congr 2
  apply Array.ext'
  simp[List.append_assoc]
end
theorem ve {ρ:Place} {L:ba} {I:Nat→Prop} {w:World} {N:Nat→Prop} {z:Value} {a:AV} {sz n:Nat} (h:bj ρ L I w N (cells a) z.cells) (hl:(cells a).length=sz) (hpos:sz≠0):
  dw ρ L I w N sz (List.replicate n (cells a)) (Builtin.zeroCells z.cells n).toList:=by
 have hz:z.cells.size=sz:=by rw[h.1,hl]
 have hr:=iK.Fa (n:=n) h hl hpos
 have e:Builtin.zeroCells z.cells n=(Array.range (n*sz)).map (z.cells[· % z.cells.size]!):=by simp only[Builtin.zeroCells,hz]
 rw[e]
 refine⟨by simp,hr.2.1,fun i j hi hj=> ?_⟩
 obtain⟨u,hu,h1⟩:=hr.2.2 i j hi hj
 exact⟨u,by rw[Array.getElem?_toList]; exact hu,h1⟩
def oF (T:TT) (t:Nat) (s x:AV) (S:St) (K:AV→Mem→Nat→Prop):Prop:=
 match T.d t,x with
 | .slice e,.int _ m=>
   (match s with
   | .bc n len=>alive S.M n len fun b=>jk (b.sz==T.s e&&b.ty==e) ((0≤m∧len+m.toNat≤hY)∧
       K (.bc n (len+m.toNat)) (gz S.M n ⟨b.ty,b.sz,b.es++List.replicate m.toNat (cells (T.z e)),none⟩) S.nx)
   | .ao=>(0≤m∧m.toNat≤hY)∧K (.bc S.nx m.toNat) (gz S.M S.nx ⟨e,T.s e,List.replicate m.toNat (cells (T.z e)),none⟩) (S.nx+1)
   |_=>False)
 |_,_=>False
theorem wQ (hT:dj P T) {s x:Operand} {t t' nx:Nat} {Ml:Mem} {K:AV→Mem→Nat→Prop} (hM:M=ab Ml) (ho:o.op= .call {callee:= .builtin .append,args:= #[s,x],argTypes:= #[t,t']})
  (hok:∀e,T.d t= .slice e→(T.d e).ok=true∧bQ (T.z e)=true∧(cells (T.z e)).length=T.s e∧T.s e≠0) (hint:∃k,T.d t'= .int k)
  (h:oF T t (ev F s) (ev F x) ⟨F,Ml,nx⟩ K):
  ∃av n b nw aZ,bN P X o F M av [(n,b)] nw∧K av (gz Ml n b) aZ∧((nw=[nx]∧aZ=nx+1∧n=nx)∨(aZ=nx∧nw=[]∧n ∈ (ev F s).names)):=by
 have hs:s ∈ o.op.operands.toList:=by simp[ho,Op.operands,Call.operands]
 have hx:x ∈ o.op.operands.toList:=by simp[ho,Op.operands,Call.operands]
 unfold oF at h
 cases ht:T.d t with
 |slice e=>
  cases Xi:ev F x with
  |int kx m=>
   rw[ht,Xi]at h
   simp only at h
   obtain⟨D,it,z0,hD,hf,_⟩:=hT t (by rw[ht]; simp)
   have gZ:=bW ht hf
   subst gZ
   obtain⟨ME,oz,hcl,hpos⟩:=hok e ht
   obtain⟨_,ie,z,_,_,hie,mh,hby,hz,ji⟩:=hT e (TD.dO ME)
   obtain⟨k',hk'⟩:=hint
   obtain⟨D',_,_,QI,hfx,_⟩:=hT t' (by rw[hk']; simp)
   have:=fits_int hk' hfx
   subst this
   have hzs:z.cells.size=T.s e:=by
    have:=(bj.eU (ρ:=fun _=>none) (L:=fun _=>none) (I:=fun _=>False) (w:=default) (N:=cH) (fT _ _ _ _ _ z) (by rw[←ji]; exact oz)).1
    rw[this,←ji,hcl]
   have C4:z.cells.size=ie.size:=by rw[hzs,mh]
   have hfit:∀need old,old<need→need≤hY→Builtin.nextslicecap need old*ie.bytes≤281474976710656:=fun need old h1 h2=>by
    refine growslice_fits h1 ?_
    calc need*ie.bytes≤hY*131072:=Nat.mul_le_mul h2 hby
     _=140737488355328:=by simp[hY]
   have hcells:∀ (ρ:Place) (L:ba) (I:Nat→Prop) (w:World) (N:Nat→Prop),bj ρ L I w N (cells (T.z e)) z.cells:=fun ρ L I w N=>by rw[ji]; exact bj.eU (fT _ _ _ _ _ z) (by rw[←ji]; exact oz)
   cases hss:ev F s with
   |bc n len=>
    rw[hss]at h
    simp only[alive]at h
    cases hb:ab Ml n with
    |none=>rw[hb]at h; exact h.elim
    |some b=>
     rw[hb]at h
     obtain⟨hc1,hmp,h2⟩:=az h
     obtain⟨jV,⟨hm0,ii⟩,hk⟩:=az h2
     have hl:b.es.length=len:=(bh.dd hmp).symm.trans (by simpa using hc1)
     simp only[Bool.and_eq_true,beq_iff_eq]at jV
     obtain⟨hsz,Aa⟩:=jV
     generalize hmn:m.toNat=q at*
     obtain rfl:m=(q:Int):=by omega
     obtain⟨sl,eD,eT⟩:=bo (F:=F) s hs (n:=n) (by rw[hss]; simp[AV.names])
     refine⟨_,n,_,[],nx,?_,hk,.inr ⟨rfl,rfl,by simp[AV.names]⟩⟩
     refine⟨fun p hp=> .inr ⟨sl,eD,by simp at hp; rw[hp]; exact eT⟩,fun M' N ρ I a w hW hU hN _=> ?_⟩
     have cC:M' n=some b:=(hN sl eD n eT).trans (by rw[hM]; exact hb)
     have dQ:lens M' n=some (b.es.length,b.sz):=by rw[aC]; exact⟨b,cC,bh.dd hmp,rfl⟩
     have hL:=ve (n:=q) (hcells ρ (lens M') I w N) hcl hpos
     have QJ:q≤hY:=by omega
     have r1:=ax hU s hs
     rw[hss]at r1
     have r2:=bG (Xi ▸ ax hU x hx)
     subst hl
     obtain⟨hn,h2⟩:=jw r1 dQ
     unfold bS
     rw[dJ ho,r2]
     rw[←hsz]at hL
     have hxl:(List.replicate q (cells (T.z e))).length=q:=by simp
     rcases h2 with⟨h0,r,hv⟩|⟨g,cap,hρ,hv⟩
     ·have hB:=hW.aU n b cC
      have he:b.es=[]:=hB.ep h0
      rw[hv]
      by_cases hx0:q=0
      ·subst hx0
       have hz0:(Builtin.zeroCells z.cells 0).toList=[]:=by rw[jM (by simp)]
       have hrun:=jN (P:=P) (w:=w) (t:=t) (tx:=t') (ty:=o.type) (k':=kx) hD QI hie hz C4 QJ hby r 0 0 (by simp) w (fun a ha=>by rw[hz0]; simp[storeCells]) (fun _=>rfl)
       rw[hrun]
       refine⟨ρ,I,?_,?_,?_⟩
       ·show ma N ρ (lens M') I w ρ (lens (cW M' n _)) I w
        have:(⟨b.ty,b.sz,b.es++List.replicate 0 (cells (T.z e)),none⟩:bh)=b:=by have:=hmp; cases b; simp_all
        rw[this,mi cC]; exact ma.refl _ _ _ _ _
       ·show c6 X ρ I (cW M' n _) _ w
        have:(⟨b.ty,b.sz,b.es++List.replicate 0 (cells (T.z e)),none⟩:bh)=b:=by have:=hmp; cases b; simp_all
        rw[this,mi cC]
        have II:fG N [(n,b)]=N:=by
         rw[bO]; funext m; simp only[zQ,eq_iff_iff]
         exact⟨fun h=>h.elim (fun e=>e ▸ hn) id,.inr⟩
        rw[bO]at II ⊢
        rw[II]; exact hW
       ·refine .bc n _ _ (.inl hn) rfl fun l zY nK=> ?_
        have:(⟨b.ty,b.sz,b.es++List.replicate 0 (cells (T.z e)),none⟩:bh)=b:=by have:=hmp; cases b; simp_all
        rw[this]at nK
        change lens (cW M' n b) n=_ at nK
        rw[cN,if_pos rfl,bh.dd hmp]at nK
        simp at nK
        exact⟨by omega,fun _=> .inl ⟨h0,r,rfl⟩⟩
      ·have MF:(Builtin.firstCells ie.size 0 (.slice r 0 0)).run P w.drew= .ok #[] w.drew:=by
        cases r with
        |none=>exact run_firstCells_none w.drew ie.size 0 0 0
        |some a=>exact run_firstCells_some w.drew ie.size 0 a 0 0 [] (by simp) (fun j v hv=>by simp at hv)
       have hrun:=jO (P:=P) (w:=w) (t:=t) (tx:=t') (ty:=o.type) (k':=kx) (n:=q) hD QI hie hz C4 QJ hby r 0 0 [] MF (by omega) (by simp[hY]at QJ ⊢; omega) (hfit _ _ (by omega) (by omega))
       rw[hrun]
       have gS:=j3 (X:=X) (e:=e) (olds:=[]) (old:=0) (z:=z) hW (fun _=>⟨b,cC⟩) (fun b0 h0=>by rw[cC]at h0; cases h0; exact⟨rfl,he,hmp⟩) (by rw[hxl]; omega) ⟨by simp,by simp,fun i j hi=>by simp at hi⟩ hL (by rw[hzs,hsz]) (by rw[hxl]; simpa using QJ)
       have e1:b.es.length+q=([]:List (List AV)).length+ (List.replicate q (cells (T.z e))).length:=by rw[he,hxl]
       have e2:(⟨b.ty,b.sz,b.es++List.replicate q (cells (T.z e)),none⟩:bh)=⟨e,b.sz,[]++List.replicate q (cells (T.z e)),none⟩:=by rw[he,Aa]
       have e3:0+q=([]:List (List AV)).length+ (List.replicate q (cells (T.z e))).length:=by rw[hxl]; rfl
       rw[e1,e2,e3]
       exact gS
     ·rw[hv]
      by_cases hroom:b.es.length+q≤cap
      ·obtain⟨g1,g2,g3⟩:=x5 hW cC hmp hρ hL (by rw[hxl]; exact hroom)
       have hone:∀u ∈ (Builtin.zeroCells z.cells q).toList,u.oneCell'=true:=hL.one
       have hst:=run_storeCells_cells (P:=P) g (0+b.es.length*b.sz) _ 0 w (by simpa using g1) (by simpa using g2) hone
       have hrun:=jN (P:=P) (w:=w) (t:=t) (tx:=t') (ty:=o.type) (k':=kx) hD QI hie hz C4 QJ hby (some ⟨g,0,none⟩) b.es.length cap hroom (w.setCells g (0+b.es.length*b.sz) (Builtin.zeroCells z.cells q).toList)
        (fun a ha=>by
          cases ha
          rw[ce,mh,←hsz]
          simpa using hst) (fun h=>by cases h)
       rw[hrun]
       rw[hxl]at g3
       exact g3
      ·have hB:=hW.aU n b cC
       obtain⟨olds,Lu,Re⟩:=hB.list hmp hρ
       have Yk:(Builtin.firstCells ie.size b.es.length (.slice (some ⟨g,0,none⟩) b.es.length cap)).run P w.drew= .ok olds.toArray w.drew:=
        run_firstCells_some (P:=P) w.drew ie.size b.es.length _ _ _ _ (by rw[mh,←hsz]; exact Lu.1) (fun k u hu=>by rw[ce,Nat.zero_add]; exact Re k u hu)
       have hrun:=jO (P:=P) (w:=w) (t:=t) (tx:=t') (ty:=o.type) (k':=kx) (n:=q) hD QI hie hz C4 QJ hby _ b.es.length cap olds Yk (by omega) (by simp[hY]at ii ⊢; omega) (hfit _ _ (by omega) ii)
       rw[hrun]
       have gS:=j3 (X:=X) (e:=e) (old:=cap) (z:=z) hW (fun _=>⟨b,cC⟩) (fun b0 h0=>by rw[cC]at h0; cases h0; exact⟨rfl,rfl,hmp⟩)
        (by
          have hcap:b.es.length≤cap:=by obtain⟨_,_,_,_,_,_,hh,_⟩:=hB.real g cap hρ; exact hh
          rw[hxl]; omega) Lu hL (by rw[hzs,hsz]) (by rw[hxl]; exact ii)
       rw[hxl]at gS
       rw[←Aa]at gS ⊢
       exact gS
   |ao=>
    rw[hss]at h
    obtain⟨⟨hm0,ii⟩,hk⟩:=h
    generalize hmn:m.toNat=q at*
    obtain rfl:m=(q:Int):=by omega
    refine⟨_,nx,_,[nx],nx+1,?_,hk,.inl ⟨rfl,rfl,rfl⟩⟩
    refine⟨fun p hp=> .inl (by simp at hp; simp[hp]),fun M' N ρ I a w hW hU hN hF=> ?_⟩
    have hn:¬N nx:=hF nx (by simp)
    have hL:=ve (n:=q) (hcells ρ (lens M') I w N) hcl hpos
    have r1:=ax hU s hs
    have r2:=bG (Xi ▸ ax hU x hx)
    rw[hss]at r1
    generalize hv:a.eval s=v at r1
    cases r1
    unfold bS
    rw[dJ ho,hv,r2]
    have hxl:(List.replicate q (cells (T.z e))).length=q:=by simp
    by_cases hx0:q=0
    ·subst hx0
     have hrun:=jN (P:=P) (w:=w) (t:=t) (tx:=t') (ty:=o.type) (k':=kx) hD QI hie hz C4 ii hby none 0 0 (by simp) w (fun a ha=>by cases ha) (fun _=>rfl)
     rw[hrun]
     obtain⟨E,W⟩:=hW.ep hn e (T.s e)
     refine⟨_,I,E,by rw[bO]; exact W,?_⟩
     refine .bc nx _ _ (.inr ⟨_,List.mem_singleton.2 rfl⟩) rfl fun l zY nK=> ?_
     change lens (cW M' nx _) nx=_ at nK
     rw[cN,if_pos rfl]at nK
     simp[bh.ln]at nK
     exact⟨by omega,fun _=> .inl ⟨by simp,none,rfl⟩⟩
    ·have hrun:=jO (P:=P) (w:=w) (t:=t) (tx:=t') (ty:=o.type) (k':=kx) (n:=q) hD QI hie hz C4 ii hby none 0 0 [] (run_firstCells_none w.drew ie.size 0 0 0) (by omega) (by simp[hY]at ii ⊢; omega) (hfit _ _ (by omega) (by omega))
     rw[hrun]
     have gS:=j3 (X:=X) (n:=nx) (e:=e) (olds:=[]) (oA:=[]) (old:=0) (z:=z) hW (fun h=>(hn h).elim) (fun b0 h0=>(hn (hW.aU nx b0 h0).lt).elim) (by rw[hxl]; omega) ⟨by simp,by simp,fun i j hi=>by simp at hi⟩ hL hzs (by rw[hxl]; simpa using ii)
     have e1:q=([]:List (List AV)).length+ (List.replicate q (cells (T.z e))).length:=by rw[hxl]; simp
     have e2:(⟨e,T.s e,List.replicate q (cells (T.z e)),none⟩:bh)=⟨e,T.s e,[]++List.replicate q (cells (T.z e)),none⟩:=by simp
     have e3:0+q=([]:List (List AV)).length+ (List.replicate q (cells (T.z e))).length:=by rw[hxl]; rfl
     rw[e2,e3]
     show ic X M' N ρ I w (.bc nx q) _ _ _
     have:AV.bc nx q= .bc nx (([]:List (List AV)).length+ (List.replicate q (cells (T.z e))).length):=by rw[←e1]
     rw[this]
     exact gS
   |_=>rw[hss]at h; exact h.elim
  |_=>rw[ht,Xi]at h; exact h.elim
 |_=>rw[ht]at h; exact h.elim
end Go.AM
namespace Go.AM
open Go.RowKit
variable {P:Program} {T:TT} {X:cq} {o:Oper} {F:aY} {M:br}
inductive Rr:LK→Value→Prop
 |i (k:IntKind) (x:Int):Rr .i (.int k x)
 |b (x:Bool):Rr .b (.bool x)
 |s (x:List UInt8):Rr .s (.string ⟨x.toArray⟩)
inductive lM:List LK→List Value→Prop
 |nil:lM [] []
 |cons {l ls v vs} (h:Rr l v) (t:lM ls vs):lM (l::ls) (v::vs)
theorem lM.split:∀ {l1 l2:List LK} {vs:List Value},lM (l1++l2) vs→∃v1 v2,vs=v1++v2∧lM l1 v1∧lM l2 v2∧v1.length=l1.length
 |[],l2,vs,h=>⟨[],vs,rfl,.nil,h,rfl⟩
 |a::l1,l2,_,.cons (v:=v) h t=>by
  obtain⟨v1,v2,rfl,h1,h2,h3⟩:=t.split (l1:=l1)
  exact⟨v::v1,v2,rfl,.cons h h1,h2,by simp[h3]⟩
theorem sj {d:Nat}:∀ (fl:List Field) (off:Nat) (ls:List LK) (p vs:List Value),wM P (mr P d) fl off=some ls→lM ls vs→p.length=off→
  ∀f ∈ fl,f.name≠ "_" ∧∃l mid,mr P d f.type=some l∧lM l mid∧∀w,(part f.type (p++vs).toArray f.offset).run P w= .ok (valOf (aM P f.type) mid) w
 |[],_,_,_,_,_,_,_,f,hf=>by simp at hf
 |x::fl,off,ls,p,vs,hl,hv,hp,f,hf=>by
  simp only[wM]at hl
  split at hl
  ·rename_i hc
   simp only[Bool.and_eq_true,bne_iff_ne,ne_eq,beq_iff_eq]at hc
   split at hl
   ·rename_i l i yg EP
    split at hl
    ·rename_i hsz
     have hsz:i.size=l.length:=by simpa using hsz
     obtain⟨l2,hl2,rfl⟩:∃l2,wM P (mr P d) fl (off+l.length)=some l2∧l++l2=ls:=by simpa using hl
     obtain⟨v1,v2,rfl,h1,h2,h3⟩:=hv.split
     rcases List.mem_cons.1 hf with rfl|hf
     ·obtain⟨D,hD⟩:=BG yg
      refine⟨hc.1,l,v1,yg,h1,fun w=> ?_⟩
      have p1:=fI (w:=w) hD EP (pre:=p) (mid:=v1) (post:=v2) (by omega) (fun h=>by rw[h3]; exact jA yg h)
      rwa[hp,←hc.2]at p1
     ·have:=sj fl (off+l.length) l2 (p++v1) v2 hl2 h2 (by simp; omega) f hf
      rwa[List.append_assoc]at this
    ·simp at hl
   ·simp at hl
  ·simp at hl
theorem vf {d e:Nat} {l:List LK} {i:TypeInfo} (hl:mr P d e=some l) (hi:P.info? e=some i) (hsz:i.size=l.length):∀ (k j:Nat) (p vs:List Value),lM (lr k l) vs→p.length=j*l.length→
  ∀q ∈ List.range' j k,∃mid,lM l mid∧∀w,(part e (p++vs).toArray (q*i.size)).run P w= .ok (valOf (aM P e) mid) w
 |0,_,_,_,_,_,q,hq=>by simp at hq
 |k+1,j,p,vs,hv,hp,q,hq=>by
  have e1:lr (k+1) l=l++lr k l:=by simp[lr,List.replicate_succ]
  rw[e1]at hv
  obtain⟨v1,v2,rfl,h1,h2,h3⟩:=hv.split
  rw[List.range'_succ]at hq
  rcases List.mem_cons.1 hq with rfl|hq
  ·obtain⟨D,hD⟩:=BG hl
   refine⟨v1,h1,fun w=> ?_⟩
   have p1:=fI (w:=w) hD hi (pre:=p) (mid:=v1) (post:=v2) (by omega) (fun h=>by rw[h3]; exact jA hl h)
   rwa[hp,←hsz]at p1
  ·have:=vf hl hi hsz k (j+1) (p++v1) v2 h2 (by rw[List.length_append,hp,h3,Nat.succ_mul]) q hq
   rwa[List.append_assoc]at this
theorem dA {em:Bool}:∀ (d:Nat) (m t:Nat) (ls:List LK) (w:World) (vs:List Value),mr P d t=some ls→lM ls vs→
  (Instr.checkKey em (d+m) t (valOf (aM P t) vs)).run P w= .ok () w
 |0,_,_,_,_,_,h,_=>by simp[mr]at h
 |d+1,m,t,ls,w,vs,h,hv=>by
  have e:d+1+m=(d+m)+1:=by omega
  rw[e]
  have ih:=dA (em:=em) d m
  unfold mr at h
  cases hu:P.underlying t with
  |none=>rw[hu]at h; simp at h
  |some D=>
   rw[hu]at h
   cases D<;>simp only[reduceCtorEq]at h
   case bool=>
    obtain rfl:[LK.b]=ls:=by simpa using h
    have ha:aM P t=false:=by simp[aM,hu]
    rcases hv with _|⟨hl,ht⟩
    cases hl; cases ht
    simp[Instr.checkKey,run_underlying hu]
   case int k=>
    obtain rfl:[LK.i]=ls:=by simpa using h
    have ha:aM P t=false:=by simp[aM,hu]
    rcases hv with _|⟨hl,ht⟩
    cases hl; cases ht
    simp[Instr.checkKey,run_underlying hu]
   case string=>
    obtain rfl:[LK.s]=ls:=by simpa using h
    have ha:aM P t=false:=by simp[aM,hu]
    rcases hv with _|⟨hl,ht⟩
    cases hl; cases ht
    simp[Instr.checkKey,run_underlying hu]
   case struct fs=>
    have ha:aM P t=true:=by simp[aM,hu]
    cases hst:P.stoodInHeld t with
    |true=>simp[hst]at h
    |false=>
     simp only[hst,Bool.false_eq_true,if_false]at h
     have each:=sj (P:=P) fs.toList 0 ls [] vs h hv rfl
     simp only[List.nil_append]at each
     rw[ha]
     simp only[valOf,if_pos]
     rw[Instr.checkKey]
     simp only[Sem.run_bind,run_underlying hu,Result.andThen_ok]
     rw[←Array.forIn_toList]
     generalize fs.toList=L at each
     induction L with
     |nil=>simp
     |cons f L YA=>
      obtain⟨hn,l,mid,h1,h2,h3⟩:=each f (by simp)
      simp only[List.forIn_cons,Sem.run_bind,hn,ne_eq,not_false_eq_true,if_true,h3,ih _ _ _ _ h1 h2,Result.andThen_ok,Sem.run_pure]
      exact YA (fun y hy=>each y (by simp[hy]))
   case array n e=>
    have ha:aM P t=true:=by simp[aM,hu]
    split at h
    ·rename_i l i yg EP
     split at h
     ·rename_i hsz
      have hsz:i.size=l.length:=by simpa using hsz
      obtain rfl:lr n l=ls:=by simpa using h
      have each:=vf yg EP hsz n 0 [] vs hv (by simp)
      simp only[List.nil_append]at each
      rw[ha]
      simp only[valOf,if_pos]
      rw[Instr.checkKey]
      simp only[Sem.run_bind,run_underlying hu,Result.andThen_ok]
      simp only[Std.Legacy.Range.forIn_eq_forIn_range',Std.Legacy.Range.size,Nat.sub_zero,Nat.add_one_sub_one,Nat.div_one]
      generalize List.range' 0 n=L at each
      induction L with
      |nil=>simp
      |cons j L YA=>
       obtain⟨mid,h2,h3⟩:=each j (by simp)
       simp only[List.forIn_cons,Sem.run_bind,bF EP,h3,ih _ _ _ _ yg h2,Result.andThen_ok,Sem.run_pure]
       exact YA (fun y hy=>each y (by simp[hy]))
     ·simp at h
    ·simp at h
def IT (ag:Bool) (ls:List LK) (FE:List Value) (kc:List AV) (test:List AV→List AV→Bool) (e:MapEntry) (r:List AV):Prop:=
 ∃us rs,e.key=valOf ag us∧mJ ls FE us rs∧rs.all id=test kc r
inductive FF {α β:Type} (R:α→β→Prop):List α→List β→Prop
 |nil:FF R [] []
 |cons {a b as bs} (h:R a b) (t:FF R as bs):FF R (a::as) (b::bs)
theorem FF.of {α β:Type} {R:α→β→Prop}:∀ {as:List α} {bs:List β},as.length=bs.length→(∀ (i:Nat) (a:α) (b:β),as[i]? =some a→bs[i]? =some b→R a b)→FF R as bs
 |[],[],_,_=> .nil
 |a::as,b::bs,hl,h=> .cons (h 0 a b rfl rfl) (FF.of (by simpa using hl) fun i x y hx hy=>h (i+1) x y (by simpa using hx) (by simpa using hy))
 |[],_::_,hl,_=>by simp at hl
 |_::_,[],hl,_=>by simp at hl
def dM:List LK→List AV→List AV→Bool
 |[],[],_=>true
 | .i::l,.int k _::r,.int k' _::s=>rr k k'&&dM l r s
 | .b::l,.bool _::r,.bool _::s=>dM l r s
 | .s::l,.str _::r,.str _::s=>dM l r s
 |_,_,_=>false
theorem j6:∀ {ls:List LK} {kc r:List AV},dM ls kc r=true→∃rs,uC ls kc (r.take kc.length) rs∧rs.all id=kB kc r
 |[],[],r,_=>⟨[],by simpa using uC.nil,by simp[kB]⟩
 | .i::l,.int k x::a,.int k' y::s,h=>by
   simp only[dM,Bool.and_eq_true]at h
   obtain rfl:=iH h.1
   obtain⟨rs,h1,h2⟩:=j6 h.2
   exact⟨_,.cons (.i k x y) h1,by simp[kB,h2]⟩
 | .b::l,.bool x::a,.bool y::s,h=>by
   simp only[dM]at h
   obtain⟨rs,h1,h2⟩:=j6 h
   exact⟨_,.cons (.b x y) h1,by simp[kB,h2]⟩
 | .s::l,.str x::a,.str y::s,h=>by
   simp only[dM]at h
   obtain⟨rs,h1,h2⟩:=j6 h
   exact⟨_,.cons (.s x y) h1,by simp[kB,h2]⟩
def jB (kc:List AV):List MapEntry→List (List AV)→Nat→Option (Nat × Value)
 |e::en,r::es,i=>if kB kc r then some (i,e.val)else jB kc en es (i+1)
 |_,_,_=>none
theorem iP {kc:List AV}:∀ {en:List MapEntry} {es:List (List AV)} {i:Nat},en.length=es.length→
  (bL kc es=none∧jB kc en es i=none)∨∃j e r,bL kc es=some (j,r.drop kc.length)∧jB kc en es i=some (i+j,e.val)∧en[j]? =some e∧es[j]? =some r∧kB kc r=true
 |[],[],_,_=> .inl ⟨rfl,rfl⟩
 |e::en,r::es,i,hl=>by
  simp only[bL,jB]
  by_cases h:kB kc r=true
  ·rw[if_pos h,if_pos h]
   exact .inr ⟨0,e,r,rfl,rfl,rfl,rfl,h⟩
  ·rw[if_neg h,if_neg h]
   rcases iP (kc:=kc) (en:=en) (es:=es) (i:=i+1) (by simpa using hl)with⟨h1,h2⟩|⟨j,e2,r2,h1,h2,h3,h4,h5⟩
   ·exact .inl ⟨by rw[h1]; rfl,h2⟩
   ·exact .inr ⟨j+1,e2,r2,by rw[h1]; rfl,by rw[h2]; congr 2; omega,by simpa using h3,by simpa using h4,h5⟩
 |[],_::_,_,hl=>by simp at hl
 |_::_,[],_,hl=>by simp at hl
theorem MM.same {D:TypeDesc} {l:LK} {v u:Value} {r:Bool} (hD:(D= .bool∧l= .b)∨(∃k,D= .int k∧l= .i)∨(D= .string∧l= .s)) (h:MM l v u r):Instr.sameNow D v u=some r:=by
 rcases hD with⟨rfl,rfl⟩|⟨k,rfl,rfl⟩|⟨rfl,rfl⟩
 ·cases h; simp[Instr.sameNow]
 ·cases h; simp[Instr.sameNow]
 ·cases h
  rename_i x y
  simp only[Instr.sameNow,Option.some.injEq]
  show (x.toArray==y.toArray)=(x==y)
  simp
theorem qA {D:TypeDesc} {l:LK} {kv:Value} {kc:List AV} (hD:(D= .bool∧l= .b)∨(∃k,D= .int k∧l= .i)∨(D= .string∧l= .s)):∀ {en:List MapEntry} {es:List (List AV)} {i:Nat},FF (IT false [l] [kv] kc kB) en es→
  Instr.findNow D kv en i=some (jB kc en es i)
 |_,_,_,.nil=>rfl
 |_,_,i,.cons (a:=e) (b:=r) h t=>by
  obtain⟨us,rs,hk,h4,ht⟩:=h
  cases h4 with
  |cons hl h0=>
   rename_i q rs
   cases h0
   simp only[valOf,Bool.false_eq_true,if_false,List.headD_cons]at hk
   have:=hl.same hD
   simp only[Instr.findNow,jB,hk,this]
   simp only[List.all_cons,List.all_nil,Bool.and_true,id]at ht
   rw[←ht]
   cases q with
   |true=>rfl
   |false=>exact qA hD t
theorem fA {d t:Nat} {ls:List LK} (hd:d≤10000) (hl:mr P d t=some ls) {FE:List Value} {kc:List AV} (w:World):∀ {en:List MapEntry} {es:List (List AV)} {i:Nat},FF (IT (aM P t) ls FE kc kB) en es→
  (Instr.findAsking t (valOf (aM P t) FE) en i).run P w= .ok (jB kc en es i) w
 |_,_,_,.nil=>by simp[Instr.findAsking,jB]
 |_,_,i,.cons (a:=e) (b:=r) h tl=>by
  obtain⟨us,rs,hk,h4,ht⟩:=h
  have he:=ik d (10000 - d) t ls w FE us rs hl h4
  rw[show d+ (10000 - d)=10000 by omega]at he
  have Xj:(Op.equal t (valOf (aM P t) FE) e.key).run P w= .ok (rs.all id) w:=by rw[hk]; exact he
  simp only[Instr.findAsking,Sem.run_bind,Xj,Result.andThen_ok,jB,ht]
  cases kB kc r with
  |true=>simp
  |false=>simpa using fA hd hl w tl
theorem fj {d t:Nat} {ls:List LK} (hd:d≤10000) (hl:mr P d t=some ls) {FE:List Value} {kc:List AV} (w:World) (hkl:lM ls FE) {en:List MapEntry} {es:List (List AV)} (h:FF (IT (aM P t) ls FE kc kB) en es):
  (Instr.findKey t (valOf (aM P t) FE) en).run P w= .ok (jB kc en es 0) w:=by
 cases d with
 |zero=>simp[mr]at hl
 |succ d=>
  have nK:=hl
  unfold mr at hl
  cases hu:P.underlying t with
  |none=>rw[hu]at hl; simp at hl
  |some D=>
   rw[hu]at hl
   have plain:∀l,ls=[l]→aM P t=false→((D= .bool∧l= .b)∨(∃k,D= .int k∧l= .i)∨(D= .string∧l= .s))→(Instr.findKey t (valOf (aM P t) FE) en).run P w= .ok (jB kc en es 0) w:=by
    intro l hls ha hD
    subst hls
    rcases hkl with _|⟨h1,h0⟩
    cases h0
    rw[ha]at h ⊢
    simp only[valOf,Bool.false_eq_true,if_false,List.headD_cons]
    exact MapKept.run_findKey hu (qA hD h)
   cases D<;>simp only[reduceCtorEq]at hl
   case bool=>exact plain .b (by simpa using hl.symm) (by simp[aM,hu]) (.inl ⟨rfl,rfl⟩)
   case int k=>exact plain .i (by simpa using hl.symm) (by simp[aM,hu]) (.inr (.inl ⟨k,rfl,rfl⟩))
   case string=>exact plain .s (by simpa using hl.symm) (by simp[aM,hu]) (.inr (.inr ⟨rfl,rfl⟩))
   case struct fs=>
    rw[run_findKey_eq w (by rw[hu])]
    exact fA hd nK w h
   case array n e=>
    rw[run_findKey_eq w (by rw[hu])]
    exact fA hd nK w h
theorem mJ.eq:∀ {ls:List LK} {vs us:List Value} {rs:List Bool},mJ ls vs us rs→rs.all id=true→us=vs
 |_,_,_,_,.nil,_=>rfl
 |_,_,_,_,.cons h t,hr=>by
  simp only[List.all_cons,Bool.and_eq_true,id]at hr
  rw[t.eq hr.2]
  congr 1
  cases h<;>simp_all
theorem mJ.Rs:∀ {ls:List LK} {vs us:List Value} {rs:List Bool},mJ ls vs us rs→lM ls vs
 |_,_,_,_,.nil=> .nil
 |_,_,_,_,.cons h t=> .cons (by cases h<;>constructor) t.Rs
theorem na {n:Nat} {l:LK} {v:Value} (h:Rr l v):Instr.sameBits n v v=true:=by
 cases h<;>cases n<;>simp[Instr.sameBits,MapKept.bytes_beq]
theorem oG {n:Nat}:∀ {ls:List LK} {vs:List Value},lM ls vs→(vs.zip vs).all (fun q=>Instr.sameBits n q.1 q.2)=true
 |_,_,.nil=>rfl
 |_,_,.cons h t=>by simp[na h,oG t]
theorem oH {ag:Bool} {ls:List LK} {vs:List Value} (h:lM ls vs) (hone:ag=false→ls.length=1) (w:World):(Instr.keyThatStays (valOf ag vs) (valOf ag vs)).run P w= .ok (valOf ag vs) w:=by
 have:Instr.sameBits 10000 (valOf ag vs) (valOf ag vs)=true:=by
  cases ag with
  |true=>
   simp only[valOf,if_true]
   have:=oG (n:=9999) h
   simp[Instr.sameBits,this]
  |false=>
   obtain⟨l,rfl⟩:=List.length_eq_one_iff.1 (hone rfl)
   rcases h with _|⟨h1,h0⟩
   cases h0
   exact na h1
 simp[Instr.keyThatStays,this]
end Go.AM
namespace Go.AM
open Go.RowKit Go.MapKept
variable {P:Program} {T:TT} {X:cq} {o:Oper} {F:aY} {M:br}
def AV.jo:AV→Bool
 | .agg _=>true
 |_=>false
def oI (ag:Bool) (l:List AV):AV:=if ag then .agg l else l.headD .bad
section
variable {ρ ρ':Place} {L L':ba} {I I':Nat→Prop} {w w':World} {N N':Nat→Prop}
theorem dG {v:Value} (h:v.oneCell'=true):fQ v=false∧aL v=[v]:=by cases v<;>first|exact⟨rfl,rfl⟩|simp[Value.oneCell']at h
theorem fB (v:Value):valOf (fQ v) (aL v)=v:=by cases v<;>simp[valOf,fQ,aL]
theorem dy {a:AV} {v:Value} (h:aN ρ L I w N a v) (hs:bQ a=true):fQ v=a.jo∧(aL v).length=(cells a).length∧(∀u ∈ aL v,u.oneCell'=true)∧∀j,j< (cells a).length→aN ρ L I w N ((cells a).getD j .bad) ((aL v).getD j default):=by
 have key:fQ v=a.jo∧aL v=v.cells.toList:=by
  cases h with
  |bad=>simp[bQ]at hs
  |aP=>simp[bQ]at hs
  |agg cs vs hl h1 hr=>exact⟨rfl,rfl⟩
  |loc n len i off _ hn h1 h=>rw[(dG h1).1,(dG h1).2,eR h1]; exact⟨rfl,rfl⟩
  |bc n len _ hn h1 h=>rw[(dG h1).1,(dG h1).2,eR h1]; exact⟨rfl,rfl⟩
  |dX n len i off bY _ hn h1 h=>rw[(dG h1).1,(dG h1).2,eR h1]; exact⟨rfl,rfl⟩
  |omap n _ hn h1 h=>rw[(dG h1).1,(dG h1).2,eR h1]; exact⟨rfl,rfl⟩
  |_=>exact⟨rfl,rfl⟩
 obtain⟨h1,h2,h3⟩:=pG h hs
 rw[key.2]
 exact⟨key.1,h1,h2,h3⟩
structure pK (ρ:Place) (L:ba) (I:Nat→Prop) (w:World) (N:Nat→Prop) (k:Nat) (ka va:Bool) (sz:Nat) (key val:Value) (r:List AV):Prop where
 rl:r.length=sz
 kl:(aL key).length=k
 fl:k+ (aL val).length=sz
 ka:fQ key=ka
 va:fQ val=va
 cell:∀j,j<sz→((aL key++aL val).getD j default).oneCell'=true∧aN ρ L I w N (r.getD j .bad) ((aL key++aL val).getD j default)
structure mK (ρ:Place) (L:ba) (I:Nat→Prop) (w:World) (N:Nat→Prop) (k:Nat) (ka va:Bool) (sz:Nat) (es:List (List AV)) (en:Array MapEntry):Prop where
 len:en.size=es.length
 row:∀ (i:Nat) (e:MapEntry) (r:List AV),en[i]? =some e→es[i]? =some r→pK ρ L I w N k ka va sz e.key e.val r
structure lN (dn:Dn) (en:Array MapEntry) (ck:Nat):Prop where
 born:∀ (i j:Nat) (e f:MapEntry),en[i]? =some e→en[j]? =some f→i<j→e.born<f.born
 clock:∀ (i:Nat) (e:MapEntry),en[i]? =some e→e.born<ck
 den:dn.all=true→ck=en.size∧∀ (i:Nat) (e:MapEntry),en[i]? =some e→e.born=i
variable {k sz:Nat} {ka va:Bool} {dn:Dn} {es:List (List AV)} {en:Array MapEntry} {ck:Nat}
def iR (sz:Nat) (en:Array MapEntry):Array Value:=Array.ofFn fun p:Fin (maxLen*sz)=>((en[p.val / sz]?).map fun e=>(aL e.key++aL e.val).getD (p.val % sz) undef).getD undef
theorem vg (hsz:sz≠0) {i j:Nat} {e:MapEntry} (he:en[i]? =some e) (hi:i<maxLen) (hj:j<sz):(iR sz en)[i*sz+j]? =some ((aL e.key++aL e.val).getD j undef):=by
 have hlt:i*sz+j<maxLen*sz:=by
  have:(i+1)*sz≤maxLen*sz:=Nat.mul_le_mul_right _ hi
  rw[Nat.add_mul,Nat.one_mul]at this; omega
 have h1:(i*sz+j) / sz=i:=by rw[Nat.add_comm,Nat.add_mul_div_right _ _ (Nat.pos_of_ne_zero hsz),Nat.div_eq_of_lt hj,Nat.zero_add]
 have h2:(i*sz+j) % sz=j:=by rw[Nat.add_comm,Nat.add_mul_mod_self_right,Nat.mod_eq_of_lt hj]
 unfold iR
 rw[Array.getElem?_eq_getElem (by simpa using hlt),Array.getElem_ofFn]
 simp only[h1,h2,he,Option.map_some,Option.getD_some]
theorem pM (hsz:sz≠0) (hR:mK ρ L I w N k ka va sz es en) (hC:lN dn en ck) (hle:es.length≤maxLen):xW k ka va dn sz en ck (iR sz en):=by
 have row:∀ (i:Nat) (e:MapEntry),en[i]? =some e→i<maxLen∧∃r,pK ρ L I w N k ka va sz e.key e.val r:=fun i e he=>by
  have hlt:=(Array.getElem?_eq_some_iff.1 he).1
  have wP:i<es.length:=by rw[←hR.len]; exact hlt
  exact⟨by omega,es[i],hR.row i e _ he (List.getElem?_eq_getElem wP)⟩
 refine⟨fun i e he=> ?_,fun i e j u he hu=> ?_,hC.born,hC.clock,hC.den,by simp[iR],hsz⟩
 ·obtain⟨_,r,h⟩:=row i e he
  exact⟨h.kl,by rw[List.length_append,h.kl]; exact h.fl,h.ka,h.va⟩
 ·obtain⟨hi,r,h⟩:=row i e he
  have hj:j<sz:=by
   have:=(List.getElem?_eq_some_iff.1 hu).1
   rw[List.length_append,h.kl,h.fl]at this; exact this
  rw[vg hsz he hi hj,List.getD_eq_getElem?_getD,hu]; rfl
theorem nS (hsz:sz≠0) (hR:mK ρ L I w N k ka va sz es en) (hle:es.length≤maxLen):∀i j,i<es.length→j<sz→∃u,(iR sz en)[i*sz+j]? =some u∧u.oneCell'=true∧aN ρ L I w N ((es.getD i []).getD j .bad) u:=by
 intro i j hi hj
 have hi':i<en.size:=by rw[hR.len]; exact hi
 have h:=hR.row i en[i] es[i] (Array.getElem?_eq_getElem hi') (List.getElem?_eq_getElem hi)
 obtain⟨h1,h2⟩:=h.cell j hj
 have hlt:j< (aL en[i].key++aL en[i].val).length:=by rw[List.length_append,h.kl,h.fl]; exact hj
 refine⟨_,vg hsz (Array.getElem?_eq_getElem hi') (by omega) hj,?_,?_⟩
 ·rw[List.getD_eq_getElem?_getD,List.getElem?_eq_getElem hlt]at h1 ⊢; exact h1
 ·rw[List.getD_eq_getElem?_getD (l:=es),List.getElem?_eq_getElem hi,Option.getD_some]
  rw[List.getD_eq_getElem?_getD (l:=aL en[i].key++aL en[i].val),List.getElem?_eq_getElem hlt]at h2 ⊢; exact h2
theorem gh {n g cap:Nat} {b:bh} (hW:c6 X ρ I M N w) (cC:M n=some b) (hmp:b.mp=some (k,ka,va,dn)) (hρ:ρ n=some (g,cap)):
  ∃en ck,w.heap[g]? =some (.map en ck)∧mK ρ (lens M) I w N k ka va b.sz b.es en∧lN dn en ck∧b.sz≠0∧cap=maxLen∧b.es.length≤maxLen:=by
 have B:=hW.aU n b cC
 obtain⟨cs,fr,hg,nG,qS,hown,hlc,mX,hcs,hc⟩:=B.real g cap hρ
 rw[hmp]at hg
 obtain⟨en,ck,h1,h2,h3⟩:=hg
 have hcap:cap=maxLen:=by
  have:=h3.room.1
  rw[hcs]at this
  exact Nat.eq_of_mul_eq_mul_right (Nat.pos_of_ne_zero h3.room.2) this
 refine⟨en,ck,h1,⟨h2,fun i e r he hr=> ?_⟩,⟨h3.born,h3.clock,h3.den⟩,h3.room.2,hcap,by omega⟩
 obtain⟨k1,k2,k3,k4⟩:=h3.key i e he
 have hi:i<b.es.length:=(List.getElem?_eq_some_iff.1 hr).1
 refine⟨B.even r (List.mem_of_getElem? hr),k1,by rw[List.length_append,k1]at k2; exact k2,k3,k4,fun j hj=> ?_⟩
 obtain⟨u,pr,FG,hu3⟩:=hc i j hi hj
 have hlt:j< (aL e.key++aL e.val).length:=by rw[k2]; exact hj
 have hu4:=h3.cell i e j _ he (List.getElem?_eq_getElem hlt)
 rw[pr]at hu4
 have e1:(aL e.key++aL e.val).getD j default=u:=by
  rw[List.getD_eq_getElem?_getD,List.getElem?_eq_getElem hlt]; exact (Option.some.inj hu4).symm
 have e2:b.es.getD i []=r:=by rw[List.getD_eq_getElem?_getD,hr]; rfl
 rw[e1,←e2]
 exact⟨FG,hu3⟩
theorem kJ {n g cap:Nat} {b:bh} {v:Value} {av:AV} (hW:c6 X ρ I M N w) (cC:M n=some b) (hmp:b.mp=some (k,ka,va,dn)) (hρ:ρ n=some (g,cap)) {C5:Array MapEntry} {IU:Nat} {es':List (List AV)} {IV:Dn}
  (hR:mK ρ (lens M) I w N k ka va b.sz es' C5) (hC:lN IV C5 IU) (hle:es'.length≤maxLen) (hr:aN ρ (lens M) I w N av v) (hit:∀r sn la,IV= .it r sn la→X.w0.heap.size≤r∧¬I r∧EL {w with heap:=w.heap.setIfInBounds g (.map C5 IU)} g r sn la):
  ic X M N ρ I w av [(n,⟨b.ty,b.sz,es',some (k,ka,va,IV)⟩)] v {w with heap:=w.heap.setIfInBounds g (.map C5 IU)}:=by
 have B:=hW.aU n b cC
 obtain⟨en,ck,hg,_,_,hsz,rfl,_⟩:=gh hW cC hmp hρ
 have jY:∀b0,M n=some b0→b0=b:=fun b0 h0=>by rw[cC]at h0; exact (Option.some.inj h0).symm
 obtain⟨h1,h2⟩:=heap_set (o':= .map C5 IU) hg
 obtain⟨E,W⟩:=hW.put (w':= {w with heap:=w.heap.setIfInBounds g (.map C5 IU)}) n ⟨b.ty,b.sz,es',some (k,ka,va,IV)⟩ g maxLen (iR b.sz C5) (0,0) rfl rfl rfl (by simp) (fun q _ hq=>h2 q hq)
  ⟨C5,IU,h1,hR.len,pM hsz hR hC hle⟩ (fun o _ h=>by omega) (.inr ⟨maxLen,hρ,b,cC⟩) (fun b0 h0=>by rw[jY b0 h0]; refine⟨rfl,by simp[bh.ln,hmp],fun _=>hρ⟩) (fun _=>⟨b,cC⟩)
  (fun e he=>by
    obtain⟨i,hi,rfl⟩:=List.getElem_of_mem he
    have hi':i<C5.size:=by rw[hR.len]; exact hi
    exact (hR.row i C5[i] es'[i] (Array.getElem?_eq_getElem hi') (List.getElem?_eq_getElem hi)).rl)
  hle (Nat.le_refl _) (by simp[iR]) (nS hsz hR hle) (fun k' Iu Iv r sn la hb=>by cases hb; exact hit r sn la rfl)
 refine⟨_,_,E,by rw[bO]; exact W,?_⟩
 rw[bO]
 exact (hr.ui E (fun _ h=>h)).wide (fun _ h=> .inr h)
theorem lN.push {key val:Value} (h:lN dn en ck):lN dn.up (en.push ⟨key,val,ck⟩) (ck+1):=by
 have IW:∀ (i:Nat) (e:MapEntry),(en.push ⟨key,val,ck⟩)[i]? =some e→(i<en.size∧en[i]? =some e)∨(i=en.size∧e.born=ck):=fun i e he=>by
  rw[Array.getElem?_push]at he
  split at he
  ·rename_i hi; exact .inr ⟨hi,by simp at he; rw[←he]⟩
  ·exact .inl ⟨(Array.getElem?_eq_some_iff.1 he).1,he⟩
 refine⟨fun i j e f he hf hij=> ?_,fun i e he=> ?_,fun hd=> ?_⟩
 ·rcases IW i e he with⟨h1,h2⟩|⟨h1,h2⟩<;>rcases IW j f hf with⟨h3,h4⟩|⟨h3,h4⟩
  ·exact h.born i j e f h2 h4 hij
  ·have:=h.clock i e h2; omega
  ·omega
  ·omega
 ·rcases IW i e he with⟨h1,h2⟩|⟨h1,h2⟩
  ·have:=h.clock i e h2; omega
  ·omega
 ·obtain⟨h1,h2⟩:=h.den (by rw[←Dn.EX]; exact hd)
  refine⟨by simp[h1],fun i e he=> ?_⟩
  rcases IW i e he with⟨_,h4⟩|⟨h3,h4⟩
  ·exact h2 i e h4
  ·omega
theorem lN.modify {f:MapEntry→MapEntry} (hf:∀e,(f e).born=e.born) (i:Nat) (h:lN dn en ck):lN dn (en.modify i f) ck:=by
 have IW:∀ (j:Nat) (e:MapEntry),(en.modify i f)[j]? =some e→∃e0,en[j]? =some e0∧e.born=e0.born:=fun j e he=>by
  rw[Array.getElem?_modify]at he
  split at he
  ·obtain⟨e0,h1,rfl⟩:=Option.map_eq_some_iff.1 he
   exact⟨e0,h1,hf e0⟩
  ·exact⟨e,he,rfl⟩
 refine⟨fun a b e g he hg hab=> ?_,fun a e he=> ?_,fun hd=> ?_⟩
 ·obtain⟨e0,h1,h2⟩:=IW a e he
  obtain⟨g0,h3,h4⟩:=IW b g hg
  have:=h.born a b e0 g0 h1 h3 hab; omega
 ·obtain⟨e0,h1,h2⟩:=IW a e he
  have:=h.clock a e0 h1; omega
 ·obtain⟨h1,h2⟩:=h.den hd
  refine⟨by simp[h1],fun a e he=> ?_⟩
  obtain⟨e0,h3,h4⟩:=IW a e he
  have:=h2 a e0 h3; omega
theorem lN.up (h:lN dn en ck):lN dn.up en ck:=
 ⟨h.born,h.clock,fun hd=>h.den (by rw[←Dn.EX]; exact hd)⟩
theorem mK.push {key val:Value} {r:List AV} (h:mK ρ L I w N k ka va sz es en) (he:pK ρ L I w N k ka va sz key val r) (c:Nat):mK ρ L I w N k ka va sz (es++ [r]) (en.push ⟨key,val,c⟩):=by
 refine⟨by simp[h.len],fun i e q h1 h2=> ?_⟩
 rw[Array.getElem?_push]at h1
 split at h1
 ·rename_i hi
  have hl:=h.len
  have:q=r:=by rw[List.getElem?_append_right (by omega)]at h2; simp[hi,h.len]at h2; exact h2.symm
  simp at h1
  rw[this,←h1]; exact he
 ·rename_i hi
  have hlt:=(Array.getElem?_eq_some_iff.1 h1).1
  rw[List.getElem?_append_left (by rw[←h.len]; exact hlt)]at h2
  exact h.row i e q h1 h2
theorem mK.set {f:MapEntry→MapEntry} {i:Nat} {r:List AV} (h:mK ρ L I w N k ka va sz es en) (he:∀e,en[i]? =some e→pK ρ L I w N k ka va sz (f e).key (f e).val r):mK ρ L I w N k ka va sz (es.set i r) (en.modify i f):=by
 refine⟨by simp[h.len],fun j e q h1 h2=> ?_⟩
 rw[Array.getElem?_modify]at h1
 split at h1
 ·rename_i hij
  subst hij
  obtain⟨e0,h3,rfl⟩:=Option.map_eq_some_iff.1 h1
  have hlt:=(Array.getElem?_eq_some_iff.1 h3).1
  rw[List.getElem?_set_self (by rw[←h.len]; exact hlt)]at h2
  cases h2
  exact he e0 h3
 ·rename_i hij
  rw[List.getElem?_set_ne hij]at h2
  exact h.row j e q h1 h2
theorem pK.mk' {a b:AV} {key val:Value} (h1:aN ρ L I w N a key) (s1:bQ a=true) (h2:aN ρ L I w N b val) (s2:bQ b=true) (hk:(cells a).length=k) (hf:k+ (cells b).length=sz) (hka:a.jo=ka) (um:b.jo=va):
  pK ρ L I w N k ka va sz key val (cells a++cells b):=by
 obtain⟨p1,p2,p3,p4⟩:=dy h1 s1
 obtain⟨q1,q2,q3,q4⟩:=dy h2 s2
 refine⟨by rw[List.length_append]; omega,by omega,by omega,p1.trans hka,q1.trans um,fun j hj=> ?_⟩
 by_cases hjk:j<k
 ·have e1:(aL key++aL val).getD j default=(aL key).getD j default:=by rw[List.getD_eq_getElem?_getD,List.getElem?_append_left (by omega),List.getD_eq_getElem?_getD]
  have e2:(cells a++cells b).getD j .bad=(cells a).getD j .bad:=by rw[List.getD_eq_getElem?_getD,List.getElem?_append_left (by omega),List.getD_eq_getElem?_getD]
  rw[e1,e2]
  refine⟨?_,p4 j (by omega)⟩
  rw[List.getD_eq_getElem?_getD,List.getElem?_eq_getElem (by omega)]
  exact p3 _ (List.getElem_mem _)
 ·have e1:(aL key++aL val).getD j default=(aL val).getD (j - k) default:=by rw[List.getD_eq_getElem?_getD,List.getElem?_append_right (by omega),List.getD_eq_getElem?_getD,p2,hk]
  have e2:(cells a++cells b).getD j .bad=(cells b).getD (j - k) .bad:=by rw[List.getD_eq_getElem?_getD,List.getElem?_append_right (by omega),List.getD_eq_getElem?_getD,hk]
  rw[e1,e2]
  refine⟨?_,q4 (j - k) (by omega)⟩
  rw[List.getD_eq_getElem?_getD,List.getElem?_eq_getElem (by omega)]
  exact q3 _ (List.getElem_mem _)
theorem pK.val {key val:Value} {r:List AV} (h:pK ρ L I w N k ka va sz key val r) (hv:va=false→k<sz):aN ρ L I w N (oI va (r.drop k)) val:=by
 have hc:∀j,j< (aL val).length→((aL val).getD j default).oneCell'=true∧aN ρ L I w N ((r.drop k).getD j .bad) ((aL val).getD j default):=fun j hj=>by
  have:=h.cell (k+j) (by have:=h.fl; omega)
  have e1:(aL key++aL val).getD (k+j) default=(aL val).getD j default:=by
   rw[List.getD_eq_getElem?_getD,List.getElem?_append_right (by rw[h.kl]; omega),List.getD_eq_getElem?_getD,h.kl]
   congr 2; omega
  have e2:(r.drop k).getD j .bad=r.getD (k+j) .bad:=by simp[List.getD_eq_getElem?_getD,List.getElem?_drop]
  rw[e1]at this
  rw[e2]; exact this
 have um:=h.va
 have hfl:=h.fl
 have hrl:=h.rl
 cases va with
 |true=>
  cases val<;>simp only[fQ,Bool.false_eq_true]at um
  rename_i cs
  simp only[aL]at hc hfl
  have:=aN.agg (ρ:=ρ) (L:=L) (I:=I) (w:=w) (N:=N) (r.drop k) cs.toList (by rw[List.length_drop,hrl]; omega) (fun u hu=>by
   obtain⟨j,hj,rfl⟩:=List.getElem_of_mem hu
   have:=(hc j hj).1
   rwa[List.getD_eq_getElem?_getD,List.getElem?_eq_getElem hj,Option.getD_some]at this) (fun j hj=>(hc j (by rw[List.length_drop,hrl]at hj; omega)).2)
  simpa[oI]using this
 |false=>
  have hf:aL val=[val]:=by cases val<;>first|rfl|simp[fQ]at um
  have:=(hc 0 (by rw[hf]; simp)).2
  rw[hf]at this
  have e:(r.drop k).headD .bad=(r.drop k).getD 0 .bad:=by cases r.drop k<;>rfl
  simp only[oI,Bool.false_eq_true,if_false,e]
  simpa using this
theorem rB {t d:Nat} {ls:List LK} {a:AV} {kv:Value} (hl:mr P d t=some ls) (jm:aM P t=ka) (h:aN ρ L I w N a kv) (hs:bQ a=true) (hk:(cells a).length=k) (hR:mK ρ L I w N k ka va sz es en) (hok:∀r ∈ es,dM ls (cells a) r=true):
  FF (IT (aM P t) ls (aL kv) (cells a) kB) en.toList es:=by
 obtain⟨p1,p2,p3,p4⟩:=dy h hs
 refine FF.of (by simpa using hR.len) fun i e r he hr=> ?_
 have hE:=hR.row i e r (by simpa using he) hr
 obtain⟨rs,h1,h2⟩:=j6 (hok r (List.mem_of_getElem? hr))
 refine⟨aL e.key,rs,by rw[jm,←hE.ka]; exact (fB _).symm,?_,h2⟩
 have hle:k≤r.length:=by have:=hE.rl; have:=hE.fl; omega
 refine h1.val p2 (by rw[List.length_take,hE.kl]; omega) p4 fun j hj=> ?_
 have hj':j<k:=by rw[List.length_take]at hj; omega
 have:=(hE.cell j (by have:=hE.fl; omega)).2
 have e1:(aL e.key++aL e.val).getD j default=(aL e.key).getD j default:=by rw[List.getD_eq_getElem?_getD,List.getElem?_append_left (by rw[hE.kl]; exact hj'),List.getD_eq_getElem?_getD]
 have e2:(r.take (cells a).length).getD j .bad=r.getD j .bad:=by simp only[List.getD_eq_getElem?_getD,List.getElem?_take]; rw[if_pos (by omega)]
 rw[e1]at this
 rw[e2]; exact this
end
theorem oJ {ls:List LK} {a:AV} {ρ:Place} {L:ba} {I:Nat→Prop} {w:World} {N:Nat→Prop} {kv:Value} (h:aN ρ L I w N a kv) (hs:bQ a=true) (hok:dM ls (cells a) (cells a)=true):lM ls (aL kv):=by
 obtain⟨p1,p2,p3,p4⟩:=dy h hs
 obtain⟨rs,h1,_⟩:=j6 hok
 rw[List.take_length]at h1
 exact (h1.val p2 p2 p4 p4).Rs
end Go.AM
namespace Go.AM
open Go.RowKit Go.MapKept
variable {P:Program} {T:TT} {X:cq} {o:Oper} {F:aY} {M:br}
theorem lO {d:TD} {D:TypeDesc} {k e:Nat} (hd:d= .map k e) (h:d.fits D):D= .map k e:=by
 subst hd; cases D<;>simp_all[TD.fits]
theorem j7 {ρ:Place} {L:ba} {I:Nat→Prop} {w:World} {N:Nat→Prop} {n sz:Nat} {v:Value} (h:aN ρ L I w N (.omap n) v) (hl:L n=some (0,sz)):N n∧∃g cap,ρ n=some (g,cap)∧v= .map (some g):=by
 cases h with
 |omap _ _ hn h1 h=>exact⟨hn,h sz hl⟩
theorem qB {ρ:Place} {L:ba} {I:Nat→Prop} {w:World} {N:Nat→Prop} {n g cap:Nat} (hn:N n) (hρ:ρ n=some (g,cap)):aN ρ L I w N (.omap n) (.map (some g)):=
 .omap n _ hn rfl fun _ _=>⟨g,cap,hρ,rfl⟩
theorem wR {n t:Nat} {k:Nat} {ka va:Bool} {sz:Nat} (hsz:sz≠0) (ho:o.op= .makeMap t none):bN P X o F M (.omap n) [(n,⟨0,sz,[],some (k,ka,va,.b true)⟩)] [n]:=by
 refine⟨fun p hp=> .inl (by simp at hp; simp[hp]),fun M' N ρ I ac w hW hU hN hF=> ?_⟩
 have hn:¬N n:=hF n (by simp)
 have hd:∀b0,M' n=some b0→False:=fun b0 h0=>hn (hW.aU n b0 h0).lt
 have hR:mK ρ (lens M') I w N k ka va sz [] #[]:=⟨rfl,fun i e r h _=>by simp at h⟩
 have hC:lN (.b true) #[] 0:=⟨fun i j e f h=>by simp at h,fun i e h=>by simp at h,fun _=>⟨rfl,fun i e h=>by simp at h⟩⟩
 obtain⟨E,W⟩:=hW.put (w':=w.alloc (.map #[] 0)) n ⟨0,sz,[],some (k,ka,va,.b true)⟩ w.heap.size maxLen (iR sz #[]) (0,0) rfl rfl rfl (by simp) (fun k hk _=>Below.heap_alloc w _ k hk)
  ⟨#[],0,heap_alloc_new w _,rfl,pM hsz hR hC (by simp)⟩ (fun o _ h=>by omega)
  (.inl (Nat.le_refl _)) (fun b0 h0=>(hd b0 h0).elim) (fun h=>(hn h).elim) (fun e he=>by simp at he) (by simp) (Nat.le_refl _) (by simp[iR]) (nS hsz hR (by simp))
 unfold bS
 have hrun:(execOp ac.eval o).run P w= .ok (.value (.map (some w.heap.size))) (w.alloc (.map #[] 0)):=by
  simp[execOp,ho,run_makeMap]
 rw[hrun]
 refine⟨_,I,E,by rw[bO]; exact W,?_⟩
 rw[bO]
 exact qB (cap:=maxLen) (.inl rfl) (by simp[iv])
section
variable {t kt et n d k:Nat} {ka va:Bool} {dn:Dn} {b:bh} {ls:List LK} {x key:Operand}
theorem sk {w:World} {g:Nat} {en:Array MapEntry} {ck:Nat} {kv z:Value} {i:TypeInfo} {ok:Bool} {r:Option (Nat × Value)} (hu:P.underlying t=some (.map kt et)) (hg:w.heap[g]? =some (.map en ck))
  (hc:∀em,(Instr.checkKey em 10000 kt kv).run P w= .ok () w) (hf:(Instr.findKey kt kv en.toList).run P w= .ok r w) (hi:P.info? et=some i) (hz:i.zero=some z):
  (Instr.lookup t (.map (some g)) kv ok).run P w= .ok (if ok then .tuple #[(r.map (·.2)).getD z,.bool r.isSome]else (r.map (·.2)).getD z) w:=by
 cases r with
 |none=>simp[Instr.lookup,run_underlying hu,MapKept.run_getObj_map hg,hc,hf,fU hi hz]
 |some q=>simp[Instr.lookup,run_underlying hu,MapKept.run_getObj_map hg,hc,hf]
def Ao (ok:Bool) (v:AV) (is:Bool):AV:=if ok then .aP [v,.bool is]else v
def uH (va:Bool) (z:AV) (q:Option (Nat × List AV)):AV:=match q with
 |some q=>oI va q.2
 |none=>z
theorem qC (hT:dj P T) {ok:Bool} (ho:o.op= .lookup t x key ok) (ht:T.d t= .map kt et) (FH:(T.d et).ok=true) (hx:ev F x= .omap n) (hb:M n=some b) (hmp:b.mp=some (k,ka,va,dn))
  (hd:d≤10000) (hl:mr P d kt=some ls) (jm:aM P kt=ka) (hs:bQ (ev F key)=true) (hka:(ev F key).jo=ka) (hk:(cells (ev F key)).length=k) (hkk:dM ls (cells (ev F key)) (cells (ev F key))=true)
  (hok:∀r ∈ b.es,dM ls (cells (ev F key)) r=true) (hv:va=false→k<b.sz):
  bN P X o F M (Ao ok (uH va (T.z et) (bL (cells (ev F key)) b.es)) (bL (cells (ev F key)) b.es).isSome) [] []:=by
 have uo:x ∈ o.op.operands.toList:=by simp[ho,Op.operands]
 have MQ:key ∈ o.op.operands.toList:=by simp[ho,Op.operands]
 obtain⟨D,it,z,hD,hf,_⟩:=hT t (by rw[ht]; simp)
 have gZ:=lO ht hf
 subst gZ
 obtain⟨De,ie,ze,EQ,Lz,hie,mh,_,MB,ji⟩:=hT et (TD.dO FH)
 refine aH fun M' N ρ I a w hW hU hN=> ?_
 have r1:=ax hU x uo
 have r2:=ax hU key MQ
 rw[hx]at r1
 obtain⟨sl,eD,eT⟩:=bo (F:=F) x uo (n:=n) (by rw[hx]; simp[AV.names])
 have cC:M' n=some b:=(hN sl eD n eT).trans hb
 have dQ:lens M' n=some (0,b.sz):=by rw[aC]; exact⟨b,cC,by simp[bh.ln,hmp],rfl⟩
 obtain⟨hn,g,cap,hρ,qj⟩:=j7 r1 dQ
 obtain⟨en,ck,hg,hR,hC,hsz,_,_⟩:=gh hW cC hmp hρ
 have C6:valOf (aM P kt) (aL (a.eval key))=a.eval key:=by
  rw[jm,←hka,←(dy r2 hs).1]; exact fB _
 have C7:=oJ r2 hs hkk
 have fJ:=fj hd hl w C7 (rB hl jm r2 hs hk hR hok)
 have uI:∀em,(Instr.checkKey em 10000 kt (a.eval key)).run P w= .ok () w:=fun em=>by
  have:=dA (em:=em) d (10000 - d) kt ls w _ hl C7
  rw[show d+ (10000 - d)=10000 by omega,C6]at this; exact this
 rw[C6]at fJ
 refine⟨if ok then .tuple #[((jB (cells (ev F key)) en.toList b.es 0).map (·.2)).getD ze,.bool (jB (cells (ev F key)) en.toList b.es 0).isSome]else ((jB (cells (ev F key)) en.toList b.es 0).map (·.2)).getD ze,?_,?_⟩
 ·simp only[execOp,ho,qj,Sem.run_bind,sk hD hg uI fJ hie MB,Result.andThen_ok,Sem.run_pure]
 ·rcases iP (kc:=cells (ev F key)) (en:=en.toList) (es:=b.es) (i:=0) (by simpa using hR.len)with⟨h1,h2⟩|⟨j,e,r,h1,h2,h3,h4,h5⟩
  ·rw[h1,h2]
   have hz:aN ρ (lens M') I w N (T.z et) ze:=by rw[ji]; exact fT _ _ _ _ _ _
   cases ok with
   |false=>simpa[Ao,uH]using hz
   |true=>
    simp only[Ao,uH,if_true,Option.map_none,Option.getD_none,Option.isSome_none]
    exact .aP [T.z et,.bool false] [ze,.bool false] rfl fun j hj=>by
     match j,hj with
     |0,_=>simpa using hz
     |1,_=>exact .bool _
  ·rw[h1,h2]
   have hE:=hR.row j e r (by simpa using h3) h4
   have hval:aN ρ (lens M') I w N (oI va (r.drop (cells (ev F key)).length)) e.val:=by rw[hk]; exact hE.val hv
   cases ok with
   |false=>simpa[Ao,uH]using hval
   |true=>
    simp only[Ao,uH,if_true,Option.map_some,Option.getD_some,Option.isSome_some]
    exact .aP [_,.bool true] [e.val,.bool true] rfl fun j hj=>by
     match j,hj with
     |0,_=>simpa using hval
     |1,_=>exact .bool _
def IX (kc vs:List AV) (es:List (List AV)):List (List AV):=match bL kc es with
 |some q=>es.set q.1 (kc++vs)
 |none=>es++ [kc++vs]
theorem IY {ls:List LK} {kc r:List AV} (h1:dM ls kc r=true) (h2:kB kc r=true):∃rs,uC ls kc (r.take kc.length) rs∧rs.all id=true:=by
 obtain⟨rs,h3,h4⟩:=j6 h1
 exact⟨rs,h3,by rw[h4]; exact h2⟩
theorem yo {ρ:Place} {L:ba} {I:Nat→Prop} {w:World} {N:Nat→Prop} {a:AV} {kv:Value} {e:MapEntry} {r:List AV} {sz:Nat} (h:aN ρ L I w N a kv) (hs:bQ a=true) (hka:a.jo=ka) (hk:(cells a).length=k)
  (hE:pK ρ L I w N k ka va sz e.key e.val r) (hok:dM ls (cells a) r=true) (hB:kB (cells a) r=true):e.key=kv:=by
 obtain⟨p1,p2,p3,p4⟩:=dy h hs
 obtain⟨rs,h1,h2⟩:=IY hok hB
 have hle:k≤r.length:=by have:=hE.rl; have:=hE.fl; omega
 have h4:=h1.val p2 (us:=aL e.key) (by rw[List.length_take,hE.kl]; omega) p4 fun j hj=>by
  have hj':j<k:=by rw[List.length_take]at hj; omega
  have:=(hE.cell j (by have:=hE.fl; omega)).2
  have e1:(aL e.key++aL e.val).getD j default=(aL e.key).getD j default:=by rw[List.getD_eq_getElem?_getD,List.getElem?_append_left (by rw[hE.kl]; exact hj'),List.getD_eq_getElem?_getD]
  have e2:(r.take (cells a).length).getD j .bad=r.getD j .bad:=by simp only[List.getD_eq_getElem?_getD,List.getElem?_take]; rw[if_pos (by omega)]
  rw[e1]at this
  rw[e2]; exact this
 have:=h4.eq h2
 rw[←fB e.key,hE.ka,this,←hka,←p1,fB]
theorem sm (hT:dj P T) {val:Operand} (ho:o.op= .mapUpdate t x key val∨o.op= .insert t x key val) (ht:T.d t= .map kt et) (hx:ev F x= .omap n) (hb:M n=some b) (hmp:b.mp=some (k,ka,va,dn))
  (hd:d≤10000) (hl:mr P d kt=some ls) (jm:aM P kt=ka) (hs:bQ (ev F key)=true) (hka:(ev F key).jo=ka) (hk:(cells (ev F key)).length=k) (hkk:dM ls (cells (ev F key)) (cells (ev F key))=true)
  (hok:∀r ∈ b.es,dM ls (cells (ev F key)) r=true) (Rt:bQ (ev F val)=true) (um:(ev F val).jo=va) (hvl:k+ (cells (ev F val)).length=b.sz) (hle:b.es.length+1≤hY):
  bN P X o F M (.aP []) [(n,⟨b.ty,b.sz,IX (cells (ev F key)) (cells (ev F val)) b.es,some (k,ka,va,dn.up)⟩)] []∧n ∈ (ev F x).names:=by
 have uo:x ∈ o.op.operands.toList:=by rcases ho with ho|ho<;>simp[ho,Op.operands]
 have MQ:key ∈ o.op.operands.toList:=by rcases ho with ho|ho<;>simp[ho,Op.operands]
 have YB:val ∈ o.op.operands.toList:=by rcases ho with ho|ho<;>simp[ho,Op.operands]
 obtain⟨D,it,z,hD,hf,_⟩:=hT t (by rw[ht]; simp)
 have gZ:=lO ht hf
 subst gZ
 obtain⟨sl,eD,eT⟩:=bo (F:=F) x uo (n:=n) (by rw[hx]; simp[AV.names])
 refine⟨⟨fun p hp=> .inr ⟨sl,eD,by simp at hp; rw[hp]; exact eT⟩,fun M' N ρ I a w hW hU hN _=> ?_⟩,by rw[hx]; simp[AV.names]⟩
 have r1:=ax hU x uo
 have r2:=ax hU key MQ
 have r3:=ax hU val YB
 rw[hx]at r1
 have cC:M' n=some b:=(hN sl eD n eT).trans hb
 have dQ:lens M' n=some (0,b.sz):=by rw[aC]; exact⟨b,cC,by simp[bh.ln,hmp],rfl⟩
 obtain⟨hn,g,cap,hρ,qj⟩:=j7 r1 dQ
 obtain⟨en,ck,hg,hR,hC,hsz,_,_⟩:=gh hW cC hmp hρ
 have C6:valOf (aM P kt) (aL (a.eval key))=a.eval key:=by
  rw[jm,←hka,←(dy r2 hs).1]; exact fB _
 have C7:=oJ r2 hs hkk
 have fJ:=fj hd hl w C7 (rB hl jm r2 hs hk hR hok)
 have uI:∀em,(Instr.checkKey em 10000 kt (a.eval key)).run P w= .ok () w:=fun em=>by
  have:=dA (em:=em) d (10000 - d) kt ls w _ hl C7
  rw[show d+ (10000 - d)=10000 by omega,C6]at this; exact this
 have hst:(Instr.keyThatStays (a.eval key) (a.eval key)).run P w= .ok (a.eval key) w:=by
  have:=oH (P:=P) (ag:=aM P kt) C7 (fun h=>jA hl h) w
  rwa[C6]at this
 rw[C6]at fJ
 have LA:∀w',(Instr.mapUpdate t (.map (some g)) (a.eval key) (a.eval val)).run P w= .ok () w'→(execOp a.eval o).run P w= .ok .skip w':=fun w' h=>by
  rcases ho with ho|ho<;>simp[execOp,ho,qj,h]
 have hmk:=pK.mk' r2 hs r3 Rt hk hvl hka um
 unfold bS IX
 rcases iP (kc:=cells (ev F key)) (en:=en.toList) (es:=b.es) (i:=0) (by simpa using hR.len)with⟨h1,h2⟩|⟨j,e,r,h1,h2,h3,h4,h5⟩
 ·rw[h2]at fJ
  rw[h1,LA {w with heap:=w.heap.setIfInBounds g (.map (en.push ⟨a.eval key,a.eval val,ck⟩) (ck+1))} (by
   simp[Instr.mapUpdate,run_underlying hD,MapKept.run_getObj_map hg,uI,fJ,MapKept.run_setObj_map _ hg])]
  exact kJ hW cC hmp hρ (hR.push hmk ck) hC.push (by simp only[List.length_append,List.length_singleton]; simp only[hY]at hle; simp only[maxLen]; omega) (.aP [] [] rfl (fun j hj=>by simp at hj)) (fun _ _ _ h=>(Dn.EY h).elim)
 ·rw[h2,Nat.zero_add]at fJ
  have MR:en[j]? =some e:=by simpa using h3
  have hE:=hR.row j e r MR h4
  have hkey:=yo r2 hs hka hk hE (hok r (List.mem_of_getElem? h4)) h5
  rw[h1,LA {w with heap:=w.heap.setIfInBounds g (.map (en.modify j fun e=> {e with key:=a.eval key,val:=a.eval val}) ck)} (by
   simp[Instr.mapUpdate,run_underlying hD,MapKept.run_getObj_map hg,uI,fJ,MR,hkey,hst,MapKept.run_setObj_map _ hg])]
  exact kJ hW cC hmp hρ (hR.set (f:=fun e=> {e with key:=a.eval key,val:=a.eval val}) fun _ _=>hmk) (hC.up.modify (f:=fun e=> {e with key:=a.eval key,val:=a.eval val}) (fun _=>rfl) j) (by rw[List.length_set]; simp only[hY]at hle; simp only[maxLen]; omega) (.aP [] [] rfl (fun j hj=>by simp at hj)) (fun _ _ _ h=>(Dn.EY h).elim)
def Ap (kc zs:List AV) (es:List (List AV)):List (List AV):=match bL kc es with
 |some _=>es
 |none=>es++ [kc++zs]
def wS (kc:List AV) (es:List (List AV)):Nat:=match bL kc es with
 |some q=>q.1
 |none=>es.length
theorem nc (hT:dj P T) (ho:o.op= .mapEntry t x key) (ht:T.d t= .map kt et) (FH:(T.d et).ok=true) (hx:ev F x= .omap n) (hb:M n=some b) (hmp:b.mp=some (k,ka,va,.b true))
  (hd:d≤10000) (hl:mr P d kt=some ls) (jm:aM P kt=ka) (hs:bQ (ev F key)=true) (hka:(ev F key).jo=ka) (hk:(cells (ev F key)).length=k) (hkk:dM ls (cells (ev F key)) (cells (ev F key))=true)
  (hok:(∀r ∈ b.es,r.length=b.sz)→∀r ∈ b.es,dM ls (cells (ev F key)) r=true) (Rt:bQ (T.z et)=true) (um:(T.z et).jo=va) (hvl:k+ (cells (T.z et)).length=b.sz) (hv:va=false→k<b.sz) (hle:b.es.length+1≤hY):
  bN P X o F M (.aP [uH va (T.z et) (bL (cells (ev F key)) b.es),.int .i64 (wS (cells (ev F key)) b.es)]) [(n,⟨b.ty,b.sz,Ap (cells (ev F key)) (cells (T.z et)) b.es,some (k,ka,va,.b true)⟩)] []∧n ∈ (ev F x).names:=by
 have uo:x ∈ o.op.operands.toList:=by simp[ho,Op.operands]
 have MQ:key ∈ o.op.operands.toList:=by simp[ho,Op.operands]
 obtain⟨D,it,z,hD,hf,_⟩:=hT t (by rw[ht]; simp)
 have gZ:=lO ht hf
 subst gZ
 obtain⟨De,ie,ze,EQ,Lz,hie,mh,_,MB,ji⟩:=hT et (TD.dO FH)
 obtain⟨sl,eD,eT⟩:=bo (F:=F) x uo (n:=n) (by rw[hx]; simp[AV.names])
 refine⟨⟨fun p hp=> .inr ⟨sl,eD,by simp at hp; rw[hp]; exact eT⟩,fun M' N ρ I a w hW hU hN _=> ?_⟩,by rw[hx]; simp[AV.names]⟩
 have r1:=ax hU x uo
 have r2:=ax hU key MQ
 rw[hx]at r1
 have cC:M' n=some b:=(hN sl eD n eT).trans hb
 have dQ:lens M' n=some (0,b.sz):=by rw[aC]; exact⟨b,cC,by simp[bh.ln,hmp],rfl⟩
 obtain⟨hn,g,cap,hρ,qj⟩:=j7 r1 dQ
 obtain⟨en,ck,hg,hR,hC,hsz,_,ER⟩:=gh hW cC hmp hρ
 have hok:=hok (hW.aU n b cC).even
 have C6:valOf (aM P kt) (aL (a.eval key))=a.eval key:=by
  rw[jm,←hka,←(dy r2 hs).1]; exact fB _
 have C7:=oJ r2 hs hkk
 have fJ:=fj hd hl w C7 (rB hl jm r2 hs hk hR hok)
 have uI:∀em,(Instr.checkKey em 10000 kt (a.eval key)).run P w= .ok () w:=fun em=>by
  have:=dA (em:=em) d (10000 - d) kt ls w _ hl C7
  rw[show d+ (10000 - d)=10000 by omega,C6]at this; exact this
 have hst:(Instr.keyThatStays (a.eval key) (a.eval key)).run P w= .ok (a.eval key) w:=by
  have:=oH (P:=P) (ag:=aM P kt) C7 (fun h=>jA hl h) w
  rwa[C6]at this
 rw[C6]at fJ
 have hzr:aN ρ (lens M') I w N (T.z et) ze:=by rw[ji]; exact fT _ _ _ _ _ _
 obtain⟨Xk,BH⟩:=hC.den rfl
 have two:∀ {a1 a2:AV} {v1 v2:Value},aN ρ (lens M') I w N a1 v1→aN ρ (lens M') I w N a2 v2→aN ρ (lens M') I w N (.aP [a1,a2]) (.tuple #[v1,v2]):=fun {a1 a2 v1 v2} q1 q2=> .aP [a1,a2] [v1,v2] rfl fun j hj=>by
  match j,hj with
  |0,_=>simpa using q1
  |1,_=>simpa using q2
 unfold bS Ap wS
 rcases iP (kc:=cells (ev F key)) (en:=en.toList) (es:=b.es) (i:=0) (by simpa using hR.len)with⟨h1,h2⟩|⟨j,e,r,h1,h2,h3,h4,h5⟩
 ·rw[h2]at fJ
  have hrun:(execOp a.eval o).run P w= .ok (.value (.tuple #[ze,goInt ck])) {w with heap:=w.heap.setIfInBounds g (.map (en.push ⟨a.eval key,ze,ck⟩) (ck+1))}:=by
   simp[execOp,ho,qj,Instr.mapEntry,run_underlying hD,MapKept.run_getObj_map hg,uI,fJ,fU hie MB,MapKept.run_setObj_map _ hg]
  rw[h1,hrun]
  refine kJ hW cC hmp hρ (hR.push (pK.mk' r2 hs hzr Rt hk hvl hka um) ck) hC.push (by simp only[List.length_append,List.length_singleton]; simp only[hY]at hle; simp only[maxLen]; omega) (two hzr ?_) (fun _ _ _ h=>by cases h)
  rw[Xk,hR.len]; exact .int _ _
 ·rw[h2,Nat.zero_add]at fJ
  have MR:en[j]? =some e:=by simpa using h3
  have hE:=hR.row j e r MR h4
  have hkey:=yo r2 hs hka hk hE (hok r (List.mem_of_getElem? h4)) h5
  have hrun:(execOp a.eval o).run P w= .ok (.value (.tuple #[e.val,goInt e.born])) {w with heap:=w.heap.setIfInBounds g (.map (en.modify j fun e=> {e with key:=a.eval key}) ck)}:=by
   simp[execOp,ho,qj,Instr.mapEntry,run_underlying hD,MapKept.run_getObj_map hg,uI,fJ,MR,hkey,hst,MapKept.run_setObj_map _ hg]
  rw[h1,hrun]
  have QG:mK ρ (lens M') I w N k ka va b.sz b.es (en.modify j fun e=> {e with key:=a.eval key}):=by
   have:=hR.set (i:=j) (f:=fun e=> {e with key:=a.eval key}) (r:=r) (fun e0 he0=>by rw[MR]at he0; cases he0; rw[←hkey]; exact hE)
   have hlt:=(List.getElem?_eq_some_iff.1 h4)
   rwa[←hlt.2,List.set_getElem_self]at this
  refine kJ hW cC hmp hρ QG (hC.modify (f:=fun e=> {e with key:=a.eval key}) (fun _=>rfl) j) ER (two ?_ ?_) (fun _ _ _ h=>by cases h)
  ·simp only[uH]
   rw[hk]; exact hE.val hv
  ·have:=BH j e MR
   rw[this]; exact .int _ _
theorem qZ {stamp val:Operand} {q:IntKind} {j:Nat} {r:List AV} (ho:o.op= .entryStore t x stamp val) (hx:ev F x= .omap n) (hb:M n=some b) (hmp:b.mp=some (k,ka,va,.b true))
  (hst:ev F stamp= .int q j) (hr:b.es[j]? =some r) (Rt:bQ (ev F val)=true) (um:(ev F val).jo=va) (hvl:k+ (cells (ev F val)).length=b.sz):
  bN P X o F M (.aP []) [(n,⟨b.ty,b.sz,b.es.set j (r.take k++cells (ev F val)),some (k,ka,va,.b true)⟩)] []∧n ∈ (ev F x).names:=by
 have uo:x ∈ o.op.operands.toList:=by simp[ho,Op.operands]
 have hso:stamp ∈ o.op.operands.toList:=by simp[ho,Op.operands]
 have YB:val ∈ o.op.operands.toList:=by simp[ho,Op.operands]
 obtain⟨sl,eD,eT⟩:=bo (F:=F) x uo (n:=n) (by rw[hx]; simp[AV.names])
 refine⟨⟨fun p hp=> .inr ⟨sl,eD,by simp at hp; rw[hp]; exact eT⟩,fun M' N ρ I a w hW hU hN _=> ?_⟩,by rw[hx]; simp[AV.names]⟩
 have r1:=ax hU x uo
 have r2:=bG (hst ▸ ax hU stamp hso)
 have r3:=ax hU val YB
 rw[hx]at r1
 have cC:M' n=some b:=(hN sl eD n eT).trans hb
 have dQ:lens M' n=some (0,b.sz):=by rw[aC]; exact⟨b,cC,by simp[bh.ln,hmp],rfl⟩
 obtain⟨hn,g,cap,hρ,qj⟩:=j7 r1 dQ
 obtain⟨en,ck,hg,hR,hC,hsz,_,ER⟩:=gh hW cC hmp hρ
 obtain⟨Xk,BH⟩:=hC.den rfl
 have hj:j<b.es.length:=(List.getElem?_eq_some_iff.1 hr).1
 have hje:j<en.size:=by rw[hR.len]; exact hj
 have hidx:en.findIdx? (fun e=>(e.born:Int)==(j:Int))=some j:=by
  rw[Array.findIdx?_eq_some_iff_getElem]
  refine⟨hje,?_,fun i hi=> ?_⟩
  ·have:=BH j en[j] (Array.getElem?_eq_getElem hje)
   simp[this]
  ·have:=BH i (en[i]'(by omega)) (Array.getElem?_eq_getElem (by omega))
   simp only[this,Bool.not_eq_true,beq_eq_false_iff_ne,ne_eq]; omega
 have hrun:(execOp a.eval o).run P w= .ok .skip {w with heap:=w.heap.setIfInBounds g (.map (en.modify j fun e=> {e with val:=a.eval val}) ck)}:=by
  simp[execOp,ho,qj,r2,Instr.entryStore,MapKept.run_getObj_map hg,asInt,asIntOf,hidx,MapKept.run_setObj_map _ hg]
 unfold bS
 rw[hrun]
 refine kJ hW cC hmp hρ (hR.set (i:=j) (f:=fun e=> {e with val:=a.eval val}) fun e he=> ?_) (hC.modify (f:=fun e=> {e with val:=a.eval val}) (fun _=>rfl) j) (by rw[List.length_set]; exact ER) (.aP [] [] rfl (fun j hj=>by simp at hj)) (fun _ _ _ h=>by cases h)
 have hE:=hR.row j e r he hr
 obtain⟨q1,q2,q3,q4⟩:=dy r3 Rt
 have hle:k≤r.length:=by have:=hE.rl; have:=hE.fl; omega
 have Xl:(r.take k).length=k:=by rw[List.length_take]; omega
 refine⟨by rw[List.length_append,Xl]; omega,hE.kl,by show k+ (aL (a.eval val)).length=_; omega,hE.ka,q1.trans um,fun p hp=> ?_⟩
 show ((aL e.key++aL (a.eval val)).getD p default).oneCell'=true∧aN ρ (lens M') I w N ((r.take k++cells (ev F val)).getD p .bad) ((aL e.key++aL (a.eval val)).getD p default)
 by_cases hpk:p<k
 ·have:=hE.cell p hp
  have e0:(aL e.key++aL e.val).getD p default=(aL e.key).getD p default:=by rw[List.getD_eq_getElem?_getD,List.getElem?_append_left (by rw[hE.kl]; exact hpk),List.getD_eq_getElem?_getD]
  have e1:(aL e.key++aL (a.eval val)).getD p default=(aL e.key).getD p default:=by rw[List.getD_eq_getElem?_getD,List.getElem?_append_left (by rw[hE.kl]; exact hpk),List.getD_eq_getElem?_getD]
  have e2:(r.take k++cells (ev F val)).getD p .bad=r.getD p .bad:=by
   rw[List.getD_eq_getElem?_getD,List.getElem?_append_left (by omega),List.getElem?_take,if_pos hpk,List.getD_eq_getElem?_getD]
  rw[e0]at this
  rw[e1,e2]; exact this
 ·have e1:(aL e.key++aL (a.eval val)).getD p default=(aL (a.eval val)).getD (p - k) default:=by rw[List.getD_eq_getElem?_getD,List.getElem?_append_right (by rw[hE.kl]; omega),List.getD_eq_getElem?_getD,hE.kl]
  have e2:(r.take k++cells (ev F val)).getD p .bad=(cells (ev F val)).getD (p - k) .bad:=by rw[List.getD_eq_getElem?_getD,List.getElem?_append_right (by omega),List.getD_eq_getElem?_getD,Xl]
  rw[e1,e2]
  refine⟨?_,q4 (p - k) (by omega)⟩
  rw[List.getD_eq_getElem?_getD,List.getElem?_eq_getElem (by omega)]
  exact q3 _ (List.getElem_mem _)
end
end Go.AM
namespace Go.AM
open Go.RowKit Go.MapKept
variable {P:Program} {T:TT} {X:cq} {o:Oper} {F:aY} {M:br}
theorem ou.pE {av:AV} (h:ou P X o F M av):bN P X o F M av [] []:=
 ⟨fun p hp=>by simp at hp,fun M' N ρ I a w W hr hM _=>h M' N ρ I a w W hr (fun s hs n hn=>by rw[hM s hs n hn])⟩
theorem Aq:∀ {ls:List LK} {kc r:List AV},dM ls kc kc=true→jl kc=true→jl r=true→kc.length≤r.length→dM ls kc r=true
 |[],[],_,_,_,_,_=>by simp[dM]
 | .i::l,.int k x::a,r,h,g,g2,hl=>by
   cases k<;>simp only[jl,Bool.false_eq_true]at g
   cases r with
   |nil=>simp at hl
   |cons c s=>
    cases c with
    |int k2 y=>
     cases k2<;>simp only[jl,Bool.false_eq_true]at g2
     simp only[dM,Bool.and_eq_true]at h ⊢
     exact⟨rfl,Aq h.2 g g2 (by simpa using hl)⟩
    |_=>simp[jl]at g2
 | .i::l,[],_,h,_,_,_=>by simp[dM]at h
 | .b::l,[],_,h,_,_,_=>by simp[dM]at h
 | .s::l,[],_,h,_,_,_=>by simp[dM]at h
 |[],_::_,_,h,_,_,_=>by simp[dM]at h
 | .b::l,c::a,_,h,g,_,_=>by cases c<;>simp[dM,jl]at h g
 | .s::l,c::a,_,h,g,_,_=>by cases c<;>simp[dM,jl]at h g
 | .i::l,.bool _::a,_,_,g,_,_=>by simp[jl]at g
 | .i::l,.str _::a,_,_,g,_,_=>by simp[jl]at g
 | .i::l,.bP::a,_,_,g,_,_=>by simp[jl]at g
 | .i::l,.ao::a,_,_,g,_,_=>by simp[jl]at g
 | .i::l,.aw::a,_,_,g,_,_=>by simp[jl]at g
 | .i::l,.dS::a,_,_,g,_,_=>by simp[jl]at g
 | .i::l,.cb::a,_,_,g,_,_=>by simp[jl]at g
 | .i::l,.loc .. ::a,_,_,g,_,_=>by simp[jl]at g
 | .i::l,.bc .. ::a,_,_,g,_,_=>by simp[jl]at g
 | .i::l,.dX .. ::a,_,_,g,_,_=>by simp[jl]at g
 | .i::l,.aJ .. ::a,_,_,g,_,_=>by simp[jl]at g
 | .i::l,.bi .. ::a,_,_,g,_,_=>by simp[jl]at g
 | .i::l,.omap .. ::a,_,_,g,_,_=>by simp[jl]at g
 | .i::l,.bR .. ::a,_,_,g,_,_=>by simp[jl]at g
 | .i::l,.agg .. ::a,_,_,g,_,_=>by simp[jl]at g
 | .i::l,.aP .. ::a,_,_,g,_,_=>by simp[jl]at g
 | .i::l,.bad::a,_,_,g,_,_=>by simp[jl]at g
theorem C8 (q:Option (Nat × List AV)):uH false (.int .i64 0) q=CO q:=by cases q<;>rfl
section
variable {t kt et n d k:Nat} {ka:Bool} {dn:Dn} {b:bh} {ls:List LK} {x key:Operand}
theorem FI (hT:dj P T) (ho:o.op= .lookup t x key false) (ht:T.d t= .map kt et) (FH:(T.d et).ok=true) (hz:T.z et= .int .i64 0) (hx:ev F x= .omap n) (hb:M n=some b) (hmp:b.mp=some (k,ka,false,dn))
  (hd:d≤10000) (hl:mr P d kt=some ls) (jm:aM P kt=ka) (hs:bQ (ev F key)=true) (hka:(ev F key).jo=ka) (hk:(cells (ev F key)).length=k) (hkk:dM ls (cells (ev F key)) (cells (ev F key))=true)
  (hg:jl (cells (ev F key))=true) (Ru:∀r ∈ b.es,jl r=true) (hsz:b.sz=k+1):
  ou P X o F M (CO (bL (cells (ev F key)) b.es)):=by
 intro M' N ρ I a w hW hU hV
 have uo:x ∈ o.op.operands.toList:=by simp[ho,Op.operands]
 obtain⟨sl,eD,eT⟩:=bo (F:=F) x uo (n:=n) (by rw[hx]; simp[AV.names])
 have hv:=hV sl eD n eT
 rw[hb]at hv
 cases hb':M' n with
 |none=>rw[hb']at hv; simp[Vw]at hv
 |some b'=>
  rw[hb']at hv
  simp only[Vw,Option.map_some,Option.some.injEq,Prod.mk.injEq]at hv
  obtain⟨v1,v2,v3,v4⟩:=hv
  have YC:∀r ∈ b'.es,jl r=true:=v4.symm ▸ Ru
  have v3':=congrFun v3 (cells (ev F key))
  rw[v1,if_pos (by omega),if_pos (by omega)]at v3'
  have hok:∀r ∈ b'.es,dM ls (cells (ev F key)) r=true:=fun r hr=>Aq hkk hg (YC r hr) (by
   have:=(hW.aU n b' hb').even r hr
   omega)
  have D:=qC (X:=X) (M:=M') hT ho ht FH hx hb' (v2.trans hmp) hd hl jm hs hka hk hkk hok (fun _=>by omega)
  simp only[Ao,Bool.false_eq_true,if_false,hz,C8]at D
  rw[v3']at D
  exact D.2 M' N ρ I a w hW hU (fun _ _ _ _=>rfl) (fun _ h=>by simp at h)
theorem vh {kc r:List AV}:∀ {es:List (List AV)},bL kc (es++ [r])=match bL kc es with
  |some q=>some q
  |none=>if kB kc r then some (es.length,r.drop kc.length)else none
 |[]=>by simp only[List.nil_append,bL]; cases kB kc r<;>rfl
 |e::es=>by
  simp only[List.cons_append,bL]
  by_cases h:kB kc e=true
  ·simp[h]
  ·simp only[if_neg h]
   rw[vh (es:=es)]
   cases bL kc es with
   |some q=>rfl
   |none=>by_cases h2:kB kc r=true<;>simp[h2]
theorem BI:∀ {a b:List AV},jl (a++b)=(jl a&&jl b)
 |[],b=>by simp[jl]
 |c::a,b=>by
  cases c<;>simp only[List.cons_append,jl,Bool.false_and]
  rename_i k y
  cases k<;>simp only[jl,BI,Bool.false_and]
theorem IZ {kc:List AV} (hmp:b.mp=some (k,ka,false,.b true)) (hk:kc.length=k) (hsz:b.sz=k+1) (hg:jl kc=true):Vw (some b)=Vw (some ⟨b.ty,b.sz,Ap kc [.int .i64 0] b.es,some (k,ka,false,.b true)⟩):=by
 simp only[Vw,Option.map_some,Option.some.injEq,Prod.mk.injEq]
 refine⟨trivial,hmp,?_,?_⟩
 ·funext YD
  split
  ·rename_i hl
   unfold Ap
   cases hm:bL kc b.es with
   |some q=>rfl
   |none=>
    simp only
    rw[vh]
    cases hm':bL YD b.es with
    |some q=>rfl
    |none=>
     simp only
     split
     ·have:(kc++ [AV.int .i64 0]).drop YD.length=[.int .i64 0]:=by
       rw[show YD.length=kc.length by omega,List.drop_left]
      rw[this]; rfl
     ·rfl
  ·rfl
 ·apply propext
  unfold Ap
  cases bL kc b.es with
  |some q=>exact Iff.rfl
  |none=>
   simp only[List.mem_append,List.mem_singleton]
   exact⟨fun h r hr=>hr.elim (h r) (fun e=>by rw[e,BI,hg]; rfl),fun h r hr=>h r (.inl hr)⟩
end
end Go.AM
namespace Go.AM
open Go.RowKit
structure Env where
 P:Program
 T:TT
 ok:PT P T
 ft:Nat→Nat
 ty:Nat→Nat
inductive Sc where
 |t (n:Nat)
 |k (v:AV)
 |f (g:Nat)
inductive vi where
 |mv (x:Sc)
 |pick (c a b:Sc)
 |alloc (ty:Nat) (z:List AV)
 |box (ty:Nat) (x:Sc)
 |build (z:List AV) (ps:List (Nat × Nat × Sc))
 |aG (ty sz len:Nat) (z:List AV) (ps:List (Nat × Sc))
 |load (ag:Bool) (n:Nat) (x:Sc)
 |store (n:Nat) (x v:Sc)
 |aO (x:Sc)
 |bin (op:BinOp) (x y:Sc)
 |LB (neg:Bool) (x y:Sc)
 |QK (neg:Bool) (x:Sc)
 |Ar (neg:Bool) (x:Sc)
 |I3 (neg:Bool) (x:Sc)
 |s2a (m sz:Nat) (x:Sc)
 |LC (ty sz:Nat) (x:Sc)
 |wT (neg:Bool) (ls:List LK) (x y:Sc)
 |bst (op:BinOp) (x y:Sc)
 |un (op:UnOp) (x:Sc)
 |conv (k:IntKind) (x:Sc)
 |Rv (x:Sc)
 |s2b (ty:Nat) (x:Sc)
 |b2s (x:Sc)
 |QL (g:Nat) (cs:List Sc)
 |aD (off:Nat) (x:Sc)
 |FJ (ag:Bool) (off n:Nat) (x:Sc)
 |mL (sz:Nat) (x i:Sc)
 |bt (m sz:Nat) (x i:Sc)
 |FK (ag:Bool) (m sz:Nat) (x i:Sc)
 |Rz (x i:Sc)
 |uJ (ty sz:Nat) (x:Sc) (lo hi mx:Option Sc)
 |MS (m sz:Nat) (x:Sc) (lo hi mx:Option Sc)
 |RA (x:Sc) (lo hi:Option Sc)
 |ext (x:Sc) (i:Nat)
 |call (g:Nat) (as:List Sc)
 |gx (f:Sc) (as:List Sc)
 |vj (f:Sc) (as:List Sc)
 |oK (f:Sc) (as:List Sc)
 |qD (g:Nat) (as:List Sc)
 |MT (n:Nat)
 |gi (x:Sc)
 |MU (x:Sc)
 |mm (mx:Bool) (as:List Sc)
 |app (ty sz:Nat) (s x:Sc)
 |I4 (ty:Nat) (s x:Sc)
 |I5 (ty sz:Nat) (z:List AV) (s x:Sc)
 |YE (ty sz:Nat) (z:List AV) (l c:Sc)
 |copy (sz:Nat) (x y:Sc)
 |MV (k:Nat) (ka va:Bool) (sz:Nat)
 |ES (ls:List LK) (ag va:Bool) (z:AV) (ok:Bool) (x key:Sc)
 |FL (ls:List LK) (ag va:Bool) (x key v:Sc)
 |YF (ls:List LK) (ag va:Bool) (z:AV) (x key:Sc)
 |YG (va:Bool) (x st v:Sc)
 |LD (ls:List LK) (ag:Bool) (x key:Sc)
 |enc (ls:List LK) (ag:Bool) (x key:Sc)
 |LF (ls:List LK) (ag:Bool) (x key:Sc)
 |MW (x:Sc)
 |QM (x:Sc)
 |IL (x:Sc)
structure cw where
 d:Option Nat
 g:Option (Nat × Bool)
 o:vi
inductive cQ where
 |bad
 |skip
 |ret
 |exit (id:Nat)
 |ops (l:List cw)
 |draw (ms:List Nat) (us:List (List Nat)) (l:List cw)
 |LG (ms:List Nat) (us:List (List Nat)) (l l2:List cw)
 |seq (a b:cQ)
 |cond (c:Sc) (a b:cQ)
 |block (id:Nat) (c:cQ)
 |loop (c:cQ)
 |so (ls:List Nat) (c:cQ)
 |scope (c:cQ)
 |wU (f:Sc) (ps:List Nat) (YH body:cQ)
inductive wV where
 |t (n:Nat)
 |cell (a:Nat) (ag:Bool) (n:Nat)
structure bw where
 np:Nat
 rs:List wV
 body:cQ
inductive bI where
 |var (ty:Nat) (row:List AV)
 |arr (ty sz:Nat) (es:List (List AV))
 |map (k:Nat) (ka va:Bool) (dn:Dn) (sz:Nat) (es:List (List AV))
def bI.aU:bI→bh
 | .var ty row=>⟨ty,row.length,[row],none⟩
 | .arr ty sz es=>⟨ty,sz,es,none⟩
 | .map k ka va dn sz es=>⟨0,sz,es,some (k,ka,va,dn)⟩
abbrev ah:=List (Nat × bI)
def aA:ah→Mem
 |[]=>[]
 |(n,b)::r=>(n,b.aU)::aA r
structure q9 (b:Bool) (X Y:Prop):Prop where
 t:b=true→X
 f:b=false→Y
structure Iw (k:IntKind) (n:Int) (K:Int→Prop):Prop where
 h:K (wr k n)
structure RB (es:List (List AV)) (i:Nat) (K:List AV→Prop):Prop where
 h:K (es.getD i [])
structure RC (i:Int) (m:Nat) (K:Nat→Prop):Prop where
 h:(0≤i∧i< (m:Int))∧K i.toNat
theorem q9.sound {b:Bool} {X Y:Prop} (h:q9 b X Y):(b=true∧X)∨(b=false∧Y):=by
 cases b
 ·exact .inr ⟨rfl,h.f rfl⟩
 ·exact .inl ⟨rfl,h.t rfl⟩
abbrev KS:=aY→ah→Nat→Prop
def nf:aY→Nat→(AV→Prop)→Prop
 |[],_,K=>K .bad
 |(j,v)::r,i,K=>bif Nat.beq i j then K v else nf r i K
theorem cG (a b:Nat):Nat.beq a b=(a==b):=by
 by_cases h:a=b
 ·subst h; simp
 ·have:(a==b)=false:=by simpa using h
  rw[this]; exact Bool.eq_false_iff.2 (fun e=>h (Nat.eq_of_beq_eq_true e))
theorem gU:∀ (F:aY) (i:Nat) (K:AV→Prop),nf F i K=K (look F i)
 |[],_,_=>rfl
 |(j,v)::r,i,K=>by
  simp only[nf,look,cG]
  cases i==j
  ·exact gU r i K
  ·rfl
def Env.cl (R:Env) (g:Nat) (cs:List AV):AV:= .bR (.fn (R.ft g)) cs
def dE (R:Env) (F:aY):Sc→(AV→Prop)→Prop
 | .t n,K=>nf F n K
 | .k v,K=>K v
 | .f g,K=>K (R.cl g [])
def mw (R:Env) (F:aY):Sc→AV
 | .t n=>look F n
 | .k v=>v
 | .f g=>R.cl g []
theorem aI (R:Env) (F:aY) (x:Sc) (K:AV→Prop):dE R F x K=K (mw R F x):=by
 cases x
 ·exact gU _ _ _
 ·rfl
 ·rfl
def sq (R:Env) (F:aY):List Sc→(List AV→Prop)→Prop
 |[],K=>K []
 |x::r,K=>dE R F x fun v=>sq R F r fun l=>K (v::l)
theorem gj (R:Env) (F:aY):∀ (l:List Sc) (K:List AV→Prop),sq R F l K=K (l.map (mw R F))
 |[],_=>rfl
 |x::r,K=>by simp only[sq,aI,gj R F r,List.map_cons]
def Au (R:Env) (F:aY):Option Sc→(Option AV→Prop)→Prop
 |none,K=>K none
 |some x,K=>dE R F x fun v=>K (some v)
theorem BJ (R:Env) (F:aY) (x:Option Sc) (K:Option AV→Prop):Au R F x K=K (x.map (mw R F)):=by
 cases x
 ·rfl
 ·simp only[Au,aI,Option.map_some]
def aK (d:Option Nat) (v:AV) (F:aY) (M:ah) (nx:Nat) (K:KS):Prop:=
 match d with
 |none=>K F M nx
 |some i=>K ((i,v)::F) M nx
def BK (F:aY):List Nat→(aY→Prop)→Prop
 |[],K=>K []
 |i::r,K=>nf F i fun v=>BK F r fun F'=>K ((i,v)::F')
theorem sr {F:aY}:∀ {l:List Nat} {K:aY→Prop},BK F l K→∃F',(∀i,look F' i=look F i∨look F' i= .bad)∧K F'
 |[],K,h=>⟨[],fun _=> .inr rfl,h⟩
 |i::r,K,h=>by
  simp only[BK,gU]at h
  obtain⟨F',h1,h2⟩:=sr (l:=r) (K:=fun F'=>K ((i,look F i)::F')) h
  refine⟨(i,look F i)::F',fun j=> ?_,h2⟩
  by_cases e:j=i
  ·subst e; left; simp[look]
  ·have:(j==i)=false:=by simpa using e
   simp only[look,this,cond_false]
   exact h1 j
def da:ah→Nat→(bI→Prop)→Prop
 |[],_,_=>False
 |(m,b)::r,n,K=>bif Nat.beq n m then K b else da r n K
theorem aR:∀ {M:ah} {n:Nat} {K:bI→Prop},da M n K→∃b,ab (aA M) n=some b.aU∧K b
 |[],_,_,h=>h.elim
 |(m,b)::r,n,K,h=>by
  simp only[da,cG]at h
  simp only[aA,ab]
  cases hb:n==m with
  |true=>rw[hb]at h; exact⟨b,rfl,h⟩
  |false=>rw[hb]at h; exact aR (M:=r) h
def gV:ah→Nat→bI→(ah→Prop)→Prop
 |[],n,b,K=>K [(n,b)]
 |(m,c)::r,n,b,K=>bif Nat.beq n m then K ((m,b)::r)else gV r n b fun r'=>K ((m,c)::r')
theorem cg:∀ {M:ah} {n:Nat} {b:bI} {K:ah→Prop},gV M n b K→∃M',aA M'=gz (aA M) n b.aU∧K M'
 |[],n,b,K,h=>⟨_,rfl,h⟩
 |(m,c)::r,n,b,K,h=>by
  simp only[gV,cG]at h
  simp only[aA,gz]
  cases hb:n==m with
  |true=>rw[hb]at h; exact⟨_,rfl,h⟩
  |false=>
   rw[hb]at h
   obtain⟨M',h1,h2⟩:=cg (M:=r) (K:=fun r'=>K ((m,c)::r')) h
   exact⟨_,by simp only[aA,h1]; rfl,h2⟩
theorem rC (M:ah) (n:Nat) (b:bI):ab (aA ((n,b)::M))=ab (gz (aA M) n b.aU):=by
 funext m
 rw[mb]
 simp only[aA,ab]
 by_cases h:m=n
 ·subst h; simp
 ·have:(m==n)=false:=by simpa using h
  simp[this,h]
def yp:Nat→List AV→(List AV→Prop)→Prop
 |0,_,K=>K []
 |n+1,c::r,K=>yp n r fun l=>K (c::l)
 |_+1,[],_=>False
theorem kK:∀ {n:Nat} {cs:List AV} {K:List AV→Prop},yp n cs K→(cs.take n).length=n∧K (cs.take n)
 |0,_,_,h=>⟨rfl,h⟩
 |n+1,c::r,K,h=>by
  obtain⟨h1,h2⟩:=kK (K:=fun l=>K (c::l)) h
  exact⟨by simp only[List.take_succ_cons,List.length_cons,h1],by simpa using h2⟩
 |_+1,[],_,h=>h.elim
def LH (n:Nat) (cs:List AV) (K:AV→Prop):Prop:=
 match n,cs with
 |1,c::_=>K c
 |_,_=>False
def FM (ag:Bool) (n:Nat) (cs:List AV) (K:AV→Prop):Prop:=
 match ag with
 |true=>yp n cs fun l=>K (.agg l)
 |false=>LH n cs K
def su (ag:Bool) (n:Nat):Nat→List AV→(AV→Prop)→Prop
 |0,cs,K=>FM ag n cs K
 |off+1,_::r,K=>su ag n off r K
 |_+1,[],_=>False
theorem iS {ag:Bool} {n:Nat}:∀ {off:Nat} {cs:List AV} {K:AV→Prop},su ag n off cs K→apart ag n off cs K
 |0,cs,K,h=>by
  simp only[su,FM]at h
  simp only[apart,List.drop_zero]
  cases ag with
  |true=>
   simp only at h
   obtain⟨h1,h2⟩:=kK h
   exact aF (by simp only[h1,beq_self_eq_true]) h2
  |false=>
   simp only[LH]at h
   split at h
   ·exact aF rfl (aF rfl h)
   ·exact False.elim h
 |off+1,c::r,K,h=>by
  have:=iS (off:=off) (cs:=r) h
  simpa[apart]using this
 |_+1,[],_,h=>h.elim
def BL:List AV→List AV→(List AV→Prop)→Prop
 |[],cs,K=>K cs
 |v::r,_::cs,K=>BL r cs fun l=>K (v::l)
 |_::_,[],_=>False
def kL:Nat→List AV→List AV→(List AV→Prop)→Prop
 |0,vs,cs,K=>BL vs cs K
 |off+1,vs,c::cs,K=>kL off vs cs fun l=>K (c::l)
 |_+1,_,[],_=>False
theorem sv:∀ {vs cs:List AV} {K:List AV→Prop},BL vs cs K→vs.length≤cs.length∧K (vs++cs.drop vs.length)
 |[],cs,K,h=>⟨Nat.zero_le _,by simpa[BL]using h⟩
 |v::r,c::cs,K,h=>by
  obtain⟨h1,h2⟩:=sv (vs:=r) (cs:=cs) (K:=fun l=>K (v::l)) h
  exact⟨by simpa using h1,by simpa using h2⟩
 |_::_,[],_,h=>h.elim
theorem ez:∀ {off:Nat} {vs cs:List AV} {K:List AV→Prop},kL off vs cs K→off+vs.length≤cs.length∧K (bM off vs cs)
 |0,vs,cs,K,h=>by
  obtain⟨h1,h2⟩:=sv h
  exact⟨by omega,by simpa[bM]using h2⟩
 |off+1,vs,c::cs,K,h=>by
  obtain⟨h1,h2⟩:=ez (off:=off) (vs:=vs) (cs:=cs) (K:=fun l=>K (c::l)) h
  refine⟨by simp only[List.length_cons]; omega,?_⟩
  have e:bM (off+1) vs (c::cs)=c::bM off vs cs:=by
   simp only[bM,List.take_succ_cons,List.cons_append]
   congr 3
   rw[show off+1+vs.length=(off+vs.length)+1 by omega,List.drop_succ_cons]
  rw[e]; exact h2
 |_+1,_,[],_,h=>h.elim
def kM (v:AV) (K:List AV→Prop):Prop:=
 match v with
 | .agg cs=>K cs
 | .bad=>False
 | .aP _=>False
 | .int k n=>K [.int k n]
 | .bool b=>K [.bool b]
 | .str s=>K [.str s]
 | .bP=>K [.bP]
 | .ao=>K [.ao]
 | .aw=>K [.aw]
 | .dS=>K [.dS]
 | .cb=>K [.cb]
 | .mS _ _=>False
 | .loc n len i off=>K [.loc n len i off]
 | .bc n len=>K [.bc n len]
 | .dX n len i off bY=>K [.dX n len i off bY]
 | .omap n=>K [.omap n]
 | .aJ sz es=>K [.aJ sz es]
 | .bi e off=>K [.bi e off]
 | .bR f cs=>K [.bR f cs]
theorem c7 {v:AV} {K:List AV→Prop} (h:kM v K):bQ v=true∧K (cells v):=by
 cases v<;>first|exact⟨rfl,h⟩|exact h.elim
def yq (vs:List AV) (n:Nat) (K:Prop):Prop:=bif Nat.beq vs.length n then K else False
theorem iT {vs:List AV} {n:Nat} {K:Prop} (h:yq vs n K):vs.length=n∧K:=by
 unfold yq at h
 cases hb:Nat.beq vs.length n with
 |true=>rw[hb]at h; exact⟨Nat.eq_of_beq_eq_true hb,h⟩
 |false=>rw[hb]at h; exact h.elim
def C9 (R:Env) (F:aY):List (Nat × Nat × Sc)→List AV→(List AV→Prop)→Prop
 |[],cs,K=>K cs
 |(off,n,x)::r,cs,K=>dE R F x fun v=>kM v fun vs=>yq vs n (kL off vs cs fun cs'=>C9 R F r cs' K)
def MX:Nat→List AV→List (List AV)→(List (List AV)→Prop)→Prop
 |0,v,_::r,K=>K (v::r)
 |n+1,v,e::r,K=>MX n v r fun l=>K (e::l)
 |_,_,[],_=>False
theorem vk:∀ {i:Nat} {v:List AV} {es:List (List AV)} {K:List (List AV)→Prop},MX i v es K→i<es.length∧K (es.set i v)
 |0,v,e::r,K,h=>⟨by simp,h⟩
 |n+1,v,e::r,K,h=>by
  obtain⟨h1,h2⟩:=vk (K:=fun l=>K (e::l)) h
  exact⟨by simpa using h1,by simpa using h2⟩
 |0,_,[],_,h=>h.elim
 |_+1,_,[],_,h=>h.elim
def MY (z:List AV):Nat→(List (List AV)→Prop)→Prop
 |0,K=>K []
 |n+1,K=>MY z n fun l=>K (z::l)
theorem vm {z:List AV}:∀ {n:Nat} {K:List (List AV)→Prop},MY z n K→K (List.replicate n z)
 |0,_,h=>h
 |n+1,K,h=>by
  have:=vm (K:=fun l=>K (z::l)) h
  simpa[List.replicate_succ]using this
def vn:Nat→List AV→(List AV→Prop)→Prop
 |0,r,K=>K r
 |n+1,_::r,K=>vn n r K
 |_+1,[],_=>False
def MZ:Nat→List AV→(List AV→List AV→Prop)→Prop
 |0,r,K=>K [] r
 |n+1,c::r,K=>MZ n r fun l r'=>K (c::l) r'
 |_+1,[],_=>False
def BM (sz:Nat):Nat→List AV→(List (List AV)→Prop)→Prop
 |0,_,K=>K []
 |n+1,r,K=>MZ sz r fun l r'=>BM sz n r' fun es=>K (l::es)
theorem kN:∀ {n:Nat} {r:List AV} {K:List AV→Prop},vn n r K→n≤r.length∧K (r.drop n)
 |0,_,_,h=>⟨Nat.zero_le _,h⟩
 |n+1,c::r,K,h=>by
  obtain⟨h1,h2⟩:=kN (n:=n) (r:=r) h
  exact⟨by simpa using h1,by simpa using h2⟩
 |_+1,[],_,h=>h.elim
theorem vp:∀ {n:Nat} {r:List AV} {K:List AV→List AV→Prop},MZ n r K→n≤r.length∧K (r.take n) (r.drop n)
 |0,_,_,h=>⟨Nat.zero_le _,h⟩
 |n+1,c::r,K,h=>by
  obtain⟨h1,h2⟩:=vp (n:=n) (r:=r) (K:=fun l r'=>K (c::l) r') h
  exact⟨by simpa using h1,by simpa using h2⟩
 |_+1,[],_,h=>h.elim
theorem nT {sz:Nat}:∀ {n:Nat} {r:List AV} {K:List (List AV)→Prop},BM sz n r K→n*sz≤r.length∧K (pB sz n r)
 |0,_,_,h=>⟨by simp,h⟩
 |n+1,r,K,h=>by
  obtain⟨h1,h2⟩:=vp h
  obtain⟨h3,h4⟩:=nT (n:=n) (r:=r.drop sz) (K:=fun es=>K (r.take sz::es)) h2
  refine⟨?_,h4⟩
  rw[List.length_drop]at h3
  rw[Nat.add_mul,Nat.one_mul]; omega
def BN (R:Env) (F:aY) (sz:Nat):List (Nat × Sc)→List (List AV)→(List (List AV)→Prop)→Prop
 |[],es,K=>K es
 |(i,x)::r,es,K=>dE R F x fun v=>kM v fun vs=>yq vs sz (MX i vs es fun es'=>BN R F sz r es' K)
end Go.AM
namespace Go.AM
open Go.RowKit
variable {X:cq}
theorem gE {cs:List AV} {j n:Nat} (hj:j<cs.length) (hn:n ∈ (cs.getD j .bad).names):n ∈ AV.aB cs:=by
 induction cs generalizing j with
 |nil=>simp at hj
 |cons c cs ih=>
  simp only[AV.aB,List.mem_append]
  cases j with
  |zero=>left; simpa using hn
  |succ j=>right; exact ih (j:=j) (by simpa using hj) (by simpa using hn)
inductive Fz (D:Nat→Prop) (M:Mem):AV→AV→Prop
 |same (v:AV) (h:v.names=[]):Fz D M v v
 |ao (sz:Nat):Fz D M .ao (.aJ sz [])
 |bc (n:Nat) (b:bh) (es:List (List AV)) (hD:D n) (hb:ab M n=some b) (hmp:b.mp=none) (hl:es.length=b.es.length) (hs:∀i,i<es.length→(es.getD i []).length=(b.es.getD i []).length)
   (h:∀i j,i<es.length→j<b.sz→Fz D M ((b.es.getD i []).getD j .bad) ((es.getD i []).getD j .bad)):Fz D M (.bc n b.es.length) (.aJ b.sz es)
 |loc (n i off:Nat) (b:bh) (row:List AV) (hD:D n) (hb:ab M n=some b) (hmp:b.mp=none) (hi:i<b.es.length) (hl:row.length=(b.es.getD i []).length)
   (h:∀j,j<b.sz→Fz D M ((b.es.getD i []).getD j .bad) (row.getD j .bad)):Fz D M (.loc n b.es.length i off) (.bi row off)
 |bR (f:EW) (cs ds:List AV) (hl:ds.length=cs.length) (h:∀j,j<cs.length→Fz D M (cs.getD j .bad) (ds.getD j .bad)):Fz D M (.bR f cs) (.bR f ds)
 |agg (cs ds:List AV) (hl:ds.length=cs.length) (h:∀j,j<cs.length→Fz D M (cs.getD j .bad) (ds.getD j .bad)):Fz D M (.agg cs) (.agg ds)
 |aP (cs ds:List AV) (hl:ds.length=cs.length) (h:∀j,j<cs.length→Fz D M (cs.getD j .bad) (ds.getD j .bad)):Fz D M (.aP cs) (.aP ds)
theorem gQ:∀ {cs:List AV},(∀j,j<cs.length→(cs.getD j .bad).names=[])→AV.aB cs=[]
 |[],_=>rfl
 |c::r,h=>by
  simp only[AV.aB,List.append_eq_nil_iff]
  exact⟨by simpa using h 0 (by simp),gQ (fun j hj=>by simpa using h (j+1) (by simpa using hj))⟩
theorem Fz.names {D:Nat→Prop} {M:Mem} {v a:AV} (h:Fz D M v a):a.names=[]:=by
 induction h with
 |same v h=>exact h
 |ao=>rfl
 |bc=>rfl
 |loc=>rfl
 |bR f cs ds hl h ih=>simp only[AV.names]; exact gQ (fun j hj=>ih j (by omega))
 |agg cs ds hl h ih=>simp only[AV.names]; exact gQ (fun j hj=>ih j (by omega))
 |aP cs ds hl h ih=>simp only[AV.names]; exact gQ (fun j hj=>ih j (by omega))
theorem Fz.sound {D:Nat→Prop} {M:Mem} {ρ:Place} {I:Nat→Prop} {w:World} {N:Nat→Prop} (hW:c6 X ρ I (ab M) N w) {v a:AV} (h:Fz D M v a):∀ {u:Value},aN ρ (lens (ab M)) I w N v u→
  aN cY ga (fun g=>I g∨∃n cap b,D n∧ab M n=some b∧ρ n=some (g,cap)) w cH a u:=by
 have E:ma N ρ (lens (ab M)) I w ρ (lens (ab M)) (fun g=>I g∨∃n cap b,D n∧ab M n=some b∧ρ n=some (g,cap)) w:=⟨fun _ _ _ _ _ _=>rfl,fun _ len _ _ h=>⟨len,h,Nat.le_refl _⟩,fun b hb=> .inl hb,fun _ _=>rfl⟩
 induction h with
 |same v h=>exact fun hr=>(hr.ui E (fun _ h=>h)).alone h _ _
 |ao sz=>
  intro u hr
  cases hr
  exact .cO _ _ _ (by simp[maxLen])
 |bc n b es hD hb hmp hl hs h ih=>
  intro u hr
  have dQ:lens (ab M) n=some (b.es.length,b.sz):=by rw[aC]; exact⟨b,hb,bh.dd hmp,rfl⟩
  have B:=hW.aU n b hb
  obtain⟨hn,⟨h0,q,hv⟩|⟨g,cap,hρ,hv⟩⟩:=jw hr dQ
  ·have he:=B.ep h0
   rw[he]at hl
   have he':es=[]:=List.eq_nil_of_length_eq_zero (by simpa using hl)
   rw[hv,he']
   exact .cO _ _ _ (by simp[maxLen])
  ·obtain⟨cs,fr,hg,nG,qS,hown,hlc,mX,hcs,lq⟩:=B.real g cap hρ
   have hg:=hg.cells hmp
   rw[hv,←hl]
   refine .aJ b.sz es g 0 cap (fun i j=>(cs[i*b.sz+j]?).getD undef) (by omega) mX (.inr ⟨n,cap,b,hD,hb,hρ⟩) (fun e he=> ?_) (fun i j hi hj=> ?_) (fun i j hi hj=> ?_) (fun i j hi hj=> ?_)
   ·obtain⟨i,hi,rfl⟩:=List.getElem_of_mem he
    have h1:=hs i hi
    have h2:es.getD i []=es[i]:=by simp[List.getD_eq_getElem?_getD,hi]
    have h3:b.es.getD i []=b.es[i]'(by omega):=by simp[List.getD_eq_getElem?_getD,show i<b.es.length by omega]
    rw[←h2,h1,h3]
    exact B.even _ (List.getElem_mem _)
   ·obtain⟨u,hu,h1,_⟩:=lq i j (by omega) hj
    rw[hu]; exact h1
   ·obtain⟨u,hu,h1,_⟩:=lq i j (by omega) hj
    simp only[World.cell?,hg,Nat.zero_add,hu]; rfl
   ·obtain⟨u,hu,h1,hr⟩:=lq i j (by omega) hj
    rw[hu]
    exact ih i j hi hj hr
 |loc n i off b row hD hb hmp hi hl h ih=>
  intro u hr
  have dQ:lens (ab M) n=some (b.es.length,b.sz):=by rw[aC]; exact⟨b,hb,bh.dd hmp,rfl⟩
  have B:=hW.aU n b hb
  obtain⟨hn,g,cap,hρ,hv⟩:=fV hr dQ
  obtain⟨cs,fr,hg,nG,qS,hown,hlc,mX,hcs,lq⟩:=B.real g cap hρ
  have hg:=hg.cells hmp
  have hrow:(b.es.getD i []).length=b.sz:=by
   have h3:b.es.getD i []=b.es[i]:=by simp[List.getD_eq_getElem?_getD,hi]
   rw[h3]; exact B.even _ (List.getElem_mem _)
  rw[hv]
  refine .bi row off g (i*b.sz) (fun j=>(cs[i*b.sz+j]?).getD undef) (.inr ⟨n,cap,b,hD,hb,hρ⟩) (fun j hj=> ?_) (fun j hj=> ?_) (fun j hj=> ?_)
  ·obtain⟨u,hu,h1,_⟩:=lq i j hi (by omega)
   rw[hu]; exact h1
  ·obtain⟨u,hu,h1,_⟩:=lq i j hi (by omega)
   simp only[World.cell?,hg,hu]; rfl
  ·obtain⟨u,hu,h1,hr⟩:=lq i j hi (by omega)
   rw[hu]
   exact ih j (by omega) hr
 |bR f cs ds hl h ih=>
  intro u hr
  cases hr with
  |bR f _ vs hvl hr=>exact .bR f ds vs (by omega) (fun j hj=>ih j (by omega) (hr j (by omega)))
  |qf f _ vs hvl hr=>exact .qf f ds vs (by omega) (fun j hj=>ih j (by omega) (hr j (by omega)))
 |agg cs ds hl h ih=>
  intro u hr
  cases hr with
  |agg _ vs hvl h1 hr=>exact .agg ds vs (by omega) h1 (fun j hj=>ih j (by omega) (hr j (by omega)))
 |aP cs ds hl h ih=>
  intro u hr
  cases hr with
  |aP _ vs hvl hr=>exact .aP ds vs (by omega) (fun j hj=>ih j (by omega) (hr j (by omega)))
end Go.AM
namespace Go.AM
open Go.RowKit
variable {R:Env} {X:cq}
inductive Mt (D:Nat→Prop) (M M':Mem) (nx:Nat):AV→AV→Prop
 |same (v:AV):Mt D M M' nx v v
 |drop (v:AV):Mt D M M' nx v .bad
 |fz (v a:AV) (h:Fz D M v a):Mt D M M' nx v a
 |ep (n:Nat) (b:bh) (hb:ab M' n=some b) (he:b.es=[]) (hn:nx≤n):Mt D M M' nx .ao (.bc n 0)
 |bR (f:EW) (cs ds:List AV) (hl:ds.length=cs.length) (h:∀j,j<cs.length→Mt D M M' nx (cs.getD j .bad) (ds.getD j .bad)):Mt D M M' nx (.bR f cs) (.bR f ds)
 |agg (cs ds:List AV) (hl:ds.length=cs.length) (h:∀j,j<cs.length→Mt D M M' nx (cs.getD j .bad) (ds.getD j .bad)):Mt D M M' nx (.agg cs) (.agg ds)
 |aP (cs ds:List AV) (hl:ds.length=cs.length) (h:∀j,j<cs.length→Mt D M M' nx (cs.getD j .bad) (ds.getD j .bad)):Mt D M M' nx (.aP cs) (.aP ds)
def ai (d d':Dn):Prop:=d'=d∨d'= .b false
@[refl] theorem ai.refl (d:Dn):ai d d:= .inl rfl
theorem ai.fg {d:Dn}:ai d (.b false):= .inr rfl
def LI (d d':Dn):Prop:=match d' with
 | .b x=>ai d (.b x)
 | .it _ _ _=>False
def Av (r:Dn→Dn→Prop) (m m':Option (Nat × Bool × Bool × Dn)):Prop:=match m,m' with
 |none,none=>True
 |some (k,ka,va,d),some (k',Iu,Iv,d')=>k=k'∧ka=Iu∧va=Iv∧r d d'
 |_,_=>False
theorem Av.refl (m:Option (Nat × Bool × Bool × Dn)):Av ai m m:=by
 rcases m with _|⟨k,ka,va,d⟩
 ·trivial
 ·exact⟨rfl,rfl,rfl,.inl rfl⟩
theorem Av.ln {r:Dn→Dn→Prop} {b b':bh} (h:Av r b.mp b'.mp) (hl:b.es.length=b'.es.length):b.ln=b'.ln:=by
 unfold bh.ln
 generalize b.mp=m at h ⊢
 generalize b'.mp=m' at h ⊢
 cases m<;>cases m'<;>first|exact h.elim|exact hl|rfl
theorem ai.all {d d':Dn} (h:ai d d') (ha:d'.all=true):d.all=true:=by
 rcases h with rfl|rfl
 ·exact ha
 ·exact Bool.noConfusion ha
theorem LI.le {d d':Dn} (h:LI d d'):ai d d':=by cases d'<;>first|exact h|exact False.elim h
theorem LI.all {d d':Dn} (h:LI d d') (ha:d'.all=true):d.all=true:=h.le.all ha
theorem LI.no {d:Dn} {r:Nat} {sn:List Bool} {la:Option Nat} (h:LI d (.it r sn la)):False:=h
theorem ai.it {d:Dn} {r:Nat} {sn:List Bool} {la:Option Nat} (h:ai d (.it r sn la)):d= .it r sn la:=by
 rcases h with h|h
 ·exact h.symm
 ·cases h
theorem eJ.le {r:Dn→Dn→Prop} (hr:∀d d',r d d'→d'.all=true→d.all=true) {m m':Option (Nat × Bool × Bool × Dn)} {sz len ty:Nat} {o:Option Obj} {cs:Array Value} {fr:Nat × Nat} (h:eJ m sz len o cs ty fr) (hm:Av r m m'):eJ m' sz len o cs ty fr:=by
 rcases m with _|⟨k,ka,va,d⟩<;>rcases m' with _|⟨k',Iu,Iv,d'⟩
 ·exact h
 ·exact hm.elim
 ·exact hm.elim
 ·obtain⟨rfl,rfl,rfl,h4⟩:=hm
  obtain⟨en,ck,h1,h2,h3⟩:=h
  exact⟨en,ck,h1,h2,h3.key,h3.cell,h3.born,h3.clock,fun ha=>h3.den (hr _ _ h4 ha),h3.room⟩
structure LJ (D:Nat→Prop) (M M':Mem) (nx:Nat) (b b':bh):Prop where
 ty:b.ty=b'.ty
 sz:b.sz=b'.sz
 mp:Av ai b.mp b'.mp
 len:b.es.length=b'.es.length
 row:∀i,i<b.es.length→(b.es.getD i []).length=(b'.es.getD i []).length
 cell:∀i j,i<b.es.length→j<b.sz→Mt D M M' nx ((b.es.getD i []).getD j .bad) ((b'.es.getD i []).getD j .bad)
theorem LJ.ln {D:Nat→Prop} {M M':Mem} {nx:Nat} {b b':bh} (h:LJ D M M' nx b b'):b.ln=b'.ln:=h.mp.ln h.len
def YI (nx:Nat) (b:bh):Prop:=∀e ∈ b.es,AV.fR (· <nx) e
structure Wk (X:cq) (S S':St):Prop where
 p:X.p≤S'.nx
 F:∀i,look S'.F i= .bad∨(Mt (fun n=>X.p≤n∧ab S'.M n=none) S.M S'.M S.nx (look S.F i) (look S'.F i)∧(S.nx≤S'.nx∨(look S'.F i).under (· <S'.nx)))
 M:∀n b',ab S'.M n=some b'→((∃b,ab S.M n=some b∧LJ (fun n=>X.p≤n∧ab S'.M n=none) S.M S'.M S.nx b b')∧(S.nx≤S'.nx∨(n<S'.nx∧YI S'.nx b')))∨(ab S.M n=none∧S.nx≤n∧n<S'.nx∧b'.es=[]∧b'.mp=none)
def mM (S:St) (ρ:Place):Place:=fun n=>if S.nx≤n then none else ρ n
def RD (X:cq) (S S':St) (ρ:Place) (I:Nat→Prop):Nat→Prop:=fun g=>I g∨∃n cap b,(X.p≤n∧ab S'.M n=none)∧ab S.M n=some b∧ρ n=some (g,cap)
theorem wW {S S':St} (h:Wk X S S') {w:World} {ρ:Place} {I:Nat→Prop} (W:c6 X ρ I (ab S.M) (· <S.nx) w):
  c6 X (mM S ρ) (RD X S S' ρ I) (ab S'.M) (· <S'.nx) w∧∀v a u,aN ρ (lens (ab S.M)) I w (· <S.nx) v u→Mt (fun n=>X.p≤n∧ab S'.M n=none) S.M S'.M S.nx v a→(S.nx≤S'.nx∨a.under (· <S'.nx))→aN (mM S ρ) (lens (ab S'.M)) (RD X S S' ρ I) w (· <S'.nx) a u:=by
 obtain⟨hp,hF,hM⟩:=h
 let D:Nat→Prop:=fun n=>X.p≤n∧ab S'.M n=none
 let ρ':Place:=mM S ρ
 let I':Nat→Prop:=RD X S S' ρ I
 have hlt:∀n b,ab S.M n=some b→n<S.nx:=fun n b h=>(W.aU n b h).lt
 have RE:∀n len sz,n<S.nx→lens (ab S'.M) n=some (len,sz)→lens (ab S.M) n=some (len,sz):=by
  intro n len sz hn hl
  obtain⟨b',hb',rfl,rfl⟩:=aC.1 hl
  rcases hM n b' hb' with⟨⟨b,hb,hB⟩,_⟩|⟨_,h2,_⟩
  ·exact aC.2 ⟨b,hb,hB.ln,hB.sz⟩
  ·omega
 have E:ma (· <S.nx) ρ (lens (ab S.M)) I w ρ' (lens (ab S'.M)) I' w:=by
  refine⟨fun n _ _ hn _ _=> ?_,fun n len sz hn h=>⟨len,RE n len sz hn h,Nat.le_refl _⟩,fun b hb=> .inl hb,fun _ _=>rfl⟩
  have:¬S.nx≤n:=by have:n<S.nx:=hn; omega
  simp[ρ',mM,this]
 have rM:∀v a,Mt D S.M S'.M S.nx v a→∀u,aN ρ (lens (ab S.M)) I w (· <S.nx) v u→aN ρ' (lens (ab S'.M)) I' w (fun _=>True) a u:=by
  intro v a hm
  induction hm with
  |same v=>exact fun u hr=>(hr.ui E (fun _ h=>h)).wide (fun _ _=>trivial)
  |drop v=>exact fun u _=> .bad u
  |fz v a h=>exact fun u hr=>((h.sound W hr).bare (fun _ h=>h) _ _).wide (fun _ h=>h.elim)
  |ep n b hb he hn=>
   intro u hr
   cases hr
   refine .bc n 0 _ trivial rfl fun l sz hl=> ?_
   obtain⟨b',hb',rfl,rfl⟩:=aC.1 hl
   rw[hb]at hb'
   cases hb'
   rw[bh.E3 he]
   exact⟨Nat.le_refl _,fun _=> .inl ⟨by simp[ρ',mM,hn],none,rfl⟩⟩
  |bR f cs ds hl h ih=>
   intro u hr
   cases hr with
   |bR f _ vs hvl hr=>exact .bR f ds vs (by omega) (fun j hj=>ih j (by omega) _ (hr j (by omega)))
   |qf f _ vs hvl hr=>exact .qf f ds vs (by omega) (fun j hj=>ih j (by omega) _ (hr j (by omega)))
  |agg cs ds hl h ih=>
   intro u hr
   cases hr with
   |agg _ vs hvl h1 hr=>exact .agg ds vs (by omega) h1 (fun j hj=>ih j (by omega) _ (hr j (by omega)))
  |aP cs ds hl h ih=>
   intro u hr
   cases hr with
   |aP _ vs hvl hr=>exact .aP ds vs (by omega) (fun j hj=>ih j (by omega) _ (hr j (by omega)))
 have bound:∀v a,Mt D S.M S'.M S.nx v a→(∀m ∈ v.names,m<S.nx)→S.nx≤S'.nx→∀m ∈ a.names,m<S'.nx:=by
  intro v a hm
  induction hm with
  |same v=>exact fun h hle m hm=>by have:=h m hm; omega
  |drop v=>intro _ _ m hm; simp[AV.names]at hm
  |fz v a h=>intro _ _ m hm; rw[h.names]at hm; simp at hm
  |ep n b hb he hn=>
   intro _ hle m hm
   simp[AV.names]at hm
   subst hm
   rcases hM m b hb with⟨⟨b0,hb0,_⟩,_⟩|⟨_,_,h,_⟩
   ·have:=hlt m b0 hb0; omega
   ·exact h
  |bR f cs ds hl h ih=>
   intro hv hle m hm
   simp only[AV.names]at hm
   obtain⟨j,hj,Fp⟩:=dx hm
   exact ih j (by omega) (fun m hm=>hv m (by simp only[AV.names]; exact gE (by omega) hm)) hle m Fp
  |agg cs ds hl h ih=>
   intro hv hle m hm
   simp only[AV.names]at hm
   obtain⟨j,hj,Fp⟩:=dx hm
   exact ih j (by omega) (fun m hm=>hv m (by simp only[AV.names]; exact gE (by omega) hm)) hle m Fp
  |aP cs ds hl h ih=>
   intro hv hle m hm
   simp only[AV.names]at hm
   obtain⟨j,hj,Fp⟩:=dx hm
   exact ih j (by omega) (fun m hm=>hv m (by simp only[AV.names]; exact gE (by omega) hm)) hle m Fp
 have low:∀v a u,aN ρ (lens (ab S.M)) I w (· <S.nx) v u→Mt D S.M S'.M S.nx v a→(S.nx≤S'.nx∨a.under (· <S'.nx))→aN ρ' (lens (ab S'.M)) I' w (· <S'.nx) a u:=by
  intro v a u hr hm h
  refine (rM v a hm u hr).low ?_
  rcases h with h|h
  ·exact gg a (fun m hm'=>bound v a hm (fun m hm=>j4 hr m hm) h m hm')
  ·exact h
 refine⟨⟨fun n b' hb'=> ?_,fun n m b b' g c c' hb hb' h1 h2=> ?_,fun g hg=> .inl (W.px g hg),?_,?_,W.keeps,fun n hn=>by show n<S'.nx; omega,W.EZ,W.me E⟩,low⟩
 ·rcases hM n b' hb' with⟨⟨b,hb,hB⟩,hu⟩|⟨h0,h1,hn,h2,hmn⟩
  ·have B:=W.aU n b hb
   have hnlt:=hlt n b hb
   have hn:n<S'.nx:=by rcases hu with h|h<;>omega
   have hu:S.nx≤S'.nx∨YI S'.nx b':=hu.imp id (fun h=>h.2)
   have Aw:mM S ρ n=ρ n:=by simp only[mM]; rw[if_neg (by omega)]
   refine⟨hn,fun e he=> ?_,fun h0=> ?_,fun g cap hρ=> ?_,fun k ka va r sn la hb'=> ?_⟩
   rotate_right
   ·have hmp:=hB.mp
    rw[hb']at hmp
    obtain⟨k0,QN,QO,d0,YJ⟩:∃k0 QN QO d0,b.mp=some (k0,QN,QO,d0):=by
     cases hm:b.mp with
     |none=>rw[hm]at hmp; exact hmp.elim
     |some q=>exact⟨_,_,_,_,rfl⟩
    rw[YJ]at hmp
    obtain⟨_,_,_,h4⟩:=hmp
    rw[h4.it]at YJ
    obtain⟨g,cap,hρ,i1,i2,i3⟩:=B.iter _ _ _ _ _ _ YJ
    refine⟨g,cap,by rw[Aw]; exact hρ,i1,?_,i3⟩
    rintro (h|⟨m,c',bm,⟨_,YK⟩,YL,M4⟩)
    ·exact i2 h
    ·obtain⟨_,_,_,_,_,k2,_⟩:=i3
     obtain⟨_,_,hc1,_⟩:=(W.aU m bm YL).real _ c' M4
     exact hc1.rN k2
   ·obtain⟨i,hi,rfl⟩:=List.getElem_of_mem he
    have h1:i<b.es.length:=by have:=hB.len; omega
    have h3:=hB.row i h1
    have h4:=B.even b.es[i] (List.getElem_mem _)
    rw[List.getD_eq_getElem?_getD,List.getD_eq_getElem?_getD,List.getElem?_eq_getElem hi,List.getElem?_eq_getElem h1,Option.getD_some,Option.getD_some]at h3
    have:=hB.sz
    omega
   ·rw[Aw]at h0
    have h3:=B.ep h0
    have:=hB.len
    rw[h3]at this
    exact List.eq_nil_of_length_eq_zero (by simpa using this.symm)
   ·rw[Aw]at hρ
    obtain⟨cs,fr,hg,nG,qS,hown,hlc,mX,hcs,lq⟩:=B.real g cap hρ
    have e1:=hB.len
    have e2:=hB.sz
    refine⟨cs,fr,by rw[←hB.ty,←hB.sz,←hB.len]; exact hg.le (fun _ _ h=>h.all) hB.mp,nG,?_,hown,by omega,mX,by rw[←hB.sz]; exact hcs,fun i j hi hj=> ?_⟩
    ·rintro (h|⟨m,c',bm,⟨_,YK⟩,YL,M4⟩)
     ·exact qS h
     ·have:=W.inj n m b bm g cap c' hb YL hρ M4
      subst this
      rw[hb']at YK; simp at YK
    ·obtain⟨u,pr,FG,hr⟩:=lq i j (by omega) (by omega)
     refine⟨u,by rw[←hB.sz]; exact pr,FG,?_⟩
     refine low _ _ _ hr (hB.cell i j (by omega) (by omega)) ?_
     rcases hu with hu|hu
     ·exact .inl hu
     ·right
      have z7:b'.es.getD i [] ∈ b'.es:=by
       rw[List.getD_eq_getElem?_getD,List.getElem?_eq_getElem hi,Option.getD_some]; exact List.getElem_mem _
      have hel:(b'.es.getD i []).length=b.sz:=by
       rw[←hB.row i (by omega),List.getD_eq_getElem?_getD,List.getElem?_eq_getElem (show i<b.es.length by omega),Option.getD_some]
       exact B.even _ (List.getElem_mem _)
      exact AV.fF _ _ (hu _ z7) (by omega)
  ·refine⟨hn,fun e he=>by rw[h2]at he; simp at he,fun _=>h2,fun g cap hρ=> ?_,fun _ _ _ _ _ _ h=>by rw[hmn]at h; cases h⟩
   change mM S ρ n=_ at hρ
   simp only[mM,if_pos h1]at hρ
   simp at hρ
 ·have o1:S.nx≤n→False:=fun h=>by simp only[mM,if_pos h]at h1; simp at h1
  have o2:S.nx≤m→False:=fun h=>by simp only[mM,if_pos h]at h2; simp at h2
  have e1:ρ n=some (g,c):=by simpa[mM,show ¬S.nx≤n from o1]using h1
  have e2:ρ m=some (g,c'):=by simpa[mM,show ¬S.nx≤m from o2]using h2
  rcases hM n b hb with⟨⟨b0,hb0,_⟩,_⟩|⟨_,h,_⟩
  ·rcases hM m b' hb' with⟨⟨b1,uq,_⟩,_⟩|⟨_,h,_⟩
   ·exact W.inj n m b0 b1 g c c' hb0 uq e1 e2
   ·exact (o2 h).elim
  ·exact (o1 h).elim
 ·rintro g (hg|⟨n,cap,b,_,hb,hρ⟩)
  ·exact W.lt g hg
  ·obtain⟨cs,fr,hc,_⟩:=(W.aU n b hb).real g cap hρ
   exact hc.lt
 ·rintro g hg (h|⟨n,cap,b,⟨IN,_⟩,hb,hρ⟩)
  ·exact W.old g hg h
  ·obtain⟨cs,fr,hc,_,_,hown,_⟩:=(W.aU n b hb).real g cap hρ
   rcases hown with⟨h,_⟩|h
   ·exact absurd h (Nat.not_lt.2 IN)
   ·exact absurd hg (Nat.not_lt.2 h)
theorem LL {S S':St} (h:Wk X S S') {a:Act} {w:World} {ρ:Place} {I:Nat→Prop} (W:c6 X ρ I (ab S.M) (· <S.nx) w) (F:jZ ρ I w X S a):
  c6 X (mM S ρ) (RD X S S' ρ I) (ab S'.M) (· <S'.nx) w∧jZ (mM S ρ) (RD X S S' ρ I) w X S' a:=by
 obtain⟨h1,low⟩:=wW h W
 refine⟨h1,fun i=> ?_,F.defers.mono (fun g hg=> .inl hg),F.size⟩
 rcases h.F i with h|⟨hm,hu⟩
 ·rw[h]; exact .bad _
 ·exact low _ _ _ (F.rep i) hm hu
theorem Ax {S S':St} (h:Wk X S S') {a:Act} {w:World} (hS:jh X S a w):jh X S' a w:=by
 obtain⟨ρ,I,W,F⟩:=hS
 obtain⟨W',F'⟩:=LL h W F
 exact⟨_,_,W',F'⟩
end Go.AM
namespace Go.AM
open Go.RowKit
def eE (a b:Bool):Bool:=match a,b with
 |true,true=>true
 |false,false=>true
 |_,_=>false
theorem cZ {a b:Bool} (h:eE a b=true):a=b:=by cases a<;>cases b<;>simp_all[eE]
structure FN (es:List (List AV)) (len i:Nat) (K:List AV→Prop):Prop where
 len:es.length=len
 h:K (es.getD i [])
structure VIx (ag:Bool) (m sz:Nat) (cs:List AV) (j:Int) (K:AV→Prop):Prop where
 lt:0≤j∧j< (m:Int)
 h:apart ag sz (j.toNat*sz) cs K
structure wX {α:Type} (xs:List α) (K:List α→Prop):Prop where
 h:K xs
structure RF (es:List (List AV)) (K:Nat→Prop):Prop where
 h:K es.length
structure ACp (es:List (List AV)) (bY:Nat) (K:List AV→Nat→Prop):Prop where
 h:K ((es.take bY).flatten) (min es.length bY)
structure Xm (a b:Int) (K:Nat→Prop):Prop where
 h:(0≤a∧a≤1073741824∧a=b)∧K a.toNat
structure RG (es:List (List AV)) (K:List UInt8→Prop):Prop where
 h:∃s:List UInt8,es=s.map (fun c=>[AV.int .u8 c.toNat])∧K s
structure FP {α:Type} (es:List α) (Y N:Prop):Prop where
 y:es=[]→Y
 n:N
structure sw (R:Env) (X:cq) (f:Nat) (args:List AV) (F:aY) (M:ah) (nx:Nat) (d:Option Nat) (K:KS):Prop where
 body:cx R.P f
 h:∃av ws nw aZ M',qg R.P X f args (ab (aA M)) av ws nw∧(nx≤aZ∧∀n ∈ nw,nx≤n∧n<aZ)∧ab (aA M')=ab (cP (aA M) ws)∧aK d av F M' aZ K
structure lP (R:Env) (X:cq) (f:Nat) (args:List AV) (F:aY) (M:ah) (nx:Nat) (d:Option Nat) (K:KS):Prop where
 body:cx R.P f
 h:∃F' M' aZ,K F' M' aZ∧∀ρ I (a:Act) w vs,(∀x,d=some x→x<X.size)→c6 X ρ I (ab (aA M)) (· <nx) w→jZ ρ I w X ⟨F,aA M,nx⟩ a→dv ρ (lens (ab (aA M))) I w (· <nx) args vs→
  Calls R.P f vs.toArray w fun e w1=>∃v,e= .returned v∧jh X ⟨F',aA M',aZ⟩ (a.put d v) w1
structure pN (R:Env) (X:cq) (f:Nat) (args:List AV) (F:aY) (M:ah) (nx:Nat) (d:Option Nat) (K:KS):Prop where
 body:cx R.P f
 h:∃av ws nw aZ M',qg R.P X f args (ab (aA M)) av ws nw∧(∀p ∈ ws,p.1 ∈ nw)∧(nx≤aZ∧∀n ∈ nw,nx≤n∧n<aZ)∧ab (aA M')=ab (cP (aA M) ws)∧aK d av F M' aZ K
def wY:ah→Nat→List Nat
 |[],_=>[]
 |(m,b)::r,n=>bif Nat.beq n m then (match b with
  | .var _ row=>AV.aB row
  | .arr _ _ _=>[]
  | .map .. =>[])else wY r n
def yr (M:ah):List Nat→List Nat
 |[]=>[]
 |n::r=>n::(wY M n++yr M r)
structure sy (R:Env) (X:cq) (f:Nat) (args:List AV) (F:aY) (M:ah) (nx:Nat) (d:Option Nat) (K:KS):Prop where
 body:cx R.P f
 h:∃av ws nw aZ M',Lp R.P X f args (yr M (AV.aB args)) (ab (aA M)) av ws nw∧(nx≤aZ∧∀n ∈ nw,nx≤n∧n<aZ)∧ab (aA M')=ab (cP (aA M) ws)∧aK d av F M' aZ K
def FQ (P:Program) (f:Nat) (args:List AV) (av:AV):Prop:=
 ∀ (ρ:Place) (L:ba) (I:Nat→Prop) (N:Nat→Prop) (w:World) (vs:List Value),dv ρ L I w N args vs→∃v,(callFunc f vs.toArray).run P w= .ok (.value v) w∧aN ρ L I w N av v
structure sA (R:Env) (f:Nat) (args:List AV) (F:aY) (M:ah) (nx:Nat) (d:Option Nat) (K:KS):Prop where
 h:∃av,FQ R.P f args av∧aK d av F M nx K
def I6 (P:Program) (l:Nat) (vs:List Value) (w:World) (Q:World→Prop):Prop:=
 ∃r:Loop,w.heap[l]? =some (.loop r)∧vs.length=r.params.size∧∀c cs,∃w',Q w'∧
  Steps P (lone (Frame.round l r.fn ((r.params.zip vs.toArray).foldl (fun t (q,v)=>t.setIfInBounds q v) r.tmps) r.assign r.body .normal) (c::cs) w) (lone (c.finish (.bool true)) cs w')
structure sB (R:Env) (X:cq) (l:Nat) (tm:List Value) (aS args:List AV) (F:aY) (M:ah) (nx:Nat) (d:Option Nat) (K:KS):Prop where
 h:∃F' M' aZ,K F' M' aZ∧∀ρ I (a:Act) w vs,(∀x,d=some x→x<X.size)→c6 X ρ I (ab (aA M)) (· <nx) w→jZ ρ I w X ⟨F,aA M,nx⟩ a→dv ρ (lens (ab (aA M))) I w (· <nx) args vs→
  dv ρ (lens (ab (aA M))) I w (· <nx) aS tm→I6 R.P l vs w fun w1=>jh X ⟨F',aA M',aZ⟩ (a.put d (.bool true)) w1
structure ae (R:Env) (X:cq) (lo:Bool) (f:Nat) (args:List AV) (F:aY) (M:ah) (nx:Nat) (d:Option Nat) (K:KS):Prop where
 h:sw R X f args F M nx d K∨(lo=false∧lP R X f args F M nx d K)
def BO (v:AV) (X Y:Prop):Prop:=
 match v with
 | .bool t=>True→q9 t X Y
 |_=>False
def kO (M:ah) (n len:Nat) (K:bI→Prop):Prop:=
 da M n fun b=>match b with
  | .var ty row=>bif Nat.beq len 1 then K (.var ty row)else False
  | .arr ty sz es=>True→es.length=len∧K (.arr ty sz es)
  | .map .. =>False
def BQ (ag:Bool) (n:Nat) (v:AV) (M:ah) (K:AV→Prop):Prop:=
 match v with
 | .loc nm len i off=>da M nm fun b=>match b with
   | .var _ row=>bif Nat.beq len 1 then (bif Nat.beq i 0 then su ag n off row K else False)else False
   | .arr _ _ es=>True→FN es len i fun row=>su ag n off row K
   | .map .. =>False
 | .bi e off=>su ag n off e K
 |_=>False
def FR (a:AV) (cs:List AV) (M:ah) (K:ah→Prop):Prop:=
 match a with
 | .loc nm len i off=>da M nm fun b=>match b with
   | .var ty row=>bif Nat.beq len 1 then (bif Nat.beq i 0 then kL off cs row fun row'=>gV M nm (.var ty row') K else False)else False
   | .arr ty sz es=>True→FN es len i fun row=>kL off cs row fun row'=>gV M nm (.arr ty sz (es.set i row')) K
   | .map .. =>False
 |_=>False
def jP (k k':IntKind) (X:Prop):Prop:=bif rr k k' then X else False
def M5 (op:BinOp) (v u:AV) (K:AV→Prop):Prop:=
 match v,u with
 | .int k a,.int k' b=>
   match op with
   | .shl=>True→0≤b∧K (.int k (pz k a b))
   | .shr=>True→0≤b∧K (.int k (fu k a b))
   | .add=>jP k k' (True→Iw k (a+b) fun m=>K (.int k m))
   | .sub=>jP k k' (True→Iw k (a - b) fun m=>K (.int k m))
   | .mul=>jP k k' (True→Iw k (a*b) fun m=>K (.int k m))
   | .quo=>jP k k' (True→b≠0∧(True→Iw k (a.tdiv b) fun m=>K (.int k m)))
   | .rem=>jP k k' (True→b≠0∧K (.int k (a.tmod b)))
   | .and=>jP k k' (K (.int k (er .and k a b)))
   | .or=>jP k k' (K (.int k (er .or k a b)))
   | .xor=>jP k k' (K (.int k (er .xor k a b)))
   | .andNot=>jP k k' (K (.int k (er .andNot k a b)))
   | .eql=>jP k k' (K (.bool (a==b)))
   | .neq=>jP k k' (K (.bool (a != b)))
   | .lss=>jP k k' (K (.bool (decide (a<b))))
   | .leq=>jP k k' (K (.bool (decide (a≤b))))
   | .gtr=>jP k k' (K (.bool (decide (a>b))))
   | .geq=>jP k k' (K (.bool (decide (a≥b))))
 |_,_=>False
def M6 (l:LK) (a b:AV) (K:Bool→Prop):Prop:=
 match l,a,b with
 | .i,.int k x,.int k' y=>bif rr k k' then K (x==y)else False
 | .b,.bool x,.bool y=>K (x==y)
 | .s,.str x,.str y=>K (x==y)
 |_,_,_=>False
def C':List LK→List AV→List AV→(Bool→Prop)→Prop
 |l::r,a::as,b::bs,K=>M6 l a b fun t=>(match r with
  |[]=>C' r as bs fun _=>K t
  |_=>C' r as bs fun u=>K (t&&u))
 |[],[],[],K=>K true
 |_,_,_,_=>False
def YM (neg:Bool) (K:AV→Prop) (r:Bool):Prop:=
 match neg with
 |true=>K (.bool !r)
 |false=>K (.bool r)
def RH (op:BinOp) (a b:List UInt8) (K:AV→Prop):Prop:=
 match op with
 | .add=>True→(a.length+b.length≤9223372036854775807)∧K (.str (a++b))
 | .eql=>K (.bool (a==b))
 | .neq=>K (.bool !(a==b))
 | .lss=>K (.bool (Op.bytesLess a b))
 | .leq=>K (.bool (Op.bytesLess a b||a==b))
 | .gtr=>K (.bool !(Op.bytesLess a b||a==b))
 | .geq=>K (.bool !(Op.bytesLess a b))
 |_=>False
def YN (op:UnOp) (v:AV) (K:AV→Prop):Prop:=
 match op,v with
 | .neg,.int k n=>True→Iw k (0 - n) fun m=>K (.int k m)
 | .xor,.int k n=>K (.int k (er .xor k (if k.signed then -1 else k.max) n))
 | .not,.bool b=>K (.bool !b)
 |_,_=>False
def FT (sz:Nat) (v ix:AV) (M:ah) (K:AV→Prop):Prop:=
 match ix with
 | .int _ j=>(match v with
   | .aJ s es=>bif Nat.beq s sz then (True→(0≤j∧j<es.length)∧(True→RB es j.toNat fun row=>K (.bi row 0)))else False
   | .bc nm len=>da M nm fun b=>(match b with
     | .arr _ s es=>bif Nat.beq s sz then (True→(es.length=len∧0≤j∧j<len)∧K (.loc nm len j.toNat 0))else False
     | .var .. =>False
     | .map .. =>False)
   | .dX nm len i off bY=>kO M nm len fun _=>True→RC j bY fun c=>K (.loc nm len i (off+c*sz))
   |_=>False)
 |_=>False
def FU (m sz:Nat) (v ix:AV) (M:ah) (K:AV→Prop):Prop:=
 match ix with
 | .int _ j=>(match v with
   | .loc nm len i off=>kO M nm len fun _=>True→RC j m fun c=>K (.loc nm len i (off+c*sz))
   | .bi row off=>True→RC j m fun c=>K (.bi row (off+c*sz))
   |_=>False)
 |_=>False
def Xo (mx:Bool) (k:IntKind) (a:Int):List AV→(AV→Prop)→Prop
 |[],K=>K (.int k a)
 | .int _ b::r,K=>(match mx with
   |true=>Xo mx k (max a b) r K
   |false=>Xo mx k (min a b) r K)
 |_,_=>False
def mmK (mx:Bool) (as:List AV) (K:AV→Prop):Prop:=
 match as with
 | .int k a::r=>Xo mx k a r K
 |_=>False
def vq (sz:Nat) (x:AV) (M:ah) (K:List (List AV)→Prop):Prop:=
 match x with
 | .aJ s es=>bif Nat.beq s sz then K es else False
 | .ao=>K []
 | .bc n len=>da M n fun b=>(match b with
   | .arr _ s es=>bif Nat.beq s sz then (True→es.length=len∧K es)else False
   | .var .. =>False
   | .map .. =>False)
 | .dX n len i off bY=>da M n fun b=>(match b with
   | .var _ row=>bif Nat.beq len 1 then (bif Nat.beq i 0 then (bif Nat.beq sz 0 then False else vn off row fun r=>BM sz bY r K)else False)else False
   | .arr .. =>False
   | .map .. =>False)
 |_=>False
def LM (sz:Nat) (v:AV) (M:ah) (src:(List (List AV)→Prop)→Prop) (K:Nat→ah→Prop):Prop:=
 match v with
 | .dX n len i off bY=>da M n fun b=>(match b with
   | .var ty row=>bif Nat.beq len 1 then (bif Nat.beq i 0 then (bif Nat.ble (off+bY*sz) row.length then src fun xs=>True→ACp xs bY fun vs k=>kL off vs row fun row'=>gV M n (.var ty row') fun M'=>K k M' else False)else False)else False
   | .arr .. =>False
   | .map .. =>False)
 |_=>False
def Ay (x:AV) (K:List (List AV)→Prop):Prop:=
 match x with
 | .str s=>K (s.map fun c=>[.int .u8 c.toNat])
 |_=>False
def FV (ty sz:Nat) (s:AV) (src:(List (List AV)→Prop)→Prop) (M:ah) (nx:Nat) (K:AV→ah→Nat→Prop):Prop:=
 match s with
 | .bc n len=>da M n fun b=>(match b with
   | .arr t z es=>bif Nat.beq z sz then (True→(t=ty∧es.length=len)∧src fun xs=>True→es.length+xs.length≤1073741824∧gV M n (.arr t z (es++xs)) fun M'=>K (.bc n (es++xs).length) M' nx)else False
   | .var .. =>False
   | .map .. =>False)
 | .ao=>src fun xs=>True→xs.length≤1073741824∧K (.bc nx xs.length) ((nx,.arr ty sz xs)::M) (nx+1)
 |_=>False
def LN (ty sz:Nat) (z:List AV) (s x:AV) (M:ah) (nx:Nat) (K:AV→ah→Nat→Prop):Prop:=
 match x with
 | .int _ m=>(match s with
   | .bc n len=>da M n fun b=>(match b with
     | .arr t q es=>bif Nat.beq q sz then (True→(t=ty∧es.length=len)∧(True→Xm m m fun k=>True→es.length+k≤1073741824∧gV M n (.arr t q (es++List.replicate k z)) fun M'=>K (.bc n (es++List.replicate k z).length) M' nx))else False
     | .var .. =>False
     | .map .. =>False)
   | .ao=>True→Xm m m fun k=>K (.bc nx k) ((nx,.arr ty sz (List.replicate k z))::M) (nx+1)
   |_=>False)
 |_=>False
def FW (sz:Nat) (v:AV) (lo hi mx:Option AV) (K:AV→Prop):Prop:=
 match v with
 | .aJ s es=>bif Nat.beq s sz then (match lo,hi,mx with
   |none,some (.int _ h),none=>True→(0≤h∧h≤es.length)∧(True→wX (es.take h.toNat) fun xs=>K (.aJ sz xs))
   |some (.int _ l),none,none=>True→(0≤l∧l≤es.length)∧(True→wX (es.drop l.toNat) fun xs=>K (.aJ sz xs))
   |some (.int _ l),some (.int _ h),none=>True→(0≤l∧l≤h∧h≤es.length)∧(True→wX ((es.take h.toNat).drop l.toNat) fun xs=>K (.aJ sz xs))
   |none,some (.int _ h),some (.int _ m)=>True→(0≤h∧h≤m∧m≤es.length)∧(True→wX (es.take h.toNat) fun xs=>K (.aJ sz xs))
   |_,_,_=>False)else False
 |_=>False
def FX (v:AV) (lo hi:Option AV) (K:AV→Prop):Prop:=
 match v with
 | .str s=>(match lo,hi with
   |none,some (.int _ h)=>True→(0≤h∧h≤s.length)∧(True→wX (s.take h.toNat) fun xs=>K (.str xs))
   |some (.int _ l),none=>True→(0≤l∧l≤s.length)∧(True→wX (s.drop l.toNat) fun xs=>K (.str xs))
   |some (.int _ l),some (.int _ h)=>True→(0≤l∧l≤h∧h≤s.length)∧(True→wX ((s.take h.toNat).drop l.toNat) fun xs=>K (.str xs))
   |_,_=>False)
 |_=>False
def FY (v:AV) (M:ah) (K:AV→Prop):Prop:=
 match v with
 | .aJ _ es=>True→RF es fun n=>K (.int .i64 n)
 | .bc n len=>kO M n len fun _=>K (.int .i64 len)
 | .dX n len _ _ bY=>kO M n len fun _=>K (.int .i64 bY)
 | .ao=>K (.int .i64 0)
 |_=>False
def M7:Nat→List AV→(AV→Prop)→Prop
 |0,v::_,K=>K v
 |n+1,_::r,K=>M7 n r K
 |_,[],_=>False
structure Ix (ls:List LK) (kc:List AV) (es:List (List AV)) (K:Option (Nat × List AV)→Prop):Prop where
 ok:∀r ∈ es,dM ls kc r=true
 h:K (bL kc es)
structure AFv (kc:List AV) (es:List (List AV)) (K:AV→Prop):Prop where
 g:∀r ∈ es,jl r=true
 h:K (CO (bL kc es))
structure AFg (kc:List AV) (es:List (List AV)) (K:Option (Nat × List AV)→Prop):Prop where
 g:∀r ∈ es,jl r=true
 h:K (bL kc es)
structure AEn (es:List (List AV)) (j:Int) (K:Nat→List AV→Prop):Prop where
 h:∃ (i:Nat) (r:List AV),j=i∧es[i]? =some r∧K i r
structure IRg (K:Nat→Prop):Prop where
 h:∀r,K r
structure INx (r r':Nat) (es:List (List AV)) (sn:List Bool) (Y:Prop) (K:Nat→Prop):Prop where
 e:r'=r
 fin:(∀q ∈ sn,q=true)→sn.length=es.length→Y
 go:∀i row,es[i]? =some row→sn[i]? =some false→sn.length=es.length→K i
structure IEt (r r':Nat) (la:Option Nat) (es:List (List AV)) (K:List AV→Prop):Prop where
 h:r'=r∧∃i row,la=some i∧es[i]? =some row∧K row
def I7 (q:Option (Nat × List AV)) (es:List (List AV)) (dn:Dn) (K:List (List AV)→Dn→Prop):Prop:=
 match q with
 |some q=>K (es.eraseIdx q.1) (dn.dl q.1)
 |none=>K es dn.up
def Az (ls:List LK) (ag:Bool) (u:AV) (K:List AV→Prop):Prop:=kM u fun kc=>bif eE u.jo ag&&Nat.beq kc.length ls.length&&dM ls kc kc then K kc else False
def AA (va:Bool) (l:List AV) (K:AV→Prop):Prop:=
 match va with
 |true=>K (.agg l)
 |false=>match l with
  |c::_=>K c
  |[]=>False
def RI (ok va:Bool) (z:AV) (q:Option (Nat × List AV)) (K:AV→Prop):Prop:=
 match q with
 |some q=>AA va q.2 fun v=>(match ok with
  |true=>K (.aP [v,.bool true])
  |false=>K v)
 |none=>(match ok with
  |true=>K (.aP [z,.bool false])
  |false=>K z)
def M8 (q:Option (Nat × List AV)) (es:List (List AV)) (r:List AV) (K:List (List AV)→Prop):Prop:=
 match q with
 |some q=>K (es.set q.1 r)
 |none=>K (es++ [r])
def I8 (va:Bool) (z:AV) (q:Option (Nat × List AV)) (es:List (List AV)) (kc zs:List AV) (K:AV→Nat→List (List AV)→Prop):Prop:=
 match q with
 |some q=>AA va q.2 fun v=>K v q.1 es
 |none=>K z es.length (es++ [kc++zs])
def AB (ls:List LK) (ag va:Bool) (v:AV) (M:ah) (K:Nat→Dn→Nat→List (List AV)→Prop):Prop:=
 match v with
 | .omap n=>da M n fun b=>(match b with
   | .map k ka vb dn sz es=>bif Nat.beq k ls.length&&eE ka ag&&eE vb va&&Nat.blt k sz then K n dn sz es else False
   | .arr .. =>False
   | .var .. =>False)
 |_=>False
def BR (v:AV) (M:ah) (K:Nat→Nat→Bool→Bool→Dn→Nat→List (List AV)→Prop):Prop:=
 match v with
 | .omap n=>da M n fun b=>(match b with
   | .map k ka va dn sz es=>K n k ka va dn sz es
   | .arr .. =>False
   | .var .. =>False)
 |_=>False
def Xp (v:AV) (M:ah) (K:Nat→Nat→Nat→Bool→Bool→Nat→List Bool→Option Nat→Nat→List (List AV)→Prop):Prop:=
 match v with
 | .mS n r'=>da M n fun b=>(match b with
   | .map k ka va dn sz es=>(match dn with
     | .it r sn la=>K n r' k ka va r sn la sz es
     | .b _=>False)
   | .arr .. =>False
   | .var .. =>False)
 |_=>False
def dm (R:Env) (X:cq) (lo:Bool) (i:vi) (d:Option Nat) (F:aY) (M:ah) (nx:Nat) (K:KS):Prop:=
 match i with
 | .mv x=>dE R F x fun v=>aK d v F M nx K
 | .pick c a b=>dE R F c fun v=>BO v (dE R F a fun u=>aK d u F M nx K) (dE R F b fun u=>aK d u F M nx K)
 | .alloc ty z=>aK d (.loc nx 1 0 0) F ((nx,.var (R.ty ty) z)::M) (nx+1) K
 | .box ty x=>dE R F x fun v=>kM v fun cs=>aK d (.loc nx 1 0 0) F ((nx,.var (R.ty ty) cs)::M) (nx+1) K
 | .build z ps=>C9 R F ps z fun cs=>aK d (.agg cs) F M nx K
 | .aG ty sz len z ps=>MY z len fun es=>BN R F sz ps es fun es'=>aK d (.bc nx len) F ((nx,.arr (R.ty ty) sz es')::M) (nx+1) K
 | .load ag n x=>dE R F x fun v=>BQ ag n v M fun u=>aK d u F M nx K
 | .store n x v=>dE R F x fun a=>dE R F v fun u=>kM u fun cs=>yq cs n (FR a cs M fun M'=>aK d (.aP []) F M' nx K)
 | .aO x=>dE R F x fun v=>(match v with
   | .loc nm len i q=>kO M nm len fun _=>aK d (.loc nm len i q) F M nx K
   | .bi e q=>aK d (.bi e q) F M nx K
   | .bR f cs=>aK d (.bR f cs) F M nx K
   |_=>False)
 | .bin op x y=>dE R F x fun v=>dE R F y fun u=>M5 op v u fun r=>aK d r F M nx K
 | .LB neg x y=>dE R F x fun v=>dE R F y fun u=>(match v,u with
   | .bool a,.bool b=>(match neg with
     |true=>aK d (.bool (a != b)) F M nx K
     |false=>aK d (.bool (a==b)) F M nx K)
   |_,_=>False)
 | .wT neg ls x y=>dE R F x fun v=>dE R F y fun u=>(match v,u with
   | .agg as,.agg bs=>C' ls as bs (YM neg fun r=>aK d r F M nx K)
   |_,_=>False)
 | .bst op x y=>dE R F x fun v=>dE R F y fun u=>(match v,u with
   | .str a,.str b=>RH op a b fun r=>aK d r F M nx K
   |_,_=>False)
 | .un op x=>dE R F x fun v=>YN op v fun r=>aK d r F M nx K
 | .conv k x=>dE R F x fun v=>(match v with
   | .int _ n=>True→Iw k n fun m=>aK d (.int k m) F M nx K
   |_=>False)
 | .Rv x=>dE R F x fun v=>(match v with
   | .str s=>aK d (.str s) F M nx K
   |_=>False)
 | .QL g cs=>sq R F cs fun l=>aK d (R.cl g l) F M nx K
 | .aD off x=>dE R F x fun v=>(match v with
   | .loc nm len i q=>kO M nm len fun _=>aK d (.loc nm len i (q+off)) F M nx K
   | .bi e q=>aK d (.bi e (q+off)) F M nx K
   |_=>False)
 | .mL sz x i=>dE R F x fun v=>dE R F i fun ix=>FT sz v ix M fun r=>aK d r F M nx K
 | .bt m sz x i=>dE R F x fun v=>dE R F i fun ix=>FU m sz v ix M fun r=>aK d r F M nx K
 | .uJ _ sz x lo hi mx=>dE R F x fun v=>Au R F lo fun l=>Au R F hi fun h=>Au R F mx fun m=>FW sz v l h m fun r=>aK d r F M nx K
 | .RA x lo hi=>dE R F x fun v=>Au R F lo fun l=>Au R F hi fun h=>FX v l h fun r=>aK d r F M nx K
 | .ext x i=>dE R F x fun v=>(match v with
   | .aP vs=>M7 i vs fun r=>aK d r F M nx K
   |_=>False)
 | .call g as=>sq R F as fun l=>True→ae R X lo (R.ft g) l F M nx d K
 | .gx f as=>dE R F f fun v=>(match v with
   | .bR (.fn g) aS=>sq R F as fun l=>True→ae R X lo g (l++aS) F M nx d K
   | .bR (.lp l tm) aS=>(match lo with
     |true=>False
     |false=>sq R F as fun args=>True→sB R X l tm aS args F M nx d K)
   |_=>False)
 | .qD g as=>sq R F as fun l=>True→sA R (R.ft g) l F M nx d K
 | .vj f as=>dE R F f fun v=>(match v with
   | .bR (.fn g) aS=>sq R F as fun l=>True→pN R X g (l++aS) F M nx d K
   |_=>False)
 | .oK f as=>dE R F f fun v=>(match v with
   | .bR (.fn g) aS=>sq R F as fun l=>(match lo with
     |true=>True→sy R X g (l++aS) F M nx d K
     |false=>False)
   |_=>False)
 | .QK neg x=>dE R F x fun v=>(match v with
   | .bP=>(match neg with
     |true=>aK d (.bool false) F M nx K
     |false=>aK d (.bool true) F M nx K)
   | .bi _ _=>aK d (.bool neg) F M nx K
   | .loc nm len _ _=>kO M nm len fun _=>aK d (.bool neg) F M nx K
   |_=>False)
 | .Ar neg x=>dE R F x fun v=>(match v with
   | .aJ _ es=>(match lo with
     |true=>False
     |false=>True→FP es (match neg with
      |true=>aK d (.bool false) F M nx K
      |false=>aK d (.bool true) F M nx K) (aK d (.bool neg) F M nx K))
   |_=>False)
 | .I3 neg x=>dE R F x fun v=>(match v with
   | .cb=>(match neg with
     |true=>aK d (.bool false) F M nx K
     |false=>aK d (.bool true) F M nx K)
   | .omap n=>da M n fun b=>(match b with
     | .map _ _ _ _ _ _=>aK d (.bool neg) F M nx K
     |_=>False)
   |_=>False)
 | .s2a m _ x=>dE R F x fun v=>(match v with
   | .aJ _ es=>True→(m≤es.length∧0<m)∧(True→wX (es.take m).flatten fun row=>aK d (.bi row 0) F M nx K)
   |_=>False)
 | .FJ ag off n x=>dE R F x fun v=>(match v with
   | .agg cs=>su ag n off cs fun r=>aK d r F M nx K
   |_=>False)
 | .LC ty sz x=>dE R F x fun v=>(match v with
   | .aJ _ _=>aK d (.bc nx 0) F ((nx,.arr (R.ty ty) sz [])::M) (nx+1) K
   |_=>False)
 | .FK ag m sz x i=>dE R F x fun v=>dE R F i fun ix=>(match v,ix with
   | .agg cs,.int _ j=>True→VIx ag m sz cs j fun r=>aK d r F M nx K
   |_,_=>False)
 | .Rz x i=>dE R F x fun v=>dE R F i fun ix=>(match v,ix with
   | .str s,.int _ j=>True→(0≤j∧j< (s.length:Int))∧aK d (.int .u8 (s.getD j.toNat 0).toNat) F M nx K
   |_,_=>False)
 | .b2s x=>dE R F x fun v=>vq 1 v M fun es=>True→RG es fun s=>aK d (.str s) F M nx K
 | .MS m sz x lo hi mx=>(match lo,hi,mx with
   |none,none,none=>dE R F x fun v=>(match v with
    | .loc nm len i off=>kO M nm len fun _=>aK d (.dX nm len i off m) F M nx K
    | .bi r off=>bif Nat.beq sz 0 then False else vn off r fun r'=>BM sz m r' fun es=>aK d (.aJ sz es) F M nx K
    |_=>False)
   |_,_,_=>False)
 | .copy sz x y=>dE R F x fun v=>dE R F y fun u=>LM sz v M (vq sz u M) fun n M'=>aK d (.int .i64 n) F M' nx K
 | .YE ty sz z l c=>dE R F l fun v=>dE R F c fun u=>(match v,u with
   | .int _ a,.int _ b=>True→Xm a b fun n=>aK d (.bc nx n) F ((nx,.arr (R.ty ty) sz (List.replicate n z))::M) (nx+1) K
   |_,_=>False)
 | .s2b ty x=>dE R F x fun v=>(match v with
   | .str s=>True→s.length≤1073741824∧aK d (.bc nx s.length) F ((nx,.arr (R.ty ty) 1 (s.map fun c=>[.int .u8 c.toNat]))::M) (nx+1) K
   |_=>False)
 | .MT n=>aK d (.int .i64 n) F M nx K
 | .gi x=>dE R F x fun v=>FY v M fun r=>aK d r F M nx K
 | .MU x=>dE R F x fun v=>(match v with
   | .str s=>aK d (.int .i64 s.length) F M nx K
   |_=>False)
 | .mm mx as=>sq R F as fun l=>mmK mx l fun r=>aK d r F M nx K
 | .app ty sz s x=>dE R F s fun v=>dE R F x fun u=>FV (R.ty ty) sz v (vq sz u M) M nx fun r M' aZ=>aK d r F M' aZ K
 | .I5 ty sz z s x=>dE R F s fun v=>dE R F x fun u=>LN (R.ty ty) sz z v u M nx fun r M' aZ=>aK d r F M' aZ K
 | .I4 ty s x=>dE R F s fun v=>dE R F x fun u=>FV (R.ty ty) 1 v (Ay u) M nx fun r M' aZ=>aK d r F M' aZ K
 | .MV k ka va sz=>aK d (.omap nx) F ((nx,.map k ka va true sz [])::M) (nx+1) K
 | .ES ls ag va z ok x key=>dE R F x fun v=>dE R F key fun u=>AB ls ag va v M fun _ _ _ es=>Az ls ag u fun kc=>True→Ix ls kc es fun q=>RI ok va z q fun r=>aK d r F M nx K
 | .FL ls ag va x key y=>dE R F x fun v=>dE R F key fun u=>dE R F y fun w=>AB ls ag va v M fun n dn sz es=>Az ls ag u fun kc=>kM w fun vs=>bif eE w.jo va&&Nat.beq (ls.length+vs.length) sz then
     (True→Ix ls kc es fun q=>True→es.length+1≤1073741824∧M8 q es (kc++vs) fun es'=>gV M n (.map ls.length ag va dn.up sz es') fun M'=>aK d (.aP []) F M' nx K)else False
 | .YF ls ag va z x key=>dE R F x fun v=>dE R F key fun u=>AB ls ag va v M fun n dn sz es=>Az ls ag u fun kc=>kM z fun zs=>bif eE z.jo va&&Nat.beq (ls.length+zs.length) sz&&dn.all then
     (True→Ix ls kc es fun q=>True→es.length+1≤1073741824∧I8 va z q es kc zs fun r i es'=>gV M n (.map ls.length ag va true sz es') fun M'=>aK d (.aP [r,.int .i64 i]) F M' nx K)else False
 | .LD ls ag x key=>dE R F x fun v=>dE R F key fun u=>AB ls ag false v M fun _ _ sz es=>Az ls ag u fun kc=>bif Nat.beq sz (ls.length+1)&&jl kc then (True→AFv kc es fun r=>aK d r F M nx K)else False
 | .enc ls ag x key=>dE R F x fun v=>dE R F key fun u=>AB ls ag false v M fun n dn sz es=>Az ls ag u fun kc=>bif Nat.beq sz (ls.length+1)&&jl kc&&dn.all then
     (True→AFg kc es fun q=>True→es.length+1≤1073741824∧I8 false (.int .i64 0) q es kc [.int .i64 0] fun r i es'=>gV M n (.map ls.length ag false true sz es') fun M'=>aK d (.aP [r,.int .i64 i]) F M' nx K)else False
 | .LF ls ag x key=>dE R F x fun v=>dE R F key fun u=>BR v M fun n k ka va dn sz es=>bif Nat.beq k ls.length&&eE ka ag then Az ls ag u fun kc=>True→Ix ls kc es fun q=>I7 q es dn fun es' IV=>gV M n (.map ls.length ag va IV sz es') fun M'=>aK d (.aP []) F M' nx K else False
 | .MW x=>dE R F x fun v=>(match lo with
   |true=>False
   |false=>BR v M fun n k ka va _ sz es=>True→IRg fun r=>gV M n (.map k ka va (.it r (es.map fun _=>false) none) sz es) fun M'=>aK d (.mS n r) F M' nx K)
 | .QM x=>dE R F x fun v=>(match lo with
   |true=>False
   |false=>Xp v M fun n r' k ka va r sn _ sz es=>True→INx r r' es sn (aK d (.aP [.bool false]) F M nx K) fun i=>gV M n (.map k ka va (.it r (sn.set i true) (some i)) sz es) fun M'=>aK d (.aP [.bool true,.bad,.bad]) F M' nx K)
 | .IL x=>dE R F x fun v=>(match lo with
   |true=>False
   |false=>Xp v M fun _ r' k ka va r _ la sz es=>bif Nat.blt 0 k&&Nat.blt k sz then (True→IEt r r' la es fun row=>yp k row fun kc=>AA ka kc fun a=>vn k row fun vc=>AA va vc fun b=>aK d (.aP [a,b]) F M nx K)else False)
 | .YG va x st y=>dE R F x fun v=>dE R F st fun u=>dE R F y fun w=>(match v,u with
   | .omap n,.int _ j=>da M n fun b=>(match b with
     | .map k ka vb dn sz es=>kM w fun vs=>bif eE w.jo va&&eE vb va&&Nat.beq (k+vs.length) sz&&dn.all then
         (True→AEn es j fun i row=>yp k row fun kc=>gV M n (.map k ka va true sz (es.set i (kc++vs))) fun M'=>aK d (.aP []) F M' nx K)else False
     | .arr .. =>False
     | .var .. =>False)
   |_,_=>False)
def I9 (a b:AV):Bool:=
 match a,b with
 | .int k n,.int k' n'=>rr k k'&&decide (n=n')
 | .bool x,.bool y=>x==y
 | .str s,.str t=>decide (s=t)
 | .bP,.bP=>true
 | .ao,.ao=>true
 | .aw,.aw=>true
 | .dS,.dS=>true
 | .cb,.cb=>true
 |_,_=>false
def ra:List AV→List AV→Bool
 |[],[]=>true
 |a::r,b::s=>I9 a b&&ra r s
 |_,_=>false
def AC (a b:AV):Bool:=
 match a,b with
 | .agg cs,.agg ds=>ra cs ds
 | .aP cs,.aP ds=>ra cs ds
 |a,b=>I9 a b
theorem BS {a b:AV} (h:I9 a b=true):a=b:=by
 cases a<;>cases b<;>simp_all[I9]
 exact iH h.1
theorem jC:∀ {a b:List AV},ra a b=true→a=b
 |[],[],_=>rfl
 |a::r,b::s,h=>by
  simp only[ra,Bool.and_eq_true]at h
  rw[BS h.1,jC h.2]
 |[],_::_,h=>by simp[ra]at h
 |_::_,[],h=>by simp[ra]at h
theorem oL {a b:AV} (h:AC a b=true):a=b:=by
 unfold AC at h
 split at h
 ·rw[jC h]
 ·rw[jC h]
 ·exact BS h
def cU (R:Env):Operand→Sc→Bool
 | .tmp t,.t n=>Nat.beq t n
 | .const v,.k u=>AC (Ln v) u
 | .func f,.f g=>Nat.beq (R.ft g) f
 |_,_=>false
def nU (R:Env):List Operand→List Sc→Bool
 |[],[]=>true
 |x::r,y::s=>cU R x y&&nU R r s
 |_,_=>false
def AD (R:Env):Option Operand→Option Sc→Bool
 |none,none=>true
 |some x,some y=>cU R x y
 |_,_=>false
theorem ar {R:Env} {F:aY} {x:Operand} {y:Sc} (h:cU R x y=true):ev F x=mw R F y:=by
 cases x<;>cases y<;>simp only[cU]at h<;>first|(simp at h; done)|skip
 ·rw[Nat.eq_of_beq_eq_true h]; rfl
 ·exact oL h
 ·simp only[ev,mw,Env.cl,Nat.eq_of_beq_eq_true h]
theorem dY {R:Env} {F:aY}:∀ {xs:List Operand} {ys:List Sc},nU R xs ys=true→oo F xs=ys.map (mw R F)
 |[],[],_=>rfl
 |x::r,y::s,h=>by
  simp only[nU,Bool.and_eq_true]at h
  simp only[oo,List.map_cons,ar (F:=F) h.1,dY h.2]
 |[],_::_,h=>by simp[nU]at h
 |_::_,[],h=>by simp[nU]at h
theorem oM {R:Env} {F:aY} {x:Option Operand} {y:Option Sc} (h:AD R x y=true):uk F x=y.map (mw R F):=by
 cases x<;>cases y<;>simp only[AD]at h<;>first|(simp at h; done)|rfl|skip
 simp only[uk,Option.map_some,ar (F:=F) h]
def Da (R:Env) (fs:List (Nat × Nat)):List (Nat × Operand)→List (Nat × Nat × Sc)→Bool
 |[],[]=>true
 |(i,x)::r,(off,n,y)::s=>(match fs[i]? with
  |some (o,t)=>Nat.beq o off&&Nat.beq (R.T.s t) n&& !Nat.beq n 0
  |none=>false)&&cU R x y&&Da R fs r s
 |_,_=>false
def Db (R:Env) (sz:Nat):List (Nat × Operand)→List (Nat × Nat × Sc)→Bool
 |[],[]=>true
 |(i,x)::r,(off,n,y)::s=>Nat.beq (i*sz) off&&Nat.beq sz n&& !Nat.beq n 0&&cU R x y&&Db R sz r s
 |_,_=>false
def Dc (R:Env):List (Nat × Operand)→List (Nat × Sc)→Bool
 |[],[]=>true
 |(i,x)::r,(j,y)::s=>Nat.beq i j&&cU R x y&&Dc R r s
 |_,_=>false
def M9:BinOp→Nat
 | .add=>0| .sub=>1| .mul=>2| .quo=>3| .rem=>4| .and=>5| .or=>6| .xor=>7| .shl=>8| .shr=>9| .andNot=>10| .eql=>11| .neq=>12| .lss=>13| .leq=>14| .gtr=>15| .geq=>16
theorem FZ {a b:BinOp} (h:Nat.beq (M9 a) (M9 b)=true):a=b:=by
 have:=Nat.eq_of_beq_eq_true h
 cases a<;>cases b<;>first|rfl|(simp[M9]at this)
def RJ:UnOp→Nat
 | .neg=>0| .not=>1| .xor=>2| .plus=>3
theorem Na {a b:UnOp} (h:Nat.beq (RJ a) (RJ b)=true):a=b:=by
 have:=Nat.eq_of_beq_eq_true h
 cases a<;>cases b<;>first|rfl|(simp[RJ]at this)
def Xq:Option Operand→Bool
 |some (.const (.int _ (.ofNat 0)))=>true
 |_=>false
theorem F3 {b:Option Operand} (h:Xq b=true):∃k,b=some (.const (.int k 0)):=by
 unfold Xq at h
 split at h
 ·exact⟨_,rfl⟩
 ·simp at h
def isEq (op:BinOp) (neg:Bool):Bool:=
 match op,neg with
 | .eql,false=>true
 | .neq,true=>true
 |_,_=>false
theorem isEq_eq {op:BinOp} {neg:Bool} (h:isEq op neg=true):op=if neg then .neq else .eql:=by cases op<;>cases neg<;>simp_all[isEq]
def Dd:List LK→List LK→Bool
 |[],[]=>true
 | .i::r,.i::s=>Dd r s
 | .b::r,.b::s=>Dd r s
 | .s::r,.s::s=>Dd r s
 |_,_=>false
theorem oN:∀ {a b:List LK},Dd a b=true→a=b
 |[],[],_=>rfl
 | .i::r,.i::s,h=>by rw[oN (a:=r) (b:=s) h]
 | .b::r,.b::s,h=>by rw[oN (a:=r) (b:=s) h]
 | .s::r,.s::s,h=>by rw[oN (a:=r) (b:=s) h]
def sC (R:Env) (t:Nat) (ls:List LK) (ag:Bool):Bool:=match R.T.d t with
 | .map k _=>eE (aM R.P k) ag&&(match mr R.P 8 k with
   |some l=>Dd l ls
   |none=>false)
 |_=>false
def bH (R:Env) (c:Call) (i:vi):Bool:=
 match c.callee,i with
 | .value f,.call g as=>cU R f (.f g)&&nU R c.args.toList as
 | .value f,.gx y as=>cU R f y&&nU R c.args.toList as
 | .value f,.vj y as=>cU R f y&&nU R c.args.toList as
 | .value f,.oK y as=>cU R f y&&nU R c.args.toList as
 | .value f,.qD g as=>cU R f (.f g)&&nU R c.args.toList as
 | .builtin .len,.MT n=>(match c.args.toList,c.argTypes.toList with
   |[_],[t]=>(match R.T.d t with
    | .arr m _=>Nat.beq m n
    |_=>false)
   |_,_=>false)
 | .builtin .len,.gi y=>(match c.args.toList,c.argTypes.toList with
   |[x],[t]=>cU R x y&&(match R.T.d t with
    | .slice _=>true
    |_=>false)
   |_,_=>false)
 | .builtin .len,.MU y=>(match c.args.toList,c.argTypes.toList with
   |[x],[t]=>cU R x y&&(match R.T.d t with
    | .str=>true
    |_=>false)
   |_,_=>false)
 | .builtin .min,.mm false as=>nU R c.args.toList as
 | .builtin .max,.mm true as=>nU R c.args.toList as
 | .builtin .append,.app ty sz s y=>(match c.args.toList,c.argTypes.toList with
   |[x1,x2],[t,t']=>cU R x1 s&&cU R x2 y&&(match R.T.d t,R.T.d t' with
    | .slice e,.slice _=>Nat.beq (R.ty ty) e&&Nat.beq (R.T.s e) sz&&(R.T.d e).ok&&bQ (R.T.z e)&&Nat.beq (cells (R.T.z e)).length (R.T.s e)
    |_,_=>false)
   |_,_=>false)
 | .builtin .copy,.copy sz s y=>(match c.args.toList,c.argTypes.toList with
   |[x1,x2],[t,t']=>cU R x1 s&&cU R x2 y&&(match R.T.d t,R.T.d t' with
    | .slice e,.slice _=>Nat.beq (R.T.s e) sz&&(R.T.d e).ok
    |_,_=>false)
   |_,_=>false)
 | .builtin .append,.I5 ty sz z s y=>(match c.args.toList,c.argTypes.toList with
   |[x1,x2],[t,t']=>cU R x1 s&&cU R x2 y&&(match R.T.d t,R.T.d t' with
    | .slice e,.int _=>Nat.beq (R.ty ty) e&&Nat.beq (R.T.s e) sz&&(R.T.d e).ok&&bQ (R.T.z e)&&Nat.beq (cells (R.T.z e)).length (R.T.s e)&&ra (cells (R.T.z e)) z&& !Nat.beq sz 0
    |_,_=>false)
   |_,_=>false)
 | .builtin .delete,.LF ls ag y u=>(match c.args.toList,c.argTypes.toList with
   |[x1,x2],[t,_]=>cU R x1 y&&cU R x2 u&&sC R t ls ag
   |_,_=>false)
 | .builtin .append,.I4 ty s y=>(match c.args.toList,c.argTypes.toList with
   |[x1,x2],[t,t']=>cU R x1 s&&cU R x2 y&&(match R.T.d t,R.T.d t' with
    | .slice e,.str=>Nat.beq (R.ty ty) e&&Nat.beq (R.T.s e) 1&&(R.T.d e).ok&&bQ (R.T.z e)&&Nat.beq (cells (R.T.z e)).length (R.T.s e)
    |_,_=>false)
   |_,_=>false)
 |_,_=>false
def df (R:Env) (o:Op) (i:vi):Bool:=
 match o,i with
 | .move x,.mv y=>cU R x y
 | .assign x,.mv y=>cU R x y
 | .pick c a b,.pick c' a' b'=>cU R c c'&&cU R a a'&&cU R b b'
 | .alloc t,.alloc ty z=>Nat.beq (R.ty ty) t&&(R.T.d t).ok&&bQ (R.T.z t)&&ra (cells (R.T.z t)) z
 | .box t x,.box ty y=>Nat.beq (R.ty ty) t&&cU R x y
 | .build t ps,.build z qs=>bQ (R.T.z t)&&Nat.beq (cells (R.T.z t)).length (R.T.s t)&&ra (cells (R.T.z t)) z&&(match R.T.d t with
   | .struct fs=>E6 R.T.d fs&&Da R fs ps.toList qs
   | .arr _ e=>(R.T.d e).ok&&Db R (R.T.s e) ps.toList qs
   |_=>false)
 | .buildSlice t len ps,.aG ty sz len' z qs=>(match R.T.d t with
   | .slice e=>Nat.beq (R.ty ty) e&&Nat.beq (R.T.s e) sz&&Nat.beq len len'&&(R.T.d e).ok&&bQ (R.T.z e)&&ra (cells (R.T.z e)) z&&Nat.beq (cells (R.T.z e)).length sz&& !Nat.beq sz 0&&Nat.ble (len*sz) 16777216&&Dc R ps.toList qs
   |_=>false)
 | .load t a,.load ag n y=>(R.T.d t).ok&&eE (R.T.d t).ag ag&&Nat.beq (R.T.s t) n&&cU R a y
 | .store t a x,.store n y u=>(R.T.d t).ok&&Nat.beq (R.T.s t) n&& !Nat.beq n 0&&cU R a y&&cU R x u
 | .nilCheck x,.aO y=>cU R x y
 | .binOp op _ x y _,.bin op' x' y'=>Nat.beq (M9 op) (M9 op')&&cU R x x'&&cU R y y'
 | .binOp op t x y _,.LB neg x' y'=>isEq op neg&&cU R x x'&&cU R y y'&&(match R.P.underlying t with
   |some .bool=>true
   |_=>false)
 | .binOp op t x y _,.wT neg ls x' y'=>isEq op neg&&cU R x x'&&cU R y y'&& !R.P.eqGuardType R.P.depth t&&aM R.P t&&(match mr R.P 8 t with
   |some l=>Dd l ls
   |none=>false)
 | .binOp op _ x y _,.bst op' x' y'=>Nat.beq (M9 op) (M9 op')&&cU R x x'&&cU R y y'
 | .unOp op _ x,.un op' x'=>Nat.beq (RJ op) (RJ op')&&cU R x x'
 | .convert s t x,.conv k y=>(R.T.d s).ok&&(match R.T.d t with
   | .int k'=>rr k' k
   |_=>false)&&cU R x y
 | .convert s t x,.Rv y=>(R.T.d s).ok&&(match R.T.d t with
   | .str=>true
   |_=>false)&&cU R x y
 | .makeFunc (.func f) first aS,.QL g cs=>first.isEmpty&&Nat.beq (R.ft g) f&&nU R aS.toList cs
 | .fieldAddr s x f,.aD off y=>cU R x y&&(match R.T.d s with
   | .struct fs=>(match fs[f]? with
     |some (o,ft)=>Nat.beq o off&&(R.T.d ft).ok&& !Nat.beq (R.T.s ft) 0
     |none=>false)
   |_=>false)
 | .indexAddr t x j,.mL sz y i=>cU R x y&&cU R j i&&(match R.T.d t with
   | .slice e=>Nat.beq (R.T.s e) sz&&(R.T.d e).ok
   |_=>false)
 | .indexAddr t x j,.bt m sz y i=>cU R x y&&cU R j i&&(match R.T.d t with
   | .arr k e=>Nat.beq k m&&Nat.beq (R.T.s e) sz&&(R.T.d e).ok
   |_=>false)
 | .slice t x a b c,.uJ ty sz y l h m=>cU R x y&&AD R a l&&AD R b h&&AD R c m&&(match R.T.d t with
   | .slice e=>Nat.beq (R.ty ty) e&&Nat.beq (R.T.s e) sz&&(R.T.d e).ok
   |_=>false)
 | .slice t x a b c,.MS m sz y l h mx=>cU R x y&&a.isNone&&b.isNone&&c.isNone&&l.isNone&&h.isNone&&mx.isNone&&Nat.ble m 1000000&&(match R.T.d t with
   | .arr k e=>Nat.beq k m&&Nat.beq (R.T.s e) sz&&(R.T.d e).ok
   |_=>false)
 | .makeSlice t l c,.YE ty sz z l' c'=>cU R l l'&&cU R c c'&&(match R.T.d t with
   | .slice e=>Nat.beq (R.ty ty) e&&Nat.beq (R.T.s e) sz&&(R.T.d e).ok&&bQ (R.T.z e)&&ra (cells (R.T.z e)) z&&Nat.beq (cells (R.T.z e)).length sz&& !Nat.beq sz 0
   |_=>false)
 | .convert s t x,.s2b ty y=>cU R x y&&(match R.T.d s,R.T.d t with
   | .str,.slice e=>Nat.beq (R.ty ty) e&&(match R.T.d e with
     | .int .u8=>true
     |_=>false)
   |_,_=>false)
 | .slice t x a b c,.RA y l h=>cU R x y&&AD R a l&&AD R b h&&c.isNone&&(match R.T.d t with
   | .str=>true
   |_=>false)
 | .binOp op t x (.const c) _,.QK neg x'=>isEq op neg&&cU R x x'&&(match c,R.P.underlying t with
   | .pointer none,some (.pointer _)=>true
   |_,_=>false)
 | .binOp op t x (.const c) _,.Ar neg x'=>isEq op neg&&cU R x x'&&(match c,R.P.underlying t with
   | .slice none 0 0,some (.slice _)=>true
   |_,_=>false)
 | .binOp op t x (.const c) _,.I3 neg x'=>isEq op neg&&cU R x x'&&(match c,R.P.underlying t with
   | .map none,some (.map _ _)=>true
   |_,_=>false)
 | .sliceToArrayPointer t x,.s2a m sz y=>cU R x y&&(match R.T.d t with
   | .arr k e=>Nat.beq k m&&Nat.beq (R.T.s e) sz&&(R.T.d e).ok
   |_=>false)
 | .field t x f,.FJ ag off n y=>cU R x y&&(match R.T.d t with
   | .struct fs=>(match fs[f]? with
     |some (o,ft)=>Nat.beq o off&&(R.T.d ft).ok&&Nat.beq (R.T.s ft) n&&eE (R.T.d ft).ag ag
     |none=>false)
   |_=>false)
 | .slice t x a b c,.LC ty sz y=>cU R x y&&a.isNone&&Xq b&&Xq c&&(match R.T.d t with
   | .slice e=>Nat.beq (R.ty ty) e&&Nat.beq (R.T.s e) sz&&(R.T.d e).ok
   |_=>false)
 | .index t x j,.FK ag m sz y i=>cU R x y&&cU R j i&&(match R.T.d t with
   | .arr k e=>Nat.beq k m&&Nat.beq (R.T.s e) sz&&(R.T.d e).ok&&eE (R.T.d e).ag ag
   |_=>false)
 | .index t x j,.Rz y i=>cU R x y&&cU R j i&&(match R.T.d t with
   | .str=>true
   |_=>false)
 | .convert s t x,.b2s y=>cU R x y&&(match R.T.d s,R.T.d t with
   | .slice e,.str=>(match R.T.d e with
     | .int .u8=>true
     |_=>false)
   |_,_=>false)
 | .extract x i,.ext y j=>cU R x y&&Nat.beq i j
 | .makeMap _ none,.MV _ _ _ sz=> !Nat.beq sz 0
 | .lookup t x y ok,.ES ls ag _ z Ja x' y'=>eE ok Ja&&cU R x x'&&cU R y y'&&sC R t ls ag&&(match R.T.d t with
   | .map _ e=>(R.T.d e).ok&&AC (R.T.z e) z
   |_=>false)
 | .mapUpdate t x y v,.FL ls ag _ x' y' v'=>cU R x x'&&cU R y y'&&cU R v v'&&sC R t ls ag
 | .insert t x y v,.FL ls ag _ x' y' v'=>cU R x x'&&cU R y y'&&cU R v v'&&sC R t ls ag
 | .mapEntry t x y,.YF ls ag _ z x' y'=>cU R x x'&&cU R y y'&&sC R t ls ag&&(match R.T.d t with
   | .map _ e=>(R.T.d e).ok&&AC (R.T.z e) z
   |_=>false)
 | .lookup t x y false,.LD ls ag x' y'=>cU R x x'&&cU R y y'&&sC R t ls ag&&(match R.T.d t with
   | .map _ e=>(R.T.d e).ok&&AC (R.T.z e) (.int .i64 0)
   |_=>false)
 | .mapEntry t x y,.enc ls ag x' y'=>cU R x x'&&cU R y y'&&sC R t ls ag&&(match R.T.d t with
   | .map _ e=>(R.T.d e).ok&&AC (R.T.z e) (.int .i64 0)
   |_=>false)
 | .entryStore _ x st v,.YG _ x' st' v'=>cU R x x'&&cU R st st'&&cU R v v'
 | .range t x,.MW y=>cU R x y&&(match R.T.d t with
   | .map _ _=>true
   |_=>false)
 | .next x false,.QM y=>cU R x y
 | .entry x,.IL y=>cU R x y
 | .call c,i=>bH R c i
 |_,_=>false
end Go.AM
namespace Go.AM
open Go.RowKit
variable {P:Program} {T:TT} {X:cq} {o:Oper} {F:aY} {M:br}
theorem Df (hT:dj P T) {t f off e:Nat} {fs:List (Nat × Nat)} {x:Operand} {cs:List AV} {K:AV→Prop} (ht:T.d t= .struct fs) (RK:fs[f]? =some (off,e)) (hok:(T.d e).ok=true) (ho:o.op= .field t x f) (hx:ev F x= .agg cs)
  (h:apart (T.d e).ag (T.s e) off cs K):∃av,bN P X o F M av [] []∧K av:=by
 have hx':x ∈ o.op.operands.toList:=by simp[ho,Op.operands]
 obtain⟨D,it,z,hD,hf,_⟩:=hT t (by rw[ht]; simp)
 rw[ht]at hf
 obtain⟨gs,rfl,MA⟩:=jv rfl hf
 obtain⟨De,ie,_,EQ,Lz,hie,mh,_⟩:=hT e (TD.dO hok)
 obtain⟨av,h1,h2,h3,h4⟩:=fy h
 obtain⟨fd,hfd,hfo,hft⟩:∃fd,gs[f]? =some fd∧fd.offset=off∧fd.type=e:=by
  rw[MA,List.getElem?_map]at RK
  cases hg:gs.toList[f]? with
  |none=>simp[hg]at RK
  |some fd=>
   simp only[hg,Option.map_some,Option.some.injEq,Prod.mk.injEq]at RK
   exact⟨fd,by simpa using hg,RK.1,RK.2⟩
 refine⟨av,aH fun M' N ρ I ac w hW hU hN=> ?_,h4⟩
 have r1:=ax hU x hx'
 rw[hx]at r1
 generalize hv:ac.eval x=v at r1
 have hle:off+T.s e≤cs.length∨T.s e=0:=by
  simp only[List.length_take,List.length_drop]at h1; omega
 cases r1 with
 |agg _ vs hvl EM MO=>
  have FA:∃u,(part e vs.toArray off).run P w= .ok u w∧aN ρ (lens M') I w N av u:=by
   unfold part
   simp only[Sem.run_bind,nJ EQ Lz,Result.andThen_ok]
   cases jm:(T.d e).ag with
   |true=>
    simp only[if_pos,Sem.run_bind,bF hie,Result.andThen_ok,Sem.run_pure]
    refine⟨_,rfl,?_⟩
    rw[h2,jm,if_pos rfl,mh]
    have hex:vs.toArray.extract off (off+T.s e)=((vs.drop off).take (T.s e)).toArray:=by
     apply Array.ext'
     simp
    rw[hex]
    refine .agg _ _ (by rw[h1]; simp only[List.length_take,List.length_drop]; omega) (fun u hu=>EM u (List.mem_of_mem_drop (List.mem_of_mem_take hu))) (fun i hi=> ?_)
    rw[h1]at hi
    rw[c9 _ _ _ _ _ hi,c9 _ _ _ _ _ hi]
    exact MO (off+i) (by omega)
   |false=>
    have h5:=h3 jm
    have hlt:off<cs.length:=by omega
    have wP:off<vs.length:=by omega
    simp only[Bool.false_eq_true,if_false]
    have:vs.toArray[off]? =some vs[off]:=by simp[wP]
    rw[this]
    refine⟨_,Sem.run_pure _ _ _,?_⟩
    rw[h2,jm,h5]
    have e1:((cs.drop off).take 1).headD .bad=cs.getD off .bad:=by
     rw[List.drop_eq_getElem_cons hlt,List.take_succ_cons]
     simp[List.getD_eq_getElem?_getD,hlt]
    simp only[Bool.false_eq_true,if_false,e1]
    have:=MO off hlt
    rwa[show vs.getD off default=vs[off] by simp[List.getD_eq_getElem?_getD,wP]]at this
  obtain⟨u,hu,hr⟩:=FA
  refine⟨u,?_,hr⟩
  simp only[execOp,ho,hv,Instr.field,asAgg,Sem.run_bind,Sem.run_pure,Result.andThen_ok,run_underlying hD,hfd,hfo,hft,hu]
theorem sD {a b:List AV} {sz j:Nat} (h:a.length=sz):(a++b).getD j .bad=if j<sz then a.getD j .bad else b.getD (j - sz) .bad:=by
 subst h
 by_cases hlt:j<a.length
 ·rw[if_pos hlt]; simp[List.getD_eq_getElem?_getD,List.getElem?_append_left hlt]
 ·rw[if_neg hlt]; simp[List.getD_eq_getElem?_getD,List.getElem?_append_right (Nat.le_of_not_lt hlt)]
theorem F4 (hT:dj P T) {t m e sz:Nat} {x:Operand} {es:List (List AV)} (ht:T.d t= .arr m e) (ho:o.op= .sliceToArrayPointer t x) (hx:ev F x= .aJ sz es) (hm:m≤es.length) (h0:0<m):
  bN P X o F M (.bi (es.take m).flatten 0) [] []:=by
 have hx':x ∈ o.op.operands.toList:=by simp[ho,Op.operands]
 obtain⟨D,it,z,hD,hf,_⟩:=hT t (by rw[ht]; simp)
 obtain rfl:=fW ht hf
 refine aH fun M' N ρ I ac w hW hU hN=> ?_
 have r1:=ax hU x hx'
 rw[hx]at r1
 generalize hv:ac.eval x=v at r1
 cases r1 with
 |cO=>simp at hm; omega
 |aJ _ _ b q cap c hl hc hI hs h1 hcell hr=>
  refine⟨.pointer (some ⟨b,q,none⟩),?_,?_⟩
  ·simp only[execOp,ho,hv,Instr.arrayAt,Sem.run_bind,Sem.run_pure,Result.andThen_ok,run_underlying hD,if_neg (Nat.not_lt.2 hm)]
  ·have hfl:(es.take m).flatten.length=m*sz:=by
    rw[List.length_flatten,show (es.take m).map List.length=List.replicate m sz from ?_]
    ·simp
    ·apply List.ext_getElem
     ·simp; omega
     ·intro i hi hi'
      simp at hi ⊢
      exact hs _ (List.getElem_mem _)
   have Dg:∀j,j<m*sz→j / sz<es.length∧j % sz<sz∧(es.take m).flatten.getD j .bad=(es.getD (j / sz) []).getD (j % sz) .bad:=by
    intro j hj
    have hsz:0<sz:=by
     rcases Nat.eq_zero_or_pos sz with h|h
     ·subst h; simp at hj
     ·exact h
    have hd:j / sz<m:=Nat.div_lt_of_lt_mul (by rw[Nat.mul_comm]; exact hj)
    refine⟨by omega,Nat.mod_lt _ hsz,?_⟩
    have key:∀ (l:List (List AV)) (j:Nat),(∀e ∈ l,e.length=sz)→l.flatten.getD j .bad=(l.getD (j / sz) []).getD (j % sz) .bad:=by
     intro l
     induction l with
     |nil=>intro j _; simp
     |cons a r ih=>
      intro j hl
      have ha:=hl a List.mem_cons_self
      rw[List.flatten_cons,sD ha]
      by_cases hlt:j<sz
      ·rw[if_pos hlt,Nat.div_eq_of_lt hlt,Nat.mod_eq_of_lt hlt]; rfl
      ·rw[if_neg hlt,ih (j - sz) (fun e he=>hl e (List.mem_cons_of_mem _ he))]
       have e1:j / sz=(j - sz) / sz+1:=by
        rw[Nat.div_eq_sub_div hsz (by omega)]
       have e2:j % sz=(j - sz) % sz:=by
        rw[Nat.mod_eq_sub_mod (by omega)]
       rw[e1,e2]; simp
    rw[key _ _ (fun e he=>hs e (List.mem_of_mem_take he))]
    congr 1
    simp[List.getD_eq_getElem?_getD,List.getElem?_take,hd]
   refine .bi _ 0 b q (fun j=>c (j / sz) (j % sz)) hI (fun j hj=> ?_) (fun j hj=> ?_) (fun j hj=> ?_)
   ·rw[hfl]at hj
    obtain⟨a1,a2,_⟩:=Dg j hj
    exact h1 _ _ a1 a2
   ·rw[hfl]at hj
    obtain⟨a1,a2,_⟩:=Dg j hj
    have:=hcell _ _ a1 a2
    have e:q+j / sz*sz+j % sz=q+j:=by rw[Nat.add_assoc,Nat.div_add_mod' j sz]
    rwa[e]at this
   ·rw[hfl]at hj
    obtain⟨a1,a2,a3⟩:=Dg j hj
    rw[a3]; exact hr _ _ a1 a2
theorem uK {neg:Bool} {t k e:TypeId} {y:Operand} {x:Operand} {q:Option Nat} {w:World} (hu:P.underlying t=some (.map k e)):
  (do eqGuard (if neg then .neq else .eql) t x y (.map q) (.map none); binOp (if neg then .neq else .eql) t (.map q) (.map none):Sem Value).run P w= .ok (.bool (if neg then !q.isNone else q.isNone)) w:=by
 have e1:=run_equal_map_nil (P:=P) (w:=w) t k e q hu
 cases neg<;>simp[Sem.run_bind,eqGuard,binOp,e1]
theorem oO {neg:Bool} {t k e yt:TypeId} {x:Operand} {b:Bool} {Ml:Mem} (hM:M=ab Ml) (ho:o.op= .binOp (if neg then .neq else .eql) t x (.const (.map none)) yt) (hu:P.underlying t=some (.map k e))
  (hx:(ev F x= .cb∧b=true)∨(∃n bl,ev F x= .omap n∧ab Ml n=some bl∧bl.ln=0)∧b=false):bN P X o F M (.bool (if neg then !b else b)) [] []:=by
 have hx':x ∈ o.op.operands.toList:=by simp[ho,Op.operands]
 refine aH fun M' N ρ I ac w hW hU hN=> ?_
 have r1:=ax hU x hx'
 have key:∃q:Option Nat,ac.eval x= .map q∧q.isNone=b:=by
  rcases hx with⟨h,rfl⟩|⟨⟨n,bl,h,hb,hl⟩,rfl⟩
  ·rw[h]at r1
   generalize ac.eval x=v at r1
   cases r1
   exact⟨none,rfl,rfl⟩
  ·rw[h]at r1
   obtain⟨sl,eD,eT⟩:=bo (F:=F) x hx' (n:=n) (by rw[h]; simp[AV.names])
   have cC:M' n=some bl:=(hN sl eD n eT).trans (by rw[hM]; exact hb)
   have dQ:lens M' n=some (0,bl.sz):=by rw[aC]; exact⟨bl,cC,hl,rfl⟩
   generalize ac.eval x=v at r1
   cases r1 with
   |omap _ _ hn h1 h=>
    obtain⟨g,cap,_,hv⟩:=h _ dQ
    exact⟨_,hv,rfl⟩
 obtain⟨q,hv,hq⟩:=key
 refine⟨_,?_,.bool _⟩
 have e1:=uK (P:=P) (neg:=neg) (y:= .const (.map none)) (x:=x) (q:=q) (w:=w) hu
 rw[hq]at e1
 have hc:ac.eval (.const (.map none))= .map none:=rfl
 simp only[execOp,ho,hv,hc]
 simp only[Sem.run_bind]at e1 ⊢
 rw[e1]
 simp
end Go.AM
