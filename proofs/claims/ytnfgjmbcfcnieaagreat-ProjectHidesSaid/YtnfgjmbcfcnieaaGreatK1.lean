/- Of the reckoning machine, and what is proved with it: texts joined by program. -/
import Derived.Test.YtnfgjmbcfcnieaaGreatK0
import Derived.RangeFuncRecord
import Derived.Laws.StructEq
import Derived.ChangeKeysEq
import Derived.Laws.Cover3
import Derived.Laws.Pointers
import Derived.Laws.BytesString
import Derived.Laws.MakeOwn
import Derived.Lib.ConvBytes
import Derived.WideKeyRuns
set_option linter.all false
namespace Go.AM
open Go.RowKit
def mR (w:World) (l:Nat):Prop:=∀off,w.cell? ⟨l,off,none⟩=none
theorem oW {w:World} {l:Nat} {r:Loop} (h:w.heap[l]? =some (.loop r)):mR w l:=fun off=>by simp[World.cell?,h]
theorem q9 {w:World} {l:Nat} {r:Option (List Deferred)} (h:w.heap[l]? =some (.deferred r)):mR w l:=fun off=>by simp[World.cell?,h]
theorem dP {w:World} {l k:Nat} {o:Obj} (h:k≠l):(w.putObj l o).heap[k]? =w.heap[k]? :=World.putObj_heap_other (by omega)
theorem putObj_size (w:World) (l:Nat) (o:Obj):(w.putObj l o).heap.size=w.heap.size:=by simp[World.putObj]
theorem vJ {w:World} {l:Nat} {o:Obj} (hc:mR w l) {b off:Nat} {v:Value} (h:w.cell? ⟨b,off,none⟩=some v):(w.putObj l o).cell? ⟨b,off,none⟩=some v:=by
 have hb:b≠l:=fun e=>by subst e; rw[hc]at h; simp at h
 exact (cell_of_heap (dP hb)).trans h
theorem aL.DN {ρ:Place} {L:aZ} {I:Nat->Prop} {w:World} {l:Nat} (o:Obj) (hc:mR w l) {N:Nat->Prop} {a:AV} {v:Value} (h:aL ρ L I w N a v):aL ρ L I (w.putObj l o) N a v:=by
 induction h with
 |int k n=>exact .int k n
 |bool b=>exact .bool b
 |str s=>exact .str s
 |bP=>exact .bP
 |ai=>exact .ai
 |ap=>exact .ap
 |dY=>exact .dY
 |ce=>exact .ce
 |nJ n r=>exact .nJ n r
 |loc n len i off v hn h1 h=>exact .loc n len i off v hn h1 h
 |bc n len v hn h1 h=>exact .bc n len v hn h1 h
 |ee n len i off bX v hn h1 h=>exact .ee n len i off bX v hn h1 h
 |omap n v hn h1 h=>exact .omap n v hn h1 h
 |cP sz a cap hc=>exact .cP sz a cap hc
 |aH sz es b o cap c hl lZ hI hs h1 hcell hr ih=>exact .aH sz es b o cap c hl lZ hI hs h1 (fun i j hi hj=>vJ hc (hcell i j hi hj)) ih
 |bh e off b o c hI h1 hcell hr ih=>exact .bh e off b o c hI h1 (fun j hj=>vJ hc (hcell j hj)) ih
 |bR f aS vs hl hr ih=>exact .bR f aS vs hl ih
 |qI f aS vs hl hr ih=>exact .qI f aS vs hl ih
 |agg cs vs hl h1 hr ih=>exact .agg cs vs hl h1 ih
 |aN cs vs hl hr ih=>exact .aN cs vs hl ih
 |bad v=>exact .bad v
section
variable {C:cq} {ρ:Place} {I:Nat->Prop} {M:bv} {N:Nat->Prop} {w:World} {l:Nat}
theorem Gt (o:Obj) (hc:mR w l) (hI:I l) {Yk:World} (h0:Yk.heap.size=C.w0.heap.size) {n:Nat} {b:bg} (B:sr C ρ (lens M) I w N n b):sr {C with w0:=Yk} ρ (lens M) I (w.putObj l o) N n b:=by
 refine⟨B.lt,B.even,B.eD,fun g cap hg=> ?_,fun k ka va r sn la hb=> ?_⟩
 rotate_left
 ·obtain⟨g,cap,hg,i1,i2,i3⟩:=B.iter k ka va r sn la hb
  obtain⟨_,_,_,_,kn,_⟩:=B.real g cap hg
  exact⟨g,cap,hg,by show Yk.heap.size<=r; omega,i2,i3.at (dP fun e=>kn (e ▸ hI)) (dP fun e=>i2 (e ▸ hI))⟩
 obtain⟨cs,fr,hc1,DA,kn,uV,Ck,AL,DB,DC⟩:=B.real g cap hg
 have hne:g≠l:=fun e=>kn (e ▸ hI)
 refine⟨cs,fr,hc1.at (dP hne),DA,kn,?_,Ck,AL,DB,fun i j hi hj=> ?_⟩
 ·rcases uV with h|h
  ·exact .inl h
  ·exact .inr (by show Yk.heap.size<=g; omega)
 ·obtain⟨u,hu,pU,hr⟩:=DC i j hi hj
  exact⟨u,hu,pU,hr.DN o hc⟩
theorem c9.DN (h:c9 C ρ I M N w) (o:Obj) (hc:mR w l) (hI:I l) (hl:C.w0.heap.size<=l):c9 C ρ I M N (w.putObj l o):=by
 refine⟨fun n b hb=>Gt o hc hI rfl (h.aT n b hb),h.inj,h.pW,fun g hg=>by rw[putObj_size]; exact h.lt g hg,h.old,?_,h.pn,h.FY,h.par⟩
 exact⟨h.keeps.os,h.keeps.tape,h.keeps.output,h.keeps.drawn,by rw[putObj_size]; exact h.keeps.size,fun g hg hf=>(dP (by omega)).trans (h.keeps.block g hg hf)⟩
theorem c9.NM (h:c9 C ρ I M N w) (hI:C.I0 l) {o:Obj} (hl:C.w0.heap[l]? =some o):I l/\w.heap[l]? =some o:=
 ⟨h.pW l hI,(h.keeps.block l (Array.getElem?_eq_some_iff.1 hl).1 (fun hf=>(h.FY l hf).2 hI)).trans hl⟩
end
end Go.AM
namespace Go.AM
open Go.RowKit
variable {P:Program} {T:TT} {X:cq}
theorem yP {S:St} {a:Act} {w w1:World} {ρ:Place} {I:Nat->Prop} (hF:kr ρ I w X S a) {av:AV} {ws:List (Nat × bg)} {v:Value} {aY:Nat} {nw:List Nat} {d:Option Nat}
  (A5:∀p ∈ ws,p.1<aY) (hle:S.nx<=aY) (hd:∀x,d=some x->x<X.size) (hp:iv X (ab S.M) (· <S.nx) ρ I w av ws v w1):
  ∃ρ1 I1,(∀g,I g->I1 g)/\(∀g,I g->w1.heap[g]? =w.heap[g]?)/\c9 X ρ1 I1 (ab (cQ S.M ws)) (· <aY) w1/\kr ρ1 I1 w1 X ⟨ir S.F d av,cQ S.M ws,aY⟩ (a.put d v):=by
 obtain⟨ρ1,I1,E,W,R⟩:=hp
 have hN:∀m,fM (· <S.nx) ws m->m<aY:=by
  rintro m (h|⟨b,h⟩)
  ·have:m<S.nx:=h
   omega
  ·exact A5 _ h
 have hM:ab (cQ S.M ws)=dj (ab S.M) ws:=ja ws S.M
 refine⟨ρ1,I1,E.pW,E.cell,?_,?_,?_,?_⟩
 ·show c9 X ρ1 I1 (ab (cQ S.M ws)) (· <aY) w1
  rw[hM]
  refine⟨fun n b hb=> ?_,W.inj,W.pW,W.lt,W.old,W.keeps,fun n hn=>hN n (W.pn n hn),W.FY,W.par⟩
  have B:=W.aT n b hb
  refine⟨hN n B.lt,B.even,B.eD,fun g cap hρ=> ?_,B.iter⟩
  obtain⟨cs,fr,hc1,DA,kn,uV,Ck,AL,DB,DC⟩:=B.real g cap hρ
  refine⟨cs,fr,hc1,DA,kn,uV,Ck,AL,DB,fun i j hi hj=> ?_⟩
  obtain⟨u,hu,pU,hr⟩:=DC i j hi hj
  exact⟨u,hu,pU,hr.wide hN⟩
 ·intro i
  show aL ρ1 (lens (ab (cQ S.M ws))) I1 w1 (· <aY) (look (ir S.F d av) i) ((a.put d v).tmps.getD i undef)
  rw[hM]
  rcases yI (a:=a) (d:=d) (v:=v) (F:=S.F) (av:=av) (i:=i) hF.size hd with⟨h1,h2⟩|⟨h1,h2⟩
  ·rw[h1,h2]; exact R.wide hN
  ·rw[h1,h2]; exact ((hF.rep i).uO E (fun _ h=>h)).wide (fun m h=>by have:m<S.nx:=h; show m<aY; omega)
 ·cases d<;>exact hF.defers.uO E
 ·cases d with
  |none=>exact hF.size
  |some x=>simpa[Act.put]using hF.size
theorem mS {S:St} {a:Act} {w w1:World} {ρ:Place} {I:Nat->Prop} (hF:kr ρ I w X S a) {av:AV} {ws:List (Nat × bg)} {v:Value} {aY:Nat} {nw:List Nat} {d:Option Nat}
  (A5:∀p ∈ ws,p.1<aY) (hle:S.nx<=aY) (hd:∀x,d=some x->x<X.size) (hp:iv X (ab S.M) (· <S.nx) ρ I w av ws v w1):jB X ⟨ir S.F d av,cQ S.M ws,aY⟩ (a.put d v) w1:=by
 obtain⟨ρ1,I1,_,_,h1,h2⟩:=yP (nw:=nw) hF A5 hle hd hp
 exact⟨ρ1,I1,h1,h2⟩
theorem Gu {a:Act} {F:aW} {b:Bool} {s:Nat} (h:a.tmps.getD s undef= .bool b) (i:Nat):look ((s,AV.bool b)::F) i=AV.bool b/\a.tmps.getD i undef= .bool b\/ look ((s,AV.bool b)::F) i=look F i:=by
 by_cases e:i=s
 ·subst e; exact .inl ⟨by simp[look],h⟩
 ·have hb:(i==s)=false:=by simpa using e
  exact .inr (by simp[look,hb])
theorem kz {S:St} {a:Act} {w:World} {s:Nat} {b:Bool} (h:jB X S a w) (hv:a.tmps.getD s undef= .bool b):jB X ⟨(s,.bool b)::S.F,S.M,S.nx⟩ a w:=by
 obtain⟨ρ,I,W,F⟩:=h
 refine⟨ρ,I,W,fun i=> ?_,F.defers,F.size⟩
 rcases Gu (F:=S.F) hv i with⟨h1,h2⟩|h1
 ·rw[h1,h2]; exact .bool _
 ·rw[h1]; exact F.rep i
theorem iJ.steps {b:Frame} {R:St->Prop} {ks ra:List It} {a a':Act} {w w':World} (hs:∀cs,Steps P (lone (b.atR a (ks.map It.item)) cs w) (lone (b.atR a' (ra.map It.item)) cs w')) (hsub:∀c post k',(It.eW c post::k') <:+ ra->(It.eW c post::k') <:+ ks)
  (h:iJ P X b R ra a' w'):iJ P X b R ks a w:=by
 intro cs
 obtain⟨a2,w2,S2,hS,h1|h1⟩:=h cs
 ·obtain⟨todo,hl,h2,h3⟩:=h1
  exact⟨a2,w2,S2,hS,.inl ⟨todo,hl,(hs cs).trans h2,h3⟩⟩
 ·obtain⟨c,post,k',h2,h3,h4⟩:=h1
  exact⟨a2,w2,S2,hS,.inr ⟨c,post,k',hsub _ _ _ h2,(hs cs).trans h3,h4⟩⟩
section
variable {b:Frame} {a:Act} {w:World} {k:List Item} {cs:List Frame}
theorem step_scope {c:Code}:step P (lone (b.atR a (.code (.scope c)::k)) cs w)= .next (lone (b.atR a (.code c:: .inScope c::k)) cs w):=
 step_lone_go (by simp[stepG,stepG.exec,Frame.atR])
theorem step_inScope {c:Code}:step P (lone (b.atR a (.inScope c::k)) cs w)= .next (lone (b.atR a k) cs w):=
 step_lone_go (by simp[stepG,stepG.exec,Frame.atR])
end
theorem sP {b:Frame} {a:Act} {w:World} {cs:List Frame} {todo:List Item} (hb:b.roundOf=none) (h:Cm b.roundOf.isSome todo):Steps P (lone (b.atR a todo) cs w) (lone {b.atR a todo with mode:= .returning} cs w):=by
 rcases h with rfl|⟨_,k,rfl⟩
 ·exact .one (stepR_end hb)
 ·exact .one (stepR_ret hb)
theorem oX {b:Frame} {a:Act} {w:World} {cs:List Frame} {todo:List Item} {ρ:Place} {I:Nat->Prop} {M:bv} {N:Nat->Prop} (W:c9 X ρ I M N w) (hd:l8 I w X a.defers):
  ∃w1,Steps P (lone {b.atR a todo with mode:= .returning} cs w) (lone {b.atR {a with defers:=[]} todo with mode:= .returning} cs w1)/\c9 X ρ I M N w1/\
   ∀N' av v,aL ρ (lens M) I w N' av v->aL ρ (lens M) I w1 N' av v:=by
 obtain⟨Ds,h1,h2,h3⟩:=hd
 obtain⟨tm,ds⟩:=a
 simp only at h1
 subst h1
 induction Ds generalizing w with
 |nil=>exact⟨w,.refl _ _,W,fun _ _ _ h=>h⟩
 |cons D Ds ih=>
  obtain⟨k1,k2,k3⟩:=h3 D List.mem_cons_self
  rw[List.nodup_cons]at h2
  have W':=W.DN (.deferred none) (q9 k3) k2 k1
  obtain⟨w1,s1,s2,s3⟩:=ih W' h2.2 (fun D' im=>by
   obtain⟨q1,q2,q3⟩:=h3 D' (List.mem_cons_of_mem _ im)
   exact⟨q1,q2,(dP (fun e=>h2.1 (by rw[<-e]; exact im))).trans q3⟩)
  refine⟨w1,.head (step_lone_go ?_) s1,s2,fun N' av v h=>s3 _ _ _ (h.DN _ (q9 k3))⟩
  simp[stepG,unwind,Frame.atR,run_takeDeferred k3]
theorem fe {c:Mw} {post:St->Prop} {k' k:List It} {x y:It} (hx:∀c p,x≠ .eW c p) (h:(It.eW c post::k') <:+ x::k):(It.eW c post::k') <:+ y::k:=by
 rcases List.suffix_cons_iff.1 h with h|h
 ·exact (hx c post (List.cons.inj h).1.symm).elim
 ·exact h.trans (List.suffix_cons _ _)
theorem hQ {c:Mw} {post:St->Prop} {k' k:List It} {y:It} (h:(It.eW c post::k') <:+ k):(It.eW c post::k') <:+ y::k:=h.trans (List.suffix_cons _ _)
theorem er {id:Nat}:∀ {k k':List It},MA id k=some k'->k' <:+ k/\exitTo id (k.map It.item)=some (k'.map It.item)
 |[],k',h=>by simp[MA]at h
 | .aT id'::k,k',h=>by
   simp only[MA]at h
   by_cases DO:id'=id
   ·subst DO
    simp at h
    subst h
    exact⟨List.suffix_cons _ _,by simp[It.item,exitTo]⟩
   ·have hb:(id'==id)=false:=by simpa using DO
    rw[hb]at h
    obtain⟨h1,h2⟩:=er (k:=k) h
    exact⟨h1.trans (List.suffix_cons _ _),by simp[It.item,exitTo,hb,h2]⟩
 | .code c::k,k',h=>by
   obtain⟨h1,h2⟩:=er (k:=k) h
   exact⟨h1.trans (List.suffix_cons _ _),by simp[It.item,exitTo,h2]⟩
 | .inl c::k,k',h=>by
   obtain⟨h1,h2⟩:=er (k:=k) h
   exact⟨h1.trans (List.suffix_cons _ _),by simp[It.item,exitTo,h2]⟩
 | .eW c p::k,k',h=>by
   obtain⟨h1,h2⟩:=er (k:=k) h
   exact⟨h1.trans (List.suffix_cons _ _),by cases c<;>simp[It.item,Mw.item,exitTo,h2]⟩
 | .mL c::k,k',h=>by
   obtain⟨h1,h2⟩:=er (k:=k) h
   exact⟨h1.trans (List.suffix_cons _ _),by simp[It.item,exitTo,h2]⟩
 | .ops all i r gd::k,k',h=>by
   obtain⟨h1,h2⟩:=er (k:=k) h
   exact⟨h1.trans (List.suffix_cons _ _),by simp[It.item,exitTo,h2]⟩
theorem NN {size id:Nat} {nr:Bool} {k k':List It} (h:MA id k=some k') (hk:∀x ∈ k,DG size nr x):∀x ∈ k',DG size nr x:=fun x hx=>hk x ((er h).1.subset hx)
theorem Gv {c0:Code} {c:Mw} {post:St->Prop} {k' k:List It} (h:(It.eW c post::k') <:+ .code c0:: .inl c0::k):(It.eW c post::k') <:+ .inl c0::k:=by
 rcases List.suffix_cons_iff.1 h with h|h
 ·simp at h
 ·exact h
theorem DP {c0 c1:Code} {c:Mw} {post:St->Prop} {k' k:List It} (h:(It.eW c post::k') <:+ .code c0:: .inl c0::k):(It.eW c post::k') <:+ .code c1::k:=by
 rcases List.suffix_cons_iff.1 h with h|h
 ·simp at h
 ·exact fe (by simp) h
end Go.AM
namespace Go.AM
open Go.RowKit
variable {P:Program} {T:TT} {X:cq}
def cZ:Place:=fun _=>none
def gp:aZ:=fun _=>none
structure Sq (z:Bool) (w w':World):Prop extends Below w.heap.size w w' where
 drawn:(zd z w).drawn<=w'.drawn
abbrev Blw:=Sq false
def gq (z:Bool) (P:Program) (f:Nat) (args:List AV) (av:AV):Prop:=
 ∀I w vs,(∀g,I g->g<w.heap.size)->dw cZ gp I w cJ args vs->
  Calls P f vs.toArray w fun e w1=>∃v I1,e= .returned v/\Sq z w w1/\(∀g,I g->I1 g)/\(∀g,I1 g->g<w1.heap.size)/\(∀g,g<w.heap.size->I1 g->I g)/\aL cZ gp I1 w1 cJ av v
abbrev A6:=gq false
mutual
theorem gu {N:Nat->Prop}:∀ (a:AV),(∀m ∈ a.names,N m)->a.under N
 | .loc n len i off,h=>by simpa[AV.under]using h n (by simp[AV.names])
 | .bc n len,h=>by simpa[AV.under]using h n (by simp[AV.names])
 | .ee n len i off bX,h=>by simpa[AV.under]using h n (by simp[AV.names])
 | .omap n,h=>by simpa[AV.under]using h n (by simp[AV.names])
 | .bR f cs,h=>by simpa[AV.under]using dU cs (fun m hm=>h m (by simpa[AV.names]using hm))
 | .agg cs,h=>by simpa[AV.under]using dU cs (fun m hm=>h m (by simpa[AV.names]using hm))
 | .aN cs,h=>by simpa[AV.under]using dU cs (fun m hm=>h m (by simpa[AV.names]using hm))
 | .int ..,_=>by simp[AV.under]
 | .bool ..,_=>by simp[AV.under]
 | .str ..,_=>by simp[AV.under]
 | .bP,_=>by simp[AV.under]
 | .ai,_=>by simp[AV.under]
 | .ap,_=>by simp[AV.under]
 | .dY,_=>by simp[AV.under]
 | .ce,_=>by simp[AV.under]
 | .nJ ..,_=>by simp[AV.under]
 | .aH ..,_=>by simp[AV.under]
 | .bh ..,_=>by simp[AV.under]
 | .bad,_=>by simp[AV.under]
theorem dU {N:Nat->Prop}:∀ (cs:List AV),(∀m ∈ AV.az cs,N m)->AV.gf N cs
 |[],_=>by simp[AV.gf]
 |c::cs,h=>by
  simp only[AV.gf]
  exact⟨gu c (fun m hm=>h m (by simp[AV.az,hm])),dU cs (fun m hm=>h m (by simp[AV.az,hm]))⟩
end
theorem aL.alone {ρ:Place} {L:aZ} {I:Nat->Prop} {w:World} {N:Nat->Prop} {a:AV} {v:Value} (h:aL ρ L I w N a v) (hn:a.names=[]) (ρ':Place) (L':aZ):aL ρ' L' I w cJ a v:=
 (h.low (N':=cJ) (gu a (fun m hm=>by rw[hn]at hm; simp at hm))).bare (fun _ h=>h) ρ' L'
theorem dQ {cs:List AV} (h:AV.az cs=[]) (j:Nat):(cs.getD j .bad).names=[]:=by
 induction cs generalizing j with
 |nil=>simp[AV.names]
 |cons c cs ih=>
  simp only[AV.az,List.append_eq_nil_iff]at h
  cases j with
  |zero=>simpa using h.1
  |succ j=>simpa using ih h.2 j
theorem dw.alone {ρ:Place} {L:aZ} {I:Nat->Prop} {w:World} {N:Nat->Prop} {as:List AV} {vs:List Value} (h:dw ρ L I w N as vs) (hn:AV.az as=[]) (ρ':Place) (L':aZ):dw ρ' L' I w cJ as vs:=
 ⟨h.1,fun j hj=>(h.2 j hj).alone (dQ hn j) ρ' L'⟩
theorem gq.Sr {z:Bool} {f:Nat} {args:List AV} {av:AV} (h:gq z P f args av) (hz:w6 z X) (hn:AV.az args=[]) (M:bv):qJ P X f args M av [] []:=by
 refine⟨fun p hp=>by simp at hp,fun M' N ρ I w vs hW _ _ hR=> ?_⟩
 refine (h I w vs hW.lt (hR.alone hn _ _)).mono ?_
 rintro e w1 ⟨v,I1,rfl,hb,h1,h2,h3,hr⟩
 obtain⟨E,W⟩:=hW.ext' (w':=w1) (I':=I1) hb.os hb.tape hb.output hb.size hb.block h1 h2 h3 (hz.le hW.keeps.drawn hb.drawn)
 refine⟨v,rfl,ρ,I1,E,by rw[p9]; exact W,?_⟩
 exact ((hr.bare (fun _ h=>h) ρ (lens M')).wide (fun _ h=>h.elim))
def cx (P:Program) (f:Nat):Prop:=∃fn,P.funcs[f]? =some fn/\(fn.name== "runtime.NumGoroutine")=false/\fn.body.isNone=false
def oY (T:TT):List ResultVar->aW->Mem->(List AV->Prop)->Prop
 |[],_,_,K=>K []
 | .tmp t::r,F,M,K=>oY T r F M fun vs=>K (look F t::vs)
 | .cell a t::r,F,M,K=>jE (T.d t).ok (nK T t (look F a) M fun v=>oY T r F M fun vs=>K (v::vs))
def one (vs:List AV):AV:=match vs with
 |[v]=>v
 |vs=> .aN vs
section
variable {I:Nat->Prop} {w:World} {ρ:Place} {M:Mem} {N:Nat->Prop}
def r6 (tmps:Array Value):ResultVar->Sem Value
 | .tmp t=>pure (tmps.getD t undef)
 | .cell a t=>do loadVar t (<-asAddr (tmps.getD a undef))
theorem mg (hT:dp P T) (hW:c9 X ρ I (ab M) N w) {F:aW} {tmps:Array Value} (hF:∀i,aL ρ (lens (ab M)) I w N (look F i) (tmps.getD i undef)):∀ {rs:List ResultVar} {K:List AV->Prop},oY T rs F M K->
  ∃gC vs,K gC/\dw ρ (lens (ab M)) I w N gC vs/\(rs.mapM (r6 tmps)).run P w= .ok vs w/\vs.length=rs.length
 |[],K,h=>⟨[],[],h,⟨rfl,fun j hj=>by simp at hj⟩,rfl,rfl⟩
 | .tmp t::r,K,h=>by
   obtain⟨gC,vs,h1,h2,h3,h4⟩:=mg hT hW hF (rs:=r) h
   refine⟨_,tmps.getD t undef::vs,h1,⟨by simp[h2.1],fun j hj=> ?_⟩,?_,by simp[h4]⟩
   ·cases j with
    |zero=>simpa using hF t
    |succ j=>simpa using h2.2 j (by simpa using hj)
   ·simp only[List.mapM_cons,Sem.run_bind,Sem.run_pure,Result.andThen_ok,r6,h3]
 | .cell a t::r,K,h=>by
   simp only[oY]at h
   obtain⟨hok,h⟩:=ax h
   have Ss:∃av,(∃v ad,tmps.getD a undef= .pointer (some ad)/\(loadVar t ad).run P w= .ok v w/\aL ρ (lens (ab M)) I w N av v)/\oY T r F M fun vs=>K (av::vs):=by
    cases hl:look F a with
    |loc n len i off=>
     rw[hl]at h
     simp only[nK,alive]at h
     cases hb:ab M n with
     |none=>rw[hb]at h; exact h.elim
     |some b=>
      rw[hb]at h
      obtain⟨hc1,hmp,h2⟩:=ax h
      obtain⟨av,ha1,ha2,rE,hk⟩:=fE h2
      have hlen:b.ln=len:=by simpa using hc1
      have dV:lens (ab M) n=some (len,b.sz):=by rw[aA]; exact⟨b,hb,hlen,rfl⟩
      have hr:=hF a
      rw[hl]at hr
      obtain⟨hn,g,cap,hρ,hv⟩:=gj hr dV
      obtain⟨f,hf⟩:=(hW.aT n b hb).row hmp hρ i
      obtain⟨v,FJ,NB⟩:=eH (K:=fun _=>True) hT hok (off:=off) f hf ha1 ha2 rE
      exact⟨av,⟨v,_,hv,FJ,NB⟩,hk⟩
    |bh e off=>
     rw[hl]at h
     simp only[nK]at h
     obtain⟨av,ha1,ha2,rE,hk⟩:=fE h
     have hr:=hF a
     rw[hl]at hr
     generalize Yj:tmps.getD a undef=vv at hr
     cases hr with
     |bh _ _ b q c hI h1 hcell hr=>
      obtain⟨v,FJ,NB⟩:=eH (K:=fun _=>True) (N:=N) hT hok (off:=off) c (fun j hj=>⟨hcell j hj,h1 j hj,(hr j hj).wide (fun _ h=>h.elim)⟩) ha1 ha2 rE
      exact⟨av,⟨v,_,rfl,FJ,NB⟩,hk⟩
    |_=>rw[hl]at h; exact h.elim
   obtain⟨av,⟨v,ad,hv,hrun,wZ⟩,hk⟩:=Ss
   obtain⟨gC,vs,h1,h2,h3,h4⟩:=mg hT hW hF (rs:=r) hk
   refine⟨_,v::vs,h1,⟨by simp[h2.1],fun j hj=> ?_⟩,?_,by simp[h4]⟩
   ·cases j with
    |zero=>simpa using wZ
    |succ j=>simpa using h2.2 j (by simpa using hj)
   ·simp only[List.mapM_cons,Sem.run_bind,Sem.run_pure,Result.andThen_ok,r6,hv,asAddr,hrun,h3]
theorem JF {I:Nat->Prop} {w:World} {ρ:Place} {L:aZ} {N:Nat->Prop} {gC:List AV} {vs:List Value} (h:dw ρ L I w N gC vs):
  aL ρ L I w N (one gC) (if h:vs.toArray.size=1 then vs.toArray[0]else .tuple vs.toArray):=by
 obtain⟨hl,hr⟩:=h
 cases gC with
 |nil=>
  cases vs with
  |nil=>exact .aN [] [] rfl (fun j hj=>by simp at hj)
  |cons _ _=>simp at hl
 |cons a r=>
  cases vs with
  |nil=>simp at hl
  |cons v q=>
   cases r with
   |nil=>
    cases q with
    |nil=>exact hr 0 (by simp)
    |cons _ _=>simp at hl
   |cons b r=>
    cases q with
    |nil=>simp at hl
    |cons u q=>
     have:¬ (v::u::q).toArray.size=1:=by simp
     rw[dif_neg this]
     exact .aN _ _ hl hr
theorem nQ (hT:dp P T) (hW:c9 X ρ I (ab M) N w) {F:aW} {tmps:Array Value} (hF:∀i,aL ρ (lens (ab M)) I w N (look F i) (tmps.getD i undef)) {fn:Func} {K:List AV->Prop} (h:oY T fn.results.toList F M K):
  ∃gC v,K gC/\(results fn tmps).run P w= .ok v w/\aL ρ (lens (ab M)) I w N (one gC) v:=by
 obtain⟨gC,vs,h1,h2,h3,h4⟩:=mg hT hW hF h
 have hrun:(results fn tmps).run P w= .ok (if h:vs.toArray.size=1 then vs.toArray[0]else .tuple vs.toArray) w:=by
  unfold results
  have e:∀g:ResultVar->Sem Value,(∀r,g r=r6 tmps r)->(List.mapM g fn.results.toList).run P w= .ok vs w:=fun g hg=>by rw[funext hg]; exact h3
  simp only[Sem.run_bind,Array.mapM_eq_mapM_toList,Sem.run_map]
  rw[e _ (fun r=>by cases r<;>rfl)]
  simp only[Result.andThen_ok,Sem.run_pure]
 refine⟨gC,_,h1,hrun,?_⟩
 exact JF h2
end
def ou (i:Nat):List AV->aW
 |[]=>[]
 |a::r=>(i,a)::ou (i+1) r
theorem qc:∀ (as:List AV) (i j:Nat),look (ou i as) j=if i<=j/\j<i+as.length then as.getD (j - i) .bad else .bad
 |[],i,j=>by simp only[ou,look,List.length_nil]; rw[if_neg (by omega)]
 |a::r,i,j=>by
  by_cases h:j=i
  ·subst h; simp[ou,look]
  ·have hb:(j==i)=false:=by simpa using h
   simp only[ou,look,hb,cond_false,qc r (i+1) j,List.length_cons]
   by_cases h2:i+1<=j/\j<i+1+r.length
   ·rw[if_pos h2,if_pos (by omega)]
    have:j - i=(j - (i+1))+1:=by omega
    rw[this]; simp
   ·rw[if_neg h2,if_neg (by omega)]
def Zw (w:World) (I:Nat->Prop) (size:Nat):cq:=⟨w,0,I,size,cZ,gp⟩
mutual
def AV.fit:AV->Prop
 | .aH _ es=>es.length<=maxLen/\AV.DQ es
 | .agg cs=>AV.mh cs
 | .aN cs=>AV.mh cs
 | .bR _ cs=>AV.mh cs
 | .bh e _=>AV.mh e
 |_=>True
def AV.mh:List AV->Prop
 |[]=>True
 |c::r=>AV.fit c/\AV.mh r
def AV.DQ:List (List AV)->Prop
 |[]=>True
 |e::r=>AV.mh e/\AV.DQ r
end
theorem jR:∀ (cs:List AV),(∀j,j<cs.length->(cs.getD j .bad).fit)->AV.mh cs
 |[],_=>by simp[AV.mh]
 |c::r,h=>by
  simp only[AV.mh]
  exact⟨by simpa using h 0 (by simp),jR r (fun j hj=>by simpa using h (j+1) (by simpa using hj))⟩
theorem yQ:∀ (es:List (List AV)),AV.DQ es↔∀e ∈ es,AV.mh e
 |[]=>by simp[AV.DQ]
 |e::r=>by simp[AV.DQ,yQ r]
theorem aL.fit {ρ:Place} {L:aZ} {I:Nat->Prop} {w:World} {N:Nat->Prop} {a:AV} {v:Value} (h:aL ρ L I w N a v):a.fit:=by
 induction h with
 |cP=>simp[AV.fit,AV.DQ]
 |aH sz es b o cap c hl hc hI hs h1 hcell hr ih=>
  simp only[AV.fit]
  refine⟨by omega,(yQ es).2 fun e he=> ?_⟩
  obtain⟨i,hi,rfl⟩:=List.getElem_of_mem he
  have hel:es.getD i []=es[i]:=by simp[List.getD_eq_getElem?_getD,hi]
  refine jR _ fun j hj=> ?_
  have:=ih i j hi (by rw[<-hs _ (List.getElem_mem hi)]; exact hj)
  rwa[hel]at this
 |bh e off b o c hI h1 hcell hr ih=>simp only[AV.fit]; exact jR _ ih
 |bR f aS vs hl hr ih=>simp only[AV.fit]; exact jR _ ih
 |qI f aS vs hl hr ih=>simp only[AV.fit]; exact jR _ ih
 |agg cs vs hl h1 hr ih=>simp only[AV.fit]; exact jR _ ih
 |aN cs vs hl hr ih=>simp only[AV.fit]; exact jR _ ih
 |_=>simp[AV.fit]
theorem dw.fit {ρ:Place} {L:aZ} {I:Nat->Prop} {w:World} {N:Nat->Prop} {as:List AV} {vs:List Value} (h:dw ρ L I w N as vs):AV.mh as:=
 jR _ fun j hj=>(h.2 j hj).fit
end Go.AM
namespace Go.AM
open Go.RowKit
def JG:TypeDesc->TD
 | .bool=> .bool
 | .int k=> .int k
 | .string=> .str
 | .pointer e=> .ptr e
 | .slice e=> .slice e
 | .array n e=> .arr n e
 | .map k e=> .map k e
 | .struct fs=> .struct (fs.toList.map fun f=>(f.offset,f.type))
 | .func .. => .func
 | .interface _=> .iface
 | .tuple _=> .aN
 |_=> .other
def Yl (P:Program) (t:Nat):TD:=match P.underlying t,P.info? t with
 |some D,some i=>bif Nat.ble i.bytes 131072&&i.zero.isSome then JG D else .other
 |_,_=> .other
def Zx (P:Program) (t:Nat):Nat:=match P.info? t with
 |some i=>i.size
 |none=>0
def Zy (P:Program) (t:Nat):AV:=match P.info? t with
 |some i=>(match i.zero with
  |some z=>Mv z
  |none=> .bad)
 |none=> .bad
def A7 (P:Program):TT:=⟨Yl P,Zx P,Zy P⟩
theorem DR:∀D:TypeDesc,JG D≠ .other->(JG D).fits D:=by
 intro D h
 cases D<;>simp_all[JG,TD.fits]
theorem JH (P:Program):dp P (A7 P):=by
 intro t ht
 simp only[A7,Yl]at ht
 cases hD:P.underlying t with
 |none=>rw[hD]at ht; exact (ht rfl).elim
 |some D=>
  cases hi:P.info? t with
  |none=>rw[hD,hi]at ht; exact (ht rfl).elim
  |some i=>
   rw[hD,hi]at ht
   simp only at ht
   cases hc:Nat.ble i.bytes 131072&&i.zero.isSome with
   |false=>rw[hc]at ht; exact (ht rfl).elim
   |true=>
    rw[hc]at ht
    simp only[Bool.and_eq_true,Option.isSome_iff_exists]at hc
    obtain⟨hb,z,hz⟩:=hc
    refine⟨D,i,z,rfl,?_,rfl,?_,Nat.le_of_ble_eq_true hb,hz,?_⟩
    ·simp only[A7,Yl,hD,hi,hz,hb,Option.isSome_some,Bool.and_self,cond_true]
     exact DR D ht
    ·simp only[A7,Zx,hi]
    ·simp only[A7,Zy,hi,hz]
def Su (ds:List TD) (ss:List Nat) (zs:List AV):TT:=⟨fun t=>ds.getD t .other,fun t=>ss.getD t 0,fun t=>zs.getD t .bad⟩
theorem NO {P:Program} {ds:List TD} {ss:List Nat} {zs:List AV} (n:Nat) (h1:(List.range n).map (Yl P)=ds) (h2:(List.range n).map (Zx P)=ss) (h3:(List.range n).map (Zy P)=zs):dp P (Su ds ss zs):=by
 subst h1; subst h2; subst h3
 intro t ht
 have hlt:t<n:=by
  refine Classical.byContradiction fun h=>ht ?_
  simp[Su,List.getD_eq_getElem?_getD,h]
 have:=JH P t (by simpa[Su,A7,List.getD_eq_getElem?_getD,hlt]using ht)
 simpa[Su,A7,List.getD_eq_getElem?_getD,hlt]using this
end Go.AM
namespace Go.AM
open Go.RowKit
inductive LK where
 |i|b|s
def lQ (n:Nat) (l:List LK):List LK:=(List.replicate n l).flatten
def xj (P:Program) (f:Nat->Option (List LK)):List Field->Nat->Option (List LK)
 |[],_=>some []
 |x::r,off=>if x.name != "_" &&x.offset==off then (match f x.type,P.info? x.type with
  |some l,some i=>if i.size==l.length then (xj P f r (off+l.length)).map (l++ ·)else none
  |_,_=>none)else none
def mT (P:Program):Nat->Nat->Option (List LK)
 |0,_=>none
 |d+1,t=>match P.underlying t with
  |some .bool=>some [.b]
  |some (.int _)=>some [.i]
  |some .string=>some [.s]
  |some (.struct fs)=>if P.stoodInHeld t then none else xj P (mT P d) fs.toList 0
  |some (.array n e)=>(match mT P d e,P.info? e with
   |some l,some i=>if i.size==l.length then some (lQ n l)else none
   |_,_=>none)
  |_=>none
def aK (P:Program) (t:Nat):Bool:=match P.underlying t with
 |some (.struct _)=>true
 |some (.array _ _)=>true
 |_=>false
inductive NP:LK->Value->Value->Bool->Prop
 |i (k:IntKind) (x y:Int):NP .i (.int k x) (.int k y) (x==y)
 |b (x y:Bool):NP .b (.bool x) (.bool y) (x==y)
 |s (x y:List UInt8):NP .s (.string ⟨x.toArray⟩) (.string ⟨y.toArray⟩) (x==y)
inductive ny:List LK->List Value->List Value->List Bool->Prop
 |nil:ny [] [] [] []
 |cons {l ls v vs u us r rs} (h:NP l v u r) (t:ny ls vs us rs):ny (l::ls) (v::vs) (u::us) (r::rs)
theorem ny.split:∀ {l1 l2:List LK} {vs us:List Value} {rs:List Bool},ny (l1++l2) vs us rs->
  ∃v1 v2 u1 u2 r1 r2,vs=v1++v2/\us=u1++u2/\rs=r1++r2/\ny l1 v1 u1 r1/\ny l2 v2 u2 r2/\v1.length=l1.length/\u1.length=l1.length
 |[],l2,vs,us,rs,h=>⟨[],vs,[],us,[],rs,rfl,rfl,rfl,.nil,h,rfl,rfl⟩
 |a::l1,l2,_,_,_,.cons (v:=v) (u:=u) (r:=r) h t=>by
  obtain⟨v1,v2,u1,u2,r1,r2,rfl,rfl,rfl,h1,h2,h3,h4⟩:=t.split (l1:=l1)
  exact⟨v::v1,v2,u::u1,u2,r::r1,r2,rfl,rfl,rfl,.cons h h1,h2,by simp[h3],by simp[h4]⟩
def valOf (ag:Bool) (vs:List Value):Value:=if ag then .agg vs.toArray else vs.headD default
theorem xk {P:Program} {w:World} {t:Nat} {D:TypeDesc} (h:P.underlying t=some D):(isAgg t).run P w= .ok (aK P t) w:=by
 unfold isAgg aK
 simp only[Sem.run_bind,run_underlying h,Result.andThen_ok,h]
 cases D<;>rfl
theorem fO {P:Program} {w:World} {t:Nat} {D:TypeDesc} {i:TypeInfo} (h:P.underlying t=some D) (hi:P.info? t=some i) {pre mid post:List Value} (hm:mid.length=i.size) (h1:aK P t=false->mid.length=1):
  (part t (pre++(mid++post)).toArray pre.length).run P w= .ok (valOf (aK P t) mid) w:=by
 unfold part
 simp only[Sem.run_bind,xk h,Result.andThen_ok]
 cases jG:aK P t with
 |true=>
  simp only[if_pos,Sem.run_bind,bE hi,Result.andThen_ok,Sem.run_pure,valOf]
  have:(pre++(mid++post)).toArray.extract pre.length (pre.length+i.size)=mid.toArray:=by
   apply Array.ext'
   simp[<-hm]
  rw[this]
 |false=>
  obtain⟨v,rfl⟩:∃v,mid=[v]:=List.length_eq_one_iff.1 (h1 jG)
  simp[valOf]
theorem jS {P:Program}:∀ {d t:Nat} {ls:List LK},mT P d t=some ls->aK P t=false->ls.length=1
 |0,_,_,h,_=>by simp[mT]at h
 |d+1,t,ls,h,ha=>by
  unfold mT at h
  unfold aK at ha
  split at h<;>simp_all<;>first|(rw[<-h]; rfl)|skip
theorem Cr {P:Program}:∀ {d t:Nat} {ls:List LK},mT P d t=some ls->∃D,P.underlying t=some D
 |0,_,_,h=>by simp[mT]at h
 |d+1,t,ls,h=>by
  unfold mT at h
  cases hu:P.underlying t with
  |none=>rw[hu]at h; simp at h
  |some D=>exact⟨D,rfl⟩
theorem iA {P:Program}:∀ (d:Nat) (m t:Nat) (ls:List LK) (w:World) (vs us:List Value) (rs:List Bool),mT P d t=some ls->ny ls vs us rs->
  (Op.equalIn (d+m) t (valOf (aK P t) vs) (valOf (aK P t) us)).run P w= .ok (rs.all id) w
 |0,_,_,_,_,_,_,_,h,_=>by simp[mT]at h
 |d+1,m,t,ls,w,vs,us,rs,h,hv=>by
  have e:d+1+m=(d+m)+1:=by omega
  rw[e]
  have ih:=iA (P:=P) d m
  unfold mT at h
  cases hu:P.underlying t with
  |none=>rw[hu]at h; simp at h
  |some D=>
   rw[hu]at h
   cases D<;>simp only[reduceCtorEq]at h
   case bool=>
    obtain rfl:[LK.b]=ls:=by simpa using h
    have ha:aK P t=false:=by simp[aK,hu]
    rcases hv with _|⟨hl,ht⟩
    cases hl; cases ht
    rw[ha]
    simp only[valOf,Bool.false_eq_true,if_false,List.headD_cons]
    rw[run_equalIn_bool' _ _ _ _ _ hu]; simp
   case int k=>
    obtain rfl:[LK.i]=ls:=by simpa using h
    have ha:aK P t=false:=by simp[aK,hu]
    rcases hv with _|⟨hl,ht⟩
    cases hl; cases ht
    rw[ha]
    simp only[valOf,Bool.false_eq_true,if_false,List.headD_cons]
    rw[run_equalIn_int _ _ _ _ _ _ _ hu]; simp
   case string=>
    obtain rfl:[LK.s]=ls:=by simpa using h
    have ha:aK P t=false:=by simp[aK,hu]
    rcases hv with _|⟨hl,ht⟩
    cases hl; cases ht
    rw[ha]
    simp only[valOf,Bool.false_eq_true,if_false,List.headD_cons]
    rw[run_equalIn_string _ _ _ _ _ hu]
    simp[ByteArray.toList_eq]
   case struct fs=>
    have ha:aK P t=true:=by simp[aK,hu]
    have Yg:P.fieldsOf t=fs:=by simp[Program.fieldsOf,hu]
    cases hst:P.stoodInHeld t with
    |true=>simp[hst]at h
    |false=>
     simp only[hst,Bool.false_eq_true,if_false]at h
     rw[ha]
     simp only[valOf,if_pos]
     rw[run_equalIn_struct w (d+m) t _ _ (by rw[Yg]; exact hu) hst,Yg]
     have go:∀ (fl:List Field) (off:Nat) (ls:List LK) (w:World) (p q vs us:List Value) (rs:List Bool),xj P (mT P d) fl off=some ls->ny ls vs us rs->p.length=off->q.length=off->
       (Op.eqFields (d+m) (p++vs).toArray (q++us).toArray fl).run P w= .ok (rs.all id) w:=by
      intro fl
      induction fl with
      |nil=>
       intro off ls w p q vs us rs hl hv _ _
       obtain rfl:[]=ls:=by simpa[xj]using hl
       cases hv
       simp[Op.eqFields]
      |cons f fl ihf=>
       intro off ls w p q vs us rs hl hv hp hq
       simp only[xj]at hl
       split at hl
       ·rename_i hc
        simp only[Bool.and_eq_true,bne_iff_ne,ne_eq,beq_iff_eq]at hc
        split at hl
        ·rename_i l i yR FM
         split at hl
         ·rename_i hsz
          have hsz:i.size=l.length:=by simpa using hsz
          obtain⟨l2,hl2,rfl⟩:∃l2,xj P (mT P d) fl (off+l.length)=some l2/\l++l2=ls:=by
           simpa using hl
          obtain⟨v1,v2,u1,u2,r1,r2,rfl,rfl,rfl,h1,h2,h3,h4⟩:=hv.split
          obtain⟨D,hD⟩:=Cr yR
          have p1:=fO (w:=w) hD FM (pre:=p) (mid:=v1) (post:=v2) (by omega) (fun h=>by rw[h3]; exact jS yR h)
          have p2:=fO (w:=w) hD FM (pre:=q) (mid:=u1) (post:=u2) (by omega) (fun h=>by rw[h4]; exact jS yR h)
          rw[hp,<-hc.2]at p1
          rw[hq,<-hc.2]at p2
          simp only[Op.eqFields,if_pos hc.1,ne_eq,hc.1,not_false_eq_true,Sem.run_bind,p1,p2,Result.andThen_ok,ih _ _ _ _ _ _ yR h1]
          have h5:=ihf (off+l.length) l2 w (p++v1) (q++u1) v2 u2 r2 hl2 h2 (by simp; omega) (by simp; omega)
          rw[List.append_assoc,List.append_assoc]at h5
          simp only[if_true,Sem.run_bind,p1,p2,Result.andThen_ok,ih _ _ _ _ _ _ yR h1]
          cases hr:r1.all id with
          |true=>simp only[Bool.not_true,Bool.false_eq_true,if_false,h5,List.all_append,hr,Bool.true_and]
          |false=>simp only[Bool.not_false,if_true,Sem.run_pure,List.all_append,hr,Bool.false_and]
         ·simp at hl
        ·simp at hl
       ·simp at hl
     exact go fs.toList 0 ls w [] [] vs us rs h hv rfl rfl
   case array n e=>
    have ha:aK P t=true:=by simp[aK,hu]
    split at h
    ·rename_i l i yR FM
     split at h
     ·rename_i hsz
      have hsz:i.size=l.length:=by simpa using hsz
      obtain rfl:lQ n l=ls:=by simpa using h
      rw[ha]
      simp only[valOf,if_pos]
      rw[run_equalIn_array w (d+m) _ _ hu FM]
      have hc:P.cellsOf e=l.length:=by simp[Program.cellsOf,FM,hsz]
      rw[hc]
      obtain⟨D,hD⟩:=Cr yR
      have go:∀ (k j:Nat) (w:World) (p q vs us:List Value) (rs:List Bool),ny (lQ k l) vs us rs->p.length=j*l.length->q.length=j*l.length->
        (Op.eqItems (d+m) e l.length (p++vs).toArray (q++us).toArray (List.range' j k)).run P w= .ok (rs.all id) w:=by
       intro k
       induction k with
       |zero=>
        intro j w p q vs us rs hv _ _
        simp only[lQ,List.replicate_zero,List.flatten_nil]at hv
        cases hv
        simp[Op.eqItems]
       |succ k ihk=>
        intro j w p q vs us rs hv hp hq
        have e1:lQ (k+1) l=l++lQ k l:=by simp[lQ,List.replicate_succ]
        rw[e1]at hv
        obtain⟨v1,v2,u1,u2,r1,r2,rfl,rfl,rfl,h1,h2,h3,h4⟩:=hv.split
        have p1:=fO (w:=w) hD FM (pre:=p) (mid:=v1) (post:=v2) (by omega) (fun h=>by rw[h3]; exact jS yR h)
        have p2:=fO (w:=w) hD FM (pre:=q) (mid:=u1) (post:=u2) (by omega) (fun h=>by rw[h4]; exact jS yR h)
        rw[hp]at p1
        rw[hq]at p2
        have h5:=ihk (j+1) w (p++v1) (q++u1) v2 u2 r2 h2 (by rw[List.length_append,hp,h3,Nat.succ_mul]) (by rw[List.length_append,hq,h4,Nat.succ_mul])
        rw[List.append_assoc,List.append_assoc]at h5
        simp only[List.range'_succ,Op.eqItems,Sem.run_bind,p1,p2,Result.andThen_ok,ih _ _ _ _ _ _ yR h1]
        cases hr:r1.all id with
        |true=>simp only[Bool.not_true,Bool.false_eq_true,if_false,h5,List.all_append,hr,Bool.true_and]
        |false=>simp only[Bool.not_false,if_true,Sem.run_pure,List.all_append,hr,Bool.false_and]
      rw[List.range_eq_range']
      exact go n 0 w [] [] vs us rs hv (by simp) (by simp)
     ·simp at h
    ·simp at h
end Go.AM
namespace Go.AM
open Go.RowKit
variable {P:Program} {T:TT} {X:cq} {o:Oper} {F:aW} {M:bv}
inductive NQ:LK->AV->AV->Bool->Prop
 |i (k:IntKind) (x y:Int):NQ .i (.int k x) (.int k y) (x==y)
 |b (x y:Bool):NQ .b (.bool x) (.bool y) (x==y)
 |s (x y:List UInt8):NQ .s (.str x) (.str y) (x==y)
inductive u7:List LK->List AV->List AV->List Bool->Prop
 |nil:u7 [] [] [] []
 |cons {l ls v vs u us r rs} (h:NQ l v u r) (t:u7 ls vs us rs):u7 (l::ls) (v::vs) (u::us) (r::rs)
theorem NQ.val {ρ:Place} {L:aZ} {I:Nat->Prop} {w:World} {N:Nat->Prop} {l:LK} {a b:AV} {r:Bool} {v u:Value} (h:NQ l a b r) (h1:aL ρ L I w N a v) (h2:aL ρ L I w N b u):NP l v u r:=by
 cases h with
 |i k x y=>rw[bG h1,bG h2]; exact .i k x y
 |b x y=>rw[gn h1,gn h2]; exact .b x y
 |s x y=>rw[gW h1,gW h2]; exact .s x y
theorem u7.val {ρ:Place} {L:aZ} {I:Nat->Prop} {w:World} {N:Nat->Prop}:∀ {ls:List LK} {as bs:List AV} {rs:List Bool} {vs us:List Value},u7 ls as bs rs->vs.length=as.length->us.length=bs.length->
  (∀j,j<as.length->aL ρ L I w N (as.getD j .bad) (vs.getD j default))->(∀j,j<bs.length->aL ρ L I w N (bs.getD j .bad) (us.getD j default))->ny ls vs us rs
 |_,_,_,_,[],[],.nil,_,_,_,_=> .nil
 |_,_,_,_,v::vs,u::us,.cons h t,hv,hu,h1,h2=>
  .cons (h.val (by simpa using h1 0 (by simp)) (by simpa using h2 0 (by simp))) (t.val (by simpa using hv) (by simpa using hu)
    (fun j hj=>by simpa using h1 (j+1) (by simpa using hj)) (fun j hj=>by simpa using h2 (j+1) (by simpa using hj)))
 |_,_,_,_,_::_,[],.nil,hv,_,_,_=>by simp at hv
 |_,_,_,_,[],_::_,.nil,_,hu,_,_=>by simp at hu
 |_,_,_,_,_::_,_::_,.nil,hv,_,_,_=>by simp at hv
 |_,_,_,_,[],_,.cons _ _,hv,_,_,_=>by simp at hv
 |_,_,_,_,_::_,[],.cons _ _,_,hu,_,_=>by simp at hu
theorem yS {neg:Bool} {t yt:TypeId} {x y:Operand} {d:Nat} (hd:d<=10000) {ls:List LK} {as bs:List AV} {rs:List Bool} (ho:o.op= .binOp (if neg then .neq else .eql) t x y yt) (hg:P.eqGuardType P.depth t=false) (ha:aK P t=true)
  (hl:mT P d t=some ls) (hx:ev F x= .agg as) (hy:ev F y= .agg bs) (h:u7 ls as bs rs):bN P X o F M (.bool (if neg then !(rs.all id)else rs.all id)) [] []:=by
 have hx':x ∈ o.op.operands.toList:=by simp[ho,Op.operands]
 have hy':y ∈ o.op.operands.toList:=by simp[ho,Op.operands]
 refine aF fun M' N ρ I ac w hW hU hN=> ?_
 have r1:=aq hU x hx'
 have r2:=aq hU y hy'
 rw[hx]at r1
 rw[hy]at r2
 generalize hv:ac.eval x=v at r1
 generalize hu:ac.eval y=u at r2
 cases r1 with
 |agg _ vs hvl FJ NR=>
  cases r2 with
  |agg _ us Zz pU ZA=>
   have h4:=h.val hvl Zz NR ZA
   have e:=iA d (10000 - d) t ls w vs us rs hl h4
   rw[ha]at e
   simp only[valOf,if_true]at e
   have e2:d+ (10000 - d)=10000:=by omega
   rw[e2]at e
   refine⟨_,?_,.bool _⟩
   have g:=run_eqGuard_agg w (if neg then .neq else .eql) t x y vs.toArray us.toArray hg
   cases neg<;>simp_all[execOp,Sem.run_bind,run_eql_struct,run_neq_struct]
theorem xl {neg:Bool} {t yt:TypeId} {x y:Operand} {a b:Bool} (ho:o.op= .binOp (if neg then .neq else .eql) t x y yt) (hu:P.underlying t=some .bool) (hx:ev F x= .bool a) (hy:ev F y= .bool b):
  bN P X o F M (.bool (if neg then a != b else a==b)) [] []:=by
 have hx':x ∈ o.op.operands.toList:=by simp[ho,Op.operands]
 have hy':y ∈ o.op.operands.toList:=by simp[ho,Op.operands]
 refine aF fun M' N ρ I ac w hW hU hN=>⟨_,?_,.bool _⟩
 have r1:=gn (hx ▸ aq hU x hx')
 have r2:=gn (hy ▸ aq hU y hy')
 have e:=run_equal_bool w t a b hu
 cases neg<;>simp[execOp,ho,r1,r2,Sem.run_bind,eqGuard,binOp,e,bne]
def NS (op:BinOp) (a b:List UInt8) (K:AV->Prop):Prop:=
 match op with
 | .add=>(a.length+b.length<=9223372036854775807)/\K (.str (a++b))
 | .eql=>K (.bool (a==b))
 | .neq=>K (.bool !(a==b))
 | .lss=>K (.bool (Op.bytesLess a b))
 | .leq=>K (.bool (Op.bytesLess a b||a==b))
 | .gtr=>K (.bool !(Op.bytesLess a b||a==b))
 | .geq=>K (.bool !(Op.bytesLess a b))
 |_=>False
theorem Gw {op:BinOp} {t yt:TypeId} {x y:Operand} {a b:List UInt8} {K:AV->Prop} (ho:o.op= .binOp op t x y yt) (hx:ev F x= .str a) (hy:ev F y= .str b) (h:NS op a b K):∃av,bN P X o F M av [] []/\K av:=by
 have hx':x ∈ o.op.operands.toList:=by simp[ho,Op.operands]
 have hy':y ∈ o.op.operands.toList:=by simp[ho,Op.operands]
 have go:∀av v,(∀ρ L I w N,aL ρ L I w N av v)->(∀w,(Op.stringOp op ⟨a.toArray⟩ ⟨b.toArray⟩).run P w= .ok v w)->K av->∃av,bN P X o F M av [] []/\K av:=by
  intro av v hr hrun hk
  refine⟨av,aF fun M' N ρ I ac w hW hU hN=>⟨v,?_,hr _ _ _ _ _⟩,hk⟩
  have r1:=gW (hx ▸ aq hU x hx')
  have r2:=gW (hy ▸ aq hU y hy')
  have g:(eqGuard op t x y (.string ⟨a.toArray⟩) (.string ⟨b.toArray⟩)).run P w= .ok () w:=by
   unfold eqGuard; cases op<;>simp
  have e:binOp op t (.string ⟨a.toArray⟩) (.string ⟨b.toArray⟩)=Op.stringOp op ⟨a.toArray⟩ ⟨b.toArray⟩:=by cases op<;>rfl
  simp only[execOp,ho,r1,r2,Sem.run_bind,g,Result.andThen_ok,e,hrun,Sem.run_pure]
 have tl:∀l:List UInt8,(⟨l.toArray⟩:ByteArray).toList=l:=fun l=>by rw[ByteArray.toList_eq]
 cases op<;>simp only[NS]at h<;>try exact h.elim
 case add=>
  refine go _ (.string ⟨(a++b).toArray⟩) (fun _ _ _ _ _=> .str _) (fun w=> ?_) h.2
  have e:(⟨a.toArray⟩:ByteArray)++⟨b.toArray⟩=⟨(a++b).toArray⟩:=by
   apply ByteArray.ext
   simp
  have h1:=h.1
  have hs:¬ ((((⟨a.toArray⟩:ByteArray).size+ (⟨b.toArray⟩:ByteArray).size:Nat):Int)>IntKind.i64.max):=by
   show ¬ (((a.toArray.size+b.toArray.size:Nat):Int)>9223372036854775807)
   simp only[List.size_toArray]
   omega
  simp only[Op.stringOp,if_neg hs,e,Sem.run_pure]
 all_goals exact go _ _ (fun _ _ _ _ _=> .bool _) (fun w=>by simp only[Op.stringOp,tl,Sem.run_pure]) h
end Go.AM
namespace Go.AM
open Go.RowKit
variable {P:Program} {T:TT} {X:cq} {o:Oper} {F:aW} {M:bv}
theorem rJ {neg:Bool} {t e:TypeId} {y:Operand} {x:Operand} {q:Option Addr} {l c:Nat} {w:World} (hu:P.underlying t=some (.slice e)):
  (do eqGuard (if neg then .neq else .eql) t x y (.slice q l c) (.slice none 0 0); binOp (if neg then .neq else .eql) t (.slice q l c) (.slice none 0 0):Sem Value).run P w= .ok (.bool (if neg then !q.isNone else q.isNone)) w:=by
 have e1:=run_equal_slice_nil w t e q l c hu
 cases neg<;>simp[Sem.run_bind,eqGuard,binOp,e1]
theorem u9 {neg:Bool} {t e:TypeId} {y:Operand} {x:Operand} {q:Option Addr} {w:World} (hu:P.underlying t=some (.pointer e)):
  (do eqGuard (if neg then .neq else .eql) t x y (.pointer q) (.pointer none); binOp (if neg then .neq else .eql) t (.pointer q) (.pointer none):Sem Value).run P w= .ok (.bool (if neg then !q.isNone else q.isNone)) w:=by
 have e0:P.pointee t=e:=by simp[Program.pointee,hu]
 have e1:=run_equal_pointer_nil w t q (by rw[e0]; exact hu)
 cases neg<;>simp[Sem.run_bind,eqGuard,binOp,e1]
theorem k9 {neg:Bool} {t e yt:TypeId} {x:Operand} {b:Bool} {Ml:Mem} (hM:M=ab Ml) (ho:o.op= .binOp (if neg then .neq else .eql) t x (.const (.pointer none)) yt) (hu:P.underlying t=some (.pointer e))
  (hx:(ev F x= .bP/\b=true)\/((∃r q,ev F x= .bh r q)/\b=false)\/(∃n len i q bl,ev F x= .loc n len i q/\ab Ml n=some bl/\bl.ln=len)/\b=false):bN P X o F M (.bool (if neg then !b else b)) [] []:=by
 have hx':x ∈ o.op.operands.toList:=by simp[ho,Op.operands]
 refine aF fun M' N ρ I ac w hW hU hN=> ?_
 have r1:=aq hU x hx'
 have key:∃q:Option Addr,ac.eval x= .pointer q/\q.isNone=b:=by
  rcases hx with⟨h,rfl⟩|⟨⟨r,q,h⟩,rfl⟩|⟨⟨n,len,i,q,bl,h,hb,hl⟩,rfl⟩
  ·rw[h]at r1
   generalize ac.eval x=v at r1
   cases r1
   exact⟨none,rfl,rfl⟩
  ·rw[h]at r1
   generalize ac.eval x=v at r1
   cases r1
   exact⟨_,rfl,rfl⟩
  ·rw[h]at r1
   obtain⟨sl,eQ,eY⟩:=bj (F:=F) x hx' (n:=n) (by rw[h]; simp[AV.names])
   have cD:M' n=some bl:=(hN sl eQ n eY).trans (by rw[hM]; exact hb)
   have dV:lens M' n=some (len,bl.sz):=by rw[aA]; exact⟨bl,cD,hl,rfl⟩
   obtain⟨_,g,cap,_,hv⟩:=gj r1 dV
   exact⟨_,hv,rfl⟩
 obtain⟨q,hv,hq⟩:=key
 refine⟨_,?_,.bool _⟩
 have e1:=u9 (P:=P) (neg:=neg) (y:= .const (.pointer none)) (x:=x) (q:=q) (w:=w) hu
 rw[hq]at e1
 have hc:ac.eval (.const (.pointer none))= .pointer none:=rfl
 simp only[execOp,ho,hv,hc]
 simp only[Sem.run_bind]at e1 ⊢
 rw[e1]
 simp
theorem u' {neg:Bool} {t e yt:TypeId} {x:Operand} {s:Nat} {es:List (List AV)} (ho:o.op= .binOp (if neg then .neq else .eql) t x (.const (.slice none 0 0)) yt) (hu:P.underlying t=some (.slice e)) (hx:ev F x= .aH s es)
  {M':bv} {N:Nat->Prop} {ρ:Place} {I:Nat->Prop} {a:Act} {w:World} (hW:c9 X ρ I M' N w) (hU:∀s ∈ dm o.op,aL ρ (lens M') I w N (look F s) (a.tmps.getD s undef)):
  ∃b:Bool,(b=true->es=[])/\bS P X o a M' N ρ I w (.bool (if neg then !b else b)) []:=by
 have hx':x ∈ o.op.operands.toList:=by simp[ho,Op.operands]
 have r1:=aq hU x hx'
 rw[hx]at r1
 have key:∃ (q:Option Addr) (c:Nat),a.eval x= .slice q es.length c/\(q.isNone=true->es=[]):=by
  generalize a.eval x=v at r1
  cases r1 with
  |cP _ q cap=>exact⟨q,cap,rfl,fun _=>rfl⟩
  |aH _ _ b o cap c hl=>exact⟨_,cap,rfl,fun h=>by simp at h⟩
 obtain⟨q,c,hv,hq⟩:=key
 refine⟨q.isNone,hq,?_⟩
 have e1:=rJ (P:=P) (neg:=neg) (y:= .const (.slice none 0 0)) (x:=x) (q:=q) (l:=es.length) (c:=c) (w:=w) hu
 have hr:(execOp a.eval o).run P w= .ok (.value (.bool (if neg then !q.isNone else q.isNone))) w:=by
  have hc:a.eval (.const (.slice none 0 0))= .slice none 0 0:=rfl
  simp only[execOp,ho,hv,hc]
  simp only[Sem.run_bind]at e1 ⊢
  rw[e1]
  simp
 unfold bS
 rw[hr]
 exact iv.value hW (.bool _)
theorem A8 (hT:dp P T) {t e:Nat} {x h m:Operand} {k k':IntKind} {n:Nat} (ht:T.d t= .slice e) (hok:(T.d e).ok=true) (ho:o.op= .slice t x none (some h) (some m)) (hh:ev F h= .int k 0) (hm:ev F m= .int k' 0)
  (hx:∃s es,ev F x= .aH s es):bN P X o F M (.bc n 0) [(n,⟨e,T.s e,[],none⟩)] [n]:=by
 have hx':x ∈ o.op.operands.toList:=by simp[ho,Op.operands]
 have hh':h ∈ o.op.operands.toList:=by simp[ho,Op.operands]
 have hm':m ∈ o.op.operands.toList:=by simp[ho,Op.operands]
 obtain⟨D,it,z,hD,hf,_⟩:=hT t (by rw[ht]; simp)
 have im:=bV ht hf
 subst im
 obtain⟨_,ie,_,_,_,hie,mN,_⟩:=hT e (TD.dT hok)
 obtain⟨s,es,hx⟩:=hx
 refine⟨fun p hp=> .inl (by simp at hp; simp[hp]),fun M' N ρ I ac w hW hU hN hF=> ?_⟩
 have hn:¬N n:=hF n (by simp)
 have r1:=aq hU x hx'
 have r2:=bG (hh ▸ aq hU h hh')
 have r3:=bG (hm ▸ aq hU m hm')
 rw[hx]at r1
 obtain⟨q,cap,hv,hle⟩:=rZ r1
 have hb:(Instr.sliceBounds true es.length cap (none:Option Value) (some (.int k 0)) (some (.int k' 0))).run P w= .ok (0,0,0) w:=by
  have e1:=run_sliceBound (P:=P) (k:=k') (i:=0) (y:=cap) (c:= .slice3Acap) (w:=w) ⟨by omega,by omega⟩
  have e2:=run_sliceBound (P:=P) (k:=k) (i:=0) (y:=0) (c:= .slice3B) (w:=w) ⟨by omega,by omega⟩
  simp[Instr.sliceBounds,e1,e2,Sem.run_bind,Instr.sliceBound,asIntOf]
 have hrun:=qV (a:=q) (len:=es.length) hD hie hb
 obtain⟨E,W⟩:=hW.eD hn e (T.s e)
 unfold bS
 have hr:(execOp ac.eval o).run P w= .ok (.value (.slice q 0 0)) w:=by
  simp only[execOp,ho,Option.map_none,Option.map_some,hv,r2,r3,Sem.run_bind,hrun]
  simp
 rw[hr]
 refine⟨_,I,E,by rw[bO]; exact W,?_⟩
 refine .bc n _ _ (.inr ⟨_,List.mem_singleton.2 rfl⟩) rfl fun l AS ol=> ?_
 change lens (cX M' n _) n=_ at ol
 rw[cO,if_pos rfl]at ol
 simp at ol
 exact⟨by simp,fun _=> .inl ⟨by simp,q,rfl⟩⟩
theorem yT (hT:dp P T) {t m e:Nat} {x ix:Operand} {cs:List AV} {k:IntKind} {j:Int} {K:AV->Prop} (ht:T.d t= .arr m e) (hok:(T.d e).ok=true) (ho:o.op= .index t x ix) (hx:ev F x= .agg cs) (hi:ev F ix= .int k j)
  (hj:0<=j/\j< (m:Int)) (h:apart (T.d e).ag (T.s e) (j.toNat*T.s e) cs K):∃av,bN P X o F M av [] []/\K av:=by
 have hx':x ∈ o.op.operands.toList:=by simp[ho,Op.operands]
 have hi':ix ∈ o.op.operands.toList:=by simp[ho,Op.operands]
 obtain⟨D,it,z,hD,hf,_⟩:=hT t (by rw[ht]; simp)
 have im:=gk ht hf
 subst im
 obtain⟨De,ie,_,FN,MJ,hie,mN,_⟩:=hT e (TD.dT hok)
 obtain⟨av,h1,h2,h3,h4⟩:=fE h
 refine⟨av,aF fun M' N ρ I ac w hW hU hN=> ?_,h4⟩
 have r1:=aq hU x hx'
 have r2:=bG (hi ▸ aq hU ix hi')
 rw[hx]at r1
 generalize hv:ac.eval x=v at r1
 generalize hoff:j.toNat*T.s e=off at h1 h2
 have hle:off+T.s e<=cs.length\/ T.s e=0:=by
  simp only[List.length_take,List.length_drop]at h1; omega
 cases r1 with
 |agg _ vs hvl FJ NR=>
  have Gx:∃u,(part e vs.toArray off).run P w= .ok u w/\aL ρ (lens M') I w N av u:=by
   unfold part
   simp only[Sem.run_bind,oj FN MJ,Result.andThen_ok]
   cases jG:(T.d e).ag with
   |true=>
    simp only[if_pos,Sem.run_bind,bE hie,Result.andThen_ok,Sem.run_pure]
    refine⟨_,rfl,?_⟩
    rw[h2,jG,if_pos rfl,mN]
    have hex:vs.toArray.extract off (off+T.s e)=((vs.drop off).take (T.s e)).toArray:=by
     apply Array.ext'
     simp
    rw[hex]
    refine .agg _ _ (by rw[h1]; simp only[List.length_take,List.length_drop]; omega) (fun u hu=>FJ u (List.mem_of_mem_drop (List.mem_of_mem_take hu))) (fun i hi=> ?_)
    rw[h1]at hi
    rw[db _ _ _ _ _ hi,db _ _ _ _ _ hi]
    exact NR (off+i) (by omega)
   |false=>
    have h5:=h3 jG
    have hlt:off<cs.length:=by omega
    have xm:off<vs.length:=by omega
    simp only[Bool.false_eq_true,if_false]
    have:vs.toArray[off]? =some vs[off]:=by simp[xm]
    rw[this]
    refine⟨_,Sem.run_pure _ _ _,?_⟩
    rw[h2,jG,h5]
    have e1:((cs.drop off).take 1).headD .bad=cs.getD off .bad:=by
     rw[List.drop_eq_getElem_cons hlt,List.take_succ_cons]
     simp[List.getD_eq_getElem?_getD,hlt]
    simp only[Bool.false_eq_true,if_false,e1]
    have:=NR off hlt
    rwa[show vs.getD off default=vs[off] by simp[List.getD_eq_getElem?_getD,xm]]at this
  obtain⟨u,hu,hr⟩:=Gx
  refine⟨u,?_,hr⟩
  simp only[execOp,ho,hv,r2,Instr.index,asIntOf,Sem.run_bind,Sem.run_pure,Result.andThen_ok,run_underlying hD,if_pos hj,bE hie,mN,hoff,hu]
theorem yU (hT:dp P T) {t:Nat} {x ix:Operand} {s:List UInt8} {k:IntKind} {j:Int} (ht:T.d t= .str) (ho:o.op= .index t x ix) (hx:ev F x= .str s) (hi:ev F ix= .int k j) (hj:0<=j/\j< (s.length:Int)):
  bN P X o F M (.int .u8 (s.getD j.toNat 0).toNat) [] []:=by
 have hx':x ∈ o.op.operands.toList:=by simp[ho,Op.operands]
 have hi':ix ∈ o.op.operands.toList:=by simp[ho,Op.operands]
 obtain⟨D,it,z,hD,hf,_⟩:=hT t (by rw[ht]; simp)
 have im:=gl ht hf
 subst im
 refine aF fun M' N ρ I ac w hW hU hN=>⟨_,?_,.int _ _⟩
 have r1:=gW (hx ▸ aq hU x hx')
 have r2:=bG (hi ▸ aq hU ix hi')
 have hlt:j.toNat<s.length:=by omega
 have e1:(⟨s.toArray⟩:ByteArray)[j.toNat]? =some s[j.toNat]:=by
  have hsz:j.toNat< (⟨s.toArray⟩:ByteArray).size:=by show j.toNat<s.toArray.size; simpa using hlt
  rw[getElem?_pos (⟨s.toArray⟩:ByteArray) j.toNat hsz]
  rfl
 simp only[execOp,ho,r1,r2,Instr.index,asIntOf,Sem.run_bind,Sem.run_pure,Result.andThen_ok,run_underlying hD,if_pos hj.1,e1]
 simp[List.getD_eq_getElem?_getD,hlt]
theorem foldl_push (s:List UInt8):∀r:ByteArray,(s.map fun c=>((c.toNat:Int))).foldl (fun r n=>r.push (UInt8.ofNat n.toNat)) r=⟨(r.data.toList++s).toArray⟩:=by
 induction s with
 |nil=>intro r; simp
 |cons c s ih=>
  intro r
  simp only[List.map_cons,List.foldl_cons,ih]
  congr 1
  simp[ByteArray.push]
theorem Gy (hT:dp P T) {s t e:Nat} {x:Operand} {Ml:Mem} {K:AV->Prop} (hM:M=ab Ml) (hs:T.d s= .slice e) (he:T.d e= .int .u8) (ht:T.d t= .str) (ho:o.op= .convert s t x) (eY:¬ ∃q,ev F x= .str q)
  (h:oh Ml 1 (ev F x) fun xs=>∃b:List UInt8,xs=b.map (fun c=>[AV.int .u8 c.toNat])/\K (.str b)):∃av,bN P X o F M av [] []/\K av:=by
 have hx:x ∈ o.op.operands.toList:=by simp[ho,Op.operands]
 obtain⟨D,_,_,hD,hf,_⟩:=hT s (by rw[hs]; simp)
 have:=bV hs hf
 subst this
 obtain⟨D,_,_,FN,hf,_⟩:=hT e (by rw[he]; simp)
 have:=fits_int he hf
 subst this
 obtain⟨D,_,_,ZB,hf,_⟩:=hT t (by rw[ht]; simp)
 have:=gl ht hf
 subst this
 obtain⟨xs,⟨b,rfl,hk⟩,hsrc⟩:=kZ (X:=X) (o:=o) (tx:=s) hT hM hx (.inl ⟨_,hD⟩) (fun h=>(eY h).elim) (fun _=>⟨_,hD⟩) h
 refine⟨_,aF fun M' N ρ I ac w hW hU hN=> ?_,hk⟩
 obtain⟨vs,hS,hL,-⟩:=hsrc M' N ρ I ac w hW hU hN
 have hvs:vs=b.map fun c=>Value.int .u8 (c.toNat:Int):=by
  apply List.ext_getElem
  ·rw[hL.1]; simp
  ·intro i h1 h2
   have hi:i<b.length:=by simpa using h2
   obtain⟨u,hu,hr⟩:=hL.2.2 i 0 (by simpa using hi) (by omega)
   rw[Nat.mul_one,Nat.add_zero,List.getElem?_eq_getElem h1]at hu
   simp only[Option.some.injEq]at hu
   have e1:((b.map fun c=>[AV.int .u8 (c.toNat:Int)]).getD i []).getD 0 .bad= .int .u8 (b[i].toNat:Int):=by
    simp[List.getD_eq_getElem?_getD,hi]
   rw[e1]at hr
   rw[hu,bG hr.2]
   simp
 have eQ:∃q l c,ac.eval x= .slice q l c:=by
  have r1:=aq hU x hx
  cases bY:ev F x with
  |aH s es=>rw[bY]at r1; obtain⟨q,cap,hv,_⟩:=rZ r1; exact⟨_,_,_,hv⟩
  |ai=>
   rw[bY]at r1
   generalize ac.eval x=v at r1
   cases r1
   exact⟨_,_,_,rfl⟩
  |bc n len=>
   rw[bY]at h r1
   simp only[oh,alive]at h
   cases hb:ab Ml n with
   |none=>rw[hb]at h; exact h.elim
   |some bl=>
    rw[hb]at h
    obtain⟨hc1,hmp,_⟩:=ax h
    have hl:bl.ln=len:=by simpa using hc1
    obtain⟨sl,eQ,eY⟩:=bj (F:=F) x hx (n:=n) (by rw[bY]; simp[AV.names])
    have cD:M' n=some bl:=(hN sl eQ n eY).trans (by rw[hM]; exact hb)
    have dV:lens M' n=some (len,bl.sz):=by rw[aA]; exact⟨bl,cD,hl,rfl⟩
    obtain⟨_,⟨_,q,hv⟩|⟨g,cap,_,hv⟩⟩:=jO r1 dV
    ·exact⟨_,_,_,hv⟩
    ·exact⟨_,_,_,hv⟩
  |ee n len i off bX=>
   rw[bY]at h r1
   simp only[oh,alive]at h
   cases hb:ab Ml n with
   |none=>rw[hb]at h; exact h.elim
   |some bl=>
    rw[hb]at h
    obtain⟨hc1,hmp,_⟩:=ax h
    have hl:bl.ln=len:=by simpa using hc1
    obtain⟨sl,eQ,eY⟩:=bj (F:=F) x hx (n:=n) (by rw[bY]; simp[AV.names])
    have cD:M' n=some bl:=(hN sl eQ n eY).trans (by rw[hM]; exact hb)
    have dV:lens M' n=some (len,bl.sz):=by rw[aA]; exact⟨bl,cD,hl,rfl⟩
    obtain⟨_,g,cap,c,_,hv,_⟩:=mM r1 dV
    exact⟨_,_,_,hv⟩
  |str q=>exact (eY ⟨q,bY⟩).elim
  |_=>rw[bY]at h; exact h.elim
 obtain⟨q,l,c,hv⟩:=eQ
 have hl:l=b.length:=by
  have:=hS.len w
  rw[hv]at this
  simpa[Builtin.lenOf]using this
 refine⟨.string ⟨b.toArray⟩,?_,.str _⟩
 have hrun:(Conv.bytesToString (ac.eval x)).run P w= .ok (.string ⟨b.toArray⟩) w:=by
  rw[hv]
  cases q with
  |none=>
   have hc:=hS.cells
   rw[hv,hvs]at hc
   have:b=[]:=by
    simp[Builtin.firstCells]at hc
    exact hc
   subst this
   simp[Conv.bytesToString]
   rfl
  |some a=>
   have hc:=hS.cells
   rw[hv,hvs]at hc
   simp only[Builtin.firstCells,List.length_map,Nat.mul_one]at hc
   have:=run_bytesToString (P:=P) w a l c (b.map fun c=>(c.toNat:Int)) (by rw[hl,hc]; simp[List.map_map,Function.comp_def])
   rw[this,foldl_push]
   simp
 simp only[execOp,ho,convert,Sem.run_bind,run_underlying hD,run_underlying ZB,Result.andThen_ok]
 have e9:∀v:Value,v=ac.eval x->True:=fun _ _=>trivial
 rw[hv]at hrun ⊢
 simp only[Sem.run_bind,run_underlying FN,Result.andThen_ok,hrun,Sem.run_pure]
end Go.AM
namespace Go.AM
open Go.RowKit
variable {P:Program} {T:TT} {X:cq} {o:Oper} {F:aW} {M:bv}
theorem A9 {ρ:Place} {L:aZ} {I:Nat->Prop} {w:World} {N:Nat->Prop} {n len i off sz g cap bX c:Nat} (hn:N n) (hl:L n=some (len,sz)) (hρ:ρ n=some (g,cap)) (h1:bX<=c) (h2:c<=maxLen):
  aL ρ L I w N (.ee n len i off bX) (.slice (some ⟨g,i*sz+off,none⟩) bX c):=
 .ee n len i off bX _ hn rfl fun l AS h=>by
   rw[hl]at h
   simp only[Option.some.injEq,Prod.mk.injEq]at h
   obtain⟨rfl,rfl⟩:=h
   exact⟨Nat.le_refl _,fun _=>⟨g,cap,c,hρ,rfl,h1,h2⟩⟩
theorem lR {t m e:Nat} {ie:TypeInfo} {a:Addr} {w:World} (hD:P.underlying t=some (.array m e)) (hi':P.info? e=some ie):
  (Instr.sliceAt t (.pointer (some a)) none none none).run P w= .ok (.slice (some a) m m) w:=by
 have:a.add 0=a:=by simp[Addr.add]
 simp[Instr.sliceAt,Sem.run_bind,run_underlying hD,Instr.sureAddr,Instr.sliceBounds,bE hi',this]
theorem vd (hT:dp P T) {t m e n len i off:Nat} {x:Operand} {Ml:Mem} {b:bg} (hM:M=ab Ml) (ht:T.d t= .arr m e) (hok:(T.d e).ok=true) (ho:o.op= .slice t x none none none) (hm:m<=maxLen)
  (bY:ev F x= .loc n len i off) (hb:ab Ml n=some b) (hl:b.ln=len):bN P X o F M (.ee n len i off m) [] []:=by
 have hx:x ∈ o.op.operands.toList:=by simp[ho,Op.operands]
 obtain⟨D,it,z,hD,hf,_⟩:=hT t (by rw[ht]; simp)
 have im:=gk ht hf
 subst im
 obtain⟨De,ie,_,FN,MJ,hie,mN,_⟩:=hT e (TD.dT hok)
 refine aF fun M' N ρ I a w hW hU hN=> ?_
 have r1:=aq hU x hx
 rw[bY]at r1
 obtain⟨sl,eQ,eY⟩:=bj (F:=F) x hx (n:=n) (by rw[bY]; simp[AV.names])
 have cD:M' n=some b:=(hN sl eQ n eY).trans (by rw[hM]; exact hb)
 have dV:lens M' n=some (len,b.sz):=by rw[aA]; exact⟨b,cD,hl,rfl⟩
 obtain⟨hn,g,cap,hρ,hv⟩:=gj r1 dV
 refine⟨_,?_,A9 hn dV hρ (Nat.le_refl m) hm⟩
 simp only[execOp,ho,hv,Option.map_none,Sem.run_bind,lR hD hie,Result.andThen_ok,Sem.run_pure]
theorem ve (hT:dp P T) {t m e off:Nat} {x:Operand} {r:List AV} (ht:T.d t= .arr m e) (hok:(T.d e).ok=true) (ho:o.op= .slice t x none none none) (hm:m<=maxLen)
  (bY:ev F x= .bh r off) (hfit:off+m*T.s e<=r.length):bN P X o F M (.aH (T.s e) (p5 (T.s e) m (r.drop off))) [] []:=by
 have hx:x ∈ o.op.operands.toList:=by simp[ho,Op.operands]
 obtain⟨D,it,z,hD,hf,_⟩:=hT t (by rw[ht]; simp)
 have im:=gk ht hf
 subst im
 obtain⟨De,ie,_,FN,MJ,hie,mN,_⟩:=hT e (TD.dT hok)
 refine aF fun M' N ρ I a w hW hU hN=> ?_
 have r1:=aq hU x hx
 rw[bY]at r1
 generalize hv:a.eval x=v at r1
 cases r1 with
 |bh _ _ b q c hI h1 hcell hr=>
  refine⟨.slice (some ⟨b,q+off,none⟩) m m,?_,?_⟩
  ·simp only[execOp,ho,hv,Option.map_none,Sem.run_bind,lR hD hie,Result.andThen_ok,Sem.run_pure]
  ·have hlen:(p5 (T.s e) m (r.drop off)).length=m:=eo
   have hlt:∀i j,i<m->j<T.s e->off+ (i*T.s e+j)<r.length:=fun i j hi hj=>by
    have:=me (sz:=T.s e) hi hj
    omega
   have key:=aL.aH (ρ:=ρ) (L:=lens M') (I:=I) (w:=w) (N:=N) (T.s e) (p5 (T.s e) m (r.drop off)) b (q+off) m (fun i j=>c (off+ (i*T.s e+j))) (by rw[hlen]; exact Nat.le_refl _) hm hI
    (fun l hl=>by
      obtain⟨p,hp,rfl⟩:=List.mem_iff_getElem.1 hl
      rw[hlen]at hp
      have e1:=ku (sz:=T.s e) (r:=r.drop off) hp
      rw[List.getD_eq_getElem?_getD,List.getElem?_eq_getElem (by rw[hlen]; exact hp),Option.getD_some]at e1
      rw[e1]
      have:(p+1)*T.s e<=m*T.s e:=Nat.mul_le_mul_right _ hp
      rw[Nat.add_mul,Nat.one_mul]at this
      simp only[List.length_take,List.length_drop]; omega)
    (fun i j hi hj=>h1 _ (hlt i j (by rwa[hlen]at hi) hj))
    (fun i j hi hj=>by
      have:=hcell _ (hlt i j (by rwa[hlen]at hi) hj)
      rwa[show q+off+i*T.s e+j=q+ (off+ (i*T.s e+j)) by omega])
    (fun i j hi hj=>by
      rw[hlen]at hi
      have:=hr _ (hlt i j hi hj)
      rw[ku hi,db _ _ _ _ _ hj]
      simpa only[List.getD_eq_getElem?_getD,List.getElem?_drop]using this)
   rwa[hlen]at key
theorem DT {ρ:Place} {I:Nat->Prop} {M':bv} {N:Nat->Prop} {w:World} (hW:c9 X ρ I M' N w) {n i off g cap:Nat} {b:bg} {gC:List AV} {oZ:List Value} (cD:M' n=some b) (hmp:b.mp=none) (hρ:ρ n=some (g,cap)) (hi':i<b.es.length)
  (hcl:oZ.length=gC.length) (F8:∀u ∈ oZ,u.oneCell'=true) (Zd:∀j,j<gC.length->aL ρ (lens M') I w N (gC.getD j .bad) (oZ.getD j default)) (hoff:off+gC.length<=b.sz):
  (storeCells ⟨g,i*b.sz+off,none⟩ oZ).run P w= .ok () (w.setCells g (i*b.sz+off) oZ)/\
  ∃ρ1,mI N ρ (lens M') I w ρ1 (lens (dj M' [(n,⟨b.ty,b.sz,b.es.set i (bM off gC (b.es.getD i [])),none⟩)])) I (w.setCells g (i*b.sz+off) oZ)/\
   c9 X ρ1 I (dj M' [(n,⟨b.ty,b.sz,b.es.set i (bM off gC (b.es.getD i [])),none⟩)]) (fM N [(n,⟨b.ty,b.sz,b.es.set i (bM off gC (b.es.getD i [])),none⟩)]) (w.setCells g (i*b.sz+off) oZ):=by
 have B:=hW.aT n b cD
 obtain⟨cs,fr,hg,og,rD,hown,hlc,nO,hcs,hc⟩:=B.real g cap hρ
 have hg:=hg.cells hmp
 have Sf:=bg.dg hmp
 have hel:(b.es.getD i []).length=b.sz:=by
  rw[List.getD_eq_getElem?_getD,List.getElem?_eq_getElem hi',Option.getD_some]
  exact B.even _ (List.getElem_mem _)
 have hrow:i*b.sz+b.sz<=cs.size:=by
  rw[hcs]
  calc i*b.sz+b.sz=(i+1)*b.sz:=by rw[Nat.add_mul,Nat.one_mul]
   _<=cap*b.sz:=Nat.mul_le_mul_right _ (by omega)
 have hin:∀j,j<b.sz->i*b.sz+j<cs.size:=fun j hj=>by omega
 have oT:∀k,w.cell? ⟨g,k,none⟩=cs[k]? :=fun k=>by simp[World.cell?,hg]
 have Ze:∀k,k<cs.size->w.frozen? ⟨g,k,none⟩=false:=fun k hk=>by
  have:=og k hk
  simp only[World.frozen?,hg]
  simpa using this
 refine⟨?_,?_⟩
 ·have hst:=run_storeCells_cells (P:=P) g (i*b.sz+off) oZ 0 w
   (fun j hj=>by
     rw[Nat.add_zero,oT,Nat.add_assoc,Array.getElem?_eq_getElem (hin (off+j) (by omega))]; rfl)
   (fun j hj=>by rw[Nat.add_zero,Nat.add_assoc]; exact Ze _ (hin (off+j) (by omega)))
   F8
  rwa[Nat.add_zero]at hst
 ·obtain⟨cs',h1,h2,h3⟩:=gX g b.ty fr oZ (i*b.sz+off) w cs hg (by rw[hcl]; omega)
  have key:∀p q,p<b.es.length->q<b.sz->∃u,cs'[p*b.sz+q]? =some u/\u.oneCell'=true/\aL ρ (lens M') I w N (((b.es.set i (bM off gC (b.es.getD i []))).getD p []).getD q .bad) u:=by
   intro p q hp hq
   rw[h3,hcl]
   by_cases hpi:p=i
   ·subst hpi
    have e1:(b.es.set p (bM off gC (b.es.getD p []))).getD p []=bM off gC (b.es.getD p []):=by
     simp[List.getD_eq_getElem?_getD,hp]
    rw[e1,mb _ _ _ _ (by omega)]
    by_cases MB:off<=q/\q<off+gC.length
    ·rw[if_pos (by omega),if_pos MB]
     have e2:p*b.sz+q - (p*b.sz+off)=q - off:=by omega
     rw[e2]
     have NC:q - off<oZ.length:=by rw[hcl]; omega
     refine⟨oZ[q - off],List.getElem?_eq_getElem NC,F8 _ (List.getElem_mem _),?_⟩
     have:=Zd (q - off) (by omega)
     rwa[List.getD_eq_getElem?_getD (l:=oZ),List.getElem?_eq_getElem NC,Option.getD_some]at this
    ·rw[if_neg (by omega),if_neg MB]
     exact hc p q hp hq
   ·have e1:(b.es.set i (bM off gC (b.es.getD i []))).getD p []=b.es.getD p []:=by
     simp[List.getD_eq_getElem?_getD,List.getElem?_set,Ne.symm hpi]
    rw[e1]
    rw[if_neg]
    ·exact hc p q hp hq
    ·rintro⟨ha,hb'⟩
     rcases Nat.lt_or_gt_of_ne hpi with hlt|hgt
     ·have:(p+1)*b.sz<=i*b.sz:=Nat.mul_le_mul_right _ hlt
      rw[Nat.add_mul,Nat.one_mul]at this
      omega
     ·have:(i+1)*b.sz<=p*b.sz:=Nat.mul_le_mul_right _ hgt
      rw[Nat.add_mul,Nat.one_mul]at this
      omega
  have kq:∀b0,M' n=some b0->b0=b:=fun b0 h0=>by rw[cD]at h0; exact (Option.some.inj h0).symm
  obtain⟨E,W⟩:=hW.put (w':=w.setCells g (i*b.sz+off) oZ) n ⟨b.ty,b.sz,b.es.set i (bM off gC (b.es.getD i [])),none⟩ g cap cs' fr
   (os_setCells _ _ _ _) (gY _ _ _ _) (iK _ _ _ _) (by rw[size_setCells]; exact Nat.le_refl _) (fun k _ hk=>eG g _ _ _ _ hk) h1 (fun q hq=>og q (by omega))
   (.inr ⟨cap,hρ,b,cD⟩) (fun b0 h0=>by rw[kq b0 h0,Sf]; exact⟨rfl,by simp[bg.ln],fun _=>hρ⟩) (fun _=>⟨b,cD⟩)
   (fun e he=>by
     rcases List.mem_or_eq_of_mem_set he with he|rfl
     ·exact B.even e he
     ·show (bM _ _ _).length=b.sz
      unfold bM
      rw[List.length_append,List.length_append,List.length_take,List.length_drop,hel]; omega)
   (by simpa using hlc) nO (by rw[h2]; exact hcs) (by simpa using key)
  exact⟨_,E,by rw[bO]; exact W⟩
theorem yV {sz:Nat}:∀ {xs:List (List AV)},(∀e ∈ xs,e.length=sz)->xs.flatten.length=xs.length*sz
 |[],_=>by simp
 |e::r,h=>by
  rw[List.flatten_cons,List.length_append,yV (fun e he=>h e (List.mem_cons_of_mem _ he)),h e List.mem_cons_self,List.length_cons,Nat.add_mul,Nat.one_mul,Nat.add_comm]
theorem vK {sz:Nat}:∀ {xs:List (List AV)} {k:Nat},(∀e ∈ xs,e.length=sz)->k<xs.length*sz->∃p q,p<xs.length/\q<sz/\k=p*sz+q/\xs.flatten.getD k .bad=(xs.getD p []).getD q .bad
 |[],k,_,hk=>by simp at hk
 |e::r,k,h,hk=>by
  have he:=h e List.mem_cons_self
  by_cases hlt:k<sz
  ·refine⟨0,k,by simp,hlt,by simp,?_⟩
   simp only[List.flatten_cons,List.getD_eq_getElem?_getD,List.getElem?_append_left (show k<e.length by omega),List.getElem?_cons_zero,Option.getD_some]
  ·rw[List.length_cons,Nat.add_mul,Nat.one_mul]at hk
   obtain⟨p,q,hp,hq,hkk,hg⟩:=vK (xs:=r) (k:=k - sz) (fun e he=>h e (List.mem_cons_of_mem _ he)) (by omega)
   refine⟨p+1,q,by simpa using hp,hq,by rw[Nat.add_mul,Nat.one_mul]; omega,?_⟩
   rw[List.getD_cons_succ,<-hg]
   simp only[List.flatten_cons,List.getD_eq_getElem?_getD,List.getElem?_append_right (show e.length<=k by omega),he]
theorem DU (hT:dp P T) {x y:Operand} {t t' e n len i off bX:Nat} {Ml:Mem} {b:bg} {K:List (List AV)->Prop} (hM:M=ab Ml) (ho:o.op= .call {callee:= .builtin .copy,args:= #[x,y],argTypes:= #[t,t']})
  (ht:T.d t= .slice e) (hok:(T.d e).ok=true) (bY:ev F x= .ee n len i off bX) (hb:ab Ml n=some b) (hmp:b.mp=none) (hl:b.ln=len) (hi:i<b.es.length) (hfit:off+bX*T.s e<=b.sz)
  (hk:(∃e,P.underlying t'=some (.slice e))\/ P.underlying t'=some .string) (hks:(∃s,ev F y= .str s)->P.underlying t'=some .string) (hkl:(¬ ∃s,ev F y= .str s)->∃e,P.underlying t'=some (.slice e)) (h:oh Ml (T.s e) (ev F y) K):
  ∃xs,K xs/\bN P X o F M (.int .i64 ((min xs.length bX:Nat):Int)) [(n,⟨b.ty,b.sz,b.es.set i (bM off ((xs.take bX).flatten) (b.es.getD i [])),none⟩)] []/\n ∈ (ev F x).names:=by
 have hx:x ∈ o.op.operands.toList:=by simp[ho,Op.operands,Call.operands]
 have hy:y ∈ o.op.operands.toList:=by simp[ho,Op.operands,Call.operands]
 obtain⟨D,it,z,hD,hf,_⟩:=hT t (by rw[ht]; simp)
 have im:=bV ht hf
 subst im
 obtain⟨De,ie,_,FN,MJ,hie,mN,_⟩:=hT e (TD.dT hok)
 obtain⟨xs,hkx,hsrc⟩:=kZ (X:=X) (o:=o) hT hM hy hk hks hkl h
 obtain⟨sl,eQ,eY⟩:=bj (F:=F) x hx (n:=n) (by rw[bY]; simp[AV.names])
 refine⟨xs,hkx,⟨fun p hp=> .inr ⟨sl,eQ,by simp at hp; rw[hp]; exact eY⟩,fun M' N ρ I a w hW hU hN _=> ?_⟩,by rw[bY]; simp[AV.names]⟩
 have r1:=aq hU x hx
 rw[bY]at r1
 have cD:M' n=some b:=(hN sl eQ n eY).trans (by rw[hM]; exact hb)
 have dV:lens M' n=some (len,b.sz):=by rw[aA]; exact⟨b,cD,hl,rfl⟩
 obtain⟨hn,g,cap,c,hρ,hv,_⟩:=mM r1 dV
 obtain⟨vs,hS,hL,ZC⟩:=hsrc M' N ρ I a w hW hU hN
 have FL:(xs.take bX).length=min bX xs.length:=List.length_take
 have uY:∀e' ∈ xs.take bX,e'.length=T.s e:=fun e' he=>hL.2.1 e' (List.mem_of_mem_take he)
 have hfl:=yV uY
 have hle:min xs.length bX*T.s e<=bX*T.s e:=Nat.mul_le_mul_right _ (Nat.min_le_right _ _)
 have hle2:min xs.length bX*T.s e<=xs.length*T.s e:=Nat.mul_le_mul_right _ (Nat.min_le_left _ _)
 rw[FL,Nat.min_comm]at hfl
 have hvl:(vs.take (min xs.length bX*T.s e)).length=((xs.take bX).flatten).length:=by
  rw[hfl,List.length_take,hL.1]; omega
 have hone:∀u ∈ vs.take (min xs.length bX*T.s e),u.oneCell'=true:=fun u hu=>hL.one u (List.mem_of_mem_take hu)
 obtain⟨hst,ρ1,E,W⟩:=DT (P:=P) hW (off:=off) (gC:=(xs.take bX).flatten) (oZ:=vs.take (min xs.length bX*T.s e)) cD hmp hρ hi hvl hone (fun k hk'=>by
  rw[hfl]at hk'
  obtain⟨p,q,hp,hq,hkk,hg⟩:=vK (xs:=xs.take bX) (k:=k) uY (by rw[FL,Nat.min_comm]; exact hk')
  rw[FL]at hp
  obtain⟨u,hu,_,hr⟩:=hL.2.2 p q (by omega) hq
  rw[hg]
  have e1:(xs.take bX).getD p []=xs.getD p []:=by
   simp only[List.getD_eq_getElem?_getD,List.getElem?_take]
   rw[if_pos (by omega)]
  have e2:(vs.take (min xs.length bX*T.s e)).getD k default=u:=by
   rw[List.getD_eq_getElem?_getD,List.getElem?_take,if_pos hk',hkk,hu]; rfl
  rw[e1,e2]; exact hr) (by rw[hfl]; omega)
 unfold bS
 have hrun:(execOp a.eval o).run P w= .ok (.value (.int .i64 ((min xs.length bX:Nat):Int))) (w.setCells g (i*b.sz+off) (vs.take (min xs.length bX*T.s e))):=by
  have hp:=ZC (min xs.length bX) (Nat.min_le_left _ _)
  rw[jd ho]
  have e0:(Array.map a.eval #[x,y])= #[a.eval x,a.eval y]:=by simp
  have em:Nat.min xs.length bX=min xs.length bX:=rfl
  simp only[e0,builtin,hv,Builtin.copy_,Sem.run_bind,run_underlying hD,Result.andThen_ok,hS.len,bE hie,mN,em,hp,Sem.run_pure,List.toList_toArray,hst,goInt]
  simp[hst,run_underlying hD,hS.len,bE hie,mN,hp,goInt,em]
 rw[hrun]
 exact⟨ρ1,I,E,W,.int _ _⟩
theorem Gz (hT:dp P T) {n t e len:Nat} {x y:Operand} {k k':IntKind} (ho:o.op= .makeSlice t x y) (ht:T.d t= .slice e) (hok:(T.d e).ok=true) (hs:bQ (T.z e)=true) (hl:(cells (T.z e)).length=T.s e) (hz:T.s e≠0)
  (hx:ev F x= .int k len) (hy:ev F y= .int k' len) (hlen:len<=iu):bN P X o F M (.bc n len) [(n,⟨e,T.s e,List.replicate len (cells (T.z e)),none⟩)] [n]:=by
 have hx':x ∈ o.op.operands.toList:=by simp[ho,Op.operands]
 have hy':y ∈ o.op.operands.toList:=by simp[ho,Op.operands]
 obtain⟨D,it,z,hD,hf,hi,hsz,_⟩:=hT t (by rw[ht]; simp)
 have im:=bV ht hf
 subst im
 obtain⟨_,ie,ze,_,_,hie,mN,hby,NE,jC⟩:=hT e (TD.dT hok)
 refine qU (cap:=len) (by simp) (fun M' N ρ I a w hW hU=> ?_)
 have hc:bi ρ (lens M') I w N (cells (T.z e)) ze.cells:=by rw[jC]; exact bi.fc (gh _ _ _ _ _ ze) (by rw[<-jC]; exact hs)
 have r1:=bG (hx ▸ aq hU x hx')
 have r2:=bG (hy ▸ aq hU y hy')
 have hmax:len<=maxLen:=by simp only[maxLen,iu]at *; omega
 have hrow:=jb.F9 (n:=len) hc hl hz
 refine⟨madeCells ze.cells (len*ie.size),?_,by rw[size_madeCells,mN],Nat.le_refl _,hmax,by rw[mN]; exact hrow⟩
 have hb:(ie.bytes:Int)* (len:Int)<=281474976710656:=by
  have h1:ie.bytes*len<=131072*1073741824:=Nat.mul_le_mul hby hlen
  have h2:((ie.bytes*len:Nat):Int)<=281474976710656:=by omega
  rwa[Int.natCast_mul]at h2
 have h3:=run_make (P:=P) w t e ie ze hD hie NE k k' (len:Int) (len:Int) (by omega) (Int.le_refl _) hb (by simp only[iu]at hlen; omega)
 simp only[execOp,ho,r1,r2,Sem.run_bind,h3,Result.andThen_ok,Sem.run_pure,Int.toNat_natCast]
theorem GA (hT:dp P T) {n s t e:Nat} {x:Operand} {l:List UInt8} (ho:o.op= .convert s t x) (hs:T.d s= .str) (ht:T.d t= .slice e) (he:T.d e= .int .u8) (hx:ev F x= .str l) (hlen:l.length<=iu):
  bN P X o F M (.bc n l.length) [(n,⟨e,1,l.map fun c=>[AV.int .u8 c.toNat],none⟩)] [n]:=by
 have hx':x ∈ o.op.operands.toList:=by simp[ho,Op.operands]
 obtain⟨D,_,_,Yh,hf,_⟩:=hT s (by rw[hs]; simp)
 have:=gl hs hf
 subst this
 obtain⟨D,_,_,ZB,hf,_⟩:=hT t (by rw[ht]; simp)
 have:=bV ht hf
 subst this
 obtain⟨D,_,_,FN,hf,_⟩:=hT e (by rw[he]; simp)
 have:=fits_int he hf
 subst this
 refine⟨fun p hp=> .inl (by simp at hp; simp[hp]),fun M' N ρ I ac w hW hU hN hF=> ?_⟩
 have hn:¬N n:=hF n (by simp)
 have r1:=gW (hx ▸ aq hU x hx')
 have hd:∀b0,M' n=some b0->False:=fun b0 h0=>hn (hW.aT n b0 h0).lt
 have hsz:(⟨l.toArray⟩:ByteArray).size=l.length:=by show l.toArray.size=_; simp
 have hge:=grownCap_ge w l.length 0 e
 have nO:=grownCap_le_maxLen w l.length 0 e (by simp only[maxLen,iu]at *; omega)
 have hcs:(Lib.bytesCells w e ⟨l.toArray⟩).size=grownCap w l.length 0 e:=by
  simp only[Lib.bytesCells,Array.size_append,Array.size_map,Array.size_replicate,hsz,List.size_toArray]; omega
 have hrow:∀i j,i<l.length->j<1->∃u,(Lib.bytesCells w e ⟨l.toArray⟩)[i*1+j]? =some u/\u.oneCell'=true/\aL ρ (lens M') I w N (((l.map fun c=>[AV.int .u8 (c.toNat:Int)]).getD i []).getD j .bad) u:=by
  intro i j hi hj
  have ZD:j=0:=by omega
  subst ZD
  refine⟨.int .u8 (l[i].toNat:Int),?_,rfl,?_⟩
  ·rw[Nat.mul_one,Nat.add_zero,Lib.bytesCells,Array.getElem?_append_left (by simpa using hi)]
   simp[hi]
  ·have:((l.map fun c=>[AV.int .u8 (c.toNat:Int)]).getD i []).getD 0 .bad= .int .u8 (l[i].toNat:Int):=by simp[List.getD_eq_getElem?_getD,hi]
   rw[this]; exact .int _ _
 obtain⟨E,W⟩:=hW.put (w':=Lib.bytesWorld w e ⟨l.toArray⟩) n ⟨e,1,l.map fun c=>[AV.int .u8 (c.toNat:Int)],none⟩ w.heap.size (grownCap w l.length 0 e) (Lib.bytesCells w e ⟨l.toArray⟩) ((Lib.bytesCells w e ⟨l.toArray⟩).size,(Lib.bytesCells w e ⟨l.toArray⟩).size+1)
  rfl rfl rfl (by rw[Lib.bytesWorld_size]; omega) (fun k hk _=>Lib.bytesWorld_at_old w e _ k hk) (Lib.bytesWorld_at_new w e _) (fun o h1 h2=>by omega)
  (.inl (Nat.le_refl _)) (fun b0 h0=>(hd b0 h0).elim) (fun h=>(hn h).elim) (fun r hr=>by obtain⟨_,_,rfl⟩:=List.mem_map.1 hr; rfl) (by simpa using hge) nO (by rw[hcs]; simp) (by simpa using hrow)
 unfold bS
 have hrun:(execOp ac.eval o).run P w= .ok (.value (.slice (some ⟨w.heap.size,0,none⟩) l.length (grownCap w l.length 0 e))) (Lib.bytesWorld w e ⟨l.toArray⟩):=by
  have:=Lib.run_convert_string_bytes (P:=P) w s t e ⟨l.toArray⟩ Yh ZB FN
  simp only[execOp,ho,r1,Sem.run_bind,this,Result.andThen_ok,Sem.run_pure,hsz]
 rw[hrun]
 refine⟨_,I,E,by rw[bO]; exact W,?_⟩
 refine kY (sz:=1) (.inr ⟨_,List.mem_singleton.2 rfl⟩) ?_ (by simp[iI])
 show lens (cX M' n _) n=_
 rw[cO,if_pos rfl]; simp[bg.ln]
end Go.AM
namespace Go.AM
open Go.RowKit
variable {P:Program} {T:TT} {X:cq} {o:Oper} {F:aW} {M:bv}
section
variable {w:World} {t tx ty e:TypeId} {i:TypeInfo} {z:Value} {k k':IntKind} {n:Nat}
theorem j5 {zz:Array Value} {m:Nat} (h:m*zz.size=0):Builtin.zeroCells zz m= #[]:=by
 simp[Builtin.zeroCells,h]
theorem wrap_small (h:n<=iu):IntKind.i64.wrap (n:Int)=n:=by
 simp only[iu]at h
 simp only[IntKind.wrap,IntKind.bits,IntKind.signed]; simp; omega
theorem j6 (ht:P.underlying t=some (.slice e)) (hx:P.underlying tx=some (.int k)) (hi:P.info? e=some i) (hz:i.zero=some z) (hzs:z.cells.size=i.size) (hn:n<=iu) (hby:i.bytes<=131072)
  (base:Option Addr) (sLen sCap:Nat) (hroom:sLen+n<=sCap) (w':World)
  (hst:∀a,base=some a->(storeCells (a.add (sLen*i.size)) (Builtin.zeroCells z.cells n).toList).run P w= .ok () w') (h0:base=none->w'=w):
  (Builtin.append_ #[t,tx] ty #[.slice base sLen sCap,.int k' n]).run P w= .ok (.slice base (sLen+n) sCap) w':=by
 have h48:¬ (281474976710656< (n:Int)* (i.bytes:Int)):=by
  have h1:n*i.bytes<=1073741824*131072:=Nat.mul_le_mul hn hby
  have h2:((n*i.bytes:Nat):Int)<=281474976710656:=by omega
  rw[Int.natCast_mul]at h2; omega
 have hneg:¬ ((n:Int)<0):=by omega
 have hap:(if n*i.size=0 then (pure #[]:Sem (Array Value))else do pure (Builtin.zeroCells (<-zeroValue e).cells n)).run P w= .ok (Builtin.zeroCells z.cells n) w:=by
  split
  ·rename_i h
   rw[j5 (by rw[hzs]; exact h)]; simp
  ·simp[zeroValue,typeInfo,hi,hz]
 cases base with
 |none=>
  have:=h0 rfl
  subst this
  simp[Builtin.append_,run_underlying ht,run_underlying hx,sizeOf,typeInfo,zeroValue,hz,hi,wrap_small hn,hneg,h48,hroom,asInt,asIntOf]
 |some a=>
  have hst:=hst a rfl
  simp[Builtin.append_,run_underlying ht,run_underlying hx,sizeOf,typeInfo,zeroValue,hz,hi,wrap_small hn,hneg,h48,hroom,asInt,asIntOf]at hap hst ⊢
  by_cases h:n*i.size=0
  ·have h2:=hap h
   rw[h2]at hst
   simp[h,hst]
  ·simp[h,hst]
theorem j7 (ht:P.underlying t=some (.slice e)) (hx:P.underlying tx=some (.int k)) (hi:P.info? e=some i) (hz:i.zero=some z) (hzs:z.cells.size=i.size) (hn:n<=iu) (hby:i.bytes<=131072)
  (base:Option Addr) (sLen sCap:Nat) (olds:List Value) (hold:(Builtin.firstCells i.size sLen (.slice base sLen sCap)).run P w.drew= .ok olds.toArray w.drew)
  (hg:sCap<sLen+n) (h63:((sLen+n:Nat):Int)<=9223372036854775807) (hfit:Builtin.nextslicecap (sLen+n) sCap*i.bytes<=281474976710656):
  (Builtin.append_ #[t,tx] ty #[.slice base sLen sCap,.int k' n]).run P w= .ok (.slice (some ⟨w.heap.size,0,none⟩) (sLen+n) (grownCap w (sLen+n) sCap e))
    (w.drew.alloc (.cells ((olds++(Builtin.zeroCells z.cells n).toList).toArray++Builtin.zeroCells z.cells (grownCap w (sLen+n) sCap e - (sLen+n))) e)):=by
 have h48:¬ (281474976710656< (n:Int)* (i.bytes:Int)):=by
  have h1:n*i.bytes<=1073741824*131072:=Nat.mul_le_mul hn hby
  have h2:((n*i.bytes:Nat):Int)<=281474976710656:=by omega
  rw[Int.natCast_mul]at h2; omega
 have hneg:¬ ((n:Int)<0):=by omega
 have hnr:¬ (sLen+n<=sCap):=by omega
 have h63':¬ (9223372036854775807< ((sLen:Int)+ (n:Int))):=by omega
 have ZE:¬ (281474976710656<Builtin.nextslicecap (sLen+n) sCap*i.bytes):=by omega
 have hap:(if n*i.size=0 then (pure #[]:Sem (Array Value))else do pure (Builtin.zeroCells (<-zeroValue e).cells n)).run P w.drew= .ok (Builtin.zeroCells z.cells n) w.drew:=by
  split
  ·rename_i h
   rw[j5 (by rw[hzs]; exact h)]; simp
  ·simp[zeroValue,typeInfo,hi,hz]
 simp[Builtin.append_,run_underlying ht,run_underlying hx,sizeOf,typeInfo,zeroValue,hi,hz,wrap_small hn,hneg,h48,hnr,h63',ZE,asInt,asIntOf,Question.forced,hold,newRow,grownCap]at hap ⊢
 by_cases h:n*i.size=0
 ·have h2:=hap h
  simp[h,h2]
 ·simp[h]
  congr 2
  apply Array.ext'
  simp[List.append_assoc]
end
theorem vM {ρ:Place} {L:aZ} {I:Nat->Prop} {w:World} {N:Nat->Prop} {z:Value} {a:AV} {sz n:Nat} (h:bi ρ L I w N (cells a) z.cells) (hl:(cells a).length=sz) (hpos:sz≠0):
  dx ρ L I w N sz (List.replicate n (cells a)) (Builtin.zeroCells z.cells n).toList:=by
 have hz:z.cells.size=sz:=by rw[h.1,hl]
 have hr:=jb.F9 (n:=n) h hl hpos
 have e:Builtin.zeroCells z.cells n=(Array.range (n*sz)).map (z.cells[· % z.cells.size]!):=by simp only[Builtin.zeroCells,hz]
 rw[e]
 refine⟨by simp,hr.2.1,fun i j hi hj=> ?_⟩
 obtain⟨u,hu,h1⟩:=hr.2.2 i j hi hj
 exact⟨u,by rw[Array.getElem?_toList]; exact hu,h1⟩
def o9 (T:TT) (t:Nat) (s x:AV) (S:St) (K:AV->Mem->Nat->Prop):Prop:=
 match T.d t,x with
 | .slice e,.int _ m=>
   (match s with
   | .bc n len=>alive S.M n len fun b=>jE (b.sz==T.s e&&b.ty==e) ((0<=m/\len+m.toNat<=iu)/\
       K (.bc n (len+m.toNat)) (gJ S.M n ⟨b.ty,b.sz,b.es++List.replicate m.toNat (cells (T.z e)),none⟩) S.nx)
   | .ai=>(0<=m/\m.toNat<=iu)/\K (.bc S.nx m.toNat) (gJ S.M S.nx ⟨e,T.s e,List.replicate m.toNat (cells (T.z e)),none⟩) (S.nx+1)
   |_=>False)
 |_,_=>False
theorem xn (hT:dp P T) {s x:Operand} {t t' nx:Nat} {Ml:Mem} {K:AV->Mem->Nat->Prop} (hM:M=ab Ml) (ho:o.op= .call {callee:= .builtin .append,args:= #[s,x],argTypes:= #[t,t']})
  (hok:∀e,T.d t= .slice e->(T.d e).ok=true/\bQ (T.z e)=true/\(cells (T.z e)).length=T.s e/\T.s e≠0) (hint:∃k,T.d t'= .int k)
  (h:o9 T t (ev F s) (ev F x) ⟨F,Ml,nx⟩ K):
  ∃av n b nw aY,bN P X o F M av [(n,b)] nw/\K av (gJ Ml n b) aY/\((nw=[nx]/\aY=nx+1/\n=nx)\/(aY=nx/\nw=[]/\n ∈ (ev F s).names)):=by
 have hs:s ∈ o.op.operands.toList:=by simp[ho,Op.operands,Call.operands]
 have hx:x ∈ o.op.operands.toList:=by simp[ho,Op.operands,Call.operands]
 unfold o9 at h
 cases ht:T.d t with
 |slice e=>
  cases Ym:ev F x with
  |int kx m=>
   rw[ht,Ym]at h
   simp only at h
   obtain⟨D,it,z0,hD,hf,_⟩:=hT t (by rw[ht]; simp)
   have im:=bV ht hf
   subst im
   obtain⟨NG,oU,hcl,hpos⟩:=hok e ht
   obtain⟨_,ie,z,_,_,hie,mN,hby,hz,jC⟩:=hT e (TD.dT NG)
   obtain⟨k',hk'⟩:=hint
   obtain⟨D',_,_,RM,hfx,_⟩:=hT t' (by rw[hk']; simp)
   have:=fits_int hk' hfx
   subst this
   have hzs:z.cells.size=T.s e:=by
    have:=(bi.fc (ρ:=fun _=>none) (L:=fun _=>none) (I:=fun _=>False) (w:=default) (N:=cJ) (gh _ _ _ _ _ z) (by rw[<-jC]; exact oU)).1
    rw[this,<-jC,hcl]
   have DV:z.cells.size=ie.size:=by rw[hzs,mN]
   have hfit:∀need old,old<need->need<=iu->Builtin.nextslicecap need old*ie.bytes<=281474976710656:=fun need old h1 h2=>by
    refine growslice_fits h1 ?_
    calc need*ie.bytes<=iu*131072:=Nat.mul_le_mul h2 hby
     _=140737488355328:=by simp[iu]
   have hcells:∀ (ρ:Place) (L:aZ) (I:Nat->Prop) (w:World) (N:Nat->Prop),bi ρ L I w N (cells (T.z e)) z.cells:=fun ρ L I w N=>by rw[jC]; exact bi.fc (gh _ _ _ _ _ z) (by rw[<-jC]; exact oU)
   cases hss:ev F s with
   |bc n len=>
    rw[hss]at h
    simp only[alive]at h
    cases hb:ab Ml n with
    |none=>rw[hb]at h; exact h.elim
    |some b=>
     rw[hb]at h
     obtain⟨hc1,hmp,h2⟩:=ax h
     obtain⟨kn,⟨hm0,iy⟩,hk⟩:=ax h2
     have hl:b.es.length=len:=(bg.dg hmp).symm.trans (by simpa using hc1)
     simp only[Bool.and_eq_true,beq_iff_eq]at kn
     obtain⟨hsz,AY⟩:=kn
     generalize hmn:m.toNat=q at*
     obtain rfl:m=(q:Int):=by omega
     obtain⟨sl,eQ,eY⟩:=bj (F:=F) s hs (n:=n) (by rw[hss]; simp[AV.names])
     refine⟨_,n,_,[],nx,?_,hk,.inr ⟨rfl,rfl,by simp[AV.names]⟩⟩
     refine⟨fun p hp=> .inr ⟨sl,eQ,by simp at hp; rw[hp]; exact eY⟩,fun M' N ρ I a w hW hU hN _=> ?_⟩
     have cD:M' n=some b:=(hN sl eQ n eY).trans (by rw[hM]; exact hb)
     have dV:lens M' n=some (b.es.length,b.sz):=by rw[aA]; exact⟨b,cD,bg.dg hmp,rfl⟩
     have hL:=vM (n:=q) (hcells ρ (lens M') I w N) hcl hpos
     have RN:q<=iu:=by omega
     have r1:=aq hU s hs
     rw[hss]at r1
     have r2:=bG (Ym ▸ aq hU x hx)
     subst hl
     obtain⟨hn,h2⟩:=jO r1 dV
     unfold bS
     rw[dO ho,r2]
     rw[<-hsz]at hL
     have hxl:(List.replicate q (cells (T.z e))).length=q:=by simp
     rcases h2 with⟨h0,r,hv⟩|⟨g,cap,hρ,hv⟩
     ·have hB:=hW.aT n b cD
      have he:b.es=[]:=hB.eD h0
      rw[hv]
      by_cases hx0:q=0
      ·subst hx0
       have hz0:(Builtin.zeroCells z.cells 0).toList=[]:=by rw[j5 (by simp)]
       have hrun:=j6 (P:=P) (w:=w) (t:=t) (tx:=t') (ty:=o.type) (k':=kx) hD RM hie hz DV RN hby r 0 0 (by simp) w (fun a ha=>by rw[hz0]; simp[storeCells]) (fun _=>rfl)
       rw[hrun]
       refine⟨ρ,I,?_,?_,?_⟩
       ·show mI N ρ (lens M') I w ρ (lens (cX M' n _)) I w
        have:(⟨b.ty,b.sz,b.es++List.replicate 0 (cells (T.z e)),none⟩:bg)=b:=by have:=hmp; cases b; simp_all
        rw[this,mO cD]; exact mI.refl _ _ _ _ _
       ·show c9 X ρ I (cX M' n _) _ w
        have:(⟨b.ty,b.sz,b.es++List.replicate 0 (cells (T.z e)),none⟩:bg)=b:=by have:=hmp; cases b; simp_all
        rw[this,mO cD]
        have Jy:fM N [(n,b)]=N:=by
         rw[bO]; funext m; simp only[AK,eq_iff_iff]
         exact⟨fun h=>h.elim (fun e=>e ▸ hn) id,.inr⟩
        rw[bO]at Jy ⊢
        rw[Jy]; exact hW
       ·refine .bc n _ _ (.inl hn) rfl fun l AS ol=> ?_
        have:(⟨b.ty,b.sz,b.es++List.replicate 0 (cells (T.z e)),none⟩:bg)=b:=by have:=hmp; cases b; simp_all
        rw[this]at ol
        change lens (cX M' n b) n=_ at ol
        rw[cO,if_pos rfl,bg.dg hmp]at ol
        simp at ol
        exact⟨by omega,fun _=> .inl ⟨h0,r,rfl⟩⟩
      ·have NH:(Builtin.firstCells ie.size 0 (.slice r 0 0)).run P w.drew= .ok #[] w.drew:=by
        cases r with
        |none=>exact run_firstCells_none w.drew ie.size 0 0 0
        |some a=>exact run_firstCells_some w.drew ie.size 0 a 0 0 [] (by simp) (fun j v hv=>by simp at hv)
       have hrun:=j7 (P:=P) (w:=w) (t:=t) (tx:=t') (ty:=o.type) (k':=kx) (n:=q) hD RM hie hz DV RN hby r 0 0 [] NH (by omega) (by simp[iu]at RN ⊢; omega) (hfit _ _ (by omega) (by omega))
       rw[hrun]
       have hJ:=kw (X:=X) (e:=e) (olds:=[]) (old:=0) (z:=z) hW (fun _=>⟨b,cD⟩) (fun b0 h0=>by rw[cD]at h0; cases h0; exact⟨rfl,he,hmp⟩) (by rw[hxl]; omega) ⟨by simp,by simp,fun i j hi=>by simp at hi⟩ hL (by rw[hzs,hsz]) (by rw[hxl]; simpa using RN)
       have e1:b.es.length+q=([]:List (List AV)).length+ (List.replicate q (cells (T.z e))).length:=by rw[he,hxl]
       have e2:(⟨b.ty,b.sz,b.es++List.replicate q (cells (T.z e)),none⟩:bg)=⟨e,b.sz,[]++List.replicate q (cells (T.z e)),none⟩:=by rw[he,AY]
       have e3:0+q=([]:List (List AV)).length+ (List.replicate q (cells (T.z e))).length:=by rw[hxl]; rfl
       rw[e1,e2,e3]
       exact hJ
     ·rw[hv]
      by_cases hroom:b.es.length+q<=cap
      ·obtain⟨g1,g2,g3⟩:=yG hW cD hmp hρ hL (by rw[hxl]; exact hroom)
       have hone:∀u ∈ (Builtin.zeroCells z.cells q).toList,u.oneCell'=true:=hL.one
       have hst:=run_storeCells_cells (P:=P) g (0+b.es.length*b.sz) _ 0 w (by simpa using g1) (by simpa using g2) hone
       have hrun:=j6 (P:=P) (w:=w) (t:=t) (tx:=t') (ty:=o.type) (k':=kx) hD RM hie hz DV RN hby (some ⟨g,0,none⟩) b.es.length cap hroom (w.setCells g (0+b.es.length*b.sz) (Builtin.zeroCells z.cells q).toList)
        (fun a ha=>by
          cases ha
          rw[cg,mN,<-hsz]
          simpa using hst) (fun h=>by cases h)
       rw[hrun]
       rw[hxl]at g3
       exact g3
      ·have hB:=hW.aT n b cD
       obtain⟨olds,ME,Sj⟩:=hB.list hmp hρ
       have Zo:(Builtin.firstCells ie.size b.es.length (.slice (some ⟨g,0,none⟩) b.es.length cap)).run P w.drew= .ok olds.toArray w.drew:=
        run_firstCells_some (P:=P) w.drew ie.size b.es.length _ _ _ _ (by rw[mN,<-hsz]; exact ME.1) (fun k u hu=>by rw[cg,Nat.zero_add]; exact Sj k u hu)
       have hrun:=j7 (P:=P) (w:=w) (t:=t) (tx:=t') (ty:=o.type) (k':=kx) (n:=q) hD RM hie hz DV RN hby _ b.es.length cap olds Zo (by omega) (by simp[iu]at iy ⊢; omega) (hfit _ _ (by omega) iy)
       rw[hrun]
       have hJ:=kw (X:=X) (e:=e) (old:=cap) (z:=z) hW (fun _=>⟨b,cD⟩) (fun b0 h0=>by rw[cD]at h0; cases h0; exact⟨rfl,rfl,hmp⟩)
        (by
          have hcap:b.es.length<=cap:=by obtain⟨_,_,_,_,_,_,hh,_⟩:=hB.real g cap hρ; exact hh
          rw[hxl]; omega) ME hL (by rw[hzs,hsz]) (by rw[hxl]; exact iy)
       rw[hxl]at hJ
       rw[<-AY]at hJ ⊢
       exact hJ
   |ai=>
    rw[hss]at h
    obtain⟨⟨hm0,iy⟩,hk⟩:=h
    generalize hmn:m.toNat=q at*
    obtain rfl:m=(q:Int):=by omega
    refine⟨_,nx,_,[nx],nx+1,?_,hk,.inl ⟨rfl,rfl,rfl⟩⟩
    refine⟨fun p hp=> .inl (by simp at hp; simp[hp]),fun M' N ρ I a w hW hU hN hF=> ?_⟩
    have hn:¬N nx:=hF nx (by simp)
    have hL:=vM (n:=q) (hcells ρ (lens M') I w N) hcl hpos
    have r1:=aq hU s hs
    have r2:=bG (Ym ▸ aq hU x hx)
    rw[hss]at r1
    generalize hv:a.eval s=v at r1
    cases r1
    unfold bS
    rw[dO ho,hv,r2]
    have hxl:(List.replicate q (cells (T.z e))).length=q:=by simp
    by_cases hx0:q=0
    ·subst hx0
     have hrun:=j6 (P:=P) (w:=w) (t:=t) (tx:=t') (ty:=o.type) (k':=kx) hD RM hie hz DV iy hby none 0 0 (by simp) w (fun a ha=>by cases ha) (fun _=>rfl)
     rw[hrun]
     obtain⟨E,W⟩:=hW.eD hn e (T.s e)
     refine⟨_,I,E,by rw[bO]; exact W,?_⟩
     refine .bc nx _ _ (.inr ⟨_,List.mem_singleton.2 rfl⟩) rfl fun l AS ol=> ?_
     change lens (cX M' nx _) nx=_ at ol
     rw[cO,if_pos rfl]at ol
     simp[bg.ln]at ol
     exact⟨by omega,fun _=> .inl ⟨by simp,none,rfl⟩⟩
    ·have hrun:=j7 (P:=P) (w:=w) (t:=t) (tx:=t') (ty:=o.type) (k':=kx) (n:=q) hD RM hie hz DV iy hby none 0 0 [] (run_firstCells_none w.drew ie.size 0 0 0) (by omega) (by simp[iu]at iy ⊢; omega) (hfit _ _ (by omega) (by omega))
     rw[hrun]
     have hJ:=kw (X:=X) (n:=nx) (e:=e) (olds:=[]) (oV:=[]) (old:=0) (z:=z) hW (fun h=>(hn h).elim) (fun b0 h0=>(hn (hW.aT nx b0 h0).lt).elim) (by rw[hxl]; omega) ⟨by simp,by simp,fun i j hi=>by simp at hi⟩ hL hzs (by rw[hxl]; simpa using iy)
     have e1:q=([]:List (List AV)).length+ (List.replicate q (cells (T.z e))).length:=by rw[hxl]; simp
     have e2:(⟨e,T.s e,List.replicate q (cells (T.z e)),none⟩:bg)=⟨e,T.s e,[]++List.replicate q (cells (T.z e)),none⟩:=by simp
     have e3:0+q=([]:List (List AV)).length+ (List.replicate q (cells (T.z e))).length:=by rw[hxl]; rfl
     rw[e2,e3]
     show iv X M' N ρ I w (.bc nx q) _ _ _
     have:AV.bc nx q= .bc nx (([]:List (List AV)).length+ (List.replicate q (cells (T.z e))).length):=by rw[<-e1]
     rw[this]
     exact hJ
   |_=>rw[hss]at h; exact h.elim
  |_=>rw[ht,Ym]at h; exact h.elim
 |_=>rw[ht]at h; exact h.elim
end Go.AM
namespace Go.AM
open Go.RowKit
variable {P:Program} {T:TT} {X:cq} {o:Oper} {F:aW} {M:bv}
inductive Sv:LK->Value->Prop
 |i (k:IntKind) (x:Int):Sv .i (.int k x)
 |b (x:Bool):Sv .b (.bool x)
 |s (x:List UInt8):Sv .s (.string ⟨x.toArray⟩)
inductive mi:List LK->List Value->Prop
 |nil:mi [] []
 |cons {l ls v vs} (h:Sv l v) (t:mi ls vs):mi (l::ls) (v::vs)
theorem mi.split:∀ {l1 l2:List LK} {vs:List Value},mi (l1++l2) vs->∃v1 v2,vs=v1++v2/\mi l1 v1/\mi l2 v2/\v1.length=l1.length
 |[],l2,vs,h=>⟨[],vs,rfl,.nil,h,rfl⟩
 |a::l1,l2,_,.cons (v:=v) h t=>by
  obtain⟨v1,v2,rfl,h1,h2,h3⟩:=t.split (l1:=l1)
  exact⟨v::v1,v2,rfl,.cons h h1,h2,by simp[h3]⟩
theorem sQ {d:Nat}:∀ (fl:List Field) (off:Nat) (ls:List LK) (p vs:List Value),xj P (mT P d) fl off=some ls->mi ls vs->p.length=off->
  ∀f ∈ fl,f.name≠ "_" /\∃l mid,mT P d f.type=some l/\mi l mid/\∀w,(part f.type (p++vs).toArray f.offset).run P w= .ok (valOf (aK P f.type) mid) w
 |[],_,_,_,_,_,_,_,f,hf=>by simp at hf
 |x::fl,off,ls,p,vs,hl,hv,hp,f,hf=>by
  simp only[xj]at hl
  split at hl
  ·rename_i hc
   simp only[Bool.and_eq_true,bne_iff_ne,ne_eq,beq_iff_eq]at hc
   split at hl
   ·rename_i l i yR FM
    split at hl
    ·rename_i hsz
     have hsz:i.size=l.length:=by simpa using hsz
     obtain⟨l2,hl2,rfl⟩:∃l2,xj P (mT P d) fl (off+l.length)=some l2/\l++l2=ls:=by simpa using hl
     obtain⟨v1,v2,rfl,h1,h2,h3⟩:=hv.split
     rcases List.mem_cons.1 hf with rfl|hf
     ·obtain⟨D,hD⟩:=Cr yR
      refine⟨hc.1,l,v1,yR,h1,fun w=> ?_⟩
      have p1:=fO (w:=w) hD FM (pre:=p) (mid:=v1) (post:=v2) (by omega) (fun h=>by rw[h3]; exact jS yR h)
      rwa[hp,<-hc.2]at p1
     ·have:=sQ fl (off+l.length) l2 (p++v1) v2 hl2 h2 (by simp; omega) f hf
      rwa[List.append_assoc]at this
    ·simp at hl
   ·simp at hl
  ·simp at hl
theorem vN {d e:Nat} {l:List LK} {i:TypeInfo} (hl:mT P d e=some l) (hi:P.info? e=some i) (hsz:i.size=l.length):∀ (k j:Nat) (p vs:List Value),mi (lQ k l) vs->p.length=j*l.length->
  ∀q ∈ List.range' j k,∃mid,mi l mid/\∀w,(part e (p++vs).toArray (q*i.size)).run P w= .ok (valOf (aK P e) mid) w
 |0,_,_,_,_,_,q,hq=>by simp at hq
 |k+1,j,p,vs,hv,hp,q,hq=>by
  have e1:lQ (k+1) l=l++lQ k l:=by simp[lQ,List.replicate_succ]
  rw[e1]at hv
  obtain⟨v1,v2,rfl,h1,h2,h3⟩:=hv.split
  rw[List.range'_succ]at hq
  rcases List.mem_cons.1 hq with rfl|hq
  ·obtain⟨D,hD⟩:=Cr hl
   refine⟨v1,h1,fun w=> ?_⟩
   have p1:=fO (w:=w) hD hi (pre:=p) (mid:=v1) (post:=v2) (by omega) (fun h=>by rw[h3]; exact jS hl h)
   rwa[hp,<-hsz]at p1
  ·have:=vN hl hi hsz k (j+1) (p++v1) v2 h2 (by rw[List.length_append,hp,h3,Nat.succ_mul]) q hq
   rwa[List.append_assoc]at this
theorem dF {em:Bool}:∀ (d:Nat) (m t:Nat) (ls:List LK) (w:World) (vs:List Value),mT P d t=some ls->mi ls vs->
  (Instr.checkKey em (d+m) t (valOf (aK P t) vs)).run P w= .ok () w
 |0,_,_,_,_,_,h,_=>by simp[mT]at h
 |d+1,m,t,ls,w,vs,h,hv=>by
  have e:d+1+m=(d+m)+1:=by omega
  rw[e]
  have ih:=dF (em:=em) d m
  unfold mT at h
  cases hu:P.underlying t with
  |none=>rw[hu]at h; simp at h
  |some D=>
   rw[hu]at h
   cases D<;>simp only[reduceCtorEq]at h
   case bool=>
    obtain rfl:[LK.b]=ls:=by simpa using h
    have ha:aK P t=false:=by simp[aK,hu]
    rcases hv with _|⟨hl,ht⟩
    cases hl; cases ht
    simp[Instr.checkKey,run_underlying hu]
   case int k=>
    obtain rfl:[LK.i]=ls:=by simpa using h
    have ha:aK P t=false:=by simp[aK,hu]
    rcases hv with _|⟨hl,ht⟩
    cases hl; cases ht
    simp[Instr.checkKey,run_underlying hu]
   case string=>
    obtain rfl:[LK.s]=ls:=by simpa using h
    have ha:aK P t=false:=by simp[aK,hu]
    rcases hv with _|⟨hl,ht⟩
    cases hl; cases ht
    simp[Instr.checkKey,run_underlying hu]
   case struct fs=>
    have ha:aK P t=true:=by simp[aK,hu]
    cases hst:P.stoodInHeld t with
    |true=>simp[hst]at h
    |false=>
     simp only[hst,Bool.false_eq_true,if_false]at h
     have each:=sQ (P:=P) fs.toList 0 ls [] vs h hv rfl
     simp only[List.nil_append]at each
     rw[ha]
     simp only[valOf,if_pos]
     rw[Instr.checkKey]
     simp only[Sem.run_bind,run_underlying hu,Result.andThen_ok]
     rw[<-Array.forIn_toList]
     generalize fs.toList=L at each
     induction L with
     |nil=>simp
     |cons f L ZF=>
      obtain⟨hn,l,mid,h1,h2,h3⟩:=each f (by simp)
      simp only[List.forIn_cons,Sem.run_bind,hn,ne_eq,not_false_eq_true,if_true,h3,ih _ _ _ _ h1 h2,Result.andThen_ok,Sem.run_pure]
      exact ZF (fun y hy=>each y (by simp[hy]))
   case array n e=>
    have ha:aK P t=true:=by simp[aK,hu]
    split at h
    ·rename_i l i yR FM
     split at h
     ·rename_i hsz
      have hsz:i.size=l.length:=by simpa using hsz
      obtain rfl:lQ n l=ls:=by simpa using h
      have each:=vN yR FM hsz n 0 [] vs hv (by simp)
      simp only[List.nil_append]at each
      rw[ha]
      simp only[valOf,if_pos]
      rw[Instr.checkKey]
      simp only[Sem.run_bind,run_underlying hu,Result.andThen_ok]
      simp only[Std.Legacy.Range.forIn_eq_forIn_range',Std.Legacy.Range.size,Nat.sub_zero,Nat.add_one_sub_one,Nat.div_one]
      generalize List.range' 0 n=L at each
      induction L with
      |nil=>simp
      |cons j L ZF=>
       obtain⟨mid,h2,h3⟩:=each j (by simp)
       simp only[List.forIn_cons,Sem.run_bind,bE FM,h3,ih _ _ _ _ yR h2,Result.andThen_ok,Sem.run_pure]
       exact ZF (fun y hy=>each y (by simp[hy]))
     ·simp at h
    ·simp at h
def JI (ag:Bool) (ls:List LK) (GB:List Value) (kc:List AV) (test:List AV->List AV->Bool) (e:MapEntry) (r:List AV):Prop:=
 ∃us rs,e.key=valOf ag us/\ny ls GB us rs/\rs.all id=test kc r
inductive GC {α β:Type} (R:α->β->Prop):List α->List β->Prop
 |nil:GC R [] []
 |cons {a b as bs} (h:R a b) (t:GC R as bs):GC R (a::as) (b::bs)
theorem GC.of {α β:Type} {R:α->β->Prop}:∀ {as:List α} {bs:List β},as.length=bs.length->(∀ (i:Nat) (a:α) (b:β),as[i]? =some a->bs[i]? =some b->R a b)->GC R as bs
 |[],[],_,_=> .nil
 |a::as,b::bs,hl,h=> .cons (h 0 a b rfl rfl) (GC.of (by simpa using hl) fun i x y hx hy=>h (i+1) x y (by simpa using hx) (by simpa using hy))
 |[],_::_,hl,_=>by simp at hl
 |_::_,[],hl,_=>by simp at hl
def dR:List LK->List AV->List AV->Bool
 |[],[],_=>true
 | .i::l,.int k _::r,.int k' _::s=>rX k k'&&dR l r s
 | .b::l,.bool _::r,.bool _::s=>dR l r s
 | .s::l,.str _::r,.str _::s=>dR l r s
 |_,_,_=>false
theorem kA:∀ {ls:List LK} {kc r:List AV},dR ls kc r=true->∃rs,u7 ls kc (r.take kc.length) rs/\rs.all id=kX kc r
 |[],[],r,_=>⟨[],by simpa using u7.nil,by simp[kX]⟩
 | .i::l,.int k x::a,.int k' y::s,h=>by
   simp only[dR,Bool.and_eq_true]at h
   obtain rfl:=iY h.1
   obtain⟨rs,h1,h2⟩:=kA h.2
   exact⟨_,.cons (.i k x y) h1,by simp[kX,h2]⟩
 | .b::l,.bool x::a,.bool y::s,h=>by
   simp only[dR]at h
   obtain⟨rs,h1,h2⟩:=kA h
   exact⟨_,.cons (.b x y) h1,by simp[kX,h2]⟩
 | .s::l,.str x::a,.str y::s,h=>by
   simp only[dR]at h
   obtain⟨rs,h1,h2⟩:=kA h
   exact⟨_,.cons (.s x y) h1,by simp[kX,h2]⟩
def jT (kc:List AV):List MapEntry->List (List AV)->Nat->Option (Nat × Value)
 |e::en,r::es,i=>if kX kc r then some (i,e.val)else jT kc en es (i+1)
 |_,_,_=>none
theorem jg {kc:List AV}:∀ {en:List MapEntry} {es:List (List AV)} {i:Nat},en.length=es.length->
  (bL kc es=none/\jT kc en es i=none)\/∃j e r,bL kc es=some (j,r.drop kc.length)/\jT kc en es i=some (i+j,e.val)/\en[j]? =some e/\es[j]? =some r/\kX kc r=true
 |[],[],_,_=> .inl ⟨rfl,rfl⟩
 |e::en,r::es,i,hl=>by
  simp only[bL,jT]
  by_cases h:kX kc r=true
  ·rw[if_pos h,if_pos h]
   exact .inr ⟨0,e,r,rfl,rfl,rfl,rfl,h⟩
  ·rw[if_neg h,if_neg h]
   rcases jg (kc:=kc) (en:=en) (es:=es) (i:=i+1) (by simpa using hl)with⟨h1,h2⟩|⟨j,e2,r2,h1,h2,h3,h4,h5⟩
   ·exact .inl ⟨by rw[h1]; rfl,h2⟩
   ·exact .inr ⟨j+1,e2,r2,by rw[h1]; rfl,by rw[h2]; congr 2; omega,by simpa using h3,by simpa using h4,h5⟩
 |[],_::_,_,hl=>by simp at hl
 |_::_,[],_,hl=>by simp at hl
theorem NP.same {D:TypeDesc} {l:LK} {v u:Value} {r:Bool} (hD:(D= .bool/\l= .b)\/(∃k,D= .int k/\l= .i)\/(D= .string/\l= .s)) (h:NP l v u r):Instr.sameNow D v u=some r:=by
 rcases hD with⟨rfl,rfl⟩|⟨k,rfl,rfl⟩|⟨rfl,rfl⟩
 ·cases h; simp[Instr.sameNow]
 ·cases h; simp[Instr.sameNow]
 ·cases h
  rename_i x y
  simp only[Instr.sameNow,Option.some.injEq]
  show (x.toArray==y.toArray)=(x==y)
  simp
theorem rb {D:TypeDesc} {l:LK} {kv:Value} {kc:List AV} (hD:(D= .bool/\l= .b)\/(∃k,D= .int k/\l= .i)\/(D= .string/\l= .s)):∀ {en:List MapEntry} {es:List (List AV)} {i:Nat},GC (JI false [l] [kv] kc kX) en es->
  Instr.findNow D kv en i=some (jT kc en es i)
 |_,_,_,.nil=>rfl
 |_,_,i,.cons (a:=e) (b:=r) h t=>by
  obtain⟨us,rs,hk,h4,ht⟩:=h
  cases h4 with
  |cons hl h0=>
   rename_i q rs
   cases h0
   simp only[valOf,Bool.false_eq_true,if_false,List.headD_cons]at hk
   have:=hl.same hD
   simp only[Instr.findNow,jT,hk,this]
   simp only[List.all_cons,List.all_nil,Bool.and_true,id]at ht
   rw[<-ht]
   cases q with
   |true=>rfl
   |false=>exact rb hD t
theorem fF {d t:Nat} {ls:List LK} (hd:d<=10000) (hl:mT P d t=some ls) {GB:List Value} {kc:List AV} (w:World):∀ {en:List MapEntry} {es:List (List AV)} {i:Nat},GC (JI (aK P t) ls GB kc kX) en es->
  (Instr.findAsking t (valOf (aK P t) GB) en i).run P w= .ok (jT kc en es i) w
 |_,_,_,.nil=>by simp[Instr.findAsking,jT]
 |_,_,i,.cons (a:=e) (b:=r) h tl=>by
  obtain⟨us,rs,hk,h4,ht⟩:=h
  have he:=iA d (10000 - d) t ls w GB us rs hl h4
  rw[show d+ (10000 - d)=10000 by omega]at he
  have Yn:(Op.equal t (valOf (aK P t) GB) e.key).run P w= .ok (rs.all id) w:=by rw[hk]; exact he
  simp only[Instr.findAsking,Sem.run_bind,Yn,Result.andThen_ok,jT,ht]
  cases kX kc r with
  |true=>simp
  |false=>simpa using fF hd hl w tl
theorem fy {d t:Nat} {ls:List LK} (hd:d<=10000) (hl:mT P d t=some ls) {GB:List Value} {kc:List AV} (w:World) (hkl:mi ls GB) {en:List MapEntry} {es:List (List AV)} (h:GC (JI (aK P t) ls GB kc kX) en es):
  (Instr.findKey t (valOf (aK P t) GB) en).run P w= .ok (jT kc en es 0) w:=by
 cases d with
 |zero=>simp[mT]at hl
 |succ d=>
  have ol:=hl
  unfold mT at hl
  cases hu:P.underlying t with
  |none=>rw[hu]at hl; simp at hl
  |some D=>
   rw[hu]at hl
   have plain:∀l,ls=[l]->aK P t=false->((D= .bool/\l= .b)\/(∃k,D= .int k/\l= .i)\/(D= .string/\l= .s))->(Instr.findKey t (valOf (aK P t) GB) en).run P w= .ok (jT kc en es 0) w:=by
    intro l hls ha hD
    subst hls
    rcases hkl with _|⟨h1,h0⟩
    cases h0
    rw[ha]at h ⊢
    simp only[valOf,Bool.false_eq_true,if_false,List.headD_cons]
    exact MapKept.run_findKey hu (rb hD h)
   cases D<;>simp only[reduceCtorEq]at hl
   case bool=>exact plain .b (by simpa using hl.symm) (by simp[aK,hu]) (.inl ⟨rfl,rfl⟩)
   case int k=>exact plain .i (by simpa using hl.symm) (by simp[aK,hu]) (.inr (.inl ⟨k,rfl,rfl⟩))
   case string=>exact plain .s (by simpa using hl.symm) (by simp[aK,hu]) (.inr (.inr ⟨rfl,rfl⟩))
   case struct fs=>
    rw[run_findKey_eq w (by rw[hu])]
    exact fF hd ol w h
   case array n e=>
    rw[run_findKey_eq w (by rw[hu])]
    exact fF hd ol w h
theorem ny.eq:∀ {ls:List LK} {vs us:List Value} {rs:List Bool},ny ls vs us rs->rs.all id=true->us=vs
 |_,_,_,_,.nil,_=>rfl
 |_,_,_,_,.cons h t,hr=>by
  simp only[List.all_cons,Bool.and_eq_true,id]at hr
  rw[t.eq hr.2]
  congr 1
  cases h<;>simp_all
theorem ny.Sw:∀ {ls:List LK} {vs us:List Value} {rs:List Bool},ny ls vs us rs->mi ls vs
 |_,_,_,_,.nil=> .nil
 |_,_,_,_,.cons h t=> .cons (by cases h<;>constructor) t.Sw
theorem nS {n:Nat} {l:LK} {v:Value} (h:Sv l v):Instr.sameBits n v v=true:=by
 cases h<;>cases n<;>simp[Instr.sameBits,MapKept.bytes_beq]
theorem pa {n:Nat}:∀ {ls:List LK} {vs:List Value},mi ls vs->(vs.zip vs).all (fun q=>Instr.sameBits n q.1 q.2)=true
 |_,_,.nil=>rfl
 |_,_,.cons h t=>by simp[nS h,pa t]
theorem pb {ag:Bool} {ls:List LK} {vs:List Value} (h:mi ls vs) (hone:ag=false->ls.length=1) (w:World):(Instr.keyThatStays (valOf ag vs) (valOf ag vs)).run P w= .ok (valOf ag vs) w:=by
 have:Instr.sameBits 10000 (valOf ag vs) (valOf ag vs)=true:=by
  cases ag with
  |true=>
   simp only[valOf,if_true]
   have:=pa (n:=9999) h
   simp[Instr.sameBits,this]
  |false=>
   obtain⟨l,rfl⟩:=List.length_eq_one_iff.1 (hone rfl)
   rcases h with _|⟨h1,h0⟩
   cases h0
   exact nS h1
 simp[Instr.keyThatStays,this]
end Go.AM
namespace Go.AM
open Go.RowKit Go.MapKept
variable {P:Program} {T:TT} {X:cq} {o:Oper} {F:aW} {M:bv}
def AV.jH:AV->Bool
 | .agg _=>true
 |_=>false
def pe (ag:Bool) (l:List AV):AV:=if ag then .agg l else l.headD .bad
section
variable {ρ ρ':Place} {L L':aZ} {I I':Nat->Prop} {w w':World} {N N':Nat->Prop}
theorem dN {v:Value} (h:v.oneCell'=true):ga v=false/\aJ v=[v]:=by cases v<;>first|exact⟨rfl,rfl⟩|simp[Value.oneCell']at h
theorem fG (v:Value):valOf (ga v) (aJ v)=v:=by cases v<;>simp[valOf,ga,aJ]
theorem dz {a:AV} {v:Value} (h:aL ρ L I w N a v) (hs:bQ a=true):ga v=a.jH/\(aJ v).length=(cells a).length/\(∀u ∈ aJ v,u.oneCell'=true)/\∀j,j< (cells a).length->aL ρ L I w N ((cells a).getD j .bad) ((aJ v).getD j default):=by
 have key:ga v=a.jH/\aJ v=v.cells.toList:=by
  cases h with
  |bad=>simp[bQ]at hs
  |aN=>simp[bQ]at hs
  |agg cs vs hl h1 hr=>exact⟨rfl,rfl⟩
  |loc n len i off _ hn h1 h=>rw[(dN h1).1,(dN h1).2,eX h1]; exact⟨rfl,rfl⟩
  |bc n len _ hn h1 h=>rw[(dN h1).1,(dN h1).2,eX h1]; exact⟨rfl,rfl⟩
  |ee n len i off bX _ hn h1 h=>rw[(dN h1).1,(dN h1).2,eX h1]; exact⟨rfl,rfl⟩
  |omap n _ hn h1 h=>rw[(dN h1).1,(dN h1).2,eX h1]; exact⟨rfl,rfl⟩
  |_=>exact⟨rfl,rfl⟩
 obtain⟨h1,h2,h3⟩:=p' h hs
 rw[key.2]
 exact⟨key.1,h1,h2,h3⟩
structure qd (ρ:Place) (L:aZ) (I:Nat->Prop) (w:World) (N:Nat->Prop) (k:Nat) (ka va:Bool) (sz:Nat) (key val:Value) (r:List AV):Prop where
 rl:r.length=sz
 kl:(aJ key).length=k
 fl:k+ (aJ val).length=sz
 ka:ga key=ka
 va:ga val=va
 cell:∀j,j<sz->((aJ key++aJ val).getD j default).oneCell'=true/\aL ρ L I w N (r.getD j .bad) ((aJ key++aJ val).getD j default)
structure nz (ρ:Place) (L:aZ) (I:Nat->Prop) (w:World) (N:Nat->Prop) (k:Nat) (ka va:Bool) (sz:Nat) (es:List (List AV)) (en:Array MapEntry):Prop where
 len:en.size=es.length
 row:∀ (i:Nat) (e:MapEntry) (r:List AV),en[i]? =some e->es[i]? =some r->qd ρ L I w N k ka va sz e.key e.val r
structure mj (dn:Dn) (en:Array MapEntry) (ck:Nat):Prop where
 born:∀ (i j:Nat) (e f:MapEntry),en[i]? =some e->en[j]? =some f->i<j->e.born<f.born
 clock:∀ (i:Nat) (e:MapEntry),en[i]? =some e->e.born<ck
 den:dn.all=true->ck=en.size/\∀ (i:Nat) (e:MapEntry),en[i]? =some e->e.born=i
variable {k sz:Nat} {ka va:Bool} {dn:Dn} {es:List (List AV)} {en:Array MapEntry} {ck:Nat}
def jh (sz:Nat) (en:Array MapEntry):Array Value:=Array.ofFn fun p:Fin (maxLen*sz)=>((en[p.val / sz]?).map fun e=>(aJ e.key++aJ e.val).getD (p.val % sz) undef).getD undef
theorem vO (hsz:sz≠0) {i j:Nat} {e:MapEntry} (he:en[i]? =some e) (hi:i<maxLen) (hj:j<sz):(jh sz en)[i*sz+j]? =some ((aJ e.key++aJ e.val).getD j undef):=by
 have hlt:i*sz+j<maxLen*sz:=by
  have:(i+1)*sz<=maxLen*sz:=Nat.mul_le_mul_right _ hi
  rw[Nat.add_mul,Nat.one_mul]at this; omega
 have h1:(i*sz+j) / sz=i:=by rw[Nat.add_comm,Nat.add_mul_div_right _ _ (Nat.pos_of_ne_zero hsz),Nat.div_eq_of_lt hj,Nat.zero_add]
 have h2:(i*sz+j) % sz=j:=by rw[Nat.add_comm,Nat.add_mul_mod_self_right,Nat.mod_eq_of_lt hj]
 unfold jh
 rw[Array.getElem?_eq_getElem (by simpa using hlt),Array.getElem_ofFn]
 simp only[h1,h2,he,Option.map_some,Option.getD_some]
theorem qe (hsz:sz≠0) (hR:nz ρ L I w N k ka va sz es en) (hC:mj dn en ck) (hle:es.length<=maxLen):yz k ka va dn sz en ck (jh sz en):=by
 have row:∀ (i:Nat) (e:MapEntry),en[i]? =some e->i<maxLen/\∃r,qd ρ L I w N k ka va sz e.key e.val r:=fun i e he=>by
  have hlt:=(Array.getElem?_eq_some_iff.1 he).1
  have xm:i<es.length:=by rw[<-hR.len]; exact hlt
  exact⟨by omega,es[i],hR.row i e _ he (List.getElem?_eq_getElem xm)⟩
 refine⟨fun i e he=> ?_,fun i e j u he hu=> ?_,hC.born,hC.clock,hC.den,by simp[jh],hsz⟩
 ·obtain⟨_,r,h⟩:=row i e he
  exact⟨h.kl,by rw[List.length_append,h.kl]; exact h.fl,h.ka,h.va⟩
 ·obtain⟨hi,r,h⟩:=row i e he
  have hj:j<sz:=by
   have:=(List.getElem?_eq_some_iff.1 hu).1
   rw[List.length_append,h.kl,h.fl]at this; exact this
  rw[vO hsz he hi hj,List.getD_eq_getElem?_getD,hu]; rfl
theorem ox (hsz:sz≠0) (hR:nz ρ L I w N k ka va sz es en) (hle:es.length<=maxLen):∀i j,i<es.length->j<sz->∃u,(jh sz en)[i*sz+j]? =some u/\u.oneCell'=true/\aL ρ L I w N ((es.getD i []).getD j .bad) u:=by
 intro i j hi hj
 have hi':i<en.size:=by rw[hR.len]; exact hi
 have h:=hR.row i en[i] es[i] (Array.getElem?_eq_getElem hi') (List.getElem?_eq_getElem hi)
 obtain⟨h1,h2⟩:=h.cell j hj
 have hlt:j< (aJ en[i].key++aJ en[i].val).length:=by rw[List.length_append,h.kl,h.fl]; exact hj
 refine⟨_,vO hsz (Array.getElem?_eq_getElem hi') (by omega) hj,?_,?_⟩
 ·rw[List.getD_eq_getElem?_getD,List.getElem?_eq_getElem hlt]at h1 ⊢; exact h1
 ·rw[List.getD_eq_getElem?_getD (l:=es),List.getElem?_eq_getElem hi,Option.getD_some]
  rw[List.getD_eq_getElem?_getD (l:=aJ en[i].key++aJ en[i].val),List.getElem?_eq_getElem hlt]at h2 ⊢; exact h2
theorem gv {n g cap:Nat} {b:bg} (hW:c9 X ρ I M N w) (cD:M n=some b) (hmp:b.mp=some (k,ka,va,dn)) (hρ:ρ n=some (g,cap)):
  ∃en ck,w.heap[g]? =some (.map en ck)/\nz ρ (lens M) I w N k ka va b.sz b.es en/\mj dn en ck/\b.sz≠0/\cap=maxLen/\b.es.length<=maxLen:=by
 have B:=hW.aT n b cD
 obtain⟨cs,fr,hg,og,rD,hown,hlc,nO,hcs,hc⟩:=B.real g cap hρ
 rw[hmp]at hg
 obtain⟨en,ck,h1,h2,h3⟩:=hg
 have hcap:cap=maxLen:=by
  have:=h3.room.1
  rw[hcs]at this
  exact Nat.eq_of_mul_eq_mul_right (Nat.pos_of_ne_zero h3.room.2) this
 refine⟨en,ck,h1,⟨h2,fun i e r he hr=> ?_⟩,⟨h3.born,h3.clock,h3.den⟩,h3.room.2,hcap,by omega⟩
 obtain⟨k1,k2,k3,k4⟩:=h3.key i e he
 have hi:i<b.es.length:=(List.getElem?_eq_some_iff.1 hr).1
 refine⟨B.even r (List.mem_of_getElem? hr),k1,by rw[List.length_append,k1]at k2; exact k2,k3,k4,fun j hj=> ?_⟩
 obtain⟨u,pU,GD,hu3⟩:=hc i j hi hj
 have hlt:j< (aJ e.key++aJ e.val).length:=by rw[k2]; exact hj
 have hu4:=h3.cell i e j _ he (List.getElem?_eq_getElem hlt)
 rw[pU]at hu4
 have e1:(aJ e.key++aJ e.val).getD j default=u:=by
  rw[List.getD_eq_getElem?_getD,List.getElem?_eq_getElem hlt]; exact (Option.some.inj hu4).symm
 have e2:b.es.getD i []=r:=by rw[List.getD_eq_getElem?_getD,hr]; rfl
 rw[e1,<-e2]
 exact⟨GD,hu3⟩
theorem lf {n g cap:Nat} {b:bg} {v:Value} {av:AV} (hW:c9 X ρ I M N w) (cD:M n=some b) (hmp:b.mp=some (k,ka,va,dn)) (hρ:ρ n=some (g,cap)) {DW:Array MapEntry} {JJ:Nat} {es':List (List AV)} {JK:Dn}
  (hR:nz ρ (lens M) I w N k ka va b.sz es' DW) (hC:mj JK DW JJ) (hle:es'.length<=maxLen) (hr:aL ρ (lens M) I w N av v) (hit:∀r sn la,JK= .it r sn la->X.w0.heap.size<=r/\¬I r/\FI {w with heap:=w.heap.setIfInBounds g (.map DW JJ)} g r sn la):
  iv X M N ρ I w av [(n,⟨b.ty,b.sz,es',some (k,ka,va,JK)⟩)] v {w with heap:=w.heap.setIfInBounds g (.map DW JJ)}:=by
 have B:=hW.aT n b cD
 obtain⟨en,ck,hg,_,_,hsz,rfl,_⟩:=gv hW cD hmp hρ
 have kq:∀b0,M n=some b0->b0=b:=fun b0 h0=>by rw[cD]at h0; exact (Option.some.inj h0).symm
 obtain⟨h1,h2⟩:=heap_set (o':= .map DW JJ) hg
 obtain⟨E,W⟩:=hW.put (w':= {w with heap:=w.heap.setIfInBounds g (.map DW JJ)}) n ⟨b.ty,b.sz,es',some (k,ka,va,JK)⟩ g maxLen (jh b.sz DW) (0,0) rfl rfl rfl (by simp) (fun q _ hq=>h2 q hq)
  ⟨DW,JJ,h1,hR.len,qe hsz hR hC hle⟩ (fun o _ h=>by omega) (.inr ⟨maxLen,hρ,b,cD⟩) (fun b0 h0=>by rw[kq b0 h0]; refine⟨rfl,by simp[bg.ln,hmp],fun _=>hρ⟩) (fun _=>⟨b,cD⟩)
  (fun e he=>by
    obtain⟨i,hi,rfl⟩:=List.getElem_of_mem he
    have hi':i<DW.size:=by rw[hR.len]; exact hi
    exact (hR.row i DW[i] es'[i] (Array.getElem?_eq_getElem hi') (List.getElem?_eq_getElem hi)).rl)
  hle (Nat.le_refl _) (by simp[jh]) (ox hsz hR hle) (fun k' Jk Jl r sn la hb=>by cases hb; exact hit r sn la rfl)
 refine⟨_,_,E,by rw[bO]; exact W,?_⟩
 rw[bO]
 exact (hr.uO E (fun _ h=>h)).wide (fun _ h=> .inr h)
theorem mj.push {key val:Value} (h:mj dn en ck):mj dn.up (en.push ⟨key,val,ck⟩) (ck+1):=by
 have JL:∀ (i:Nat) (e:MapEntry),(en.push ⟨key,val,ck⟩)[i]? =some e->(i<en.size/\en[i]? =some e)\/(i=en.size/\e.born=ck):=fun i e he=>by
  rw[Array.getElem?_push]at he
  split at he
  ·rename_i hi; exact .inr ⟨hi,by simp at he; rw[<-he]⟩
  ·exact .inl ⟨(Array.getElem?_eq_some_iff.1 he).1,he⟩
 refine⟨fun i j e f he hf hij=> ?_,fun i e he=> ?_,fun hd=> ?_⟩
 ·rcases JL i e he with⟨h1,h2⟩|⟨h1,h2⟩<;>rcases JL j f hf with⟨h3,h4⟩|⟨h3,h4⟩
  ·exact h.born i j e f h2 h4 hij
  ·have:=h.clock i e h2; omega
  ·omega
  ·omega
 ·rcases JL i e he with⟨h1,h2⟩|⟨h1,h2⟩
  ·have:=h.clock i e h2; omega
  ·omega
 ·obtain⟨h1,h2⟩:=h.den (by rw[<-Dn.FW]; exact hd)
  refine⟨by simp[h1],fun i e he=> ?_⟩
  rcases JL i e he with⟨_,h4⟩|⟨h3,h4⟩
  ·exact h2 i e h4
  ·omega
theorem mj.modify {f:MapEntry->MapEntry} (hf:∀e,(f e).born=e.born) (i:Nat) (h:mj dn en ck):mj dn (en.modify i f) ck:=by
 have JL:∀ (j:Nat) (e:MapEntry),(en.modify i f)[j]? =some e->∃e0,en[j]? =some e0/\e.born=e0.born:=fun j e he=>by
  rw[Array.getElem?_modify]at he
  split at he
  ·obtain⟨e0,h1,rfl⟩:=Option.map_eq_some_iff.1 he
   exact⟨e0,h1,hf e0⟩
  ·exact⟨e,he,rfl⟩
 refine⟨fun a b e g he hg hab=> ?_,fun a e he=> ?_,fun hd=> ?_⟩
 ·obtain⟨e0,h1,h2⟩:=JL a e he
  obtain⟨g0,h3,h4⟩:=JL b g hg
  have:=h.born a b e0 g0 h1 h3 hab; omega
 ·obtain⟨e0,h1,h2⟩:=JL a e he
  have:=h.clock a e0 h1; omega
 ·obtain⟨h1,h2⟩:=h.den hd
  refine⟨by simp[h1],fun a e he=> ?_⟩
  obtain⟨e0,h3,h4⟩:=JL a e he
  have:=h2 a e0 h3; omega
theorem mj.up (h:mj dn en ck):mj dn.up en ck:=
 ⟨h.born,h.clock,fun hd=>h.den (by rw[<-Dn.FW]; exact hd)⟩
theorem nz.push {key val:Value} {r:List AV} (h:nz ρ L I w N k ka va sz es en) (he:qd ρ L I w N k ka va sz key val r) (c:Nat):nz ρ L I w N k ka va sz (es++ [r]) (en.push ⟨key,val,c⟩):=by
 refine⟨by simp[h.len],fun i e q h1 h2=> ?_⟩
 rw[Array.getElem?_push]at h1
 split at h1
 ·rename_i hi
  have hl:=h.len
  have:q=r:=by rw[List.getElem?_append_right (by omega)]at h2; simp[hi,h.len]at h2; exact h2.symm
  simp at h1
  rw[this,<-h1]; exact he
 ·rename_i hi
  have hlt:=(Array.getElem?_eq_some_iff.1 h1).1
  rw[List.getElem?_append_left (by rw[<-h.len]; exact hlt)]at h2
  exact h.row i e q h1 h2
theorem nz.set {f:MapEntry->MapEntry} {i:Nat} {r:List AV} (h:nz ρ L I w N k ka va sz es en) (he:∀e,en[i]? =some e->qd ρ L I w N k ka va sz (f e).key (f e).val r):nz ρ L I w N k ka va sz (es.set i r) (en.modify i f):=by
 refine⟨by simp[h.len],fun j e q h1 h2=> ?_⟩
 rw[Array.getElem?_modify]at h1
 split at h1
 ·rename_i hij
  subst hij
  obtain⟨e0,h3,rfl⟩:=Option.map_eq_some_iff.1 h1
  have hlt:=(Array.getElem?_eq_some_iff.1 h3).1
  rw[List.getElem?_set_self (by rw[<-h.len]; exact hlt)]at h2
  cases h2
  exact he e0 h3
 ·rename_i hij
  rw[List.getElem?_set_ne hij]at h2
  exact h.row j e q h1 h2
theorem qd.mk' {a b:AV} {key val:Value} (h1:aL ρ L I w N a key) (s1:bQ a=true) (h2:aL ρ L I w N b val) (s2:bQ b=true) (hk:(cells a).length=k) (hf:k+ (cells b).length=sz) (hka:a.jH=ka) (uS:b.jH=va):
  qd ρ L I w N k ka va sz key val (cells a++cells b):=by
 obtain⟨p1,p2,p3,p4⟩:=dz h1 s1
 obtain⟨q1,q2,q3,q4⟩:=dz h2 s2
 refine⟨by rw[List.length_append]; omega,by omega,by omega,p1.trans hka,q1.trans uS,fun j hj=> ?_⟩
 by_cases hjk:j<k
 ·have e1:(aJ key++aJ val).getD j default=(aJ key).getD j default:=by rw[List.getD_eq_getElem?_getD,List.getElem?_append_left (by omega),List.getD_eq_getElem?_getD]
  have e2:(cells a++cells b).getD j .bad=(cells a).getD j .bad:=by rw[List.getD_eq_getElem?_getD,List.getElem?_append_left (by omega),List.getD_eq_getElem?_getD]
  rw[e1,e2]
  refine⟨?_,p4 j (by omega)⟩
  rw[List.getD_eq_getElem?_getD,List.getElem?_eq_getElem (by omega)]
  exact p3 _ (List.getElem_mem _)
 ·have e1:(aJ key++aJ val).getD j default=(aJ val).getD (j - k) default:=by rw[List.getD_eq_getElem?_getD,List.getElem?_append_right (by omega),List.getD_eq_getElem?_getD,p2,hk]
  have e2:(cells a++cells b).getD j .bad=(cells b).getD (j - k) .bad:=by rw[List.getD_eq_getElem?_getD,List.getElem?_append_right (by omega),List.getD_eq_getElem?_getD,hk]
  rw[e1,e2]
  refine⟨?_,q4 (j - k) (by omega)⟩
  rw[List.getD_eq_getElem?_getD,List.getElem?_eq_getElem (by omega)]
  exact q3 _ (List.getElem_mem _)
theorem qd.val {key val:Value} {r:List AV} (h:qd ρ L I w N k ka va sz key val r) (hv:va=false->k<sz):aL ρ L I w N (pe va (r.drop k)) val:=by
 have hc:∀j,j< (aJ val).length->((aJ val).getD j default).oneCell'=true/\aL ρ L I w N ((r.drop k).getD j .bad) ((aJ val).getD j default):=fun j hj=>by
  have:=h.cell (k+j) (by have:=h.fl; omega)
  have e1:(aJ key++aJ val).getD (k+j) default=(aJ val).getD j default:=by
   rw[List.getD_eq_getElem?_getD,List.getElem?_append_right (by rw[h.kl]; omega),List.getD_eq_getElem?_getD,h.kl]
   congr 2; omega
  have e2:(r.drop k).getD j .bad=r.getD (k+j) .bad:=by simp[List.getD_eq_getElem?_getD,List.getElem?_drop]
  rw[e1]at this
  rw[e2]; exact this
 have uS:=h.va
 have hfl:=h.fl
 have hrl:=h.rl
 cases va with
 |true=>
  cases val<;>simp only[ga,Bool.false_eq_true]at uS
  rename_i cs
  simp only[aJ]at hc hfl
  have:=aL.agg (ρ:=ρ) (L:=L) (I:=I) (w:=w) (N:=N) (r.drop k) cs.toList (by rw[List.length_drop,hrl]; omega) (fun u hu=>by
   obtain⟨j,hj,rfl⟩:=List.getElem_of_mem hu
   have:=(hc j hj).1
   rwa[List.getD_eq_getElem?_getD,List.getElem?_eq_getElem hj,Option.getD_some]at this) (fun j hj=>(hc j (by rw[List.length_drop,hrl]at hj; omega)).2)
  simpa[pe]using this
 |false=>
  have hf:aJ val=[val]:=by cases val<;>first|rfl|simp[ga]at uS
  have:=(hc 0 (by rw[hf]; simp)).2
  rw[hf]at this
  have e:(r.drop k).headD .bad=(r.drop k).getD 0 .bad:=by cases r.drop k<;>rfl
  simp only[pe,Bool.false_eq_true,if_false,e]
  simpa using this
theorem r7 {t d:Nat} {ls:List LK} {a:AV} {kv:Value} (hl:mT P d t=some ls) (jG:aK P t=ka) (h:aL ρ L I w N a kv) (hs:bQ a=true) (hk:(cells a).length=k) (hR:nz ρ L I w N k ka va sz es en) (hok:∀r ∈ es,dR ls (cells a) r=true):
  GC (JI (aK P t) ls (aJ kv) (cells a) kX) en.toList es:=by
 obtain⟨p1,p2,p3,p4⟩:=dz h hs
 refine GC.of (by simpa using hR.len) fun i e r he hr=> ?_
 have hE:=hR.row i e r (by simpa using he) hr
 obtain⟨rs,h1,h2⟩:=kA (hok r (List.mem_of_getElem? hr))
 refine⟨aJ e.key,rs,by rw[jG,<-hE.ka]; exact (fG _).symm,?_,h2⟩
 have hle:k<=r.length:=by have:=hE.rl; have:=hE.fl; omega
 refine h1.val p2 (by rw[List.length_take,hE.kl]; omega) p4 fun j hj=> ?_
 have hj':j<k:=by rw[List.length_take]at hj; omega
 have:=(hE.cell j (by have:=hE.fl; omega)).2
 have e1:(aJ e.key++aJ e.val).getD j default=(aJ e.key).getD j default:=by rw[List.getD_eq_getElem?_getD,List.getElem?_append_left (by rw[hE.kl]; exact hj'),List.getD_eq_getElem?_getD]
 have e2:(r.take (cells a).length).getD j .bad=r.getD j .bad:=by simp only[List.getD_eq_getElem?_getD,List.getElem?_take]; rw[if_pos (by omega)]
 rw[e1]at this
 rw[e2]; exact this
end
theorem pf {ls:List LK} {a:AV} {ρ:Place} {L:aZ} {I:Nat->Prop} {w:World} {N:Nat->Prop} {kv:Value} (h:aL ρ L I w N a kv) (hs:bQ a=true) (hok:dR ls (cells a) (cells a)=true):mi ls (aJ kv):=by
 obtain⟨p1,p2,p3,p4⟩:=dz h hs
 obtain⟨rs,h1,_⟩:=kA hok
 rw[List.take_length]at h1
 exact (h1.val p2 p2 p4 p4).Sw
end Go.AM
namespace Go.AM
open Go.RowKit Go.MapKept
variable {P:Program} {T:TT} {X:cq} {o:Oper} {F:aW} {M:bv}
theorem ml {d:TD} {D:TypeDesc} {k e:Nat} (hd:d= .map k e) (h:d.fits D):D= .map k e:=by
 subst hd; cases D<;>simp_all[TD.fits]
theorem kB {ρ:Place} {L:aZ} {I:Nat->Prop} {w:World} {N:Nat->Prop} {n sz:Nat} {v:Value} (h:aL ρ L I w N (.omap n) v) (hl:L n=some (0,sz)):N n/\∃g cap,ρ n=some (g,cap)/\v= .map (some g):=by
 cases h with
 |omap _ _ hn h1 h=>exact⟨hn,h sz hl⟩
theorem rc {ρ:Place} {L:aZ} {I:Nat->Prop} {w:World} {N:Nat->Prop} {n g cap:Nat} (hn:N n) (hρ:ρ n=some (g,cap)):aL ρ L I w N (.omap n) (.map (some g)):=
 .omap n _ hn rfl fun _ _=>⟨g,cap,hρ,rfl⟩
theorem xo {n t:Nat} {k:Nat} {ka va:Bool} {sz:Nat} (hsz:sz≠0) (ho:o.op= .makeMap t none):bN P X o F M (.omap n) [(n,⟨0,sz,[],some (k,ka,va,.b true)⟩)] [n]:=by
 refine⟨fun p hp=> .inl (by simp at hp; simp[hp]),fun M' N ρ I ac w hW hU hN hF=> ?_⟩
 have hn:¬N n:=hF n (by simp)
 have hd:∀b0,M' n=some b0->False:=fun b0 h0=>hn (hW.aT n b0 h0).lt
 have hR:nz ρ (lens M') I w N k ka va sz [] #[]:=⟨rfl,fun i e r h _=>by simp at h⟩
 have hC:mj (.b true) #[] 0:=⟨fun i j e f h=>by simp at h,fun i e h=>by simp at h,fun _=>⟨rfl,fun i e h=>by simp at h⟩⟩
 obtain⟨E,W⟩:=hW.put (w':=w.alloc (.map #[] 0)) n ⟨0,sz,[],some (k,ka,va,.b true)⟩ w.heap.size maxLen (jh sz #[]) (0,0) rfl rfl rfl (by simp) (fun k hk _=>Below.heap_alloc w _ k hk)
  ⟨#[],0,heap_alloc_new w _,rfl,qe hsz hR hC (by simp)⟩ (fun o _ h=>by omega)
  (.inl (Nat.le_refl _)) (fun b0 h0=>(hd b0 h0).elim) (fun h=>(hn h).elim) (fun e he=>by simp at he) (by simp) (Nat.le_refl _) (by simp[jh]) (ox hsz hR (by simp))
 unfold bS
 have hrun:(execOp ac.eval o).run P w= .ok (.value (.map (some w.heap.size))) (w.alloc (.map #[] 0)):=by
  simp[execOp,ho,run_makeMap]
 rw[hrun]
 refine⟨_,I,E,by rw[bO]; exact W,?_⟩
 rw[bO]
 exact rc (cap:=maxLen) (.inl rfl) (by simp[iI])
section
variable {t kt et n d k:Nat} {ka va:Bool} {dn:Dn} {b:bg} {ls:List LK} {x key:Operand}
theorem sR {w:World} {g:Nat} {en:Array MapEntry} {ck:Nat} {kv z:Value} {i:TypeInfo} {ok:Bool} {r:Option (Nat × Value)} (hu:P.underlying t=some (.map kt et)) (hg:w.heap[g]? =some (.map en ck))
  (hc:∀em,(Instr.checkKey em 10000 kt kv).run P w= .ok () w) (hf:(Instr.findKey kt kv en.toList).run P w= .ok r w) (hi:P.info? et=some i) (hz:i.zero=some z):
  (Instr.lookup t (.map (some g)) kv ok).run P w= .ok (if ok then .tuple #[(r.map (·.2)).getD z,.bool r.isSome]else (r.map (·.2)).getD z) w:=by
 cases r with
 |none=>simp[Instr.lookup,run_underlying hu,MapKept.run_getObj_map hg,hc,hf,gi hi hz]
 |some q=>simp[Instr.lookup,run_underlying hu,MapKept.run_getObj_map hg,hc,hf]
def A' (ok:Bool) (v:AV) (is:Bool):AV:=if ok then .aN [v,.bool is]else v
def vf (va:Bool) (z:AV) (q:Option (Nat × List AV)):AV:=match q with
 |some q=>pe va q.2
 |none=>z
theorem re (hT:dp P T) {ok:Bool} (ho:o.op= .lookup t x key ok) (ht:T.d t= .map kt et) (GF:(T.d et).ok=true) (hx:ev F x= .omap n) (hb:M n=some b) (hmp:b.mp=some (k,ka,va,dn))
  (hd:d<=10000) (hl:mT P d kt=some ls) (jG:aK P kt=ka) (hs:bQ (ev F key)=true) (hka:(ev F key).jH=ka) (hk:(cells (ev F key)).length=k) (hkk:dR ls (cells (ev F key)) (cells (ev F key))=true)
  (hok:∀r ∈ b.es,dR ls (cells (ev F key)) r=true) (hv:va=false->k<b.sz):
  bN P X o F M (A' ok (vf va (T.z et) (bL (cells (ev F key)) b.es)) (bL (cells (ev F key)) b.es).isSome) [] []:=by
 have uT:x ∈ o.op.operands.toList:=by simp[ho,Op.operands]
 have NT:key ∈ o.op.operands.toList:=by simp[ho,Op.operands]
 obtain⟨D,it,z,hD,hf,_⟩:=hT t (by rw[ht]; simp)
 have im:=ml ht hf
 subst im
 obtain⟨De,ie,ze,FN,MJ,hie,mN,_,NE,jC⟩:=hT et (TD.dT GF)
 refine aF fun M' N ρ I a w hW hU hN=> ?_
 have r1:=aq hU x uT
 have r2:=aq hU key NT
 rw[hx]at r1
 obtain⟨sl,eQ,eY⟩:=bj (F:=F) x uT (n:=n) (by rw[hx]; simp[AV.names])
 have cD:M' n=some b:=(hN sl eQ n eY).trans hb
 have dV:lens M' n=some (0,b.sz):=by rw[aA]; exact⟨b,cD,by simp[bg.ln,hmp],rfl⟩
 obtain⟨hn,g,cap,hρ,qM⟩:=kB r1 dV
 obtain⟨en,ck,hg,hR,hC,hsz,_,_⟩:=gv hW cD hmp hρ
 have DX:valOf (aK P kt) (aJ (a.eval key))=a.eval key:=by
  rw[jG,<-hka,<-(dz r2 hs).1]; exact fG _
 have DY:=pf r2 hs hkk
 have fP:=fy hd hl w DY (r7 hl jG r2 hs hk hR hok)
 have vg:∀em,(Instr.checkKey em 10000 kt (a.eval key)).run P w= .ok () w:=fun em=>by
  have:=dF (em:=em) d (10000 - d) kt ls w _ hl DY
  rw[show d+ (10000 - d)=10000 by omega,DX]at this; exact this
 rw[DX]at fP
 refine⟨if ok then .tuple #[((jT (cells (ev F key)) en.toList b.es 0).map (·.2)).getD ze,.bool (jT (cells (ev F key)) en.toList b.es 0).isSome]else ((jT (cells (ev F key)) en.toList b.es 0).map (·.2)).getD ze,?_,?_⟩
 ·simp only[execOp,ho,qM,Sem.run_bind,sR hD hg vg fP hie NE,Result.andThen_ok,Sem.run_pure]
 ·rcases jg (kc:=cells (ev F key)) (en:=en.toList) (es:=b.es) (i:=0) (by simpa using hR.len)with⟨h1,h2⟩|⟨j,e,r,h1,h2,h3,h4,h5⟩
  ·rw[h1,h2]
   have hz:aL ρ (lens M') I w N (T.z et) ze:=by rw[jC]; exact gh _ _ _ _ _ _
   cases ok with
   |false=>simpa[A',vf]using hz
   |true=>
    simp only[A',vf,if_true,Option.map_none,Option.getD_none,Option.isSome_none]
    exact .aN [T.z et,.bool false] [ze,.bool false] rfl fun j hj=>by
     match j,hj with
     |0,_=>simpa using hz
     |1,_=>exact .bool _
  ·rw[h1,h2]
   have hE:=hR.row j e r (by simpa using h3) h4
   have hval:aL ρ (lens M') I w N (pe va (r.drop (cells (ev F key)).length)) e.val:=by rw[hk]; exact hE.val hv
   cases ok with
   |false=>simpa[A',vf]using hval
   |true=>
    simp only[A',vf,if_true,Option.map_some,Option.getD_some,Option.isSome_some]
    exact .aN [_,.bool true] [e.val,.bool true] rfl fun j hj=>by
     match j,hj with
     |0,_=>simpa using hval
     |1,_=>exact .bool _
def JM (kc vs:List AV) (es:List (List AV)):List (List AV):=match bL kc es with
 |some q=>es.set q.1 (kc++vs)
 |none=>es++ [kc++vs]
theorem JN {ls:List LK} {kc r:List AV} (h1:dR ls kc r=true) (h2:kX kc r=true):∃rs,u7 ls kc (r.take kc.length) rs/\rs.all id=true:=by
 obtain⟨rs,h3,h4⟩:=kA h1
 exact⟨rs,h3,by rw[h4]; exact h2⟩
theorem yW {ρ:Place} {L:aZ} {I:Nat->Prop} {w:World} {N:Nat->Prop} {a:AV} {kv:Value} {e:MapEntry} {r:List AV} {sz:Nat} (h:aL ρ L I w N a kv) (hs:bQ a=true) (hka:a.jH=ka) (hk:(cells a).length=k)
  (hE:qd ρ L I w N k ka va sz e.key e.val r) (hok:dR ls (cells a) r=true) (hB:kX (cells a) r=true):e.key=kv:=by
 obtain⟨p1,p2,p3,p4⟩:=dz h hs
 obtain⟨rs,h1,h2⟩:=JN hok hB
 have hle:k<=r.length:=by have:=hE.rl; have:=hE.fl; omega
 have h4:=h1.val p2 (us:=aJ e.key) (by rw[List.length_take,hE.kl]; omega) p4 fun j hj=>by
  have hj':j<k:=by rw[List.length_take]at hj; omega
  have:=(hE.cell j (by have:=hE.fl; omega)).2
  have e1:(aJ e.key++aJ e.val).getD j default=(aJ e.key).getD j default:=by rw[List.getD_eq_getElem?_getD,List.getElem?_append_left (by rw[hE.kl]; exact hj'),List.getD_eq_getElem?_getD]
  have e2:(r.take (cells a).length).getD j .bad=r.getD j .bad:=by simp only[List.getD_eq_getElem?_getD,List.getElem?_take]; rw[if_pos (by omega)]
  rw[e1]at this
  rw[e2]; exact this
 have:=h4.eq h2
 rw[<-fG e.key,hE.ka,this,<-hka,<-p1,fG]
theorem sS (hT:dp P T) {val:Operand} (ho:o.op= .mapUpdate t x key val\/ o.op= .insert t x key val) (ht:T.d t= .map kt et) (hx:ev F x= .omap n) (hb:M n=some b) (hmp:b.mp=some (k,ka,va,dn))
  (hd:d<=10000) (hl:mT P d kt=some ls) (jG:aK P kt=ka) (hs:bQ (ev F key)=true) (hka:(ev F key).jH=ka) (hk:(cells (ev F key)).length=k) (hkk:dR ls (cells (ev F key)) (cells (ev F key))=true)
  (hok:∀r ∈ b.es,dR ls (cells (ev F key)) r=true) (Sx:bQ (ev F val)=true) (uS:(ev F val).jH=va) (hvl:k+ (cells (ev F val)).length=b.sz) (hle:b.es.length+1<=iu):
  bN P X o F M (.aN []) [(n,⟨b.ty,b.sz,JM (cells (ev F key)) (cells (ev F val)) b.es,some (k,ka,va,dn.up)⟩)] []/\n ∈ (ev F x).names:=by
 have uT:x ∈ o.op.operands.toList:=by rcases ho with ho|ho<;>simp[ho,Op.operands]
 have NT:key ∈ o.op.operands.toList:=by rcases ho with ho|ho<;>simp[ho,Op.operands]
 have ZG:val ∈ o.op.operands.toList:=by rcases ho with ho|ho<;>simp[ho,Op.operands]
 obtain⟨D,it,z,hD,hf,_⟩:=hT t (by rw[ht]; simp)
 have im:=ml ht hf
 subst im
 obtain⟨sl,eQ,eY⟩:=bj (F:=F) x uT (n:=n) (by rw[hx]; simp[AV.names])
 refine⟨⟨fun p hp=> .inr ⟨sl,eQ,by simp at hp; rw[hp]; exact eY⟩,fun M' N ρ I a w hW hU hN _=> ?_⟩,by rw[hx]; simp[AV.names]⟩
 have r1:=aq hU x uT
 have r2:=aq hU key NT
 have r3:=aq hU val ZG
 rw[hx]at r1
 have cD:M' n=some b:=(hN sl eQ n eY).trans hb
 have dV:lens M' n=some (0,b.sz):=by rw[aA]; exact⟨b,cD,by simp[bg.ln,hmp],rfl⟩
 obtain⟨hn,g,cap,hρ,qM⟩:=kB r1 dV
 obtain⟨en,ck,hg,hR,hC,hsz,_,_⟩:=gv hW cD hmp hρ
 have DX:valOf (aK P kt) (aJ (a.eval key))=a.eval key:=by
  rw[jG,<-hka,<-(dz r2 hs).1]; exact fG _
 have DY:=pf r2 hs hkk
 have fP:=fy hd hl w DY (r7 hl jG r2 hs hk hR hok)
 have vg:∀em,(Instr.checkKey em 10000 kt (a.eval key)).run P w= .ok () w:=fun em=>by
  have:=dF (em:=em) d (10000 - d) kt ls w _ hl DY
  rw[show d+ (10000 - d)=10000 by omega,DX]at this; exact this
 have hst:(Instr.keyThatStays (a.eval key) (a.eval key)).run P w= .ok (a.eval key) w:=by
  have:=pb (P:=P) (ag:=aK P kt) DY (fun h=>jS hl h) w
  rwa[DX]at this
 rw[DX]at fP
 have MK:∀w',(Instr.mapUpdate t (.map (some g)) (a.eval key) (a.eval val)).run P w= .ok () w'->(execOp a.eval o).run P w= .ok .skip w':=fun w' h=>by
  rcases ho with ho|ho<;>simp[execOp,ho,qM,h]
 have hmk:=qd.mk' r2 hs r3 Sx hk hvl hka uS
 unfold bS JM
 rcases jg (kc:=cells (ev F key)) (en:=en.toList) (es:=b.es) (i:=0) (by simpa using hR.len)with⟨h1,h2⟩|⟨j,e,r,h1,h2,h3,h4,h5⟩
 ·rw[h2]at fP
  rw[h1,MK {w with heap:=w.heap.setIfInBounds g (.map (en.push ⟨a.eval key,a.eval val,ck⟩) (ck+1))} (by
   simp[Instr.mapUpdate,run_underlying hD,MapKept.run_getObj_map hg,vg,fP,MapKept.run_setObj_map _ hg])]
  exact lf hW cD hmp hρ (hR.push hmk ck) hC.push (by simp only[List.length_append,List.length_singleton]; simp only[iu]at hle; simp only[maxLen]; omega) (.aN [] [] rfl (fun j hj=>by simp at hj)) (fun _ _ _ h=>(Dn.FX h).elim)
 ·rw[h2,Nat.zero_add]at fP
  have NU:en[j]? =some e:=by simpa using h3
  have hE:=hR.row j e r NU h4
  have hkey:=yW r2 hs hka hk hE (hok r (List.mem_of_getElem? h4)) h5
  rw[h1,MK {w with heap:=w.heap.setIfInBounds g (.map (en.modify j fun e=> {e with key:=a.eval key,val:=a.eval val}) ck)} (by
   simp[Instr.mapUpdate,run_underlying hD,MapKept.run_getObj_map hg,vg,fP,NU,hkey,hst,MapKept.run_setObj_map _ hg])]
  exact lf hW cD hmp hρ (hR.set (f:=fun e=> {e with key:=a.eval key,val:=a.eval val}) fun _ _=>hmk) (hC.up.modify (f:=fun e=> {e with key:=a.eval key,val:=a.eval val}) (fun _=>rfl) j) (by rw[List.length_set]; simp only[iu]at hle; simp only[maxLen]; omega) (.aN [] [] rfl (fun j hj=>by simp at hj)) (fun _ _ _ h=>(Dn.FX h).elim)
def Ba (kc zs:List AV) (es:List (List AV)):List (List AV):=match bL kc es with
 |some _=>es
 |none=>es++ [kc++zs]
def xp (kc:List AV) (es:List (List AV)):Nat:=match bL kc es with
 |some q=>q.1
 |none=>es.length
theorem nT (hT:dp P T) (ho:o.op= .mapEntry t x key) (ht:T.d t= .map kt et) (GF:(T.d et).ok=true) (hx:ev F x= .omap n) (hb:M n=some b) (hmp:b.mp=some (k,ka,va,.b true))
  (hd:d<=10000) (hl:mT P d kt=some ls) (jG:aK P kt=ka) (hs:bQ (ev F key)=true) (hka:(ev F key).jH=ka) (hk:(cells (ev F key)).length=k) (hkk:dR ls (cells (ev F key)) (cells (ev F key))=true)
  (hok:(∀r ∈ b.es,r.length=b.sz)->∀r ∈ b.es,dR ls (cells (ev F key)) r=true) (Sx:bQ (T.z et)=true) (uS:(T.z et).jH=va) (hvl:k+ (cells (T.z et)).length=b.sz) (hv:va=false->k<b.sz) (hle:b.es.length+1<=iu):
  bN P X o F M (.aN [vf va (T.z et) (bL (cells (ev F key)) b.es),.int .i64 (xp (cells (ev F key)) b.es)]) [(n,⟨b.ty,b.sz,Ba (cells (ev F key)) (cells (T.z et)) b.es,some (k,ka,va,.b true)⟩)] []/\n ∈ (ev F x).names:=by
 have uT:x ∈ o.op.operands.toList:=by simp[ho,Op.operands]
 have NT:key ∈ o.op.operands.toList:=by simp[ho,Op.operands]
 obtain⟨D,it,z,hD,hf,_⟩:=hT t (by rw[ht]; simp)
 have im:=ml ht hf
 subst im
 obtain⟨De,ie,ze,FN,MJ,hie,mN,_,NE,jC⟩:=hT et (TD.dT GF)
 obtain⟨sl,eQ,eY⟩:=bj (F:=F) x uT (n:=n) (by rw[hx]; simp[AV.names])
 refine⟨⟨fun p hp=> .inr ⟨sl,eQ,by simp at hp; rw[hp]; exact eY⟩,fun M' N ρ I a w hW hU hN _=> ?_⟩,by rw[hx]; simp[AV.names]⟩
 have r1:=aq hU x uT
 have r2:=aq hU key NT
 rw[hx]at r1
 have cD:M' n=some b:=(hN sl eQ n eY).trans hb
 have dV:lens M' n=some (0,b.sz):=by rw[aA]; exact⟨b,cD,by simp[bg.ln,hmp],rfl⟩
 obtain⟨hn,g,cap,hρ,qM⟩:=kB r1 dV
 obtain⟨en,ck,hg,hR,hC,hsz,_,FP⟩:=gv hW cD hmp hρ
 have hok:=hok (hW.aT n b cD).even
 have DX:valOf (aK P kt) (aJ (a.eval key))=a.eval key:=by
  rw[jG,<-hka,<-(dz r2 hs).1]; exact fG _
 have DY:=pf r2 hs hkk
 have fP:=fy hd hl w DY (r7 hl jG r2 hs hk hR hok)
 have vg:∀em,(Instr.checkKey em 10000 kt (a.eval key)).run P w= .ok () w:=fun em=>by
  have:=dF (em:=em) d (10000 - d) kt ls w _ hl DY
  rw[show d+ (10000 - d)=10000 by omega,DX]at this; exact this
 have hst:(Instr.keyThatStays (a.eval key) (a.eval key)).run P w= .ok (a.eval key) w:=by
  have:=pb (P:=P) (ag:=aK P kt) DY (fun h=>jS hl h) w
  rwa[DX]at this
 rw[DX]at fP
 have hzr:aL ρ (lens M') I w N (T.z et) ze:=by rw[jC]; exact gh _ _ _ _ _ _
 obtain⟨Yo,Cs⟩:=hC.den rfl
 have two:∀ {a1 a2:AV} {v1 v2:Value},aL ρ (lens M') I w N a1 v1->aL ρ (lens M') I w N a2 v2->aL ρ (lens M') I w N (.aN [a1,a2]) (.tuple #[v1,v2]):=fun {a1 a2 v1 v2} q1 q2=> .aN [a1,a2] [v1,v2] rfl fun j hj=>by
  match j,hj with
  |0,_=>simpa using q1
  |1,_=>simpa using q2
 unfold bS Ba xp
 rcases jg (kc:=cells (ev F key)) (en:=en.toList) (es:=b.es) (i:=0) (by simpa using hR.len)with⟨h1,h2⟩|⟨j,e,r,h1,h2,h3,h4,h5⟩
 ·rw[h2]at fP
  have hrun:(execOp a.eval o).run P w= .ok (.value (.tuple #[ze,goInt ck])) {w with heap:=w.heap.setIfInBounds g (.map (en.push ⟨a.eval key,ze,ck⟩) (ck+1))}:=by
   simp[execOp,ho,qM,Instr.mapEntry,run_underlying hD,MapKept.run_getObj_map hg,vg,fP,gi hie NE,MapKept.run_setObj_map _ hg]
  rw[h1,hrun]
  refine lf hW cD hmp hρ (hR.push (qd.mk' r2 hs hzr Sx hk hvl hka uS) ck) hC.push (by simp only[List.length_append,List.length_singleton]; simp only[iu]at hle; simp only[maxLen]; omega) (two hzr ?_) (fun _ _ _ h=>by cases h)
  rw[Yo,hR.len]; exact .int _ _
 ·rw[h2,Nat.zero_add]at fP
  have NU:en[j]? =some e:=by simpa using h3
  have hE:=hR.row j e r NU h4
  have hkey:=yW r2 hs hka hk hE (hok r (List.mem_of_getElem? h4)) h5
  have hrun:(execOp a.eval o).run P w= .ok (.value (.tuple #[e.val,goInt e.born])) {w with heap:=w.heap.setIfInBounds g (.map (en.modify j fun e=> {e with key:=a.eval key}) ck)}:=by
   simp[execOp,ho,qM,Instr.mapEntry,run_underlying hD,MapKept.run_getObj_map hg,vg,fP,NU,hkey,hst,MapKept.run_setObj_map _ hg]
  rw[h1,hrun]
  have RL:nz ρ (lens M') I w N k ka va b.sz b.es (en.modify j fun e=> {e with key:=a.eval key}):=by
   have:=hR.set (i:=j) (f:=fun e=> {e with key:=a.eval key}) (r:=r) (fun e0 he0=>by rw[NU]at he0; cases he0; rw[<-hkey]; exact hE)
   have hlt:=(List.getElem?_eq_some_iff.1 h4)
   rwa[<-hlt.2,List.set_getElem_self]at this
  refine lf hW cD hmp hρ RL (hC.modify (f:=fun e=> {e with key:=a.eval key}) (fun _=>rfl) j) FP (two ?_ ?_) (fun _ _ _ h=>by cases h)
  ·simp only[vf]
   rw[hk]; exact hE.val hv
  ·have:=Cs j e NU
   rw[this]; exact .int _ _
theorem rK {stamp val:Operand} {q:IntKind} {j:Nat} {r:List AV} (ho:o.op= .entryStore t x stamp val) (hx:ev F x= .omap n) (hb:M n=some b) (hmp:b.mp=some (k,ka,va,.b true))
  (hst:ev F stamp= .int q j) (hr:b.es[j]? =some r) (Sx:bQ (ev F val)=true) (uS:(ev F val).jH=va) (hvl:k+ (cells (ev F val)).length=b.sz):
  bN P X o F M (.aN []) [(n,⟨b.ty,b.sz,b.es.set j (r.take k++cells (ev F val)),some (k,ka,va,.b true)⟩)] []/\n ∈ (ev F x).names:=by
 have uT:x ∈ o.op.operands.toList:=by simp[ho,Op.operands]
 have hso:stamp ∈ o.op.operands.toList:=by simp[ho,Op.operands]
 have ZG:val ∈ o.op.operands.toList:=by simp[ho,Op.operands]
 obtain⟨sl,eQ,eY⟩:=bj (F:=F) x uT (n:=n) (by rw[hx]; simp[AV.names])
 refine⟨⟨fun p hp=> .inr ⟨sl,eQ,by simp at hp; rw[hp]; exact eY⟩,fun M' N ρ I a w hW hU hN _=> ?_⟩,by rw[hx]; simp[AV.names]⟩
 have r1:=aq hU x uT
 have r2:=bG (hst ▸ aq hU stamp hso)
 have r3:=aq hU val ZG
 rw[hx]at r1
 have cD:M' n=some b:=(hN sl eQ n eY).trans hb
 have dV:lens M' n=some (0,b.sz):=by rw[aA]; exact⟨b,cD,by simp[bg.ln,hmp],rfl⟩
 obtain⟨hn,g,cap,hρ,qM⟩:=kB r1 dV
 obtain⟨en,ck,hg,hR,hC,hsz,_,FP⟩:=gv hW cD hmp hρ
 obtain⟨Yo,Cs⟩:=hC.den rfl
 have hj:j<b.es.length:=(List.getElem?_eq_some_iff.1 hr).1
 have hje:j<en.size:=by rw[hR.len]; exact hj
 have hidx:en.findIdx? (fun e=>(e.born:Int)==(j:Int))=some j:=by
  rw[Array.findIdx?_eq_some_iff_getElem]
  refine⟨hje,?_,fun i hi=> ?_⟩
  ·have:=Cs j en[j] (Array.getElem?_eq_getElem hje)
   simp[this]
  ·have:=Cs i (en[i]'(by omega)) (Array.getElem?_eq_getElem (by omega))
   simp only[this,Bool.not_eq_true,beq_eq_false_iff_ne,ne_eq]; omega
 have hrun:(execOp a.eval o).run P w= .ok .skip {w with heap:=w.heap.setIfInBounds g (.map (en.modify j fun e=> {e with val:=a.eval val}) ck)}:=by
  simp[execOp,ho,qM,r2,Instr.entryStore,MapKept.run_getObj_map hg,asInt,asIntOf,hidx,MapKept.run_setObj_map _ hg]
 unfold bS
 rw[hrun]
 refine lf hW cD hmp hρ (hR.set (i:=j) (f:=fun e=> {e with val:=a.eval val}) fun e he=> ?_) (hC.modify (f:=fun e=> {e with val:=a.eval val}) (fun _=>rfl) j) (by rw[List.length_set]; exact FP) (.aN [] [] rfl (fun j hj=>by simp at hj)) (fun _ _ _ h=>by cases h)
 have hE:=hR.row j e r he hr
 obtain⟨q1,q2,q3,q4⟩:=dz r3 Sx
 have hle:k<=r.length:=by have:=hE.rl; have:=hE.fl; omega
 have Yp:(r.take k).length=k:=by rw[List.length_take]; omega
 refine⟨by rw[List.length_append,Yp]; omega,hE.kl,by show k+ (aJ (a.eval val)).length=_; omega,hE.ka,q1.trans uS,fun p hp=> ?_⟩
 show ((aJ e.key++aJ (a.eval val)).getD p default).oneCell'=true/\aL ρ (lens M') I w N ((r.take k++cells (ev F val)).getD p .bad) ((aJ e.key++aJ (a.eval val)).getD p default)
 by_cases hpk:p<k
 ·have:=hE.cell p hp
  have e0:(aJ e.key++aJ e.val).getD p default=(aJ e.key).getD p default:=by rw[List.getD_eq_getElem?_getD,List.getElem?_append_left (by rw[hE.kl]; exact hpk),List.getD_eq_getElem?_getD]
  have e1:(aJ e.key++aJ (a.eval val)).getD p default=(aJ e.key).getD p default:=by rw[List.getD_eq_getElem?_getD,List.getElem?_append_left (by rw[hE.kl]; exact hpk),List.getD_eq_getElem?_getD]
  have e2:(r.take k++cells (ev F val)).getD p .bad=r.getD p .bad:=by
   rw[List.getD_eq_getElem?_getD,List.getElem?_append_left (by omega),List.getElem?_take,if_pos hpk,List.getD_eq_getElem?_getD]
  rw[e0]at this
  rw[e1,e2]; exact this
 ·have e1:(aJ e.key++aJ (a.eval val)).getD p default=(aJ (a.eval val)).getD (p - k) default:=by rw[List.getD_eq_getElem?_getD,List.getElem?_append_right (by rw[hE.kl]; omega),List.getD_eq_getElem?_getD,hE.kl]
  have e2:(r.take k++cells (ev F val)).getD p .bad=(cells (ev F val)).getD (p - k) .bad:=by rw[List.getD_eq_getElem?_getD,List.getElem?_append_right (by omega),List.getD_eq_getElem?_getD,Yp]
  rw[e1,e2]
  refine⟨?_,q4 (p - k) (by omega)⟩
  rw[List.getD_eq_getElem?_getD,List.getElem?_eq_getElem (by omega)]
  exact q3 _ (List.getElem_mem _)
end
end Go.AM
namespace Go.AM
open Go.RowKit Go.MapKept
variable {P:Program} {T:TT} {X:cq} {o:Oper} {F:aW} {M:bv}
theorem oR.p8 {av:AV} (h:oR P X o F M av):bN P X o F M av [] []:=
 ⟨fun p hp=>by simp at hp,fun M' N ρ I a w W hr hM _=>h M' N ρ I a w W hr (fun s hs n hn=>by rw[hM s hs n hn])⟩
theorem Bb:∀ {ls:List LK} {kc r:List AV},dR ls kc kc=true->jF kc=true->jF r=true->kc.length<=r.length->dR ls kc r=true
 |[],[],_,_,_,_,_=>by simp[dR]
 | .i::l,.int k x::a,r,h,g,g2,hl=>by
   cases k<;>simp only[jF,Bool.false_eq_true]at g
   cases r with
   |nil=>simp at hl
   |cons c s=>
    cases c with
    |int k2 y=>
     cases k2<;>simp only[jF,Bool.false_eq_true]at g2
     simp only[dR,Bool.and_eq_true]at h ⊢
     exact⟨rfl,Bb h.2 g g2 (by simpa using hl)⟩
    |_=>simp[jF]at g2
 | .i::l,[],_,h,_,_,_=>by simp[dR]at h
 | .b::l,[],_,h,_,_,_=>by simp[dR]at h
 | .s::l,[],_,h,_,_,_=>by simp[dR]at h
 |[],_::_,_,h,_,_,_=>by simp[dR]at h
 | .b::l,c::a,_,h,g,_,_=>by cases c<;>simp[dR,jF]at h g
 | .s::l,c::a,_,h,g,_,_=>by cases c<;>simp[dR,jF]at h g
 | .i::l,.bool _::a,_,_,g,_,_=>by simp[jF]at g
 | .i::l,.str _::a,_,_,g,_,_=>by simp[jF]at g
 | .i::l,.bP::a,_,_,g,_,_=>by simp[jF]at g
 | .i::l,.ai::a,_,_,g,_,_=>by simp[jF]at g
 | .i::l,.ap::a,_,_,g,_,_=>by simp[jF]at g
 | .i::l,.dY::a,_,_,g,_,_=>by simp[jF]at g
 | .i::l,.ce::a,_,_,g,_,_=>by simp[jF]at g
 | .i::l,.loc .. ::a,_,_,g,_,_=>by simp[jF]at g
 | .i::l,.bc .. ::a,_,_,g,_,_=>by simp[jF]at g
 | .i::l,.ee .. ::a,_,_,g,_,_=>by simp[jF]at g
 | .i::l,.aH .. ::a,_,_,g,_,_=>by simp[jF]at g
 | .i::l,.bh .. ::a,_,_,g,_,_=>by simp[jF]at g
 | .i::l,.omap .. ::a,_,_,g,_,_=>by simp[jF]at g
 | .i::l,.bR .. ::a,_,_,g,_,_=>by simp[jF]at g
 | .i::l,.agg .. ::a,_,_,g,_,_=>by simp[jF]at g
 | .i::l,.aN .. ::a,_,_,g,_,_=>by simp[jF]at g
 | .i::l,.bad::a,_,_,g,_,_=>by simp[jF]at g
theorem DZ (q:Option (Nat × List AV)):vf false (.int .i64 0) q=DD q:=by cases q<;>rfl
section
variable {t kt et n d k:Nat} {ka:Bool} {dn:Dn} {b:bg} {ls:List LK} {x key:Operand}
theorem GG (hT:dp P T) (ho:o.op= .lookup t x key false) (ht:T.d t= .map kt et) (GF:(T.d et).ok=true) (hz:T.z et= .int .i64 0) (hx:ev F x= .omap n) (hb:M n=some b) (hmp:b.mp=some (k,ka,false,dn))
  (hd:d<=10000) (hl:mT P d kt=some ls) (jG:aK P kt=ka) (hs:bQ (ev F key)=true) (hka:(ev F key).jH=ka) (hk:(cells (ev F key)).length=k) (hkk:dR ls (cells (ev F key)) (cells (ev F key))=true)
  (hg:jF (cells (ev F key))=true) (Sy:∀r ∈ b.es,jF r=true) (hsz:b.sz=k+1):
  oR P X o F M (DD (bL (cells (ev F key)) b.es)):=by
 intro M' N ρ I a w hW hU hV
 have uT:x ∈ o.op.operands.toList:=by simp[ho,Op.operands]
 obtain⟨sl,eQ,eY⟩:=bj (F:=F) x uT (n:=n) (by rw[hx]; simp[AV.names])
 have hv:=hV sl eQ n eY
 rw[hb]at hv
 cases hb':M' n with
 |none=>rw[hb']at hv; simp[Vw]at hv
 |some b'=>
  rw[hb']at hv
  simp only[Vw,Option.map_some,Option.some.injEq,Prod.mk.injEq]at hv
  obtain⟨v1,v2,v3,v4⟩:=hv
  have ZH:∀r ∈ b'.es,jF r=true:=v4.symm ▸ Sy
  have v3':=congrFun v3 (cells (ev F key))
  rw[v1,if_pos (by omega),if_pos (by omega)]at v3'
  have hok:∀r ∈ b'.es,dR ls (cells (ev F key)) r=true:=fun r hr=>Bb hkk hg (ZH r hr) (by
   have:=(hW.aT n b' hb').even r hr
   omega)
  have D:=re (X:=X) (M:=M') hT ho ht GF hx hb' (v2.trans hmp) hd hl jG hs hka hk hkk hok (fun _=>by omega)
  simp only[A',Bool.false_eq_true,if_false,hz,DZ]at D
  rw[v3']at D
  exact D.2 M' N ρ I a w hW hU (fun _ _ _ _=>rfl) (fun _ h=>by simp at h)
theorem vP {kc r:List AV}:∀ {es:List (List AV)},bL kc (es++ [r])=match bL kc es with
  |some q=>some q
  |none=>if kX kc r then some (es.length,r.drop kc.length)else none
 |[]=>by simp only[List.nil_append,bL]; cases kX kc r<;>rfl
 |e::es=>by
  simp only[List.cons_append,bL]
  by_cases h:kX kc e=true
  ·simp[h]
  ·simp only[if_neg h]
   rw[vP (es:=es)]
   cases bL kc es with
   |some q=>rfl
   |none=>by_cases h2:kX kc r=true<;>simp[h2]
theorem Ct:∀ {a b:List AV},jF (a++b)=(jF a&&jF b)
 |[],b=>by simp[jF]
 |c::a,b=>by
  cases c<;>simp only[List.cons_append,jF,Bool.false_and]
  rename_i k y
  cases k<;>simp only[jF,Ct,Bool.false_and]
theorem JO {kc:List AV} (hmp:b.mp=some (k,ka,false,.b true)) (hk:kc.length=k) (hsz:b.sz=k+1) (hg:jF kc=true):Vw (some b)=Vw (some ⟨b.ty,b.sz,Ba kc [.int .i64 0] b.es,some (k,ka,false,.b true)⟩):=by
 simp only[Vw,Option.map_some,Option.some.injEq,Prod.mk.injEq]
 refine⟨trivial,hmp,?_,?_⟩
 ·funext ZI
  split
  ·rename_i hl
   unfold Ba
   cases hm:bL kc b.es with
   |some q=>rfl
   |none=>
    simp only
    rw[vP]
    cases hm':bL ZI b.es with
    |some q=>rfl
    |none=>
     simp only
     split
     ·have:(kc++ [AV.int .i64 0]).drop ZI.length=[.int .i64 0]:=by
       rw[show ZI.length=kc.length by omega,List.drop_left]
      rw[this]; rfl
     ·rfl
  ·rfl
 ·apply propext
  unfold Ba
  cases bL kc b.es with
  |some q=>exact Iff.rfl
  |none=>
   simp only[List.mem_append,List.mem_singleton]
   exact⟨fun h r hr=>hr.elim (h r) (fun e=>by rw[e,Ct,hg]; rfl),fun h r hr=>h r (.inl hr)⟩
end
end Go.AM
namespace Go.AM
open Go.RowKit
structure Env where
 P:Program
 T:TT
 ok:PT P T
 ft:Nat->Nat
 ty:Nat->Nat
inductive Sc where
 |t (n:Nat)
 |k (v:AV)
 |f (g:Nat)
inductive vQ where
 |mv (x:Sc)
 |pick (c a b:Sc)
 |alloc (ty:Nat) (z:List AV)
 |box (ty:Nat) (x:Sc)
 |build (z:List AV) (ps:List (Nat × Nat × Sc))
 |aC (ty sz len:Nat) (z:List AV) (ps:List (Nat × Sc))
 |load (ag:Bool) (n:Nat) (x:Sc)
 |store (n:Nat) (x v:Sc)
 |aM (x:Sc)
 |bin (op:BinOp) (x y:Sc)
 |NV (neg:Bool) (x y:Sc)
 |RO (neg:Bool) (x:Sc)
 |Bc (neg:Bool) (x:Sc)
 |JP (neg:Bool) (x:Sc)
 |s2a (m sz:Nat) (x:Sc)
 |ML (ty sz:Nat) (x:Sc)
 |sT (neg:Bool) (ls:List LK) (x y:Sc)
 |bst (op:BinOp) (x y:Sc)
 |un (op:UnOp) (x:Sc)
 |conv (k:IntKind) (x:Sc)
 |Sz (x:Sc)
 |s2b (ty:Nat) (x:Sc)
 |b2s (x:Sc)
 |RP (g:Nat) (cs:List Sc)
 |aB (off:Nat) (x:Sc)
 |GH (ag:Bool) (off n:Nat) (x:Sc)
 |lW (sz:Nat) (x i:Sc)
 |bo (m sz:Nat) (x i:Sc)
 |JQ (ag:Bool) (m sz:Nat) (x i:Sc)
 |SA (x i:Sc)
 |sU (ty sz:Nat) (x:Sc) (lo hi mx:Option Sc)
 |NW (m sz:Nat) (x:Sc) (lo hi mx:Option Sc)
 |SB (x:Sc) (lo hi:Option Sc)
 |ext (x:Sc) (i:Nat)
 |call (g:Nat) (as:List Sc)
 |gI (f:Sc) (as:List Sc)
 |vR (f:Sc) (as:List Sc)
 |pg (f:Sc) (as:List Sc)
 |rf (g:Nat) (as:List Sc)
 |NY (n:Nat)
 |fH (x:Sc)
 |NZ (x:Sc)
 |mm (mx:Bool) (as:List Sc)
 |app (ty sz:Nat) (s x:Sc)
 |JR (ty:Nat) (s x:Sc)
 |JS (ty sz:Nat) (z:List AV) (s x:Sc)
 |ZJ (ty sz:Nat) (z:List AV) (l c:Sc)
 |copy (sz:Nat) (x y:Sc)
 |N0 (k:Nat) (ka va:Bool) (sz:Nat)
 |FQ (ls:List LK) (ag va:Bool) (z:AV) (ok:Bool) (x key:Sc)
 |GI (ls:List LK) (ag va:Bool) (x key v:Sc)
 |ZK (ls:List LK) (ag va:Bool) (z:AV) (x key:Sc)
 |ZL (va:Bool) (x st v:Sc)
 |MM (ls:List LK) (ag:Bool) (x key:Sc)
 |enc (ls:List LK) (ag:Bool) (x key:Sc)
 |MN (ls:List LK) (ag:Bool) (x key:Sc)
 |N3 (x:Sc)
 |RQ (x:Sc)
 |JB (x:Sc)
structure ct where
 d:Option Nat
 g:Option (Nat × Bool)
 o:vQ
inductive cU where
 |bad
 |skip
 |ret
 |exit (id:Nat)
 |ops (l:List ct)
 |draw (ms:List Nat) (us:List (List Nat)) (l:List ct)
 |MO (ms:List Nat) (us:List (List Nat)) (l l2:List ct)
 |seq (a b:cU)
 |cond (c:Sc) (a b:cU)
 |block (id:Nat) (c:cU)
 |loop (c:cU)
 |sV (ls:List Nat) (c:cU)
 |scope (c:cU)
 |xq (f:Sc) (ps:List Nat) (ZM body:cU)
inductive xu where
 |t (n:Nat)
 |cell (a:Nat) (ag:Bool) (n:Nat)
structure bt where
 np:Nat
 rs:List xu
 body:cU
inductive bI where
 |var (ty:Nat) (row:List AV)
 |arr (ty sz:Nat) (es:List (List AV))
 |map (k:Nat) (ka va:Bool) (dn:Dn) (sz:Nat) (es:List (List AV))
def bI.aT:bI->bg
 | .var ty row=>⟨ty,row.length,[row],none⟩
 | .arr ty sz es=>⟨ty,sz,es,none⟩
 | .map k ka va dn sz es=>⟨0,sz,es,some (k,ka,va,dn)⟩
abbrev ah:=List (Nat × bI)
def ay:ah->Mem
 |[]=>[]
 |(n,b)::r=>(n,b.aT)::ay r
structure rL (b:Bool) (X Y:Prop):Prop where
 t:b=true->X
 f:b=false->Y
structure Jm (k:IntKind) (n:Int) (K:Int->Prop):Prop where
 h:K (wr k n)
structure SC (es:List (List AV)) (i:Nat) (K:List AV->Prop):Prop where
 h:K (es.getD i [])
structure SD (i:Int) (m:Nat) (K:Nat->Prop):Prop where
 h:(0<=i/\i< (m:Int))/\K i.toNat
theorem rL.sound {b:Bool} {X Y:Prop} (h:rL b X Y):(b=true/\X)\/(b=false/\Y):=by
 cases b
 ·exact .inr ⟨rfl,h.f rfl⟩
 ·exact .inl ⟨rfl,h.t rfl⟩
abbrev KS:=aW->ah->Nat->Prop
def nU:aW->Nat->(AV->Prop)->Prop
 |[],_,K=>K .bad
 |(j,v)::r,i,K=>bif Nat.beq i j then K v else nU r i K
theorem cH (a b:Nat):Nat.beq a b=(a==b):=by
 by_cases h:a=b
 ·subst h; simp
 ·have:(a==b)=false:=by simpa using h
  rw[this]; exact Bool.eq_false_iff.2 (fun e=>h (Nat.eq_of_beq_eq_true e))
theorem hY:∀ (F:aW) (i:Nat) (K:AV->Prop),nU F i K=K (look F i)
 |[],_,_=>rfl
 |(j,v)::r,i,K=>by
  simp only[nU,look,cH]
  cases i==j
  ·exact hY r i K
  ·rfl
def Env.cl (R:Env) (g:Nat) (cs:List AV):AV:= .bR (.fn (R.ft g)) cs
def dL (R:Env) (F:aW):Sc->(AV->Prop)->Prop
 | .t n,K=>nU F n K
 | .k v,K=>K v
 | .f g,K=>K (R.cl g [])
def mU (R:Env) (F:aW):Sc->AV
 | .t n=>look F n
 | .k v=>v
 | .f g=>R.cl g []
theorem aG (R:Env) (F:aW) (x:Sc) (K:AV->Prop):dL R F x K=K (mU R F x):=by
 cases x
 ·exact hY _ _ _
 ·rfl
 ·rfl
def sW (R:Env) (F:aW):List Sc->(List AV->Prop)->Prop
 |[],K=>K []
 |x::r,K=>dL R F x fun v=>sW R F r fun l=>K (v::l)
theorem gw (R:Env) (F:aW):∀ (l:List Sc) (K:List AV->Prop),sW R F l K=K (l.map (mU R F))
 |[],_=>rfl
 |x::r,K=>by simp only[sW,aG,gw R F r,List.map_cons]
def Bd (R:Env) (F:aW):Option Sc->(Option AV->Prop)->Prop
 |none,K=>K none
 |some x,K=>dL R F x fun v=>K (some v)
theorem Cu (R:Env) (F:aW) (x:Option Sc) (K:Option AV->Prop):Bd R F x K=K (x.map (mU R F)):=by
 cases x
 ·rfl
 ·simp only[Bd,aG,Option.map_some]
def aI (d:Option Nat) (v:AV) (F:aW) (M:ah) (nx:Nat) (K:KS):Prop:=
 match d with
 |none=>K F M nx
 |some i=>K ((i,v)::F) M nx
def Cv (F:aW):List Nat->(aW->Prop)->Prop
 |[],K=>K []
 |i::r,K=>nU F i fun v=>Cv F r fun F'=>K ((i,v)::F')
theorem sX {F:aW}:∀ {l:List Nat} {K:aW->Prop},Cv F l K->∃F',(∀i,look F' i=look F i\/ look F' i= .bad)/\K F'
 |[],K,h=>⟨[],fun _=> .inr rfl,h⟩
 |i::r,K,h=>by
  simp only[Cv,hY]at h
  obtain⟨F',h1,h2⟩:=sX (l:=r) (K:=fun F'=>K ((i,look F i)::F')) h
  refine⟨(i,look F i)::F',fun j=> ?_,h2⟩
  by_cases e:j=i
  ·subst e; left; simp[look]
  ·have:(j==i)=false:=by simpa using e
   simp only[look,this,cond_false]
   exact h1 j
def dc:ah->Nat->(bI->Prop)->Prop
 |[],_,_=>False
 |(m,b)::r,n,K=>bif Nat.beq n m then K b else dc r n K
theorem aR:∀ {M:ah} {n:Nat} {K:bI->Prop},dc M n K->∃b,ab (ay M) n=some b.aT/\K b
 |[],_,_,h=>h.elim
 |(m,b)::r,n,K,h=>by
  simp only[dc,cH]at h
  simp only[ay,ab]
  cases hb:n==m with
  |true=>rw[hb]at h; exact⟨b,rfl,h⟩
  |false=>rw[hb]at h; exact aR (M:=r) h
def ic:ah->Nat->bI->(ah->Prop)->Prop
 |[],n,b,K=>K [(n,b)]
 |(m,c)::r,n,b,K=>bif Nat.beq n m then K ((m,b)::r)else ic r n b fun r'=>K ((m,c)::r')
theorem ci:∀ {M:ah} {n:Nat} {b:bI} {K:ah->Prop},ic M n b K->∃M',ay M'=gJ (ay M) n b.aT/\K M'
 |[],n,b,K,h=>⟨_,rfl,h⟩
 |(m,c)::r,n,b,K,h=>by
  simp only[ic,cH]at h
  simp only[ay,gJ]
  cases hb:n==m with
  |true=>rw[hb]at h; exact⟨_,rfl,h⟩
  |false=>
   rw[hb]at h
   obtain⟨M',h1,h2⟩:=ci (M:=r) (K:=fun r'=>K ((m,c)::r')) h
   exact⟨_,by simp only[ay,h1]; rfl,h2⟩
theorem r8 (M:ah) (n:Nat) (b:bI):ab (ay ((n,b)::M))=ab (gJ (ay M) n b.aT):=by
 funext m
 rw[mJ]
 simp only[ay,ab]
 by_cases h:m=n
 ·subst h; simp
 ·have:(m==n)=false:=by simpa using h
  simp[this,h]
def yX:Nat->List AV->(List AV->Prop)->Prop
 |0,_,K=>K []
 |n+1,c::r,K=>yX n r fun l=>K (c::l)
 |_+1,[],_=>False
theorem lg:∀ {n:Nat} {cs:List AV} {K:List AV->Prop},yX n cs K->(cs.take n).length=n/\K (cs.take n)
 |0,_,_,h=>⟨rfl,h⟩
 |n+1,c::r,K,h=>by
  obtain⟨h1,h2⟩:=lg (K:=fun l=>K (c::l)) h
  exact⟨by simp only[List.take_succ_cons,List.length_cons,h1],by simpa using h2⟩
 |_+1,[],_,h=>h.elim
def MP (n:Nat) (cs:List AV) (K:AV->Prop):Prop:=
 match n,cs with
 |1,c::_=>K c
 |_,_=>False
def GJ (ag:Bool) (n:Nat) (cs:List AV) (K:AV->Prop):Prop:=
 match ag with
 |true=>yX n cs fun l=>K (.agg l)
 |false=>MP n cs K
def sY (ag:Bool) (n:Nat):Nat->List AV->(AV->Prop)->Prop
 |0,cs,K=>GJ ag n cs K
 |off+1,_::r,K=>sY ag n off r K
 |_+1,[],_=>False
theorem ji {ag:Bool} {n:Nat}:∀ {off:Nat} {cs:List AV} {K:AV->Prop},sY ag n off cs K->apart ag n off cs K
 |0,cs,K,h=>by
  simp only[sY,GJ]at h
  simp only[apart,List.drop_zero]
  cases ag with
  |true=>
   simp only at h
   obtain⟨h1,h2⟩:=lg h
   exact aD (by simp only[h1,beq_self_eq_true]) h2
  |false=>
   simp only[MP]at h
   split at h
   ·exact aD rfl (aD rfl h)
   ·exact False.elim h
 |off+1,c::r,K,h=>by
  have:=ji (off:=off) (cs:=r) h
  simpa[apart]using this
 |_+1,[],_,h=>h.elim
def Cw:List AV->List AV->(List AV->Prop)->Prop
 |[],cs,K=>K cs
 |v::r,_::cs,K=>Cw r cs fun l=>K (v::l)
 |_::_,[],_=>False
def lh:Nat->List AV->List AV->(List AV->Prop)->Prop
 |0,vs,cs,K=>Cw vs cs K
 |off+1,vs,c::cs,K=>lh off vs cs fun l=>K (c::l)
 |_+1,_,[],_=>False
theorem sZ:∀ {vs cs:List AV} {K:List AV->Prop},Cw vs cs K->vs.length<=cs.length/\K (vs++cs.drop vs.length)
 |[],cs,K,h=>⟨Nat.zero_le _,by simpa[Cw]using h⟩
 |v::r,c::cs,K,h=>by
  obtain⟨h1,h2⟩:=sZ (vs:=r) (cs:=cs) (K:=fun l=>K (v::l)) h
  exact⟨by simpa using h1,by simpa using h2⟩
 |_::_,[],_,h=>h.elim
theorem eJ:∀ {off:Nat} {vs cs:List AV} {K:List AV->Prop},lh off vs cs K->off+vs.length<=cs.length/\K (bM off vs cs)
 |0,vs,cs,K,h=>by
  obtain⟨h1,h2⟩:=sZ h
  exact⟨by omega,by simpa[bM]using h2⟩
 |off+1,vs,c::cs,K,h=>by
  obtain⟨h1,h2⟩:=eJ (off:=off) (vs:=vs) (cs:=cs) (K:=fun l=>K (c::l)) h
  refine⟨by simp only[List.length_cons]; omega,?_⟩
  have e:bM (off+1) vs (c::cs)=c::bM off vs cs:=by
   simp only[bM,List.take_succ_cons,List.cons_append]
   congr 3
   rw[show off+1+vs.length=(off+vs.length)+1 by omega,List.drop_succ_cons]
  rw[e]; exact h2
 |_+1,_,[],_,h=>h.elim
def lk (v:AV) (K:List AV->Prop):Prop:=
 match v with
 | .agg cs=>K cs
 | .bad=>False
 | .aN _=>False
 | .int k n=>K [.int k n]
 | .bool b=>K [.bool b]
 | .str s=>K [.str s]
 | .bP=>K [.bP]
 | .ai=>K [.ai]
 | .ap=>K [.ap]
 | .dY=>K [.dY]
 | .ce=>K [.ce]
 | .nJ _ _=>False
 | .loc n len i off=>K [.loc n len i off]
 | .bc n len=>K [.bc n len]
 | .ee n len i off bX=>K [.ee n len i off bX]
 | .omap n=>K [.omap n]
 | .aH sz es=>K [.aH sz es]
 | .bh e off=>K [.bh e off]
 | .bR f cs=>K [.bR f cs]
theorem da {v:AV} {K:List AV->Prop} (h:lk v K):bQ v=true/\K (cells v):=by
 cases v<;>first|exact⟨rfl,h⟩|exact h.elim
def yY (vs:List AV) (n:Nat) (K:Prop):Prop:=bif Nat.beq vs.length n then K else False
theorem jj {vs:List AV} {n:Nat} {K:Prop} (h:yY vs n K):vs.length=n/\K:=by
 unfold yY at h
 cases hb:Nat.beq vs.length n with
 |true=>rw[hb]at h; exact⟨Nat.eq_of_beq_eq_true hb,h⟩
 |false=>rw[hb]at h; exact h.elim
def D3 (R:Env) (F:aW):List (Nat × Nat × Sc)->List AV->(List AV->Prop)->Prop
 |[],cs,K=>K cs
 |(off,n,x)::r,cs,K=>dL R F x fun v=>lk v fun vs=>yY vs n (lh off vs cs fun cs'=>D3 R F r cs' K)
def N5:Nat->List AV->List (List AV)->(List (List AV)->Prop)->Prop
 |0,v,_::r,K=>K (v::r)
 |n+1,v,e::r,K=>N5 n v r fun l=>K (e::l)
 |_,_,[],_=>False
theorem vS:∀ {i:Nat} {v:List AV} {es:List (List AV)} {K:List (List AV)->Prop},N5 i v es K->i<es.length/\K (es.set i v)
 |0,v,e::r,K,h=>⟨by simp,h⟩
 |n+1,v,e::r,K,h=>by
  obtain⟨h1,h2⟩:=vS (K:=fun l=>K (e::l)) h
  exact⟨by simpa using h1,by simpa using h2⟩
 |0,_,[],_,h=>h.elim
 |_+1,_,[],_,h=>h.elim
def N6 (z:List AV):Nat->(List (List AV)->Prop)->Prop
 |0,K=>K []
 |n+1,K=>N6 z n fun l=>K (z::l)
theorem vT {z:List AV}:∀ {n:Nat} {K:List (List AV)->Prop},N6 z n K->K (List.replicate n z)
 |0,_,h=>h
 |n+1,K,h=>by
  have:=vT (K:=fun l=>K (z::l)) h
  simpa[List.replicate_succ]using this
def vU:Nat->List AV->(List AV->Prop)->Prop
 |0,r,K=>K r
 |n+1,_::r,K=>vU n r K
 |_+1,[],_=>False
def N7:Nat->List AV->(List AV->List AV->Prop)->Prop
 |0,r,K=>K [] r
 |n+1,c::r,K=>N7 n r fun l r'=>K (c::l) r'
 |_+1,[],_=>False
def Cx (sz:Nat):Nat->List AV->(List (List AV)->Prop)->Prop
 |0,_,K=>K []
 |n+1,r,K=>N7 sz r fun l r'=>Cx sz n r' fun es=>K (l::es)
theorem ll:∀ {n:Nat} {r:List AV} {K:List AV->Prop},vU n r K->n<=r.length/\K (r.drop n)
 |0,_,_,h=>⟨Nat.zero_le _,h⟩
 |n+1,c::r,K,h=>by
  obtain⟨h1,h2⟩:=ll (n:=n) (r:=r) h
  exact⟨by simpa using h1,by simpa using h2⟩
 |_+1,[],_,h=>h.elim
theorem vV:∀ {n:Nat} {r:List AV} {K:List AV->List AV->Prop},N7 n r K->n<=r.length/\K (r.take n) (r.drop n)
 |0,_,_,h=>⟨Nat.zero_le _,h⟩
 |n+1,c::r,K,h=>by
  obtain⟨h1,h2⟩:=vV (n:=n) (r:=r) (K:=fun l r'=>K (c::l) r') h
  exact⟨by simpa using h1,by simpa using h2⟩
 |_+1,[],_,h=>h.elim
theorem oy {sz:Nat}:∀ {n:Nat} {r:List AV} {K:List (List AV)->Prop},Cx sz n r K->n*sz<=r.length/\K (p5 sz n r)
 |0,_,_,h=>⟨by simp,h⟩
 |n+1,r,K,h=>by
  obtain⟨h1,h2⟩:=vV h
  obtain⟨h3,h4⟩:=oy (n:=n) (r:=r.drop sz) (K:=fun es=>K (r.take sz::es)) h2
  refine⟨?_,h4⟩
  rw[List.length_drop]at h3
  rw[Nat.add_mul,Nat.one_mul]; omega
def Cy (R:Env) (F:aW) (sz:Nat):List (Nat × Sc)->List (List AV)->(List (List AV)->Prop)->Prop
 |[],es,K=>K es
 |(i,x)::r,es,K=>dL R F x fun v=>lk v fun vs=>yY vs sz (N5 i vs es fun es'=>Cy R F sz r es' K)
end Go.AM
namespace Go.AM
open Go.RowKit
variable {X:cq}
theorem gP {cs:List AV} {j n:Nat} (hj:j<cs.length) (hn:n ∈ (cs.getD j .bad).names):n ∈ AV.az cs:=by
 induction cs generalizing j with
 |nil=>simp at hj
 |cons c cs ih=>
  simp only[AV.az,List.mem_append]
  cases j with
  |zero=>left; simpa using hn
  |succ j=>right; exact ih (j:=j) (by simpa using hj) (by simpa using hn)
inductive Fz (D:Nat->Prop) (M:Mem):AV->AV->Prop
 |same (v:AV) (h:v.names=[]):Fz D M v v
 |ai (sz:Nat):Fz D M .ai (.aH sz [])
 |bc (n:Nat) (b:bg) (es:List (List AV)) (hD:D n) (hb:ab M n=some b) (hmp:b.mp=none) (hl:es.length=b.es.length) (hs:∀i,i<es.length->(es.getD i []).length=(b.es.getD i []).length)
   (h:∀i j,i<es.length->j<b.sz->Fz D M ((b.es.getD i []).getD j .bad) ((es.getD i []).getD j .bad)):Fz D M (.bc n b.es.length) (.aH b.sz es)
 |loc (n i off:Nat) (b:bg) (row:List AV) (hD:D n) (hb:ab M n=some b) (hmp:b.mp=none) (hi:i<b.es.length) (hl:row.length=(b.es.getD i []).length)
   (h:∀j,j<b.sz->Fz D M ((b.es.getD i []).getD j .bad) (row.getD j .bad)):Fz D M (.loc n b.es.length i off) (.bh row off)
 |bR (f:FV) (cs ds:List AV) (hl:ds.length=cs.length) (h:∀j,j<cs.length->Fz D M (cs.getD j .bad) (ds.getD j .bad)):Fz D M (.bR f cs) (.bR f ds)
 |agg (cs ds:List AV) (hl:ds.length=cs.length) (h:∀j,j<cs.length->Fz D M (cs.getD j .bad) (ds.getD j .bad)):Fz D M (.agg cs) (.agg ds)
 |aN (cs ds:List AV) (hl:ds.length=cs.length) (h:∀j,j<cs.length->Fz D M (cs.getD j .bad) (ds.getD j .bad)):Fz D M (.aN cs) (.aN ds)
theorem gZ:∀ {cs:List AV},(∀j,j<cs.length->(cs.getD j .bad).names=[])->AV.az cs=[]
 |[],_=>rfl
 |c::r,h=>by
  simp only[AV.az,List.append_eq_nil_iff]
  exact⟨by simpa using h 0 (by simp),gZ (fun j hj=>by simpa using h (j+1) (by simpa using hj))⟩
theorem Fz.names {D:Nat->Prop} {M:Mem} {v a:AV} (h:Fz D M v a):a.names=[]:=by
 induction h with
 |same v h=>exact h
 |ai=>rfl
 |bc=>rfl
 |loc=>rfl
 |bR f cs ds hl h ih=>simp only[AV.names]; exact gZ (fun j hj=>ih j (by omega))
 |agg cs ds hl h ih=>simp only[AV.names]; exact gZ (fun j hj=>ih j (by omega))
 |aN cs ds hl h ih=>simp only[AV.names]; exact gZ (fun j hj=>ih j (by omega))
theorem Fz.sound {D:Nat->Prop} {M:Mem} {ρ:Place} {I:Nat->Prop} {w:World} {N:Nat->Prop} (hW:c9 X ρ I (ab M) N w) {v a:AV} (h:Fz D M v a):∀ {u:Value},aL ρ (lens (ab M)) I w N v u->
  aL cZ gp (fun g=>I g\/∃n cap b,D n/\ab M n=some b/\ρ n=some (g,cap)) w cJ a u:=by
 have E:mI N ρ (lens (ab M)) I w ρ (lens (ab M)) (fun g=>I g\/∃n cap b,D n/\ab M n=some b/\ρ n=some (g,cap)) w:=⟨fun _ _ _ _ _ _=>rfl,fun _ len _ _ h=>⟨len,h,Nat.le_refl _⟩,fun b hb=> .inl hb,fun _ _=>rfl⟩
 induction h with
 |same v h=>exact fun hr=>(hr.uO E (fun _ h=>h)).alone h _ _
 |ai sz=>
  intro u hr
  cases hr
  exact .cP _ _ _ (by simp[maxLen])
 |bc n b es hD hb hmp hl hs h ih=>
  intro u hr
  have dV:lens (ab M) n=some (b.es.length,b.sz):=by rw[aA]; exact⟨b,hb,bg.dg hmp,rfl⟩
  have B:=hW.aT n b hb
  obtain⟨hn,⟨h0,q,hv⟩|⟨g,cap,hρ,hv⟩⟩:=jO hr dV
  ·have he:=B.eD h0
   rw[he]at hl
   have he':es=[]:=List.eq_nil_of_length_eq_zero (by simpa using hl)
   rw[hv,he']
   exact .cP _ _ _ (by simp[maxLen])
  ·obtain⟨cs,fr,hg,og,rD,hown,hlc,nO,hcs,lP⟩:=B.real g cap hρ
   have hg:=hg.cells hmp
   rw[hv,<-hl]
   refine .aH b.sz es g 0 cap (fun i j=>(cs[i*b.sz+j]?).getD undef) (by omega) nO (.inr ⟨n,cap,b,hD,hb,hρ⟩) (fun e he=> ?_) (fun i j hi hj=> ?_) (fun i j hi hj=> ?_) (fun i j hi hj=> ?_)
   ·obtain⟨i,hi,rfl⟩:=List.getElem_of_mem he
    have h1:=hs i hi
    have h2:es.getD i []=es[i]:=by simp[List.getD_eq_getElem?_getD,hi]
    have h3:b.es.getD i []=b.es[i]'(by omega):=by simp[List.getD_eq_getElem?_getD,show i<b.es.length by omega]
    rw[<-h2,h1,h3]
    exact B.even _ (List.getElem_mem _)
   ·obtain⟨u,hu,h1,_⟩:=lP i j (by omega) hj
    rw[hu]; exact h1
   ·obtain⟨u,hu,h1,_⟩:=lP i j (by omega) hj
    simp only[World.cell?,hg,Nat.zero_add,hu]; rfl
   ·obtain⟨u,hu,h1,hr⟩:=lP i j (by omega) hj
    rw[hu]
    exact ih i j hi hj hr
 |loc n i off b row hD hb hmp hi hl h ih=>
  intro u hr
  have dV:lens (ab M) n=some (b.es.length,b.sz):=by rw[aA]; exact⟨b,hb,bg.dg hmp,rfl⟩
  have B:=hW.aT n b hb
  obtain⟨hn,g,cap,hρ,hv⟩:=gj hr dV
  obtain⟨cs,fr,hg,og,rD,hown,hlc,nO,hcs,lP⟩:=B.real g cap hρ
  have hg:=hg.cells hmp
  have hrow:(b.es.getD i []).length=b.sz:=by
   have h3:b.es.getD i []=b.es[i]:=by simp[List.getD_eq_getElem?_getD,hi]
   rw[h3]; exact B.even _ (List.getElem_mem _)
  rw[hv]
  refine .bh row off g (i*b.sz) (fun j=>(cs[i*b.sz+j]?).getD undef) (.inr ⟨n,cap,b,hD,hb,hρ⟩) (fun j hj=> ?_) (fun j hj=> ?_) (fun j hj=> ?_)
  ·obtain⟨u,hu,h1,_⟩:=lP i j hi (by omega)
   rw[hu]; exact h1
  ·obtain⟨u,hu,h1,_⟩:=lP i j hi (by omega)
   simp only[World.cell?,hg,hu]; rfl
  ·obtain⟨u,hu,h1,hr⟩:=lP i j hi (by omega)
   rw[hu]
   exact ih j (by omega) hr
 |bR f cs ds hl h ih=>
  intro u hr
  cases hr with
  |bR f _ vs hvl hr=>exact .bR f ds vs (by omega) (fun j hj=>ih j (by omega) (hr j (by omega)))
  |qI f _ vs hvl hr=>exact .qI f ds vs (by omega) (fun j hj=>ih j (by omega) (hr j (by omega)))
 |agg cs ds hl h ih=>
  intro u hr
  cases hr with
  |agg _ vs hvl h1 hr=>exact .agg ds vs (by omega) h1 (fun j hj=>ih j (by omega) (hr j (by omega)))
 |aN cs ds hl h ih=>
  intro u hr
  cases hr with
  |aN _ vs hvl hr=>exact .aN ds vs (by omega) (fun j hj=>ih j (by omega) (hr j (by omega)))
end Go.AM
namespace Go.AM
open Go.RowKit
variable {R:Env} {X:cq}
inductive Mt (D:Nat->Prop) (M M':Mem) (nx:Nat):AV->AV->Prop
 |same (v:AV):Mt D M M' nx v v
 |drop (v:AV):Mt D M M' nx v .bad
 |fz (v a:AV) (h:Fz D M v a):Mt D M M' nx v a
 |eD (n:Nat) (b:bg) (hb:ab M' n=some b) (he:b.es=[]) (hn:nx<=n):Mt D M M' nx .ai (.bc n 0)
 |bR (f:FV) (cs ds:List AV) (hl:ds.length=cs.length) (h:∀j,j<cs.length->Mt D M M' nx (cs.getD j .bad) (ds.getD j .bad)):Mt D M M' nx (.bR f cs) (.bR f ds)
 |agg (cs ds:List AV) (hl:ds.length=cs.length) (h:∀j,j<cs.length->Mt D M M' nx (cs.getD j .bad) (ds.getD j .bad)):Mt D M M' nx (.agg cs) (.agg ds)
 |aN (cs ds:List AV) (hl:ds.length=cs.length) (h:∀j,j<cs.length->Mt D M M' nx (cs.getD j .bad) (ds.getD j .bad)):Mt D M M' nx (.aN cs) (.aN ds)
def fY (d d':Dn):Prop:=d'=d\/ d'= .b false
@[refl] theorem fY.refl (d:Dn):fY d d:= .inl rfl
theorem fY.fg {d:Dn}:fY d (.b false):= .inr rfl
def MQ (d d':Dn):Prop:=match d' with
 | .b x=>fY d (.b x)
 | .it _ _ _=>False
def Be (r:Dn->Dn->Prop) (m m':Option (Nat × Bool × Bool × Dn)):Prop:=match m,m' with
 |none,none=>True
 |some (k,ka,va,d),some (k',Jk,Jl,d')=>k=k'/\ka=Jk/\va=Jl/\r d d'
 |_,_=>False
theorem Be.refl (m:Option (Nat × Bool × Bool × Dn)):Be fY m m:=by
 rcases m with _|⟨k,ka,va,d⟩
 ·trivial
 ·exact⟨rfl,rfl,rfl,.inl rfl⟩
theorem Be.ln {r:Dn->Dn->Prop} {b b':bg} (h:Be r b.mp b'.mp) (hl:b.es.length=b'.es.length):b.ln=b'.ln:=by
 unfold bg.ln
 generalize b.mp=m at h ⊢
 generalize b'.mp=m' at h ⊢
 cases m<;>cases m'<;>first|exact h.elim|exact hl|rfl
theorem fY.all {d d':Dn} (h:fY d d') (ha:d'.all=true):d.all=true:=by
 rcases h with rfl|rfl
 ·exact ha
 ·exact Bool.noConfusion ha
theorem MQ.le {d d':Dn} (h:MQ d d'):fY d d':=by cases d'<;>first|exact h|exact False.elim h
theorem MQ.all {d d':Dn} (h:MQ d d') (ha:d'.all=true):d.all=true:=h.le.all ha
theorem MQ.no {d:Dn} {r:Nat} {sn:List Bool} {la:Option Nat} (h:MQ d (.it r sn la)):False:=h
theorem fY.it {d:Dn} {r:Nat} {sn:List Bool} {la:Option Nat} (h:fY d (.it r sn la)):d= .it r sn la:=by
 rcases h with h|h
 ·exact h.symm
 ·cases h
theorem eV.le {r:Dn->Dn->Prop} (hr:∀d d',r d d'->d'.all=true->d.all=true) {m m':Option (Nat × Bool × Bool × Dn)} {sz len ty:Nat} {o:Option Obj} {cs:Array Value} {fr:Nat × Nat} (h:eV m sz len o cs ty fr) (hm:Be r m m'):eV m' sz len o cs ty fr:=by
 rcases m with _|⟨k,ka,va,d⟩<;>rcases m' with _|⟨k',Jk,Jl,d'⟩
 ·exact h
 ·exact hm.elim
 ·exact hm.elim
 ·obtain⟨rfl,rfl,rfl,h4⟩:=hm
  obtain⟨en,ck,h1,h2,h3⟩:=h
  exact⟨en,ck,h1,h2,h3.key,h3.cell,h3.born,h3.clock,fun ha=>h3.den (hr _ _ h4 ha),h3.room⟩
structure MR (D:Nat->Prop) (M M':Mem) (nx:Nat) (b b':bg):Prop where
 ty:b.ty=b'.ty
 sz:b.sz=b'.sz
 mp:Be fY b.mp b'.mp
 len:b.es.length=b'.es.length
 row:∀i,i<b.es.length->(b.es.getD i []).length=(b'.es.getD i []).length
 cell:∀i j,i<b.es.length->j<b.sz->Mt D M M' nx ((b.es.getD i []).getD j .bad) ((b'.es.getD i []).getD j .bad)
theorem MR.ln {D:Nat->Prop} {M M':Mem} {nx:Nat} {b b':bg} (h:MR D M M' nx b b'):b.ln=b'.ln:=h.mp.ln h.len
def ZN (nx:Nat) (b:bg):Prop:=∀e ∈ b.es,AV.gf (· <nx) e
structure Wk (X:cq) (S S':St):Prop where
 p:X.p<=S'.nx
 F:∀i,look S'.F i= .bad\/(Mt (fun n=>X.p<=n/\ab S'.M n=none) S.M S'.M S.nx (look S.F i) (look S'.F i)/\(S.nx<=S'.nx\/(look S'.F i).under (· <S'.nx)))
 M:∀n b',ab S'.M n=some b'->((∃b,ab S.M n=some b/\MR (fun n=>X.p<=n/\ab S'.M n=none) S.M S'.M S.nx b b')/\(S.nx<=S'.nx\/(n<S'.nx/\ZN S'.nx b')))\/(ab S.M n=none/\S.nx<=n/\n<S'.nx/\b'.es=[]/\b'.mp=none)
def nA (S:St) (ρ:Place):Place:=fun n=>if S.nx<=n then none else ρ n
def SE (X:cq) (S S':St) (ρ:Place) (I:Nat->Prop):Nat->Prop:=fun g=>I g\/∃n cap b,(X.p<=n/\ab S'.M n=none)/\ab S.M n=some b/\ρ n=some (g,cap)
theorem xv {S S':St} (h:Wk X S S') {w:World} {ρ:Place} {I:Nat->Prop} (W:c9 X ρ I (ab S.M) (· <S.nx) w):
  c9 X (nA S ρ) (SE X S S' ρ I) (ab S'.M) (· <S'.nx) w/\∀v a u,aL ρ (lens (ab S.M)) I w (· <S.nx) v u->Mt (fun n=>X.p<=n/\ab S'.M n=none) S.M S'.M S.nx v a->(S.nx<=S'.nx\/ a.under (· <S'.nx))->aL (nA S ρ) (lens (ab S'.M)) (SE X S S' ρ I) w (· <S'.nx) a u:=by
 obtain⟨hp,hF,hM⟩:=h
 let D:Nat->Prop:=fun n=>X.p<=n/\ab S'.M n=none
 let ρ':Place:=nA S ρ
 let I':Nat->Prop:=SE X S S' ρ I
 have hlt:∀n b,ab S.M n=some b->n<S.nx:=fun n b h=>(W.aT n b h).lt
 have SF:∀n len sz,n<S.nx->lens (ab S'.M) n=some (len,sz)->lens (ab S.M) n=some (len,sz):=by
  intro n len sz hn hl
  obtain⟨b',hb',rfl,rfl⟩:=aA.1 hl
  rcases hM n b' hb' with⟨⟨b,hb,hB⟩,_⟩|⟨_,h2,_⟩
  ·exact aA.2 ⟨b,hb,hB.ln,hB.sz⟩
  ·omega
 have E:mI (· <S.nx) ρ (lens (ab S.M)) I w ρ' (lens (ab S'.M)) I' w:=by
  refine⟨fun n _ _ hn _ _=> ?_,fun n len sz hn h=>⟨len,SF n len sz hn h,Nat.le_refl _⟩,fun b hb=> .inl hb,fun _ _=>rfl⟩
  have:¬S.nx<=n:=by have:n<S.nx:=hn; omega
  simp[ρ',nA,this]
 have rM:∀v a,Mt D S.M S'.M S.nx v a->∀u,aL ρ (lens (ab S.M)) I w (· <S.nx) v u->aL ρ' (lens (ab S'.M)) I' w (fun _=>True) a u:=by
  intro v a hm
  induction hm with
  |same v=>exact fun u hr=>(hr.uO E (fun _ h=>h)).wide (fun _ _=>trivial)
  |drop v=>exact fun u _=> .bad u
  |fz v a h=>exact fun u hr=>((h.sound W hr).bare (fun _ h=>h) _ _).wide (fun _ h=>h.elim)
  |eD n b hb he hn=>
   intro u hr
   cases hr
   refine .bc n 0 _ trivial rfl fun l sz hl=> ?_
   obtain⟨b',hb',rfl,rfl⟩:=aA.1 hl
   rw[hb]at hb'
   cases hb'
   rw[bg.FZ he]
   exact⟨Nat.le_refl _,fun _=> .inl ⟨by simp[ρ',nA,hn],none,rfl⟩⟩
  |bR f cs ds hl h ih=>
   intro u hr
   cases hr with
   |bR f _ vs hvl hr=>exact .bR f ds vs (by omega) (fun j hj=>ih j (by omega) _ (hr j (by omega)))
   |qI f _ vs hvl hr=>exact .qI f ds vs (by omega) (fun j hj=>ih j (by omega) _ (hr j (by omega)))
  |agg cs ds hl h ih=>
   intro u hr
   cases hr with
   |agg _ vs hvl h1 hr=>exact .agg ds vs (by omega) h1 (fun j hj=>ih j (by omega) _ (hr j (by omega)))
  |aN cs ds hl h ih=>
   intro u hr
   cases hr with
   |aN _ vs hvl hr=>exact .aN ds vs (by omega) (fun j hj=>ih j (by omega) _ (hr j (by omega)))
 have bound:∀v a,Mt D S.M S'.M S.nx v a->(∀m ∈ v.names,m<S.nx)->S.nx<=S'.nx->∀m ∈ a.names,m<S'.nx:=by
  intro v a hm
  induction hm with
  |same v=>exact fun h hle m hm=>by have:=h m hm; omega
  |drop v=>intro _ _ m hm; simp[AV.names]at hm
  |fz v a h=>intro _ _ m hm; rw[h.names]at hm; simp at hm
  |eD n b hb he hn=>
   intro _ hle m hm
   simp[AV.names]at hm
   subst hm
   rcases hM m b hb with⟨⟨b0,hb0,_⟩,_⟩|⟨_,_,h,_⟩
   ·have:=hlt m b0 hb0; omega
   ·exact h
  |bR f cs ds hl h ih=>
   intro hv hle m hm
   simp only[AV.names]at hm
   obtain⟨j,hj,Gm⟩:=dy hm
   exact ih j (by omega) (fun m hm=>hv m (by simp only[AV.names]; exact gP (by omega) hm)) hle m Gm
  |agg cs ds hl h ih=>
   intro hv hle m hm
   simp only[AV.names]at hm
   obtain⟨j,hj,Gm⟩:=dy hm
   exact ih j (by omega) (fun m hm=>hv m (by simp only[AV.names]; exact gP (by omega) hm)) hle m Gm
  |aN cs ds hl h ih=>
   intro hv hle m hm
   simp only[AV.names]at hm
   obtain⟨j,hj,Gm⟩:=dy hm
   exact ih j (by omega) (fun m hm=>hv m (by simp only[AV.names]; exact gP (by omega) hm)) hle m Gm
 have low:∀v a u,aL ρ (lens (ab S.M)) I w (· <S.nx) v u->Mt D S.M S'.M S.nx v a->(S.nx<=S'.nx\/ a.under (· <S'.nx))->aL ρ' (lens (ab S'.M)) I' w (· <S'.nx) a u:=by
  intro v a u hr hm h
  refine (rM v a hm u hr).low ?_
  rcases h with h|h
  ·exact gu a (fun m hm'=>bound v a hm (fun m hm=>ky hr m hm) h m hm')
  ·exact h
 refine⟨⟨fun n b' hb'=> ?_,fun n m b b' g c c' hb hb' h1 h2=> ?_,fun g hg=> .inl (W.pW g hg),?_,?_,W.keeps,fun n hn=>by show n<S'.nx; omega,W.FY,W.mK E⟩,low⟩
 ·rcases hM n b' hb' with⟨⟨b,hb,hB⟩,hu⟩|⟨h0,h1,hn,h2,hmn⟩
  ·have B:=W.aT n b hb
   have hnlt:=hlt n b hb
   have hn:n<S'.nx:=by rcases hu with h|h<;>omega
   have hu:S.nx<=S'.nx\/ ZN S'.nx b':=hu.imp id (fun h=>h.2)
   have Bf:nA S ρ n=ρ n:=by simp only[nA]; rw[if_neg (by omega)]
   refine⟨hn,fun e he=> ?_,fun h0=> ?_,fun g cap hρ=> ?_,fun k ka va r sn la hb'=> ?_⟩
   rotate_right
   ·have hmp:=hB.mp
    rw[hb']at hmp
    obtain⟨k0,RR,RS,d0,ZO⟩:∃k0 RR RS d0,b.mp=some (k0,RR,RS,d0):=by
     cases hm:b.mp with
     |none=>rw[hm]at hmp; exact hmp.elim
     |some q=>exact⟨_,_,_,_,rfl⟩
    rw[ZO]at hmp
    obtain⟨_,_,_,h4⟩:=hmp
    rw[h4.it]at ZO
    obtain⟨g,cap,hρ,i1,i2,i3⟩:=B.iter _ _ _ _ _ _ ZO
    refine⟨g,cap,by rw[Bf]; exact hρ,i1,?_,i3⟩
    rintro (h|⟨m,c',bm,⟨_,ZP⟩,ZQ,N8⟩)
    ·exact i2 h
    ·obtain⟨_,_,_,_,_,k2,_⟩:=i3
     obtain⟨_,_,hc1,_⟩:=(W.aT m bm ZQ).real _ c' N8
     exact hc1.sq k2
   ·obtain⟨i,hi,rfl⟩:=List.getElem_of_mem he
    have h1:i<b.es.length:=by have:=hB.len; omega
    have h3:=hB.row i h1
    have h4:=B.even b.es[i] (List.getElem_mem _)
    rw[List.getD_eq_getElem?_getD,List.getD_eq_getElem?_getD,List.getElem?_eq_getElem hi,List.getElem?_eq_getElem h1,Option.getD_some,Option.getD_some]at h3
    have:=hB.sz
    omega
   ·rw[Bf]at h0
    have h3:=B.eD h0
    have:=hB.len
    rw[h3]at this
    exact List.eq_nil_of_length_eq_zero (by simpa using this.symm)
   ·rw[Bf]at hρ
    obtain⟨cs,fr,hg,og,rD,hown,hlc,nO,hcs,lP⟩:=B.real g cap hρ
    have e1:=hB.len
    have e2:=hB.sz
    refine⟨cs,fr,by rw[<-hB.ty,<-hB.sz,<-hB.len]; exact hg.le (fun _ _ h=>h.all) hB.mp,og,?_,hown,by omega,nO,by rw[<-hB.sz]; exact hcs,fun i j hi hj=> ?_⟩
    ·rintro (h|⟨m,c',bm,⟨_,ZP⟩,ZQ,N8⟩)
     ·exact rD h
     ·have:=W.inj n m b bm g cap c' hb ZQ hρ N8
      subst this
      rw[hb']at ZP; simp at ZP
    ·obtain⟨u,pU,GD,hr⟩:=lP i j (by omega) (by omega)
     refine⟨u,by rw[<-hB.sz]; exact pU,GD,?_⟩
     refine low _ _ _ hr (hB.cell i j (by omega) (by omega)) ?_
     rcases hu with hu|hu
     ·exact .inl hu
     ·right
      have AW:b'.es.getD i [] ∈ b'.es:=by
       rw[List.getD_eq_getElem?_getD,List.getElem?_eq_getElem hi,Option.getD_some]; exact List.getElem_mem _
      have hel:(b'.es.getD i []).length=b.sz:=by
       rw[<-hB.row i (by omega),List.getD_eq_getElem?_getD,List.getElem?_eq_getElem (show i<b.es.length by omega),Option.getD_some]
       exact B.even _ (List.getElem_mem _)
      exact AV.fL _ _ (hu _ AW) (by omega)
  ·refine⟨hn,fun e he=>by rw[h2]at he; simp at he,fun _=>h2,fun g cap hρ=> ?_,fun _ _ _ _ _ _ h=>by rw[hmn]at h; cases h⟩
   change nA S ρ n=_ at hρ
   simp only[nA,if_pos h1]at hρ
   simp at hρ
 ·have o1:S.nx<=n->False:=fun h=>by simp only[nA,if_pos h]at h1; simp at h1
  have o2:S.nx<=m->False:=fun h=>by simp only[nA,if_pos h]at h2; simp at h2
  have e1:ρ n=some (g,c):=by simpa[nA,show ¬S.nx<=n from o1]using h1
  have e2:ρ m=some (g,c'):=by simpa[nA,show ¬S.nx<=m from o2]using h2
  rcases hM n b hb with⟨⟨b0,hb0,_⟩,_⟩|⟨_,h,_⟩
  ·rcases hM m b' hb' with⟨⟨b1,uU,_⟩,_⟩|⟨_,h,_⟩
   ·exact W.inj n m b0 b1 g c c' hb0 uU e1 e2
   ·exact (o2 h).elim
  ·exact (o1 h).elim
 ·rintro g (hg|⟨n,cap,b,_,hb,hρ⟩)
  ·exact W.lt g hg
  ·obtain⟨cs,fr,hc,_⟩:=(W.aT n b hb).real g cap hρ
   exact hc.lt
 ·rintro g hg (h|⟨n,cap,b,⟨JD,_⟩,hb,hρ⟩)
  ·exact W.old g hg h
  ·obtain⟨cs,fr,hc,_,_,hown,_⟩:=(W.aT n b hb).real g cap hρ
   rcases hown with⟨h,_⟩|h
   ·exact absurd h (Nat.not_lt.2 JD)
   ·exact absurd hg (Nat.not_lt.2 h)
theorem MS {S S':St} (h:Wk X S S') {a:Act} {w:World} {ρ:Place} {I:Nat->Prop} (W:c9 X ρ I (ab S.M) (· <S.nx) w) (F:kr ρ I w X S a):
  c9 X (nA S ρ) (SE X S S' ρ I) (ab S'.M) (· <S'.nx) w/\kr (nA S ρ) (SE X S S' ρ I) w X S' a:=by
 obtain⟨h1,low⟩:=xv h W
 refine⟨h1,fun i=> ?_,F.defers.mono (fun g hg=> .inl hg),F.size⟩
 rcases h.F i with h|⟨hm,hu⟩
 ·rw[h]; exact .bad _
 ·exact low _ _ _ (F.rep i) hm hu
theorem Bg {S S':St} (h:Wk X S S') {a:Act} {w:World} (hS:jB X S a w):jB X S' a w:=by
 obtain⟨ρ,I,W,F⟩:=hS
 obtain⟨W',F'⟩:=MS h W F
 exact⟨_,_,W',F'⟩
end Go.AM
namespace Go.AM
open Go.RowKit
def eR (a b:Bool):Bool:=match a,b with
 |true,true=>true
 |false,false=>true
 |_,_=>false
theorem c7 {a b:Bool} (h:eR a b=true):a=b:=by cases a<;>cases b<;>simp_all[eR]
structure GK (es:List (List AV)) (len i:Nat) (K:List AV->Prop):Prop where
 len:es.length=len
 h:K (es.getD i [])
structure VIx (ag:Bool) (m sz:Nat) (cs:List AV) (j:Int) (K:AV->Prop):Prop where
 lt:0<=j/\j< (m:Int)
 h:apart ag sz (j.toNat*sz) cs K
structure xw {α:Type} (xs:List α) (K:List α->Prop):Prop where
 h:K xs
structure SG (es:List (List AV)) (K:Nat->Prop):Prop where
 h:K es.length
structure ACp (es:List (List AV)) (bX:Nat) (K:List AV->Nat->Prop):Prop where
 h:K ((es.take bX).flatten) (min es.length bX)
structure Yq (a b:Int) (K:Nat->Prop):Prop where
 h:(0<=a/\a<=1073741824/\a=b)/\K a.toNat
structure SH (es:List (List AV)) (K:List UInt8->Prop):Prop where
 h:∃s:List UInt8,es=s.map (fun c=>[AV.int .u8 c.toNat])/\K s
structure GL {α:Type} (es:List α) (Y N:Prop):Prop where
 y:es=[]->Y
 n:N
structure s4 (R:Env) (X:cq) (f:Nat) (args:List AV) (F:aW) (M:ah) (nx:Nat) (d:Option Nat) (K:KS):Prop where
 body:cx R.P f
 h:∃av ws nw aY M',qJ R.P X f args (ab (ay M)) av ws nw/\(nx<=aY/\∀n ∈ nw,nx<=n/\n<aY)/\ab (ay M')=ab (cQ (ay M) ws)/\aI d av F M' aY K
structure mn (R:Env) (X:cq) (f:Nat) (args:List AV) (F:aW) (M:ah) (nx:Nat) (d:Option Nat) (K:KS):Prop where
 body:cx R.P f
 h:∃F' M' aY,K F' M' aY/\∀ρ I (a:Act) w vs,(∀x,d=some x->x<X.size)->c9 X ρ I (ab (ay M)) (· <nx) w->kr ρ I w X ⟨F,ay M,nx⟩ a->dw ρ (lens (ab (ay M))) I w (· <nx) args vs->
  Calls R.P f vs.toArray w fun e w1=>∃v,e= .returned v/\jB X ⟨F',ay M',aY⟩ (a.put d v) w1
structure qf (R:Env) (X:cq) (f:Nat) (args:List AV) (F:aW) (M:ah) (nx:Nat) (d:Option Nat) (K:KS):Prop where
 body:cx R.P f
 h:∃av ws nw aY M',qJ R.P X f args (ab (ay M)) av ws nw/\(∀p ∈ ws,p.1 ∈ nw)/\(nx<=aY/\∀n ∈ nw,nx<=n/\n<aY)/\ab (ay M')=ab (cQ (ay M) ws)/\aI d av F M' aY K
def xx:ah->Nat->List Nat
 |[],_=>[]
 |(m,b)::r,n=>bif Nat.beq n m then (match b with
  | .var _ row=>AV.az row
  | .arr _ _ _=>[]
  | .map .. =>[])else xx r n
def yZ (M:ah):List Nat->List Nat
 |[]=>[]
 |n::r=>n::(xx M n++yZ M r)
structure s5 (R:Env) (X:cq) (f:Nat) (args:List AV) (F:aW) (M:ah) (nx:Nat) (d:Option Nat) (K:KS):Prop where
 body:cx R.P f
 h:∃av ws nw aY M',Mx R.P X f args (yZ M (AV.az args)) (ab (ay M)) av ws nw/\(nx<=aY/\∀n ∈ nw,nx<=n/\n<aY)/\ab (ay M')=ab (cQ (ay M) ws)/\aI d av F M' aY K
def GM (P:Program) (f:Nat) (args:List AV) (av:AV):Prop:=
 ∀ (ρ:Place) (L:aZ) (I:Nat->Prop) (N:Nat->Prop) (w:World) (vs:List Value),dw ρ L I w N args vs->∃v,(callFunc f vs.toArray).run P w= .ok (.value v) w/\aL ρ L I w N av v
structure s6 (R:Env) (f:Nat) (args:List AV) (F:aW) (M:ah) (nx:Nat) (d:Option Nat) (K:KS):Prop where
 h:∃av,GM R.P f args av/\aI d av F M nx K
def JT (P:Program) (l:Nat) (vs:List Value) (w:World) (Q:World->Prop):Prop:=
 ∃r:Loop,w.heap[l]? =some (.loop r)/\vs.length=r.params.size/\∀c cs,∃w',Q w'/\
  Steps P (lone (Frame.round l r.fn ((r.params.zip vs.toArray).foldl (fun t (q,v)=>t.setIfInBounds q v) r.tmps) r.assign r.body .normal) (c::cs) w) (lone (c.finish (.bool true)) cs w')
structure s7 (R:Env) (X:cq) (l:Nat) (tm:List Value) (aS args:List AV) (F:aW) (M:ah) (nx:Nat) (d:Option Nat) (K:KS):Prop where
 h:∃F' M' aY,K F' M' aY/\∀ρ I (a:Act) w vs,(∀x,d=some x->x<X.size)->c9 X ρ I (ab (ay M)) (· <nx) w->kr ρ I w X ⟨F,ay M,nx⟩ a->dw ρ (lens (ab (ay M))) I w (· <nx) args vs->
  dw ρ (lens (ab (ay M))) I w (· <nx) aS tm->JT R.P l vs w fun w1=>jB X ⟨F',ay M',aY⟩ (a.put d (.bool true)) w1
structure ae (R:Env) (X:cq) (lo:Bool) (f:Nat) (args:List AV) (F:aW) (M:ah) (nx:Nat) (d:Option Nat) (K:KS):Prop where
 h:s4 R X f args F M nx d K\/(lo=false/\mn R X f args F M nx d K)
def Cz (v:AV) (X Y:Prop):Prop:=
 match v with
 | .bool t=>True->rL t X Y
 |_=>False
def lq (M:ah) (n len:Nat) (K:bI->Prop):Prop:=
 dc M n fun b=>match b with
  | .var ty row=>bif Nat.beq len 1 then K (.var ty row)else False
  | .arr ty sz es=>True->es.length=len/\K (.arr ty sz es)
  | .map .. =>False
def CA (ag:Bool) (n:Nat) (v:AV) (M:ah) (K:AV->Prop):Prop:=
 match v with
 | .loc nm len i off=>dc M nm fun b=>match b with
   | .var _ row=>bif Nat.beq len 1 then (bif Nat.beq i 0 then sY ag n off row K else False)else False
   | .arr _ _ es=>True->GK es len i fun row=>sY ag n off row K
   | .map .. =>False
 | .bh e off=>sY ag n off e K
 |_=>False
def GN (a:AV) (cs:List AV) (M:ah) (K:ah->Prop):Prop:=
 match a with
 | .loc nm len i off=>dc M nm fun b=>match b with
   | .var ty row=>bif Nat.beq len 1 then (bif Nat.beq i 0 then lh off cs row fun row'=>ic M nm (.var ty row') K else False)else False
   | .arr ty sz es=>True->GK es len i fun row=>lh off cs row fun row'=>ic M nm (.arr ty sz (es.set i row')) K
   | .map .. =>False
 |_=>False
def j8 (k k':IntKind) (X:Prop):Prop:=bif rX k k' then X else False
def N9 (op:BinOp) (v u:AV) (K:AV->Prop):Prop:=
 match v,u with
 | .int k a,.int k' b=>
   match op with
   | .shl=>True->0<=b/\K (.int k (pY k a b))
   | .shr=>True->0<=b/\K (.int k (fC k a b))
   | .add=>j8 k k' (True->Jm k (a+b) fun m=>K (.int k m))
   | .sub=>j8 k k' (True->Jm k (a - b) fun m=>K (.int k m))
   | .mul=>j8 k k' (True->Jm k (a*b) fun m=>K (.int k m))
   | .quo=>j8 k k' (True->b≠0/\(True->Jm k (a.tdiv b) fun m=>K (.int k m)))
   | .rem=>j8 k k' (True->b≠0/\K (.int k (a.tmod b)))
   | .and=>j8 k k' (K (.int k (eE .and k a b)))
   | .or=>j8 k k' (K (.int k (eE .or k a b)))
   | .xor=>j8 k k' (K (.int k (eE .xor k a b)))
   | .andNot=>j8 k k' (K (.int k (eE .andNot k a b)))
   | .eql=>j8 k k' (K (.bool (a==b)))
   | .neq=>j8 k k' (K (.bool (a != b)))
   | .lss=>j8 k k' (K (.bool (decide (a<b))))
   | .leq=>j8 k k' (K (.bool (decide (a<=b))))
   | .gtr=>j8 k k' (K (.bool (decide (a>b))))
   | .geq=>j8 k k' (K (.bool (decide (a>= b))))
 |_,_=>False
def Oa (l:LK) (a b:AV) (K:Bool->Prop):Prop:=
 match l,a,b with
 | .i,.int k x,.int k' y=>bif rX k k' then K (x==y)else False
 | .b,.bool x,.bool y=>K (x==y)
 | .s,.str x,.str y=>K (x==y)
 |_,_,_=>False
def D4:List LK->List AV->List AV->(Bool->Prop)->Prop
 |l::r,a::as,b::bs,K=>Oa l a b fun t=>(match r with
  |[]=>D4 r as bs fun _=>K t
  |_=>D4 r as bs fun u=>K (t&&u))
 |[],[],[],K=>K true
 |_,_,_,_=>False
def ZR (neg:Bool) (K:AV->Prop) (r:Bool):Prop:=
 match neg with
 |true=>K (.bool !r)
 |false=>K (.bool r)
def SI (op:BinOp) (a b:List UInt8) (K:AV->Prop):Prop:=
 match op with
 | .add=>True->(a.length+b.length<=9223372036854775807)/\K (.str (a++b))
 | .eql=>K (.bool (a==b))
 | .neq=>K (.bool !(a==b))
 | .lss=>K (.bool (Op.bytesLess a b))
 | .leq=>K (.bool (Op.bytesLess a b||a==b))
 | .gtr=>K (.bool !(Op.bytesLess a b||a==b))
 | .geq=>K (.bool !(Op.bytesLess a b))
 |_=>False
def ZS (op:UnOp) (v:AV) (K:AV->Prop):Prop:=
 match op,v with
 | .neg,.int k n=>True->Jm k (0 - n) fun m=>K (.int k m)
 | .xor,.int k n=>K (.int k (eE .xor k (if k.signed then -1 else k.max) n))
 | .not,.bool b=>K (.bool !b)
 |_,_=>False
def GO (sz:Nat) (v ix:AV) (M:ah) (K:AV->Prop):Prop:=
 match ix with
 | .int _ j=>(match v with
   | .aH s es=>bif Nat.beq s sz then (True->(0<=j/\j<es.length)/\(True->SC es j.toNat fun row=>K (.bh row 0)))else False
   | .bc nm len=>dc M nm fun b=>(match b with
     | .arr _ s es=>bif Nat.beq s sz then (True->(es.length=len/\0<=j/\j<len)/\K (.loc nm len j.toNat 0))else False
     | .var .. =>False
     | .map .. =>False)
   | .ee nm len i off bX=>lq M nm len fun _=>True->SD j bX fun c=>K (.loc nm len i (off+c*sz))
   |_=>False)
 |_=>False
def GP (m sz:Nat) (v ix:AV) (M:ah) (K:AV->Prop):Prop:=
 match ix with
 | .int _ j=>(match v with
   | .loc nm len i off=>lq M nm len fun _=>True->SD j m fun c=>K (.loc nm len i (off+c*sz))
   | .bh row off=>True->SD j m fun c=>K (.bh row (off+c*sz))
   |_=>False)
 |_=>False
def Yr (mx:Bool) (k:IntKind) (a:Int):List AV->(AV->Prop)->Prop
 |[],K=>K (.int k a)
 | .int _ b::r,K=>(match mx with
   |true=>Yr mx k (max a b) r K
   |false=>Yr mx k (min a b) r K)
 |_,_=>False
def mmK (mx:Bool) (as:List AV) (K:AV->Prop):Prop:=
 match as with
 | .int k a::r=>Yr mx k a r K
 |_=>False
def vW (sz:Nat) (x:AV) (M:ah) (K:List (List AV)->Prop):Prop:=
 match x with
 | .aH s es=>bif Nat.beq s sz then K es else False
 | .ai=>K []
 | .bc n len=>dc M n fun b=>(match b with
   | .arr _ s es=>bif Nat.beq s sz then (True->es.length=len/\K es)else False
   | .var .. =>False
   | .map .. =>False)
 | .ee n len i off bX=>dc M n fun b=>(match b with
   | .var _ row=>bif Nat.beq len 1 then (bif Nat.beq i 0 then (bif Nat.beq sz 0 then False else vU off row fun r=>Cx sz bX r K)else False)else False
   | .arr .. =>False
   | .map .. =>False)
 |_=>False
def MT (sz:Nat) (v:AV) (M:ah) (src:(List (List AV)->Prop)->Prop) (K:Nat->ah->Prop):Prop:=
 match v with
 | .ee n len i off bX=>dc M n fun b=>(match b with
   | .var ty row=>bif Nat.beq len 1 then (bif Nat.beq i 0 then (bif Nat.ble (off+bX*sz) row.length then src fun xs=>True->ACp xs bX fun vs k=>lh off vs row fun row'=>ic M n (.var ty row') fun M'=>K k M' else False)else False)else False
   | .arr .. =>False
   | .map .. =>False)
 |_=>False
def Bh (x:AV) (K:List (List AV)->Prop):Prop:=
 match x with
 | .str s=>K (s.map fun c=>[.int .u8 c.toNat])
 |_=>False
def GQ (ty sz:Nat) (s:AV) (src:(List (List AV)->Prop)->Prop) (M:ah) (nx:Nat) (K:AV->ah->Nat->Prop):Prop:=
 match s with
 | .bc n len=>dc M n fun b=>(match b with
   | .arr t z es=>bif Nat.beq z sz then (True->(t=ty/\es.length=len)/\src fun xs=>True->es.length+xs.length<=1073741824/\ic M n (.arr t z (es++xs)) fun M'=>K (.bc n (es++xs).length) M' nx)else False
   | .var .. =>False
   | .map .. =>False)
 | .ai=>src fun xs=>True->xs.length<=1073741824/\K (.bc nx xs.length) ((nx,.arr ty sz xs)::M) (nx+1)
 |_=>False
def MU (ty sz:Nat) (z:List AV) (s x:AV) (M:ah) (nx:Nat) (K:AV->ah->Nat->Prop):Prop:=
 match x with
 | .int _ m=>(match s with
   | .bc n len=>dc M n fun b=>(match b with
     | .arr t q es=>bif Nat.beq q sz then (True->(t=ty/\es.length=len)/\(True->Yq m m fun k=>True->es.length+k<=1073741824/\ic M n (.arr t q (es++List.replicate k z)) fun M'=>K (.bc n (es++List.replicate k z).length) M' nx))else False
     | .var .. =>False
     | .map .. =>False)
   | .ai=>True->Yq m m fun k=>K (.bc nx k) ((nx,.arr ty sz (List.replicate k z))::M) (nx+1)
   |_=>False)
 |_=>False
def GR (sz:Nat) (v:AV) (lo hi mx:Option AV) (K:AV->Prop):Prop:=
 match v with
 | .aH s es=>bif Nat.beq s sz then (match lo,hi,mx with
   |none,some (.int _ h),none=>True->(0<=h/\h<=es.length)/\(True->xw (es.take h.toNat) fun xs=>K (.aH sz xs))
   |some (.int _ l),none,none=>True->(0<=l/\l<=es.length)/\(True->xw (es.drop l.toNat) fun xs=>K (.aH sz xs))
   |some (.int _ l),some (.int _ h),none=>True->(0<=l/\l<=h/\h<=es.length)/\(True->xw ((es.take h.toNat).drop l.toNat) fun xs=>K (.aH sz xs))
   |none,some (.int _ h),some (.int _ m)=>True->(0<=h/\h<=m/\m<=es.length)/\(True->xw (es.take h.toNat) fun xs=>K (.aH sz xs))
   |_,_,_=>False)else False
 |_=>False
def GS (v:AV) (lo hi:Option AV) (K:AV->Prop):Prop:=
 match v with
 | .str s=>(match lo,hi with
   |none,some (.int _ h)=>True->(0<=h/\h<=s.length)/\(True->xw (s.take h.toNat) fun xs=>K (.str xs))
   |some (.int _ l),none=>True->(0<=l/\l<=s.length)/\(True->xw (s.drop l.toNat) fun xs=>K (.str xs))
   |some (.int _ l),some (.int _ h)=>True->(0<=l/\l<=h/\h<=s.length)/\(True->xw ((s.take h.toNat).drop l.toNat) fun xs=>K (.str xs))
   |_,_=>False)
 |_=>False
def GU (v:AV) (M:ah) (K:AV->Prop):Prop:=
 match v with
 | .aH _ es=>True->SG es fun n=>K (.int .i64 n)
 | .bc n len=>lq M n len fun _=>K (.int .i64 len)
 | .ee n len _ _ bX=>lq M n len fun _=>K (.int .i64 bX)
 | .ai=>K (.int .i64 0)
 |_=>False
def Ob:Nat->List AV->(AV->Prop)->Prop
 |0,v::_,K=>K v
 |n+1,_::r,K=>Ob n r K
 |_,[],_=>False
structure Jn (ls:List LK) (kc:List AV) (es:List (List AV)) (K:Option (Nat × List AV)->Prop):Prop where
 ok:∀r ∈ es,dR ls kc r=true
 h:K (bL kc es)
structure AFv (kc:List AV) (es:List (List AV)) (K:AV->Prop):Prop where
 g:∀r ∈ es,jF r=true
 h:K (DD (bL kc es))
structure AFg (kc:List AV) (es:List (List AV)) (K:Option (Nat × List AV)->Prop):Prop where
 g:∀r ∈ es,jF r=true
 h:K (bL kc es)
structure AEn (es:List (List AV)) (j:Int) (K:Nat->List AV->Prop):Prop where
 h:∃ (i:Nat) (r:List AV),j=i/\es[i]? =some r/\K i r
structure IRg (K:Nat->Prop):Prop where
 h:∀r,K r
structure INx (r r':Nat) (es:List (List AV)) (sn:List Bool) (Y:Prop) (K:Nat->Prop):Prop where
 e:r'=r
 fin:(∀q ∈ sn,q=true)->sn.length=es.length->Y
 go:∀i row,es[i]? =some row->sn[i]? =some false->sn.length=es.length->K i
structure IEt (r r':Nat) (la:Option Nat) (es:List (List AV)) (K:List AV->Prop):Prop where
 h:r'=r/\∃i row,la=some i/\es[i]? =some row/\K row
def JU (q:Option (Nat × List AV)) (es:List (List AV)) (dn:Dn) (K:List (List AV)->Dn->Prop):Prop:=
 match q with
 |some q=>K (es.eraseIdx q.1) (dn.dl q.1)
 |none=>K es dn.up
def Bi (ls:List LK) (ag:Bool) (u:AV) (K:List AV->Prop):Prop:=lk u fun kc=>bif eR u.jH ag&&Nat.beq kc.length ls.length&&dR ls kc kc then K kc else False
def Bj (va:Bool) (l:List AV) (K:AV->Prop):Prop:=
 match va with
 |true=>K (.agg l)
 |false=>match l with
  |c::_=>K c
  |[]=>False
def SJ (ok va:Bool) (z:AV) (q:Option (Nat × List AV)) (K:AV->Prop):Prop:=
 match q with
 |some q=>Bj va q.2 fun v=>(match ok with
  |true=>K (.aN [v,.bool true])
  |false=>K v)
 |none=>(match ok with
  |true=>K (.aN [z,.bool false])
  |false=>K z)
def Oc (q:Option (Nat × List AV)) (es:List (List AV)) (r:List AV) (K:List (List AV)->Prop):Prop:=
 match q with
 |some q=>K (es.set q.1 r)
 |none=>K (es++ [r])
def JV (va:Bool) (z:AV) (q:Option (Nat × List AV)) (es:List (List AV)) (kc zs:List AV) (K:AV->Nat->List (List AV)->Prop):Prop:=
 match q with
 |some q=>Bj va q.2 fun v=>K v q.1 es
 |none=>K z es.length (es++ [kc++zs])
def Bk (ls:List LK) (ag va:Bool) (v:AV) (M:ah) (K:Nat->Dn->Nat->List (List AV)->Prop):Prop:=
 match v with
 | .omap n=>dc M n fun b=>(match b with
   | .map k ka vb dn sz es=>bif Nat.beq k ls.length&&eR ka ag&&eR vb va&&Nat.blt k sz then K n dn sz es else False
   | .arr .. =>False
   | .var .. =>False)
 |_=>False
def CB (v:AV) (M:ah) (K:Nat->Nat->Bool->Bool->Dn->Nat->List (List AV)->Prop):Prop:=
 match v with
 | .omap n=>dc M n fun b=>(match b with
   | .map k ka va dn sz es=>K n k ka va dn sz es
   | .arr .. =>False
   | .var .. =>False)
 |_=>False
def Ys (v:AV) (M:ah) (K:Nat->Nat->Nat->Bool->Bool->Nat->List Bool->Option Nat->Nat->List (List AV)->Prop):Prop:=
 match v with
 | .nJ n r'=>dc M n fun b=>(match b with
   | .map k ka va dn sz es=>(match dn with
     | .it r sn la=>K n r' k ka va r sn la sz es
     | .b _=>False)
   | .arr .. =>False
   | .var .. =>False)
 |_=>False
def dq (R:Env) (X:cq) (lo:Bool) (i:vQ) (d:Option Nat) (F:aW) (M:ah) (nx:Nat) (K:KS):Prop:=
 match i with
 | .mv x=>dL R F x fun v=>aI d v F M nx K
 | .pick c a b=>dL R F c fun v=>Cz v (dL R F a fun u=>aI d u F M nx K) (dL R F b fun u=>aI d u F M nx K)
 | .alloc ty z=>aI d (.loc nx 1 0 0) F ((nx,.var (R.ty ty) z)::M) (nx+1) K
 | .box ty x=>dL R F x fun v=>lk v fun cs=>aI d (.loc nx 1 0 0) F ((nx,.var (R.ty ty) cs)::M) (nx+1) K
 | .build z ps=>D3 R F ps z fun cs=>aI d (.agg cs) F M nx K
 | .aC ty sz len z ps=>N6 z len fun es=>Cy R F sz ps es fun es'=>aI d (.bc nx len) F ((nx,.arr (R.ty ty) sz es')::M) (nx+1) K
 | .load ag n x=>dL R F x fun v=>CA ag n v M fun u=>aI d u F M nx K
 | .store n x v=>dL R F x fun a=>dL R F v fun u=>lk u fun cs=>yY cs n (GN a cs M fun M'=>aI d (.aN []) F M' nx K)
 | .aM x=>dL R F x fun v=>(match v with
   | .loc nm len i q=>lq M nm len fun _=>aI d (.loc nm len i q) F M nx K
   | .bh e q=>aI d (.bh e q) F M nx K
   | .bR f cs=>aI d (.bR f cs) F M nx K
   |_=>False)
 | .bin op x y=>dL R F x fun v=>dL R F y fun u=>N9 op v u fun r=>aI d r F M nx K
 | .NV neg x y=>dL R F x fun v=>dL R F y fun u=>(match v,u with
   | .bool a,.bool b=>(match neg with
     |true=>aI d (.bool (a != b)) F M nx K
     |false=>aI d (.bool (a==b)) F M nx K)
   |_,_=>False)
 | .sT neg ls x y=>dL R F x fun v=>dL R F y fun u=>(match v,u with
   | .agg as,.agg bs=>D4 ls as bs (ZR neg fun r=>aI d r F M nx K)
   |_,_=>False)
 | .bst op x y=>dL R F x fun v=>dL R F y fun u=>(match v,u with
   | .str a,.str b=>SI op a b fun r=>aI d r F M nx K
   |_,_=>False)
 | .un op x=>dL R F x fun v=>ZS op v fun r=>aI d r F M nx K
 | .conv k x=>dL R F x fun v=>(match v with
   | .int _ n=>True->Jm k n fun m=>aI d (.int k m) F M nx K
   |_=>False)
 | .Sz x=>dL R F x fun v=>(match v with
   | .str s=>aI d (.str s) F M nx K
   |_=>False)
 | .RP g cs=>sW R F cs fun l=>aI d (R.cl g l) F M nx K
 | .aB off x=>dL R F x fun v=>(match v with
   | .loc nm len i q=>lq M nm len fun _=>aI d (.loc nm len i (q+off)) F M nx K
   | .bh e q=>aI d (.bh e (q+off)) F M nx K
   |_=>False)
 | .lW sz x i=>dL R F x fun v=>dL R F i fun ix=>GO sz v ix M fun r=>aI d r F M nx K
 | .bo m sz x i=>dL R F x fun v=>dL R F i fun ix=>GP m sz v ix M fun r=>aI d r F M nx K
 | .sU _ sz x lo hi mx=>dL R F x fun v=>Bd R F lo fun l=>Bd R F hi fun h=>Bd R F mx fun m=>GR sz v l h m fun r=>aI d r F M nx K
 | .SB x lo hi=>dL R F x fun v=>Bd R F lo fun l=>Bd R F hi fun h=>GS v l h fun r=>aI d r F M nx K
 | .ext x i=>dL R F x fun v=>(match v with
   | .aN vs=>Ob i vs fun r=>aI d r F M nx K
   |_=>False)
 | .call g as=>sW R F as fun l=>True->ae R X lo (R.ft g) l F M nx d K
 | .gI f as=>dL R F f fun v=>(match v with
   | .bR (.fn g) aS=>sW R F as fun l=>True->ae R X lo g (l++aS) F M nx d K
   | .bR (.lp l tm) aS=>(match lo with
     |true=>False
     |false=>sW R F as fun args=>True->s7 R X l tm aS args F M nx d K)
   |_=>False)
 | .rf g as=>sW R F as fun l=>True->s6 R (R.ft g) l F M nx d K
 | .vR f as=>dL R F f fun v=>(match v with
   | .bR (.fn g) aS=>sW R F as fun l=>True->qf R X g (l++aS) F M nx d K
   |_=>False)
 | .pg f as=>dL R F f fun v=>(match v with
   | .bR (.fn g) aS=>sW R F as fun l=>(match lo with
     |true=>True->s5 R X g (l++aS) F M nx d K
     |false=>False)
   |_=>False)
 | .RO neg x=>dL R F x fun v=>(match v with
   | .bP=>(match neg with
     |true=>aI d (.bool false) F M nx K
     |false=>aI d (.bool true) F M nx K)
   | .bh _ _=>aI d (.bool neg) F M nx K
   | .loc nm len _ _=>lq M nm len fun _=>aI d (.bool neg) F M nx K
   |_=>False)
 | .Bc neg x=>dL R F x fun v=>(match v with
   | .aH _ es=>(match lo with
     |true=>False
     |false=>True->GL es (match neg with
      |true=>aI d (.bool false) F M nx K
      |false=>aI d (.bool true) F M nx K) (aI d (.bool neg) F M nx K))
   |_=>False)
 | .JP neg x=>dL R F x fun v=>(match v with
   | .ce=>(match neg with
     |true=>aI d (.bool false) F M nx K
     |false=>aI d (.bool true) F M nx K)
   | .omap n=>dc M n fun b=>(match b with
     | .map _ _ _ _ _ _=>aI d (.bool neg) F M nx K
     |_=>False)
   |_=>False)
 | .s2a m _ x=>dL R F x fun v=>(match v with
   | .aH _ es=>True->(m<=es.length/\0<m)/\(True->xw (es.take m).flatten fun row=>aI d (.bh row 0) F M nx K)
   |_=>False)
 | .GH ag off n x=>dL R F x fun v=>(match v with
   | .agg cs=>sY ag n off cs fun r=>aI d r F M nx K
   |_=>False)
 | .ML ty sz x=>dL R F x fun v=>(match v with
   | .aH _ _=>aI d (.bc nx 0) F ((nx,.arr (R.ty ty) sz [])::M) (nx+1) K
   |_=>False)
 | .JQ ag m sz x i=>dL R F x fun v=>dL R F i fun ix=>(match v,ix with
   | .agg cs,.int _ j=>True->VIx ag m sz cs j fun r=>aI d r F M nx K
   |_,_=>False)
 | .SA x i=>dL R F x fun v=>dL R F i fun ix=>(match v,ix with
   | .str s,.int _ j=>True->(0<=j/\j< (s.length:Int))/\aI d (.int .u8 (s.getD j.toNat 0).toNat) F M nx K
   |_,_=>False)
 | .b2s x=>dL R F x fun v=>vW 1 v M fun es=>True->SH es fun s=>aI d (.str s) F M nx K
 | .NW m sz x lo hi mx=>(match lo,hi,mx with
   |none,none,none=>dL R F x fun v=>(match v with
    | .loc nm len i off=>lq M nm len fun _=>aI d (.ee nm len i off m) F M nx K
    | .bh r off=>bif Nat.beq sz 0 then False else vU off r fun r'=>Cx sz m r' fun es=>aI d (.aH sz es) F M nx K
    |_=>False)
   |_,_,_=>False)
 | .copy sz x y=>dL R F x fun v=>dL R F y fun u=>MT sz v M (vW sz u M) fun n M'=>aI d (.int .i64 n) F M' nx K
 | .ZJ ty sz z l c=>dL R F l fun v=>dL R F c fun u=>(match v,u with
   | .int _ a,.int _ b=>True->Yq a b fun n=>aI d (.bc nx n) F ((nx,.arr (R.ty ty) sz (List.replicate n z))::M) (nx+1) K
   |_,_=>False)
 | .s2b ty x=>dL R F x fun v=>(match v with
   | .str s=>True->s.length<=1073741824/\aI d (.bc nx s.length) F ((nx,.arr (R.ty ty) 1 (s.map fun c=>[.int .u8 c.toNat]))::M) (nx+1) K
   |_=>False)
 | .NY n=>aI d (.int .i64 n) F M nx K
 | .fH x=>dL R F x fun v=>GU v M fun r=>aI d r F M nx K
 | .NZ x=>dL R F x fun v=>(match v with
   | .str s=>aI d (.int .i64 s.length) F M nx K
   |_=>False)
 | .mm mx as=>sW R F as fun l=>mmK mx l fun r=>aI d r F M nx K
 | .app ty sz s x=>dL R F s fun v=>dL R F x fun u=>GQ (R.ty ty) sz v (vW sz u M) M nx fun r M' aY=>aI d r F M' aY K
 | .JS ty sz z s x=>dL R F s fun v=>dL R F x fun u=>MU (R.ty ty) sz z v u M nx fun r M' aY=>aI d r F M' aY K
 | .JR ty s x=>dL R F s fun v=>dL R F x fun u=>GQ (R.ty ty) 1 v (Bh u) M nx fun r M' aY=>aI d r F M' aY K
 | .N0 k ka va sz=>aI d (.omap nx) F ((nx,.map k ka va true sz [])::M) (nx+1) K
 | .FQ ls ag va z ok x key=>dL R F x fun v=>dL R F key fun u=>Bk ls ag va v M fun _ _ _ es=>Bi ls ag u fun kc=>True->Jn ls kc es fun q=>SJ ok va z q fun r=>aI d r F M nx K
 | .GI ls ag va x key y=>dL R F x fun v=>dL R F key fun u=>dL R F y fun w=>Bk ls ag va v M fun n dn sz es=>Bi ls ag u fun kc=>lk w fun vs=>bif eR w.jH va&&Nat.beq (ls.length+vs.length) sz then
     (True->Jn ls kc es fun q=>True->es.length+1<=1073741824/\Oc q es (kc++vs) fun es'=>ic M n (.map ls.length ag va dn.up sz es') fun M'=>aI d (.aN []) F M' nx K)else False
 | .ZK ls ag va z x key=>dL R F x fun v=>dL R F key fun u=>Bk ls ag va v M fun n dn sz es=>Bi ls ag u fun kc=>lk z fun zs=>bif eR z.jH va&&Nat.beq (ls.length+zs.length) sz&&dn.all then
     (True->Jn ls kc es fun q=>True->es.length+1<=1073741824/\JV va z q es kc zs fun r i es'=>ic M n (.map ls.length ag va true sz es') fun M'=>aI d (.aN [r,.int .i64 i]) F M' nx K)else False
 | .MM ls ag x key=>dL R F x fun v=>dL R F key fun u=>Bk ls ag false v M fun _ _ sz es=>Bi ls ag u fun kc=>bif Nat.beq sz (ls.length+1)&&jF kc then (True->AFv kc es fun r=>aI d r F M nx K)else False
 | .enc ls ag x key=>dL R F x fun v=>dL R F key fun u=>Bk ls ag false v M fun n dn sz es=>Bi ls ag u fun kc=>bif Nat.beq sz (ls.length+1)&&jF kc&&dn.all then
     (True->AFg kc es fun q=>True->es.length+1<=1073741824/\JV false (.int .i64 0) q es kc [.int .i64 0] fun r i es'=>ic M n (.map ls.length ag false true sz es') fun M'=>aI d (.aN [r,.int .i64 i]) F M' nx K)else False
 | .MN ls ag x key=>dL R F x fun v=>dL R F key fun u=>CB v M fun n k ka va dn sz es=>bif Nat.beq k ls.length&&eR ka ag then Bi ls ag u fun kc=>True->Jn ls kc es fun q=>JU q es dn fun es' JK=>ic M n (.map ls.length ag va JK sz es') fun M'=>aI d (.aN []) F M' nx K else False
 | .N3 x=>dL R F x fun v=>(match lo with
   |true=>False
   |false=>CB v M fun n k ka va _ sz es=>True->IRg fun r=>ic M n (.map k ka va (.it r (es.map fun _=>false) none) sz es) fun M'=>aI d (.nJ n r) F M' nx K)
 | .RQ x=>dL R F x fun v=>(match lo with
   |true=>False
   |false=>Ys v M fun n r' k ka va r sn _ sz es=>True->INx r r' es sn (aI d (.aN [.bool false]) F M nx K) fun i=>ic M n (.map k ka va (.it r (sn.set i true) (some i)) sz es) fun M'=>aI d (.aN [.bool true,.bad,.bad]) F M' nx K)
 | .JB x=>dL R F x fun v=>(match lo with
   |true=>False
   |false=>Ys v M fun _ r' k ka va r _ la sz es=>bif Nat.blt 0 k&&Nat.blt k sz then (True->IEt r r' la es fun row=>yX k row fun kc=>Bj ka kc fun a=>vU k row fun vc=>Bj va vc fun b=>aI d (.aN [a,b]) F M nx K)else False)
 | .ZL va x st y=>dL R F x fun v=>dL R F st fun u=>dL R F y fun w=>(match v,u with
   | .omap n,.int _ j=>dc M n fun b=>(match b with
     | .map k ka vb dn sz es=>lk w fun vs=>bif eR w.jH va&&eR vb va&&Nat.beq (k+vs.length) sz&&dn.all then
         (True->AEn es j fun i row=>yX k row fun kc=>ic M n (.map k ka va true sz (es.set i (kc++vs))) fun M'=>aI d (.aN []) F M' nx K)else False
     | .arr .. =>False
     | .var .. =>False)
   |_,_=>False)
def JW (a b:AV):Bool:=
 match a,b with
 | .int k n,.int k' n'=>rX k k'&&decide (n=n')
 | .bool x,.bool y=>x==y
 | .str s,.str t=>decide (s=t)
 | .bP,.bP=>true
 | .ai,.ai=>true
 | .ap,.ap=>true
 | .dY,.dY=>true
 | .ce,.ce=>true
 |_,_=>false
def rN:List AV->List AV->Bool
 |[],[]=>true
 |a::r,b::s=>JW a b&&rN r s
 |_,_=>false
def Bl (a b:AV):Bool:=
 match a,b with
 | .agg cs,.agg ds=>rN cs ds
 | .aN cs,.aN ds=>rN cs ds
 |a,b=>JW a b
theorem CC {a b:AV} (h:JW a b=true):a=b:=by
 cases a<;>cases b<;>simp_all[JW]
 exact iY h.1
theorem jU:∀ {a b:List AV},rN a b=true->a=b
 |[],[],_=>rfl
 |a::r,b::s,h=>by
  simp only[rN,Bool.and_eq_true]at h
  rw[CC h.1,jU h.2]
 |[],_::_,h=>by simp[rN]at h
 |_::_,[],h=>by simp[rN]at h
theorem pj {a b:AV} (h:Bl a b=true):a=b:=by
 unfold Bl at h
 split at h
 ·rw[jU h]
 ·rw[jU h]
 ·exact CC h
def cV (R:Env):Operand->Sc->Bool
 | .tmp t,.t n=>Nat.beq t n
 | .const v,.k u=>Bl (Mv v) u
 | .func f,.f g=>Nat.beq (R.ft g) f
 |_,_=>false
def oz (R:Env):List Operand->List Sc->Bool
 |[],[]=>true
 |x::r,y::s=>cV R x y&&oz R r s
 |_,_=>false
def Bn (R:Env):Option Operand->Option Sc->Bool
 |none,none=>true
 |some x,some y=>cV R x y
 |_,_=>false
theorem aj {R:Env} {F:aW} {x:Operand} {y:Sc} (h:cV R x y=true):ev F x=mU R F y:=by
 cases x<;>cases y<;>simp only[cV]at h<;>first|(simp at h; done)|skip
 ·rw[Nat.eq_of_beq_eq_true h]; rfl
 ·exact pj h
 ·simp only[ev,mU,Env.cl,Nat.eq_of_beq_eq_true h]
theorem eh {R:Env} {F:aW}:∀ {xs:List Operand} {ys:List Sc},oz R xs ys=true->oO F xs=ys.map (mU R F)
 |[],[],_=>rfl
 |x::r,y::s,h=>by
  simp only[oz,Bool.and_eq_true]at h
  simp only[oO,List.map_cons,aj (F:=F) h.1,eh h.2]
 |[],_::_,h=>by simp[oz]at h
 |_::_,[],h=>by simp[oz]at h
theorem pm {R:Env} {F:aW} {x:Option Operand} {y:Option Sc} (h:Bn R x y=true):uQ F x=y.map (mU R F):=by
 cases x<;>cases y<;>simp only[Bn]at h<;>first|(simp at h; done)|rfl|skip
 simp only[uQ,Option.map_some,aj (F:=F) h]
def D5 (R:Env) (fs:List (Nat × Nat)):List (Nat × Operand)->List (Nat × Nat × Sc)->Bool
 |[],[]=>true
 |(i,x)::r,(off,n,y)::s=>(match fs[i]? with
  |some (o,t)=>Nat.beq o off&&Nat.beq (R.T.s t) n&& !Nat.beq n 0
  |none=>false)&&cV R x y&&D5 R fs r s
 |_,_=>false
def D6 (R:Env) (sz:Nat):List (Nat × Operand)->List (Nat × Nat × Sc)->Bool
 |[],[]=>true
 |(i,x)::r,(off,n,y)::s=>Nat.beq (i*sz) off&&Nat.beq sz n&& !Nat.beq n 0&&cV R x y&&D6 R sz r s
 |_,_=>false
def D7 (R:Env):List (Nat × Operand)->List (Nat × Sc)->Bool
 |[],[]=>true
 |(i,x)::r,(j,y)::s=>Nat.beq i j&&cV R x y&&D7 R r s
 |_,_=>false
def Od:BinOp->Nat
 | .add=>0| .sub=>1| .mul=>2| .quo=>3| .rem=>4| .and=>5| .or=>6| .xor=>7| .shl=>8| .shr=>9| .andNot=>10| .eql=>11| .neq=>12| .lss=>13| .leq=>14| .gtr=>15| .geq=>16
theorem GV {a b:BinOp} (h:Nat.beq (Od a) (Od b)=true):a=b:=by
 have:=Nat.eq_of_beq_eq_true h
 cases a<;>cases b<;>first|rfl|(simp[Od]at this)
def SK:UnOp->Nat
 | .neg=>0| .not=>1| .xor=>2| .plus=>3
theorem Oe {a b:UnOp} (h:Nat.beq (SK a) (SK b)=true):a=b:=by
 have:=Nat.eq_of_beq_eq_true h
 cases a<;>cases b<;>first|rfl|(simp[SK]at this)
def Yt:Option Operand->Bool
 |some (.const (.int _ (.ofNat 0)))=>true
 |_=>false
theorem GW {b:Option Operand} (h:Yt b=true):∃k,b=some (.const (.int k 0)):=by
 unfold Yt at h
 split at h
 ·exact⟨_,rfl⟩
 ·simp at h
def isEq (op:BinOp) (neg:Bool):Bool:=
 match op,neg with
 | .eql,false=>true
 | .neq,true=>true
 |_,_=>false
theorem isEq_eq {op:BinOp} {neg:Bool} (h:isEq op neg=true):op=if neg then .neq else .eql:=by cases op<;>cases neg<;>simp_all[isEq]
def D8:List LK->List LK->Bool
 |[],[]=>true
 | .i::r,.i::s=>D8 r s
 | .b::r,.b::s=>D8 r s
 | .s::r,.s::s=>D8 r s
 |_,_=>false
theorem po:∀ {a b:List LK},D8 a b=true->a=b
 |[],[],_=>rfl
 | .i::r,.i::s,h=>by rw[po (a:=r) (b:=s) h]
 | .b::r,.b::s,h=>by rw[po (a:=r) (b:=s) h]
 | .s::r,.s::s,h=>by rw[po (a:=r) (b:=s) h]
def s8 (R:Env) (t:Nat) (ls:List LK) (ag:Bool):Bool:=match R.T.d t with
 | .map k _=>eR (aK R.P k) ag&&(match mT R.P 8 k with
   |some l=>D8 l ls
   |none=>false)
 |_=>false
def bH (R:Env) (c:Call) (i:vQ):Bool:=
 match c.callee,i with
 | .value f,.call g as=>cV R f (.f g)&&oz R c.args.toList as
 | .value f,.gI y as=>cV R f y&&oz R c.args.toList as
 | .value f,.vR y as=>cV R f y&&oz R c.args.toList as
 | .value f,.pg y as=>cV R f y&&oz R c.args.toList as
 | .value f,.rf g as=>cV R f (.f g)&&oz R c.args.toList as
 | .builtin .len,.NY n=>(match c.args.toList,c.argTypes.toList with
   |[_],[t]=>(match R.T.d t with
    | .arr m _=>Nat.beq m n
    |_=>false)
   |_,_=>false)
 | .builtin .len,.fH y=>(match c.args.toList,c.argTypes.toList with
   |[x],[t]=>cV R x y&&(match R.T.d t with
    | .slice _=>true
    |_=>false)
   |_,_=>false)
 | .builtin .len,.NZ y=>(match c.args.toList,c.argTypes.toList with
   |[x],[t]=>cV R x y&&(match R.T.d t with
    | .str=>true
    |_=>false)
   |_,_=>false)
 | .builtin .min,.mm false as=>oz R c.args.toList as
 | .builtin .max,.mm true as=>oz R c.args.toList as
 | .builtin .append,.app ty sz s y=>(match c.args.toList,c.argTypes.toList with
   |[x1,x2],[t,t']=>cV R x1 s&&cV R x2 y&&(match R.T.d t,R.T.d t' with
    | .slice e,.slice _=>Nat.beq (R.ty ty) e&&Nat.beq (R.T.s e) sz&&(R.T.d e).ok&&bQ (R.T.z e)&&Nat.beq (cells (R.T.z e)).length (R.T.s e)
    |_,_=>false)
   |_,_=>false)
 | .builtin .copy,.copy sz s y=>(match c.args.toList,c.argTypes.toList with
   |[x1,x2],[t,t']=>cV R x1 s&&cV R x2 y&&(match R.T.d t,R.T.d t' with
    | .slice e,.slice _=>Nat.beq (R.T.s e) sz&&(R.T.d e).ok
    |_,_=>false)
   |_,_=>false)
 | .builtin .append,.JS ty sz z s y=>(match c.args.toList,c.argTypes.toList with
   |[x1,x2],[t,t']=>cV R x1 s&&cV R x2 y&&(match R.T.d t,R.T.d t' with
    | .slice e,.int _=>Nat.beq (R.ty ty) e&&Nat.beq (R.T.s e) sz&&(R.T.d e).ok&&bQ (R.T.z e)&&Nat.beq (cells (R.T.z e)).length (R.T.s e)&&rN (cells (R.T.z e)) z&& !Nat.beq sz 0
    |_,_=>false)
   |_,_=>false)
 | .builtin .delete,.MN ls ag y u=>(match c.args.toList,c.argTypes.toList with
   |[x1,x2],[t,_]=>cV R x1 y&&cV R x2 u&&s8 R t ls ag
   |_,_=>false)
 | .builtin .append,.JR ty s y=>(match c.args.toList,c.argTypes.toList with
   |[x1,x2],[t,t']=>cV R x1 s&&cV R x2 y&&(match R.T.d t,R.T.d t' with
    | .slice e,.str=>Nat.beq (R.ty ty) e&&Nat.beq (R.T.s e) 1&&(R.T.d e).ok&&bQ (R.T.z e)&&Nat.beq (cells (R.T.z e)).length (R.T.s e)
    |_,_=>false)
   |_,_=>false)
 |_,_=>false
def di (R:Env) (o:Op) (i:vQ):Bool:=
 match o,i with
 | .move x,.mv y=>cV R x y
 | .assign x,.mv y=>cV R x y
 | .pick c a b,.pick c' a' b'=>cV R c c'&&cV R a a'&&cV R b b'
 | .alloc t,.alloc ty z=>Nat.beq (R.ty ty) t&&(R.T.d t).ok&&bQ (R.T.z t)&&rN (cells (R.T.z t)) z
 | .box t x,.box ty y=>Nat.beq (R.ty ty) t&&cV R x y
 | .build t ps,.build z qs=>bQ (R.T.z t)&&Nat.beq (cells (R.T.z t)).length (R.T.s t)&&rN (cells (R.T.z t)) z&&(match R.T.d t with
   | .struct fs=>F5 R.T.d fs&&D5 R fs ps.toList qs
   | .arr _ e=>(R.T.d e).ok&&D6 R (R.T.s e) ps.toList qs
   |_=>false)
 | .buildSlice t len ps,.aC ty sz len' z qs=>(match R.T.d t with
   | .slice e=>Nat.beq (R.ty ty) e&&Nat.beq (R.T.s e) sz&&Nat.beq len len'&&(R.T.d e).ok&&bQ (R.T.z e)&&rN (cells (R.T.z e)) z&&Nat.beq (cells (R.T.z e)).length sz&& !Nat.beq sz 0&&Nat.ble (len*sz) 16777216&&D7 R ps.toList qs
   |_=>false)
 | .load t a,.load ag n y=>(R.T.d t).ok&&eR (R.T.d t).ag ag&&Nat.beq (R.T.s t) n&&cV R a y
 | .store t a x,.store n y u=>(R.T.d t).ok&&Nat.beq (R.T.s t) n&& !Nat.beq n 0&&cV R a y&&cV R x u
 | .nilCheck x,.aM y=>cV R x y
 | .binOp op _ x y _,.bin op' x' y'=>Nat.beq (Od op) (Od op')&&cV R x x'&&cV R y y'
 | .binOp op t x y _,.NV neg x' y'=>isEq op neg&&cV R x x'&&cV R y y'&&(match R.P.underlying t with
   |some .bool=>true
   |_=>false)
 | .binOp op t x y _,.sT neg ls x' y'=>isEq op neg&&cV R x x'&&cV R y y'&& !R.P.eqGuardType R.P.depth t&&aK R.P t&&(match mT R.P 8 t with
   |some l=>D8 l ls
   |none=>false)
 | .binOp op _ x y _,.bst op' x' y'=>Nat.beq (Od op) (Od op')&&cV R x x'&&cV R y y'
 | .unOp op _ x,.un op' x'=>Nat.beq (SK op) (SK op')&&cV R x x'
 | .convert s t x,.conv k y=>(R.T.d s).ok&&(match R.T.d t with
   | .int k'=>rX k' k
   |_=>false)&&cV R x y
 | .convert s t x,.Sz y=>(R.T.d s).ok&&(match R.T.d t with
   | .str=>true
   |_=>false)&&cV R x y
 | .makeFunc (.func f) first aS,.RP g cs=>first.isEmpty&&Nat.beq (R.ft g) f&&oz R aS.toList cs
 | .fieldAddr s x f,.aB off y=>cV R x y&&(match R.T.d s with
   | .struct fs=>(match fs[f]? with
     |some (o,ft)=>Nat.beq o off&&(R.T.d ft).ok&& !Nat.beq (R.T.s ft) 0
     |none=>false)
   |_=>false)
 | .indexAddr t x j,.lW sz y i=>cV R x y&&cV R j i&&(match R.T.d t with
   | .slice e=>Nat.beq (R.T.s e) sz&&(R.T.d e).ok
   |_=>false)
 | .indexAddr t x j,.bo m sz y i=>cV R x y&&cV R j i&&(match R.T.d t with
   | .arr k e=>Nat.beq k m&&Nat.beq (R.T.s e) sz&&(R.T.d e).ok
   |_=>false)
 | .slice t x a b c,.sU ty sz y l h m=>cV R x y&&Bn R a l&&Bn R b h&&Bn R c m&&(match R.T.d t with
   | .slice e=>Nat.beq (R.ty ty) e&&Nat.beq (R.T.s e) sz&&(R.T.d e).ok
   |_=>false)
 | .slice t x a b c,.NW m sz y l h mx=>cV R x y&&a.isNone&&b.isNone&&c.isNone&&l.isNone&&h.isNone&&mx.isNone&&Nat.ble m 1000000&&(match R.T.d t with
   | .arr k e=>Nat.beq k m&&Nat.beq (R.T.s e) sz&&(R.T.d e).ok
   |_=>false)
 | .makeSlice t l c,.ZJ ty sz z l' c'=>cV R l l'&&cV R c c'&&(match R.T.d t with
   | .slice e=>Nat.beq (R.ty ty) e&&Nat.beq (R.T.s e) sz&&(R.T.d e).ok&&bQ (R.T.z e)&&rN (cells (R.T.z e)) z&&Nat.beq (cells (R.T.z e)).length sz&& !Nat.beq sz 0
   |_=>false)
 | .convert s t x,.s2b ty y=>cV R x y&&(match R.T.d s,R.T.d t with
   | .str,.slice e=>Nat.beq (R.ty ty) e&&(match R.T.d e with
     | .int .u8=>true
     |_=>false)
   |_,_=>false)
 | .slice t x a b c,.SB y l h=>cV R x y&&Bn R a l&&Bn R b h&&c.isNone&&(match R.T.d t with
   | .str=>true
   |_=>false)
 | .binOp op t x (.const c) _,.RO neg x'=>isEq op neg&&cV R x x'&&(match c,R.P.underlying t with
   | .pointer none,some (.pointer _)=>true
   |_,_=>false)
 | .binOp op t x (.const c) _,.Bc neg x'=>isEq op neg&&cV R x x'&&(match c,R.P.underlying t with
   | .slice none 0 0,some (.slice _)=>true
   |_,_=>false)
 | .binOp op t x (.const c) _,.JP neg x'=>isEq op neg&&cV R x x'&&(match c,R.P.underlying t with
   | .map none,some (.map _ _)=>true
   |_,_=>false)
 | .sliceToArrayPointer t x,.s2a m sz y=>cV R x y&&(match R.T.d t with
   | .arr k e=>Nat.beq k m&&Nat.beq (R.T.s e) sz&&(R.T.d e).ok
   |_=>false)
 | .field t x f,.GH ag off n y=>cV R x y&&(match R.T.d t with
   | .struct fs=>(match fs[f]? with
     |some (o,ft)=>Nat.beq o off&&(R.T.d ft).ok&&Nat.beq (R.T.s ft) n&&eR (R.T.d ft).ag ag
     |none=>false)
   |_=>false)
 | .slice t x a b c,.ML ty sz y=>cV R x y&&a.isNone&&Yt b&&Yt c&&(match R.T.d t with
   | .slice e=>Nat.beq (R.ty ty) e&&Nat.beq (R.T.s e) sz&&(R.T.d e).ok
   |_=>false)
 | .index t x j,.JQ ag m sz y i=>cV R x y&&cV R j i&&(match R.T.d t with
   | .arr k e=>Nat.beq k m&&Nat.beq (R.T.s e) sz&&(R.T.d e).ok&&eR (R.T.d e).ag ag
   |_=>false)
 | .index t x j,.SA y i=>cV R x y&&cV R j i&&(match R.T.d t with
   | .str=>true
   |_=>false)
 | .convert s t x,.b2s y=>cV R x y&&(match R.T.d s,R.T.d t with
   | .slice e,.str=>(match R.T.d e with
     | .int .u8=>true
     |_=>false)
   |_,_=>false)
 | .extract x i,.ext y j=>cV R x y&&Nat.beq i j
 | .makeMap _ none,.N0 _ _ _ sz=> !Nat.beq sz 0
 | .lookup t x y ok,.FQ ls ag _ z JX x' y'=>eR ok JX&&cV R x x'&&cV R y y'&&s8 R t ls ag&&(match R.T.d t with
   | .map _ e=>(R.T.d e).ok&&Bl (R.T.z e) z
   |_=>false)
 | .mapUpdate t x y v,.GI ls ag _ x' y' v'=>cV R x x'&&cV R y y'&&cV R v v'&&s8 R t ls ag
 | .insert t x y v,.GI ls ag _ x' y' v'=>cV R x x'&&cV R y y'&&cV R v v'&&s8 R t ls ag
 | .mapEntry t x y,.ZK ls ag _ z x' y'=>cV R x x'&&cV R y y'&&s8 R t ls ag&&(match R.T.d t with
   | .map _ e=>(R.T.d e).ok&&Bl (R.T.z e) z
   |_=>false)
 | .lookup t x y false,.MM ls ag x' y'=>cV R x x'&&cV R y y'&&s8 R t ls ag&&(match R.T.d t with
   | .map _ e=>(R.T.d e).ok&&Bl (R.T.z e) (.int .i64 0)
   |_=>false)
 | .mapEntry t x y,.enc ls ag x' y'=>cV R x x'&&cV R y y'&&s8 R t ls ag&&(match R.T.d t with
   | .map _ e=>(R.T.d e).ok&&Bl (R.T.z e) (.int .i64 0)
   |_=>false)
 | .entryStore _ x st v,.ZL _ x' st' v'=>cV R x x'&&cV R st st'&&cV R v v'
 | .range t x,.N3 y=>cV R x y&&(match R.T.d t with
   | .map _ _=>true
   |_=>false)
 | .next x false,.RQ y=>cV R x y
 | .entry x,.JB y=>cV R x y
 | .call c,i=>bH R c i
 |_,_=>false
end Go.AM
namespace Go.AM
open Go.RowKit
variable {P:Program} {T:TT} {X:cq} {o:Oper} {F:aW} {M:bv}
theorem D9 (hT:dp P T) {t f off e:Nat} {fs:List (Nat × Nat)} {x:Operand} {cs:List AV} {K:AV->Prop} (ht:T.d t= .struct fs) (SL:fs[f]? =some (off,e)) (hok:(T.d e).ok=true) (ho:o.op= .field t x f) (hx:ev F x= .agg cs)
  (h:apart (T.d e).ag (T.s e) off cs K):∃av,bN P X o F M av [] []/\K av:=by
 have hx':x ∈ o.op.operands.toList:=by simp[ho,Op.operands]
 obtain⟨D,it,z,hD,hf,_⟩:=hT t (by rw[ht]; simp)
 rw[ht]at hf
 obtain⟨gs,rfl,ND⟩:=jN rfl hf
 obtain⟨De,ie,_,FN,MJ,hie,mN,_⟩:=hT e (TD.dT hok)
 obtain⟨av,h1,h2,h3,h4⟩:=fE h
 obtain⟨fd,hfd,hfo,hft⟩:∃fd,gs[f]? =some fd/\fd.offset=off/\fd.type=e:=by
  rw[ND,List.getElem?_map]at SL
  cases hg:gs.toList[f]? with
  |none=>simp[hg]at SL
  |some fd=>
   simp only[hg,Option.map_some,Option.some.injEq,Prod.mk.injEq]at SL
   exact⟨fd,by simpa using hg,SL.1,SL.2⟩
 refine⟨av,aF fun M' N ρ I ac w hW hU hN=> ?_,h4⟩
 have r1:=aq hU x hx'
 rw[hx]at r1
 generalize hv:ac.eval x=v at r1
 have hle:off+T.s e<=cs.length\/ T.s e=0:=by
  simp only[List.length_take,List.length_drop]at h1; omega
 cases r1 with
 |agg _ vs hvl FJ NR=>
  have Gx:∃u,(part e vs.toArray off).run P w= .ok u w/\aL ρ (lens M') I w N av u:=by
   unfold part
   simp only[Sem.run_bind,oj FN MJ,Result.andThen_ok]
   cases jG:(T.d e).ag with
   |true=>
    simp only[if_pos,Sem.run_bind,bE hie,Result.andThen_ok,Sem.run_pure]
    refine⟨_,rfl,?_⟩
    rw[h2,jG,if_pos rfl,mN]
    have hex:vs.toArray.extract off (off+T.s e)=((vs.drop off).take (T.s e)).toArray:=by
     apply Array.ext'
     simp
    rw[hex]
    refine .agg _ _ (by rw[h1]; simp only[List.length_take,List.length_drop]; omega) (fun u hu=>FJ u (List.mem_of_mem_drop (List.mem_of_mem_take hu))) (fun i hi=> ?_)
    rw[h1]at hi
    rw[db _ _ _ _ _ hi,db _ _ _ _ _ hi]
    exact NR (off+i) (by omega)
   |false=>
    have h5:=h3 jG
    have hlt:off<cs.length:=by omega
    have xm:off<vs.length:=by omega
    simp only[Bool.false_eq_true,if_false]
    have:vs.toArray[off]? =some vs[off]:=by simp[xm]
    rw[this]
    refine⟨_,Sem.run_pure _ _ _,?_⟩
    rw[h2,jG,h5]
    have e1:((cs.drop off).take 1).headD .bad=cs.getD off .bad:=by
     rw[List.drop_eq_getElem_cons hlt,List.take_succ_cons]
     simp[List.getD_eq_getElem?_getD,hlt]
    simp only[Bool.false_eq_true,if_false,e1]
    have:=NR off hlt
    rwa[show vs.getD off default=vs[off] by simp[List.getD_eq_getElem?_getD,xm]]at this
  obtain⟨u,hu,hr⟩:=Gx
  refine⟨u,?_,hr⟩
  simp only[execOp,ho,hv,Instr.field,asAgg,Sem.run_bind,Sem.run_pure,Result.andThen_ok,run_underlying hD,hfd,hfo,hft,hu]
theorem s9 {a b:List AV} {sz j:Nat} (h:a.length=sz):(a++b).getD j .bad=if j<sz then a.getD j .bad else b.getD (j - sz) .bad:=by
 subst h
 by_cases hlt:j<a.length
 ·rw[if_pos hlt]; simp[List.getD_eq_getElem?_getD,List.getElem?_append_left hlt]
 ·rw[if_neg hlt]; simp[List.getD_eq_getElem?_getD,List.getElem?_append_right (Nat.le_of_not_lt hlt)]
theorem GX (hT:dp P T) {t m e sz:Nat} {x:Operand} {es:List (List AV)} (ht:T.d t= .arr m e) (ho:o.op= .sliceToArrayPointer t x) (hx:ev F x= .aH sz es) (hm:m<=es.length) (h0:0<m):
  bN P X o F M (.bh (es.take m).flatten 0) [] []:=by
 have hx':x ∈ o.op.operands.toList:=by simp[ho,Op.operands]
 obtain⟨D,it,z,hD,hf,_⟩:=hT t (by rw[ht]; simp)
 obtain rfl:=gk ht hf
 refine aF fun M' N ρ I ac w hW hU hN=> ?_
 have r1:=aq hU x hx'
 rw[hx]at r1
 generalize hv:ac.eval x=v at r1
 cases r1 with
 |cP=>simp at hm; omega
 |aH _ _ b q cap c hl hc hI hs h1 hcell hr=>
  refine⟨.pointer (some ⟨b,q,none⟩),?_,?_⟩
  ·simp only[execOp,ho,hv,Instr.arrayAt,Sem.run_bind,Sem.run_pure,Result.andThen_ok,run_underlying hD,if_neg (Nat.not_lt.2 hm)]
  ·have hfl:(es.take m).flatten.length=m*sz:=by
    rw[List.length_flatten,show (es.take m).map List.length=List.replicate m sz from ?_]
    ·simp
    ·apply List.ext_getElem
     ·simp; omega
     ·intro i hi hi'
      simp at hi ⊢
      exact hs _ (List.getElem_mem _)
   have Ea:∀j,j<m*sz->j / sz<es.length/\j % sz<sz/\(es.take m).flatten.getD j .bad=(es.getD (j / sz) []).getD (j % sz) .bad:=by
    intro j hj
    have hsz:0<sz:=by
     rcases Nat.eq_zero_or_pos sz with h|h
     ·subst h; simp at hj
     ·exact h
    have hd:j / sz<m:=Nat.div_lt_of_lt_mul (by rw[Nat.mul_comm]; exact hj)
    refine⟨by omega,Nat.mod_lt _ hsz,?_⟩
    have key:∀ (l:List (List AV)) (j:Nat),(∀e ∈ l,e.length=sz)->l.flatten.getD j .bad=(l.getD (j / sz) []).getD (j % sz) .bad:=by
     intro l
     induction l with
     |nil=>intro j _; simp
     |cons a r ih=>
      intro j hl
      have ha:=hl a List.mem_cons_self
      rw[List.flatten_cons,s9 ha]
      by_cases hlt:j<sz
      ·rw[if_pos hlt,Nat.div_eq_of_lt hlt,Nat.mod_eq_of_lt hlt]; rfl
      ·rw[if_neg hlt,ih (j - sz) (fun e he=>hl e (List.mem_cons_of_mem _ he))]
       have e1:j / sz=(j - sz) / sz+1:=by
        rw[Nat.div_eq_sub_div hsz (by omega)]
       have e2:j % sz=(j - sz) % sz:=by
        rw[Nat.mod_eq_sub_mod (by omega)]
       rw[e1,e2]; simp
    rw[key _ _ (fun e he=>hs e (List.mem_of_mem_take he))]
    congr 1
    simp[List.getD_eq_getElem?_getD,List.getElem?_take,hd]
   refine .bh _ 0 b q (fun j=>c (j / sz) (j % sz)) hI (fun j hj=> ?_) (fun j hj=> ?_) (fun j hj=> ?_)
   ·rw[hfl]at hj
    obtain⟨a1,a2,_⟩:=Ea j hj
    exact h1 _ _ a1 a2
   ·rw[hfl]at hj
    obtain⟨a1,a2,_⟩:=Ea j hj
    have:=hcell _ _ a1 a2
    have e:q+j / sz*sz+j % sz=q+j:=by rw[Nat.add_assoc,Nat.div_add_mod' j sz]
    rwa[e]at this
   ·rw[hfl]at hj
    obtain⟨a1,a2,a3⟩:=Ea j hj
    rw[a3]; exact hr _ _ a1 a2
theorem vh {neg:Bool} {t k e:TypeId} {y:Operand} {x:Operand} {q:Option Nat} {w:World} (hu:P.underlying t=some (.map k e)):
  (do eqGuard (if neg then .neq else .eql) t x y (.map q) (.map none); binOp (if neg then .neq else .eql) t (.map q) (.map none):Sem Value).run P w= .ok (.bool (if neg then !q.isNone else q.isNone)) w:=by
 have e1:=run_equal_map_nil (P:=P) (w:=w) t k e q hu
 cases neg<;>simp[Sem.run_bind,eqGuard,binOp,e1]
theorem pq {neg:Bool} {t k e yt:TypeId} {x:Operand} {b:Bool} {Ml:Mem} (hM:M=ab Ml) (ho:o.op= .binOp (if neg then .neq else .eql) t x (.const (.map none)) yt) (hu:P.underlying t=some (.map k e))
  (hx:(ev F x= .ce/\b=true)\/(∃n bl,ev F x= .omap n/\ab Ml n=some bl/\bl.ln=0)/\b=false):bN P X o F M (.bool (if neg then !b else b)) [] []:=by
 have hx':x ∈ o.op.operands.toList:=by simp[ho,Op.operands]
 refine aF fun M' N ρ I ac w hW hU hN=> ?_
 have r1:=aq hU x hx'
 have key:∃q:Option Nat,ac.eval x= .map q/\q.isNone=b:=by
  rcases hx with⟨h,rfl⟩|⟨⟨n,bl,h,hb,hl⟩,rfl⟩
  ·rw[h]at r1
   generalize ac.eval x=v at r1
   cases r1
   exact⟨none,rfl,rfl⟩
  ·rw[h]at r1
   obtain⟨sl,eQ,eY⟩:=bj (F:=F) x hx' (n:=n) (by rw[h]; simp[AV.names])
   have cD:M' n=some bl:=(hN sl eQ n eY).trans (by rw[hM]; exact hb)
   have dV:lens M' n=some (0,bl.sz):=by rw[aA]; exact⟨bl,cD,hl,rfl⟩
   generalize ac.eval x=v at r1
   cases r1 with
   |omap _ _ hn h1 h=>
    obtain⟨g,cap,_,hv⟩:=h _ dV
    exact⟨_,hv,rfl⟩
 obtain⟨q,hv,hq⟩:=key
 refine⟨_,?_,.bool _⟩
 have e1:=vh (P:=P) (neg:=neg) (y:= .const (.map none)) (x:=x) (q:=q) (w:=w) hu
 rw[hq]at e1
 have hc:ac.eval (.const (.map none))= .map none:=rfl
 simp only[execOp,ho,hv,hc]
 simp only[Sem.run_bind]at e1 ⊢
 rw[e1]
 simp
end Go.AM
