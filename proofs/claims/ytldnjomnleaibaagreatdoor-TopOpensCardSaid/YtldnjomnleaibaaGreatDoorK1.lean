/- Of the reckoning machine, and what is proved with it: texts joined by program. -/
import Derived.Test.YtldnjomnleaibaaGreatDoorK0
import Derived.RangeFuncRecord
import Derived.Laws.StructEq
import Derived.ChangeKeysEq
import Derived.Laws.Cover3
import Derived.Laws.Pointers
import Derived.Laws.BytesString
import Derived.Laws.MakeOwn
import Derived.Lib.ConvBytes
import Derived.WideKeyRuns
set_option linter.all false
namespace Go.AM
open Go.RowKit
def kI(w:World)(l:Nat):Prop:=∀off,w.cell? ⟨l,off,none⟩=none
theorem gk{w:World}{l:Nat}{r:Loop}(h:w.heap[l]? =some (.loop r)):kI w l:=fun off=>by simp[World.cell?,h]
theorem qG{w:World}{l:Nat}{r:Option (List Deferred)}(h:w.heap[l]? =some (.deferred r)):kI w l:=fun off=>by simp[World.cell?,h]
theorem b9{w:World}{l k:Nat}{o:Obj}(h:k≠l):(w.putObj l o).heap[k]? =w.heap[k]? :=World.putObj_heap_other (by omega)
theorem putObj_size(w:World)(l:Nat)(o:Obj):(w.putObj l o).heap.size=w.heap.size:=by simp[World.putObj]
theorem vk{w:World}{l:Nat}{o:Obj}(hc:kI w l){b off:Nat}{v:Value}(h:w.cell? ⟨b,off,none⟩=some v):(w.putObj l o).cell? ⟨b,off,none⟩=some v:=by
 have hb:b≠l:=fun e=>by subst e; rw[hc]at h; simp at h
 exact (cell_of_heap (b9 hb)).trans h
theorem aM.Ax{ρ:Place}{L:aZ}{I:Nat->Prop}{w:World}{l:Nat}(o:Obj)(hc:kI w l){N:Nat->Prop}{a:AV}{v:Value}(h:aM ρ L I w N a v):aM ρ L I (w.putObj l o) N a v:=by
 induction h with
 |int k n=>exact .int k n
 |bool b=>exact .bool b
 |str s=>exact .str s
 |ax=>exact .ax
 |ab=>exact .ab
 |af=>exact .af
 |dj=>exact .dj
 |bQ=>exact .bQ
 |oC n r=>exact .oC n r
 |loc n len i off v hn h1 h=>exact .loc n len i off v hn h1 h
 |bi n len v hn h1 h=>exact .bi n len v hn h1 h
 |dp n len i off cnt v hn h1 h=>exact .dp n len i off cnt v hn h1 h
 |omap n v hn h1 h=>exact .omap n v hn h1 h
 |cJ sz a cap hc=>exact .cJ sz a cap hc
 |aH sz es b o cap c hl uC hI hs h1 hcell hr ih=>exact .aH sz es b o cap c hl uC hI hs h1 (fun i j hi hj=>vk hc (hcell i j hi hj)) ih
 |be e off b o c hI h1 hcell hr ih=>exact .be e off b o c hI h1 (fun j hj=>vk hc (hcell j hj)) ih
 |bL f aQ vs hl hr ih=>exact .bL f aQ vs hl ih
 |qn f aQ vs hl hr ih=>exact .qn f aQ vs hl ih
 |agg cs vs hl h1 hr ih=>exact .agg cs vs hl h1 ih
 |aG cs vs hl hr ih=>exact .aG cs vs hl ih
 |bad v=>exact .bad v
section
variable {C:bM} {ρ:Place} {I:Nat->Prop} {M:bg} {N:Nat->Prop} {w:World} {l:Nat}
theorem xT(o:Obj)(hc:kI w l)(hI:I l){Xg:World}(h0:Xg.heap.size=C.w0.heap.size){n:Nat}{b:bf}(B:si C ρ (lens M) I w N n b):si {C with w0:=Xg} ρ (lens M) I (w.putObj l o) N n b:=by
 refine⟨B.lt,B.even,B.dX,fun g cap hg=> ?_,fun k ka va r sn la hb=> ?_⟩
 rotate_left
 ·obtain⟨g,cap,hg,i1,i2,i3⟩:=B.iter k ka va r sn la hb
  obtain⟨_,_,_,_,jV,_⟩:=B.real g cap hg
  exact⟨g,cap,hg,by show Xg.heap.size<=r; omega,i2,i3.at (b9 fun e=>jV (e ▸ hI)) (b9 fun e=>i2 (e ▸ hI))⟩
 obtain⟨cs,fr,hc1,Cy,jV,Cz,BR,Aa,CA,CB⟩:=B.real g cap hg
 have hne:g≠l:=fun e=>jV (e ▸ hI)
 refine⟨cs,fr,hc1.at (b9 hne),Cy,jV,?_,BR,Aa,CA,fun i j hi hj=> ?_⟩
 ·rcases Cz with h|h
  ·exact .inl h
  ·exact .inr (by show Xg.heap.size<=g; omega)
 ·obtain⟨u,hu,pF,hr⟩:=CB i j hi hj
  exact⟨u,hu,pF,hr.Ax o hc⟩
theorem bZ.Ax(h:bZ C ρ I M N w)(o:Obj)(hc:kI w l)(hI:I l)(hl:C.w0.heap.size<=l):bZ C ρ I M N (w.putObj l o):=by
 refine⟨fun n b hb=>xT o hc hI rfl (h.aS n b hb),h.inj,h.oA,fun g hg=>by rw[putObj_size]; exact h.lt g hg,h.old,?_,h.pn,h.Cx,h.par⟩
 exact⟨h.keeps.os,h.keeps.tape,h.keeps.output,h.keeps.drawn,by rw[putObj_size]; exact h.keeps.size,fun g hg hf=>(b9 (by omega)).trans (h.keeps.block g hg hf)⟩
theorem bZ.Ln(h:bZ C ρ I M N w)(o:Obj)(hc:kI w l)(hI:C.I0 l)(hl:l<C.w0.heap.size):bZ {C with w0:=C.w0.putObj l o} ρ I M N (w.putObj l o):=by
 refine⟨fun n b hb=>xT o hc (h.oA l hI) (putObj_size _ _ _) (h.aS n b hb),h.inj,h.oA,fun g hg=>by rw[putObj_size]; exact h.lt g hg,fun g hg=>h.old g (by simpa[putObj_size]using hg),?_,h.pn,fun g hg=> ?_,h.par⟩
 ·refine⟨h.keeps.os,h.keeps.tape,h.keeps.output,h.keeps.drawn,?_,fun g hg hf=> ?_⟩
  ·show (C.w0.putObj l o).heap.size<=(w.putObj l o).heap.size
   rw[putObj_size,putObj_size]; exact h.keeps.size
  ·have ur:g<C.w0.heap.size:=by simpa[putObj_size]using hg
   show (w.putObj l o).heap[g]? =(C.w0.putObj l o).heap[g]?
   by_cases e:g=l
   ·subst e
    rw[World.putObj_heap_same hl,World.putObj_heap_same (Nat.lt_of_lt_of_le hl h.keeps.size)]
   ·rw[b9 e,b9 e]; exact h.keeps.block g ur hf
 ·obtain⟨h1,h2⟩:=h.Cx g hg
  exact⟨by show g< (C.w0.putObj l o).heap.size; rw[putObj_size]; exact h1,h2⟩
theorem bZ.Ay(h:bZ C ρ I M N w)(hI:C.I0 l){o:Obj}(hl:C.w0.heap[l]? =some o):I l/\w.heap[l]? =some o:=
 ⟨h.oA l hI,(h.keeps.block l (Array.getElem?_eq_some_iff.1 hl).1 (fun hf=>(h.Cx l hf).2 hI)).trans hl⟩
end
end Go.AM
namespace Go.AM
open Go.RowKit
variable {P:Program} {T:TT} {X:bM}
theorem xU{S:St}{a:Act}{w w1:World}{ρ:Place}{I:Nat->Prop}(hF:jw ρ I w X S a){av:AV}{ws:List (Nat × bf)}{v:Value}{aV:Nat}{nw:List Nat}{d:Option Nat}
  (Aw:∀p ∈ ws,p.1<aV) (hle:S.nx<=aV) (hd:∀x,d=some x->x<X.size) (hp:gD X (aa S.M) (· <S.nx) ρ I w av ws v w1):
  ∃ρ1 I1,(∀g,I g->I1 g)/\(∀g,I g->w1.heap[g]? =w.heap[g]?)/\bZ X ρ1 I1 (aa (bY S.M ws)) (· <aV) w1/\jw ρ1 I1 w1 X ⟨gC S.F d av,bY S.M ws,aV⟩ (a.put d v):=by
 obtain⟨ρ1,I1,E,W,R⟩:=hp
 have hN:∀m,fR (· <S.nx) ws m->m<aV:=by
  rintro m (h|⟨b,h⟩)
  ·have:m<S.nx:=h
   omega
  ·exact Aw _ h
 have hM:aa (bY S.M ws)=cX (aa S.M) ws:=gG ws S.M
 refine⟨ρ1,I1,E.oA,E.cell,?_,?_,?_,?_⟩
 ·show bZ X ρ1 I1 (aa (bY S.M ws)) (· <aV) w1
  rw[hM]
  refine⟨fun n b hb=> ?_,W.inj,W.oA,W.lt,W.old,W.keeps,fun n hn=>hN n (W.pn n hn),W.Cx,W.par⟩
  have B:=W.aS n b hb
  refine⟨hN n B.lt,B.even,B.dX,fun g cap hρ=> ?_,B.iter⟩
  obtain⟨cs,fr,hc1,Cy,jV,Cz,BR,Aa,CA,CB⟩:=B.real g cap hρ
  refine⟨cs,fr,hc1,Cy,jV,Cz,BR,Aa,CA,fun i j hi hj=> ?_⟩
  obtain⟨u,hu,pF,hr⟩:=CB i j hi hj
  exact⟨u,hu,pF,hr.wide hN⟩
 ·intro i
  show aM ρ1 (lens (aa (bY S.M ws))) I1 w1 (· <aV) (look (gC S.F d av) i) ((a.put d v).tmps.getD i undef)
  rw[hM]
  rcases xN (a:=a) (d:=d) (v:=v) (F:=S.F) (av:=av) (i:=i) hF.size hd with⟨h1,h2⟩|⟨h1,h2⟩
  ·rw[h1,h2]; exact R.wide hN
  ·rw[h1,h2]; exact ((hF.rep i).rK E (fun _ h=>h)).wide (fun m h=>by have:m<S.nx:=h; show m<aV; omega)
 ·cases d<;>exact hF.defers.rK E
 ·cases d with
  |none=>exact hF.size
  |some x=>simpa[Act.put]using hF.size
theorem kJ{S:St}{a:Act}{w w1:World}{ρ:Place}{I:Nat->Prop}(hF:jw ρ I w X S a){av:AV}{ws:List (Nat × bf)}{v:Value}{aV:Nat}{nw:List Nat}{d:Option Nat}
  (Aw:∀p ∈ ws,p.1<aV) (hle:S.nx<=aV) (hd:∀x,d=some x->x<X.size) (hp:gD X (aa S.M) (· <S.nx) ρ I w av ws v w1):hY X ⟨gC S.F d av,bY S.M ws,aV⟩ (a.put d v) w1:=by
 obtain⟨ρ1,I1,_,_,h1,h2⟩:=xU (nw:=nw) hF Aw hle hd hp
 exact⟨ρ1,I1,h1,h2⟩
theorem Ft{a:Act}{F:aT}{b:Bool}{s:Nat}(h:a.tmps.getD s undef= .bool b)(i:Nat):look ((s,AV.bool b)::F) i=AV.bool b/\a.tmps.getD i undef= .bool b\/ look ((s,AV.bool b)::F) i=look F i:=by
 by_cases e:i=s
 ·subst e; exact .inl ⟨by simp[look],h⟩
 ·have hb:(i==s)=false:=by simpa using e
  exact .inr (by simp[look,hb])
theorem kg{S:St}{a:Act}{w:World}{s:Nat}{b:Bool}(h:hY X S a w)(hv:a.tmps.getD s undef= .bool b):hY X ⟨(s,.bool b)::S.F,S.M,S.nx⟩ a w:=by
 obtain⟨ρ,I,W,F⟩:=h
 refine⟨ρ,I,W,fun i=> ?_,F.defers,F.size⟩
 rcases Ft (F:=S.F) hv i with⟨h1,h2⟩|h1
 ·rw[h1,h2]; exact .bool _
 ·rw[h1]; exact F.rep i
theorem iG.steps{b:Frame}{R:St->Prop}{ks qH:List It}{a a':Act}{w w':World}(hs:∀cs,Steps P (lone (b.atR a (ks.map It.item)) cs w) (lone (b.atR a' (qH.map It.item)) cs w'))(hsub:∀c post k',(It.iu c post::k') <:+ qH->(It.iu c post::k') <:+ ks)
  (h:iG P X b R qH a' w'):iG P X b R ks a w:=by
 intro cs
 obtain⟨a2,w2,S2,hS,h1|h1⟩:=h cs
 ·obtain⟨todo,hl,h2,h3⟩:=h1
  exact⟨a2,w2,S2,hS,.inl ⟨todo,hl,(hs cs).trans h2,h3⟩⟩
 ·obtain⟨c,post,k',h2,h3,h4⟩:=h1
  exact⟨a2,w2,S2,hS,.inr ⟨c,post,k',hsub _ _ _ h2,(hs cs).trans h3,h4⟩⟩
section
variable {b:Frame} {a:Act} {w:World} {k:List Item} {cs:List Frame}
theorem step_scope{c:Code}:step P (lone (b.atR a (.code (.scope c)::k)) cs w)= .next (lone (b.atR a (.code c:: .inScope c::k)) cs w):=
 step_lone_go (by simp[stepG,stepG.exec,Frame.atR])
theorem step_inScope{c:Code}:step P (lone (b.atR a (.inScope c::k)) cs w)= .next (lone (b.atR a k) cs w):=
 step_lone_go (by simp[stepG,stepG.exec,Frame.atR])
end
theorem od{b:Frame}{a:Act}{w:World}{cs:List Frame}{todo:List Item}(hb:b.roundOf=none)(h:BT b.roundOf.isSome todo):Steps P (lone (b.atR a todo) cs w) (lone {b.atR a todo with mode:= .returning} cs w):=by
 rcases h with rfl|⟨_,k,rfl⟩
 ·exact .one (stepR_end hb)
 ·exact .one (stepR_ret hb)
theorem kK{b:Frame}{a:Act}{w:World}{cs:List Frame}{todo:List Item}{ρ:Place}{I:Nat->Prop}{M:bg}{N:Nat->Prop}(W:bZ X ρ I M N w)(hd:lL I w X a.defers):
  ∃w1,Steps P (lone {b.atR a todo with mode:= .returning} cs w) (lone {b.atR {a with defers:=[]} todo with mode:= .returning} cs w1)/\bZ X ρ I M N w1/\
   ∀N' av v,aM ρ (lens M) I w N' av v->aM ρ (lens M) I w1 N' av v:=by
 obtain⟨Ds,h1,h2,h3⟩:=hd
 obtain⟨tm,ds⟩:=a
 simp only at h1
 subst h1
 induction Ds generalizing w with
 |nil=>exact⟨w,.refl _ _,W,fun _ _ _ h=>h⟩
 |cons D Ds ih=>
  obtain⟨k1,k2,k3⟩:=h3 D List.mem_cons_self
  rw[List.nodup_cons]at h2
  have W':=W.Ax (.deferred none) (qG k3) k2 k1
  obtain⟨w1,s1,s2,s3⟩:=ih W' h2.2 (fun D' fX=>by
   obtain⟨q1,q2,q3⟩:=h3 D' (List.mem_cons_of_mem _ fX)
   exact⟨q1,q2,(b9 (fun e=>h2.1 (by rw[<-e]; exact fX))).trans q3⟩)
  refine⟨w1,.head (step_lone_go ?_) s1,s2,fun N' av v h=>s3 _ _ _ (h.Ax _ (qG k3))⟩
  simp[stepG,unwind,Frame.atR,run_takeDeferred k3]
theorem fG{c:Ld}{post:St->Prop}{k' k:List It}{x y:It}(hx:∀c p,x≠ .iu c p)(h:(It.iu c post::k') <:+ x::k):(It.iu c post::k') <:+ y::k:=by
 rcases List.suffix_cons_iff.1 h with h|h
 ·exact (hx c post (List.cons.inj h).1.symm).elim
 ·exact h.trans (List.suffix_cons _ _)
theorem ic{c:Ld}{post:St->Prop}{k' k:List It}{y:It}(h:(It.iu c post::k') <:+ k):(It.iu c post::k') <:+ y::k:=h.trans (List.suffix_cons _ _)
theorem ee{id:Nat}:∀{k k':List It},Lg id k=some k'->k' <:+ k/\exitTo id (k.map It.item)=some (k'.map It.item)
 |[],k',h=>by simp[Lg]at h
 | .aS id'::k,k',h=>by
   simp only[Lg]at h
   by_cases QD:id'=id
   ·subst QD
    simp at h
    subst h
    exact⟨List.suffix_cons _ _,by simp[It.item,exitTo]⟩
   ·have hb:(id'==id)=false:=by simpa using QD
    rw[hb]at h
    obtain⟨h1,h2⟩:=ee (k:=k) h
    exact⟨h1.trans (List.suffix_cons _ _),by simp[It.item,exitTo,hb,h2]⟩
 | .code c::k,k',h=>by
   obtain⟨h1,h2⟩:=ee (k:=k) h
   exact⟨h1.trans (List.suffix_cons _ _),by simp[It.item,exitTo,h2]⟩
 | .inl c::k,k',h=>by
   obtain⟨h1,h2⟩:=ee (k:=k) h
   exact⟨h1.trans (List.suffix_cons _ _),by simp[It.item,exitTo,h2]⟩
 | .iu c p::k,k',h=>by
   obtain⟨h1,h2⟩:=ee (k:=k) h
   exact⟨h1.trans (List.suffix_cons _ _),by cases c<;>simp[It.item,Ld.item,exitTo,h2]⟩
 | .mQ c::k,k',h=>by
   obtain⟨h1,h2⟩:=ee (k:=k) h
   exact⟨h1.trans (List.suffix_cons _ _),by simp[It.item,exitTo,h2]⟩
 | .ops all i r gd::k,k',h=>by
   obtain⟨h1,h2⟩:=ee (k:=k) h
   exact⟨h1.trans (List.suffix_cons _ _),by simp[It.item,exitTo,h2]⟩
theorem Mu{size id:Nat}{nr:Bool}{k k':List It}(h:Lg id k=some k')(hk:∀x ∈ k,CE size nr x):∀x ∈ k',CE size nr x:=fun x hx=>hk x ((ee h).1.subset hx)
theorem Fu{c0:Code}{c:Ld}{post:St->Prop}{k' k:List It}(h:(It.iu c post::k') <:+ .code c0:: .inl c0::k):(It.iu c post::k') <:+ .inl c0::k:=by
 rcases List.suffix_cons_iff.1 h with h|h
 ·simp at h
 ·exact h
theorem CN{c0 c1:Code}{c:Ld}{post:St->Prop}{k' k:List It}(h:(It.iu c post::k') <:+ .code c0:: .inl c0::k):(It.iu c post::k') <:+ .code c1::k:=by
 rcases List.suffix_cons_iff.1 h with h|h
 ·simp at h
 ·exact fG (by simp) h
end Go.AM
namespace Go.AM
open Go.RowKit
variable {P:Program} {T:TT} {X:bM}
def df:Place:=fun _=>none
def gN:aZ:=fun _=>none
structure Rv(z:Bool)(w w':World):Prop extends Below w.heap.size w w' where
 drawn:(zd z w).drawn<=w'.drawn
abbrev Blw:=Rv false
def gl(z:Bool)(P:Program)(f:Nat)(args:List AV)(av:AV):Prop:=
 ∀I w vs,(∀g,I g->g<w.heap.size)->dq df gN I w cI args vs->
  Calls P f vs.toArray w fun e w1=>∃v I1,e= .returned v/\Rv z w w1/\(∀g,I g->I1 g)/\(∀g,I1 g->g<w1.heap.size)/\(∀g,g<w.heap.size->I1 g->I g)/\aM df gN I1 w1 cI av v
abbrev Fv:=gl false
mutual
theorem gn{N:Nat->Prop}:∀(a:AV),(∀m ∈ a.names,N m)->a.under N
 | .loc n len i off,h=>by simpa[AV.under]using h n (by simp[AV.names])
 | .bi n len,h=>by simpa[AV.under]using h n (by simp[AV.names])
 | .dp n len i off cnt,h=>by simpa[AV.under]using h n (by simp[AV.names])
 | .omap n,h=>by simpa[AV.under]using h n (by simp[AV.names])
 | .bL f cs,h=>by simpa[AV.under]using dP cs (fun m hm=>h m (by simpa[AV.names]using hm))
 | .agg cs,h=>by simpa[AV.under]using dP cs (fun m hm=>h m (by simpa[AV.names]using hm))
 | .aG cs,h=>by simpa[AV.under]using dP cs (fun m hm=>h m (by simpa[AV.names]using hm))
 | .int ..,_=>by simp[AV.under]
 | .bool ..,_=>by simp[AV.under]
 | .str ..,_=>by simp[AV.under]
 | .ax,_=>by simp[AV.under]
 | .ab,_=>by simp[AV.under]
 | .af,_=>by simp[AV.under]
 | .dj,_=>by simp[AV.under]
 | .bQ,_=>by simp[AV.under]
 | .oC ..,_=>by simp[AV.under]
 | .aH ..,_=>by simp[AV.under]
 | .be ..,_=>by simp[AV.under]
 | .bad,_=>by simp[AV.under]
theorem dP{N:Nat->Prop}:∀(cs:List AV),(∀m ∈ AV.au cs,N m)->AV.fY N cs
 |[],_=>by simp[AV.fY]
 |c::cs,h=>by
  simp only[AV.fY]
  exact⟨gn c (fun m hm=>h m (by simp[AV.au,hm])),dP cs (fun m hm=>h m (by simp[AV.au,hm]))⟩
end
theorem aM.alone{ρ:Place}{L:aZ}{I:Nat->Prop}{w:World}{N:Nat->Prop}{a:AV}{v:Value}(h:aM ρ L I w N a v)(hn:a.names=[])(ρ':Place)(L':aZ):aM ρ' L' I w cI a v:=
 (h.low (N':=cI) (gn a (fun m hm=>by rw[hn]at hm; simp at hm))).bare (fun _ h=>h) ρ' L'
theorem dN{cs:List AV}(h:AV.au cs=[])(j:Nat):(cs.getD j .bad).names=[]:=by
 induction cs generalizing j with
 |nil=>simp[AV.names]
 |cons c cs ih=>
  simp only[AV.au,List.append_eq_nil_iff]at h
  cases j with
  |zero=>simpa using h.1
  |succ j=>simpa using ih h.2 j
theorem dq.alone{ρ:Place}{L:aZ}{I:Nat->Prop}{w:World}{N:Nat->Prop}{as:List AV}{vs:List Value}(h:dq ρ L I w N as vs)(hn:AV.au as=[])(ρ':Place)(L':aZ):dq ρ' L' I w cI as vs:=
 ⟨h.1,fun j hj=>(h.2 j hj).alone (dN hn j) ρ' L'⟩
theorem gl.Rz{z:Bool}{f:Nat}{args:List AV}{av:AV}(h:gl z P f args av)(hz:sm z X)(hn:AV.au args=[])(M:bg):qo P X f args M av [] []:=by
 refine⟨fun p hp=>by simp at hp,fun M' N ρ I w vs hW _ _ hR=> ?_⟩
 refine (h I w vs hW.lt (hR.alone hn _ _)).mono ?_
 rintro e w1 ⟨v,I1,rfl,hb,h1,h2,h3,hr⟩
 obtain⟨E,W⟩:=hW.ext' (w':=w1) (I':=I1) hb.os hb.tape hb.output hb.size hb.block h1 h2 h3 (hz.le hW.keeps.drawn hb.drawn)
 refine⟨v,rfl,ρ,I1,E,by rw[pQ]; exact W,?_⟩
 exact ((hr.bare (fun _ h=>h) ρ (lens M')).wide (fun _ h=>h.elim))
def cb(P:Program)(f:Nat):Prop:=∃fn,P.funcs[f]? =some fn/\(fn.name== "runtime.NumGoroutine")=false/\fn.body.isNone=false
def oL(T:TT):List ResultVar->aT->Mem->(List AV->Prop)->Prop
 |[],_,_,K=>K []
 | .tmp t::r,F,M,K=>oL T r F M fun vs=>K (look F t::vs)
 | .cell a t::r,F,M,K=>ej (T.d t).ok (nI T t (look F a) M fun v=>oL T r F M fun vs=>K (v::vs))
def one(vs:List AV):AV:=match vs with
 |[v]=>v
 |vs=> .aG vs
section
variable {I:Nat->Prop} {w:World} {ρ:Place} {M:Mem} {N:Nat->Prop}
def rR(tmps:Array Value):ResultVar->Sem Value
 | .tmp t=>pure (tmps.getD t undef)
 | .cell a t=>do loadVar t (<-asAddr (tmps.getD a undef))
theorem lR(hT:cO P T)(hW:bZ X ρ I (aa M) N w){F:aT}{tmps:Array Value}(hF:∀i,aM ρ (lens (aa M)) I w N (look F i) (tmps.getD i undef)):∀{rs:List ResultVar}{K:List AV->Prop},oL T rs F M K->
  ∃ek vs,K ek/\dq ρ (lens (aa M)) I w N ek vs/\(rs.mapM (rR tmps)).run P w= .ok vs w/\vs.length=rs.length
 |[],K,h=>⟨[],[],h,⟨rfl,fun j hj=>by simp at hj⟩,rfl,rfl⟩
 | .tmp t::r,K,h=>by
   obtain⟨ek,vs,h1,h2,h3,h4⟩:=lR hT hW hF (rs:=r) h
   refine⟨_,tmps.getD t undef::vs,h1,⟨by simp[h2.1],fun j hj=> ?_⟩,?_,by simp[h4]⟩
   ·cases j with
    |zero=>simpa using hF t
    |succ j=>simpa using h2.2 j (by simpa using hj)
   ·simp only[List.mapM_cons,Sem.run_bind,Sem.run_pure,Result.andThen_ok,rR,h3]
 | .cell a t::r,K,h=>by
   simp only[oL]at h
   obtain⟨hok,h⟩:=ay h
   have RA:∃av,(∃v ad,tmps.getD a undef= .pointer (some ad)/\(loadVar t ad).run P w= .ok v w/\aM ρ (lens (aa M)) I w N av v)/\oL T r F M fun vs=>K (av::vs):=by
    cases hl:look F a with
    |loc n len i off=>
     rw[hl]at h
     simp only[nI,alive]at h
     cases hb:aa M n with
     |none=>rw[hb]at h; exact h.elim
     |some b=>
      rw[hb]at h
      obtain⟨hc1,hmp,h2⟩:=ay h
      obtain⟨av,ha1,ha2,EK,hk⟩:=fM h2
      have hlen:b.ln=len:=by simpa using hc1
      have dt:lens (aa M) n=some (len,b.sz):=by rw[aA]; exact⟨b,hb,hlen,rfl⟩
      have hr:=hF a
      rw[hl]at hr
      obtain⟨hn,g,cap,hρ,hv⟩:=fJ hr dt
      obtain⟨f,hf⟩:=(hW.aS n b hb).row hmp hρ i
      obtain⟨v,EL,Me⟩:=fm (K:=fun _=>True) hT hok (off:=off) f hf ha1 ha2 EK
      exact⟨av,⟨v,_,hv,EL,Me⟩,hk⟩
    |be e off=>
     rw[hl]at h
     simp only[nI]at h
     obtain⟨av,ha1,ha2,EK,hk⟩:=fM h
     have hr:=hF a
     rw[hl]at hr
     generalize Xf:tmps.getD a undef=vv at hr
     cases hr with
     |be _ _ b q c hI h1 hcell hr=>
      obtain⟨v,EL,Me⟩:=fm (K:=fun _=>True) (N:=N) hT hok (off:=off) c (fun j hj=>⟨hcell j hj,h1 j hj,(hr j hj).wide (fun _ h=>h.elim)⟩) ha1 ha2 EK
      exact⟨av,⟨v,_,rfl,EL,Me⟩,hk⟩
    |_=>rw[hl]at h; exact h.elim
   obtain⟨av,⟨v,ad,hv,hrun,pJ⟩,hk⟩:=RA
   obtain⟨ek,vs,h1,h2,h3,h4⟩:=lR hT hW hF (rs:=r) hk
   refine⟨_,v::vs,h1,⟨by simp[h2.1],fun j hj=> ?_⟩,?_,by simp[h4]⟩
   ·cases j with
    |zero=>simpa using pJ
    |succ j=>simpa using h2.2 j (by simpa using hj)
   ·simp only[List.mapM_cons,Sem.run_bind,Sem.run_pure,Result.andThen_ok,rR,hv,asAddr,hrun,h3]
theorem IM{I:Nat->Prop}{w:World}{ρ:Place}{L:aZ}{N:Nat->Prop}{ek:List AV}{vs:List Value}(h:dq ρ L I w N ek vs):
  aM ρ L I w N (one ek) (if h:vs.toArray.size=1 then vs.toArray[0]else .tuple vs.toArray):=by
 obtain⟨hl,hr⟩:=h
 cases ek with
 |nil=>
  cases vs with
  |nil=>exact .aG [] [] rfl (fun j hj=>by simp at hj)
  |cons _ _=>simp at hl
 |cons a r=>
  cases vs with
  |nil=>simp at hl
  |cons v q=>
   cases r with
   |nil=>
    cases q with
    |nil=>exact hr 0 (by simp)
    |cons _ _=>simp at hl
   |cons b r=>
    cases q with
    |nil=>simp at hl
    |cons u q=>
     have:¬ (v::u::q).toArray.size=1:=by simp
     rw[dif_neg this]
     exact .aG _ _ hl hr
theorem jL(hT:cO P T)(hW:bZ X ρ I (aa M) N w){F:aT}{tmps:Array Value}(hF:∀i,aM ρ (lens (aa M)) I w N (look F i) (tmps.getD i undef)){fn:Func}{K:List AV->Prop}(h:oL T fn.results.toList F M K):
  ∃ek v,K ek/\(results fn tmps).run P w= .ok v w/\aM ρ (lens (aa M)) I w N (one ek) v:=by
 obtain⟨ek,vs,h1,h2,h3,h4⟩:=lR hT hW hF h
 have hrun:(results fn tmps).run P w= .ok (if h:vs.toArray.size=1 then vs.toArray[0]else .tuple vs.toArray) w:=by
  unfold results
  have e:∀g:ResultVar->Sem Value,(∀r,g r=rR tmps r)->(List.mapM g fn.results.toList).run P w= .ok vs w:=fun g hg=>by rw[funext hg]; exact h3
  simp only[Sem.run_bind,Array.mapM_eq_mapM_toList,Sem.run_map]
  rw[e _ (fun r=>by cases r<;>rfl)]
  simp only[Result.andThen_ok,Sem.run_pure]
 refine⟨ek,_,h1,hrun,?_⟩
 exact IM h2
end
def kL(i:Nat):List AV->aT
 |[]=>[]
 |a::r=>(i,a)::kL (i+1) r
theorem mU:∀(as:List AV)(i j:Nat),look (kL i as) j=if i<=j/\j<i+as.length then as.getD (j - i) .bad else .bad
 |[],i,j=>by simp only[kL,look,List.length_nil]; rw[if_neg (by omega)]
 |a::r,i,j=>by
  by_cases h:j=i
  ·subst h; simp[kL,look]
  ·have hb:(j==i)=false:=by simpa using h
   simp only[kL,look,hb,cond_false,mU r (i+1) j,List.length_cons]
   by_cases h2:i+1<=j/\j<i+1+r.length
   ·rw[if_pos h2,if_pos (by omega)]
    have:j - i=(j - (i+1))+1:=by omega
    rw[this]; simp
   ·rw[if_neg h2,if_neg (by omega)]
def YM(w:World)(I:Nat->Prop)(size:Nat):bM:=⟨w,0,I,size,df,gN⟩
mutual
def AV.fit:AV->Prop
 | .aH _ es=>es.length<=maxLen/\AV.CO es
 | .agg cs=>AV.ki cs
 | .aG cs=>AV.ki cs
 | .bL _ cs=>AV.ki cs
 | .be e _=>AV.ki e
 |_=>True
def AV.ki:List AV->Prop
 |[]=>True
 |c::r=>AV.fit c/\AV.ki r
def AV.CO:List (List AV)->Prop
 |[]=>True
 |e::r=>AV.ki e/\AV.CO r
end
theorem jC:∀(cs:List AV),(∀j,j<cs.length->(cs.getD j .bad).fit)->AV.ki cs
 |[],_=>by simp[AV.ki]
 |c::r,h=>by
  simp only[AV.ki]
  exact⟨by simpa using h 0 (by simp),jC r (fun j hj=>by simpa using h (j+1) (by simpa using hj))⟩
theorem xV:∀(es:List (List AV)),AV.CO es↔∀e ∈ es,AV.ki e
 |[]=>by simp[AV.CO]
 |e::r=>by simp[AV.CO,xV r]
theorem aM.fit{ρ:Place}{L:aZ}{I:Nat->Prop}{w:World}{N:Nat->Prop}{a:AV}{v:Value}(h:aM ρ L I w N a v):a.fit:=by
 induction h with
 |cJ=>simp[AV.fit,AV.CO]
 |aH sz es b o cap c hl hc hI hs h1 hcell hr ih=>
  simp only[AV.fit]
  refine⟨by omega,(xV es).2 fun e he=> ?_⟩
  obtain⟨i,hi,rfl⟩:=List.getElem_of_mem he
  have hel:es.getD i []=es[i]:=by simp[List.getD_eq_getElem?_getD,hi]
  refine jC _ fun j hj=> ?_
  have:=ih i j hi (by rw[<-hs _ (List.getElem_mem hi)]; exact hj)
  rwa[hel]at this
 |be e off b o c hI h1 hcell hr ih=>simp only[AV.fit]; exact jC _ ih
 |bL f aQ vs hl hr ih=>simp only[AV.fit]; exact jC _ ih
 |qn f aQ vs hl hr ih=>simp only[AV.fit]; exact jC _ ih
 |agg cs vs hl h1 hr ih=>simp only[AV.fit]; exact jC _ ih
 |aG cs vs hl hr ih=>simp only[AV.fit]; exact jC _ ih
 |_=>simp[AV.fit]
theorem dq.fit{ρ:Place}{L:aZ}{I:Nat->Prop}{w:World}{N:Nat->Prop}{as:List AV}{vs:List Value}(h:dq ρ L I w N as vs):AV.ki as:=
 jC _ fun j hj=>(h.2 j hj).fit
end Go.AM
namespace Go.AM
open Go.RowKit
def IN:TypeDesc->TD
 | .bool=> .bool
 | .int k=> .int k
 | .string=> .str
 | .pointer e=> .ptr e
 | .slice e=> .slice e
 | .array n e=> .arr n e
 | .map k e=> .map k e
 | .struct fs=> .struct (fs.toList.map fun f=>(f.offset,f.type))
 | .func .. => .func
 | .interface _=> .iface
 | .tuple _=> .aG
 |_=> .other
def Xh(P:Program)(t:Nat):TD:=match P.underlying t,P.info? t with
 |some D,some i=>bif Nat.ble i.bytes 131072&&i.zero.isSome then IN D else .other
 |_,_=> .other
def YN(P:Program)(t:Nat):Nat:=match P.info? t with
 |some i=>i.size
 |none=>0
def YO(P:Program)(t:Nat):AV:=match P.info? t with
 |some i=>(match i.zero with
  |some z=>Lc z
  |none=> .bad)
 |none=> .bad
def Az(P:Program):TT:=⟨Xh P,YN P,YO P⟩
theorem CP:∀D:TypeDesc,IN D≠ .other->(IN D).fits D:=by
 intro D h
 cases D<;>simp_all[IN,TD.fits]
theorem IP(P:Program):cO P (Az P):=by
 intro t ht
 simp only[Az,Xh]at ht
 cases hD:P.underlying t with
 |none=>rw[hD]at ht; exact (ht rfl).elim
 |some D=>
  cases hi:P.info? t with
  |none=>rw[hD,hi]at ht; exact (ht rfl).elim
  |some i=>
   rw[hD,hi]at ht
   simp only at ht
   cases hc:Nat.ble i.bytes 131072&&i.zero.isSome with
   |false=>rw[hc]at ht; exact (ht rfl).elim
   |true=>
    rw[hc]at ht
    simp only[Bool.and_eq_true,Option.isSome_iff_exists]at hc
    obtain⟨hb,z,hz⟩:=hc
    refine⟨D,i,z,rfl,?_,rfl,?_,Nat.le_of_ble_eq_true hb,hz,?_⟩
    ·simp only[Az,Xh,hD,hi,hz,hb,Option.isSome_some,Bool.and_self,cond_true]
     exact CP D ht
    ·simp only[Az,YN,hi]
    ·simp only[Az,YO,hi,hz]
def RB(ds:List TD)(ss:List Nat)(zs:List AV):TT:=⟨fun t=>ds.getD t .other,fun t=>ss.getD t 0,fun t=>zs.getD t .bad⟩
theorem Mv{P:Program}{ds:List TD}{ss:List Nat}{zs:List AV}(n:Nat)(h1:(List.range n).map (Xh P)=ds)(h2:(List.range n).map (YN P)=ss)(h3:(List.range n).map (YO P)=zs):cO P (RB ds ss zs):=by
 subst h1; subst h2; subst h3
 intro t ht
 have hlt:t<n:=by
  refine Classical.byContradiction fun h=>ht ?_
  simp[RB,List.getD_eq_getElem?_getD,h]
 have:=IP P t (by simpa[RB,Az,List.getD_eq_getElem?_getD,hlt]using ht)
 simpa[RB,Az,List.getD_eq_getElem?_getD,hlt]using this
end Go.AM
namespace Go.AM
open Go.RowKit
inductive LK where
 |i|b|s
def lv(n:Nat)(l:List LK):List LK:=(List.replicate n l).flatten
def wL(P:Program)(f:Nat->Option (List LK)):List Field->Nat->Option (List LK)
 |[],_=>some []
 |x::r,off=>if x.name != "_" &&x.offset==off then (match f x.type,P.info? x.type with
  |some l,some i=>if i.size==l.length then (wL P f r (off+l.length)).map (l++ ·)else none
  |_,_=>none)else none
def mV(P:Program):Nat->Nat->Option (List LK)
 |0,_=>none
 |d+1,t=>match P.underlying t with
  |some .bool=>some [.b]
  |some (.int _)=>some [.i]
  |some .string=>some [.s]
  |some (.struct fs)=>if P.stoodInHeld t then none else wL P (mV P d) fs.toList 0
  |some (.array n e)=>(match mV P d e,P.info? e with
   |some l,some i=>if i.size==l.length then some (lv n l)else none
   |_,_=>none)
  |_=>none
def aO(P:Program)(t:Nat):Bool:=match P.underlying t with
 |some (.struct _)=>true
 |some (.array _ _)=>true
 |_=>false
inductive Mw:LK->Value->Value->Bool->Prop
 |i (k:IntKind) (x y:Int):Mw .i (.int k x) (.int k y) (x==y)
 |b (x y:Bool):Mw .b (.bool x) (.bool y) (x==y)
 |s (x y:List UInt8):Mw .s (.string ⟨x.toArray⟩) (.string ⟨y.toArray⟩) (x==y)
inductive nk:List LK->List Value->List Value->List Bool->Prop
 |nil:nk [] [] [] []
 |cons {l ls v vs u us r rs} (h:Mw l v u r) (t:nk ls vs us rs):nk (l::ls) (v::vs) (u::us) (r::rs)
theorem nk.split:∀{l1 l2:List LK}{vs us:List Value}{rs:List Bool},nk (l1++l2) vs us rs->
  ∃v1 v2 u1 u2 r1 r2,vs=v1++v2/\us=u1++u2/\rs=r1++r2/\nk l1 v1 u1 r1/\nk l2 v2 u2 r2/\v1.length=l1.length/\u1.length=l1.length
 |[],l2,vs,us,rs,h=>⟨[],vs,[],us,[],rs,rfl,rfl,rfl,.nil,h,rfl,rfl⟩
 |a::l1,l2,_,_,_,.cons (v:=v) (u:=u) (r:=r) h t=>by
  obtain⟨v1,v2,u1,u2,r1,r2,rfl,rfl,rfl,h1,h2,h3,h4⟩:=t.split (l1:=l1)
  exact⟨v::v1,v2,u::u1,u2,r::r1,r2,rfl,rfl,rfl,.cons h h1,h2,by simp[h3],by simp[h4]⟩
def valOf(ag:Bool)(vs:List Value):Value:=if ag then .agg vs.toArray else vs.headD default
theorem wM{P:Program}{w:World}{t:Nat}{D:TypeDesc}(h:P.underlying t=some D):(isAgg t).run P w= .ok (aO P t) w:=by
 unfold isAgg aO
 simp only[Sem.run_bind,run_underlying h,Result.andThen_ok,h]
 cases D<;>rfl
theorem fT{P:Program}{w:World}{t:Nat}{D:TypeDesc}{i:TypeInfo}(h:P.underlying t=some D)(hi:P.info? t=some i){pre mid post:List Value}(hm:mid.length=i.size)(h1:aO P t=false->mid.length=1):
  (part t (pre++(mid++post)).toArray pre.length).run P w= .ok (valOf (aO P t) mid) w:=by
 unfold part
 simp only[Sem.run_bind,wM h,Result.andThen_ok]
 cases jr:aO P t with
 |true=>
  simp only[if_pos,Sem.run_bind,bu hi,Result.andThen_ok,Sem.run_pure,valOf]
  have:(pre++(mid++post)).toArray.extract pre.length (pre.length+i.size)=mid.toArray:=by
   apply Array.ext'
   simp[<-hm]
  rw[this]
 |false=>
  obtain⟨v,rfl⟩:∃v,mid=[v]:=List.length_eq_one_iff.1 (h1 jr)
  simp[valOf]
theorem jD{P:Program}:∀{d t:Nat}{ls:List LK},mV P d t=some ls->aO P t=false->ls.length=1
 |0,_,_,h,_=>by simp[mV]at h
 |d+1,t,ls,h,ha=>by
  unfold mV at h
  unfold aO at ha
  split at h<;>simp_all<;>first|(rw[<-h]; rfl)|skip
theorem BY{P:Program}:∀{d t:Nat}{ls:List LK},mV P d t=some ls->∃D,P.underlying t=some D
 |0,_,_,h=>by simp[mV]at h
 |d+1,t,ls,h=>by
  unfold mV at h
  cases hu:P.underlying t with
  |none=>rw[hu]at h; simp at h
  |some D=>exact⟨D,rfl⟩
theorem iz{P:Program}:∀(d:Nat)(m t:Nat)(ls:List LK)(w:World)(vs us:List Value)(rs:List Bool),mV P d t=some ls->nk ls vs us rs->
  (Op.equalIn (d+m) t (valOf (aO P t) vs) (valOf (aO P t) us)).run P w= .ok (rs.all id) w
 |0,_,_,_,_,_,_,_,h,_=>by simp[mV]at h
 |d+1,m,t,ls,w,vs,us,rs,h,hv=>by
  have e:d+1+m=(d+m)+1:=by omega
  rw[e]
  have ih:=iz (P:=P) d m
  unfold mV at h
  cases hu:P.underlying t with
  |none=>rw[hu]at h; simp at h
  |some D=>
   rw[hu]at h
   cases D<;>simp only[reduceCtorEq]at h
   case bool=>
    obtain rfl:[LK.b]=ls:=by simpa using h
    have ha:aO P t=false:=by simp[aO,hu]
    rcases hv with _|⟨hl,ht⟩
    cases hl; cases ht
    rw[ha]
    simp only[valOf,Bool.false_eq_true,if_false,List.headD_cons]
    rw[run_equalIn_bool' _ _ _ _ _ hu]; simp
   case int k=>
    obtain rfl:[LK.i]=ls:=by simpa using h
    have ha:aO P t=false:=by simp[aO,hu]
    rcases hv with _|⟨hl,ht⟩
    cases hl; cases ht
    rw[ha]
    simp only[valOf,Bool.false_eq_true,if_false,List.headD_cons]
    rw[run_equalIn_int _ _ _ _ _ _ _ hu]; simp
   case string=>
    obtain rfl:[LK.s]=ls:=by simpa using h
    have ha:aO P t=false:=by simp[aO,hu]
    rcases hv with _|⟨hl,ht⟩
    cases hl; cases ht
    rw[ha]
    simp only[valOf,Bool.false_eq_true,if_false,List.headD_cons]
    rw[run_equalIn_string _ _ _ _ _ hu]
    simp[ByteArray.toList_eq]
   case struct fs=>
    have ha:aO P t=true:=by simp[aO,hu]
    have Xc:P.fieldsOf t=fs:=by simp[Program.fieldsOf,hu]
    cases hst:P.stoodInHeld t with
    |true=>simp[hst]at h
    |false=>
     simp only[hst,Bool.false_eq_true,if_false]at h
     rw[ha]
     simp only[valOf,if_pos]
     rw[run_equalIn_struct w (d+m) t _ _ (by rw[Xc]; exact hu) hst,Xc]
     have go:∀(fl:List Field)(off:Nat)(ls:List LK)(w:World)(p q vs us:List Value)(rs:List Bool),wL P (mV P d) fl off=some ls->nk ls vs us rs->p.length=off->q.length=off->
       (Op.eqFields (d+m) (p++vs).toArray (q++us).toArray fl).run P w= .ok (rs.all id) w:=by
      intro fl
      induction fl with
      |nil=>
       intro off ls w p q vs us rs hl hv _ _
       obtain rfl:[]=ls:=by simpa[wL]using hl
       cases hv
       simp[Op.eqFields]
      |cons f fl ihf=>
       intro off ls w p q vs us rs hl hv hp hq
       simp only[wL]at hl
       split at hl
       ·rename_i hc
        simp only[Bool.and_eq_true,bne_iff_ne,ne_eq,beq_iff_eq]at hc
        split at hl
        ·rename_i l i uu EO
         split at hl
         ·rename_i hsz
          have hsz:i.size=l.length:=by simpa using hsz
          obtain⟨l2,hl2,rfl⟩:∃l2,wL P (mV P d) fl (off+l.length)=some l2/\l++l2=ls:=by
           simpa using hl
          obtain⟨v1,v2,u1,u2,r1,r2,rfl,rfl,rfl,h1,h2,h3,h4⟩:=hv.split
          obtain⟨D,hD⟩:=BY uu
          have p1:=fT (w:=w) hD EO (pre:=p) (mid:=v1) (post:=v2) (by omega) (fun h=>by rw[h3]; exact jD uu h)
          have p2:=fT (w:=w) hD EO (pre:=q) (mid:=u1) (post:=u2) (by omega) (fun h=>by rw[h4]; exact jD uu h)
          rw[hp,<-hc.2]at p1
          rw[hq,<-hc.2]at p2
          simp only[Op.eqFields,if_pos hc.1,ne_eq,hc.1,not_false_eq_true,Sem.run_bind,p1,p2,Result.andThen_ok,ih _ _ _ _ _ _ uu h1]
          have h5:=ihf (off+l.length) l2 w (p++v1) (q++u1) v2 u2 r2 hl2 h2 (by simp; omega) (by simp; omega)
          rw[List.append_assoc,List.append_assoc]at h5
          simp only[if_true,Sem.run_bind,p1,p2,Result.andThen_ok,ih _ _ _ _ _ _ uu h1]
          cases hr:r1.all id with
          |true=>simp only[Bool.not_true,Bool.false_eq_true,if_false,h5,List.all_append,hr,Bool.true_and]
          |false=>simp only[Bool.not_false,if_true,Sem.run_pure,List.all_append,hr,Bool.false_and]
         ·simp at hl
        ·simp at hl
       ·simp at hl
     exact go fs.toList 0 ls w [] [] vs us rs h hv rfl rfl
   case array n e=>
    have ha:aO P t=true:=by simp[aO,hu]
    split at h
    ·rename_i l i uu EO
     split at h
     ·rename_i hsz
      have hsz:i.size=l.length:=by simpa using hsz
      obtain rfl:lv n l=ls:=by simpa using h
      rw[ha]
      simp only[valOf,if_pos]
      rw[run_equalIn_array w (d+m) _ _ hu EO]
      have hc:P.cellsOf e=l.length:=by simp[Program.cellsOf,EO,hsz]
      rw[hc]
      obtain⟨D,hD⟩:=BY uu
      have go:∀(k j:Nat)(w:World)(p q vs us:List Value)(rs:List Bool),nk (lv k l) vs us rs->p.length=j*l.length->q.length=j*l.length->
        (Op.eqItems (d+m) e l.length (p++vs).toArray (q++us).toArray (List.range' j k)).run P w= .ok (rs.all id) w:=by
       intro k
       induction k with
       |zero=>
        intro j w p q vs us rs hv _ _
        simp only[lv,List.replicate_zero,List.flatten_nil]at hv
        cases hv
        simp[Op.eqItems]
       |succ k ihk=>
        intro j w p q vs us rs hv hp hq
        have e1:lv (k+1) l=l++lv k l:=by simp[lv,List.replicate_succ]
        rw[e1]at hv
        obtain⟨v1,v2,u1,u2,r1,r2,rfl,rfl,rfl,h1,h2,h3,h4⟩:=hv.split
        have p1:=fT (w:=w) hD EO (pre:=p) (mid:=v1) (post:=v2) (by omega) (fun h=>by rw[h3]; exact jD uu h)
        have p2:=fT (w:=w) hD EO (pre:=q) (mid:=u1) (post:=u2) (by omega) (fun h=>by rw[h4]; exact jD uu h)
        rw[hp]at p1
        rw[hq]at p2
        have h5:=ihk (j+1) w (p++v1) (q++u1) v2 u2 r2 h2 (by rw[List.length_append,hp,h3,Nat.succ_mul]) (by rw[List.length_append,hq,h4,Nat.succ_mul])
        rw[List.append_assoc,List.append_assoc]at h5
        simp only[List.range'_succ,Op.eqItems,Sem.run_bind,p1,p2,Result.andThen_ok,ih _ _ _ _ _ _ uu h1]
        cases hr:r1.all id with
        |true=>simp only[Bool.not_true,Bool.false_eq_true,if_false,h5,List.all_append,hr,Bool.true_and]
        |false=>simp only[Bool.not_false,if_true,Sem.run_pure,List.all_append,hr,Bool.false_and]
      rw[List.range_eq_range']
      exact go n 0 w [] [] vs us rs hv (by simp) (by simp)
     ·simp at h
    ·simp at h
end Go.AM
namespace Go.AM
open Go.RowKit
variable {P:Program} {T:TT} {X:bM} {o:Oper} {F:aT} {M:bg}
inductive Mx:LK->AV->AV->Bool->Prop
 |i (k:IntKind) (x y:Int):Mx .i (.int k x) (.int k y) (x==y)
 |b (x y:Bool):Mx .b (.bool x) (.bool y) (x==y)
 |s (x y:List UInt8):Mx .s (.str x) (.str y) (x==y)
inductive uF:List LK->List AV->List AV->List Bool->Prop
 |nil:uF [] [] [] []
 |cons {l ls v vs u us r rs} (h:Mx l v u r) (t:uF ls vs us rs):uF (l::ls) (v::vs) (u::us) (r::rs)
theorem Mx.val{ρ:Place}{L:aZ}{I:Nat->Prop}{w:World}{N:Nat->Prop}{l:LK}{a b:AV}{r:Bool}{v u:Value}(h:Mx l a b r)(h1:aM ρ L I w N a v)(h2:aM ρ L I w N b u):Mw l v u r:=by
 cases h with
 |i k x y=>rw[bw h1,bw h2]; exact .i k x y
 |b x y=>rw[gh h1,gh h2]; exact .b x y
 |s x y=>rw[gX h1,gX h2]; exact .s x y
theorem uF.val{ρ:Place}{L:aZ}{I:Nat->Prop}{w:World}{N:Nat->Prop}:∀{ls:List LK}{as bs:List AV}{rs:List Bool}{vs us:List Value},uF ls as bs rs->vs.length=as.length->us.length=bs.length->
  (∀j,j<as.length->aM ρ L I w N (as.getD j .bad) (vs.getD j default))->(∀j,j<bs.length->aM ρ L I w N (bs.getD j .bad) (us.getD j default))->nk ls vs us rs
 |_,_,_,_,[],[],.nil,_,_,_,_=> .nil
 |_,_,_,_,v::vs,u::us,.cons h t,hv,hu,h1,h2=>
  .cons (h.val (by simpa using h1 0 (by simp)) (by simpa using h2 0 (by simp))) (t.val (by simpa using hv) (by simpa using hu)
    (fun j hj=>by simpa using h1 (j+1) (by simpa using hj)) (fun j hj=>by simpa using h2 (j+1) (by simpa using hj)))
 |_,_,_,_,_::_,[],.nil,hv,_,_,_=>by simp at hv
 |_,_,_,_,[],_::_,.nil,_,hu,_,_=>by simp at hu
 |_,_,_,_,_::_,_::_,.nil,hv,_,_,_=>by simp at hv
 |_,_,_,_,[],_,.cons _ _,hv,_,_,_=>by simp at hv
 |_,_,_,_,_::_,[],.cons _ _,_,hu,_,_=>by simp at hu
theorem xW{neg:Bool}{t yt:TypeId}{x y:Operand}{d:Nat}(hd:d<=10000){ls:List LK}{as bs:List AV}{rs:List Bool}(ho:o.op= .binOp (if neg then .neq else .eql) t x y yt)(hg:P.eqGuardType P.depth t=false)(ha:aO P t=true)
  (hl:mV P d t=some ls) (hx:ev F x= .agg as) (hy:ev F y= .agg bs) (h:uF ls as bs rs):bD P X o F M (.bool (if neg then !(rs.all id)else rs.all id)) [] []:=by
 have hx':x ∈ o.op.operands.toList:=by simp[ho,Op.operands]
 have hy':y ∈ o.op.operands.toList:=by simp[ho,Op.operands]
 refine aC fun M' N ρ I ac w hW hU hN=> ?_
 have r1:=ap hU x hx'
 have r2:=ap hU y hy'
 rw[hx]at r1
 rw[hy]at r2
 generalize hv:ac.eval x=v at r1
 generalize hu:ac.eval y=u at r2
 cases r1 with
 |agg _ vs hvl EL My=>
  cases r2 with
  |agg _ us QE pF YP=>
   have h4:=h.val hvl QE My YP
   have e:=iz d (10000 - d) t ls w vs us rs hl h4
   rw[ha]at e
   simp only[valOf,if_true]at e
   have e2:d+ (10000 - d)=10000:=by omega
   rw[e2]at e
   refine⟨_,?_,.bool _⟩
   have g:=run_eqGuard_agg w (if neg then .neq else .eql) t x y vs.toArray us.toArray hg
   cases neg<;>simp_all[execOp,Sem.run_bind,run_eql_struct,run_neq_struct]
theorem wN{neg:Bool}{t yt:TypeId}{x y:Operand}{a b:Bool}(ho:o.op= .binOp (if neg then .neq else .eql) t x y yt)(hu:P.underlying t=some .bool)(hx:ev F x= .bool a)(hy:ev F y= .bool b):
  bD P X o F M (.bool (if neg then a != b else a==b)) [] []:=by
 have hx':x ∈ o.op.operands.toList:=by simp[ho,Op.operands]
 have hy':y ∈ o.op.operands.toList:=by simp[ho,Op.operands]
 refine aC fun M' N ρ I ac w hW hU hN=>⟨_,?_,.bool _⟩
 have r1:=gh (hx ▸ ap hU x hx')
 have r2:=gh (hy ▸ ap hU y hy')
 have e:=run_equal_bool w t a b hu
 cases neg<;>simp[execOp,ho,r1,r2,Sem.run_bind,eqGuard,binOp,e,bne]
def MA(op:BinOp)(a b:List UInt8)(K:AV->Prop):Prop:=
 match op with
 | .add=>(a.length+b.length<=9223372036854775807)/\K (.str (a++b))
 | .eql=>K (.bool (a==b))
 | .neq=>K (.bool !(a==b))
 | .lss=>K (.bool (Op.bytesLess a b))
 | .leq=>K (.bool (Op.bytesLess a b||a==b))
 | .gtr=>K (.bool !(Op.bytesLess a b||a==b))
 | .geq=>K (.bool !(Op.bytesLess a b))
 |_=>False
theorem Fw{op:BinOp}{t yt:TypeId}{x y:Operand}{a b:List UInt8}{K:AV->Prop}(ho:o.op= .binOp op t x y yt)(hx:ev F x= .str a)(hy:ev F y= .str b)(h:MA op a b K):∃av,bD P X o F M av [] []/\K av:=by
 have hx':x ∈ o.op.operands.toList:=by simp[ho,Op.operands]
 have hy':y ∈ o.op.operands.toList:=by simp[ho,Op.operands]
 have go:∀av v,(∀ρ L I w N,aM ρ L I w N av v)->(∀w,(Op.stringOp op ⟨a.toArray⟩ ⟨b.toArray⟩).run P w= .ok v w)->K av->∃av,bD P X o F M av [] []/\K av:=by
  intro av v hr hrun hk
  refine⟨av,aC fun M' N ρ I ac w hW hU hN=>⟨v,?_,hr _ _ _ _ _⟩,hk⟩
  have r1:=gX (hx ▸ ap hU x hx')
  have r2:=gX (hy ▸ ap hU y hy')
  have g:(eqGuard op t x y (.string ⟨a.toArray⟩) (.string ⟨b.toArray⟩)).run P w= .ok () w:=by
   unfold eqGuard; cases op<;>simp
  have e:binOp op t (.string ⟨a.toArray⟩) (.string ⟨b.toArray⟩)=Op.stringOp op ⟨a.toArray⟩ ⟨b.toArray⟩:=by cases op<;>rfl
  simp only[execOp,ho,r1,r2,Sem.run_bind,g,Result.andThen_ok,e,hrun,Sem.run_pure]
 have tl:∀l:List UInt8,(⟨l.toArray⟩:ByteArray).toList=l:=fun l=>by rw[ByteArray.toList_eq]
 cases op<;>simp only[MA]at h<;>try exact h.elim
 case add=>
  refine go _ (.string ⟨(a++b).toArray⟩) (fun _ _ _ _ _=> .str _) (fun w=> ?_) h.2
  have e:(⟨a.toArray⟩:ByteArray)++⟨b.toArray⟩=⟨(a++b).toArray⟩:=by
   apply ByteArray.ext
   simp
  have h1:=h.1
  have hs:¬ ((((⟨a.toArray⟩:ByteArray).size+ (⟨b.toArray⟩:ByteArray).size:Nat):Int)>IntKind.i64.max):=by
   show ¬ (((a.toArray.size+b.toArray.size:Nat):Int)>9223372036854775807)
   simp only[List.size_toArray]
   omega
  simp only[Op.stringOp,if_neg hs,e,Sem.run_pure]
 all_goals exact go _ _ (fun _ _ _ _ _=> .bool _) (fun w=>by simp only[Op.stringOp,tl,Sem.run_pure]) h
end Go.AM
namespace Go.AM
open Go.RowKit
variable {P:Program} {T:TT} {X:bM} {o:Oper} {F:aT} {M:bg}
theorem rk{neg:Bool}{t e:TypeId}{y:Operand}{x:Operand}{q:Option Addr}{l c:Nat}{w:World}(hu:P.underlying t=some (.slice e)):
  (do eqGuard (if neg then .neq else .eql) t x y (.slice q l c) (.slice none 0 0); binOp (if neg then .neq else .eql) t (.slice q l c) (.slice none 0 0):Sem Value).run P w= .ok (.bool (if neg then !q.isNone else q.isNone)) w:=by
 have e1:=run_equal_slice_nil w t e q l c hu
 cases neg<;>simp[Sem.run_bind,eqGuard,binOp,e1]
theorem uG{neg:Bool}{t e:TypeId}{y:Operand}{x:Operand}{q:Option Addr}{w:World}(hu:P.underlying t=some (.pointer e)):
  (do eqGuard (if neg then .neq else .eql) t x y (.pointer q) (.pointer none); binOp (if neg then .neq else .eql) t (.pointer q) (.pointer none):Sem Value).run P w= .ok (.bool (if neg then !q.isNone else q.isNone)) w:=by
 have e0:P.pointee t=e:=by simp[Program.pointee,hu]
 have e1:=run_equal_pointer_nil w t q (by rw[e0]; exact hu)
 cases neg<;>simp[Sem.run_bind,eqGuard,binOp,e1]
theorem kM{neg:Bool}{t e yt:TypeId}{x:Operand}{b:Bool}{Ml:Mem}(hM:M=aa Ml)(ho:o.op= .binOp (if neg then .neq else .eql) t x (.const (.pointer none)) yt)(hu:P.underlying t=some (.pointer e))
  (hx:(ev F x= .ax/\b=true)\/((∃r q,ev F x= .be r q)/\b=false)\/(∃n len i q bl,ev F x= .loc n len i q/\aa Ml n=some bl/\bl.ln=len)/\b=false):bD P X o F M (.bool (if neg then !b else b)) [] []:=by
 have hx':x ∈ o.op.operands.toList:=by simp[ho,Op.operands]
 refine aC fun M' N ρ I ac w hW hU hN=> ?_
 have r1:=ap hU x hx'
 have key:∃q:Option Addr,ac.eval x= .pointer q/\q.isNone=b:=by
  rcases hx with⟨h,rfl⟩|⟨⟨r,q,h⟩,rfl⟩|⟨⟨n,len,i,q,bl,h,hb,hl⟩,rfl⟩
  ·rw[h]at r1
   generalize ac.eval x=v at r1
   cases r1
   exact⟨none,rfl,rfl⟩
  ·rw[h]at r1
   generalize ac.eval x=v at r1
   cases r1
   exact⟨_,rfl,rfl⟩
  ·rw[h]at r1
   obtain⟨sl,dK,fj⟩:=bh (F:=F) x hx' (n:=n) (by rw[h]; simp[AV.names])
   have bN:M' n=some bl:=(hN sl dK n fj).trans (by rw[hM]; exact hb)
   have dt:lens M' n=some (len,bl.sz):=by rw[aA]; exact⟨bl,bN,hl,rfl⟩
   obtain⟨_,g,cap,_,hv⟩:=fJ r1 dt
   exact⟨_,hv,rfl⟩
 obtain⟨q,hv,hq⟩:=key
 refine⟨_,?_,.bool _⟩
 have e1:=uG (P:=P) (neg:=neg) (y:= .const (.pointer none)) (x:=x) (q:=q) (w:=w) hu
 rw[hq]at e1
 have hc:ac.eval (.const (.pointer none))= .pointer none:=rfl
 simp only[execOp,ho,hv,hc]
 simp only[Sem.run_bind]at e1 ⊢
 rw[e1]
 simp
theorem uH{neg:Bool}{t e yt:TypeId}{x:Operand}{s:Nat}{es:List (List AV)}(ho:o.op= .binOp (if neg then .neq else .eql) t x (.const (.slice none 0 0)) yt)(hu:P.underlying t=some (.slice e))(hx:ev F x= .aH s es)
  {M':bg} {N:Nat->Prop} {ρ:Place} {I:Nat->Prop} {a:Act} {w:World} (hW:bZ X ρ I M' N w) (hU:∀s ∈ dr o.op,aM ρ (lens M') I w N (look F s) (a.tmps.getD s undef)):
  ∃b:Bool,(b=true->es=[])/\bJ P X o a M' N ρ I w (.bool (if neg then !b else b)) []:=by
 have hx':x ∈ o.op.operands.toList:=by simp[ho,Op.operands]
 have r1:=ap hU x hx'
 rw[hx]at r1
 have key:∃(q:Option Addr)(c:Nat),a.eval x= .slice q es.length c/\(q.isNone=true->es=[]):=by
  generalize a.eval x=v at r1
  cases r1 with
  |cJ _ q cap=>exact⟨q,cap,rfl,fun _=>rfl⟩
  |aH _ _ b o cap c hl=>exact⟨_,cap,rfl,fun h=>by simp at h⟩
 obtain⟨q,c,hv,hq⟩:=key
 refine⟨q.isNone,hq,?_⟩
 have e1:=rk (P:=P) (neg:=neg) (y:= .const (.slice none 0 0)) (x:=x) (q:=q) (l:=es.length) (c:=c) (w:=w) hu
 have hr:(execOp a.eval o).run P w= .ok (.value (.bool (if neg then !q.isNone else q.isNone))) w:=by
  have hc:a.eval (.const (.slice none 0 0))= .slice none 0 0:=rfl
  simp only[execOp,ho,hv,hc]
  simp only[Sem.run_bind]at e1 ⊢
  rw[e1]
  simp
 unfold bJ
 rw[hr]
 exact gD.value hW (.bool _)
theorem AA(hT:cO P T){t e:Nat}{x h m:Operand}{k k':IntKind}{n:Nat}(ht:T.d t= .slice e)(hok:(T.d e).ok=true)(ho:o.op= .slice t x none (some h) (some m))(hh:ev F h= .int k 0)(hm:ev F m= .int k' 0)
  (hx:∃s es,ev F x= .aH s es):bD P X o F M (.bi n 0) [(n,⟨e,T.s e,[],none⟩)] [n]:=by
 have hx':x ∈ o.op.operands.toList:=by simp[ho,Op.operands]
 have hh':h ∈ o.op.operands.toList:=by simp[ho,Op.operands]
 have hm':m ∈ o.op.operands.toList:=by simp[ho,Op.operands]
 obtain⟨D,it,z,hD,hf,_⟩:=hT t (by rw[ht]; simp)
 have fX:=bv ht hf
 subst fX
 obtain⟨_,ie,_,_,_,hie,lu,_⟩:=hT e (TD.dC hok)
 obtain⟨s,es,hx⟩:=hx
 refine⟨fun p hp=> .inl (by simp at hp; simp[hp]),fun M' N ρ I ac w hW hU hN hF=> ?_⟩
 have hn:¬N n:=hF n (by simp)
 have r1:=ap hU x hx'
 have r2:=bw (hh ▸ ap hU h hh')
 have r3:=bw (hm ▸ ap hU m hm')
 rw[hx]at r1
 obtain⟨q,cap,hv,hle⟩:=rO r1
 have hb:(Instr.sliceBounds true es.length cap (none:Option Value) (some (.int k 0)) (some (.int k' 0))).run P w= .ok (0,0,0) w:=by
  have e1:=run_sliceBound (P:=P) (k:=k') (i:=0) (y:=cap) (c:= .slice3Acap) (w:=w) ⟨by omega,by omega⟩
  have e2:=run_sliceBound (P:=P) (k:=k) (i:=0) (y:=0) (c:= .slice3B) (w:=w) ⟨by omega,by omega⟩
  simp[Instr.sliceBounds,e1,e2,Sem.run_bind,Instr.sliceBound,asIntOf]
 have hrun:=hZ (a:=q) (len:=es.length) hD hie hb
 obtain⟨E,W⟩:=hW.dX hn e (T.s e)
 unfold bJ
 have hr:(execOp ac.eval o).run P w= .ok (.value (.slice q 0 0)) w:=by
  simp only[execOp,ho,Option.map_none,Option.map_some,hv,r2,r3,Sem.run_bind,hrun]
  simp
 rw[hr]
 refine⟨_,I,E,by rw[bE]; exact W,?_⟩
 refine .bi n _ _ (.inr ⟨_,List.mem_singleton.2 rfl⟩) rfl fun l Ai oB=> ?_
 change lens (cZ M' n _) n=_ at oB
 rw[bW,if_pos rfl]at oB
 simp at oB
 exact⟨by simp,fun _=> .inl ⟨by simp,q,rfl⟩⟩
theorem xX(hT:cO P T){t m e:Nat}{x ix:Operand}{cs:List AV}{k:IntKind}{j:Int}{K:AV->Prop}(ht:T.d t= .arr m e)(hok:(T.d e).ok=true)(ho:o.op= .index t x ix)(hx:ev F x= .agg cs)(hi:ev F ix= .int k j)
  (hj:0<=j/\j< (m:Int)) (h:apart (T.d e).ag (T.s e) (j.toNat*T.s e) cs K):∃av,bD P X o F M av [] []/\K av:=by
 have hx':x ∈ o.op.operands.toList:=by simp[ho,Op.operands]
 have hi':ix ∈ o.op.operands.toList:=by simp[ho,Op.operands]
 obtain⟨D,it,z,hD,hf,_⟩:=hT t (by rw[ht]; simp)
 have fX:=dY ht hf
 subst fX
 obtain⟨De,ie,_,xY,Fx,hie,lu,_⟩:=hT e (TD.dC hok)
 obtain⟨av,h1,h2,h3,h4⟩:=fM h
 refine⟨av,aC fun M' N ρ I ac w hW hU hN=> ?_,h4⟩
 have r1:=ap hU x hx'
 have r2:=bw (hi ▸ ap hU ix hi')
 rw[hx]at r1
 generalize hv:ac.eval x=v at r1
 generalize hoff:j.toNat*T.s e=off at h1 h2
 have hle:off+T.s e<=cs.length\/ T.s e=0:=by
  simp only[List.length_take,List.length_drop]at h1; omega
 cases r1 with
 |agg _ vs hvl EL My=>
  have Fy:∃u,(part e vs.toArray off).run P w= .ok u w/\aM ρ (lens M') I w N av u:=by
   unfold part
   simp only[Sem.run_bind,nW xY Fx,Result.andThen_ok]
   cases jr:(T.d e).ag with
   |true=>
    simp only[if_pos,Sem.run_bind,bu hie,Result.andThen_ok,Sem.run_pure]
    refine⟨_,rfl,?_⟩
    rw[h2,jr,if_pos rfl,lu]
    have hex:vs.toArray.extract off (off+T.s e)=((vs.drop off).take (T.s e)).toArray:=by
     apply Array.ext'
     simp
    rw[hex]
    refine .agg _ _ (by rw[h1]; simp only[List.length_take,List.length_drop]; omega) (fun u hu=>EL u (List.mem_of_mem_drop (List.mem_of_mem_take hu))) (fun i hi=> ?_)
    rw[h1]at hi
    rw[db _ _ _ _ _ hi,db _ _ _ _ _ hi]
    exact My (off+i) (by omega)
   |false=>
    have h5:=h3 jr
    have hlt:off<cs.length:=by omega
    have wO:off<vs.length:=by omega
    simp only[Bool.false_eq_true,if_false]
    have:vs.toArray[off]? =some vs[off]:=by simp[wO]
    rw[this]
    refine⟨_,Sem.run_pure _ _ _,?_⟩
    rw[h2,jr,h5]
    have e1:((cs.drop off).take 1).headD .bad=cs.getD off .bad:=by
     rw[List.drop_eq_getElem_cons hlt,List.take_succ_cons]
     simp[List.getD_eq_getElem?_getD,hlt]
    simp only[Bool.false_eq_true,if_false,e1]
    have:=My off hlt
    rwa[show vs.getD off default=vs[off] by simp[List.getD_eq_getElem?_getD,wO]]at this
  obtain⟨u,hu,hr⟩:=Fy
  refine⟨u,?_,hr⟩
  simp only[execOp,ho,hv,r2,Instr.index,asIntOf,Sem.run_bind,Sem.run_pure,Result.andThen_ok,run_underlying hD,if_pos hj,bu hie,lu,hoff,hu]
theorem xZ(hT:cO P T){t:Nat}{x ix:Operand}{s:List UInt8}{k:IntKind}{j:Int}(ht:T.d t= .str)(ho:o.op= .index t x ix)(hx:ev F x= .str s)(hi:ev F ix= .int k j)(hj:0<=j/\j< (s.length:Int)):
  bD P X o F M (.int .u8 (s.getD j.toNat 0).toNat) [] []:=by
 have hx':x ∈ o.op.operands.toList:=by simp[ho,Op.operands]
 have hi':ix ∈ o.op.operands.toList:=by simp[ho,Op.operands]
 obtain⟨D,it,z,hD,hf,_⟩:=hT t (by rw[ht]; simp)
 have fX:=gg ht hf
 subst fX
 refine aC fun M' N ρ I ac w hW hU hN=>⟨_,?_,.int _ _⟩
 have r1:=gX (hx ▸ ap hU x hx')
 have r2:=bw (hi ▸ ap hU ix hi')
 have hlt:j.toNat<s.length:=by omega
 have e1:(⟨s.toArray⟩:ByteArray)[j.toNat]? =some s[j.toNat]:=by
  have hsz:j.toNat< (⟨s.toArray⟩:ByteArray).size:=by show j.toNat<s.toArray.size; simpa using hlt
  rw[getElem?_pos (⟨s.toArray⟩:ByteArray) j.toNat hsz]
  rfl
 simp only[execOp,ho,r1,r2,Instr.index,asIntOf,Sem.run_bind,Sem.run_pure,Result.andThen_ok,run_underlying hD,if_pos hj.1,e1]
 simp[List.getD_eq_getElem?_getD,hlt]
theorem foldl_push(s:List UInt8):∀r:ByteArray,(s.map fun c=>((c.toNat:Int))).foldl (fun r n=>r.push (UInt8.ofNat n.toNat)) r=⟨(r.data.toList++s).toArray⟩:=by
 induction s with
 |nil=>intro r; simp
 |cons c s ih=>
  intro r
  simp only[List.map_cons,List.foldl_cons,ih]
  congr 1
  simp[ByteArray.push]
theorem FA(hT:cO P T){s t e:Nat}{x:Operand}{Ml:Mem}{K:AV->Prop}(hM:M=aa Ml)(hs:T.d s= .slice e)(he:T.d e= .int .u8)(ht:T.d t= .str)(ho:o.op= .convert s t x)(fj:¬ ∃q,ev F x= .str q)
  (h:nV Ml 1 (ev F x) fun xs=>∃b:List UInt8,xs=b.map (fun c=>[AV.int .u8 c.toNat])/\K (.str b)):∃av,bD P X o F M av [] []/\K av:=by
 have hx:x ∈ o.op.operands.toList:=by simp[ho,Op.operands]
 obtain⟨D,_,_,hD,hf,_⟩:=hT s (by rw[hs]; simp)
 have:=bv hs hf
 subst this
 obtain⟨D,_,_,xY,hf,_⟩:=hT e (by rw[he]; simp)
 have:=fits_int he hf
 subst this
 obtain⟨D,_,_,YQ,hf,_⟩:=hT t (by rw[ht]; simp)
 have:=gg ht hf
 subst this
 obtain⟨xs,⟨b,rfl,hk⟩,hsrc⟩:=kF (X:=X) (o:=o) (tx:=s) hT hM hx (.inl ⟨_,hD⟩) (fun h=>(fj h).elim) (fun _=>⟨_,hD⟩) h
 refine⟨_,aC fun M' N ρ I ac w hW hU hN=> ?_,hk⟩
 obtain⟨vs,hS,hL,-⟩:=hsrc M' N ρ I ac w hW hU hN
 have hvs:vs=b.map fun c=>Value.int .u8 (c.toNat:Int):=by
  apply List.ext_getElem
  ·rw[hL.1]; simp
  ·intro i h1 h2
   have hi:i<b.length:=by simpa using h2
   obtain⟨u,hu,hr⟩:=hL.2.2 i 0 (by simpa using hi) (by omega)
   rw[Nat.mul_one,Nat.add_zero,List.getElem?_eq_getElem h1]at hu
   simp only[Option.some.injEq]at hu
   have e1:((b.map fun c=>[AV.int .u8 (c.toNat:Int)]).getD i []).getD 0 .bad= .int .u8 (b[i].toNat:Int):=by
    simp[List.getD_eq_getElem?_getD,hi]
   rw[e1]at hr
   rw[hu,bw hr.2]
   simp
 have dK:∃q l c,ac.eval x= .slice q l c:=by
  have r1:=ap hU x hx
  cases bK:ev F x with
  |aH s es=>rw[bK]at r1; obtain⟨q,cap,hv,_⟩:=rO r1; exact⟨_,_,_,hv⟩
  |ab=>
   rw[bK]at r1
   generalize ac.eval x=v at r1
   cases r1
   exact⟨_,_,_,rfl⟩
  |bi n len=>
   rw[bK]at h r1
   simp only[nV,alive]at h
   cases hb:aa Ml n with
   |none=>rw[hb]at h; exact h.elim
   |some bl=>
    rw[hb]at h
    obtain⟨hc1,hmp,_⟩:=ay h
    have hl:bl.ln=len:=by simpa using hc1
    obtain⟨sl,dK,fj⟩:=bh (F:=F) x hx (n:=n) (by rw[bK]; simp[AV.names])
    have bN:M' n=some bl:=(hN sl dK n fj).trans (by rw[hM]; exact hb)
    have dt:lens M' n=some (len,bl.sz):=by rw[aA]; exact⟨bl,bN,hl,rfl⟩
    obtain⟨_,⟨_,q,hv⟩|⟨g,cap,_,hv⟩⟩:=gY r1 dt
    ·exact⟨_,_,_,hv⟩
    ·exact⟨_,_,_,hv⟩
  |dp n len i off cnt=>
   rw[bK]at h r1
   simp only[nV,alive]at h
   cases hb:aa Ml n with
   |none=>rw[hb]at h; exact h.elim
   |some bl=>
    rw[hb]at h
    obtain⟨hc1,hmp,_⟩:=ay h
    have hl:bl.ln=len:=by simpa using hc1
    obtain⟨sl,dK,fj⟩:=bh (F:=F) x hx (n:=n) (by rw[bK]; simp[AV.names])
    have bN:M' n=some bl:=(hN sl dK n fj).trans (by rw[hM]; exact hb)
    have dt:lens M' n=some (len,bl.sz):=by rw[aA]; exact⟨bl,bN,hl,rfl⟩
    obtain⟨_,g,cap,c,_,hv,_⟩:=jz r1 dt
    exact⟨_,_,_,hv⟩
  |str q=>exact (fj ⟨q,bK⟩).elim
  |_=>rw[bK]at h; exact h.elim
 obtain⟨q,l,c,hv⟩:=dK
 have hl:l=b.length:=by
  have:=hS.len w
  rw[hv]at this
  simpa[Builtin.lenOf]using this
 refine⟨.string ⟨b.toArray⟩,?_,.str _⟩
 have hrun:(Conv.bytesToString (ac.eval x)).run P w= .ok (.string ⟨b.toArray⟩) w:=by
  rw[hv]
  cases q with
  |none=>
   have hc:=hS.cells
   rw[hv,hvs]at hc
   have:b=[]:=by
    simp[Builtin.firstCells]at hc
    exact hc
   subst this
   simp[Conv.bytesToString]
   rfl
  |some a=>
   have hc:=hS.cells
   rw[hv,hvs]at hc
   simp only[Builtin.firstCells,List.length_map,Nat.mul_one]at hc
   have:=run_bytesToString (P:=P) w a l c (b.map fun c=>(c.toNat:Int)) (by rw[hl,hc]; simp[List.map_map,Function.comp_def])
   rw[this,foldl_push]
   simp
 simp only[execOp,ho,convert,Sem.run_bind,run_underlying hD,run_underlying YQ,Result.andThen_ok]
 have e9:∀v:Value,v=ac.eval x->True:=fun _ _=>trivial
 rw[hv]at hrun ⊢
 simp only[Sem.run_bind,run_underlying xY,Result.andThen_ok,hrun,Sem.run_pure]
end Go.AM
namespace Go.AM
open Go.RowKit
variable {P:Program} {T:TT} {X:bM} {o:Oper} {F:aT} {M:bg}
theorem sL{ρ:Place}{L:aZ}{I:Nat->Prop}{w:World}{N:Nat->Prop}{n len i off sz g cap cnt c:Nat}(hn:N n)(hl:L n=some (len,sz))(hρ:ρ n=some (g,cap))(h1:cnt<=c)(h2:c<=maxLen):
  aM ρ L I w N (.dp n len i off cnt) (.slice (some ⟨g,i*sz+off,none⟩) cnt c):=
 .dp n len i off cnt _ hn rfl fun l Ai h=>by
   rw[hl]at h
   simp only[Option.some.injEq,Prod.mk.injEq]at h
   obtain⟨rfl,rfl⟩:=h
   exact⟨Nat.le_refl _,fun _=>⟨g,cap,c,hρ,rfl,h1,h2⟩⟩
theorem lw{t m e:Nat}{ie:TypeInfo}{a:Addr}{w:World}(hD:P.underlying t=some (.array m e))(hi':P.info? e=some ie):
  (Instr.sliceAt t (.pointer (some a)) none none none).run P w= .ok (.slice (some a) m m) w:=by
 have:a.add 0=a:=by simp[Addr.add]
 simp[Instr.sliceAt,Sem.run_bind,run_underlying hD,Instr.sureAddr,Instr.sliceBounds,bu hi',this]
theorem uI(hT:cO P T){t m e n len i off:Nat}{x:Operand}{Ml:Mem}{b:bf}(hM:M=aa Ml)(ht:T.d t= .arr m e)(hok:(T.d e).ok=true)(ho:o.op= .slice t x none none none)(hm:m<=maxLen)
  (bK:ev F x= .loc n len i off) (hb:aa Ml n=some b) (hl:b.ln=len):bD P X o F M (.dp n len i off m) [] []:=by
 have hx:x ∈ o.op.operands.toList:=by simp[ho,Op.operands]
 obtain⟨D,it,z,hD,hf,_⟩:=hT t (by rw[ht]; simp)
 have fX:=dY ht hf
 subst fX
 obtain⟨De,ie,_,xY,Fx,hie,lu,_⟩:=hT e (TD.dC hok)
 refine aC fun M' N ρ I a w hW hU hN=> ?_
 have r1:=ap hU x hx
 rw[bK]at r1
 obtain⟨sl,dK,fj⟩:=bh (F:=F) x hx (n:=n) (by rw[bK]; simp[AV.names])
 have bN:M' n=some b:=(hN sl dK n fj).trans (by rw[hM]; exact hb)
 have dt:lens M' n=some (len,b.sz):=by rw[aA]; exact⟨b,bN,hl,rfl⟩
 obtain⟨hn,g,cap,hρ,hv⟩:=fJ r1 dt
 refine⟨_,?_,sL hn dt hρ (Nat.le_refl m) hm⟩
 simp only[execOp,ho,hv,Option.map_none,Sem.run_bind,lw hD hie,Result.andThen_ok,Sem.run_pure]
theorem uJ(hT:cO P T){t m e off:Nat}{x:Operand}{r:List AV}(ht:T.d t= .arr m e)(hok:(T.d e).ok=true)(ho:o.op= .slice t x none none none)(hm:m<=maxLen)
  (bK:ev F x= .be r off) (hfit:off+m*T.s e<=r.length):bD P X o F M (.aH (T.s e) (pL (T.s e) m (r.drop off))) [] []:=by
 have hx:x ∈ o.op.operands.toList:=by simp[ho,Op.operands]
 obtain⟨D,it,z,hD,hf,_⟩:=hT t (by rw[ht]; simp)
 have fX:=dY ht hf
 subst fX
 obtain⟨De,ie,_,xY,Fx,hie,lu,_⟩:=hT e (TD.dC hok)
 refine aC fun M' N ρ I a w hW hU hN=> ?_
 have r1:=ap hU x hx
 rw[bK]at r1
 generalize hv:a.eval x=v at r1
 cases r1 with
 |be _ _ b q c hI h1 hcell hr=>
  refine⟨.slice (some ⟨b,q+off,none⟩) m m,?_,?_⟩
  ·simp only[execOp,ho,hv,Option.map_none,Sem.run_bind,lw hD hie,Result.andThen_ok,Sem.run_pure]
  ·have hlen:(pL (T.s e) m (r.drop off)).length=m:=dZ
   have hlt:∀i j,i<m->j<T.s e->off+ (i*T.s e+j)<r.length:=fun i j hi hj=>by
    have:=lP (sz:=T.s e) hi hj
    omega
   have key:=aM.aH (ρ:=ρ) (L:=lens M') (I:=I) (w:=w) (N:=N) (T.s e) (pL (T.s e) m (r.drop off)) b (q+off) m (fun i j=>c (off+ (i*T.s e+j))) (by rw[hlen]; exact Nat.le_refl _) hm hI
    (fun l hl=>by
      obtain⟨p,hp,rfl⟩:=List.mem_iff_getElem.1 hl
      rw[hlen]at hp
      have e1:=kb (sz:=T.s e) (r:=r.drop off) hp
      rw[List.getD_eq_getElem?_getD,List.getElem?_eq_getElem (by rw[hlen]; exact hp),Option.getD_some]at e1
      rw[e1]
      have:(p+1)*T.s e<=m*T.s e:=Nat.mul_le_mul_right _ hp
      rw[Nat.add_mul,Nat.one_mul]at this
      simp only[List.length_take,List.length_drop]; omega)
    (fun i j hi hj=>h1 _ (hlt i j (by rwa[hlen]at hi) hj))
    (fun i j hi hj=>by
      have:=hcell _ (hlt i j (by rwa[hlen]at hi) hj)
      rwa[show q+off+i*T.s e+j=q+ (off+ (i*T.s e+j)) by omega])
    (fun i j hi hj=>by
      rw[hlen]at hi
      have:=hr _ (hlt i j hi hj)
      rw[kb hi,db _ _ _ _ _ hj]
      simpa only[List.getD_eq_getElem?_getD,List.getElem?_drop]using this)
   rwa[hlen]at key
theorem CQ{ρ:Place}{I:Nat->Prop}{M':bg}{N:Nat->Prop}{w:World}(hW:bZ X ρ I M' N w){n i off g cap:Nat}{b:bf}{ek:List AV}{oM:List Value}(bN:M' n=some b)(hmp:b.mp=none)(hρ:ρ n=some (g,cap))(hi':i<b.es.length)
  (hcl:oM.length=ek.length) (E7:∀u ∈ oM,u.oneCell'=true) (Yv:∀j,j<ek.length->aM ρ (lens M') I w N (ek.getD j .bad) (oM.getD j default)) (hoff:off+ek.length<=b.sz):
  (storeCells ⟨g,i*b.sz+off,none⟩ oM).run P w= .ok () (w.setCells g (i*b.sz+off) oM)/\
  ∃ρ1,mN N ρ (lens M') I w ρ1 (lens (cX M' [(n,⟨b.ty,b.sz,b.es.set i (bH off ek (b.es.getD i [])),none⟩)])) I (w.setCells g (i*b.sz+off) oM)/\
   bZ X ρ1 I (cX M' [(n,⟨b.ty,b.sz,b.es.set i (bH off ek (b.es.getD i [])),none⟩)]) (fR N [(n,⟨b.ty,b.sz,b.es.set i (bH off ek (b.es.getD i [])),none⟩)]) (w.setCells g (i*b.sz+off) oM):=by
 have B:=hW.aS n b bN
 obtain⟨cs,fr,hg,nH,nU,hown,hlc,lJ,hcs,hc⟩:=B.real g cap hρ
 have hg:=hg.cells hmp
 have Rg:=bf.bX hmp
 have hel:(b.es.getD i []).length=b.sz:=by
  rw[List.getD_eq_getElem?_getD,List.getElem?_eq_getElem hi',Option.getD_some]
  exact B.even _ (List.getElem_mem _)
 have hrow:i*b.sz+b.sz<=cs.size:=by
  rw[hcs]
  calc i*b.sz+b.sz=(i+1)*b.sz:=by rw[Nat.add_mul,Nat.one_mul]
   _<=cap*b.sz:=Nat.mul_le_mul_right _ (by omega)
 have hin:∀j,j<b.sz->i*b.sz+j<cs.size:=fun j hj=>by omega
 have oI:∀k,w.cell? ⟨g,k,none⟩=cs[k]? :=fun k=>by simp[World.cell?,hg]
 have Yw:∀k,k<cs.size->w.frozen? ⟨g,k,none⟩=false:=fun k hk=>by
  have:=zZ nH k hk
  simp only[World.frozen?,hg]
  simpa using this
 refine⟨?_,?_⟩
 ·have hst:=run_storeCells_cells (P:=P) g (i*b.sz+off) oM 0 w
   (fun j hj=>by
     rw[Nat.add_zero,oI,Nat.add_assoc,Array.getElem?_eq_getElem (hin (off+j) (by omega))]; rfl)
   (fun j hj=>by rw[Nat.add_zero,Nat.add_assoc]; exact Yw _ (hin (off+j) (by omega)))
   E7
  rwa[Nat.add_zero]at hst
 ·obtain⟨cs',h1,h2,h3⟩:=gZ g b.ty fr oM (i*b.sz+off) w cs hg (by rw[hcl]; omega)
  have key:∀p q,p<b.es.length->q<b.sz->∃u,cs'[p*b.sz+q]? =some u/\u.oneCell'=true/\aM ρ (lens M') I w N (((b.es.set i (bH off ek (b.es.getD i []))).getD p []).getD q .bad) u:=by
   intro p q hp hq
   rw[h3,hcl]
   by_cases hpi:p=i
   ·subst hpi
    have e1:(b.es.set p (bH off ek (b.es.getD p []))).getD p []=bH off ek (b.es.getD p []):=by
     simp[List.getD_eq_getElem?_getD,hp]
    rw[e1,lO _ _ _ _ (by omega)]
    by_cases Lh:off<=q/\q<off+ek.length
    ·rw[if_pos (by omega),if_pos Lh]
     have e2:p*b.sz+q - (p*b.sz+off)=q - off:=by omega
     rw[e2]
     have Mg:q - off<oM.length:=by rw[hcl]; omega
     refine⟨oM[q - off],List.getElem?_eq_getElem Mg,E7 _ (List.getElem_mem _),?_⟩
     have:=Yv (q - off) (by omega)
     rwa[List.getD_eq_getElem?_getD (l:=oM),List.getElem?_eq_getElem Mg,Option.getD_some]at this
    ·rw[if_neg (by omega),if_neg Lh]
     exact hc p q hp hq
   ·have e1:(b.es.set i (bH off ek (b.es.getD i []))).getD p []=b.es.getD p []:=by
     simp[List.getD_eq_getElem?_getD,List.getElem?_set,Ne.symm hpi]
    rw[e1]
    rw[if_neg]
    ·exact hc p q hp hq
    ·rintro⟨ha,hb'⟩
     rcases Nat.lt_or_gt_of_ne hpi with hlt|hgt
     ·have:(p+1)*b.sz<=i*b.sz:=Nat.mul_le_mul_right _ hlt
      rw[Nat.add_mul,Nat.one_mul]at this
      omega
     ·have:(i+1)*b.sz<=p*b.sz:=Nat.mul_le_mul_right _ hgt
      rw[Nat.add_mul,Nat.one_mul]at this
      omega
  have jY:∀b0,M' n=some b0->b0=b:=fun b0 h0=>by rw[bN]at h0; exact (Option.some.inj h0).symm
  obtain⟨E,W⟩:=hW.put (w':=w.setCells g (i*b.sz+off) oM) n ⟨b.ty,b.sz,b.es.set i (bH off ek (b.es.getD i [])),none⟩ g cap cs' fr
   (os_setCells _ _ _ _) (hG _ _ _ _) (iH _ _ _ _) (by rw[size_setCells]; exact Nat.le_refl _) (fun k _ hk=>fk g _ _ _ _ hk) h1 (by omega)
   (.inr ⟨cap,hρ,b,bN⟩) (fun b0 h0=>by rw[jY b0 h0,Rg]; exact⟨rfl,by simp[bf.ln],fun _=>hρ⟩) (fun _=>⟨b,bN⟩)
   (fun e he=>by
     rcases List.mem_or_eq_of_mem_set he with he|rfl
     ·exact B.even e he
     ·show (bH _ _ _).length=b.sz
      unfold bH
      rw[List.length_append,List.length_append,List.length_take,List.length_drop,hel]; omega)
   (by simpa using hlc) lJ (by rw[h2]; exact hcs) (by simpa using key)
  exact⟨_,E,by rw[bE]; exact W⟩
theorem ya{sz:Nat}:∀{xs:List (List AV)},(∀e ∈ xs,e.length=sz)->xs.flatten.length=xs.length*sz
 |[],_=>by simp
 |e::r,h=>by
  rw[List.flatten_cons,List.length_append,ya (fun e he=>h e (List.mem_cons_of_mem _ he)),h e List.mem_cons_self,List.length_cons,Nat.add_mul,Nat.one_mul,Nat.add_comm]
theorem vl{sz:Nat}:∀{xs:List (List AV)}{k:Nat},(∀e ∈ xs,e.length=sz)->k<xs.length*sz->∃p q,p<xs.length/\q<sz/\k=p*sz+q/\xs.flatten.getD k .bad=(xs.getD p []).getD q .bad
 |[],k,_,hk=>by simp at hk
 |e::r,k,h,hk=>by
  have he:=h e List.mem_cons_self
  by_cases hlt:k<sz
  ·refine⟨0,k,by simp,hlt,by simp,?_⟩
   simp only[List.flatten_cons,List.getD_eq_getElem?_getD,List.getElem?_append_left (show k<e.length by omega),List.getElem?_cons_zero,Option.getD_some]
  ·rw[List.length_cons,Nat.add_mul,Nat.one_mul]at hk
   obtain⟨p,q,hp,hq,hkk,hg⟩:=vl (xs:=r) (k:=k - sz) (fun e he=>h e (List.mem_cons_of_mem _ he)) (by omega)
   refine⟨p+1,q,by simpa using hp,hq,by rw[Nat.add_mul,Nat.one_mul]; omega,?_⟩
   rw[List.getD_cons_succ,<-hg]
   simp only[List.flatten_cons,List.getD_eq_getElem?_getD,List.getElem?_append_right (show e.length<=k by omega),he]
theorem CR(hT:cO P T){x y:Operand}{t t' e n len i off cnt:Nat}{Ml:Mem}{b:bf}{K:List (List AV)->Prop}(hM:M=aa Ml)(ho:o.op= .call {callee:= .builtin .copy,args:= #[x,y],argTypes:= #[t,t']})
  (ht:T.d t= .slice e) (hok:(T.d e).ok=true) (bK:ev F x= .dp n len i off cnt) (hb:aa Ml n=some b) (hmp:b.mp=none) (hl:b.ln=len) (hi:i<b.es.length) (hfit:off+cnt*T.s e<=b.sz)
  (hk:(∃e,P.underlying t'=some (.slice e))\/ P.underlying t'=some .string) (hks:(∃s,ev F y= .str s)->P.underlying t'=some .string) (hkl:(¬ ∃s,ev F y= .str s)->∃e,P.underlying t'=some (.slice e)) (h:nV Ml (T.s e) (ev F y) K):
  ∃xs,K xs/\bD P X o F M (.int .i64 ((min xs.length cnt:Nat):Int)) [(n,⟨b.ty,b.sz,b.es.set i (bH off ((xs.take cnt).flatten) (b.es.getD i [])),none⟩)] []/\n ∈ (ev F x).names:=by
 have hx:x ∈ o.op.operands.toList:=by simp[ho,Op.operands,Call.operands]
 have hy:y ∈ o.op.operands.toList:=by simp[ho,Op.operands,Call.operands]
 obtain⟨D,it,z,hD,hf,_⟩:=hT t (by rw[ht]; simp)
 have fX:=bv ht hf
 subst fX
 obtain⟨De,ie,_,xY,Fx,hie,lu,_⟩:=hT e (TD.dC hok)
 obtain⟨xs,hkx,hsrc⟩:=kF (X:=X) (o:=o) hT hM hy hk hks hkl h
 obtain⟨sl,dK,fj⟩:=bh (F:=F) x hx (n:=n) (by rw[bK]; simp[AV.names])
 refine⟨xs,hkx,⟨fun p hp=> .inr ⟨sl,dK,by simp at hp; rw[hp]; exact fj⟩,fun M' N ρ I a w hW hU hN _=> ?_⟩,by rw[bK]; simp[AV.names]⟩
 have r1:=ap hU x hx
 rw[bK]at r1
 have bN:M' n=some b:=(hN sl dK n fj).trans (by rw[hM]; exact hb)
 have dt:lens M' n=some (len,b.sz):=by rw[aA]; exact⟨b,bN,hl,rfl⟩
 obtain⟨hn,g,cap,c,hρ,hv,_⟩:=jz r1 dt
 obtain⟨vs,hS,hL,YR⟩:=hsrc M' N ρ I a w hW hU hN
 have Lm:(xs.take cnt).length=min cnt xs.length:=List.length_take
 have pG:∀e' ∈ xs.take cnt,e'.length=T.s e:=fun e' he=>hL.2.1 e' (List.mem_of_mem_take he)
 have hfl:=ya pG
 have hle:min xs.length cnt*T.s e<=cnt*T.s e:=Nat.mul_le_mul_right _ (Nat.min_le_right _ _)
 have hle2:min xs.length cnt*T.s e<=xs.length*T.s e:=Nat.mul_le_mul_right _ (Nat.min_le_left _ _)
 rw[Lm,Nat.min_comm]at hfl
 have hvl:(vs.take (min xs.length cnt*T.s e)).length=((xs.take cnt).flatten).length:=by
  rw[hfl,List.length_take,hL.1]; omega
 have hone:∀u ∈ vs.take (min xs.length cnt*T.s e),u.oneCell'=true:=fun u hu=>hL.one u (List.mem_of_mem_take hu)
 obtain⟨hst,ρ1,E,W⟩:=CQ (P:=P) hW (off:=off) (ek:=(xs.take cnt).flatten) (oM:=vs.take (min xs.length cnt*T.s e)) bN hmp hρ hi hvl hone (fun k hk'=>by
  rw[hfl]at hk'
  obtain⟨p,q,hp,hq,hkk,hg⟩:=vl (xs:=xs.take cnt) (k:=k) pG (by rw[Lm,Nat.min_comm]; exact hk')
  rw[Lm]at hp
  obtain⟨u,hu,_,hr⟩:=hL.2.2 p q (by omega) hq
  rw[hg]
  have e1:(xs.take cnt).getD p []=xs.getD p []:=by
   simp only[List.getD_eq_getElem?_getD,List.getElem?_take]
   rw[if_pos (by omega)]
  have e2:(vs.take (min xs.length cnt*T.s e)).getD k default=u:=by
   rw[List.getD_eq_getElem?_getD,List.getElem?_take,if_pos hk',hkk,hu]; rfl
  rw[e1,e2]; exact hr) (by rw[hfl]; omega)
 unfold bJ
 have hrun:(execOp a.eval o).run P w= .ok (.value (.int .i64 ((min xs.length cnt:Nat):Int))) (w.setCells g (i*b.sz+off) (vs.take (min xs.length cnt*T.s e))):=by
  have hp:=YR (min xs.length cnt) (Nat.min_le_left _ _)
  rw[gj ho]
  have e0:(Array.map a.eval #[x,y])= #[a.eval x,a.eval y]:=by simp
  have em:Nat.min xs.length cnt=min xs.length cnt:=rfl
  simp only[e0,builtin,hv,Builtin.copy_,Sem.run_bind,run_underlying hD,Result.andThen_ok,hS.len,bu hie,lu,em,hp,Sem.run_pure,List.toList_toArray,hst,goInt]
  simp[hst,run_underlying hD,hS.len,bu hie,lu,hp,goInt,em]
 rw[hrun]
 exact⟨ρ1,I,E,W,.int _ _⟩
theorem FB(hT:cO P T){n t e len:Nat}{x y:Operand}{k k':IntKind}(ho:o.op= .makeSlice t x y)(ht:T.d t= .slice e)(hok:(T.d e).ok=true)(hs:bI (T.z e)=true)(hl:(cells (T.z e)).length=T.s e)(hz:T.s e≠0)
  (hx:ev F x= .int k len) (hy:ev F y= .int k' len) (hlen:len<=lC):bD P X o F M (.bi n len) [(n,⟨e,T.s e,List.replicate len (cells (T.z e)),none⟩)] [n]:=by
 have hx':x ∈ o.op.operands.toList:=by simp[ho,Op.operands]
 have hy':y ∈ o.op.operands.toList:=by simp[ho,Op.operands]
 obtain⟨D,it,z,hD,hf,hi,hsz,_⟩:=hT t (by rw[ht]; simp)
 have fX:=bv ht hf
 subst fX
 obtain⟨_,ie,ze,_,_,hie,lu,hby,Mi,iv⟩:=hT e (TD.dC hok)
 refine qB (cap:=len) (by simp) (fun M' N ρ I a w hW hU=> ?_)
 have hc:bo ρ (lens M') I w N (cells (T.z e)) ze.cells:=by rw[iv]; exact bo.fF (gb _ _ _ _ _ ze) (by rw[<-iv]; exact hs)
 have r1:=bw (hx ▸ ap hU x hx')
 have r2:=bw (hy ▸ ap hU y hy')
 have hmax:len<=maxLen:=by simp only[maxLen,lC]at *; omega
 have hrow:=iX.E8 (n:=len) hc hl hz
 refine⟨madeCells ze.cells (len*ie.size),?_,by rw[size_madeCells,lu],Nat.le_refl _,hmax,by rw[lu]; exact hrow⟩
 have hb:(ie.bytes:Int)* (len:Int)<=281474976710656:=by
  have h1:ie.bytes*len<=131072*1073741824:=Nat.mul_le_mul hby hlen
  have h2:((ie.bytes*len:Nat):Int)<=281474976710656:=by omega
  rwa[Int.natCast_mul]at h2
 have h3:=run_make (P:=P) w t e ie ze hD hie Mi k k' (len:Int) (len:Int) (by omega) (Int.le_refl _) hb (by simp only[lC]at hlen; omega)
 simp only[execOp,ho,r1,r2,Sem.run_bind,h3,Result.andThen_ok,Sem.run_pure,Int.toNat_natCast]
theorem FC(hT:cO P T){n s t e:Nat}{x:Operand}{l:List UInt8}(ho:o.op= .convert s t x)(hs:T.d s= .str)(ht:T.d t= .slice e)(he:T.d e= .int .u8)(hx:ev F x= .str l)(hlen:l.length<=lC):
  bD P X o F M (.bi n l.length) [(n,⟨e,1,l.map fun c=>[AV.int .u8 c.toNat],none⟩)] [n]:=by
 have hx':x ∈ o.op.operands.toList:=by simp[ho,Op.operands]
 obtain⟨D,_,_,Xd,hf,_⟩:=hT s (by rw[hs]; simp)
 have:=gg hs hf
 subst this
 obtain⟨D,_,_,YQ,hf,_⟩:=hT t (by rw[ht]; simp)
 have:=bv ht hf
 subst this
 obtain⟨D,_,_,xY,hf,_⟩:=hT e (by rw[he]; simp)
 have:=fits_int he hf
 subst this
 refine⟨fun p hp=> .inl (by simp at hp; simp[hp]),fun M' N ρ I ac w hW hU hN hF=> ?_⟩
 have hn:¬N n:=hF n (by simp)
 have r1:=gX (hx ▸ ap hU x hx')
 have hd:∀b0,M' n=some b0->False:=fun b0 h0=>hn (hW.aS n b0 h0).lt
 have hsz:(⟨l.toArray⟩:ByteArray).size=l.length:=by show l.toArray.size=_; simp
 have hge:=grownCap_ge w l.length 0 e
 have lJ:=grownCap_le_maxLen w l.length 0 e (by simp only[maxLen,lC]at *; omega)
 have hcs:(Lib.bytesCells w e ⟨l.toArray⟩).size=grownCap w l.length 0 e:=by
  simp only[Lib.bytesCells,Array.size_append,Array.size_map,Array.size_replicate,hsz,List.size_toArray]; omega
 have hrow:∀i j,i<l.length->j<1->∃u,(Lib.bytesCells w e ⟨l.toArray⟩)[i*1+j]? =some u/\u.oneCell'=true/\aM ρ (lens M') I w N (((l.map fun c=>[AV.int .u8 (c.toNat:Int)]).getD i []).getD j .bad) u:=by
  intro i j hi hj
  have YS:j=0:=by omega
  subst YS
  refine⟨.int .u8 (l[i].toNat:Int),?_,rfl,?_⟩
  ·rw[Nat.mul_one,Nat.add_zero,Lib.bytesCells,Array.getElem?_append_left (by simpa using hi)]
   simp[hi]
  ·have:((l.map fun c=>[AV.int .u8 (c.toNat:Int)]).getD i []).getD 0 .bad= .int .u8 (l[i].toNat:Int):=by simp[List.getD_eq_getElem?_getD,hi]
   rw[this]; exact .int _ _
 obtain⟨E,W⟩:=hW.put (w':=Lib.bytesWorld w e ⟨l.toArray⟩) n ⟨e,1,l.map fun c=>[AV.int .u8 (c.toNat:Int)],none⟩ w.heap.size (grownCap w l.length 0 e) (Lib.bytesCells w e ⟨l.toArray⟩) ((Lib.bytesCells w e ⟨l.toArray⟩).size,(Lib.bytesCells w e ⟨l.toArray⟩).size+1)
  rfl rfl rfl (by rw[Lib.bytesWorld_size]; omega) (fun k hk _=>Lib.bytesWorld_at_old w e _ k hk) (Lib.bytesWorld_at_new w e _) (.inr (Nat.le_refl _))
  (.inl (Nat.le_refl _)) (fun b0 h0=>(hd b0 h0).elim) (fun h=>(hn h).elim) (fun r hr=>by obtain⟨_,_,rfl⟩:=List.mem_map.1 hr; rfl) (by simpa using hge) lJ (by rw[hcs]; simp) (by simpa using hrow)
 unfold bJ
 have hrun:(execOp ac.eval o).run P w= .ok (.value (.slice (some ⟨w.heap.size,0,none⟩) l.length (grownCap w l.length 0 e))) (Lib.bytesWorld w e ⟨l.toArray⟩):=by
  have:=Lib.run_convert_string_bytes (P:=P) w s t e ⟨l.toArray⟩ Xd YQ xY
  simp only[execOp,ho,r1,Sem.run_bind,this,Result.andThen_ok,Sem.run_pure,hsz]
 rw[hrun]
 refine⟨_,I,E,by rw[bE]; exact W,?_⟩
 refine gI (sz:=1) (.inr ⟨_,List.mem_singleton.2 rfl⟩) ?_ (by simp[iF])
 show lens (cZ M' n _) n=_
 rw[bW,if_pos rfl]; simp[bf.ln]
end Go.AM
namespace Go.AM
open Go.RowKit
variable {P:Program} {T:TT} {X:bM} {o:Oper} {F:aT} {M:bg}
section
variable {w:World} {t tx ty e:TypeId} {i:TypeInfo} {z:Value} {k k':IntKind} {n:Nat}
theorem jM{zz:Array Value}{m:Nat}(h:m*zz.size=0):Builtin.zeroCells zz m= #[]:=by
 simp[Builtin.zeroCells,h]
theorem wrap_small(h:n<=lC):IntKind.i64.wrap (n:Int)=n:=by
 simp only[lC]at h
 simp only[IntKind.wrap,IntKind.bits,IntKind.signed]; simp; omega
theorem jN(ht:P.underlying t=some (.slice e))(hx:P.underlying tx=some (.int k))(hi:P.info? e=some i)(hz:i.zero=some z)(hzs:z.cells.size=i.size)(hn:n<=lC)(hby:i.bytes<=131072)
  (base:Option Addr) (sLen sCap:Nat) (hroom:sLen+n<=sCap) (w':World)
  (hst:∀a,base=some a->(storeCells (a.add (sLen*i.size)) (Builtin.zeroCells z.cells n).toList).run P w= .ok () w') (h0:base=none->w'=w):
  (Builtin.append_ #[t,tx] ty #[.slice base sLen sCap,.int k' n]).run P w= .ok (.slice base (sLen+n) sCap) w':=by
 have h48:¬ (281474976710656< (n:Int)* (i.bytes:Int)):=by
  have h1:n*i.bytes<=1073741824*131072:=Nat.mul_le_mul hn hby
  have h2:((n*i.bytes:Nat):Int)<=281474976710656:=by omega
  rw[Int.natCast_mul]at h2; omega
 have hneg:¬ ((n:Int)<0):=by omega
 have hap:(if n*i.size=0 then (pure #[]:Sem (Array Value))else do pure (Builtin.zeroCells (<-zeroValue e).cells n)).run P w= .ok (Builtin.zeroCells z.cells n) w:=by
  split
  ·rename_i h
   rw[jM (by rw[hzs]; exact h)]; simp
  ·simp[zeroValue,typeInfo,hi,hz]
 cases base with
 |none=>
  have:=h0 rfl
  subst this
  simp[Builtin.append_,run_underlying ht,run_underlying hx,sizeOf,typeInfo,zeroValue,hz,hi,wrap_small hn,hneg,h48,hroom,asInt,asIntOf]
 |some a=>
  have hst:=hst a rfl
  simp[Builtin.append_,run_underlying ht,run_underlying hx,sizeOf,typeInfo,zeroValue,hz,hi,wrap_small hn,hneg,h48,hroom,asInt,asIntOf]at hap hst ⊢
  by_cases h:n*i.size=0
  ·have h2:=hap h
   rw[h2]at hst
   simp[h,hst]
  ·simp[h,hst]
theorem jO(ht:P.underlying t=some (.slice e))(hx:P.underlying tx=some (.int k))(hi:P.info? e=some i)(hz:i.zero=some z)(hzs:z.cells.size=i.size)(hn:n<=lC)(hby:i.bytes<=131072)
  (base:Option Addr) (sLen sCap:Nat) (olds:List Value) (hold:(Builtin.firstCells i.size sLen (.slice base sLen sCap)).run P w.drew= .ok olds.toArray w.drew)
  (hg:sCap<sLen+n) (h63:((sLen+n:Nat):Int)<=9223372036854775807) (hfit:Builtin.nextslicecap (sLen+n) sCap*i.bytes<=281474976710656):
  (Builtin.append_ #[t,tx] ty #[.slice base sLen sCap,.int k' n]).run P w= .ok (.slice (some ⟨w.heap.size,0,none⟩) (sLen+n) (grownCap w (sLen+n) sCap e))
    (w.drew.alloc (.cells ((olds++(Builtin.zeroCells z.cells n).toList).toArray++Builtin.zeroCells z.cells (grownCap w (sLen+n) sCap e - (sLen+n))) e)):=by
 have h48:¬ (281474976710656< (n:Int)* (i.bytes:Int)):=by
  have h1:n*i.bytes<=1073741824*131072:=Nat.mul_le_mul hn hby
  have h2:((n*i.bytes:Nat):Int)<=281474976710656:=by omega
  rw[Int.natCast_mul]at h2; omega
 have hneg:¬ ((n:Int)<0):=by omega
 have hnr:¬ (sLen+n<=sCap):=by omega
 have h63':¬ (9223372036854775807< ((sLen:Int)+ (n:Int))):=by omega
 have YT:¬ (281474976710656<Builtin.nextslicecap (sLen+n) sCap*i.bytes):=by omega
 have hap:(if n*i.size=0 then (pure #[]:Sem (Array Value))else do pure (Builtin.zeroCells (<-zeroValue e).cells n)).run P w.drew= .ok (Builtin.zeroCells z.cells n) w.drew:=by
  split
  ·rename_i h
   rw[jM (by rw[hzs]; exact h)]; simp
  ·simp[zeroValue,typeInfo,hi,hz]
 simp[Builtin.append_,run_underlying ht,run_underlying hx,sizeOf,typeInfo,zeroValue,hi,hz,wrap_small hn,hneg,h48,hnr,h63',YT,asInt,asIntOf,Question.forced,hold,newRow,grownCap]at hap ⊢
 by_cases h:n*i.size=0
 ·have h2:=hap h
  simp[h,h2]
 ·simp[h]
  congr 2
  apply Array.ext'
  simp[List.append_assoc]
end
theorem vm{ρ:Place}{L:aZ}{I:Nat->Prop}{w:World}{N:Nat->Prop}{z:Value}{a:AV}{sz n:Nat}(h:bo ρ L I w N (cells a) z.cells)(hl:(cells a).length=sz)(hpos:sz≠0):
  dv ρ L I w N sz (List.replicate n (cells a)) (Builtin.zeroCells z.cells n).toList:=by
 have hz:z.cells.size=sz:=by rw[h.1,hl]
 have hr:=iX.E8 (n:=n) h hl hpos
 have e:Builtin.zeroCells z.cells n=(Array.range (n*sz)).map (z.cells[· % z.cells.size]!):=by simp only[Builtin.zeroCells,hz]
 rw[e]
 refine⟨by simp,hr.2.1,fun i j hi hj=> ?_⟩
 obtain⟨u,hu,h1⟩:=hr.2.2 i j hi hj
 exact⟨u,by rw[Array.getElem?_toList]; exact hu,h1⟩
def oN(T:TT)(t:Nat)(s x:AV)(S:St)(K:AV->Mem->Nat->Prop):Prop:=
 match T.d t,x with
 | .slice e,.int _ m=>
   (match s with
   | .bi n len=>alive S.M n len fun b=>ej (b.sz==T.s e&&b.ty==e) ((0<=m/\len+m.toNat<=lC)/\
       K (.bi n (len+m.toNat)) (gB S.M n ⟨b.ty,b.sz,b.es++List.replicate m.toNat (cells (T.z e)),none⟩) S.nx)
   | .ab=>(0<=m/\m.toNat<=lC)/\K (.bi S.nx m.toNat) (gB S.M S.nx ⟨e,T.s e,List.replicate m.toNat (cells (T.z e)),none⟩) (S.nx+1)
   |_=>False)
 |_,_=>False
theorem wP(hT:cO P T){s x:Operand}{t t' nx:Nat}{Ml:Mem}{K:AV->Mem->Nat->Prop}(hM:M=aa Ml)(ho:o.op= .call {callee:= .builtin .append,args:= #[s,x],argTypes:= #[t,t']})
  (hok:∀e,T.d t= .slice e->(T.d e).ok=true/\bI (T.z e)=true/\(cells (T.z e)).length=T.s e/\T.s e≠0) (hint:∃k,T.d t'= .int k)
  (h:oN T t (ev F s) (ev F x) ⟨F,Ml,nx⟩ K):
  ∃av n b nw aV,bD P X o F M av [(n,b)] nw/\K av (gB Ml n b) aV/\((nw=[nx]/\aV=nx+1/\n=nx)\/(aV=nx/\nw=[]/\n ∈ (ev F s).names)):=by
 have hs:s ∈ o.op.operands.toList:=by simp[ho,Op.operands,Call.operands]
 have hx:x ∈ o.op.operands.toList:=by simp[ho,Op.operands,Call.operands]
 unfold oN at h
 cases ht:T.d t with
 |slice e=>
  cases Xi:ev F x with
  |int kx m=>
   rw[ht,Xi]at h
   simp only at h
   obtain⟨D,it,z0,hD,hf,_⟩:=hT t (by rw[ht]; simp)
   have fX:=bv ht hf
   subst fX
   obtain⟨Mk,oJ,hcl,hpos⟩:=hok e ht
   obtain⟨_,ie,z,_,_,hie,lu,hby,hz,iv⟩:=hT e (TD.dC Mk)
   obtain⟨k',hk'⟩:=hint
   obtain⟨D',_,_,QF,hfx,_⟩:=hT t' (by rw[hk']; simp)
   have:=fits_int hk' hfx
   subst this
   have hzs:z.cells.size=T.s e:=by
    have:=(bo.fF (ρ:=fun _=>none) (L:=fun _=>none) (I:=fun _=>False) (w:=default) (N:=cI) (gb _ _ _ _ _ z) (by rw[<-iv]; exact oJ)).1
    rw[this,<-iv,hcl]
   have CS:z.cells.size=ie.size:=by rw[hzs,lu]
   have hfit:∀need old,old<need->need<=lC->Builtin.nextslicecap need old*ie.bytes<=281474976710656:=fun need old h1 h2=>by
    refine growslice_fits h1 ?_
    calc need*ie.bytes<=lC*131072:=Nat.mul_le_mul h2 hby
     _=140737488355328:=by simp[lC]
   have hcells:∀(ρ:Place)(L:aZ)(I:Nat->Prop)(w:World)(N:Nat->Prop),bo ρ L I w N (cells (T.z e)) z.cells:=fun ρ L I w N=>by rw[iv]; exact bo.fF (gb _ _ _ _ _ z) (by rw[<-iv]; exact oJ)
   cases hss:ev F s with
   |bi n len=>
    rw[hss]at h
    simp only[alive]at h
    cases hb:aa Ml n with
    |none=>rw[hb]at h; exact h.elim
    |some b=>
     rw[hb]at h
     obtain⟨hc1,hmp,h2⟩:=ay h
     obtain⟨jV,⟨hm0,iZ⟩,hk⟩:=ay h2
     have hl:b.es.length=len:=(bf.bX hmp).symm.trans (by simpa using hc1)
     simp only[Bool.and_eq_true,beq_iff_eq]at jV
     obtain⟨hsz,An⟩:=jV
     generalize hmn:m.toNat=q at*
     obtain rfl:m=(q:Int):=by omega
     obtain⟨sl,dK,fj⟩:=bh (F:=F) s hs (n:=n) (by rw[hss]; simp[AV.names])
     refine⟨_,n,_,[],nx,?_,hk,.inr ⟨rfl,rfl,by simp[AV.names]⟩⟩
     refine⟨fun p hp=> .inr ⟨sl,dK,by simp at hp; rw[hp]; exact fj⟩,fun M' N ρ I a w hW hU hN _=> ?_⟩
     have bN:M' n=some b:=(hN sl dK n fj).trans (by rw[hM]; exact hb)
     have dt:lens M' n=some (b.es.length,b.sz):=by rw[aA]; exact⟨b,bN,bf.bX hmp,rfl⟩
     have hL:=vm (n:=q) (hcells ρ (lens M') I w N) hcl hpos
     have QG:q<=lC:=by omega
     have r1:=ap hU s hs
     rw[hss]at r1
     have r2:=bw (Xi ▸ ap hU x hx)
     subst hl
     obtain⟨hn,h2⟩:=gY r1 dt
     unfold bJ
     rw[dM ho,r2]
     rw[<-hsz]at hL
     have hxl:(List.replicate q (cells (T.z e))).length=q:=by simp
     rcases h2 with⟨h0,r,hv⟩|⟨g,cap,hρ,hv⟩
     ·have hB:=hW.aS n b bN
      have he:b.es=[]:=hB.dX h0
      rw[hv]
      by_cases hx0:q=0
      ·subst hx0
       have hz0:(Builtin.zeroCells z.cells 0).toList=[]:=by rw[jM (by simp)]
       have hrun:=jN (P:=P) (w:=w) (t:=t) (tx:=t') (ty:=o.type) (k':=kx) hD QF hie hz CS QG hby r 0 0 (by simp) w (fun a ha=>by rw[hz0]; simp[storeCells]) (fun _=>rfl)
       rw[hrun]
       refine⟨ρ,I,?_,?_,?_⟩
       ·show mN N ρ (lens M') I w ρ (lens (cZ M' n _)) I w
        have:(⟨b.ty,b.sz,b.es++List.replicate 0 (cells (T.z e)),none⟩:bf)=b:=by have:=hmp; cases b; simp_all
        rw[this,mR bN]; exact mN.refl _ _ _ _ _
       ·show bZ X ρ I (cZ M' n _) _ w
        have:(⟨b.ty,b.sz,b.es++List.replicate 0 (cells (T.z e)),none⟩:bf)=b:=by have:=hmp; cases b; simp_all
        rw[this,mR bN]
        have IG:fR N [(n,b)]=N:=by
         rw[bE]; funext m; simp only[z',eq_iff_iff]
         exact⟨fun h=>h.elim (fun e=>e ▸ hn) id,.inr⟩
        rw[bE]at IG ⊢
        rw[IG]; exact hW
       ·refine .bi n _ _ (.inl hn) rfl fun l Ai oB=> ?_
        have:(⟨b.ty,b.sz,b.es++List.replicate 0 (cells (T.z e)),none⟩:bf)=b:=by have:=hmp; cases b; simp_all
        rw[this]at oB
        change lens (cZ M' n b) n=_ at oB
        rw[bW,if_pos rfl,bf.bX hmp]at oB
        simp at oB
        exact⟨by omega,fun _=> .inl ⟨h0,r,rfl⟩⟩
      ·have Mn:(Builtin.firstCells ie.size 0 (.slice r 0 0)).run P w.drew= .ok #[] w.drew:=by
        cases r with
        |none=>exact run_firstCells_none w.drew ie.size 0 0 0
        |some a=>exact run_firstCells_some w.drew ie.size 0 a 0 0 [] (by simp) (fun j v hv=>by simp at hv)
       have hrun:=jO (P:=P) (w:=w) (t:=t) (tx:=t') (ty:=o.type) (k':=kx) (n:=q) hD QF hie hz CS QG hby r 0 0 [] Mn (by omega) (by simp[lC]at QG ⊢; omega) (hfit _ _ (by omega) (by omega))
       rw[hrun]
       have gi:=ke (X:=X) (e:=e) (olds:=[]) (old:=0) (z:=z) hW (fun _=>⟨b,bN⟩) (fun b0 h0=>by rw[bN]at h0; cases h0; exact⟨rfl,he,hmp⟩) (by rw[hxl]; omega) ⟨by simp,by simp,fun i j hi=>by simp at hi⟩ hL (by rw[hzs,hsz]) (by rw[hxl]; simpa using QG)
       have e1:b.es.length+q=([]:List (List AV)).length+ (List.replicate q (cells (T.z e))).length:=by rw[he,hxl]
       have e2:(⟨b.ty,b.sz,b.es++List.replicate q (cells (T.z e)),none⟩:bf)=⟨e,b.sz,[]++List.replicate q (cells (T.z e)),none⟩:=by rw[he,An]
       have e3:0+q=([]:List (List AV)).length+ (List.replicate q (cells (T.z e))).length:=by rw[hxl]; rfl
       rw[e1,e2,e3]
       exact gi
     ·rw[hv]
      by_cases hroom:b.es.length+q<=cap
      ·obtain⟨g1,g2,g3⟩:=xL hW bN hmp hρ hL (by rw[hxl]; exact hroom)
       have hone:∀u ∈ (Builtin.zeroCells z.cells q).toList,u.oneCell'=true:=hL.one
       have hst:=run_storeCells_cells (P:=P) g (0+b.es.length*b.sz) _ 0 w (by simpa using g1) (by simpa using g2) hone
       have hrun:=jN (P:=P) (w:=w) (t:=t) (tx:=t') (ty:=o.type) (k':=kx) hD QF hie hz CS QG hby (some ⟨g,0,none⟩) b.es.length cap hroom (w.setCells g (0+b.es.length*b.sz) (Builtin.zeroCells z.cells q).toList)
        (fun a ha=>by
          cases ha
          rw[bR,lu,<-hsz]
          simpa using hst) (fun h=>by cases h)
       rw[hrun]
       rw[hxl]at g3
       exact g3
      ·have hB:=hW.aS n b bN
       obtain⟨olds,Li,Ro⟩:=hB.list hmp hρ
       have Rq:(Builtin.firstCells ie.size b.es.length (.slice (some ⟨g,0,none⟩) b.es.length cap)).run P w.drew= .ok olds.toArray w.drew:=
        run_firstCells_some (P:=P) w.drew ie.size b.es.length _ _ _ _ (by rw[lu,<-hsz]; exact Li.1) (fun k u hu=>by rw[bR,Nat.zero_add]; exact Ro k u hu)
       have hrun:=jO (P:=P) (w:=w) (t:=t) (tx:=t') (ty:=o.type) (k':=kx) (n:=q) hD QF hie hz CS QG hby _ b.es.length cap olds Rq (by omega) (by simp[lC]at iZ ⊢; omega) (hfit _ _ (by omega) iZ)
       rw[hrun]
       have gi:=ke (X:=X) (e:=e) (old:=cap) (z:=z) hW (fun _=>⟨b,bN⟩) (fun b0 h0=>by rw[bN]at h0; cases h0; exact⟨rfl,rfl,hmp⟩)
        (by
          have hcap:b.es.length<=cap:=by obtain⟨_,_,_,_,_,_,hh,_⟩:=hB.real g cap hρ; exact hh
          rw[hxl]; omega) Li hL (by rw[hzs,hsz]) (by rw[hxl]; exact iZ)
       rw[hxl]at gi
       rw[<-An]at gi ⊢
       exact gi
   |ab=>
    rw[hss]at h
    obtain⟨⟨hm0,iZ⟩,hk⟩:=h
    generalize hmn:m.toNat=q at*
    obtain rfl:m=(q:Int):=by omega
    refine⟨_,nx,_,[nx],nx+1,?_,hk,.inl ⟨rfl,rfl,rfl⟩⟩
    refine⟨fun p hp=> .inl (by simp at hp; simp[hp]),fun M' N ρ I a w hW hU hN hF=> ?_⟩
    have hn:¬N nx:=hF nx (by simp)
    have hL:=vm (n:=q) (hcells ρ (lens M') I w N) hcl hpos
    have r1:=ap hU s hs
    have r2:=bw (Xi ▸ ap hU x hx)
    rw[hss]at r1
    generalize hv:a.eval s=v at r1
    cases r1
    unfold bJ
    rw[dM ho,hv,r2]
    have hxl:(List.replicate q (cells (T.z e))).length=q:=by simp
    by_cases hx0:q=0
    ·subst hx0
     have hrun:=jN (P:=P) (w:=w) (t:=t) (tx:=t') (ty:=o.type) (k':=kx) hD QF hie hz CS iZ hby none 0 0 (by simp) w (fun a ha=>by cases ha) (fun _=>rfl)
     rw[hrun]
     obtain⟨E,W⟩:=hW.dX hn e (T.s e)
     refine⟨_,I,E,by rw[bE]; exact W,?_⟩
     refine .bi nx _ _ (.inr ⟨_,List.mem_singleton.2 rfl⟩) rfl fun l Ai oB=> ?_
     change lens (cZ M' nx _) nx=_ at oB
     rw[bW,if_pos rfl]at oB
     simp[bf.ln]at oB
     exact⟨by omega,fun _=> .inl ⟨by simp,none,rfl⟩⟩
    ·have hrun:=jO (P:=P) (w:=w) (t:=t) (tx:=t') (ty:=o.type) (k':=kx) (n:=q) hD QF hie hz CS iZ hby none 0 0 [] (run_firstCells_none w.drew ie.size 0 0 0) (by omega) (by simp[lC]at iZ ⊢; omega) (hfit _ _ (by omega) (by omega))
     rw[hrun]
     have gi:=ke (X:=X) (n:=nx) (e:=e) (olds:=[]) (oK:=[]) (old:=0) (z:=z) hW (fun h=>(hn h).elim) (fun b0 h0=>(hn (hW.aS nx b0 h0).lt).elim) (by rw[hxl]; omega) ⟨by simp,by simp,fun i j hi=>by simp at hi⟩ hL hzs (by rw[hxl]; simpa using iZ)
     have e1:q=([]:List (List AV)).length+ (List.replicate q (cells (T.z e))).length:=by rw[hxl]; simp
     have e2:(⟨e,T.s e,List.replicate q (cells (T.z e)),none⟩:bf)=⟨e,T.s e,[]++List.replicate q (cells (T.z e)),none⟩:=by simp
     have e3:0+q=([]:List (List AV)).length+ (List.replicate q (cells (T.z e))).length:=by rw[hxl]; rfl
     rw[e2,e3]
     show gD X M' N ρ I w (.bi nx q) _ _ _
     have:AV.bi nx q= .bi nx (([]:List (List AV)).length+ (List.replicate q (cells (T.z e))).length):=by rw[<-e1]
     rw[this]
     exact gi
   |_=>rw[hss]at h; exact h.elim
  |_=>rw[ht,Xi]at h; exact h.elim
 |_=>rw[ht]at h; exact h.elim
end Go.AM
namespace Go.AM
open Go.RowKit
variable {P:Program} {T:TT} {X:bM} {o:Oper} {F:aT} {M:bg}
inductive RC:LK->Value->Prop
 |i (k:IntKind) (x:Int):RC .i (.int k x)
 |b (x:Bool):RC .b (.bool x)
 |s (x:List UInt8):RC .s (.string ⟨x.toArray⟩)
inductive lU:List LK->List Value->Prop
 |nil:lU [] []
 |cons {l ls v vs} (h:RC l v) (t:lU ls vs):lU (l::ls) (v::vs)
theorem lU.split:∀{l1 l2:List LK}{vs:List Value},lU (l1++l2) vs->∃v1 v2,vs=v1++v2/\lU l1 v1/\lU l2 v2/\v1.length=l1.length
 |[],l2,vs,h=>⟨[],vs,rfl,.nil,h,rfl⟩
 |a::l1,l2,_,.cons (v:=v) h t=>by
  obtain⟨v1,v2,rfl,h1,h2,h3⟩:=t.split (l1:=l1)
  exact⟨v::v1,v2,rfl,.cons h h1,h2,by simp[h3]⟩
theorem sM{d:Nat}:∀(fl:List Field)(off:Nat)(ls:List LK)(p vs:List Value),wL P (mV P d) fl off=some ls->lU ls vs->p.length=off->
  ∀f ∈ fl,f.name≠ "_" /\∃l mid,mV P d f.type=some l/\lU l mid/\∀w,(part f.type (p++vs).toArray f.offset).run P w= .ok (valOf (aO P f.type) mid) w
 |[],_,_,_,_,_,_,_,f,hf=>by simp at hf
 |x::fl,off,ls,p,vs,hl,hv,hp,f,hf=>by
  simp only[wL]at hl
  split at hl
  ·rename_i hc
   simp only[Bool.and_eq_true,bne_iff_ne,ne_eq,beq_iff_eq]at hc
   split at hl
   ·rename_i l i uu EO
    split at hl
    ·rename_i hsz
     have hsz:i.size=l.length:=by simpa using hsz
     obtain⟨l2,hl2,rfl⟩:∃l2,wL P (mV P d) fl (off+l.length)=some l2/\l++l2=ls:=by simpa using hl
     obtain⟨v1,v2,rfl,h1,h2,h3⟩:=hv.split
     rcases List.mem_cons.1 hf with rfl|hf
     ·obtain⟨D,hD⟩:=BY uu
      refine⟨hc.1,l,v1,uu,h1,fun w=> ?_⟩
      have p1:=fT (w:=w) hD EO (pre:=p) (mid:=v1) (post:=v2) (by omega) (fun h=>by rw[h3]; exact jD uu h)
      rwa[hp,<-hc.2]at p1
     ·have:=sM fl (off+l.length) l2 (p++v1) v2 hl2 h2 (by simp; omega) f hf
      rwa[List.append_assoc]at this
    ·simp at hl
   ·simp at hl
  ·simp at hl
theorem vn{d e:Nat}{l:List LK}{i:TypeInfo}(hl:mV P d e=some l)(hi:P.info? e=some i)(hsz:i.size=l.length):∀(k j:Nat)(p vs:List Value),lU (lv k l) vs->p.length=j*l.length->
  ∀q ∈ List.range' j k,∃mid,lU l mid/\∀w,(part e (p++vs).toArray (q*i.size)).run P w= .ok (valOf (aO P e) mid) w
 |0,_,_,_,_,_,q,hq=>by simp at hq
 |k+1,j,p,vs,hv,hp,q,hq=>by
  have e1:lv (k+1) l=l++lv k l:=by simp[lv,List.replicate_succ]
  rw[e1]at hv
  obtain⟨v1,v2,rfl,h1,h2,h3⟩:=hv.split
  rw[List.range'_succ]at hq
  rcases List.mem_cons.1 hq with rfl|hq
  ·obtain⟨D,hD⟩:=BY hl
   refine⟨v1,h1,fun w=> ?_⟩
   have p1:=fT (w:=w) hD hi (pre:=p) (mid:=v1) (post:=v2) (by omega) (fun h=>by rw[h3]; exact jD hl h)
   rwa[hp,<-hsz]at p1
  ·have:=vn hl hi hsz k (j+1) (p++v1) v2 h2 (by rw[List.length_append,hp,h3,Nat.succ_mul]) q hq
   rwa[List.append_assoc]at this
theorem dE{em:Bool}:∀(d:Nat)(m t:Nat)(ls:List LK)(w:World)(vs:List Value),mV P d t=some ls->lU ls vs->
  (Instr.checkKey em (d+m) t (valOf (aO P t) vs)).run P w= .ok () w
 |0,_,_,_,_,_,h,_=>by simp[mV]at h
 |d+1,m,t,ls,w,vs,h,hv=>by
  have e:d+1+m=(d+m)+1:=by omega
  rw[e]
  have ih:=dE (em:=em) d m
  unfold mV at h
  cases hu:P.underlying t with
  |none=>rw[hu]at h; simp at h
  |some D=>
   rw[hu]at h
   cases D<;>simp only[reduceCtorEq]at h
   case bool=>
    obtain rfl:[LK.b]=ls:=by simpa using h
    have ha:aO P t=false:=by simp[aO,hu]
    rcases hv with _|⟨hl,ht⟩
    cases hl; cases ht
    simp[Instr.checkKey,run_underlying hu]
   case int k=>
    obtain rfl:[LK.i]=ls:=by simpa using h
    have ha:aO P t=false:=by simp[aO,hu]
    rcases hv with _|⟨hl,ht⟩
    cases hl; cases ht
    simp[Instr.checkKey,run_underlying hu]
   case string=>
    obtain rfl:[LK.s]=ls:=by simpa using h
    have ha:aO P t=false:=by simp[aO,hu]
    rcases hv with _|⟨hl,ht⟩
    cases hl; cases ht
    simp[Instr.checkKey,run_underlying hu]
   case struct fs=>
    have ha:aO P t=true:=by simp[aO,hu]
    cases hst:P.stoodInHeld t with
    |true=>simp[hst]at h
    |false=>
     simp only[hst,Bool.false_eq_true,if_false]at h
     have each:=sM (P:=P) fs.toList 0 ls [] vs h hv rfl
     simp only[List.nil_append]at each
     rw[ha]
     simp only[valOf,if_pos]
     rw[Instr.checkKey]
     simp only[Sem.run_bind,run_underlying hu,Result.andThen_ok]
     rw[<-Array.forIn_toList]
     generalize fs.toList=L at each
     induction L with
     |nil=>simp
     |cons f L YU=>
      obtain⟨hn,l,mid,h1,h2,h3⟩:=each f (by simp)
      simp only[List.forIn_cons,Sem.run_bind,hn,ne_eq,not_false_eq_true,if_true,h3,ih _ _ _ _ h1 h2,Result.andThen_ok,Sem.run_pure]
      exact YU (fun y hy=>each y (by simp[hy]))
   case array n e=>
    have ha:aO P t=true:=by simp[aO,hu]
    split at h
    ·rename_i l i uu EO
     split at h
     ·rename_i hsz
      have hsz:i.size=l.length:=by simpa using hsz
      obtain rfl:lv n l=ls:=by simpa using h
      have each:=vn uu EO hsz n 0 [] vs hv (by simp)
      simp only[List.nil_append]at each
      rw[ha]
      simp only[valOf,if_pos]
      rw[Instr.checkKey]
      simp only[Sem.run_bind,run_underlying hu,Result.andThen_ok]
      simp only[Std.Legacy.Range.forIn_eq_forIn_range',Std.Legacy.Range.size,Nat.sub_zero,Nat.add_one_sub_one,Nat.div_one]
      generalize List.range' 0 n=L at each
      induction L with
      |nil=>simp
      |cons j L YU=>
       obtain⟨mid,h2,h3⟩:=each j (by simp)
       simp only[List.forIn_cons,Sem.run_bind,bu EO,h3,ih _ _ _ _ uu h2,Result.andThen_ok,Sem.run_pure]
       exact YU (fun y hy=>each y (by simp[hy]))
     ·simp at h
    ·simp at h
def IQ(ag:Bool)(ls:List LK)(FD:List Value)(kc:List AV)(test:List AV->List AV->Bool)(e:MapEntry)(r:List AV):Prop:=
 ∃us rs,e.key=valOf ag us/\nk ls FD us rs/\rs.all id=test kc r
inductive FE{α β:Type}(R:α->β->Prop):List α->List β->Prop
 |nil:FE R [] []
 |cons {a b as bs} (h:R a b) (t:FE R as bs):FE R (a::as) (b::bs)
theorem FE.of{α β:Type}{R:α->β->Prop}:∀{as:List α}{bs:List β},as.length=bs.length->(∀(i:Nat)(a:α)(b:β),as[i]? =some a->bs[i]? =some b->R a b)->FE R as bs
 |[],[],_,_=> .nil
 |a::as,b::bs,hl,h=> .cons (h 0 a b rfl rfl) (FE.of (by simpa using hl) fun i x y hx hy=>h (i+1) x y (by simpa using hx) (by simpa using hy))
 |[],_::_,hl,_=>by simp at hl
 |_::_,[],hl,_=>by simp at hl
def dS:List LK->List AV->List AV->Bool
 |[],[],_=>true
 | .i::l,.int k _::r,.int k' _::s=>rL k k'&&dS l r s
 | .b::l,.bool _::r,.bool _::s=>dS l r s
 | .s::l,.str _::r,.str _::s=>dS l r s
 |_,_,_=>false
theorem kj:∀{ls:List LK}{kc r:List AV},dS ls kc r=true->∃rs,uF ls kc (r.take kc.length) rs/\rs.all id=qp kc r
 |[],[],r,_=>⟨[],by simpa using uF.nil,by simp[qp]⟩
 | .i::l,.int k x::a,.int k' y::s,h=>by
   simp only[dS,Bool.and_eq_true]at h
   obtain rfl:=iV h.1
   obtain⟨rs,h1,h2⟩:=kj h.2
   exact⟨_,.cons (.i k x y) h1,by simp[qp,h2]⟩
 | .b::l,.bool x::a,.bool y::s,h=>by
   simp only[dS]at h
   obtain⟨rs,h1,h2⟩:=kj h
   exact⟨_,.cons (.b x y) h1,by simp[qp,h2]⟩
 | .s::l,.str x::a,.str y::s,h=>by
   simp only[dS]at h
   obtain⟨rs,h1,h2⟩:=kj h
   exact⟨_,.cons (.s x y) h1,by simp[qp,h2]⟩
def jE(kc:List AV):List MapEntry->List (List AV)->Nat->Option (Nat × Value)
 |e::en,r::es,i=>if qp kc r then some (i,e.val)else jE kc en es (i+1)
 |_,_,_=>none
theorem jd{kc:List AV}:∀{en:List MapEntry}{es:List (List AV)}{i:Nat},en.length=es.length->
  (cD kc es=none/\jE kc en es i=none)\/∃j e r,cD kc es=some (j,r.drop kc.length)/\jE kc en es i=some (i+j,e.val)/\en[j]? =some e/\es[j]? =some r/\qp kc r=true
 |[],[],_,_=> .inl ⟨rfl,rfl⟩
 |e::en,r::es,i,hl=>by
  simp only[cD,jE]
  by_cases h:qp kc r=true
  ·rw[if_pos h,if_pos h]
   exact .inr ⟨0,e,r,rfl,rfl,rfl,rfl,h⟩
  ·rw[if_neg h,if_neg h]
   rcases jd (kc:=kc) (en:=en) (es:=es) (i:=i+1) (by simpa using hl)with⟨h1,h2⟩|⟨j,e2,r2,h1,h2,h3,h4,h5⟩
   ·exact .inl ⟨by rw[h1]; rfl,h2⟩
   ·exact .inr ⟨j+1,e2,r2,by rw[h1]; rfl,by rw[h2]; congr 2; omega,by simpa using h3,by simpa using h4,h5⟩
 |[],_::_,_,hl=>by simp at hl
 |_::_,[],_,hl=>by simp at hl
theorem Mw.same{D:TypeDesc}{l:LK}{v u:Value}{r:Bool}(hD:(D= .bool/\l= .b)\/(∃k,D= .int k/\l= .i)\/(D= .string/\l= .s))(h:Mw l v u r):Instr.sameNow D v u=some r:=by
 rcases hD with⟨rfl,rfl⟩|⟨k,rfl,rfl⟩|⟨rfl,rfl⟩
 ·cases h; simp[Instr.sameNow]
 ·cases h; simp[Instr.sameNow]
 ·cases h
  rename_i x y
  simp only[Instr.sameNow,Option.some.injEq]
  show (x.toArray==y.toArray)=(x==y)
  simp
theorem qI{D:TypeDesc}{l:LK}{kv:Value}{kc:List AV}(hD:(D= .bool/\l= .b)\/(∃k,D= .int k/\l= .i)\/(D= .string/\l= .s)):∀{en:List MapEntry}{es:List (List AV)}{i:Nat},FE (IQ false [l] [kv] kc qp) en es->
  Instr.findNow D kv en i=some (jE kc en es i)
 |_,_,_,.nil=>rfl
 |_,_,i,.cons (a:=e) (b:=r) h t=>by
  obtain⟨us,rs,hk,h4,ht⟩:=h
  cases h4 with
  |cons hl h0=>
   rename_i q rs
   cases h0
   simp only[valOf,Bool.false_eq_true,if_false,List.headD_cons]at hk
   have:=hl.same hD
   simp only[Instr.findNow,jE,hk,this]
   simp only[List.all_cons,List.all_nil,Bool.and_true,id]at ht
   rw[<-ht]
   cases q with
   |true=>rfl
   |false=>exact qI hD t
theorem fN{d t:Nat}{ls:List LK}(hd:d<=10000)(hl:mV P d t=some ls){FD:List Value}{kc:List AV}(w:World):∀{en:List MapEntry}{es:List (List AV)}{i:Nat},FE (IQ (aO P t) ls FD kc qp) en es->
  (Instr.findAsking t (valOf (aO P t) FD) en i).run P w= .ok (jE kc en es i) w
 |_,_,_,.nil=>by simp[Instr.findAsking,jE]
 |_,_,i,.cons (a:=e) (b:=r) h tl=>by
  obtain⟨us,rs,hk,h4,ht⟩:=h
  have he:=iz d (10000 - d) t ls w FD us rs hl h4
  rw[show d+ (10000 - d)=10000 by omega]at he
  have Xj:(Op.equal t (valOf (aO P t) FD) e.key).run P w= .ok (rs.all id) w:=by rw[hk]; exact he
  simp only[Instr.findAsking,Sem.run_bind,Xj,Result.andThen_ok,jE,ht]
  cases qp kc r with
  |true=>simp
  |false=>simpa using fN hd hl w tl
theorem fK{d t:Nat}{ls:List LK}(hd:d<=10000)(hl:mV P d t=some ls){FD:List Value}{kc:List AV}(w:World)(hkl:lU ls FD){en:List MapEntry}{es:List (List AV)}(h:FE (IQ (aO P t) ls FD kc qp) en es):
  (Instr.findKey t (valOf (aO P t) FD) en).run P w= .ok (jE kc en es 0) w:=by
 cases d with
 |zero=>simp[mV]at hl
 |succ d=>
  have oB:=hl
  unfold mV at hl
  cases hu:P.underlying t with
  |none=>rw[hu]at hl; simp at hl
  |some D=>
   rw[hu]at hl
   have plain:∀l,ls=[l]->aO P t=false->((D= .bool/\l= .b)\/(∃k,D= .int k/\l= .i)\/(D= .string/\l= .s))->(Instr.findKey t (valOf (aO P t) FD) en).run P w= .ok (jE kc en es 0) w:=by
    intro l hls ha hD
    subst hls
    rcases hkl with _|⟨h1,h0⟩
    cases h0
    rw[ha]at h ⊢
    simp only[valOf,Bool.false_eq_true,if_false,List.headD_cons]
    exact MapKept.run_findKey hu (qI hD h)
   cases D<;>simp only[reduceCtorEq]at hl
   case bool=>exact plain .b (by simpa using hl.symm) (by simp[aO,hu]) (.inl ⟨rfl,rfl⟩)
   case int k=>exact plain .i (by simpa using hl.symm) (by simp[aO,hu]) (.inr (.inl ⟨k,rfl,rfl⟩))
   case string=>exact plain .s (by simpa using hl.symm) (by simp[aO,hu]) (.inr (.inr ⟨rfl,rfl⟩))
   case struct fs=>
    rw[run_findKey_eq w (by rw[hu])]
    exact fN hd oB w h
   case array n e=>
    rw[run_findKey_eq w (by rw[hu])]
    exact fN hd oB w h
theorem nk.eq:∀{ls:List LK}{vs us:List Value}{rs:List Bool},nk ls vs us rs->rs.all id=true->us=vs
 |_,_,_,_,.nil,_=>rfl
 |_,_,_,_,.cons h t,hr=>by
  simp only[List.all_cons,Bool.and_eq_true,id]at hr
  rw[t.eq hr.2]
  congr 1
  cases h<;>simp_all
theorem nk.RD:∀{ls:List LK}{vs us:List Value}{rs:List Bool},nk ls vs us rs->lU ls vs
 |_,_,_,_,.nil=> .nil
 |_,_,_,_,.cons h t=> .cons (by cases h<;>constructor) t.RD
theorem nM{n:Nat}{l:LK}{v:Value}(h:RC l v):Instr.sameBits n v v=true:=by
 cases h<;>cases n<;>simp[Instr.sameBits,MapKept.bytes_beq]
theorem oO{n:Nat}:∀{ls:List LK}{vs:List Value},lU ls vs->(vs.zip vs).all (fun q=>Instr.sameBits n q.1 q.2)=true
 |_,_,.nil=>rfl
 |_,_,.cons h t=>by simp[nM h,oO t]
theorem oP{ag:Bool}{ls:List LK}{vs:List Value}(h:lU ls vs)(hone:ag=false->ls.length=1)(w:World):(Instr.keyThatStays (valOf ag vs) (valOf ag vs)).run P w= .ok (valOf ag vs) w:=by
 have:Instr.sameBits 10000 (valOf ag vs) (valOf ag vs)=true:=by
  cases ag with
  |true=>
   simp only[valOf,if_true]
   have:=oO (n:=9999) h
   simp[Instr.sameBits,this]
  |false=>
   obtain⟨l,rfl⟩:=List.length_eq_one_iff.1 (hone rfl)
   rcases h with _|⟨h1,h0⟩
   cases h0
   exact nM h1
 simp[Instr.keyThatStays,this]
end Go.AM
namespace Go.AM
open Go.RowKit Go.MapKept
variable {P:Program} {T:TT} {X:bM} {o:Oper} {F:aT} {M:bg}
def AV.js:AV->Bool
 | .agg _=>true
 |_=>false
def oQ(ag:Bool)(l:List AV):AV:=if ag then .agg l else l.headD .bad
section
variable {ρ ρ':Place} {L L':aZ} {I I':Nat->Prop} {w w':World} {N N':Nat->Prop}
theorem dL{v:Value}(h:v.oneCell'=true):gA v=false/\aN v=[v]:=by cases v<;>first|exact⟨rfl,rfl⟩|simp[Value.oneCell']at h
theorem fO(v:Value):valOf (gA v) (aN v)=v:=by cases v<;>simp[valOf,gA,aN]
theorem dx{a:AV}{v:Value}(h:aM ρ L I w N a v)(hs:bI a=true):gA v=a.js/\(aN v).length=(cells a).length/\(∀u ∈ aN v,u.oneCell'=true)/\∀j,j< (cells a).length->aM ρ L I w N ((cells a).getD j .bad) ((aN v).getD j default):=by
 have key:gA v=a.js/\aN v=v.cells.toList:=by
  cases h with
  |bad=>simp[bI]at hs
  |aG=>simp[bI]at hs
  |agg cs vs hl h1 hr=>exact⟨rfl,rfl⟩
  |loc n len i off _ hn h1 h=>rw[(dL h1).1,(dL h1).2,fE h1]; exact⟨rfl,rfl⟩
  |bi n len _ hn h1 h=>rw[(dL h1).1,(dL h1).2,fE h1]; exact⟨rfl,rfl⟩
  |dp n len i off cnt _ hn h1 h=>rw[(dL h1).1,(dL h1).2,fE h1]; exact⟨rfl,rfl⟩
  |omap n _ hn h1 h=>rw[(dL h1).1,(dL h1).2,fE h1]; exact⟨rfl,rfl⟩
  |_=>exact⟨rfl,rfl⟩
 obtain⟨h1,h2,h3⟩:=pR h hs
 rw[key.2]
 exact⟨key.1,h1,h2,h3⟩
structure pW(ρ:Place)(L:aZ)(I:Nat->Prop)(w:World)(N:Nat->Prop)(k:Nat)(ka va:Bool)(sz:Nat)(key val:Value)(r:List AV):Prop where
 rl:r.length=sz
 kl:(aN key).length=k
 fl:k+ (aN val).length=sz
 ka:gA key=ka
 va:gA val=va
 cell:∀j,j<sz->((aN key++aN val).getD j default).oneCell'=true/\aM ρ L I w N (r.getD j .bad) ((aN key++aN val).getD j default)
structure nq(ρ:Place)(L:aZ)(I:Nat->Prop)(w:World)(N:Nat->Prop)(k:Nat)(ka va:Bool)(sz:Nat)(es:List (List AV))(en:Array MapEntry):Prop where
 len:en.size=es.length
 row:∀(i:Nat)(e:MapEntry)(r:List AV),en[i]? =some e->es[i]? =some r->pW ρ L I w N k ka va sz e.key e.val r
structure lV(dn:Dn)(en:Array MapEntry)(ck:Nat):Prop where
 born:∀(i j:Nat)(e f:MapEntry),en[i]? =some e->en[j]? =some f->i<j->e.born<f.born
 clock:∀(i:Nat)(e:MapEntry),en[i]? =some e->e.born<ck
 den:dn.all=true->ck=en.size/\∀(i:Nat)(e:MapEntry),en[i]? =some e->e.born=i
variable {k sz:Nat} {ka va:Bool} {dn:Dn} {es:List (List AV)} {en:Array MapEntry} {ck:Nat}
def je(sz:Nat)(en:Array MapEntry):Array Value:=Array.ofFn fun p:Fin (maxLen*sz)=>((en[p.val / sz]?).map fun e=>(aN e.key++aN e.val).getD (p.val % sz) undef).getD undef
theorem vo(hsz:sz≠0){i j:Nat}{e:MapEntry}(he:en[i]? =some e)(hi:i<maxLen)(hj:j<sz):(je sz en)[i*sz+j]? =some ((aN e.key++aN e.val).getD j undef):=by
 have hlt:i*sz+j<maxLen*sz:=by
  have:(i+1)*sz<=maxLen*sz:=Nat.mul_le_mul_right _ hi
  rw[Nat.add_mul,Nat.one_mul]at this; omega
 have h1:(i*sz+j) / sz=i:=by rw[Nat.add_comm,Nat.add_mul_div_right _ _ (Nat.pos_of_ne_zero hsz),Nat.div_eq_of_lt hj,Nat.zero_add]
 have h2:(i*sz+j) % sz=j:=by rw[Nat.add_comm,Nat.add_mul_mod_self_right,Nat.mod_eq_of_lt hj]
 unfold je
 rw[Array.getElem?_eq_getElem (by simpa using hlt),Array.getElem_ofFn]
 simp only[h1,h2,he,Option.map_some,Option.getD_some]
theorem pX(hsz:sz≠0)(hR:nq ρ L I w N k ka va sz es en)(hC:lV dn en ck)(hle:es.length<=maxLen):xE k ka va dn sz en ck (je sz en):=by
 have row:∀(i:Nat)(e:MapEntry),en[i]? =some e->i<maxLen/\∃r,pW ρ L I w N k ka va sz e.key e.val r:=fun i e he=>by
  have hlt:=(Array.getElem?_eq_some_iff.1 he).1
  have wO:i<es.length:=by rw[<-hR.len]; exact hlt
  exact⟨by omega,es[i],hR.row i e _ he (List.getElem?_eq_getElem wO)⟩
 refine⟨fun i e he=> ?_,fun i e j u he hu=> ?_,hC.born,hC.clock,hC.den,by simp[je],hsz⟩
 ·obtain⟨_,r,h⟩:=row i e he
  exact⟨h.kl,by rw[List.length_append,h.kl]; exact h.fl,h.ka,h.va⟩
 ·obtain⟨hi,r,h⟩:=row i e he
  have hj:j<sz:=by
   have:=(List.getElem?_eq_some_iff.1 hu).1
   rw[List.length_append,h.kl,h.fl]at this; exact this
  rw[vo hsz he hi hj,List.getD_eq_getElem?_getD,hu]; rfl
theorem oe(hsz:sz≠0)(hR:nq ρ L I w N k ka va sz es en)(hle:es.length<=maxLen):∀i j,i<es.length->j<sz->∃u,(je sz en)[i*sz+j]? =some u/\u.oneCell'=true/\aM ρ L I w N ((es.getD i []).getD j .bad) u:=by
 intro i j hi hj
 have hi':i<en.size:=by rw[hR.len]; exact hi
 have h:=hR.row i en[i] es[i] (Array.getElem?_eq_getElem hi') (List.getElem?_eq_getElem hi)
 obtain⟨h1,h2⟩:=h.cell j hj
 have hlt:j< (aN en[i].key++aN en[i].val).length:=by rw[List.length_append,h.kl,h.fl]; exact hj
 refine⟨_,vo hsz (Array.getElem?_eq_getElem hi') (by omega) hj,?_,?_⟩
 ·rw[List.getD_eq_getElem?_getD,List.getElem?_eq_getElem hlt]at h1 ⊢; exact h1
 ·rw[List.getD_eq_getElem?_getD (l:=es),List.getElem?_eq_getElem hi,Option.getD_some]
  rw[List.getD_eq_getElem?_getD (l:=aN en[i].key++aN en[i].val),List.getElem?_eq_getElem hlt]at h2 ⊢; exact h2
theorem gp{n g cap:Nat}{b:bf}(hW:bZ X ρ I M N w)(bN:M n=some b)(hmp:b.mp=some (k,ka,va,dn))(hρ:ρ n=some (g,cap)):
  ∃en ck,w.heap[g]? =some (.map en ck)/\nq ρ (lens M) I w N k ka va b.sz b.es en/\lV dn en ck/\b.sz≠0/\cap=maxLen/\b.es.length<=maxLen:=by
 have B:=hW.aS n b bN
 obtain⟨cs,fr,hg,nH,nU,hown,hlc,lJ,hcs,hc⟩:=B.real g cap hρ
 rw[hmp]at hg
 obtain⟨en,ck,h1,h2,h3⟩:=hg
 have hcap:cap=maxLen:=by
  have:=h3.room.1
  rw[hcs]at this
  exact Nat.eq_of_mul_eq_mul_right (Nat.pos_of_ne_zero h3.room.2) this
 refine⟨en,ck,h1,⟨h2,fun i e r he hr=> ?_⟩,⟨h3.born,h3.clock,h3.den⟩,h3.room.2,hcap,by omega⟩
 obtain⟨k1,k2,k3,k4⟩:=h3.key i e he
 have hi:i<b.es.length:=(List.getElem?_eq_some_iff.1 hr).1
 refine⟨B.even r (List.mem_of_getElem? hr),k1,by rw[List.length_append,k1]at k2; exact k2,k3,k4,fun j hj=> ?_⟩
 obtain⟨u,pF,FF,hu3⟩:=hc i j hi hj
 have hlt:j< (aN e.key++aN e.val).length:=by rw[k2]; exact hj
 have hu4:=h3.cell i e j _ he (List.getElem?_eq_getElem hlt)
 rw[pF]at hu4
 have e1:(aN e.key++aN e.val).getD j default=u:=by
  rw[List.getD_eq_getElem?_getD,List.getElem?_eq_getElem hlt]; exact (Option.some.inj hu4).symm
 have e2:b.es.getD i []=r:=by rw[List.getD_eq_getElem?_getD,hr]; rfl
 rw[e1,<-e2]
 exact⟨FF,hu3⟩
theorem kN{n g cap:Nat}{b:bf}{v:Value}{av:AV}(hW:bZ X ρ I M N w)(bN:M n=some b)(hmp:b.mp=some (k,ka,va,dn))(hρ:ρ n=some (g,cap)){CT:Array MapEntry}{IR:Nat}{es':List (List AV)}{IS:Dn}
  (hR:nq ρ (lens M) I w N k ka va b.sz es' CT) (hC:lV IS CT IR) (hle:es'.length<=maxLen) (hr:aM ρ (lens M) I w N av v) (hit:∀r sn la,IS= .it r sn la->X.w0.heap.size<=r/\¬I r/\EJ {w with heap:=w.heap.setIfInBounds g (.map CT IR)} g r sn la):
  gD X M N ρ I w av [(n,⟨b.ty,b.sz,es',some (k,ka,va,IS)⟩)] v {w with heap:=w.heap.setIfInBounds g (.map CT IR)}:=by
 have B:=hW.aS n b bN
 obtain⟨en,ck,hg,_,_,hsz,rfl,_⟩:=gp hW bN hmp hρ
 have jY:∀b0,M n=some b0->b0=b:=fun b0 h0=>by rw[bN]at h0; exact (Option.some.inj h0).symm
 obtain⟨h1,h2⟩:=heap_set (o':= .map CT IR) hg
 obtain⟨E,W⟩:=hW.put (w':= {w with heap:=w.heap.setIfInBounds g (.map CT IR)}) n ⟨b.ty,b.sz,es',some (k,ka,va,IS)⟩ g maxLen (je b.sz CT) (0,0) rfl rfl rfl (by simp) (fun q _ hq=>h2 q hq)
  ⟨CT,IR,h1,hR.len,pX hsz hR hC hle⟩ (.inl rfl) (.inr ⟨maxLen,hρ,b,bN⟩) (fun b0 h0=>by rw[jY b0 h0]; refine⟨rfl,by simp[bf.ln,hmp],fun _=>hρ⟩) (fun _=>⟨b,bN⟩)
  (fun e he=>by
    obtain⟨i,hi,rfl⟩:=List.getElem_of_mem he
    have hi':i<CT.size:=by rw[hR.len]; exact hi
    exact (hR.row i CT[i] es'[i] (Array.getElem?_eq_getElem hi') (List.getElem?_eq_getElem hi)).rl)
  hle (Nat.le_refl _) (by simp[je]) (oe hsz hR hle) (fun k' Iq Ir r sn la hb=>by cases hb; exact hit r sn la rfl)
 refine⟨_,_,E,by rw[bE]; exact W,?_⟩
 rw[bE]
 exact (hr.rK E (fun _ h=>h)).wide (fun _ h=> .inr h)
theorem lV.push{key val:Value}(h:lV dn en ck):lV dn.up (en.push ⟨key,val,ck⟩) (ck+1):=by
 have IT:∀(i:Nat)(e:MapEntry),(en.push ⟨key,val,ck⟩)[i]? =some e->(i<en.size/\en[i]? =some e)\/(i=en.size/\e.born=ck):=fun i e he=>by
  rw[Array.getElem?_push]at he
  split at he
  ·rename_i hi; exact .inr ⟨hi,by simp at he; rw[<-he]⟩
  ·exact .inl ⟨(Array.getElem?_eq_some_iff.1 he).1,he⟩
 refine⟨fun i j e f he hf hij=> ?_,fun i e he=> ?_,fun hd=> ?_⟩
 ·rcases IT i e he with⟨h1,h2⟩|⟨h1,h2⟩<;>rcases IT j f hf with⟨h3,h4⟩|⟨h3,h4⟩
  ·exact h.born i j e f h2 h4 hij
  ·have:=h.clock i e h2; omega
  ·omega
  ·omega
 ·rcases IT i e he with⟨h1,h2⟩|⟨h1,h2⟩
  ·have:=h.clock i e h2; omega
  ·omega
 ·obtain⟨h1,h2⟩:=h.den (by rw[<-Dn.EY]; exact hd)
  refine⟨by simp[h1],fun i e he=> ?_⟩
  rcases IT i e he with⟨_,h4⟩|⟨h3,h4⟩
  ·exact h2 i e h4
  ·omega
theorem lV.modify{f:MapEntry->MapEntry}(hf:∀e,(f e).born=e.born)(i:Nat)(h:lV dn en ck):lV dn (en.modify i f) ck:=by
 have IT:∀(j:Nat)(e:MapEntry),(en.modify i f)[j]? =some e->∃e0,en[j]? =some e0/\e.born=e0.born:=fun j e he=>by
  rw[Array.getElem?_modify]at he
  split at he
  ·obtain⟨e0,h1,rfl⟩:=Option.map_eq_some_iff.1 he
   exact⟨e0,h1,hf e0⟩
  ·exact⟨e,he,rfl⟩
 refine⟨fun a b e g he hg hab=> ?_,fun a e he=> ?_,fun hd=> ?_⟩
 ·obtain⟨e0,h1,h2⟩:=IT a e he
  obtain⟨g0,h3,h4⟩:=IT b g hg
  have:=h.born a b e0 g0 h1 h3 hab; omega
 ·obtain⟨e0,h1,h2⟩:=IT a e he
  have:=h.clock a e0 h1; omega
 ·obtain⟨h1,h2⟩:=h.den hd
  refine⟨by simp[h1],fun a e he=> ?_⟩
  obtain⟨e0,h3,h4⟩:=IT a e he
  have:=h2 a e0 h3; omega
theorem lV.up(h:lV dn en ck):lV dn.up en ck:=
 ⟨h.born,h.clock,fun hd=>h.den (by rw[<-Dn.EY]; exact hd)⟩
theorem nq.push{key val:Value}{r:List AV}(h:nq ρ L I w N k ka va sz es en)(he:pW ρ L I w N k ka va sz key val r)(c:Nat):nq ρ L I w N k ka va sz (es++ [r]) (en.push ⟨key,val,c⟩):=by
 refine⟨by simp[h.len],fun i e q h1 h2=> ?_⟩
 rw[Array.getElem?_push]at h1
 split at h1
 ·rename_i hi
  have hl:=h.len
  have:q=r:=by rw[List.getElem?_append_right (by omega)]at h2; simp[hi,h.len]at h2; exact h2.symm
  simp at h1
  rw[this,<-h1]; exact he
 ·rename_i hi
  have hlt:=(Array.getElem?_eq_some_iff.1 h1).1
  rw[List.getElem?_append_left (by rw[<-h.len]; exact hlt)]at h2
  exact h.row i e q h1 h2
theorem nq.set{f:MapEntry->MapEntry}{i:Nat}{r:List AV}(h:nq ρ L I w N k ka va sz es en)(he:∀e,en[i]? =some e->pW ρ L I w N k ka va sz (f e).key (f e).val r):nq ρ L I w N k ka va sz (es.set i r) (en.modify i f):=by
 refine⟨by simp[h.len],fun j e q h1 h2=> ?_⟩
 rw[Array.getElem?_modify]at h1
 split at h1
 ·rename_i hij
  subst hij
  obtain⟨e0,h3,rfl⟩:=Option.map_eq_some_iff.1 h1
  have hlt:=(Array.getElem?_eq_some_iff.1 h3).1
  rw[List.getElem?_set_self (by rw[<-h.len]; exact hlt)]at h2
  cases h2
  exact he e0 h3
 ·rename_i hij
  rw[List.getElem?_set_ne hij]at h2
  exact h.row j e q h1 h2
theorem pW.mk'{a b:AV}{key val:Value}(h1:aM ρ L I w N a key)(s1:bI a=true)(h2:aM ρ L I w N b val)(s2:bI b=true)(hk:(cells a).length=k)(hf:k+ (cells b).length=sz)(hka:a.js=ka)(Is:b.js=va):
  pW ρ L I w N k ka va sz key val (cells a++cells b):=by
 obtain⟨p1,p2,p3,p4⟩:=dx h1 s1
 obtain⟨q1,q2,q3,q4⟩:=dx h2 s2
 refine⟨by rw[List.length_append]; omega,by omega,by omega,p1.trans hka,q1.trans Is,fun j hj=> ?_⟩
 by_cases hjk:j<k
 ·have e1:(aN key++aN val).getD j default=(aN key).getD j default:=by rw[List.getD_eq_getElem?_getD,List.getElem?_append_left (by omega),List.getD_eq_getElem?_getD]
  have e2:(cells a++cells b).getD j .bad=(cells a).getD j .bad:=by rw[List.getD_eq_getElem?_getD,List.getElem?_append_left (by omega),List.getD_eq_getElem?_getD]
  rw[e1,e2]
  refine⟨?_,p4 j (by omega)⟩
  rw[List.getD_eq_getElem?_getD,List.getElem?_eq_getElem (by omega)]
  exact p3 _ (List.getElem_mem _)
 ·have e1:(aN key++aN val).getD j default=(aN val).getD (j - k) default:=by rw[List.getD_eq_getElem?_getD,List.getElem?_append_right (by omega),List.getD_eq_getElem?_getD,p2,hk]
  have e2:(cells a++cells b).getD j .bad=(cells b).getD (j - k) .bad:=by rw[List.getD_eq_getElem?_getD,List.getElem?_append_right (by omega),List.getD_eq_getElem?_getD,hk]
  rw[e1,e2]
  refine⟨?_,q4 (j - k) (by omega)⟩
  rw[List.getD_eq_getElem?_getD,List.getElem?_eq_getElem (by omega)]
  exact q3 _ (List.getElem_mem _)
theorem pW.val{key val:Value}{r:List AV}(h:pW ρ L I w N k ka va sz key val r)(hv:va=false->k<sz):aM ρ L I w N (oQ va (r.drop k)) val:=by
 have hc:∀j,j< (aN val).length->((aN val).getD j default).oneCell'=true/\aM ρ L I w N ((r.drop k).getD j .bad) ((aN val).getD j default):=fun j hj=>by
  have:=h.cell (k+j) (by have:=h.fl; omega)
  have e1:(aN key++aN val).getD (k+j) default=(aN val).getD j default:=by
   rw[List.getD_eq_getElem?_getD,List.getElem?_append_right (by rw[h.kl]; omega),List.getD_eq_getElem?_getD,h.kl]
   congr 2; omega
  have e2:(r.drop k).getD j .bad=r.getD (k+j) .bad:=by simp[List.getD_eq_getElem?_getD,List.getElem?_drop]
  rw[e1]at this
  rw[e2]; exact this
 have Is:=h.va
 have hfl:=h.fl
 have hrl:=h.rl
 cases va with
 |true=>
  cases val<;>simp only[gA,Bool.false_eq_true]at Is
  rename_i cs
  simp only[aN]at hc hfl
  have:=aM.agg (ρ:=ρ) (L:=L) (I:=I) (w:=w) (N:=N) (r.drop k) cs.toList (by rw[List.length_drop,hrl]; omega) (fun u hu=>by
   obtain⟨j,hj,rfl⟩:=List.getElem_of_mem hu
   have:=(hc j hj).1
   rwa[List.getD_eq_getElem?_getD,List.getElem?_eq_getElem hj,Option.getD_some]at this) (fun j hj=>(hc j (by rw[List.length_drop,hrl]at hj; omega)).2)
  simpa[oQ]using this
 |false=>
  have hf:aN val=[val]:=by cases val<;>first|rfl|simp[gA]at Is
  have:=(hc 0 (by rw[hf]; simp)).2
  rw[hf]at this
  have e:(r.drop k).headD .bad=(r.drop k).getD 0 .bad:=by cases r.drop k<;>rfl
  simp only[oQ,Bool.false_eq_true,if_false,e]
  simpa using this
theorem rS{t d:Nat}{ls:List LK}{a:AV}{kv:Value}(hl:mV P d t=some ls)(jr:aO P t=ka)(h:aM ρ L I w N a kv)(hs:bI a=true)(hk:(cells a).length=k)(hR:nq ρ L I w N k ka va sz es en)(hok:∀r ∈ es,dS ls (cells a) r=true):
  FE (IQ (aO P t) ls (aN kv) (cells a) qp) en.toList es:=by
 obtain⟨p1,p2,p3,p4⟩:=dx h hs
 refine FE.of (by simpa using hR.len) fun i e r he hr=> ?_
 have hE:=hR.row i e r (by simpa using he) hr
 obtain⟨rs,h1,h2⟩:=kj (hok r (List.mem_of_getElem? hr))
 refine⟨aN e.key,rs,by rw[jr,<-hE.ka]; exact (fO _).symm,?_,h2⟩
 have hle:k<=r.length:=by have:=hE.rl; have:=hE.fl; omega
 refine h1.val p2 (by rw[List.length_take,hE.kl]; omega) p4 fun j hj=> ?_
 have hj':j<k:=by rw[List.length_take]at hj; omega
 have:=(hE.cell j (by have:=hE.fl; omega)).2
 have e1:(aN e.key++aN e.val).getD j default=(aN e.key).getD j default:=by rw[List.getD_eq_getElem?_getD,List.getElem?_append_left (by rw[hE.kl]; exact hj'),List.getD_eq_getElem?_getD]
 have e2:(r.take (cells a).length).getD j .bad=r.getD j .bad:=by simp only[List.getD_eq_getElem?_getD,List.getElem?_take]; rw[if_pos (by omega)]
 rw[e1]at this
 rw[e2]; exact this
end
theorem oR{ls:List LK}{a:AV}{ρ:Place}{L:aZ}{I:Nat->Prop}{w:World}{N:Nat->Prop}{kv:Value}(h:aM ρ L I w N a kv)(hs:bI a=true)(hok:dS ls (cells a) (cells a)=true):lU ls (aN kv):=by
 obtain⟨p1,p2,p3,p4⟩:=dx h hs
 obtain⟨rs,h1,_⟩:=kj hok
 rw[List.take_length]at h1
 exact (h1.val p2 p2 p4 p4).RD
end Go.AM
namespace Go.AM
open Go.RowKit Go.MapKept
variable {P:Program} {T:TT} {X:bM} {o:Oper} {F:aT} {M:bg}
theorem lW{d:TD}{D:TypeDesc}{k e:Nat}(hd:d= .map k e)(h:d.fits D):D= .map k e:=by
 subst hd; cases D<;>simp_all[TD.fits]
theorem kn{ρ:Place}{L:aZ}{I:Nat->Prop}{w:World}{N:Nat->Prop}{n sz:Nat}{v:Value}(h:aM ρ L I w N (.omap n) v)(hl:L n=some (0,sz)):N n/\∃g cap,ρ n=some (g,cap)/\v= .map (some g):=by
 cases h with
 |omap _ _ hn h1 h=>exact⟨hn,h sz hl⟩
theorem qJ{ρ:Place}{L:aZ}{I:Nat->Prop}{w:World}{N:Nat->Prop}{n g cap:Nat}(hn:N n)(hρ:ρ n=some (g,cap)):aM ρ L I w N (.omap n) (.map (some g)):=
 .omap n _ hn rfl fun _ _=>⟨g,cap,hρ,rfl⟩
theorem wQ{n t:Nat}{k:Nat}{ka va:Bool}{sz:Nat}(hsz:sz≠0)(ho:o.op= .makeMap t none):bD P X o F M (.omap n) [(n,⟨0,sz,[],some (k,ka,va,.b true)⟩)] [n]:=by
 refine⟨fun p hp=> .inl (by simp at hp; simp[hp]),fun M' N ρ I ac w hW hU hN hF=> ?_⟩
 have hn:¬N n:=hF n (by simp)
 have hd:∀b0,M' n=some b0->False:=fun b0 h0=>hn (hW.aS n b0 h0).lt
 have hR:nq ρ (lens M') I w N k ka va sz [] #[]:=⟨rfl,fun i e r h _=>by simp at h⟩
 have hC:lV (.b true) #[] 0:=⟨fun i j e f h=>by simp at h,fun i e h=>by simp at h,fun _=>⟨rfl,fun i e h=>by simp at h⟩⟩
 obtain⟨E,W⟩:=hW.put (w':=w.alloc (.map #[] 0)) n ⟨0,sz,[],some (k,ka,va,.b true)⟩ w.heap.size maxLen (je sz #[]) (0,0) rfl rfl rfl (by simp) (fun k hk _=>Below.heap_alloc w _ k hk)
  ⟨#[],0,heap_alloc_new w _,rfl,pX hsz hR hC (by simp)⟩ (.inl rfl)
  (.inl (Nat.le_refl _)) (fun b0 h0=>(hd b0 h0).elim) (fun h=>(hn h).elim) (fun e he=>by simp at he) (by simp) (Nat.le_refl _) (by simp[je]) (oe hsz hR (by simp))
 unfold bJ
 have hrun:(execOp ac.eval o).run P w= .ok (.value (.map (some w.heap.size))) (w.alloc (.map #[] 0)):=by
  simp[execOp,ho,run_makeMap]
 rw[hrun]
 refine⟨_,I,E,by rw[bE]; exact W,?_⟩
 rw[bE]
 exact qJ (cap:=maxLen) (.inl rfl) (by simp[iF])
section
variable {t kt et n d k:Nat} {ka va:Bool} {dn:Dn} {b:bf} {ls:List LK} {x key:Operand}
theorem sN{w:World}{g:Nat}{en:Array MapEntry}{ck:Nat}{kv z:Value}{i:TypeInfo}{ok:Bool}{r:Option (Nat × Value)}(hu:P.underlying t=some (.map kt et))(hg:w.heap[g]? =some (.map en ck))
  (hc:∀em,(Instr.checkKey em 10000 kt kv).run P w= .ok () w) (hf:(Instr.findKey kt kv en.toList).run P w= .ok r w) (hi:P.info? et=some i) (hz:i.zero=some z):
  (Instr.lookup t (.map (some g)) kv ok).run P w= .ok (if ok then .tuple #[(r.map (·.2)).getD z,.bool r.isSome]else (r.map (·.2)).getD z) w:=by
 cases r with
 |none=>simp[Instr.lookup,run_underlying hu,MapKept.run_getObj_map hg,hc,hf,gf hi hz]
 |some q=>simp[Instr.lookup,run_underlying hu,MapKept.run_getObj_map hg,hc,hf]
def AB(ok:Bool)(v:AV)(is:Bool):AV:=if ok then .aG [v,.bool is]else v
def uK(va:Bool)(z:AV)(q:Option (Nat × List AV)):AV:=match q with
 |some q=>oQ va q.2
 |none=>z
theorem qK(hT:cO P T){ok:Bool}(ho:o.op= .lookup t x key ok)(ht:T.d t= .map kt et)(FG:(T.d et).ok=true)(hx:ev F x= .omap n)(hb:M n=some b)(hmp:b.mp=some (k,ka,va,dn))
  (hd:d<=10000) (hl:mV P d kt=some ls) (jr:aO P kt=ka) (hs:bI (ev F key)=true) (hka:(ev F key).js=ka) (hk:(cells (ev F key)).length=k) (hkk:dS ls (cells (ev F key)) (cells (ev F key))=true)
  (hok:∀r ∈ b.es,dS ls (cells (ev F key)) r=true) (hv:va=false->k<b.sz):
  bD P X o F M (AB ok (uK va (T.z et) (cD (cells (ev F key)) b.es)) (cD (cells (ev F key)) b.es).isSome) [] []:=by
 have uw:x ∈ o.op.operands.toList:=by simp[ho,Op.operands]
 have MB:key ∈ o.op.operands.toList:=by simp[ho,Op.operands]
 obtain⟨D,it,z,hD,hf,_⟩:=hT t (by rw[ht]; simp)
 have fX:=lW ht hf
 subst fX
 obtain⟨De,ie,ze,xY,Fx,hie,lu,_,Mi,iv⟩:=hT et (TD.dC FG)
 refine aC fun M' N ρ I a w hW hU hN=> ?_
 have r1:=ap hU x uw
 have r2:=ap hU key MB
 rw[hx]at r1
 obtain⟨sl,dK,fj⟩:=bh (F:=F) x uw (n:=n) (by rw[hx]; simp[AV.names])
 have bN:M' n=some b:=(hN sl dK n fj).trans hb
 have dt:lens M' n=some (0,b.sz):=by rw[aA]; exact⟨b,bN,by simp[bf.ln,hmp],rfl⟩
 obtain⟨hn,g,cap,hρ,qu⟩:=kn r1 dt
 obtain⟨en,ck,hg,hR,hC,hsz,_,_⟩:=gp hW bN hmp hρ
 have CU:valOf (aO P kt) (aN (a.eval key))=a.eval key:=by
  rw[jr,<-hka,<-(dx r2 hs).1]; exact fO _
 have CV:=oR r2 hs hkk
 have fU:=fK hd hl w CV (rS hl jr r2 hs hk hR hok)
 have uL:∀em,(Instr.checkKey em 10000 kt (a.eval key)).run P w= .ok () w:=fun em=>by
  have:=dE (em:=em) d (10000 - d) kt ls w _ hl CV
  rw[show d+ (10000 - d)=10000 by omega,CU]at this; exact this
 rw[CU]at fU
 refine⟨if ok then .tuple #[((jE (cells (ev F key)) en.toList b.es 0).map (·.2)).getD ze,.bool (jE (cells (ev F key)) en.toList b.es 0).isSome]else ((jE (cells (ev F key)) en.toList b.es 0).map (·.2)).getD ze,?_,?_⟩
 ·simp only[execOp,ho,qu,Sem.run_bind,sN hD hg uL fU hie Mi,Result.andThen_ok,Sem.run_pure]
 ·rcases jd (kc:=cells (ev F key)) (en:=en.toList) (es:=b.es) (i:=0) (by simpa using hR.len)with⟨h1,h2⟩|⟨j,e,r,h1,h2,h3,h4,h5⟩
  ·rw[h1,h2]
   have hz:aM ρ (lens M') I w N (T.z et) ze:=by rw[iv]; exact gb _ _ _ _ _ _
   cases ok with
   |false=>simpa[AB,uK]using hz
   |true=>
    simp only[AB,uK,if_true,Option.map_none,Option.getD_none,Option.isSome_none]
    exact .aG [T.z et,.bool false] [ze,.bool false] rfl fun j hj=>by
     match j,hj with
     |0,_=>simpa using hz
     |1,_=>exact .bool _
  ·rw[h1,h2]
   have hE:=hR.row j e r (by simpa using h3) h4
   have hval:aM ρ (lens M') I w N (oQ va (r.drop (cells (ev F key)).length)) e.val:=by rw[hk]; exact hE.val hv
   cases ok with
   |false=>simpa[AB,uK]using hval
   |true=>
    simp only[AB,uK,if_true,Option.map_some,Option.getD_some,Option.isSome_some]
    exact .aG [_,.bool true] [e.val,.bool true] rfl fun j hj=>by
     match j,hj with
     |0,_=>simpa using hval
     |1,_=>exact .bool _
def IU(kc vs:List AV)(es:List (List AV)):List (List AV):=match cD kc es with
 |some q=>es.set q.1 (kc++vs)
 |none=>es++ [kc++vs]
theorem IV{ls:List LK}{kc r:List AV}(h1:dS ls kc r=true)(h2:qp kc r=true):∃rs,uF ls kc (r.take kc.length) rs/\rs.all id=true:=by
 obtain⟨rs,h3,h4⟩:=kj h1
 exact⟨rs,h3,by rw[h4]; exact h2⟩
theorem yb{ρ:Place}{L:aZ}{I:Nat->Prop}{w:World}{N:Nat->Prop}{a:AV}{kv:Value}{e:MapEntry}{r:List AV}{sz:Nat}(h:aM ρ L I w N a kv)(hs:bI a=true)(hka:a.js=ka)(hk:(cells a).length=k)
  (hE:pW ρ L I w N k ka va sz e.key e.val r) (hok:dS ls (cells a) r=true) (hB:qp (cells a) r=true):e.key=kv:=by
 obtain⟨p1,p2,p3,p4⟩:=dx h hs
 obtain⟨rs,h1,h2⟩:=IV hok hB
 have hle:k<=r.length:=by have:=hE.rl; have:=hE.fl; omega
 have h4:=h1.val p2 (us:=aN e.key) (by rw[List.length_take,hE.kl]; omega) p4 fun j hj=>by
  have hj':j<k:=by rw[List.length_take]at hj; omega
  have:=(hE.cell j (by have:=hE.fl; omega)).2
  have e1:(aN e.key++aN e.val).getD j default=(aN e.key).getD j default:=by rw[List.getD_eq_getElem?_getD,List.getElem?_append_left (by rw[hE.kl]; exact hj'),List.getD_eq_getElem?_getD]
  have e2:(r.take (cells a).length).getD j .bad=r.getD j .bad:=by simp only[List.getD_eq_getElem?_getD,List.getElem?_take]; rw[if_pos (by omega)]
  rw[e1]at this
  rw[e2]; exact this
 have:=h4.eq h2
 rw[<-fO e.key,hE.ka,this,<-hka,<-p1,fO]
theorem sO(hT:cO P T){val:Operand}(ho:o.op= .mapUpdate t x key val\/ o.op= .insert t x key val)(ht:T.d t= .map kt et)(hx:ev F x= .omap n)(hb:M n=some b)(hmp:b.mp=some (k,ka,va,dn))
  (hd:d<=10000) (hl:mV P d kt=some ls) (jr:aO P kt=ka) (hs:bI (ev F key)=true) (hka:(ev F key).js=ka) (hk:(cells (ev F key)).length=k) (hkk:dS ls (cells (ev F key)) (cells (ev F key))=true)
  (hok:∀r ∈ b.es,dS ls (cells (ev F key)) r=true) (RE:bI (ev F val)=true) (Is:(ev F val).js=va) (hvl:k+ (cells (ev F val)).length=b.sz) (hle:b.es.length+1<=lC):
  bD P X o F M (.aG []) [(n,⟨b.ty,b.sz,IU (cells (ev F key)) (cells (ev F val)) b.es,some (k,ka,va,dn.up)⟩)] []/\n ∈ (ev F x).names:=by
 have uw:x ∈ o.op.operands.toList:=by rcases ho with ho|ho<;>simp[ho,Op.operands]
 have MB:key ∈ o.op.operands.toList:=by rcases ho with ho|ho<;>simp[ho,Op.operands]
 have YV:val ∈ o.op.operands.toList:=by rcases ho with ho|ho<;>simp[ho,Op.operands]
 obtain⟨D,it,z,hD,hf,_⟩:=hT t (by rw[ht]; simp)
 have fX:=lW ht hf
 subst fX
 obtain⟨sl,dK,fj⟩:=bh (F:=F) x uw (n:=n) (by rw[hx]; simp[AV.names])
 refine⟨⟨fun p hp=> .inr ⟨sl,dK,by simp at hp; rw[hp]; exact fj⟩,fun M' N ρ I a w hW hU hN _=> ?_⟩,by rw[hx]; simp[AV.names]⟩
 have r1:=ap hU x uw
 have r2:=ap hU key MB
 have r3:=ap hU val YV
 rw[hx]at r1
 have bN:M' n=some b:=(hN sl dK n fj).trans hb
 have dt:lens M' n=some (0,b.sz):=by rw[aA]; exact⟨b,bN,by simp[bf.ln,hmp],rfl⟩
 obtain⟨hn,g,cap,hρ,qu⟩:=kn r1 dt
 obtain⟨en,ck,hg,hR,hC,hsz,_,_⟩:=gp hW bN hmp hρ
 have CU:valOf (aO P kt) (aN (a.eval key))=a.eval key:=by
  rw[jr,<-hka,<-(dx r2 hs).1]; exact fO _
 have CV:=oR r2 hs hkk
 have fU:=fK hd hl w CV (rS hl jr r2 hs hk hR hok)
 have uL:∀em,(Instr.checkKey em 10000 kt (a.eval key)).run P w= .ok () w:=fun em=>by
  have:=dE (em:=em) d (10000 - d) kt ls w _ hl CV
  rw[show d+ (10000 - d)=10000 by omega,CU]at this; exact this
 have hst:(Instr.keyThatStays (a.eval key) (a.eval key)).run P w= .ok (a.eval key) w:=by
  have:=oP (P:=P) (ag:=aO P kt) CV (fun h=>jD hl h) w
  rwa[CU]at this
 rw[CU]at fU
 have Lo:∀w',(Instr.mapUpdate t (.map (some g)) (a.eval key) (a.eval val)).run P w= .ok () w'->(execOp a.eval o).run P w= .ok .skip w':=fun w' h=>by
  rcases ho with ho|ho<;>simp[execOp,ho,qu,h]
 have hmk:=pW.mk' r2 hs r3 RE hk hvl hka Is
 unfold bJ IU
 rcases jd (kc:=cells (ev F key)) (en:=en.toList) (es:=b.es) (i:=0) (by simpa using hR.len)with⟨h1,h2⟩|⟨j,e,r,h1,h2,h3,h4,h5⟩
 ·rw[h2]at fU
  rw[h1,Lo {w with heap:=w.heap.setIfInBounds g (.map (en.push ⟨a.eval key,a.eval val,ck⟩) (ck+1))} (by
   simp[Instr.mapUpdate,run_underlying hD,MapKept.run_getObj_map hg,uL,fU,MapKept.run_setObj_map _ hg])]
  exact kN hW bN hmp hρ (hR.push hmk ck) hC.push (by simp only[List.length_append,List.length_singleton]; simp only[lC]at hle; simp only[maxLen]; omega) (.aG [] [] rfl (fun j hj=>by simp at hj)) (fun _ _ _ h=>(Dn.EZ h).elim)
 ·rw[h2,Nat.zero_add]at fU
  have MD:en[j]? =some e:=by simpa using h3
  have hE:=hR.row j e r MD h4
  have hkey:=yb r2 hs hka hk hE (hok r (List.mem_of_getElem? h4)) h5
  rw[h1,Lo {w with heap:=w.heap.setIfInBounds g (.map (en.modify j fun e=> {e with key:=a.eval key,val:=a.eval val}) ck)} (by
   simp[Instr.mapUpdate,run_underlying hD,MapKept.run_getObj_map hg,uL,fU,MD,hkey,hst,MapKept.run_setObj_map _ hg])]
  exact kN hW bN hmp hρ (hR.set (f:=fun e=> {e with key:=a.eval key,val:=a.eval val}) fun _ _=>hmk) (hC.up.modify (f:=fun e=> {e with key:=a.eval key,val:=a.eval val}) (fun _=>rfl) j) (by rw[List.length_set]; simp only[lC]at hle; simp only[maxLen]; omega) (.aG [] [] rfl (fun j hj=>by simp at hj)) (fun _ _ _ h=>(Dn.EZ h).elim)
def AC(kc zs:List AV)(es:List (List AV)):List (List AV):=match cD kc es with
 |some _=>es
 |none=>es++ [kc++zs]
def wR(kc:List AV)(es:List (List AV)):Nat:=match cD kc es with
 |some q=>q.1
 |none=>es.length
theorem nN(hT:cO P T)(ho:o.op= .mapEntry t x key)(ht:T.d t= .map kt et)(FG:(T.d et).ok=true)(hx:ev F x= .omap n)(hb:M n=some b)(hmp:b.mp=some (k,ka,va,.b true))
  (hd:d<=10000) (hl:mV P d kt=some ls) (jr:aO P kt=ka) (hs:bI (ev F key)=true) (hka:(ev F key).js=ka) (hk:(cells (ev F key)).length=k) (hkk:dS ls (cells (ev F key)) (cells (ev F key))=true)
  (hok:(∀r ∈ b.es,r.length=b.sz)->∀r ∈ b.es,dS ls (cells (ev F key)) r=true) (RE:bI (T.z et)=true) (Is:(T.z et).js=va) (hvl:k+ (cells (T.z et)).length=b.sz) (hv:va=false->k<b.sz) (hle:b.es.length+1<=lC):
  bD P X o F M (.aG [uK va (T.z et) (cD (cells (ev F key)) b.es),.int .i64 (wR (cells (ev F key)) b.es)]) [(n,⟨b.ty,b.sz,AC (cells (ev F key)) (cells (T.z et)) b.es,some (k,ka,va,.b true)⟩)] []/\n ∈ (ev F x).names:=by
 have uw:x ∈ o.op.operands.toList:=by simp[ho,Op.operands]
 have MB:key ∈ o.op.operands.toList:=by simp[ho,Op.operands]
 obtain⟨D,it,z,hD,hf,_⟩:=hT t (by rw[ht]; simp)
 have fX:=lW ht hf
 subst fX
 obtain⟨De,ie,ze,xY,Fx,hie,lu,_,Mi,iv⟩:=hT et (TD.dC FG)
 obtain⟨sl,dK,fj⟩:=bh (F:=F) x uw (n:=n) (by rw[hx]; simp[AV.names])
 refine⟨⟨fun p hp=> .inr ⟨sl,dK,by simp at hp; rw[hp]; exact fj⟩,fun M' N ρ I a w hW hU hN _=> ?_⟩,by rw[hx]; simp[AV.names]⟩
 have r1:=ap hU x uw
 have r2:=ap hU key MB
 rw[hx]at r1
 have bN:M' n=some b:=(hN sl dK n fj).trans hb
 have dt:lens M' n=some (0,b.sz):=by rw[aA]; exact⟨b,bN,by simp[bf.ln,hmp],rfl⟩
 obtain⟨hn,g,cap,hρ,qu⟩:=kn r1 dt
 obtain⟨en,ck,hg,hR,hC,hsz,_,oS⟩:=gp hW bN hmp hρ
 have hok:=hok (hW.aS n b bN).even
 have CU:valOf (aO P kt) (aN (a.eval key))=a.eval key:=by
  rw[jr,<-hka,<-(dx r2 hs).1]; exact fO _
 have CV:=oR r2 hs hkk
 have fU:=fK hd hl w CV (rS hl jr r2 hs hk hR hok)
 have uL:∀em,(Instr.checkKey em 10000 kt (a.eval key)).run P w= .ok () w:=fun em=>by
  have:=dE (em:=em) d (10000 - d) kt ls w _ hl CV
  rw[show d+ (10000 - d)=10000 by omega,CU]at this; exact this
 have hst:(Instr.keyThatStays (a.eval key) (a.eval key)).run P w= .ok (a.eval key) w:=by
  have:=oP (P:=P) (ag:=aO P kt) CV (fun h=>jD hl h) w
  rwa[CU]at this
 rw[CU]at fU
 have hzr:aM ρ (lens M') I w N (T.z et) ze:=by rw[iv]; exact gb _ _ _ _ _ _
 obtain⟨hck,BZ⟩:=hC.den rfl
 have two:∀{a1 a2:AV}{v1 v2:Value},aM ρ (lens M') I w N a1 v1->aM ρ (lens M') I w N a2 v2->aM ρ (lens M') I w N (.aG [a1,a2]) (.tuple #[v1,v2]):=fun {a1 a2 v1 v2} q1 q2=> .aG [a1,a2] [v1,v2] rfl fun j hj=>by
  match j,hj with
  |0,_=>simpa using q1
  |1,_=>simpa using q2
 unfold bJ AC wR
 rcases jd (kc:=cells (ev F key)) (en:=en.toList) (es:=b.es) (i:=0) (by simpa using hR.len)with⟨h1,h2⟩|⟨j,e,r,h1,h2,h3,h4,h5⟩
 ·rw[h2]at fU
  have hrun:(execOp a.eval o).run P w= .ok (.value (.tuple #[ze,goInt ck])) {w with heap:=w.heap.setIfInBounds g (.map (en.push ⟨a.eval key,ze,ck⟩) (ck+1))}:=by
   simp[execOp,ho,qu,Instr.mapEntry,run_underlying hD,MapKept.run_getObj_map hg,uL,fU,gf hie Mi,MapKept.run_setObj_map _ hg]
  rw[h1,hrun]
  refine kN hW bN hmp hρ (hR.push (pW.mk' r2 hs hzr RE hk hvl hka Is) ck) hC.push (by simp only[List.length_append,List.length_singleton]; simp only[lC]at hle; simp only[maxLen]; omega) (two hzr ?_) (fun _ _ _ h=>by cases h)
  rw[hck,hR.len]; exact .int _ _
 ·rw[h2,Nat.zero_add]at fU
  have MD:en[j]? =some e:=by simpa using h3
  have hE:=hR.row j e r MD h4
  have hkey:=yb r2 hs hka hk hE (hok r (List.mem_of_getElem? h4)) h5
  have hrun:(execOp a.eval o).run P w= .ok (.value (.tuple #[e.val,goInt e.born])) {w with heap:=w.heap.setIfInBounds g (.map (en.modify j fun e=> {e with key:=a.eval key}) ck)}:=by
   simp[execOp,ho,qu,Instr.mapEntry,run_underlying hD,MapKept.run_getObj_map hg,uL,fU,MD,hkey,hst,MapKept.run_setObj_map _ hg]
  rw[h1,hrun]
  have QB:nq ρ (lens M') I w N k ka va b.sz b.es (en.modify j fun e=> {e with key:=a.eval key}):=by
   have:=hR.set (i:=j) (f:=fun e=> {e with key:=a.eval key}) (r:=r) (fun e0 he0=>by rw[MD]at he0; cases he0; rw[<-hkey]; exact hE)
   have hlt:=(List.getElem?_eq_some_iff.1 h4)
   rwa[<-hlt.2,List.set_getElem_self]at this
  refine kN hW bN hmp hρ QB (hC.modify (f:=fun e=> {e with key:=a.eval key}) (fun _=>rfl) j) oS (two ?_ ?_) (fun _ _ _ h=>by cases h)
  ·simp only[uK]
   rw[hk]; exact hE.val hv
  ·have:=BZ j e MD
   rw[this]; exact .int _ _
theorem rm{stamp val:Operand}{q:IntKind}{j:Nat}{r:List AV}(ho:o.op= .entryStore t x stamp val)(hx:ev F x= .omap n)(hb:M n=some b)(hmp:b.mp=some (k,ka,va,.b true))
  (hst:ev F stamp= .int q j) (hr:b.es[j]? =some r) (RE:bI (ev F val)=true) (Is:(ev F val).js=va) (hvl:k+ (cells (ev F val)).length=b.sz):
  bD P X o F M (.aG []) [(n,⟨b.ty,b.sz,b.es.set j (r.take k++cells (ev F val)),some (k,ka,va,.b true)⟩)] []/\n ∈ (ev F x).names:=by
 have uw:x ∈ o.op.operands.toList:=by simp[ho,Op.operands]
 have hso:stamp ∈ o.op.operands.toList:=by simp[ho,Op.operands]
 have YV:val ∈ o.op.operands.toList:=by simp[ho,Op.operands]
 obtain⟨sl,dK,fj⟩:=bh (F:=F) x uw (n:=n) (by rw[hx]; simp[AV.names])
 refine⟨⟨fun p hp=> .inr ⟨sl,dK,by simp at hp; rw[hp]; exact fj⟩,fun M' N ρ I a w hW hU hN _=> ?_⟩,by rw[hx]; simp[AV.names]⟩
 have r1:=ap hU x uw
 have r2:=bw (hst ▸ ap hU stamp hso)
 have r3:=ap hU val YV
 rw[hx]at r1
 have bN:M' n=some b:=(hN sl dK n fj).trans hb
 have dt:lens M' n=some (0,b.sz):=by rw[aA]; exact⟨b,bN,by simp[bf.ln,hmp],rfl⟩
 obtain⟨hn,g,cap,hρ,qu⟩:=kn r1 dt
 obtain⟨en,ck,hg,hR,hC,hsz,_,oS⟩:=gp hW bN hmp hρ
 obtain⟨hck,BZ⟩:=hC.den rfl
 have hj:j<b.es.length:=(List.getElem?_eq_some_iff.1 hr).1
 have hje:j<en.size:=by rw[hR.len]; exact hj
 have hidx:en.findIdx? (fun e=>(e.born:Int)==(j:Int))=some j:=by
  rw[Array.findIdx?_eq_some_iff_getElem]
  refine⟨hje,?_,fun i hi=> ?_⟩
  ·have:=BZ j en[j] (Array.getElem?_eq_getElem hje)
   simp[this]
  ·have:=BZ i (en[i]'(by omega)) (Array.getElem?_eq_getElem (by omega))
   simp only[this,Bool.not_eq_true,beq_eq_false_iff_ne,ne_eq]; omega
 have hrun:(execOp a.eval o).run P w= .ok .skip {w with heap:=w.heap.setIfInBounds g (.map (en.modify j fun e=> {e with val:=a.eval val}) ck)}:=by
  simp[execOp,ho,qu,r2,Instr.entryStore,MapKept.run_getObj_map hg,asInt,asIntOf,hidx,MapKept.run_setObj_map _ hg]
 unfold bJ
 rw[hrun]
 refine kN hW bN hmp hρ (hR.set (i:=j) (f:=fun e=> {e with val:=a.eval val}) fun e he=> ?_) (hC.modify (f:=fun e=> {e with val:=a.eval val}) (fun _=>rfl) j) (by rw[List.length_set]; exact oS) (.aG [] [] rfl (fun j hj=>by simp at hj)) (fun _ _ _ h=>by cases h)
 have hE:=hR.row j e r he hr
 obtain⟨q1,q2,q3,q4⟩:=dx r3 RE
 have hle:k<=r.length:=by have:=hE.rl; have:=hE.fl; omega
 have Xk:(r.take k).length=k:=by rw[List.length_take]; omega
 refine⟨by rw[List.length_append,Xk]; omega,hE.kl,by show k+ (aN (a.eval val)).length=_; omega,hE.ka,q1.trans Is,fun p hp=> ?_⟩
 show ((aN e.key++aN (a.eval val)).getD p default).oneCell'=true/\aM ρ (lens M') I w N ((r.take k++cells (ev F val)).getD p .bad) ((aN e.key++aN (a.eval val)).getD p default)
 by_cases hpk:p<k
 ·have:=hE.cell p hp
  have e0:(aN e.key++aN e.val).getD p default=(aN e.key).getD p default:=by rw[List.getD_eq_getElem?_getD,List.getElem?_append_left (by rw[hE.kl]; exact hpk),List.getD_eq_getElem?_getD]
  have e1:(aN e.key++aN (a.eval val)).getD p default=(aN e.key).getD p default:=by rw[List.getD_eq_getElem?_getD,List.getElem?_append_left (by rw[hE.kl]; exact hpk),List.getD_eq_getElem?_getD]
  have e2:(r.take k++cells (ev F val)).getD p .bad=r.getD p .bad:=by
   rw[List.getD_eq_getElem?_getD,List.getElem?_append_left (by omega),List.getElem?_take,if_pos hpk,List.getD_eq_getElem?_getD]
  rw[e0]at this
  rw[e1,e2]; exact this
 ·have e1:(aN e.key++aN (a.eval val)).getD p default=(aN (a.eval val)).getD (p - k) default:=by rw[List.getD_eq_getElem?_getD,List.getElem?_append_right (by rw[hE.kl]; omega),List.getD_eq_getElem?_getD,hE.kl]
  have e2:(r.take k++cells (ev F val)).getD p .bad=(cells (ev F val)).getD (p - k) .bad:=by rw[List.getD_eq_getElem?_getD,List.getElem?_append_right (by omega),List.getD_eq_getElem?_getD,Xk]
  rw[e1,e2]
  refine⟨?_,q4 (p - k) (by omega)⟩
  rw[List.getD_eq_getElem?_getD,List.getElem?_eq_getElem (by omega)]
  exact q3 _ (List.getElem_mem _)
end
end Go.AM
namespace Go.AM
open Go.RowKit Go.MapKept
variable {P:Program} {T:TT} {X:bM} {o:Oper} {F:aT} {M:bg}
theorem oG.pP{av:AV}(h:oG P X o F M av):bD P X o F M av [] []:=
 ⟨fun p hp=>by simp at hp,fun M' N ρ I a w W hr hM _=>h M' N ρ I a w W hr (fun s hs n hn=>by rw[hM s hs n hn])⟩
theorem AD:∀{ls:List LK}{kc r:List AV},dS ls kc kc=true->jW kc=true->jW r=true->kc.length<=r.length->dS ls kc r=true
 |[],[],_,_,_,_,_=>by simp[dS]
 | .i::l,.int k x::a,r,h,g,g2,hl=>by
   cases k<;>simp only[jW,Bool.false_eq_true]at g
   cases r with
   |nil=>simp at hl
   |cons c s=>
    cases c with
    |int k2 y=>
     cases k2<;>simp only[jW,Bool.false_eq_true]at g2
     simp only[dS,Bool.and_eq_true]at h ⊢
     exact⟨rfl,AD h.2 g g2 (by simpa using hl)⟩
    |_=>simp[jW]at g2
 | .i::l,[],_,h,_,_,_=>by simp[dS]at h
 | .b::l,[],_,h,_,_,_=>by simp[dS]at h
 | .s::l,[],_,h,_,_,_=>by simp[dS]at h
 |[],_::_,_,h,_,_,_=>by simp[dS]at h
 | .b::l,c::a,_,h,g,_,_=>by cases c<;>simp[dS,jW]at h g
 | .s::l,c::a,_,h,g,_,_=>by cases c<;>simp[dS,jW]at h g
 | .i::l,.bool _::a,_,_,g,_,_=>by simp[jW]at g
 | .i::l,.str _::a,_,_,g,_,_=>by simp[jW]at g
 | .i::l,.ax::a,_,_,g,_,_=>by simp[jW]at g
 | .i::l,.ab::a,_,_,g,_,_=>by simp[jW]at g
 | .i::l,.af::a,_,_,g,_,_=>by simp[jW]at g
 | .i::l,.dj::a,_,_,g,_,_=>by simp[jW]at g
 | .i::l,.bQ::a,_,_,g,_,_=>by simp[jW]at g
 | .i::l,.loc .. ::a,_,_,g,_,_=>by simp[jW]at g
 | .i::l,.bi .. ::a,_,_,g,_,_=>by simp[jW]at g
 | .i::l,.dp .. ::a,_,_,g,_,_=>by simp[jW]at g
 | .i::l,.aH .. ::a,_,_,g,_,_=>by simp[jW]at g
 | .i::l,.be .. ::a,_,_,g,_,_=>by simp[jW]at g
 | .i::l,.omap .. ::a,_,_,g,_,_=>by simp[jW]at g
 | .i::l,.bL .. ::a,_,_,g,_,_=>by simp[jW]at g
 | .i::l,.agg .. ::a,_,_,g,_,_=>by simp[jW]at g
 | .i::l,.aG .. ::a,_,_,g,_,_=>by simp[jW]at g
 | .i::l,.bad::a,_,_,g,_,_=>by simp[jW]at g
theorem CW(q:Option (Nat × List AV)):uK false (.int .i64 0) q=IE q:=by cases q<;>rfl
section
variable {t kt et n d k:Nat} {ka:Bool} {dn:Dn} {b:bf} {ls:List LK} {x key:Operand}
theorem FH(hT:cO P T)(ho:o.op= .lookup t x key false)(ht:T.d t= .map kt et)(FG:(T.d et).ok=true)(hz:T.z et= .int .i64 0)(hx:ev F x= .omap n)(hb:M n=some b)(hmp:b.mp=some (k,ka,false,dn))
  (hd:d<=10000) (hl:mV P d kt=some ls) (jr:aO P kt=ka) (hs:bI (ev F key)=true) (hka:(ev F key).js=ka) (hk:(cells (ev F key)).length=k) (hkk:dS ls (cells (ev F key)) (cells (ev F key))=true)
  (hg:jW (cells (ev F key))=true) (RF:∀r ∈ b.es,jW r=true) (hsz:b.sz=k+1):
  oG P X o F M (IE (cD (cells (ev F key)) b.es)):=by
 intro M' N ρ I a w hW hU hV
 have uw:x ∈ o.op.operands.toList:=by simp[ho,Op.operands]
 obtain⟨sl,dK,fj⟩:=bh (F:=F) x uw (n:=n) (by rw[hx]; simp[AV.names])
 have hv:=hV sl dK n fj
 rw[hb]at hv
 cases hb':M' n with
 |none=>rw[hb']at hv; simp[Vw]at hv
 |some b'=>
  rw[hb']at hv
  simp only[Vw,Option.map_some,Option.some.injEq,Prod.mk.injEq]at hv
  obtain⟨v1,v2,v3,v4⟩:=hv
  have YW:∀r ∈ b'.es,jW r=true:=v4.symm ▸ RF
  have v3':=congrFun v3 (cells (ev F key))
  rw[v1,if_pos (by omega),if_pos (by omega)]at v3'
  have hok:∀r ∈ b'.es,dS ls (cells (ev F key)) r=true:=fun r hr=>AD hkk hg (YW r hr) (by
   have:=(hW.aS n b' hb').even r hr
   omega)
  have D:=qK (X:=X) (M:=M') hT ho ht FG hx hb' (v2.trans hmp) hd hl jr hs hka hk hkk hok (fun _=>by omega)
  simp only[AB,Bool.false_eq_true,if_false,hz,CW]at D
  rw[v3']at D
  exact D.2 M' N ρ I a w hW hU (fun _ _ _ _=>rfl) (fun _ h=>by simp at h)
theorem vp{kc r:List AV}:∀{es:List (List AV)},cD kc (es++ [r])=match cD kc es with
  |some q=>some q
  |none=>if qp kc r then some (es.length,r.drop kc.length)else none
 |[]=>by simp only[List.nil_append,cD]; cases qp kc r<;>rfl
 |e::es=>by
  simp only[List.cons_append,cD]
  by_cases h:qp kc e=true
  ·simp[h]
  ·simp only[if_neg h]
   rw[vp (es:=es)]
   cases cD kc es with
   |some q=>rfl
   |none=>by_cases h2:qp kc r=true<;>simp[h2]
theorem B0:∀{a b:List AV},jW (a++b)=(jW a&&jW b)
 |[],b=>by simp[jW]
 |c::a,b=>by
  cases c<;>simp only[List.cons_append,jW,Bool.false_and]
  rename_i k y
  cases k<;>simp only[jW,B0,Bool.false_and]
theorem IW{kc:List AV}(hmp:b.mp=some (k,ka,false,.b true))(hk:kc.length=k)(hsz:b.sz=k+1)(hg:jW kc=true):Vw (some b)=Vw (some ⟨b.ty,b.sz,AC kc [.int .i64 0] b.es,some (k,ka,false,.b true)⟩):=by
 simp only[Vw,Option.map_some,Option.some.injEq,Prod.mk.injEq]
 refine⟨trivial,hmp,?_,?_⟩
 ·funext YX
  split
  ·rename_i hl
   unfold AC
   cases hm:cD kc b.es with
   |some q=>rfl
   |none=>
    simp only
    rw[vp]
    cases hm':cD YX b.es with
    |some q=>rfl
    |none=>
     simp only
     split
     ·have:(kc++ [AV.int .i64 0]).drop YX.length=[.int .i64 0]:=by
       rw[show YX.length=kc.length by omega,List.drop_left]
      rw[this]; rfl
     ·rfl
  ·rfl
 ·apply propext
  unfold AC
  cases cD kc b.es with
  |some q=>exact Iff.rfl
  |none=>
   simp only[List.mem_append,List.mem_singleton]
   exact⟨fun h r hr=>hr.elim (h r) (fun e=>by rw[e,B0,hg]; rfl),fun h r hr=>h r (.inl hr)⟩
end
end Go.AM
namespace Go.AM
open Go.RowKit
structure Env where
 P:Program
 T:TT
 ok:PT P T
 ft:Nat->Nat
 ty:Nat->Nat
inductive Sc where
 |t (n:Nat)
 |k (v:AV)
 |f (g:Nat)
inductive vq where
 |mv (x:Sc)
 |pick (c a b:Sc)
 |alloc (ty:Nat) (z:List AV)
 |box (ty:Nat) (x:Sc)
 |build (z:List AV) (ps:List (Nat × Nat × Sc))
 |aK (ty sz len:Nat) (z:List AV) (ps:List (Nat × Sc))
 |load (ag:Bool) (n:Nat) (x:Sc)
 |store (n:Nat) (x v:Sc)
 |aB (x:Sc)
 |bin (op:BinOp) (x y:Sc)
 |eqb (neg:Bool) (x y:Sc)
 |B1 (neg:Bool) (x:Sc)
 |yc (neg:Bool) (x:Sc)
 |IX (neg:Bool) (x:Sc)
 |ME (m sz:Nat) (x:Sc)
 |Lp (ty sz:Nat) (x:Sc)
 |EP (neg:Bool) (ls:List LK) (x y:Sc)
 |YY (op:BinOp) (x y:Sc)
 |un (op:UnOp) (x:Sc)
 |conv (k:IntKind) (x:Sc)
 |RG (x:Sc)
 |s2b (ty:Nat) (x:Sc)
 |Xl (x:Sc)
 |QH (g:Nat) (cs:List Sc)
 |bF (off:Nat) (x:Sc)
 |IY (ag:Bool) (off n:Nat) (x:Sc)
 |IZ (sz:Nat) (x i:Sc)
 |aE (m sz:Nat) (x i:Sc)
 |CX (ag:Bool) (m sz:Nat) (x i:Sc)
 |RH (x i:Sc)
 |gO (ty sz:Nat) (x:Sc) (lo hi mx:Option Sc)
 |rn (m sz:Nat) (x:Sc) (lo hi mx:Option Sc)
 |RI (x:Sc) (lo hi:Option Sc)
 |ext (x:Sc) (i:Nat)
 |call (g:Nat) (as:List Sc)
 |fH (f:Sc) (as:List Sc)
 |lX (f:Sc) (as:List Sc)
 |lY (f:Sc) (as:List Sc)
 |dU (g:Nat) (as:List Sc)
 |MF (n:Nat)
 |og (x:Sc)
 |MG (x:Sc)
 |mm (mx:Bool) (as:List Sc)
 |app (ty sz:Nat) (s x:Sc)
 |I5 (ty:Nat) (s x:Sc)
 |FI (ty sz:Nat) (z:List AV) (s x:Sc)
 |Xm (ty sz:Nat) (z:List AV) (l c:Sc)
 |copy (sz:Nat) (x y:Sc)
 |MH (k:Nat) (ka va:Bool) (sz:Nat)
 |Xo (ls:List LK) (ag va:Bool) (z:AV) (ok:Bool) (x key:Sc)
 |Iu (ls:List LK) (ag va:Bool) (x key v:Sc)
 |YZ (ls:List LK) (ag va:Bool) (z:AV) (x key:Sc)
 |Y0 (va:Bool) (x st v:Sc)
 |MI (ls:List LK) (ag:Bool) (x key:Sc)
 |enc (ls:List LK) (ag:Bool) (x key:Sc)
 |RJ (ls:List LK) (ag:Bool) (x key:Sc)
 |RK (x:Sc)
 |Xp (x:Sc)
 |Mp (x:Sc)
 |oT (m sz:Nat) (x:Sc) (lo hi:Option Sc)
 |FJ (x:Sc)
 |AE (sz:Nat) (x h:Sc)
 |Lq (x:Sc)
structure bU where
 d:Option Nat
 g:Option (Nat × Bool)
 o:vq
inductive cE where
 |bad
 |skip
 |ret
 |exit (id:Nat)
 |ops (l:List bU)
 |draw (ms:List Nat) (us:List (List Nat)) (l:List bU)
 |Lr (ms:List Nat) (us:List (List Nat)) (l l2:List bU)
 |seq (a b:cE)
 |cond (c:Sc) (a b:cE)
 |block (id:Nat) (c:cE)
 |loop (c:cE)
 |pY (ls:List Nat) (c:cE)
 |scope (c:cE)
 |sP (f:Sc) (ps:List Nat) (I6 body:cE)
inductive wS where
 |t (n:Nat)
 |cell (a:Nat) (ag:Bool) (n:Nat)
structure bz where
 np:Nat
 rs:List wS
 body:cE
inductive bG where
 |var (ty:Nat) (row:List AV)
 |arr (ty sz:Nat) (es:List (List AV))
 |map (k:Nat) (ka va:Bool) (dn:Dn) (sz:Nat) (es:List (List AV))
def bG.aS:bG->bf
 | .var ty row=>⟨ty,row.length,[row],none⟩
 | .arr ty sz es=>⟨ty,sz,es,none⟩
 | .map k ka va dn sz es=>⟨0,sz,es,some (k,ka,va,dn)⟩
abbrev ah:=List (Nat × bG)
def ar:ah->Mem
 |[]=>[]
 |(n,b)::r=>(n,b.aS)::ar r
structure rp(b:Bool)(X Y:Prop):Prop where
 t:b=true->X
 f:b=false->Y
structure I7(k:IntKind)(n:Int)(K:Int->Prop):Prop where
 h:K (wr k n)
structure I8(es:List (List AV))(i:Nat)(K:List AV->Prop):Prop where
 h:K (es.getD i [])
structure Xq(i:Int)(m:Nat)(K:Nat->Prop):Prop where
 h:(0<=i/\i< (m:Int))/\K i.toNat
theorem rp.sound{b:Bool}{X Y:Prop}(h:rp b X Y):(b=true/\X)\/(b=false/\Y):=by
 cases b
 ·exact .inr ⟨rfl,h.f rfl⟩
 ·exact .inl ⟨rfl,h.t rfl⟩
abbrev KS:=aT->ah->Nat->Prop
def nO:aT->Nat->(AV->Prop)->Prop
 |[],_,K=>K .bad
 |(j,v)::r,i,K=>bif Nat.beq i j then K v else nO r i K
theorem bS(a b:Nat):Nat.beq a b=(a==b):=by
 by_cases h:a=b
 ·subst h; simp
 ·have:(a==b)=false:=by simpa using h
  rw[this]; exact Bool.eq_false_iff.2 (fun e=>h (Nat.eq_of_beq_eq_true e))
theorem ig:∀(F:aT)(i:Nat)(K:AV->Prop),nO F i K=K (look F i)
 |[],_,_=>rfl
 |(j,v)::r,i,K=>by
  simp only[nO,look,bS]
  cases i==j
  ·exact ig r i K
  ·rfl
def Env.cl(R:Env)(g:Nat)(cs:List AV):AV:= .bL (.fn (R.ft g)) cs
def dy(R:Env)(F:aT):Sc->(AV->Prop)->Prop
 | .t n,K=>nO F n K
 | .k v,K=>K v
 | .f g,K=>K (R.cl g [])
def lZ(R:Env)(F:aT):Sc->AV
 | .t n=>look F n
 | .k v=>v
 | .f g=>R.cl g []
theorem aI(R:Env)(F:aT)(x:Sc)(K:AV->Prop):dy R F x K=K (lZ R F x):=by
 cases x
 ·exact ig _ _ _
 ·rfl
 ·rfl
def sQ(R:Env)(F:aT):List Sc->(List AV->Prop)->Prop
 |[],K=>K []
 |x::r,K=>dy R F x fun v=>sQ R F r fun l=>K (v::l)
theorem gq(R:Env)(F:aT):∀(l:List Sc)(K:List AV->Prop),sQ R F l K=K (l.map (lZ R F))
 |[],_=>rfl
 |x::r,K=>by simp only[sQ,aI,gq R F r,List.map_cons]
def wT(R:Env)(F:aT):Option Sc->(Option AV->Prop)->Prop
 |none,K=>K none
 |some x,K=>dy R F x fun v=>K (some v)
theorem wU(R:Env)(F:aT)(x:Option Sc)(K:Option AV->Prop):wT R F x K=K (x.map (lZ R F)):=by
 cases x
 ·rfl
 ·simp only[wT,aI,Option.map_some]
def aJ(d:Option Nat)(v:AV)(F:aT)(M:ah)(nx:Nat)(K:KS):Prop:=
 match d with
 |none=>K F M nx
 |some i=>K ((i,v)::F) M nx
def B2(F:aT):List Nat->(aT->Prop)->Prop
 |[],K=>K []
 |i::r,K=>nO F i fun v=>B2 F r fun F'=>K ((i,v)::F')
theorem sR{F:aT}:∀{l:List Nat}{K:aT->Prop},B2 F l K->∃F',(∀i,look F' i=look F i\/ look F' i= .bad)/\K F'
 |[],K,h=>⟨[],fun _=> .inr rfl,h⟩
 |i::r,K,h=>by
  simp only[B2,ig]at h
  obtain⟨F',h1,h2⟩:=sR (l:=r) (K:=fun F'=>K ((i,look F i)::F')) h
  refine⟨(i,look F i)::F',fun j=> ?_,h2⟩
  by_cases e:j=i
  ·subst e; left; simp[look]
  ·have:(j==i)=false:=by simpa using e
   simp only[look,this,cond_false]
   exact h1 j
def cG:ah->Nat->(bG->Prop)->Prop
 |[],_,_=>False
 |(m,b)::r,n,K=>bif Nat.beq n m then K b else cG r n K
theorem aP:∀{M:ah}{n:Nat}{K:bG->Prop},cG M n K->∃b,aa (ar M) n=some b.aS/\K b
 |[],_,_,h=>h.elim
 |(m,b)::r,n,K,h=>by
  simp only[cG,bS]at h
  simp only[ar,aa]
  cases hb:n==m with
  |true=>rw[hb]at h; exact⟨b,rfl,h⟩
  |false=>rw[hb]at h; exact aP (M:=r) h
def ii:ah->Nat->bG->(ah->Prop)->Prop
 |[],n,b,K=>K [(n,b)]
 |(m,c)::r,n,b,K=>bif Nat.beq n m then K ((m,b)::r)else ii r n b fun r'=>K ((m,c)::r')
theorem bT:∀{M:ah}{n:Nat}{b:bG}{K:ah->Prop},ii M n b K->∃M',ar M'=gB (ar M) n b.aS/\K M'
 |[],n,b,K,h=>⟨_,rfl,h⟩
 |(m,c)::r,n,b,K,h=>by
  simp only[ii,bS]at h
  simp only[ar,gB]
  cases hb:n==m with
  |true=>rw[hb]at h; exact⟨_,rfl,h⟩
  |false=>
   rw[hb]at h
   obtain⟨M',h1,h2⟩:=bT (M:=r) (K:=fun r'=>K ((m,c)::r')) h
   exact⟨_,by simp only[ar,h1]; rfl,h2⟩
theorem rU(M:ah)(n:Nat)(b:bG):aa (ar ((n,b)::M))=aa (gB (ar M) n b.aS):=by
 funext m
 rw[mO]
 simp only[ar,aa]
 by_cases h:m=n
 ·subst h; simp
 ·have:(m==n)=false:=by simpa using h
  simp[this,h]
def yd:ah->Nat->(ah->Prop)->Prop
 |[],_,K=>K []
 |(m,c)::r,n,K=>bif Nat.beq n m then yd r n K else yd r n fun r'=>K ((m,c)::r')
theorem oh:∀{M:ah}{n:Nat}{K:ah->Prop},yd M n K->∃M',(∀m,aa (ar M') m=if m=n then none else aa (ar M) m)/\K M'
 |[],n,K,h=>⟨[],fun m=>by simp[ar,aa],h⟩
 |(i,c)::r,n,K,h=>by
  simp only[yd,bS]at h
  cases hb:n==i with
  |true=>
   rw[hb]at h
   obtain⟨M',h1,h2⟩:=oh (M:=r) h
   obtain rfl:n=i:=by simpa using hb
   refine⟨M',fun m=> ?_,h2⟩
   rw[h1 m]
   by_cases e:m=n
   ·simp[e]
   ·have:(m==n)=false:=by simpa using e
    simp[ar,aa,this]
  |false=>
   rw[hb]at h
   obtain⟨M',h1,h2⟩:=oh (M:=r) (K:=fun r'=>K ((i,c)::r')) h
   refine⟨_,fun m=> ?_,h2⟩
   simp only[ar,aa]
   by_cases e:m=i
   ·subst e
    have hne:¬m=n:=fun e2=>by subst e2; simp at hb
    simp[hne]
   ·have:(m==i)=false:=by simpa using e
    simp only[this,cond_false]
    exact h1 m
def oU:Nat->List AV->(List AV->Prop)->Prop
 |0,_,K=>K []
 |n+1,c::r,K=>oU n r fun l=>K (c::l)
 |_+1,[],_=>False
theorem kO:∀{n:Nat}{cs:List AV}{K:List AV->Prop},oU n cs K->(cs.take n).length=n/\K (cs.take n)
 |0,_,_,h=>⟨rfl,h⟩
 |n+1,c::r,K,h=>by
  obtain⟨h1,h2⟩:=kO (K:=fun l=>K (c::l)) h
  exact⟨by simp only[List.take_succ_cons,List.length_cons,h1],by simpa using h2⟩
 |_+1,[],_,h=>h.elim
def Ls(n:Nat)(cs:List AV)(K:AV->Prop):Prop:=
 match n,cs with
 |1,c::_=>K c
 |_,_=>False
def FK(ag:Bool)(n:Nat)(cs:List AV)(K:AV->Prop):Prop:=
 match ag with
 |true=>oU n cs fun l=>K (.agg l)
 |false=>Ls n cs K
def nP(ag:Bool)(n:Nat):Nat->List AV->(AV->Prop)->Prop
 |0,cs,K=>FK ag n cs K
 |off+1,_::r,K=>nP ag n off r K
 |_+1,[],_=>False
theorem jf{ag:Bool}{n:Nat}:∀{off:Nat}{cs:List AV}{K:AV->Prop},nP ag n off cs K->apart ag n off cs K
 |0,cs,K,h=>by
  simp only[nP,FK]at h
  simp only[apart,List.drop_zero]
  cases ag with
  |true=>
   simp only at h
   obtain⟨h1,h2⟩:=kO h
   exact aF (by simp only[h1,beq_self_eq_true]) h2
  |false=>
   simp only[Ls]at h
   split at h
   ·exact aF rfl (aF rfl h)
   ·exact False.elim h
 |off+1,c::r,K,h=>by
  have:=jf (off:=off) (cs:=r) h
  simpa[apart]using this
 |_+1,[],_,h=>h.elim
def vr:List AV->List AV->(List AV->Prop)->Prop
 |[],cs,K=>K cs
 |v::r,_::cs,K=>vr r cs fun l=>K (v::l)
 |_::_,[],_=>False
def iJ:Nat->List AV->List AV->(List AV->Prop)->Prop
 |0,vs,cs,K=>vr vs cs K
 |off+1,vs,c::cs,K=>iJ off vs cs fun l=>K (c::l)
 |_+1,_,[],_=>False
theorem sS:∀{vs cs:List AV}{K:List AV->Prop},vr vs cs K->vs.length<=cs.length/\K (vs++cs.drop vs.length)
 |[],cs,K,h=>⟨Nat.zero_le _,by simpa[vr]using h⟩
 |v::r,c::cs,K,h=>by
  obtain⟨h1,h2⟩:=sS (vs:=r) (cs:=cs) (K:=fun l=>K (v::l)) h
  exact⟨by simpa using h1,by simpa using h2⟩
 |_::_,[],_,h=>h.elim
theorem fq:∀{off:Nat}{vs cs:List AV}{K:List AV->Prop},iJ off vs cs K->off+vs.length<=cs.length/\K (bH off vs cs)
 |0,vs,cs,K,h=>by
  obtain⟨h1,h2⟩:=sS h
  exact⟨by omega,by simpa[bH]using h2⟩
 |off+1,vs,c::cs,K,h=>by
  obtain⟨h1,h2⟩:=fq (off:=off) (vs:=vs) (cs:=cs) (K:=fun l=>K (c::l)) h
  refine⟨by simp only[List.length_cons]; omega,?_⟩
  have e:bH (off+1) vs (c::cs)=c::bH off vs cs:=by
   simp only[bH,List.take_succ_cons,List.cons_append]
   congr 3
   rw[show off+1+vs.length=(off+vs.length)+1 by omega,List.drop_succ_cons]
  rw[e]; exact h2
 |_+1,_,[],_,h=>h.elim
def kP(v:AV)(K:List AV->Prop):Prop:=
 match v with
 | .agg cs=>K cs
 | .bad=>False
 | .aG _=>False
 | .int k n=>K [.int k n]
 | .bool b=>K [.bool b]
 | .str s=>K [.str s]
 | .ax=>K [.ax]
 | .ab=>K [.ab]
 | .af=>K [.af]
 | .dj=>K [.dj]
 | .bQ=>K [.bQ]
 | .oC _ _=>False
 | .loc n len i off=>K [.loc n len i off]
 | .bi n len=>K [.bi n len]
 | .dp n len i off cnt=>K [.dp n len i off cnt]
 | .omap n=>K [.omap n]
 | .aH sz es=>K [.aH sz es]
 | .be e off=>K [.be e off]
 | .bL f cs=>K [.bL f cs]
theorem cV{v:AV}{K:List AV->Prop}(h:kP v K):bI v=true/\K (cells v):=by
 cases v<;>first|exact⟨rfl,h⟩|exact h.elim
def sT(vs:List AV)(n:Nat)(K:Prop):Prop:=bif Nat.beq vs.length n then K else False
theorem jg{vs:List AV}{n:Nat}{K:Prop}(h:sT vs n K):vs.length=n/\K:=by
 unfold sT at h
 cases hb:Nat.beq vs.length n with
 |true=>rw[hb]at h; exact⟨Nat.eq_of_beq_eq_true hb,h⟩
 |false=>rw[hb]at h; exact h.elim
def CY(R:Env)(F:aT):List (Nat × Nat × Sc)->List AV->(List AV->Prop)->Prop
 |[],cs,K=>K cs
 |(off,n,x)::r,cs,K=>dy R F x fun v=>kP v fun vs=>sT vs n (iJ off vs cs fun cs'=>CY R F r cs' K)
def MJ:Nat->List AV->List (List AV)->(List (List AV)->Prop)->Prop
 |0,v,_::r,K=>K (v::r)
 |n+1,v,e::r,K=>MJ n v r fun l=>K (e::l)
 |_,_,[],_=>False
theorem vt:∀{i:Nat}{v:List AV}{es:List (List AV)}{K:List (List AV)->Prop},MJ i v es K->i<es.length/\K (es.set i v)
 |0,v,e::r,K,h=>⟨by simp,h⟩
 |n+1,v,e::r,K,h=>by
  obtain⟨h1,h2⟩:=vt (K:=fun l=>K (e::l)) h
  exact⟨by simpa using h1,by simpa using h2⟩
 |0,_,[],_,h=>h.elim
 |_+1,_,[],_,h=>h.elim
def MK(z:List AV):Nat->(List (List AV)->Prop)->Prop
 |0,K=>K []
 |n+1,K=>MK z n fun l=>K (z::l)
theorem vu{z:List AV}:∀{n:Nat}{K:List (List AV)->Prop},MK z n K->K (List.replicate n z)
 |0,_,h=>h
 |n+1,K,h=>by
  have:=vu (K:=fun l=>K (z::l)) h
  simpa[List.replicate_succ]using this
def vw:Nat->List AV->(List AV->Prop)->Prop
 |0,r,K=>K r
 |n+1,_::r,K=>vw n r K
 |_+1,[],_=>False
def ML:Nat->List AV->(List AV->List AV->Prop)->Prop
 |0,r,K=>K [] r
 |n+1,c::r,K=>ML n r fun l r'=>K (c::l) r'
 |_+1,[],_=>False
def ye(sz:Nat):Nat->List AV->(List (List AV)->Prop)->Prop
 |0,_,K=>K []
 |n+1,r,K=>ML sz r fun l r'=>ye sz n r' fun es=>K (l::es)
theorem kQ:∀{n:Nat}{r:List AV}{K:List AV->Prop},vw n r K->n<=r.length/\K (r.drop n)
 |0,_,_,h=>⟨Nat.zero_le _,h⟩
 |n+1,c::r,K,h=>by
  obtain⟨h1,h2⟩:=kQ (n:=n) (r:=r) h
  exact⟨by simpa using h1,by simpa using h2⟩
 |_+1,[],_,h=>h.elim
theorem vx:∀{n:Nat}{r:List AV}{K:List AV->List AV->Prop},ML n r K->n<=r.length/\K (r.take n) (r.drop n)
 |0,_,_,h=>⟨Nat.zero_le _,h⟩
 |n+1,c::r,K,h=>by
  obtain⟨h1,h2⟩:=vx (n:=n) (r:=r) (K:=fun l r'=>K (c::l) r') h
  exact⟨by simpa using h1,by simpa using h2⟩
 |_+1,[],_,h=>h.elim
theorem oi{sz:Nat}:∀{n:Nat}{r:List AV}{K:List (List AV)->Prop},ye sz n r K->n*sz<=r.length/\K (pL sz n r)
 |0,_,_,h=>⟨by simp,h⟩
 |n+1,r,K,h=>by
  obtain⟨h1,h2⟩:=vx h
  obtain⟨h3,h4⟩:=oi (n:=n) (r:=r.drop sz) (K:=fun es=>K (r.take sz::es)) h2
  refine⟨?_,h4⟩
  rw[List.length_drop]at h3
  rw[Nat.add_mul,Nat.one_mul]; omega
def B3(R:Env)(F:aT)(sz:Nat):List (Nat × Sc)->List (List AV)->(List (List AV)->Prop)->Prop
 |[],es,K=>K es
 |(i,x)::r,es,K=>dy R F x fun v=>kP v fun vs=>sT vs sz (MJ i vs es fun es'=>B3 R F sz r es' K)
end Go.AM
namespace Go.AM
open Go.RowKit
variable {X:bM}
theorem gP{cs:List AV}{j n:Nat}(hj:j<cs.length)(hn:n ∈ (cs.getD j .bad).names):n ∈ AV.au cs:=by
 induction cs generalizing j with
 |nil=>simp at hj
 |cons c cs ih=>
  simp only[AV.au,List.mem_append]
  cases j with
  |zero=>left; simpa using hn
  |succ j=>right; exact ih (j:=j) (by simpa using hj) (by simpa using hn)
inductive Fz(D:Nat->Prop)(M:Mem):AV->AV->Prop
 |same (v:AV) (h:v.names=[]):Fz D M v v
 |ab (sz:Nat):Fz D M .ab (.aH sz [])
 |bi (n:Nat) (b:bf) (es:List (List AV)) (hD:D n) (hb:aa M n=some b) (hmp:b.mp=none) (hl:es.length=b.es.length) (hs:∀i,i<es.length->(es.getD i []).length=(b.es.getD i []).length)
   (h:∀i j,i<es.length->j<b.sz->Fz D M ((b.es.getD i []).getD j .bad) ((es.getD i []).getD j .bad)):Fz D M (.bi n b.es.length) (.aH b.sz es)
 |loc (n i off:Nat) (b:bf) (row:List AV) (hD:D n) (hb:aa M n=some b) (hmp:b.mp=none) (hi:i<b.es.length) (hl:row.length=(b.es.getD i []).length)
   (h:∀j,j<b.sz->Fz D M ((b.es.getD i []).getD j .bad) (row.getD j .bad)):Fz D M (.loc n b.es.length i off) (.be row off)
 |dp (n i off cnt sz:Nat) (b:bf) (es:List (List AV)) (hD:D n) (hb:aa M n=some b) (hmp:b.mp=none) (hi:i<b.es.length) (hs:AV.au (b.es.getD i [])=[]) (hl:es.length=cnt) (he:∀e ∈ es,e.length=sz)
   (hc:∀a j,a<cnt->j<sz->off+a*sz+j<b.sz/\(es.getD a []).getD j .bad=(b.es.getD i []).getD (off+a*sz+j) .bad):Fz D M (.dp n b.es.length i off cnt) (.aH sz es)
 |bL (f:EX) (cs ds:List AV) (hl:ds.length=cs.length) (h:∀j,j<cs.length->Fz D M (cs.getD j .bad) (ds.getD j .bad)):Fz D M (.bL f cs) (.bL f ds)
 |agg (cs ds:List AV) (hl:ds.length=cs.length) (h:∀j,j<cs.length->Fz D M (cs.getD j .bad) (ds.getD j .bad)):Fz D M (.agg cs) (.agg ds)
 |aG (cs ds:List AV) (hl:ds.length=cs.length) (h:∀j,j<cs.length->Fz D M (cs.getD j .bad) (ds.getD j .bad)):Fz D M (.aG cs) (.aG ds)
theorem hJ:∀{cs:List AV},(∀j,j<cs.length->(cs.getD j .bad).names=[])->AV.au cs=[]
 |[],_=>rfl
 |c::r,h=>by
  simp only[AV.au,List.append_eq_nil_iff]
  exact⟨by simpa using h 0 (by simp),hJ (fun j hj=>by simpa using h (j+1) (by simpa using hj))⟩
theorem Fz.names{D:Nat->Prop}{M:Mem}{v a:AV}(h:Fz D M v a):a.names=[]:=by
 induction h with
 |same v h=>exact h
 |ab=>rfl
 |bi=>rfl
 |loc=>rfl
 |dp=>rfl
 |bL f cs ds hl h ih=>simp only[AV.names]; exact hJ (fun j hj=>ih j (by omega))
 |agg cs ds hl h ih=>simp only[AV.names]; exact hJ (fun j hj=>ih j (by omega))
 |aG cs ds hl h ih=>simp only[AV.names]; exact hJ (fun j hj=>ih j (by omega))
theorem qL:∀{l:List AV},AV.au l=[]->∀j,(l.getD j .bad).names=[]
 |[],_,j=>by simp[AV.names]
 |a::l,h,j=>by
  simp only[AV.au,List.append_eq_nil_iff]at h
  cases j with
  |zero=>simpa using h.1
  |succ j=>simpa using qL (l:=l) h.2 j
theorem Fz.sound{D:Nat->Prop}{M:Mem}{ρ:Place}{I:Nat->Prop}{w:World}{N:Nat->Prop}(hW:bZ X ρ I (aa M) N w){v a:AV}(h:Fz D M v a):∀{u:Value},aM ρ (lens (aa M)) I w N v u->
  aM df gN (fun g=>I g\/∃n cap b,D n/\aa M n=some b/\ρ n=some (g,cap)) w cI a u:=by
 have E:mN N ρ (lens (aa M)) I w ρ (lens (aa M)) (fun g=>I g\/∃n cap b,D n/\aa M n=some b/\ρ n=some (g,cap)) w:=⟨fun _ _ _ _ _ _=>rfl,fun _ len _ _ h=>⟨len,h,Nat.le_refl _⟩,fun b hb=> .inl hb,fun _ _=>rfl⟩
 induction h with
 |same v h=>exact fun hr=>(hr.rK E (fun _ h=>h)).alone h _ _
 |ab sz=>
  intro u hr
  cases hr
  exact .cJ _ _ _ (by simp[maxLen])
 |bi n b es hD hb hmp hl hs h ih=>
  intro u hr
  have dt:lens (aa M) n=some (b.es.length,b.sz):=by rw[aA]; exact⟨b,hb,bf.bX hmp,rfl⟩
  have B:=hW.aS n b hb
  obtain⟨hn,⟨h0,q,hv⟩|⟨g,cap,hρ,hv⟩⟩:=gY hr dt
  ·have he:=B.dX h0
   rw[he]at hl
   have he':es=[]:=List.eq_nil_of_length_eq_zero (by simpa using hl)
   rw[hv,he']
   exact .cJ _ _ _ (by simp[maxLen])
  ·obtain⟨cs,fr,hg,nH,nU,hown,hlc,lJ,hcs,iI⟩:=B.real g cap hρ
   have hg:=hg.cells hmp
   rw[hv,<-hl]
   refine .aH b.sz es g 0 cap (fun i j=>(cs[i*b.sz+j]?).getD undef) (by omega) lJ (.inr ⟨n,cap,b,hD,hb,hρ⟩) (fun e he=> ?_) (fun i j hi hj=> ?_) (fun i j hi hj=> ?_) (fun i j hi hj=> ?_)
   ·obtain⟨i,hi,rfl⟩:=List.getElem_of_mem he
    have h1:=hs i hi
    have h2:es.getD i []=es[i]:=by simp[List.getD_eq_getElem?_getD,hi]
    have h3:b.es.getD i []=b.es[i]'(by omega):=by simp[List.getD_eq_getElem?_getD,show i<b.es.length by omega]
    rw[<-h2,h1,h3]
    exact B.even _ (List.getElem_mem _)
   ·obtain⟨u,hu,h1,_⟩:=iI i j (by omega) hj
    rw[hu]; exact h1
   ·obtain⟨u,hu,h1,_⟩:=iI i j (by omega) hj
    simp only[World.cell?,hg,Nat.zero_add,hu]; rfl
   ·obtain⟨u,hu,h1,hr⟩:=iI i j (by omega) hj
    rw[hu]
    exact ih i j hi hj hr
 |loc n i off b row hD hb hmp hi hl h ih=>
  intro u hr
  have dt:lens (aa M) n=some (b.es.length,b.sz):=by rw[aA]; exact⟨b,hb,bf.bX hmp,rfl⟩
  have B:=hW.aS n b hb
  obtain⟨hn,g,cap,hρ,hv⟩:=fJ hr dt
  obtain⟨cs,fr,hg,nH,nU,hown,hlc,lJ,hcs,iI⟩:=B.real g cap hρ
  have hg:=hg.cells hmp
  have hrow:(b.es.getD i []).length=b.sz:=by
   have h3:b.es.getD i []=b.es[i]:=by simp[List.getD_eq_getElem?_getD,hi]
   rw[h3]; exact B.even _ (List.getElem_mem _)
  rw[hv]
  refine .be row off g (i*b.sz) (fun j=>(cs[i*b.sz+j]?).getD undef) (.inr ⟨n,cap,b,hD,hb,hρ⟩) (fun j hj=> ?_) (fun j hj=> ?_) (fun j hj=> ?_)
  ·obtain⟨u,hu,h1,_⟩:=iI i j hi (by omega)
   rw[hu]; exact h1
  ·obtain⟨u,hu,h1,_⟩:=iI i j hi (by omega)
   simp only[World.cell?,hg,hu]; rfl
  ·obtain⟨u,hu,h1,hr⟩:=iI i j hi (by omega)
   rw[hu]
   exact ih j (by omega) hr
 |dp n i off cnt sz b es hD hb hmp hi hs hl he hc=>
  intro u hr
  have dt:lens (aa M) n=some (b.es.length,b.sz):=by rw[aA]; exact⟨b,hb,bf.bX hmp,rfl⟩
  have B:=hW.aS n b hb
  obtain⟨hn,g,cap,c,oj,hv,MM,MN⟩:=jz hr dt
  obtain⟨cs,fr,hg,nH,nU,hown,hlc,lJ,hcs,iI⟩:=B.real g cap oj
  have hg:=hg.cells hmp
  rw[hv]
  subst hl
  have pos:∀a j,i*b.sz+off+a*sz+j=i*b.sz+ (off+a*sz+j):=fun a j=>by omega
  refine .aH sz es g (i*b.sz+off) c (fun a j=>(cs[i*b.sz+ (off+a*sz+j)]?).getD undef) MM MN (.inr ⟨n,cap,b,hD,hb,oj⟩) he (fun a j ha hj=> ?_) (fun a j ha hj=> ?_) (fun a j ha hj=> ?_)
  ·obtain⟨u,hu,h1,_⟩:=iI i (off+a*sz+j) hi (hc a j ha hj).1
   rw[hu]; exact h1
  ·obtain⟨u,hu,h1,_⟩:=iI i (off+a*sz+j) hi (hc a j ha hj).1
   simp only[World.cell?,hg,pos,hu]; rfl
  ·obtain⟨u,hu,h1,hr⟩:=iI i (off+a*sz+j) hi (hc a j ha hj).1
   rw[hu,(hc a j ha hj).2]
   have hnm:((b.es.getD i []).getD (off+a*sz+j) .bad).names=[]:=qL hs _
   exact (hr.rK E (fun _ h=>h)).alone hnm _ _
 |bL f cs ds hl h ih=>
  intro u hr
  cases hr with
  |bL f _ vs hvl hr=>exact .bL f ds vs (by omega) (fun j hj=>ih j (by omega) (hr j (by omega)))
  |qn f _ vs hvl hr=>exact .qn f ds vs (by omega) (fun j hj=>ih j (by omega) (hr j (by omega)))
 |agg cs ds hl h ih=>
  intro u hr
  cases hr with
  |agg _ vs hvl h1 hr=>exact .agg ds vs (by omega) h1 (fun j hj=>ih j (by omega) (hr j (by omega)))
 |aG cs ds hl h ih=>
  intro u hr
  cases hr with
  |aG _ vs hvl hr=>exact .aG ds vs (by omega) (fun j hj=>ih j (by omega) (hr j (by omega)))
structure uM(row:List AV)(off cnt sz:Nat)(es:List (List AV)):Prop where
 eq:es=(List.range cnt).map fun a=>(row.drop (off+a*sz)).take sz
 fit:Nat.ble (off+cnt*sz) row.length=true
 nm:AV.au row=[]
theorem uM.cells{row:List AV}{off cnt sz:Nat}{es:List (List AV)}(h:uM row off cnt sz es):es.length=cnt/\(∀e ∈ es,e.length=sz)/\
  ∀a j,a<cnt->j<sz->off+a*sz+j<row.length/\(es.getD a []).getD j .bad=row.getD (off+a*sz+j) .bad:=by
 obtain⟨h1,h2,h3⟩:=h
 subst h1
 have h2:=Nat.le_of_ble_eq_true h2
 have key:∀a,a<cnt->a*sz+sz<=cnt*sz:=fun a ha=>by
  have:=Nat.mul_le_mul_right sz (show a+1<=cnt by omega)
  rw[Nat.succ_mul]at this; exact this
 refine⟨by simp,fun e he=> ?_,fun a j ha hj=> ?_⟩
 ·obtain⟨a,ha,rfl⟩:=List.mem_map.1 he
  have:=key a (List.mem_range.1 ha)
  simp; omega
 ·have:=key a ha
  refine⟨by omega,?_⟩
  simp only[List.getD_eq_getElem?_getD,List.getElem?_map,List.getElem?_range ha,Option.map_some,Option.getD_some]
  rw[List.getElem?_take_of_lt hj,List.getElem?_drop]
end Go.AM
namespace Go.AM
open Go.RowKit
variable {R:Env} {X:bM}
inductive Mt(D:Nat->Prop)(M M':Mem)(nx:Nat):AV->AV->Prop
 |same (v:AV):Mt D M M' nx v v
 |drop (v:AV):Mt D M M' nx v .bad
 |fz (v a:AV) (h:Fz D M v a):Mt D M M' nx v a
 |dX (n:Nat) (b:bf) (hb:aa M' n=some b) (he:b.es=[]) (hn:nx<=n):Mt D M M' nx .ab (.bi n 0)
 |bL (f:EX) (cs ds:List AV) (hl:ds.length=cs.length) (h:∀j,j<cs.length->Mt D M M' nx (cs.getD j .bad) (ds.getD j .bad)):Mt D M M' nx (.bL f cs) (.bL f ds)
 |agg (cs ds:List AV) (hl:ds.length=cs.length) (h:∀j,j<cs.length->Mt D M M' nx (cs.getD j .bad) (ds.getD j .bad)):Mt D M M' nx (.agg cs) (.agg ds)
 |aG (cs ds:List AV) (hl:ds.length=cs.length) (h:∀j,j<cs.length->Mt D M M' nx (cs.getD j .bad) (ds.getD j .bad)):Mt D M M' nx (.aG cs) (.aG ds)
def aU(d d':Dn):Prop:=d'=d\/ d'= .b false
@[refl] theorem aU.refl(d:Dn):aU d d:= .inl rfl
theorem aU.fg{d:Dn}:aU d (.b false):= .inr rfl
def Lt(d d':Dn):Prop:=match d' with
 | .b x=>aU d (.b x)
 | .it _ _ _=>False
def AF(r:Dn->Dn->Prop)(m m':Option (Nat × Bool × Bool × Dn)):Prop:=match m,m' with
 |none,none=>True
 |some (k,ka,va,d),some (k',Iq,Ir,d')=>k=k'/\ka=Iq/\va=Ir/\r d d'
 |_,_=>False
theorem AF.refl(m:Option (Nat × Bool × Bool × Dn)):AF aU m m:=by
 rcases m with _|⟨k,ka,va,d⟩
 ·trivial
 ·exact⟨rfl,rfl,rfl,.inl rfl⟩
theorem AF.ln{r:Dn->Dn->Prop}{b b':bf}(h:AF r b.mp b'.mp)(hl:b.es.length=b'.es.length):b.ln=b'.ln:=by
 unfold bf.ln
 generalize b.mp=m at h ⊢
 generalize b'.mp=m' at h ⊢
 cases m<;>cases m'<;>first|exact h.elim|exact hl|rfl
theorem aU.all{d d':Dn}(h:aU d d')(ha:d'.all=true):d.all=true:=by
 rcases h with rfl|rfl
 ·exact ha
 ·exact Bool.noConfusion ha
theorem Lt.le{d d':Dn}(h:Lt d d'):aU d d':=by cases d'<;>first|exact h|exact False.elim h
theorem Lt.all{d d':Dn}(h:Lt d d')(ha:d'.all=true):d.all=true:=h.le.all ha
theorem Lt.no{d:Dn}{r:Nat}{sn:List Bool}{la:Option Nat}(h:Lt d (.it r sn la)):False:=h
theorem aU.it{d:Dn}{r:Nat}{sn:List Bool}{la:Option Nat}(h:aU d (.it r sn la)):d= .it r sn la:=by
 rcases h with h|h
 ·exact h.symm
 ·cases h
theorem fD.le{r:Dn->Dn->Prop}(hr:∀d d',r d d'->d'.all=true->d.all=true){m m':Option (Nat × Bool × Bool × Dn)}{sz len ty:Nat}{o:Option Obj}{cs:Array Value}{fr:Nat × Nat}(h:fD m sz len o cs ty fr)(hm:AF r m m'):fD m' sz len o cs ty fr:=by
 rcases m with _|⟨k,ka,va,d⟩<;>rcases m' with _|⟨k',Iq,Ir,d'⟩
 ·exact h
 ·exact hm.elim
 ·exact hm.elim
 ·obtain⟨rfl,rfl,rfl,h4⟩:=hm
  obtain⟨en,ck,h1,h2,h3⟩:=h
  exact⟨en,ck,h1,h2,h3.key,h3.cell,h3.born,h3.clock,fun ha=>h3.den (hr _ _ h4 ha),h3.room⟩
structure Lu(D:Nat->Prop)(M M':Mem)(nx:Nat)(b b':bf):Prop where
 ty:b.ty=b'.ty
 sz:b.sz=b'.sz
 mp:AF aU b.mp b'.mp
 len:b.es.length=b'.es.length
 row:∀i,i<b.es.length->(b.es.getD i []).length=(b'.es.getD i []).length
 cell:∀i j,i<b.es.length->j<b.sz->Mt D M M' nx ((b.es.getD i []).getD j .bad) ((b'.es.getD i []).getD j .bad)
theorem Lu.ln{D:Nat->Prop}{M M':Mem}{nx:Nat}{b b':bf}(h:Lu D M M' nx b b'):b.ln=b'.ln:=h.mp.ln h.len
def Y1(nx:Nat)(b:bf):Prop:=∀e ∈ b.es,AV.fY (· <nx) e
structure Wk(X:bM)(S S':St):Prop where
 p:X.p<=S'.nx
 F:∀i,look S'.F i= .bad\/(Mt (fun n=>X.p<=n/\aa S'.M n=none) S.M S'.M S.nx (look S.F i) (look S'.F i)/\(S.nx<=S'.nx\/(look S'.F i).under (· <S'.nx)))
 M:∀n b',aa S'.M n=some b'->((∃b,aa S.M n=some b/\Lu (fun n=>X.p<=n/\aa S'.M n=none) S.M S'.M S.nx b b')/\(S.nx<=S'.nx\/(n<S'.nx/\Y1 S'.nx b')))\/(aa S.M n=none/\S.nx<=n/\n<S'.nx/\b'.es=[]/\b'.mp=none)
def l8(S:St)(ρ:Place):Place:=fun n=>if S.nx<=n then none else ρ n
def RL(X:bM)(S S':St)(ρ:Place)(I:Nat->Prop):Nat->Prop:=fun g=>I g\/∃n cap b,(X.p<=n/\aa S'.M n=none)/\aa S.M n=some b/\ρ n=some (g,cap)
theorem rV{S S':St}(h:Wk X S S'){w:World}{ρ:Place}{I:Nat->Prop}(W:bZ X ρ I (aa S.M) (· <S.nx) w):
  bZ X (l8 S ρ) (RL X S S' ρ I) (aa S'.M) (· <S'.nx) w/\∀v a u,aM ρ (lens (aa S.M)) I w (· <S.nx) v u->Mt (fun n=>X.p<=n/\aa S'.M n=none) S.M S'.M S.nx v a->(S.nx<=S'.nx\/ a.under (· <S'.nx))->aM (l8 S ρ) (lens (aa S'.M)) (RL X S S' ρ I) w (· <S'.nx) a u:=by
 obtain⟨hp,hF,hM⟩:=h
 let D:Nat->Prop:=fun n=>X.p<=n/\aa S'.M n=none
 let ρ':Place:=l8 S ρ
 let I':Nat->Prop:=RL X S S' ρ I
 have hlt:∀n b,aa S.M n=some b->n<S.nx:=fun n b h=>(W.aS n b h).lt
 have RM:∀n len sz,n<S.nx->lens (aa S'.M) n=some (len,sz)->lens (aa S.M) n=some (len,sz):=by
  intro n len sz hn hl
  obtain⟨b',hb',rfl,rfl⟩:=aA.1 hl
  rcases hM n b' hb' with⟨⟨b,hb,hB⟩,_⟩|⟨_,h2,_⟩
  ·exact aA.2 ⟨b,hb,hB.ln,hB.sz⟩
  ·omega
 have E:mN (· <S.nx) ρ (lens (aa S.M)) I w ρ' (lens (aa S'.M)) I' w:=by
  refine⟨fun n _ _ hn _ _=> ?_,fun n len sz hn h=>⟨len,RM n len sz hn h,Nat.le_refl _⟩,fun b hb=> .inl hb,fun _ _=>rfl⟩
  have:¬S.nx<=n:=by have:n<S.nx:=hn; omega
  simp[ρ',l8,this]
 have rM:∀v a,Mt D S.M S'.M S.nx v a->∀u,aM ρ (lens (aa S.M)) I w (· <S.nx) v u->aM ρ' (lens (aa S'.M)) I' w (fun _=>True) a u:=by
  intro v a hm
  induction hm with
  |same v=>exact fun u hr=>(hr.rK E (fun _ h=>h)).wide (fun _ _=>trivial)
  |drop v=>exact fun u _=> .bad u
  |fz v a h=>exact fun u hr=>((h.sound W hr).bare (fun _ h=>h) _ _).wide (fun _ h=>h.elim)
  |dX n b hb he hn=>
   intro u hr
   cases hr
   refine .bi n 0 _ trivial rfl fun l sz hl=> ?_
   obtain⟨b',hb',rfl,rfl⟩:=aA.1 hl
   rw[hb]at hb'
   cases hb'
   rw[bf.E0 he]
   exact⟨Nat.le_refl _,fun _=> .inl ⟨by simp[ρ',l8,hn],none,rfl⟩⟩
  |bL f cs ds hl h ih=>
   intro u hr
   cases hr with
   |bL f _ vs hvl hr=>exact .bL f ds vs (by omega) (fun j hj=>ih j (by omega) _ (hr j (by omega)))
   |qn f _ vs hvl hr=>exact .qn f ds vs (by omega) (fun j hj=>ih j (by omega) _ (hr j (by omega)))
  |agg cs ds hl h ih=>
   intro u hr
   cases hr with
   |agg _ vs hvl h1 hr=>exact .agg ds vs (by omega) h1 (fun j hj=>ih j (by omega) _ (hr j (by omega)))
  |aG cs ds hl h ih=>
   intro u hr
   cases hr with
   |aG _ vs hvl hr=>exact .aG ds vs (by omega) (fun j hj=>ih j (by omega) _ (hr j (by omega)))
 have bound:∀v a,Mt D S.M S'.M S.nx v a->(∀m ∈ v.names,m<S.nx)->S.nx<=S'.nx->∀m ∈ a.names,m<S'.nx:=by
  intro v a hm
  induction hm with
  |same v=>exact fun h hle m hm=>by have:=h m hm; omega
  |drop v=>intro _ _ m hm; simp[AV.names]at hm
  |fz v a h=>intro _ _ m hm; rw[h.names]at hm; simp at hm
  |dX n b hb he hn=>
   intro _ hle m hm
   simp[AV.names]at hm
   subst hm
   rcases hM m b hb with⟨⟨b0,hb0,_⟩,_⟩|⟨_,_,h,_⟩
   ·have:=hlt m b0 hb0; omega
   ·exact h
  |bL f cs ds hl h ih=>
   intro hv hle m hm
   simp only[AV.names]at hm
   obtain⟨j,hj,Fm⟩:=dw hm
   exact ih j (by omega) (fun m hm=>hv m (by simp only[AV.names]; exact gP (by omega) hm)) hle m Fm
  |agg cs ds hl h ih=>
   intro hv hle m hm
   simp only[AV.names]at hm
   obtain⟨j,hj,Fm⟩:=dw hm
   exact ih j (by omega) (fun m hm=>hv m (by simp only[AV.names]; exact gP (by omega) hm)) hle m Fm
  |aG cs ds hl h ih=>
   intro hv hle m hm
   simp only[AV.names]at hm
   obtain⟨j,hj,Fm⟩:=dw hm
   exact ih j (by omega) (fun m hm=>hv m (by simp only[AV.names]; exact gP (by omega) hm)) hle m Fm
 have low:∀v a u,aM ρ (lens (aa S.M)) I w (· <S.nx) v u->Mt D S.M S'.M S.nx v a->(S.nx<=S'.nx\/ a.under (· <S'.nx))->aM ρ' (lens (aa S'.M)) I' w (· <S'.nx) a u:=by
  intro v a u hr hm h
  refine (rM v a hm u hr).low ?_
  rcases h with h|h
  ·exact gn a (fun m hm'=>bound v a hm (fun m hm=>kf hr m hm) h m hm')
  ·exact h
 refine⟨⟨fun n b' hb'=> ?_,fun n m b b' g c c' hb hb' h1 h2=> ?_,fun g hg=> .inl (W.oA g hg),?_,?_,W.keeps,fun n hn=>by show n<S'.nx; omega,W.Cx,W.mP E⟩,low⟩
 ·rcases hM n b' hb' with⟨⟨b,hb,hB⟩,hu⟩|⟨h0,h1,hn,h2,hmn⟩
  ·have B:=W.aS n b hb
   have hnlt:=hlt n b hb
   have hn:n<S'.nx:=by rcases hu with h|h<;>omega
   have hu:S.nx<=S'.nx\/ Y1 S'.nx b':=hu.imp id (fun h=>h.2)
   have AG:l8 S ρ n=ρ n:=by simp only[l8]; rw[if_neg (by omega)]
   refine⟨hn,fun e he=> ?_,fun h0=> ?_,fun g cap hρ=> ?_,fun k ka va r sn la hb'=> ?_⟩
   rotate_right
   ·have hmp:=hB.mp
    rw[hb']at hmp
    obtain⟨k0,QI,QJ,d0,Y2⟩:∃k0 QI QJ d0,b.mp=some (k0,QI,QJ,d0):=by
     cases hm:b.mp with
     |none=>rw[hm]at hmp; exact hmp.elim
     |some q=>exact⟨_,_,_,_,rfl⟩
    rw[Y2]at hmp
    obtain⟨_,_,_,h4⟩:=hmp
    rw[h4.it]at Y2
    obtain⟨g,cap,hρ,i1,i2,i3⟩:=B.iter _ _ _ _ _ _ Y2
    refine⟨g,cap,by rw[AG]; exact hρ,i1,?_,i3⟩
    rintro (h|⟨m,c',bm,⟨_,Y3⟩,Y4,MO⟩)
    ·exact i2 h
    ·obtain⟨_,_,_,_,_,k2,_⟩:=i3
     obtain⟨_,_,hc1,_⟩:=(W.aS m bm Y4).real _ c' MO
     exact hc1.sg k2
   ·obtain⟨i,hi,rfl⟩:=List.getElem_of_mem he
    have h1:i<b.es.length:=by have:=hB.len; omega
    have h3:=hB.row i h1
    have h4:=B.even b.es[i] (List.getElem_mem _)
    rw[List.getD_eq_getElem?_getD,List.getD_eq_getElem?_getD,List.getElem?_eq_getElem hi,List.getElem?_eq_getElem h1,Option.getD_some,Option.getD_some]at h3
    have:=hB.sz
    omega
   ·rw[AG]at h0
    have h3:=B.dX h0
    have:=hB.len
    rw[h3]at this
    exact List.eq_nil_of_length_eq_zero (by simpa using this.symm)
   ·rw[AG]at hρ
    obtain⟨cs,fr,hg,nH,nU,hown,hlc,lJ,hcs,iI⟩:=B.real g cap hρ
    have e1:=hB.len
    have e2:=hB.sz
    refine⟨cs,fr,by rw[<-hB.ty,<-hB.sz,<-hB.len]; exact hg.le (fun _ _ h=>h.all) hB.mp,nH,?_,hown,by omega,lJ,by rw[<-hB.sz]; exact hcs,fun i j hi hj=> ?_⟩
    ·rintro (h|⟨m,c',bm,⟨_,Y3⟩,Y4,MO⟩)
     ·exact nU h
     ·have:=W.inj n m b bm g cap c' hb Y4 hρ MO
      subst this
      rw[hb']at Y3; simp at Y3
    ·obtain⟨u,pF,FF,hr⟩:=iI i j (by omega) (by omega)
     refine⟨u,by rw[<-hB.sz]; exact pF,FF,?_⟩
     refine low _ _ _ hr (hB.cell i j (by omega) (by omega)) ?_
     rcases hu with hu|hu
     ·exact .inl hu
     ·right
      have Al:b'.es.getD i [] ∈ b'.es:=by
       rw[List.getD_eq_getElem?_getD,List.getElem?_eq_getElem hi,Option.getD_some]; exact List.getElem_mem _
      have hel:(b'.es.getD i []).length=b.sz:=by
       rw[<-hB.row i (by omega),List.getD_eq_getElem?_getD,List.getElem?_eq_getElem (show i<b.es.length by omega),Option.getD_some]
       exact B.even _ (List.getElem_mem _)
      exact AV.fQ _ _ (hu _ Al) (by omega)
  ·refine⟨hn,fun e he=>by rw[h2]at he; simp at he,fun _=>h2,fun g cap hρ=> ?_,fun _ _ _ _ _ _ h=>by rw[hmn]at h; cases h⟩
   change l8 S ρ n=_ at hρ
   simp only[l8,if_pos h1]at hρ
   simp at hρ
 ·have o1:S.nx<=n->False:=fun h=>by simp only[l8,if_pos h]at h1; simp at h1
  have o2:S.nx<=m->False:=fun h=>by simp only[l8,if_pos h]at h2; simp at h2
  have e1:ρ n=some (g,c):=by simpa[l8,show ¬S.nx<=n from o1]using h1
  have e2:ρ m=some (g,c'):=by simpa[l8,show ¬S.nx<=m from o2]using h2
  rcases hM n b hb with⟨⟨b0,hb0,_⟩,_⟩|⟨_,h,_⟩
  ·rcases hM m b' hb' with⟨⟨b1,vy,_⟩,_⟩|⟨_,h,_⟩
   ·exact W.inj n m b0 b1 g c c' hb0 vy e1 e2
   ·exact (o2 h).elim
  ·exact (o1 h).elim
 ·rintro g (hg|⟨n,cap,b,_,hb,hρ⟩)
  ·exact W.lt g hg
  ·obtain⟨cs,fr,hc,_⟩:=(W.aS n b hb).real g cap hρ
   exact hc.lt
 ·rintro g hg (h|⟨n,cap,b,⟨Ip,_⟩,hb,hρ⟩)
  ·exact W.old g hg h
  ·obtain⟨cs,fr,hc,_,_,hown,_⟩:=(W.aS n b hb).real g cap hρ
   rcases hown with⟨h,_⟩|h
   ·exact absurd h (Nat.not_lt.2 Ip)
   ·exact absurd hg (Nat.not_lt.2 h)
theorem Lv{S S':St}(h:Wk X S S'){a:Act}{w:World}{ρ:Place}{I:Nat->Prop}(W:bZ X ρ I (aa S.M) (· <S.nx) w)(F:jw ρ I w X S a):
  bZ X (l8 S ρ) (RL X S S' ρ I) (aa S'.M) (· <S'.nx) w/\jw (l8 S ρ) (RL X S S' ρ I) w X S' a:=by
 obtain⟨h1,low⟩:=rV h W
 refine⟨h1,fun i=> ?_,F.defers.mono (fun g hg=> .inl hg),F.size⟩
 rcases h.F i with h|⟨hm,hu⟩
 ·rw[h]; exact .bad _
 ·exact low _ _ _ (F.rep i) hm hu
theorem AH{S S':St}(h:Wk X S S'){a:Act}{w:World}(hS:hY X S a w):hY X S' a w:=by
 obtain⟨ρ,I,W,F⟩:=hS
 obtain⟨W',F'⟩:=Lv h W F
 exact⟨_,_,W',F'⟩
end Go.AM
namespace Go.AM
open Go.RowKit
def fB(a b:Bool):Bool:=match a,b with
 |true,true=>true
 |false,false=>true
 |_,_=>false
theorem cU{a b:Bool}(h:fB a b=true):a=b:=by cases a<;>cases b<;>simp_all[fB]
structure MP(es:List (List AV))(len i:Nat)(K:List AV->Prop):Prop where
 len:es.length=len
 h:K (es.getD i [])
structure Y5(ag:Bool)(m sz:Nat)(cs:List AV)(j:Int)(K:AV->Prop):Prop where
 lt:0<=j/\j< (m:Int)
 h:apart ag sz (j.toNat*sz) cs K
structure uN{α:Type}(xs:List α)(K:List α->Prop):Prop where
 h:K xs
structure RN(es:List (List AV))(K:Nat->Prop):Prop where
 h:K es.length
structure Y6(es:List (List AV))(cnt:Nat)(K:List AV->Nat->Prop):Prop where
 h:K ((es.take cnt).flatten) (min es.length cnt)
structure Xr(a b:Int)(K:Nat->Prop):Prop where
 h:(0<=a/\a<=1073741824/\a=b)/\K a.toNat
structure RO(l h:Option AV)(m:Nat)(K:Nat->Nat->Prop):Prop where
 h:∃a c:Nat,((l=none/\a=0)\/∃k,l=some (.int k a))/\((h=none/\a+c=m)\/∃k,h=some (.int k (a+c:Nat)))/\a+c<=m/\a<m/\K a c
structure RP(X:bM)(nm len:Nat)(es:List (List AV))(j:Int)(K:Nat->List (List AV)->Prop):Prop where
 h:(∃p,X.p=p/\Nat.ble p nm=true)/\∃(k:Nat)(es':List (List AV)),j=k/\k<=len/\es.length=len/\es'=es.take k/\K k es'
structure RQ(es:List (List AV))(K:List UInt8->Prop):Prop where
 h:∃s:List UInt8,es=s.map (fun c=>[AV.int .u8 c.toNat])/\K s
structure CZ{α:Type}(es:List α)(Y N:Prop):Prop where
 y:es=[]->Y
 n:N
structure sU(R:Env)(X:bM)(f:Nat)(args:List AV)(F:aT)(M:ah)(nx:Nat)(d:Option Nat)(K:KS):Prop where
 body:cb R.P f
 h:∃av ws nw aV M',qo R.P X f args (aa (ar M)) av ws nw/\(nx<=aV/\∀n ∈ nw,nx<=n/\n<aV)/\aa (ar M')=aa (bY (ar M) ws)/\aJ d av F M' aV K
structure l9(R:Env)(X:bM)(f:Nat)(args:List AV)(F:aT)(M:ah)(nx:Nat)(d:Option Nat)(K:KS):Prop where
 body:cb R.P f
 h:∀ρ I (a:Act) w vs,(∀x,d=some x->x<X.size)->bZ X ρ I (aa (ar M)) (· <nx) w->jw ρ I w X ⟨F,ar M,nx⟩ a->dq ρ (lens (aa (ar M))) I w (· <nx) args vs->
  Calls R.P f vs.toArray w fun e w1=>∃v,e= .returned v/\∃F' M' aV,K F' M' aV/\hY X ⟨F',ar M',aV⟩ (a.put d v) w1
structure pZ(R:Env)(X:bM)(f:Nat)(args:List AV)(F:aT)(M:ah)(nx:Nat)(d:Option Nat)(K:KS):Prop where
 body:cb R.P f
 h:∃av ws nw aV M',qo R.P X f args (aa (ar M)) av ws nw/\(∀p ∈ ws,p.1 ∈ nw)/\(nx<=aV/\∀n ∈ nw,nx<=n/\n<aV)/\aa (ar M')=aa (bY (ar M) ws)/\aJ d av F M' aV K
def sV:ah->Nat->List Nat
 |[],_=>[]
 |(m,b)::r,n=>bif Nat.beq n m then (match b with
  | .var _ row=>AV.au row
  | .arr _ _ _=>[]
  | .map .. =>[])else sV r n
def wV(M:ah):List Nat->List Nat
 |[]=>[]
 |n::r=>n::(sV M n++wV M r)
structure p5(R:Env)(X:bM)(f:Nat)(args:List AV)(F:aT)(M:ah)(nx:Nat)(d:Option Nat)(K:KS):Prop where
 body:cb R.P f
 h:∃av ws nw aV M',Le R.P X f args (wV M (AV.au args)) (aa (ar M)) av ws nw/\(nx<=aV/\∀n ∈ nw,nx<=n/\n<aV)/\aa (ar M')=aa (bY (ar M) ws)/\aJ d av F M' aV K
def FL(P:Program)(f:Nat)(args:List AV)(av:AV):Prop:=
 ∀(ρ:Place)(L:aZ)(I:Nat->Prop)(N:Nat->Prop)(w:World)(vs:List Value),dq ρ L I w N args vs->∃v,(callFunc f vs.toArray).run P w= .ok (.value v) w/\aM ρ L I w N av v
structure bB(R:Env)(f:Nat)(args:List AV)(F:aT)(M:ah)(nx:Nat)(d:Option Nat)(K:KS):Prop where
 h:∃av,FL R.P f args av/\aJ d av F M nx K
def I9(P:Program)(l:Nat)(vs:List Value)(w:World)(Q:World->Prop):Prop:=
 ∃r:Loop,w.heap[l]? =some (.loop r)/\vs.length=r.params.size/\∀c cs,∃w',Q w'/\
  Steps P (lone (Frame.round l r.fn ((r.params.zip vs.toArray).foldl (fun t (q,v)=>t.setIfInBounds q v) r.tmps) r.assign r.body .normal) (c::cs) w) (lone (c.finish (.bool true)) cs w')
structure p6(R:Env)(X:bM)(l:Nat)(tm:List Value)(aQ args:List AV)(F:aT)(M:ah)(nx:Nat)(d:Option Nat)(K:KS):Prop where
 h:∃F' M' aV,K F' M' aV/\∀ρ I (a:Act) w vs,(∀x,d=some x->x<X.size)->bZ X ρ I (aa (ar M)) (· <nx) w->jw ρ I w X ⟨F,ar M,nx⟩ a->dq ρ (lens (aa (ar M))) I w (· <nx) args vs->
  dq ρ (lens (aa (ar M))) I w (· <nx) aQ tm->I9 R.P l vs w fun w1=>hY X ⟨F',ar M',aV⟩ (a.put d (.bool true)) w1
structure aj(R:Env)(X:bM)(lo:Bool)(f:Nat)(args:List AV)(F:aT)(M:ah)(nx:Nat)(d:Option Nat)(K:KS):Prop where
 h:sU R X f args F M nx d K\/(lo=false/\l9 R X f args F M nx d K)
def B4(v:AV)(X Y:Prop):Prop:=
 match v with
 | .bool t=>True->rp t X Y
 |_=>False
def jh(M:ah)(n len:Nat)(K:bG->Prop):Prop:=
 cG M n fun b=>match b with
  | .var ty row=>bif Nat.beq len 1 then K (.var ty row)else False
  | .arr ty sz es=>True->es.length=len/\K (.arr ty sz es)
  | .map .. =>False
def B5(ag:Bool)(n:Nat)(v:AV)(M:ah)(K:AV->Prop):Prop:=
 match v with
 | .loc nm len i off=>cG M nm fun b=>match b with
   | .var _ row=>bif Nat.beq len 1 then (bif Nat.beq i 0 then nP ag n off row K else False)else False
   | .arr _ _ es=>True->MP es len i fun row=>nP ag n off row K
   | .map .. =>False
 | .be e off=>nP ag n off e K
 |_=>False
def FM(a:AV)(cs:List AV)(M:ah)(K:ah->Prop):Prop:=
 match a with
 | .loc nm len i off=>cG M nm fun b=>match b with
   | .var ty row=>bif Nat.beq len 1 then (bif Nat.beq i 0 then iJ off cs row fun row'=>ii M nm (.var ty row') K else False)else False
   | .arr ty sz es=>True->MP es len i fun row=>iJ off cs row fun row'=>ii M nm (.arr ty sz (es.set i row')) K
   | .map .. =>False
 |_=>False
def jt(k k':IntKind)(X:Prop):Prop:=bif rL k k' then X else False
def MQ(op:BinOp)(v u:AV)(K:AV->Prop):Prop:=
 match v,u with
 | .int k a,.int k' b=>
   match op with
   | .shl=>True->0<=b/\K (.int k (jZ k a b))
   | .shr=>True->0<=b/\K (.int k (bA k a b))
   | .add=>jt k k' (True->I7 k (a+b) fun m=>K (.int k m))
   | .sub=>jt k k' (True->I7 k (a - b) fun m=>K (.int k m))
   | .mul=>jt k k' (True->I7 k (a*b) fun m=>K (.int k m))
   | .quo=>jt k k' (True->b≠0/\(True->I7 k (a.tdiv b) fun m=>K (.int k m)))
   | .rem=>jt k k' (True->b≠0/\K (.int k (a.tmod b)))
   | .and=>jt k k' (K (.int k (da .and k a b)))
   | .or=>jt k k' (K (.int k (da .or k a b)))
   | .xor=>jt k k' (K (.int k (da .xor k a b)))
   | .andNot=>jt k k' (K (.int k (da .andNot k a b)))
   | .eql=>jt k k' (K (.bool (a==b)))
   | .neq=>jt k k' (K (.bool (a != b)))
   | .lss=>jt k k' (K (.bool (decide (a<b))))
   | .leq=>jt k k' (K (.bool (decide (a<=b))))
   | .gtr=>jt k k' (K (.bool (decide (a>b))))
   | .geq=>jt k k' (K (.bool (decide (a>= b))))
 |_,_=>False
def MR(l:LK)(a b:AV)(K:Bool->Prop):Prop:=
 match l,a,b with
 | .i,.int k x,.int k' y=>bif rL k k' then K (x==y)else False
 | .b,.bool x,.bool y=>K (x==y)
 | .s,.str x,.str y=>K (x==y)
 |_,_,_=>False
def C0:List LK->List AV->List AV->(Bool->Prop)->Prop
 |l::r,a::as,b::bs,K=>MR l a b fun t=>(match r with
  |[]=>C0 r as bs fun _=>K t
  |_=>C0 r as bs fun u=>K (t&&u))
 |[],[],[],K=>K true
 |_,_,_,_=>False
def Y7(neg:Bool)(K:AV->Prop)(r:Bool):Prop:=
 match neg with
 |true=>K (.bool !r)
 |false=>K (.bool r)
def RR(op:BinOp)(a b:List UInt8)(K:AV->Prop):Prop:=
 match op with
 | .add=>True->(a.length+b.length<=9223372036854775807)/\K (.str (a++b))
 | .eql=>K (.bool (a==b))
 | .neq=>K (.bool !(a==b))
 | .lss=>K (.bool (Op.bytesLess a b))
 | .leq=>K (.bool (Op.bytesLess a b||a==b))
 | .gtr=>K (.bool !(Op.bytesLess a b||a==b))
 | .geq=>K (.bool !(Op.bytesLess a b))
 |_=>False
def Y8(op:UnOp)(v:AV)(K:AV->Prop):Prop:=
 match op,v with
 | .neg,.int k n=>True->I7 k (0 - n) fun m=>K (.int k m)
 | .xor,.int k n=>K (.int k (da .xor k (if k.signed then -1 else k.max) n))
 | .not,.bool b=>K (.bool !b)
 |_,_=>False
def FN(sz:Nat)(v ix:AV)(M:ah)(K:AV->Prop):Prop:=
 match ix with
 | .int _ j=>(match v with
   | .aH s es=>bif Nat.beq s sz then (True->(0<=j/\j<es.length)/\(True->I8 es j.toNat fun row=>K (.be row 0)))else False
   | .bi nm len=>cG M nm fun b=>(match b with
     | .arr _ s es=>bif Nat.beq s sz then (True->(es.length=len/\0<=j/\j<len)/\K (.loc nm len j.toNat 0))else False
     | .var .. =>False
     | .map .. =>False)
   | .dp nm len i off cnt=>jh M nm len fun _=>True->Xq j cnt fun c=>K (.loc nm len i (off+c*sz))
   |_=>False)
 |_=>False
def FP(m sz:Nat)(v ix:AV)(M:ah)(K:AV->Prop):Prop:=
 match ix with
 | .int _ j=>(match v with
   | .loc nm len i off=>jh M nm len fun _=>True->Xq j m fun c=>K (.loc nm len i (off+c*sz))
   | .be row off=>True->Xq j m fun c=>K (.be row (off+c*sz))
   |_=>False)
 |_=>False
def Xs(mx:Bool)(k:IntKind)(a:Int):List AV->(AV->Prop)->Prop
 |[],K=>K (.int k a)
 | .int _ b::r,K=>(match mx with
   |true=>Xs mx k (max a b) r K
   |false=>Xs mx k (min a b) r K)
 |_,_=>False
def mmK(mx:Bool)(as:List AV)(K:AV->Prop):Prop:=
 match as with
 | .int k a::r=>Xs mx k a r K
 |_=>False
def vz(sz:Nat)(x:AV)(M:ah)(K:List (List AV)->Prop):Prop:=
 match x with
 | .aH s es=>bif Nat.beq s sz then K es else False
 | .ab=>K []
 | .bi n len=>cG M n fun b=>(match b with
   | .arr _ s es=>bif Nat.beq s sz then (True->es.length=len/\K es)else False
   | .var .. =>False
   | .map .. =>False)
 | .dp n len i off cnt=>cG M n fun b=>(match b with
   | .var _ row=>bif Nat.beq len 1 then (bif Nat.beq i 0 then (bif Nat.beq sz 0 then False else vw off row fun r=>ye sz cnt r K)else False)else False
   | .arr .. =>False
   | .map .. =>False)
 |_=>False
def Lw(sz:Nat)(v:AV)(M:ah)(src:(List (List AV)->Prop)->Prop)(K:Nat->ah->Prop):Prop:=
 match v with
 | .dp n len i off cnt=>cG M n fun b=>(match b with
   | .var ty row=>bif Nat.beq len 1 then (bif Nat.beq i 0 then (bif Nat.ble (off+cnt*sz) row.length then src fun xs=>True->Y6 xs cnt fun vs k=>iJ off vs row fun row'=>ii M n (.var ty row') fun M'=>K k M' else False)else False)else False
   | .arr .. =>False
   | .map .. =>False)
 |_=>False
def AI(x:AV)(K:List (List AV)->Prop):Prop:=
 match x with
 | .str s=>K (s.map fun c=>[.int .u8 c.toNat])
 |_=>False
def FQ(ty sz:Nat)(s:AV)(src:(List (List AV)->Prop)->Prop)(M:ah)(nx:Nat)(K:AV->ah->Nat->Prop):Prop:=
 match s with
 | .bi n len=>cG M n fun b=>(match b with
   | .arr t z es=>bif Nat.beq z sz then (True->(t=ty/\es.length=len)/\src fun xs=>True->es.length+xs.length<=1073741824/\ii M n (.arr t z (es++xs)) fun M'=>K (.bi n (es++xs).length) M' nx)else False
   | .var .. =>False
   | .map .. =>False)
 | .ab=>src fun xs=>True->xs.length<=1073741824/\K (.bi nx xs.length) ((nx,.arr ty sz xs)::M) (nx+1)
 |_=>False
def Lx(ty sz:Nat)(z:List AV)(s x:AV)(M:ah)(nx:Nat)(K:AV->ah->Nat->Prop):Prop:=
 match x with
 | .int _ m=>(match s with
   | .bi n len=>cG M n fun b=>(match b with
     | .arr t q es=>bif Nat.beq q sz then (True->(t=ty/\es.length=len)/\(True->Xr m m fun k=>True->es.length+k<=1073741824/\ii M n (.arr t q (es++List.replicate k z)) fun M'=>K (.bi n (es++List.replicate k z).length) M' nx))else False
     | .var .. =>False
     | .map .. =>False)
   | .ab=>True->Xr m m fun k=>K (.bi nx k) ((nx,.arr ty sz (List.replicate k z))::M) (nx+1)
   |_=>False)
 |_=>False
def FR(sz:Nat)(v:AV)(lo hi mx:Option AV)(K:AV->Prop):Prop:=
 match v with
 | .aH s es=>bif Nat.beq s sz then (match lo,hi,mx with
   |none,some (.int _ h),none=>True->(0<=h/\h<=es.length)/\(True->uN (es.take h.toNat) fun xs=>K (.aH sz xs))
   |some (.int _ l),none,none=>True->(0<=l/\l<=es.length)/\(True->uN (es.drop l.toNat) fun xs=>K (.aH sz xs))
   |some (.int _ l),some (.int _ h),none=>True->(0<=l/\l<=h/\h<=es.length)/\(True->uN ((es.take h.toNat).drop l.toNat) fun xs=>K (.aH sz xs))
   |none,some (.int _ h),some (.int _ m)=>True->(0<=h/\h<=m/\m<=es.length)/\(True->uN (es.take h.toNat) fun xs=>K (.aH sz xs))
   |_,_,_=>False)else False
 |_=>False
def FT(v:AV)(lo hi:Option AV)(K:AV->Prop):Prop:=
 match v with
 | .str s=>(match lo,hi with
   |none,some (.int _ h)=>True->(0<=h/\h<=s.length)/\(True->uN (s.take h.toNat) fun xs=>K (.str xs))
   |some (.int _ l),none=>True->(0<=l/\l<=s.length)/\(True->uN (s.drop l.toNat) fun xs=>K (.str xs))
   |some (.int _ l),some (.int _ h)=>True->(0<=l/\l<=h/\h<=s.length)/\(True->uN ((s.take h.toNat).drop l.toNat) fun xs=>K (.str xs))
   |_,_=>False)
 |_=>False
def FU(v:AV)(M:ah)(K:AV->Prop):Prop:=
 match v with
 | .aH _ es=>True->RN es fun n=>K (.int .i64 n)
 | .bi n len=>jh M n len fun _=>K (.int .i64 len)
 | .dp n len _ _ cnt=>jh M n len fun _=>K (.int .i64 cnt)
 | .ab=>K (.int .i64 0)
 |_=>False
def MS:Nat->List AV->(AV->Prop)->Prop
 |0,v::_,K=>K v
 |n+1,_::r,K=>MS n r K
 |_,[],_=>False
structure RS(ls:List LK)(kc:List AV)(es:List (List AV))(K:Option (Nat × List AV)->Prop):Prop where
 ok:∀r ∈ es,dS ls kc r=true
 h:K (cD kc es)
structure AFv(kc:List AV)(es:List (List AV))(K:AV->Prop):Prop where
 g:∀r ∈ es,jW r=true
 h:K (IE (cD kc es))
structure AFg(kc:List AV)(es:List (List AV))(K:Option (Nat × List AV)->Prop):Prop where
 g:∀r ∈ es,jW r=true
 h:K (cD kc es)
structure AEn(es:List (List AV))(j:Int)(K:Nat->List AV->Prop):Prop where
 h:∃(i:Nat)(r:List AV),j=i/\es[i]? =some r/\K i r
structure IRg(K:Nat->Prop):Prop where
 h:∀r,K r
structure INx(r r':Nat)(es:List (List AV))(sn:List Bool)(Y:Prop)(K:Nat->Prop):Prop where
 e:r'=r
 fin:(∀q ∈ sn,q=true)->sn.length=es.length->Y
 go:∀i row,es[i]? =some row->sn[i]? =some false->sn.length=es.length->K i
structure IEt(r r':Nat)(la:Option Nat)(es:List (List AV))(K:List AV->Prop):Prop where
 h:r'=r/\∃i row,la=some i/\es[i]? =some row/\K row
def MT(q:Option (Nat × List AV))(es:List (List AV))(dn:Dn)(K:List (List AV)->Dn->Prop):Prop:=
 match q with
 |some q=>K (es.eraseIdx q.1) (dn.dl q.1)
 |none=>K es dn.up
def AJ(ls:List LK)(ag:Bool)(u:AV)(K:List AV->Prop):Prop:=kP u fun kc=>bif fB u.js ag&&Nat.beq kc.length ls.length&&dS ls kc kc then K kc else False
def AK(va:Bool)(l:List AV)(K:AV->Prop):Prop:=
 match va with
 |true=>K (.agg l)
 |false=>match l with
  |c::_=>K c
  |[]=>False
def RU(ok va:Bool)(z:AV)(q:Option (Nat × List AV))(K:AV->Prop):Prop:=
 match q with
 |some q=>AK va q.2 fun v=>(match ok with
  |true=>K (.aG [v,.bool true])
  |false=>K v)
 |none=>(match ok with
  |true=>K (.aG [z,.bool false])
  |false=>K z)
def MU(q:Option (Nat × List AV))(es:List (List AV))(r:List AV)(K:List (List AV)->Prop):Prop:=
 match q with
 |some q=>K (es.set q.1 r)
 |none=>K (es++ [r])
def Ja(va:Bool)(z:AV)(q:Option (Nat × List AV))(es:List (List AV))(kc zs:List AV)(K:AV->Nat->List (List AV)->Prop):Prop:=
 match q with
 |some q=>AK va q.2 fun v=>K v q.1 es
 |none=>K z es.length (es++ [kc++zs])
def AL(ls:List LK)(ag va:Bool)(v:AV)(M:ah)(K:Nat->Dn->Nat->List (List AV)->Prop):Prop:=
 match v with
 | .omap n=>cG M n fun b=>(match b with
   | .map k ka vb dn sz es=>bif Nat.beq k ls.length&&fB ka ag&&fB vb va&&Nat.blt k sz then K n dn sz es else False
   | .arr .. =>False
   | .var .. =>False)
 |_=>False
def B6(v:AV)(M:ah)(K:Nat->Nat->Bool->Bool->Dn->Nat->List (List AV)->Prop):Prop:=
 match v with
 | .omap n=>cG M n fun b=>(match b with
   | .map k ka va dn sz es=>K n k ka va dn sz es
   | .arr .. =>False
   | .var .. =>False)
 |_=>False
def Xt(v:AV)(M:ah)(K:Nat->Nat->Nat->Bool->Bool->Nat->List Bool->Option Nat->Nat->List (List AV)->Prop):Prop:=
 match v with
 | .oC n r'=>cG M n fun b=>(match b with
   | .map k ka va dn sz es=>(match dn with
     | .it r sn la=>K n r' k ka va r sn la sz es
     | .b _=>False)
   | .arr .. =>False
   | .var .. =>False)
 |_=>False
def dc(R:Env)(X:bM)(lo:Bool)(i:vq)(d:Option Nat)(F:aT)(M:ah)(nx:Nat)(K:KS):Prop:=
 match i with
 | .mv x=>dy R F x fun v=>aJ d v F M nx K
 | .pick c a b=>dy R F c fun v=>B4 v (dy R F a fun u=>aJ d u F M nx K) (dy R F b fun u=>aJ d u F M nx K)
 | .alloc ty z=>aJ d (.loc nx 1 0 0) F ((nx,.var (R.ty ty) z)::M) (nx+1) K
 | .box ty x=>dy R F x fun v=>kP v fun cs=>aJ d (.loc nx 1 0 0) F ((nx,.var (R.ty ty) cs)::M) (nx+1) K
 | .build z ps=>CY R F ps z fun cs=>aJ d (.agg cs) F M nx K
 | .aK ty sz len z ps=>MK z len fun es=>B3 R F sz ps es fun es'=>aJ d (.bi nx len) F ((nx,.arr (R.ty ty) sz es')::M) (nx+1) K
 | .load ag n x=>dy R F x fun v=>B5 ag n v M fun u=>aJ d u F M nx K
 | .store n x v=>dy R F x fun a=>dy R F v fun u=>kP u fun cs=>sT cs n (FM a cs M fun M'=>aJ d (.aG []) F M' nx K)
 | .aB x=>dy R F x fun v=>(match v with
   | .loc nm len i q=>jh M nm len fun _=>aJ d (.loc nm len i q) F M nx K
   | .be e q=>aJ d (.be e q) F M nx K
   | .bL f cs=>aJ d (.bL f cs) F M nx K
   |_=>False)
 | .bin op x y=>dy R F x fun v=>dy R F y fun u=>MQ op v u fun r=>aJ d r F M nx K
 | .eqb neg x y=>dy R F x fun v=>dy R F y fun u=>(match v,u with
   | .bool a,.bool b=>(match neg with
     |true=>aJ d (.bool (a != b)) F M nx K
     |false=>aJ d (.bool (a==b)) F M nx K)
   |_,_=>False)
 | .EP neg ls x y=>dy R F x fun v=>dy R F y fun u=>(match v,u with
   | .agg as,.agg bs=>C0 ls as bs (Y7 neg fun r=>aJ d r F M nx K)
   |_,_=>False)
 | .YY op x y=>dy R F x fun v=>dy R F y fun u=>(match v,u with
   | .str a,.str b=>RR op a b fun r=>aJ d r F M nx K
   |_,_=>False)
 | .un op x=>dy R F x fun v=>Y8 op v fun r=>aJ d r F M nx K
 | .conv k x=>dy R F x fun v=>(match v with
   | .int _ n=>True->I7 k n fun m=>aJ d (.int k m) F M nx K
   |_=>False)
 | .RG x=>dy R F x fun v=>(match v with
   | .str s=>aJ d (.str s) F M nx K
   |_=>False)
 | .QH g cs=>sQ R F cs fun l=>aJ d (R.cl g l) F M nx K
 | .bF off x=>dy R F x fun v=>(match v with
   | .loc nm len i q=>jh M nm len fun _=>aJ d (.loc nm len i (q+off)) F M nx K
   | .be e q=>aJ d (.be e (q+off)) F M nx K
   |_=>False)
 | .IZ sz x i=>dy R F x fun v=>dy R F i fun ix=>FN sz v ix M fun r=>aJ d r F M nx K
 | .aE m sz x i=>dy R F x fun v=>dy R F i fun ix=>FP m sz v ix M fun r=>aJ d r F M nx K
 | .gO _ sz x lo hi mx=>dy R F x fun v=>wT R F lo fun l=>wT R F hi fun h=>wT R F mx fun m=>FR sz v l h m fun r=>aJ d r F M nx K
 | .RI x lo hi=>dy R F x fun v=>wT R F lo fun l=>wT R F hi fun h=>FT v l h fun r=>aJ d r F M nx K
 | .ext x i=>dy R F x fun v=>(match v with
   | .aG vs=>MS i vs fun r=>aJ d r F M nx K
   |_=>False)
 | .call g as=>sQ R F as fun l=>True->aj R X lo (R.ft g) l F M nx d K
 | .fH f as=>dy R F f fun v=>(match v with
   | .bL (.fn g) aQ=>sQ R F as fun l=>True->aj R X lo g (l++aQ) F M nx d K
   | .bL (.lp l tm) aQ=>(match lo with
     |true=>False
     |false=>sQ R F as fun args=>True->p6 R X l tm aQ args F M nx d K)
   |_=>False)
 | .dU g as=>sQ R F as fun l=>True->bB R (R.ft g) l F M nx d K
 | .lX f as=>dy R F f fun v=>(match v with
   | .bL (.fn g) aQ=>sQ R F as fun l=>True->pZ R X g (l++aQ) F M nx d K
   |_=>False)
 | .lY f as=>dy R F f fun v=>(match v with
   | .bL (.fn g) aQ=>sQ R F as fun l=>(match lo with
     |true=>True->p5 R X g (l++aQ) F M nx d K
     |false=>False)
   |_=>False)
 | .B1 neg x=>dy R F x fun v=>(match v with
   | .ax=>(match neg with
     |true=>aJ d (.bool false) F M nx K
     |false=>aJ d (.bool true) F M nx K)
   | .be _ _=>aJ d (.bool neg) F M nx K
   | .loc nm len _ _=>jh M nm len fun _=>aJ d (.bool neg) F M nx K
   |_=>False)
 | .yc neg x=>dy R F x fun v=>(match v with
   | .aH _ es=>(match lo with
     |true=>False
     |false=>True->CZ es (match neg with
      |true=>aJ d (.bool false) F M nx K
      |false=>aJ d (.bool true) F M nx K) (aJ d (.bool neg) F M nx K))
   |_=>False)
 | .IX neg x=>dy R F x fun v=>(match v with
   | .bQ=>(match neg with
     |true=>aJ d (.bool false) F M nx K
     |false=>aJ d (.bool true) F M nx K)
   | .omap n=>cG M n fun b=>(match b with
     | .map _ _ _ _ _ _=>aJ d (.bool neg) F M nx K
     |_=>False)
   |_=>False)
 | .ME m _ x=>dy R F x fun v=>(match v with
   | .aH _ es=>True->(m<=es.length/\0<m)/\(True->uN (es.take m).flatten fun row=>aJ d (.be row 0) F M nx K)
   | .dp nm len i off cnt=>jh M nm len fun _=>True->m<=cnt/\aJ d (.loc nm len i off) F M nx K
   |_=>False)
 | .IY ag off n x=>dy R F x fun v=>(match v with
   | .agg cs=>nP ag n off cs fun r=>aJ d r F M nx K
   |_=>False)
 | .Lp ty sz x=>dy R F x fun v=>(match v with
   | .aH _ _=>aJ d (.bi nx 0) F ((nx,.arr (R.ty ty) sz [])::M) (nx+1) K
   |_=>False)
 | .CX ag m sz x i=>dy R F x fun v=>dy R F i fun ix=>(match v,ix with
   | .agg cs,.int _ j=>True->Y5 ag m sz cs j fun r=>aJ d r F M nx K
   |_,_=>False)
 | .RH x i=>dy R F x fun v=>dy R F i fun ix=>(match v,ix with
   | .str s,.int _ j=>True->(0<=j/\j< (s.length:Int))/\aJ d (.int .u8 (s.getD j.toNat 0).toNat) F M nx K
   |_,_=>False)
 | .Xl x=>dy R F x fun v=>vz 1 v M fun es=>True->RQ es fun s=>aJ d (.str s) F M nx K
 | .rn m sz x lo hi mx=>(match lo,hi,mx with
   |none,none,none=>dy R F x fun v=>(match v with
    | .loc nm len i off=>jh M nm len fun _=>aJ d (.dp nm len i off m) F M nx K
    | .be r off=>bif Nat.beq sz 0 then False else vw off r fun r'=>ye sz m r' fun es=>aJ d (.aH sz es) F M nx K
    |_=>False)
   |_,_,_=>False)
 | .oT m sz x l h=>dy R F x fun v=>wT R F l fun l'=>wT R F h fun h'=>(match v with
   | .loc nm len i off=>jh M nm len fun _=>True->RO l' h' m fun a c=>aJ d (.dp nm len i (off+a*sz) c) F M nx K
   |_=>False)
 | .FJ x=>dy R F x fun v=>(match v with
   | .ab=>aJ d (.int .i64 0) F M nx K
   |_=>False)
 | .AE sz x h=>dy R F x fun v=>dy R F h fun u=>(match u with
   | .int _ j=>(match v with
     | .ab=>True->j=0/\aJ d .ab F M nx K
     | .bi nm len=>(match lo with
       |false=>cG M nm fun b=>(match b with
        | .arr t s es=>bif Nat.beq s sz then (True->RP X nm len es j fun k es'=>yd M nm fun M'=>aJ d (.bi nx k) F ((nx,.arr t s es')::M') (nx+1) K)else False
        | .var .. =>False
        | .map .. =>False)
       |true=>False)
     |_=>False)
   |_=>False)
 | .Lq x=>dy R F x fun v=>(match v with
   | .bi nm len=>cG M nm fun b=>(match b with
     | .arr t s es=>(match lo with
       |false=>True->(es.length=len/\len≠0)/\aJ d (.bi nm len) F M nx K
       |true=>False)
     | .var .. =>False
     | .map .. =>False)
   |_=>False)
 | .copy sz x y=>dy R F x fun v=>dy R F y fun u=>Lw sz v M (vz sz u M) fun n M'=>aJ d (.int .i64 n) F M' nx K
 | .Xm ty sz z l c=>dy R F l fun v=>dy R F c fun u=>(match v,u with
   | .int _ a,.int _ b=>True->Xr a b fun n=>aJ d (.bi nx n) F ((nx,.arr (R.ty ty) sz (List.replicate n z))::M) (nx+1) K
   |_,_=>False)
 | .s2b ty x=>dy R F x fun v=>(match v with
   | .str s=>True->s.length<=1073741824/\aJ d (.bi nx s.length) F ((nx,.arr (R.ty ty) 1 (s.map fun c=>[.int .u8 c.toNat]))::M) (nx+1) K
   |_=>False)
 | .MF n=>aJ d (.int .i64 n) F M nx K
 | .og x=>dy R F x fun v=>FU v M fun r=>aJ d r F M nx K
 | .MG x=>dy R F x fun v=>(match v with
   | .str s=>aJ d (.int .i64 s.length) F M nx K
   |_=>False)
 | .mm mx as=>sQ R F as fun l=>mmK mx l fun r=>aJ d r F M nx K
 | .app ty sz s x=>dy R F s fun v=>dy R F x fun u=>FQ (R.ty ty) sz v (vz sz u M) M nx fun r M' aV=>aJ d r F M' aV K
 | .FI ty sz z s x=>dy R F s fun v=>dy R F x fun u=>Lx (R.ty ty) sz z v u M nx fun r M' aV=>aJ d r F M' aV K
 | .I5 ty s x=>dy R F s fun v=>dy R F x fun u=>FQ (R.ty ty) 1 v (AI u) M nx fun r M' aV=>aJ d r F M' aV K
 | .MH k ka va sz=>aJ d (.omap nx) F ((nx,.map k ka va true sz [])::M) (nx+1) K
 | .Xo ls ag va z ok x key=>dy R F x fun v=>dy R F key fun u=>AL ls ag va v M fun _ _ _ es=>AJ ls ag u fun kc=>True->RS ls kc es fun q=>RU ok va z q fun r=>aJ d r F M nx K
 | .Iu ls ag va x key y=>dy R F x fun v=>dy R F key fun u=>dy R F y fun w=>AL ls ag va v M fun n dn sz es=>AJ ls ag u fun kc=>kP w fun vs=>bif fB w.js va&&Nat.beq (ls.length+vs.length) sz then
     (True->RS ls kc es fun q=>True->es.length+1<=1073741824/\MU q es (kc++vs) fun es'=>ii M n (.map ls.length ag va dn.up sz es') fun M'=>aJ d (.aG []) F M' nx K)else False
 | .YZ ls ag va z x key=>dy R F x fun v=>dy R F key fun u=>AL ls ag va v M fun n dn sz es=>AJ ls ag u fun kc=>kP z fun zs=>bif fB z.js va&&Nat.beq (ls.length+zs.length) sz&&dn.all then
     (True->RS ls kc es fun q=>True->es.length+1<=1073741824/\Ja va z q es kc zs fun r i es'=>ii M n (.map ls.length ag va true sz es') fun M'=>aJ d (.aG [r,.int .i64 i]) F M' nx K)else False
 | .MI ls ag x key=>dy R F x fun v=>dy R F key fun u=>AL ls ag false v M fun _ _ sz es=>AJ ls ag u fun kc=>bif Nat.beq sz (ls.length+1)&&jW kc then (True->AFv kc es fun r=>aJ d r F M nx K)else False
 | .enc ls ag x key=>dy R F x fun v=>dy R F key fun u=>AL ls ag false v M fun n dn sz es=>AJ ls ag u fun kc=>bif Nat.beq sz (ls.length+1)&&jW kc&&dn.all then
     (True->AFg kc es fun q=>True->es.length+1<=1073741824/\Ja false (.int .i64 0) q es kc [.int .i64 0] fun r i es'=>ii M n (.map ls.length ag false true sz es') fun M'=>aJ d (.aG [r,.int .i64 i]) F M' nx K)else False
 | .RJ ls ag x key=>dy R F x fun v=>dy R F key fun u=>B6 v M fun n k ka va dn sz es=>bif Nat.beq k ls.length&&fB ka ag then AJ ls ag u fun kc=>True->RS ls kc es fun q=>MT q es dn fun es' IS=>ii M n (.map ls.length ag va IS sz es') fun M'=>aJ d (.aG []) F M' nx K else False
 | .RK x=>dy R F x fun v=>(match lo with
   |true=>False
   |false=>B6 v M fun n k ka va _ sz es=>True->IRg fun r=>ii M n (.map k ka va (.it r (es.map fun _=>false) none) sz es) fun M'=>aJ d (.oC n r) F M' nx K)
 | .Xp x=>dy R F x fun v=>(match lo with
   |true=>False
   |false=>Xt v M fun n r' k ka va r sn _ sz es=>True->INx r r' es sn (aJ d (.aG [.bool false]) F M nx K) fun i=>ii M n (.map k ka va (.it r (sn.set i true) (some i)) sz es) fun M'=>aJ d (.aG [.bool true,.bad,.bad]) F M' nx K)
 | .Mp x=>dy R F x fun v=>(match lo with
   |true=>False
   |false=>Xt v M fun _ r' k ka va r _ la sz es=>bif Nat.blt 0 k&&Nat.blt k sz then (True->IEt r r' la es fun row=>oU k row fun kc=>AK ka kc fun a=>vw k row fun vc=>AK va vc fun b=>aJ d (.aG [a,b]) F M nx K)else False)
 | .Y0 va x st y=>dy R F x fun v=>dy R F st fun u=>dy R F y fun w=>(match v,u with
   | .omap n,.int _ j=>cG M n fun b=>(match b with
     | .map k ka vb dn sz es=>kP w fun vs=>bif fB w.js va&&fB vb va&&Nat.beq (k+vs.length) sz&&dn.all then
         (True->AEn es j fun i row=>oU k row fun kc=>ii M n (.map k ka va true sz (es.set i (kc++vs))) fun M'=>aJ d (.aG []) F M' nx K)else False
     | .arr .. =>False
     | .var .. =>False)
   |_,_=>False)
def Jb(a b:AV):Bool:=
 match a,b with
 | .int k n,.int k' n'=>rL k k'&&decide (n=n')
 | .bool x,.bool y=>x==y
 | .str s,.str t=>decide (s=t)
 | .ax,.ax=>true
 | .ab,.ab=>true
 | .af,.af=>true
 | .dj,.dj=>true
 | .bQ,.bQ=>true
 |_,_=>false
def rq:List AV->List AV->Bool
 |[],[]=>true
 |a::r,b::s=>Jb a b&&rq r s
 |_,_=>false
def AN(a b:AV):Bool:=
 match a,b with
 | .agg cs,.agg ds=>rq cs ds
 | .aG cs,.aG ds=>rq cs ds
 |a,b=>Jb a b
theorem B7{a b:AV}(h:Jb a b=true):a=b:=by
 cases a<;>cases b<;>simp_all[Jb]
 exact iV h.1
theorem jF:∀{a b:List AV},rq a b=true->a=b
 |[],[],_=>rfl
 |a::r,b::s,h=>by
  simp only[rq,Bool.and_eq_true]at h
  rw[B7 h.1,jF h.2]
 |[],_::_,h=>by simp[rq]at h
 |_::_,[],h=>by simp[rq]at h
theorem oV{a b:AV}(h:AN a b=true):a=b:=by
 unfold AN at h
 split at h
 ·rw[jF h]
 ·rw[jF h]
 ·exact B7 h
def cC(R:Env):Operand->Sc->Bool
 | .tmp t,.t n=>Nat.beq t n
 | .const v,.k u=>AN (Lc v) u
 | .func f,.f g=>Nat.beq (R.ft g) f
 |_,_=>false
def ol(R:Env):List Operand->List Sc->Bool
 |[],[]=>true
 |x::r,y::s=>cC R x y&&ol R r s
 |_,_=>false
def ru(R:Env):Option Operand->Option Sc->Bool
 |none,none=>true
 |some x,some y=>cC R x y
 |_,_=>false
theorem ao{R:Env}{F:aT}{x:Operand}{y:Sc}(h:cC R x y=true):ev F x=lZ R F y:=by
 cases x<;>cases y<;>simp only[cC]at h<;>first|(simp at h; done)|skip
 ·rw[Nat.eq_of_beq_eq_true h]; rfl
 ·exact oV h
 ·simp only[ev,lZ,Env.cl,Nat.eq_of_beq_eq_true h]
theorem dV{R:Env}{F:aT}:∀{xs:List Operand}{ys:List Sc},ol R xs ys=true->oD F xs=ys.map (lZ R F)
 |[],[],_=>rfl
 |x::r,y::s,h=>by
  simp only[ol,Bool.and_eq_true]at h
  simp only[oD,List.map_cons,ao (F:=F) h.1,dV h.2]
 |[],_::_,h=>by simp[ol]at h
 |_::_,[],h=>by simp[ol]at h
theorem kR{R:Env}{F:aT}{x:Option Operand}{y:Option Sc}(h:ru R x y=true):pN F x=y.map (lZ R F):=by
 cases x<;>cases y<;>simp only[ru]at h<;>first|(simp at h; done)|rfl|skip
 simp only[pN,Option.map_some,ao (F:=F) h]
def C1(R:Env)(fs:List (Nat × Nat)):List (Nat × Operand)->List (Nat × Nat × Sc)->Bool
 |[],[]=>true
 |(i,x)::r,(off,n,y)::s=>(match fs[i]? with
  |some (o,t)=>Nat.beq o off&&Nat.beq (R.T.s t) n&& !Nat.beq n 0
  |none=>false)&&cC R x y&&C1 R fs r s
 |_,_=>false
def C2(R:Env)(sz:Nat):List (Nat × Operand)->List (Nat × Nat × Sc)->Bool
 |[],[]=>true
 |(i,x)::r,(off,n,y)::s=>Nat.beq (i*sz) off&&Nat.beq sz n&& !Nat.beq n 0&&cC R x y&&C2 R sz r s
 |_,_=>false
def C3(R:Env):List (Nat × Operand)->List (Nat × Sc)->Bool
 |[],[]=>true
 |(i,x)::r,(j,y)::s=>Nat.beq i j&&cC R x y&&C3 R r s
 |_,_=>false
def MV:BinOp->Nat
 | .add=>0| .sub=>1| .mul=>2| .quo=>3| .rem=>4| .and=>5| .or=>6| .xor=>7| .shl=>8| .shr=>9| .andNot=>10| .eql=>11| .neq=>12| .lss=>13| .leq=>14| .gtr=>15| .geq=>16
theorem FV{a b:BinOp}(h:Nat.beq (MV a) (MV b)=true):a=b:=by
 have:=Nat.eq_of_beq_eq_true h
 cases a<;>cases b<;>first|rfl|(simp[MV]at this)
def RV:UnOp->Nat
 | .neg=>0| .not=>1| .xor=>2| .plus=>3
theorem MW{a b:UnOp}(h:Nat.beq (RV a) (RV b)=true):a=b:=by
 have:=Nat.eq_of_beq_eq_true h
 cases a<;>cases b<;>first|rfl|(simp[RV]at this)
def Xu:Option Operand->Bool
 |some (.const (.int _ (.ofNat 0)))=>true
 |_=>false
theorem FW{b:Option Operand}(h:Xu b=true):∃k,b=some (.const (.int k 0)):=by
 unfold Xu at h
 split at h
 ·exact⟨_,rfl⟩
 ·simp at h
def isEq(op:BinOp)(neg:Bool):Bool:=
 match op,neg with
 | .eql,false=>true
 | .neq,true=>true
 |_,_=>false
theorem isEq_eq{op:BinOp}{neg:Bool}(h:isEq op neg=true):op=if neg then .neq else .eql:=by cases op<;>cases neg<;>simp_all[isEq]
def C4:List LK->List LK->Bool
 |[],[]=>true
 | .i::r,.i::s=>C4 r s
 | .b::r,.b::s=>C4 r s
 | .s::r,.s::s=>C4 r s
 |_,_=>false
theorem oW:∀{a b:List LK},C4 a b=true->a=b
 |[],[],_=>rfl
 | .i::r,.i::s,h=>by rw[oW (a:=r) (b:=s) h]
 | .b::r,.b::s,h=>by rw[oW (a:=r) (b:=s) h]
 | .s::r,.s::s,h=>by rw[oW (a:=r) (b:=s) h]
def sW(R:Env)(t:Nat)(ls:List LK)(ag:Bool):Bool:=match R.T.d t with
 | .map k _=>fB (aO R.P k) ag&&(match mV R.P 8 k with
   |some l=>C4 l ls
   |none=>false)
 |_=>false
def bC(R:Env)(c:Call)(i:vq):Bool:=
 match c.callee,i with
 | .value f,.call g as=>cC R f (.f g)&&ol R c.args.toList as
 | .value f,.fH y as=>cC R f y&&ol R c.args.toList as
 | .value f,.lX y as=>cC R f y&&ol R c.args.toList as
 | .value f,.lY y as=>cC R f y&&ol R c.args.toList as
 | .value f,.dU g as=>cC R f (.f g)&&ol R c.args.toList as
 | .builtin .len,.MF n=>(match c.args.toList,c.argTypes.toList with
   |[_],[t]=>(match R.T.d t with
    | .arr m _=>Nat.beq m n
    |_=>false)
   |_,_=>false)
 | .builtin .len,.og y=>(match c.args.toList,c.argTypes.toList with
   |[x],[t]=>cC R x y&&(match R.T.d t with
    | .slice _=>true
    |_=>false)
   |_,_=>false)
 | .builtin .cap,.FJ y=>(match c.args.toList,c.argTypes.toList with
   |[x],[t]=>cC R x y&&(match R.T.d t with
    | .slice _=>true
    |_=>false)
   |_,_=>false)
 | .builtin .len,.MG y=>(match c.args.toList,c.argTypes.toList with
   |[x],[t]=>cC R x y&&(match R.T.d t with
    | .str=>true
    |_=>false)
   |_,_=>false)
 | .builtin .min,.mm false as=>ol R c.args.toList as
 | .builtin .max,.mm true as=>ol R c.args.toList as
 | .builtin .append,.app ty sz s y=>(match c.args.toList,c.argTypes.toList with
   |[x1,x2],[t,t']=>cC R x1 s&&cC R x2 y&&(match R.T.d t,R.T.d t' with
    | .slice e,.slice _=>Nat.beq (R.ty ty) e&&Nat.beq (R.T.s e) sz&&(R.T.d e).ok&&bI (R.T.z e)&&Nat.beq (cells (R.T.z e)).length (R.T.s e)
    |_,_=>false)
   |_,_=>false)
 | .builtin .copy,.copy sz s y=>(match c.args.toList,c.argTypes.toList with
   |[x1,x2],[t,t']=>cC R x1 s&&cC R x2 y&&(match R.T.d t,R.T.d t' with
    | .slice e,.slice _=>Nat.beq (R.T.s e) sz&&(R.T.d e).ok
    |_,_=>false)
   |_,_=>false)
 | .builtin .append,.FI ty sz z s y=>(match c.args.toList,c.argTypes.toList with
   |[x1,x2],[t,t']=>cC R x1 s&&cC R x2 y&&(match R.T.d t,R.T.d t' with
    | .slice e,.int _=>Nat.beq (R.ty ty) e&&Nat.beq (R.T.s e) sz&&(R.T.d e).ok&&bI (R.T.z e)&&Nat.beq (cells (R.T.z e)).length (R.T.s e)&&rq (cells (R.T.z e)) z&& !Nat.beq sz 0
    |_,_=>false)
   |_,_=>false)
 | .builtin .delete,.RJ ls ag y u=>(match c.args.toList,c.argTypes.toList with
   |[x1,x2],[t,_]=>cC R x1 y&&cC R x2 u&&sW R t ls ag
   |_,_=>false)
 | .builtin .append,.I5 ty s y=>(match c.args.toList,c.argTypes.toList with
   |[x1,x2],[t,t']=>cC R x1 s&&cC R x2 y&&(match R.T.d t,R.T.d t' with
    | .slice e,.str=>Nat.beq (R.ty ty) e&&Nat.beq (R.T.s e) 1&&(R.T.d e).ok&&bI (R.T.z e)&&Nat.beq (cells (R.T.z e)).length (R.T.s e)
    |_,_=>false)
   |_,_=>false)
 |_,_=>false
def dd(R:Env)(o:Op)(i:vq):Bool:=
 match o,i with
 | .move x,.mv y=>cC R x y
 | .assign x,.mv y=>cC R x y
 | .pick c a b,.pick c' a' b'=>cC R c c'&&cC R a a'&&cC R b b'
 | .alloc t,.alloc ty z=>Nat.beq (R.ty ty) t&&(R.T.d t).ok&&bI (R.T.z t)&&rq (cells (R.T.z t)) z
 | .box t x,.box ty y=>Nat.beq (R.ty ty) t&&cC R x y
 | .build t ps,.build z qs=>bI (R.T.z t)&&Nat.beq (cells (R.T.z t)).length (R.T.s t)&&rq (cells (R.T.z t)) z&&(match R.T.d t with
   | .struct fs=>E4 R.T.d fs&&C1 R fs ps.toList qs
   | .arr _ e=>(R.T.d e).ok&&C2 R (R.T.s e) ps.toList qs
   |_=>false)
 | .buildSlice t len ps,.aK ty sz len' z qs=>(match R.T.d t with
   | .slice e=>Nat.beq (R.ty ty) e&&Nat.beq (R.T.s e) sz&&Nat.beq len len'&&(R.T.d e).ok&&bI (R.T.z e)&&rq (cells (R.T.z e)) z&&Nat.beq (cells (R.T.z e)).length sz&& !Nat.beq sz 0&&Nat.ble (len*sz) 16777216&&C3 R ps.toList qs
   |_=>false)
 | .load t a,.load ag n y=>(R.T.d t).ok&&fB (R.T.d t).ag ag&&Nat.beq (R.T.s t) n&&cC R a y
 | .store t a x,.store n y u=>(R.T.d t).ok&&Nat.beq (R.T.s t) n&& !Nat.beq n 0&&cC R a y&&cC R x u
 | .nilCheck x,.aB y=>cC R x y
 | .binOp op _ x y _,.bin op' x' y'=>Nat.beq (MV op) (MV op')&&cC R x x'&&cC R y y'
 | .binOp op t x y _,.eqb neg x' y'=>isEq op neg&&cC R x x'&&cC R y y'&&(match R.P.underlying t with
   |some .bool=>true
   |_=>false)
 | .binOp op t x y _,.EP neg ls x' y'=>isEq op neg&&cC R x x'&&cC R y y'&& !R.P.eqGuardType R.P.depth t&&aO R.P t&&(match mV R.P 8 t with
   |some l=>C4 l ls
   |none=>false)
 | .binOp op _ x y _,.YY op' x' y'=>Nat.beq (MV op) (MV op')&&cC R x x'&&cC R y y'
 | .unOp op _ x,.un op' x'=>Nat.beq (RV op) (RV op')&&cC R x x'
 | .convert s t x,.conv k y=>(R.T.d s).ok&&(match R.T.d t with
   | .int k'=>rL k' k
   |_=>false)&&cC R x y
 | .convert s t x,.RG y=>(R.T.d s).ok&&(match R.T.d t with
   | .str=>true
   |_=>false)&&cC R x y
 | .makeFunc (.func f) first aQ,.QH g cs=>first.isEmpty&&Nat.beq (R.ft g) f&&ol R aQ.toList cs
 | .fieldAddr s x f,.bF off y=>cC R x y&&(match R.T.d s with
   | .struct fs=>(match fs[f]? with
     |some (o,ft)=>Nat.beq o off&&(R.T.d ft).ok&& !Nat.beq (R.T.s ft) 0
     |none=>false)
   |_=>false)
 | .indexAddr t x j,.IZ sz y i=>cC R x y&&cC R j i&&(match R.T.d t with
   | .slice e=>Nat.beq (R.T.s e) sz&&(R.T.d e).ok
   |_=>false)
 | .indexAddr t x j,.aE m sz y i=>cC R x y&&cC R j i&&(match R.T.d t with
   | .arr k e=>Nat.beq k m&&Nat.beq (R.T.s e) sz&&(R.T.d e).ok
   |_=>false)
 | .slice t x a b c,.gO ty sz y l h m=>cC R x y&&ru R a l&&ru R b h&&ru R c m&&(match R.T.d t with
   | .slice e=>Nat.beq (R.ty ty) e&&Nat.beq (R.T.s e) sz&&(R.T.d e).ok
   |_=>false)
 | .slice t x a b c,.rn m sz y l h mx=>cC R x y&&a.isNone&&b.isNone&&c.isNone&&l.isNone&&h.isNone&&mx.isNone&&Nat.ble m 1000000&&(match R.T.d t with
   | .arr k e=>Nat.beq k m&&Nat.beq (R.T.s e) sz&&(R.T.d e).ok
   |_=>false)
 | .slice t x a b c,.oT m sz y l h=>cC R x y&&ru R a l&&ru R b h&&c.isNone&&Nat.ble m 1000000&&(match R.T.d t with
   | .arr k e=>Nat.beq k m&&Nat.beq (R.T.s e) sz&&(R.T.d e).ok
   |_=>false)
 | .slice t x a b c,.AE sz y h=>cC R x y&&a.isNone&&ru R b (some h)&&c.isNone&&(match R.T.d t with
   | .slice e=>Nat.beq (R.T.s e) sz&&(R.T.d e).ok
   |_=>false)
 | .makeSlice t l c,.Xm ty sz z l' c'=>cC R l l'&&cC R c c'&&(match R.T.d t with
   | .slice e=>Nat.beq (R.ty ty) e&&Nat.beq (R.T.s e) sz&&(R.T.d e).ok&&bI (R.T.z e)&&rq (cells (R.T.z e)) z&&Nat.beq (cells (R.T.z e)).length sz&& !Nat.beq sz 0
   |_=>false)
 | .convert s t x,.Lq y=>Nat.beq s t&&cC R x y&&(match R.T.d t with
   | .slice e=>(match R.T.d e with
     | .int .u8=>true
     |_=>false)
   |_=>false)
 | .convert s t x,.s2b ty y=>cC R x y&&(match R.T.d s,R.T.d t with
   | .str,.slice e=>Nat.beq (R.ty ty) e&&(match R.T.d e with
     | .int .u8=>true
     |_=>false)
   |_,_=>false)
 | .slice t x a b c,.RI y l h=>cC R x y&&ru R a l&&ru R b h&&c.isNone&&(match R.T.d t with
   | .str=>true
   |_=>false)
 | .binOp op t x (.const c) _,.B1 neg x'=>isEq op neg&&cC R x x'&&(match c,R.P.underlying t with
   | .pointer none,some (.pointer _)=>true
   |_,_=>false)
 | .binOp op t x (.const c) _,.yc neg x'=>isEq op neg&&cC R x x'&&(match c,R.P.underlying t with
   | .slice none 0 0,some (.slice _)=>true
   |_,_=>false)
 | .binOp op t x (.const c) _,.IX neg x'=>isEq op neg&&cC R x x'&&(match c,R.P.underlying t with
   | .map none,some (.map _ _)=>true
   |_,_=>false)
 | .sliceToArrayPointer t x,.ME m sz y=>cC R x y&&(match R.T.d t with
   | .arr k e=>Nat.beq k m&&Nat.beq (R.T.s e) sz&&(R.T.d e).ok
   |_=>false)
 | .field t x f,.IY ag off n y=>cC R x y&&(match R.T.d t with
   | .struct fs=>(match fs[f]? with
     |some (o,ft)=>Nat.beq o off&&(R.T.d ft).ok&&Nat.beq (R.T.s ft) n&&fB (R.T.d ft).ag ag
     |none=>false)
   |_=>false)
 | .slice t x a b c,.Lp ty sz y=>cC R x y&&a.isNone&&Xu b&&Xu c&&(match R.T.d t with
   | .slice e=>Nat.beq (R.ty ty) e&&Nat.beq (R.T.s e) sz&&(R.T.d e).ok
   |_=>false)
 | .index t x j,.CX ag m sz y i=>cC R x y&&cC R j i&&(match R.T.d t with
   | .arr k e=>Nat.beq k m&&Nat.beq (R.T.s e) sz&&(R.T.d e).ok&&fB (R.T.d e).ag ag
   |_=>false)
 | .index t x j,.RH y i=>cC R x y&&cC R j i&&(match R.T.d t with
   | .str=>true
   |_=>false)
 | .convert s t x,.Xl y=>cC R x y&&(match R.T.d s,R.T.d t with
   | .slice e,.str=>(match R.T.d e with
     | .int .u8=>true
     |_=>false)
   |_,_=>false)
 | .extract x i,.ext y j=>cC R x y&&Nat.beq i j
 | .makeMap _ none,.MH _ _ _ sz=> !Nat.beq sz 0
 | .lookup t x y ok,.Xo ls ag _ z Jc x' y'=>fB ok Jc&&cC R x x'&&cC R y y'&&sW R t ls ag&&(match R.T.d t with
   | .map _ e=>(R.T.d e).ok&&AN (R.T.z e) z
   |_=>false)
 | .mapUpdate t x y v,.Iu ls ag _ x' y' v'=>cC R x x'&&cC R y y'&&cC R v v'&&sW R t ls ag
 | .insert t x y v,.Iu ls ag _ x' y' v'=>cC R x x'&&cC R y y'&&cC R v v'&&sW R t ls ag
 | .mapEntry t x y,.YZ ls ag _ z x' y'=>cC R x x'&&cC R y y'&&sW R t ls ag&&(match R.T.d t with
   | .map _ e=>(R.T.d e).ok&&AN (R.T.z e) z
   |_=>false)
 | .lookup t x y false,.MI ls ag x' y'=>cC R x x'&&cC R y y'&&sW R t ls ag&&(match R.T.d t with
   | .map _ e=>(R.T.d e).ok&&AN (R.T.z e) (.int .i64 0)
   |_=>false)
 | .mapEntry t x y,.enc ls ag x' y'=>cC R x x'&&cC R y y'&&sW R t ls ag&&(match R.T.d t with
   | .map _ e=>(R.T.d e).ok&&AN (R.T.z e) (.int .i64 0)
   |_=>false)
 | .entryStore _ x st v,.Y0 _ x' st' v'=>cC R x x'&&cC R st st'&&cC R v v'
 | .range t x,.RK y=>cC R x y&&(match R.T.d t with
   | .map _ _=>true
   |_=>false)
 | .next x false,.Xp y=>cC R x y
 | .entry x,.Mp y=>cC R x y
 | .call c,i=>bC R c i
 |_,_=>false
end Go.AM
namespace Go.AM
open Go.RowKit
variable {P:Program} {T:TT} {X:bM} {o:Oper} {F:aT} {M:bg}
theorem C5(hT:cO P T){t f off e:Nat}{fs:List (Nat × Nat)}{x:Operand}{cs:List AV}{K:AV->Prop}(ht:T.d t= .struct fs)(RW:fs[f]? =some (off,e))(hok:(T.d e).ok=true)(ho:o.op= .field t x f)(hx:ev F x= .agg cs)
  (h:apart (T.d e).ag (T.s e) off cs K):∃av,bD P X o F M av [] []/\K av:=by
 have hx':x ∈ o.op.operands.toList:=by simp[ho,Op.operands]
 obtain⟨D,it,z,hD,hf,_⟩:=hT t (by rw[ht]; simp)
 rw[ht]at hf
 obtain⟨gs,rfl,Mh⟩:=jy rfl hf
 obtain⟨De,ie,_,xY,Fx,hie,lu,_⟩:=hT e (TD.dC hok)
 obtain⟨av,h1,h2,h3,h4⟩:=fM h
 obtain⟨fd,hfd,hfo,hft⟩:∃fd,gs[f]? =some fd/\fd.offset=off/\fd.type=e:=by
  rw[Mh,List.getElem?_map]at RW
  cases hg:gs.toList[f]? with
  |none=>simp[hg]at RW
  |some fd=>
   simp only[hg,Option.map_some,Option.some.injEq,Prod.mk.injEq]at RW
   exact⟨fd,by simpa using hg,RW.1,RW.2⟩
 refine⟨av,aC fun M' N ρ I ac w hW hU hN=> ?_,h4⟩
 have r1:=ap hU x hx'
 rw[hx]at r1
 generalize hv:ac.eval x=v at r1
 have hle:off+T.s e<=cs.length\/ T.s e=0:=by
  simp only[List.length_take,List.length_drop]at h1; omega
 cases r1 with
 |agg _ vs hvl EL My=>
  have Fy:∃u,(part e vs.toArray off).run P w= .ok u w/\aM ρ (lens M') I w N av u:=by
   unfold part
   simp only[Sem.run_bind,nW xY Fx,Result.andThen_ok]
   cases jr:(T.d e).ag with
   |true=>
    simp only[if_pos,Sem.run_bind,bu hie,Result.andThen_ok,Sem.run_pure]
    refine⟨_,rfl,?_⟩
    rw[h2,jr,if_pos rfl,lu]
    have hex:vs.toArray.extract off (off+T.s e)=((vs.drop off).take (T.s e)).toArray:=by
     apply Array.ext'
     simp
    rw[hex]
    refine .agg _ _ (by rw[h1]; simp only[List.length_take,List.length_drop]; omega) (fun u hu=>EL u (List.mem_of_mem_drop (List.mem_of_mem_take hu))) (fun i hi=> ?_)
    rw[h1]at hi
    rw[db _ _ _ _ _ hi,db _ _ _ _ _ hi]
    exact My (off+i) (by omega)
   |false=>
    have h5:=h3 jr
    have hlt:off<cs.length:=by omega
    have wO:off<vs.length:=by omega
    simp only[Bool.false_eq_true,if_false]
    have:vs.toArray[off]? =some vs[off]:=by simp[wO]
    rw[this]
    refine⟨_,Sem.run_pure _ _ _,?_⟩
    rw[h2,jr,h5]
    have e1:((cs.drop off).take 1).headD .bad=cs.getD off .bad:=by
     rw[List.drop_eq_getElem_cons hlt,List.take_succ_cons]
     simp[List.getD_eq_getElem?_getD,hlt]
    simp only[Bool.false_eq_true,if_false,e1]
    have:=My off hlt
    rwa[show vs.getD off default=vs[off] by simp[List.getD_eq_getElem?_getD,wO]]at this
  obtain⟨u,hu,hr⟩:=Fy
  refine⟨u,?_,hr⟩
  simp only[execOp,ho,hv,Instr.field,asAgg,Sem.run_bind,Sem.run_pure,Result.andThen_ok,run_underlying hD,hfd,hfo,hft,hu]
theorem sX{a b:List AV}{sz j:Nat}(h:a.length=sz):(a++b).getD j .bad=if j<sz then a.getD j .bad else b.getD (j - sz) .bad:=by
 subst h
 by_cases hlt:j<a.length
 ·rw[if_pos hlt]; simp[List.getD_eq_getElem?_getD,List.getElem?_append_left hlt]
 ·rw[if_neg hlt]; simp[List.getD_eq_getElem?_getD,List.getElem?_append_right (Nat.le_of_not_lt hlt)]
theorem wW(hT:cO P T){t m e n len i off cnt:Nat}{x:Operand}{Ml:Mem}{b:bf}(hM:M=aa Ml)(ht:T.d t= .arr m e)(ho:o.op= .sliceToArrayPointer t x)(hx:ev F x= .dp n len i off cnt)(hb:aa Ml n=some b)(hl:b.ln=len)(hm:m<=cnt):
  bD P X o F M (.loc n len i off) [] []:=by
 have hx':x ∈ o.op.operands.toList:=by simp[ho,Op.operands]
 obtain⟨D,it,z,hD,hf,_⟩:=hT t (by rw[ht]; simp)
 obtain rfl:=dY ht hf
 refine aC fun M' N ρ I ac w hW hU hN=> ?_
 have r1:=ap hU x hx'
 rw[hx]at r1
 obtain⟨sl,dK,fj⟩:=bh (F:=F) x hx' (n:=n) (by rw[hx]; simp[AV.names])
 have bN:M' n=some b:=(hN sl dK n fj).trans (by rw[hM]; exact hb)
 have dt:lens M' n=some (len,b.sz):=by rw[aA]; exact⟨b,bN,hl,rfl⟩
 obtain⟨hn,g,cap,c,hρ,hv,hc1,jV⟩:=jz r1 dt
 refine⟨.pointer (some ⟨g,i*b.sz+off,none⟩),?_,.loc n len i off _ hn rfl fun l sz h=> ?_⟩
 ·simp only[execOp,ho,hv,Instr.arrayAt,Sem.run_bind,Sem.run_pure,Result.andThen_ok,run_underlying hD,if_neg (Nat.not_lt.2 hm)]
 ·rw[dt]at h
  simp only[Option.some.injEq,Prod.mk.injEq]at h
  obtain⟨rfl,rfl⟩:=h
  exact⟨Nat.le_refl _,fun _=>⟨g,cap,hρ,rfl⟩⟩
theorem FX(hT:cO P T){t m e sz:Nat}{x:Operand}{es:List (List AV)}(ht:T.d t= .arr m e)(ho:o.op= .sliceToArrayPointer t x)(hx:ev F x= .aH sz es)(hm:m<=es.length)(h0:0<m):
  bD P X o F M (.be (es.take m).flatten 0) [] []:=by
 have hx':x ∈ o.op.operands.toList:=by simp[ho,Op.operands]
 obtain⟨D,it,z,hD,hf,_⟩:=hT t (by rw[ht]; simp)
 obtain rfl:=dY ht hf
 refine aC fun M' N ρ I ac w hW hU hN=> ?_
 have r1:=ap hU x hx'
 rw[hx]at r1
 generalize hv:ac.eval x=v at r1
 cases r1 with
 |cJ=>simp at hm; omega
 |aH _ _ b q cap c hl hc hI hs h1 hcell hr=>
  refine⟨.pointer (some ⟨b,q,none⟩),?_,?_⟩
  ·simp only[execOp,ho,hv,Instr.arrayAt,Sem.run_bind,Sem.run_pure,Result.andThen_ok,run_underlying hD,if_neg (Nat.not_lt.2 hm)]
  ·have hfl:(es.take m).flatten.length=m*sz:=by
    rw[List.length_flatten,show (es.take m).map List.length=List.replicate m sz from ?_]
    ·simp
    ·apply List.ext_getElem
     ·simp; omega
     ·intro i hi hi'
      simp at hi ⊢
      exact hs _ (List.getElem_mem _)
   have C6:∀j,j<m*sz->j / sz<es.length/\j % sz<sz/\(es.take m).flatten.getD j .bad=(es.getD (j / sz) []).getD (j % sz) .bad:=by
    intro j hj
    have hsz:0<sz:=by
     rcases Nat.eq_zero_or_pos sz with h|h
     ·subst h; simp at hj
     ·exact h
    have hd:j / sz<m:=Nat.div_lt_of_lt_mul (by rw[Nat.mul_comm]; exact hj)
    refine⟨by omega,Nat.mod_lt _ hsz,?_⟩
    have key:∀(l:List (List AV))(j:Nat),(∀e ∈ l,e.length=sz)->l.flatten.getD j .bad=(l.getD (j / sz) []).getD (j % sz) .bad:=by
     intro l
     induction l with
     |nil=>intro j _; simp
     |cons a r ih=>
      intro j hl
      have ha:=hl a List.mem_cons_self
      rw[List.flatten_cons,sX ha]
      by_cases hlt:j<sz
      ·rw[if_pos hlt,Nat.div_eq_of_lt hlt,Nat.mod_eq_of_lt hlt]; rfl
      ·rw[if_neg hlt,ih (j - sz) (fun e he=>hl e (List.mem_cons_of_mem _ he))]
       have e1:j / sz=(j - sz) / sz+1:=by
        rw[Nat.div_eq_sub_div hsz (by omega)]
       have e2:j % sz=(j - sz) % sz:=by
        rw[Nat.mod_eq_sub_mod (by omega)]
       rw[e1,e2]; simp
    rw[key _ _ (fun e he=>hs e (List.mem_of_mem_take he))]
    congr 1
    simp[List.getD_eq_getElem?_getD,List.getElem?_take,hd]
   refine .be _ 0 b q (fun j=>c (j / sz) (j % sz)) hI (fun j hj=> ?_) (fun j hj=> ?_) (fun j hj=> ?_)
   ·rw[hfl]at hj
    obtain⟨a1,a2,_⟩:=C6 j hj
    exact h1 _ _ a1 a2
   ·rw[hfl]at hj
    obtain⟨a1,a2,_⟩:=C6 j hj
    have:=hcell _ _ a1 a2
    have e:q+j / sz*sz+j % sz=q+j:=by rw[Nat.add_assoc,Nat.div_add_mod' j sz]
    rwa[e]at this
   ·rw[hfl]at hj
    obtain⟨a1,a2,a3⟩:=C6 j hj
    rw[a3]; exact hr _ _ a1 a2
theorem uO{neg:Bool}{t k e:TypeId}{y:Operand}{x:Operand}{q:Option Nat}{w:World}(hu:P.underlying t=some (.map k e)):
  (do eqGuard (if neg then .neq else .eql) t x y (.map q) (.map none); binOp (if neg then .neq else .eql) t (.map q) (.map none):Sem Value).run P w= .ok (.bool (if neg then !q.isNone else q.isNone)) w:=by
 have e1:=run_equal_map_nil (P:=P) (w:=w) t k e q hu
 cases neg<;>simp[Sem.run_bind,eqGuard,binOp,e1]
theorem oX{neg:Bool}{t k e yt:TypeId}{x:Operand}{b:Bool}{Ml:Mem}(hM:M=aa Ml)(ho:o.op= .binOp (if neg then .neq else .eql) t x (.const (.map none)) yt)(hu:P.underlying t=some (.map k e))
  (hx:(ev F x= .bQ/\b=true)\/(∃n bl,ev F x= .omap n/\aa Ml n=some bl/\bl.ln=0)/\b=false):bD P X o F M (.bool (if neg then !b else b)) [] []:=by
 have hx':x ∈ o.op.operands.toList:=by simp[ho,Op.operands]
 refine aC fun M' N ρ I ac w hW hU hN=> ?_
 have r1:=ap hU x hx'
 have key:∃q:Option Nat,ac.eval x= .map q/\q.isNone=b:=by
  rcases hx with⟨h,rfl⟩|⟨⟨n,bl,h,hb,hl⟩,rfl⟩
  ·rw[h]at r1
   generalize ac.eval x=v at r1
   cases r1
   exact⟨none,rfl,rfl⟩
  ·rw[h]at r1
   obtain⟨sl,dK,fj⟩:=bh (F:=F) x hx' (n:=n) (by rw[h]; simp[AV.names])
   have bN:M' n=some bl:=(hN sl dK n fj).trans (by rw[hM]; exact hb)
   have dt:lens M' n=some (0,bl.sz):=by rw[aA]; exact⟨bl,bN,hl,rfl⟩
   generalize ac.eval x=v at r1
   cases r1 with
   |omap _ _ hn h1 h=>
    obtain⟨g,cap,_,hv⟩:=h _ dt
    exact⟨_,hv,rfl⟩
 obtain⟨q,hv,hq⟩:=key
 refine⟨_,?_,.bool _⟩
 have e1:=uO (P:=P) (neg:=neg) (y:= .const (.map none)) (x:=x) (q:=q) (w:=w) hu
 rw[hq]at e1
 have hc:ac.eval (.const (.map none))= .map none:=rfl
 simp only[execOp,ho,hv,hc]
 simp only[Sem.run_bind]at e1 ⊢
 rw[e1]
 simp
end Go.AM
