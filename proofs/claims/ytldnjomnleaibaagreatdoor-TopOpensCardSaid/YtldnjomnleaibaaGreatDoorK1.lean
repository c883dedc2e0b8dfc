/- Of the reckoning machine, and what is proved with it: texts joined by program. -/
import Derived.Test.YtldnjomnleaibaaGreatDoorK0
import Derived.RangeFuncRecord
import Derived.Laws.StructEq
import Derived.ChangeKeysEq
import Derived.Laws.Cover3
import Derived.Laws.Pointers
import Derived.Laws.BytesString
import Derived.Laws.MakeOwn
import Derived.Lib.ConvBytes
import Derived.WideKeyRuns
set_option linter.all false
namespace Go.AM
open Go.RowKit
def kH(w:World)(l:Nat):Prop:=∀off,w.cell? ⟨l,off,none⟩=none
theorem gj{w:World}{l:Nat}{r:Loop}(h:w.heap[l]? =some (.loop r)):kH w l:=fun off=>by simp[World.cell?,h]
theorem qF{w:World}{l:Nat}{r:Option (List Deferred)}(h:w.heap[l]? =some (.deferred r)):kH w l:=fun off=>by simp[World.cell?,h]
theorem bZ{w:World}{l k:Nat}{o:Obj}(h:k≠l):(w.putObj l o).heap[k]? =w.heap[k]? :=World.putObj_heap_other (by omega)
theorem putObj_size(w:World)(l:Nat)(o:Obj):(w.putObj l o).heap.size=w.heap.size:=by simp[World.putObj]
theorem vj{w:World}{l:Nat}{o:Obj}(hc:kH w l){b off:Nat}{v:Value}(h:w.cell? ⟨b,off,none⟩=some v):(w.putObj l o).cell? ⟨b,off,none⟩=some v:=by
 have hb:b≠l:=fun e=>by subst e; rw[hc]at h; simp at h
 exact (cell_of_heap (bZ hb)).trans h
theorem aL.Aw{ρ:Place}{L:aY}{I:Nat->Prop}{w:World}{l:Nat}(o:Obj)(hc:kH w l){N:Nat->Prop}{a:AV}{v:Value}(h:aL ρ L I w N a v):aL ρ L I (w.putObj l o) N a v:=by
 induction h with
 |int k n=>exact .int k n
 |bool b=>exact .bool b
 |str s=>exact .str s
 |aw=>exact .aw
 |ab=>exact .ab
 |af=>exact .af
 |di=>exact .di
 |bP=>exact .bP
 |oB n r=>exact .oB n r
 |loc n len i off v hn h1 h=>exact .loc n len i off v hn h1 h
 |bh n len v hn h1 h=>exact .bh n len v hn h1 h
 |dm n len i off cnt v hn h1 h=>exact .dm n len i off cnt v hn h1 h
 |omap n v hn h1 h=>exact .omap n v hn h1 h
 |cI sz a cap hc=>exact .cI sz a cap hc
 |aG sz es b o cap c hl uB hI hs h1 hcell hr ih=>exact .aG sz es b o cap c hl uB hI hs h1 (fun i j hi hj=>vj hc (hcell i j hi hj)) ih
 |bc e off b o c hI h1 hcell hr ih=>exact .bc e off b o c hI h1 (fun j hj=>vj hc (hcell j hj)) ih
 |bK f aP vs hl hr ih=>exact .bK f aP vs hl ih
 |qm f aP vs hl hr ih=>exact .qm f aP vs hl ih
 |agg cs vs hl h1 hr ih=>exact .agg cs vs hl h1 ih
 |aF cs vs hl hr ih=>exact .aF cs vs hl ih
 |bad v=>exact .bad v
section
variable {C:bL} {ρ:Place} {I:Nat->Prop} {M:bf} {N:Nat->Prop} {w:World} {l:Nat}
theorem xS(o:Obj)(hc:kH w l)(hI:I l){Xa:World}(h0:Xa.heap.size=C.w0.heap.size){n:Nat}{b:be}(B:sg C ρ (lens M) I w N n b):sg {C with w0:=Xa} ρ (lens M) I (w.putObj l o) N n b:=by
 refine⟨B.lt,B.even,B.dW,fun g cap hg=> ?_,fun k ka va r sn la hb=> ?_⟩
 rotate_left
 ·obtain⟨g,cap,hg,i1,i2,i3⟩:=B.iter k ka va r sn la hb
  obtain⟨_,_,_,_,jU,_⟩:=B.real g cap hg
  exact⟨g,cap,hg,by show Xa.heap.size<=r; omega,i2,i3.at (bZ fun e=>jU (e ▸ hI)) (bZ fun e=>i2 (e ▸ hI))⟩
 obtain⟨cs,fr,hc1,Cx,jU,Cy,BQ,z',Cz,CA⟩:=B.real g cap hg
 have hne:g≠l:=fun e=>jU (e ▸ hI)
 refine⟨cs,fr,hc1.at (bZ hne),Cx,jU,?_,BQ,z',Cz,fun i j hi hj=> ?_⟩
 ·rcases Cy with h|h
  ·exact .inl h
  ·exact .inr (by show Xa.heap.size<=g; omega)
 ·obtain⟨u,hu,pE,hr⟩:=CA i j hi hj
  exact⟨u,hu,pE,hr.Aw o hc⟩
theorem bY.Aw(h:bY C ρ I M N w)(o:Obj)(hc:kH w l)(hI:I l)(hl:C.w0.heap.size<=l):bY C ρ I M N (w.putObj l o):=by
 refine⟨fun n b hb=>xS o hc hI rfl (h.aR n b hb),h.inj,h.oz,fun g hg=>by rw[putObj_size]; exact h.lt g hg,h.old,?_,h.pn,h.Cw,h.par⟩
 exact⟨h.keeps.os,h.keeps.tape,h.keeps.output,h.keeps.drawn,by rw[putObj_size]; exact h.keeps.size,fun g hg hf=>(bZ (by omega)).trans (h.keeps.block g hg hf)⟩
theorem bY.Lh(h:bY C ρ I M N w)(o:Obj)(hc:kH w l)(hI:C.I0 l)(hl:l<C.w0.heap.size):bY {C with w0:=C.w0.putObj l o} ρ I M N (w.putObj l o):=by
 refine⟨fun n b hb=>xS o hc (h.oz l hI) (putObj_size _ _ _) (h.aR n b hb),h.inj,h.oz,fun g hg=>by rw[putObj_size]; exact h.lt g hg,fun g hg=>h.old g (by simpa[putObj_size]using hg),?_,h.pn,fun g hg=> ?_,h.par⟩
 ·refine⟨h.keeps.os,h.keeps.tape,h.keeps.output,h.keeps.drawn,?_,fun g hg hf=> ?_⟩
  ·show (C.w0.putObj l o).heap.size<=(w.putObj l o).heap.size
   rw[putObj_size,putObj_size]; exact h.keeps.size
  ·have uq:g<C.w0.heap.size:=by simpa[putObj_size]using hg
   show (w.putObj l o).heap[g]? =(C.w0.putObj l o).heap[g]?
   by_cases e:g=l
   ·subst e
    rw[World.putObj_heap_same hl,World.putObj_heap_same (Nat.lt_of_lt_of_le hl h.keeps.size)]
   ·rw[bZ e,bZ e]; exact h.keeps.block g uq hf
 ·obtain⟨h1,h2⟩:=h.Cw g hg
  exact⟨by show g< (C.w0.putObj l o).heap.size; rw[putObj_size]; exact h1,h2⟩
theorem bY.Ax(h:bY C ρ I M N w)(hI:C.I0 l){o:Obj}(hl:C.w0.heap[l]? =some o):I l/\w.heap[l]? =some o:=
 ⟨h.oz l hI,(h.keeps.block l (Array.getElem?_eq_some_iff.1 hl).1 (fun hf=>(h.Cw l hf).2 hI)).trans hl⟩
end
end Go.AM
namespace Go.AM
open Go.RowKit
variable {P:Program} {T:TT} {X:bL}
theorem xT{S:St}{a:Act}{w w1:World}{ρ:Place}{I:Nat->Prop}(hF:jv ρ I w X S a){av:AV}{ws:List (Nat × be)}{v:Value}{aU:Nat}{nw:List Nat}{d:Option Nat}
  (Av:∀p ∈ ws,p.1<aU) (hle:S.nx<=aU) (hd:∀x,d=some x->x<X.size) (hp:gC X (aa S.M) (· <S.nx) ρ I w av ws v w1):
  ∃ρ1 I1,(∀g,I g->I1 g)/\(∀g,I g->w1.heap[g]? =w.heap[g]?)/\bY X ρ1 I1 (aa (bX S.M ws)) (· <aU) w1/\jv ρ1 I1 w1 X ⟨gB S.F d av,bX S.M ws,aU⟩ (a.put d v):=by
 obtain⟨ρ1,I1,E,W,R⟩:=hp
 have hN:∀m,fQ (· <S.nx) ws m->m<aU:=by
  rintro m (h|⟨b,h⟩)
  ·have:m<S.nx:=h
   omega
  ·exact Av _ h
 have hM:aa (bX S.M ws)=cV (aa S.M) ws:=gD ws S.M
 refine⟨ρ1,I1,E.oz,E.cell,?_,?_,?_,?_⟩
 ·show bY X ρ1 I1 (aa (bX S.M ws)) (· <aU) w1
  rw[hM]
  refine⟨fun n b hb=> ?_,W.inj,W.oz,W.lt,W.old,W.keeps,fun n hn=>hN n (W.pn n hn),W.Cw,W.par⟩
  have B:=W.aR n b hb
  refine⟨hN n B.lt,B.even,B.dW,fun g cap hρ=> ?_,B.iter⟩
  obtain⟨cs,fr,hc1,Cx,jU,Cy,BQ,z',Cz,CA⟩:=B.real g cap hρ
  refine⟨cs,fr,hc1,Cx,jU,Cy,BQ,z',Cz,fun i j hi hj=> ?_⟩
  obtain⟨u,hu,pE,hr⟩:=CA i j hi hj
  exact⟨u,hu,pE,hr.wide hN⟩
 ·intro i
  show aL ρ1 (lens (aa (bX S.M ws))) I1 w1 (· <aU) (look (gB S.F d av) i) ((a.put d v).tmps.getD i undef)
  rw[hM]
  rcases xM (a:=a) (d:=d) (v:=v) (F:=S.F) (av:=av) (i:=i) hF.size hd with⟨h1,h2⟩|⟨h1,h2⟩
  ·rw[h1,h2]; exact R.wide hN
  ·rw[h1,h2]; exact ((hF.rep i).rJ E (fun _ h=>h)).wide (fun m h=>by have:m<S.nx:=h; show m<aU; omega)
 ·cases d<;>exact hF.defers.rJ E
 ·cases d with
  |none=>exact hF.size
  |some x=>simpa[Act.put]using hF.size
theorem kI{S:St}{a:Act}{w w1:World}{ρ:Place}{I:Nat->Prop}(hF:jv ρ I w X S a){av:AV}{ws:List (Nat × be)}{v:Value}{aU:Nat}{nw:List Nat}{d:Option Nat}
  (Av:∀p ∈ ws,p.1<aU) (hle:S.nx<=aU) (hd:∀x,d=some x->x<X.size) (hp:gC X (aa S.M) (· <S.nx) ρ I w av ws v w1):hQ X ⟨gB S.F d av,bX S.M ws,aU⟩ (a.put d v) w1:=by
 obtain⟨ρ1,I1,_,_,h1,h2⟩:=xT (nw:=nw) hF Av hle hd hp
 exact⟨ρ1,I1,h1,h2⟩
theorem Fs{a:Act}{F:aT}{b:Bool}{s:Nat}(h:a.tmps.getD s undef= .bool b)(i:Nat):look ((s,AV.bool b)::F) i=AV.bool b/\a.tmps.getD i undef= .bool b\/ look ((s,AV.bool b)::F) i=look F i:=by
 by_cases e:i=s
 ·subst e; exact .inl ⟨by simp[look],h⟩
 ·have hb:(i==s)=false:=by simpa using e
  exact .inr (by simp[look,hb])
theorem kf{S:St}{a:Act}{w:World}{s:Nat}{b:Bool}(h:hQ X S a w)(hv:a.tmps.getD s undef= .bool b):hQ X ⟨(s,.bool b)::S.F,S.M,S.nx⟩ a w:=by
 obtain⟨ρ,I,W,F⟩:=h
 refine⟨ρ,I,W,fun i=> ?_,F.defers,F.size⟩
 rcases Fs (F:=S.F) hv i with⟨h1,h2⟩|h1
 ·rw[h1,h2]; exact .bool _
 ·rw[h1]; exact F.rep i
theorem iF.steps{b:Frame}{R:St->Prop}{ks qG:List It}{a a':Act}{w w':World}(hs:∀cs,Steps P (lone (b.atR a (ks.map It.item)) cs w) (lone (b.atR a' (qG.map It.item)) cs w'))(hsub:∀c post k',(It.ir c post::k') <:+ qG->(It.ir c post::k') <:+ ks)
  (h:iF P X b R qG a' w'):iF P X b R ks a w:=by
 intro cs
 obtain⟨a2,w2,S2,hS,h1|h1⟩:=h cs
 ·obtain⟨todo,hl,h2,h3⟩:=h1
  exact⟨a2,w2,S2,hS,.inl ⟨todo,hl,(hs cs).trans h2,h3⟩⟩
 ·obtain⟨c,post,k',h2,h3,h4⟩:=h1
  exact⟨a2,w2,S2,hS,.inr ⟨c,post,k',hsub _ _ _ h2,(hs cs).trans h3,h4⟩⟩
section
variable {b:Frame} {a:Act} {w:World} {k:List Item} {cs:List Frame}
theorem step_scope{c:Code}:step P (lone (b.atR a (.code (.scope c)::k)) cs w)= .next (lone (b.atR a (.code c:: .inScope c::k)) cs w):=
 step_lone_go (by simp[stepG,stepG.exec,Frame.atR])
theorem step_inScope{c:Code}:step P (lone (b.atR a (.inScope c::k)) cs w)= .next (lone (b.atR a k) cs w):=
 step_lone_go (by simp[stepG,stepG.exec,Frame.atR])
end
theorem oc{b:Frame}{a:Act}{w:World}{cs:List Frame}{todo:List Item}(hb:b.roundOf=none)(h:BS b.roundOf.isSome todo):Steps P (lone (b.atR a todo) cs w) (lone {b.atR a todo with mode:= .returning} cs w):=by
 rcases h with rfl|⟨_,k,rfl⟩
 ·exact .one (stepR_end hb)
 ·exact .one (stepR_ret hb)
theorem kJ{b:Frame}{a:Act}{w:World}{cs:List Frame}{todo:List Item}{ρ:Place}{I:Nat->Prop}{M:bf}{N:Nat->Prop}(W:bY X ρ I M N w)(hd:lK I w X a.defers):
  ∃w1,Steps P (lone {b.atR a todo with mode:= .returning} cs w) (lone {b.atR {a with defers:=[]} todo with mode:= .returning} cs w1)/\bY X ρ I M N w1/\
   ∀N' av v,aL ρ (lens M) I w N' av v->aL ρ (lens M) I w1 N' av v:=by
 obtain⟨Ds,h1,h2,h3⟩:=hd
 obtain⟨tm,ds⟩:=a
 simp only at h1
 subst h1
 induction Ds generalizing w with
 |nil=>exact⟨w,.refl _ _,W,fun _ _ _ h=>h⟩
 |cons D Ds ih=>
  obtain⟨k1,k2,k3⟩:=h3 D List.mem_cons_self
  rw[List.nodup_cons]at h2
  have W':=W.Aw (.deferred none) (qF k3) k2 k1
  obtain⟨w1,s1,s2,s3⟩:=ih W' h2.2 (fun D' fW=>by
   obtain⟨q1,q2,q3⟩:=h3 D' (List.mem_cons_of_mem _ fW)
   exact⟨q1,q2,(bZ (fun e=>h2.1 (by rw[<-e]; exact fW))).trans q3⟩)
  refine⟨w1,.head (step_lone_go ?_) s1,s2,fun N' av v h=>s3 _ _ _ (h.Aw _ (qF k3))⟩
  simp[stepG,unwind,Frame.atR,run_takeDeferred k3]
theorem fF{c:K7}{post:St->Prop}{k' k:List It}{x y:It}(hx:∀c p,x≠ .ir c p)(h:(It.ir c post::k') <:+ x::k):(It.ir c post::k') <:+ y::k:=by
 rcases List.suffix_cons_iff.1 h with h|h
 ·exact (hx c post (List.cons.inj h).1.symm).elim
 ·exact h.trans (List.suffix_cons _ _)
theorem hZ{c:K7}{post:St->Prop}{k' k:List It}{y:It}(h:(It.ir c post::k') <:+ k):(It.ir c post::k') <:+ y::k:=h.trans (List.suffix_cons _ _)
theorem ed{id:Nat}:∀{k k':List It},La id k=some k'->k' <:+ k/\exitTo id (k.map It.item)=some (k'.map It.item)
 |[],k',h=>by simp[La]at h
 | .aR id'::k,k',h=>by
   simp only[La]at h
   by_cases Qy:id'=id
   ·subst Qy
    simp at h
    subst h
    exact⟨List.suffix_cons _ _,by simp[It.item,exitTo]⟩
   ·have hb:(id'==id)=false:=by simpa using Qy
    rw[hb]at h
    obtain⟨h1,h2⟩:=ed (k:=k) h
    exact⟨h1.trans (List.suffix_cons _ _),by simp[It.item,exitTo,hb,h2]⟩
 | .code c::k,k',h=>by
   obtain⟨h1,h2⟩:=ed (k:=k) h
   exact⟨h1.trans (List.suffix_cons _ _),by simp[It.item,exitTo,h2]⟩
 | .inl c::k,k',h=>by
   obtain⟨h1,h2⟩:=ed (k:=k) h
   exact⟨h1.trans (List.suffix_cons _ _),by simp[It.item,exitTo,h2]⟩
 | .ir c p::k,k',h=>by
   obtain⟨h1,h2⟩:=ed (k:=k) h
   exact⟨h1.trans (List.suffix_cons _ _),by cases c<;>simp[It.item,K7.item,exitTo,h2]⟩
 | .mP c::k,k',h=>by
   obtain⟨h1,h2⟩:=ed (k:=k) h
   exact⟨h1.trans (List.suffix_cons _ _),by simp[It.item,exitTo,h2]⟩
 | .ops all i r gd::k,k',h=>by
   obtain⟨h1,h2⟩:=ed (k:=k) h
   exact⟨h1.trans (List.suffix_cons _ _),by simp[It.item,exitTo,h2]⟩
theorem Mn{size id:Nat}{nr:Bool}{k k':List It}(h:La id k=some k')(hk:∀x ∈ k,CD size nr x):∀x ∈ k',CD size nr x:=fun x hx=>hk x ((ed h).1.subset hx)
theorem Ft{c0:Code}{c:K7}{post:St->Prop}{k' k:List It}(h:(It.ir c post::k') <:+ .code c0:: .inl c0::k):(It.ir c post::k') <:+ .inl c0::k:=by
 rcases List.suffix_cons_iff.1 h with h|h
 ·simp at h
 ·exact h
theorem CM{c0 c1:Code}{c:K7}{post:St->Prop}{k' k:List It}(h:(It.ir c post::k') <:+ .code c0:: .inl c0::k):(It.ir c post::k') <:+ .code c1::k:=by
 rcases List.suffix_cons_iff.1 h with h|h
 ·simp at h
 ·exact fF (by simp) h
end Go.AM
namespace Go.AM
open Go.RowKit
variable {P:Program} {T:TT} {X:bL}
def de:Place:=fun _=>none
def gL:aY:=fun _=>none
structure Rq(z:Bool)(w w':World):Prop extends Below w.heap.size w w' where
 drawn:(zd z w).drawn<=w'.drawn
abbrev Blw:=Rq false
def gk(z:Bool)(P:Program)(f:Nat)(args:List AV)(av:AV):Prop:=
 ∀I w vs,(∀g,I g->g<w.heap.size)->dp de gL I w cH args vs->
  Calls P f vs.toArray w fun e w1=>∃v I1,e= .returned v/\Rq z w w1/\(∀g,I g->I1 g)/\(∀g,I1 g->g<w1.heap.size)/\(∀g,g<w.heap.size->I1 g->I g)/\aL de gL I1 w1 cH av v
abbrev Fu:=gk false
mutual
theorem gl{N:Nat->Prop}:∀(a:AV),(∀m ∈ a.names,N m)->a.under N
 | .loc n len i off,h=>by simpa[AV.under]using h n (by simp[AV.names])
 | .bh n len,h=>by simpa[AV.under]using h n (by simp[AV.names])
 | .dm n len i off cnt,h=>by simpa[AV.under]using h n (by simp[AV.names])
 | .omap n,h=>by simpa[AV.under]using h n (by simp[AV.names])
 | .bK f cs,h=>by simpa[AV.under]using dO cs (fun m hm=>h m (by simpa[AV.names]using hm))
 | .agg cs,h=>by simpa[AV.under]using dO cs (fun m hm=>h m (by simpa[AV.names]using hm))
 | .aF cs,h=>by simpa[AV.under]using dO cs (fun m hm=>h m (by simpa[AV.names]using hm))
 | .int ..,_=>by simp[AV.under]
 | .bool ..,_=>by simp[AV.under]
 | .str ..,_=>by simp[AV.under]
 | .aw,_=>by simp[AV.under]
 | .ab,_=>by simp[AV.under]
 | .af,_=>by simp[AV.under]
 | .di,_=>by simp[AV.under]
 | .bP,_=>by simp[AV.under]
 | .oB ..,_=>by simp[AV.under]
 | .aG ..,_=>by simp[AV.under]
 | .bc ..,_=>by simp[AV.under]
 | .bad,_=>by simp[AV.under]
theorem dO{N:Nat->Prop}:∀(cs:List AV),(∀m ∈ AV.ar cs,N m)->AV.fX N cs
 |[],_=>by simp[AV.fX]
 |c::cs,h=>by
  simp only[AV.fX]
  exact⟨gl c (fun m hm=>h m (by simp[AV.ar,hm])),dO cs (fun m hm=>h m (by simp[AV.ar,hm]))⟩
end
theorem aL.alone{ρ:Place}{L:aY}{I:Nat->Prop}{w:World}{N:Nat->Prop}{a:AV}{v:Value}(h:aL ρ L I w N a v)(hn:a.names=[])(ρ':Place)(L':aY):aL ρ' L' I w cH a v:=
 (h.low (N':=cH) (gl a (fun m hm=>by rw[hn]at hm; simp at hm))).bare (fun _ h=>h) ρ' L'
theorem dM{cs:List AV}(h:AV.ar cs=[])(j:Nat):(cs.getD j .bad).names=[]:=by
 induction cs generalizing j with
 |nil=>simp[AV.names]
 |cons c cs ih=>
  simp only[AV.ar,List.append_eq_nil_iff]at h
  cases j with
  |zero=>simpa using h.1
  |succ j=>simpa using ih h.2 j
theorem dp.alone{ρ:Place}{L:aY}{I:Nat->Prop}{w:World}{N:Nat->Prop}{as:List AV}{vs:List Value}(h:dp ρ L I w N as vs)(hn:AV.ar as=[])(ρ':Place)(L':aY):dp ρ' L' I w cH as vs:=
 ⟨h.1,fun j hj=>(h.2 j hj).alone (dM hn j) ρ' L'⟩
theorem gk.Rr{z:Bool}{f:Nat}{args:List AV}{av:AV}(h:gk z P f args av)(hz:sk z X)(hn:AV.ar args=[])(M:bf):qn P X f args M av [] []:=by
 refine⟨fun p hp=>by simp at hp,fun M' N ρ I w vs hW _ _ hR=> ?_⟩
 refine (h I w vs hW.lt (hR.alone hn _ _)).mono ?_
 rintro e w1 ⟨v,I1,rfl,hb,h1,h2,h3,hr⟩
 obtain⟨E,W⟩:=hW.ext' (w':=w1) (I':=I1) hb.os hb.tape hb.output hb.size hb.block h1 h2 h3 (hz.le hW.keeps.drawn hb.drawn)
 refine⟨v,rfl,ρ,I1,E,by rw[pP]; exact W,?_⟩
 exact ((hr.bare (fun _ h=>h) ρ (lens M')).wide (fun _ h=>h.elim))
def b9(P:Program)(f:Nat):Prop:=∃fn,P.funcs[f]? =some fn/\(fn.name== "runtime.NumGoroutine")=false/\fn.body.isNone=false
def oK(T:TT):List ResultVar->aT->Mem->(List AV->Prop)->Prop
 |[],_,_,K=>K []
 | .tmp t::r,F,M,K=>oK T r F M fun vs=>K (look F t::vs)
 | .cell a t::r,F,M,K=>ei (T.d t).ok (nH T t (look F a) M fun v=>oK T r F M fun vs=>K (v::vs))
def one(vs:List AV):AV:=match vs with
 |[v]=>v
 |vs=> .aF vs
section
variable {I:Nat->Prop} {w:World} {ρ:Place} {M:Mem} {N:Nat->Prop}
def rQ(tmps:Array Value):ResultVar->Sem Value
 | .tmp t=>pure (tmps.getD t undef)
 | .cell a t=>do loadVar t (<-asAddr (tmps.getD a undef))
theorem lQ(hT:cN P T)(hW:bY X ρ I (aa M) N w){F:aT}{tmps:Array Value}(hF:∀i,aL ρ (lens (aa M)) I w N (look F i) (tmps.getD i undef)):∀{rs:List ResultVar}{K:List AV->Prop},oK T rs F M K->
  ∃ej vs,K ej/\dp ρ (lens (aa M)) I w N ej vs/\(rs.mapM (rQ tmps)).run P w= .ok vs w/\vs.length=rs.length
 |[],K,h=>⟨[],[],h,⟨rfl,fun j hj=>by simp at hj⟩,rfl,rfl⟩
 | .tmp t::r,K,h=>by
   obtain⟨ej,vs,h1,h2,h3,h4⟩:=lQ hT hW hF (rs:=r) h
   refine⟨_,tmps.getD t undef::vs,h1,⟨by simp[h2.1],fun j hj=> ?_⟩,?_,by simp[h4]⟩
   ·cases j with
    |zero=>simpa using hF t
    |succ j=>simpa using h2.2 j (by simpa using hj)
   ·simp only[List.mapM_cons,Sem.run_bind,Sem.run_pure,Result.andThen_ok,rQ,h3]
 | .cell a t::r,K,h=>by
   simp only[oK]at h
   obtain⟨hok,h⟩:=ax h
   have Rs:∃av,(∃v ad,tmps.getD a undef= .pointer (some ad)/\(loadVar t ad).run P w= .ok v w/\aL ρ (lens (aa M)) I w N av v)/\oK T r F M fun vs=>K (av::vs):=by
    cases hl:look F a with
    |loc n len i off=>
     rw[hl]at h
     simp only[nH,alive]at h
     cases hb:aa M n with
     |none=>rw[hb]at h; exact h.elim
     |some b=>
      rw[hb]at h
      obtain⟨hc1,hmp,h2⟩:=ax h
      obtain⟨av,ha1,ha2,EJ,hk⟩:=fL h2
      have hlen:b.ln=len:=by simpa using hc1
      have dr:lens (aa M) n=some (len,b.sz):=by rw[az]; exact⟨b,hb,hlen,rfl⟩
      have hr:=hF a
      rw[hl]at hr
      obtain⟨hn,g,cap,hρ,hv⟩:=fI hr dr
      obtain⟨f,hf⟩:=(hW.aR n b hb).row hmp hρ i
      obtain⟨v,EK,L8⟩:=fk (K:=fun _=>True) hT hok (off:=off) f hf ha1 ha2 EJ
      exact⟨av,⟨v,_,hv,EK,L8⟩,hk⟩
    |bc e off=>
     rw[hl]at h
     simp only[nH]at h
     obtain⟨av,ha1,ha2,EJ,hk⟩:=fL h
     have hr:=hF a
     rw[hl]at hr
     generalize W9:tmps.getD a undef=vv at hr
     cases hr with
     |bc _ _ b q c hI h1 hcell hr=>
      obtain⟨v,EK,L8⟩:=fk (K:=fun _=>True) (N:=N) hT hok (off:=off) c (fun j hj=>⟨hcell j hj,h1 j hj,(hr j hj).wide (fun _ h=>h.elim)⟩) ha1 ha2 EJ
      exact⟨av,⟨v,_,rfl,EK,L8⟩,hk⟩
    |_=>rw[hl]at h; exact h.elim
   obtain⟨av,⟨v,ad,hv,hrun,pI⟩,hk⟩:=Rs
   obtain⟨ej,vs,h1,h2,h3,h4⟩:=lQ hT hW hF (rs:=r) hk
   refine⟨_,v::vs,h1,⟨by simp[h2.1],fun j hj=> ?_⟩,?_,by simp[h4]⟩
   ·cases j with
    |zero=>simpa using pI
    |succ j=>simpa using h2.2 j (by simpa using hj)
   ·simp only[List.mapM_cons,Sem.run_bind,Sem.run_pure,Result.andThen_ok,rQ,hv,asAddr,hrun,h3]
theorem II{I:Nat->Prop}{w:World}{ρ:Place}{L:aY}{N:Nat->Prop}{ej:List AV}{vs:List Value}(h:dp ρ L I w N ej vs):
  aL ρ L I w N (one ej) (if h:vs.toArray.size=1 then vs.toArray[0]else .tuple vs.toArray):=by
 obtain⟨hl,hr⟩:=h
 cases ej with
 |nil=>
  cases vs with
  |nil=>exact .aF [] [] rfl (fun j hj=>by simp at hj)
  |cons _ _=>simp at hl
 |cons a r=>
  cases vs with
  |nil=>simp at hl
  |cons v q=>
   cases r with
   |nil=>
    cases q with
    |nil=>exact hr 0 (by simp)
    |cons _ _=>simp at hl
   |cons b r=>
    cases q with
    |nil=>simp at hl
    |cons u q=>
     have:¬ (v::u::q).toArray.size=1:=by simp
     rw[dif_neg this]
     exact .aF _ _ hl hr
theorem jK(hT:cN P T)(hW:bY X ρ I (aa M) N w){F:aT}{tmps:Array Value}(hF:∀i,aL ρ (lens (aa M)) I w N (look F i) (tmps.getD i undef)){fn:Func}{K:List AV->Prop}(h:oK T fn.results.toList F M K):
  ∃ej v,K ej/\(results fn tmps).run P w= .ok v w/\aL ρ (lens (aa M)) I w N (one ej) v:=by
 obtain⟨ej,vs,h1,h2,h3,h4⟩:=lQ hT hW hF h
 have hrun:(results fn tmps).run P w= .ok (if h:vs.toArray.size=1 then vs.toArray[0]else .tuple vs.toArray) w:=by
  unfold results
  have e:∀g:ResultVar->Sem Value,(∀r,g r=rQ tmps r)->(List.mapM g fn.results.toList).run P w= .ok vs w:=fun g hg=>by rw[funext hg]; exact h3
  simp only[Sem.run_bind,Array.mapM_eq_mapM_toList,Sem.run_map]
  rw[e _ (fun r=>by cases r<;>rfl)]
  simp only[Result.andThen_ok,Sem.run_pure]
 refine⟨ej,_,h1,hrun,?_⟩
 exact II h2
end
def kK(i:Nat):List AV->aT
 |[]=>[]
 |a::r=>(i,a)::kK (i+1) r
theorem mT:∀(as:List AV)(i j:Nat),look (kK i as) j=if i<=j/\j<i+as.length then as.getD (j - i) .bad else .bad
 |[],i,j=>by simp only[kK,look,List.length_nil]; rw[if_neg (by omega)]
 |a::r,i,j=>by
  by_cases h:j=i
  ·subst h; simp[kK,look]
  ·have hb:(j==i)=false:=by simpa using h
   simp only[kK,look,hb,cond_false,mT r (i+1) j,List.length_cons]
   by_cases h2:i+1<=j/\j<i+1+r.length
   ·rw[if_pos h2,if_pos (by omega)]
    have:j - i=(j - (i+1))+1:=by omega
    rw[this]; simp
   ·rw[if_neg h2,if_neg (by omega)]
def YG(w:World)(I:Nat->Prop)(size:Nat):bL:=⟨w,0,I,size,de,gL⟩
mutual
def AV.fit:AV->Prop
 | .aG _ es=>es.length<=maxLen/\AV.CN es
 | .agg cs=>AV.kg cs
 | .aF cs=>AV.kg cs
 | .bK _ cs=>AV.kg cs
 | .bc e _=>AV.kg e
 |_=>True
def AV.kg:List AV->Prop
 |[]=>True
 |c::r=>AV.fit c/\AV.kg r
def AV.CN:List (List AV)->Prop
 |[]=>True
 |e::r=>AV.kg e/\AV.CN r
end
theorem jB:∀(cs:List AV),(∀j,j<cs.length->(cs.getD j .bad).fit)->AV.kg cs
 |[],_=>by simp[AV.kg]
 |c::r,h=>by
  simp only[AV.kg]
  exact⟨by simpa using h 0 (by simp),jB r (fun j hj=>by simpa using h (j+1) (by simpa using hj))⟩
theorem xU:∀(es:List (List AV)),AV.CN es↔∀e ∈ es,AV.kg e
 |[]=>by simp[AV.CN]
 |e::r=>by simp[AV.CN,xU r]
theorem aL.fit{ρ:Place}{L:aY}{I:Nat->Prop}{w:World}{N:Nat->Prop}{a:AV}{v:Value}(h:aL ρ L I w N a v):a.fit:=by
 induction h with
 |cI=>simp[AV.fit,AV.CN]
 |aG sz es b o cap c hl hc hI hs h1 hcell hr ih=>
  simp only[AV.fit]
  refine⟨by omega,(xU es).2 fun e he=> ?_⟩
  obtain⟨i,hi,rfl⟩:=List.getElem_of_mem he
  have hel:es.getD i []=es[i]:=by simp[List.getD_eq_getElem?_getD,hi]
  refine jB _ fun j hj=> ?_
  have:=ih i j hi (by rw[<-hs _ (List.getElem_mem hi)]; exact hj)
  rwa[hel]at this
 |bc e off b o c hI h1 hcell hr ih=>simp only[AV.fit]; exact jB _ ih
 |bK f aP vs hl hr ih=>simp only[AV.fit]; exact jB _ ih
 |qm f aP vs hl hr ih=>simp only[AV.fit]; exact jB _ ih
 |agg cs vs hl h1 hr ih=>simp only[AV.fit]; exact jB _ ih
 |aF cs vs hl hr ih=>simp only[AV.fit]; exact jB _ ih
 |_=>simp[AV.fit]
theorem dp.fit{ρ:Place}{L:aY}{I:Nat->Prop}{w:World}{N:Nat->Prop}{as:List AV}{vs:List Value}(h:dp ρ L I w N as vs):AV.kg as:=
 jB _ fun j hj=>(h.2 j hj).fit
end Go.AM
namespace Go.AM
open Go.RowKit
def IJ:TypeDesc->TD
 | .bool=> .bool
 | .int k=> .int k
 | .string=> .str
 | .pointer e=> .ptr e
 | .slice e=> .slice e
 | .array n e=> .arr n e
 | .map k e=> .map k e
 | .struct fs=> .struct (fs.toList.map fun f=>(f.offset,f.type))
 | .func .. => .func
 | .interface _=> .iface
 | .tuple _=> .aF
 |_=> .other
def Xb(P:Program)(t:Nat):TD:=match P.underlying t,P.info? t with
 |some D,some i=>bif Nat.ble i.bytes 131072&&i.zero.isSome then IJ D else .other
 |_,_=> .other
def YH(P:Program)(t:Nat):Nat:=match P.info? t with
 |some i=>i.size
 |none=>0
def YI(P:Program)(t:Nat):AV:=match P.info? t with
 |some i=>(match i.zero with
  |some z=>K6 z
  |none=> .bad)
 |none=> .bad
def Ay(P:Program):TT:=⟨Xb P,YH P,YI P⟩
theorem CO:∀D:TypeDesc,IJ D≠ .other->(IJ D).fits D:=by
 intro D h
 cases D<;>simp_all[IJ,TD.fits]
theorem IK(P:Program):cN P (Ay P):=by
 intro t ht
 simp only[Ay,Xb]at ht
 cases hD:P.underlying t with
 |none=>rw[hD]at ht; exact (ht rfl).elim
 |some D=>
  cases hi:P.info? t with
  |none=>rw[hD,hi]at ht; exact (ht rfl).elim
  |some i=>
   rw[hD,hi]at ht
   simp only at ht
   cases hc:Nat.ble i.bytes 131072&&i.zero.isSome with
   |false=>rw[hc]at ht; exact (ht rfl).elim
   |true=>
    rw[hc]at ht
    simp only[Bool.and_eq_true,Option.isSome_iff_exists]at hc
    obtain⟨hb,z,hz⟩:=hc
    refine⟨D,i,z,rfl,?_,rfl,?_,Nat.le_of_ble_eq_true hb,hz,?_⟩
    ·simp only[Ay,Xb,hD,hi,hz,hb,Option.isSome_some,Bool.and_self,cond_true]
     exact CO D ht
    ·simp only[Ay,YH,hi]
    ·simp only[Ay,YI,hi,hz]
def Rt(ds:List TD)(ss:List Nat)(zs:List AV):TT:=⟨fun t=>ds.getD t .other,fun t=>ss.getD t 0,fun t=>zs.getD t .bad⟩
theorem Mo{P:Program}{ds:List TD}{ss:List Nat}{zs:List AV}(n:Nat)(h1:(List.range n).map (Xb P)=ds)(h2:(List.range n).map (YH P)=ss)(h3:(List.range n).map (YI P)=zs):cN P (Rt ds ss zs):=by
 subst h1; subst h2; subst h3
 intro t ht
 have hlt:t<n:=by
  refine Classical.byContradiction fun h=>ht ?_
  simp[Rt,List.getD_eq_getElem?_getD,h]
 have:=IK P t (by simpa[Rt,Ay,List.getD_eq_getElem?_getD,hlt]using ht)
 simpa[Rt,Ay,List.getD_eq_getElem?_getD,hlt]using this
end Go.AM
namespace Go.AM
open Go.RowKit
inductive LK where
 |i|b|s
def lu(n:Nat)(l:List LK):List LK:=(List.replicate n l).flatten
def wK(P:Program)(f:Nat->Option (List LK)):List Field->Nat->Option (List LK)
 |[],_=>some []
 |x::r,off=>if x.name != "_" &&x.offset==off then (match f x.type,P.info? x.type with
  |some l,some i=>if i.size==l.length then (wK P f r (off+l.length)).map (l++ ·)else none
  |_,_=>none)else none
def mU(P:Program):Nat->Nat->Option (List LK)
 |0,_=>none
 |d+1,t=>match P.underlying t with
  |some .bool=>some [.b]
  |some (.int _)=>some [.i]
  |some .string=>some [.s]
  |some (.struct fs)=>if P.stoodInHeld t then none else wK P (mU P d) fs.toList 0
  |some (.array n e)=>(match mU P d e,P.info? e with
   |some l,some i=>if i.size==l.length then some (lu n l)else none
   |_,_=>none)
  |_=>none
def aN(P:Program)(t:Nat):Bool:=match P.underlying t with
 |some (.struct _)=>true
 |some (.array _ _)=>true
 |_=>false
inductive Mp:LK->Value->Value->Bool->Prop
 |i (k:IntKind) (x y:Int):Mp .i (.int k x) (.int k y) (x==y)
 |b (x y:Bool):Mp .b (.bool x) (.bool y) (x==y)
 |s (x y:List UInt8):Mp .s (.string ⟨x.toArray⟩) (.string ⟨y.toArray⟩) (x==y)
inductive ng:List LK->List Value->List Value->List Bool->Prop
 |nil:ng [] [] [] []
 |cons {l ls v vs u us r rs} (h:Mp l v u r) (t:ng ls vs us rs):ng (l::ls) (v::vs) (u::us) (r::rs)
theorem ng.split:∀{l1 l2:List LK}{vs us:List Value}{rs:List Bool},ng (l1++l2) vs us rs->
  ∃v1 v2 u1 u2 r1 r2,vs=v1++v2/\us=u1++u2/\rs=r1++r2/\ng l1 v1 u1 r1/\ng l2 v2 u2 r2/\v1.length=l1.length/\u1.length=l1.length
 |[],l2,vs,us,rs,h=>⟨[],vs,[],us,[],rs,rfl,rfl,rfl,.nil,h,rfl,rfl⟩
 |a::l1,l2,_,_,_,.cons (v:=v) (u:=u) (r:=r) h t=>by
  obtain⟨v1,v2,u1,u2,r1,r2,rfl,rfl,rfl,h1,h2,h3,h4⟩:=t.split (l1:=l1)
  exact⟨v::v1,v2,u::u1,u2,r::r1,r2,rfl,rfl,rfl,.cons h h1,h2,by simp[h3],by simp[h4]⟩
def valOf(ag:Bool)(vs:List Value):Value:=if ag then .agg vs.toArray else vs.headD default
theorem wL{P:Program}{w:World}{t:Nat}{D:TypeDesc}(h:P.underlying t=some D):(isAgg t).run P w= .ok (aN P t) w:=by
 unfold isAgg aN
 simp only[Sem.run_bind,run_underlying h,Result.andThen_ok,h]
 cases D<;>rfl
theorem fS{P:Program}{w:World}{t:Nat}{D:TypeDesc}{i:TypeInfo}(h:P.underlying t=some D)(hi:P.info? t=some i){pre mid post:List Value}(hm:mid.length=i.size)(h1:aN P t=false->mid.length=1):
  (part t (pre++(mid++post)).toArray pre.length).run P w= .ok (valOf (aN P t) mid) w:=by
 unfold part
 simp only[Sem.run_bind,wL h,Result.andThen_ok]
 cases jq:aN P t with
 |true=>
  simp only[if_pos,Sem.run_bind,bt hi,Result.andThen_ok,Sem.run_pure,valOf]
  have:(pre++(mid++post)).toArray.extract pre.length (pre.length+i.size)=mid.toArray:=by
   apply Array.ext'
   simp[<-hm]
  rw[this]
 |false=>
  obtain⟨v,rfl⟩:∃v,mid=[v]:=List.length_eq_one_iff.1 (h1 jq)
  simp[valOf]
theorem jC{P:Program}:∀{d t:Nat}{ls:List LK},mU P d t=some ls->aN P t=false->ls.length=1
 |0,_,_,h,_=>by simp[mU]at h
 |d+1,t,ls,h,ha=>by
  unfold mU at h
  unfold aN at ha
  split at h<;>simp_all<;>first|(rw[<-h]; rfl)|skip
theorem BX{P:Program}:∀{d t:Nat}{ls:List LK},mU P d t=some ls->∃D,P.underlying t=some D
 |0,_,_,h=>by simp[mU]at h
 |d+1,t,ls,h=>by
  unfold mU at h
  cases hu:P.underlying t with
  |none=>rw[hu]at h; simp at h
  |some D=>exact⟨D,rfl⟩
theorem iy{P:Program}:∀(d:Nat)(m t:Nat)(ls:List LK)(w:World)(vs us:List Value)(rs:List Bool),mU P d t=some ls->ng ls vs us rs->
  (Op.equalIn (d+m) t (valOf (aN P t) vs) (valOf (aN P t) us)).run P w= .ok (rs.all id) w
 |0,_,_,_,_,_,_,_,h,_=>by simp[mU]at h
 |d+1,m,t,ls,w,vs,us,rs,h,hv=>by
  have e:d+1+m=(d+m)+1:=by omega
  rw[e]
  have ih:=iy (P:=P) d m
  unfold mU at h
  cases hu:P.underlying t with
  |none=>rw[hu]at h; simp at h
  |some D=>
   rw[hu]at h
   cases D<;>simp only[reduceCtorEq]at h
   case bool=>
    obtain rfl:[LK.b]=ls:=by simpa using h
    have ha:aN P t=false:=by simp[aN,hu]
    rcases hv with _|⟨hl,ht⟩
    cases hl; cases ht
    rw[ha]
    simp only[valOf,Bool.false_eq_true,if_false,List.headD_cons]
    rw[run_equalIn_bool' _ _ _ _ _ hu]; simp
   case int k=>
    obtain rfl:[LK.i]=ls:=by simpa using h
    have ha:aN P t=false:=by simp[aN,hu]
    rcases hv with _|⟨hl,ht⟩
    cases hl; cases ht
    rw[ha]
    simp only[valOf,Bool.false_eq_true,if_false,List.headD_cons]
    rw[run_equalIn_int _ _ _ _ _ _ _ hu]; simp
   case string=>
    obtain rfl:[LK.s]=ls:=by simpa using h
    have ha:aN P t=false:=by simp[aN,hu]
    rcases hv with _|⟨hl,ht⟩
    cases hl; cases ht
    rw[ha]
    simp only[valOf,Bool.false_eq_true,if_false,List.headD_cons]
    rw[run_equalIn_string _ _ _ _ _ hu]
    simp[ByteArray.toList_eq]
   case struct fs=>
    have ha:aN P t=true:=by simp[aN,hu]
    have W6:P.fieldsOf t=fs:=by simp[Program.fieldsOf,hu]
    cases hst:P.stoodInHeld t with
    |true=>simp[hst]at h
    |false=>
     simp only[hst,Bool.false_eq_true,if_false]at h
     rw[ha]
     simp only[valOf,if_pos]
     rw[run_equalIn_struct w (d+m) t _ _ (by rw[W6]; exact hu) hst,W6]
     have go:∀(fl:List Field)(off:Nat)(ls:List LK)(w:World)(p q vs us:List Value)(rs:List Bool),wK P (mU P d) fl off=some ls->ng ls vs us rs->p.length=off->q.length=off->
       (Op.eqFields (d+m) (p++vs).toArray (q++us).toArray fl).run P w= .ok (rs.all id) w:=by
      intro fl
      induction fl with
      |nil=>
       intro off ls w p q vs us rs hl hv _ _
       obtain rfl:[]=ls:=by simpa[wK]using hl
       cases hv
       simp[Op.eqFields]
      |cons f fl ihf=>
       intro off ls w p q vs us rs hl hv hp hq
       simp only[wK]at hl
       split at hl
       ·rename_i hc
        simp only[Bool.and_eq_true,bne_iff_ne,ne_eq,beq_iff_eq]at hc
        split at hl
        ·rename_i l i ut EN
         split at hl
         ·rename_i hsz
          have hsz:i.size=l.length:=by simpa using hsz
          obtain⟨l2,hl2,rfl⟩:∃l2,wK P (mU P d) fl (off+l.length)=some l2/\l++l2=ls:=by
           simpa using hl
          obtain⟨v1,v2,u1,u2,r1,r2,rfl,rfl,rfl,h1,h2,h3,h4⟩:=hv.split
          obtain⟨D,hD⟩:=BX ut
          have p1:=fS (w:=w) hD EN (pre:=p) (mid:=v1) (post:=v2) (by omega) (fun h=>by rw[h3]; exact jC ut h)
          have p2:=fS (w:=w) hD EN (pre:=q) (mid:=u1) (post:=u2) (by omega) (fun h=>by rw[h4]; exact jC ut h)
          rw[hp,<-hc.2]at p1
          rw[hq,<-hc.2]at p2
          simp only[Op.eqFields,if_pos hc.1,ne_eq,hc.1,not_false_eq_true,Sem.run_bind,p1,p2,Result.andThen_ok,ih _ _ _ _ _ _ ut h1]
          have h5:=ihf (off+l.length) l2 w (p++v1) (q++u1) v2 u2 r2 hl2 h2 (by simp; omega) (by simp; omega)
          rw[List.append_assoc,List.append_assoc]at h5
          simp only[if_true,Sem.run_bind,p1,p2,Result.andThen_ok,ih _ _ _ _ _ _ ut h1]
          cases hr:r1.all id with
          |true=>simp only[Bool.not_true,Bool.false_eq_true,if_false,h5,List.all_append,hr,Bool.true_and]
          |false=>simp only[Bool.not_false,if_true,Sem.run_pure,List.all_append,hr,Bool.false_and]
         ·simp at hl
        ·simp at hl
       ·simp at hl
     exact go fs.toList 0 ls w [] [] vs us rs h hv rfl rfl
   case array n e=>
    have ha:aN P t=true:=by simp[aN,hu]
    split at h
    ·rename_i l i ut EN
     split at h
     ·rename_i hsz
      have hsz:i.size=l.length:=by simpa using hsz
      obtain rfl:lu n l=ls:=by simpa using h
      rw[ha]
      simp only[valOf,if_pos]
      rw[run_equalIn_array w (d+m) _ _ hu EN]
      have hc:P.cellsOf e=l.length:=by simp[Program.cellsOf,EN,hsz]
      rw[hc]
      obtain⟨D,hD⟩:=BX ut
      have go:∀(k j:Nat)(w:World)(p q vs us:List Value)(rs:List Bool),ng (lu k l) vs us rs->p.length=j*l.length->q.length=j*l.length->
        (Op.eqItems (d+m) e l.length (p++vs).toArray (q++us).toArray (List.range' j k)).run P w= .ok (rs.all id) w:=by
       intro k
       induction k with
       |zero=>
        intro j w p q vs us rs hv _ _
        simp only[lu,List.replicate_zero,List.flatten_nil]at hv
        cases hv
        simp[Op.eqItems]
       |succ k ihk=>
        intro j w p q vs us rs hv hp hq
        have e1:lu (k+1) l=l++lu k l:=by simp[lu,List.replicate_succ]
        rw[e1]at hv
        obtain⟨v1,v2,u1,u2,r1,r2,rfl,rfl,rfl,h1,h2,h3,h4⟩:=hv.split
        have p1:=fS (w:=w) hD EN (pre:=p) (mid:=v1) (post:=v2) (by omega) (fun h=>by rw[h3]; exact jC ut h)
        have p2:=fS (w:=w) hD EN (pre:=q) (mid:=u1) (post:=u2) (by omega) (fun h=>by rw[h4]; exact jC ut h)
        rw[hp]at p1
        rw[hq]at p2
        have h5:=ihk (j+1) w (p++v1) (q++u1) v2 u2 r2 h2 (by rw[List.length_append,hp,h3,Nat.succ_mul]) (by rw[List.length_append,hq,h4,Nat.succ_mul])
        rw[List.append_assoc,List.append_assoc]at h5
        simp only[List.range'_succ,Op.eqItems,Sem.run_bind,p1,p2,Result.andThen_ok,ih _ _ _ _ _ _ ut h1]
        cases hr:r1.all id with
        |true=>simp only[Bool.not_true,Bool.false_eq_true,if_false,h5,List.all_append,hr,Bool.true_and]
        |false=>simp only[Bool.not_false,if_true,Sem.run_pure,List.all_append,hr,Bool.false_and]
      rw[List.range_eq_range']
      exact go n 0 w [] [] vs us rs hv (by simp) (by simp)
     ·simp at h
    ·simp at h
end Go.AM
namespace Go.AM
open Go.RowKit
variable {P:Program} {T:TT} {X:bL} {o:Oper} {F:aT} {M:bf}
inductive Mq:LK->AV->AV->Bool->Prop
 |i (k:IntKind) (x y:Int):Mq .i (.int k x) (.int k y) (x==y)
 |b (x y:Bool):Mq .b (.bool x) (.bool y) (x==y)
 |s (x y:List UInt8):Mq .s (.str x) (.str y) (x==y)
inductive uE:List LK->List AV->List AV->List Bool->Prop
 |nil:uE [] [] [] []
 |cons {l ls v vs u us r rs} (h:Mq l v u r) (t:uE ls vs us rs):uE (l::ls) (v::vs) (u::us) (r::rs)
theorem Mq.val{ρ:Place}{L:aY}{I:Nat->Prop}{w:World}{N:Nat->Prop}{l:LK}{a b:AV}{r:Bool}{v u:Value}(h:Mq l a b r)(h1:aL ρ L I w N a v)(h2:aL ρ L I w N b u):Mp l v u r:=by
 cases h with
 |i k x y=>rw[bv h1,bv h2]; exact .i k x y
 |b x y=>rw[gg h1,gg h2]; exact .b x y
 |s x y=>rw[gW h1,gW h2]; exact .s x y
theorem uE.val{ρ:Place}{L:aY}{I:Nat->Prop}{w:World}{N:Nat->Prop}:∀{ls:List LK}{as bs:List AV}{rs:List Bool}{vs us:List Value},uE ls as bs rs->vs.length=as.length->us.length=bs.length->
  (∀j,j<as.length->aL ρ L I w N (as.getD j .bad) (vs.getD j default))->(∀j,j<bs.length->aL ρ L I w N (bs.getD j .bad) (us.getD j default))->ng ls vs us rs
 |_,_,_,_,[],[],.nil,_,_,_,_=> .nil
 |_,_,_,_,v::vs,u::us,.cons h t,hv,hu,h1,h2=>
  .cons (h.val (by simpa using h1 0 (by simp)) (by simpa using h2 0 (by simp))) (t.val (by simpa using hv) (by simpa using hu)
    (fun j hj=>by simpa using h1 (j+1) (by simpa using hj)) (fun j hj=>by simpa using h2 (j+1) (by simpa using hj)))
 |_,_,_,_,_::_,[],.nil,hv,_,_,_=>by simp at hv
 |_,_,_,_,[],_::_,.nil,_,hu,_,_=>by simp at hu
 |_,_,_,_,_::_,_::_,.nil,hv,_,_,_=>by simp at hv
 |_,_,_,_,[],_,.cons _ _,hv,_,_,_=>by simp at hv
 |_,_,_,_,_::_,[],.cons _ _,_,hu,_,_=>by simp at hu
theorem xV{neg:Bool}{t yt:TypeId}{x y:Operand}{d:Nat}(hd:d<=10000){ls:List LK}{as bs:List AV}{rs:List Bool}(ho:o.op= .binOp (if neg then .neq else .eql) t x y yt)(hg:P.eqGuardType P.depth t=false)(ha:aN P t=true)
  (hl:mU P d t=some ls) (hx:ev F x= .agg as) (hy:ev F y= .agg bs) (h:uE ls as bs rs):bC P X o F M (.bool (if neg then !(rs.all id)else rs.all id)) [] []:=by
 have hx':x ∈ o.op.operands.toList:=by simp[ho,Op.operands]
 have hy':y ∈ o.op.operands.toList:=by simp[ho,Op.operands]
 refine aB fun M' N ρ I ac w hW hU hN=> ?_
 have r1:=ao hU x hx'
 have r2:=ao hU y hy'
 rw[hx]at r1
 rw[hy]at r2
 generalize hv:ac.eval x=v at r1
 generalize hu:ac.eval y=u at r2
 cases r1 with
 |agg _ vs hvl EK Mr=>
  cases r2 with
  |agg _ us Qz pE YJ=>
   have h4:=h.val hvl Qz Mr YJ
   have e:=iy d (10000 - d) t ls w vs us rs hl h4
   rw[ha]at e
   simp only[valOf,if_true]at e
   have e2:d+ (10000 - d)=10000:=by omega
   rw[e2]at e
   refine⟨_,?_,.bool _⟩
   have g:=run_eqGuard_agg w (if neg then .neq else .eql) t x y vs.toArray us.toArray hg
   cases neg<;>simp_all[execOp,Sem.run_bind,run_eql_struct,run_neq_struct]
theorem wM{neg:Bool}{t yt:TypeId}{x y:Operand}{a b:Bool}(ho:o.op= .binOp (if neg then .neq else .eql) t x y yt)(hu:P.underlying t=some .bool)(hx:ev F x= .bool a)(hy:ev F y= .bool b):
  bC P X o F M (.bool (if neg then a != b else a==b)) [] []:=by
 have hx':x ∈ o.op.operands.toList:=by simp[ho,Op.operands]
 have hy':y ∈ o.op.operands.toList:=by simp[ho,Op.operands]
 refine aB fun M' N ρ I ac w hW hU hN=>⟨_,?_,.bool _⟩
 have r1:=gg (hx ▸ ao hU x hx')
 have r2:=gg (hy ▸ ao hU y hy')
 have e:=run_equal_bool w t a b hu
 cases neg<;>simp[execOp,ho,r1,r2,Sem.run_bind,eqGuard,binOp,e,bne]
def Mu(op:BinOp)(a b:List UInt8)(K:AV->Prop):Prop:=
 match op with
 | .add=>(a.length+b.length<=9223372036854775807)/\K (.str (a++b))
 | .eql=>K (.bool (a==b))
 | .neq=>K (.bool !(a==b))
 | .lss=>K (.bool (Op.bytesLess a b))
 | .leq=>K (.bool (Op.bytesLess a b||a==b))
 | .gtr=>K (.bool !(Op.bytesLess a b||a==b))
 | .geq=>K (.bool !(Op.bytesLess a b))
 |_=>False
theorem Fv{op:BinOp}{t yt:TypeId}{x y:Operand}{a b:List UInt8}{K:AV->Prop}(ho:o.op= .binOp op t x y yt)(hx:ev F x= .str a)(hy:ev F y= .str b)(h:Mu op a b K):∃av,bC P X o F M av [] []/\K av:=by
 have hx':x ∈ o.op.operands.toList:=by simp[ho,Op.operands]
 have hy':y ∈ o.op.operands.toList:=by simp[ho,Op.operands]
 have go:∀av v,(∀ρ L I w N,aL ρ L I w N av v)->(∀w,(Op.stringOp op ⟨a.toArray⟩ ⟨b.toArray⟩).run P w= .ok v w)->K av->∃av,bC P X o F M av [] []/\K av:=by
  intro av v hr hrun hk
  refine⟨av,aB fun M' N ρ I ac w hW hU hN=>⟨v,?_,hr _ _ _ _ _⟩,hk⟩
  have r1:=gW (hx ▸ ao hU x hx')
  have r2:=gW (hy ▸ ao hU y hy')
  have g:(eqGuard op t x y (.string ⟨a.toArray⟩) (.string ⟨b.toArray⟩)).run P w= .ok () w:=by
   unfold eqGuard; cases op<;>simp
  have e:binOp op t (.string ⟨a.toArray⟩) (.string ⟨b.toArray⟩)=Op.stringOp op ⟨a.toArray⟩ ⟨b.toArray⟩:=by cases op<;>rfl
  simp only[execOp,ho,r1,r2,Sem.run_bind,g,Result.andThen_ok,e,hrun,Sem.run_pure]
 have tl:∀l:List UInt8,(⟨l.toArray⟩:ByteArray).toList=l:=fun l=>by rw[ByteArray.toList_eq]
 cases op<;>simp only[Mu]at h<;>try exact h.elim
 case add=>
  refine go _ (.string ⟨(a++b).toArray⟩) (fun _ _ _ _ _=> .str _) (fun w=> ?_) h.2
  have e:(⟨a.toArray⟩:ByteArray)++⟨b.toArray⟩=⟨(a++b).toArray⟩:=by
   apply ByteArray.ext
   simp
  have h1:=h.1
  have hs:¬ ((((⟨a.toArray⟩:ByteArray).size+ (⟨b.toArray⟩:ByteArray).size:Nat):Int)>IntKind.i64.max):=by
   show ¬ (((a.toArray.size+b.toArray.size:Nat):Int)>9223372036854775807)
   simp only[List.size_toArray]
   omega
  simp only[Op.stringOp,if_neg hs,e,Sem.run_pure]
 all_goals exact go _ _ (fun _ _ _ _ _=> .bool _) (fun w=>by simp only[Op.stringOp,tl,Sem.run_pure]) h
end Go.AM
namespace Go.AM
open Go.RowKit
variable {P:Program} {T:TT} {X:bL} {o:Oper} {F:aT} {M:bf}
theorem rh{neg:Bool}{t e:TypeId}{y:Operand}{x:Operand}{q:Option Addr}{l c:Nat}{w:World}(hu:P.underlying t=some (.slice e)):
  (do eqGuard (if neg then .neq else .eql) t x y (.slice q l c) (.slice none 0 0); binOp (if neg then .neq else .eql) t (.slice q l c) (.slice none 0 0):Sem Value).run P w= .ok (.bool (if neg then !q.isNone else q.isNone)) w:=by
 have e1:=run_equal_slice_nil w t e q l c hu
 cases neg<;>simp[Sem.run_bind,eqGuard,binOp,e1]
theorem uF{neg:Bool}{t e:TypeId}{y:Operand}{x:Operand}{q:Option Addr}{w:World}(hu:P.underlying t=some (.pointer e)):
  (do eqGuard (if neg then .neq else .eql) t x y (.pointer q) (.pointer none); binOp (if neg then .neq else .eql) t (.pointer q) (.pointer none):Sem Value).run P w= .ok (.bool (if neg then !q.isNone else q.isNone)) w:=by
 have e0:P.pointee t=e:=by simp[Program.pointee,hu]
 have e1:=run_equal_pointer_nil w t q (by rw[e0]; exact hu)
 cases neg<;>simp[Sem.run_bind,eqGuard,binOp,e1]
theorem kL{neg:Bool}{t e yt:TypeId}{x:Operand}{b:Bool}{Ml:Mem}(hM:M=aa Ml)(ho:o.op= .binOp (if neg then .neq else .eql) t x (.const (.pointer none)) yt)(hu:P.underlying t=some (.pointer e))
  (hx:(ev F x= .aw/\b=true)\/((∃r q,ev F x= .bc r q)/\b=false)\/(∃n len i q bl,ev F x= .loc n len i q/\aa Ml n=some bl/\bl.ln=len)/\b=false):bC P X o F M (.bool (if neg then !b else b)) [] []:=by
 have hx':x ∈ o.op.operands.toList:=by simp[ho,Op.operands]
 refine aB fun M' N ρ I ac w hW hU hN=> ?_
 have r1:=ao hU x hx'
 have key:∃q:Option Addr,ac.eval x= .pointer q/\q.isNone=b:=by
  rcases hx with⟨h,rfl⟩|⟨⟨r,q,h⟩,rfl⟩|⟨⟨n,len,i,q,bl,h,hb,hl⟩,rfl⟩
  ·rw[h]at r1
   generalize ac.eval x=v at r1
   cases r1
   exact⟨none,rfl,rfl⟩
  ·rw[h]at r1
   generalize ac.eval x=v at r1
   cases r1
   exact⟨_,rfl,rfl⟩
  ·rw[h]at r1
   obtain⟨sl,dJ,fi⟩:=bg (F:=F) x hx' (n:=n) (by rw[h]; simp[AV.names])
   have bM:M' n=some bl:=(hN sl dJ n fi).trans (by rw[hM]; exact hb)
   have dr:lens M' n=some (len,bl.sz):=by rw[az]; exact⟨bl,bM,hl,rfl⟩
   obtain⟨_,g,cap,_,hv⟩:=fI r1 dr
   exact⟨_,hv,rfl⟩
 obtain⟨q,hv,hq⟩:=key
 refine⟨_,?_,.bool _⟩
 have e1:=uF (P:=P) (neg:=neg) (y:= .const (.pointer none)) (x:=x) (q:=q) (w:=w) hu
 rw[hq]at e1
 have hc:ac.eval (.const (.pointer none))= .pointer none:=rfl
 simp only[execOp,ho,hv,hc]
 simp only[Sem.run_bind]at e1 ⊢
 rw[e1]
 simp
theorem uG{neg:Bool}{t e yt:TypeId}{x:Operand}{s:Nat}{es:List (List AV)}(ho:o.op= .binOp (if neg then .neq else .eql) t x (.const (.slice none 0 0)) yt)(hu:P.underlying t=some (.slice e))(hx:ev F x= .aG s es)
  {M':bf} {N:Nat->Prop} {ρ:Place} {I:Nat->Prop} {a:Act} {w:World} (hW:bY X ρ I M' N w) (hU:∀s ∈ dq o.op,aL ρ (lens M') I w N (look F s) (a.tmps.getD s undef)):
  ∃b:Bool,(b=true->es=[])/\bI P X o a M' N ρ I w (.bool (if neg then !b else b)) []:=by
 have hx':x ∈ o.op.operands.toList:=by simp[ho,Op.operands]
 have r1:=ao hU x hx'
 rw[hx]at r1
 have key:∃(q:Option Addr)(c:Nat),a.eval x= .slice q es.length c/\(q.isNone=true->es=[]):=by
  generalize a.eval x=v at r1
  cases r1 with
  |cI _ q cap=>exact⟨q,cap,rfl,fun _=>rfl⟩
  |aG _ _ b o cap c hl=>exact⟨_,cap,rfl,fun h=>by simp at h⟩
 obtain⟨q,c,hv,hq⟩:=key
 refine⟨q.isNone,hq,?_⟩
 have e1:=rh (P:=P) (neg:=neg) (y:= .const (.slice none 0 0)) (x:=x) (q:=q) (l:=es.length) (c:=c) (w:=w) hu
 have hr:(execOp a.eval o).run P w= .ok (.value (.bool (if neg then !q.isNone else q.isNone))) w:=by
  have hc:a.eval (.const (.slice none 0 0))= .slice none 0 0:=rfl
  simp only[execOp,ho,hv,hc]
  simp only[Sem.run_bind]at e1 ⊢
  rw[e1]
  simp
 unfold bI
 rw[hr]
 exact gC.value hW (.bool _)
theorem Az(hT:cN P T){t e:Nat}{x h m:Operand}{k k':IntKind}{n:Nat}(ht:T.d t= .slice e)(hok:(T.d e).ok=true)(ho:o.op= .slice t x none (some h) (some m))(hh:ev F h= .int k 0)(hm:ev F m= .int k' 0)
  (hx:∃s es,ev F x= .aG s es):bC P X o F M (.bh n 0) [(n,⟨e,T.s e,[],none⟩)] [n]:=by
 have hx':x ∈ o.op.operands.toList:=by simp[ho,Op.operands]
 have hh':h ∈ o.op.operands.toList:=by simp[ho,Op.operands]
 have hm':m ∈ o.op.operands.toList:=by simp[ho,Op.operands]
 obtain⟨D,it,z,hD,hf,_⟩:=hT t (by rw[ht]; simp)
 have fW:=bu ht hf
 subst fW
 obtain⟨_,ie,_,_,_,hie,lr,_⟩:=hT e (TD.dB hok)
 obtain⟨s,es,hx⟩:=hx
 refine⟨fun p hp=> .inl (by simp at hp; simp[hp]),fun M' N ρ I ac w hW hU hN hF=> ?_⟩
 have hn:¬N n:=hF n (by simp)
 have r1:=ao hU x hx'
 have r2:=bv (hh ▸ ao hU h hh')
 have r3:=bv (hm ▸ ao hU m hm')
 rw[hx]at r1
 obtain⟨q,cap,hv,hle⟩:=rN r1
 have hb:(Instr.sliceBounds true es.length cap (none:Option Value) (some (.int k 0)) (some (.int k' 0))).run P w= .ok (0,0,0) w:=by
  have e1:=run_sliceBound (P:=P) (k:=k') (i:=0) (y:=cap) (c:= .slice3Acap) (w:=w) ⟨by omega,by omega⟩
  have e2:=run_sliceBound (P:=P) (k:=k) (i:=0) (y:=0) (c:= .slice3B) (w:=w) ⟨by omega,by omega⟩
  simp[Instr.sliceBounds,e1,e2,Sem.run_bind,Instr.sliceBound,asIntOf]
 have hrun:=hY (a:=q) (len:=es.length) hD hie hb
 obtain⟨E,W⟩:=hW.dW hn e (T.s e)
 unfold bI
 have hr:(execOp ac.eval o).run P w= .ok (.value (.slice q 0 0)) w:=by
  simp only[execOp,ho,Option.map_none,Option.map_some,hv,r2,r3,Sem.run_bind,hrun]
  simp
 rw[hr]
 refine⟨_,I,E,by rw[bD]; exact W,?_⟩
 refine .bh n _ _ (.inr ⟨_,List.mem_singleton.2 rfl⟩) rfl fun l Ah oA=> ?_
 change lens (cX M' n _) n=_ at oA
 rw[bV,if_pos rfl]at oA
 simp at oA
 exact⟨by simp,fun _=> .inl ⟨by simp,q,rfl⟩⟩
theorem xW(hT:cN P T){t m e:Nat}{x ix:Operand}{cs:List AV}{k:IntKind}{j:Int}{K:AV->Prop}(ht:T.d t= .arr m e)(hok:(T.d e).ok=true)(ho:o.op= .index t x ix)(hx:ev F x= .agg cs)(hi:ev F ix= .int k j)
  (hj:0<=j/\j< (m:Int)) (h:apart (T.d e).ag (T.s e) (j.toNat*T.s e) cs K):∃av,bC P X o F M av [] []/\K av:=by
 have hx':x ∈ o.op.operands.toList:=by simp[ho,Op.operands]
 have hi':ix ∈ o.op.operands.toList:=by simp[ho,Op.operands]
 obtain⟨D,it,z,hD,hf,_⟩:=hT t (by rw[ht]; simp)
 have fW:=dX ht hf
 subst fW
 obtain⟨De,ie,_,xX,Fw,hie,lr,_⟩:=hT e (TD.dB hok)
 obtain⟨av,h1,h2,h3,h4⟩:=fL h
 refine⟨av,aB fun M' N ρ I ac w hW hU hN=> ?_,h4⟩
 have r1:=ao hU x hx'
 have r2:=bv (hi ▸ ao hU ix hi')
 rw[hx]at r1
 generalize hv:ac.eval x=v at r1
 generalize hoff:j.toNat*T.s e=off at h1 h2
 have hle:off+T.s e<=cs.length\/ T.s e=0:=by
  simp only[List.length_take,List.length_drop]at h1; omega
 cases r1 with
 |agg _ vs hvl EK Mr=>
  have Fx:∃u,(part e vs.toArray off).run P w= .ok u w/\aL ρ (lens M') I w N av u:=by
   unfold part
   simp only[Sem.run_bind,nV xX Fw,Result.andThen_ok]
   cases jq:(T.d e).ag with
   |true=>
    simp only[if_pos,Sem.run_bind,bt hie,Result.andThen_ok,Sem.run_pure]
    refine⟨_,rfl,?_⟩
    rw[h2,jq,if_pos rfl,lr]
    have hex:vs.toArray.extract off (off+T.s e)=((vs.drop off).take (T.s e)).toArray:=by
     apply Array.ext'
     simp
    rw[hex]
    refine .agg _ _ (by rw[h1]; simp only[List.length_take,List.length_drop]; omega) (fun u hu=>EK u (List.mem_of_mem_drop (List.mem_of_mem_take hu))) (fun i hi=> ?_)
    rw[h1]at hi
    rw[da _ _ _ _ _ hi,da _ _ _ _ _ hi]
    exact Mr (off+i) (by omega)
   |false=>
    have h5:=h3 jq
    have hlt:off<cs.length:=by omega
    have wN:off<vs.length:=by omega
    simp only[Bool.false_eq_true,if_false]
    have:vs.toArray[off]? =some vs[off]:=by simp[wN]
    rw[this]
    refine⟨_,Sem.run_pure _ _ _,?_⟩
    rw[h2,jq,h5]
    have e1:((cs.drop off).take 1).headD .bad=cs.getD off .bad:=by
     rw[List.drop_eq_getElem_cons hlt,List.take_succ_cons]
     simp[List.getD_eq_getElem?_getD,hlt]
    simp only[Bool.false_eq_true,if_false,e1]
    have:=Mr off hlt
    rwa[show vs.getD off default=vs[off] by simp[List.getD_eq_getElem?_getD,wN]]at this
  obtain⟨u,hu,hr⟩:=Fx
  refine⟨u,?_,hr⟩
  simp only[execOp,ho,hv,r2,Instr.index,asIntOf,Sem.run_bind,Sem.run_pure,Result.andThen_ok,run_underlying hD,if_pos hj,bt hie,lr,hoff,hu]
theorem xY(hT:cN P T){t:Nat}{x ix:Operand}{s:List UInt8}{k:IntKind}{j:Int}(ht:T.d t= .str)(ho:o.op= .index t x ix)(hx:ev F x= .str s)(hi:ev F ix= .int k j)(hj:0<=j/\j< (s.length:Int)):
  bC P X o F M (.int .u8 (s.getD j.toNat 0).toNat) [] []:=by
 have hx':x ∈ o.op.operands.toList:=by simp[ho,Op.operands]
 have hi':ix ∈ o.op.operands.toList:=by simp[ho,Op.operands]
 obtain⟨D,it,z,hD,hf,_⟩:=hT t (by rw[ht]; simp)
 have fW:=gf ht hf
 subst fW
 refine aB fun M' N ρ I ac w hW hU hN=>⟨_,?_,.int _ _⟩
 have r1:=gW (hx ▸ ao hU x hx')
 have r2:=bv (hi ▸ ao hU ix hi')
 have hlt:j.toNat<s.length:=by omega
 have e1:(⟨s.toArray⟩:ByteArray)[j.toNat]? =some s[j.toNat]:=by
  have hsz:j.toNat< (⟨s.toArray⟩:ByteArray).size:=by show j.toNat<s.toArray.size; simpa using hlt
  rw[getElem?_pos (⟨s.toArray⟩:ByteArray) j.toNat hsz]
  rfl
 simp only[execOp,ho,r1,r2,Instr.index,asIntOf,Sem.run_bind,Sem.run_pure,Result.andThen_ok,run_underlying hD,if_pos hj.1,e1]
 simp[List.getD_eq_getElem?_getD,hlt]
theorem foldl_push(s:List UInt8):∀r:ByteArray,(s.map fun c=>((c.toNat:Int))).foldl (fun r n=>r.push (UInt8.ofNat n.toNat)) r=⟨(r.data.toList++s).toArray⟩:=by
 induction s with
 |nil=>intro r; simp
 |cons c s ih=>
  intro r
  simp only[List.map_cons,List.foldl_cons,ih]
  congr 1
  simp[ByteArray.push]
theorem Fy(hT:cN P T){s t e:Nat}{x:Operand}{Ml:Mem}{K:AV->Prop}(hM:M=aa Ml)(hs:T.d s= .slice e)(he:T.d e= .int .u8)(ht:T.d t= .str)(ho:o.op= .convert s t x)(fi:¬ ∃q,ev F x= .str q)
  (h:nU Ml 1 (ev F x) fun xs=>∃b:List UInt8,xs=b.map (fun c=>[AV.int .u8 c.toNat])/\K (.str b)):∃av,bC P X o F M av [] []/\K av:=by
 have hx:x ∈ o.op.operands.toList:=by simp[ho,Op.operands]
 obtain⟨D,_,_,hD,hf,_⟩:=hT s (by rw[hs]; simp)
 have:=bu hs hf
 subst this
 obtain⟨D,_,_,xX,hf,_⟩:=hT e (by rw[he]; simp)
 have:=fits_int he hf
 subst this
 obtain⟨D,_,_,YK,hf,_⟩:=hT t (by rw[ht]; simp)
 have:=gf ht hf
 subst this
 obtain⟨xs,⟨b,rfl,hk⟩,hsrc⟩:=kE (X:=X) (o:=o) (tx:=s) hT hM hx (.inl ⟨_,hD⟩) (fun h=>(fi h).elim) (fun _=>⟨_,hD⟩) h
 refine⟨_,aB fun M' N ρ I ac w hW hU hN=> ?_,hk⟩
 obtain⟨vs,hS,hL,-⟩:=hsrc M' N ρ I ac w hW hU hN
 have hvs:vs=b.map fun c=>Value.int .u8 (c.toNat:Int):=by
  apply List.ext_getElem
  ·rw[hL.1]; simp
  ·intro i h1 h2
   have hi:i<b.length:=by simpa using h2
   obtain⟨u,hu,hr⟩:=hL.2.2 i 0 (by simpa using hi) (by omega)
   rw[Nat.mul_one,Nat.add_zero,List.getElem?_eq_getElem h1]at hu
   simp only[Option.some.injEq]at hu
   have e1:((b.map fun c=>[AV.int .u8 (c.toNat:Int)]).getD i []).getD 0 .bad= .int .u8 (b[i].toNat:Int):=by
    simp[List.getD_eq_getElem?_getD,hi]
   rw[e1]at hr
   rw[hu,bv hr.2]
   simp
 have dJ:∃q l c,ac.eval x= .slice q l c:=by
  have r1:=ao hU x hx
  cases bJ:ev F x with
  |aG s es=>rw[bJ]at r1; obtain⟨q,cap,hv,_⟩:=rN r1; exact⟨_,_,_,hv⟩
  |ab=>
   rw[bJ]at r1
   generalize ac.eval x=v at r1
   cases r1
   exact⟨_,_,_,rfl⟩
  |bh n len=>
   rw[bJ]at h r1
   simp only[nU,alive]at h
   cases hb:aa Ml n with
   |none=>rw[hb]at h; exact h.elim
   |some bl=>
    rw[hb]at h
    obtain⟨hc1,hmp,_⟩:=ax h
    have hl:bl.ln=len:=by simpa using hc1
    obtain⟨sl,dJ,fi⟩:=bg (F:=F) x hx (n:=n) (by rw[bJ]; simp[AV.names])
    have bM:M' n=some bl:=(hN sl dJ n fi).trans (by rw[hM]; exact hb)
    have dr:lens M' n=some (len,bl.sz):=by rw[az]; exact⟨bl,bM,hl,rfl⟩
    obtain⟨_,⟨_,q,hv⟩|⟨g,cap,_,hv⟩⟩:=gX r1 dr
    ·exact⟨_,_,_,hv⟩
    ·exact⟨_,_,_,hv⟩
  |dm n len i off cnt=>
   rw[bJ]at h r1
   simp only[nU,alive]at h
   cases hb:aa Ml n with
   |none=>rw[hb]at h; exact h.elim
   |some bl=>
    rw[hb]at h
    obtain⟨hc1,hmp,_⟩:=ax h
    have hl:bl.ln=len:=by simpa using hc1
    obtain⟨sl,dJ,fi⟩:=bg (F:=F) x hx (n:=n) (by rw[bJ]; simp[AV.names])
    have bM:M' n=some bl:=(hN sl dJ n fi).trans (by rw[hM]; exact hb)
    have dr:lens M' n=some (len,bl.sz):=by rw[az]; exact⟨bl,bM,hl,rfl⟩
    obtain⟨_,g,cap,c,_,hv,_⟩:=jy r1 dr
    exact⟨_,_,_,hv⟩
  |str q=>exact (fi ⟨q,bJ⟩).elim
  |_=>rw[bJ]at h; exact h.elim
 obtain⟨q,l,c,hv⟩:=dJ
 have hl:l=b.length:=by
  have:=hS.len w
  rw[hv]at this
  simpa[Builtin.lenOf]using this
 refine⟨.string ⟨b.toArray⟩,?_,.str _⟩
 have hrun:(Conv.bytesToString (ac.eval x)).run P w= .ok (.string ⟨b.toArray⟩) w:=by
  rw[hv]
  cases q with
  |none=>
   have hc:=hS.cells
   rw[hv,hvs]at hc
   have:b=[]:=by
    simp[Builtin.firstCells]at hc
    exact hc
   subst this
   simp[Conv.bytesToString]
   rfl
  |some a=>
   have hc:=hS.cells
   rw[hv,hvs]at hc
   simp only[Builtin.firstCells,List.length_map,Nat.mul_one]at hc
   have:=run_bytesToString (P:=P) w a l c (b.map fun c=>(c.toNat:Int)) (by rw[hl,hc]; simp[List.map_map,Function.comp_def])
   rw[this,foldl_push]
   simp
 simp only[execOp,ho,convert,Sem.run_bind,run_underlying hD,run_underlying YK,Result.andThen_ok]
 have e9:∀v:Value,v=ac.eval x->True:=fun _ _=>trivial
 rw[hv]at hrun ⊢
 simp only[Sem.run_bind,run_underlying xX,Result.andThen_ok,hrun,Sem.run_pure]
end Go.AM
namespace Go.AM
open Go.RowKit
variable {P:Program} {T:TT} {X:bL} {o:Oper} {F:aT} {M:bf}
theorem sK{ρ:Place}{L:aY}{I:Nat->Prop}{w:World}{N:Nat->Prop}{n len i off sz g cap cnt c:Nat}(hn:N n)(hl:L n=some (len,sz))(hρ:ρ n=some (g,cap))(h1:cnt<=c)(h2:c<=maxLen):
  aL ρ L I w N (.dm n len i off cnt) (.slice (some ⟨g,i*sz+off,none⟩) cnt c):=
 .dm n len i off cnt _ hn rfl fun l Ah h=>by
   rw[hl]at h
   simp only[Option.some.injEq,Prod.mk.injEq]at h
   obtain⟨rfl,rfl⟩:=h
   exact⟨Nat.le_refl _,fun _=>⟨g,cap,c,hρ,rfl,h1,h2⟩⟩
theorem lv{t m e:Nat}{ie:TypeInfo}{a:Addr}{w:World}(hD:P.underlying t=some (.array m e))(hi':P.info? e=some ie):
  (Instr.sliceAt t (.pointer (some a)) none none none).run P w= .ok (.slice (some a) m m) w:=by
 have:a.add 0=a:=by simp[Addr.add]
 simp[Instr.sliceAt,Sem.run_bind,run_underlying hD,Instr.sureAddr,Instr.sliceBounds,bt hi',this]
theorem uH(hT:cN P T){t m e n len i off:Nat}{x:Operand}{Ml:Mem}{b:be}(hM:M=aa Ml)(ht:T.d t= .arr m e)(hok:(T.d e).ok=true)(ho:o.op= .slice t x none none none)(hm:m<=maxLen)
  (bJ:ev F x= .loc n len i off) (hb:aa Ml n=some b) (hl:b.ln=len):bC P X o F M (.dm n len i off m) [] []:=by
 have hx:x ∈ o.op.operands.toList:=by simp[ho,Op.operands]
 obtain⟨D,it,z,hD,hf,_⟩:=hT t (by rw[ht]; simp)
 have fW:=dX ht hf
 subst fW
 obtain⟨De,ie,_,xX,Fw,hie,lr,_⟩:=hT e (TD.dB hok)
 refine aB fun M' N ρ I a w hW hU hN=> ?_
 have r1:=ao hU x hx
 rw[bJ]at r1
 obtain⟨sl,dJ,fi⟩:=bg (F:=F) x hx (n:=n) (by rw[bJ]; simp[AV.names])
 have bM:M' n=some b:=(hN sl dJ n fi).trans (by rw[hM]; exact hb)
 have dr:lens M' n=some (len,b.sz):=by rw[az]; exact⟨b,bM,hl,rfl⟩
 obtain⟨hn,g,cap,hρ,hv⟩:=fI r1 dr
 refine⟨_,?_,sK hn dr hρ (Nat.le_refl m) hm⟩
 simp only[execOp,ho,hv,Option.map_none,Sem.run_bind,lv hD hie,Result.andThen_ok,Sem.run_pure]
theorem uI(hT:cN P T){t m e off:Nat}{x:Operand}{r:List AV}(ht:T.d t= .arr m e)(hok:(T.d e).ok=true)(ho:o.op= .slice t x none none none)(hm:m<=maxLen)
  (bJ:ev F x= .bc r off) (hfit:off+m*T.s e<=r.length):bC P X o F M (.aG (T.s e) (pK (T.s e) m (r.drop off))) [] []:=by
 have hx:x ∈ o.op.operands.toList:=by simp[ho,Op.operands]
 obtain⟨D,it,z,hD,hf,_⟩:=hT t (by rw[ht]; simp)
 have fW:=dX ht hf
 subst fW
 obtain⟨De,ie,_,xX,Fw,hie,lr,_⟩:=hT e (TD.dB hok)
 refine aB fun M' N ρ I a w hW hU hN=> ?_
 have r1:=ao hU x hx
 rw[bJ]at r1
 generalize hv:a.eval x=v at r1
 cases r1 with
 |bc _ _ b q c hI h1 hcell hr=>
  refine⟨.slice (some ⟨b,q+off,none⟩) m m,?_,?_⟩
  ·simp only[execOp,ho,hv,Option.map_none,Sem.run_bind,lv hD hie,Result.andThen_ok,Sem.run_pure]
  ·have hlen:(pK (T.s e) m (r.drop off)).length=m:=dY
   have hlt:∀i j,i<m->j<T.s e->off+ (i*T.s e+j)<r.length:=fun i j hi hj=>by
    have:=lO (sz:=T.s e) hi hj
    omega
   have key:=aL.aG (ρ:=ρ) (L:=lens M') (I:=I) (w:=w) (N:=N) (T.s e) (pK (T.s e) m (r.drop off)) b (q+off) m (fun i j=>c (off+ (i*T.s e+j))) (by rw[hlen]; exact Nat.le_refl _) hm hI
    (fun l hl=>by
      obtain⟨p,hp,rfl⟩:=List.mem_iff_getElem.1 hl
      rw[hlen]at hp
      have e1:=jZ (sz:=T.s e) (r:=r.drop off) hp
      rw[List.getD_eq_getElem?_getD,List.getElem?_eq_getElem (by rw[hlen]; exact hp),Option.getD_some]at e1
      rw[e1]
      have:(p+1)*T.s e<=m*T.s e:=Nat.mul_le_mul_right _ hp
      rw[Nat.add_mul,Nat.one_mul]at this
      simp only[List.length_take,List.length_drop]; omega)
    (fun i j hi hj=>h1 _ (hlt i j (by rwa[hlen]at hi) hj))
    (fun i j hi hj=>by
      have:=hcell _ (hlt i j (by rwa[hlen]at hi) hj)
      rwa[show q+off+i*T.s e+j=q+ (off+ (i*T.s e+j)) by omega])
    (fun i j hi hj=>by
      rw[hlen]at hi
      have:=hr _ (hlt i j hi hj)
      rw[jZ hi,da _ _ _ _ _ hj]
      simpa only[List.getD_eq_getElem?_getD,List.getElem?_drop]using this)
   rwa[hlen]at key
theorem CP{ρ:Place}{I:Nat->Prop}{M':bf}{N:Nat->Prop}{w:World}(hW:bY X ρ I M' N w){n i off g cap:Nat}{b:be}{ej:List AV}{oL:List Value}(bM:M' n=some b)(hmp:b.mp=none)(hρ:ρ n=some (g,cap))(hi':i<b.es.length)
  (hcl:oL.length=ej.length) (E6:∀u ∈ oL,u.oneCell'=true) (Yp:∀j,j<ej.length->aL ρ (lens M') I w N (ej.getD j .bad) (oL.getD j default)) (hoff:off+ej.length<=b.sz):
  (storeCells ⟨g,i*b.sz+off,none⟩ oL).run P w= .ok () (w.setCells g (i*b.sz+off) oL)/\
  ∃ρ1,mM N ρ (lens M') I w ρ1 (lens (cV M' [(n,⟨b.ty,b.sz,b.es.set i (bG off ej (b.es.getD i [])),none⟩)])) I (w.setCells g (i*b.sz+off) oL)/\
   bY X ρ1 I (cV M' [(n,⟨b.ty,b.sz,b.es.set i (bG off ej (b.es.getD i [])),none⟩)]) (fQ N [(n,⟨b.ty,b.sz,b.es.set i (bG off ej (b.es.getD i [])),none⟩)]) (w.setCells g (i*b.sz+off) oL):=by
 have B:=hW.aR n b bM
 obtain⟨cs,fr,hg,nG,nT,hown,hlc,lI,hcs,hc⟩:=B.real g cap hρ
 have hg:=hg.cells hmp
 have Ra:=be.bW hmp
 have hel:(b.es.getD i []).length=b.sz:=by
  rw[List.getD_eq_getElem?_getD,List.getElem?_eq_getElem hi',Option.getD_some]
  exact B.even _ (List.getElem_mem _)
 have hrow:i*b.sz+b.sz<=cs.size:=by
  rw[hcs]
  calc i*b.sz+b.sz=(i+1)*b.sz:=by rw[Nat.add_mul,Nat.one_mul]
   _<=cap*b.sz:=Nat.mul_le_mul_right _ (by omega)
 have hin:∀j,j<b.sz->i*b.sz+j<cs.size:=fun j hj=>by omega
 have oH:∀k,w.cell? ⟨g,k,none⟩=cs[k]? :=fun k=>by simp[World.cell?,hg]
 have Yq:∀k,k<cs.size->w.frozen? ⟨g,k,none⟩=false:=fun k hk=>by
  have:=zY nG k hk
  simp only[World.frozen?,hg]
  simpa using this
 refine⟨?_,?_⟩
 ·have hst:=run_storeCells_cells (P:=P) g (i*b.sz+off) oL 0 w
   (fun j hj=>by
     rw[Nat.add_zero,oH,Nat.add_assoc,Array.getElem?_eq_getElem (hin (off+j) (by omega))]; rfl)
   (fun j hj=>by rw[Nat.add_zero,Nat.add_assoc]; exact Yq _ (hin (off+j) (by omega)))
   E6
  rwa[Nat.add_zero]at hst
 ·obtain⟨cs',h1,h2,h3⟩:=gY g b.ty fr oL (i*b.sz+off) w cs hg (by rw[hcl]; omega)
  have key:∀p q,p<b.es.length->q<b.sz->∃u,cs'[p*b.sz+q]? =some u/\u.oneCell'=true/\aL ρ (lens M') I w N (((b.es.set i (bG off ej (b.es.getD i []))).getD p []).getD q .bad) u:=by
   intro p q hp hq
   rw[h3,hcl]
   by_cases hpi:p=i
   ·subst hpi
    have e1:(b.es.set p (bG off ej (b.es.getD p []))).getD p []=bG off ej (b.es.getD p []):=by
     simp[List.getD_eq_getElem?_getD,hp]
    rw[e1,lN _ _ _ _ (by omega)]
    by_cases Lb:off<=q/\q<off+ej.length
    ·rw[if_pos (by omega),if_pos Lb]
     have e2:p*b.sz+q - (p*b.sz+off)=q - off:=by omega
     rw[e2]
     have L9:q - off<oL.length:=by rw[hcl]; omega
     refine⟨oL[q - off],List.getElem?_eq_getElem L9,E6 _ (List.getElem_mem _),?_⟩
     have:=Yp (q - off) (by omega)
     rwa[List.getD_eq_getElem?_getD (l:=oL),List.getElem?_eq_getElem L9,Option.getD_some]at this
    ·rw[if_neg (by omega),if_neg Lb]
     exact hc p q hp hq
   ·have e1:(b.es.set i (bG off ej (b.es.getD i []))).getD p []=b.es.getD p []:=by
     simp[List.getD_eq_getElem?_getD,List.getElem?_set,Ne.symm hpi]
    rw[e1]
    rw[if_neg]
    ·exact hc p q hp hq
    ·rintro⟨ha,hb'⟩
     rcases Nat.lt_or_gt_of_ne hpi with hlt|hgt
     ·have:(p+1)*b.sz<=i*b.sz:=Nat.mul_le_mul_right _ hlt
      rw[Nat.add_mul,Nat.one_mul]at this
      omega
     ·have:(i+1)*b.sz<=p*b.sz:=Nat.mul_le_mul_right _ hgt
      rw[Nat.add_mul,Nat.one_mul]at this
      omega
  have jX:∀b0,M' n=some b0->b0=b:=fun b0 h0=>by rw[bM]at h0; exact (Option.some.inj h0).symm
  obtain⟨E,W⟩:=hW.put (w':=w.setCells g (i*b.sz+off) oL) n ⟨b.ty,b.sz,b.es.set i (bG off ej (b.es.getD i [])),none⟩ g cap cs' fr
   (os_setCells _ _ _ _) (gZ _ _ _ _) (iG _ _ _ _) (by rw[size_setCells]; exact Nat.le_refl _) (fun k _ hk=>fj g _ _ _ _ hk) h1 (by omega)
   (.inr ⟨cap,hρ,b,bM⟩) (fun b0 h0=>by rw[jX b0 h0,Ra]; exact⟨rfl,by simp[be.ln],fun _=>hρ⟩) (fun _=>⟨b,bM⟩)
   (fun e he=>by
     rcases List.mem_or_eq_of_mem_set he with he|rfl
     ·exact B.even e he
     ·show (bG _ _ _).length=b.sz
      unfold bG
      rw[List.length_append,List.length_append,List.length_take,List.length_drop,hel]; omega)
   (by simpa using hlc) lI (by rw[h2]; exact hcs) (by simpa using key)
  exact⟨_,E,by rw[bD]; exact W⟩
theorem xZ{sz:Nat}:∀{xs:List (List AV)},(∀e ∈ xs,e.length=sz)->xs.flatten.length=xs.length*sz
 |[],_=>by simp
 |e::r,h=>by
  rw[List.flatten_cons,List.length_append,xZ (fun e he=>h e (List.mem_cons_of_mem _ he)),h e List.mem_cons_self,List.length_cons,Nat.add_mul,Nat.one_mul,Nat.add_comm]
theorem vk{sz:Nat}:∀{xs:List (List AV)}{k:Nat},(∀e ∈ xs,e.length=sz)->k<xs.length*sz->∃p q,p<xs.length/\q<sz/\k=p*sz+q/\xs.flatten.getD k .bad=(xs.getD p []).getD q .bad
 |[],k,_,hk=>by simp at hk
 |e::r,k,h,hk=>by
  have he:=h e List.mem_cons_self
  by_cases hlt:k<sz
  ·refine⟨0,k,by simp,hlt,by simp,?_⟩
   simp only[List.flatten_cons,List.getD_eq_getElem?_getD,List.getElem?_append_left (show k<e.length by omega),List.getElem?_cons_zero,Option.getD_some]
  ·rw[List.length_cons,Nat.add_mul,Nat.one_mul]at hk
   obtain⟨p,q,hp,hq,hkk,hg⟩:=vk (xs:=r) (k:=k - sz) (fun e he=>h e (List.mem_cons_of_mem _ he)) (by omega)
   refine⟨p+1,q,by simpa using hp,hq,by rw[Nat.add_mul,Nat.one_mul]; omega,?_⟩
   rw[List.getD_cons_succ,<-hg]
   simp only[List.flatten_cons,List.getD_eq_getElem?_getD,List.getElem?_append_right (show e.length<=k by omega),he]
theorem CQ(hT:cN P T){x y:Operand}{t t' e n len i off cnt:Nat}{Ml:Mem}{b:be}{K:List (List AV)->Prop}(hM:M=aa Ml)(ho:o.op= .call {callee:= .builtin .copy,args:= #[x,y],argTypes:= #[t,t']})
  (ht:T.d t= .slice e) (hok:(T.d e).ok=true) (bJ:ev F x= .dm n len i off cnt) (hb:aa Ml n=some b) (hmp:b.mp=none) (hl:b.ln=len) (hi:i<b.es.length) (hfit:off+cnt*T.s e<=b.sz)
  (hk:(∃e,P.underlying t'=some (.slice e))\/ P.underlying t'=some .string) (hks:(∃s,ev F y= .str s)->P.underlying t'=some .string) (hkl:(¬ ∃s,ev F y= .str s)->∃e,P.underlying t'=some (.slice e)) (h:nU Ml (T.s e) (ev F y) K):
  ∃xs,K xs/\bC P X o F M (.int .i64 ((min xs.length cnt:Nat):Int)) [(n,⟨b.ty,b.sz,b.es.set i (bG off ((xs.take cnt).flatten) (b.es.getD i [])),none⟩)] []/\n ∈ (ev F x).names:=by
 have hx:x ∈ o.op.operands.toList:=by simp[ho,Op.operands,Call.operands]
 have hy:y ∈ o.op.operands.toList:=by simp[ho,Op.operands,Call.operands]
 obtain⟨D,it,z,hD,hf,_⟩:=hT t (by rw[ht]; simp)
 have fW:=bu ht hf
 subst fW
 obtain⟨De,ie,_,xX,Fw,hie,lr,_⟩:=hT e (TD.dB hok)
 obtain⟨xs,hkx,hsrc⟩:=kE (X:=X) (o:=o) hT hM hy hk hks hkl h
 obtain⟨sl,dJ,fi⟩:=bg (F:=F) x hx (n:=n) (by rw[bJ]; simp[AV.names])
 refine⟨xs,hkx,⟨fun p hp=> .inr ⟨sl,dJ,by simp at hp; rw[hp]; exact fi⟩,fun M' N ρ I a w hW hU hN _=> ?_⟩,by rw[bJ]; simp[AV.names]⟩
 have r1:=ao hU x hx
 rw[bJ]at r1
 have bM:M' n=some b:=(hN sl dJ n fi).trans (by rw[hM]; exact hb)
 have dr:lens M' n=some (len,b.sz):=by rw[az]; exact⟨b,bM,hl,rfl⟩
 obtain⟨hn,g,cap,c,hρ,hv,_⟩:=jy r1 dr
 obtain⟨vs,hS,hL,YL⟩:=hsrc M' N ρ I a w hW hU hN
 have Lg:(xs.take cnt).length=min cnt xs.length:=List.length_take
 have pF:∀e' ∈ xs.take cnt,e'.length=T.s e:=fun e' he=>hL.2.1 e' (List.mem_of_mem_take he)
 have hfl:=xZ pF
 have hle:min xs.length cnt*T.s e<=cnt*T.s e:=Nat.mul_le_mul_right _ (Nat.min_le_right _ _)
 have hle2:min xs.length cnt*T.s e<=xs.length*T.s e:=Nat.mul_le_mul_right _ (Nat.min_le_left _ _)
 rw[Lg,Nat.min_comm]at hfl
 have hvl:(vs.take (min xs.length cnt*T.s e)).length=((xs.take cnt).flatten).length:=by
  rw[hfl,List.length_take,hL.1]; omega
 have hone:∀u ∈ vs.take (min xs.length cnt*T.s e),u.oneCell'=true:=fun u hu=>hL.one u (List.mem_of_mem_take hu)
 obtain⟨hst,ρ1,E,W⟩:=CP (P:=P) hW (off:=off) (ej:=(xs.take cnt).flatten) (oL:=vs.take (min xs.length cnt*T.s e)) bM hmp hρ hi hvl hone (fun k hk'=>by
  rw[hfl]at hk'
  obtain⟨p,q,hp,hq,hkk,hg⟩:=vk (xs:=xs.take cnt) (k:=k) pF (by rw[Lg,Nat.min_comm]; exact hk')
  rw[Lg]at hp
  obtain⟨u,hu,_,hr⟩:=hL.2.2 p q (by omega) hq
  rw[hg]
  have e1:(xs.take cnt).getD p []=xs.getD p []:=by
   simp only[List.getD_eq_getElem?_getD,List.getElem?_take]
   rw[if_pos (by omega)]
  have e2:(vs.take (min xs.length cnt*T.s e)).getD k default=u:=by
   rw[List.getD_eq_getElem?_getD,List.getElem?_take,if_pos hk',hkk,hu]; rfl
  rw[e1,e2]; exact hr) (by rw[hfl]; omega)
 unfold bI
 have hrun:(execOp a.eval o).run P w= .ok (.value (.int .i64 ((min xs.length cnt:Nat):Int))) (w.setCells g (i*b.sz+off) (vs.take (min xs.length cnt*T.s e))):=by
  have hp:=YL (min xs.length cnt) (Nat.min_le_left _ _)
  rw[gi ho]
  have e0:(Array.map a.eval #[x,y])= #[a.eval x,a.eval y]:=by simp
  have em:Nat.min xs.length cnt=min xs.length cnt:=rfl
  simp only[e0,builtin,hv,Builtin.copy_,Sem.run_bind,run_underlying hD,Result.andThen_ok,hS.len,bt hie,lr,em,hp,Sem.run_pure,List.toList_toArray,hst,goInt]
  simp[hst,run_underlying hD,hS.len,bt hie,lr,hp,goInt,em]
 rw[hrun]
 exact⟨ρ1,I,E,W,.int _ _⟩
theorem FA(hT:cN P T){n t e len:Nat}{x y:Operand}{k k':IntKind}(ho:o.op= .makeSlice t x y)(ht:T.d t= .slice e)(hok:(T.d e).ok=true)(hs:bH (T.z e)=true)(hl:(cells (T.z e)).length=T.s e)(hz:T.s e≠0)
  (hx:ev F x= .int k len) (hy:ev F y= .int k' len) (hlen:len<=lB):bC P X o F M (.bh n len) [(n,⟨e,T.s e,List.replicate len (cells (T.z e)),none⟩)] [n]:=by
 have hx':x ∈ o.op.operands.toList:=by simp[ho,Op.operands]
 have hy':y ∈ o.op.operands.toList:=by simp[ho,Op.operands]
 obtain⟨D,it,z,hD,hf,hi,hsz,_⟩:=hT t (by rw[ht]; simp)
 have fW:=bu ht hf
 subst fW
 obtain⟨_,ie,ze,_,_,hie,lr,hby,Mb,iu⟩:=hT e (TD.dB hok)
 refine qA (cap:=len) (by simp) (fun M' N ρ I a w hW hU=> ?_)
 have hc:bn ρ (lens M') I w N (cells (T.z e)) ze.cells:=by rw[iu]; exact bn.fE (ga _ _ _ _ _ ze) (by rw[<-iu]; exact hs)
 have r1:=bv (hx ▸ ao hU x hx')
 have r2:=bv (hy ▸ ao hU y hy')
 have hmax:len<=maxLen:=by simp only[maxLen,lB]at *; omega
 have hrow:=iW.E7 (n:=len) hc hl hz
 refine⟨madeCells ze.cells (len*ie.size),?_,by rw[size_madeCells,lr],Nat.le_refl _,hmax,by rw[lr]; exact hrow⟩
 have hb:(ie.bytes:Int)* (len:Int)<=281474976710656:=by
  have h1:ie.bytes*len<=131072*1073741824:=Nat.mul_le_mul hby hlen
  have h2:((ie.bytes*len:Nat):Int)<=281474976710656:=by omega
  rwa[Int.natCast_mul]at h2
 have h3:=run_make (P:=P) w t e ie ze hD hie Mb k k' (len:Int) (len:Int) (by omega) (Int.le_refl _) hb (by simp only[lB]at hlen; omega)
 simp only[execOp,ho,r1,r2,Sem.run_bind,h3,Result.andThen_ok,Sem.run_pure,Int.toNat_natCast]
theorem FB(hT:cN P T){n s t e:Nat}{x:Operand}{l:List UInt8}(ho:o.op= .convert s t x)(hs:T.d s= .str)(ht:T.d t= .slice e)(he:T.d e= .int .u8)(hx:ev F x= .str l)(hlen:l.length<=lB):
  bC P X o F M (.bh n l.length) [(n,⟨e,1,l.map fun c=>[AV.int .u8 c.toNat],none⟩)] [n]:=by
 have hx':x ∈ o.op.operands.toList:=by simp[ho,Op.operands]
 obtain⟨D,_,_,W7,hf,_⟩:=hT s (by rw[hs]; simp)
 have:=gf hs hf
 subst this
 obtain⟨D,_,_,YK,hf,_⟩:=hT t (by rw[ht]; simp)
 have:=bu ht hf
 subst this
 obtain⟨D,_,_,xX,hf,_⟩:=hT e (by rw[he]; simp)
 have:=fits_int he hf
 subst this
 refine⟨fun p hp=> .inl (by simp at hp; simp[hp]),fun M' N ρ I ac w hW hU hN hF=> ?_⟩
 have hn:¬N n:=hF n (by simp)
 have r1:=gW (hx ▸ ao hU x hx')
 have hd:∀b0,M' n=some b0->False:=fun b0 h0=>hn (hW.aR n b0 h0).lt
 have hsz:(⟨l.toArray⟩:ByteArray).size=l.length:=by show l.toArray.size=_; simp
 have hge:=grownCap_ge w l.length 0 e
 have lI:=grownCap_le_maxLen w l.length 0 e (by simp only[maxLen,lB]at *; omega)
 have hcs:(Lib.bytesCells w e ⟨l.toArray⟩).size=grownCap w l.length 0 e:=by
  simp only[Lib.bytesCells,Array.size_append,Array.size_map,Array.size_replicate,hsz,List.size_toArray]; omega
 have hrow:∀i j,i<l.length->j<1->∃u,(Lib.bytesCells w e ⟨l.toArray⟩)[i*1+j]? =some u/\u.oneCell'=true/\aL ρ (lens M') I w N (((l.map fun c=>[AV.int .u8 (c.toNat:Int)]).getD i []).getD j .bad) u:=by
  intro i j hi hj
  have YM:j=0:=by omega
  subst YM
  refine⟨.int .u8 (l[i].toNat:Int),?_,rfl,?_⟩
  ·rw[Nat.mul_one,Nat.add_zero,Lib.bytesCells,Array.getElem?_append_left (by simpa using hi)]
   simp[hi]
  ·have:((l.map fun c=>[AV.int .u8 (c.toNat:Int)]).getD i []).getD 0 .bad= .int .u8 (l[i].toNat:Int):=by simp[List.getD_eq_getElem?_getD,hi]
   rw[this]; exact .int _ _
 obtain⟨E,W⟩:=hW.put (w':=Lib.bytesWorld w e ⟨l.toArray⟩) n ⟨e,1,l.map fun c=>[AV.int .u8 (c.toNat:Int)],none⟩ w.heap.size (grownCap w l.length 0 e) (Lib.bytesCells w e ⟨l.toArray⟩) ((Lib.bytesCells w e ⟨l.toArray⟩).size,(Lib.bytesCells w e ⟨l.toArray⟩).size+1)
  rfl rfl rfl (by rw[Lib.bytesWorld_size]; omega) (fun k hk _=>Lib.bytesWorld_at_old w e _ k hk) (Lib.bytesWorld_at_new w e _) (.inr (Nat.le_refl _))
  (.inl (Nat.le_refl _)) (fun b0 h0=>(hd b0 h0).elim) (fun h=>(hn h).elim) (fun r hr=>by obtain⟨_,_,rfl⟩:=List.mem_map.1 hr; rfl) (by simpa using hge) lI (by rw[hcs]; simp) (by simpa using hrow)
 unfold bI
 have hrun:(execOp ac.eval o).run P w= .ok (.value (.slice (some ⟨w.heap.size,0,none⟩) l.length (grownCap w l.length 0 e))) (Lib.bytesWorld w e ⟨l.toArray⟩):=by
  have:=Lib.run_convert_string_bytes (P:=P) w s t e ⟨l.toArray⟩ W7 YK xX
  simp only[execOp,ho,r1,Sem.run_bind,this,Result.andThen_ok,Sem.run_pure,hsz]
 rw[hrun]
 refine⟨_,I,E,by rw[bD]; exact W,?_⟩
 refine gH (sz:=1) (.inr ⟨_,List.mem_singleton.2 rfl⟩) ?_ (by simp[iE])
 show lens (cX M' n _) n=_
 rw[bV,if_pos rfl]; simp[be.ln]
end Go.AM
namespace Go.AM
open Go.RowKit
variable {P:Program} {T:TT} {X:bL} {o:Oper} {F:aT} {M:bf}
section
variable {w:World} {t tx ty e:TypeId} {i:TypeInfo} {z:Value} {k k':IntKind} {n:Nat}
theorem jL{zz:Array Value}{m:Nat}(h:m*zz.size=0):Builtin.zeroCells zz m= #[]:=by
 simp[Builtin.zeroCells,h]
theorem wrap_small(h:n<=lB):IntKind.i64.wrap (n:Int)=n:=by
 simp only[lB]at h
 simp only[IntKind.wrap,IntKind.bits,IntKind.signed]; simp; omega
theorem jM(ht:P.underlying t=some (.slice e))(hx:P.underlying tx=some (.int k))(hi:P.info? e=some i)(hz:i.zero=some z)(hzs:z.cells.size=i.size)(hn:n<=lB)(hby:i.bytes<=131072)
  (base:Option Addr) (sLen sCap:Nat) (hroom:sLen+n<=sCap) (w':World)
  (hst:∀a,base=some a->(storeCells (a.add (sLen*i.size)) (Builtin.zeroCells z.cells n).toList).run P w= .ok () w') (h0:base=none->w'=w):
  (Builtin.append_ #[t,tx] ty #[.slice base sLen sCap,.int k' n]).run P w= .ok (.slice base (sLen+n) sCap) w':=by
 have h48:¬ (281474976710656< (n:Int)* (i.bytes:Int)):=by
  have h1:n*i.bytes<=1073741824*131072:=Nat.mul_le_mul hn hby
  have h2:((n*i.bytes:Nat):Int)<=281474976710656:=by omega
  rw[Int.natCast_mul]at h2; omega
 have hneg:¬ ((n:Int)<0):=by omega
 have hap:(if n*i.size=0 then (pure #[]:Sem (Array Value))else do pure (Builtin.zeroCells (<-zeroValue e).cells n)).run P w= .ok (Builtin.zeroCells z.cells n) w:=by
  split
  ·rename_i h
   rw[jL (by rw[hzs]; exact h)]; simp
  ·simp[zeroValue,typeInfo,hi,hz]
 cases base with
 |none=>
  have:=h0 rfl
  subst this
  simp[Builtin.append_,run_underlying ht,run_underlying hx,sizeOf,typeInfo,zeroValue,hz,hi,wrap_small hn,hneg,h48,hroom,asInt,asIntOf]
 |some a=>
  have hst:=hst a rfl
  simp[Builtin.append_,run_underlying ht,run_underlying hx,sizeOf,typeInfo,zeroValue,hz,hi,wrap_small hn,hneg,h48,hroom,asInt,asIntOf]at hap hst ⊢
  by_cases h:n*i.size=0
  ·have h2:=hap h
   rw[h2]at hst
   simp[h,hst]
  ·simp[h,hst]
theorem jN(ht:P.underlying t=some (.slice e))(hx:P.underlying tx=some (.int k))(hi:P.info? e=some i)(hz:i.zero=some z)(hzs:z.cells.size=i.size)(hn:n<=lB)(hby:i.bytes<=131072)
  (base:Option Addr) (sLen sCap:Nat) (olds:List Value) (hold:(Builtin.firstCells i.size sLen (.slice base sLen sCap)).run P w.drew= .ok olds.toArray w.drew)
  (hg:sCap<sLen+n) (h63:((sLen+n:Nat):Int)<=9223372036854775807) (hfit:Builtin.nextslicecap (sLen+n) sCap*i.bytes<=281474976710656):
  (Builtin.append_ #[t,tx] ty #[.slice base sLen sCap,.int k' n]).run P w= .ok (.slice (some ⟨w.heap.size,0,none⟩) (sLen+n) (grownCap w (sLen+n) sCap e))
    (w.drew.alloc (.cells ((olds++(Builtin.zeroCells z.cells n).toList).toArray++Builtin.zeroCells z.cells (grownCap w (sLen+n) sCap e - (sLen+n))) e)):=by
 have h48:¬ (281474976710656< (n:Int)* (i.bytes:Int)):=by
  have h1:n*i.bytes<=1073741824*131072:=Nat.mul_le_mul hn hby
  have h2:((n*i.bytes:Nat):Int)<=281474976710656:=by omega
  rw[Int.natCast_mul]at h2; omega
 have hneg:¬ ((n:Int)<0):=by omega
 have hnr:¬ (sLen+n<=sCap):=by omega
 have h63':¬ (9223372036854775807< ((sLen:Int)+ (n:Int))):=by omega
 have YN:¬ (281474976710656<Builtin.nextslicecap (sLen+n) sCap*i.bytes):=by omega
 have hap:(if n*i.size=0 then (pure #[]:Sem (Array Value))else do pure (Builtin.zeroCells (<-zeroValue e).cells n)).run P w.drew= .ok (Builtin.zeroCells z.cells n) w.drew:=by
  split
  ·rename_i h
   rw[jL (by rw[hzs]; exact h)]; simp
  ·simp[zeroValue,typeInfo,hi,hz]
 simp[Builtin.append_,run_underlying ht,run_underlying hx,sizeOf,typeInfo,zeroValue,hi,hz,wrap_small hn,hneg,h48,hnr,h63',YN,asInt,asIntOf,Question.forced,hold,newRow,grownCap]at hap ⊢
 by_cases h:n*i.size=0
 ·have h2:=hap h
  simp[h,h2]
 ·simp[h]
  congr 2
  apply Array.ext'
  simp[List.append_assoc]
end
theorem vl{ρ:Place}{L:aY}{I:Nat->Prop}{w:World}{N:Nat->Prop}{z:Value}{a:AV}{sz n:Nat}(h:bn ρ L I w N (cells a) z.cells)(hl:(cells a).length=sz)(hpos:sz≠0):
  du ρ L I w N sz (List.replicate n (cells a)) (Builtin.zeroCells z.cells n).toList:=by
 have hz:z.cells.size=sz:=by rw[h.1,hl]
 have hr:=iW.E7 (n:=n) h hl hpos
 have e:Builtin.zeroCells z.cells n=(Array.range (n*sz)).map (z.cells[· % z.cells.size]!):=by simp only[Builtin.zeroCells,hz]
 rw[e]
 refine⟨by simp,hr.2.1,fun i j hi hj=> ?_⟩
 obtain⟨u,hu,h1⟩:=hr.2.2 i j hi hj
 exact⟨u,by rw[Array.getElem?_toList]; exact hu,h1⟩
def oM(T:TT)(t:Nat)(s x:AV)(S:St)(K:AV->Mem->Nat->Prop):Prop:=
 match T.d t,x with
 | .slice e,.int _ m=>
   (match s with
   | .bh n len=>alive S.M n len fun b=>ei (b.sz==T.s e&&b.ty==e) ((0<=m/\len+m.toNat<=lB)/\
       K (.bh n (len+m.toNat)) (gA S.M n ⟨b.ty,b.sz,b.es++List.replicate m.toNat (cells (T.z e)),none⟩) S.nx)
   | .ab=>(0<=m/\m.toNat<=lB)/\K (.bh S.nx m.toNat) (gA S.M S.nx ⟨e,T.s e,List.replicate m.toNat (cells (T.z e)),none⟩) (S.nx+1)
   |_=>False)
 |_,_=>False
theorem wO(hT:cN P T){s x:Operand}{t t' nx:Nat}{Ml:Mem}{K:AV->Mem->Nat->Prop}(hM:M=aa Ml)(ho:o.op= .call {callee:= .builtin .append,args:= #[s,x],argTypes:= #[t,t']})
  (hok:∀e,T.d t= .slice e->(T.d e).ok=true/\bH (T.z e)=true/\(cells (T.z e)).length=T.s e/\T.s e≠0) (hint:∃k,T.d t'= .int k)
  (h:oM T t (ev F s) (ev F x) ⟨F,Ml,nx⟩ K):
  ∃av n b nw aU,bC P X o F M av [(n,b)] nw/\K av (gA Ml n b) aU/\((nw=[nx]/\aU=nx+1/\n=nx)\/(aU=nx/\nw=[]/\n ∈ (ev F s).names)):=by
 have hs:s ∈ o.op.operands.toList:=by simp[ho,Op.operands,Call.operands]
 have hx:x ∈ o.op.operands.toList:=by simp[ho,Op.operands,Call.operands]
 unfold oM at h
 cases ht:T.d t with
 |slice e=>
  cases Xc:ev F x with
  |int kx m=>
   rw[ht,Xc]at h
   simp only at h
   obtain⟨D,it,z0,hD,hf,_⟩:=hT t (by rw[ht]; simp)
   have fW:=bu ht hf
   subst fW
   obtain⟨Me,oI,hcl,hpos⟩:=hok e ht
   obtain⟨_,ie,z,_,_,hie,lr,hby,hz,iu⟩:=hT e (TD.dB Me)
   obtain⟨k',hk'⟩:=hint
   obtain⟨D',_,_,QA,hfx,_⟩:=hT t' (by rw[hk']; simp)
   have:=fits_int hk' hfx
   subst this
   have hzs:z.cells.size=T.s e:=by
    have:=(bn.fE (ρ:=fun _=>none) (L:=fun _=>none) (I:=fun _=>False) (w:=default) (N:=cH) (ga _ _ _ _ _ z) (by rw[<-iu]; exact oI)).1
    rw[this,<-iu,hcl]
   have CR:z.cells.size=ie.size:=by rw[hzs,lr]
   have hfit:∀need old,old<need->need<=lB->Builtin.nextslicecap need old*ie.bytes<=281474976710656:=fun need old h1 h2=>by
    refine growslice_fits h1 ?_
    calc need*ie.bytes<=lB*131072:=Nat.mul_le_mul h2 hby
     _=140737488355328:=by simp[lB]
   have hcells:∀(ρ:Place)(L:aY)(I:Nat->Prop)(w:World)(N:Nat->Prop),bn ρ L I w N (cells (T.z e)) z.cells:=fun ρ L I w N=>by rw[iu]; exact bn.fE (ga _ _ _ _ _ z) (by rw[<-iu]; exact oI)
   cases hss:ev F s with
   |bh n len=>
    rw[hss]at h
    simp only[alive]at h
    cases hb:aa Ml n with
    |none=>rw[hb]at h; exact h.elim
    |some b=>
     rw[hb]at h
     obtain⟨hc1,hmp,h2⟩:=ax h
     obtain⟨jU,⟨hm0,iY⟩,hk⟩:=ax h2
     have hl:b.es.length=len:=(be.bW hmp).symm.trans (by simpa using hc1)
     simp only[Bool.and_eq_true,beq_iff_eq]at jU
     obtain⟨hsz,Am⟩:=jU
     generalize hmn:m.toNat=q at*
     obtain rfl:m=(q:Int):=by omega
     obtain⟨sl,dJ,fi⟩:=bg (F:=F) s hs (n:=n) (by rw[hss]; simp[AV.names])
     refine⟨_,n,_,[],nx,?_,hk,.inr ⟨rfl,rfl,by simp[AV.names]⟩⟩
     refine⟨fun p hp=> .inr ⟨sl,dJ,by simp at hp; rw[hp]; exact fi⟩,fun M' N ρ I a w hW hU hN _=> ?_⟩
     have bM:M' n=some b:=(hN sl dJ n fi).trans (by rw[hM]; exact hb)
     have dr:lens M' n=some (b.es.length,b.sz):=by rw[az]; exact⟨b,bM,be.bW hmp,rfl⟩
     have hL:=vl (n:=q) (hcells ρ (lens M') I w N) hcl hpos
     have QB:q<=lB:=by omega
     have r1:=ao hU s hs
     rw[hss]at r1
     have r2:=bv (Xc ▸ ao hU x hx)
     subst hl
     obtain⟨hn,h2⟩:=gX r1 dr
     unfold bI
     rw[dL ho,r2]
     rw[<-hsz]at hL
     have hxl:(List.replicate q (cells (T.z e))).length=q:=by simp
     rcases h2 with⟨h0,r,hv⟩|⟨g,cap,hρ,hv⟩
     ·have hB:=hW.aR n b bM
      have he:b.es=[]:=hB.dW h0
      rw[hv]
      by_cases hx0:q=0
      ·subst hx0
       have hz0:(Builtin.zeroCells z.cells 0).toList=[]:=by rw[jL (by simp)]
       have hrun:=jM (P:=P) (w:=w) (t:=t) (tx:=t') (ty:=o.type) (k':=kx) hD QA hie hz CR QB hby r 0 0 (by simp) w (fun a ha=>by rw[hz0]; simp[storeCells]) (fun _=>rfl)
       rw[hrun]
       refine⟨ρ,I,?_,?_,?_⟩
       ·show mM N ρ (lens M') I w ρ (lens (cX M' n _)) I w
        have:(⟨b.ty,b.sz,b.es++List.replicate 0 (cells (T.z e)),none⟩:be)=b:=by have:=hmp; cases b; simp_all
        rw[this,mQ bM]; exact mM.refl _ _ _ _ _
       ·show bY X ρ I (cX M' n _) _ w
        have:(⟨b.ty,b.sz,b.es++List.replicate 0 (cells (T.z e)),none⟩:be)=b:=by have:=hmp; cases b; simp_all
        rw[this,mQ bM]
        have IC:fQ N [(n,b)]=N:=by
         rw[bD]; funext m; simp only[zZ,eq_iff_iff]
         exact⟨fun h=>h.elim (fun e=>e ▸ hn) id,.inr⟩
        rw[bD]at IC ⊢
        rw[IC]; exact hW
       ·refine .bh n _ _ (.inl hn) rfl fun l Ah oA=> ?_
        have:(⟨b.ty,b.sz,b.es++List.replicate 0 (cells (T.z e)),none⟩:be)=b:=by have:=hmp; cases b; simp_all
        rw[this]at oA
        change lens (cX M' n b) n=_ at oA
        rw[bV,if_pos rfl,be.bW hmp]at oA
        simp at oA
        exact⟨by omega,fun _=> .inl ⟨h0,r,rfl⟩⟩
      ·have Mg:(Builtin.firstCells ie.size 0 (.slice r 0 0)).run P w.drew= .ok #[] w.drew:=by
        cases r with
        |none=>exact run_firstCells_none w.drew ie.size 0 0 0
        |some a=>exact run_firstCells_some w.drew ie.size 0 a 0 0 [] (by simp) (fun j v hv=>by simp at hv)
       have hrun:=jN (P:=P) (w:=w) (t:=t) (tx:=t') (ty:=o.type) (k':=kx) (n:=q) hD QA hie hz CR QB hby r 0 0 [] Mg (by omega) (by simp[lB]at QB ⊢; omega) (hfit _ _ (by omega) (by omega))
       rw[hrun]
       have gh:=kb (X:=X) (e:=e) (olds:=[]) (old:=0) (z:=z) hW (fun _=>⟨b,bM⟩) (fun b0 h0=>by rw[bM]at h0; cases h0; exact⟨rfl,he,hmp⟩) (by rw[hxl]; omega) ⟨by simp,by simp,fun i j hi=>by simp at hi⟩ hL (by rw[hzs,hsz]) (by rw[hxl]; simpa using QB)
       have e1:b.es.length+q=([]:List (List AV)).length+ (List.replicate q (cells (T.z e))).length:=by rw[he,hxl]
       have e2:(⟨b.ty,b.sz,b.es++List.replicate q (cells (T.z e)),none⟩:be)=⟨e,b.sz,[]++List.replicate q (cells (T.z e)),none⟩:=by rw[he,Am]
       have e3:0+q=([]:List (List AV)).length+ (List.replicate q (cells (T.z e))).length:=by rw[hxl]; rfl
       rw[e1,e2,e3]
       exact gh
     ·rw[hv]
      by_cases hroom:b.es.length+q<=cap
      ·obtain⟨g1,g2,g3⟩:=xK hW bM hmp hρ hL (by rw[hxl]; exact hroom)
       have hone:∀u ∈ (Builtin.zeroCells z.cells q).toList,u.oneCell'=true:=hL.one
       have hst:=run_storeCells_cells (P:=P) g (0+b.es.length*b.sz) _ 0 w (by simpa using g1) (by simpa using g2) hone
       have hrun:=jM (P:=P) (w:=w) (t:=t) (tx:=t') (ty:=o.type) (k':=kx) hD QA hie hz CR QB hby (some ⟨g,0,none⟩) b.es.length cap hroom (w.setCells g (0+b.es.length*b.sz) (Builtin.zeroCells z.cells q).toList)
        (fun a ha=>by
          cases ha
          rw[bQ,lr,<-hsz]
          simpa using hst) (fun h=>by cases h)
       rw[hrun]
       rw[hxl]at g3
       exact g3
      ·have hB:=hW.aR n b bM
       obtain⟨olds,Lc,Rf⟩:=hB.list hmp hρ
       have Rg:(Builtin.firstCells ie.size b.es.length (.slice (some ⟨g,0,none⟩) b.es.length cap)).run P w.drew= .ok olds.toArray w.drew:=
        run_firstCells_some (P:=P) w.drew ie.size b.es.length _ _ _ _ (by rw[lr,<-hsz]; exact Lc.1) (fun k u hu=>by rw[bQ,Nat.zero_add]; exact Rf k u hu)
       have hrun:=jN (P:=P) (w:=w) (t:=t) (tx:=t') (ty:=o.type) (k':=kx) (n:=q) hD QA hie hz CR QB hby _ b.es.length cap olds Rg (by omega) (by simp[lB]at iY ⊢; omega) (hfit _ _ (by omega) iY)
       rw[hrun]
       have gh:=kb (X:=X) (e:=e) (old:=cap) (z:=z) hW (fun _=>⟨b,bM⟩) (fun b0 h0=>by rw[bM]at h0; cases h0; exact⟨rfl,rfl,hmp⟩)
        (by
          have hcap:b.es.length<=cap:=by obtain⟨_,_,_,_,_,_,hh,_⟩:=hB.real g cap hρ; exact hh
          rw[hxl]; omega) Lc hL (by rw[hzs,hsz]) (by rw[hxl]; exact iY)
       rw[hxl]at gh
       rw[<-Am]at gh ⊢
       exact gh
   |ab=>
    rw[hss]at h
    obtain⟨⟨hm0,iY⟩,hk⟩:=h
    generalize hmn:m.toNat=q at*
    obtain rfl:m=(q:Int):=by omega
    refine⟨_,nx,_,[nx],nx+1,?_,hk,.inl ⟨rfl,rfl,rfl⟩⟩
    refine⟨fun p hp=> .inl (by simp at hp; simp[hp]),fun M' N ρ I a w hW hU hN hF=> ?_⟩
    have hn:¬N nx:=hF nx (by simp)
    have hL:=vl (n:=q) (hcells ρ (lens M') I w N) hcl hpos
    have r1:=ao hU s hs
    have r2:=bv (Xc ▸ ao hU x hx)
    rw[hss]at r1
    generalize hv:a.eval s=v at r1
    cases r1
    unfold bI
    rw[dL ho,hv,r2]
    have hxl:(List.replicate q (cells (T.z e))).length=q:=by simp
    by_cases hx0:q=0
    ·subst hx0
     have hrun:=jM (P:=P) (w:=w) (t:=t) (tx:=t') (ty:=o.type) (k':=kx) hD QA hie hz CR iY hby none 0 0 (by simp) w (fun a ha=>by cases ha) (fun _=>rfl)
     rw[hrun]
     obtain⟨E,W⟩:=hW.dW hn e (T.s e)
     refine⟨_,I,E,by rw[bD]; exact W,?_⟩
     refine .bh nx _ _ (.inr ⟨_,List.mem_singleton.2 rfl⟩) rfl fun l Ah oA=> ?_
     change lens (cX M' nx _) nx=_ at oA
     rw[bV,if_pos rfl]at oA
     simp[be.ln]at oA
     exact⟨by omega,fun _=> .inl ⟨by simp,none,rfl⟩⟩
    ·have hrun:=jN (P:=P) (w:=w) (t:=t) (tx:=t') (ty:=o.type) (k':=kx) (n:=q) hD QA hie hz CR iY hby none 0 0 [] (run_firstCells_none w.drew ie.size 0 0 0) (by omega) (by simp[lB]at iY ⊢; omega) (hfit _ _ (by omega) (by omega))
     rw[hrun]
     have gh:=kb (X:=X) (n:=nx) (e:=e) (olds:=[]) (oJ:=[]) (old:=0) (z:=z) hW (fun h=>(hn h).elim) (fun b0 h0=>(hn (hW.aR nx b0 h0).lt).elim) (by rw[hxl]; omega) ⟨by simp,by simp,fun i j hi=>by simp at hi⟩ hL hzs (by rw[hxl]; simpa using iY)
     have e1:q=([]:List (List AV)).length+ (List.replicate q (cells (T.z e))).length:=by rw[hxl]; simp
     have e2:(⟨e,T.s e,List.replicate q (cells (T.z e)),none⟩:be)=⟨e,T.s e,[]++List.replicate q (cells (T.z e)),none⟩:=by simp
     have e3:0+q=([]:List (List AV)).length+ (List.replicate q (cells (T.z e))).length:=by rw[hxl]; rfl
     rw[e2,e3]
     show gC X M' N ρ I w (.bh nx q) _ _ _
     have:AV.bh nx q= .bh nx (([]:List (List AV)).length+ (List.replicate q (cells (T.z e))).length):=by rw[<-e1]
     rw[this]
     exact gh
   |_=>rw[hss]at h; exact h.elim
  |_=>rw[ht,Xc]at h; exact h.elim
 |_=>rw[ht]at h; exact h.elim
end Go.AM
namespace Go.AM
open Go.RowKit
variable {P:Program} {T:TT} {X:bL} {o:Oper} {F:aT} {M:bf}
inductive Ru:LK->Value->Prop
 |i (k:IntKind) (x:Int):Ru .i (.int k x)
 |b (x:Bool):Ru .b (.bool x)
 |s (x:List UInt8):Ru .s (.string ⟨x.toArray⟩)
inductive lR:List LK->List Value->Prop
 |nil:lR [] []
 |cons {l ls v vs} (h:Ru l v) (t:lR ls vs):lR (l::ls) (v::vs)
theorem lR.split:∀{l1 l2:List LK}{vs:List Value},lR (l1++l2) vs->∃v1 v2,vs=v1++v2/\lR l1 v1/\lR l2 v2/\v1.length=l1.length
 |[],l2,vs,h=>⟨[],vs,rfl,.nil,h,rfl⟩
 |a::l1,l2,_,.cons (v:=v) h t=>by
  obtain⟨v1,v2,rfl,h1,h2,h3⟩:=t.split (l1:=l1)
  exact⟨v::v1,v2,rfl,.cons h h1,h2,by simp[h3]⟩
theorem sL{d:Nat}:∀(fl:List Field)(off:Nat)(ls:List LK)(p vs:List Value),wK P (mU P d) fl off=some ls->lR ls vs->p.length=off->
  ∀f ∈ fl,f.name≠ "_" /\∃l mid,mU P d f.type=some l/\lR l mid/\∀w,(part f.type (p++vs).toArray f.offset).run P w= .ok (valOf (aN P f.type) mid) w
 |[],_,_,_,_,_,_,_,f,hf=>by simp at hf
 |x::fl,off,ls,p,vs,hl,hv,hp,f,hf=>by
  simp only[wK]at hl
  split at hl
  ·rename_i hc
   simp only[Bool.and_eq_true,bne_iff_ne,ne_eq,beq_iff_eq]at hc
   split at hl
   ·rename_i l i ut EN
    split at hl
    ·rename_i hsz
     have hsz:i.size=l.length:=by simpa using hsz
     obtain⟨l2,hl2,rfl⟩:∃l2,wK P (mU P d) fl (off+l.length)=some l2/\l++l2=ls:=by simpa using hl
     obtain⟨v1,v2,rfl,h1,h2,h3⟩:=hv.split
     rcases List.mem_cons.1 hf with rfl|hf
     ·obtain⟨D,hD⟩:=BX ut
      refine⟨hc.1,l,v1,ut,h1,fun w=> ?_⟩
      have p1:=fS (w:=w) hD EN (pre:=p) (mid:=v1) (post:=v2) (by omega) (fun h=>by rw[h3]; exact jC ut h)
      rwa[hp,<-hc.2]at p1
     ·have:=sL fl (off+l.length) l2 (p++v1) v2 hl2 h2 (by simp; omega) f hf
      rwa[List.append_assoc]at this
    ·simp at hl
   ·simp at hl
  ·simp at hl
theorem vm{d e:Nat}{l:List LK}{i:TypeInfo}(hl:mU P d e=some l)(hi:P.info? e=some i)(hsz:i.size=l.length):∀(k j:Nat)(p vs:List Value),lR (lu k l) vs->p.length=j*l.length->
  ∀q ∈ List.range' j k,∃mid,lR l mid/\∀w,(part e (p++vs).toArray (q*i.size)).run P w= .ok (valOf (aN P e) mid) w
 |0,_,_,_,_,_,q,hq=>by simp at hq
 |k+1,j,p,vs,hv,hp,q,hq=>by
  have e1:lu (k+1) l=l++lu k l:=by simp[lu,List.replicate_succ]
  rw[e1]at hv
  obtain⟨v1,v2,rfl,h1,h2,h3⟩:=hv.split
  rw[List.range'_succ]at hq
  rcases List.mem_cons.1 hq with rfl|hq
  ·obtain⟨D,hD⟩:=BX hl
   refine⟨v1,h1,fun w=> ?_⟩
   have p1:=fS (w:=w) hD hi (pre:=p) (mid:=v1) (post:=v2) (by omega) (fun h=>by rw[h3]; exact jC hl h)
   rwa[hp,<-hsz]at p1
  ·have:=vm hl hi hsz k (j+1) (p++v1) v2 h2 (by rw[List.length_append,hp,h3,Nat.succ_mul]) q hq
   rwa[List.append_assoc]at this
theorem dD{em:Bool}:∀(d:Nat)(m t:Nat)(ls:List LK)(w:World)(vs:List Value),mU P d t=some ls->lR ls vs->
  (Instr.checkKey em (d+m) t (valOf (aN P t) vs)).run P w= .ok () w
 |0,_,_,_,_,_,h,_=>by simp[mU]at h
 |d+1,m,t,ls,w,vs,h,hv=>by
  have e:d+1+m=(d+m)+1:=by omega
  rw[e]
  have ih:=dD (em:=em) d m
  unfold mU at h
  cases hu:P.underlying t with
  |none=>rw[hu]at h; simp at h
  |some D=>
   rw[hu]at h
   cases D<;>simp only[reduceCtorEq]at h
   case bool=>
    obtain rfl:[LK.b]=ls:=by simpa using h
    have ha:aN P t=false:=by simp[aN,hu]
    rcases hv with _|⟨hl,ht⟩
    cases hl; cases ht
    simp[Instr.checkKey,run_underlying hu]
   case int k=>
    obtain rfl:[LK.i]=ls:=by simpa using h
    have ha:aN P t=false:=by simp[aN,hu]
    rcases hv with _|⟨hl,ht⟩
    cases hl; cases ht
    simp[Instr.checkKey,run_underlying hu]
   case string=>
    obtain rfl:[LK.s]=ls:=by simpa using h
    have ha:aN P t=false:=by simp[aN,hu]
    rcases hv with _|⟨hl,ht⟩
    cases hl; cases ht
    simp[Instr.checkKey,run_underlying hu]
   case struct fs=>
    have ha:aN P t=true:=by simp[aN,hu]
    cases hst:P.stoodInHeld t with
    |true=>simp[hst]at h
    |false=>
     simp only[hst,Bool.false_eq_true,if_false]at h
     have each:=sL (P:=P) fs.toList 0 ls [] vs h hv rfl
     simp only[List.nil_append]at each
     rw[ha]
     simp only[valOf,if_pos]
     rw[Instr.checkKey]
     simp only[Sem.run_bind,run_underlying hu,Result.andThen_ok]
     rw[<-Array.forIn_toList]
     generalize fs.toList=L at each
     induction L with
     |nil=>simp
     |cons f L YO=>
      obtain⟨hn,l,mid,h1,h2,h3⟩:=each f (by simp)
      simp only[List.forIn_cons,Sem.run_bind,hn,ne_eq,not_false_eq_true,if_true,h3,ih _ _ _ _ h1 h2,Result.andThen_ok,Sem.run_pure]
      exact YO (fun y hy=>each y (by simp[hy]))
   case array n e=>
    have ha:aN P t=true:=by simp[aN,hu]
    split at h
    ·rename_i l i ut EN
     split at h
     ·rename_i hsz
      have hsz:i.size=l.length:=by simpa using hsz
      obtain rfl:lu n l=ls:=by simpa using h
      have each:=vm ut EN hsz n 0 [] vs hv (by simp)
      simp only[List.nil_append]at each
      rw[ha]
      simp only[valOf,if_pos]
      rw[Instr.checkKey]
      simp only[Sem.run_bind,run_underlying hu,Result.andThen_ok]
      simp only[Std.Legacy.Range.forIn_eq_forIn_range',Std.Legacy.Range.size,Nat.sub_zero,Nat.add_one_sub_one,Nat.div_one]
      generalize List.range' 0 n=L at each
      induction L with
      |nil=>simp
      |cons j L YO=>
       obtain⟨mid,h2,h3⟩:=each j (by simp)
       simp only[List.forIn_cons,Sem.run_bind,bt EN,h3,ih _ _ _ _ ut h2,Result.andThen_ok,Sem.run_pure]
       exact YO (fun y hy=>each y (by simp[hy]))
     ·simp at h
    ·simp at h
def IL(ag:Bool)(ls:List LK)(FC:List Value)(kc:List AV)(test:List AV->List AV->Bool)(e:MapEntry)(r:List AV):Prop:=
 ∃us rs,e.key=valOf ag us/\ng ls FC us rs/\rs.all id=test kc r
inductive FD{α β:Type}(R:α->β->Prop):List α->List β->Prop
 |nil:FD R [] []
 |cons {a b as bs} (h:R a b) (t:FD R as bs):FD R (a::as) (b::bs)
theorem FD.of{α β:Type}{R:α->β->Prop}:∀{as:List α}{bs:List β},as.length=bs.length->(∀(i:Nat)(a:α)(b:β),as[i]? =some a->bs[i]? =some b->R a b)->FD R as bs
 |[],[],_,_=> .nil
 |a::as,b::bs,hl,h=> .cons (h 0 a b rfl rfl) (FD.of (by simpa using hl) fun i x y hx hy=>h (i+1) x y (by simpa using hx) (by simpa using hy))
 |[],_::_,hl,_=>by simp at hl
 |_::_,[],hl,_=>by simp at hl
def dR:List LK->List AV->List AV->Bool
 |[],[],_=>true
 | .i::l,.int k _::r,.int k' _::s=>rK k k'&&dR l r s
 | .b::l,.bool _::r,.bool _::s=>dR l r s
 | .s::l,.str _::r,.str _::s=>dR l r s
 |_,_,_=>false
theorem ki:∀{ls:List LK}{kc r:List AV},dR ls kc r=true->∃rs,uE ls kc (r.take kc.length) rs/\rs.all id=qo kc r
 |[],[],r,_=>⟨[],by simpa using uE.nil,by simp[qo]⟩
 | .i::l,.int k x::a,.int k' y::s,h=>by
   simp only[dR,Bool.and_eq_true]at h
   obtain rfl:=iU h.1
   obtain⟨rs,h1,h2⟩:=ki h.2
   exact⟨_,.cons (.i k x y) h1,by simp[qo,h2]⟩
 | .b::l,.bool x::a,.bool y::s,h=>by
   simp only[dR]at h
   obtain⟨rs,h1,h2⟩:=ki h
   exact⟨_,.cons (.b x y) h1,by simp[qo,h2]⟩
 | .s::l,.str x::a,.str y::s,h=>by
   simp only[dR]at h
   obtain⟨rs,h1,h2⟩:=ki h
   exact⟨_,.cons (.s x y) h1,by simp[qo,h2]⟩
def jD(kc:List AV):List MapEntry->List (List AV)->Nat->Option (Nat × Value)
 |e::en,r::es,i=>if qo kc r then some (i,e.val)else jD kc en es (i+1)
 |_,_,_=>none
theorem jc{kc:List AV}:∀{en:List MapEntry}{es:List (List AV)}{i:Nat},en.length=es.length->
  (cC kc es=none/\jD kc en es i=none)\/∃j e r,cC kc es=some (j,r.drop kc.length)/\jD kc en es i=some (i+j,e.val)/\en[j]? =some e/\es[j]? =some r/\qo kc r=true
 |[],[],_,_=> .inl ⟨rfl,rfl⟩
 |e::en,r::es,i,hl=>by
  simp only[cC,jD]
  by_cases h:qo kc r=true
  ·rw[if_pos h,if_pos h]
   exact .inr ⟨0,e,r,rfl,rfl,rfl,rfl,h⟩
  ·rw[if_neg h,if_neg h]
   rcases jc (kc:=kc) (en:=en) (es:=es) (i:=i+1) (by simpa using hl)with⟨h1,h2⟩|⟨j,e2,r2,h1,h2,h3,h4,h5⟩
   ·exact .inl ⟨by rw[h1]; rfl,h2⟩
   ·exact .inr ⟨j+1,e2,r2,by rw[h1]; rfl,by rw[h2]; congr 2; omega,by simpa using h3,by simpa using h4,h5⟩
 |[],_::_,_,hl=>by simp at hl
 |_::_,[],_,hl=>by simp at hl
theorem Mp.same{D:TypeDesc}{l:LK}{v u:Value}{r:Bool}(hD:(D= .bool/\l= .b)\/(∃k,D= .int k/\l= .i)\/(D= .string/\l= .s))(h:Mp l v u r):Instr.sameNow D v u=some r:=by
 rcases hD with⟨rfl,rfl⟩|⟨k,rfl,rfl⟩|⟨rfl,rfl⟩
 ·cases h; simp[Instr.sameNow]
 ·cases h; simp[Instr.sameNow]
 ·cases h
  rename_i x y
  simp only[Instr.sameNow,Option.some.injEq]
  show (x.toArray==y.toArray)=(x==y)
  simp
theorem qH{D:TypeDesc}{l:LK}{kv:Value}{kc:List AV}(hD:(D= .bool/\l= .b)\/(∃k,D= .int k/\l= .i)\/(D= .string/\l= .s)):∀{en:List MapEntry}{es:List (List AV)}{i:Nat},FD (IL false [l] [kv] kc qo) en es->
  Instr.findNow D kv en i=some (jD kc en es i)
 |_,_,_,.nil=>rfl
 |_,_,i,.cons (a:=e) (b:=r) h t=>by
  obtain⟨us,rs,hk,h4,ht⟩:=h
  cases h4 with
  |cons hl h0=>
   rename_i q rs
   cases h0
   simp only[valOf,Bool.false_eq_true,if_false,List.headD_cons]at hk
   have:=hl.same hD
   simp only[Instr.findNow,jD,hk,this]
   simp only[List.all_cons,List.all_nil,Bool.and_true,id]at ht
   rw[<-ht]
   cases q with
   |true=>rfl
   |false=>exact qH hD t
theorem fM{d t:Nat}{ls:List LK}(hd:d<=10000)(hl:mU P d t=some ls){FC:List Value}{kc:List AV}(w:World):∀{en:List MapEntry}{es:List (List AV)}{i:Nat},FD (IL (aN P t) ls FC kc qo) en es->
  (Instr.findAsking t (valOf (aN P t) FC) en i).run P w= .ok (jD kc en es i) w
 |_,_,_,.nil=>by simp[Instr.findAsking,jD]
 |_,_,i,.cons (a:=e) (b:=r) h tl=>by
  obtain⟨us,rs,hk,h4,ht⟩:=h
  have he:=iy d (10000 - d) t ls w FC us rs hl h4
  rw[show d+ (10000 - d)=10000 by omega]at he
  have Xd:(Op.equal t (valOf (aN P t) FC) e.key).run P w= .ok (rs.all id) w:=by rw[hk]; exact he
  simp only[Instr.findAsking,Sem.run_bind,Xd,Result.andThen_ok,jD,ht]
  cases qo kc r with
  |true=>simp
  |false=>simpa using fM hd hl w tl
theorem fJ{d t:Nat}{ls:List LK}(hd:d<=10000)(hl:mU P d t=some ls){FC:List Value}{kc:List AV}(w:World)(hkl:lR ls FC){en:List MapEntry}{es:List (List AV)}(h:FD (IL (aN P t) ls FC kc qo) en es):
  (Instr.findKey t (valOf (aN P t) FC) en).run P w= .ok (jD kc en es 0) w:=by
 cases d with
 |zero=>simp[mU]at hl
 |succ d=>
  have oA:=hl
  unfold mU at hl
  cases hu:P.underlying t with
  |none=>rw[hu]at hl; simp at hl
  |some D=>
   rw[hu]at hl
   have plain:∀l,ls=[l]->aN P t=false->((D= .bool/\l= .b)\/(∃k,D= .int k/\l= .i)\/(D= .string/\l= .s))->(Instr.findKey t (valOf (aN P t) FC) en).run P w= .ok (jD kc en es 0) w:=by
    intro l hls ha hD
    subst hls
    rcases hkl with _|⟨h1,h0⟩
    cases h0
    rw[ha]at h ⊢
    simp only[valOf,Bool.false_eq_true,if_false,List.headD_cons]
    exact MapKept.run_findKey hu (qH hD h)
   cases D<;>simp only[reduceCtorEq]at hl
   case bool=>exact plain .b (by simpa using hl.symm) (by simp[aN,hu]) (.inl ⟨rfl,rfl⟩)
   case int k=>exact plain .i (by simpa using hl.symm) (by simp[aN,hu]) (.inr (.inl ⟨k,rfl,rfl⟩))
   case string=>exact plain .s (by simpa using hl.symm) (by simp[aN,hu]) (.inr (.inr ⟨rfl,rfl⟩))
   case struct fs=>
    rw[run_findKey_eq w (by rw[hu])]
    exact fM hd oA w h
   case array n e=>
    rw[run_findKey_eq w (by rw[hu])]
    exact fM hd oA w h
theorem ng.eq:∀{ls:List LK}{vs us:List Value}{rs:List Bool},ng ls vs us rs->rs.all id=true->us=vs
 |_,_,_,_,.nil,_=>rfl
 |_,_,_,_,.cons h t,hr=>by
  simp only[List.all_cons,Bool.and_eq_true,id]at hr
  rw[t.eq hr.2]
  congr 1
  cases h<;>simp_all
theorem ng.Rv:∀{ls:List LK}{vs us:List Value}{rs:List Bool},ng ls vs us rs->lR ls vs
 |_,_,_,_,.nil=> .nil
 |_,_,_,_,.cons h t=> .cons (by cases h<;>constructor) t.Rv
theorem nL{n:Nat}{l:LK}{v:Value}(h:Ru l v):Instr.sameBits n v v=true:=by
 cases h<;>cases n<;>simp[Instr.sameBits,MapKept.bytes_beq]
theorem oN{n:Nat}:∀{ls:List LK}{vs:List Value},lR ls vs->(vs.zip vs).all (fun q=>Instr.sameBits n q.1 q.2)=true
 |_,_,.nil=>rfl
 |_,_,.cons h t=>by simp[nL h,oN t]
theorem oO{ag:Bool}{ls:List LK}{vs:List Value}(h:lR ls vs)(hone:ag=false->ls.length=1)(w:World):(Instr.keyThatStays (valOf ag vs) (valOf ag vs)).run P w= .ok (valOf ag vs) w:=by
 have:Instr.sameBits 10000 (valOf ag vs) (valOf ag vs)=true:=by
  cases ag with
  |true=>
   simp only[valOf,if_true]
   have:=oN (n:=9999) h
   simp[Instr.sameBits,this]
  |false=>
   obtain⟨l,rfl⟩:=List.length_eq_one_iff.1 (hone rfl)
   rcases h with _|⟨h1,h0⟩
   cases h0
   exact nL h1
 simp[Instr.keyThatStays,this]
end Go.AM
namespace Go.AM
open Go.RowKit Go.MapKept
variable {P:Program} {T:TT} {X:bL} {o:Oper} {F:aT} {M:bf}
def AV.jr:AV->Bool
 | .agg _=>true
 |_=>false
def oP(ag:Bool)(l:List AV):AV:=if ag then .agg l else l.headD .bad
section
variable {ρ ρ':Place} {L L':aY} {I I':Nat->Prop} {w w':World} {N N':Nat->Prop}
theorem dK{v:Value}(h:v.oneCell'=true):gz v=false/\aM v=[v]:=by cases v<;>first|exact⟨rfl,rfl⟩|simp[Value.oneCell']at h
theorem fN(v:Value):valOf (gz v) (aM v)=v:=by cases v<;>simp[valOf,gz,aM]
theorem dw{a:AV}{v:Value}(h:aL ρ L I w N a v)(hs:bH a=true):gz v=a.jr/\(aM v).length=(cells a).length/\(∀u ∈ aM v,u.oneCell'=true)/\∀j,j< (cells a).length->aL ρ L I w N ((cells a).getD j .bad) ((aM v).getD j default):=by
 have key:gz v=a.jr/\aM v=v.cells.toList:=by
  cases h with
  |bad=>simp[bH]at hs
  |aF=>simp[bH]at hs
  |agg cs vs hl h1 hr=>exact⟨rfl,rfl⟩
  |loc n len i off _ hn h1 h=>rw[(dK h1).1,(dK h1).2,fD h1]; exact⟨rfl,rfl⟩
  |bh n len _ hn h1 h=>rw[(dK h1).1,(dK h1).2,fD h1]; exact⟨rfl,rfl⟩
  |dm n len i off cnt _ hn h1 h=>rw[(dK h1).1,(dK h1).2,fD h1]; exact⟨rfl,rfl⟩
  |omap n _ hn h1 h=>rw[(dK h1).1,(dK h1).2,fD h1]; exact⟨rfl,rfl⟩
  |_=>exact⟨rfl,rfl⟩
 obtain⟨h1,h2,h3⟩:=pQ h hs
 rw[key.2]
 exact⟨key.1,h1,h2,h3⟩
structure pV(ρ:Place)(L:aY)(I:Nat->Prop)(w:World)(N:Nat->Prop)(k:Nat)(ka va:Bool)(sz:Nat)(key val:Value)(r:List AV):Prop where
 rl:r.length=sz
 kl:(aM key).length=k
 fl:k+ (aM val).length=sz
 ka:gz key=ka
 va:gz val=va
 cell:∀j,j<sz->((aM key++aM val).getD j default).oneCell'=true/\aL ρ L I w N (r.getD j .bad) ((aM key++aM val).getD j default)
structure nk(ρ:Place)(L:aY)(I:Nat->Prop)(w:World)(N:Nat->Prop)(k:Nat)(ka va:Bool)(sz:Nat)(es:List (List AV))(en:Array MapEntry):Prop where
 len:en.size=es.length
 row:∀(i:Nat)(e:MapEntry)(r:List AV),en[i]? =some e->es[i]? =some r->pV ρ L I w N k ka va sz e.key e.val r
structure lU(dn:Dn)(en:Array MapEntry)(ck:Nat):Prop where
 born:∀(i j:Nat)(e f:MapEntry),en[i]? =some e->en[j]? =some f->i<j->e.born<f.born
 clock:∀(i:Nat)(e:MapEntry),en[i]? =some e->e.born<ck
 den:dn.all=true->ck=en.size/\∀(i:Nat)(e:MapEntry),en[i]? =some e->e.born=i
variable {k sz:Nat} {ka va:Bool} {dn:Dn} {es:List (List AV)} {en:Array MapEntry} {ck:Nat}
def jd(sz:Nat)(en:Array MapEntry):Array Value:=Array.ofFn fun p:Fin (maxLen*sz)=>((en[p.val / sz]?).map fun e=>(aM e.key++aM e.val).getD (p.val % sz) undef).getD undef
theorem vn(hsz:sz≠0){i j:Nat}{e:MapEntry}(he:en[i]? =some e)(hi:i<maxLen)(hj:j<sz):(jd sz en)[i*sz+j]? =some ((aM e.key++aM e.val).getD j undef):=by
 have hlt:i*sz+j<maxLen*sz:=by
  have:(i+1)*sz<=maxLen*sz:=Nat.mul_le_mul_right _ hi
  rw[Nat.add_mul,Nat.one_mul]at this; omega
 have h1:(i*sz+j) / sz=i:=by rw[Nat.add_comm,Nat.add_mul_div_right _ _ (Nat.pos_of_ne_zero hsz),Nat.div_eq_of_lt hj,Nat.zero_add]
 have h2:(i*sz+j) % sz=j:=by rw[Nat.add_comm,Nat.add_mul_mod_self_right,Nat.mod_eq_of_lt hj]
 unfold jd
 rw[Array.getElem?_eq_getElem (by simpa using hlt),Array.getElem_ofFn]
 simp only[h1,h2,he,Option.map_some,Option.getD_some]
theorem pW(hsz:sz≠0)(hR:nk ρ L I w N k ka va sz es en)(hC:lU dn en ck)(hle:es.length<=maxLen):xD k ka va dn sz en ck (jd sz en):=by
 have row:∀(i:Nat)(e:MapEntry),en[i]? =some e->i<maxLen/\∃r,pV ρ L I w N k ka va sz e.key e.val r:=fun i e he=>by
  have hlt:=(Array.getElem?_eq_some_iff.1 he).1
  have wN:i<es.length:=by rw[<-hR.len]; exact hlt
  exact⟨by omega,es[i],hR.row i e _ he (List.getElem?_eq_getElem wN)⟩
 refine⟨fun i e he=> ?_,fun i e j u he hu=> ?_,hC.born,hC.clock,hC.den,by simp[jd],hsz⟩
 ·obtain⟨_,r,h⟩:=row i e he
  exact⟨h.kl,by rw[List.length_append,h.kl]; exact h.fl,h.ka,h.va⟩
 ·obtain⟨hi,r,h⟩:=row i e he
  have hj:j<sz:=by
   have:=(List.getElem?_eq_some_iff.1 hu).1
   rw[List.length_append,h.kl,h.fl]at this; exact this
  rw[vn hsz he hi hj,List.getD_eq_getElem?_getD,hu]; rfl
theorem od(hsz:sz≠0)(hR:nk ρ L I w N k ka va sz es en)(hle:es.length<=maxLen):∀i j,i<es.length->j<sz->∃u,(jd sz en)[i*sz+j]? =some u/\u.oneCell'=true/\aL ρ L I w N ((es.getD i []).getD j .bad) u:=by
 intro i j hi hj
 have hi':i<en.size:=by rw[hR.len]; exact hi
 have h:=hR.row i en[i] es[i] (Array.getElem?_eq_getElem hi') (List.getElem?_eq_getElem hi)
 obtain⟨h1,h2⟩:=h.cell j hj
 have hlt:j< (aM en[i].key++aM en[i].val).length:=by rw[List.length_append,h.kl,h.fl]; exact hj
 refine⟨_,vn hsz (Array.getElem?_eq_getElem hi') (by omega) hj,?_,?_⟩
 ·rw[List.getD_eq_getElem?_getD,List.getElem?_eq_getElem hlt]at h1 ⊢; exact h1
 ·rw[List.getD_eq_getElem?_getD (l:=es),List.getElem?_eq_getElem hi,Option.getD_some]
  rw[List.getD_eq_getElem?_getD (l:=aM en[i].key++aM en[i].val),List.getElem?_eq_getElem hlt]at h2 ⊢; exact h2
theorem gn{n g cap:Nat}{b:be}(hW:bY X ρ I M N w)(bM:M n=some b)(hmp:b.mp=some (k,ka,va,dn))(hρ:ρ n=some (g,cap)):
  ∃en ck,w.heap[g]? =some (.map en ck)/\nk ρ (lens M) I w N k ka va b.sz b.es en/\lU dn en ck/\b.sz≠0/\cap=maxLen/\b.es.length<=maxLen:=by
 have B:=hW.aR n b bM
 obtain⟨cs,fr,hg,nG,nT,hown,hlc,lI,hcs,hc⟩:=B.real g cap hρ
 rw[hmp]at hg
 obtain⟨en,ck,h1,h2,h3⟩:=hg
 have hcap:cap=maxLen:=by
  have:=h3.room.1
  rw[hcs]at this
  exact Nat.eq_of_mul_eq_mul_right (Nat.pos_of_ne_zero h3.room.2) this
 refine⟨en,ck,h1,⟨h2,fun i e r he hr=> ?_⟩,⟨h3.born,h3.clock,h3.den⟩,h3.room.2,hcap,by omega⟩
 obtain⟨k1,k2,k3,k4⟩:=h3.key i e he
 have hi:i<b.es.length:=(List.getElem?_eq_some_iff.1 hr).1
 refine⟨B.even r (List.mem_of_getElem? hr),k1,by rw[List.length_append,k1]at k2; exact k2,k3,k4,fun j hj=> ?_⟩
 obtain⟨u,pE,FE,hu3⟩:=hc i j hi hj
 have hlt:j< (aM e.key++aM e.val).length:=by rw[k2]; exact hj
 have hu4:=h3.cell i e j _ he (List.getElem?_eq_getElem hlt)
 rw[pE]at hu4
 have e1:(aM e.key++aM e.val).getD j default=u:=by
  rw[List.getD_eq_getElem?_getD,List.getElem?_eq_getElem hlt]; exact (Option.some.inj hu4).symm
 have e2:b.es.getD i []=r:=by rw[List.getD_eq_getElem?_getD,hr]; rfl
 rw[e1,<-e2]
 exact⟨FE,hu3⟩
theorem kM{n g cap:Nat}{b:be}{v:Value}{av:AV}(hW:bY X ρ I M N w)(bM:M n=some b)(hmp:b.mp=some (k,ka,va,dn))(hρ:ρ n=some (g,cap)){CS:Array MapEntry}{IM:Nat}{es':List (List AV)}{IN:Dn}
  (hR:nk ρ (lens M) I w N k ka va b.sz es' CS) (hC:lU IN CS IM) (hle:es'.length<=maxLen) (hr:aL ρ (lens M) I w N av v) (hit:∀r sn la,IN= .it r sn la->X.w0.heap.size<=r/\¬I r/\EI {w with heap:=w.heap.setIfInBounds g (.map CS IM)} g r sn la):
  gC X M N ρ I w av [(n,⟨b.ty,b.sz,es',some (k,ka,va,IN)⟩)] v {w with heap:=w.heap.setIfInBounds g (.map CS IM)}:=by
 have B:=hW.aR n b bM
 obtain⟨en,ck,hg,_,_,hsz,rfl,_⟩:=gn hW bM hmp hρ
 have jX:∀b0,M n=some b0->b0=b:=fun b0 h0=>by rw[bM]at h0; exact (Option.some.inj h0).symm
 obtain⟨h1,h2⟩:=heap_set (o':= .map CS IM) hg
 obtain⟨E,W⟩:=hW.put (w':= {w with heap:=w.heap.setIfInBounds g (.map CS IM)}) n ⟨b.ty,b.sz,es',some (k,ka,va,IN)⟩ g maxLen (jd b.sz CS) (0,0) rfl rfl rfl (by simp) (fun q _ hq=>h2 q hq)
  ⟨CS,IM,h1,hR.len,pW hsz hR hC hle⟩ (.inl rfl) (.inr ⟨maxLen,hρ,b,bM⟩) (fun b0 h0=>by rw[jX b0 h0]; refine⟨rfl,by simp[be.ln,hmp],fun _=>hρ⟩) (fun _=>⟨b,bM⟩)
  (fun e he=>by
    obtain⟨i,hi,rfl⟩:=List.getElem_of_mem he
    have hi':i<CS.size:=by rw[hR.len]; exact hi
    exact (hR.row i CS[i] es'[i] (Array.getElem?_eq_getElem hi') (List.getElem?_eq_getElem hi)).rl)
  hle (Nat.le_refl _) (by simp[jd]) (od hsz hR hle) (fun k' Il Im r sn la hb=>by cases hb; exact hit r sn la rfl)
 refine⟨_,_,E,by rw[bD]; exact W,?_⟩
 rw[bD]
 exact (hr.rJ E (fun _ h=>h)).wide (fun _ h=> .inr h)
theorem lU.push{key val:Value}(h:lU dn en ck):lU dn.up (en.push ⟨key,val,ck⟩) (ck+1):=by
 have IP:∀(i:Nat)(e:MapEntry),(en.push ⟨key,val,ck⟩)[i]? =some e->(i<en.size/\en[i]? =some e)\/(i=en.size/\e.born=ck):=fun i e he=>by
  rw[Array.getElem?_push]at he
  split at he
  ·rename_i hi; exact .inr ⟨hi,by simp at he; rw[<-he]⟩
  ·exact .inl ⟨(Array.getElem?_eq_some_iff.1 he).1,he⟩
 refine⟨fun i j e f he hf hij=> ?_,fun i e he=> ?_,fun hd=> ?_⟩
 ·rcases IP i e he with⟨h1,h2⟩|⟨h1,h2⟩<;>rcases IP j f hf with⟨h3,h4⟩|⟨h3,h4⟩
  ·exact h.born i j e f h2 h4 hij
  ·have:=h.clock i e h2; omega
  ·omega
  ·omega
 ·rcases IP i e he with⟨h1,h2⟩|⟨h1,h2⟩
  ·have:=h.clock i e h2; omega
  ·omega
 ·obtain⟨h1,h2⟩:=h.den (by rw[<-Dn.EX]; exact hd)
  refine⟨by simp[h1],fun i e he=> ?_⟩
  rcases IP i e he with⟨_,h4⟩|⟨h3,h4⟩
  ·exact h2 i e h4
  ·omega
theorem lU.modify{f:MapEntry->MapEntry}(hf:∀e,(f e).born=e.born)(i:Nat)(h:lU dn en ck):lU dn (en.modify i f) ck:=by
 have IP:∀(j:Nat)(e:MapEntry),(en.modify i f)[j]? =some e->∃e0,en[j]? =some e0/\e.born=e0.born:=fun j e he=>by
  rw[Array.getElem?_modify]at he
  split at he
  ·obtain⟨e0,h1,rfl⟩:=Option.map_eq_some_iff.1 he
   exact⟨e0,h1,hf e0⟩
  ·exact⟨e,he,rfl⟩
 refine⟨fun a b e g he hg hab=> ?_,fun a e he=> ?_,fun hd=> ?_⟩
 ·obtain⟨e0,h1,h2⟩:=IP a e he
  obtain⟨g0,h3,h4⟩:=IP b g hg
  have:=h.born a b e0 g0 h1 h3 hab; omega
 ·obtain⟨e0,h1,h2⟩:=IP a e he
  have:=h.clock a e0 h1; omega
 ·obtain⟨h1,h2⟩:=h.den hd
  refine⟨by simp[h1],fun a e he=> ?_⟩
  obtain⟨e0,h3,h4⟩:=IP a e he
  have:=h2 a e0 h3; omega
theorem lU.up(h:lU dn en ck):lU dn.up en ck:=
 ⟨h.born,h.clock,fun hd=>h.den (by rw[<-Dn.EX]; exact hd)⟩
theorem nk.push{key val:Value}{r:List AV}(h:nk ρ L I w N k ka va sz es en)(he:pV ρ L I w N k ka va sz key val r)(c:Nat):nk ρ L I w N k ka va sz (es++ [r]) (en.push ⟨key,val,c⟩):=by
 refine⟨by simp[h.len],fun i e q h1 h2=> ?_⟩
 rw[Array.getElem?_push]at h1
 split at h1
 ·rename_i hi
  have hl:=h.len
  have:q=r:=by rw[List.getElem?_append_right (by omega)]at h2; simp[hi,h.len]at h2; exact h2.symm
  simp at h1
  rw[this,<-h1]; exact he
 ·rename_i hi
  have hlt:=(Array.getElem?_eq_some_iff.1 h1).1
  rw[List.getElem?_append_left (by rw[<-h.len]; exact hlt)]at h2
  exact h.row i e q h1 h2
theorem nk.set{f:MapEntry->MapEntry}{i:Nat}{r:List AV}(h:nk ρ L I w N k ka va sz es en)(he:∀e,en[i]? =some e->pV ρ L I w N k ka va sz (f e).key (f e).val r):nk ρ L I w N k ka va sz (es.set i r) (en.modify i f):=by
 refine⟨by simp[h.len],fun j e q h1 h2=> ?_⟩
 rw[Array.getElem?_modify]at h1
 split at h1
 ·rename_i hij
  subst hij
  obtain⟨e0,h3,rfl⟩:=Option.map_eq_some_iff.1 h1
  have hlt:=(Array.getElem?_eq_some_iff.1 h3).1
  rw[List.getElem?_set_self (by rw[<-h.len]; exact hlt)]at h2
  cases h2
  exact he e0 h3
 ·rename_i hij
  rw[List.getElem?_set_ne hij]at h2
  exact h.row j e q h1 h2
theorem pV.mk'{a b:AV}{key val:Value}(h1:aL ρ L I w N a key)(s1:bH a=true)(h2:aL ρ L I w N b val)(s2:bH b=true)(hk:(cells a).length=k)(hf:k+ (cells b).length=sz)(hka:a.jr=ka)(Io:b.jr=va):
  pV ρ L I w N k ka va sz key val (cells a++cells b):=by
 obtain⟨p1,p2,p3,p4⟩:=dw h1 s1
 obtain⟨q1,q2,q3,q4⟩:=dw h2 s2
 refine⟨by rw[List.length_append]; omega,by omega,by omega,p1.trans hka,q1.trans Io,fun j hj=> ?_⟩
 by_cases hjk:j<k
 ·have e1:(aM key++aM val).getD j default=(aM key).getD j default:=by rw[List.getD_eq_getElem?_getD,List.getElem?_append_left (by omega),List.getD_eq_getElem?_getD]
  have e2:(cells a++cells b).getD j .bad=(cells a).getD j .bad:=by rw[List.getD_eq_getElem?_getD,List.getElem?_append_left (by omega),List.getD_eq_getElem?_getD]
  rw[e1,e2]
  refine⟨?_,p4 j (by omega)⟩
  rw[List.getD_eq_getElem?_getD,List.getElem?_eq_getElem (by omega)]
  exact p3 _ (List.getElem_mem _)
 ·have e1:(aM key++aM val).getD j default=(aM val).getD (j - k) default:=by rw[List.getD_eq_getElem?_getD,List.getElem?_append_right (by omega),List.getD_eq_getElem?_getD,p2,hk]
  have e2:(cells a++cells b).getD j .bad=(cells b).getD (j - k) .bad:=by rw[List.getD_eq_getElem?_getD,List.getElem?_append_right (by omega),List.getD_eq_getElem?_getD,hk]
  rw[e1,e2]
  refine⟨?_,q4 (j - k) (by omega)⟩
  rw[List.getD_eq_getElem?_getD,List.getElem?_eq_getElem (by omega)]
  exact q3 _ (List.getElem_mem _)
theorem pV.val{key val:Value}{r:List AV}(h:pV ρ L I w N k ka va sz key val r)(hv:va=false->k<sz):aL ρ L I w N (oP va (r.drop k)) val:=by
 have hc:∀j,j< (aM val).length->((aM val).getD j default).oneCell'=true/\aL ρ L I w N ((r.drop k).getD j .bad) ((aM val).getD j default):=fun j hj=>by
  have:=h.cell (k+j) (by have:=h.fl; omega)
  have e1:(aM key++aM val).getD (k+j) default=(aM val).getD j default:=by
   rw[List.getD_eq_getElem?_getD,List.getElem?_append_right (by rw[h.kl]; omega),List.getD_eq_getElem?_getD,h.kl]
   congr 2; omega
  have e2:(r.drop k).getD j .bad=r.getD (k+j) .bad:=by simp[List.getD_eq_getElem?_getD,List.getElem?_drop]
  rw[e1]at this
  rw[e2]; exact this
 have Io:=h.va
 have hfl:=h.fl
 have hrl:=h.rl
 cases va with
 |true=>
  cases val<;>simp only[gz,Bool.false_eq_true]at Io
  rename_i cs
  simp only[aM]at hc hfl
  have:=aL.agg (ρ:=ρ) (L:=L) (I:=I) (w:=w) (N:=N) (r.drop k) cs.toList (by rw[List.length_drop,hrl]; omega) (fun u hu=>by
   obtain⟨j,hj,rfl⟩:=List.getElem_of_mem hu
   have:=(hc j hj).1
   rwa[List.getD_eq_getElem?_getD,List.getElem?_eq_getElem hj,Option.getD_some]at this) (fun j hj=>(hc j (by rw[List.length_drop,hrl]at hj; omega)).2)
  simpa[oP]using this
 |false=>
  have hf:aM val=[val]:=by cases val<;>first|rfl|simp[gz]at Io
  have:=(hc 0 (by rw[hf]; simp)).2
  rw[hf]at this
  have e:(r.drop k).headD .bad=(r.drop k).getD 0 .bad:=by cases r.drop k<;>rfl
  simp only[oP,Bool.false_eq_true,if_false,e]
  simpa using this
theorem rR{t d:Nat}{ls:List LK}{a:AV}{kv:Value}(hl:mU P d t=some ls)(jq:aN P t=ka)(h:aL ρ L I w N a kv)(hs:bH a=true)(hk:(cells a).length=k)(hR:nk ρ L I w N k ka va sz es en)(hok:∀r ∈ es,dR ls (cells a) r=true):
  FD (IL (aN P t) ls (aM kv) (cells a) qo) en.toList es:=by
 obtain⟨p1,p2,p3,p4⟩:=dw h hs
 refine FD.of (by simpa using hR.len) fun i e r he hr=> ?_
 have hE:=hR.row i e r (by simpa using he) hr
 obtain⟨rs,h1,h2⟩:=ki (hok r (List.mem_of_getElem? hr))
 refine⟨aM e.key,rs,by rw[jq,<-hE.ka]; exact (fN _).symm,?_,h2⟩
 have hle:k<=r.length:=by have:=hE.rl; have:=hE.fl; omega
 refine h1.val p2 (by rw[List.length_take,hE.kl]; omega) p4 fun j hj=> ?_
 have hj':j<k:=by rw[List.length_take]at hj; omega
 have:=(hE.cell j (by have:=hE.fl; omega)).2
 have e1:(aM e.key++aM e.val).getD j default=(aM e.key).getD j default:=by rw[List.getD_eq_getElem?_getD,List.getElem?_append_left (by rw[hE.kl]; exact hj'),List.getD_eq_getElem?_getD]
 have e2:(r.take (cells a).length).getD j .bad=r.getD j .bad:=by simp only[List.getD_eq_getElem?_getD,List.getElem?_take]; rw[if_pos (by omega)]
 rw[e1]at this
 rw[e2]; exact this
end
theorem oQ{ls:List LK}{a:AV}{ρ:Place}{L:aY}{I:Nat->Prop}{w:World}{N:Nat->Prop}{kv:Value}(h:aL ρ L I w N a kv)(hs:bH a=true)(hok:dR ls (cells a) (cells a)=true):lR ls (aM kv):=by
 obtain⟨p1,p2,p3,p4⟩:=dw h hs
 obtain⟨rs,h1,_⟩:=ki hok
 rw[List.take_length]at h1
 exact (h1.val p2 p2 p4 p4).Rv
end Go.AM
namespace Go.AM
open Go.RowKit Go.MapKept
variable {P:Program} {T:TT} {X:bL} {o:Oper} {F:aT} {M:bf}
theorem lV{d:TD}{D:TypeDesc}{k e:Nat}(hd:d= .map k e)(h:d.fits D):D= .map k e:=by
 subst hd; cases D<;>simp_all[TD.fits]
theorem kj{ρ:Place}{L:aY}{I:Nat->Prop}{w:World}{N:Nat->Prop}{n sz:Nat}{v:Value}(h:aL ρ L I w N (.omap n) v)(hl:L n=some (0,sz)):N n/\∃g cap,ρ n=some (g,cap)/\v= .map (some g):=by
 cases h with
 |omap _ _ hn h1 h=>exact⟨hn,h sz hl⟩
theorem qI{ρ:Place}{L:aY}{I:Nat->Prop}{w:World}{N:Nat->Prop}{n g cap:Nat}(hn:N n)(hρ:ρ n=some (g,cap)):aL ρ L I w N (.omap n) (.map (some g)):=
 .omap n _ hn rfl fun _ _=>⟨g,cap,hρ,rfl⟩
theorem wP{n t:Nat}{k:Nat}{ka va:Bool}{sz:Nat}(hsz:sz≠0)(ho:o.op= .makeMap t none):bC P X o F M (.omap n) [(n,⟨0,sz,[],some (k,ka,va,.b true)⟩)] [n]:=by
 refine⟨fun p hp=> .inl (by simp at hp; simp[hp]),fun M' N ρ I ac w hW hU hN hF=> ?_⟩
 have hn:¬N n:=hF n (by simp)
 have hd:∀b0,M' n=some b0->False:=fun b0 h0=>hn (hW.aR n b0 h0).lt
 have hR:nk ρ (lens M') I w N k ka va sz [] #[]:=⟨rfl,fun i e r h _=>by simp at h⟩
 have hC:lU (.b true) #[] 0:=⟨fun i j e f h=>by simp at h,fun i e h=>by simp at h,fun _=>⟨rfl,fun i e h=>by simp at h⟩⟩
 obtain⟨E,W⟩:=hW.put (w':=w.alloc (.map #[] 0)) n ⟨0,sz,[],some (k,ka,va,.b true)⟩ w.heap.size maxLen (jd sz #[]) (0,0) rfl rfl rfl (by simp) (fun k hk _=>Below.heap_alloc w _ k hk)
  ⟨#[],0,heap_alloc_new w _,rfl,pW hsz hR hC (by simp)⟩ (.inl rfl)
  (.inl (Nat.le_refl _)) (fun b0 h0=>(hd b0 h0).elim) (fun h=>(hn h).elim) (fun e he=>by simp at he) (by simp) (Nat.le_refl _) (by simp[jd]) (od hsz hR (by simp))
 unfold bI
 have hrun:(execOp ac.eval o).run P w= .ok (.value (.map (some w.heap.size))) (w.alloc (.map #[] 0)):=by
  simp[execOp,ho,run_makeMap]
 rw[hrun]
 refine⟨_,I,E,by rw[bD]; exact W,?_⟩
 rw[bD]
 exact qI (cap:=maxLen) (.inl rfl) (by simp[iE])
section
variable {t kt et n d k:Nat} {ka va:Bool} {dn:Dn} {b:be} {ls:List LK} {x key:Operand}
theorem sM{w:World}{g:Nat}{en:Array MapEntry}{ck:Nat}{kv z:Value}{i:TypeInfo}{ok:Bool}{r:Option (Nat × Value)}(hu:P.underlying t=some (.map kt et))(hg:w.heap[g]? =some (.map en ck))
  (hc:∀em,(Instr.checkKey em 10000 kt kv).run P w= .ok () w) (hf:(Instr.findKey kt kv en.toList).run P w= .ok r w) (hi:P.info? et=some i) (hz:i.zero=some z):
  (Instr.lookup t (.map (some g)) kv ok).run P w= .ok (if ok then .tuple #[(r.map (·.2)).getD z,.bool r.isSome]else (r.map (·.2)).getD z) w:=by
 cases r with
 |none=>simp[Instr.lookup,run_underlying hu,MapKept.run_getObj_map hg,hc,hf,gb hi hz]
 |some q=>simp[Instr.lookup,run_underlying hu,MapKept.run_getObj_map hg,hc,hf]
def AA(ok:Bool)(v:AV)(is:Bool):AV:=if ok then .aF [v,.bool is]else v
def uJ(va:Bool)(z:AV)(q:Option (Nat × List AV)):AV:=match q with
 |some q=>oP va q.2
 |none=>z
theorem qJ(hT:cN P T){ok:Bool}(ho:o.op= .lookup t x key ok)(ht:T.d t= .map kt et)(FF:(T.d et).ok=true)(hx:ev F x= .omap n)(hb:M n=some b)(hmp:b.mp=some (k,ka,va,dn))
  (hd:d<=10000) (hl:mU P d kt=some ls) (jq:aN P kt=ka) (hs:bH (ev F key)=true) (hka:(ev F key).jr=ka) (hk:(cells (ev F key)).length=k) (hkk:dR ls (cells (ev F key)) (cells (ev F key))=true)
  (hok:∀r ∈ b.es,dR ls (cells (ev F key)) r=true) (hv:va=false->k<b.sz):
  bC P X o F M (AA ok (uJ va (T.z et) (cC (cells (ev F key)) b.es)) (cC (cells (ev F key)) b.es).isSome) [] []:=by
 have uu:x ∈ o.op.operands.toList:=by simp[ho,Op.operands]
 have Mv:key ∈ o.op.operands.toList:=by simp[ho,Op.operands]
 obtain⟨D,it,z,hD,hf,_⟩:=hT t (by rw[ht]; simp)
 have fW:=lV ht hf
 subst fW
 obtain⟨De,ie,ze,xX,Fw,hie,lr,_,Mb,iu⟩:=hT et (TD.dB FF)
 refine aB fun M' N ρ I a w hW hU hN=> ?_
 have r1:=ao hU x uu
 have r2:=ao hU key Mv
 rw[hx]at r1
 obtain⟨sl,dJ,fi⟩:=bg (F:=F) x uu (n:=n) (by rw[hx]; simp[AV.names])
 have bM:M' n=some b:=(hN sl dJ n fi).trans hb
 have dr:lens M' n=some (0,b.sz):=by rw[az]; exact⟨b,bM,by simp[be.ln,hmp],rfl⟩
 obtain⟨hn,g,cap,hρ,qt⟩:=kj r1 dr
 obtain⟨en,ck,hg,hR,hC,hsz,_,_⟩:=gn hW bM hmp hρ
 have CT:valOf (aN P kt) (aM (a.eval key))=a.eval key:=by
  rw[jq,<-hka,<-(dw r2 hs).1]; exact fN _
 have CU:=oQ r2 hs hkk
 have fT:=fJ hd hl w CU (rR hl jq r2 hs hk hR hok)
 have uK:∀em,(Instr.checkKey em 10000 kt (a.eval key)).run P w= .ok () w:=fun em=>by
  have:=dD (em:=em) d (10000 - d) kt ls w _ hl CU
  rw[show d+ (10000 - d)=10000 by omega,CT]at this; exact this
 rw[CT]at fT
 refine⟨if ok then .tuple #[((jD (cells (ev F key)) en.toList b.es 0).map (·.2)).getD ze,.bool (jD (cells (ev F key)) en.toList b.es 0).isSome]else ((jD (cells (ev F key)) en.toList b.es 0).map (·.2)).getD ze,?_,?_⟩
 ·simp only[execOp,ho,qt,Sem.run_bind,sM hD hg uK fT hie Mb,Result.andThen_ok,Sem.run_pure]
 ·rcases jc (kc:=cells (ev F key)) (en:=en.toList) (es:=b.es) (i:=0) (by simpa using hR.len)with⟨h1,h2⟩|⟨j,e,r,h1,h2,h3,h4,h5⟩
  ·rw[h1,h2]
   have hz:aL ρ (lens M') I w N (T.z et) ze:=by rw[iu]; exact ga _ _ _ _ _ _
   cases ok with
   |false=>simpa[AA,uJ]using hz
   |true=>
    simp only[AA,uJ,if_true,Option.map_none,Option.getD_none,Option.isSome_none]
    exact .aF [T.z et,.bool false] [ze,.bool false] rfl fun j hj=>by
     match j,hj with
     |0,_=>simpa using hz
     |1,_=>exact .bool _
  ·rw[h1,h2]
   have hE:=hR.row j e r (by simpa using h3) h4
   have hval:aL ρ (lens M') I w N (oP va (r.drop (cells (ev F key)).length)) e.val:=by rw[hk]; exact hE.val hv
   cases ok with
   |false=>simpa[AA,uJ]using hval
   |true=>
    simp only[AA,uJ,if_true,Option.map_some,Option.getD_some,Option.isSome_some]
    exact .aF [_,.bool true] [e.val,.bool true] rfl fun j hj=>by
     match j,hj with
     |0,_=>simpa using hval
     |1,_=>exact .bool _
def IQ(kc vs:List AV)(es:List (List AV)):List (List AV):=match cC kc es with
 |some q=>es.set q.1 (kc++vs)
 |none=>es++ [kc++vs]
theorem IR{ls:List LK}{kc r:List AV}(h1:dR ls kc r=true)(h2:qo kc r=true):∃rs,uE ls kc (r.take kc.length) rs/\rs.all id=true:=by
 obtain⟨rs,h3,h4⟩:=ki h1
 exact⟨rs,h3,by rw[h4]; exact h2⟩
theorem ya{ρ:Place}{L:aY}{I:Nat->Prop}{w:World}{N:Nat->Prop}{a:AV}{kv:Value}{e:MapEntry}{r:List AV}{sz:Nat}(h:aL ρ L I w N a kv)(hs:bH a=true)(hka:a.jr=ka)(hk:(cells a).length=k)
  (hE:pV ρ L I w N k ka va sz e.key e.val r) (hok:dR ls (cells a) r=true) (hB:qo (cells a) r=true):e.key=kv:=by
 obtain⟨p1,p2,p3,p4⟩:=dw h hs
 obtain⟨rs,h1,h2⟩:=IR hok hB
 have hle:k<=r.length:=by have:=hE.rl; have:=hE.fl; omega
 have h4:=h1.val p2 (us:=aM e.key) (by rw[List.length_take,hE.kl]; omega) p4 fun j hj=>by
  have hj':j<k:=by rw[List.length_take]at hj; omega
  have:=(hE.cell j (by have:=hE.fl; omega)).2
  have e1:(aM e.key++aM e.val).getD j default=(aM e.key).getD j default:=by rw[List.getD_eq_getElem?_getD,List.getElem?_append_left (by rw[hE.kl]; exact hj'),List.getD_eq_getElem?_getD]
  have e2:(r.take (cells a).length).getD j .bad=r.getD j .bad:=by simp only[List.getD_eq_getElem?_getD,List.getElem?_take]; rw[if_pos (by omega)]
  rw[e1]at this
  rw[e2]; exact this
 have:=h4.eq h2
 rw[<-fN e.key,hE.ka,this,<-hka,<-p1,fN]
theorem sN(hT:cN P T){val:Operand}(ho:o.op= .mapUpdate t x key val\/ o.op= .insert t x key val)(ht:T.d t= .map kt et)(hx:ev F x= .omap n)(hb:M n=some b)(hmp:b.mp=some (k,ka,va,dn))
  (hd:d<=10000) (hl:mU P d kt=some ls) (jq:aN P kt=ka) (hs:bH (ev F key)=true) (hka:(ev F key).jr=ka) (hk:(cells (ev F key)).length=k) (hkk:dR ls (cells (ev F key)) (cells (ev F key))=true)
  (hok:∀r ∈ b.es,dR ls (cells (ev F key)) r=true) (Rz:bH (ev F val)=true) (Io:(ev F val).jr=va) (hvl:k+ (cells (ev F val)).length=b.sz) (hle:b.es.length+1<=lB):
  bC P X o F M (.aF []) [(n,⟨b.ty,b.sz,IQ (cells (ev F key)) (cells (ev F val)) b.es,some (k,ka,va,dn.up)⟩)] []/\n ∈ (ev F x).names:=by
 have uu:x ∈ o.op.operands.toList:=by rcases ho with ho|ho<;>simp[ho,Op.operands]
 have Mv:key ∈ o.op.operands.toList:=by rcases ho with ho|ho<;>simp[ho,Op.operands]
 have YP:val ∈ o.op.operands.toList:=by rcases ho with ho|ho<;>simp[ho,Op.operands]
 obtain⟨D,it,z,hD,hf,_⟩:=hT t (by rw[ht]; simp)
 have fW:=lV ht hf
 subst fW
 obtain⟨sl,dJ,fi⟩:=bg (F:=F) x uu (n:=n) (by rw[hx]; simp[AV.names])
 refine⟨⟨fun p hp=> .inr ⟨sl,dJ,by simp at hp; rw[hp]; exact fi⟩,fun M' N ρ I a w hW hU hN _=> ?_⟩,by rw[hx]; simp[AV.names]⟩
 have r1:=ao hU x uu
 have r2:=ao hU key Mv
 have r3:=ao hU val YP
 rw[hx]at r1
 have bM:M' n=some b:=(hN sl dJ n fi).trans hb
 have dr:lens M' n=some (0,b.sz):=by rw[az]; exact⟨b,bM,by simp[be.ln,hmp],rfl⟩
 obtain⟨hn,g,cap,hρ,qt⟩:=kj r1 dr
 obtain⟨en,ck,hg,hR,hC,hsz,_,_⟩:=gn hW bM hmp hρ
 have CT:valOf (aN P kt) (aM (a.eval key))=a.eval key:=by
  rw[jq,<-hka,<-(dw r2 hs).1]; exact fN _
 have CU:=oQ r2 hs hkk
 have fT:=fJ hd hl w CU (rR hl jq r2 hs hk hR hok)
 have uK:∀em,(Instr.checkKey em 10000 kt (a.eval key)).run P w= .ok () w:=fun em=>by
  have:=dD (em:=em) d (10000 - d) kt ls w _ hl CU
  rw[show d+ (10000 - d)=10000 by omega,CT]at this; exact this
 have hst:(Instr.keyThatStays (a.eval key) (a.eval key)).run P w= .ok (a.eval key) w:=by
  have:=oO (P:=P) (ag:=aN P kt) CU (fun h=>jC hl h) w
  rwa[CT]at this
 rw[CT]at fT
 have Li:∀w',(Instr.mapUpdate t (.map (some g)) (a.eval key) (a.eval val)).run P w= .ok () w'->(execOp a.eval o).run P w= .ok .skip w':=fun w' h=>by
  rcases ho with ho|ho<;>simp[execOp,ho,qt,h]
 have hmk:=pV.mk' r2 hs r3 Rz hk hvl hka Io
 unfold bI IQ
 rcases jc (kc:=cells (ev F key)) (en:=en.toList) (es:=b.es) (i:=0) (by simpa using hR.len)with⟨h1,h2⟩|⟨j,e,r,h1,h2,h3,h4,h5⟩
 ·rw[h2]at fT
  rw[h1,Li {w with heap:=w.heap.setIfInBounds g (.map (en.push ⟨a.eval key,a.eval val,ck⟩) (ck+1))} (by
   simp[Instr.mapUpdate,run_underlying hD,MapKept.run_getObj_map hg,uK,fT,MapKept.run_setObj_map _ hg])]
  exact kM hW bM hmp hρ (hR.push hmk ck) hC.push (by simp only[List.length_append,List.length_singleton]; simp only[lB]at hle; simp only[maxLen]; omega) (.aF [] [] rfl (fun j hj=>by simp at hj)) (fun _ _ _ h=>(Dn.EY h).elim)
 ·rw[h2,Nat.zero_add]at fT
  have Mw:en[j]? =some e:=by simpa using h3
  have hE:=hR.row j e r Mw h4
  have hkey:=ya r2 hs hka hk hE (hok r (List.mem_of_getElem? h4)) h5
  rw[h1,Li {w with heap:=w.heap.setIfInBounds g (.map (en.modify j fun e=> {e with key:=a.eval key,val:=a.eval val}) ck)} (by
   simp[Instr.mapUpdate,run_underlying hD,MapKept.run_getObj_map hg,uK,fT,Mw,hkey,hst,MapKept.run_setObj_map _ hg])]
  exact kM hW bM hmp hρ (hR.set (f:=fun e=> {e with key:=a.eval key,val:=a.eval val}) fun _ _=>hmk) (hC.up.modify (f:=fun e=> {e with key:=a.eval key,val:=a.eval val}) (fun _=>rfl) j) (by rw[List.length_set]; simp only[lB]at hle; simp only[maxLen]; omega) (.aF [] [] rfl (fun j hj=>by simp at hj)) (fun _ _ _ h=>(Dn.EY h).elim)
def AB(kc zs:List AV)(es:List (List AV)):List (List AV):=match cC kc es with
 |some _=>es
 |none=>es++ [kc++zs]
def wQ(kc:List AV)(es:List (List AV)):Nat:=match cC kc es with
 |some q=>q.1
 |none=>es.length
theorem nM(hT:cN P T)(ho:o.op= .mapEntry t x key)(ht:T.d t= .map kt et)(FF:(T.d et).ok=true)(hx:ev F x= .omap n)(hb:M n=some b)(hmp:b.mp=some (k,ka,va,.b true))
  (hd:d<=10000) (hl:mU P d kt=some ls) (jq:aN P kt=ka) (hs:bH (ev F key)=true) (hka:(ev F key).jr=ka) (hk:(cells (ev F key)).length=k) (hkk:dR ls (cells (ev F key)) (cells (ev F key))=true)
  (hok:(∀r ∈ b.es,r.length=b.sz)->∀r ∈ b.es,dR ls (cells (ev F key)) r=true) (Rz:bH (T.z et)=true) (Io:(T.z et).jr=va) (hvl:k+ (cells (T.z et)).length=b.sz) (hv:va=false->k<b.sz) (hle:b.es.length+1<=lB):
  bC P X o F M (.aF [uJ va (T.z et) (cC (cells (ev F key)) b.es),.int .i64 (wQ (cells (ev F key)) b.es)]) [(n,⟨b.ty,b.sz,AB (cells (ev F key)) (cells (T.z et)) b.es,some (k,ka,va,.b true)⟩)] []/\n ∈ (ev F x).names:=by
 have uu:x ∈ o.op.operands.toList:=by simp[ho,Op.operands]
 have Mv:key ∈ o.op.operands.toList:=by simp[ho,Op.operands]
 obtain⟨D,it,z,hD,hf,_⟩:=hT t (by rw[ht]; simp)
 have fW:=lV ht hf
 subst fW
 obtain⟨De,ie,ze,xX,Fw,hie,lr,_,Mb,iu⟩:=hT et (TD.dB FF)
 obtain⟨sl,dJ,fi⟩:=bg (F:=F) x uu (n:=n) (by rw[hx]; simp[AV.names])
 refine⟨⟨fun p hp=> .inr ⟨sl,dJ,by simp at hp; rw[hp]; exact fi⟩,fun M' N ρ I a w hW hU hN _=> ?_⟩,by rw[hx]; simp[AV.names]⟩
 have r1:=ao hU x uu
 have r2:=ao hU key Mv
 rw[hx]at r1
 have bM:M' n=some b:=(hN sl dJ n fi).trans hb
 have dr:lens M' n=some (0,b.sz):=by rw[az]; exact⟨b,bM,by simp[be.ln,hmp],rfl⟩
 obtain⟨hn,g,cap,hρ,qt⟩:=kj r1 dr
 obtain⟨en,ck,hg,hR,hC,hsz,_,oR⟩:=gn hW bM hmp hρ
 have hok:=hok (hW.aR n b bM).even
 have CT:valOf (aN P kt) (aM (a.eval key))=a.eval key:=by
  rw[jq,<-hka,<-(dw r2 hs).1]; exact fN _
 have CU:=oQ r2 hs hkk
 have fT:=fJ hd hl w CU (rR hl jq r2 hs hk hR hok)
 have uK:∀em,(Instr.checkKey em 10000 kt (a.eval key)).run P w= .ok () w:=fun em=>by
  have:=dD (em:=em) d (10000 - d) kt ls w _ hl CU
  rw[show d+ (10000 - d)=10000 by omega,CT]at this; exact this
 have hst:(Instr.keyThatStays (a.eval key) (a.eval key)).run P w= .ok (a.eval key) w:=by
  have:=oO (P:=P) (ag:=aN P kt) CU (fun h=>jC hl h) w
  rwa[CT]at this
 rw[CT]at fT
 have hzr:aL ρ (lens M') I w N (T.z et) ze:=by rw[iu]; exact ga _ _ _ _ _ _
 obtain⟨hck,BY⟩:=hC.den rfl
 have two:∀{a1 a2:AV}{v1 v2:Value},aL ρ (lens M') I w N a1 v1->aL ρ (lens M') I w N a2 v2->aL ρ (lens M') I w N (.aF [a1,a2]) (.tuple #[v1,v2]):=fun {a1 a2 v1 v2} q1 q2=> .aF [a1,a2] [v1,v2] rfl fun j hj=>by
  match j,hj with
  |0,_=>simpa using q1
  |1,_=>simpa using q2
 unfold bI AB wQ
 rcases jc (kc:=cells (ev F key)) (en:=en.toList) (es:=b.es) (i:=0) (by simpa using hR.len)with⟨h1,h2⟩|⟨j,e,r,h1,h2,h3,h4,h5⟩
 ·rw[h2]at fT
  have hrun:(execOp a.eval o).run P w= .ok (.value (.tuple #[ze,goInt ck])) {w with heap:=w.heap.setIfInBounds g (.map (en.push ⟨a.eval key,ze,ck⟩) (ck+1))}:=by
   simp[execOp,ho,qt,Instr.mapEntry,run_underlying hD,MapKept.run_getObj_map hg,uK,fT,gb hie Mb,MapKept.run_setObj_map _ hg]
  rw[h1,hrun]
  refine kM hW bM hmp hρ (hR.push (pV.mk' r2 hs hzr Rz hk hvl hka Io) ck) hC.push (by simp only[List.length_append,List.length_singleton]; simp only[lB]at hle; simp only[maxLen]; omega) (two hzr ?_) (fun _ _ _ h=>by cases h)
  rw[hck,hR.len]; exact .int _ _
 ·rw[h2,Nat.zero_add]at fT
  have Mw:en[j]? =some e:=by simpa using h3
  have hE:=hR.row j e r Mw h4
  have hkey:=ya r2 hs hka hk hE (hok r (List.mem_of_getElem? h4)) h5
  have hrun:(execOp a.eval o).run P w= .ok (.value (.tuple #[e.val,goInt e.born])) {w with heap:=w.heap.setIfInBounds g (.map (en.modify j fun e=> {e with key:=a.eval key}) ck)}:=by
   simp[execOp,ho,qt,Instr.mapEntry,run_underlying hD,MapKept.run_getObj_map hg,uK,fT,Mw,hkey,hst,MapKept.run_setObj_map _ hg]
  rw[h1,hrun]
  have Qw:nk ρ (lens M') I w N k ka va b.sz b.es (en.modify j fun e=> {e with key:=a.eval key}):=by
   have:=hR.set (i:=j) (f:=fun e=> {e with key:=a.eval key}) (r:=r) (fun e0 he0=>by rw[Mw]at he0; cases he0; rw[<-hkey]; exact hE)
   have hlt:=(List.getElem?_eq_some_iff.1 h4)
   rwa[<-hlt.2,List.set_getElem_self]at this
  refine kM hW bM hmp hρ Qw (hC.modify (f:=fun e=> {e with key:=a.eval key}) (fun _=>rfl) j) oR (two ?_ ?_) (fun _ _ _ h=>by cases h)
  ·simp only[uJ]
   rw[hk]; exact hE.val hv
  ·have:=BY j e Mw
   rw[this]; exact .int _ _
theorem rk{stamp val:Operand}{q:IntKind}{j:Nat}{r:List AV}(ho:o.op= .entryStore t x stamp val)(hx:ev F x= .omap n)(hb:M n=some b)(hmp:b.mp=some (k,ka,va,.b true))
  (hst:ev F stamp= .int q j) (hr:b.es[j]? =some r) (Rz:bH (ev F val)=true) (Io:(ev F val).jr=va) (hvl:k+ (cells (ev F val)).length=b.sz):
  bC P X o F M (.aF []) [(n,⟨b.ty,b.sz,b.es.set j (r.take k++cells (ev F val)),some (k,ka,va,.b true)⟩)] []/\n ∈ (ev F x).names:=by
 have uu:x ∈ o.op.operands.toList:=by simp[ho,Op.operands]
 have hso:stamp ∈ o.op.operands.toList:=by simp[ho,Op.operands]
 have YP:val ∈ o.op.operands.toList:=by simp[ho,Op.operands]
 obtain⟨sl,dJ,fi⟩:=bg (F:=F) x uu (n:=n) (by rw[hx]; simp[AV.names])
 refine⟨⟨fun p hp=> .inr ⟨sl,dJ,by simp at hp; rw[hp]; exact fi⟩,fun M' N ρ I a w hW hU hN _=> ?_⟩,by rw[hx]; simp[AV.names]⟩
 have r1:=ao hU x uu
 have r2:=bv (hst ▸ ao hU stamp hso)
 have r3:=ao hU val YP
 rw[hx]at r1
 have bM:M' n=some b:=(hN sl dJ n fi).trans hb
 have dr:lens M' n=some (0,b.sz):=by rw[az]; exact⟨b,bM,by simp[be.ln,hmp],rfl⟩
 obtain⟨hn,g,cap,hρ,qt⟩:=kj r1 dr
 obtain⟨en,ck,hg,hR,hC,hsz,_,oR⟩:=gn hW bM hmp hρ
 obtain⟨hck,BY⟩:=hC.den rfl
 have hj:j<b.es.length:=(List.getElem?_eq_some_iff.1 hr).1
 have hje:j<en.size:=by rw[hR.len]; exact hj
 have hidx:en.findIdx? (fun e=>(e.born:Int)==(j:Int))=some j:=by
  rw[Array.findIdx?_eq_some_iff_getElem]
  refine⟨hje,?_,fun i hi=> ?_⟩
  ·have:=BY j en[j] (Array.getElem?_eq_getElem hje)
   simp[this]
  ·have:=BY i (en[i]'(by omega)) (Array.getElem?_eq_getElem (by omega))
   simp only[this,Bool.not_eq_true,beq_eq_false_iff_ne,ne_eq]; omega
 have hrun:(execOp a.eval o).run P w= .ok .skip {w with heap:=w.heap.setIfInBounds g (.map (en.modify j fun e=> {e with val:=a.eval val}) ck)}:=by
  simp[execOp,ho,qt,r2,Instr.entryStore,MapKept.run_getObj_map hg,asInt,asIntOf,hidx,MapKept.run_setObj_map _ hg]
 unfold bI
 rw[hrun]
 refine kM hW bM hmp hρ (hR.set (i:=j) (f:=fun e=> {e with val:=a.eval val}) fun e he=> ?_) (hC.modify (f:=fun e=> {e with val:=a.eval val}) (fun _=>rfl) j) (by rw[List.length_set]; exact oR) (.aF [] [] rfl (fun j hj=>by simp at hj)) (fun _ _ _ h=>by cases h)
 have hE:=hR.row j e r he hr
 obtain⟨q1,q2,q3,q4⟩:=dw r3 Rz
 have hle:k<=r.length:=by have:=hE.rl; have:=hE.fl; omega
 have Xe:(r.take k).length=k:=by rw[List.length_take]; omega
 refine⟨by rw[List.length_append,Xe]; omega,hE.kl,by show k+ (aM (a.eval val)).length=_; omega,hE.ka,q1.trans Io,fun p hp=> ?_⟩
 show ((aM e.key++aM (a.eval val)).getD p default).oneCell'=true/\aL ρ (lens M') I w N ((r.take k++cells (ev F val)).getD p .bad) ((aM e.key++aM (a.eval val)).getD p default)
 by_cases hpk:p<k
 ·have:=hE.cell p hp
  have e0:(aM e.key++aM e.val).getD p default=(aM e.key).getD p default:=by rw[List.getD_eq_getElem?_getD,List.getElem?_append_left (by rw[hE.kl]; exact hpk),List.getD_eq_getElem?_getD]
  have e1:(aM e.key++aM (a.eval val)).getD p default=(aM e.key).getD p default:=by rw[List.getD_eq_getElem?_getD,List.getElem?_append_left (by rw[hE.kl]; exact hpk),List.getD_eq_getElem?_getD]
  have e2:(r.take k++cells (ev F val)).getD p .bad=r.getD p .bad:=by
   rw[List.getD_eq_getElem?_getD,List.getElem?_append_left (by omega),List.getElem?_take,if_pos hpk,List.getD_eq_getElem?_getD]
  rw[e0]at this
  rw[e1,e2]; exact this
 ·have e1:(aM e.key++aM (a.eval val)).getD p default=(aM (a.eval val)).getD (p - k) default:=by rw[List.getD_eq_getElem?_getD,List.getElem?_append_right (by rw[hE.kl]; omega),List.getD_eq_getElem?_getD,hE.kl]
  have e2:(r.take k++cells (ev F val)).getD p .bad=(cells (ev F val)).getD (p - k) .bad:=by rw[List.getD_eq_getElem?_getD,List.getElem?_append_right (by omega),List.getD_eq_getElem?_getD,Xe]
  rw[e1,e2]
  refine⟨?_,q4 (p - k) (by omega)⟩
  rw[List.getD_eq_getElem?_getD,List.getElem?_eq_getElem (by omega)]
  exact q3 _ (List.getElem_mem _)
end
end Go.AM
namespace Go.AM
open Go.RowKit Go.MapKept
variable {P:Program} {T:TT} {X:bL} {o:Oper} {F:aT} {M:bf}
theorem oF.pO{av:AV}(h:oF P X o F M av):bC P X o F M av [] []:=
 ⟨fun p hp=>by simp at hp,fun M' N ρ I a w W hr hM _=>h M' N ρ I a w W hr (fun s hs n hn=>by rw[hM s hs n hn])⟩
theorem AC:∀{ls:List LK}{kc r:List AV},dR ls kc kc=true->jV kc=true->jV r=true->kc.length<=r.length->dR ls kc r=true
 |[],[],_,_,_,_,_=>by simp[dR]
 | .i::l,.int k x::a,r,h,g,g2,hl=>by
   cases k<;>simp only[jV,Bool.false_eq_true]at g
   cases r with
   |nil=>simp at hl
   |cons c s=>
    cases c with
    |int k2 y=>
     cases k2<;>simp only[jV,Bool.false_eq_true]at g2
     simp only[dR,Bool.and_eq_true]at h ⊢
     exact⟨rfl,AC h.2 g g2 (by simpa using hl)⟩
    |_=>simp[jV]at g2
 | .i::l,[],_,h,_,_,_=>by simp[dR]at h
 | .b::l,[],_,h,_,_,_=>by simp[dR]at h
 | .s::l,[],_,h,_,_,_=>by simp[dR]at h
 |[],_::_,_,h,_,_,_=>by simp[dR]at h
 | .b::l,c::a,_,h,g,_,_=>by cases c<;>simp[dR,jV]at h g
 | .s::l,c::a,_,h,g,_,_=>by cases c<;>simp[dR,jV]at h g
 | .i::l,.bool _::a,_,_,g,_,_=>by simp[jV]at g
 | .i::l,.str _::a,_,_,g,_,_=>by simp[jV]at g
 | .i::l,.aw::a,_,_,g,_,_=>by simp[jV]at g
 | .i::l,.ab::a,_,_,g,_,_=>by simp[jV]at g
 | .i::l,.af::a,_,_,g,_,_=>by simp[jV]at g
 | .i::l,.di::a,_,_,g,_,_=>by simp[jV]at g
 | .i::l,.bP::a,_,_,g,_,_=>by simp[jV]at g
 | .i::l,.loc .. ::a,_,_,g,_,_=>by simp[jV]at g
 | .i::l,.bh .. ::a,_,_,g,_,_=>by simp[jV]at g
 | .i::l,.dm .. ::a,_,_,g,_,_=>by simp[jV]at g
 | .i::l,.aG .. ::a,_,_,g,_,_=>by simp[jV]at g
 | .i::l,.bc .. ::a,_,_,g,_,_=>by simp[jV]at g
 | .i::l,.omap .. ::a,_,_,g,_,_=>by simp[jV]at g
 | .i::l,.bK .. ::a,_,_,g,_,_=>by simp[jV]at g
 | .i::l,.agg .. ::a,_,_,g,_,_=>by simp[jV]at g
 | .i::l,.aF .. ::a,_,_,g,_,_=>by simp[jV]at g
 | .i::l,.bad::a,_,_,g,_,_=>by simp[jV]at g
theorem CV(q:Option (Nat × List AV)):uJ false (.int .i64 0) q=IA q:=by cases q<;>rfl
section
variable {t kt et n d k:Nat} {ka:Bool} {dn:Dn} {b:be} {ls:List LK} {x key:Operand}
theorem FG(hT:cN P T)(ho:o.op= .lookup t x key false)(ht:T.d t= .map kt et)(FF:(T.d et).ok=true)(hz:T.z et= .int .i64 0)(hx:ev F x= .omap n)(hb:M n=some b)(hmp:b.mp=some (k,ka,false,dn))
  (hd:d<=10000) (hl:mU P d kt=some ls) (jq:aN P kt=ka) (hs:bH (ev F key)=true) (hka:(ev F key).jr=ka) (hk:(cells (ev F key)).length=k) (hkk:dR ls (cells (ev F key)) (cells (ev F key))=true)
  (hg:jV (cells (ev F key))=true) (RA:∀r ∈ b.es,jV r=true) (hsz:b.sz=k+1):
  oF P X o F M (IA (cC (cells (ev F key)) b.es)):=by
 intro M' N ρ I a w hW hU hV
 have uu:x ∈ o.op.operands.toList:=by simp[ho,Op.operands]
 obtain⟨sl,dJ,fi⟩:=bg (F:=F) x uu (n:=n) (by rw[hx]; simp[AV.names])
 have hv:=hV sl dJ n fi
 rw[hb]at hv
 cases hb':M' n with
 |none=>rw[hb']at hv; simp[Vw]at hv
 |some b'=>
  rw[hb']at hv
  simp only[Vw,Option.map_some,Option.some.injEq,Prod.mk.injEq]at hv
  obtain⟨v1,v2,v3,v4⟩:=hv
  have YQ:∀r ∈ b'.es,jV r=true:=v4.symm ▸ RA
  have v3':=congrFun v3 (cells (ev F key))
  rw[v1,if_pos (by omega),if_pos (by omega)]at v3'
  have hok:∀r ∈ b'.es,dR ls (cells (ev F key)) r=true:=fun r hr=>AC hkk hg (YQ r hr) (by
   have:=(hW.aR n b' hb').even r hr
   omega)
  have D:=qJ (X:=X) (M:=M') hT ho ht FF hx hb' (v2.trans hmp) hd hl jq hs hka hk hkk hok (fun _=>by omega)
  simp only[AA,Bool.false_eq_true,if_false,hz,CV]at D
  rw[v3']at D
  exact D.2 M' N ρ I a w hW hU (fun _ _ _ _=>rfl) (fun _ h=>by simp at h)
theorem vo{kc r:List AV}:∀{es:List (List AV)},cC kc (es++ [r])=match cC kc es with
  |some q=>some q
  |none=>if qo kc r then some (es.length,r.drop kc.length)else none
 |[]=>by simp only[List.nil_append,cC]; cases qo kc r<;>rfl
 |e::es=>by
  simp only[List.cons_append,cC]
  by_cases h:qo kc e=true
  ·simp[h]
  ·simp only[if_neg h]
   rw[vo (es:=es)]
   cases cC kc es with
   |some q=>rfl
   |none=>by_cases h2:qo kc r=true<;>simp[h2]
theorem BZ:∀{a b:List AV},jV (a++b)=(jV a&&jV b)
 |[],b=>by simp[jV]
 |c::a,b=>by
  cases c<;>simp only[List.cons_append,jV,Bool.false_and]
  rename_i k y
  cases k<;>simp only[jV,BZ,Bool.false_and]
theorem IS{kc:List AV}(hmp:b.mp=some (k,ka,false,.b true))(hk:kc.length=k)(hsz:b.sz=k+1)(hg:jV kc=true):Vw (some b)=Vw (some ⟨b.ty,b.sz,AB kc [.int .i64 0] b.es,some (k,ka,false,.b true)⟩):=by
 simp only[Vw,Option.map_some,Option.some.injEq,Prod.mk.injEq]
 refine⟨trivial,hmp,?_,?_⟩
 ·funext YR
  split
  ·rename_i hl
   unfold AB
   cases hm:cC kc b.es with
   |some q=>rfl
   |none=>
    simp only
    rw[vo]
    cases hm':cC YR b.es with
    |some q=>rfl
    |none=>
     simp only
     split
     ·have:(kc++ [AV.int .i64 0]).drop YR.length=[.int .i64 0]:=by
       rw[show YR.length=kc.length by omega,List.drop_left]
      rw[this]; rfl
     ·rfl
  ·rfl
 ·apply propext
  unfold AB
  cases cC kc b.es with
  |some q=>exact Iff.rfl
  |none=>
   simp only[List.mem_append,List.mem_singleton]
   exact⟨fun h r hr=>hr.elim (h r) (fun e=>by rw[e,BZ,hg]; rfl),fun h r hr=>h r (.inl hr)⟩
end
end Go.AM
namespace Go.AM
open Go.RowKit
structure Env where
 P:Program
 T:TT
 ok:PT P T
 ft:Nat->Nat
 ty:Nat->Nat
inductive Sc where
 |t (n:Nat)
 |k (v:AV)
 |f (g:Nat)
inductive vp where
 |mv (x:Sc)
 |pick (c a b:Sc)
 |alloc (ty:Nat) (z:List AV)
 |box (ty:Nat) (x:Sc)
 |build (z:List AV) (ps:List (Nat × Nat × Sc))
 |aJ (ty sz len:Nat) (z:List AV) (ps:List (Nat × Sc))
 |load (ag:Bool) (n:Nat) (x:Sc)
 |store (n:Nat) (x v:Sc)
 |aA (x:Sc)
 |bin (op:BinOp) (x y:Sc)
 |eqb (neg:Bool) (x y:Sc)
 |B0 (neg:Bool) (x:Sc)
 |yb (neg:Bool) (x:Sc)
 |IT (neg:Bool) (x:Sc)
 |Mx (m sz:Nat) (x:Sc)
 |Lj (ty sz:Nat) (x:Sc)
 |EO (neg:Bool) (ls:List LK) (x y:Sc)
 |YS (op:BinOp) (x y:Sc)
 |un (op:UnOp) (x:Sc)
 |conv (k:IntKind) (x:Sc)
 |RB (x:Sc)
 |s2b (ty:Nat) (x:Sc)
 |Xf (x:Sc)
 |QC (g:Nat) (cs:List Sc)
 |bE (off:Nat) (x:Sc)
 |IU (ag:Bool) (off n:Nat) (x:Sc)
 |IV (sz:Nat) (x i:Sc)
 |aD (m sz:Nat) (x i:Sc)
 |CW (ag:Bool) (m sz:Nat) (x i:Sc)
 |RC (x i:Sc)
 |gN (ty sz:Nat) (x:Sc) (lo hi mx:Option Sc)
 |rm (m sz:Nat) (x:Sc) (lo hi mx:Option Sc)
 |RD (x:Sc) (lo hi:Option Sc)
 |ext (x:Sc) (i:Nat)
 |call (g:Nat) (as:List Sc)
 |fG (f:Sc) (as:List Sc)
 |lW (f:Sc) (as:List Sc)
 |lX (f:Sc) (as:List Sc)
 |dT (g:Nat) (as:List Sc)
 |My (n:Nat)
 |oe (x:Sc)
 |MA (x:Sc)
 |mm (mx:Bool) (as:List Sc)
 |app (ty sz:Nat) (s x:Sc)
 |IW (ty:Nat) (s x:Sc)
 |FH (ty sz:Nat) (z:List AV) (s x:Sc)
 |Xg (ty sz:Nat) (z:List AV) (l c:Sc)
 |copy (sz:Nat) (x y:Sc)
 |MB (k:Nat) (ka va:Bool) (sz:Nat)
 |Xh (ls:List LK) (ag va:Bool) (z:AV) (ok:Bool) (x key:Sc)
 |Ip (ls:List LK) (ag va:Bool) (x key v:Sc)
 |YT (ls:List LK) (ag va:Bool) (z:AV) (x key:Sc)
 |YU (va:Bool) (x st v:Sc)
 |MD (ls:List LK) (ag:Bool) (x key:Sc)
 |enc (ls:List LK) (ag:Bool) (x key:Sc)
 |RE (ls:List LK) (ag:Bool) (x key:Sc)
 |RF (x:Sc)
 |Xi (x:Sc)
 |Mi (x:Sc)
 |oS (m sz:Nat) (x:Sc) (lo hi:Option Sc)
 |FI (x:Sc)
 |AD (sz:Nat) (x h:Sc)
 |Lk (x:Sc)
structure bT where
 d:Option Nat
 g:Option (Nat × Bool)
 o:vp
inductive cD where
 |bad
 |skip
 |ret
 |exit (id:Nat)
 |ops (l:List bT)
 |draw (ms:List Nat) (us:List (List Nat)) (l:List bT)
 |Ll (ms:List Nat) (us:List (List Nat)) (l l2:List bT)
 |seq (a b:cD)
 |cond (c:Sc) (a b:cD)
 |block (id:Nat) (c:cD)
 |loop (c:cD)
 |pX (ls:List Nat) (c:cD)
 |scope (c:cD)
 |sO (f:Sc) (ps:List Nat) (IX body:cD)
inductive wR where
 |t (n:Nat)
 |cell (a:Nat) (ag:Bool) (n:Nat)
structure bx where
 np:Nat
 rs:List wR
 body:cD
inductive bF where
 |var (ty:Nat) (row:List AV)
 |arr (ty sz:Nat) (es:List (List AV))
 |map (k:Nat) (ka va:Bool) (dn:Dn) (sz:Nat) (es:List (List AV))
def bF.aR:bF->be
 | .var ty row=>⟨ty,row.length,[row],none⟩
 | .arr ty sz es=>⟨ty,sz,es,none⟩
 | .map k ka va dn sz es=>⟨0,sz,es,some (k,ka,va,dn)⟩
abbrev ah:=List (Nat × bF)
def aq:ah->Mem
 |[]=>[]
 |(n,b)::r=>(n,b.aR)::aq r
structure rn(b:Bool)(X Y:Prop):Prop where
 t:b=true->X
 f:b=false->Y
structure IY(k:IntKind)(n:Int)(K:Int->Prop):Prop where
 h:K (wr k n)
structure IZ(es:List (List AV))(i:Nat)(K:List AV->Prop):Prop where
 h:K (es.getD i [])
structure Xj(i:Int)(m:Nat)(K:Nat->Prop):Prop where
 h:(0<=i/\i< (m:Int))/\K i.toNat
theorem rn.sound{b:Bool}{X Y:Prop}(h:rn b X Y):(b=true/\X)\/(b=false/\Y):=by
 cases b
 ·exact .inr ⟨rfl,h.f rfl⟩
 ·exact .inl ⟨rfl,h.t rfl⟩
abbrev KS:=aT->ah->Nat->Prop
def nN:aT->Nat->(AV->Prop)->Prop
 |[],_,K=>K .bad
 |(j,v)::r,i,K=>bif Nat.beq i j then K v else nN r i K
theorem bR(a b:Nat):Nat.beq a b=(a==b):=by
 by_cases h:a=b
 ·subst h; simp
 ·have:(a==b)=false:=by simpa using h
  rw[this]; exact Bool.eq_false_iff.2 (fun e=>h (Nat.eq_of_beq_eq_true e))
theorem ic:∀(F:aT)(i:Nat)(K:AV->Prop),nN F i K=K (look F i)
 |[],_,_=>rfl
 |(j,v)::r,i,K=>by
  simp only[nN,look,bR]
  cases i==j
  ·exact ic r i K
  ·rfl
def Env.cl(R:Env)(g:Nat)(cs:List AV):AV:= .bK (.fn (R.ft g)) cs
def dx(R:Env)(F:aT):Sc->(AV->Prop)->Prop
 | .t n,K=>nN F n K
 | .k v,K=>K v
 | .f g,K=>K (R.cl g [])
def lY(R:Env)(F:aT):Sc->AV
 | .t n=>look F n
 | .k v=>v
 | .f g=>R.cl g []
theorem aH(R:Env)(F:aT)(x:Sc)(K:AV->Prop):dx R F x K=K (lY R F x):=by
 cases x
 ·exact ic _ _ _
 ·rfl
 ·rfl
def sP(R:Env)(F:aT):List Sc->(List AV->Prop)->Prop
 |[],K=>K []
 |x::r,K=>dx R F x fun v=>sP R F r fun l=>K (v::l)
theorem gp(R:Env)(F:aT):∀(l:List Sc)(K:List AV->Prop),sP R F l K=K (l.map (lY R F))
 |[],_=>rfl
 |x::r,K=>by simp only[sP,aH,gp R F r,List.map_cons]
def wS(R:Env)(F:aT):Option Sc->(Option AV->Prop)->Prop
 |none,K=>K none
 |some x,K=>dx R F x fun v=>K (some v)
theorem wT(R:Env)(F:aT)(x:Option Sc)(K:Option AV->Prop):wS R F x K=K (x.map (lY R F)):=by
 cases x
 ·rfl
 ·simp only[wS,aH,Option.map_some]
def aI(d:Option Nat)(v:AV)(F:aT)(M:ah)(nx:Nat)(K:KS):Prop:=
 match d with
 |none=>K F M nx
 |some i=>K ((i,v)::F) M nx
def B1(F:aT):List Nat->(aT->Prop)->Prop
 |[],K=>K []
 |i::r,K=>nN F i fun v=>B1 F r fun F'=>K ((i,v)::F')
theorem sQ{F:aT}:∀{l:List Nat}{K:aT->Prop},B1 F l K->∃F',(∀i,look F' i=look F i\/ look F' i= .bad)/\K F'
 |[],K,h=>⟨[],fun _=> .inr rfl,h⟩
 |i::r,K,h=>by
  simp only[B1,ic]at h
  obtain⟨F',h1,h2⟩:=sQ (l:=r) (K:=fun F'=>K ((i,look F i)::F')) h
  refine⟨(i,look F i)::F',fun j=> ?_,h2⟩
  by_cases e:j=i
  ·subst e; left; simp[look]
  ·have:(j==i)=false:=by simpa using e
   simp only[look,this,cond_false]
   exact h1 j
def cE:ah->Nat->(bF->Prop)->Prop
 |[],_,_=>False
 |(m,b)::r,n,K=>bif Nat.beq n m then K b else cE r n K
theorem aO:∀{M:ah}{n:Nat}{K:bF->Prop},cE M n K->∃b,aa (aq M) n=some b.aR/\K b
 |[],_,_,h=>h.elim
 |(m,b)::r,n,K,h=>by
  simp only[cE,bR]at h
  simp only[aq,aa]
  cases hb:n==m with
  |true=>rw[hb]at h; exact⟨b,rfl,h⟩
  |false=>rw[hb]at h; exact aO (M:=r) h
def ig:ah->Nat->bF->(ah->Prop)->Prop
 |[],n,b,K=>K [(n,b)]
 |(m,c)::r,n,b,K=>bif Nat.beq n m then K ((m,b)::r)else ig r n b fun r'=>K ((m,c)::r')
theorem bS:∀{M:ah}{n:Nat}{b:bF}{K:ah->Prop},ig M n b K->∃M',aq M'=gA (aq M) n b.aR/\K M'
 |[],n,b,K,h=>⟨_,rfl,h⟩
 |(m,c)::r,n,b,K,h=>by
  simp only[ig,bR]at h
  simp only[aq,gA]
  cases hb:n==m with
  |true=>rw[hb]at h; exact⟨_,rfl,h⟩
  |false=>
   rw[hb]at h
   obtain⟨M',h1,h2⟩:=bS (M:=r) (K:=fun r'=>K ((m,c)::r')) h
   exact⟨_,by simp only[aq,h1]; rfl,h2⟩
theorem rS(M:ah)(n:Nat)(b:bF):aa (aq ((n,b)::M))=aa (gA (aq M) n b.aR):=by
 funext m
 rw[mN]
 simp only[aq,aa]
 by_cases h:m=n
 ·subst h; simp
 ·have:(m==n)=false:=by simpa using h
  simp[this,h]
def yc:ah->Nat->(ah->Prop)->Prop
 |[],_,K=>K []
 |(m,c)::r,n,K=>bif Nat.beq n m then yc r n K else yc r n fun r'=>K ((m,c)::r')
theorem og:∀{M:ah}{n:Nat}{K:ah->Prop},yc M n K->∃M',(∀m,aa (aq M') m=if m=n then none else aa (aq M) m)/\K M'
 |[],n,K,h=>⟨[],fun m=>by simp[aq,aa],h⟩
 |(i,c)::r,n,K,h=>by
  simp only[yc,bR]at h
  cases hb:n==i with
  |true=>
   rw[hb]at h
   obtain⟨M',h1,h2⟩:=og (M:=r) h
   obtain rfl:n=i:=by simpa using hb
   refine⟨M',fun m=> ?_,h2⟩
   rw[h1 m]
   by_cases e:m=n
   ·simp[e]
   ·have:(m==n)=false:=by simpa using e
    simp[aq,aa,this]
  |false=>
   rw[hb]at h
   obtain⟨M',h1,h2⟩:=og (M:=r) (K:=fun r'=>K ((i,c)::r')) h
   refine⟨_,fun m=> ?_,h2⟩
   simp only[aq,aa]
   by_cases e:m=i
   ·subst e
    have hne:¬m=n:=fun e2=>by subst e2; simp at hb
    simp[hne]
   ·have:(m==i)=false:=by simpa using e
    simp only[this,cond_false]
    exact h1 m
def oT:Nat->List AV->(List AV->Prop)->Prop
 |0,_,K=>K []
 |n+1,c::r,K=>oT n r fun l=>K (c::l)
 |_+1,[],_=>False
theorem kN:∀{n:Nat}{cs:List AV}{K:List AV->Prop},oT n cs K->(cs.take n).length=n/\K (cs.take n)
 |0,_,_,h=>⟨rfl,h⟩
 |n+1,c::r,K,h=>by
  obtain⟨h1,h2⟩:=kN (K:=fun l=>K (c::l)) h
  exact⟨by simp only[List.take_succ_cons,List.length_cons,h1],by simpa using h2⟩
 |_+1,[],_,h=>h.elim
def Lm(n:Nat)(cs:List AV)(K:AV->Prop):Prop:=
 match n,cs with
 |1,c::_=>K c
 |_,_=>False
def FJ(ag:Bool)(n:Nat)(cs:List AV)(K:AV->Prop):Prop:=
 match ag with
 |true=>oT n cs fun l=>K (.agg l)
 |false=>Lm n cs K
def nO(ag:Bool)(n:Nat):Nat->List AV->(AV->Prop)->Prop
 |0,cs,K=>FJ ag n cs K
 |off+1,_::r,K=>nO ag n off r K
 |_+1,[],_=>False
theorem je{ag:Bool}{n:Nat}:∀{off:Nat}{cs:List AV}{K:AV->Prop},nO ag n off cs K->apart ag n off cs K
 |0,cs,K,h=>by
  simp only[nO,FJ]at h
  simp only[apart,List.drop_zero]
  cases ag with
  |true=>
   simp only at h
   obtain⟨h1,h2⟩:=kN h
   exact aE (by simp only[h1,beq_self_eq_true]) h2
  |false=>
   simp only[Lm]at h
   split at h
   ·exact aE rfl (aE rfl h)
   ·exact False.elim h
 |off+1,c::r,K,h=>by
  have:=je (off:=off) (cs:=r) h
  simpa[apart]using this
 |_+1,[],_,h=>h.elim
def vq:List AV->List AV->(List AV->Prop)->Prop
 |[],cs,K=>K cs
 |v::r,_::cs,K=>vq r cs fun l=>K (v::l)
 |_::_,[],_=>False
def iI:Nat->List AV->List AV->(List AV->Prop)->Prop
 |0,vs,cs,K=>vq vs cs K
 |off+1,vs,c::cs,K=>iI off vs cs fun l=>K (c::l)
 |_+1,_,[],_=>False
theorem sR:∀{vs cs:List AV}{K:List AV->Prop},vq vs cs K->vs.length<=cs.length/\K (vs++cs.drop vs.length)
 |[],cs,K,h=>⟨Nat.zero_le _,by simpa[vq]using h⟩
 |v::r,c::cs,K,h=>by
  obtain⟨h1,h2⟩:=sR (vs:=r) (cs:=cs) (K:=fun l=>K (v::l)) h
  exact⟨by simpa using h1,by simpa using h2⟩
 |_::_,[],_,h=>h.elim
theorem fm:∀{off:Nat}{vs cs:List AV}{K:List AV->Prop},iI off vs cs K->off+vs.length<=cs.length/\K (bG off vs cs)
 |0,vs,cs,K,h=>by
  obtain⟨h1,h2⟩:=sR h
  exact⟨by omega,by simpa[bG]using h2⟩
 |off+1,vs,c::cs,K,h=>by
  obtain⟨h1,h2⟩:=fm (off:=off) (vs:=vs) (cs:=cs) (K:=fun l=>K (c::l)) h
  refine⟨by simp only[List.length_cons]; omega,?_⟩
  have e:bG (off+1) vs (c::cs)=c::bG off vs cs:=by
   simp only[bG,List.take_succ_cons,List.cons_append]
   congr 3
   rw[show off+1+vs.length=(off+vs.length)+1 by omega,List.drop_succ_cons]
  rw[e]; exact h2
 |_+1,_,[],_,h=>h.elim
def kO(v:AV)(K:List AV->Prop):Prop:=
 match v with
 | .agg cs=>K cs
 | .bad=>False
 | .aF _=>False
 | .int k n=>K [.int k n]
 | .bool b=>K [.bool b]
 | .str s=>K [.str s]
 | .aw=>K [.aw]
 | .ab=>K [.ab]
 | .af=>K [.af]
 | .di=>K [.di]
 | .bP=>K [.bP]
 | .oB _ _=>False
 | .loc n len i off=>K [.loc n len i off]
 | .bh n len=>K [.bh n len]
 | .dm n len i off cnt=>K [.dm n len i off cnt]
 | .omap n=>K [.omap n]
 | .aG sz es=>K [.aG sz es]
 | .bc e off=>K [.bc e off]
 | .bK f cs=>K [.bK f cs]
theorem cU{v:AV}{K:List AV->Prop}(h:kO v K):bH v=true/\K (cells v):=by
 cases v<;>first|exact⟨rfl,h⟩|exact h.elim
def sS(vs:List AV)(n:Nat)(K:Prop):Prop:=bif Nat.beq vs.length n then K else False
theorem jf{vs:List AV}{n:Nat}{K:Prop}(h:sS vs n K):vs.length=n/\K:=by
 unfold sS at h
 cases hb:Nat.beq vs.length n with
 |true=>rw[hb]at h; exact⟨Nat.eq_of_beq_eq_true hb,h⟩
 |false=>rw[hb]at h; exact h.elim
def CX(R:Env)(F:aT):List (Nat × Nat × Sc)->List AV->(List AV->Prop)->Prop
 |[],cs,K=>K cs
 |(off,n,x)::r,cs,K=>dx R F x fun v=>kO v fun vs=>sS vs n (iI off vs cs fun cs'=>CX R F r cs' K)
def ME:Nat->List AV->List (List AV)->(List (List AV)->Prop)->Prop
 |0,v,_::r,K=>K (v::r)
 |n+1,v,e::r,K=>ME n v r fun l=>K (e::l)
 |_,_,[],_=>False
theorem vr:∀{i:Nat}{v:List AV}{es:List (List AV)}{K:List (List AV)->Prop},ME i v es K->i<es.length/\K (es.set i v)
 |0,v,e::r,K,h=>⟨by simp,h⟩
 |n+1,v,e::r,K,h=>by
  obtain⟨h1,h2⟩:=vr (K:=fun l=>K (e::l)) h
  exact⟨by simpa using h1,by simpa using h2⟩
 |0,_,[],_,h=>h.elim
 |_+1,_,[],_,h=>h.elim
def MF(z:List AV):Nat->(List (List AV)->Prop)->Prop
 |0,K=>K []
 |n+1,K=>MF z n fun l=>K (z::l)
theorem vt{z:List AV}:∀{n:Nat}{K:List (List AV)->Prop},MF z n K->K (List.replicate n z)
 |0,_,h=>h
 |n+1,K,h=>by
  have:=vt (K:=fun l=>K (z::l)) h
  simpa[List.replicate_succ]using this
def vu:Nat->List AV->(List AV->Prop)->Prop
 |0,r,K=>K r
 |n+1,_::r,K=>vu n r K
 |_+1,[],_=>False
def MG:Nat->List AV->(List AV->List AV->Prop)->Prop
 |0,r,K=>K [] r
 |n+1,c::r,K=>MG n r fun l r'=>K (c::l) r'
 |_+1,[],_=>False
def yd(sz:Nat):Nat->List AV->(List (List AV)->Prop)->Prop
 |0,_,K=>K []
 |n+1,r,K=>MG sz r fun l r'=>yd sz n r' fun es=>K (l::es)
theorem kP:∀{n:Nat}{r:List AV}{K:List AV->Prop},vu n r K->n<=r.length/\K (r.drop n)
 |0,_,_,h=>⟨Nat.zero_le _,h⟩
 |n+1,c::r,K,h=>by
  obtain⟨h1,h2⟩:=kP (n:=n) (r:=r) h
  exact⟨by simpa using h1,by simpa using h2⟩
 |_+1,[],_,h=>h.elim
theorem vw:∀{n:Nat}{r:List AV}{K:List AV->List AV->Prop},MG n r K->n<=r.length/\K (r.take n) (r.drop n)
 |0,_,_,h=>⟨Nat.zero_le _,h⟩
 |n+1,c::r,K,h=>by
  obtain⟨h1,h2⟩:=vw (n:=n) (r:=r) (K:=fun l r'=>K (c::l) r') h
  exact⟨by simpa using h1,by simpa using h2⟩
 |_+1,[],_,h=>h.elim
theorem oh{sz:Nat}:∀{n:Nat}{r:List AV}{K:List (List AV)->Prop},yd sz n r K->n*sz<=r.length/\K (pK sz n r)
 |0,_,_,h=>⟨by simp,h⟩
 |n+1,r,K,h=>by
  obtain⟨h1,h2⟩:=vw h
  obtain⟨h3,h4⟩:=oh (n:=n) (r:=r.drop sz) (K:=fun es=>K (r.take sz::es)) h2
  refine⟨?_,h4⟩
  rw[List.length_drop]at h3
  rw[Nat.add_mul,Nat.one_mul]; omega
def B2(R:Env)(F:aT)(sz:Nat):List (Nat × Sc)->List (List AV)->(List (List AV)->Prop)->Prop
 |[],es,K=>K es
 |(i,x)::r,es,K=>dx R F x fun v=>kO v fun vs=>sS vs sz (ME i vs es fun es'=>B2 R F sz r es' K)
end Go.AM
namespace Go.AM
open Go.RowKit
variable {X:bL}
theorem gO{cs:List AV}{j n:Nat}(hj:j<cs.length)(hn:n ∈ (cs.getD j .bad).names):n ∈ AV.ar cs:=by
 induction cs generalizing j with
 |nil=>simp at hj
 |cons c cs ih=>
  simp only[AV.ar,List.mem_append]
  cases j with
  |zero=>left; simpa using hn
  |succ j=>right; exact ih (j:=j) (by simpa using hj) (by simpa using hn)
inductive Fz(D:Nat->Prop)(M:Mem):AV->AV->Prop
 |same (v:AV) (h:v.names=[]):Fz D M v v
 |ab (sz:Nat):Fz D M .ab (.aG sz [])
 |bh (n:Nat) (b:be) (es:List (List AV)) (hD:D n) (hb:aa M n=some b) (hmp:b.mp=none) (hl:es.length=b.es.length) (hs:∀i,i<es.length->(es.getD i []).length=(b.es.getD i []).length)
   (h:∀i j,i<es.length->j<b.sz->Fz D M ((b.es.getD i []).getD j .bad) ((es.getD i []).getD j .bad)):Fz D M (.bh n b.es.length) (.aG b.sz es)
 |loc (n i off:Nat) (b:be) (row:List AV) (hD:D n) (hb:aa M n=some b) (hmp:b.mp=none) (hi:i<b.es.length) (hl:row.length=(b.es.getD i []).length)
   (h:∀j,j<b.sz->Fz D M ((b.es.getD i []).getD j .bad) (row.getD j .bad)):Fz D M (.loc n b.es.length i off) (.bc row off)
 |dm (n i off cnt sz:Nat) (b:be) (es:List (List AV)) (hD:D n) (hb:aa M n=some b) (hmp:b.mp=none) (hi:i<b.es.length) (hs:AV.ar (b.es.getD i [])=[]) (hl:es.length=cnt) (he:∀e ∈ es,e.length=sz)
   (hc:∀a j,a<cnt->j<sz->off+a*sz+j<b.sz/\(es.getD a []).getD j .bad=(b.es.getD i []).getD (off+a*sz+j) .bad):Fz D M (.dm n b.es.length i off cnt) (.aG sz es)
 |bK (f:EW) (cs ds:List AV) (hl:ds.length=cs.length) (h:∀j,j<cs.length->Fz D M (cs.getD j .bad) (ds.getD j .bad)):Fz D M (.bK f cs) (.bK f ds)
 |agg (cs ds:List AV) (hl:ds.length=cs.length) (h:∀j,j<cs.length->Fz D M (cs.getD j .bad) (ds.getD j .bad)):Fz D M (.agg cs) (.agg ds)
 |aF (cs ds:List AV) (hl:ds.length=cs.length) (h:∀j,j<cs.length->Fz D M (cs.getD j .bad) (ds.getD j .bad)):Fz D M (.aF cs) (.aF ds)
theorem hG:∀{cs:List AV},(∀j,j<cs.length->(cs.getD j .bad).names=[])->AV.ar cs=[]
 |[],_=>rfl
 |c::r,h=>by
  simp only[AV.ar,List.append_eq_nil_iff]
  exact⟨by simpa using h 0 (by simp),hG (fun j hj=>by simpa using h (j+1) (by simpa using hj))⟩
theorem Fz.names{D:Nat->Prop}{M:Mem}{v a:AV}(h:Fz D M v a):a.names=[]:=by
 induction h with
 |same v h=>exact h
 |ab=>rfl
 |bh=>rfl
 |loc=>rfl
 |dm=>rfl
 |bK f cs ds hl h ih=>simp only[AV.names]; exact hG (fun j hj=>ih j (by omega))
 |agg cs ds hl h ih=>simp only[AV.names]; exact hG (fun j hj=>ih j (by omega))
 |aF cs ds hl h ih=>simp only[AV.names]; exact hG (fun j hj=>ih j (by omega))
theorem qK:∀{l:List AV},AV.ar l=[]->∀j,(l.getD j .bad).names=[]
 |[],_,j=>by simp[AV.names]
 |a::l,h,j=>by
  simp only[AV.ar,List.append_eq_nil_iff]at h
  cases j with
  |zero=>simpa using h.1
  |succ j=>simpa using qK (l:=l) h.2 j
theorem Fz.sound{D:Nat->Prop}{M:Mem}{ρ:Place}{I:Nat->Prop}{w:World}{N:Nat->Prop}(hW:bY X ρ I (aa M) N w){v a:AV}(h:Fz D M v a):∀{u:Value},aL ρ (lens (aa M)) I w N v u->
  aL de gL (fun g=>I g\/∃n cap b,D n/\aa M n=some b/\ρ n=some (g,cap)) w cH a u:=by
 have E:mM N ρ (lens (aa M)) I w ρ (lens (aa M)) (fun g=>I g\/∃n cap b,D n/\aa M n=some b/\ρ n=some (g,cap)) w:=⟨fun _ _ _ _ _ _=>rfl,fun _ len _ _ h=>⟨len,h,Nat.le_refl _⟩,fun b hb=> .inl hb,fun _ _=>rfl⟩
 induction h with
 |same v h=>exact fun hr=>(hr.rJ E (fun _ h=>h)).alone h _ _
 |ab sz=>
  intro u hr
  cases hr
  exact .cI _ _ _ (by simp[maxLen])
 |bh n b es hD hb hmp hl hs h ih=>
  intro u hr
  have dr:lens (aa M) n=some (b.es.length,b.sz):=by rw[az]; exact⟨b,hb,be.bW hmp,rfl⟩
  have B:=hW.aR n b hb
  obtain⟨hn,⟨h0,q,hv⟩|⟨g,cap,hρ,hv⟩⟩:=gX hr dr
  ·have he:=B.dW h0
   rw[he]at hl
   have he':es=[]:=List.eq_nil_of_length_eq_zero (by simpa using hl)
   rw[hv,he']
   exact .cI _ _ _ (by simp[maxLen])
  ·obtain⟨cs,fr,hg,nG,nT,hown,hlc,lI,hcs,iH⟩:=B.real g cap hρ
   have hg:=hg.cells hmp
   rw[hv,<-hl]
   refine .aG b.sz es g 0 cap (fun i j=>(cs[i*b.sz+j]?).getD undef) (by omega) lI (.inr ⟨n,cap,b,hD,hb,hρ⟩) (fun e he=> ?_) (fun i j hi hj=> ?_) (fun i j hi hj=> ?_) (fun i j hi hj=> ?_)
   ·obtain⟨i,hi,rfl⟩:=List.getElem_of_mem he
    have h1:=hs i hi
    have h2:es.getD i []=es[i]:=by simp[List.getD_eq_getElem?_getD,hi]
    have h3:b.es.getD i []=b.es[i]'(by omega):=by simp[List.getD_eq_getElem?_getD,show i<b.es.length by omega]
    rw[<-h2,h1,h3]
    exact B.even _ (List.getElem_mem _)
   ·obtain⟨u,hu,h1,_⟩:=iH i j (by omega) hj
    rw[hu]; exact h1
   ·obtain⟨u,hu,h1,_⟩:=iH i j (by omega) hj
    simp only[World.cell?,hg,Nat.zero_add,hu]; rfl
   ·obtain⟨u,hu,h1,hr⟩:=iH i j (by omega) hj
    rw[hu]
    exact ih i j hi hj hr
 |loc n i off b row hD hb hmp hi hl h ih=>
  intro u hr
  have dr:lens (aa M) n=some (b.es.length,b.sz):=by rw[az]; exact⟨b,hb,be.bW hmp,rfl⟩
  have B:=hW.aR n b hb
  obtain⟨hn,g,cap,hρ,hv⟩:=fI hr dr
  obtain⟨cs,fr,hg,nG,nT,hown,hlc,lI,hcs,iH⟩:=B.real g cap hρ
  have hg:=hg.cells hmp
  have hrow:(b.es.getD i []).length=b.sz:=by
   have h3:b.es.getD i []=b.es[i]:=by simp[List.getD_eq_getElem?_getD,hi]
   rw[h3]; exact B.even _ (List.getElem_mem _)
  rw[hv]
  refine .bc row off g (i*b.sz) (fun j=>(cs[i*b.sz+j]?).getD undef) (.inr ⟨n,cap,b,hD,hb,hρ⟩) (fun j hj=> ?_) (fun j hj=> ?_) (fun j hj=> ?_)
  ·obtain⟨u,hu,h1,_⟩:=iH i j hi (by omega)
   rw[hu]; exact h1
  ·obtain⟨u,hu,h1,_⟩:=iH i j hi (by omega)
   simp only[World.cell?,hg,hu]; rfl
  ·obtain⟨u,hu,h1,hr⟩:=iH i j hi (by omega)
   rw[hu]
   exact ih j (by omega) hr
 |dm n i off cnt sz b es hD hb hmp hi hs hl he hc=>
  intro u hr
  have dr:lens (aa M) n=some (b.es.length,b.sz):=by rw[az]; exact⟨b,hb,be.bW hmp,rfl⟩
  have B:=hW.aR n b hb
  obtain⟨hn,g,cap,c,oi,hv,MH,MI⟩:=jy hr dr
  obtain⟨cs,fr,hg,nG,nT,hown,hlc,lI,hcs,iH⟩:=B.real g cap oi
  have hg:=hg.cells hmp
  rw[hv]
  subst hl
  have pos:∀a j,i*b.sz+off+a*sz+j=i*b.sz+ (off+a*sz+j):=fun a j=>by omega
  refine .aG sz es g (i*b.sz+off) c (fun a j=>(cs[i*b.sz+ (off+a*sz+j)]?).getD undef) MH MI (.inr ⟨n,cap,b,hD,hb,oi⟩) he (fun a j ha hj=> ?_) (fun a j ha hj=> ?_) (fun a j ha hj=> ?_)
  ·obtain⟨u,hu,h1,_⟩:=iH i (off+a*sz+j) hi (hc a j ha hj).1
   rw[hu]; exact h1
  ·obtain⟨u,hu,h1,_⟩:=iH i (off+a*sz+j) hi (hc a j ha hj).1
   simp only[World.cell?,hg,pos,hu]; rfl
  ·obtain⟨u,hu,h1,hr⟩:=iH i (off+a*sz+j) hi (hc a j ha hj).1
   rw[hu,(hc a j ha hj).2]
   have hnm:((b.es.getD i []).getD (off+a*sz+j) .bad).names=[]:=qK hs _
   exact (hr.rJ E (fun _ h=>h)).alone hnm _ _
 |bK f cs ds hl h ih=>
  intro u hr
  cases hr with
  |bK f _ vs hvl hr=>exact .bK f ds vs (by omega) (fun j hj=>ih j (by omega) (hr j (by omega)))
  |qm f _ vs hvl hr=>exact .qm f ds vs (by omega) (fun j hj=>ih j (by omega) (hr j (by omega)))
 |agg cs ds hl h ih=>
  intro u hr
  cases hr with
  |agg _ vs hvl h1 hr=>exact .agg ds vs (by omega) h1 (fun j hj=>ih j (by omega) (hr j (by omega)))
 |aF cs ds hl h ih=>
  intro u hr
  cases hr with
  |aF _ vs hvl hr=>exact .aF ds vs (by omega) (fun j hj=>ih j (by omega) (hr j (by omega)))
structure uL(row:List AV)(off cnt sz:Nat)(es:List (List AV)):Prop where
 eq:es=(List.range cnt).map fun a=>(row.drop (off+a*sz)).take sz
 fit:Nat.ble (off+cnt*sz) row.length=true
 nm:AV.ar row=[]
theorem uL.cells{row:List AV}{off cnt sz:Nat}{es:List (List AV)}(h:uL row off cnt sz es):es.length=cnt/\(∀e ∈ es,e.length=sz)/\
  ∀a j,a<cnt->j<sz->off+a*sz+j<row.length/\(es.getD a []).getD j .bad=row.getD (off+a*sz+j) .bad:=by
 obtain⟨h1,h2,h3⟩:=h
 subst h1
 have h2:=Nat.le_of_ble_eq_true h2
 have key:∀a,a<cnt->a*sz+sz<=cnt*sz:=fun a ha=>by
  have:=Nat.mul_le_mul_right sz (show a+1<=cnt by omega)
  rw[Nat.succ_mul]at this; exact this
 refine⟨by simp,fun e he=> ?_,fun a j ha hj=> ?_⟩
 ·obtain⟨a,ha,rfl⟩:=List.mem_map.1 he
  have:=key a (List.mem_range.1 ha)
  simp; omega
 ·have:=key a ha
  refine⟨by omega,?_⟩
  simp only[List.getD_eq_getElem?_getD,List.getElem?_map,List.getElem?_range ha,Option.map_some,Option.getD_some]
  rw[List.getElem?_take_of_lt hj,List.getElem?_drop]
end Go.AM
namespace Go.AM
open Go.RowKit
variable {R:Env} {X:bL}
inductive Mt(D:Nat->Prop)(M M':Mem)(nx:Nat):AV->AV->Prop
 |same (v:AV):Mt D M M' nx v v
 |drop (v:AV):Mt D M M' nx v .bad
 |fz (v a:AV) (h:Fz D M v a):Mt D M M' nx v a
 |dW (n:Nat) (b:be) (hb:aa M' n=some b) (he:b.es=[]) (hn:nx<=n):Mt D M M' nx .ab (.bh n 0)
 |bK (f:EW) (cs ds:List AV) (hl:ds.length=cs.length) (h:∀j,j<cs.length->Mt D M M' nx (cs.getD j .bad) (ds.getD j .bad)):Mt D M M' nx (.bK f cs) (.bK f ds)
 |agg (cs ds:List AV) (hl:ds.length=cs.length) (h:∀j,j<cs.length->Mt D M M' nx (cs.getD j .bad) (ds.getD j .bad)):Mt D M M' nx (.agg cs) (.agg ds)
 |aF (cs ds:List AV) (hl:ds.length=cs.length) (h:∀j,j<cs.length->Mt D M M' nx (cs.getD j .bad) (ds.getD j .bad)):Mt D M M' nx (.aF cs) (.aF ds)
def aS(d d':Dn):Prop:=d'=d\/ d'= .b false
@[refl] theorem aS.refl(d:Dn):aS d d:= .inl rfl
theorem aS.fg{d:Dn}:aS d (.b false):= .inr rfl
def Ln(d d':Dn):Prop:=match d' with
 | .b x=>aS d (.b x)
 | .it _ _ _=>False
def AE(r:Dn->Dn->Prop)(m m':Option (Nat × Bool × Bool × Dn)):Prop:=match m,m' with
 |none,none=>True
 |some (k,ka,va,d),some (k',Il,Im,d')=>k=k'/\ka=Il/\va=Im/\r d d'
 |_,_=>False
theorem AE.refl(m:Option (Nat × Bool × Bool × Dn)):AE aS m m:=by
 rcases m with _|⟨k,ka,va,d⟩
 ·trivial
 ·exact⟨rfl,rfl,rfl,.inl rfl⟩
theorem AE.ln{r:Dn->Dn->Prop}{b b':be}(h:AE r b.mp b'.mp)(hl:b.es.length=b'.es.length):b.ln=b'.ln:=by
 unfold be.ln
 generalize b.mp=m at h ⊢
 generalize b'.mp=m' at h ⊢
 cases m<;>cases m'<;>first|exact h.elim|exact hl|rfl
theorem aS.all{d d':Dn}(h:aS d d')(ha:d'.all=true):d.all=true:=by
 rcases h with rfl|rfl
 ·exact ha
 ·exact Bool.noConfusion ha
theorem Ln.le{d d':Dn}(h:Ln d d'):aS d d':=by cases d'<;>first|exact h|exact False.elim h
theorem Ln.all{d d':Dn}(h:Ln d d')(ha:d'.all=true):d.all=true:=h.le.all ha
theorem Ln.no{d:Dn}{r:Nat}{sn:List Bool}{la:Option Nat}(h:Ln d (.it r sn la)):False:=h
theorem aS.it{d:Dn}{r:Nat}{sn:List Bool}{la:Option Nat}(h:aS d (.it r sn la)):d= .it r sn la:=by
 rcases h with h|h
 ·exact h.symm
 ·cases h
theorem fC.le{r:Dn->Dn->Prop}(hr:∀d d',r d d'->d'.all=true->d.all=true){m m':Option (Nat × Bool × Bool × Dn)}{sz len ty:Nat}{o:Option Obj}{cs:Array Value}{fr:Nat × Nat}(h:fC m sz len o cs ty fr)(hm:AE r m m'):fC m' sz len o cs ty fr:=by
 rcases m with _|⟨k,ka,va,d⟩<;>rcases m' with _|⟨k',Il,Im,d'⟩
 ·exact h
 ·exact hm.elim
 ·exact hm.elim
 ·obtain⟨rfl,rfl,rfl,h4⟩:=hm
  obtain⟨en,ck,h1,h2,h3⟩:=h
  exact⟨en,ck,h1,h2,h3.key,h3.cell,h3.born,h3.clock,fun ha=>h3.den (hr _ _ h4 ha),h3.room⟩
structure Lo(D:Nat->Prop)(M M':Mem)(nx:Nat)(b b':be):Prop where
 ty:b.ty=b'.ty
 sz:b.sz=b'.sz
 mp:AE aS b.mp b'.mp
 len:b.es.length=b'.es.length
 row:∀i,i<b.es.length->(b.es.getD i []).length=(b'.es.getD i []).length
 cell:∀i j,i<b.es.length->j<b.sz->Mt D M M' nx ((b.es.getD i []).getD j .bad) ((b'.es.getD i []).getD j .bad)
theorem Lo.ln{D:Nat->Prop}{M M':Mem}{nx:Nat}{b b':be}(h:Lo D M M' nx b b'):b.ln=b'.ln:=h.mp.ln h.len
def YV(nx:Nat)(b:be):Prop:=∀e ∈ b.es,AV.fX (· <nx) e
structure Wk(X:bL)(S S':St):Prop where
 p:X.p<=S'.nx
 F:∀i,look S'.F i= .bad\/(Mt (fun n=>X.p<=n/\aa S'.M n=none) S.M S'.M S.nx (look S.F i) (look S'.F i)/\(S.nx<=S'.nx\/(look S'.F i).under (· <S'.nx)))
 M:∀n b',aa S'.M n=some b'->((∃b,aa S.M n=some b/\Lo (fun n=>X.p<=n/\aa S'.M n=none) S.M S'.M S.nx b b')/\(S.nx<=S'.nx\/(n<S'.nx/\YV S'.nx b')))\/(aa S.M n=none/\S.nx<=n/\n<S'.nx/\b'.es=[]/\b'.mp=none)
def lZ(S:St)(ρ:Place):Place:=fun n=>if S.nx<=n then none else ρ n
def RG(X:bL)(S S':St)(ρ:Place)(I:Nat->Prop):Nat->Prop:=fun g=>I g\/∃n cap b,(X.p<=n/\aa S'.M n=none)/\aa S.M n=some b/\ρ n=some (g,cap)
theorem rU{S S':St}(h:Wk X S S'){w:World}{ρ:Place}{I:Nat->Prop}(W:bY X ρ I (aa S.M) (· <S.nx) w):
  bY X (lZ S ρ) (RG X S S' ρ I) (aa S'.M) (· <S'.nx) w/\∀v a u,aL ρ (lens (aa S.M)) I w (· <S.nx) v u->Mt (fun n=>X.p<=n/\aa S'.M n=none) S.M S'.M S.nx v a->(S.nx<=S'.nx\/ a.under (· <S'.nx))->aL (lZ S ρ) (lens (aa S'.M)) (RG X S S' ρ I) w (· <S'.nx) a u:=by
 obtain⟨hp,hF,hM⟩:=h
 let D:Nat->Prop:=fun n=>X.p<=n/\aa S'.M n=none
 let ρ':Place:=lZ S ρ
 let I':Nat->Prop:=RG X S S' ρ I
 have hlt:∀n b,aa S.M n=some b->n<S.nx:=fun n b h=>(W.aR n b h).lt
 have RH:∀n len sz,n<S.nx->lens (aa S'.M) n=some (len,sz)->lens (aa S.M) n=some (len,sz):=by
  intro n len sz hn hl
  obtain⟨b',hb',rfl,rfl⟩:=az.1 hl
  rcases hM n b' hb' with⟨⟨b,hb,hB⟩,_⟩|⟨_,h2,_⟩
  ·exact az.2 ⟨b,hb,hB.ln,hB.sz⟩
  ·omega
 have E:mM (· <S.nx) ρ (lens (aa S.M)) I w ρ' (lens (aa S'.M)) I' w:=by
  refine⟨fun n _ _ hn _ _=> ?_,fun n len sz hn h=>⟨len,RH n len sz hn h,Nat.le_refl _⟩,fun b hb=> .inl hb,fun _ _=>rfl⟩
  have:¬S.nx<=n:=by have:n<S.nx:=hn; omega
  simp[ρ',lZ,this]
 have rM:∀v a,Mt D S.M S'.M S.nx v a->∀u,aL ρ (lens (aa S.M)) I w (· <S.nx) v u->aL ρ' (lens (aa S'.M)) I' w (fun _=>True) a u:=by
  intro v a hm
  induction hm with
  |same v=>exact fun u hr=>(hr.rJ E (fun _ h=>h)).wide (fun _ _=>trivial)
  |drop v=>exact fun u _=> .bad u
  |fz v a h=>exact fun u hr=>((h.sound W hr).bare (fun _ h=>h) _ _).wide (fun _ h=>h.elim)
  |dW n b hb he hn=>
   intro u hr
   cases hr
   refine .bh n 0 _ trivial rfl fun l sz hl=> ?_
   obtain⟨b',hb',rfl,rfl⟩:=az.1 hl
   rw[hb]at hb'
   cases hb'
   rw[be.EZ he]
   exact⟨Nat.le_refl _,fun _=> .inl ⟨by simp[ρ',lZ,hn],none,rfl⟩⟩
  |bK f cs ds hl h ih=>
   intro u hr
   cases hr with
   |bK f _ vs hvl hr=>exact .bK f ds vs (by omega) (fun j hj=>ih j (by omega) _ (hr j (by omega)))
   |qm f _ vs hvl hr=>exact .qm f ds vs (by omega) (fun j hj=>ih j (by omega) _ (hr j (by omega)))
  |agg cs ds hl h ih=>
   intro u hr
   cases hr with
   |agg _ vs hvl h1 hr=>exact .agg ds vs (by omega) h1 (fun j hj=>ih j (by omega) _ (hr j (by omega)))
  |aF cs ds hl h ih=>
   intro u hr
   cases hr with
   |aF _ vs hvl hr=>exact .aF ds vs (by omega) (fun j hj=>ih j (by omega) _ (hr j (by omega)))
 have bound:∀v a,Mt D S.M S'.M S.nx v a->(∀m ∈ v.names,m<S.nx)->S.nx<=S'.nx->∀m ∈ a.names,m<S'.nx:=by
  intro v a hm
  induction hm with
  |same v=>exact fun h hle m hm=>by have:=h m hm; omega
  |drop v=>intro _ _ m hm; simp[AV.names]at hm
  |fz v a h=>intro _ _ m hm; rw[h.names]at hm; simp at hm
  |dW n b hb he hn=>
   intro _ hle m hm
   simp[AV.names]at hm
   subst hm
   rcases hM m b hb with⟨⟨b0,hb0,_⟩,_⟩|⟨_,_,h,_⟩
   ·have:=hlt m b0 hb0; omega
   ·exact h
  |bK f cs ds hl h ih=>
   intro hv hle m hm
   simp only[AV.names]at hm
   obtain⟨j,hj,Fl⟩:=dv hm
   exact ih j (by omega) (fun m hm=>hv m (by simp only[AV.names]; exact gO (by omega) hm)) hle m Fl
  |agg cs ds hl h ih=>
   intro hv hle m hm
   simp only[AV.names]at hm
   obtain⟨j,hj,Fl⟩:=dv hm
   exact ih j (by omega) (fun m hm=>hv m (by simp only[AV.names]; exact gO (by omega) hm)) hle m Fl
  |aF cs ds hl h ih=>
   intro hv hle m hm
   simp only[AV.names]at hm
   obtain⟨j,hj,Fl⟩:=dv hm
   exact ih j (by omega) (fun m hm=>hv m (by simp only[AV.names]; exact gO (by omega) hm)) hle m Fl
 have low:∀v a u,aL ρ (lens (aa S.M)) I w (· <S.nx) v u->Mt D S.M S'.M S.nx v a->(S.nx<=S'.nx\/ a.under (· <S'.nx))->aL ρ' (lens (aa S'.M)) I' w (· <S'.nx) a u:=by
  intro v a u hr hm h
  refine (rM v a hm u hr).low ?_
  rcases h with h|h
  ·exact gl a (fun m hm'=>bound v a hm (fun m hm=>ke hr m hm) h m hm')
  ·exact h
 refine⟨⟨fun n b' hb'=> ?_,fun n m b b' g c c' hb hb' h1 h2=> ?_,fun g hg=> .inl (W.oz g hg),?_,?_,W.keeps,fun n hn=>by show n<S'.nx; omega,W.Cw,W.mO E⟩,low⟩
 ·rcases hM n b' hb' with⟨⟨b,hb,hB⟩,hu⟩|⟨h0,h1,hn,h2,hmn⟩
  ·have B:=W.aR n b hb
   have hnlt:=hlt n b hb
   have hn:n<S'.nx:=by rcases hu with h|h<;>omega
   have hu:S.nx<=S'.nx\/ YV S'.nx b':=hu.imp id (fun h=>h.2)
   have AF:lZ S ρ n=ρ n:=by simp only[lZ]; rw[if_neg (by omega)]
   refine⟨hn,fun e he=> ?_,fun h0=> ?_,fun g cap hρ=> ?_,fun k ka va r sn la hb'=> ?_⟩
   rotate_right
   ·have hmp:=hB.mp
    rw[hb']at hmp
    obtain⟨k0,QD,QE,d0,YW⟩:∃k0 QD QE d0,b.mp=some (k0,QD,QE,d0):=by
     cases hm:b.mp with
     |none=>rw[hm]at hmp; exact hmp.elim
     |some q=>exact⟨_,_,_,_,rfl⟩
    rw[YW]at hmp
    obtain⟨_,_,_,h4⟩:=hmp
    rw[h4.it]at YW
    obtain⟨g,cap,hρ,i1,i2,i3⟩:=B.iter _ _ _ _ _ _ YW
    refine⟨g,cap,by rw[AF]; exact hρ,i1,?_,i3⟩
    rintro (h|⟨m,c',bm,⟨_,YX⟩,YY,MJ⟩)
    ·exact i2 h
    ·obtain⟨_,_,_,_,_,k2,_⟩:=i3
     obtain⟨_,_,hc1,_⟩:=(W.aR m bm YY).real _ c' MJ
     exact hc1.sf k2
   ·obtain⟨i,hi,rfl⟩:=List.getElem_of_mem he
    have h1:i<b.es.length:=by have:=hB.len; omega
    have h3:=hB.row i h1
    have h4:=B.even b.es[i] (List.getElem_mem _)
    rw[List.getD_eq_getElem?_getD,List.getD_eq_getElem?_getD,List.getElem?_eq_getElem hi,List.getElem?_eq_getElem h1,Option.getD_some,Option.getD_some]at h3
    have:=hB.sz
    omega
   ·rw[AF]at h0
    have h3:=B.dW h0
    have:=hB.len
    rw[h3]at this
    exact List.eq_nil_of_length_eq_zero (by simpa using this.symm)
   ·rw[AF]at hρ
    obtain⟨cs,fr,hg,nG,nT,hown,hlc,lI,hcs,iH⟩:=B.real g cap hρ
    have e1:=hB.len
    have e2:=hB.sz
    refine⟨cs,fr,by rw[<-hB.ty,<-hB.sz,<-hB.len]; exact hg.le (fun _ _ h=>h.all) hB.mp,nG,?_,hown,by omega,lI,by rw[<-hB.sz]; exact hcs,fun i j hi hj=> ?_⟩
    ·rintro (h|⟨m,c',bm,⟨_,YX⟩,YY,MJ⟩)
     ·exact nT h
     ·have:=W.inj n m b bm g cap c' hb YY hρ MJ
      subst this
      rw[hb']at YX; simp at YX
    ·obtain⟨u,pE,FE,hr⟩:=iH i j (by omega) (by omega)
     refine⟨u,by rw[<-hB.sz]; exact pE,FE,?_⟩
     refine low _ _ _ hr (hB.cell i j (by omega) (by omega)) ?_
     rcases hu with hu|hu
     ·exact .inl hu
     ·right
      have Ak:b'.es.getD i [] ∈ b'.es:=by
       rw[List.getD_eq_getElem?_getD,List.getElem?_eq_getElem hi,Option.getD_some]; exact List.getElem_mem _
      have hel:(b'.es.getD i []).length=b.sz:=by
       rw[<-hB.row i (by omega),List.getD_eq_getElem?_getD,List.getElem?_eq_getElem (show i<b.es.length by omega),Option.getD_some]
       exact B.even _ (List.getElem_mem _)
      exact AV.fP _ _ (hu _ Ak) (by omega)
  ·refine⟨hn,fun e he=>by rw[h2]at he; simp at he,fun _=>h2,fun g cap hρ=> ?_,fun _ _ _ _ _ _ h=>by rw[hmn]at h; cases h⟩
   change lZ S ρ n=_ at hρ
   simp only[lZ,if_pos h1]at hρ
   simp at hρ
 ·have o1:S.nx<=n->False:=fun h=>by simp only[lZ,if_pos h]at h1; simp at h1
  have o2:S.nx<=m->False:=fun h=>by simp only[lZ,if_pos h]at h2; simp at h2
  have e1:ρ n=some (g,c):=by simpa[lZ,show ¬S.nx<=n from o1]using h1
  have e2:ρ m=some (g,c'):=by simpa[lZ,show ¬S.nx<=m from o2]using h2
  rcases hM n b hb with⟨⟨b0,hb0,_⟩,_⟩|⟨_,h,_⟩
  ·rcases hM m b' hb' with⟨⟨b1,vx,_⟩,_⟩|⟨_,h,_⟩
   ·exact W.inj n m b0 b1 g c c' hb0 vx e1 e2
   ·exact (o2 h).elim
  ·exact (o1 h).elim
 ·rintro g (hg|⟨n,cap,b,_,hb,hρ⟩)
  ·exact W.lt g hg
  ·obtain⟨cs,fr,hc,_⟩:=(W.aR n b hb).real g cap hρ
   exact hc.lt
 ·rintro g hg (h|⟨n,cap,b,⟨Ik,_⟩,hb,hρ⟩)
  ·exact W.old g hg h
  ·obtain⟨cs,fr,hc,_,_,hown,_⟩:=(W.aR n b hb).real g cap hρ
   rcases hown with⟨h,_⟩|h
   ·exact absurd h (Nat.not_lt.2 Ik)
   ·exact absurd hg (Nat.not_lt.2 h)
theorem Lp{S S':St}(h:Wk X S S'){a:Act}{w:World}{ρ:Place}{I:Nat->Prop}(W:bY X ρ I (aa S.M) (· <S.nx) w)(F:jv ρ I w X S a):
  bY X (lZ S ρ) (RG X S S' ρ I) (aa S'.M) (· <S'.nx) w/\jv (lZ S ρ) (RG X S S' ρ I) w X S' a:=by
 obtain⟨h1,low⟩:=rU h W
 refine⟨h1,fun i=> ?_,F.defers.mono (fun g hg=> .inl hg),F.size⟩
 rcases h.F i with h|⟨hm,hu⟩
 ·rw[h]; exact .bad _
 ·exact low _ _ _ (F.rep i) hm hu
theorem AG{S S':St}(h:Wk X S S'){a:Act}{w:World}(hS:hQ X S a w):hQ X S' a w:=by
 obtain⟨ρ,I,W,F⟩:=hS
 obtain⟨W',F'⟩:=Lp h W F
 exact⟨_,_,W',F'⟩
end Go.AM
namespace Go.AM
open Go.RowKit
def fA(a b:Bool):Bool:=match a,b with
 |true,true=>true
 |false,false=>true
 |_,_=>false
theorem cQ{a b:Bool}(h:fA a b=true):a=b:=by cases a<;>cases b<;>simp_all[fA]
structure MK(es:List (List AV))(len i:Nat)(K:List AV->Prop):Prop where
 len:es.length=len
 h:K (es.getD i [])
structure YZ(ag:Bool)(m sz:Nat)(cs:List AV)(j:Int)(K:AV->Prop):Prop where
 lt:0<=j/\j< (m:Int)
 h:apart ag sz (j.toNat*sz) cs K
structure uM{α:Type}(xs:List α)(K:List α->Prop):Prop where
 h:K xs
structure RI(es:List (List AV))(K:Nat->Prop):Prop where
 h:K es.length
structure Y0(es:List (List AV))(cnt:Nat)(K:List AV->Nat->Prop):Prop where
 h:K ((es.take cnt).flatten) (min es.length cnt)
structure Xk(a b:Int)(K:Nat->Prop):Prop where
 h:(0<=a/\a<=1073741824/\a=b)/\K a.toNat
structure RJ(l h:Option AV)(m:Nat)(K:Nat->Nat->Prop):Prop where
 h:∃a c:Nat,((l=none/\a=0)\/∃k,l=some (.int k a))/\((h=none/\a+c=m)\/∃k,h=some (.int k (a+c:Nat)))/\a+c<=m/\a<m/\K a c
structure RK(X:bL)(nm len:Nat)(es:List (List AV))(j:Int)(K:Nat->List (List AV)->Prop):Prop where
 h:(∃p,X.p=p/\Nat.ble p nm=true)/\∃(k:Nat)(es':List (List AV)),j=k/\k<=len/\es.length=len/\es'=es.take k/\K k es'
structure RL(es:List (List AV))(K:List UInt8->Prop):Prop where
 h:∃s:List UInt8,es=s.map (fun c=>[AV.int .u8 c.toNat])/\K s
structure CY{α:Type}(es:List α)(Y N:Prop):Prop where
 y:es=[]->Y
 n:N
structure sT(R:Env)(X:bL)(f:Nat)(args:List AV)(F:aT)(M:ah)(nx:Nat)(d:Option Nat)(K:KS):Prop where
 body:b9 R.P f
 h:∃av ws nw aU M',qn R.P X f args (aa (aq M)) av ws nw/\(nx<=aU/\∀n ∈ nw,nx<=n/\n<aU)/\aa (aq M')=aa (bX (aq M) ws)/\aI d av F M' aU K
structure l8(R:Env)(X:bL)(f:Nat)(args:List AV)(F:aT)(M:ah)(nx:Nat)(d:Option Nat)(K:KS):Prop where
 body:b9 R.P f
 h:∀ρ I (a:Act) w vs,(∀x,d=some x->x<X.size)->bY X ρ I (aa (aq M)) (· <nx) w->jv ρ I w X ⟨F,aq M,nx⟩ a->dp ρ (lens (aa (aq M))) I w (· <nx) args vs->
  Calls R.P f vs.toArray w fun e w1=>∃v,e= .returned v/\∃F' M' aU,K F' M' aU/\hQ X ⟨F',aq M',aU⟩ (a.put d v) w1
structure pY(R:Env)(X:bL)(f:Nat)(args:List AV)(F:aT)(M:ah)(nx:Nat)(d:Option Nat)(K:KS):Prop where
 body:b9 R.P f
 h:∃av ws nw aU M',qn R.P X f args (aa (aq M)) av ws nw/\(∀p ∈ ws,p.1 ∈ nw)/\(nx<=aU/\∀n ∈ nw,nx<=n/\n<aU)/\aa (aq M')=aa (bX (aq M) ws)/\aI d av F M' aU K
def sU:ah->Nat->List Nat
 |[],_=>[]
 |(m,b)::r,n=>bif Nat.beq n m then (match b with
  | .var _ row=>AV.ar row
  | .arr _ _ _=>[]
  | .map .. =>[])else sU r n
def wU(M:ah):List Nat->List Nat
 |[]=>[]
 |n::r=>n::(sU M n++wU M r)
structure pZ(R:Env)(X:bL)(f:Nat)(args:List AV)(F:aT)(M:ah)(nx:Nat)(d:Option Nat)(K:KS):Prop where
 body:b9 R.P f
 h:∃av ws nw aU M',K8 R.P X f args (wU M (AV.ar args)) (aa (aq M)) av ws nw/\(nx<=aU/\∀n ∈ nw,nx<=n/\n<aU)/\aa (aq M')=aa (bX (aq M) ws)/\aI d av F M' aU K
def FK(P:Program)(f:Nat)(args:List AV)(av:AV):Prop:=
 ∀(ρ:Place)(L:aY)(I:Nat->Prop)(N:Nat->Prop)(w:World)(vs:List Value),dp ρ L I w N args vs->∃v,(callFunc f vs.toArray).run P w= .ok (.value v) w/\aL ρ L I w N av v
structure bA(R:Env)(f:Nat)(args:List AV)(F:aT)(M:ah)(nx:Nat)(d:Option Nat)(K:KS):Prop where
 h:∃av,FK R.P f args av/\aI d av F M nx K
def I5(P:Program)(l:Nat)(vs:List Value)(w:World)(Q:World->Prop):Prop:=
 ∃r:Loop,w.heap[l]? =some (.loop r)/\vs.length=r.params.size/\∀c cs,∃w',Q w'/\
  Steps P (lone (Frame.round l r.fn ((r.params.zip vs.toArray).foldl (fun t (q,v)=>t.setIfInBounds q v) r.tmps) r.assign r.body .normal) (c::cs) w) (lone (c.finish (.bool true)) cs w')
structure p5(R:Env)(X:bL)(l:Nat)(tm:List Value)(aP args:List AV)(F:aT)(M:ah)(nx:Nat)(d:Option Nat)(K:KS):Prop where
 h:∃F' M' aU,K F' M' aU/\∀ρ I (a:Act) w vs,(∀x,d=some x->x<X.size)->bY X ρ I (aa (aq M)) (· <nx) w->jv ρ I w X ⟨F,aq M,nx⟩ a->dp ρ (lens (aa (aq M))) I w (· <nx) args vs->
  dp ρ (lens (aa (aq M))) I w (· <nx) aP tm->I5 R.P l vs w fun w1=>hQ X ⟨F',aq M',aU⟩ (a.put d (.bool true)) w1
structure aj(R:Env)(X:bL)(lo:Bool)(f:Nat)(args:List AV)(F:aT)(M:ah)(nx:Nat)(d:Option Nat)(K:KS):Prop where
 h:sT R X f args F M nx d K\/(lo=false/\l8 R X f args F M nx d K)
def B3(v:AV)(X Y:Prop):Prop:=
 match v with
 | .bool t=>True->rn t X Y
 |_=>False
def jg(M:ah)(n len:Nat)(K:bF->Prop):Prop:=
 cE M n fun b=>match b with
  | .var ty row=>bif Nat.beq len 1 then K (.var ty row)else False
  | .arr ty sz es=>True->es.length=len/\K (.arr ty sz es)
  | .map .. =>False
def B4(ag:Bool)(n:Nat)(v:AV)(M:ah)(K:AV->Prop):Prop:=
 match v with
 | .loc nm len i off=>cE M nm fun b=>match b with
   | .var _ row=>bif Nat.beq len 1 then (bif Nat.beq i 0 then nO ag n off row K else False)else False
   | .arr _ _ es=>True->MK es len i fun row=>nO ag n off row K
   | .map .. =>False
 | .bc e off=>nO ag n off e K
 |_=>False
def FL(a:AV)(cs:List AV)(M:ah)(K:ah->Prop):Prop:=
 match a with
 | .loc nm len i off=>cE M nm fun b=>match b with
   | .var ty row=>bif Nat.beq len 1 then (bif Nat.beq i 0 then iI off cs row fun row'=>ig M nm (.var ty row') K else False)else False
   | .arr ty sz es=>True->MK es len i fun row=>iI off cs row fun row'=>ig M nm (.arr ty sz (es.set i row')) K
   | .map .. =>False
 |_=>False
def js(k k':IntKind)(X:Prop):Prop:=bif rK k k' then X else False
def ML(op:BinOp)(v u:AV)(K:AV->Prop):Prop:=
 match v,u with
 | .int k a,.int k' b=>
   match op with
   | .shl=>True->0<=b/\K (.int k (jY k a b))
   | .shr=>True->0<=b/\K (.int k (bz k a b))
   | .add=>js k k' (True->IY k (a+b) fun m=>K (.int k m))
   | .sub=>js k k' (True->IY k (a - b) fun m=>K (.int k m))
   | .mul=>js k k' (True->IY k (a*b) fun m=>K (.int k m))
   | .quo=>js k k' (True->b≠0/\(True->IY k (a.tdiv b) fun m=>K (.int k m)))
   | .rem=>js k k' (True->b≠0/\K (.int k (a.tmod b)))
   | .and=>js k k' (K (.int k (cZ .and k a b)))
   | .or=>js k k' (K (.int k (cZ .or k a b)))
   | .xor=>js k k' (K (.int k (cZ .xor k a b)))
   | .andNot=>js k k' (K (.int k (cZ .andNot k a b)))
   | .eql=>js k k' (K (.bool (a==b)))
   | .neq=>js k k' (K (.bool (a != b)))
   | .lss=>js k k' (K (.bool (decide (a<b))))
   | .leq=>js k k' (K (.bool (decide (a<=b))))
   | .gtr=>js k k' (K (.bool (decide (a>b))))
   | .geq=>js k k' (K (.bool (decide (a>= b))))
 |_,_=>False
def MM(l:LK)(a b:AV)(K:Bool->Prop):Prop:=
 match l,a,b with
 | .i,.int k x,.int k' y=>bif rK k k' then K (x==y)else False
 | .b,.bool x,.bool y=>K (x==y)
 | .s,.str x,.str y=>K (x==y)
 |_,_,_=>False
def CZ:List LK->List AV->List AV->(Bool->Prop)->Prop
 |l::r,a::as,b::bs,K=>MM l a b fun t=>(match r with
  |[]=>CZ r as bs fun _=>K t
  |_=>CZ r as bs fun u=>K (t&&u))
 |[],[],[],K=>K true
 |_,_,_,_=>False
def Y1(neg:Bool)(K:AV->Prop)(r:Bool):Prop:=
 match neg with
 |true=>K (.bool !r)
 |false=>K (.bool r)
def RM(op:BinOp)(a b:List UInt8)(K:AV->Prop):Prop:=
 match op with
 | .add=>True->(a.length+b.length<=9223372036854775807)/\K (.str (a++b))
 | .eql=>K (.bool (a==b))
 | .neq=>K (.bool !(a==b))
 | .lss=>K (.bool (Op.bytesLess a b))
 | .leq=>K (.bool (Op.bytesLess a b||a==b))
 | .gtr=>K (.bool !(Op.bytesLess a b||a==b))
 | .geq=>K (.bool !(Op.bytesLess a b))
 |_=>False
def Y2(op:UnOp)(v:AV)(K:AV->Prop):Prop:=
 match op,v with
 | .neg,.int k n=>True->IY k (0 - n) fun m=>K (.int k m)
 | .xor,.int k n=>K (.int k (cZ .xor k (if k.signed then -1 else k.max) n))
 | .not,.bool b=>K (.bool !b)
 |_,_=>False
def FM(sz:Nat)(v ix:AV)(M:ah)(K:AV->Prop):Prop:=
 match ix with
 | .int _ j=>(match v with
   | .aG s es=>bif Nat.beq s sz then (True->(0<=j/\j<es.length)/\(True->IZ es j.toNat fun row=>K (.bc row 0)))else False
   | .bh nm len=>cE M nm fun b=>(match b with
     | .arr _ s es=>bif Nat.beq s sz then (True->(es.length=len/\0<=j/\j<len)/\K (.loc nm len j.toNat 0))else False
     | .var .. =>False
     | .map .. =>False)
   | .dm nm len i off cnt=>jg M nm len fun _=>True->Xj j cnt fun c=>K (.loc nm len i (off+c*sz))
   |_=>False)
 |_=>False
def FN(m sz:Nat)(v ix:AV)(M:ah)(K:AV->Prop):Prop:=
 match ix with
 | .int _ j=>(match v with
   | .loc nm len i off=>jg M nm len fun _=>True->Xj j m fun c=>K (.loc nm len i (off+c*sz))
   | .bc row off=>True->Xj j m fun c=>K (.bc row (off+c*sz))
   |_=>False)
 |_=>False
def Xl(mx:Bool)(k:IntKind)(a:Int):List AV->(AV->Prop)->Prop
 |[],K=>K (.int k a)
 | .int _ b::r,K=>(match mx with
   |true=>Xl mx k (max a b) r K
   |false=>Xl mx k (min a b) r K)
 |_,_=>False
def mmK(mx:Bool)(as:List AV)(K:AV->Prop):Prop:=
 match as with
 | .int k a::r=>Xl mx k a r K
 |_=>False
def vy(sz:Nat)(x:AV)(M:ah)(K:List (List AV)->Prop):Prop:=
 match x with
 | .aG s es=>bif Nat.beq s sz then K es else False
 | .ab=>K []
 | .bh n len=>cE M n fun b=>(match b with
   | .arr _ s es=>bif Nat.beq s sz then (True->es.length=len/\K es)else False
   | .var .. =>False
   | .map .. =>False)
 | .dm n len i off cnt=>cE M n fun b=>(match b with
   | .var _ row=>bif Nat.beq len 1 then (bif Nat.beq i 0 then (bif Nat.beq sz 0 then False else vu off row fun r=>yd sz cnt r K)else False)else False
   | .arr .. =>False
   | .map .. =>False)
 |_=>False
def Lq(sz:Nat)(v:AV)(M:ah)(src:(List (List AV)->Prop)->Prop)(K:Nat->ah->Prop):Prop:=
 match v with
 | .dm n len i off cnt=>cE M n fun b=>(match b with
   | .var ty row=>bif Nat.beq len 1 then (bif Nat.beq i 0 then (bif Nat.ble (off+cnt*sz) row.length then src fun xs=>True->Y0 xs cnt fun vs k=>iI off vs row fun row'=>ig M n (.var ty row') fun M'=>K k M' else False)else False)else False
   | .arr .. =>False
   | .map .. =>False)
 |_=>False
def AH(x:AV)(K:List (List AV)->Prop):Prop:=
 match x with
 | .str s=>K (s.map fun c=>[.int .u8 c.toNat])
 |_=>False
def FP(ty sz:Nat)(s:AV)(src:(List (List AV)->Prop)->Prop)(M:ah)(nx:Nat)(K:AV->ah->Nat->Prop):Prop:=
 match s with
 | .bh n len=>cE M n fun b=>(match b with
   | .arr t z es=>bif Nat.beq z sz then (True->(t=ty/\es.length=len)/\src fun xs=>True->es.length+xs.length<=1073741824/\ig M n (.arr t z (es++xs)) fun M'=>K (.bh n (es++xs).length) M' nx)else False
   | .var .. =>False
   | .map .. =>False)
 | .ab=>src fun xs=>True->xs.length<=1073741824/\K (.bh nx xs.length) ((nx,.arr ty sz xs)::M) (nx+1)
 |_=>False
def Lr(ty sz:Nat)(z:List AV)(s x:AV)(M:ah)(nx:Nat)(K:AV->ah->Nat->Prop):Prop:=
 match x with
 | .int _ m=>(match s with
   | .bh n len=>cE M n fun b=>(match b with
     | .arr t q es=>bif Nat.beq q sz then (True->(t=ty/\es.length=len)/\(True->Xk m m fun k=>True->es.length+k<=1073741824/\ig M n (.arr t q (es++List.replicate k z)) fun M'=>K (.bh n (es++List.replicate k z).length) M' nx))else False
     | .var .. =>False
     | .map .. =>False)
   | .ab=>True->Xk m m fun k=>K (.bh nx k) ((nx,.arr ty sz (List.replicate k z))::M) (nx+1)
   |_=>False)
 |_=>False
def FQ(sz:Nat)(v:AV)(lo hi mx:Option AV)(K:AV->Prop):Prop:=
 match v with
 | .aG s es=>bif Nat.beq s sz then (match lo,hi,mx with
   |none,some (.int _ h),none=>True->(0<=h/\h<=es.length)/\(True->uM (es.take h.toNat) fun xs=>K (.aG sz xs))
   |some (.int _ l),none,none=>True->(0<=l/\l<=es.length)/\(True->uM (es.drop l.toNat) fun xs=>K (.aG sz xs))
   |some (.int _ l),some (.int _ h),none=>True->(0<=l/\l<=h/\h<=es.length)/\(True->uM ((es.take h.toNat).drop l.toNat) fun xs=>K (.aG sz xs))
   |none,some (.int _ h),some (.int _ m)=>True->(0<=h/\h<=m/\m<=es.length)/\(True->uM (es.take h.toNat) fun xs=>K (.aG sz xs))
   |_,_,_=>False)else False
 |_=>False
def FR(v:AV)(lo hi:Option AV)(K:AV->Prop):Prop:=
 match v with
 | .str s=>(match lo,hi with
   |none,some (.int _ h)=>True->(0<=h/\h<=s.length)/\(True->uM (s.take h.toNat) fun xs=>K (.str xs))
   |some (.int _ l),none=>True->(0<=l/\l<=s.length)/\(True->uM (s.drop l.toNat) fun xs=>K (.str xs))
   |some (.int _ l),some (.int _ h)=>True->(0<=l/\l<=h/\h<=s.length)/\(True->uM ((s.take h.toNat).drop l.toNat) fun xs=>K (.str xs))
   |_,_=>False)
 |_=>False
def FT(v:AV)(M:ah)(K:AV->Prop):Prop:=
 match v with
 | .aG _ es=>True->RI es fun n=>K (.int .i64 n)
 | .bh n len=>jg M n len fun _=>K (.int .i64 len)
 | .dm n len _ _ cnt=>jg M n len fun _=>K (.int .i64 cnt)
 | .ab=>K (.int .i64 0)
 |_=>False
def MN:Nat->List AV->(AV->Prop)->Prop
 |0,v::_,K=>K v
 |n+1,_::r,K=>MN n r K
 |_,[],_=>False
structure RN(ls:List LK)(kc:List AV)(es:List (List AV))(K:Option (Nat × List AV)->Prop):Prop where
 ok:∀r ∈ es,dR ls kc r=true
 h:K (cC kc es)
structure AFv(kc:List AV)(es:List (List AV))(K:AV->Prop):Prop where
 g:∀r ∈ es,jV r=true
 h:K (IA (cC kc es))
structure AFg(kc:List AV)(es:List (List AV))(K:Option (Nat × List AV)->Prop):Prop where
 g:∀r ∈ es,jV r=true
 h:K (cC kc es)
structure AEn(es:List (List AV))(j:Int)(K:Nat->List AV->Prop):Prop where
 h:∃(i:Nat)(r:List AV),j=i/\es[i]? =some r/\K i r
structure IRg(K:Nat->Prop):Prop where
 h:∀r,K r
structure INx(r r':Nat)(es:List (List AV))(sn:List Bool)(Y:Prop)(K:Nat->Prop):Prop where
 e:r'=r
 fin:(∀q ∈ sn,q=true)->sn.length=es.length->Y
 go:∀i row,es[i]? =some row->sn[i]? =some false->sn.length=es.length->K i
structure IEt(r r':Nat)(la:Option Nat)(es:List (List AV))(K:List AV->Prop):Prop where
 h:r'=r/\∃i row,la=some i/\es[i]? =some row/\K row
def MO(q:Option (Nat × List AV))(es:List (List AV))(dn:Dn)(K:List (List AV)->Dn->Prop):Prop:=
 match q with
 |some q=>K (es.eraseIdx q.1) (dn.dl q.1)
 |none=>K es dn.up
def AI(ls:List LK)(ag:Bool)(u:AV)(K:List AV->Prop):Prop:=kO u fun kc=>bif fA u.jr ag&&Nat.beq kc.length ls.length&&dR ls kc kc then K kc else False
def AJ(va:Bool)(l:List AV)(K:AV->Prop):Prop:=
 match va with
 |true=>K (.agg l)
 |false=>match l with
  |c::_=>K c
  |[]=>False
def RO(ok va:Bool)(z:AV)(q:Option (Nat × List AV))(K:AV->Prop):Prop:=
 match q with
 |some q=>AJ va q.2 fun v=>(match ok with
  |true=>K (.aF [v,.bool true])
  |false=>K v)
 |none=>(match ok with
  |true=>K (.aF [z,.bool false])
  |false=>K z)
def MP(q:Option (Nat × List AV))(es:List (List AV))(r:List AV)(K:List (List AV)->Prop):Prop:=
 match q with
 |some q=>K (es.set q.1 r)
 |none=>K (es++ [r])
def I6(va:Bool)(z:AV)(q:Option (Nat × List AV))(es:List (List AV))(kc zs:List AV)(K:AV->Nat->List (List AV)->Prop):Prop:=
 match q with
 |some q=>AJ va q.2 fun v=>K v q.1 es
 |none=>K z es.length (es++ [kc++zs])
def AK(ls:List LK)(ag va:Bool)(v:AV)(M:ah)(K:Nat->Dn->Nat->List (List AV)->Prop):Prop:=
 match v with
 | .omap n=>cE M n fun b=>(match b with
   | .map k ka vb dn sz es=>bif Nat.beq k ls.length&&fA ka ag&&fA vb va&&Nat.blt k sz then K n dn sz es else False
   | .arr .. =>False
   | .var .. =>False)
 |_=>False
def B5(v:AV)(M:ah)(K:Nat->Nat->Bool->Bool->Dn->Nat->List (List AV)->Prop):Prop:=
 match v with
 | .omap n=>cE M n fun b=>(match b with
   | .map k ka va dn sz es=>K n k ka va dn sz es
   | .arr .. =>False
   | .var .. =>False)
 |_=>False
def Xm(v:AV)(M:ah)(K:Nat->Nat->Nat->Bool->Bool->Nat->List Bool->Option Nat->Nat->List (List AV)->Prop):Prop:=
 match v with
 | .oB n r'=>cE M n fun b=>(match b with
   | .map k ka va dn sz es=>(match dn with
     | .it r sn la=>K n r' k ka va r sn la sz es
     | .b _=>False)
   | .arr .. =>False
   | .var .. =>False)
 |_=>False
def db(R:Env)(X:bL)(lo:Bool)(i:vp)(d:Option Nat)(F:aT)(M:ah)(nx:Nat)(K:KS):Prop:=
 match i with
 | .mv x=>dx R F x fun v=>aI d v F M nx K
 | .pick c a b=>dx R F c fun v=>B3 v (dx R F a fun u=>aI d u F M nx K) (dx R F b fun u=>aI d u F M nx K)
 | .alloc ty z=>aI d (.loc nx 1 0 0) F ((nx,.var (R.ty ty) z)::M) (nx+1) K
 | .box ty x=>dx R F x fun v=>kO v fun cs=>aI d (.loc nx 1 0 0) F ((nx,.var (R.ty ty) cs)::M) (nx+1) K
 | .build z ps=>CX R F ps z fun cs=>aI d (.agg cs) F M nx K
 | .aJ ty sz len z ps=>MF z len fun es=>B2 R F sz ps es fun es'=>aI d (.bh nx len) F ((nx,.arr (R.ty ty) sz es')::M) (nx+1) K
 | .load ag n x=>dx R F x fun v=>B4 ag n v M fun u=>aI d u F M nx K
 | .store n x v=>dx R F x fun a=>dx R F v fun u=>kO u fun cs=>sS cs n (FL a cs M fun M'=>aI d (.aF []) F M' nx K)
 | .aA x=>dx R F x fun v=>(match v with
   | .loc nm len i q=>jg M nm len fun _=>aI d (.loc nm len i q) F M nx K
   | .bc e q=>aI d (.bc e q) F M nx K
   | .bK f cs=>aI d (.bK f cs) F M nx K
   |_=>False)
 | .bin op x y=>dx R F x fun v=>dx R F y fun u=>ML op v u fun r=>aI d r F M nx K
 | .eqb neg x y=>dx R F x fun v=>dx R F y fun u=>(match v,u with
   | .bool a,.bool b=>(match neg with
     |true=>aI d (.bool (a != b)) F M nx K
     |false=>aI d (.bool (a==b)) F M nx K)
   |_,_=>False)
 | .EO neg ls x y=>dx R F x fun v=>dx R F y fun u=>(match v,u with
   | .agg as,.agg bs=>CZ ls as bs (Y1 neg fun r=>aI d r F M nx K)
   |_,_=>False)
 | .YS op x y=>dx R F x fun v=>dx R F y fun u=>(match v,u with
   | .str a,.str b=>RM op a b fun r=>aI d r F M nx K
   |_,_=>False)
 | .un op x=>dx R F x fun v=>Y2 op v fun r=>aI d r F M nx K
 | .conv k x=>dx R F x fun v=>(match v with
   | .int _ n=>True->IY k n fun m=>aI d (.int k m) F M nx K
   |_=>False)
 | .RB x=>dx R F x fun v=>(match v with
   | .str s=>aI d (.str s) F M nx K
   |_=>False)
 | .QC g cs=>sP R F cs fun l=>aI d (R.cl g l) F M nx K
 | .bE off x=>dx R F x fun v=>(match v with
   | .loc nm len i q=>jg M nm len fun _=>aI d (.loc nm len i (q+off)) F M nx K
   | .bc e q=>aI d (.bc e (q+off)) F M nx K
   |_=>False)
 | .IV sz x i=>dx R F x fun v=>dx R F i fun ix=>FM sz v ix M fun r=>aI d r F M nx K
 | .aD m sz x i=>dx R F x fun v=>dx R F i fun ix=>FN m sz v ix M fun r=>aI d r F M nx K
 | .gN _ sz x lo hi mx=>dx R F x fun v=>wS R F lo fun l=>wS R F hi fun h=>wS R F mx fun m=>FQ sz v l h m fun r=>aI d r F M nx K
 | .RD x lo hi=>dx R F x fun v=>wS R F lo fun l=>wS R F hi fun h=>FR v l h fun r=>aI d r F M nx K
 | .ext x i=>dx R F x fun v=>(match v with
   | .aF vs=>MN i vs fun r=>aI d r F M nx K
   |_=>False)
 | .call g as=>sP R F as fun l=>True->aj R X lo (R.ft g) l F M nx d K
 | .fG f as=>dx R F f fun v=>(match v with
   | .bK (.fn g) aP=>sP R F as fun l=>True->aj R X lo g (l++aP) F M nx d K
   | .bK (.lp l tm) aP=>(match lo with
     |true=>False
     |false=>sP R F as fun args=>True->p5 R X l tm aP args F M nx d K)
   |_=>False)
 | .dT g as=>sP R F as fun l=>True->bA R (R.ft g) l F M nx d K
 | .lW f as=>dx R F f fun v=>(match v with
   | .bK (.fn g) aP=>sP R F as fun l=>True->pY R X g (l++aP) F M nx d K
   |_=>False)
 | .lX f as=>dx R F f fun v=>(match v with
   | .bK (.fn g) aP=>sP R F as fun l=>(match lo with
     |true=>True->pZ R X g (l++aP) F M nx d K
     |false=>False)
   |_=>False)
 | .B0 neg x=>dx R F x fun v=>(match v with
   | .aw=>(match neg with
     |true=>aI d (.bool false) F M nx K
     |false=>aI d (.bool true) F M nx K)
   | .bc _ _=>aI d (.bool neg) F M nx K
   | .loc nm len _ _=>jg M nm len fun _=>aI d (.bool neg) F M nx K
   |_=>False)
 | .yb neg x=>dx R F x fun v=>(match v with
   | .aG _ es=>(match lo with
     |true=>False
     |false=>True->CY es (match neg with
      |true=>aI d (.bool false) F M nx K
      |false=>aI d (.bool true) F M nx K) (aI d (.bool neg) F M nx K))
   |_=>False)
 | .IT neg x=>dx R F x fun v=>(match v with
   | .bP=>(match neg with
     |true=>aI d (.bool false) F M nx K
     |false=>aI d (.bool true) F M nx K)
   | .omap n=>cE M n fun b=>(match b with
     | .map _ _ _ _ _ _=>aI d (.bool neg) F M nx K
     |_=>False)
   |_=>False)
 | .Mx m _ x=>dx R F x fun v=>(match v with
   | .aG _ es=>True->(m<=es.length/\0<m)/\(True->uM (es.take m).flatten fun row=>aI d (.bc row 0) F M nx K)
   | .dm nm len i off cnt=>jg M nm len fun _=>True->m<=cnt/\aI d (.loc nm len i off) F M nx K
   |_=>False)
 | .IU ag off n x=>dx R F x fun v=>(match v with
   | .agg cs=>nO ag n off cs fun r=>aI d r F M nx K
   |_=>False)
 | .Lj ty sz x=>dx R F x fun v=>(match v with
   | .aG _ _=>aI d (.bh nx 0) F ((nx,.arr (R.ty ty) sz [])::M) (nx+1) K
   |_=>False)
 | .CW ag m sz x i=>dx R F x fun v=>dx R F i fun ix=>(match v,ix with
   | .agg cs,.int _ j=>True->YZ ag m sz cs j fun r=>aI d r F M nx K
   |_,_=>False)
 | .RC x i=>dx R F x fun v=>dx R F i fun ix=>(match v,ix with
   | .str s,.int _ j=>True->(0<=j/\j< (s.length:Int))/\aI d (.int .u8 (s.getD j.toNat 0).toNat) F M nx K
   |_,_=>False)
 | .Xf x=>dx R F x fun v=>vy 1 v M fun es=>True->RL es fun s=>aI d (.str s) F M nx K
 | .rm m sz x lo hi mx=>(match lo,hi,mx with
   |none,none,none=>dx R F x fun v=>(match v with
    | .loc nm len i off=>jg M nm len fun _=>aI d (.dm nm len i off m) F M nx K
    | .bc r off=>bif Nat.beq sz 0 then False else vu off r fun r'=>yd sz m r' fun es=>aI d (.aG sz es) F M nx K
    |_=>False)
   |_,_,_=>False)
 | .oS m sz x l h=>dx R F x fun v=>wS R F l fun l'=>wS R F h fun h'=>(match v with
   | .loc nm len i off=>jg M nm len fun _=>True->RJ l' h' m fun a c=>aI d (.dm nm len i (off+a*sz) c) F M nx K
   |_=>False)
 | .FI x=>dx R F x fun v=>(match v with
   | .ab=>aI d (.int .i64 0) F M nx K
   |_=>False)
 | .AD sz x h=>dx R F x fun v=>dx R F h fun u=>(match u with
   | .int _ j=>(match v with
     | .ab=>True->j=0/\aI d .ab F M nx K
     | .bh nm len=>(match lo with
       |false=>cE M nm fun b=>(match b with
        | .arr t s es=>bif Nat.beq s sz then (True->RK X nm len es j fun k es'=>yc M nm fun M'=>aI d (.bh nx k) F ((nx,.arr t s es')::M') (nx+1) K)else False
        | .var .. =>False
        | .map .. =>False)
       |true=>False)
     |_=>False)
   |_=>False)
 | .Lk x=>dx R F x fun v=>(match v with
   | .bh nm len=>cE M nm fun b=>(match b with
     | .arr t s es=>(match lo with
       |false=>True->(es.length=len/\len≠0)/\aI d (.bh nm len) F M nx K
       |true=>False)
     | .var .. =>False
     | .map .. =>False)
   |_=>False)
 | .copy sz x y=>dx R F x fun v=>dx R F y fun u=>Lq sz v M (vy sz u M) fun n M'=>aI d (.int .i64 n) F M' nx K
 | .Xg ty sz z l c=>dx R F l fun v=>dx R F c fun u=>(match v,u with
   | .int _ a,.int _ b=>True->Xk a b fun n=>aI d (.bh nx n) F ((nx,.arr (R.ty ty) sz (List.replicate n z))::M) (nx+1) K
   |_,_=>False)
 | .s2b ty x=>dx R F x fun v=>(match v with
   | .str s=>True->s.length<=1073741824/\aI d (.bh nx s.length) F ((nx,.arr (R.ty ty) 1 (s.map fun c=>[.int .u8 c.toNat]))::M) (nx+1) K
   |_=>False)
 | .My n=>aI d (.int .i64 n) F M nx K
 | .oe x=>dx R F x fun v=>FT v M fun r=>aI d r F M nx K
 | .MA x=>dx R F x fun v=>(match v with
   | .str s=>aI d (.int .i64 s.length) F M nx K
   |_=>False)
 | .mm mx as=>sP R F as fun l=>mmK mx l fun r=>aI d r F M nx K
 | .app ty sz s x=>dx R F s fun v=>dx R F x fun u=>FP (R.ty ty) sz v (vy sz u M) M nx fun r M' aU=>aI d r F M' aU K
 | .FH ty sz z s x=>dx R F s fun v=>dx R F x fun u=>Lr (R.ty ty) sz z v u M nx fun r M' aU=>aI d r F M' aU K
 | .IW ty s x=>dx R F s fun v=>dx R F x fun u=>FP (R.ty ty) 1 v (AH u) M nx fun r M' aU=>aI d r F M' aU K
 | .MB k ka va sz=>aI d (.omap nx) F ((nx,.map k ka va true sz [])::M) (nx+1) K
 | .Xh ls ag va z ok x key=>dx R F x fun v=>dx R F key fun u=>AK ls ag va v M fun _ _ _ es=>AI ls ag u fun kc=>True->RN ls kc es fun q=>RO ok va z q fun r=>aI d r F M nx K
 | .Ip ls ag va x key y=>dx R F x fun v=>dx R F key fun u=>dx R F y fun w=>AK ls ag va v M fun n dn sz es=>AI ls ag u fun kc=>kO w fun vs=>bif fA w.jr va&&Nat.beq (ls.length+vs.length) sz then
     (True->RN ls kc es fun q=>True->es.length+1<=1073741824/\MP q es (kc++vs) fun es'=>ig M n (.map ls.length ag va dn.up sz es') fun M'=>aI d (.aF []) F M' nx K)else False
 | .YT ls ag va z x key=>dx R F x fun v=>dx R F key fun u=>AK ls ag va v M fun n dn sz es=>AI ls ag u fun kc=>kO z fun zs=>bif fA z.jr va&&Nat.beq (ls.length+zs.length) sz&&dn.all then
     (True->RN ls kc es fun q=>True->es.length+1<=1073741824/\I6 va z q es kc zs fun r i es'=>ig M n (.map ls.length ag va true sz es') fun M'=>aI d (.aF [r,.int .i64 i]) F M' nx K)else False
 | .MD ls ag x key=>dx R F x fun v=>dx R F key fun u=>AK ls ag false v M fun _ _ sz es=>AI ls ag u fun kc=>bif Nat.beq sz (ls.length+1)&&jV kc then (True->AFv kc es fun r=>aI d r F M nx K)else False
 | .enc ls ag x key=>dx R F x fun v=>dx R F key fun u=>AK ls ag false v M fun n dn sz es=>AI ls ag u fun kc=>bif Nat.beq sz (ls.length+1)&&jV kc&&dn.all then
     (True->AFg kc es fun q=>True->es.length+1<=1073741824/\I6 false (.int .i64 0) q es kc [.int .i64 0] fun r i es'=>ig M n (.map ls.length ag false true sz es') fun M'=>aI d (.aF [r,.int .i64 i]) F M' nx K)else False
 | .RE ls ag x key=>dx R F x fun v=>dx R F key fun u=>B5 v M fun n k ka va dn sz es=>bif Nat.beq k ls.length&&fA ka ag then AI ls ag u fun kc=>True->RN ls kc es fun q=>MO q es dn fun es' IN=>ig M n (.map ls.length ag va IN sz es') fun M'=>aI d (.aF []) F M' nx K else False
 | .RF x=>dx R F x fun v=>(match lo with
   |true=>False
   |false=>B5 v M fun n k ka va _ sz es=>True->IRg fun r=>ig M n (.map k ka va (.it r (es.map fun _=>false) none) sz es) fun M'=>aI d (.oB n r) F M' nx K)
 | .Xi x=>dx R F x fun v=>(match lo with
   |true=>False
   |false=>Xm v M fun n r' k ka va r sn _ sz es=>True->INx r r' es sn (aI d (.aF [.bool false]) F M nx K) fun i=>ig M n (.map k ka va (.it r (sn.set i true) (some i)) sz es) fun M'=>aI d (.aF [.bool true,.bad,.bad]) F M' nx K)
 | .Mi x=>dx R F x fun v=>(match lo with
   |true=>False
   |false=>Xm v M fun _ r' k ka va r _ la sz es=>bif Nat.blt 0 k&&Nat.blt k sz then (True->IEt r r' la es fun row=>oT k row fun kc=>AJ ka kc fun a=>vu k row fun vc=>AJ va vc fun b=>aI d (.aF [a,b]) F M nx K)else False)
 | .YU va x st y=>dx R F x fun v=>dx R F st fun u=>dx R F y fun w=>(match v,u with
   | .omap n,.int _ j=>cE M n fun b=>(match b with
     | .map k ka vb dn sz es=>kO w fun vs=>bif fA w.jr va&&fA vb va&&Nat.beq (k+vs.length) sz&&dn.all then
         (True->AEn es j fun i row=>oT k row fun kc=>ig M n (.map k ka va true sz (es.set i (kc++vs))) fun M'=>aI d (.aF []) F M' nx K)else False
     | .arr .. =>False
     | .var .. =>False)
   |_,_=>False)
def I7(a b:AV):Bool:=
 match a,b with
 | .int k n,.int k' n'=>rK k k'&&decide (n=n')
 | .bool x,.bool y=>x==y
 | .str s,.str t=>decide (s=t)
 | .aw,.aw=>true
 | .ab,.ab=>true
 | .af,.af=>true
 | .di,.di=>true
 | .bP,.bP=>true
 |_,_=>false
def rp:List AV->List AV->Bool
 |[],[]=>true
 |a::r,b::s=>I7 a b&&rp r s
 |_,_=>false
def AL(a b:AV):Bool:=
 match a,b with
 | .agg cs,.agg ds=>rp cs ds
 | .aF cs,.aF ds=>rp cs ds
 |a,b=>I7 a b
theorem B6{a b:AV}(h:I7 a b=true):a=b:=by
 cases a<;>cases b<;>simp_all[I7]
 exact iU h.1
theorem jE:∀{a b:List AV},rp a b=true->a=b
 |[],[],_=>rfl
 |a::r,b::s,h=>by
  simp only[rp,Bool.and_eq_true]at h
  rw[B6 h.1,jE h.2]
 |[],_::_,h=>by simp[rp]at h
 |_::_,[],h=>by simp[rp]at h
theorem oU{a b:AV}(h:AL a b=true):a=b:=by
 unfold AL at h
 split at h
 ·rw[jE h]
 ·rw[jE h]
 ·exact B6 h
def cz(R:Env):Operand->Sc->Bool
 | .tmp t,.t n=>Nat.beq t n
 | .const v,.k u=>AL (K6 v) u
 | .func f,.f g=>Nat.beq (R.ft g) f
 |_,_=>false
def oj(R:Env):List Operand->List Sc->Bool
 |[],[]=>true
 |x::r,y::s=>cz R x y&&oj R r s
 |_,_=>false
def rq(R:Env):Option Operand->Option Sc->Bool
 |none,none=>true
 |some x,some y=>cz R x y
 |_,_=>false
theorem an{R:Env}{F:aT}{x:Operand}{y:Sc}(h:cz R x y=true):ev F x=lY R F y:=by
 cases x<;>cases y<;>simp only[cz]at h<;>first|(simp at h; done)|skip
 ·rw[Nat.eq_of_beq_eq_true h]; rfl
 ·exact oU h
 ·simp only[ev,lY,Env.cl,Nat.eq_of_beq_eq_true h]
theorem dU{R:Env}{F:aT}:∀{xs:List Operand}{ys:List Sc},oj R xs ys=true->oC F xs=ys.map (lY R F)
 |[],[],_=>rfl
 |x::r,y::s,h=>by
  simp only[oj,Bool.and_eq_true]at h
  simp only[oC,List.map_cons,an (F:=F) h.1,dU h.2]
 |[],_::_,h=>by simp[oj]at h
 |_::_,[],h=>by simp[oj]at h
theorem kQ{R:Env}{F:aT}{x:Option Operand}{y:Option Sc}(h:rq R x y=true):pM F x=y.map (lY R F):=by
 cases x<;>cases y<;>simp only[rq]at h<;>first|(simp at h; done)|rfl|skip
 simp only[pM,Option.map_some,an (F:=F) h]
def C0(R:Env)(fs:List (Nat × Nat)):List (Nat × Operand)->List (Nat × Nat × Sc)->Bool
 |[],[]=>true
 |(i,x)::r,(off,n,y)::s=>(match fs[i]? with
  |some (o,t)=>Nat.beq o off&&Nat.beq (R.T.s t) n&& !Nat.beq n 0
  |none=>false)&&cz R x y&&C0 R fs r s
 |_,_=>false
def C1(R:Env)(sz:Nat):List (Nat × Operand)->List (Nat × Nat × Sc)->Bool
 |[],[]=>true
 |(i,x)::r,(off,n,y)::s=>Nat.beq (i*sz) off&&Nat.beq sz n&& !Nat.beq n 0&&cz R x y&&C1 R sz r s
 |_,_=>false
def C2(R:Env):List (Nat × Operand)->List (Nat × Sc)->Bool
 |[],[]=>true
 |(i,x)::r,(j,y)::s=>Nat.beq i j&&cz R x y&&C2 R r s
 |_,_=>false
def MQ:BinOp->Nat
 | .add=>0| .sub=>1| .mul=>2| .quo=>3| .rem=>4| .and=>5| .or=>6| .xor=>7| .shl=>8| .shr=>9| .andNot=>10| .eql=>11| .neq=>12| .lss=>13| .leq=>14| .gtr=>15| .geq=>16
theorem FU{a b:BinOp}(h:Nat.beq (MQ a) (MQ b)=true):a=b:=by
 have:=Nat.eq_of_beq_eq_true h
 cases a<;>cases b<;>first|rfl|(simp[MQ]at this)
def RP:UnOp->Nat
 | .neg=>0| .not=>1| .xor=>2| .plus=>3
theorem MR{a b:UnOp}(h:Nat.beq (RP a) (RP b)=true):a=b:=by
 have:=Nat.eq_of_beq_eq_true h
 cases a<;>cases b<;>first|rfl|(simp[RP]at this)
def Xo:Option Operand->Bool
 |some (.const (.int _ (.ofNat 0)))=>true
 |_=>false
theorem FV{b:Option Operand}(h:Xo b=true):∃k,b=some (.const (.int k 0)):=by
 unfold Xo at h
 split at h
 ·exact⟨_,rfl⟩
 ·simp at h
def isEq(op:BinOp)(neg:Bool):Bool:=
 match op,neg with
 | .eql,false=>true
 | .neq,true=>true
 |_,_=>false
theorem isEq_eq{op:BinOp}{neg:Bool}(h:isEq op neg=true):op=if neg then .neq else .eql:=by cases op<;>cases neg<;>simp_all[isEq]
def C3:List LK->List LK->Bool
 |[],[]=>true
 | .i::r,.i::s=>C3 r s
 | .b::r,.b::s=>C3 r s
 | .s::r,.s::s=>C3 r s
 |_,_=>false
theorem oV:∀{a b:List LK},C3 a b=true->a=b
 |[],[],_=>rfl
 | .i::r,.i::s,h=>by rw[oV (a:=r) (b:=s) h]
 | .b::r,.b::s,h=>by rw[oV (a:=r) (b:=s) h]
 | .s::r,.s::s,h=>by rw[oV (a:=r) (b:=s) h]
def sV(R:Env)(t:Nat)(ls:List LK)(ag:Bool):Bool:=match R.T.d t with
 | .map k _=>fA (aN R.P k) ag&&(match mU R.P 8 k with
   |some l=>C3 l ls
   |none=>false)
 |_=>false
def bB(R:Env)(c:Call)(i:vp):Bool:=
 match c.callee,i with
 | .value f,.call g as=>cz R f (.f g)&&oj R c.args.toList as
 | .value f,.fG y as=>cz R f y&&oj R c.args.toList as
 | .value f,.lW y as=>cz R f y&&oj R c.args.toList as
 | .value f,.lX y as=>cz R f y&&oj R c.args.toList as
 | .value f,.dT g as=>cz R f (.f g)&&oj R c.args.toList as
 | .builtin .len,.My n=>(match c.args.toList,c.argTypes.toList with
   |[_],[t]=>(match R.T.d t with
    | .arr m _=>Nat.beq m n
    |_=>false)
   |_,_=>false)
 | .builtin .len,.oe y=>(match c.args.toList,c.argTypes.toList with
   |[x],[t]=>cz R x y&&(match R.T.d t with
    | .slice _=>true
    |_=>false)
   |_,_=>false)
 | .builtin .cap,.FI y=>(match c.args.toList,c.argTypes.toList with
   |[x],[t]=>cz R x y&&(match R.T.d t with
    | .slice _=>true
    |_=>false)
   |_,_=>false)
 | .builtin .len,.MA y=>(match c.args.toList,c.argTypes.toList with
   |[x],[t]=>cz R x y&&(match R.T.d t with
    | .str=>true
    |_=>false)
   |_,_=>false)
 | .builtin .min,.mm false as=>oj R c.args.toList as
 | .builtin .max,.mm true as=>oj R c.args.toList as
 | .builtin .append,.app ty sz s y=>(match c.args.toList,c.argTypes.toList with
   |[x1,x2],[t,t']=>cz R x1 s&&cz R x2 y&&(match R.T.d t,R.T.d t' with
    | .slice e,.slice _=>Nat.beq (R.ty ty) e&&Nat.beq (R.T.s e) sz&&(R.T.d e).ok&&bH (R.T.z e)&&Nat.beq (cells (R.T.z e)).length (R.T.s e)
    |_,_=>false)
   |_,_=>false)
 | .builtin .copy,.copy sz s y=>(match c.args.toList,c.argTypes.toList with
   |[x1,x2],[t,t']=>cz R x1 s&&cz R x2 y&&(match R.T.d t,R.T.d t' with
    | .slice e,.slice _=>Nat.beq (R.T.s e) sz&&(R.T.d e).ok
    |_,_=>false)
   |_,_=>false)
 | .builtin .append,.FH ty sz z s y=>(match c.args.toList,c.argTypes.toList with
   |[x1,x2],[t,t']=>cz R x1 s&&cz R x2 y&&(match R.T.d t,R.T.d t' with
    | .slice e,.int _=>Nat.beq (R.ty ty) e&&Nat.beq (R.T.s e) sz&&(R.T.d e).ok&&bH (R.T.z e)&&Nat.beq (cells (R.T.z e)).length (R.T.s e)&&rp (cells (R.T.z e)) z&& !Nat.beq sz 0
    |_,_=>false)
   |_,_=>false)
 | .builtin .delete,.RE ls ag y u=>(match c.args.toList,c.argTypes.toList with
   |[x1,x2],[t,_]=>cz R x1 y&&cz R x2 u&&sV R t ls ag
   |_,_=>false)
 | .builtin .append,.IW ty s y=>(match c.args.toList,c.argTypes.toList with
   |[x1,x2],[t,t']=>cz R x1 s&&cz R x2 y&&(match R.T.d t,R.T.d t' with
    | .slice e,.str=>Nat.beq (R.ty ty) e&&Nat.beq (R.T.s e) 1&&(R.T.d e).ok&&bH (R.T.z e)&&Nat.beq (cells (R.T.z e)).length (R.T.s e)
    |_,_=>false)
   |_,_=>false)
 |_,_=>false
def dc(R:Env)(o:Op)(i:vp):Bool:=
 match o,i with
 | .move x,.mv y=>cz R x y
 | .assign x,.mv y=>cz R x y
 | .pick c a b,.pick c' a' b'=>cz R c c'&&cz R a a'&&cz R b b'
 | .alloc t,.alloc ty z=>Nat.beq (R.ty ty) t&&(R.T.d t).ok&&bH (R.T.z t)&&rp (cells (R.T.z t)) z
 | .box t x,.box ty y=>Nat.beq (R.ty ty) t&&cz R x y
 | .build t ps,.build z qs=>bH (R.T.z t)&&Nat.beq (cells (R.T.z t)).length (R.T.s t)&&rp (cells (R.T.z t)) z&&(match R.T.d t with
   | .struct fs=>E3 R.T.d fs&&C0 R fs ps.toList qs
   | .arr _ e=>(R.T.d e).ok&&C1 R (R.T.s e) ps.toList qs
   |_=>false)
 | .buildSlice t len ps,.aJ ty sz len' z qs=>(match R.T.d t with
   | .slice e=>Nat.beq (R.ty ty) e&&Nat.beq (R.T.s e) sz&&Nat.beq len len'&&(R.T.d e).ok&&bH (R.T.z e)&&rp (cells (R.T.z e)) z&&Nat.beq (cells (R.T.z e)).length sz&& !Nat.beq sz 0&&Nat.ble (len*sz) 16777216&&C2 R ps.toList qs
   |_=>false)
 | .load t a,.load ag n y=>(R.T.d t).ok&&fA (R.T.d t).ag ag&&Nat.beq (R.T.s t) n&&cz R a y
 | .store t a x,.store n y u=>(R.T.d t).ok&&Nat.beq (R.T.s t) n&& !Nat.beq n 0&&cz R a y&&cz R x u
 | .nilCheck x,.aA y=>cz R x y
 | .binOp op _ x y _,.bin op' x' y'=>Nat.beq (MQ op) (MQ op')&&cz R x x'&&cz R y y'
 | .binOp op t x y _,.eqb neg x' y'=>isEq op neg&&cz R x x'&&cz R y y'&&(match R.P.underlying t with
   |some .bool=>true
   |_=>false)
 | .binOp op t x y _,.EO neg ls x' y'=>isEq op neg&&cz R x x'&&cz R y y'&& !R.P.eqGuardType R.P.depth t&&aN R.P t&&(match mU R.P 8 t with
   |some l=>C3 l ls
   |none=>false)
 | .binOp op _ x y _,.YS op' x' y'=>Nat.beq (MQ op) (MQ op')&&cz R x x'&&cz R y y'
 | .unOp op _ x,.un op' x'=>Nat.beq (RP op) (RP op')&&cz R x x'
 | .convert s t x,.conv k y=>(R.T.d s).ok&&(match R.T.d t with
   | .int k'=>rK k' k
   |_=>false)&&cz R x y
 | .convert s t x,.RB y=>(R.T.d s).ok&&(match R.T.d t with
   | .str=>true
   |_=>false)&&cz R x y
 | .makeFunc (.func f) first aP,.QC g cs=>first.isEmpty&&Nat.beq (R.ft g) f&&oj R aP.toList cs
 | .fieldAddr s x f,.bE off y=>cz R x y&&(match R.T.d s with
   | .struct fs=>(match fs[f]? with
     |some (o,ft)=>Nat.beq o off&&(R.T.d ft).ok&& !Nat.beq (R.T.s ft) 0
     |none=>false)
   |_=>false)
 | .indexAddr t x j,.IV sz y i=>cz R x y&&cz R j i&&(match R.T.d t with
   | .slice e=>Nat.beq (R.T.s e) sz&&(R.T.d e).ok
   |_=>false)
 | .indexAddr t x j,.aD m sz y i=>cz R x y&&cz R j i&&(match R.T.d t with
   | .arr k e=>Nat.beq k m&&Nat.beq (R.T.s e) sz&&(R.T.d e).ok
   |_=>false)
 | .slice t x a b c,.gN ty sz y l h m=>cz R x y&&rq R a l&&rq R b h&&rq R c m&&(match R.T.d t with
   | .slice e=>Nat.beq (R.ty ty) e&&Nat.beq (R.T.s e) sz&&(R.T.d e).ok
   |_=>false)
 | .slice t x a b c,.rm m sz y l h mx=>cz R x y&&a.isNone&&b.isNone&&c.isNone&&l.isNone&&h.isNone&&mx.isNone&&Nat.ble m 1000000&&(match R.T.d t with
   | .arr k e=>Nat.beq k m&&Nat.beq (R.T.s e) sz&&(R.T.d e).ok
   |_=>false)
 | .slice t x a b c,.oS m sz y l h=>cz R x y&&rq R a l&&rq R b h&&c.isNone&&Nat.ble m 1000000&&(match R.T.d t with
   | .arr k e=>Nat.beq k m&&Nat.beq (R.T.s e) sz&&(R.T.d e).ok
   |_=>false)
 | .slice t x a b c,.AD sz y h=>cz R x y&&a.isNone&&rq R b (some h)&&c.isNone&&(match R.T.d t with
   | .slice e=>Nat.beq (R.T.s e) sz&&(R.T.d e).ok
   |_=>false)
 | .makeSlice t l c,.Xg ty sz z l' c'=>cz R l l'&&cz R c c'&&(match R.T.d t with
   | .slice e=>Nat.beq (R.ty ty) e&&Nat.beq (R.T.s e) sz&&(R.T.d e).ok&&bH (R.T.z e)&&rp (cells (R.T.z e)) z&&Nat.beq (cells (R.T.z e)).length sz&& !Nat.beq sz 0
   |_=>false)
 | .convert s t x,.Lk y=>Nat.beq s t&&cz R x y&&(match R.T.d t with
   | .slice e=>(match R.T.d e with
     | .int .u8=>true
     |_=>false)
   |_=>false)
 | .convert s t x,.s2b ty y=>cz R x y&&(match R.T.d s,R.T.d t with
   | .str,.slice e=>Nat.beq (R.ty ty) e&&(match R.T.d e with
     | .int .u8=>true
     |_=>false)
   |_,_=>false)
 | .slice t x a b c,.RD y l h=>cz R x y&&rq R a l&&rq R b h&&c.isNone&&(match R.T.d t with
   | .str=>true
   |_=>false)
 | .binOp op t x (.const c) _,.B0 neg x'=>isEq op neg&&cz R x x'&&(match c,R.P.underlying t with
   | .pointer none,some (.pointer _)=>true
   |_,_=>false)
 | .binOp op t x (.const c) _,.yb neg x'=>isEq op neg&&cz R x x'&&(match c,R.P.underlying t with
   | .slice none 0 0,some (.slice _)=>true
   |_,_=>false)
 | .binOp op t x (.const c) _,.IT neg x'=>isEq op neg&&cz R x x'&&(match c,R.P.underlying t with
   | .map none,some (.map _ _)=>true
   |_,_=>false)
 | .sliceToArrayPointer t x,.Mx m sz y=>cz R x y&&(match R.T.d t with
   | .arr k e=>Nat.beq k m&&Nat.beq (R.T.s e) sz&&(R.T.d e).ok
   |_=>false)
 | .field t x f,.IU ag off n y=>cz R x y&&(match R.T.d t with
   | .struct fs=>(match fs[f]? with
     |some (o,ft)=>Nat.beq o off&&(R.T.d ft).ok&&Nat.beq (R.T.s ft) n&&fA (R.T.d ft).ag ag
     |none=>false)
   |_=>false)
 | .slice t x a b c,.Lj ty sz y=>cz R x y&&a.isNone&&Xo b&&Xo c&&(match R.T.d t with
   | .slice e=>Nat.beq (R.ty ty) e&&Nat.beq (R.T.s e) sz&&(R.T.d e).ok
   |_=>false)
 | .index t x j,.CW ag m sz y i=>cz R x y&&cz R j i&&(match R.T.d t with
   | .arr k e=>Nat.beq k m&&Nat.beq (R.T.s e) sz&&(R.T.d e).ok&&fA (R.T.d e).ag ag
   |_=>false)
 | .index t x j,.RC y i=>cz R x y&&cz R j i&&(match R.T.d t with
   | .str=>true
   |_=>false)
 | .convert s t x,.Xf y=>cz R x y&&(match R.T.d s,R.T.d t with
   | .slice e,.str=>(match R.T.d e with
     | .int .u8=>true
     |_=>false)
   |_,_=>false)
 | .extract x i,.ext y j=>cz R x y&&Nat.beq i j
 | .makeMap _ none,.MB _ _ _ sz=> !Nat.beq sz 0
 | .lookup t x y ok,.Xh ls ag _ z I8 x' y'=>fA ok I8&&cz R x x'&&cz R y y'&&sV R t ls ag&&(match R.T.d t with
   | .map _ e=>(R.T.d e).ok&&AL (R.T.z e) z
   |_=>false)
 | .mapUpdate t x y v,.Ip ls ag _ x' y' v'=>cz R x x'&&cz R y y'&&cz R v v'&&sV R t ls ag
 | .insert t x y v,.Ip ls ag _ x' y' v'=>cz R x x'&&cz R y y'&&cz R v v'&&sV R t ls ag
 | .mapEntry t x y,.YT ls ag _ z x' y'=>cz R x x'&&cz R y y'&&sV R t ls ag&&(match R.T.d t with
   | .map _ e=>(R.T.d e).ok&&AL (R.T.z e) z
   |_=>false)
 | .lookup t x y false,.MD ls ag x' y'=>cz R x x'&&cz R y y'&&sV R t ls ag&&(match R.T.d t with
   | .map _ e=>(R.T.d e).ok&&AL (R.T.z e) (.int .i64 0)
   |_=>false)
 | .mapEntry t x y,.enc ls ag x' y'=>cz R x x'&&cz R y y'&&sV R t ls ag&&(match R.T.d t with
   | .map _ e=>(R.T.d e).ok&&AL (R.T.z e) (.int .i64 0)
   |_=>false)
 | .entryStore _ x st v,.YU _ x' st' v'=>cz R x x'&&cz R st st'&&cz R v v'
 | .range t x,.RF y=>cz R x y&&(match R.T.d t with
   | .map _ _=>true
   |_=>false)
 | .next x false,.Xi y=>cz R x y
 | .entry x,.Mi y=>cz R x y
 | .call c,i=>bB R c i
 |_,_=>false
end Go.AM
namespace Go.AM
open Go.RowKit
variable {P:Program} {T:TT} {X:bL} {o:Oper} {F:aT} {M:bf}
theorem C4(hT:cN P T){t f off e:Nat}{fs:List (Nat × Nat)}{x:Operand}{cs:List AV}{K:AV->Prop}(ht:T.d t= .struct fs)(RQ:fs[f]? =some (off,e))(hok:(T.d e).ok=true)(ho:o.op= .field t x f)(hx:ev F x= .agg cs)
  (h:apart (T.d e).ag (T.s e) off cs K):∃av,bC P X o F M av [] []/\K av:=by
 have hx':x ∈ o.op.operands.toList:=by simp[ho,Op.operands]
 obtain⟨D,it,z,hD,hf,_⟩:=hT t (by rw[ht]; simp)
 rw[ht]at hf
 obtain⟨gs,rfl,Ma⟩:=jx rfl hf
 obtain⟨De,ie,_,xX,Fw,hie,lr,_⟩:=hT e (TD.dB hok)
 obtain⟨av,h1,h2,h3,h4⟩:=fL h
 obtain⟨fd,hfd,hfo,hft⟩:∃fd,gs[f]? =some fd/\fd.offset=off/\fd.type=e:=by
  rw[Ma,List.getElem?_map]at RQ
  cases hg:gs.toList[f]? with
  |none=>simp[hg]at RQ
  |some fd=>
   simp only[hg,Option.map_some,Option.some.injEq,Prod.mk.injEq]at RQ
   exact⟨fd,by simpa using hg,RQ.1,RQ.2⟩
 refine⟨av,aB fun M' N ρ I ac w hW hU hN=> ?_,h4⟩
 have r1:=ao hU x hx'
 rw[hx]at r1
 generalize hv:ac.eval x=v at r1
 have hle:off+T.s e<=cs.length\/ T.s e=0:=by
  simp only[List.length_take,List.length_drop]at h1; omega
 cases r1 with
 |agg _ vs hvl EK Mr=>
  have Fx:∃u,(part e vs.toArray off).run P w= .ok u w/\aL ρ (lens M') I w N av u:=by
   unfold part
   simp only[Sem.run_bind,nV xX Fw,Result.andThen_ok]
   cases jq:(T.d e).ag with
   |true=>
    simp only[if_pos,Sem.run_bind,bt hie,Result.andThen_ok,Sem.run_pure]
    refine⟨_,rfl,?_⟩
    rw[h2,jq,if_pos rfl,lr]
    have hex:vs.toArray.extract off (off+T.s e)=((vs.drop off).take (T.s e)).toArray:=by
     apply Array.ext'
     simp
    rw[hex]
    refine .agg _ _ (by rw[h1]; simp only[List.length_take,List.length_drop]; omega) (fun u hu=>EK u (List.mem_of_mem_drop (List.mem_of_mem_take hu))) (fun i hi=> ?_)
    rw[h1]at hi
    rw[da _ _ _ _ _ hi,da _ _ _ _ _ hi]
    exact Mr (off+i) (by omega)
   |false=>
    have h5:=h3 jq
    have hlt:off<cs.length:=by omega
    have wN:off<vs.length:=by omega
    simp only[Bool.false_eq_true,if_false]
    have:vs.toArray[off]? =some vs[off]:=by simp[wN]
    rw[this]
    refine⟨_,Sem.run_pure _ _ _,?_⟩
    rw[h2,jq,h5]
    have e1:((cs.drop off).take 1).headD .bad=cs.getD off .bad:=by
     rw[List.drop_eq_getElem_cons hlt,List.take_succ_cons]
     simp[List.getD_eq_getElem?_getD,hlt]
    simp only[Bool.false_eq_true,if_false,e1]
    have:=Mr off hlt
    rwa[show vs.getD off default=vs[off] by simp[List.getD_eq_getElem?_getD,wN]]at this
  obtain⟨u,hu,hr⟩:=Fx
  refine⟨u,?_,hr⟩
  simp only[execOp,ho,hv,Instr.field,asAgg,Sem.run_bind,Sem.run_pure,Result.andThen_ok,run_underlying hD,hfd,hfo,hft,hu]
theorem sW{a b:List AV}{sz j:Nat}(h:a.length=sz):(a++b).getD j .bad=if j<sz then a.getD j .bad else b.getD (j - sz) .bad:=by
 subst h
 by_cases hlt:j<a.length
 ·rw[if_pos hlt]; simp[List.getD_eq_getElem?_getD,List.getElem?_append_left hlt]
 ·rw[if_neg hlt]; simp[List.getD_eq_getElem?_getD,List.getElem?_append_right (Nat.le_of_not_lt hlt)]
theorem wV(hT:cN P T){t m e n len i off cnt:Nat}{x:Operand}{Ml:Mem}{b:be}(hM:M=aa Ml)(ht:T.d t= .arr m e)(ho:o.op= .sliceToArrayPointer t x)(hx:ev F x= .dm n len i off cnt)(hb:aa Ml n=some b)(hl:b.ln=len)(hm:m<=cnt):
  bC P X o F M (.loc n len i off) [] []:=by
 have hx':x ∈ o.op.operands.toList:=by simp[ho,Op.operands]
 obtain⟨D,it,z,hD,hf,_⟩:=hT t (by rw[ht]; simp)
 obtain rfl:=dX ht hf
 refine aB fun M' N ρ I ac w hW hU hN=> ?_
 have r1:=ao hU x hx'
 rw[hx]at r1
 obtain⟨sl,dJ,fi⟩:=bg (F:=F) x hx' (n:=n) (by rw[hx]; simp[AV.names])
 have bM:M' n=some b:=(hN sl dJ n fi).trans (by rw[hM]; exact hb)
 have dr:lens M' n=some (len,b.sz):=by rw[az]; exact⟨b,bM,hl,rfl⟩
 obtain⟨hn,g,cap,c,hρ,hv,hc1,jU⟩:=jy r1 dr
 refine⟨.pointer (some ⟨g,i*b.sz+off,none⟩),?_,.loc n len i off _ hn rfl fun l sz h=> ?_⟩
 ·simp only[execOp,ho,hv,Instr.arrayAt,Sem.run_bind,Sem.run_pure,Result.andThen_ok,run_underlying hD,if_neg (Nat.not_lt.2 hm)]
 ·rw[dr]at h
  simp only[Option.some.injEq,Prod.mk.injEq]at h
  obtain⟨rfl,rfl⟩:=h
  exact⟨Nat.le_refl _,fun _=>⟨g,cap,hρ,rfl⟩⟩
theorem FW(hT:cN P T){t m e sz:Nat}{x:Operand}{es:List (List AV)}(ht:T.d t= .arr m e)(ho:o.op= .sliceToArrayPointer t x)(hx:ev F x= .aG sz es)(hm:m<=es.length)(h0:0<m):
  bC P X o F M (.bc (es.take m).flatten 0) [] []:=by
 have hx':x ∈ o.op.operands.toList:=by simp[ho,Op.operands]
 obtain⟨D,it,z,hD,hf,_⟩:=hT t (by rw[ht]; simp)
 obtain rfl:=dX ht hf
 refine aB fun M' N ρ I ac w hW hU hN=> ?_
 have r1:=ao hU x hx'
 rw[hx]at r1
 generalize hv:ac.eval x=v at r1
 cases r1 with
 |cI=>simp at hm; omega
 |aG _ _ b q cap c hl hc hI hs h1 hcell hr=>
  refine⟨.pointer (some ⟨b,q,none⟩),?_,?_⟩
  ·simp only[execOp,ho,hv,Instr.arrayAt,Sem.run_bind,Sem.run_pure,Result.andThen_ok,run_underlying hD,if_neg (Nat.not_lt.2 hm)]
  ·have hfl:(es.take m).flatten.length=m*sz:=by
    rw[List.length_flatten,show (es.take m).map List.length=List.replicate m sz from ?_]
    ·simp
    ·apply List.ext_getElem
     ·simp; omega
     ·intro i hi hi'
      simp at hi ⊢
      exact hs _ (List.getElem_mem _)
   have C5:∀j,j<m*sz->j / sz<es.length/\j % sz<sz/\(es.take m).flatten.getD j .bad=(es.getD (j / sz) []).getD (j % sz) .bad:=by
    intro j hj
    have hsz:0<sz:=by
     rcases Nat.eq_zero_or_pos sz with h|h
     ·subst h; simp at hj
     ·exact h
    have hd:j / sz<m:=Nat.div_lt_of_lt_mul (by rw[Nat.mul_comm]; exact hj)
    refine⟨by omega,Nat.mod_lt _ hsz,?_⟩
    have key:∀(l:List (List AV))(j:Nat),(∀e ∈ l,e.length=sz)->l.flatten.getD j .bad=(l.getD (j / sz) []).getD (j % sz) .bad:=by
     intro l
     induction l with
     |nil=>intro j _; simp
     |cons a r ih=>
      intro j hl
      have ha:=hl a List.mem_cons_self
      rw[List.flatten_cons,sW ha]
      by_cases hlt:j<sz
      ·rw[if_pos hlt,Nat.div_eq_of_lt hlt,Nat.mod_eq_of_lt hlt]; rfl
      ·rw[if_neg hlt,ih (j - sz) (fun e he=>hl e (List.mem_cons_of_mem _ he))]
       have e1:j / sz=(j - sz) / sz+1:=by
        rw[Nat.div_eq_sub_div hsz (by omega)]
       have e2:j % sz=(j - sz) % sz:=by
        rw[Nat.mod_eq_sub_mod (by omega)]
       rw[e1,e2]; simp
    rw[key _ _ (fun e he=>hs e (List.mem_of_mem_take he))]
    congr 1
    simp[List.getD_eq_getElem?_getD,List.getElem?_take,hd]
   refine .bc _ 0 b q (fun j=>c (j / sz) (j % sz)) hI (fun j hj=> ?_) (fun j hj=> ?_) (fun j hj=> ?_)
   ·rw[hfl]at hj
    obtain⟨a1,a2,_⟩:=C5 j hj
    exact h1 _ _ a1 a2
   ·rw[hfl]at hj
    obtain⟨a1,a2,_⟩:=C5 j hj
    have:=hcell _ _ a1 a2
    have e:q+j / sz*sz+j % sz=q+j:=by rw[Nat.add_assoc,Nat.div_add_mod' j sz]
    rwa[e]at this
   ·rw[hfl]at hj
    obtain⟨a1,a2,a3⟩:=C5 j hj
    rw[a3]; exact hr _ _ a1 a2
theorem uN{neg:Bool}{t k e:TypeId}{y:Operand}{x:Operand}{q:Option Nat}{w:World}(hu:P.underlying t=some (.map k e)):
  (do eqGuard (if neg then .neq else .eql) t x y (.map q) (.map none); binOp (if neg then .neq else .eql) t (.map q) (.map none):Sem Value).run P w= .ok (.bool (if neg then !q.isNone else q.isNone)) w:=by
 have e1:=run_equal_map_nil (P:=P) (w:=w) t k e q hu
 cases neg<;>simp[Sem.run_bind,eqGuard,binOp,e1]
theorem oW{neg:Bool}{t k e yt:TypeId}{x:Operand}{b:Bool}{Ml:Mem}(hM:M=aa Ml)(ho:o.op= .binOp (if neg then .neq else .eql) t x (.const (.map none)) yt)(hu:P.underlying t=some (.map k e))
  (hx:(ev F x= .bP/\b=true)\/(∃n bl,ev F x= .omap n/\aa Ml n=some bl/\bl.ln=0)/\b=false):bC P X o F M (.bool (if neg then !b else b)) [] []:=by
 have hx':x ∈ o.op.operands.toList:=by simp[ho,Op.operands]
 refine aB fun M' N ρ I ac w hW hU hN=> ?_
 have r1:=ao hU x hx'
 have key:∃q:Option Nat,ac.eval x= .map q/\q.isNone=b:=by
  rcases hx with⟨h,rfl⟩|⟨⟨n,bl,h,hb,hl⟩,rfl⟩
  ·rw[h]at r1
   generalize ac.eval x=v at r1
   cases r1
   exact⟨none,rfl,rfl⟩
  ·rw[h]at r1
   obtain⟨sl,dJ,fi⟩:=bg (F:=F) x hx' (n:=n) (by rw[h]; simp[AV.names])
   have bM:M' n=some bl:=(hN sl dJ n fi).trans (by rw[hM]; exact hb)
   have dr:lens M' n=some (0,bl.sz):=by rw[az]; exact⟨bl,bM,hl,rfl⟩
   generalize ac.eval x=v at r1
   cases r1 with
   |omap _ _ hn h1 h=>
    obtain⟨g,cap,_,hv⟩:=h _ dr
    exact⟨_,hv,rfl⟩
 obtain⟨q,hv,hq⟩:=key
 refine⟨_,?_,.bool _⟩
 have e1:=uN (P:=P) (neg:=neg) (y:= .const (.map none)) (x:=x) (q:=q) (w:=w) hu
 rw[hq]at e1
 have hc:ac.eval (.const (.map none))= .map none:=rfl
 simp only[execOp,ho,hv,hc]
 simp only[Sem.run_bind]at e1 ⊢
 rw[e1]
 simp
end Go.AM
