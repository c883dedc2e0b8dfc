/- Of the reckoning machine, and what is proved with it: texts joined by program. -/
import Derived.Test.YtnfgjmbcfcnieaaGreatK0
import Derived.RangeFuncRecord
import Derived.Laws.StructEq
import Derived.ChangeKeysEq
import Derived.Laws.Cover3
import Derived.Laws.Pointers
import Derived.Laws.BytesString
import Derived.Laws.MakeOwn
import Derived.Lib.ConvBytes
import Derived.WideKeyRuns
set_option linter.all false
namespace Go.AM
open Go.RowKit
def oU(w:World)(l:Nat):Prop:=∀off,w.cell? ⟨l,off,none⟩=none
theorem qO{w:World}{l:Nat}{r:Option (List Deferred)}(h:w.heap[l]? =some (.deferred r)):oU w l:=fun off=>by simp[World.cell?,h]
theorem fe{w:World}{l k:Nat}{o:Obj}(h:k≠l):(w.putObj l o).heap[k]? =w.heap[k]? :=World.putObj_heap_other (by omega)
theorem putObj_size(w:World)(l:Nat)(o:Obj):(w.putObj l o).heap.size=w.heap.size:=by simp[World.putObj]
theorem vG{w:World}{l:Nat}{o:Obj}(hc:oU w l){b off:Nat}{v:Value}(h:w.cell? ⟨b,off,none⟩=some v):(w.putObj l o).cell? ⟨b,off,none⟩=some v:=by
 have hb:b≠l:=fun e=>by subst e; rw[hc]at h; simp at h
 exact (cell_of_heap (fe hb)).trans h
theorem aP.J4{ρ:Place}{L:bi}{I:Nat->Prop}{w:World}{l:Nat}(o:Obj)(hc:oU w l){N:Nat->Prop}{a:AV}{v:Value}(h:aP ρ L I w N a v):aP ρ L I (w.putObj l o) N a v:=by
 induction h with
 |int k n=>exact .int k n
 |bool b=>exact .bool b
 |str s=>exact .str s
 |bM=>exact .bM
 |ai=>exact .ai
 |aw=>exact .aw
 |ep=>exact .ep
 |cj=>exact .cj
 |nE n r=>exact .nE n r
 |loc n len i off v hn h1 h=>exact .loc n len i off v hn h1 h
 |aV n len v hn h1 h=>exact .aV n len v hn h1 h
 |eD n len i off cr v hn h1 h=>exact .eD n len i off cr v hn h1 h
 |omap n v hn h1 h=>exact .omap n v hn h1 h
 |c7 sz a cap hc=>exact .c7 sz a cap hc
 |aD sz es b o cap c hl oi hI hs h1 hcell hr ih=>exact .aD sz es b o cap c hl oi hI hs h1 (fun i j hi hj=>vG hc (hcell i j hi hj)) ih
 |bz e off b o c hI h1 hcell hr ih=>exact .bz e off b o c hI h1 (fun j hj=>vG hc (hcell j hj)) ih
 |ce f aZ vs hl hr ih=>exact .ce f aZ vs hl ih
 |rn f aZ vs hl hr ih=>exact .rn f aZ vs hl ih
 |agg cs vs hl h1 hr ih=>exact .agg cs vs hl h1 ih
 |aQ cs vs hl hr ih=>exact .aQ cs vs hl ih
 |bad v=>exact .bad v
section
variable {C:cE} {ρ:Place} {I:Nat->Prop} {M:bA} {N:Nat->Prop} {w:World} {l:Nat}
theorem GO(o:Obj)(hc:oU w l)(hI:I l){Y2:World}(h0:Y2.heap.size=C.w0.heap.size){n:Nat}{b:bD}(B:se C ρ (lens M) I w N n b):se {C with w0:=Y2} ρ (lens M) I (w.putObj l o) N n b:=by
 refine⟨B.lt,B.even,B.eW,fun g cap hg=> ?_,fun k ka va r sn la hb=> ?_⟩
 rotate_left
 ·obtain⟨g,cap,hg,i1,i2,i3⟩:=B.iter k ka va r sn la hb
  obtain⟨_,_,_,_,kw,_⟩:=B.real g cap hg
  exact⟨g,cap,hg,by show Y2.heap.size<=r; omega,i2,i3.at (fe fun e=>kw (e ▸ hI)) (fe fun e=>i2 (e ▸ hI))⟩
 obtain⟨cs,fr,hc1,DV,kw,si,Cz,AO,DW,DX⟩:=B.real g cap hg
 have hne:g≠l:=fun e=>kw (e ▸ hI)
 refine⟨cs,fr,hc1.at (fe hne),DV,kw,?_,Cz,AO,DW,fun i j hi hj=> ?_⟩
 ·rcases si with h|h
  ·exact .inl h
  ·exact .inr (by show Y2.heap.size<=g; omega)
 ·obtain⟨u,hu,pS,hr⟩:=DX i j hi hj
  exact⟨u,hu,pS,hr.J4 o hc⟩
theorem db.J4(h:db C ρ I M N w)(o:Obj)(hc:oU w l)(hI:I l)(hl:C.w0.heap.size<=l):db C ρ I M N (w.putObj l o):=by
 refine⟨fun n b hb=>GO o hc hI rfl (h.bf n b hb),h.inj,h.rp,fun g hg=>by rw[putObj_size]; exact h.lt g hg,h.old,?_,h.pn,h.JF,h.par⟩
 exact⟨h.keeps.os,h.keeps.tape,h.keeps.output,h.keeps.drawn,by rw[putObj_size]; exact h.keeps.size,fun g hg hf=>(fe (by omega)).trans (h.keeps.block g hg hf)⟩
end
end Go.AM
namespace Go.AM
open Go.RowKit
variable {P:Program} {T:TT} {X:cE}
theorem GP{S:St}{a:Act}{w w1:World}{ρ:Place}{I:Nat->Prop}(hF:lJ ρ I w X S a){av:AV}{ws:List (Nat × bD)}{v:Value}{bo:Nat}{nw:List Nat}{d:Option Nat}
  (Bf:∀p ∈ ws,p.1<bo) (hle:S.nx<=bo) (hd:∀x,d=some x->x<X.size) (hp:iz X (ab S.M) (· <S.nx) ρ I w av ws v w1):
  ∃ρ1 I1,(∀g,I g->I1 g)/\(∀g,I g->w1.heap[g]? =w.heap[g]?)/\db X ρ1 I1 (ab (dh S.M ws)) (· <bo) w1/\lJ ρ1 I1 w1 X ⟨iX S.F d av,dh S.M ws,bo⟩ (a.put d v):=by
 obtain⟨ρ1,I1,E,W,R⟩:=hp
 have hN:∀m,gV (· <S.nx) ws m->m<bo:=by
  rintro m (h|⟨b,h⟩)
  ·have:m<S.nx:=h
   omega
  ·exact Bf _ h
 have hM:ab (dh S.M ws)=dO (ab S.M) ws:=so ws S.M
 refine⟨ρ1,I1,E.rp,E.cell,?_,?_,?_,?_⟩
 ·show db X ρ1 I1 (ab (dh S.M ws)) (· <bo) w1
  rw[hM]
  refine⟨fun n b hb=> ?_,W.inj,W.rp,W.lt,W.old,W.keeps,fun n hn=>hN n (W.pn n hn),W.JF,W.par⟩
  have B:=W.bf n b hb
  refine⟨hN n B.lt,B.even,B.eW,fun g cap hρ=> ?_,B.iter⟩
  obtain⟨cs,fr,hc1,DV,kw,si,Cz,AO,DW,DX⟩:=B.real g cap hρ
  refine⟨cs,fr,hc1,DV,kw,si,Cz,AO,DW,fun i j hi hj=> ?_⟩
  obtain⟨u,hu,pS,hr⟩:=DX i j hi hj
  exact⟨u,hu,pS,hr.wide hN⟩
 ·intro i
  show aP ρ1 (lens (ab (dh S.M ws))) I1 w1 (· <bo) (look (iX S.F d av) i) ((a.put d v).tmps.getD i undef)
  rw[hM]
  rcases yH (a:=a) (d:=d) (v:=v) (F:=S.F) (av:=av) (i:=i) hF.size hd with⟨h1,h2⟩|⟨h1,h2⟩
  ·rw[h1,h2]; exact R.wide hN
  ·rw[h1,h2]; exact ((hF.rep i).yr E (fun _ h=>h)).wide (fun m h=>by have:m<S.nx:=h; show m<bo; omega)
 ·cases d<;>exact hF.defers.yr E
 ·cases d with
  |none=>exact hF.size
  |some x=>simpa[Act.put]using hF.size
theorem oV{S:St}{a:Act}{w w1:World}{ρ:Place}{I:Nat->Prop}(hF:lJ ρ I w X S a){av:AV}{ws:List (Nat × bD)}{v:Value}{bo:Nat}{nw:List Nat}{d:Option Nat}
  (Bf:∀p ∈ ws,p.1<bo) (hle:S.nx<=bo) (hd:∀x,d=some x->x<X.size) (hp:iz X (ab S.M) (· <S.nx) ρ I w av ws v w1):jH X ⟨iX S.F d av,dh S.M ws,bo⟩ (a.put d v) w1:=by
 obtain⟨ρ1,I1,_,_,h1,h2⟩:=GP (nw:=nw) hF Bf hle hd hp
 exact⟨ρ1,I1,h1,h2⟩
theorem GQ{a:Act}{F:bh}{b:Bool}{s:Nat}(h:a.tmps.getD s undef= .bool b)(i:Nat):look ((s,AV.bool b)::F) i=AV.bool b/\a.tmps.getD i undef= .bool b\/ look ((s,AV.bool b)::F) i=look F i:=by
 by_cases e:i=s
 ·subst e; exact .inl ⟨by simp[look],h⟩
 ·have hb:(i==s)=false:=by simpa using e
  exact .inr (by simp[look,hb])
theorem kG{S:St}{a:Act}{w:World}{s:Nat}{b:Bool}(h:jH X S a w)(hv:a.tmps.getD s undef= .bool b):jH X ⟨(s,.bool b)::S.F,S.M,S.nx⟩ a w:=by
 obtain⟨ρ,I,W,F⟩:=h
 refine⟨ρ,I,W,fun i=> ?_,F.defers,F.size⟩
 rcases GQ (F:=S.F) hv i with⟨h1,h2⟩|h1
 ·rw[h1,h2]; exact .bool _
 ·rw[h1]; exact F.rep i
theorem iY.steps{b:Frame}{R:St->Prop}{ks qP:List It}{a a':Act}{w w':World}(hs:∀cs,Steps P (lone (b.atR a (ks.map It.item)) cs w) (lone (b.atR a' (qP.map It.item)) cs w'))(hsub:∀c post k',(It.fD c post::k') <:+ qP->(It.fD c post::k') <:+ ks)
  (h:iY P X b R qP a' w'):iY P X b R ks a w:=by
 intro cs
 obtain⟨a2,w2,S2,hS,h1|h1⟩:=h cs
 ·obtain⟨todo,hl,h2,h3⟩:=h1
  exact⟨a2,w2,S2,hS,.inl ⟨todo,hl,(hs cs).trans h2,h3⟩⟩
 ·obtain⟨c,post,k',h2,h3,h4⟩:=h1
  exact⟨a2,w2,S2,hS,.inr ⟨c,post,k',hsub _ _ _ h2,(hs cs).trans h3,h4⟩⟩
section
variable {b:Frame} {a:Act} {w:World} {k:List Item} {cs:List Frame}
theorem step_scope{c:Code}:step P (lone (b.atR a (.code (.scope c)::k)) cs w)= .next (lone (b.atR a (.code c:: .inScope c::k)) cs w):=
 step_lone_go (by simp[stepG,stepG.exec,Frame.atR])
theorem step_inScope{c:Code}:step P (lone (b.atR a (.inScope c::k)) cs w)= .next (lone (b.atR a k) cs w):=
 step_lone_go (by simp[stepG,stepG.exec,Frame.atR])
end
theorem sI{b:Frame}{a:Act}{w:World}{cs:List Frame}{todo:List Item}(hb:b.roundOf=none)(h:CC b.roundOf.isSome todo):Steps P (lone (b.atR a todo) cs w) (lone {b.atR a todo with mode:= .returning} cs w):=by
 rcases h with rfl|⟨_,k,rfl⟩
 ·exact .one (stepR_end hb)
 ·exact .one (stepR_ret hb)
theorem oW{b:Frame}{a:Act}{w:World}{cs:List Frame}{todo:List Item}{ρ:Place}{I:Nat->Prop}{M:bA}{N:Nat->Prop}(W:db X ρ I M N w)(hd:lZ I w X a.defers):
  ∃w1,Steps P (lone {b.atR a todo with mode:= .returning} cs w) (lone {b.atR {a with defers:=[]} todo with mode:= .returning} cs w1)/\db X ρ I M N w1/\
   ∀N' av v,aP ρ (lens M) I w N' av v->aP ρ (lens M) I w1 N' av v:=by
 obtain⟨Ds,h1,h2,h3⟩:=hd
 obtain⟨tm,ds⟩:=a
 simp only at h1
 subst h1
 induction Ds generalizing w with
 |nil=>exact⟨w,.refl _ _,W,fun _ _ _ h=>h⟩
 |cons D Ds ih=>
  obtain⟨k1,k2,k3⟩:=h3 D List.mem_cons_self
  rw[List.nodup_cons]at h2
  have W':=W.J4 (.deferred none) (qO k3) k2 k1
  obtain⟨w1,s1,s2,s3⟩:=ih W' h2.2 (fun D' iG=>by
   obtain⟨q1,q2,q3⟩:=h3 D' (List.mem_cons_of_mem _ iG)
   exact⟨q1,q2,(fe (fun e=>h2.1 (by rw[<-e]; exact iG))).trans q3⟩)
  refine⟨w1,.head (step_lone_go ?_) s1,s2,fun N' av v h=>s3 _ _ _ (h.J4 _ (qO k3))⟩
  simp[stepG,unwind,Frame.atR,run_takeDeferred k3]
theorem fH{c:Nb}{post:St->Prop}{k' k:List It}{x y:It}(hx:∀c p,x≠ .fD c p)(h:(It.fD c post::k') <:+ x::k):(It.fD c post::k') <:+ y::k:=by
 rcases List.suffix_cons_iff.1 h with h|h
 ·exact (hx c post (List.cons.inj h).1.symm).elim
 ·exact h.trans (List.suffix_cons _ _)
theorem js{c:Nb}{post:St->Prop}{k' k:List It}{y:It}(h:(It.fD c post::k') <:+ k):(It.fD c post::k') <:+ y::k:=h.trans (List.suffix_cons _ _)
theorem eQ{id:Nat}:∀{k k':List It},Ng id k=some k'->k' <:+ k/\exitTo id (k.map It.item)=some (k'.map It.item)
 |[],k',h=>by simp[Ng]at h
 | .bf id'::k,k',h=>by
   simp only[Ng]at h
   by_cases Sx:id'=id
   ·subst Sx
    simp at h
    subst h
    exact⟨List.suffix_cons _ _,by simp[It.item,exitTo]⟩
   ·have hb:(id'==id)=false:=by simpa using Sx
    rw[hb]at h
    obtain⟨h1,h2⟩:=eQ (k:=k) h
    exact⟨h1.trans (List.suffix_cons _ _),by simp[It.item,exitTo,hb,h2]⟩
 | .code c::k,k',h=>by
   obtain⟨h1,h2⟩:=eQ (k:=k) h
   exact⟨h1.trans (List.suffix_cons _ _),by simp[It.item,exitTo,h2]⟩
 | .inl c::k,k',h=>by
   obtain⟨h1,h2⟩:=eQ (k:=k) h
   exact⟨h1.trans (List.suffix_cons _ _),by simp[It.item,exitTo,h2]⟩
 | .fD c p::k,k',h=>by
   obtain⟨h1,h2⟩:=eQ (k:=k) h
   exact⟨h1.trans (List.suffix_cons _ _),by cases c<;>simp[It.item,Nb.item,exitTo,h2]⟩
 | .mI c::k,k',h=>by
   obtain⟨h1,h2⟩:=eQ (k:=k) h
   exact⟨h1.trans (List.suffix_cons _ _),by simp[It.item,exitTo,h2]⟩
 | .ops all i r gd::k,k',h=>by
   obtain⟨h1,h2⟩:=eQ (k:=k) h
   exact⟨h1.trans (List.suffix_cons _ _),by simp[It.item,exitTo,h2]⟩
theorem Oi{size id:Nat}{nr:Bool}{k k':List It}(h:Ng id k=some k')(hk:∀x ∈ k,D4 size nr x):∀x ∈ k',D4 size nr x:=fun x hx=>hk x ((eQ h).1.subset hx)
theorem GR{c0:Code}{c:Nb}{post:St->Prop}{k' k:List It}(h:(It.fD c post::k') <:+ .code c0:: .inl c0::k):(It.fD c post::k') <:+ .inl c0::k:=by
 rcases List.suffix_cons_iff.1 h with h|h
 ·simp at h
 ·exact h
theorem Ec{c0 c1:Code}{c:Nb}{post:St->Prop}{k' k:List It}(h:(It.fD c post::k') <:+ .code c0:: .inl c0::k):(It.fD c post::k') <:+ .code c1::k:=by
 rcases List.suffix_cons_iff.1 h with h|h
 ·simp at h
 ·exact fH (by simp) h
end Go.AM
namespace Go.AM
open Go.RowKit
variable {P:Program} {T:TT} {X:cE}
def de:Place:=fun _=>none
def gG:bi:=fun _=>none
structure Tc(z:Bool)(w w':World):Prop extends Below w.heap.size w w' where
 drawn:(zd z w).drawn<=w'.drawn
abbrev Blw:=Tc false
def gH(z:Bool)(P:Program)(f:Nat)(args:List AV)(av:AV):Prop:=
 ∀I w vs,(∀g,I g->g<w.heap.size)->dB de gG I w cW args vs->
  Calls P f vs.toArray w fun e w1=>∃v I1,e= .returned v/\Tc z w w1/\(∀g,I g->I1 g)/\(∀g,I1 g->g<w1.heap.size)/\(∀g,g<w.heap.size->I1 g->I g)/\aP de gG I1 w1 cW av v
abbrev Bg:=gH false
mutual
theorem gI{N:Nat->Prop}:∀(a:AV),(∀m ∈ a.names,N m)->a.under N
 | .loc n len i off,h=>by simpa[AV.under]using h n (by simp[AV.names])
 | .aV n len,h=>by simpa[AV.under]using h n (by simp[AV.names])
 | .eD n len i off cr,h=>by simpa[AV.under]using h n (by simp[AV.names])
 | .omap n,h=>by simpa[AV.under]using h n (by simp[AV.names])
 | .ce f cs,h=>by simpa[AV.under]using eh cs (fun m hm=>h m (by simpa[AV.names]using hm))
 | .agg cs,h=>by simpa[AV.under]using eh cs (fun m hm=>h m (by simpa[AV.names]using hm))
 | .aQ cs,h=>by simpa[AV.under]using eh cs (fun m hm=>h m (by simpa[AV.names]using hm))
 | .int ..,_=>by simp[AV.under]
 | .bool ..,_=>by simp[AV.under]
 | .str ..,_=>by simp[AV.under]
 | .bM,_=>by simp[AV.under]
 | .ai,_=>by simp[AV.under]
 | .aw,_=>by simp[AV.under]
 | .ep,_=>by simp[AV.under]
 | .cj,_=>by simp[AV.under]
 | .nE ..,_=>by simp[AV.under]
 | .aD ..,_=>by simp[AV.under]
 | .bz ..,_=>by simp[AV.under]
 | .bad,_=>by simp[AV.under]
theorem eh{N:Nat->Prop}:∀(cs:List AV),(∀m ∈ AV.aB cs,N m)->AV.gx N cs
 |[],_=>by simp[AV.gx]
 |c::cs,h=>by
  simp only[AV.gx]
  exact⟨gI c (fun m hm=>h m (by simp[AV.aB,hm])),eh cs (fun m hm=>h m (by simp[AV.aB,hm]))⟩
end
theorem aP.alone{ρ:Place}{L:bi}{I:Nat->Prop}{w:World}{N:Nat->Prop}{a:AV}{v:Value}(h:aP ρ L I w N a v)(hn:a.names=[])(ρ':Place)(L':bi):aP ρ' L' I w cW a v:=
 (h.low (N':=cW) (gI a (fun m hm=>by rw[hn]at hm; simp at hm))).bare (fun _ h=>h) ρ' L'
theorem dY{cs:List AV}(h:AV.aB cs=[])(j:Nat):(cs.getD j .bad).names=[]:=by
 induction cs generalizing j with
 |nil=>simp[AV.names]
 |cons c cs ih=>
  simp only[AV.aB,List.append_eq_nil_iff]at h
  cases j with
  |zero=>simpa using h.1
  |succ j=>simpa using ih h.2 j
theorem dB.alone{ρ:Place}{L:bi}{I:Nat->Prop}{w:World}{N:Nat->Prop}{as:List AV}{vs:List Value}(h:dB ρ L I w N as vs)(hn:AV.aB as=[])(ρ':Place)(L':bi):dB ρ' L' I w cW as vs:=
 ⟨h.1,fun j hj=>(h.2 j hj).alone (dY hn j) ρ' L'⟩
theorem gH.Td{z:Bool}{f:Nat}{args:List AV}{av:AV}(h:gH z P f args av)(hz:yu z X)(hn:AV.aB args=[])(M:bA):CA P X f args M av [] []:=by
 refine⟨fun p hp=>by simp at hp,fun M' N ρ I w vs hW _ _ hR=> ?_⟩
 refine (h I w vs hW.lt (hR.alone hn _ _)).mono ?_
 rintro e w1 ⟨v,I1,rfl,hb,h1,h2,h3,hr⟩
 obtain⟨E,W⟩:=hW.ext' (w':=w1) (I':=I1) hb.os hb.tape hb.output hb.size hb.block h1 h2 h3 (hz.le hW.keeps.drawn hb.drawn)
 refine⟨v,rfl,ρ,I1,E,by rw[p6]; exact W,?_⟩
 exact ((hr.bare (fun _ h=>h) ρ (lens M')).wide (fun _ h=>h.elim))
def cZ(P:Program)(f:Nat):Prop:=∃fn,P.funcs[f]? =some fn/\(fn.name== "runtime.NumGoroutine")=false/\fn.body.isNone=false
def oX(T:TT):List ResultVar->bh->Mem->(List AV->Prop)->Prop
 |[],_,_,K=>K []
 | .tmp t::r,F,M,K=>oX T r F M fun vs=>K (look F t::vs)
 | .cell a t::r,F,M,K=>j9 (T.d t).ok (nG T t (look F a) M fun v=>oX T r F M fun vs=>K (v::vs))
def one(vs:List AV):AV:=match vs with
 |[v]=>v
 |vs=> .aQ vs
section
variable {I:Nat->Prop} {w:World} {ρ:Place} {M:Mem} {N:Nat->Prop}
def rP(tmps:Array Value):ResultVar->Sem Value
 | .tmp t=>pure (tmps.getD t undef)
 | .cell a t=>do loadVar t (<-asAddr (tmps.getD a undef))
theorem me(hT:dD P T)(hW:db X ρ I (ab M) N w){F:bh}{tmps:Array Value}(hF:∀i,aP ρ (lens (ab M)) I w N (look F i) (tmps.getD i undef)):∀{rs:List ResultVar}{K:List AV->Prop},oX T rs F M K->
  ∃ff vs,K ff/\dB ρ (lens (ab M)) I w N ff vs/\(rs.mapM (rP tmps)).run P w= .ok vs w/\vs.length=rs.length
 |[],K,h=>⟨[],[],h,⟨rfl,fun j hj=>by simp at hj⟩,rfl,rfl⟩
 | .tmp t::r,K,h=>by
   obtain⟨ff,vs,h1,h2,h3,h4⟩:=me hT hW hF (rs:=r) h
   refine⟨_,tmps.getD t undef::vs,h1,⟨by simp[h2.1],fun j hj=> ?_⟩,?_,by simp[h4]⟩
   ·cases j with
    |zero=>simpa using hF t
    |succ j=>simpa using h2.2 j (by simpa using hj)
   ·simp only[List.mapM_cons,Sem.run_bind,Sem.run_pure,Result.andThen_ok,rP,h3]
 | .cell a t::r,K,h=>by
   simp only[oX]at h
   obtain⟨hok,h⟩:=aA h
   have Te:∃av,(∃v ad,tmps.getD a undef= .pointer (some ad)/\(loadVar t ad).run P w= .ok v w/\aP ρ (lens (ab M)) I w N av v)/\oX T r F M fun vs=>K (av::vs):=by
    cases hl:look F a with
    |loc n len i off=>
     rw[hl]at h
     simp only[nG,alive]at h
     cases hb:ab M n with
     |none=>rw[hb]at h; exact h.elim
     |some b=>
      rw[hb]at h
      obtain⟨hc1,hmp,h2⟩:=aA h
      obtain⟨av,ha1,ha2,rr,hk⟩:=fT h2
      have hlen:b.ln=len:=by simpa using hc1
      have ej:lens (ab M) n=some (len,b.sz):=by rw[aC]; exact⟨b,hb,hlen,rfl⟩
      have hr:=hF a
      rw[hl]at hr
      obtain⟨hn,g,cap,hρ,hv⟩:=gB hr ej
      obtain⟨f,hf⟩:=(hW.bf n b hb).row hmp hρ i
      obtain⟨v,Ga,N8⟩:=fc (K:=fun _=>True) hT hok (off:=off) f hf ha1 ha2 rr
      exact⟨av,⟨v,_,hv,Ga,N8⟩,hk⟩
    |bz e off=>
     rw[hl]at h
     simp only[nG]at h
     obtain⟨av,ha1,ha2,rr,hk⟩:=fT h
     have hr:=hF a
     rw[hl]at hr
     generalize Y1:tmps.getD a undef=vv at hr
     cases hr with
     |bz _ _ b q c hI h1 hcell hr=>
      obtain⟨v,Ga,N8⟩:=fc (K:=fun _=>True) (N:=N) hT hok (off:=off) c (fun j hj=>⟨hcell j hj,h1 j hj,(hr j hj).wide (fun _ h=>h.elim)⟩) ha1 ha2 rr
      exact⟨av,⟨v,_,rfl,Ga,N8⟩,hk⟩
    |_=>rw[hl]at h; exact h.elim
   obtain⟨av,⟨v,ad,hv,hrun,w4⟩,hk⟩:=Te
   obtain⟨ff,vs,h1,h2,h3,h4⟩:=me hT hW hF (rs:=r) hk
   refine⟨_,v::vs,h1,⟨by simp[h2.1],fun j hj=> ?_⟩,?_,by simp[h4]⟩
   ·cases j with
    |zero=>simpa using w4
    |succ j=>simpa using h2.2 j (by simpa using hj)
   ·simp only[List.mapM_cons,Sem.run_bind,Sem.run_pure,Result.andThen_ok,rP,hv,asAddr,hrun,h3]
theorem J5{I:Nat->Prop}{w:World}{ρ:Place}{L:bi}{N:Nat->Prop}{ff:List AV}{vs:List Value}(h:dB ρ L I w N ff vs):
  aP ρ L I w N (one ff) (if h:vs.toArray.size=1 then vs.toArray[0]else .tuple vs.toArray):=by
 obtain⟨hl,hr⟩:=h
 cases ff with
 |nil=>
  cases vs with
  |nil=>exact .aQ [] [] rfl (fun j hj=>by simp at hj)
  |cons _ _=>simp at hl
 |cons a r=>
  cases vs with
  |nil=>simp at hl
  |cons v q=>
   cases r with
   |nil=>
    cases q with
    |nil=>exact hr 0 (by simp)
    |cons _ _=>simp at hl
   |cons b r=>
    cases q with
    |nil=>simp at hl
    |cons u q=>
     have:¬ (v::u::q).toArray.size=1:=by simp
     rw[dif_neg this]
     exact .aQ _ _ hl hr
theorem nM(hT:dD P T)(hW:db X ρ I (ab M) N w){F:bh}{tmps:Array Value}(hF:∀i,aP ρ (lens (ab M)) I w N (look F i) (tmps.getD i undef)){fn:Func}{K:List AV->Prop}(h:oX T fn.results.toList F M K):
  ∃ff v,K ff/\(results fn tmps).run P w= .ok v w/\aP ρ (lens (ab M)) I w N (one ff) v:=by
 obtain⟨ff,vs,h1,h2,h3,h4⟩:=me hT hW hF h
 have hrun:(results fn tmps).run P w= .ok (if h:vs.toArray.size=1 then vs.toArray[0]else .tuple vs.toArray) w:=by
  unfold results
  have e:∀g:ResultVar->Sem Value,(∀r,g r=rP tmps r)->(List.mapM g fn.results.toList).run P w= .ok vs w:=fun g hg=>by rw[funext hg]; exact h3
  simp only[Sem.run_bind,Array.mapM_eq_mapM_toList,Sem.run_map]
  rw[e _ (fun r=>by cases r<;>rfl)]
  simp only[Result.andThen_ok,Sem.run_pure]
 refine⟨ff,_,h1,hrun,?_⟩
 exact J5 h2
end
def na(i:Nat):List AV->bh
 |[]=>[]
 |a::r=>(i,a)::na (i+1) r
theorem qa:∀(as:List AV)(i j:Nat),look (na i as) j=if i<=j/\j<i+as.length then as.getD (j - i) .bad else .bad
 |[],i,j=>by simp only[na,look,List.length_nil]; rw[if_neg (by omega)]
 |a::r,i,j=>by
  by_cases h:j=i
  ·subst h; simp[na,look]
  ·have hb:(j==i)=false:=by simpa using h
   simp only[na,look,hb,cond_false,qa r (i+1) j,List.length_cons]
   by_cases h2:i+1<=j/\j<i+1+r.length
   ·rw[if_pos h2,if_pos (by omega)]
    have:j - i=(j - (i+1))+1:=by omega
    rw[this]; simp
   ·rw[if_neg h2,if_neg (by omega)]
def aah(w:World)(I:Nat->Prop)(size:Nat):cE:=⟨w,0,I,size,de,gG⟩
mutual
def AV.fit:AV->Prop
 | .aD _ es=>es.length<=maxLen/\AV.Ed es
 | .agg cs=>AV.lR cs
 | .aQ cs=>AV.lR cs
 | .ce _ cs=>AV.lR cs
 | .bz e _=>AV.lR e
 |_=>True
def AV.lR:List AV->Prop
 |[]=>True
 |c::r=>AV.fit c/\AV.lR r
def AV.Ed:List (List AV)->Prop
 |[]=>True
 |e::r=>AV.lR e/\AV.Ed r
end
theorem jT:∀(cs:List AV),(∀j,j<cs.length->(cs.getD j .bad).fit)->AV.lR cs
 |[],_=>by simp[AV.lR]
 |c::r,h=>by
  simp only[AV.lR]
  exact⟨by simpa using h 0 (by simp),jT r (fun j hj=>by simpa using h (j+1) (by simpa using hj))⟩
theorem yO:∀(es:List (List AV)),AV.Ed es↔∀e ∈ es,AV.lR e
 |[]=>by simp[AV.Ed]
 |e::r=>by simp[AV.Ed,yO r]
theorem aP.fit{ρ:Place}{L:bi}{I:Nat->Prop}{w:World}{N:Nat->Prop}{a:AV}{v:Value}(h:aP ρ L I w N a v):a.fit:=by
 induction h with
 |c7=>simp[AV.fit,AV.Ed]
 |aD sz es b o cap c hl hc hI hs h1 hcell hr ih=>
  simp only[AV.fit]
  refine⟨by omega,(yO es).2 fun e he=> ?_⟩
  obtain⟨i,hi,rfl⟩:=List.getElem_of_mem he
  have hel:es.getD i []=es[i]:=by simp[List.getD_eq_getElem?_getD,hi]
  refine jT _ fun j hj=> ?_
  have:=ih i j hi (by rw[<-hs _ (List.getElem_mem hi)]; exact hj)
  rwa[hel]at this
 |bz e off b o c hI h1 hcell hr ih=>simp only[AV.fit]; exact jT _ ih
 |ce f aZ vs hl hr ih=>simp only[AV.fit]; exact jT _ ih
 |rn f aZ vs hl hr ih=>simp only[AV.fit]; exact jT _ ih
 |agg cs vs hl h1 hr ih=>simp only[AV.fit]; exact jT _ ih
 |aQ cs vs hl hr ih=>simp only[AV.fit]; exact jT _ ih
 |_=>simp[AV.fit]
theorem dB.fit{ρ:Place}{L:bi}{I:Nat->Prop}{w:World}{N:Nat->Prop}{as:List AV}{vs:List Value}(h:dB ρ L I w N as vs):AV.lR as:=
 jT _ fun j hj=>(h.2 j hj).fit
end Go.AM
namespace Go.AM
open Go.RowKit
def J6:TypeDesc->TD
 | .bool=> .bool
 | .int k=> .int k
 | .string=> .str
 | .pointer e=> .ptr e
 | .slice e=> .slice e
 | .array n e=> .arr n e
 | .map k e=> .map k e
 | .struct fs=> .struct (fs.toList.map fun f=>(f.offset,f.type))
 | .func .. => .func
 | .interface _=> .iface
 | .tuple _=> .aQ
 |_=> .other
def Y3(P:Program)(t:Nat):TD:=match P.underlying t,P.info? t with
 |some D,some i=>bif Nat.ble i.bytes 131072&&i.zero.isSome then J6 D else .other
 |_,_=> .other
def ttS(P:Program)(t:Nat):Nat:=match P.info? t with
 |some i=>i.size
 |none=>0
def ttZ(P:Program)(t:Nat):AV:=match P.info? t with
 |some i=>(match i.zero with
  |some z=>Na z
  |none=> .bad)
 |none=> .bad
def Bh(P:Program):TT:=⟨Y3 P,ttS P,ttZ P⟩
theorem Ee:∀D:TypeDesc,J6 D≠ .other->(J6 D).fits D:=by
 intro D h
 cases D<;>simp_all[J6,TD.fits]
theorem J7(P:Program):dD P (Bh P):=by
 intro t ht
 simp only[Bh,Y3]at ht
 cases hD:P.underlying t with
 |none=>rw[hD]at ht; exact (ht rfl).elim
 |some D=>
  cases hi:P.info? t with
  |none=>rw[hD,hi]at ht; exact (ht rfl).elim
  |some i=>
   rw[hD,hi]at ht
   simp only at ht
   cases hc:Nat.ble i.bytes 131072&&i.zero.isSome with
   |false=>rw[hc]at ht; exact (ht rfl).elim
   |true=>
    rw[hc]at ht
    simp only[Bool.and_eq_true,Option.isSome_iff_exists]at hc
    obtain⟨hb,z,hz⟩:=hc
    refine⟨D,i,z,rfl,?_,rfl,?_,Nat.le_of_ble_eq_true hb,hz,?_⟩
    ·simp only[Bh,Y3,hD,hi,hz,hb,Option.isSome_some,Bool.and_self,cond_true]
     exact Ee D ht
    ·simp only[Bh,ttS,hi]
    ·simp only[Bh,ttZ,hi,hz]
def Tf(ds:List TD)(ss:List Nat)(zs:List AV):TT:=⟨fun t=>ds.getD t .other,fun t=>ss.getD t 0,fun t=>zs.getD t .bad⟩
theorem Oj{P:Program}{ds:List TD}{ss:List Nat}{zs:List AV}(n:Nat)(h1:(List.range n).map (Y3 P)=ds)(h2:(List.range n).map (ttS P)=ss)(h3:(List.range n).map (ttZ P)=zs):dD P (Tf ds ss zs):=by
 subst h1; subst h2; subst h3
 intro t ht
 have hlt:t<n:=by
  refine Classical.byContradiction fun h=>ht ?_
  simp[Tf,List.getD_eq_getElem?_getD,h]
 have:=J7 P t (by simpa[Tf,Bh,List.getD_eq_getElem?_getD,hlt]using ht)
 simpa[Tf,Bh,List.getD_eq_getElem?_getD,hlt]using this
end Go.AM
namespace Go.AM
open Go.RowKit
inductive LK where
 |i|b|s
def lM(n:Nat)(l:List LK):List LK:=(List.replicate n l).flatten
def xk(P:Program)(f:Nat->Option (List LK)):List Field->Nat->Option (List LK)
 |[],_=>some []
 |x::r,off=>if x.name != "_" &&x.offset==off then (match f x.type,P.info? x.type with
  |some l,some i=>if i.size==l.length then (xk P f r (off+l.length)).map (l++ ·)else none
  |_,_=>none)else none
def mO(P:Program):Nat->Nat->Option (List LK)
 |0,_=>none
 |d+1,t=>match P.underlying t with
  |some .bool=>some [.b]
  |some (.int _)=>some [.i]
  |some .string=>some [.s]
  |some (.struct fs)=>if P.stoodInHeld t then none else xk P (mO P d) fs.toList 0
  |some (.array n e)=>(match mO P d e,P.info? e with
   |some l,some i=>if i.size==l.length then some (lM n l)else none
   |_,_=>none)
  |_=>none
def aO(P:Program)(t:Nat):Bool:=match P.underlying t with
 |some (.struct _)=>true
 |some (.array _ _)=>true
 |_=>false
inductive Ol:LK->Value->Value->Bool->Prop
 |i (k:IntKind) (x y:Int):Ol .i (.int k x) (.int k y) (x==y)
 |b (x y:Bool):Ol .b (.bool x) (.bool y) (x==y)
 |s (x y:List UInt8):Ol .s (.string ⟨x.toArray⟩) (.string ⟨y.toArray⟩) (x==y)
inductive nc:List LK->List Value->List Value->List Bool->Prop
 |nil:nc [] [] [] []
 |cons {l ls v vs u us r rs} (h:Ol l v u r) (t:nc ls vs us rs):nc (l::ls) (v::vs) (u::us) (r::rs)
theorem nc.split:∀{l1 l2:List LK}{vs us:List Value}{rs:List Bool},nc (l1++l2) vs us rs->
  ∃v1 v2 u1 u2 r1 r2,vs=v1++v2/\us=u1++u2/\rs=r1++r2/\nc l1 v1 u1 r1/\nc l2 v2 u2 r2/\v1.length=l1.length/\u1.length=l1.length
 |[],l2,vs,us,rs,h=>⟨[],vs,[],us,[],rs,rfl,rfl,rfl,.nil,h,rfl,rfl⟩
 |a::l1,l2,_,_,_,.cons (v:=v) (u:=u) (r:=r) h t=>by
  obtain⟨v1,v2,u1,u2,r1,r2,rfl,rfl,rfl,h1,h2,h3,h4⟩:=t.split (l1:=l1)
  exact⟨v::v1,v2,u::u1,u2,r::r1,r2,rfl,rfl,rfl,.cons h h1,h2,by simp[h3],by simp[h4]⟩
def valOf(ag:Bool)(vs:List Value):Value:=if ag then .agg vs.toArray else vs.headD default
theorem xl{P:Program}{w:World}{t:Nat}{D:TypeDesc}(h:P.underlying t=some D):(isAgg t).run P w= .ok (aO P t) w:=by
 unfold isAgg aO
 simp only[Sem.run_bind,run_underlying h,Result.andThen_ok,h]
 cases D<;>rfl
theorem gf{P:Program}{w:World}{t:Nat}{D:TypeDesc}{i:TypeInfo}(h:P.underlying t=some D)(hi:P.info? t=some i){pre mid post:List Value}(hm:mid.length=i.size)(h1:aO P t=false->mid.length=1):
  (part t (pre++(mid++post)).toArray pre.length).run P w= .ok (valOf (aO P t) mid) w:=by
 unfold part
 simp only[Sem.run_bind,xl h,Result.andThen_ok]
 cases jI:aO P t with
 |true=>
  simp only[if_pos,Sem.run_bind,bI hi,Result.andThen_ok,Sem.run_pure,valOf]
  have:(pre++(mid++post)).toArray.extract pre.length (pre.length+i.size)=mid.toArray:=by
   apply Array.ext'
   simp[<-hm]
  rw[this]
 |false=>
  obtain⟨v,rfl⟩:∃v,mid=[v]:=List.length_eq_one_iff.1 (h1 jI)
  simp[valOf]
theorem jU{P:Program}:∀{d t:Nat}{ls:List LK},mO P d t=some ls->aO P t=false->ls.length=1
 |0,_,_,h,_=>by simp[mO]at h
 |d+1,t,ls,h,ha=>by
  unfold mO at h
  unfold aO at ha
  split at h<;>simp_all<;>first|(rw[<-h]; rfl)|skip
theorem CJ{P:Program}:∀{d t:Nat}{ls:List LK},mO P d t=some ls->∃D,P.underlying t=some D
 |0,_,_,h=>by simp[mO]at h
 |d+1,t,ls,h=>by
  unfold mO at h
  cases hu:P.underlying t with
  |none=>rw[hu]at h; simp at h
  |some D=>exact⟨D,rfl⟩
theorem iN{P:Program}:∀(d:Nat)(m t:Nat)(ls:List LK)(w:World)(vs us:List Value)(rs:List Bool),mO P d t=some ls->nc ls vs us rs->
  (Op.equalIn (d+m) t (valOf (aO P t) vs) (valOf (aO P t) us)).run P w= .ok (rs.all id) w
 |0,_,_,_,_,_,_,_,h,_=>by simp[mO]at h
 |d+1,m,t,ls,w,vs,us,rs,h,hv=>by
  have e:d+1+m=(d+m)+1:=by omega
  rw[e]
  have ih:=iN (P:=P) d m
  unfold mO at h
  cases hu:P.underlying t with
  |none=>rw[hu]at h; simp at h
  |some D=>
   rw[hu]at h
   cases D<;>simp only[reduceCtorEq]at h
   case bool=>
    obtain rfl:[LK.b]=ls:=by simpa using h
    have ha:aO P t=false:=by simp[aO,hu]
    rcases hv with _|⟨hl,ht⟩
    cases hl; cases ht
    rw[ha]
    simp only[valOf,Bool.false_eq_true,if_false,List.headD_cons]
    rw[run_equalIn_bool' _ _ _ _ _ hu]; simp
   case int k=>
    obtain rfl:[LK.i]=ls:=by simpa using h
    have ha:aO P t=false:=by simp[aO,hu]
    rcases hv with _|⟨hl,ht⟩
    cases hl; cases ht
    rw[ha]
    simp only[valOf,Bool.false_eq_true,if_false,List.headD_cons]
    rw[run_equalIn_int _ _ _ _ _ _ _ hu]; simp
   case string=>
    obtain rfl:[LK.s]=ls:=by simpa using h
    have ha:aO P t=false:=by simp[aO,hu]
    rcases hv with _|⟨hl,ht⟩
    cases hl; cases ht
    rw[ha]
    simp only[valOf,Bool.false_eq_true,if_false,List.headD_cons]
    rw[run_equalIn_string _ _ _ _ _ hu]
    simp[ByteArray.toList_eq]
   case struct fs=>
    have ha:aO P t=true:=by simp[aO,hu]
    have YY:P.fieldsOf t=fs:=by simp[Program.fieldsOf,hu]
    cases hst:P.stoodInHeld t with
    |true=>simp[hst]at h
    |false=>
     simp only[hst,Bool.false_eq_true,if_false]at h
     rw[ha]
     simp only[valOf,if_pos]
     rw[run_equalIn_struct w (d+m) t _ _ (by rw[YY]; exact hu) hst,YY]
     have go:∀(fl:List Field)(off:Nat)(ls:List LK)(w:World)(p q vs us:List Value)(rs:List Bool),xk P (mO P d) fl off=some ls->nc ls vs us rs->p.length=off->q.length=off->
       (Op.eqFields (d+m) (p++vs).toArray (q++us).toArray fl).run P w= .ok (rs.all id) w:=by
      intro fl
      induction fl with
      |nil=>
       intro off ls w p q vs us rs hl hv _ _
       obtain rfl:[]=ls:=by simpa[xk]using hl
       cases hv
       simp[Op.eqFields]
      |cons f fl ihf=>
       intro off ls w p q vs us rs hl hv hp hq
       simp only[xk]at hl
       split at hl
       ·rename_i hc
        simp only[Bool.and_eq_true,bne_iff_ne,ne_eq,beq_iff_eq]at hc
        split at hl
        ·rename_i l i uY Gc
         split at hl
         ·rename_i hsz
          have hsz:i.size=l.length:=by simpa using hsz
          obtain⟨l2,hl2,rfl⟩:∃l2,xk P (mO P d) fl (off+l.length)=some l2/\l++l2=ls:=by
           simpa using hl
          obtain⟨v1,v2,u1,u2,r1,r2,rfl,rfl,rfl,h1,h2,h3,h4⟩:=hv.split
          obtain⟨D,hD⟩:=CJ uY
          have p1:=gf (w:=w) hD Gc (pre:=p) (mid:=v1) (post:=v2) (by omega) (fun h=>by rw[h3]; exact jU uY h)
          have p2:=gf (w:=w) hD Gc (pre:=q) (mid:=u1) (post:=u2) (by omega) (fun h=>by rw[h4]; exact jU uY h)
          rw[hp,<-hc.2]at p1
          rw[hq,<-hc.2]at p2
          simp only[Op.eqFields,if_pos hc.1,ne_eq,hc.1,not_false_eq_true,Sem.run_bind,p1,p2,Result.andThen_ok,ih _ _ _ _ _ _ uY h1]
          have h5:=ihf (off+l.length) l2 w (p++v1) (q++u1) v2 u2 r2 hl2 h2 (by simp; omega) (by simp; omega)
          rw[List.append_assoc,List.append_assoc]at h5
          simp only[if_true,Sem.run_bind,p1,p2,Result.andThen_ok,ih _ _ _ _ _ _ uY h1]
          cases hr:r1.all id with
          |true=>simp only[Bool.not_true,Bool.false_eq_true,if_false,h5,List.all_append,hr,Bool.true_and]
          |false=>simp only[Bool.not_false,if_true,Sem.run_pure,List.all_append,hr,Bool.false_and]
         ·simp at hl
        ·simp at hl
       ·simp at hl
     exact go fs.toList 0 ls w [] [] vs us rs h hv rfl rfl
   case array n e=>
    have ha:aO P t=true:=by simp[aO,hu]
    split at h
    ·rename_i l i uY Gc
     split at h
     ·rename_i hsz
      have hsz:i.size=l.length:=by simpa using hsz
      obtain rfl:lM n l=ls:=by simpa using h
      rw[ha]
      simp only[valOf,if_pos]
      rw[run_equalIn_array w (d+m) _ _ hu Gc]
      have hc:P.cellsOf e=l.length:=by simp[Program.cellsOf,Gc,hsz]
      rw[hc]
      obtain⟨D,hD⟩:=CJ uY
      have go:∀(k j:Nat)(w:World)(p q vs us:List Value)(rs:List Bool),nc (lM k l) vs us rs->p.length=j*l.length->q.length=j*l.length->
        (Op.eqItems (d+m) e l.length (p++vs).toArray (q++us).toArray (List.range' j k)).run P w= .ok (rs.all id) w:=by
       intro k
       induction k with
       |zero=>
        intro j w p q vs us rs hv _ _
        simp only[lM,List.replicate_zero,List.flatten_nil]at hv
        cases hv
        simp[Op.eqItems]
       |succ k ihk=>
        intro j w p q vs us rs hv hp hq
        have e1:lM (k+1) l=l++lM k l:=by simp[lM,List.replicate_succ]
        rw[e1]at hv
        obtain⟨v1,v2,u1,u2,r1,r2,rfl,rfl,rfl,h1,h2,h3,h4⟩:=hv.split
        have p1:=gf (w:=w) hD Gc (pre:=p) (mid:=v1) (post:=v2) (by omega) (fun h=>by rw[h3]; exact jU uY h)
        have p2:=gf (w:=w) hD Gc (pre:=q) (mid:=u1) (post:=u2) (by omega) (fun h=>by rw[h4]; exact jU uY h)
        rw[hp]at p1
        rw[hq]at p2
        have h5:=ihk (j+1) w (p++v1) (q++u1) v2 u2 r2 h2 (by rw[List.length_append,hp,h3,Nat.succ_mul]) (by rw[List.length_append,hq,h4,Nat.succ_mul])
        rw[List.append_assoc,List.append_assoc]at h5
        simp only[List.range'_succ,Op.eqItems,Sem.run_bind,p1,p2,Result.andThen_ok,ih _ _ _ _ _ _ uY h1]
        cases hr:r1.all id with
        |true=>simp only[Bool.not_true,Bool.false_eq_true,if_false,h5,List.all_append,hr,Bool.true_and]
        |false=>simp only[Bool.not_false,if_true,Sem.run_pure,List.all_append,hr,Bool.false_and]
      rw[List.range_eq_range']
      exact go n 0 w [] [] vs us rs hv (by simp) (by simp)
     ·simp at h
    ·simp at h
end Go.AM
namespace Go.AM
open Go.RowKit
variable {P:Program} {T:TT} {X:cE} {o:Oper} {F:bh} {M:bA}
inductive Om:LK->AV->AV->Bool->Prop
 |i (k:IntKind) (x y:Int):Om .i (.int k x) (.int k y) (x==y)
 |b (x y:Bool):Om .b (.bool x) (.bool y) (x==y)
 |s (x y:List UInt8):Om .s (.str x) (.str y) (x==y)
inductive uZ:List LK->List AV->List AV->List Bool->Prop
 |nil:uZ [] [] [] []
 |cons {l ls v vs u us r rs} (h:Om l v u r) (t:uZ ls vs us rs):uZ (l::ls) (v::vs) (u::us) (r::rs)
theorem Om.val{ρ:Place}{L:bi}{I:Nat->Prop}{w:World}{N:Nat->Prop}{l:LK}{a b:AV}{r:Bool}{v u:Value}(h:Om l a b r)(h1:aP ρ L I w N a v)(h2:aP ρ L I w N b u):Ol l v u r:=by
 cases h with
 |i k x y=>rw[bN h1,bN h2]; exact .i k x y
 |b x y=>rw[gE h1,gE h2]; exact .b x y
 |s x y=>rw[ir h1,ir h2]; exact .s x y
theorem uZ.val{ρ:Place}{L:bi}{I:Nat->Prop}{w:World}{N:Nat->Prop}:∀{ls:List LK}{as bs:List AV}{rs:List Bool}{vs us:List Value},uZ ls as bs rs->vs.length=as.length->us.length=bs.length->
  (∀j,j<as.length->aP ρ L I w N (as.getD j .bad) (vs.getD j default))->(∀j,j<bs.length->aP ρ L I w N (bs.getD j .bad) (us.getD j default))->nc ls vs us rs
 |_,_,_,_,[],[],.nil,_,_,_,_=> .nil
 |_,_,_,_,v::vs,u::us,.cons h t,hv,hu,h1,h2=>
  .cons (h.val (by simpa using h1 0 (by simp)) (by simpa using h2 0 (by simp))) (t.val (by simpa using hv) (by simpa using hu)
    (fun j hj=>by simpa using h1 (j+1) (by simpa using hj)) (fun j hj=>by simpa using h2 (j+1) (by simpa using hj)))
 |_,_,_,_,_::_,[],.nil,hv,_,_,_=>by simp at hv
 |_,_,_,_,[],_::_,.nil,_,hu,_,_=>by simp at hu
 |_,_,_,_,_::_,_::_,.nil,hv,_,_,_=>by simp at hv
 |_,_,_,_,[],_,.cons _ _,hv,_,_,_=>by simp at hv
 |_,_,_,_,_::_,[],.cons _ _,_,hu,_,_=>by simp at hu
theorem yP{neg:Bool}{t yt:TypeId}{x y:Operand}{d:Nat}(hd:d<=10000){ls:List LK}{as bs:List AV}{rs:List Bool}(ho:o.op= .binOp (if neg then .neq else .eql) t x y yt)(hg:P.eqGuardType P.depth t=false)(ha:aO P t=true)
  (hl:mO P d t=some ls) (hx:ev F x= .agg as) (hy:ev F y= .agg bs) (h:uZ ls as bs rs):bT P X o F M (.bool (if neg then !(rs.all id)else rs.all id)) [] []:=by
 have hx':x ∈ o.op.operands.toList:=by simp[ho,Op.operands]
 have hy':y ∈ o.op.operands.toList:=by simp[ho,Op.operands]
 refine aH fun M' N ρ I ac w hW hU hN=> ?_
 have r1:=ax hU x hx'
 have r2:=ax hU y hy'
 rw[hx]at r1
 rw[hy]at r2
 generalize hv:ac.eval x=v at r1
 generalize hu:ac.eval y=u at r2
 cases r1 with
 |agg _ vs hvl Ga On=>
  cases r2 with
  |agg _ us hul pS hur=>
   have h4:=h.val hvl hul On hur
   have e:=iN d (10000 - d) t ls w vs us rs hl h4
   rw[ha]at e
   simp only[valOf,if_true]at e
   have e2:d+ (10000 - d)=10000:=by omega
   rw[e2]at e
   refine⟨_,?_,.bool _⟩
   have g:=run_eqGuard_agg w (if neg then .neq else .eql) t x y vs.toArray us.toArray hg
   cases neg<;>simp_all[execOp,Sem.run_bind,run_eql_struct,run_neq_struct]
theorem xm{neg:Bool}{t yt:TypeId}{x y:Operand}{a b:Bool}(ho:o.op= .binOp (if neg then .neq else .eql) t x y yt)(hu:P.underlying t=some .bool)(hx:ev F x= .bool a)(hy:ev F y= .bool b):
  bT P X o F M (.bool (if neg then a != b else a==b)) [] []:=by
 have hx':x ∈ o.op.operands.toList:=by simp[ho,Op.operands]
 have hy':y ∈ o.op.operands.toList:=by simp[ho,Op.operands]
 refine aH fun M' N ρ I ac w hW hU hN=>⟨_,?_,.bool _⟩
 have r1:=gE (hx ▸ ax hU x hx')
 have r2:=gE (hy ▸ ax hU y hy')
 have e:=run_equal_bool w t a b hu
 cases neg<;>simp[execOp,ho,r1,r2,Sem.run_bind,eqGuard,binOp,e,bne]
def Oo(op:BinOp)(a b:List UInt8)(K:AV->Prop):Prop:=
 match op with
 | .add=>(a.length+b.length<=9223372036854775807)/\K (.str (a++b))
 | .eql=>K (.bool (a==b))
 | .neq=>K (.bool !(a==b))
 | .lss=>K (.bool (Op.bytesLess a b))
 | .leq=>K (.bool (Op.bytesLess a b||a==b))
 | .gtr=>K (.bool !(Op.bytesLess a b||a==b))
 | .geq=>K (.bool !(Op.bytesLess a b))
 |_=>False
theorem GS{op:BinOp}{t yt:TypeId}{x y:Operand}{a b:List UInt8}{K:AV->Prop}(ho:o.op= .binOp op t x y yt)(hx:ev F x= .str a)(hy:ev F y= .str b)(h:Oo op a b K):∃av,bT P X o F M av [] []/\K av:=by
 have hx':x ∈ o.op.operands.toList:=by simp[ho,Op.operands]
 have hy':y ∈ o.op.operands.toList:=by simp[ho,Op.operands]
 have go:∀av v,(∀ρ L I w N,aP ρ L I w N av v)->(∀w,(Op.stringOp op ⟨a.toArray⟩ ⟨b.toArray⟩).run P w= .ok v w)->K av->∃av,bT P X o F M av [] []/\K av:=by
  intro av v hr hrun hk
  refine⟨av,aH fun M' N ρ I ac w hW hU hN=>⟨v,?_,hr _ _ _ _ _⟩,hk⟩
  have r1:=ir (hx ▸ ax hU x hx')
  have r2:=ir (hy ▸ ax hU y hy')
  have g:(eqGuard op t x y (.string ⟨a.toArray⟩) (.string ⟨b.toArray⟩)).run P w= .ok () w:=by
   unfold eqGuard; cases op<;>simp
  have e:binOp op t (.string ⟨a.toArray⟩) (.string ⟨b.toArray⟩)=Op.stringOp op ⟨a.toArray⟩ ⟨b.toArray⟩:=by cases op<;>rfl
  simp only[execOp,ho,r1,r2,Sem.run_bind,g,Result.andThen_ok,e,hrun,Sem.run_pure]
 have tl:∀l:List UInt8,(⟨l.toArray⟩:ByteArray).toList=l:=fun l=>by rw[ByteArray.toList_eq]
 cases op<;>simp only[Oo]at h<;>try exact h.elim
 case add=>
  refine go _ (.string ⟨(a++b).toArray⟩) (fun _ _ _ _ _=> .str _) (fun w=> ?_) h.2
  have e:(⟨a.toArray⟩:ByteArray)++⟨b.toArray⟩=⟨(a++b).toArray⟩:=by
   apply ByteArray.ext
   simp
  have h1:=h.1
  have hs:¬ ((((⟨a.toArray⟩:ByteArray).size+ (⟨b.toArray⟩:ByteArray).size:Nat):Int)>IntKind.i64.max):=by
   show ¬ (((a.toArray.size+b.toArray.size:Nat):Int)>9223372036854775807)
   simp only[List.size_toArray]
   omega
  simp only[Op.stringOp,if_neg hs,e,Sem.run_pure]
 all_goals exact go _ _ (fun _ _ _ _ _=> .bool _) (fun w=>by simp only[Op.stringOp,tl,Sem.run_pure]) h
end Go.AM
namespace Go.AM
open Go.RowKit
variable {P:Program} {T:TT} {X:cE} {o:Oper} {F:bh} {M:bA}
theorem rA{neg:Bool}{t e:TypeId}{y:Operand}{x:Operand}{q:Option Addr}{l c:Nat}{w:World}(hu:P.underlying t=some (.slice e)):
  (do eqGuard (if neg then .neq else .eql) t x y (.slice q l c) (.slice none 0 0); binOp (if neg then .neq else .eql) t (.slice q l c) (.slice none 0 0):Sem Value).run P w= .ok (.bool (if neg then !q.isNone else q.isNone)) w:=by
 have e1:=run_equal_slice_nil w t e q l c hu
 cases neg<;>simp[Sem.run_bind,eqGuard,binOp,e1]
theorem u3{neg:Bool}{t e:TypeId}{y:Operand}{x:Operand}{q:Option Addr}{w:World}(hu:P.underlying t=some (.pointer e)):
  (do eqGuard (if neg then .neq else .eql) t x y (.pointer q) (.pointer none); binOp (if neg then .neq else .eql) t (.pointer q) (.pointer none):Sem Value).run P w= .ok (.bool (if neg then !q.isNone else q.isNone)) w:=by
 have e0:P.pointee t=e:=by simp[Program.pointee,hu]
 have e1:=run_equal_pointer_nil w t q (by rw[e0]; exact hu)
 cases neg<;>simp[Sem.run_bind,eqGuard,binOp,e1]
theorem k7{neg:Bool}{t e yt:TypeId}{x:Operand}{b:Bool}{Ml:Mem}(hM:M=ab Ml)(ho:o.op= .binOp (if neg then .neq else .eql) t x (.const (.pointer none)) yt)(hu:P.underlying t=some (.pointer e))
  (hx:(ev F x= .bM/\b=true)\/((∃r q,ev F x= .bz r q)/\b=false)\/(∃n len i q bl,ev F x= .loc n len i q/\ab Ml n=some bl/\bl.ln=len)/\b=false):bT P X o F M (.bool (if neg then !b else b)) [] []:=by
 have hx':x ∈ o.op.operands.toList:=by simp[ho,Op.operands]
 refine aH fun M' N ρ I ac w hW hU hN=> ?_
 have r1:=ax hU x hx'
 have key:∃q:Option Addr,ac.eval x= .pointer q/\q.isNone=b:=by
  rcases hx with⟨h,rfl⟩|⟨⟨r,q,h⟩,rfl⟩|⟨⟨n,len,i,q,bl,h,hb,hl⟩,rfl⟩
  ·rw[h]at r1
   generalize ac.eval x=v at r1
   cases r1
   exact⟨none,rfl,rfl⟩
  ·rw[h]at r1
   generalize ac.eval x=v at r1
   cases r1
   exact⟨_,rfl,rfl⟩
  ·rw[h]at r1
   obtain⟨sl,fq,fF⟩:=bE (F:=F) x hx' (n:=n) (by rw[h]; simp[AV.names])
   have cL:M' n=some bl:=(hN sl fq n fF).trans (by rw[hM]; exact hb)
   have ej:lens M' n=some (len,bl.sz):=by rw[aC]; exact⟨bl,cL,hl,rfl⟩
   obtain⟨_,g,cap,_,hv⟩:=gB r1 ej
   exact⟨_,hv,rfl⟩
 obtain⟨q,hv,hq⟩:=key
 refine⟨_,?_,.bool _⟩
 have e1:=u3 (P:=P) (neg:=neg) (y:= .const (.pointer none)) (x:=x) (q:=q) (w:=w) hu
 rw[hq]at e1
 have hc:ac.eval (.const (.pointer none))= .pointer none:=rfl
 simp only[execOp,ho,hv,hc]
 simp only[Sem.run_bind]at e1 ⊢
 rw[e1]
 simp
theorem u4{neg:Bool}{t e yt:TypeId}{x:Operand}{s:Nat}{es:List (List AV)}(ho:o.op= .binOp (if neg then .neq else .eql) t x (.const (.slice none 0 0)) yt)(hu:P.underlying t=some (.slice e))(hx:ev F x= .aD s es)
  {M':bA} {N:Nat->Prop} {ρ:Place} {I:Nat->Prop} {a:Act} {w:World} (hW:db X ρ I M' N w) (hU:∀s ∈ dC o.op,aP ρ (lens M') I w N (look F s) (a.tmps.getD s undef)):
  ∃b:Bool,(b=true->es=[])/\bZ P X o a M' N ρ I w (.bool (if neg then !b else b)) []:=by
 have hx':x ∈ o.op.operands.toList:=by simp[ho,Op.operands]
 have r1:=ax hU x hx'
 rw[hx]at r1
 have key:∃(q:Option Addr)(c:Nat),a.eval x= .slice q es.length c/\(q.isNone=true->es=[]):=by
  generalize a.eval x=v at r1
  cases r1 with
  |c7 _ q cap=>exact⟨q,cap,rfl,fun _=>rfl⟩
  |aD _ _ b o cap c hl=>exact⟨_,cap,rfl,fun h=>by simp at h⟩
 obtain⟨q,c,hv,hq⟩:=key
 refine⟨q.isNone,hq,?_⟩
 have e1:=rA (P:=P) (neg:=neg) (y:= .const (.slice none 0 0)) (x:=x) (q:=q) (l:=es.length) (c:=c) (w:=w) hu
 have hr:(execOp a.eval o).run P w= .ok (.value (.bool (if neg then !q.isNone else q.isNone))) w:=by
  have hc:a.eval (.const (.slice none 0 0))= .slice none 0 0:=rfl
  simp only[execOp,ho,hv,hc]
  simp only[Sem.run_bind]at e1 ⊢
  rw[e1]
  simp
 unfold bZ
 rw[hr]
 exact iz.value hW (.bool _)
theorem Bi(hT:dD P T){t e:Nat}{x h m:Operand}{k k':IntKind}{n:Nat}(ht:T.d t= .slice e)(hok:(T.d e).ok=true)(ho:o.op= .slice t x none (some h) (some m))(hh:ev F h= .int k 0)(hm:ev F m= .int k' 0)
  (hx:∃s es,ev F x= .aD s es):bT P X o F M (.aV n 0) [(n,⟨e,T.s e,[],none⟩)] [n]:=by
 have hx':x ∈ o.op.operands.toList:=by simp[ho,Op.operands]
 have hh':h ∈ o.op.operands.toList:=by simp[ho,Op.operands]
 have hm':m ∈ o.op.operands.toList:=by simp[ho,Op.operands]
 obtain⟨D,it,z,hD,hf,_⟩:=hT t (by rw[ht]; simp)
 have iG:=cq ht hf
 subst iG
 obtain⟨_,ie,_,_,_,hie,mK,_⟩:=hT e (TD.ee hok)
 obtain⟨s,es,hx⟩:=hx
 refine⟨fun p hp=> .inl (by simp at hp; simp[hp]),fun M' N ρ I ac w hW hU hN hF=> ?_⟩
 have hn:¬N n:=hF n (by simp)
 have r1:=ax hU x hx'
 have r2:=bN (hh ▸ ax hU h hh')
 have r3:=bN (hm ▸ ax hU m hm')
 rw[hx]at r1
 obtain⟨q,cap,hv,hle⟩:=rN r1
 have hb:(Instr.sliceBounds true es.length cap (none:Option Value) (some (.int k 0)) (some (.int k' 0))).run P w= .ok (0,0,0) w:=by
  have e1:=run_sliceBound (P:=P) (k:=k') (i:=0) (y:=cap) (c:= .slice3Acap) (w:=w) ⟨by omega,by omega⟩
  have e2:=run_sliceBound (P:=P) (k:=k) (i:=0) (y:=0) (c:= .slice3B) (w:=w) ⟨by omega,by omega⟩
  simp[Instr.sliceBounds,e1,e2,Sem.run_bind,Instr.sliceBound,asIntOf]
 have hrun:=qI (a:=q) (len:=es.length) hD hie hb
 obtain⟨E,W⟩:=hW.eW hn e (T.s e)
 unfold bZ
 have hr:(execOp ac.eval o).run P w= .ok (.value (.slice q 0 0)) w:=by
  simp only[execOp,ho,Option.map_none,Option.map_some,hv,r2,r3,Sem.run_bind,hrun]
  simp
 rw[hr]
 refine⟨_,I,E,by rw[bU]; exact W,?_⟩
 refine .aV n _ _ (.inr ⟨_,List.mem_singleton.2 rfl⟩) rfl fun l AU og=> ?_
 change lens (dc M' n _) n=_ at og
 rw[cY,if_pos rfl]at og
 simp at og
 exact⟨by simp,fun _=> .inl ⟨by simp,q,rfl⟩⟩
theorem yQ(hT:dD P T){t m e:Nat}{x ix:Operand}{cs:List AV}{k:IntKind}{j:Int}{K:AV->Prop}(ht:T.d t= .arr m e)(hok:(T.d e).ok=true)(ho:o.op= .index t x ix)(hx:ev F x= .agg cs)(hi:ev F ix= .int k j)
  (hj:0<=j/\j< (m:Int)) (h:apart (T.d e).ag (T.s e) (j.toNat*T.s e) cs K):∃av,bT P X o F M av [] []/\K av:=by
 have hx':x ∈ o.op.operands.toList:=by simp[ho,Op.operands]
 have hi':ix ∈ o.op.operands.toList:=by simp[ho,Op.operands]
 obtain⟨D,it,z,hD,hf,_⟩:=hT t (by rw[ht]; simp)
 have iG:=gC ht hf
 subst iG
 obtain⟨De,ie,_,Gd,No,hie,mK,_⟩:=hT e (TD.ee hok)
 obtain⟨av,h1,h2,h3,h4⟩:=fT h
 refine⟨av,aH fun M' N ρ I ac w hW hU hN=> ?_,h4⟩
 have r1:=ax hU x hx'
 have r2:=bN (hi ▸ ax hU ix hi')
 rw[hx]at r1
 generalize hv:ac.eval x=v at r1
 generalize hoff:j.toNat*T.s e=off at h1 h2
 have hle:off+T.s e<=cs.length\/ T.s e=0:=by
  simp only[List.length_take,List.length_drop]at h1; omega
 cases r1 with
 |agg _ vs hvl Ga On=>
  have GU:∃u,(part e vs.toArray off).run P w= .ok u w/\aP ρ (lens M') I w N av u:=by
   unfold part
   simp only[Sem.run_bind,oe Gd No,Result.andThen_ok]
   cases jI:(T.d e).ag with
   |true=>
    simp only[if_pos,Sem.run_bind,bI hie,Result.andThen_ok,Sem.run_pure]
    refine⟨_,rfl,?_⟩
    rw[h2,jI,if_pos rfl,mK]
    have hex:vs.toArray.extract off (off+T.s e)=((vs.drop off).take (T.s e)).toArray:=by
     apply Array.ext'
     simp
    rw[hex]
    refine .agg _ _ (by rw[h1]; simp only[List.length_take,List.length_drop]; omega) (fun u hu=>Ga u (List.mem_of_mem_drop (List.mem_of_mem_take hu))) (fun i hi=> ?_)
    rw[h1]at hi
    rw[dq _ _ _ _ _ hi,dq _ _ _ _ _ hi]
    exact On (off+i) (by omega)
   |false=>
    have h5:=h3 jI
    have hlt:off<cs.length:=by omega
    have xn:off<vs.length:=by omega
    simp only[Bool.false_eq_true,if_false]
    have:vs.toArray[off]? =some vs[off]:=by simp[xn]
    rw[this]
    refine⟨_,Sem.run_pure _ _ _,?_⟩
    rw[h2,jI,h5]
    have e1:((cs.drop off).take 1).headD .bad=cs.getD off .bad:=by
     rw[List.drop_eq_getElem_cons hlt,List.take_succ_cons]
     simp[List.getD_eq_getElem?_getD,hlt]
    simp only[Bool.false_eq_true,if_false,e1]
    have:=On off hlt
    rwa[show vs.getD off default=vs[off] by simp[List.getD_eq_getElem?_getD,xn]]at this
  obtain⟨u,hu,hr⟩:=GU
  refine⟨u,?_,hr⟩
  simp only[execOp,ho,hv,r2,Instr.index,asIntOf,Sem.run_bind,Sem.run_pure,Result.andThen_ok,run_underlying hD,if_pos hj,bI hie,mK,hoff,hu]
theorem yR(hT:dD P T){t:Nat}{x ix:Operand}{s:List UInt8}{k:IntKind}{j:Int}(ht:T.d t= .str)(ho:o.op= .index t x ix)(hx:ev F x= .str s)(hi:ev F ix= .int k j)(hj:0<=j/\j< (s.length:Int)):
  bT P X o F M (.int .u8 (s.getD j.toNat 0).toNat) [] []:=by
 have hx':x ∈ o.op.operands.toList:=by simp[ho,Op.operands]
 have hi':ix ∈ o.op.operands.toList:=by simp[ho,Op.operands]
 obtain⟨D,it,z,hD,hf,_⟩:=hT t (by rw[ht]; simp)
 have iG:=gD ht hf
 subst iG
 refine aH fun M' N ρ I ac w hW hU hN=>⟨_,?_,.int _ _⟩
 have r1:=ir (hx ▸ ax hU x hx')
 have r2:=bN (hi ▸ ax hU ix hi')
 have hlt:j.toNat<s.length:=by omega
 have e1:(⟨s.toArray⟩:ByteArray)[j.toNat]? =some s[j.toNat]:=by
  have hsz:j.toNat< (⟨s.toArray⟩:ByteArray).size:=by show j.toNat<s.toArray.size; simpa using hlt
  rw[getElem?_pos (⟨s.toArray⟩:ByteArray) j.toNat hsz]
  rfl
 simp only[execOp,ho,r1,r2,Instr.index,asIntOf,Sem.run_bind,Sem.run_pure,Result.andThen_ok,run_underlying hD,if_pos hj.1,e1]
 simp[List.getD_eq_getElem?_getD,hlt]
theorem foldl_push(s:List UInt8):∀r:ByteArray,(s.map fun c=>((c.toNat:Int))).foldl (fun r n=>r.push (UInt8.ofNat n.toNat)) r=⟨(r.data.toList++s).toArray⟩:=by
 induction s with
 |nil=>intro r; simp
 |cons c s ih=>
  intro r
  simp only[List.map_cons,List.foldl_cons,ih]
  congr 1
  simp[ByteArray.push]
theorem GV(hT:dD P T){s t e:Nat}{x:Operand}{Ml:Mem}{K:AV->Prop}(hM:M=ab Ml)(hs:T.d s= .slice e)(he:T.d e= .int .u8)(ht:T.d t= .str)(ho:o.op= .convert s t x)(fF:¬ ∃q,ev F x= .str q)
  (h:od Ml 1 (ev F x) fun xs=>∃b:List UInt8,xs=b.map (fun c=>[AV.int .u8 c.toNat])/\K (.str b)):∃av,bT P X o F M av [] []/\K av:=by
 have hx:x ∈ o.op.operands.toList:=by simp[ho,Op.operands]
 obtain⟨D,_,_,hD,hf,_⟩:=hT s (by rw[hs]; simp)
 have:=cq hs hf
 subst this
 obtain⟨D,_,_,Gd,hf,_⟩:=hT e (by rw[he]; simp)
 have:=fits_int he hf
 subst this
 obtain⟨D,_,_,hDt,hf,_⟩:=hT t (by rw[ht]; simp)
 have:=gD ht hf
 subst this
 obtain⟨xs,⟨b,rfl,hk⟩,hsrc⟩:=kX (X:=X) (o:=o) (tx:=s) hT hM hx (.inl ⟨_,hD⟩) (fun h=>(fF h).elim) (fun _=>⟨_,hD⟩) h
 refine⟨_,aH fun M' N ρ I ac w hW hU hN=> ?_,hk⟩
 obtain⟨vs,hS,hL,-⟩:=hsrc M' N ρ I ac w hW hU hN
 have hvs:vs=b.map fun c=>Value.int .u8 (c.toNat:Int):=by
  apply List.ext_getElem
  ·rw[hL.1]; simp
  ·intro i h1 h2
   have hi:i<b.length:=by simpa using h2
   obtain⟨u,hu,hr⟩:=hL.2.2 i 0 (by simpa using hi) (by omega)
   rw[Nat.mul_one,Nat.add_zero,List.getElem?_eq_getElem h1]at hu
   simp only[Option.some.injEq]at hu
   have e1:((b.map fun c=>[AV.int .u8 (c.toNat:Int)]).getD i []).getD 0 .bad= .int .u8 (b[i].toNat:Int):=by
    simp[List.getD_eq_getElem?_getD,hi]
   rw[e1]at hr
   rw[hu,bN hr.2]
   simp
 have fq:∃q l c,ac.eval x= .slice q l c:=by
  have r1:=ax hU x hx
  cases ct:ev F x with
  |aD s es=>rw[ct]at r1; obtain⟨q,cap,hv,_⟩:=rN r1; exact⟨_,_,_,hv⟩
  |ai=>
   rw[ct]at r1
   generalize ac.eval x=v at r1
   cases r1
   exact⟨_,_,_,rfl⟩
  |aV n len=>
   rw[ct]at h r1
   simp only[od,alive]at h
   cases hb:ab Ml n with
   |none=>rw[hb]at h; exact h.elim
   |some bl=>
    rw[hb]at h
    obtain⟨hc1,hmp,_⟩:=aA h
    have hl:bl.ln=len:=by simpa using hc1
    obtain⟨sl,fq,fF⟩:=bE (F:=F) x hx (n:=n) (by rw[ct]; simp[AV.names])
    have cL:M' n=some bl:=(hN sl fq n fF).trans (by rw[hM]; exact hb)
    have ej:lens M' n=some (len,bl.sz):=by rw[aC]; exact⟨bl,cL,hl,rfl⟩
    obtain⟨_,⟨_,q,hv⟩|⟨g,cap,_,hv⟩⟩:=jQ r1 ej
    ·exact⟨_,_,_,hv⟩
    ·exact⟨_,_,_,hv⟩
  |eD n len i off cr=>
   rw[ct]at h r1
   simp only[od,alive]at h
   cases hb:ab Ml n with
   |none=>rw[hb]at h; exact h.elim
   |some bl=>
    rw[hb]at h
    obtain⟨hc1,hmp,_⟩:=aA h
    have hl:bl.ln=len:=by simpa using hc1
    obtain⟨sl,fq,fF⟩:=bE (F:=F) x hx (n:=n) (by rw[ct]; simp[AV.names])
    have cL:M' n=some bl:=(hN sl fq n fF).trans (by rw[hM]; exact hb)
    have ej:lens M' n=some (len,bl.sz):=by rw[aC]; exact⟨bl,cL,hl,rfl⟩
    obtain⟨_,g,cap,c,_,hv,_⟩:=mJ r1 ej
    exact⟨_,_,_,hv⟩
  |str q=>exact (fF ⟨q,ct⟩).elim
  |_=>rw[ct]at h; exact h.elim
 obtain⟨q,l,c,hv⟩:=fq
 have hl:l=b.length:=by
  have:=hS.len w
  rw[hv]at this
  simpa[Builtin.lenOf]using this
 refine⟨.string ⟨b.toArray⟩,?_,.str _⟩
 have hrun:(Conv.bytesToString (ac.eval x)).run P w= .ok (.string ⟨b.toArray⟩) w:=by
  rw[hv]
  cases q with
  |none=>
   have hc:=hS.cells
   rw[hv,hvs]at hc
   have:b=[]:=by
    simp[Builtin.firstCells]at hc
    exact hc
   subst this
   simp[Conv.bytesToString]
   rfl
  |some a=>
   have hc:=hS.cells
   rw[hv,hvs]at hc
   simp only[Builtin.firstCells,List.length_map,Nat.mul_one]at hc
   have:=run_bytesToString (P:=P) w a l c (b.map fun c=>(c.toNat:Int)) (by rw[hl,hc]; simp[List.map_map,Function.comp_def])
   rw[this,foldl_push]
   simp
 simp only[execOp,ho,convert,Sem.run_bind,run_underlying hD,run_underlying hDt,Result.andThen_ok]
 have e9:∀v:Value,v=ac.eval x->True:=fun _ _=>trivial
 rw[hv]at hrun ⊢
 simp only[Sem.run_bind,run_underlying Gd,Result.andThen_ok,hrun,Sem.run_pure]
end Go.AM
namespace Go.AM
open Go.RowKit
variable {P:Program} {T:TT} {X:cE} {o:Oper} {F:bh} {M:bA}
theorem Bj{ρ:Place}{L:bi}{I:Nat->Prop}{w:World}{N:Nat->Prop}{n len i off sz g cap cr c:Nat}(hn:N n)(hl:L n=some (len,sz))(hρ:ρ n=some (g,cap))(h1:cr<=c)(h2:c<=maxLen):
  aP ρ L I w N (.eD n len i off cr) (.slice (some ⟨g,i*sz+off,none⟩) cr c):=
 .eD n len i off cr _ hn rfl fun l AU h=>by
   rw[hl]at h
   simp only[Option.some.injEq,Prod.mk.injEq]at h
   obtain⟨rfl,rfl⟩:=h
   exact⟨Nat.le_refl _,fun _=>⟨g,cap,c,hρ,rfl,h1,h2⟩⟩
theorem lN{t m e:Nat}{ie:TypeInfo}{a:Addr}{w:World}(hD:P.underlying t=some (.array m e))(hi':P.info? e=some ie):
  (Instr.sliceAt t (.pointer (some a)) none none none).run P w= .ok (.slice (some a) m m) w:=by
 have:a.add 0=a:=by simp[Addr.add]
 simp[Instr.sliceAt,Sem.run_bind,run_underlying hD,Instr.sureAddr,Instr.sliceBounds,bI hi',this]
theorem u5(hT:dD P T){t m e n len i off:Nat}{x:Operand}{Ml:Mem}{b:bD}(hM:M=ab Ml)(ht:T.d t= .arr m e)(hok:(T.d e).ok=true)(ho:o.op= .slice t x none none none)(hm:m<=maxLen)
  (ct:ev F x= .loc n len i off) (hb:ab Ml n=some b) (hl:b.ln=len):bT P X o F M (.eD n len i off m) [] []:=by
 have hx:x ∈ o.op.operands.toList:=by simp[ho,Op.operands]
 obtain⟨D,it,z,hD,hf,_⟩:=hT t (by rw[ht]; simp)
 have iG:=gC ht hf
 subst iG
 obtain⟨De,ie,_,Gd,No,hie,mK,_⟩:=hT e (TD.ee hok)
 refine aH fun M' N ρ I a w hW hU hN=> ?_
 have r1:=ax hU x hx
 rw[ct]at r1
 obtain⟨sl,fq,fF⟩:=bE (F:=F) x hx (n:=n) (by rw[ct]; simp[AV.names])
 have cL:M' n=some b:=(hN sl fq n fF).trans (by rw[hM]; exact hb)
 have ej:lens M' n=some (len,b.sz):=by rw[aC]; exact⟨b,cL,hl,rfl⟩
 obtain⟨hn,g,cap,hρ,hv⟩:=gB r1 ej
 refine⟨_,?_,Bj hn ej hρ (Nat.le_refl m) hm⟩
 simp only[execOp,ho,hv,Option.map_none,Sem.run_bind,lN hD hie,Result.andThen_ok,Sem.run_pure]
theorem u6(hT:dD P T){t m e off:Nat}{x:Operand}{r:List AV}(ht:T.d t= .arr m e)(hok:(T.d e).ok=true)(ho:o.op= .slice t x none none none)(hm:m<=maxLen)
  (ct:ev F x= .bz r off) (hfit:off+m*T.s e<=r.length):bT P X o F M (.aD (T.s e) (pX (T.s e) m (r.drop off))) [] []:=by
 have hx:x ∈ o.op.operands.toList:=by simp[ho,Op.operands]
 obtain⟨D,it,z,hD,hf,_⟩:=hT t (by rw[ht]; simp)
 have iG:=gC ht hf
 subst iG
 obtain⟨De,ie,_,Gd,No,hie,mK,_⟩:=hT e (TD.ee hok)
 refine aH fun M' N ρ I a w hW hU hN=> ?_
 have r1:=ax hU x hx
 rw[ct]at r1
 generalize hv:a.eval x=v at r1
 cases r1 with
 |bz _ _ b q c hI h1 hcell hr=>
  refine⟨.slice (some ⟨b,q+off,none⟩) m m,?_,?_⟩
  ·simp only[execOp,ho,hv,Option.map_none,Sem.run_bind,lN hD hie,Result.andThen_ok,Sem.run_pure]
  ·have hlen:(pX (T.s e) m (r.drop off)).length=m:=eJ
   have hlt:∀i j,i<m->j<T.s e->off+ (i*T.s e+j)<r.length:=fun i j hi hj=>by
    have:=ma (sz:=T.s e) hi hj
    omega
   have key:=aP.aD (ρ:=ρ) (L:=lens M') (I:=I) (w:=w) (N:=N) (T.s e) (pX (T.s e) m (r.drop off)) b (q+off) m (fun i j=>c (off+ (i*T.s e+j))) (by rw[hlen]; exact Nat.le_refl _) hm hI
    (fun l hl=>by
      obtain⟨p,hp,rfl⟩:=List.mem_iff_getElem.1 hl
      rw[hlen]at hp
      have e1:=kE (sz:=T.s e) (r:=r.drop off) hp
      rw[List.getD_eq_getElem?_getD,List.getElem?_eq_getElem (by rw[hlen]; exact hp),Option.getD_some]at e1
      rw[e1]
      have:(p+1)*T.s e<=m*T.s e:=Nat.mul_le_mul_right _ hp
      rw[Nat.add_mul,Nat.one_mul]at this
      simp only[List.length_take,List.length_drop]; omega)
    (fun i j hi hj=>h1 _ (hlt i j (by rwa[hlen]at hi) hj))
    (fun i j hi hj=>by
      have:=hcell _ (hlt i j (by rwa[hlen]at hi) hj)
      rwa[show q+off+i*T.s e+j=q+ (off+ (i*T.s e+j)) by omega])
    (fun i j hi hj=>by
      rw[hlen]at hi
      have:=hr _ (hlt i j hi hj)
      rw[kE hi,dq _ _ _ _ _ hj]
      simpa only[List.getD_eq_getElem?_getD,List.getElem?_drop]using this)
   rwa[hlen]at key
theorem Ef{ρ:Place}{I:Nat->Prop}{M':bA}{N:Nat->Prop}{w:World}(hW:db X ρ I M' N w){n i off g cap:Nat}{b:bD}{ff:List AV}{oY:List Value}(cL:M' n=some b)(hmp:b.mp=none)(hρ:ρ n=some (g,cap))(hi':i<b.es.length)
  (hcl:oY.length=ff.length) (Gw:∀u ∈ oY,u.oneCell'=true) (ZR:∀j,j<ff.length->aP ρ (lens M') I w N (ff.getD j .bad) (oY.getD j default)) (hoff:off+ff.length<=b.sz):
  (storeCells ⟨g,i*b.sz+off,none⟩ oY).run P w= .ok () (w.setCells g (i*b.sz+off) oY)/\
  ∃ρ1,oK N ρ (lens M') I w ρ1 (lens (dO M' [(n,⟨b.ty,b.sz,b.es.set i (bS off ff (b.es.getD i [])),none⟩)])) I (w.setCells g (i*b.sz+off) oY)/\
   db X ρ1 I (dO M' [(n,⟨b.ty,b.sz,b.es.set i (bS off ff (b.es.getD i [])),none⟩)]) (gV N [(n,⟨b.ty,b.sz,b.es.set i (bS off ff (b.es.getD i [])),none⟩)]) (w.setCells g (i*b.sz+off) oY):=by
 have B:=hW.bf n b cL
 obtain⟨cs,fr,hg,oc,rq,hown,hlc,nK,hcs,hc⟩:=B.real g cap hρ
 have hg:=hg.cells hmp
 have SY:=bD.dw hmp
 have hel:(b.es.getD i []).length=b.sz:=by
  rw[List.getD_eq_getElem?_getD,List.getElem?_eq_getElem hi',Option.getD_some]
  exact B.even _ (List.getElem_mem _)
 have hrow:i*b.sz+b.sz<=cs.size:=by
  rw[hcs]
  calc i*b.sz+b.sz=(i+1)*b.sz:=by rw[Nat.add_mul,Nat.one_mul]
   _<=cap*b.sz:=Nat.mul_le_mul_right _ (by omega)
 have hin:∀j,j<b.sz->i*b.sz+j<cs.size:=fun j hj=>by omega
 have oR:∀k,w.cell? ⟨g,k,none⟩=cs[k]? :=fun k=>by simp[World.cell?,hg]
 have ZS:∀k,k<cs.size->w.frozen? ⟨g,k,none⟩=false:=fun k hk=>by
  have:=oc k hk
  simp only[World.frozen?,hg]
  simpa using this
 refine⟨?_,?_⟩
 ·have hst:=run_storeCells_cells (P:=P) g (i*b.sz+off) oY 0 w
   (fun j hj=>by
     rw[Nat.add_zero,oR,Nat.add_assoc,Array.getElem?_eq_getElem (hin (off+j) (by omega))]; rfl)
   (fun j hj=>by rw[Nat.add_zero,Nat.add_assoc]; exact ZS _ (hin (off+j) (by omega)))
   Gw
  rwa[Nat.add_zero]at hst
 ·obtain⟨cs',h1,h2,h3⟩:=iu g b.ty fr oY (i*b.sz+off) w cs hg (by rw[hcl]; omega)
  have key:∀p q,p<b.es.length->q<b.sz->∃u,cs'[p*b.sz+q]? =some u/\u.oneCell'=true/\aP ρ (lens M') I w N (((b.es.set i (bS off ff (b.es.getD i []))).getD p []).getD q .bad) u:=by
   intro p q hp hq
   rw[h3,hcl]
   by_cases hpi:p=i
   ·subst hpi
    have e1:(b.es.set p (bS off ff (b.es.getD p []))).getD p []=bS off ff (b.es.getD p []):=by
     simp[List.getD_eq_getElem?_getD,hp]
    rw[e1,l9 _ _ _ _ (by omega)]
    by_cases Nh:off<=q/\q<off+ff.length
    ·rw[if_pos (by omega),if_pos Nh]
     have e2:p*b.sz+q - (p*b.sz+off)=q - off:=by omega
     rw[e2]
     have N9:q - off<oY.length:=by rw[hcl]; omega
     refine⟨oY[q - off],List.getElem?_eq_getElem N9,Gw _ (List.getElem_mem _),?_⟩
     have:=ZR (q - off) (by omega)
     rwa[List.getD_eq_getElem?_getD (l:=oY),List.getElem?_eq_getElem N9,Option.getD_some]at this
    ·rw[if_neg (by omega),if_neg Nh]
     exact hc p q hp hq
   ·have e1:(b.es.set i (bS off ff (b.es.getD i []))).getD p []=b.es.getD p []:=by
     simp[List.getD_eq_getElem?_getD,List.getElem?_set,Ne.symm hpi]
    rw[e1]
    rw[if_neg]
    ·exact hc p q hp hq
    ·rintro⟨ha,hb'⟩
     rcases Nat.lt_or_gt_of_ne hpi with hlt|hgt
     ·have:(p+1)*b.sz<=i*b.sz:=Nat.mul_le_mul_right _ hlt
      rw[Nat.add_mul,Nat.one_mul]at this
      omega
     ·have:(i+1)*b.sz<=p*b.sz:=Nat.mul_le_mul_right _ hgt
      rw[Nat.add_mul,Nat.one_mul]at this
      omega
  have kD:∀b0,M' n=some b0->b0=b:=fun b0 h0=>by rw[cL]at h0; exact (Option.some.inj h0).symm
  obtain⟨E,W⟩:=hW.put (w':=w.setCells g (i*b.sz+off) oY) n ⟨b.ty,b.sz,b.es.set i (bS off ff (b.es.getD i [])),none⟩ g cap cs' fr
   (os_setCells _ _ _ _) (iv _ _ _ _) (iZ _ _ _ _) (by rw[size_setCells]; exact Nat.le_refl _) (fun k _ hk=>eY g _ _ _ _ hk) h1 (fun q hq=>oc q (by omega))
   (.inr ⟨cap,hρ,b,cL⟩) (fun b0 h0=>by rw[kD b0 h0,SY]; exact⟨rfl,by simp[bD.ln],fun _=>hρ⟩) (fun _=>⟨b,cL⟩)
   (fun e he=>by
     rcases List.mem_or_eq_of_mem_set he with he|rfl
     ·exact B.even e he
     ·show (bS _ _ _).length=b.sz
      unfold bS
      rw[List.length_append,List.length_append,List.length_take,List.length_drop,hel]; omega)
   (by simpa using hlc) nK (by rw[h2]; exact hcs) (by simpa using key)
  exact⟨_,E,by rw[bU]; exact W⟩
theorem yS{sz:Nat}:∀{xs:List (List AV)},(∀e ∈ xs,e.length=sz)->xs.flatten.length=xs.length*sz
 |[],_=>by simp
 |e::r,h=>by
  rw[List.flatten_cons,List.length_append,yS (fun e he=>h e (List.mem_cons_of_mem _ he)),h e List.mem_cons_self,List.length_cons,Nat.add_mul,Nat.one_mul,Nat.add_comm]
theorem vH{sz:Nat}:∀{xs:List (List AV)}{k:Nat},(∀e ∈ xs,e.length=sz)->k<xs.length*sz->∃p q,p<xs.length/\q<sz/\k=p*sz+q/\xs.flatten.getD k .bad=(xs.getD p []).getD q .bad
 |[],k,_,hk=>by simp at hk
 |e::r,k,h,hk=>by
  have he:=h e List.mem_cons_self
  by_cases hlt:k<sz
  ·refine⟨0,k,by simp,hlt,by simp,?_⟩
   simp only[List.flatten_cons,List.getD_eq_getElem?_getD,List.getElem?_append_left (show k<e.length by omega),List.getElem?_cons_zero,Option.getD_some]
  ·rw[List.length_cons,Nat.add_mul,Nat.one_mul]at hk
   obtain⟨p,q,hp,hq,hkk,hg⟩:=vH (xs:=r) (k:=k - sz) (fun e he=>h e (List.mem_cons_of_mem _ he)) (by omega)
   refine⟨p+1,q,by simpa using hp,hq,by rw[Nat.add_mul,Nat.one_mul]; omega,?_⟩
   rw[List.getD_cons_succ,<-hg]
   simp only[List.flatten_cons,List.getD_eq_getElem?_getD,List.getElem?_append_right (show e.length<=k by omega),he]
theorem Eg(hT:dD P T){x y:Operand}{t t' e n len i off cr:Nat}{Ml:Mem}{b:bD}{K:List (List AV)->Prop}(hM:M=ab Ml)(ho:o.op= .call {callee:= .builtin .copy,args:= #[x,y],argTypes:= #[t,t']})
  (ht:T.d t= .slice e) (hok:(T.d e).ok=true) (ct:ev F x= .eD n len i off cr) (hb:ab Ml n=some b) (hmp:b.mp=none) (hl:b.ln=len) (hi:i<b.es.length) (hfit:off+cr*T.s e<=b.sz)
  (hk:(∃e,P.underlying t'=some (.slice e))\/ P.underlying t'=some .string) (hks:(∃s,ev F y= .str s)->P.underlying t'=some .string) (hkl:(¬ ∃s,ev F y= .str s)->∃e,P.underlying t'=some (.slice e)) (h:od Ml (T.s e) (ev F y) K):
  ∃xs,K xs/\bT P X o F M (.int .i64 ((min xs.length cr:Nat):Int)) [(n,⟨b.ty,b.sz,b.es.set i (bS off ((xs.take cr).flatten) (b.es.getD i [])),none⟩)] []/\n ∈ (ev F x).names:=by
 have hx:x ∈ o.op.operands.toList:=by simp[ho,Op.operands,Call.operands]
 have hy:y ∈ o.op.operands.toList:=by simp[ho,Op.operands,Call.operands]
 obtain⟨D,it,z,hD,hf,_⟩:=hT t (by rw[ht]; simp)
 have iG:=cq ht hf
 subst iG
 obtain⟨De,ie,_,Gd,No,hie,mK,_⟩:=hT e (TD.ee hok)
 obtain⟨xs,hkx,hsrc⟩:=kX (X:=X) (o:=o) hT hM hy hk hks hkl h
 obtain⟨sl,fq,fF⟩:=bE (F:=F) x hx (n:=n) (by rw[ct]; simp[AV.names])
 refine⟨xs,hkx,⟨fun p hp=> .inr ⟨sl,fq,by simp at hp; rw[hp]; exact fF⟩,fun M' N ρ I a w hW hU hN _=> ?_⟩,by rw[ct]; simp[AV.names]⟩
 have r1:=ax hU x hx
 rw[ct]at r1
 have cL:M' n=some b:=(hN sl fq n fF).trans (by rw[hM]; exact hb)
 have ej:lens M' n=some (len,b.sz):=by rw[aC]; exact⟨b,cL,hl,rfl⟩
 obtain⟨hn,g,cap,c,hρ,hv,_⟩:=mJ r1 ej
 obtain⟨vs,hS,hL,aan⟩:=hsrc M' N ρ I a w hW hU hN
 have CI:(xs.take cr).length=min cr xs.length:=List.length_take
 have uS:∀e' ∈ xs.take cr,e'.length=T.s e:=fun e' he=>hL.2.1 e' (List.mem_of_mem_take he)
 have hfl:=yS uS
 have hle:min xs.length cr*T.s e<=cr*T.s e:=Nat.mul_le_mul_right _ (Nat.min_le_right _ _)
 have hle2:min xs.length cr*T.s e<=xs.length*T.s e:=Nat.mul_le_mul_right _ (Nat.min_le_left _ _)
 rw[CI,Nat.min_comm]at hfl
 have hvl:(vs.take (min xs.length cr*T.s e)).length=((xs.take cr).flatten).length:=by
  rw[hfl,List.length_take,hL.1]; omega
 have hone:∀u ∈ vs.take (min xs.length cr*T.s e),u.oneCell'=true:=fun u hu=>hL.one u (List.mem_of_mem_take hu)
 obtain⟨hst,ρ1,E,W⟩:=Ef (P:=P) hW (off:=off) (ff:=(xs.take cr).flatten) (oY:=vs.take (min xs.length cr*T.s e)) cL hmp hρ hi hvl hone (fun k hk'=>by
  rw[hfl]at hk'
  obtain⟨p,q,hp,hq,hkk,hg⟩:=vH (xs:=xs.take cr) (k:=k) uS (by rw[CI,Nat.min_comm]; exact hk')
  rw[CI]at hp
  obtain⟨u,hu,_,hr⟩:=hL.2.2 p q (by omega) hq
  rw[hg]
  have e1:(xs.take cr).getD p []=xs.getD p []:=by
   simp only[List.getD_eq_getElem?_getD,List.getElem?_take]
   rw[if_pos (by omega)]
  have e2:(vs.take (min xs.length cr*T.s e)).getD k default=u:=by
   rw[List.getD_eq_getElem?_getD,List.getElem?_take,if_pos hk',hkk,hu]; rfl
  rw[e1,e2]; exact hr) (by rw[hfl]; omega)
 unfold bZ
 have hrun:(execOp a.eval o).run P w= .ok (.value (.int .i64 ((min xs.length cr:Nat):Int))) (w.setCells g (i*b.sz+off) (vs.take (min xs.length cr*T.s e))):=by
  have hp:=aan (min xs.length cr) (Nat.min_le_left _ _)
  rw[jp ho]
  have e0:(Array.map a.eval #[x,y])= #[a.eval x,a.eval y]:=by simp
  have em:Nat.min xs.length cr=min xs.length cr:=rfl
  simp only[e0,builtin,hv,Builtin.copy_,Sem.run_bind,run_underlying hD,Result.andThen_ok,hS.len,bI hie,mK,em,hp,Sem.run_pure,List.toList_toArray,hst,goInt]
  simp[hst,run_underlying hD,hS.len,bI hie,mK,hp,goInt,em]
 rw[hrun]
 exact⟨ρ1,I,E,W,.int _ _⟩
theorem GW(hT:dD P T){n t e len:Nat}{x y:Operand}{k k':IntKind}(ho:o.op= .makeSlice t x y)(ht:T.d t= .slice e)(hok:(T.d e).ok=true)(hs:bX (T.z e)=true)(hl:(cells (T.z e)).length=T.s e)(hz:T.s e≠0)
  (hx:ev F x= .int k len) (hy:ev F y= .int k' len) (hlen:len<=iJ):bT P X o F M (.aV n len) [(n,⟨e,T.s e,List.replicate len (cells (T.z e)),none⟩)] [n]:=by
 have hx':x ∈ o.op.operands.toList:=by simp[ho,Op.operands]
 have hy':y ∈ o.op.operands.toList:=by simp[ho,Op.operands]
 obtain⟨D,it,z,hD,hf,hi,hsz,_⟩:=hT t (by rw[ht]; simp)
 have iG:=cq ht hf
 subst iG
 obtain⟨_,ie,ze,_,_,hie,mK,hby,Ob,ky⟩:=hT e (TD.ee hok)
 refine qH (cap:=len) (by simp) (fun M' N ρ I a w hW hU=> ?_)
 have hc:bB ρ (lens M') I w N (cells (T.z e)) ze.cells:=by rw[ky]; exact bB.fG (gz _ _ _ _ _ ze) (by rw[<-ky]; exact hs)
 have r1:=bN (hx ▸ ax hU x hx')
 have r2:=bN (hy ▸ ax hU y hy')
 have hmax:len<=maxLen:=by simp only[maxLen,iJ]at *; omega
 have hrow:=jm.Gx (n:=len) hc hl hz
 refine⟨madeCells ze.cells (len*ie.size),?_,by rw[size_madeCells,mK],Nat.le_refl _,hmax,by rw[mK]; exact hrow⟩
 have hb:(ie.bytes:Int)* (len:Int)<=281474976710656:=by
  have h1:ie.bytes*len<=131072*1073741824:=Nat.mul_le_mul hby hlen
  have h2:((ie.bytes*len:Nat):Int)<=281474976710656:=by omega
  rwa[Int.natCast_mul]at h2
 have h3:=run_make (P:=P) w t e ie ze hD hie Ob k k' (len:Int) (len:Int) (by omega) (Int.le_refl _) hb (by simp only[iJ]at hlen; omega)
 simp only[execOp,ho,r1,r2,Sem.run_bind,h3,Result.andThen_ok,Sem.run_pure,Int.toNat_natCast]
theorem GX(hT:dD P T){n s t e:Nat}{x:Operand}{l:List UInt8}(ho:o.op= .convert s t x)(hs:T.d s= .str)(ht:T.d t= .slice e)(he:T.d e= .int .u8)(hx:ev F x= .str l)(hlen:l.length<=iJ):
  bT P X o F M (.aV n l.length) [(n,⟨e,1,l.map fun c=>[AV.int .u8 c.toNat],none⟩)] [n]:=by
 have hx':x ∈ o.op.operands.toList:=by simp[ho,Op.operands]
 obtain⟨D,_,_,YZ,hf,_⟩:=hT s (by rw[hs]; simp)
 have:=gD hs hf
 subst this
 obtain⟨D,_,_,hDt,hf,_⟩:=hT t (by rw[ht]; simp)
 have:=cq ht hf
 subst this
 obtain⟨D,_,_,Gd,hf,_⟩:=hT e (by rw[he]; simp)
 have:=fits_int he hf
 subst this
 refine⟨fun p hp=> .inl (by simp at hp; simp[hp]),fun M' N ρ I ac w hW hU hN hF=> ?_⟩
 have hn:¬N n:=hF n (by simp)
 have r1:=ir (hx ▸ ax hU x hx')
 have hd:∀b0,M' n=some b0->False:=fun b0 h0=>hn (hW.bf n b0 h0).lt
 have hsz:(⟨l.toArray⟩:ByteArray).size=l.length:=by show l.toArray.size=_; simp
 have hge:=grownCap_ge w l.length 0 e
 have nK:=grownCap_le_maxLen w l.length 0 e (by simp only[maxLen,iJ]at *; omega)
 have hcs:(Lib.bytesCells w e ⟨l.toArray⟩).size=grownCap w l.length 0 e:=by
  simp only[Lib.bytesCells,Array.size_append,Array.size_map,Array.size_replicate,hsz,List.size_toArray]; omega
 have hrow:∀i j,i<l.length->j<1->∃u,(Lib.bytesCells w e ⟨l.toArray⟩)[i*1+j]? =some u/\u.oneCell'=true/\aP ρ (lens M') I w N (((l.map fun c=>[AV.int .u8 (c.toNat:Int)]).getD i []).getD j .bad) u:=by
  intro i j hi hj
  have hj0:j=0:=by omega
  subst hj0
  refine⟨.int .u8 (l[i].toNat:Int),?_,rfl,?_⟩
  ·rw[Nat.mul_one,Nat.add_zero,Lib.bytesCells,Array.getElem?_append_left (by simpa using hi)]
   simp[hi]
  ·have:((l.map fun c=>[AV.int .u8 (c.toNat:Int)]).getD i []).getD 0 .bad= .int .u8 (l[i].toNat:Int):=by simp[List.getD_eq_getElem?_getD,hi]
   rw[this]; exact .int _ _
 obtain⟨E,W⟩:=hW.put (w':=Lib.bytesWorld w e ⟨l.toArray⟩) n ⟨e,1,l.map fun c=>[AV.int .u8 (c.toNat:Int)],none⟩ w.heap.size (grownCap w l.length 0 e) (Lib.bytesCells w e ⟨l.toArray⟩) ((Lib.bytesCells w e ⟨l.toArray⟩).size,(Lib.bytesCells w e ⟨l.toArray⟩).size+1)
  rfl rfl rfl (by rw[Lib.bytesWorld_size]; omega) (fun k hk _=>Lib.bytesWorld_at_old w e _ k hk) (Lib.bytesWorld_at_new w e _) (fun o h1 h2=>by omega)
  (.inl (Nat.le_refl _)) (fun b0 h0=>(hd b0 h0).elim) (fun h=>(hn h).elim) (fun r hr=>by obtain⟨_,_,rfl⟩:=List.mem_map.1 hr; rfl) (by simpa using hge) nK (by rw[hcs]; simp) (by simpa using hrow)
 unfold bZ
 have hrun:(execOp ac.eval o).run P w= .ok (.value (.slice (some ⟨w.heap.size,0,none⟩) l.length (grownCap w l.length 0 e))) (Lib.bytesWorld w e ⟨l.toArray⟩):=by
  have:=Lib.run_convert_string_bytes (P:=P) w s t e ⟨l.toArray⟩ YZ hDt Gd
  simp only[execOp,ho,r1,Sem.run_bind,this,Result.andThen_ok,Sem.run_pure,hsz]
 rw[hrun]
 refine⟨_,I,E,by rw[bU]; exact W,?_⟩
 refine kW (sz:=1) (.inr ⟨_,List.mem_singleton.2 rfl⟩) ?_ (by simp[iW])
 show lens (dc M' n _) n=_
 rw[cY,if_pos rfl]; simp[bD.ln]
end Go.AM
namespace Go.AM
open Go.RowKit
variable {P:Program} {T:TT} {X:cE} {o:Oper} {F:bh} {M:bA}
section
variable {w:World} {t tx ty e:TypeId} {i:TypeInfo} {z:Value} {k k':IntKind} {n:Nat}
theorem kf{zz:Array Value}{m:Nat}(h:m*zz.size=0):Builtin.zeroCells zz m= #[]:=by
 simp[Builtin.zeroCells,h]
theorem wrap_small(h:n<=iJ):IntKind.i64.wrap (n:Int)=n:=by
 simp only[iJ]at h
 simp only[IntKind.wrap,IntKind.bits,IntKind.signed]; simp; omega
theorem kg(ht:P.underlying t=some (.slice e))(hx:P.underlying tx=some (.int k))(hi:P.info? e=some i)(hz:i.zero=some z)(hzs:z.cells.size=i.size)(hn:n<=iJ)(hby:i.bytes<=131072)
  (base:Option Addr) (sLen sCap:Nat) (hroom:sLen+n<=sCap) (w':World)
  (hst:∀a,base=some a->(storeCells (a.add (sLen*i.size)) (Builtin.zeroCells z.cells n).toList).run P w= .ok () w') (h0:base=none->w'=w):
  (Builtin.append_ #[t,tx] ty #[.slice base sLen sCap,.int k' n]).run P w= .ok (.slice base (sLen+n) sCap) w':=by
 have h48:¬ (281474976710656< (n:Int)* (i.bytes:Int)):=by
  have h1:n*i.bytes<=1073741824*131072:=Nat.mul_le_mul hn hby
  have h2:((n*i.bytes:Nat):Int)<=281474976710656:=by omega
  rw[Int.natCast_mul]at h2; omega
 have hneg:¬ ((n:Int)<0):=by omega
 have hap:(if n*i.size=0 then (pure #[]:Sem (Array Value))else do pure (Builtin.zeroCells (<-zeroValue e).cells n)).run P w= .ok (Builtin.zeroCells z.cells n) w:=by
  split
  ·rename_i h
   rw[kf (by rw[hzs]; exact h)]; simp
  ·simp[zeroValue,typeInfo,hi,hz]
 cases base with
 |none=>
  have:=h0 rfl
  subst this
  simp[Builtin.append_,run_underlying ht,run_underlying hx,sizeOf,typeInfo,zeroValue,hz,hi,wrap_small hn,hneg,h48,hroom,asInt,asIntOf]
 |some a=>
  have hst:=hst a rfl
  simp[Builtin.append_,run_underlying ht,run_underlying hx,sizeOf,typeInfo,zeroValue,hz,hi,wrap_small hn,hneg,h48,hroom,asInt,asIntOf]at hap hst ⊢
  by_cases h:n*i.size=0
  ·have h2:=hap h
   rw[h2]at hst
   simp[h,hst]
  ·simp[h,hst]
theorem ki(ht:P.underlying t=some (.slice e))(hx:P.underlying tx=some (.int k))(hi:P.info? e=some i)(hz:i.zero=some z)(hzs:z.cells.size=i.size)(hn:n<=iJ)(hby:i.bytes<=131072)
  (base:Option Addr) (sLen sCap:Nat) (olds:List Value) (hold:(Builtin.firstCells i.size sLen (.slice base sLen sCap)).run P w.drew= .ok olds.toArray w.drew)
  (hg:sCap<sLen+n) (h63:((sLen+n:Nat):Int)<=9223372036854775807) (hfit:Builtin.nextslicecap (sLen+n) sCap*i.bytes<=281474976710656):
  (Builtin.append_ #[t,tx] ty #[.slice base sLen sCap,.int k' n]).run P w= .ok (.slice (some ⟨w.heap.size,0,none⟩) (sLen+n) (grownCap w (sLen+n) sCap e))
    (w.drew.alloc (.cells ((olds++(Builtin.zeroCells z.cells n).toList).toArray++Builtin.zeroCells z.cells (grownCap w (sLen+n) sCap e - (sLen+n))) e)):=by
 have h48:¬ (281474976710656< (n:Int)* (i.bytes:Int)):=by
  have h1:n*i.bytes<=1073741824*131072:=Nat.mul_le_mul hn hby
  have h2:((n*i.bytes:Nat):Int)<=281474976710656:=by omega
  rw[Int.natCast_mul]at h2; omega
 have hneg:¬ ((n:Int)<0):=by omega
 have hnr:¬ (sLen+n<=sCap):=by omega
 have h63':¬ (9223372036854775807< ((sLen:Int)+ (n:Int))):=by omega
 have aap:¬ (281474976710656<Builtin.nextslicecap (sLen+n) sCap*i.bytes):=by omega
 have hap:(if n*i.size=0 then (pure #[]:Sem (Array Value))else do pure (Builtin.zeroCells (<-zeroValue e).cells n)).run P w.drew= .ok (Builtin.zeroCells z.cells n) w.drew:=by
  split
  ·rename_i h
   rw[kf (by rw[hzs]; exact h)]; simp
  ·simp[zeroValue,typeInfo,hi,hz]
 simp[Builtin.append_,run_underlying ht,run_underlying hx,sizeOf,typeInfo,zeroValue,hi,hz,wrap_small hn,hneg,h48,hnr,h63',aap,asInt,asIntOf,Question.forced,hold,newRow,grownCap]at hap ⊢
 by_cases h:n*i.size=0
 ·have h2:=hap h
  simp[h,h2]
 ·simp[h]
  congr 2
  apply Array.ext'
  simp[List.append_assoc]
end
theorem vI{ρ:Place}{L:bi}{I:Nat->Prop}{w:World}{N:Nat->Prop}{z:Value}{a:AV}{sz n:Nat}(h:bB ρ L I w N (cells a) z.cells)(hl:(cells a).length=sz)(hpos:sz≠0):
  er ρ L I w N sz (List.replicate n (cells a)) (Builtin.zeroCells z.cells n).toList:=by
 have hz:z.cells.size=sz:=by rw[h.1,hl]
 have hr:=jm.Gx (n:=n) h hl hpos
 have e:Builtin.zeroCells z.cells n=(Array.range (n*sz)).map (z.cells[· % z.cells.size]!):=by simp only[Builtin.zeroCells,hz]
 rw[e]
 refine⟨by simp,hr.2.1,fun i j hi hj=> ?_⟩
 obtain⟨u,hu,h1⟩:=hr.2.2 i j hi hj
 exact⟨u,by rw[Array.getElem?_toList]; exact hu,h1⟩
def oZ(T:TT)(t:Nat)(s x:AV)(S:St)(K:AV->Mem->Nat->Prop):Prop:=
 match T.d t,x with
 | .slice e,.int _ m=>
   (match s with
   | .aV n len=>alive S.M n len fun b=>j9 (b.sz==T.s e&&b.ty==e) ((0<=m/\len+m.toNat<=iJ)/\
       K (.aV n (len+m.toNat)) (gZ S.M n ⟨b.ty,b.sz,b.es++List.replicate m.toNat (cells (T.z e)),none⟩) S.nx)
   | .ai=>(0<=m/\m.toNat<=iJ)/\K (.aV S.nx m.toNat) (gZ S.M S.nx ⟨e,T.s e,List.replicate m.toNat (cells (T.z e)),none⟩) (S.nx+1)
   |_=>False)
 |_,_=>False
theorem xo(hT:dD P T){s x:Operand}{t t' nx:Nat}{Ml:Mem}{K:AV->Mem->Nat->Prop}(hM:M=ab Ml)(ho:o.op= .call {callee:= .builtin .append,args:= #[s,x],argTypes:= #[t,t']})
  (hok:∀e,T.d t= .slice e->(T.d e).ok=true/\bX (T.z e)=true/\(cells (T.z e)).length=T.s e/\T.s e≠0) (hint:∃k,T.d t'= .int k)
  (h:oZ T t (ev F s) (ev F x) ⟨F,Ml,nx⟩ K):
  ∃av n b nw bo,bT P X o F M av [(n,b)] nw/\K av (gZ Ml n b) bo/\((nw=[nx]/\bo=nx+1/\n=nx)\/(bo=nx/\nw=[]/\n ∈ (ev F s).names)):=by
 have hs:s ∈ o.op.operands.toList:=by simp[ho,Op.operands,Call.operands]
 have hx:x ∈ o.op.operands.toList:=by simp[ho,Op.operands,Call.operands]
 unfold oZ at h
 cases ht:T.d t with
 |slice e=>
  cases Y4:ev F x with
  |int kx m=>
   rw[ht,Y4]at h
   simp only at h
   obtain⟨D,it,z0,hD,hf,_⟩:=hT t (by rw[ht]; simp)
   have iG:=cq ht hf
   subst iG
   obtain⟨Od,oS,hcl,hpos⟩:=hok e ht
   obtain⟨_,ie,z,_,_,hie,mK,hby,hz,ky⟩:=hT e (TD.ee Od)
   obtain⟨k',hk'⟩:=hint
   obtain⟨D',_,_,Sy,hfx,_⟩:=hT t' (by rw[hk']; simp)
   have:=fits_int hk' hfx
   subst this
   have hzs:z.cells.size=T.s e:=by
    have:=(bB.fG (ρ:=fun _=>none) (L:=fun _=>none) (I:=fun _=>False) (w:=default) (N:=cW) (gz _ _ _ _ _ z) (by rw[<-ky]; exact oS)).1
    rw[this,<-ky,hcl]
   have Eh:z.cells.size=ie.size:=by rw[hzs,mK]
   have hfit:∀need old,old<need->need<=iJ->Builtin.nextslicecap need old*ie.bytes<=281474976710656:=fun need old h1 h2=>by
    refine growslice_fits h1 ?_
    calc need*ie.bytes<=iJ*131072:=Nat.mul_le_mul h2 hby
     _=140737488355328:=by simp[iJ]
   have hcells:∀(ρ:Place)(L:bi)(I:Nat->Prop)(w:World)(N:Nat->Prop),bB ρ L I w N (cells (T.z e)) z.cells:=fun ρ L I w N=>by rw[ky]; exact bB.fG (gz _ _ _ _ _ z) (by rw[<-ky]; exact oS)
   cases hss:ev F s with
   |aV n len=>
    rw[hss]at h
    simp only[alive]at h
    cases hb:ab Ml n with
    |none=>rw[hb]at h; exact h.elim
    |some b=>
     rw[hb]at h
     obtain⟨hc1,hmp,h2⟩:=aA h
     obtain⟨kw,⟨hm0,iL⟩,hk⟩:=aA h2
     have hl:b.es.length=len:=(bD.dw hmp).symm.trans (by simpa using hc1)
     simp only[Bool.and_eq_true,beq_iff_eq]at kw
     obtain⟨hsz,A6⟩:=kw
     generalize hmn:m.toNat=q at*
     obtain rfl:m=(q:Int):=by omega
     obtain⟨sl,fq,fF⟩:=bE (F:=F) s hs (n:=n) (by rw[hss]; simp[AV.names])
     refine⟨_,n,_,[],nx,?_,hk,.inr ⟨rfl,rfl,by simp[AV.names]⟩⟩
     refine⟨fun p hp=> .inr ⟨sl,fq,by simp at hp; rw[hp]; exact fF⟩,fun M' N ρ I a w hW hU hN _=> ?_⟩
     have cL:M' n=some b:=(hN sl fq n fF).trans (by rw[hM]; exact hb)
     have ej:lens M' n=some (b.es.length,b.sz):=by rw[aC]; exact⟨b,cL,bD.dw hmp,rfl⟩
     have hL:=vI (n:=q) (hcells ρ (lens M') I w N) hcl hpos
     have Sz:q<=iJ:=by omega
     have r1:=ax hU s hs
     rw[hss]at r1
     have r2:=bN (Y4 ▸ ax hU x hx)
     subst hl
     obtain⟨hn,h2⟩:=jQ r1 ej
     unfold bZ
     rw[dW ho,r2]
     rw[<-hsz]at hL
     have hxl:(List.replicate q (cells (T.z e))).length=q:=by simp
     rcases h2 with⟨h0,r,hv⟩|⟨g,cap,hρ,hv⟩
     ·have hB:=hW.bf n b cL
      have he:b.es=[]:=hB.eW h0
      rw[hv]
      by_cases hx0:q=0
      ·subst hx0
       have hz0:(Builtin.zeroCells z.cells 0).toList=[]:=by rw[kf (by simp)]
       have hrun:=kg (P:=P) (w:=w) (t:=t) (tx:=t') (ty:=o.type) (k':=kx) hD Sy hie hz Eh Sz hby r 0 0 (by simp) w (fun a ha=>by rw[hz0]; simp[storeCells]) (fun _=>rfl)
       rw[hrun]
       refine⟨ρ,I,?_,?_,?_⟩
       ·show oK N ρ (lens M') I w ρ (lens (dc M' n _)) I w
        have:(⟨b.ty,b.sz,b.es++List.replicate 0 (cells (T.z e)),none⟩:bD)=b:=by have:=hmp; cases b; simp_all
        rw[this,mL cL]; exact oK.refl _ _ _ _ _
       ·show db X ρ I (dc M' n _) _ w
        have:(⟨b.ty,b.sz,b.es++List.replicate 0 (cells (T.z e)),none⟩:bD)=b:=by have:=hmp; cases b; simp_all
        rw[this,mL cL]
        have JV:gV N [(n,b)]=N:=by
         rw[bU]; funext m; simp only[AN,eq_iff_iff]
         exact⟨fun h=>h.elim (fun e=>e ▸ hn) id,.inr⟩
        rw[bU]at JV ⊢
        rw[JV]; exact hW
       ·refine .aV n _ _ (.inl hn) rfl fun l AU og=> ?_
        have:(⟨b.ty,b.sz,b.es++List.replicate 0 (cells (T.z e)),none⟩:bD)=b:=by have:=hmp; cases b; simp_all
        rw[this]at og
        change lens (dc M' n b) n=_ at og
        rw[cY,if_pos rfl,bD.dw hmp]at og
        simp at og
        exact⟨by omega,fun _=> .inl ⟨h0,r,rfl⟩⟩
      ·have Oe:(Builtin.firstCells ie.size 0 (.slice r 0 0)).run P w.drew= .ok #[] w.drew:=by
        cases r with
        |none=>exact run_firstCells_none w.drew ie.size 0 0 0
        |some a=>exact run_firstCells_some w.drew ie.size 0 a 0 0 [] (by simp) (fun j v hv=>by simp at hv)
       have hrun:=ki (P:=P) (w:=w) (t:=t) (tx:=t') (ty:=o.type) (k':=kx) (n:=q) hD Sy hie hz Eh Sz hby r 0 0 [] Oe (by omega) (by simp[iJ]at Sz ⊢; omega) (hfit _ _ (by omega) (by omega))
       rw[hrun]
       have iA:=kF (X:=X) (e:=e) (olds:=[]) (old:=0) (z:=z) hW (fun _=>⟨b,cL⟩) (fun b0 h0=>by rw[cL]at h0; cases h0; exact⟨rfl,he,hmp⟩) (by rw[hxl]; omega) ⟨by simp,by simp,fun i j hi=>by simp at hi⟩ hL (by rw[hzs,hsz]) (by rw[hxl]; simpa using Sz)
       have e1:b.es.length+q=([]:List (List AV)).length+ (List.replicate q (cells (T.z e))).length:=by rw[he,hxl]
       have e2:(⟨b.ty,b.sz,b.es++List.replicate q (cells (T.z e)),none⟩:bD)=⟨e,b.sz,[]++List.replicate q (cells (T.z e)),none⟩:=by rw[he,A6]
       have e3:0+q=([]:List (List AV)).length+ (List.replicate q (cells (T.z e))).length:=by rw[hxl]; rfl
       rw[e1,e2,e3]
       exact iA
     ·rw[hv]
      by_cases hroom:b.es.length+q<=cap
      ·obtain⟨g1,g2,g3⟩:=yF hW cL hmp hρ hL (by rw[hxl]; exact hroom)
       have hone:∀u ∈ (Builtin.zeroCells z.cells q).toList,u.oneCell'=true:=hL.one
       have hst:=run_storeCells_cells (P:=P) g (0+b.es.length*b.sz) _ 0 w (by simpa using g1) (by simpa using g2) hone
       have hrun:=kg (P:=P) (w:=w) (t:=t) (tx:=t') (ty:=o.type) (k':=kx) hD Sy hie hz Eh Sz hby (some ⟨g,0,none⟩) b.es.length cap hroom (w.setCells g (0+b.es.length*b.sz) (Builtin.zeroCells z.cells q).toList)
        (fun a ha=>by
          cases ha
          rw[cz,mK,<-hsz]
          simpa using hst) (fun h=>by cases h)
       rw[hrun]
       rw[hxl]at g3
       exact g3
      ·have hB:=hW.bf n b cL
       obtain⟨olds,S6,Z'⟩:=hB.list hmp hρ
       have hfc:(Builtin.firstCells ie.size b.es.length (.slice (some ⟨g,0,none⟩) b.es.length cap)).run P w.drew= .ok olds.toArray w.drew:=
        run_firstCells_some (P:=P) w.drew ie.size b.es.length _ _ _ _ (by rw[mK,<-hsz]; exact S6.1) (fun k u hu=>by rw[cz,Nat.zero_add]; exact Z' k u hu)
       have hrun:=ki (P:=P) (w:=w) (t:=t) (tx:=t') (ty:=o.type) (k':=kx) (n:=q) hD Sy hie hz Eh Sz hby _ b.es.length cap olds hfc (by omega) (by simp[iJ]at iL ⊢; omega) (hfit _ _ (by omega) iL)
       rw[hrun]
       have iA:=kF (X:=X) (e:=e) (old:=cap) (z:=z) hW (fun _=>⟨b,cL⟩) (fun b0 h0=>by rw[cL]at h0; cases h0; exact⟨rfl,rfl,hmp⟩)
        (by
          have hcap:b.es.length<=cap:=by obtain⟨_,_,_,_,_,_,hh,_⟩:=hB.real g cap hρ; exact hh
          rw[hxl]; omega) S6 hL (by rw[hzs,hsz]) (by rw[hxl]; exact iL)
       rw[hxl]at iA
       rw[<-A6]at iA ⊢
       exact iA
   |ai=>
    rw[hss]at h
    obtain⟨⟨hm0,iL⟩,hk⟩:=h
    generalize hmn:m.toNat=q at*
    obtain rfl:m=(q:Int):=by omega
    refine⟨_,nx,_,[nx],nx+1,?_,hk,.inl ⟨rfl,rfl,rfl⟩⟩
    refine⟨fun p hp=> .inl (by simp at hp; simp[hp]),fun M' N ρ I a w hW hU hN hF=> ?_⟩
    have hn:¬N nx:=hF nx (by simp)
    have hL:=vI (n:=q) (hcells ρ (lens M') I w N) hcl hpos
    have r1:=ax hU s hs
    have r2:=bN (Y4 ▸ ax hU x hx)
    rw[hss]at r1
    generalize hv:a.eval s=v at r1
    cases r1
    unfold bZ
    rw[dW ho,hv,r2]
    have hxl:(List.replicate q (cells (T.z e))).length=q:=by simp
    by_cases hx0:q=0
    ·subst hx0
     have hrun:=kg (P:=P) (w:=w) (t:=t) (tx:=t') (ty:=o.type) (k':=kx) hD Sy hie hz Eh iL hby none 0 0 (by simp) w (fun a ha=>by cases ha) (fun _=>rfl)
     rw[hrun]
     obtain⟨E,W⟩:=hW.eW hn e (T.s e)
     refine⟨_,I,E,by rw[bU]; exact W,?_⟩
     refine .aV nx _ _ (.inr ⟨_,List.mem_singleton.2 rfl⟩) rfl fun l AU og=> ?_
     change lens (dc M' nx _) nx=_ at og
     rw[cY,if_pos rfl]at og
     simp[bD.ln]at og
     exact⟨by omega,fun _=> .inl ⟨by simp,none,rfl⟩⟩
    ·have hrun:=ki (P:=P) (w:=w) (t:=t) (tx:=t') (ty:=o.type) (k':=kx) (n:=q) hD Sy hie hz Eh iL hby none 0 0 [] (run_firstCells_none w.drew ie.size 0 0 0) (by omega) (by simp[iJ]at iL ⊢; omega) (hfit _ _ (by omega) (by omega))
     rw[hrun]
     have iA:=kF (X:=X) (n:=nx) (e:=e) (olds:=[]) (oT:=[]) (old:=0) (z:=z) hW (fun h=>(hn h).elim) (fun b0 h0=>(hn (hW.bf nx b0 h0).lt).elim) (by rw[hxl]; omega) ⟨by simp,by simp,fun i j hi=>by simp at hi⟩ hL hzs (by rw[hxl]; simpa using iL)
     have e1:q=([]:List (List AV)).length+ (List.replicate q (cells (T.z e))).length:=by rw[hxl]; simp
     have e2:(⟨e,T.s e,List.replicate q (cells (T.z e)),none⟩:bD)=⟨e,T.s e,[]++List.replicate q (cells (T.z e)),none⟩:=by simp
     have e3:0+q=([]:List (List AV)).length+ (List.replicate q (cells (T.z e))).length:=by rw[hxl]; rfl
     rw[e2,e3]
     show iz X M' N ρ I w (.aV nx q) _ _ _
     have:AV.aV nx q= .aV nx (([]:List (List AV)).length+ (List.replicate q (cells (T.z e))).length):=by rw[<-e1]
     rw[this]
     exact iA
   |_=>rw[hss]at h; exact h.elim
  |_=>rw[ht,Y4]at h; exact h.elim
 |_=>rw[ht]at h; exact h.elim
end Go.AM
namespace Go.AM
open Go.RowKit
variable {P:Program} {T:TT} {X:cE} {o:Oper} {F:bh} {M:bA}
inductive Tg:LK->Value->Prop
 |i (k:IntKind) (x:Int):Tg .i (.int k x)
 |b (x:Bool):Tg .b (.bool x)
 |s (x:List UInt8):Tg .s (.string ⟨x.toArray⟩)
inductive mf:List LK->List Value->Prop
 |nil:mf [] []
 |cons {l ls v vs} (h:Tg l v) (t:mf ls vs):mf (l::ls) (v::vs)
theorem mf.split:∀{l1 l2:List LK}{vs:List Value},mf (l1++l2) vs->∃v1 v2,vs=v1++v2/\mf l1 v1/\mf l2 v2/\v1.length=l1.length
 |[],l2,vs,h=>⟨[],vs,rfl,.nil,h,rfl⟩
 |a::l1,l2,_,.cons (v:=v) h t=>by
  obtain⟨v1,v2,rfl,h1,h2,h3⟩:=t.split (l1:=l1)
  exact⟨v::v1,v2,rfl,.cons h h1,h2,by simp[h3]⟩
theorem sJ{d:Nat}:∀(fl:List Field)(off:Nat)(ls:List LK)(p vs:List Value),xk P (mO P d) fl off=some ls->mf ls vs->p.length=off->
  ∀f ∈ fl,f.name≠ "_" /\∃l mid,mO P d f.type=some l/\mf l mid/\∀w,(part f.type (p++vs).toArray f.offset).run P w= .ok (valOf (aO P f.type) mid) w
 |[],_,_,_,_,_,_,_,f,hf=>by simp at hf
 |x::fl,off,ls,p,vs,hl,hv,hp,f,hf=>by
  simp only[xk]at hl
  split at hl
  ·rename_i hc
   simp only[Bool.and_eq_true,bne_iff_ne,ne_eq,beq_iff_eq]at hc
   split at hl
   ·rename_i l i uY Gc
    split at hl
    ·rename_i hsz
     have hsz:i.size=l.length:=by simpa using hsz
     obtain⟨l2,hl2,rfl⟩:∃l2,xk P (mO P d) fl (off+l.length)=some l2/\l++l2=ls:=by simpa using hl
     obtain⟨v1,v2,rfl,h1,h2,h3⟩:=hv.split
     rcases List.mem_cons.1 hf with rfl|hf
     ·obtain⟨D,hD⟩:=CJ uY
      refine⟨hc.1,l,v1,uY,h1,fun w=> ?_⟩
      have p1:=gf (w:=w) hD Gc (pre:=p) (mid:=v1) (post:=v2) (by omega) (fun h=>by rw[h3]; exact jU uY h)
      rwa[hp,<-hc.2]at p1
     ·have:=sJ fl (off+l.length) l2 (p++v1) v2 hl2 h2 (by simp; omega) f hf
      rwa[List.append_assoc]at this
    ·simp at hl
   ·simp at hl
  ·simp at hl
theorem vJ{d e:Nat}{l:List LK}{i:TypeInfo}(hl:mO P d e=some l)(hi:P.info? e=some i)(hsz:i.size=l.length):∀(k j:Nat)(p vs:List Value),mf (lM k l) vs->p.length=j*l.length->
  ∀q ∈ List.range' j k,∃mid,mf l mid/\∀w,(part e (p++vs).toArray (q*i.size)).run P w= .ok (valOf (aO P e) mid) w
 |0,_,_,_,_,_,q,hq=>by simp at hq
 |k+1,j,p,vs,hv,hp,q,hq=>by
  have e1:lM (k+1) l=l++lM k l:=by simp[lM,List.replicate_succ]
  rw[e1]at hv
  obtain⟨v1,v2,rfl,h1,h2,h3⟩:=hv.split
  rw[List.range'_succ]at hq
  rcases List.mem_cons.1 hq with rfl|hq
  ·obtain⟨D,hD⟩:=CJ hl
   refine⟨v1,h1,fun w=> ?_⟩
   have p1:=gf (w:=w) hD hi (pre:=p) (mid:=v1) (post:=v2) (by omega) (fun h=>by rw[h3]; exact jU hl h)
   rwa[hp,<-hsz]at p1
  ·have:=vJ hl hi hsz k (j+1) (p++v1) v2 h2 (by rw[List.length_append,hp,h3,Nat.succ_mul]) q hq
   rwa[List.append_assoc]at this
theorem dP{em:Bool}:∀(d:Nat)(m t:Nat)(ls:List LK)(w:World)(vs:List Value),mO P d t=some ls->mf ls vs->
  (Instr.checkKey em (d+m) t (valOf (aO P t) vs)).run P w= .ok () w
 |0,_,_,_,_,_,h,_=>by simp[mO]at h
 |d+1,m,t,ls,w,vs,h,hv=>by
  have e:d+1+m=(d+m)+1:=by omega
  rw[e]
  have ih:=dP (em:=em) d m
  unfold mO at h
  cases hu:P.underlying t with
  |none=>rw[hu]at h; simp at h
  |some D=>
   rw[hu]at h
   cases D<;>simp only[reduceCtorEq]at h
   case bool=>
    obtain rfl:[LK.b]=ls:=by simpa using h
    have ha:aO P t=false:=by simp[aO,hu]
    rcases hv with _|⟨hl,ht⟩
    cases hl; cases ht
    simp[Instr.checkKey,run_underlying hu]
   case int k=>
    obtain rfl:[LK.i]=ls:=by simpa using h
    have ha:aO P t=false:=by simp[aO,hu]
    rcases hv with _|⟨hl,ht⟩
    cases hl; cases ht
    simp[Instr.checkKey,run_underlying hu]
   case string=>
    obtain rfl:[LK.s]=ls:=by simpa using h
    have ha:aO P t=false:=by simp[aO,hu]
    rcases hv with _|⟨hl,ht⟩
    cases hl; cases ht
    simp[Instr.checkKey,run_underlying hu]
   case struct fs=>
    have ha:aO P t=true:=by simp[aO,hu]
    cases hst:P.stoodInHeld t with
    |true=>simp[hst]at h
    |false=>
     simp only[hst,Bool.false_eq_true,if_false]at h
     have each:=sJ (P:=P) fs.toList 0 ls [] vs h hv rfl
     simp only[List.nil_append]at each
     rw[ha]
     simp only[valOf,if_pos]
     rw[Instr.checkKey]
     simp only[Sem.run_bind,run_underlying hu,Result.andThen_ok]
     rw[<-Array.forIn_toList]
     generalize fs.toList=L at each
     induction L with
     |nil=>simp
     |cons f L ihL=>
      obtain⟨hn,l,mid,h1,h2,h3⟩:=each f (by simp)
      simp only[List.forIn_cons,Sem.run_bind,hn,ne_eq,not_false_eq_true,if_true,h3,ih _ _ _ _ h1 h2,Result.andThen_ok,Sem.run_pure]
      exact ihL (fun y hy=>each y (by simp[hy]))
   case array n e=>
    have ha:aO P t=true:=by simp[aO,hu]
    split at h
    ·rename_i l i uY Gc
     split at h
     ·rename_i hsz
      have hsz:i.size=l.length:=by simpa using hsz
      obtain rfl:lM n l=ls:=by simpa using h
      have each:=vJ uY Gc hsz n 0 [] vs hv (by simp)
      simp only[List.nil_append]at each
      rw[ha]
      simp only[valOf,if_pos]
      rw[Instr.checkKey]
      simp only[Sem.run_bind,run_underlying hu,Result.andThen_ok]
      simp only[Std.Legacy.Range.forIn_eq_forIn_range',Std.Legacy.Range.size,Nat.sub_zero,Nat.add_one_sub_one,Nat.div_one]
      generalize List.range' 0 n=L at each
      induction L with
      |nil=>simp
      |cons j L ihL=>
       obtain⟨mid,h2,h3⟩:=each j (by simp)
       simp only[List.forIn_cons,Sem.run_bind,bI Gc,h3,ih _ _ _ _ uY h2,Result.andThen_ok,Sem.run_pure]
       exact ihL (fun y hy=>each y (by simp[hy]))
     ·simp at h
    ·simp at h
def J8(ag:Bool)(ls:List LK)(GY:List Value)(kc:List AV)(test:List AV->List AV->Bool)(e:MapEntry)(r:List AV):Prop:=
 ∃us rs,e.key=valOf ag us/\nc ls GY us rs/\rs.all id=test kc r
inductive GZ{α β:Type}(R:α->β->Prop):List α->List β->Prop
 |nil:GZ R [] []
 |cons {a b as bs} (h:R a b) (t:GZ R as bs):GZ R (a::as) (b::bs)
theorem GZ.of{α β:Type}{R:α->β->Prop}:∀{as:List α}{bs:List β},as.length=bs.length->(∀(i:Nat)(a:α)(b:β),as[i]? =some a->bs[i]? =some b->R a b)->GZ R as bs
 |[],[],_,_=> .nil
 |a::as,b::bs,hl,h=> .cons (h 0 a b rfl rfl) (GZ.of (by simpa using hl) fun i x y hx hy=>h (i+1) x y (by simpa using hx) (by simpa using hy))
 |[],_::_,hl,_=>by simp at hl
 |_::_,[],hl,_=>by simp at hl
def dZ:List LK->List AV->List AV->Bool
 |[],[],_=>true
 | .i::l,.int k _::r,.int k' _::s=>rK k k'&&dZ l r s
 | .b::l,.bool _::r,.bool _::s=>dZ l r s
 | .s::l,.str _::r,.str _::s=>dZ l r s
 |_,_,_=>false
theorem kH:∀{ls:List LK}{kc r:List AV},dZ ls kc r=true->∃rs,uZ ls kc (r.take kc.length) rs/\rs.all id=kU kc r
 |[],[],r,_=>⟨[],by simpa using uZ.nil,by simp[kU]⟩
 | .i::l,.int k x::a,.int k' y::s,h=>by
   simp only[dZ,Bool.and_eq_true]at h
   obtain rfl:=jk h.1
   obtain⟨rs,h1,h2⟩:=kH h.2
   exact⟨_,.cons (.i k x y) h1,by simp[kU,h2]⟩
 | .b::l,.bool x::a,.bool y::s,h=>by
   simp only[dZ]at h
   obtain⟨rs,h1,h2⟩:=kH h
   exact⟨_,.cons (.b x y) h1,by simp[kU,h2]⟩
 | .s::l,.str x::a,.str y::s,h=>by
   simp only[dZ]at h
   obtain⟨rs,h1,h2⟩:=kH h
   exact⟨_,.cons (.s x y) h1,by simp[kU,h2]⟩
def jV(kc:List AV):List MapEntry->List (List AV)->Nat->Option (Nat × Value)
 |e::en,r::es,i=>if kU kc r then some (i,e.val)else jV kc en es (i+1)
 |_,_,_=>none
theorem jt{kc:List AV}:∀{en:List MapEntry}{es:List (List AV)}{i:Nat},en.length=es.length->
  (bR kc es=none/\jV kc en es i=none)\/∃j e r,bR kc es=some (j,r.drop kc.length)/\jV kc en es i=some (i+j,e.val)/\en[j]? =some e/\es[j]? =some r/\kU kc r=true
 |[],[],_,_=> .inl ⟨rfl,rfl⟩
 |e::en,r::es,i,hl=>by
  simp only[bR,jV]
  by_cases h:kU kc r=true
  ·rw[if_pos h,if_pos h]
   exact .inr ⟨0,e,r,rfl,rfl,rfl,rfl,h⟩
  ·rw[if_neg h,if_neg h]
   rcases jt (kc:=kc) (en:=en) (es:=es) (i:=i+1) (by simpa using hl)with⟨h1,h2⟩|⟨j,e2,r2,h1,h2,h3,h4,h5⟩
   ·exact .inl ⟨by rw[h1]; rfl,h2⟩
   ·exact .inr ⟨j+1,e2,r2,by rw[h1]; rfl,by rw[h2]; congr 2; omega,by simpa using h3,by simpa using h4,h5⟩
 |[],_::_,_,hl=>by simp at hl
 |_::_,[],_,hl=>by simp at hl
theorem Ol.same{D:TypeDesc}{l:LK}{v u:Value}{r:Bool}(hD:(D= .bool/\l= .b)\/(∃k,D= .int k/\l= .i)\/(D= .string/\l= .s))(h:Ol l v u r):Instr.sameNow D v u=some r:=by
 rcases hD with⟨rfl,rfl⟩|⟨k,rfl,rfl⟩|⟨rfl,rfl⟩
 ·cases h; simp[Instr.sameNow]
 ·cases h; simp[Instr.sameNow]
 ·cases h
  rename_i x y
  simp only[Instr.sameNow,Option.some.injEq]
  show (x.toArray==y.toArray)=(x==y)
  simp
theorem qQ{D:TypeDesc}{l:LK}{kv:Value}{kc:List AV}(hD:(D= .bool/\l= .b)\/(∃k,D= .int k/\l= .i)\/(D= .string/\l= .s)):∀{en:List MapEntry}{es:List (List AV)}{i:Nat},GZ (J8 false [l] [kv] kc kU) en es->
  Instr.findNow D kv en i=some (jV kc en es i)
 |_,_,_,.nil=>rfl
 |_,_,i,.cons (a:=e) (b:=r) h t=>by
  obtain⟨us,rs,hk,h4,ht⟩:=h
  cases h4 with
  |cons hl h0=>
   rename_i q rs
   cases h0
   simp only[valOf,Bool.false_eq_true,if_false,List.headD_cons]at hk
   have:=hl.same hD
   simp only[Instr.findNow,jV,hk,this]
   simp only[List.all_cons,List.all_nil,Bool.and_true,id]at ht
   rw[<-ht]
   cases q with
   |true=>rfl
   |false=>exact qQ hD t
theorem fU{d t:Nat}{ls:List LK}(hd:d<=10000)(hl:mO P d t=some ls){GY:List Value}{kc:List AV}(w:World):∀{en:List MapEntry}{es:List (List AV)}{i:Nat},GZ (J8 (aO P t) ls GY kc kU) en es->
  (Instr.findAsking t (valOf (aO P t) GY) en i).run P w= .ok (jV kc en es i) w
 |_,_,_,.nil=>by simp[Instr.findAsking,jV]
 |_,_,i,.cons (a:=e) (b:=r) h tl=>by
  obtain⟨us,rs,hk,h4,ht⟩:=h
  have he:=iN d (10000 - d) t ls w GY us rs hl h4
  rw[show d+ (10000 - d)=10000 by omega]at he
  have Y5:(Op.equal t (valOf (aO P t) GY) e.key).run P w= .ok (rs.all id) w:=by rw[hk]; exact he
  simp only[Instr.findAsking,Sem.run_bind,Y5,Result.andThen_ok,jV,ht]
  cases kU kc r with
  |true=>simp
  |false=>simpa using fU hd hl w tl
theorem fO{d t:Nat}{ls:List LK}(hd:d<=10000)(hl:mO P d t=some ls){GY:List Value}{kc:List AV}(w:World)(hkl:mf ls GY){en:List MapEntry}{es:List (List AV)}(h:GZ (J8 (aO P t) ls GY kc kU) en es):
  (Instr.findKey t (valOf (aO P t) GY) en).run P w= .ok (jV kc en es 0) w:=by
 cases d with
 |zero=>simp[mO]at hl
 |succ d=>
  have og:=hl
  unfold mO at hl
  cases hu:P.underlying t with
  |none=>rw[hu]at hl; simp at hl
  |some D=>
   rw[hu]at hl
   have plain:∀l,ls=[l]->aO P t=false->((D= .bool/\l= .b)\/(∃k,D= .int k/\l= .i)\/(D= .string/\l= .s))->(Instr.findKey t (valOf (aO P t) GY) en).run P w= .ok (jV kc en es 0) w:=by
    intro l hls ha hD
    subst hls
    rcases hkl with _|⟨h1,h0⟩
    cases h0
    rw[ha]at h ⊢
    simp only[valOf,Bool.false_eq_true,if_false,List.headD_cons]
    exact MapKept.run_findKey hu (qQ hD h)
   cases D<;>simp only[reduceCtorEq]at hl
   case bool=>exact plain .b (by simpa using hl.symm) (by simp[aO,hu]) (.inl ⟨rfl,rfl⟩)
   case int k=>exact plain .i (by simpa using hl.symm) (by simp[aO,hu]) (.inr (.inl ⟨k,rfl,rfl⟩))
   case string=>exact plain .s (by simpa using hl.symm) (by simp[aO,hu]) (.inr (.inr ⟨rfl,rfl⟩))
   case struct fs=>
    rw[run_findKey_eq w (by rw[hu])]
    exact fU hd og w h
   case array n e=>
    rw[run_findKey_eq w (by rw[hu])]
    exact fU hd og w h
theorem nc.eq:∀{ls:List LK}{vs us:List Value}{rs:List Bool},nc ls vs us rs->rs.all id=true->us=vs
 |_,_,_,_,.nil,_=>rfl
 |_,_,_,_,.cons h t,hr=>by
  simp only[List.all_cons,Bool.and_eq_true,id]at hr
  rw[t.eq hr.2]
  congr 1
  cases h<;>simp_all
theorem nc.Th:∀{ls:List LK}{vs us:List Value}{rs:List Bool},nc ls vs us rs->mf ls vs
 |_,_,_,_,.nil=> .nil
 |_,_,_,_,.cons h t=> .cons (by cases h<;>constructor) t.Th
theorem nN{n:Nat}{l:LK}{v:Value}(h:Tg l v):Instr.sameBits n v v=true:=by
 cases h<;>cases n<;>simp[Instr.sameBits,MapKept.bytes_beq]
theorem o9{n:Nat}:∀{ls:List LK}{vs:List Value},mf ls vs->(vs.zip vs).all (fun q=>Instr.sameBits n q.1 q.2)=true
 |_,_,.nil=>rfl
 |_,_,.cons h t=>by simp[nN h,o9 t]
theorem pa{ag:Bool}{ls:List LK}{vs:List Value}(h:mf ls vs)(hone:ag=false->ls.length=1)(w:World):(Instr.keyThatStays (valOf ag vs) (valOf ag vs)).run P w= .ok (valOf ag vs) w:=by
 have:Instr.sameBits 10000 (valOf ag vs) (valOf ag vs)=true:=by
  cases ag with
  |true=>
   simp only[valOf,if_true]
   have:=o9 (n:=9999) h
   simp[Instr.sameBits,this]
  |false=>
   obtain⟨l,rfl⟩:=List.length_eq_one_iff.1 (hone rfl)
   rcases h with _|⟨h1,h0⟩
   cases h0
   exact nN h1
 simp[Instr.keyThatStays,this]
end Go.AM
namespace Go.AM
open Go.RowKit Go.MapKept
variable {P:Program} {T:TT} {X:cE} {o:Oper} {F:bh} {M:bA}
def AV.jJ:AV->Bool
 | .agg _=>true
 |_=>false
def pb(ag:Bool)(l:List AV):AV:=if ag then .agg l else l.headD .bad
section
variable {ρ ρ':Place} {L L':bi} {I I':Nat->Prop} {w w':World} {N N':Nat->Prop}
theorem dU{v:Value}(h:v.oneCell'=true):gw v=false/\aN v=[v]:=by cases v<;>first|exact⟨rfl,rfl⟩|simp[Value.oneCell']at h
theorem fV(v:Value):valOf (gw v) (aN v)=v:=by cases v<;>simp[valOf,gw,aN]
theorem dL{a:AV}{v:Value}(h:aP ρ L I w N a v)(hs:bX a=true):gw v=a.jJ/\(aN v).length=(cells a).length/\(∀u ∈ aN v,u.oneCell'=true)/\∀j,j< (cells a).length->aP ρ L I w N ((cells a).getD j .bad) ((aN v).getD j default):=by
 have key:gw v=a.jJ/\aN v=v.cells.toList:=by
  cases h with
  |bad=>simp[bX]at hs
  |aQ=>simp[bX]at hs
  |agg cs vs hl h1 hr=>exact⟨rfl,rfl⟩
  |loc n len i off _ hn h1 h=>rw[(dU h1).1,(dU h1).2,fE h1]; exact⟨rfl,rfl⟩
  |aV n len _ hn h1 h=>rw[(dU h1).1,(dU h1).2,fE h1]; exact⟨rfl,rfl⟩
  |eD n len i off cr _ hn h1 h=>rw[(dU h1).1,(dU h1).2,fE h1]; exact⟨rfl,rfl⟩
  |omap n _ hn h1 h=>rw[(dU h1).1,(dU h1).2,fE h1]; exact⟨rfl,rfl⟩
  |_=>exact⟨rfl,rfl⟩
 obtain⟨h1,h2,h3⟩:=p8 h hs
 rw[key.2]
 exact⟨key.1,h1,h2,h3⟩
structure qb(ρ:Place)(L:bi)(I:Nat->Prop)(w:World)(N:Nat->Prop)(k:Nat)(ka va:Bool)(sz:Nat)(key val:Value)(r:List AV):Prop where
 rl:r.length=sz
 kl:(aN key).length=k
 fl:k+ (aN val).length=sz
 ka:gw key=ka
 va:gw val=va
 cell:∀j,j<sz->((aN key++aN val).getD j default).oneCell'=true/\aP ρ L I w N (r.getD j .bad) ((aN key++aN val).getD j default)
structure nf(ρ:Place)(L:bi)(I:Nat->Prop)(w:World)(N:Nat->Prop)(k:Nat)(ka va:Bool)(sz:Nat)(es:List (List AV))(en:Array MapEntry):Prop where
 len:en.size=es.length
 row:∀(i:Nat)(e:MapEntry)(r:List AV),en[i]? =some e->es[i]? =some r->qb ρ L I w N k ka va sz e.key e.val r
structure mg(dn:Dn)(en:Array MapEntry)(ck:Nat):Prop where
 born:∀(i j:Nat)(e f:MapEntry),en[i]? =some e->en[j]? =some f->i<j->e.born<f.born
 clock:∀(i:Nat)(e:MapEntry),en[i]? =some e->e.born<ck
 den:dn.all=true->ck=en.size/\∀(i:Nat)(e:MapEntry),en[i]? =some e->e.born=i
variable {k sz:Nat} {ka va:Bool} {dn:Dn} {es:List (List AV)} {en:Array MapEntry} {ck:Nat}
def ju(sz:Nat)(en:Array MapEntry):Array Value:=Array.ofFn fun p:Fin (maxLen*sz)=>((en[p.val / sz]?).map fun e=>(aN e.key++aN e.val).getD (p.val % sz) undef).getD undef
theorem vK(hsz:sz≠0){i j:Nat}{e:MapEntry}(he:en[i]? =some e)(hi:i<maxLen)(hj:j<sz):(ju sz en)[i*sz+j]? =some ((aN e.key++aN e.val).getD j undef):=by
 have hlt:i*sz+j<maxLen*sz:=by
  have:(i+1)*sz<=maxLen*sz:=Nat.mul_le_mul_right _ hi
  rw[Nat.add_mul,Nat.one_mul]at this; omega
 have h1:(i*sz+j) / sz=i:=by rw[Nat.add_comm,Nat.add_mul_div_right _ _ (Nat.pos_of_ne_zero hsz),Nat.div_eq_of_lt hj,Nat.zero_add]
 have h2:(i*sz+j) % sz=j:=by rw[Nat.add_comm,Nat.add_mul_mod_self_right,Nat.mod_eq_of_lt hj]
 unfold ju
 rw[Array.getElem?_eq_getElem (by simpa using hlt),Array.getElem_ofFn]
 simp only[h1,h2,he,Option.map_some,Option.getD_some]
theorem qc(hsz:sz≠0)(hR:nf ρ L I w N k ka va sz es en)(hC:mg dn en ck)(hle:es.length<=maxLen):yy k ka va dn sz en ck (ju sz en):=by
 have row:∀(i:Nat)(e:MapEntry),en[i]? =some e->i<maxLen/\∃r,qb ρ L I w N k ka va sz e.key e.val r:=fun i e he=>by
  have hlt:=(Array.getElem?_eq_some_iff.1 he).1
  have xn:i<es.length:=by rw[<-hR.len]; exact hlt
  exact⟨by omega,es[i],hR.row i e _ he (List.getElem?_eq_getElem xn)⟩
 refine⟨fun i e he=> ?_,fun i e j u he hu=> ?_,hC.born,hC.clock,hC.den,by simp[ju],hsz⟩
 ·obtain⟨_,r,h⟩:=row i e he
  exact⟨h.kl,by rw[List.length_append,h.kl]; exact h.fl,h.ka,h.va⟩
 ·obtain⟨hi,r,h⟩:=row i e he
  have hj:j<sz:=by
   have:=(List.getElem?_eq_some_iff.1 hu).1
   rw[List.length_append,h.kl,h.fl]at this; exact this
  rw[vK hsz he hi hj,List.getD_eq_getElem?_getD,hu]; rfl
theorem ol(hsz:sz≠0)(hR:nf ρ L I w N k ka va sz es en)(hle:es.length<=maxLen):∀i j,i<es.length->j<sz->∃u,(ju sz en)[i*sz+j]? =some u/\u.oneCell'=true/\aP ρ L I w N ((es.getD i []).getD j .bad) u:=by
 intro i j hi hj
 have hi':i<en.size:=by rw[hR.len]; exact hi
 have h:=hR.row i en[i] es[i] (Array.getElem?_eq_getElem hi') (List.getElem?_eq_getElem hi)
 obtain⟨h1,h2⟩:=h.cell j hj
 have hlt:j< (aN en[i].key++aN en[i].val).length:=by rw[List.length_append,h.kl,h.fl]; exact hj
 refine⟨_,vK hsz (Array.getElem?_eq_getElem hi') (by omega) hj,?_,?_⟩
 ·rw[List.getD_eq_getElem?_getD,List.getElem?_eq_getElem hlt]at h1 ⊢; exact h1
 ·rw[List.getD_eq_getElem?_getD (l:=es),List.getElem?_eq_getElem hi,Option.getD_some]
  rw[List.getD_eq_getElem?_getD (l:=aN en[i].key++aN en[i].val),List.getElem?_eq_getElem hlt]at h2 ⊢; exact h2
theorem gJ{n g cap:Nat}{b:bD}(hW:db X ρ I M N w)(cL:M n=some b)(hmp:b.mp=some (k,ka,va,dn))(hρ:ρ n=some (g,cap)):
  ∃en ck,w.heap[g]? =some (.map en ck)/\nf ρ (lens M) I w N k ka va b.sz b.es en/\mg dn en ck/\b.sz≠0/\cap=maxLen/\b.es.length<=maxLen:=by
 have B:=hW.bf n b cL
 obtain⟨cs,fr,hg,oc,rq,hown,hlc,nK,hcs,hc⟩:=B.real g cap hρ
 rw[hmp]at hg
 obtain⟨en,ck,h1,h2,h3⟩:=hg
 have hcap:cap=maxLen:=by
  have:=h3.room.1
  rw[hcs]at this
  exact Nat.eq_of_mul_eq_mul_right (Nat.pos_of_ne_zero h3.room.2) this
 refine⟨en,ck,h1,⟨h2,fun i e r he hr=> ?_⟩,⟨h3.born,h3.clock,h3.den⟩,h3.room.2,hcap,by omega⟩
 obtain⟨k1,k2,k3,k4⟩:=h3.key i e he
 have hi:i<b.es.length:=(List.getElem?_eq_some_iff.1 hr).1
 refine⟨B.even r (List.mem_of_getElem? hr),k1,by rw[List.length_append,k1]at k2; exact k2,k3,k4,fun j hj=> ?_⟩
 obtain⟨u,pS,G0,hu3⟩:=hc i j hi hj
 have hlt:j< (aN e.key++aN e.val).length:=by rw[k2]; exact hj
 have hu4:=h3.cell i e j _ he (List.getElem?_eq_getElem hlt)
 rw[pS]at hu4
 have e1:(aN e.key++aN e.val).getD j default=u:=by
  rw[List.getD_eq_getElem?_getD,List.getElem?_eq_getElem hlt]; exact (Option.some.inj hu4).symm
 have e2:b.es.getD i []=r:=by rw[List.getD_eq_getElem?_getD,hr]; rfl
 rw[e1,<-e2]
 exact⟨G0,hu3⟩
theorem k8{n g cap:Nat}{b:bD}{v:Value}{av:AV}(hW:db X ρ I M N w)(cL:M n=some b)(hmp:b.mp=some (k,ka,va,dn))(hρ:ρ n=some (g,cap)){Ei:Array MapEntry}{J9:Nat}{es':List (List AV)}{J':Dn}
  (hR:nf ρ (lens M) I w N k ka va b.sz es' Ei) (hC:mg J' Ei J9) (hle:es'.length<=maxLen) (hr:aP ρ (lens M) I w N av v) (hit:∀r sn la,J'= .it r sn la->X.w0.heap.size<=r/\¬I r/\F9 {w with heap:=w.heap.setIfInBounds g (.map Ei J9)} g r sn la):
  iz X M N ρ I w av [(n,⟨b.ty,b.sz,es',some (k,ka,va,J')⟩)] v {w with heap:=w.heap.setIfInBounds g (.map Ei J9)}:=by
 have B:=hW.bf n b cL
 obtain⟨en,ck,hg,_,_,hsz,rfl,_⟩:=gJ hW cL hmp hρ
 have kD:∀b0,M n=some b0->b0=b:=fun b0 h0=>by rw[cL]at h0; exact (Option.some.inj h0).symm
 obtain⟨h1,h2⟩:=heap_set (o':= .map Ei J9) hg
 obtain⟨E,W⟩:=hW.put (w':= {w with heap:=w.heap.setIfInBounds g (.map Ei J9)}) n ⟨b.ty,b.sz,es',some (k,ka,va,J')⟩ g maxLen (ju b.sz Ei) (0,0) rfl rfl rfl (by simp) (fun q _ hq=>h2 q hq)
  ⟨Ei,J9,h1,hR.len,qc hsz hR hC hle⟩ (fun o _ h=>by omega) (.inr ⟨maxLen,hρ,b,cL⟩) (fun b0 h0=>by rw[kD b0 h0]; refine⟨rfl,by simp[bD.ln,hmp],fun _=>hρ⟩) (fun _=>⟨b,cL⟩)
  (fun e he=>by
    obtain⟨i,hi,rfl⟩:=List.getElem_of_mem he
    have hi':i<Ei.size:=by rw[hR.len]; exact hi
    exact (hR.row i Ei[i] es'[i] (Array.getElem?_eq_getElem hi') (List.getElem?_eq_getElem hi)).rl)
  hle (Nat.le_refl _) (by simp[ju]) (ol hsz hR hle) (fun k' JH JI r sn la hb=>by cases hb; exact hit r sn la rfl)
 refine⟨_,_,E,by rw[bU]; exact W,?_⟩
 rw[bU]
 exact (hr.yr E (fun _ h=>h)).wide (fun _ h=> .inr h)
theorem mg.push{key val:Value}(h:mg dn en ck):mg dn.up (en.push ⟨key,val,ck⟩) (ck+1):=by
 have Ka:∀(i:Nat)(e:MapEntry),(en.push ⟨key,val,ck⟩)[i]? =some e->(i<en.size/\en[i]? =some e)\/(i=en.size/\e.born=ck):=fun i e he=>by
  rw[Array.getElem?_push]at he
  split at he
  ·rename_i hi; exact .inr ⟨hi,by simp at he; rw[<-he]⟩
  ·exact .inl ⟨(Array.getElem?_eq_some_iff.1 he).1,he⟩
 refine⟨fun i j e f he hf hij=> ?_,fun i e he=> ?_,fun hd=> ?_⟩
 ·rcases Ka i e he with⟨h1,h2⟩|⟨h1,h2⟩<;>rcases Ka j f hf with⟨h3,h4⟩|⟨h3,h4⟩
  ·exact h.born i j e f h2 h4 hij
  ·have:=h.clock i e h2; omega
  ·omega
  ·omega
 ·rcases Ka i e he with⟨h1,h2⟩|⟨h1,h2⟩
  ·have:=h.clock i e h2; omega
  ·omega
 ·obtain⟨h1,h2⟩:=h.den (by rw[<-Dn.Gm]; exact hd)
  refine⟨by simp[h1],fun i e he=> ?_⟩
  rcases Ka i e he with⟨_,h4⟩|⟨h3,h4⟩
  ·exact h2 i e h4
  ·omega
theorem mg.modify{f:MapEntry->MapEntry}(hf:∀e,(f e).born=e.born)(i:Nat)(h:mg dn en ck):mg dn (en.modify i f) ck:=by
 have Ka:∀(j:Nat)(e:MapEntry),(en.modify i f)[j]? =some e->∃e0,en[j]? =some e0/\e.born=e0.born:=fun j e he=>by
  rw[Array.getElem?_modify]at he
  split at he
  ·obtain⟨e0,h1,rfl⟩:=Option.map_eq_some_iff.1 he
   exact⟨e0,h1,hf e0⟩
  ·exact⟨e,he,rfl⟩
 refine⟨fun a b e g he hg hab=> ?_,fun a e he=> ?_,fun hd=> ?_⟩
 ·obtain⟨e0,h1,h2⟩:=Ka a e he
  obtain⟨g0,h3,h4⟩:=Ka b g hg
  have:=h.born a b e0 g0 h1 h3 hab; omega
 ·obtain⟨e0,h1,h2⟩:=Ka a e he
  have:=h.clock a e0 h1; omega
 ·obtain⟨h1,h2⟩:=h.den hd
  refine⟨by simp[h1],fun a e he=> ?_⟩
  obtain⟨e0,h3,h4⟩:=Ka a e he
  have:=h2 a e0 h3; omega
theorem mg.up(h:mg dn en ck):mg dn.up en ck:=
 ⟨h.born,h.clock,fun hd=>h.den (by rw[<-Dn.Gm]; exact hd)⟩
theorem nf.push{key val:Value}{r:List AV}(h:nf ρ L I w N k ka va sz es en)(he:qb ρ L I w N k ka va sz key val r)(c:Nat):nf ρ L I w N k ka va sz (es++ [r]) (en.push ⟨key,val,c⟩):=by
 refine⟨by simp[h.len],fun i e q h1 h2=> ?_⟩
 rw[Array.getElem?_push]at h1
 split at h1
 ·rename_i hi
  have hl:=h.len
  have:q=r:=by rw[List.getElem?_append_right (by omega)]at h2; simp[hi,h.len]at h2; exact h2.symm
  simp at h1
  rw[this,<-h1]; exact he
 ·rename_i hi
  have hlt:=(Array.getElem?_eq_some_iff.1 h1).1
  rw[List.getElem?_append_left (by rw[<-h.len]; exact hlt)]at h2
  exact h.row i e q h1 h2
theorem nf.set{f:MapEntry->MapEntry}{i:Nat}{r:List AV}(h:nf ρ L I w N k ka va sz es en)(he:∀e,en[i]? =some e->qb ρ L I w N k ka va sz (f e).key (f e).val r):nf ρ L I w N k ka va sz (es.set i r) (en.modify i f):=by
 refine⟨by simp[h.len],fun j e q h1 h2=> ?_⟩
 rw[Array.getElem?_modify]at h1
 split at h1
 ·rename_i hij
  subst hij
  obtain⟨e0,h3,rfl⟩:=Option.map_eq_some_iff.1 h1
  have hlt:=(Array.getElem?_eq_some_iff.1 h3).1
  rw[List.getElem?_set_self (by rw[<-h.len]; exact hlt)]at h2
  cases h2
  exact he e0 h3
 ·rename_i hij
  rw[List.getElem?_set_ne hij]at h2
  exact h.row j e q h1 h2
theorem qb.mk'{a b:AV}{key val:Value}(h1:aP ρ L I w N a key)(s1:bX a=true)(h2:aP ρ L I w N b val)(s2:bX b=true)(hk:(cells a).length=k)(hf:k+ (cells b).length=sz)(hka:a.jJ=ka)(oL:b.jJ=va):
  qb ρ L I w N k ka va sz key val (cells a++cells b):=by
 obtain⟨p1,p2,p3,p4⟩:=dL h1 s1
 obtain⟨q1,q2,q3,q4⟩:=dL h2 s2
 refine⟨by rw[List.length_append]; omega,by omega,by omega,p1.trans hka,q1.trans oL,fun j hj=> ?_⟩
 by_cases hjk:j<k
 ·have e1:(aN key++aN val).getD j default=(aN key).getD j default:=by rw[List.getD_eq_getElem?_getD,List.getElem?_append_left (by omega),List.getD_eq_getElem?_getD]
  have e2:(cells a++cells b).getD j .bad=(cells a).getD j .bad:=by rw[List.getD_eq_getElem?_getD,List.getElem?_append_left (by omega),List.getD_eq_getElem?_getD]
  rw[e1,e2]
  refine⟨?_,p4 j (by omega)⟩
  rw[List.getD_eq_getElem?_getD,List.getElem?_eq_getElem (by omega)]
  exact p3 _ (List.getElem_mem _)
 ·have e1:(aN key++aN val).getD j default=(aN val).getD (j - k) default:=by rw[List.getD_eq_getElem?_getD,List.getElem?_append_right (by omega),List.getD_eq_getElem?_getD,p2,hk]
  have e2:(cells a++cells b).getD j .bad=(cells b).getD (j - k) .bad:=by rw[List.getD_eq_getElem?_getD,List.getElem?_append_right (by omega),List.getD_eq_getElem?_getD,hk]
  rw[e1,e2]
  refine⟨?_,q4 (j - k) (by omega)⟩
  rw[List.getD_eq_getElem?_getD,List.getElem?_eq_getElem (by omega)]
  exact q3 _ (List.getElem_mem _)
theorem qb.val{key val:Value}{r:List AV}(h:qb ρ L I w N k ka va sz key val r)(hv:va=false->k<sz):aP ρ L I w N (pb va (r.drop k)) val:=by
 have hc:∀j,j< (aN val).length->((aN val).getD j default).oneCell'=true/\aP ρ L I w N ((r.drop k).getD j .bad) ((aN val).getD j default):=fun j hj=>by
  have:=h.cell (k+j) (by have:=h.fl; omega)
  have e1:(aN key++aN val).getD (k+j) default=(aN val).getD j default:=by
   rw[List.getD_eq_getElem?_getD,List.getElem?_append_right (by rw[h.kl]; omega),List.getD_eq_getElem?_getD,h.kl]
   congr 2; omega
  have e2:(r.drop k).getD j .bad=r.getD (k+j) .bad:=by simp[List.getD_eq_getElem?_getD,List.getElem?_drop]
  rw[e1]at this
  rw[e2]; exact this
 have oL:=h.va
 have hfl:=h.fl
 have hrl:=h.rl
 cases va with
 |true=>
  cases val<;>simp only[gw,Bool.false_eq_true]at oL
  rename_i cs
  simp only[aN]at hc hfl
  have:=aP.agg (ρ:=ρ) (L:=L) (I:=I) (w:=w) (N:=N) (r.drop k) cs.toList (by rw[List.length_drop,hrl]; omega) (fun u hu=>by
   obtain⟨j,hj,rfl⟩:=List.getElem_of_mem hu
   have:=(hc j hj).1
   rwa[List.getD_eq_getElem?_getD,List.getElem?_eq_getElem hj,Option.getD_some]at this) (fun j hj=>(hc j (by rw[List.length_drop,hrl]at hj; omega)).2)
  simpa[pb]using this
 |false=>
  have hf:aN val=[val]:=by cases val<;>first|rfl|simp[gw]at oL
  have:=(hc 0 (by rw[hf]; simp)).2
  rw[hf]at this
  have e:(r.drop k).headD .bad=(r.drop k).getD 0 .bad:=by cases r.drop k<;>rfl
  simp only[pb,Bool.false_eq_true,if_false,e]
  simpa using this
theorem rQ{t d:Nat}{ls:List LK}{a:AV}{kv:Value}(hl:mO P d t=some ls)(jI:aO P t=ka)(h:aP ρ L I w N a kv)(hs:bX a=true)(hk:(cells a).length=k)(hR:nf ρ L I w N k ka va sz es en)(hok:∀r ∈ es,dZ ls (cells a) r=true):
  GZ (J8 (aO P t) ls (aN kv) (cells a) kU) en.toList es:=by
 obtain⟨p1,p2,p3,p4⟩:=dL h hs
 refine GZ.of (by simpa using hR.len) fun i e r he hr=> ?_
 have hE:=hR.row i e r (by simpa using he) hr
 obtain⟨rs,h1,h2⟩:=kH (hok r (List.mem_of_getElem? hr))
 refine⟨aN e.key,rs,by rw[jI,<-hE.ka]; exact (fV _).symm,?_,h2⟩
 have hle:k<=r.length:=by have:=hE.rl; have:=hE.fl; omega
 refine h1.val p2 (by rw[List.length_take,hE.kl]; omega) p4 fun j hj=> ?_
 have hj':j<k:=by rw[List.length_take]at hj; omega
 have:=(hE.cell j (by have:=hE.fl; omega)).2
 have e1:(aN e.key++aN e.val).getD j default=(aN e.key).getD j default:=by rw[List.getD_eq_getElem?_getD,List.getElem?_append_left (by rw[hE.kl]; exact hj'),List.getD_eq_getElem?_getD]
 have e2:(r.take (cells a).length).getD j .bad=r.getD j .bad:=by simp only[List.getD_eq_getElem?_getD,List.getElem?_take]; rw[if_pos (by omega)]
 rw[e1]at this
 rw[e2]; exact this
end
theorem pd{ls:List LK}{a:AV}{ρ:Place}{L:bi}{I:Nat->Prop}{w:World}{N:Nat->Prop}{kv:Value}(h:aP ρ L I w N a kv)(hs:bX a=true)(hok:dZ ls (cells a) (cells a)=true):mf ls (aN kv):=by
 obtain⟨p1,p2,p3,p4⟩:=dL h hs
 obtain⟨rs,h1,_⟩:=kH hok
 rw[List.take_length]at h1
 exact (h1.val p2 p2 p4 p4).Th
end Go.AM
namespace Go.AM
open Go.RowKit Go.MapKept
variable {P:Program} {T:TT} {X:cE} {o:Oper} {F:bh} {M:bA}
theorem mh{d:TD}{D:TypeDesc}{k e:Nat}(hd:d= .map k e)(h:d.fits D):D= .map k e:=by
 subst hd; cases D<;>simp_all[TD.fits]
theorem kI{ρ:Place}{L:bi}{I:Nat->Prop}{w:World}{N:Nat->Prop}{n sz:Nat}{v:Value}(h:aP ρ L I w N (.omap n) v)(hl:L n=some (0,sz)):N n/\∃g cap,ρ n=some (g,cap)/\v= .map (some g):=by
 cases h with
 |omap _ _ hn h1 h=>exact⟨hn,h sz hl⟩
theorem qR{ρ:Place}{L:bi}{I:Nat->Prop}{w:World}{N:Nat->Prop}{n g cap:Nat}(hn:N n)(hρ:ρ n=some (g,cap)):aP ρ L I w N (.omap n) (.map (some g)):=
 .omap n _ hn rfl fun _ _=>⟨g,cap,hρ,rfl⟩
theorem xp{n t:Nat}{k:Nat}{ka va:Bool}{sz:Nat}(hsz:sz≠0)(ho:o.op= .makeMap t none):bT P X o F M (.omap n) [(n,⟨0,sz,[],some (k,ka,va,.b true)⟩)] [n]:=by
 refine⟨fun p hp=> .inl (by simp at hp; simp[hp]),fun M' N ρ I ac w hW hU hN hF=> ?_⟩
 have hn:¬N n:=hF n (by simp)
 have hd:∀b0,M' n=some b0->False:=fun b0 h0=>hn (hW.bf n b0 h0).lt
 have hR:nf ρ (lens M') I w N k ka va sz [] #[]:=⟨rfl,fun i e r h _=>by simp at h⟩
 have hC:mg (.b true) #[] 0:=⟨fun i j e f h=>by simp at h,fun i e h=>by simp at h,fun _=>⟨rfl,fun i e h=>by simp at h⟩⟩
 obtain⟨E,W⟩:=hW.put (w':=w.alloc (.map #[] 0)) n ⟨0,sz,[],some (k,ka,va,.b true)⟩ w.heap.size maxLen (ju sz #[]) (0,0) rfl rfl rfl (by simp) (fun k hk _=>Below.heap_alloc w _ k hk)
  ⟨#[],0,heap_alloc_new w _,rfl,qc hsz hR hC (by simp)⟩ (fun o _ h=>by omega)
  (.inl (Nat.le_refl _)) (fun b0 h0=>(hd b0 h0).elim) (fun h=>(hn h).elim) (fun e he=>by simp at he) (by simp) (Nat.le_refl _) (by simp[ju]) (ol hsz hR (by simp))
 unfold bZ
 have hrun:(execOp ac.eval o).run P w= .ok (.value (.map (some w.heap.size))) (w.alloc (.map #[] 0)):=by
  simp[execOp,ho,run_makeMap]
 rw[hrun]
 refine⟨_,I,E,by rw[bU]; exact W,?_⟩
 rw[bU]
 exact qR (cap:=maxLen) (.inl rfl) (by simp[iW])
section
variable {t kt et n d k:Nat} {ka va:Bool} {dn:Dn} {b:bD} {ls:List LK} {x key:Operand}
theorem sK{w:World}{g:Nat}{en:Array MapEntry}{ck:Nat}{kv z:Value}{i:TypeInfo}{ok:Bool}{r:Option (Nat × Value)}(hu:P.underlying t=some (.map kt et))(hg:w.heap[g]? =some (.map en ck))
  (hc:∀em,(Instr.checkKey em 10000 kt kv).run P w= .ok () w) (hf:(Instr.findKey kt kv en.toList).run P w= .ok r w) (hi:P.info? et=some i) (hz:i.zero=some z):
  (Instr.lookup t (.map (some g)) kv ok).run P w= .ok (if ok then .tuple #[(r.map (·.2)).getD z,.bool r.isSome]else (r.map (·.2)).getD z) w:=by
 cases r with
 |none=>simp[Instr.lookup,run_underlying hu,MapKept.run_getObj_map hg,hc,hf,gA hi hz]
 |some q=>simp[Instr.lookup,run_underlying hu,MapKept.run_getObj_map hg,hc,hf]
def Bk(ok:Bool)(v:AV)(is:Bool):AV:=if ok then .aQ [v,.bool is]else v
def u7(va:Bool)(z:AV)(q:Option (Nat × List AV)):AV:=match q with
 |some q=>pb va q.2
 |none=>z
theorem qS(hT:dD P T){ok:Bool}(ho:o.op= .lookup t x key ok)(ht:T.d t= .map kt et)(G1:(T.d et).ok=true)(hx:ev F x= .omap n)(hb:M n=some b)(hmp:b.mp=some (k,ka,va,dn))
  (hd:d<=10000) (hl:mO P d kt=some ls) (jI:aO P kt=ka) (hs:bX (ev F key)=true) (hka:(ev F key).jJ=ka) (hk:(cells (ev F key)).length=k) (hkk:dZ ls (cells (ev F key)) (cells (ev F key))=true)
  (hok:∀r ∈ b.es,dZ ls (cells (ev F key)) r=true) (hv:va=false->k<b.sz):
  bT P X o F M (Bk ok (u7 va (T.z et) (bR (cells (ev F key)) b.es)) (bR (cells (ev F key)) b.es).isSome) [] []:=by
 have eU:x ∈ o.op.operands.toList:=by simp[ho,Op.operands]
 have Oq:key ∈ o.op.operands.toList:=by simp[ho,Op.operands]
 obtain⟨D,it,z,hD,hf,_⟩:=hT t (by rw[ht]; simp)
 have iG:=mh ht hf
 subst iG
 obtain⟨De,ie,ze,Gd,No,hie,mK,_,Ob,ky⟩:=hT et (TD.ee G1)
 refine aH fun M' N ρ I a w hW hU hN=> ?_
 have r1:=ax hU x eU
 have r2:=ax hU key Oq
 rw[hx]at r1
 obtain⟨sl,fq,fF⟩:=bE (F:=F) x eU (n:=n) (by rw[hx]; simp[AV.names])
 have cL:M' n=some b:=(hN sl fq n fF).trans hb
 have ej:lens M' n=some (0,b.sz):=by rw[aC]; exact⟨b,cL,by simp[bD.ln,hmp],rfl⟩
 obtain⟨hn,g,cap,hρ,qA⟩:=kI r1 ej
 obtain⟨en,ck,hg,hR,hC,hsz,_,_⟩:=gJ hW cL hmp hρ
 have Ej:valOf (aO P kt) (aN (a.eval key))=a.eval key:=by
  rw[jI,<-hka,<-(dL r2 hs).1]; exact fV _
 have Ek:=pd r2 hs hkk
 have gg:=fO hd hl w Ek (rQ hl jI r2 hs hk hR hok)
 have u9:∀em,(Instr.checkKey em 10000 kt (a.eval key)).run P w= .ok () w:=fun em=>by
  have:=dP (em:=em) d (10000 - d) kt ls w _ hl Ek
  rw[show d+ (10000 - d)=10000 by omega,Ej]at this; exact this
 rw[Ej]at gg
 refine⟨if ok then .tuple #[((jV (cells (ev F key)) en.toList b.es 0).map (·.2)).getD ze,.bool (jV (cells (ev F key)) en.toList b.es 0).isSome]else ((jV (cells (ev F key)) en.toList b.es 0).map (·.2)).getD ze,?_,?_⟩
 ·simp only[execOp,ho,qA,Sem.run_bind,sK hD hg u9 gg hie Ob,Result.andThen_ok,Sem.run_pure]
 ·rcases jt (kc:=cells (ev F key)) (en:=en.toList) (es:=b.es) (i:=0) (by simpa using hR.len)with⟨h1,h2⟩|⟨j,e,r,h1,h2,h3,h4,h5⟩
  ·rw[h1,h2]
   have hz:aP ρ (lens M') I w N (T.z et) ze:=by rw[ky]; exact gz _ _ _ _ _ _
   cases ok with
   |false=>simpa[Bk,u7]using hz
   |true=>
    simp only[Bk,u7,if_true,Option.map_none,Option.getD_none,Option.isSome_none]
    exact .aQ [T.z et,.bool false] [ze,.bool false] rfl fun j hj=>by
     match j,hj with
     |0,_=>simpa using hz
     |1,_=>exact .bool _
  ·rw[h1,h2]
   have hE:=hR.row j e r (by simpa using h3) h4
   have hval:aP ρ (lens M') I w N (pb va (r.drop (cells (ev F key)).length)) e.val:=by rw[hk]; exact hE.val hv
   cases ok with
   |false=>simpa[Bk,u7]using hval
   |true=>
    simp only[Bk,u7,if_true,Option.map_some,Option.getD_some,Option.isSome_some]
    exact .aQ [_,.bool true] [e.val,.bool true] rfl fun j hj=>by
     match j,hj with
     |0,_=>simpa using hval
     |1,_=>exact .bool _
def Kb(kc vs:List AV)(es:List (List AV)):List (List AV):=match bR kc es with
 |some q=>es.set q.1 (kc++vs)
 |none=>es++ [kc++vs]
theorem Kc{ls:List LK}{kc r:List AV}(h1:dZ ls kc r=true)(h2:kU kc r=true):∃rs,uZ ls kc (r.take kc.length) rs/\rs.all id=true:=by
 obtain⟨rs,h3,h4⟩:=kH h1
 exact⟨rs,h3,by rw[h4]; exact h2⟩
theorem yT{ρ:Place}{L:bi}{I:Nat->Prop}{w:World}{N:Nat->Prop}{a:AV}{kv:Value}{e:MapEntry}{r:List AV}{sz:Nat}(h:aP ρ L I w N a kv)(hs:bX a=true)(hka:a.jJ=ka)(hk:(cells a).length=k)
  (hE:qb ρ L I w N k ka va sz e.key e.val r) (hok:dZ ls (cells a) r=true) (hB:kU (cells a) r=true):e.key=kv:=by
 obtain⟨p1,p2,p3,p4⟩:=dL h hs
 obtain⟨rs,h1,h2⟩:=Kc hok hB
 have hle:k<=r.length:=by have:=hE.rl; have:=hE.fl; omega
 have h4:=h1.val p2 (us:=aN e.key) (by rw[List.length_take,hE.kl]; omega) p4 fun j hj=>by
  have hj':j<k:=by rw[List.length_take]at hj; omega
  have:=(hE.cell j (by have:=hE.fl; omega)).2
  have e1:(aN e.key++aN e.val).getD j default=(aN e.key).getD j default:=by rw[List.getD_eq_getElem?_getD,List.getElem?_append_left (by rw[hE.kl]; exact hj'),List.getD_eq_getElem?_getD]
  have e2:(r.take (cells a).length).getD j .bad=r.getD j .bad:=by simp only[List.getD_eq_getElem?_getD,List.getElem?_take]; rw[if_pos (by omega)]
  rw[e1]at this
  rw[e2]; exact this
 have:=h4.eq h2
 rw[<-fV e.key,hE.ka,this,<-hka,<-p1,fV]
theorem sL(hT:dD P T){val:Operand}(ho:o.op= .mapUpdate t x key val\/ o.op= .insert t x key val)(ht:T.d t= .map kt et)(hx:ev F x= .omap n)(hb:M n=some b)(hmp:b.mp=some (k,ka,va,dn))
  (hd:d<=10000) (hl:mO P d kt=some ls) (jI:aO P kt=ka) (hs:bX (ev F key)=true) (hka:(ev F key).jJ=ka) (hk:(cells (ev F key)).length=k) (hkk:dZ ls (cells (ev F key)) (cells (ev F key))=true)
  (hok:∀r ∈ b.es,dZ ls (cells (ev F key)) r=true) (Ti:bX (ev F val)=true) (oL:(ev F val).jJ=va) (hvl:k+ (cells (ev F val)).length=b.sz) (hle:b.es.length+1<=iJ):
  bT P X o F M (.aQ []) [(n,⟨b.ty,b.sz,Kb (cells (ev F key)) (cells (ev F val)) b.es,some (k,ka,va,dn.up)⟩)] []/\n ∈ (ev F x).names:=by
 have eU:x ∈ o.op.operands.toList:=by rcases ho with ho|ho<;>simp[ho,Op.operands]
 have Oq:key ∈ o.op.operands.toList:=by rcases ho with ho|ho<;>simp[ho,Op.operands]
 have hvo:val ∈ o.op.operands.toList:=by rcases ho with ho|ho<;>simp[ho,Op.operands]
 obtain⟨D,it,z,hD,hf,_⟩:=hT t (by rw[ht]; simp)
 have iG:=mh ht hf
 subst iG
 obtain⟨sl,fq,fF⟩:=bE (F:=F) x eU (n:=n) (by rw[hx]; simp[AV.names])
 refine⟨⟨fun p hp=> .inr ⟨sl,fq,by simp at hp; rw[hp]; exact fF⟩,fun M' N ρ I a w hW hU hN _=> ?_⟩,by rw[hx]; simp[AV.names]⟩
 have r1:=ax hU x eU
 have r2:=ax hU key Oq
 have r3:=ax hU val hvo
 rw[hx]at r1
 have cL:M' n=some b:=(hN sl fq n fF).trans hb
 have ej:lens M' n=some (0,b.sz):=by rw[aC]; exact⟨b,cL,by simp[bD.ln,hmp],rfl⟩
 obtain⟨hn,g,cap,hρ,qA⟩:=kI r1 ej
 obtain⟨en,ck,hg,hR,hC,hsz,_,_⟩:=gJ hW cL hmp hρ
 have Ej:valOf (aO P kt) (aN (a.eval key))=a.eval key:=by
  rw[jI,<-hka,<-(dL r2 hs).1]; exact fV _
 have Ek:=pd r2 hs hkk
 have gg:=fO hd hl w Ek (rQ hl jI r2 hs hk hR hok)
 have u9:∀em,(Instr.checkKey em 10000 kt (a.eval key)).run P w= .ok () w:=fun em=>by
  have:=dP (em:=em) d (10000 - d) kt ls w _ hl Ek
  rw[show d+ (10000 - d)=10000 by omega,Ej]at this; exact this
 have hst:(Instr.keyThatStays (a.eval key) (a.eval key)).run P w= .ok (a.eval key) w:=by
  have:=pa (P:=P) (ag:=aO P kt) Ek (fun h=>jU hl h) w
  rwa[Ej]at this
 rw[Ej]at gg
 have Np:∀w',(Instr.mapUpdate t (.map (some g)) (a.eval key) (a.eval val)).run P w= .ok () w'->(execOp a.eval o).run P w= .ok .skip w':=fun w' h=>by
  rcases ho with ho|ho<;>simp[execOp,ho,qA,h]
 have hmk:=qb.mk' r2 hs r3 Ti hk hvl hka oL
 unfold bZ Kb
 rcases jt (kc:=cells (ev F key)) (en:=en.toList) (es:=b.es) (i:=0) (by simpa using hR.len)with⟨h1,h2⟩|⟨j,e,r,h1,h2,h3,h4,h5⟩
 ·rw[h2]at gg
  rw[h1,Np {w with heap:=w.heap.setIfInBounds g (.map (en.push ⟨a.eval key,a.eval val,ck⟩) (ck+1))} (by
   simp[Instr.mapUpdate,run_underlying hD,MapKept.run_getObj_map hg,u9,gg,MapKept.run_setObj_map _ hg])]
  exact k8 hW cL hmp hρ (hR.push hmk ck) hC.push (by simp only[List.length_append,List.length_singleton]; simp only[iJ]at hle; simp only[maxLen]; omega) (.aQ [] [] rfl (fun j hj=>by simp at hj)) (fun _ _ _ h=>(Dn.Gn h).elim)
 ·rw[h2,Nat.zero_add]at gg
  have Ot:en[j]? =some e:=by simpa using h3
  have hE:=hR.row j e r Ot h4
  have hkey:=yT r2 hs hka hk hE (hok r (List.mem_of_getElem? h4)) h5
  rw[h1,Np {w with heap:=w.heap.setIfInBounds g (.map (en.modify j fun e=> {e with key:=a.eval key,val:=a.eval val}) ck)} (by
   simp[Instr.mapUpdate,run_underlying hD,MapKept.run_getObj_map hg,u9,gg,Ot,hkey,hst,MapKept.run_setObj_map _ hg])]
  exact k8 hW cL hmp hρ (hR.set (f:=fun e=> {e with key:=a.eval key,val:=a.eval val}) fun _ _=>hmk) (hC.up.modify (f:=fun e=> {e with key:=a.eval key,val:=a.eval val}) (fun _=>rfl) j) (by rw[List.length_set]; simp only[iJ]at hle; simp only[maxLen]; omega) (.aQ [] [] rfl (fun j hj=>by simp at hj)) (fun _ _ _ h=>(Dn.Gn h).elim)
def Bl(kc zs:List AV)(es:List (List AV)):List (List AV):=match bR kc es with
 |some _=>es
 |none=>es++ [kc++zs]
def xq(kc:List AV)(es:List (List AV)):Nat:=match bR kc es with
 |some q=>q.1
 |none=>es.length
theorem nO(hT:dD P T)(ho:o.op= .mapEntry t x key)(ht:T.d t= .map kt et)(G1:(T.d et).ok=true)(hx:ev F x= .omap n)(hb:M n=some b)(hmp:b.mp=some (k,ka,va,.b true))
  (hd:d<=10000) (hl:mO P d kt=some ls) (jI:aO P kt=ka) (hs:bX (ev F key)=true) (hka:(ev F key).jJ=ka) (hk:(cells (ev F key)).length=k) (hkk:dZ ls (cells (ev F key)) (cells (ev F key))=true)
  (hok:(∀r ∈ b.es,r.length=b.sz)->∀r ∈ b.es,dZ ls (cells (ev F key)) r=true) (Ti:bX (T.z et)=true) (oL:(T.z et).jJ=va) (hvl:k+ (cells (T.z et)).length=b.sz) (hv:va=false->k<b.sz) (hle:b.es.length+1<=iJ):
  bT P X o F M (.aQ [u7 va (T.z et) (bR (cells (ev F key)) b.es),.int .i64 (xq (cells (ev F key)) b.es)]) [(n,⟨b.ty,b.sz,Bl (cells (ev F key)) (cells (T.z et)) b.es,some (k,ka,va,.b true)⟩)] []/\n ∈ (ev F x).names:=by
 have eU:x ∈ o.op.operands.toList:=by simp[ho,Op.operands]
 have Oq:key ∈ o.op.operands.toList:=by simp[ho,Op.operands]
 obtain⟨D,it,z,hD,hf,_⟩:=hT t (by rw[ht]; simp)
 have iG:=mh ht hf
 subst iG
 obtain⟨De,ie,ze,Gd,No,hie,mK,_,Ob,ky⟩:=hT et (TD.ee G1)
 obtain⟨sl,fq,fF⟩:=bE (F:=F) x eU (n:=n) (by rw[hx]; simp[AV.names])
 refine⟨⟨fun p hp=> .inr ⟨sl,fq,by simp at hp; rw[hp]; exact fF⟩,fun M' N ρ I a w hW hU hN _=> ?_⟩,by rw[hx]; simp[AV.names]⟩
 have r1:=ax hU x eU
 have r2:=ax hU key Oq
 rw[hx]at r1
 have cL:M' n=some b:=(hN sl fq n fF).trans hb
 have ej:lens M' n=some (0,b.sz):=by rw[aC]; exact⟨b,cL,by simp[bD.ln,hmp],rfl⟩
 obtain⟨hn,g,cap,hρ,qA⟩:=kI r1 ej
 obtain⟨en,ck,hg,hR,hC,hsz,_,Ge⟩:=gJ hW cL hmp hρ
 have hok:=hok (hW.bf n b cL).even
 have Ej:valOf (aO P kt) (aN (a.eval key))=a.eval key:=by
  rw[jI,<-hka,<-(dL r2 hs).1]; exact fV _
 have Ek:=pd r2 hs hkk
 have gg:=fO hd hl w Ek (rQ hl jI r2 hs hk hR hok)
 have u9:∀em,(Instr.checkKey em 10000 kt (a.eval key)).run P w= .ok () w:=fun em=>by
  have:=dP (em:=em) d (10000 - d) kt ls w _ hl Ek
  rw[show d+ (10000 - d)=10000 by omega,Ej]at this; exact this
 have hst:(Instr.keyThatStays (a.eval key) (a.eval key)).run P w= .ok (a.eval key) w:=by
  have:=pa (P:=P) (ag:=aO P kt) Ek (fun h=>jU hl h) w
  rwa[Ej]at this
 rw[Ej]at gg
 have hzr:aP ρ (lens M') I w N (T.z et) ze:=by rw[ky]; exact gz _ _ _ _ _ _
 obtain⟨Y6,CK⟩:=hC.den rfl
 have two:∀{a1 a2:AV}{v1 v2:Value},aP ρ (lens M') I w N a1 v1->aP ρ (lens M') I w N a2 v2->aP ρ (lens M') I w N (.aQ [a1,a2]) (.tuple #[v1,v2]):=fun {a1 a2 v1 v2} q1 q2=> .aQ [a1,a2] [v1,v2] rfl fun j hj=>by
  match j,hj with
  |0,_=>simpa using q1
  |1,_=>simpa using q2
 unfold bZ Bl xq
 rcases jt (kc:=cells (ev F key)) (en:=en.toList) (es:=b.es) (i:=0) (by simpa using hR.len)with⟨h1,h2⟩|⟨j,e,r,h1,h2,h3,h4,h5⟩
 ·rw[h2]at gg
  have hrun:(execOp a.eval o).run P w= .ok (.value (.tuple #[ze,goInt ck])) {w with heap:=w.heap.setIfInBounds g (.map (en.push ⟨a.eval key,ze,ck⟩) (ck+1))}:=by
   simp[execOp,ho,qA,Instr.mapEntry,run_underlying hD,MapKept.run_getObj_map hg,u9,gg,gA hie Ob,MapKept.run_setObj_map _ hg]
  rw[h1,hrun]
  refine k8 hW cL hmp hρ (hR.push (qb.mk' r2 hs hzr Ti hk hvl hka oL) ck) hC.push (by simp only[List.length_append,List.length_singleton]; simp only[iJ]at hle; simp only[maxLen]; omega) (two hzr ?_) (fun _ _ _ h=>by cases h)
  rw[Y6,hR.len]; exact .int _ _
 ·rw[h2,Nat.zero_add]at gg
  have Ot:en[j]? =some e:=by simpa using h3
  have hE:=hR.row j e r Ot h4
  have hkey:=yT r2 hs hka hk hE (hok r (List.mem_of_getElem? h4)) h5
  have hrun:(execOp a.eval o).run P w= .ok (.value (.tuple #[e.val,goInt e.born])) {w with heap:=w.heap.setIfInBounds g (.map (en.modify j fun e=> {e with key:=a.eval key}) ck)}:=by
   simp[execOp,ho,qA,Instr.mapEntry,run_underlying hD,MapKept.run_getObj_map hg,u9,gg,Ot,hkey,hst,MapKept.run_setObj_map _ hg]
  rw[h1,hrun]
  have Sw:nf ρ (lens M') I w N k ka va b.sz b.es (en.modify j fun e=> {e with key:=a.eval key}):=by
   have:=hR.set (i:=j) (f:=fun e=> {e with key:=a.eval key}) (r:=r) (fun e0 he0=>by rw[Ot]at he0; cases he0; rw[<-hkey]; exact hE)
   have hlt:=(List.getElem?_eq_some_iff.1 h4)
   rwa[<-hlt.2,List.set_getElem_self]at this
  refine k8 hW cL hmp hρ Sw (hC.modify (f:=fun e=> {e with key:=a.eval key}) (fun _=>rfl) j) Ge (two ?_ ?_) (fun _ _ _ h=>by cases h)
  ·simp only[u7]
   rw[hk]; exact hE.val hv
  ·have:=CK j e Ot
   rw[this]; exact .int _ _
theorem rB{stamp val:Operand}{q:IntKind}{j:Nat}{r:List AV}(ho:o.op= .entryStore t x stamp val)(hx:ev F x= .omap n)(hb:M n=some b)(hmp:b.mp=some (k,ka,va,.b true))
  (hst:ev F stamp= .int q j) (hr:b.es[j]? =some r) (Ti:bX (ev F val)=true) (oL:(ev F val).jJ=va) (hvl:k+ (cells (ev F val)).length=b.sz):
  bT P X o F M (.aQ []) [(n,⟨b.ty,b.sz,b.es.set j (r.take k++cells (ev F val)),some (k,ka,va,.b true)⟩)] []/\n ∈ (ev F x).names:=by
 have eU:x ∈ o.op.operands.toList:=by simp[ho,Op.operands]
 have hso:stamp ∈ o.op.operands.toList:=by simp[ho,Op.operands]
 have hvo:val ∈ o.op.operands.toList:=by simp[ho,Op.operands]
 obtain⟨sl,fq,fF⟩:=bE (F:=F) x eU (n:=n) (by rw[hx]; simp[AV.names])
 refine⟨⟨fun p hp=> .inr ⟨sl,fq,by simp at hp; rw[hp]; exact fF⟩,fun M' N ρ I a w hW hU hN _=> ?_⟩,by rw[hx]; simp[AV.names]⟩
 have r1:=ax hU x eU
 have r2:=bN (hst ▸ ax hU stamp hso)
 have r3:=ax hU val hvo
 rw[hx]at r1
 have cL:M' n=some b:=(hN sl fq n fF).trans hb
 have ej:lens M' n=some (0,b.sz):=by rw[aC]; exact⟨b,cL,by simp[bD.ln,hmp],rfl⟩
 obtain⟨hn,g,cap,hρ,qA⟩:=kI r1 ej
 obtain⟨en,ck,hg,hR,hC,hsz,_,Ge⟩:=gJ hW cL hmp hρ
 obtain⟨Y6,CK⟩:=hC.den rfl
 have hj:j<b.es.length:=(List.getElem?_eq_some_iff.1 hr).1
 have hje:j<en.size:=by rw[hR.len]; exact hj
 have hidx:en.findIdx? (fun e=>(e.born:Int)==(j:Int))=some j:=by
  rw[Array.findIdx?_eq_some_iff_getElem]
  refine⟨hje,?_,fun i hi=> ?_⟩
  ·have:=CK j en[j] (Array.getElem?_eq_getElem hje)
   simp[this]
  ·have:=CK i (en[i]'(by omega)) (Array.getElem?_eq_getElem (by omega))
   simp only[this,Bool.not_eq_true,beq_eq_false_iff_ne,ne_eq]; omega
 have hrun:(execOp a.eval o).run P w= .ok .skip {w with heap:=w.heap.setIfInBounds g (.map (en.modify j fun e=> {e with val:=a.eval val}) ck)}:=by
  simp[execOp,ho,qA,r2,Instr.entryStore,MapKept.run_getObj_map hg,asInt,asIntOf,hidx,MapKept.run_setObj_map _ hg]
 unfold bZ
 rw[hrun]
 refine k8 hW cL hmp hρ (hR.set (i:=j) (f:=fun e=> {e with val:=a.eval val}) fun e he=> ?_) (hC.modify (f:=fun e=> {e with val:=a.eval val}) (fun _=>rfl) j) (by rw[List.length_set]; exact Ge) (.aQ [] [] rfl (fun j hj=>by simp at hj)) (fun _ _ _ h=>by cases h)
 have hE:=hR.row j e r he hr
 obtain⟨q1,q2,q3,q4⟩:=dL r3 Ti
 have hle:k<=r.length:=by have:=hE.rl; have:=hE.fl; omega
 have Y7:(r.take k).length=k:=by rw[List.length_take]; omega
 refine⟨by rw[List.length_append,Y7]; omega,hE.kl,by show k+ (aN (a.eval val)).length=_; omega,hE.ka,q1.trans oL,fun p hp=> ?_⟩
 show ((aN e.key++aN (a.eval val)).getD p default).oneCell'=true/\aP ρ (lens M') I w N ((r.take k++cells (ev F val)).getD p .bad) ((aN e.key++aN (a.eval val)).getD p default)
 by_cases hpk:p<k
 ·have:=hE.cell p hp
  have e0:(aN e.key++aN e.val).getD p default=(aN e.key).getD p default:=by rw[List.getD_eq_getElem?_getD,List.getElem?_append_left (by rw[hE.kl]; exact hpk),List.getD_eq_getElem?_getD]
  have e1:(aN e.key++aN (a.eval val)).getD p default=(aN e.key).getD p default:=by rw[List.getD_eq_getElem?_getD,List.getElem?_append_left (by rw[hE.kl]; exact hpk),List.getD_eq_getElem?_getD]
  have e2:(r.take k++cells (ev F val)).getD p .bad=r.getD p .bad:=by
   rw[List.getD_eq_getElem?_getD,List.getElem?_append_left (by omega),List.getElem?_take,if_pos hpk,List.getD_eq_getElem?_getD]
  rw[e0]at this
  rw[e1,e2]; exact this
 ·have e1:(aN e.key++aN (a.eval val)).getD p default=(aN (a.eval val)).getD (p - k) default:=by rw[List.getD_eq_getElem?_getD,List.getElem?_append_right (by rw[hE.kl]; omega),List.getD_eq_getElem?_getD,hE.kl]
  have e2:(r.take k++cells (ev F val)).getD p .bad=(cells (ev F val)).getD (p - k) .bad:=by rw[List.getD_eq_getElem?_getD,List.getElem?_append_right (by omega),List.getD_eq_getElem?_getD,Y7]
  rw[e1,e2]
  refine⟨?_,q4 (p - k) (by omega)⟩
  rw[List.getD_eq_getElem?_getD,List.getElem?_eq_getElem (by omega)]
  exact q3 _ (List.getElem_mem _)
end
end Go.AM
namespace Go.AM
open Go.RowKit Go.MapKept
variable {P:Program} {T:TT} {X:cE} {o:Oper} {F:bh} {M:bA}
theorem oP.p5{av:AV}(h:oP P X o F M av):bT P X o F M av [] []:=
 ⟨fun p hp=>by simp at hp,fun M' N ρ I a w W hr hM _=>h M' N ρ I a w W hr (fun s hs n hn=>by rw[hM s hs n hn])⟩
theorem Bn:∀{ls:List LK}{kc r:List AV},dZ ls kc kc=true->jG kc=true->jG r=true->kc.length<=r.length->dZ ls kc r=true
 |[],[],_,_,_,_,_=>by simp[dZ]
 | .i::l,.int k x::a,r,h,g,g2,hl=>by
   cases k<;>simp only[jG,Bool.false_eq_true]at g
   cases r with
   |nil=>simp at hl
   |cons c s=>
    cases c with
    |int k2 y=>
     cases k2<;>simp only[jG,Bool.false_eq_true]at g2
     simp only[dZ,Bool.and_eq_true]at h ⊢
     exact⟨rfl,Bn h.2 g g2 (by simpa using hl)⟩
    |_=>simp[jG]at g2
 | .i::l,[],_,h,_,_,_=>by simp[dZ]at h
 | .b::l,[],_,h,_,_,_=>by simp[dZ]at h
 | .s::l,[],_,h,_,_,_=>by simp[dZ]at h
 |[],_::_,_,h,_,_,_=>by simp[dZ]at h
 | .b::l,c::a,_,h,g,_,_=>by cases c<;>simp[dZ,jG]at h g
 | .s::l,c::a,_,h,g,_,_=>by cases c<;>simp[dZ,jG]at h g
 | .i::l,.bool _::a,_,_,g,_,_=>by simp[jG]at g
 | .i::l,.str _::a,_,_,g,_,_=>by simp[jG]at g
 | .i::l,.bM::a,_,_,g,_,_=>by simp[jG]at g
 | .i::l,.ai::a,_,_,g,_,_=>by simp[jG]at g
 | .i::l,.aw::a,_,_,g,_,_=>by simp[jG]at g
 | .i::l,.ep::a,_,_,g,_,_=>by simp[jG]at g
 | .i::l,.cj::a,_,_,g,_,_=>by simp[jG]at g
 | .i::l,.loc .. ::a,_,_,g,_,_=>by simp[jG]at g
 | .i::l,.aV .. ::a,_,_,g,_,_=>by simp[jG]at g
 | .i::l,.eD .. ::a,_,_,g,_,_=>by simp[jG]at g
 | .i::l,.aD .. ::a,_,_,g,_,_=>by simp[jG]at g
 | .i::l,.bz .. ::a,_,_,g,_,_=>by simp[jG]at g
 | .i::l,.omap .. ::a,_,_,g,_,_=>by simp[jG]at g
 | .i::l,.ce .. ::a,_,_,g,_,_=>by simp[jG]at g
 | .i::l,.agg .. ::a,_,_,g,_,_=>by simp[jG]at g
 | .i::l,.aQ .. ::a,_,_,g,_,_=>by simp[jG]at g
 | .i::l,.bad::a,_,_,g,_,_=>by simp[jG]at g
theorem El(q:Option (Nat × List AV)):u7 false (.int .i64 0) q=DY q:=by cases q<;>rfl
section
variable {t kt et n d k:Nat} {ka:Bool} {dn:Dn} {b:bD} {ls:List LK} {x key:Operand}
theorem G2(hT:dD P T)(ho:o.op= .lookup t x key false)(ht:T.d t= .map kt et)(G1:(T.d et).ok=true)(hz:T.z et= .int .i64 0)(hx:ev F x= .omap n)(hb:M n=some b)(hmp:b.mp=some (k,ka,false,dn))
  (hd:d<=10000) (hl:mO P d kt=some ls) (jI:aO P kt=ka) (hs:bX (ev F key)=true) (hka:(ev F key).jJ=ka) (hk:(cells (ev F key)).length=k) (hkk:dZ ls (cells (ev F key)) (cells (ev F key))=true)
  (hg:jG (cells (ev F key))=true) (Tj:∀r ∈ b.es,jG r=true) (hsz:b.sz=k+1):
  oP P X o F M (DY (bR (cells (ev F key)) b.es)):=by
 intro M' N ρ I a w hW hU hV
 have eU:x ∈ o.op.operands.toList:=by simp[ho,Op.operands]
 obtain⟨sl,fq,fF⟩:=bE (F:=F) x eU (n:=n) (by rw[hx]; simp[AV.names])
 have hv:=hV sl fq n fF
 rw[hb]at hv
 cases hb':M' n with
 |none=>rw[hb']at hv; simp[Vw]at hv
 |some b'=>
  rw[hb']at hv
  simp only[Vw,Option.map_some,Option.some.injEq,Prod.mk.injEq]at hv
  obtain⟨v1,v2,v3,v4⟩:=hv
  have aas:∀r ∈ b'.es,jG r=true:=v4.symm ▸ Tj
  have v3':=congrFun v3 (cells (ev F key))
  rw[v1,if_pos (by omega),if_pos (by omega)]at v3'
  have hok:∀r ∈ b'.es,dZ ls (cells (ev F key)) r=true:=fun r hr=>Bn hkk hg (aas r hr) (by
   have:=(hW.bf n b' hb').even r hr
   omega)
  have D:=qS (X:=X) (M:=M') hT ho ht G1 hx hb' (v2.trans hmp) hd hl jI hs hka hk hkk hok (fun _=>by omega)
  simp only[Bk,Bool.false_eq_true,if_false,hz,El]at D
  rw[v3']at D
  exact D.2 M' N ρ I a w hW hU (fun _ _ _ _=>rfl) (fun _ h=>by simp at h)
theorem vM{kc r:List AV}:∀{es:List (List AV)},bR kc (es++ [r])=match bR kc es with
  |some q=>some q
  |none=>if kU kc r then some (es.length,r.drop kc.length)else none
 |[]=>by simp only[List.nil_append,bR]; cases kU kc r<;>rfl
 |e::es=>by
  simp only[List.cons_append,bR]
  by_cases h:kU kc e=true
  ·simp[h]
  ·simp only[if_neg h]
   rw[vM (es:=es)]
   cases bR kc es with
   |some q=>rfl
   |none=>by_cases h2:kU kc r=true<;>simp[h2]
theorem CM:∀{a b:List AV},jG (a++b)=(jG a&&jG b)
 |[],b=>by simp[jG]
 |c::a,b=>by
  cases c<;>simp only[List.cons_append,jG,Bool.false_and]
  rename_i k y
  cases k<;>simp only[jG,CM,Bool.false_and]
theorem Kd{kc:List AV}(hmp:b.mp=some (k,ka,false,.b true))(hk:kc.length=k)(hsz:b.sz=k+1)(hg:jG kc=true):Vw (some b)=Vw (some ⟨b.ty,b.sz,Bl kc [.int .i64 0] b.es,some (k,ka,false,.b true)⟩):=by
 simp only[Vw,Option.map_some,Option.some.injEq,Prod.mk.injEq]
 refine⟨trivial,hmp,?_,?_⟩
 ·funext kc'
  split
  ·rename_i hl
   unfold Bl
   cases hm:bR kc b.es with
   |some q=>rfl
   |none=>
    simp only
    rw[vM]
    cases hm':bR kc' b.es with
    |some q=>rfl
    |none=>
     simp only
     split
     ·have:(kc++ [AV.int .i64 0]).drop kc'.length=[.int .i64 0]:=by
       rw[show kc'.length=kc.length by omega,List.drop_left]
      rw[this]; rfl
     ·rfl
  ·rfl
 ·apply propext
  unfold Bl
  cases bR kc b.es with
  |some q=>exact Iff.rfl
  |none=>
   simp only[List.mem_append,List.mem_singleton]
   exact⟨fun h r hr=>hr.elim (h r) (fun e=>by rw[e,CM,hg]; rfl),fun h r hr=>h r (.inl hr)⟩
end
end Go.AM
namespace Go.AM
open Go.RowKit
structure Env where
 P:Program
 T:TT
 ok:PT P T
 ft:Nat->Nat
 ty:Nat->Nat
inductive Sc where
 |t (n:Nat)
 |k (v:AV)
 |f (g:Nat)
inductive vN where
 |mv (x:Sc)
 |pick (c a b:Sc)
 |alloc (ty:Nat) (z:List AV)
 |box (ty:Nat) (x:Sc)
 |build (z:List AV) (ps:List (Nat × Nat × Sc))
 |aq (ty sz len:Nat) (z:List AV) (ps:List (Nat × Sc))
 |load (ag:Bool) (n:Nat) (x:Sc)
 |store (n:Nat) (x v:Sc)
 |aL (x:Sc)
 |bin (op:BinOp) (x y:Sc)
 |Ou (neg:Bool) (x y:Sc)
 |SA (neg:Bool) (x:Sc)
 |Bo (neg:Bool) (x:Sc)
 |Ke (neg:Bool) (x:Sc)
 |s2a (m sz:Nat) (x:Sc)
 |Nq (ty sz:Nat) (x:Sc)
 |sM (neg:Bool) (ls:List LK) (x y:Sc)
 |bst (op:BinOp) (x y:Sc)
 |un (op:UnOp) (x:Sc)
 |conv (k:IntKind) (x:Sc)
 |Tk (x:Sc)
 |s2b (ty:Nat) (x:Sc)
 |Y8 (x:Sc)
 |SB (g:Nat) (cs:List Sc)
 |aF (off:Nat) (x:Sc)
 |G3 (ag:Bool) (off n:Nat) (x:Sc)
 |mi (sz:Nat) (x i:Sc)
 |ba (m sz:Nat) (x i:Sc)
 |G4 (ag:Bool) (m sz:Nat) (x i:Sc)
 |Tl (x i:Sc)
 |u' (ty sz:Nat) (x:Sc) (lo hi mx:Option Sc)
 |yU (m sz:Nat) (x:Sc) (lo hi mx:Option Sc)
 |Tm (x:Sc) (lo hi:Option Sc)
 |ext (x:Sc) (i:Nat)
 |call (g:Nat) (as:List Sc)
 |gW (f:Sc) (as:List Sc)
 |vO (f:Sc) (as:List Sc)
 |pe (f:Sc) (as:List Sc)
 |qT (g:Nat) (as:List Sc)
 |Ov (n:Nat)
 |fw (x:Sc)
 |Ow (x:Sc)
 |mm (mx:Bool) (as:List Sc)
 |app (ty sz:Nat) (s x:Sc)
 |Kf (ty:Nat) (s x:Sc)
 |Kg (ty sz:Nat) (z:List AV) (s x:Sc)
 |mks (ty sz:Nat) (z:List AV) (l c:Sc)
 |copy (sz:Nat) (x y:Sc)
 |Ox (k:Nat) (ka va:Bool) (sz:Nat)
 |Gf (ls:List LK) (ag va:Bool) (z:AV) (ok:Bool) (x key:Sc)
 |G5 (ls:List LK) (ag va:Bool) (x key v:Sc)
 |enm (ls:List LK) (ag va:Bool) (z:AV) (x key:Sc)
 |stm (va:Bool) (x st v:Sc)
 |Nr (ls:List LK) (ag:Bool) (x key:Sc)
 |enc (ls:List LK) (ag:Bool) (x key:Sc)
 |Ns (ls:List LK) (ag:Bool) (x key:Sc)
 |Oy (x:Sc)
 |SC (x:Sc)
 |JZ (x:Sc)
structure cG where
 d:Option Nat
 g:Option (Nat × Bool)
 o:vN
inductive dx where
 |bad
 |skip
 |ret
 |exit (id:Nat)
 |ops (l:List cG)
 |draw (ms:List Nat) (us:List (List Nat)) (l:List cG)
 |Nt (ms:List Nat) (us:List (List Nat)) (l l2:List cG)
 |seq (a b:dx)
 |cond (c:Sc) (a b:dx)
 |block (id:Nat) (c:dx)
 |loop (c:dx)
 |sN (ls:List Nat) (c:dx)
 |scope (c:dx)
 |xu (f:Sc) (ps:List Nat) (asg body:dx)
inductive xv where
 |t (n:Nat)
 |cell (a:Nat) (ag:Bool) (n:Nat)
structure br where
 np:Nat
 rs:List xv
 body:dx
inductive bP where
 |var (ty:Nat) (row:List AV)
 |arr (ty sz:Nat) (es:List (List AV))
 |map (k:Nat) (ka va:Bool) (dn:Dn) (sz:Nat) (es:List (List AV))
def bP.bf:bP->bD
 | .var ty row=>⟨ty,row.length,[row],none⟩
 | .arr ty sz es=>⟨ty,sz,es,none⟩
 | .map k ka va dn sz es=>⟨0,sz,es,some (k,ka,va,dn)⟩
abbrev ah:=List (Nat × bP)
def az:ah->Mem
 |[]=>[]
 |(n,b)::r=>(n,b.bf)::az r
structure rC(b:Bool)(X Y:Prop):Prop where
 t:b=true->X
 f:b=false->Y
structure JJ(k:IntKind)(n:Int)(K:Int->Prop):Prop where
 h:K (wr k n)
structure Tn(es:List (List AV))(i:Nat)(K:List AV->Prop):Prop where
 h:K (es.getD i [])
structure To(i:Int)(m:Nat)(K:Nat->Prop):Prop where
 h:(0<=i/\i< (m:Int))/\K i.toNat
theorem rC.sound{b:Bool}{X Y:Prop}(h:rC b X Y):(b=true/\X)\/(b=false/\Y):=by
 cases b
 ·exact .inr ⟨rfl,h.f rfl⟩
 ·exact .inl ⟨rfl,h.t rfl⟩
abbrev KS:=bh->ah->Nat->Prop
def nP:bh->Nat->(AV->Prop)->Prop
 |[],_,K=>K .bad
 |(j,v)::r,i,K=>bif Nat.beq i j then K v else nP r i K
theorem cU(a b:Nat):Nat.beq a b=(a==b):=by
 by_cases h:a=b
 ·subst h; simp
 ·have:(a==b)=false:=by simpa using h
  rw[this]; exact Bool.eq_false_iff.2 (fun e=>h (Nat.eq_of_beq_eq_true e))
theorem iB:∀(F:bh)(i:Nat)(K:AV->Prop),nP F i K=K (look F i)
 |[],_,_=>rfl
 |(j,v)::r,i,K=>by
  simp only[nP,look,cU]
  cases i==j
  ·exact iB r i K
  ·rfl
def Env.cl(R:Env)(g:Nat)(cs:List AV):AV:= .ce (.fn (R.ft g)) cs
def dS(R:Env)(F:bh):Sc->(AV->Prop)->Prop
 | .t n,K=>nP F n K
 | .k v,K=>K v
 | .f g,K=>K (R.cl g [])
def ng(R:Env)(F:bh):Sc->AV
 | .t n=>look F n
 | .k v=>v
 | .f g=>R.cl g []
theorem aI(R:Env)(F:bh)(x:Sc)(K:AV->Prop):dS R F x K=K (ng R F x):=by
 cases x
 ·exact iB _ _ _
 ·rfl
 ·rfl
def sO(R:Env)(F:bh):List Sc->(List AV->Prop)->Prop
 |[],K=>K []
 |x::r,K=>dS R F x fun v=>sO R F r fun l=>K (v::l)
theorem gK(R:Env)(F:bh):∀(l:List Sc)(K:List AV->Prop),sO R F l K=K (l.map (ng R F))
 |[],_=>rfl
 |x::r,K=>by simp only[sO,aI,gK R F r,List.map_cons]
def Bp(R:Env)(F:bh):Option Sc->(Option AV->Prop)->Prop
 |none,K=>K none
 |some x,K=>dS R F x fun v=>K (some v)
theorem CN(R:Env)(F:bh)(x:Option Sc)(K:Option AV->Prop):Bp R F x K=K (x.map (ng R F)):=by
 cases x
 ·rfl
 ·simp only[Bp,aI,Option.map_some]
def aM(d:Option Nat)(v:AV)(F:bh)(M:ah)(nx:Nat)(K:KS):Prop:=
 match d with
 |none=>K F M nx
 |some i=>K ((i,v)::F) M nx
def CO(F:bh):List Nat->(bh->Prop)->Prop
 |[],K=>K []
 |i::r,K=>nP F i fun v=>CO F r fun F'=>K ((i,v)::F')
theorem sP{F:bh}:∀{l:List Nat}{K:bh->Prop},CO F l K->∃F',(∀i,look F' i=look F i\/ look F' i= .bad)/\K F'
 |[],K,h=>⟨[],fun _=> .inr rfl,h⟩
 |i::r,K,h=>by
  simp only[CO,iB]at h
  obtain⟨F',h1,h2⟩:=sP (l:=r) (K:=fun F'=>K ((i,look F i)::F')) h
  refine⟨(i,look F i)::F',fun j=> ?_,h2⟩
  by_cases e:j=i
  ·subst e; left; simp[look]
  ·have:(j==i)=false:=by simpa using e
   simp only[look,this,cond_false]
   exact h1 j
def dr:ah->Nat->(bP->Prop)->Prop
 |[],_,_=>False
 |(m,b)::r,n,K=>bif Nat.beq n m then K b else dr r n K
theorem aU:∀{M:ah}{n:Nat}{K:bP->Prop},dr M n K->∃b,ab (az M) n=some b.bf/\K b
 |[],_,_,h=>h.elim
 |(m,b)::r,n,K,h=>by
  simp only[dr,cU]at h
  simp only[az,ab]
  cases hb:n==m with
  |true=>rw[hb]at h; exact⟨b,rfl,h⟩
  |false=>rw[hb]at h; exact aU (M:=r) h
def iC:ah->Nat->bP->(ah->Prop)->Prop
 |[],n,b,K=>K [(n,b)]
 |(m,c)::r,n,b,K=>bif Nat.beq n m then K ((m,b)::r)else iC r n b fun r'=>K ((m,c)::r')
theorem cC:∀{M:ah}{n:Nat}{b:bP}{K:ah->Prop},iC M n b K->∃M',az M'=gZ (az M) n b.bf/\K M'
 |[],n,b,K,h=>⟨_,rfl,h⟩
 |(m,c)::r,n,b,K,h=>by
  simp only[iC,cU]at h
  simp only[az,gZ]
  cases hb:n==m with
  |true=>rw[hb]at h; exact⟨_,rfl,h⟩
  |false=>
   rw[hb]at h
   obtain⟨M',h1,h2⟩:=cC (M:=r) (K:=fun r'=>K ((m,c)::r')) h
   exact⟨_,by simp only[az,h1]; rfl,h2⟩
theorem rR(M:ah)(n:Nat)(b:bP):ab (az ((n,b)::M))=ab (gZ (az M) n b.bf):=by
 funext m
 rw[mG]
 simp only[az,ab]
 by_cases h:m=n
 ·subst h; simp
 ·have:(m==n)=false:=by simpa using h
  simp[this,h]
def yV:Nat->List AV->(List AV->Prop)->Prop
 |0,_,K=>K []
 |n+1,c::r,K=>yV n r fun l=>K (c::l)
 |_+1,[],_=>False
theorem k9:∀{n:Nat}{cs:List AV}{K:List AV->Prop},yV n cs K->(cs.take n).length=n/\K (cs.take n)
 |0,_,_,h=>⟨rfl,h⟩
 |n+1,c::r,K,h=>by
  obtain⟨h1,h2⟩:=k9 (K:=fun l=>K (c::l)) h
  exact⟨by simp only[List.take_succ_cons,List.length_cons,h1],by simpa using h2⟩
 |_+1,[],_,h=>h.elim
def Nu(n:Nat)(cs:List AV)(K:AV->Prop):Prop:=
 match n,cs with
 |1,c::_=>K c
 |_,_=>False
def G6(ag:Bool)(n:Nat)(cs:List AV)(K:AV->Prop):Prop:=
 match ag with
 |true=>yV n cs fun l=>K (.agg l)
 |false=>Nu n cs K
def sQ(ag:Bool)(n:Nat):Nat->List AV->(AV->Prop)->Prop
 |0,cs,K=>G6 ag n cs K
 |off+1,_::r,K=>sQ ag n off r K
 |_+1,[],_=>False
theorem jv{ag:Bool}{n:Nat}:∀{off:Nat}{cs:List AV}{K:AV->Prop},sQ ag n off cs K->apart ag n off cs K
 |0,cs,K,h=>by
  simp only[sQ,G6]at h
  simp only[apart,List.drop_zero]
  cases ag with
  |true=>
   simp only at h
   obtain⟨h1,h2⟩:=k9 h
   exact aG (by simp only[h1,beq_self_eq_true]) h2
  |false=>
   simp only[Nu]at h
   split at h
   ·exact aG rfl (aG rfl h)
   ·exact False.elim h
 |off+1,c::r,K,h=>by
  have:=jv (off:=off) (cs:=r) h
  simpa[apart]using this
 |_+1,[],_,h=>h.elim
def CP:List AV->List AV->(List AV->Prop)->Prop
 |[],cs,K=>K cs
 |v::r,_::cs,K=>CP r cs fun l=>K (v::l)
 |_::_,[],_=>False
def lf:Nat->List AV->List AV->(List AV->Prop)->Prop
 |0,vs,cs,K=>CP vs cs K
 |off+1,vs,c::cs,K=>lf off vs cs fun l=>K (c::l)
 |_+1,_,[],_=>False
theorem sR:∀{vs cs:List AV}{K:List AV->Prop},CP vs cs K->vs.length<=cs.length/\K (vs++cs.drop vs.length)
 |[],cs,K,h=>⟨Nat.zero_le _,by simpa[CP]using h⟩
 |v::r,c::cs,K,h=>by
  obtain⟨h1,h2⟩:=sR (vs:=r) (cs:=cs) (K:=fun l=>K (v::l)) h
  exact⟨by simpa using h1,by simpa using h2⟩
 |_::_,[],_,h=>h.elim
theorem fh:∀{off:Nat}{vs cs:List AV}{K:List AV->Prop},lf off vs cs K->off+vs.length<=cs.length/\K (bS off vs cs)
 |0,vs,cs,K,h=>by
  obtain⟨h1,h2⟩:=sR h
  exact⟨by omega,by simpa[bS]using h2⟩
 |off+1,vs,c::cs,K,h=>by
  obtain⟨h1,h2⟩:=fh (off:=off) (vs:=vs) (cs:=cs) (K:=fun l=>K (c::l)) h
  refine⟨by simp only[List.length_cons]; omega,?_⟩
  have e:bS (off+1) vs (c::cs)=c::bS off vs cs:=by
   simp only[bS,List.take_succ_cons,List.cons_append]
   congr 3
   rw[show off+1+vs.length=(off+vs.length)+1 by omega,List.drop_succ_cons]
  rw[e]; exact h2
 |_+1,_,[],_,h=>h.elim
def lg(v:AV)(K:List AV->Prop):Prop:=
 match v with
 | .agg cs=>K cs
 | .bad=>False
 | .aQ _=>False
 | .int k n=>K [.int k n]
 | .bool b=>K [.bool b]
 | .str s=>K [.str s]
 | .bM=>K [.bM]
 | .ai=>K [.ai]
 | .aw=>K [.aw]
 | .ep=>K [.ep]
 | .cj=>K [.cj]
 | .nE _ _=>False
 | .loc n len i off=>K [.loc n len i off]
 | .aV n len=>K [.aV n len]
 | .eD n len i off cr=>K [.eD n len i off cr]
 | .omap n=>K [.omap n]
 | .aD sz es=>K [.aD sz es]
 | .bz e off=>K [.bz e off]
 | .ce f cs=>K [.ce f cs]
theorem di{v:AV}{K:List AV->Prop}(h:lg v K):bX v=true/\K (cells v):=by
 cases v<;>first|exact⟨rfl,h⟩|exact h.elim
def yW(vs:List AV)(n:Nat)(K:Prop):Prop:=bif Nat.beq vs.length n then K else False
theorem jw{vs:List AV}{n:Nat}{K:Prop}(h:yW vs n K):vs.length=n/\K:=by
 unfold yW at h
 cases hb:Nat.beq vs.length n with
 |true=>rw[hb]at h; exact⟨Nat.eq_of_beq_eq_true hb,h⟩
 |false=>rw[hb]at h; exact h.elim
def Em(R:Env)(F:bh):List (Nat × Nat × Sc)->List AV->(List AV->Prop)->Prop
 |[],cs,K=>K cs
 |(off,n,x)::r,cs,K=>dS R F x fun v=>lg v fun vs=>yW vs n (lf off vs cs fun cs'=>Em R F r cs' K)
def Oz:Nat->List AV->List (List AV)->(List (List AV)->Prop)->Prop
 |0,v,_::r,K=>K (v::r)
 |n+1,v,e::r,K=>Oz n v r fun l=>K (e::l)
 |_,_,[],_=>False
theorem vP:∀{i:Nat}{v:List AV}{es:List (List AV)}{K:List (List AV)->Prop},Oz i v es K->i<es.length/\K (es.set i v)
 |0,v,e::r,K,h=>⟨by simp,h⟩
 |n+1,v,e::r,K,h=>by
  obtain⟨h1,h2⟩:=vP (K:=fun l=>K (e::l)) h
  exact⟨by simpa using h1,by simpa using h2⟩
 |0,_,[],_,h=>h.elim
 |_+1,_,[],_,h=>h.elim
def OA(z:List AV):Nat->(List (List AV)->Prop)->Prop
 |0,K=>K []
 |n+1,K=>OA z n fun l=>K (z::l)
theorem vQ{z:List AV}:∀{n:Nat}{K:List (List AV)->Prop},OA z n K->K (List.replicate n z)
 |0,_,h=>h
 |n+1,K,h=>by
  have:=vQ (K:=fun l=>K (z::l)) h
  simpa[List.replicate_succ]using this
def vR:Nat->List AV->(List AV->Prop)->Prop
 |0,r,K=>K r
 |n+1,_::r,K=>vR n r K
 |_+1,[],_=>False
def OB:Nat->List AV->(List AV->List AV->Prop)->Prop
 |0,r,K=>K [] r
 |n+1,c::r,K=>OB n r fun l r'=>K (c::l) r'
 |_+1,[],_=>False
def CQ(sz:Nat):Nat->List AV->(List (List AV)->Prop)->Prop
 |0,_,K=>K []
 |n+1,r,K=>OB sz r fun l r'=>CQ sz n r' fun es=>K (l::es)
theorem lh:∀{n:Nat}{r:List AV}{K:List AV->Prop},vR n r K->n<=r.length/\K (r.drop n)
 |0,_,_,h=>⟨Nat.zero_le _,h⟩
 |n+1,c::r,K,h=>by
  obtain⟨h1,h2⟩:=lh (n:=n) (r:=r) h
  exact⟨by simpa using h1,by simpa using h2⟩
 |_+1,[],_,h=>h.elim
theorem vS:∀{n:Nat}{r:List AV}{K:List AV->List AV->Prop},OB n r K->n<=r.length/\K (r.take n) (r.drop n)
 |0,_,_,h=>⟨Nat.zero_le _,h⟩
 |n+1,c::r,K,h=>by
  obtain⟨h1,h2⟩:=vS (n:=n) (r:=r) (K:=fun l r'=>K (c::l) r') h
  exact⟨by simpa using h1,by simpa using h2⟩
 |_+1,[],_,h=>h.elim
theorem om{sz:Nat}:∀{n:Nat}{r:List AV}{K:List (List AV)->Prop},CQ sz n r K->n*sz<=r.length/\K (pX sz n r)
 |0,_,_,h=>⟨by simp,h⟩
 |n+1,r,K,h=>by
  obtain⟨h1,h2⟩:=vS h
  obtain⟨h3,h4⟩:=om (n:=n) (r:=r.drop sz) (K:=fun es=>K (r.take sz::es)) h2
  refine⟨?_,h4⟩
  rw[List.length_drop]at h3
  rw[Nat.add_mul,Nat.one_mul]; omega
def CR(R:Env)(F:bh)(sz:Nat):List (Nat × Sc)->List (List AV)->(List (List AV)->Prop)->Prop
 |[],es,K=>K es
 |(i,x)::r,es,K=>dS R F x fun v=>lg v fun vs=>yW vs sz (Oz i vs es fun es'=>CR R F sz r es' K)
end Go.AM
namespace Go.AM
open Go.RowKit
variable {X:cE}
theorem hY{cs:List AV}{j n:Nat}(hj:j<cs.length)(hn:n ∈ (cs.getD j .bad).names):n ∈ AV.aB cs:=by
 induction cs generalizing j with
 |nil=>simp at hj
 |cons c cs ih=>
  simp only[AV.aB,List.mem_append]
  cases j with
  |zero=>left; simpa using hn
  |succ j=>right; exact ih (j:=j) (by simpa using hj) (by simpa using hn)
inductive Fz(D:Nat->Prop)(M:Mem):AV->AV->Prop
 |same (v:AV) (h:v.names=[]):Fz D M v v
 |ai (sz:Nat):Fz D M .ai (.aD sz [])
 |aV (n:Nat) (b:bD) (es:List (List AV)) (hD:D n) (hb:ab M n=some b) (hmp:b.mp=none) (hl:es.length=b.es.length) (hs:∀i,i<es.length->(es.getD i []).length=(b.es.getD i []).length)
   (h:∀i j,i<es.length->j<b.sz->Fz D M ((b.es.getD i []).getD j .bad) ((es.getD i []).getD j .bad)):Fz D M (.aV n b.es.length) (.aD b.sz es)
 |loc (n i off:Nat) (b:bD) (row:List AV) (hD:D n) (hb:ab M n=some b) (hmp:b.mp=none) (hi:i<b.es.length) (hl:row.length=(b.es.getD i []).length)
   (h:∀j,j<b.sz->Fz D M ((b.es.getD i []).getD j .bad) (row.getD j .bad)):Fz D M (.loc n b.es.length i off) (.bz row off)
 |ce (f:Gl) (cs ds:List AV) (hl:ds.length=cs.length) (h:∀j,j<cs.length->Fz D M (cs.getD j .bad) (ds.getD j .bad)):Fz D M (.ce f cs) (.ce f ds)
 |agg (cs ds:List AV) (hl:ds.length=cs.length) (h:∀j,j<cs.length->Fz D M (cs.getD j .bad) (ds.getD j .bad)):Fz D M (.agg cs) (.agg ds)
 |aQ (cs ds:List AV) (hl:ds.length=cs.length) (h:∀j,j<cs.length->Fz D M (cs.getD j .bad) (ds.getD j .bad)):Fz D M (.aQ cs) (.aQ ds)
theorem iw:∀{cs:List AV},(∀j,j<cs.length->(cs.getD j .bad).names=[])->AV.aB cs=[]
 |[],_=>rfl
 |c::r,h=>by
  simp only[AV.aB,List.append_eq_nil_iff]
  exact⟨by simpa using h 0 (by simp),iw (fun j hj=>by simpa using h (j+1) (by simpa using hj))⟩
theorem Fz.names{D:Nat->Prop}{M:Mem}{v a:AV}(h:Fz D M v a):a.names=[]:=by
 induction h with
 |same v h=>exact h
 |ai=>rfl
 |aV=>rfl
 |loc=>rfl
 |ce f cs ds hl h ih=>simp only[AV.names]; exact iw (fun j hj=>ih j (by omega))
 |agg cs ds hl h ih=>simp only[AV.names]; exact iw (fun j hj=>ih j (by omega))
 |aQ cs ds hl h ih=>simp only[AV.names]; exact iw (fun j hj=>ih j (by omega))
theorem Fz.sound{D:Nat->Prop}{M:Mem}{ρ:Place}{I:Nat->Prop}{w:World}{N:Nat->Prop}(hW:db X ρ I (ab M) N w){v a:AV}(h:Fz D M v a):∀{u:Value},aP ρ (lens (ab M)) I w N v u->
  aP de gG (fun g=>I g\/∃n cap b,D n/\ab M n=some b/\ρ n=some (g,cap)) w cW a u:=by
 have E:oK N ρ (lens (ab M)) I w ρ (lens (ab M)) (fun g=>I g\/∃n cap b,D n/\ab M n=some b/\ρ n=some (g,cap)) w:=⟨fun _ _ _ _ _ _=>rfl,fun _ len _ _ h=>⟨len,h,Nat.le_refl _⟩,fun b hb=> .inl hb,fun _ _=>rfl⟩
 induction h with
 |same v h=>exact fun hr=>(hr.yr E (fun _ h=>h)).alone h _ _
 |ai sz=>
  intro u hr
  cases hr
  exact .c7 _ _ _ (by simp[maxLen])
 |aV n b es hD hb hmp hl hs h ih=>
  intro u hr
  have ej:lens (ab M) n=some (b.es.length,b.sz):=by rw[aC]; exact⟨b,hb,bD.dw hmp,rfl⟩
  have B:=hW.bf n b hb
  obtain⟨hn,⟨h0,q,hv⟩|⟨g,cap,hρ,hv⟩⟩:=jQ hr ej
  ·have he:=B.eW h0
   rw[he]at hl
   have he':es=[]:=List.eq_nil_of_length_eq_zero (by simpa using hl)
   rw[hv,he']
   exact .c7 _ _ _ (by simp[maxLen])
  ·obtain⟨cs,fr,hg,oc,rq,hown,hlc,nK,hcs,lL⟩:=B.real g cap hρ
   have hg:=hg.cells hmp
   rw[hv,<-hl]
   refine .aD b.sz es g 0 cap (fun i j=>(cs[i*b.sz+j]?).getD undef) (by omega) nK (.inr ⟨n,cap,b,hD,hb,hρ⟩) (fun e he=> ?_) (fun i j hi hj=> ?_) (fun i j hi hj=> ?_) (fun i j hi hj=> ?_)
   ·obtain⟨i,hi,rfl⟩:=List.getElem_of_mem he
    have h1:=hs i hi
    have h2:es.getD i []=es[i]:=by simp[List.getD_eq_getElem?_getD,hi]
    have h3:b.es.getD i []=b.es[i]'(by omega):=by simp[List.getD_eq_getElem?_getD,show i<b.es.length by omega]
    rw[<-h2,h1,h3]
    exact B.even _ (List.getElem_mem _)
   ·obtain⟨u,hu,h1,_⟩:=lL i j (by omega) hj
    rw[hu]; exact h1
   ·obtain⟨u,hu,h1,_⟩:=lL i j (by omega) hj
    simp only[World.cell?,hg,Nat.zero_add,hu]; rfl
   ·obtain⟨u,hu,h1,hr⟩:=lL i j (by omega) hj
    rw[hu]
    exact ih i j hi hj hr
 |loc n i off b row hD hb hmp hi hl h ih=>
  intro u hr
  have ej:lens (ab M) n=some (b.es.length,b.sz):=by rw[aC]; exact⟨b,hb,bD.dw hmp,rfl⟩
  have B:=hW.bf n b hb
  obtain⟨hn,g,cap,hρ,hv⟩:=gB hr ej
  obtain⟨cs,fr,hg,oc,rq,hown,hlc,nK,hcs,lL⟩:=B.real g cap hρ
  have hg:=hg.cells hmp
  have hrow:(b.es.getD i []).length=b.sz:=by
   have h3:b.es.getD i []=b.es[i]:=by simp[List.getD_eq_getElem?_getD,hi]
   rw[h3]; exact B.even _ (List.getElem_mem _)
  rw[hv]
  refine .bz row off g (i*b.sz) (fun j=>(cs[i*b.sz+j]?).getD undef) (.inr ⟨n,cap,b,hD,hb,hρ⟩) (fun j hj=> ?_) (fun j hj=> ?_) (fun j hj=> ?_)
  ·obtain⟨u,hu,h1,_⟩:=lL i j hi (by omega)
   rw[hu]; exact h1
  ·obtain⟨u,hu,h1,_⟩:=lL i j hi (by omega)
   simp only[World.cell?,hg,hu]; rfl
  ·obtain⟨u,hu,h1,hr⟩:=lL i j hi (by omega)
   rw[hu]
   exact ih j (by omega) hr
 |ce f cs ds hl h ih=>
  intro u hr
  cases hr with
  |ce f _ vs hvl hr=>exact .ce f ds vs (by omega) (fun j hj=>ih j (by omega) (hr j (by omega)))
  |rn f _ vs hvl hr=>exact .rn f ds vs (by omega) (fun j hj=>ih j (by omega) (hr j (by omega)))
 |agg cs ds hl h ih=>
  intro u hr
  cases hr with
  |agg _ vs hvl h1 hr=>exact .agg ds vs (by omega) h1 (fun j hj=>ih j (by omega) (hr j (by omega)))
 |aQ cs ds hl h ih=>
  intro u hr
  cases hr with
  |aQ _ vs hvl hr=>exact .aQ ds vs (by omega) (fun j hj=>ih j (by omega) (hr j (by omega)))
end Go.AM
namespace Go.AM
open Go.RowKit
variable {R:Env} {X:cE}
inductive Mt(D:Nat->Prop)(M M':Mem)(nx:Nat):AV->AV->Prop
 |same (v:AV):Mt D M M' nx v v
 |drop (v:AV):Mt D M M' nx v .bad
 |fz (v a:AV) (h:Fz D M v a):Mt D M M' nx v a
 |eW (n:Nat) (b:bD) (hb:ab M' n=some b) (he:b.es=[]) (hn:nx<=n):Mt D M M' nx .ai (.aV n 0)
 |ce (f:Gl) (cs ds:List AV) (hl:ds.length=cs.length) (h:∀j,j<cs.length->Mt D M M' nx (cs.getD j .bad) (ds.getD j .bad)):Mt D M M' nx (.ce f cs) (.ce f ds)
 |agg (cs ds:List AV) (hl:ds.length=cs.length) (h:∀j,j<cs.length->Mt D M M' nx (cs.getD j .bad) (ds.getD j .bad)):Mt D M M' nx (.agg cs) (.agg ds)
 |aQ (cs ds:List AV) (hl:ds.length=cs.length) (h:∀j,j<cs.length->Mt D M M' nx (cs.getD j .bad) (ds.getD j .bad)):Mt D M M' nx (.aQ cs) (.aQ ds)
def eu(d d':Dn):Prop:=d'=d\/ d'= .b false
@[refl] theorem eu.refl(d:Dn):eu d d:= .inl rfl
theorem eu.fg{d:Dn}:eu d (.b false):= .inr rfl
def Nv(d d':Dn):Prop:=match d' with
 | .b x=>eu d (.b x)
 | .it _ _ _=>False
def Bq(r:Dn->Dn->Prop)(m m':Option (Nat × Bool × Bool × Dn)):Prop:=match m,m' with
 |none,none=>True
 |some (k,ka,va,d),some (k',JH,JI,d')=>k=k'/\ka=JH/\va=JI/\r d d'
 |_,_=>False
theorem Bq.refl(m:Option (Nat × Bool × Bool × Dn)):Bq eu m m:=by
 rcases m with _|⟨k,ka,va,d⟩
 ·trivial
 ·exact⟨rfl,rfl,rfl,.inl rfl⟩
theorem Bq.ln{r:Dn->Dn->Prop}{b b':bD}(h:Bq r b.mp b'.mp)(hl:b.es.length=b'.es.length):b.ln=b'.ln:=by
 unfold bD.ln
 generalize b.mp=m at h ⊢
 generalize b'.mp=m' at h ⊢
 cases m<;>cases m'<;>first|exact h.elim|exact hl|rfl
theorem eu.all{d d':Dn}(h:eu d d')(ha:d'.all=true):d.all=true:=by
 rcases h with rfl|rfl
 ·exact ha
 ·exact Bool.noConfusion ha
theorem Nv.le{d d':Dn}(h:Nv d d'):eu d d':=by cases d'<;>first|exact h|exact False.elim h
theorem Nv.all{d d':Dn}(h:Nv d d')(ha:d'.all=true):d.all=true:=h.le.all ha
theorem Nv.no{d:Dn}{r:Nat}{sn:List Bool}{la:Option Nat}(h:Nv d (.it r sn la)):False:=h
theorem eu.it{d:Dn}{r:Nat}{sn:List Bool}{la:Option Nat}(h:eu d (.it r sn la)):d= .it r sn la:=by
 rcases h with h|h
 ·exact h.symm
 ·cases h
theorem fC.le{r:Dn->Dn->Prop}(hr:∀d d',r d d'->d'.all=true->d.all=true){m m':Option (Nat × Bool × Bool × Dn)}{sz len ty:Nat}{o:Option Obj}{cs:Array Value}{fr:Nat × Nat}(h:fC m sz len o cs ty fr)(hm:Bq r m m'):fC m' sz len o cs ty fr:=by
 rcases m with _|⟨k,ka,va,d⟩<;>rcases m' with _|⟨k',JH,JI,d'⟩
 ·exact h
 ·exact hm.elim
 ·exact hm.elim
 ·obtain⟨rfl,rfl,rfl,h4⟩:=hm
  obtain⟨en,ck,h1,h2,h3⟩:=h
  exact⟨en,ck,h1,h2,h3.key,h3.cell,h3.born,h3.clock,fun ha=>h3.den (hr _ _ h4 ha),h3.room⟩
structure Nw(D:Nat->Prop)(M M':Mem)(nx:Nat)(b b':bD):Prop where
 ty:b.ty=b'.ty
 sz:b.sz=b'.sz
 mp:Bq eu b.mp b'.mp
 len:b.es.length=b'.es.length
 row:∀i,i<b.es.length->(b.es.getD i []).length=(b'.es.getD i []).length
 cell:∀i j,i<b.es.length->j<b.sz->Mt D M M' nx ((b.es.getD i []).getD j .bad) ((b'.es.getD i []).getD j .bad)
theorem Nw.ln{D:Nat->Prop}{M M':Mem}{nx:Nat}{b b':bD}(h:Nw D M M' nx b b'):b.ln=b'.ln:=h.mp.ln h.len
def Und(nx:Nat)(b:bD):Prop:=∀e ∈ b.es,AV.gx (· <nx) e
structure Wk(X:cE)(S S':St):Prop where
 p:X.p<=S'.nx
 F:∀i,look S'.F i= .bad\/(Mt (fun n=>X.p<=n/\ab S'.M n=none) S.M S'.M S.nx (look S.F i) (look S'.F i)/\(S.nx<=S'.nx\/(look S'.F i).under (· <S'.nx)))
 M:∀n b',ab S'.M n=some b'->((∃b,ab S.M n=some b/\Nw (fun n=>X.p<=n/\ab S'.M n=none) S.M S'.M S.nx b b')/\(S.nx<=S'.nx\/(n<S'.nx/\Und S'.nx b')))\/(ab S.M n=none/\S.nx<=n/\n<S'.nx/\b'.es=[]/\b'.mp=none)
def nk(S:St)(ρ:Place):Place:=fun n=>if S.nx<=n then none else ρ n
def Tp(X:cE)(S S':St)(ρ:Place)(I:Nat->Prop):Nat->Prop:=fun g=>I g\/∃n cap b,(X.p<=n/\ab S'.M n=none)/\ab S.M n=some b/\ρ n=some (g,cap)
theorem xw{S S':St}(h:Wk X S S'){w:World}{ρ:Place}{I:Nat->Prop}(W:db X ρ I (ab S.M) (· <S.nx) w):
  db X (nk S ρ) (Tp X S S' ρ I) (ab S'.M) (· <S'.nx) w/\∀v a u,aP ρ (lens (ab S.M)) I w (· <S.nx) v u->Mt (fun n=>X.p<=n/\ab S'.M n=none) S.M S'.M S.nx v a->(S.nx<=S'.nx\/ a.under (· <S'.nx))->aP (nk S ρ) (lens (ab S'.M)) (Tp X S S' ρ I) w (· <S'.nx) a u:=by
 obtain⟨hp,hF,hM⟩:=h
 let D:Nat->Prop:=fun n=>X.p<=n/\ab S'.M n=none
 let ρ':Place:=nk S ρ
 let I':Nat->Prop:=Tp X S S' ρ I
 have hlt:∀n b,ab S.M n=some b->n<S.nx:=fun n b h=>(W.bf n b h).lt
 have Tq:∀n len sz,n<S.nx->lens (ab S'.M) n=some (len,sz)->lens (ab S.M) n=some (len,sz):=by
  intro n len sz hn hl
  obtain⟨b',hb',rfl,rfl⟩:=aC.1 hl
  rcases hM n b' hb' with⟨⟨b,hb,hB⟩,_⟩|⟨_,h2,_⟩
  ·exact aC.2 ⟨b,hb,hB.ln,hB.sz⟩
  ·omega
 have E:oK (· <S.nx) ρ (lens (ab S.M)) I w ρ' (lens (ab S'.M)) I' w:=by
  refine⟨fun n _ _ hn _ _=> ?_,fun n len sz hn h=>⟨len,Tq n len sz hn h,Nat.le_refl _⟩,fun b hb=> .inl hb,fun _ _=>rfl⟩
  have:¬S.nx<=n:=by have:n<S.nx:=hn; omega
  simp[ρ',nk,this]
 have rM:∀v a,Mt D S.M S'.M S.nx v a->∀u,aP ρ (lens (ab S.M)) I w (· <S.nx) v u->aP ρ' (lens (ab S'.M)) I' w (fun _=>True) a u:=by
  intro v a hm
  induction hm with
  |same v=>exact fun u hr=>(hr.yr E (fun _ h=>h)).wide (fun _ _=>trivial)
  |drop v=>exact fun u _=> .bad u
  |fz v a h=>exact fun u hr=>((h.sound W hr).bare (fun _ h=>h) _ _).wide (fun _ h=>h.elim)
  |eW n b hb he hn=>
   intro u hr
   cases hr
   refine .aV n 0 _ trivial rfl fun l sz hl=> ?_
   obtain⟨b',hb',rfl,rfl⟩:=aC.1 hl
   rw[hb]at hb'
   cases hb'
   rw[bD.Gp he]
   exact⟨Nat.le_refl _,fun _=> .inl ⟨by simp[ρ',nk,hn],none,rfl⟩⟩
  |ce f cs ds hl h ih=>
   intro u hr
   cases hr with
   |ce f _ vs hvl hr=>exact .ce f ds vs (by omega) (fun j hj=>ih j (by omega) _ (hr j (by omega)))
   |rn f _ vs hvl hr=>exact .rn f ds vs (by omega) (fun j hj=>ih j (by omega) _ (hr j (by omega)))
  |agg cs ds hl h ih=>
   intro u hr
   cases hr with
   |agg _ vs hvl h1 hr=>exact .agg ds vs (by omega) h1 (fun j hj=>ih j (by omega) _ (hr j (by omega)))
  |aQ cs ds hl h ih=>
   intro u hr
   cases hr with
   |aQ _ vs hvl hr=>exact .aQ ds vs (by omega) (fun j hj=>ih j (by omega) _ (hr j (by omega)))
 have bound:∀v a,Mt D S.M S'.M S.nx v a->(∀m ∈ v.names,m<S.nx)->S.nx<=S'.nx->∀m ∈ a.names,m<S'.nx:=by
  intro v a hm
  induction hm with
  |same v=>exact fun h hle m hm=>by have:=h m hm; omega
  |drop v=>intro _ _ m hm; simp[AV.names]at hm
  |fz v a h=>intro _ _ m hm; rw[h.names]at hm; simp at hm
  |eW n b hb he hn=>
   intro _ hle m hm
   simp[AV.names]at hm
   subst hm
   rcases hM m b hb with⟨⟨b0,hb0,_⟩,_⟩|⟨_,_,h,_⟩
   ·have:=hlt m b0 hb0; omega
   ·exact h
  |ce f cs ds hl h ih=>
   intro hv hle m hm
   simp only[AV.names]at hm
   obtain⟨j,hj,J2⟩:=dX hm
   exact ih j (by omega) (fun m hm=>hv m (by simp only[AV.names]; exact hY (by omega) hm)) hle m J2
  |agg cs ds hl h ih=>
   intro hv hle m hm
   simp only[AV.names]at hm
   obtain⟨j,hj,J2⟩:=dX hm
   exact ih j (by omega) (fun m hm=>hv m (by simp only[AV.names]; exact hY (by omega) hm)) hle m J2
  |aQ cs ds hl h ih=>
   intro hv hle m hm
   simp only[AV.names]at hm
   obtain⟨j,hj,J2⟩:=dX hm
   exact ih j (by omega) (fun m hm=>hv m (by simp only[AV.names]; exact hY (by omega) hm)) hle m J2
 have low:∀v a u,aP ρ (lens (ab S.M)) I w (· <S.nx) v u->Mt D S.M S'.M S.nx v a->(S.nx<=S'.nx\/ a.under (· <S'.nx))->aP ρ' (lens (ab S'.M)) I' w (· <S'.nx) a u:=by
  intro v a u hr hm h
  refine (rM v a hm u hr).low ?_
  rcases h with h|h
  ·exact gI a (fun m hm'=>bound v a hm (fun m hm=>mN hr m hm) h m hm')
  ·exact h
 refine⟨⟨fun n b' hb'=> ?_,fun n m b b' g c c' hb hb' h1 h2=> ?_,fun g hg=> .inl (W.rp g hg),?_,?_,W.keeps,fun n hn=>by show n<S'.nx; omega,W.JF,W.mH E⟩,low⟩
 ·rcases hM n b' hb' with⟨⟨b,hb,hB⟩,hu⟩|⟨h0,h1,hn,h2,hmn⟩
  ·have B:=W.bf n b hb
   have hnlt:=hlt n b hb
   have hn:n<S'.nx:=by rcases hu with h|h<;>omega
   have hu:S.nx<=S'.nx\/ Und S'.nx b':=hu.imp id (fun h=>h.2)
   have Br:nk S ρ n=ρ n:=by simp only[nk]; rw[if_neg (by omega)]
   refine⟨hn,fun e he=> ?_,fun h0=> ?_,fun g cap hρ=> ?_,fun k ka va r sn la hb'=> ?_⟩
   rotate_right
   ·have hmp:=hB.mp
    rw[hb']at hmp
    obtain⟨k0,SD,SE,d0,hmb⟩:∃k0 SD SE d0,b.mp=some (k0,SD,SE,d0):=by
     cases hm:b.mp with
     |none=>rw[hm]at hmp; exact hmp.elim
     |some q=>exact⟨_,_,_,_,rfl⟩
    rw[hmb]at hmp
    obtain⟨_,_,_,h4⟩:=hmp
    rw[h4.it]at hmb
    obtain⟨g,cap,hρ,i1,i2,i3⟩:=B.iter _ _ _ _ _ _ hmb
    refine⟨g,cap,by rw[Br]; exact hρ,i1,?_,i3⟩
    rintro (h|⟨m,c',bm,⟨_,hdm⟩,hbm,OC⟩)
    ·exact i2 h
    ·obtain⟨_,_,_,_,_,k2,_⟩:=i3
     obtain⟨_,_,hc1,_⟩:=(W.bf m bm hbm).real _ c' OC
     exact hc1.r9 k2
   ·obtain⟨i,hi,rfl⟩:=List.getElem_of_mem he
    have h1:i<b.es.length:=by have:=hB.len; omega
    have h3:=hB.row i h1
    have h4:=B.even b.es[i] (List.getElem_mem _)
    rw[List.getD_eq_getElem?_getD,List.getD_eq_getElem?_getD,List.getElem?_eq_getElem hi,List.getElem?_eq_getElem h1,Option.getD_some,Option.getD_some]at h3
    have:=hB.sz
    omega
   ·rw[Br]at h0
    have h3:=B.eW h0
    have:=hB.len
    rw[h3]at this
    exact List.eq_nil_of_length_eq_zero (by simpa using this.symm)
   ·rw[Br]at hρ
    obtain⟨cs,fr,hg,oc,rq,hown,hlc,nK,hcs,lL⟩:=B.real g cap hρ
    have e1:=hB.len
    have e2:=hB.sz
    refine⟨cs,fr,by rw[<-hB.ty,<-hB.sz,<-hB.len]; exact hg.le (fun _ _ h=>h.all) hB.mp,oc,?_,hown,by omega,nK,by rw[<-hB.sz]; exact hcs,fun i j hi hj=> ?_⟩
    ·rintro (h|⟨m,c',bm,⟨_,hdm⟩,hbm,OC⟩)
     ·exact rq h
     ·have:=W.inj n m b bm g cap c' hb hbm hρ OC
      subst this
      rw[hb']at hdm; simp at hdm
    ·obtain⟨u,pS,G0,hr⟩:=lL i j (by omega) (by omega)
     refine⟨u,by rw[<-hB.sz]; exact pS,G0,?_⟩
     refine low _ _ _ hr (hB.cell i j (by omega) (by omega)) ?_
     rcases hu with hu|hu
     ·exact .inl hu
     ·right
      have AY:b'.es.getD i [] ∈ b'.es:=by
       rw[List.getD_eq_getElem?_getD,List.getElem?_eq_getElem hi,Option.getD_some]; exact List.getElem_mem _
      have hel:(b'.es.getD i []).length=b.sz:=by
       rw[<-hB.row i (by omega),List.getD_eq_getElem?_getD,List.getElem?_eq_getElem (show i<b.es.length by omega),Option.getD_some]
       exact B.even _ (List.getElem_mem _)
      exact AV.fY _ _ (hu _ AY) (by omega)
  ·refine⟨hn,fun e he=>by rw[h2]at he; simp at he,fun _=>h2,fun g cap hρ=> ?_,fun _ _ _ _ _ _ h=>by rw[hmn]at h; cases h⟩
   change nk S ρ n=_ at hρ
   simp only[nk,if_pos h1]at hρ
   simp at hρ
 ·have o1:S.nx<=n->False:=fun h=>by simp only[nk,if_pos h]at h1; simp at h1
  have o2:S.nx<=m->False:=fun h=>by simp only[nk,if_pos h]at h2; simp at h2
  have e1:ρ n=some (g,c):=by simpa[nk,show ¬S.nx<=n from o1]using h1
  have e2:ρ m=some (g,c'):=by simpa[nk,show ¬S.nx<=m from o2]using h2
  rcases hM n b hb with⟨⟨b0,hb0,_⟩,_⟩|⟨_,h,_⟩
  ·rcases hM m b' hb' with⟨⟨b1,uN,_⟩,_⟩|⟨_,h,_⟩
   ·exact W.inj n m b0 b1 g c c' hb0 uN e1 e2
   ·exact (o2 h).elim
  ·exact (o1 h).elim
 ·rintro g (hg|⟨n,cap,b,_,hb,hρ⟩)
  ·exact W.lt g hg
  ·obtain⟨cs,fr,hc,_⟩:=(W.bf n b hb).real g cap hρ
   exact hc.lt
 ·rintro g hg (h|⟨n,cap,b,⟨J1,_⟩,hb,hρ⟩)
  ·exact W.old g hg h
  ·obtain⟨cs,fr,hc,_,_,hown,_⟩:=(W.bf n b hb).real g cap hρ
   rcases hown with⟨h,_⟩|h
   ·exact absurd h (Nat.not_lt.2 J1)
   ·exact absurd hg (Nat.not_lt.2 h)
theorem Nx{S S':St}(h:Wk X S S'){a:Act}{w:World}{ρ:Place}{I:Nat->Prop}(W:db X ρ I (ab S.M) (· <S.nx) w)(F:lJ ρ I w X S a):
  db X (nk S ρ) (Tp X S S' ρ I) (ab S'.M) (· <S'.nx) w/\lJ (nk S ρ) (Tp X S S' ρ I) w X S' a:=by
 obtain⟨h1,low⟩:=xw h W
 refine⟨h1,fun i=> ?_,F.defers.mono (fun g hg=> .inl hg),F.size⟩
 rcases h.F i with h|⟨hm,hu⟩
 ·rw[h]; exact .bad _
 ·exact low _ _ _ (F.rep i) hm hu
theorem Bs{S S':St}(h:Wk X S S'){a:Act}{w:World}(hS:jH X S a w):jH X S' a w:=by
 obtain⟨ρ,I,W,F⟩:=hS
 obtain⟨W',F'⟩:=Nx h W F
 exact⟨_,_,W',F'⟩
end Go.AM
namespace Go.AM
open Go.RowKit
def fy(a b:Bool):Bool:=match a,b with
 |true,true=>true
 |false,false=>true
 |_,_=>false
theorem df{a b:Bool}(h:fy a b=true):a=b:=by cases a<;>cases b<;>simp_all[fy]
structure G7(es:List (List AV))(len i:Nat)(K:List AV->Prop):Prop where
 len:es.length=len
 h:K (es.getD i [])
structure VIx(ag:Bool)(m sz:Nat)(cs:List AV)(j:Int)(K:AV->Prop):Prop where
 lt:0<=j/\j< (m:Int)
 h:apart ag sz (j.toNat*sz) cs K
structure xx{α:Type}(xs:List α)(K:List α->Prop):Prop where
 h:K xs
structure Tr(es:List (List AV))(K:Nat->Prop):Prop where
 h:K es.length
structure ACp(es:List (List AV))(cr:Nat)(K:List AV->Nat->Prop):Prop where
 h:K ((es.take cr).flatten) (min es.length cr)
structure Y9(a b:Int)(K:Nat->Prop):Prop where
 h:(0<=a/\a<=1073741824/\a=b)/\K a.toNat
structure Ts(es:List (List AV))(K:List UInt8->Prop):Prop where
 h:∃s:List UInt8,es=s.map (fun c=>[AV.int .u8 c.toNat])/\K s
structure G8{α:Type}(es:List α)(Y N:Prop):Prop where
 y:es=[]->Y
 n:N
structure sS(R:Env)(X:cE)(f:Nat)(args:List AV)(F:bh)(M:ah)(nx:Nat)(d:Option Nat)(K:KS):Prop where
 body:cZ R.P f
 h:∃av ws nw bo M',CA R.P X f args (ab (az M)) av ws nw/\(nx<=bo/\∀n ∈ nw,nx<=n/\n<bo)/\ab (az M')=ab (dh (az M) ws)/\aM d av F M' bo K
structure mj(R:Env)(X:cE)(f:Nat)(args:List AV)(F:bh)(M:ah)(nx:Nat)(d:Option Nat)(K:KS):Prop where
 body:cZ R.P f
 h:∀ρ I (a:Act) w vs,(∀x,d=some x->x<X.size)->db X ρ I (ab (az M)) (· <nx) w->lJ ρ I w X ⟨F,az M,nx⟩ a->dB ρ (lens (ab (az M))) I w (· <nx) args vs->
  Calls R.P f vs.toArray w fun e w1=>∃v,e= .returned v/\∃F' M' bo,K F' M' bo/\jH X ⟨F',az M',bo⟩ (a.put d v) w1
structure Bt(R:Env)(X:cE)(f:Nat)(args:List AV)(F:bh)(M:ah)(nx:Nat)(d:Option Nat)(K:KS):Prop where
 body:cZ R.P f
 h:∃av ws nw bo M',CA R.P X f args (ab (az M)) av ws nw/\(∀p ∈ ws,p.1 ∈ nw)/\(nx<=bo/\∀n ∈ nw,nx<=n/\n<bo)/\ab (az M')=ab (dh (az M) ws)/\aM d av F M' bo K
def yX:ah->Nat->List Nat
 |[],_=>[]
 |(m,b)::r,n=>bif Nat.beq n m then (match b with
  | .var _ row=>AV.aB row
  | .arr _ _ _=>[]
  | .map .. =>[])else yX r n
def En(M:ah):List Nat->List Nat
 |[]=>[]
 |n::r=>n::(yX M n++En M r)
structure Bu(R:Env)(X:cE)(f:Nat)(args:List AV)(F:bh)(M:ah)(nx:Nat)(d:Option Nat)(K:KS):Prop where
 body:cZ R.P f
 h:∃av ws nw bo M',Nc R.P X f args (En M (AV.aB args)) (ab (az M)) av ws nw/\(nx<=bo/\∀n ∈ nw,nx<=n/\n<bo)/\ab (az M')=ab (dh (az M) ws)/\aM d av F M' bo K
def G9(P:Program)(f:Nat)(args:List AV)(av:AV):Prop:=
 ∀(ρ:Place)(L:bi)(I:Nat->Prop)(N:Nat->Prop)(w:World)(vs:List Value),dB ρ L I w N args vs->∃v,(callFunc f vs.toArray).run P w= .ok (.value v) w/\aP ρ L I w N av v
structure sT(R:Env)(f:Nat)(args:List AV)(F:bh)(M:ah)(nx:Nat)(d:Option Nat)(K:KS):Prop where
 h:∃av,G9 R.P f args av/\aM d av F M nx K
def Kh(P:Program)(l:Nat)(vs:List Value)(w:World)(Q:World->Prop):Prop:=
 ∃r:Loop,w.heap[l]? =some (.loop r)/\vs.length=r.params.size/\∀c cs,∃w',Q w'/\
  Steps P (lone (Frame.round l r.fn ((r.params.zip vs.toArray).foldl (fun t (q,v)=>t.setIfInBounds q v) r.tmps) r.assign r.body .normal) (c::cs) w) (lone (c.finish (.bool true)) cs w')
structure Bv(R:Env)(X:cE)(l:Nat)(tm:List Value)(aZ args:List AV)(F:bh)(M:ah)(nx:Nat)(d:Option Nat)(K:KS):Prop where
 h:∃F' M' bo,K F' M' bo/\∀ρ I (a:Act) w vs,(∀x,d=some x->x<X.size)->db X ρ I (ab (az M)) (· <nx) w->lJ ρ I w X ⟨F,az M,nx⟩ a->dB ρ (lens (ab (az M))) I w (· <nx) args vs->
  dB ρ (lens (ab (az M))) I w (· <nx) aZ tm->Kh R.P l vs w fun w1=>jH X ⟨F',az M',bo⟩ (a.put d (.bool true)) w1
structure ae(R:Env)(X:cE)(lo:Bool)(f:Nat)(args:List AV)(F:bh)(M:ah)(nx:Nat)(d:Option Nat)(K:KS):Prop where
 h:sS R X f args F M nx d K\/(lo=false/\mj R X f args F M nx d K)
def CS(v:AV)(X Y:Prop):Prop:=
 match v with
 | .bool t=>True->rC t X Y
 |_=>False
def lk(M:ah)(n len:Nat)(K:bP->Prop):Prop:=
 dr M n fun b=>match b with
  | .var ty row=>bif Nat.beq len 1 then K (.var ty row)else False
  | .arr ty sz es=>True->es.length=len/\K (.arr ty sz es)
  | .map .. =>False
def CT(ag:Bool)(n:Nat)(v:AV)(M:ah)(K:AV->Prop):Prop:=
 match v with
 | .loc nm len i off=>dr M nm fun b=>match b with
   | .var _ row=>bif Nat.beq len 1 then (bif Nat.beq i 0 then sQ ag n off row K else False)else False
   | .arr _ _ es=>True->G7 es len i fun row=>sQ ag n off row K
   | .map .. =>False
 | .bz e off=>sQ ag n off e K
 |_=>False
def G'(a:AV)(cs:List AV)(M:ah)(K:ah->Prop):Prop:=
 match a with
 | .loc nm len i off=>dr M nm fun b=>match b with
   | .var ty row=>bif Nat.beq len 1 then (bif Nat.beq i 0 then lf off cs row fun row'=>iC M nm (.var ty row') K else False)else False
   | .arr ty sz es=>True->G7 es len i fun row=>lf off cs row fun row'=>iC M nm (.arr ty sz (es.set i row')) K
   | .map .. =>False
 |_=>False
def kj(k k':IntKind)(X:Prop):Prop:=bif rK k k' then X else False
def OD(op:BinOp)(v u:AV)(K:AV->Prop):Prop:=
 match v,u with
 | .int k a,.int k' b=>
   match op with
   | .shl=>True->0<=b/\K (.int k (pV k a b))
   | .shr=>True->0<=b/\K (.int k (fS k a b))
   | .add=>kj k k' (True->JJ k (a+b) fun m=>K (.int k m))
   | .sub=>kj k k' (True->JJ k (a - b) fun m=>K (.int k m))
   | .mul=>kj k k' (True->JJ k (a*b) fun m=>K (.int k m))
   | .quo=>kj k k' (True->b≠0/\(True->JJ k (a.tdiv b) fun m=>K (.int k m)))
   | .rem=>kj k k' (True->b≠0/\K (.int k (a.tmod b)))
   | .and=>kj k k' (K (.int k (eX .and k a b)))
   | .or=>kj k k' (K (.int k (eX .or k a b)))
   | .xor=>kj k k' (K (.int k (eX .xor k a b)))
   | .andNot=>kj k k' (K (.int k (eX .andNot k a b)))
   | .eql=>kj k k' (K (.bool (a==b)))
   | .neq=>kj k k' (K (.bool (a != b)))
   | .lss=>kj k k' (K (.bool (decide (a<b))))
   | .leq=>kj k k' (K (.bool (decide (a<=b))))
   | .gtr=>kj k k' (K (.bool (decide (a>b))))
   | .geq=>kj k k' (K (.bool (decide (a>= b))))
 |_,_=>False
def OE(l:LK)(a b:AV)(K:Bool->Prop):Prop:=
 match l,a,b with
 | .i,.int k x,.int k' y=>bif rK k k' then K (x==y)else False
 | .b,.bool x,.bool y=>K (x==y)
 | .s,.str x,.str y=>K (x==y)
 |_,_,_=>False
def Eo:List LK->List AV->List AV->(Bool->Prop)->Prop
 |l::r,a::as,b::bs,K=>OE l a b fun t=>(match r with
  |[]=>Eo r as bs fun _=>K t
  |_=>Eo r as bs fun u=>K (t&&u))
 |[],[],[],K=>K true
 |_,_,_,_=>False
def aaC(neg:Bool)(K:AV->Prop)(r:Bool):Prop:=
 match neg with
 |true=>K (.bool !r)
 |false=>K (.bool r)
def Tt(op:BinOp)(a b:List UInt8)(K:AV->Prop):Prop:=
 match op with
 | .add=>True->(a.length+b.length<=9223372036854775807)/\K (.str (a++b))
 | .eql=>K (.bool (a==b))
 | .neq=>K (.bool !(a==b))
 | .lss=>K (.bool (Op.bytesLess a b))
 | .leq=>K (.bool (Op.bytesLess a b||a==b))
 | .gtr=>K (.bool !(Op.bytesLess a b||a==b))
 | .geq=>K (.bool !(Op.bytesLess a b))
 |_=>False
def unK(op:UnOp)(v:AV)(K:AV->Prop):Prop:=
 match op,v with
 | .neg,.int k n=>True->JJ k (0 - n) fun m=>K (.int k m)
 | .xor,.int k n=>K (.int k (eX .xor k (if k.signed then -1 else k.max) n))
 | .not,.bool b=>K (.bool !b)
 |_,_=>False
def Ha(sz:Nat)(v ix:AV)(M:ah)(K:AV->Prop):Prop:=
 match ix with
 | .int _ j=>(match v with
   | .aD s es=>bif Nat.beq s sz then (True->(0<=j/\j<es.length)/\(True->Tn es j.toNat fun row=>K (.bz row 0)))else False
   | .aV nm len=>dr M nm fun b=>(match b with
     | .arr _ s es=>bif Nat.beq s sz then (True->(es.length=len/\0<=j/\j<len)/\K (.loc nm len j.toNat 0))else False
     | .var .. =>False
     | .map .. =>False)
   | .eD nm len i off cr=>lk M nm len fun _=>True->To j cr fun c=>K (.loc nm len i (off+c*sz))
   |_=>False)
 |_=>False
def Hb(m sz:Nat)(v ix:AV)(M:ah)(K:AV->Prop):Prop:=
 match ix with
 | .int _ j=>(match v with
   | .loc nm len i off=>lk M nm len fun _=>True->To j m fun c=>K (.loc nm len i (off+c*sz))
   | .bz row off=>True->To j m fun c=>K (.bz row (off+c*sz))
   |_=>False)
 |_=>False
def Y'(mx:Bool)(k:IntKind)(a:Int):List AV->(AV->Prop)->Prop
 |[],K=>K (.int k a)
 | .int _ b::r,K=>(match mx with
   |true=>Y' mx k (max a b) r K
   |false=>Y' mx k (min a b) r K)
 |_,_=>False
def mmK(mx:Bool)(as:List AV)(K:AV->Prop):Prop:=
 match as with
 | .int k a::r=>Y' mx k a r K
 |_=>False
def vT(sz:Nat)(x:AV)(M:ah)(K:List (List AV)->Prop):Prop:=
 match x with
 | .aD s es=>bif Nat.beq s sz then K es else False
 | .ai=>K []
 | .aV n len=>dr M n fun b=>(match b with
   | .arr _ s es=>bif Nat.beq s sz then (True->es.length=len/\K es)else False
   | .var .. =>False
   | .map .. =>False)
 | .eD n len i off cr=>dr M n fun b=>(match b with
   | .var _ row=>bif Nat.beq len 1 then (bif Nat.beq i 0 then (bif Nat.beq sz 0 then False else vR off row fun r=>CQ sz cr r K)else False)else False
   | .arr .. =>False
   | .map .. =>False)
 |_=>False
def Ny(sz:Nat)(v:AV)(M:ah)(src:(List (List AV)->Prop)->Prop)(K:Nat->ah->Prop):Prop:=
 match v with
 | .eD n len i off cr=>dr M n fun b=>(match b with
   | .var ty row=>bif Nat.beq len 1 then (bif Nat.beq i 0 then (bif Nat.ble (off+cr*sz) row.length then src fun xs=>True->ACp xs cr fun vs k=>lf off vs row fun row'=>iC M n (.var ty row') fun M'=>K k M' else False)else False)else False
   | .arr .. =>False
   | .map .. =>False)
 |_=>False
def Bw(x:AV)(K:List (List AV)->Prop):Prop:=
 match x with
 | .str s=>K (s.map fun c=>[.int .u8 c.toNat])
 |_=>False
def Hc(ty sz:Nat)(s:AV)(src:(List (List AV)->Prop)->Prop)(M:ah)(nx:Nat)(K:AV->ah->Nat->Prop):Prop:=
 match s with
 | .aV n len=>dr M n fun b=>(match b with
   | .arr t z es=>bif Nat.beq z sz then (True->(t=ty/\es.length=len)/\src fun xs=>True->es.length+xs.length<=1073741824/\iC M n (.arr t z (es++xs)) fun M'=>K (.aV n (es++xs).length) M' nx)else False
   | .var .. =>False
   | .map .. =>False)
 | .ai=>src fun xs=>True->xs.length<=1073741824/\K (.aV nx xs.length) ((nx,.arr ty sz xs)::M) (nx+1)
 |_=>False
def Nz(ty sz:Nat)(z:List AV)(s x:AV)(M:ah)(nx:Nat)(K:AV->ah->Nat->Prop):Prop:=
 match x with
 | .int _ m=>(match s with
   | .aV n len=>dr M n fun b=>(match b with
     | .arr t q es=>bif Nat.beq q sz then (True->(t=ty/\es.length=len)/\(True->Y9 m m fun k=>True->es.length+k<=1073741824/\iC M n (.arr t q (es++List.replicate k z)) fun M'=>K (.aV n (es++List.replicate k z).length) M' nx))else False
     | .var .. =>False
     | .map .. =>False)
   | .ai=>True->Y9 m m fun k=>K (.aV nx k) ((nx,.arr ty sz (List.replicate k z))::M) (nx+1)
   |_=>False)
 |_=>False
def Hd(sz:Nat)(v:AV)(lo hi mx:Option AV)(K:AV->Prop):Prop:=
 match v with
 | .aD s es=>bif Nat.beq s sz then (match lo,hi,mx with
   |none,some (.int _ h),none=>True->(0<=h/\h<=es.length)/\(True->xx (es.take h.toNat) fun xs=>K (.aD sz xs))
   |some (.int _ l),none,none=>True->(0<=l/\l<=es.length)/\(True->xx (es.drop l.toNat) fun xs=>K (.aD sz xs))
   |some (.int _ l),some (.int _ h),none=>True->(0<=l/\l<=h/\h<=es.length)/\(True->xx ((es.take h.toNat).drop l.toNat) fun xs=>K (.aD sz xs))
   |none,some (.int _ h),some (.int _ m)=>True->(0<=h/\h<=m/\m<=es.length)/\(True->xx (es.take h.toNat) fun xs=>K (.aD sz xs))
   |_,_,_=>False)else False
 |_=>False
def He(v:AV)(lo hi:Option AV)(K:AV->Prop):Prop:=
 match v with
 | .str s=>(match lo,hi with
   |none,some (.int _ h)=>True->(0<=h/\h<=s.length)/\(True->xx (s.take h.toNat) fun xs=>K (.str xs))
   |some (.int _ l),none=>True->(0<=l/\l<=s.length)/\(True->xx (s.drop l.toNat) fun xs=>K (.str xs))
   |some (.int _ l),some (.int _ h)=>True->(0<=l/\l<=h/\h<=s.length)/\(True->xx ((s.take h.toNat).drop l.toNat) fun xs=>K (.str xs))
   |_,_=>False)
 |_=>False
def Hf(v:AV)(M:ah)(K:AV->Prop):Prop:=
 match v with
 | .aD _ es=>True->Tr es fun n=>K (.int .i64 n)
 | .aV n len=>lk M n len fun _=>K (.int .i64 len)
 | .eD n len _ _ cr=>lk M n len fun _=>K (.int .i64 cr)
 | .ai=>K (.int .i64 0)
 |_=>False
def OF:Nat->List AV->(AV->Prop)->Prop
 |0,v::_,K=>K v
 |n+1,_::r,K=>OF n r K
 |_,[],_=>False
structure JK(ls:List LK)(kc:List AV)(es:List (List AV))(K:Option (Nat × List AV)->Prop):Prop where
 ok:∀r ∈ es,dZ ls kc r=true
 h:K (bR kc es)
structure AFv(kc:List AV)(es:List (List AV))(K:AV->Prop):Prop where
 g:∀r ∈ es,jG r=true
 h:K (DY (bR kc es))
structure AFg(kc:List AV)(es:List (List AV))(K:Option (Nat × List AV)->Prop):Prop where
 g:∀r ∈ es,jG r=true
 h:K (bR kc es)
structure AEn(es:List (List AV))(j:Int)(K:Nat->List AV->Prop):Prop where
 h:∃(i:Nat)(r:List AV),j=i/\es[i]? =some r/\K i r
structure IRg(K:Nat->Prop):Prop where
 h:∀r,K r
structure INx(r r':Nat)(es:List (List AV))(sn:List Bool)(Y:Prop)(K:Nat->Prop):Prop where
 e:r'=r
 fin:(∀q ∈ sn,q=true)->sn.length=es.length->Y
 go:∀i row,es[i]? =some row->sn[i]? =some false->sn.length=es.length->K i
structure IEt(r r':Nat)(la:Option Nat)(es:List (List AV))(K:List AV->Prop):Prop where
 h:r'=r/\∃i row,la=some i/\es[i]? =some row/\K row
def Ki(q:Option (Nat × List AV))(es:List (List AV))(dn:Dn)(K:List (List AV)->Dn->Prop):Prop:=
 match q with
 |some q=>K (es.eraseIdx q.1) (dn.dl q.1)
 |none=>K es dn.up
def Bx(ls:List LK)(ag:Bool)(u:AV)(K:List AV->Prop):Prop:=lg u fun kc=>bif fy u.jJ ag&&Nat.beq kc.length ls.length&&dZ ls kc kc then K kc else False
def By(va:Bool)(l:List AV)(K:AV->Prop):Prop:=
 match va with
 |true=>K (.agg l)
 |false=>match l with
  |c::_=>K c
  |[]=>False
def Tu(ok va:Bool)(z:AV)(q:Option (Nat × List AV))(K:AV->Prop):Prop:=
 match q with
 |some q=>By va q.2 fun v=>(match ok with
  |true=>K (.aQ [v,.bool true])
  |false=>K v)
 |none=>(match ok with
  |true=>K (.aQ [z,.bool false])
  |false=>K z)
def OG(q:Option (Nat × List AV))(es:List (List AV))(r:List AV)(K:List (List AV)->Prop):Prop:=
 match q with
 |some q=>K (es.set q.1 r)
 |none=>K (es++ [r])
def Kj(va:Bool)(z:AV)(q:Option (Nat × List AV))(es:List (List AV))(kc zs:List AV)(K:AV->Nat->List (List AV)->Prop):Prop:=
 match q with
 |some q=>By va q.2 fun v=>K v q.1 es
 |none=>K z es.length (es++ [kc++zs])
def Bz(ls:List LK)(ag va:Bool)(v:AV)(M:ah)(K:Nat->Dn->Nat->List (List AV)->Prop):Prop:=
 match v with
 | .omap n=>dr M n fun b=>(match b with
   | .map k ka vb dn sz es=>bif Nat.beq k ls.length&&fy ka ag&&fy vb va&&Nat.blt k sz then K n dn sz es else False
   | .arr .. =>False
   | .var .. =>False)
 |_=>False
def CU(v:AV)(M:ah)(K:Nat->Nat->Bool->Bool->Dn->Nat->List (List AV)->Prop):Prop:=
 match v with
 | .omap n=>dr M n fun b=>(match b with
   | .map k ka va dn sz es=>K n k ka va dn sz es
   | .arr .. =>False
   | .var .. =>False)
 |_=>False
def Za(v:AV)(M:ah)(K:Nat->Nat->Nat->Bool->Bool->Nat->List Bool->Option Nat->Nat->List (List AV)->Prop):Prop:=
 match v with
 | .nE n r'=>dr M n fun b=>(match b with
   | .map k ka va dn sz es=>(match dn with
     | .it r sn la=>K n r' k ka va r sn la sz es
     | .b _=>False)
   | .arr .. =>False
   | .var .. =>False)
 |_=>False
def dE(R:Env)(X:cE)(lo:Bool)(i:vN)(d:Option Nat)(F:bh)(M:ah)(nx:Nat)(K:KS):Prop:=
 match i with
 | .mv x=>dS R F x fun v=>aM d v F M nx K
 | .pick c a b=>dS R F c fun v=>CS v (dS R F a fun u=>aM d u F M nx K) (dS R F b fun u=>aM d u F M nx K)
 | .alloc ty z=>aM d (.loc nx 1 0 0) F ((nx,.var (R.ty ty) z)::M) (nx+1) K
 | .box ty x=>dS R F x fun v=>lg v fun cs=>aM d (.loc nx 1 0 0) F ((nx,.var (R.ty ty) cs)::M) (nx+1) K
 | .build z ps=>Em R F ps z fun cs=>aM d (.agg cs) F M nx K
 | .aq ty sz len z ps=>OA z len fun es=>CR R F sz ps es fun es'=>aM d (.aV nx len) F ((nx,.arr (R.ty ty) sz es')::M) (nx+1) K
 | .load ag n x=>dS R F x fun v=>CT ag n v M fun u=>aM d u F M nx K
 | .store n x v=>dS R F x fun a=>dS R F v fun u=>lg u fun cs=>yW cs n (G' a cs M fun M'=>aM d (.aQ []) F M' nx K)
 | .aL x=>dS R F x fun v=>(match v with
   | .loc nm len i q=>lk M nm len fun _=>aM d (.loc nm len i q) F M nx K
   | .bz e q=>aM d (.bz e q) F M nx K
   | .ce f cs=>aM d (.ce f cs) F M nx K
   |_=>False)
 | .bin op x y=>dS R F x fun v=>dS R F y fun u=>OD op v u fun r=>aM d r F M nx K
 | .Ou neg x y=>dS R F x fun v=>dS R F y fun u=>(match v,u with
   | .bool a,.bool b=>(match neg with
     |true=>aM d (.bool (a != b)) F M nx K
     |false=>aM d (.bool (a==b)) F M nx K)
   |_,_=>False)
 | .sM neg ls x y=>dS R F x fun v=>dS R F y fun u=>(match v,u with
   | .agg as,.agg bs=>Eo ls as bs (aaC neg fun r=>aM d r F M nx K)
   |_,_=>False)
 | .bst op x y=>dS R F x fun v=>dS R F y fun u=>(match v,u with
   | .str a,.str b=>Tt op a b fun r=>aM d r F M nx K
   |_,_=>False)
 | .un op x=>dS R F x fun v=>unK op v fun r=>aM d r F M nx K
 | .conv k x=>dS R F x fun v=>(match v with
   | .int _ n=>True->JJ k n fun m=>aM d (.int k m) F M nx K
   |_=>False)
 | .Tk x=>dS R F x fun v=>(match v with
   | .str s=>aM d (.str s) F M nx K
   |_=>False)
 | .SB g cs=>sO R F cs fun l=>aM d (R.cl g l) F M nx K
 | .aF off x=>dS R F x fun v=>(match v with
   | .loc nm len i q=>lk M nm len fun _=>aM d (.loc nm len i (q+off)) F M nx K
   | .bz e q=>aM d (.bz e (q+off)) F M nx K
   |_=>False)
 | .mi sz x i=>dS R F x fun v=>dS R F i fun ix=>Ha sz v ix M fun r=>aM d r F M nx K
 | .ba m sz x i=>dS R F x fun v=>dS R F i fun ix=>Hb m sz v ix M fun r=>aM d r F M nx K
 | .u' _ sz x lo hi mx=>dS R F x fun v=>Bp R F lo fun l=>Bp R F hi fun h=>Bp R F mx fun m=>Hd sz v l h m fun r=>aM d r F M nx K
 | .Tm x lo hi=>dS R F x fun v=>Bp R F lo fun l=>Bp R F hi fun h=>He v l h fun r=>aM d r F M nx K
 | .ext x i=>dS R F x fun v=>(match v with
   | .aQ vs=>OF i vs fun r=>aM d r F M nx K
   |_=>False)
 | .call g as=>sO R F as fun l=>True->ae R X lo (R.ft g) l F M nx d K
 | .gW f as=>dS R F f fun v=>(match v with
   | .ce (.fn g) aZ=>sO R F as fun l=>True->ae R X lo g (l++aZ) F M nx d K
   | .ce (.lp l tm) aZ=>(match lo with
     |true=>False
     |false=>sO R F as fun args=>True->Bv R X l tm aZ args F M nx d K)
   |_=>False)
 | .qT g as=>sO R F as fun l=>True->sT R (R.ft g) l F M nx d K
 | .vO f as=>dS R F f fun v=>(match v with
   | .ce (.fn g) aZ=>sO R F as fun l=>True->Bt R X g (l++aZ) F M nx d K
   |_=>False)
 | .pe f as=>dS R F f fun v=>(match v with
   | .ce (.fn g) aZ=>sO R F as fun l=>(match lo with
     |true=>True->Bu R X g (l++aZ) F M nx d K
     |false=>False)
   |_=>False)
 | .SA neg x=>dS R F x fun v=>(match v with
   | .bM=>(match neg with
     |true=>aM d (.bool false) F M nx K
     |false=>aM d (.bool true) F M nx K)
   | .bz _ _=>aM d (.bool neg) F M nx K
   | .loc nm len _ _=>lk M nm len fun _=>aM d (.bool neg) F M nx K
   |_=>False)
 | .Bo neg x=>dS R F x fun v=>(match v with
   | .aD _ es=>(match lo with
     |true=>False
     |false=>True->G8 es (match neg with
      |true=>aM d (.bool false) F M nx K
      |false=>aM d (.bool true) F M nx K) (aM d (.bool neg) F M nx K))
   |_=>False)
 | .Ke neg x=>dS R F x fun v=>(match v with
   | .cj=>(match neg with
     |true=>aM d (.bool false) F M nx K
     |false=>aM d (.bool true) F M nx K)
   | .omap n=>dr M n fun b=>(match b with
     | .map _ _ _ _ _ _=>aM d (.bool neg) F M nx K
     |_=>False)
   |_=>False)
 | .s2a m _ x=>dS R F x fun v=>(match v with
   | .aD _ es=>True->(m<=es.length/\0<m)/\(True->xx (es.take m).flatten fun row=>aM d (.bz row 0) F M nx K)
   |_=>False)
 | .G3 ag off n x=>dS R F x fun v=>(match v with
   | .agg cs=>sQ ag n off cs fun r=>aM d r F M nx K
   |_=>False)
 | .Nq ty sz x=>dS R F x fun v=>(match v with
   | .aD _ _=>aM d (.aV nx 0) F ((nx,.arr (R.ty ty) sz [])::M) (nx+1) K
   |_=>False)
 | .G4 ag m sz x i=>dS R F x fun v=>dS R F i fun ix=>(match v,ix with
   | .agg cs,.int _ j=>True->VIx ag m sz cs j fun r=>aM d r F M nx K
   |_,_=>False)
 | .Tl x i=>dS R F x fun v=>dS R F i fun ix=>(match v,ix with
   | .str s,.int _ j=>True->(0<=j/\j< (s.length:Int))/\aM d (.int .u8 (s.getD j.toNat 0).toNat) F M nx K
   |_,_=>False)
 | .Y8 x=>dS R F x fun v=>vT 1 v M fun es=>True->Ts es fun s=>aM d (.str s) F M nx K
 | .yU m sz x lo hi mx=>(match lo,hi,mx with
   |none,none,none=>dS R F x fun v=>(match v with
    | .loc nm len i off=>lk M nm len fun _=>aM d (.eD nm len i off m) F M nx K
    | .bz r off=>bif Nat.beq sz 0 then False else vR off r fun r'=>CQ sz m r' fun es=>aM d (.aD sz es) F M nx K
    |_=>False)
   |_,_,_=>False)
 | .copy sz x y=>dS R F x fun v=>dS R F y fun u=>Ny sz v M (vT sz u M) fun n M'=>aM d (.int .i64 n) F M' nx K
 | .mks ty sz z l c=>dS R F l fun v=>dS R F c fun u=>(match v,u with
   | .int _ a,.int _ b=>True->Y9 a b fun n=>aM d (.aV nx n) F ((nx,.arr (R.ty ty) sz (List.replicate n z))::M) (nx+1) K
   |_,_=>False)
 | .s2b ty x=>dS R F x fun v=>(match v with
   | .str s=>True->s.length<=1073741824/\aM d (.aV nx s.length) F ((nx,.arr (R.ty ty) 1 (s.map fun c=>[.int .u8 c.toNat]))::M) (nx+1) K
   |_=>False)
 | .Ov n=>aM d (.int .i64 n) F M nx K
 | .fw x=>dS R F x fun v=>Hf v M fun r=>aM d r F M nx K
 | .Ow x=>dS R F x fun v=>(match v with
   | .str s=>aM d (.int .i64 s.length) F M nx K
   |_=>False)
 | .mm mx as=>sO R F as fun l=>mmK mx l fun r=>aM d r F M nx K
 | .app ty sz s x=>dS R F s fun v=>dS R F x fun u=>Hc (R.ty ty) sz v (vT sz u M) M nx fun r M' bo=>aM d r F M' bo K
 | .Kg ty sz z s x=>dS R F s fun v=>dS R F x fun u=>Nz (R.ty ty) sz z v u M nx fun r M' bo=>aM d r F M' bo K
 | .Kf ty s x=>dS R F s fun v=>dS R F x fun u=>Hc (R.ty ty) 1 v (Bw u) M nx fun r M' bo=>aM d r F M' bo K
 | .Ox k ka va sz=>aM d (.omap nx) F ((nx,.map k ka va true sz [])::M) (nx+1) K
 | .Gf ls ag va z ok x key=>dS R F x fun v=>dS R F key fun u=>Bz ls ag va v M fun _ _ _ es=>Bx ls ag u fun kc=>True->JK ls kc es fun q=>Tu ok va z q fun r=>aM d r F M nx K
 | .G5 ls ag va x key y=>dS R F x fun v=>dS R F key fun u=>dS R F y fun w=>Bz ls ag va v M fun n dn sz es=>Bx ls ag u fun kc=>lg w fun vs=>bif fy w.jJ va&&Nat.beq (ls.length+vs.length) sz then
     (True->JK ls kc es fun q=>True->es.length+1<=1073741824/\OG q es (kc++vs) fun es'=>iC M n (.map ls.length ag va dn.up sz es') fun M'=>aM d (.aQ []) F M' nx K)else False
 | .enm ls ag va z x key=>dS R F x fun v=>dS R F key fun u=>Bz ls ag va v M fun n dn sz es=>Bx ls ag u fun kc=>lg z fun zs=>bif fy z.jJ va&&Nat.beq (ls.length+zs.length) sz&&dn.all then
     (True->JK ls kc es fun q=>True->es.length+1<=1073741824/\Kj va z q es kc zs fun r i es'=>iC M n (.map ls.length ag va true sz es') fun M'=>aM d (.aQ [r,.int .i64 i]) F M' nx K)else False
 | .Nr ls ag x key=>dS R F x fun v=>dS R F key fun u=>Bz ls ag false v M fun _ _ sz es=>Bx ls ag u fun kc=>bif Nat.beq sz (ls.length+1)&&jG kc then (True->AFv kc es fun r=>aM d r F M nx K)else False
 | .enc ls ag x key=>dS R F x fun v=>dS R F key fun u=>Bz ls ag false v M fun n dn sz es=>Bx ls ag u fun kc=>bif Nat.beq sz (ls.length+1)&&jG kc&&dn.all then
     (True->AFg kc es fun q=>True->es.length+1<=1073741824/\Kj false (.int .i64 0) q es kc [.int .i64 0] fun r i es'=>iC M n (.map ls.length ag false true sz es') fun M'=>aM d (.aQ [r,.int .i64 i]) F M' nx K)else False
 | .Ns ls ag x key=>dS R F x fun v=>dS R F key fun u=>CU v M fun n k ka va dn sz es=>bif Nat.beq k ls.length&&fy ka ag then Bx ls ag u fun kc=>True->JK ls kc es fun q=>Ki q es dn fun es' J'=>iC M n (.map ls.length ag va J' sz es') fun M'=>aM d (.aQ []) F M' nx K else False
 | .Oy x=>dS R F x fun v=>(match lo with
   |true=>False
   |false=>CU v M fun n k ka va _ sz es=>True->IRg fun r=>iC M n (.map k ka va (.it r (es.map fun _=>false) none) sz es) fun M'=>aM d (.nE n r) F M' nx K)
 | .SC x=>dS R F x fun v=>(match lo with
   |true=>False
   |false=>Za v M fun n r' k ka va r sn _ sz es=>True->INx r r' es sn (aM d (.aQ [.bool false]) F M nx K) fun i=>iC M n (.map k ka va (.it r (sn.set i true) (some i)) sz es) fun M'=>aM d (.aQ [.bool true,.bad,.bad]) F M' nx K)
 | .JZ x=>dS R F x fun v=>(match lo with
   |true=>False
   |false=>Za v M fun _ r' k ka va r _ la sz es=>bif Nat.blt 0 k&&Nat.blt k sz then (True->IEt r r' la es fun row=>yV k row fun kc=>By ka kc fun a=>vR k row fun vc=>By va vc fun b=>aM d (.aQ [a,b]) F M nx K)else False)
 | .stm va x st y=>dS R F x fun v=>dS R F st fun u=>dS R F y fun w=>(match v,u with
   | .omap n,.int _ j=>dr M n fun b=>(match b with
     | .map k ka vb dn sz es=>lg w fun vs=>bif fy w.jJ va&&fy vb va&&Nat.beq (k+vs.length) sz&&dn.all then
         (True->AEn es j fun i row=>yV k row fun kc=>iC M n (.map k ka va true sz (es.set i (kc++vs))) fun M'=>aM d (.aQ []) F M' nx K)else False
     | .arr .. =>False
     | .var .. =>False)
   |_,_=>False)
def Kk(a b:AV):Bool:=
 match a,b with
 | .int k n,.int k' n'=>rK k k'&&decide (n=n')
 | .bool x,.bool y=>x==y
 | .str s,.str t=>decide (s=t)
 | .bM,.bM=>true
 | .ai,.ai=>true
 | .aw,.aw=>true
 | .ep,.ep=>true
 | .cj,.cj=>true
 |_,_=>false
def rD:List AV->List AV->Bool
 |[],[]=>true
 |a::r,b::s=>Kk a b&&rD r s
 |_,_=>false
def BA(a b:AV):Bool:=
 match a,b with
 | .agg cs,.agg ds=>rD cs ds
 | .aQ cs,.aQ ds=>rD cs ds
 |a,b=>Kk a b
theorem CV{a b:AV}(h:Kk a b=true):a=b:=by
 cases a<;>cases b<;>simp_all[Kk]
 exact jk h.1
theorem jW:∀{a b:List AV},rD a b=true->a=b
 |[],[],_=>rfl
 |a::r,b::s,h=>by
  simp only[rD,Bool.and_eq_true]at h
  rw[CV h.1,jW h.2]
 |[],_::_,h=>by simp[rD]at h
 |_::_,[],h=>by simp[rD]at h
theorem pf{a b:AV}(h:BA a b=true):a=b:=by
 unfold BA at h
 split at h
 ·rw[jW h]
 ·rw[jW h]
 ·exact CV h
def c9(R:Env):Operand->Sc->Bool
 | .tmp t,.t n=>Nat.beq t n
 | .const v,.k u=>BA (Na v) u
 | .func f,.f g=>Nat.beq (R.ft g) f
 |_,_=>false
def oo(R:Env):List Operand->List Sc->Bool
 |[],[]=>true
 |x::r,y::s=>c9 R x y&&oo R r s
 |_,_=>false
def BB(R:Env):Option Operand->Option Sc->Bool
 |none,none=>true
 |some x,some y=>c9 R x y
 |_,_=>false
theorem ar{R:Env}{F:bh}{x:Operand}{y:Sc}(h:c9 R x y=true):ev F x=ng R F y:=by
 cases x<;>cases y<;>simp only[c9]at h<;>first|(simp at h; done)|skip
 ·rw[Nat.eq_of_beq_eq_true h]; rfl
 ·exact pf h
 ·simp only[ev,ng,Env.cl,Nat.eq_of_beq_eq_true h]
theorem eE{R:Env}{F:bh}:∀{xs:List Operand}{ys:List Sc},oo R xs ys=true->oM F xs=ys.map (ng R F)
 |[],[],_=>rfl
 |x::r,y::s,h=>by
  simp only[oo,Bool.and_eq_true]at h
  simp only[oM,List.map_cons,ar (F:=F) h.1,eE h.2]
 |[],_::_,h=>by simp[oo]at h
 |_::_,[],h=>by simp[oo]at h
theorem pg{R:Env}{F:bh}{x:Option Operand}{y:Option Sc}(h:BB R x y=true):uM F x=y.map (ng R F):=by
 cases x<;>cases y<;>simp only[BB]at h<;>first|(simp at h; done)|rfl|skip
 simp only[uM,Option.map_some,ar (F:=F) h]
def Ep(R:Env)(fs:List (Nat × Nat)):List (Nat × Operand)->List (Nat × Nat × Sc)->Bool
 |[],[]=>true
 |(i,x)::r,(off,n,y)::s=>(match fs[i]? with
  |some (o,t)=>Nat.beq o off&&Nat.beq (R.T.s t) n&& !Nat.beq n 0
  |none=>false)&&c9 R x y&&Ep R fs r s
 |_,_=>false
def Er(R:Env)(sz:Nat):List (Nat × Operand)->List (Nat × Nat × Sc)->Bool
 |[],[]=>true
 |(i,x)::r,(off,n,y)::s=>Nat.beq (i*sz) off&&Nat.beq sz n&& !Nat.beq n 0&&c9 R x y&&Er R sz r s
 |_,_=>false
def Es(R:Env):List (Nat × Operand)->List (Nat × Sc)->Bool
 |[],[]=>true
 |(i,x)::r,(j,y)::s=>Nat.beq i j&&c9 R x y&&Es R r s
 |_,_=>false
def OH:BinOp->Nat
 | .add=>0| .sub=>1| .mul=>2| .quo=>3| .rem=>4| .and=>5| .or=>6| .xor=>7| .shl=>8| .shr=>9| .andNot=>10| .eql=>11| .neq=>12| .lss=>13| .leq=>14| .gtr=>15| .geq=>16
theorem Hg{a b:BinOp}(h:Nat.beq (OH a) (OH b)=true):a=b:=by
 have:=Nat.eq_of_beq_eq_true h
 cases a<;>cases b<;>first|rfl|(simp[OH]at this)
def Tv:UnOp->Nat
 | .neg=>0| .not=>1| .xor=>2| .plus=>3
theorem OI{a b:UnOp}(h:Nat.beq (Tv a) (Tv b)=true):a=b:=by
 have:=Nat.eq_of_beq_eq_true h
 cases a<;>cases b<;>first|rfl|(simp[Tv]at this)
def Zb:Option Operand->Bool
 |some (.const (.int _ (.ofNat 0)))=>true
 |_=>false
theorem Hh{b:Option Operand}(h:Zb b=true):∃k,b=some (.const (.int k 0)):=by
 unfold Zb at h
 split at h
 ·exact⟨_,rfl⟩
 ·simp at h
def isEq(op:BinOp)(neg:Bool):Bool:=
 match op,neg with
 | .eql,false=>true
 | .neq,true=>true
 |_,_=>false
theorem isEq_eq{op:BinOp}{neg:Bool}(h:isEq op neg=true):op=if neg then .neq else .eql:=by cases op<;>cases neg<;>simp_all[isEq]
def Et:List LK->List LK->Bool
 |[],[]=>true
 | .i::r,.i::s=>Et r s
 | .b::r,.b::s=>Et r s
 | .s::r,.s::s=>Et r s
 |_,_=>false
theorem pj:∀{a b:List LK},Et a b=true->a=b
 |[],[],_=>rfl
 | .i::r,.i::s,h=>by rw[pj (a:=r) (b:=s) h]
 | .b::r,.b::s,h=>by rw[pj (a:=r) (b:=s) h]
 | .s::r,.s::s,h=>by rw[pj (a:=r) (b:=s) h]
def sU(R:Env)(t:Nat)(ls:List LK)(ag:Bool):Bool:=match R.T.d t with
 | .map k _=>fy (aO R.P k) ag&&(match mO R.P 8 k with
   |some l=>Et l ls
   |none=>false)
 |_=>false
def bO(R:Env)(c:Call)(i:vN):Bool:=
 match c.callee,i with
 | .value f,.call g as=>c9 R f (.f g)&&oo R c.args.toList as
 | .value f,.gW y as=>c9 R f y&&oo R c.args.toList as
 | .value f,.vO y as=>c9 R f y&&oo R c.args.toList as
 | .value f,.pe y as=>c9 R f y&&oo R c.args.toList as
 | .value f,.qT g as=>c9 R f (.f g)&&oo R c.args.toList as
 | .builtin .len,.Ov n=>(match c.args.toList,c.argTypes.toList with
   |[_],[t]=>(match R.T.d t with
    | .arr m _=>Nat.beq m n
    |_=>false)
   |_,_=>false)
 | .builtin .len,.fw y=>(match c.args.toList,c.argTypes.toList with
   |[x],[t]=>c9 R x y&&(match R.T.d t with
    | .slice _=>true
    |_=>false)
   |_,_=>false)
 | .builtin .len,.Ow y=>(match c.args.toList,c.argTypes.toList with
   |[x],[t]=>c9 R x y&&(match R.T.d t with
    | .str=>true
    |_=>false)
   |_,_=>false)
 | .builtin .min,.mm false as=>oo R c.args.toList as
 | .builtin .max,.mm true as=>oo R c.args.toList as
 | .builtin .append,.app ty sz s y=>(match c.args.toList,c.argTypes.toList with
   |[x1,x2],[t,t']=>c9 R x1 s&&c9 R x2 y&&(match R.T.d t,R.T.d t' with
    | .slice e,.slice _=>Nat.beq (R.ty ty) e&&Nat.beq (R.T.s e) sz&&(R.T.d e).ok&&bX (R.T.z e)&&Nat.beq (cells (R.T.z e)).length (R.T.s e)
    |_,_=>false)
   |_,_=>false)
 | .builtin .copy,.copy sz s y=>(match c.args.toList,c.argTypes.toList with
   |[x1,x2],[t,t']=>c9 R x1 s&&c9 R x2 y&&(match R.T.d t,R.T.d t' with
    | .slice e,.slice _=>Nat.beq (R.T.s e) sz&&(R.T.d e).ok
    |_,_=>false)
   |_,_=>false)
 | .builtin .append,.Kg ty sz z s y=>(match c.args.toList,c.argTypes.toList with
   |[x1,x2],[t,t']=>c9 R x1 s&&c9 R x2 y&&(match R.T.d t,R.T.d t' with
    | .slice e,.int _=>Nat.beq (R.ty ty) e&&Nat.beq (R.T.s e) sz&&(R.T.d e).ok&&bX (R.T.z e)&&Nat.beq (cells (R.T.z e)).length (R.T.s e)&&rD (cells (R.T.z e)) z&& !Nat.beq sz 0
    |_,_=>false)
   |_,_=>false)
 | .builtin .delete,.Ns ls ag y u=>(match c.args.toList,c.argTypes.toList with
   |[x1,x2],[t,_]=>c9 R x1 y&&c9 R x2 u&&sU R t ls ag
   |_,_=>false)
 | .builtin .append,.Kf ty s y=>(match c.args.toList,c.argTypes.toList with
   |[x1,x2],[t,t']=>c9 R x1 s&&c9 R x2 y&&(match R.T.d t,R.T.d t' with
    | .slice e,.str=>Nat.beq (R.ty ty) e&&Nat.beq (R.T.s e) 1&&(R.T.d e).ok&&bX (R.T.z e)&&Nat.beq (cells (R.T.z e)).length (R.T.s e)
    |_,_=>false)
   |_,_=>false)
 |_,_=>false
def dz(R:Env)(o:Op)(i:vN):Bool:=
 match o,i with
 | .move x,.mv y=>c9 R x y
 | .assign x,.mv y=>c9 R x y
 | .pick c a b,.pick c' a' b'=>c9 R c c'&&c9 R a a'&&c9 R b b'
 | .alloc t,.alloc ty z=>Nat.beq (R.ty ty) t&&(R.T.d t).ok&&bX (R.T.z t)&&rD (cells (R.T.z t)) z
 | .box t x,.box ty y=>Nat.beq (R.ty ty) t&&c9 R x y
 | .build t ps,.build z qs=>bX (R.T.z t)&&Nat.beq (cells (R.T.z t)).length (R.T.s t)&&rD (cells (R.T.z t)) z&&(match R.T.d t with
   | .struct fs=>Gt R.T.d fs&&Ep R fs ps.toList qs
   | .arr _ e=>(R.T.d e).ok&&Er R (R.T.s e) ps.toList qs
   |_=>false)
 | .buildSlice t len ps,.aq ty sz len' z qs=>(match R.T.d t with
   | .slice e=>Nat.beq (R.ty ty) e&&Nat.beq (R.T.s e) sz&&Nat.beq len len'&&(R.T.d e).ok&&bX (R.T.z e)&&rD (cells (R.T.z e)) z&&Nat.beq (cells (R.T.z e)).length sz&& !Nat.beq sz 0&&Nat.ble (len*sz) 16777216&&Es R ps.toList qs
   |_=>false)
 | .load t a,.load ag n y=>(R.T.d t).ok&&fy (R.T.d t).ag ag&&Nat.beq (R.T.s t) n&&c9 R a y
 | .store t a x,.store n y u=>(R.T.d t).ok&&Nat.beq (R.T.s t) n&& !Nat.beq n 0&&c9 R a y&&c9 R x u
 | .nilCheck x,.aL y=>c9 R x y
 | .binOp op _ x y _,.bin op' x' y'=>Nat.beq (OH op) (OH op')&&c9 R x x'&&c9 R y y'
 | .binOp op t x y _,.Ou neg x' y'=>isEq op neg&&c9 R x x'&&c9 R y y'&&(match R.P.underlying t with
   |some .bool=>true
   |_=>false)
 | .binOp op t x y _,.sM neg ls x' y'=>isEq op neg&&c9 R x x'&&c9 R y y'&& !R.P.eqGuardType R.P.depth t&&aO R.P t&&(match mO R.P 8 t with
   |some l=>Et l ls
   |none=>false)
 | .binOp op _ x y _,.bst op' x' y'=>Nat.beq (OH op) (OH op')&&c9 R x x'&&c9 R y y'
 | .unOp op _ x,.un op' x'=>Nat.beq (Tv op) (Tv op')&&c9 R x x'
 | .convert s t x,.conv k y=>(R.T.d s).ok&&(match R.T.d t with
   | .int k'=>rK k' k
   |_=>false)&&c9 R x y
 | .convert s t x,.Tk y=>(R.T.d s).ok&&(match R.T.d t with
   | .str=>true
   |_=>false)&&c9 R x y
 | .makeFunc (.func f) first aZ,.SB g cs=>first.isEmpty&&Nat.beq (R.ft g) f&&oo R aZ.toList cs
 | .fieldAddr s x f,.aF off y=>c9 R x y&&(match R.T.d s with
   | .struct fs=>(match fs[f]? with
     |some (o,ft)=>Nat.beq o off&&(R.T.d ft).ok&& !Nat.beq (R.T.s ft) 0
     |none=>false)
   |_=>false)
 | .indexAddr t x j,.mi sz y i=>c9 R x y&&c9 R j i&&(match R.T.d t with
   | .slice e=>Nat.beq (R.T.s e) sz&&(R.T.d e).ok
   |_=>false)
 | .indexAddr t x j,.ba m sz y i=>c9 R x y&&c9 R j i&&(match R.T.d t with
   | .arr k e=>Nat.beq k m&&Nat.beq (R.T.s e) sz&&(R.T.d e).ok
   |_=>false)
 | .slice t x a b c,.u' ty sz y l h m=>c9 R x y&&BB R a l&&BB R b h&&BB R c m&&(match R.T.d t with
   | .slice e=>Nat.beq (R.ty ty) e&&Nat.beq (R.T.s e) sz&&(R.T.d e).ok
   |_=>false)
 | .slice t x a b c,.yU m sz y l h mx=>c9 R x y&&a.isNone&&b.isNone&&c.isNone&&l.isNone&&h.isNone&&mx.isNone&&Nat.ble m 1000000&&(match R.T.d t with
   | .arr k e=>Nat.beq k m&&Nat.beq (R.T.s e) sz&&(R.T.d e).ok
   |_=>false)
 | .makeSlice t l c,.mks ty sz z l' c'=>c9 R l l'&&c9 R c c'&&(match R.T.d t with
   | .slice e=>Nat.beq (R.ty ty) e&&Nat.beq (R.T.s e) sz&&(R.T.d e).ok&&bX (R.T.z e)&&rD (cells (R.T.z e)) z&&Nat.beq (cells (R.T.z e)).length sz&& !Nat.beq sz 0
   |_=>false)
 | .convert s t x,.s2b ty y=>c9 R x y&&(match R.T.d s,R.T.d t with
   | .str,.slice e=>Nat.beq (R.ty ty) e&&(match R.T.d e with
     | .int .u8=>true
     |_=>false)
   |_,_=>false)
 | .slice t x a b c,.Tm y l h=>c9 R x y&&BB R a l&&BB R b h&&c.isNone&&(match R.T.d t with
   | .str=>true
   |_=>false)
 | .binOp op t x (.const c) _,.SA neg x'=>isEq op neg&&c9 R x x'&&(match c,R.P.underlying t with
   | .pointer none,some (.pointer _)=>true
   |_,_=>false)
 | .binOp op t x (.const c) _,.Bo neg x'=>isEq op neg&&c9 R x x'&&(match c,R.P.underlying t with
   | .slice none 0 0,some (.slice _)=>true
   |_,_=>false)
 | .binOp op t x (.const c) _,.Ke neg x'=>isEq op neg&&c9 R x x'&&(match c,R.P.underlying t with
   | .map none,some (.map _ _)=>true
   |_,_=>false)
 | .sliceToArrayPointer t x,.s2a m sz y=>c9 R x y&&(match R.T.d t with
   | .arr k e=>Nat.beq k m&&Nat.beq (R.T.s e) sz&&(R.T.d e).ok
   |_=>false)
 | .field t x f,.G3 ag off n y=>c9 R x y&&(match R.T.d t with
   | .struct fs=>(match fs[f]? with
     |some (o,ft)=>Nat.beq o off&&(R.T.d ft).ok&&Nat.beq (R.T.s ft) n&&fy (R.T.d ft).ag ag
     |none=>false)
   |_=>false)
 | .slice t x a b c,.Nq ty sz y=>c9 R x y&&a.isNone&&Zb b&&Zb c&&(match R.T.d t with
   | .slice e=>Nat.beq (R.ty ty) e&&Nat.beq (R.T.s e) sz&&(R.T.d e).ok
   |_=>false)
 | .index t x j,.G4 ag m sz y i=>c9 R x y&&c9 R j i&&(match R.T.d t with
   | .arr k e=>Nat.beq k m&&Nat.beq (R.T.s e) sz&&(R.T.d e).ok&&fy (R.T.d e).ag ag
   |_=>false)
 | .index t x j,.Tl y i=>c9 R x y&&c9 R j i&&(match R.T.d t with
   | .str=>true
   |_=>false)
 | .convert s t x,.Y8 y=>c9 R x y&&(match R.T.d s,R.T.d t with
   | .slice e,.str=>(match R.T.d e with
     | .int .u8=>true
     |_=>false)
   |_,_=>false)
 | .extract x i,.ext y j=>c9 R x y&&Nat.beq i j
 | .makeMap _ none,.Ox _ _ _ sz=> !Nat.beq sz 0
 | .lookup t x y ok,.Gf ls ag _ z ok' x' y'=>fy ok ok'&&c9 R x x'&&c9 R y y'&&sU R t ls ag&&(match R.T.d t with
   | .map _ e=>(R.T.d e).ok&&BA (R.T.z e) z
   |_=>false)
 | .mapUpdate t x y v,.G5 ls ag _ x' y' v'=>c9 R x x'&&c9 R y y'&&c9 R v v'&&sU R t ls ag
 | .insert t x y v,.G5 ls ag _ x' y' v'=>c9 R x x'&&c9 R y y'&&c9 R v v'&&sU R t ls ag
 | .mapEntry t x y,.enm ls ag _ z x' y'=>c9 R x x'&&c9 R y y'&&sU R t ls ag&&(match R.T.d t with
   | .map _ e=>(R.T.d e).ok&&BA (R.T.z e) z
   |_=>false)
 | .lookup t x y false,.Nr ls ag x' y'=>c9 R x x'&&c9 R y y'&&sU R t ls ag&&(match R.T.d t with
   | .map _ e=>(R.T.d e).ok&&BA (R.T.z e) (.int .i64 0)
   |_=>false)
 | .mapEntry t x y,.enc ls ag x' y'=>c9 R x x'&&c9 R y y'&&sU R t ls ag&&(match R.T.d t with
   | .map _ e=>(R.T.d e).ok&&BA (R.T.z e) (.int .i64 0)
   |_=>false)
 | .entryStore _ x st v,.stm _ x' st' v'=>c9 R x x'&&c9 R st st'&&c9 R v v'
 | .range t x,.Oy y=>c9 R x y&&(match R.T.d t with
   | .map _ _=>true
   |_=>false)
 | .next x false,.SC y=>c9 R x y
 | .entry x,.JZ y=>c9 R x y
 | .call c,i=>bO R c i
 |_,_=>false
end Go.AM
namespace Go.AM
open Go.RowKit
variable {P:Program} {T:TT} {X:cE} {o:Oper} {F:bh} {M:bA}
theorem Eu(hT:dD P T){t f off e:Nat}{fs:List (Nat × Nat)}{x:Operand}{cs:List AV}{K:AV->Prop}(ht:T.d t= .struct fs)(Tw:fs[f]? =some (off,e))(hok:(T.d e).ok=true)(ho:o.op= .field t x f)(hx:ev F x= .agg cs)
  (h:apart (T.d e).ag (T.s e) off cs K):∃av,bT P X o F M av [] []/\K av:=by
 have hx':x ∈ o.op.operands.toList:=by simp[ho,Op.operands]
 obtain⟨D,it,z,hD,hf,_⟩:=hT t (by rw[ht]; simp)
 rw[ht]at hf
 obtain⟨gs,rfl,Oa⟩:=jP rfl hf
 obtain⟨De,ie,_,Gd,No,hie,mK,_⟩:=hT e (TD.ee hok)
 obtain⟨av,h1,h2,h3,h4⟩:=fT h
 obtain⟨fd,hfd,hfo,hft⟩:∃fd,gs[f]? =some fd/\fd.offset=off/\fd.type=e:=by
  rw[Oa,List.getElem?_map]at Tw
  cases hg:gs.toList[f]? with
  |none=>simp[hg]at Tw
  |some fd=>
   simp only[hg,Option.map_some,Option.some.injEq,Prod.mk.injEq]at Tw
   exact⟨fd,by simpa using hg,Tw.1,Tw.2⟩
 refine⟨av,aH fun M' N ρ I ac w hW hU hN=> ?_,h4⟩
 have r1:=ax hU x hx'
 rw[hx]at r1
 generalize hv:ac.eval x=v at r1
 have hle:off+T.s e<=cs.length\/ T.s e=0:=by
  simp only[List.length_take,List.length_drop]at h1; omega
 cases r1 with
 |agg _ vs hvl Ga On=>
  have GU:∃u,(part e vs.toArray off).run P w= .ok u w/\aP ρ (lens M') I w N av u:=by
   unfold part
   simp only[Sem.run_bind,oe Gd No,Result.andThen_ok]
   cases jI:(T.d e).ag with
   |true=>
    simp only[if_pos,Sem.run_bind,bI hie,Result.andThen_ok,Sem.run_pure]
    refine⟨_,rfl,?_⟩
    rw[h2,jI,if_pos rfl,mK]
    have hex:vs.toArray.extract off (off+T.s e)=((vs.drop off).take (T.s e)).toArray:=by
     apply Array.ext'
     simp
    rw[hex]
    refine .agg _ _ (by rw[h1]; simp only[List.length_take,List.length_drop]; omega) (fun u hu=>Ga u (List.mem_of_mem_drop (List.mem_of_mem_take hu))) (fun i hi=> ?_)
    rw[h1]at hi
    rw[dq _ _ _ _ _ hi,dq _ _ _ _ _ hi]
    exact On (off+i) (by omega)
   |false=>
    have h5:=h3 jI
    have hlt:off<cs.length:=by omega
    have xn:off<vs.length:=by omega
    simp only[Bool.false_eq_true,if_false]
    have:vs.toArray[off]? =some vs[off]:=by simp[xn]
    rw[this]
    refine⟨_,Sem.run_pure _ _ _,?_⟩
    rw[h2,jI,h5]
    have e1:((cs.drop off).take 1).headD .bad=cs.getD off .bad:=by
     rw[List.drop_eq_getElem_cons hlt,List.take_succ_cons]
     simp[List.getD_eq_getElem?_getD,hlt]
    simp only[Bool.false_eq_true,if_false,e1]
    have:=On off hlt
    rwa[show vs.getD off default=vs[off] by simp[List.getD_eq_getElem?_getD,xn]]at this
  obtain⟨u,hu,hr⟩:=GU
  refine⟨u,?_,hr⟩
  simp only[execOp,ho,hv,Instr.field,asAgg,Sem.run_bind,Sem.run_pure,Result.andThen_ok,run_underlying hD,hfd,hfo,hft,hu]
theorem sV{a b:List AV}{sz j:Nat}(h:a.length=sz):(a++b).getD j .bad=if j<sz then a.getD j .bad else b.getD (j - sz) .bad:=by
 subst h
 by_cases hlt:j<a.length
 ·rw[if_pos hlt]; simp[List.getD_eq_getElem?_getD,List.getElem?_append_left hlt]
 ·rw[if_neg hlt]; simp[List.getD_eq_getElem?_getD,List.getElem?_append_right (Nat.le_of_not_lt hlt)]
theorem Hi(hT:dD P T){t m e sz:Nat}{x:Operand}{es:List (List AV)}(ht:T.d t= .arr m e)(ho:o.op= .sliceToArrayPointer t x)(hx:ev F x= .aD sz es)(hm:m<=es.length)(h0:0<m):
  bT P X o F M (.bz (es.take m).flatten 0) [] []:=by
 have hx':x ∈ o.op.operands.toList:=by simp[ho,Op.operands]
 obtain⟨D,it,z,hD,hf,_⟩:=hT t (by rw[ht]; simp)
 obtain rfl:=gC ht hf
 refine aH fun M' N ρ I ac w hW hU hN=> ?_
 have r1:=ax hU x hx'
 rw[hx]at r1
 generalize hv:ac.eval x=v at r1
 cases r1 with
 |c7=>simp at hm; omega
 |aD _ _ b q cap c hl hc hI hs h1 hcell hr=>
  refine⟨.pointer (some ⟨b,q,none⟩),?_,?_⟩
  ·simp only[execOp,ho,hv,Instr.arrayAt,Sem.run_bind,Sem.run_pure,Result.andThen_ok,run_underlying hD,if_neg (Nat.not_lt.2 hm)]
  ·have hfl:(es.take m).flatten.length=m*sz:=by
    rw[List.length_flatten,show (es.take m).map List.length=List.replicate m sz from ?_]
    ·simp
    ·apply List.ext_getElem
     ·simp; omega
     ·intro i hi hi'
      simp at hi ⊢
      exact hs _ (List.getElem_mem _)
   have Ew:∀j,j<m*sz->j / sz<es.length/\j % sz<sz/\(es.take m).flatten.getD j .bad=(es.getD (j / sz) []).getD (j % sz) .bad:=by
    intro j hj
    have hsz:0<sz:=by
     rcases Nat.eq_zero_or_pos sz with h|h
     ·subst h; simp at hj
     ·exact h
    have hd:j / sz<m:=Nat.div_lt_of_lt_mul (by rw[Nat.mul_comm]; exact hj)
    refine⟨by omega,Nat.mod_lt _ hsz,?_⟩
    have key:∀(l:List (List AV))(j:Nat),(∀e ∈ l,e.length=sz)->l.flatten.getD j .bad=(l.getD (j / sz) []).getD (j % sz) .bad:=by
     intro l
     induction l with
     |nil=>intro j _; simp
     |cons a r ih=>
      intro j hl
      have ha:=hl a List.mem_cons_self
      rw[List.flatten_cons,sV ha]
      by_cases hlt:j<sz
      ·rw[if_pos hlt,Nat.div_eq_of_lt hlt,Nat.mod_eq_of_lt hlt]; rfl
      ·rw[if_neg hlt,ih (j - sz) (fun e he=>hl e (List.mem_cons_of_mem _ he))]
       have e1:j / sz=(j - sz) / sz+1:=by
        rw[Nat.div_eq_sub_div hsz (by omega)]
       have e2:j % sz=(j - sz) % sz:=by
        rw[Nat.mod_eq_sub_mod (by omega)]
       rw[e1,e2]; simp
    rw[key _ _ (fun e he=>hs e (List.mem_of_mem_take he))]
    congr 1
    simp[List.getD_eq_getElem?_getD,List.getElem?_take,hd]
   refine .bz _ 0 b q (fun j=>c (j / sz) (j % sz)) hI (fun j hj=> ?_) (fun j hj=> ?_) (fun j hj=> ?_)
   ·rw[hfl]at hj
    obtain⟨a1,a2,_⟩:=Ew j hj
    exact h1 _ _ a1 a2
   ·rw[hfl]at hj
    obtain⟨a1,a2,_⟩:=Ew j hj
    have:=hcell _ _ a1 a2
    have e:q+j / sz*sz+j % sz=q+j:=by rw[Nat.add_assoc,Nat.div_add_mod' j sz]
    rwa[e]at this
   ·rw[hfl]at hj
    obtain⟨a1,a2,a3⟩:=Ew j hj
    rw[a3]; exact hr _ _ a1 a2
theorem vd{neg:Bool}{t k e:TypeId}{y:Operand}{x:Operand}{q:Option Nat}{w:World}(hu:P.underlying t=some (.map k e)):
  (do eqGuard (if neg then .neq else .eql) t x y (.map q) (.map none); binOp (if neg then .neq else .eql) t (.map q) (.map none):Sem Value).run P w= .ok (.bool (if neg then !q.isNone else q.isNone)) w:=by
 have e1:=run_equal_map_nil (P:=P) (w:=w) t k e q hu
 cases neg<;>simp[Sem.run_bind,eqGuard,binOp,e1]
theorem pm{neg:Bool}{t k e yt:TypeId}{x:Operand}{b:Bool}{Ml:Mem}(hM:M=ab Ml)(ho:o.op= .binOp (if neg then .neq else .eql) t x (.const (.map none)) yt)(hu:P.underlying t=some (.map k e))
  (hx:(ev F x= .cj/\b=true)\/(∃n bl,ev F x= .omap n/\ab Ml n=some bl/\bl.ln=0)/\b=false):bT P X o F M (.bool (if neg then !b else b)) [] []:=by
 have hx':x ∈ o.op.operands.toList:=by simp[ho,Op.operands]
 refine aH fun M' N ρ I ac w hW hU hN=> ?_
 have r1:=ax hU x hx'
 have key:∃q:Option Nat,ac.eval x= .map q/\q.isNone=b:=by
  rcases hx with⟨h,rfl⟩|⟨⟨n,bl,h,hb,hl⟩,rfl⟩
  ·rw[h]at r1
   generalize ac.eval x=v at r1
   cases r1
   exact⟨none,rfl,rfl⟩
  ·rw[h]at r1
   obtain⟨sl,fq,fF⟩:=bE (F:=F) x hx' (n:=n) (by rw[h]; simp[AV.names])
   have cL:M' n=some bl:=(hN sl fq n fF).trans (by rw[hM]; exact hb)
   have ej:lens M' n=some (0,bl.sz):=by rw[aC]; exact⟨bl,cL,hl,rfl⟩
   generalize ac.eval x=v at r1
   cases r1 with
   |omap _ _ hn h1 h=>
    obtain⟨g,cap,_,hv⟩:=h _ ej
    exact⟨_,hv,rfl⟩
 obtain⟨q,hv,hq⟩:=key
 refine⟨_,?_,.bool _⟩
 have e1:=vd (P:=P) (neg:=neg) (y:= .const (.map none)) (x:=x) (q:=q) (w:=w) hu
 rw[hq]at e1
 have hc:ac.eval (.const (.map none))= .map none:=rfl
 simp only[execOp,ho,hv,hc]
 simp only[Sem.run_bind]at e1 ⊢
 rw[e1]
 simp
end Go.AM
