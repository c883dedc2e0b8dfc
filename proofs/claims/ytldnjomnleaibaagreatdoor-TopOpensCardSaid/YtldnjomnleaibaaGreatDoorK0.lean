/- Of the reckoning machine, and what is proved with it: texts joined by program. -/
import Derived.WalkKit
import Derived.WalkSpells
import Derived.WalkLawsBesides
import Derived.Lib.Strings
import Derived.Deep.AppendSrc
import Derived.Deep.Upon
set_option linter.all false
namespace Go.AM
open Go.RowKit
inductive EW where
 |fn (f:Nat)
 |lp (l:Nat) (tm:List Value)
 deriving Inhabited
inductive AV where
 |int (k:IntKind) (n:Int)
 |bool (b:Bool)
 |str (s:List UInt8)
 |aw
 |ab
 |af
 |di
 |bP
 |loc (n len i off:Nat)
 |bh (n len:Nat)
 |dm (n len i off cnt:Nat)
 |aG (sz:Nat) (es:List (List AV))
 |bc (e:List AV) (off:Nat)
 |omap (n:Nat)
 |oB (n r:Nat)
 |bK (f:EW) (aP:List AV)
 |agg (cs:List AV)
 |aF (vs:List AV)
 |bad
 deriving Inhabited
inductive Dn where
 |b (x:Bool)
 |it (r:Nat) (sn:List Bool) (la:Option Nat)
instance:Coe Bool Dn:=⟨.b⟩
def Dn.all:Dn->Bool
 | .b x=>x
 | .it _ _ _=>false
def Dn.up:Dn->Dn
 | .b x=> .b x
 | .it _ _ _=> .b false
def Dn.dl(i:Nat):Dn->Dn
 | .b _=> .b false
 | .it r sn _=> .it r (sn.eraseIdx i) none
theorem Dn.all_eq{d:Dn}(h:d.all=true):d= .b true:=by
 cases d with
 |b x=>exact congrArg Dn.b h
 |it=>exact Bool.noConfusion h
theorem Dn.EX{d:Dn}:d.up.all=d.all:=by cases d<;>rfl
theorem Dn.EY{d:Dn}{r:Nat}{sn:List Bool}{la:Option Nat}:d.up≠ .it r sn la:=by cases d<;>exact fun h=>by cases h
def EI(w:World)(g r:Nat)(sn:List Bool)(la:Option Nat):Prop:=
 ∃en ck since seen,w.heap[g]? =some (.map en ck)/\w.heap[r]? =some (.mapIter (some g) since seen ck)/\since<=ck/\(∀x ∈ en.toList,x.born<since)/\sn=en.toList.map (fun e=>seen.contains e.born)/\∀i,la=some i->∃e,en[i]? =some e/\seen.back?=some e.born
theorem EI.at{w w':World}{g r:Nat}{sn:List Bool}{la:Option Nat}(h:EI w g r sn la)(h1:w'.heap[g]? =w.heap[g]?)(h2:w'.heap[r]? =w.heap[r]?):EI w' g r sn la:=by
 obtain⟨en,ck,since,seen,k1,k2,k3⟩:=h
 exact⟨en,ck,since,seen,h1.trans k1,h2.trans k2,k3⟩
theorem EI.lt{w:World}{g r:Nat}{sn:List Bool}{la:Option Nat}(h:EI w g r sn la):r<w.heap.size:=by
 obtain⟨en,ck,since,seen,k1,k2,k3⟩:=h
 exact (Array.getElem?_eq_some_iff.1 k2).1
structure be where
 ty:Nat
 sz:Nat
 es:List (List AV)
 mp:Option (Nat × Bool × Bool × Dn)
def be.ln(b:be):Nat:=match b.mp with
 |none=>b.es.length
 |some _=>0
abbrev Mem:=List (Nat × be)
abbrev aT:=List (Nat × AV)
def aa:Mem->Nat->Option be
 |[],_=>none
 |(m,b)::r,n=>bif n==m then some b else aa r n
def look:aT->Nat->AV
 |[],_=> .bad
 |(j,v)::r,i=>bif i==j then v else look r i
abbrev Place:=Nat->Option (Nat × Nat)
abbrev aY:=Nat->Option (Nat × Nat)
def cH:Nat->Prop:=fun _=>False
abbrev bf:=Nat->Option be
def lens(M:bf):aY:=fun n=>(M n).map fun b=>(b.ln,b.sz)
inductive aL(ρ:Place)(L:aY)(I:Nat->Prop)(w:World):(Nat->Prop)->AV->Value->Prop
 |int {N} (k:IntKind) (n:Int):aL ρ L I w N (.int k n) (.int k n)
 |bool {N} (b:Bool):aL ρ L I w N (.bool b) (.bool b)
 |str {N} (s:List UInt8):aL ρ L I w N (.str s) (.string ⟨s.toArray⟩)
 |aw {N}:aL ρ L I w N .aw (.pointer none)
 |ab {N}:aL ρ L I w N .ab (.slice none 0 0)
 |af {N}:aL ρ L I w N .af .nilFunc
 |di {N}:aL ρ L I w N .di .nilIface
 |bP {N}:aL ρ L I w N .bP (.map none)
 |loc {N} (n len i off:Nat) (v:Value) (hn:N n) (h1:v.oneCell'=true) (h:∀l sz,L n=some (l,sz)->len<=l/\(len=l->∃g cap,ρ n=some (g,cap)/\v= .pointer (some ⟨g,i*sz+off,none⟩))):aL ρ L I w N (.loc n len i off) v
 |bh {N} (n len:Nat) (v:Value) (hn:N n) (h1:v.oneCell'=true) (h:∀l sz,L n=some (l,sz)->len<=l/\(len=l->(ρ n=none/\∃q,v= .slice q 0 0)\/∃g cap,ρ n=some (g,cap)/\v= .slice (some ⟨g,0,none⟩) len cap)):aL ρ L I w N (.bh n len) v
 |dm {N} (n len i off cnt:Nat) (v:Value) (hn:N n) (h1:v.oneCell'=true) (h:∀l sz,L n=some (l,sz)->len<=l/\(len=l->∃g cap c,ρ n=some (g,cap)/\v= .slice (some ⟨g,i*sz+off,none⟩) cnt c/\cnt<=c/\c<=maxLen)):aL ρ L I w N (.dm n len i off cnt) v
 |omap {N} (n:Nat) (v:Value) (hn:N n) (h1:v.oneCell'=true) (h:∀sz,L n=some (0,sz)->∃g cap,ρ n=some (g,cap)/\v= .map (some g)):aL ρ L I w N (.omap n) v
 |oB {N} (n r:Nat):aL ρ L I w N (.oB n r) (.pointer (some ⟨r,0,none⟩))
 |cI {N} (sz:Nat) (a:Option Addr) (cap:Nat) (hc:cap<=maxLen):aL ρ L I w N (.aG sz []) (.slice a 0 cap)
 |aG {N} (sz:Nat) (es:List (List AV)) (b o cap:Nat) (c:Nat->Nat->Value) (hl:es.length<=cap) (hc:cap<=maxLen) (hI:I b) (hs:∀e ∈ es,e.length=sz)
   (h1:∀i j,i<es.length->j<sz->(c i j).oneCell'=true)
   (hcell:∀i j,i<es.length->j<sz->w.cell? ⟨b,o+i*sz+j,none⟩=some (c i j))
   (hr:∀i j,i<es.length->j<sz->aL ρ L I w cH ((es.getD i []).getD j .bad) (c i j)):aL ρ L I w N (.aG sz es) (.slice (some ⟨b,o,none⟩) es.length cap)
 |bc {N} (e:List AV) (off b o:Nat) (c:Nat->Value) (hI:I b) (h1:∀j,j<e.length->(c j).oneCell'=true) (hcell:∀j,j<e.length->w.cell? ⟨b,o+j,none⟩=some (c j))
   (hr:∀j,j<e.length->aL ρ L I w cH (e.getD j .bad) (c j)):aL ρ L I w N (.bc e off) (.pointer (some ⟨b,o+off,none⟩))
 |bK {N} (f:Nat) (aP:List AV) (vs:List Value) (hl:vs.length=aP.length) (hr:∀j,j<aP.length->aL ρ L I w N (aP.getD j .bad) (vs.getD j default)):
   aL ρ L I w N (.bK (.fn f) aP) (.func (.func f) #[] vs.toArray)
 |qm {N} (l:Nat) (aP:List AV) (vs:List Value) (hl:vs.length=aP.length) (hr:∀j,j<aP.length->aL ρ L I w N (aP.getD j .bad) (vs.getD j default)):
   aL ρ L I w N (.bK (.lp l vs) aP) (.func (.yield l) #[] #[])
 |agg {N} (cs:List AV) (vs:List Value) (hl:vs.length=cs.length) (h1:∀u ∈ vs,u.oneCell'=true) (hr:∀j,j<cs.length->aL ρ L I w N (cs.getD j .bad) (vs.getD j default)):
   aL ρ L I w N (.agg cs) (.agg vs.toArray)
 |aF {N} (cs:List AV) (vs:List Value) (hl:vs.length=cs.length) (hr:∀j,j<cs.length->aL ρ L I w N (cs.getD j .bad) (vs.getD j default)):
   aL ρ L I w N (.aF cs) (.tuple vs.toArray)
 |bad {N} (v:Value):aL ρ L I w N .bad v
structure mM(N:Nat->Prop)(ρ:Place)(L:aY)(I:Nat->Prop)(w:World)(ρ':Place)(L':aY)(I':Nat->Prop)(w':World):Prop where
 alive:∀n len sz,N n->L' n=some (len,sz)->L n=some (len,sz)->ρ' n=ρ n
 back:∀n len sz,N n->L' n=some (len,sz)->∃len',L n=some (len',sz)/\len'<=len
 oz:∀b,I b->I' b
 cell:∀b,I b->w'.heap[b]? =w.heap[b]?
theorem mM.refl(N:Nat->Prop)(ρ:Place)(L:aY)(I:Nat->Prop)(w:World):mM N ρ L I w ρ L I w:=
 ⟨fun _ _ _ _ _ _=>rfl,fun _ len _ _ h=>⟨len,h,Nat.le_refl _⟩,fun _ h=>h,fun _ _=>rfl⟩
theorem mM.trans{N:Nat->Prop}{ρ ρ' Q1:Place}{L L' L'':aY}{I I' I'':Nat->Prop}{w w' w'':World}(h:mM N ρ L I w ρ' L' I' w')(k:mM N ρ' L' I' w' Q1 L'' I'' w''):mM N ρ L I w Q1 L'' I'' w'':=by
 refine⟨?_,?_,fun b hb=>k.oz b (h.oz b hb),fun b hb=>(k.cell b (h.oz b hb)).trans (h.cell b hb)⟩
 ·intro n len sz hn h2 h0
  obtain⟨l1,e1,g1⟩:=k.back n len sz hn h2
  obtain⟨l0,e0,g0⟩:=h.back n l1 sz hn e1
  rw[h0]at e0
  simp only[Option.some.injEq,Prod.mk.injEq]at e0
  obtain⟨rfl,_⟩:=e0
  have:l1=len:=by omega
  subst this
  exact (k.alive n l1 sz hn h2 e1).trans (h.alive n l1 sz hn e1 h0)
 ·intro n len sz hn h2
  obtain⟨l1,e1,g1⟩:=k.back n len sz hn h2
  obtain⟨l0,e0,g0⟩:=h.back n l1 sz hn e1
  exact⟨l0,e0,by omega⟩
theorem mM.mono{N N':Nat->Prop}(hle:∀n,N' n->N n){ρ ρ':Place}{L L':aY}{I I':Nat->Prop}{w w':World}(h:mM N ρ L I w ρ' L' I' w'):mM N' ρ L I w ρ' L' I' w':=
 ⟨fun n len sz hn=>h.alive n len sz (hle n hn),fun n len sz hn=>h.back n len sz (hle n hn),h.oz,h.cell⟩
theorem cell_of_heap{w w':World}{b o:Nat}(h:w'.heap[b]? =w.heap[b]?):w'.cell? ⟨b,o,none⟩=w.cell? ⟨b,o,none⟩:=by
 simp[World.cell?,h]
theorem aL.rJ{ρ ρ':Place}{L L':aY}{I I':Nat->Prop}{w w':World}{NX:Nat->Prop}(E:mM NX ρ L I w ρ' L' I' w'){N:Nat->Prop}{a:AV}{v:Value}(h:aL ρ L I w N a v):(∀n,N n->NX n)->aL ρ' L' I' w' N a v:=by
 induction h with
 |int k n=>exact fun _=> .int k n
 |bool b=>exact fun _=> .bool b
 |str s=>exact fun _=> .str s
 |aw=>exact fun _=> .aw
 |ab=>exact fun _=> .ab
 |af=>exact fun _=> .af
 |di=>exact fun _=> .di
 |bP=>exact fun _=> .bP
 |oB n r=>exact fun _=> .oB n r
 | @loc N n len i off v hn hv h=>
   refine fun hx=> .loc n len i off v hn hv fun l sz hl=> ?_
   obtain⟨l0,e0,g0⟩:=E.back n l sz (hx n hn) hl
   obtain⟨h1,h2⟩:=h l0 sz e0
   refine⟨by omega,fun e=> ?_⟩
   have:l0=l:=by omega
   subst this
   rw[E.alive n l0 sz (hx n hn) hl e0]
   exact h2 e
 | @bh N n len v hn hv h=>
   refine fun hx=> .bh n len v hn hv fun l sz hl=> ?_
   obtain⟨l0,e0,g0⟩:=E.back n l sz (hx n hn) hl
   obtain⟨h1,h2⟩:=h l0 sz e0
   refine⟨by omega,fun e=> ?_⟩
   have:l0=l:=by omega
   subst this
   rw[E.alive n l0 sz (hx n hn) hl e0]
   exact h2 e
 | @dm N n len i off cnt v hn hv h=>
   refine fun hx=> .dm n len i off cnt v hn hv fun l sz hl=> ?_
   obtain⟨l0,e0,g0⟩:=E.back n l sz (hx n hn) hl
   obtain⟨h1,h2⟩:=h l0 sz e0
   refine⟨by omega,fun e=> ?_⟩
   have:l0=l:=by omega
   subst this
   rw[E.alive n l0 sz (hx n hn) hl e0]
   exact h2 e
 | @omap N n v hn hv h=>
   refine fun hx=> .omap n v hn hv fun sz hl=> ?_
   obtain⟨l0,e0,g0⟩:=E.back n 0 sz (hx n hn) hl
   obtain rfl:l0=0:=by omega
   rw[E.alive n 0 sz (hx n hn) hl e0]
   exact h sz e0
 |cI sz a cap hc=>exact fun _=> .cI sz a cap hc
 |aG sz es b o cap c hl hc hI hs h1 hcell hr ih=>
  exact fun _=> .aG sz es b o cap c hl hc (E.oz b hI) hs h1 (fun i j hi hj=>(cell_of_heap (E.cell b hI)).trans (hcell i j hi hj)) (fun i j hi hj=>ih i j hi hj (fun _ h=>h.elim))
 |bc e off b o c hI h1 hcell hr ih=>
  exact fun _=> .bc e off b o c (E.oz b hI) h1 (fun j hj=>(cell_of_heap (E.cell b hI)).trans (hcell j hj)) (fun j hj=>ih j hj (fun _ h=>h.elim))
 |bK f aP vs hl hr ih=>exact fun hx=> .bK f aP vs hl (fun j hj=>ih j hj hx)
 |qm f aP vs hl hr ih=>exact fun hx=> .qm f aP vs hl (fun j hj=>ih j hj hx)
 |agg cs vs hl h1 hr ih=>exact fun hx=> .agg cs vs hl h1 (fun j hj=>ih j hj hx)
 |aF cs vs hl hr ih=>exact fun hx=> .aF cs vs hl (fun j hj=>ih j hj hx)
 |bad v=>exact fun _=> .bad v
theorem aL.wide{ρ:Place}{L:aY}{I:Nat->Prop}{w:World}{N:Nat->Prop}{a:AV}{v:Value}(h:aL ρ L I w N a v):∀{N':Nat->Prop},(∀n,N n->N' n)->aL ρ L I w N' a v:=by
 induction h with
 |int k n=>exact fun _=> .int k n
 |bool b=>exact fun _=> .bool b
 |str s=>exact fun _=> .str s
 |aw=>exact fun _=> .aw
 |ab=>exact fun _=> .ab
 |af=>exact fun _=> .af
 |di=>exact fun _=> .di
 |bP=>exact fun _=> .bP
 |oB n r=>exact fun _=> .oB n r
 |loc n len i off v hn h1 h=>exact fun hx=> .loc n len i off v (hx n hn) h1 h
 |bh n len v hn h1 h=>exact fun hx=> .bh n len v (hx n hn) h1 h
 |dm n len i off cnt v hn h1 h=>exact fun hx=> .dm n len i off cnt v (hx n hn) h1 h
 |omap n v hn h1 h=>exact fun hx=> .omap n v (hx n hn) h1 h
 |cI sz a cap hc=>exact fun _=> .cI sz a cap hc
 |aG sz es b o cap c hl hc hI hs h1 hcell hr ih=>exact fun _=> .aG sz es b o cap c hl hc hI hs h1 hcell hr
 |bc e off b o c hI h1 hcell hr ih=>exact fun _=> .bc e off b o c hI h1 hcell hr
 |bK f aP vs hl hr ih=>exact fun hx=> .bK f aP vs hl (fun j hj=>ih j hj hx)
 |qm f aP vs hl hr ih=>exact fun hx=> .qm f aP vs hl (fun j hj=>ih j hj hx)
 |agg cs vs hl h1 hr ih=>exact fun hx=> .agg cs vs hl h1 (fun j hj=>ih j hj hx)
 |aF cs vs hl hr ih=>exact fun hx=> .aF cs vs hl (fun j hj=>ih j hj hx)
 |bad v=>exact fun _=> .bad v
theorem aL.bare{ρ:Place}{L:aY}{I:Nat->Prop}{w:World}{N:Nat->Prop}{a:AV}{v:Value}(h:aL ρ L I w N a v):(∀n,¬N n)->∀(ρ':Place)(L':aY),aL ρ' L' I w cH a v:=by
 induction h with
 |int k n=>exact fun _ _ _=> .int k n
 |bool b=>exact fun _ _ _=> .bool b
 |str s=>exact fun _ _ _=> .str s
 |aw=>exact fun _ _ _=> .aw
 |ab=>exact fun _ _ _=> .ab
 |af=>exact fun _ _ _=> .af
 |di=>exact fun _ _ _=> .di
 |bP=>exact fun _ _ _=> .bP
 |oB n r=>exact fun _ _ _=> .oB n r
 |loc n len i off v hn h1 h=>exact fun hx=>(hx n hn).elim
 |bh n len v hn h1 h=>exact fun hx=>(hx n hn).elim
 |dm n len i off cnt v hn h1 h=>exact fun hx=>(hx n hn).elim
 |omap n v hn h1 h=>exact fun hx=>(hx n hn).elim
 |cI sz a cap hc=>exact fun _ _ _=> .cI sz a cap hc
 |aG sz es b o cap c hl hc hI hs h1 hcell hr ih=>exact fun _ ρ' L'=> .aG sz es b o cap c hl hc hI hs h1 hcell (fun i j hi hj=>ih i j hi hj (fun _ h=>h) ρ' L')
 |bc e off b o c hI h1 hcell hr ih=>exact fun _ ρ' L'=> .bc e off b o c hI h1 hcell (fun j hj=>ih j hj (fun _ h=>h) ρ' L')
 |bK f aP vs hl hr ih=>exact fun hx ρ' L'=> .bK f aP vs hl (fun j hj=>ih j hj hx ρ' L')
 |qm f aP vs hl hr ih=>exact fun hx ρ' L'=> .qm f aP vs hl (fun j hj=>ih j hj hx ρ' L')
 |agg cs vs hl h1 hr ih=>exact fun hx ρ' L'=> .agg cs vs hl h1 (fun j hj=>ih j hj hx ρ' L')
 |aF cs vs hl hr ih=>exact fun hx ρ' L'=> .aF cs vs hl (fun j hj=>ih j hj hx ρ' L')
 |bad v=>exact fun _ _ _=> .bad v
def aM:Value->List Value
 | .agg cs=>cs.toList
 |v=>[v]
def gz:Value->Bool
 | .agg _=>true
 |_=>false
structure xD(k:Nat)(ka va:Bool)(dn:Dn)(sz:Nat)(en:Array Go.MapEntry)(ck:Nat)(cs:Array Value):Prop where
 key:∀(i:Nat)(e:Go.MapEntry),en[i]? =some e->(aM e.key).length=k/\(aM e.key++aM e.val).length=sz/\gz e.key=ka/\gz e.val=va
 cell:∀(i:Nat)(e:Go.MapEntry)(j:Nat)(u:Value),en[i]? =some e->(aM e.key++aM e.val)[j]? =some u->cs[i*sz+j]? =some u
 born:∀(i j:Nat)(e f:Go.MapEntry),en[i]? =some e->en[j]? =some f->i<j->e.born<f.born
 clock:∀(i:Nat)(e:Go.MapEntry),en[i]? =some e->e.born<ck
 den:dn.all=true->ck=en.size/\∀(i:Nat)(e:Go.MapEntry),en[i]? =some e->e.born=i
 room:cs.size=maxLen*sz/\sz≠0
def fC(mp:Option (Nat × Bool × Bool × Dn))(sz len:Nat)(o:Option Obj)(cs:Array Value)(ty:Nat)(fr:Nat × Nat):Prop:=match mp with
 |none=>o=some (.cells cs ty fr)
 |some (k,ka,va,dn)=>∃en ck,o=some (.map en ck)/\en.size=len/\xD k ka va dn sz en ck cs
section
variable {mp:Option (Nat × Bool × Bool × Dn)} {sz len ty:Nat} {cs:Array Value} {fr:Nat × Nat}
theorem fC.some{o:Option Obj}(h:fC mp sz len o cs ty fr):∃x,o=some x:=by
 unfold fC at h
 split at h
 ·exact⟨_,h⟩
 ·obtain⟨_,_,h,_⟩:=h; exact⟨_,h⟩
theorem fC.lt{w:World}{g:Nat}(h:fC mp sz len w.heap[g]? cs ty fr):g<w.heap.size:=by
 obtain⟨x,h⟩:=h.some; exact (Array.getElem?_eq_some_iff.1 h).1
theorem fC.at{o o':Option Obj}(h:fC mp sz len o cs ty fr)(e:o'=o):fC mp sz len o' cs ty fr:=e ▸ h
theorem fC.sf{o:Option Obj}(h:fC mp sz len o cs ty fr){a:Option Nat}{b:Nat}{c:Array Nat}{d:Nat}:o≠Option.some (.mapIter a b c d):=by
 unfold fC at h
 split at h
 ·rw[h]; exact fun e=>by cases e
 ·obtain⟨_,_,h,_⟩:=h; rw[h]; exact fun e=>by cases e
theorem fC.cells{o:Option Obj}(h:fC mp sz len o cs ty fr)(hm:mp=none):o= .some (.cells cs ty fr):=by subst hm; exact h
end
end Go.AM
namespace Go.AM
open Go.RowKit
def gA:Mem->Nat->be->Mem
 |[],n,b=>[(n,b)]
 |(m,c)::r,n,b=>bif n==m then (m,b)::r else (m,c)::gA r n b
theorem mN(M:Mem)(n:Nat)(b:be)(m:Nat):aa (gA M n b) m=if m=n then some b else aa M m:=by
 induction M with
 |nil=>
  by_cases h:m=n
  ·subst h; simp[gA,aa]
  ·have hb:(m==n)=false:=by simpa using h
   simp[gA,aa,h,hb]
 |cons x r ih=>
  obtain⟨k,c⟩:=x
  by_cases h:n=k
  ·subst h
   by_cases h':m=n
   ·subst h'; simp[gA,aa]
   ·have hb:(m==n)=false:=by simpa using h'
    simp[gA,aa,h',hb]
  ·have hb:(n==k)=false:=by simpa using h
   simp only[gA,hb,cond_false,aa]
   by_cases h':m=k
   ·subst h'
    have:m≠n:=fun e=>h e.symm
    simp[this]
   ·have hb':(m==k)=false:=by simpa using h'
    simp only[hb',cond_false,ih]
structure bL where
 w0:World
 p:Nat
 I0:Nat->Prop
 size:Nat
 ρ0:Place
 L0:aY
def bL.fp(C:bL)(g:Nat):Prop:=∃n c,n<C.p/\C.ρ0 n=some (g,c)
structure Q2(C:bL)(w:World):Prop where
 os:w.os=C.w0.os
 tape:w.tape=C.w0.tape
 output:w.output=C.w0.output
 drawn:C.w0.drawn<=w.drawn
 size:C.w0.heap.size<=w.heap.size
 block:∀g,g<C.w0.heap.size->¬C.fp g->w.heap[g]? =C.w0.heap[g]?
theorem zY{fr:Nat × Nat}{n:Nat}(h:fr.1=fr.2\/ n<=fr.1)(o:Nat)(ho:o<n):¬ (fr.1<=o/\o<fr.2):=by omega
structure sg(C:bL)(ρ:Place)(L:aY)(I:Nat->Prop)(w:World)(N:Nat->Prop)(n:Nat)(b:be):Prop where
 lt:N n
 even:∀e ∈ b.es,e.length=b.sz
 dW:ρ n=none->b.es=[]
 real:∀g cap,ρ n=some (g,cap)->∃cs fr,fC b.mp b.sz b.es.length w.heap[g]? cs b.ty fr/\(fr.1=fr.2\/ cs.size<=fr.1)/\¬I g/\((n<C.p/\∃c,C.ρ0 n=some (g,c))\/ C.w0.heap.size<=g)/\b.es.length<=cap/\cap<=maxLen/\cs.size=cap*b.sz/\
  ∀i j,i<b.es.length->j<b.sz->∃u,cs[i*b.sz+j]? =some u/\u.oneCell'=true/\aL ρ L I w N ((b.es.getD i []).getD j .bad) u
 iter:∀k ka va r sn la,b.mp=some (k,ka,va,.it r sn la)->∃g cap,ρ n=some (g,cap)/\C.w0.heap.size<=r/\¬I r/\EI w g r sn la
structure bY(C:bL)(ρ:Place)(I:Nat->Prop)(M:bf)(N:Nat->Prop)(w:World):Prop where
 aR:∀n b,M n=some b->sg C ρ (lens M) I w N n b
 inj:∀n m b b' g c c',M n=some b->M m=some b'->ρ n=some (g,c)->ρ m=some (g,c')->n=m
 oz:∀g,C.I0 g->I g
 lt:∀g,I g->g<w.heap.size
 old:∀g,g<C.w0.heap.size->I g->C.I0 g
 keeps:Q2 C w
 pn:∀n,n<C.p->N n
 Cw:∀g,C.fp g->g<C.w0.heap.size/\¬C.I0 g
 par:∀n len sz,n<C.p->lens M n=some (len,sz)->∃pH,C.L0 n=some (pH,sz)/\pH<=len/\(pH=len->ρ n=C.ρ0 n)
theorem bY.mO{C:bL}{ρ ρ':Place}{I I':Nat->Prop}{M:bf}{L':aY}{N:Nat->Prop}{w w':World}(h:bY C ρ I M N w)(E:mM N ρ (lens M) I w ρ' L' I' w'):
  ∀n len sz,n<C.p->L' n=some (len,sz)->∃pH,C.L0 n=some (pH,sz)/\pH<=len/\(pH=len->ρ' n=C.ρ0 n):=by
 intro n len sz hn hl
 obtain⟨l1,e1,g1⟩:=E.back n len sz (h.pn n hn) hl
 obtain⟨l0,e0,g0,k0⟩:=h.par n l1 sz hn e1
 refine⟨l0,e0,by omega,fun e=> ?_⟩
 have e2:l1=len:=by omega
 subst e2
 exact (E.alive n l1 sz (h.pn n hn) hl e1).trans (k0 e)
theorem az{M:bf}{n l sz:Nat}:lens M n=some (l,sz)↔∃b,M n=some b/\b.ln=l/\b.sz=sz:=by
 simp[lens,Option.map_eq_some_iff]
theorem be.EZ{b:be}(h:b.es=[]):b.ln=0:=by unfold be.ln; split<;>simp[h]
theorem be.bW{b:be}(h:b.mp=none):b.ln=b.es.length:=by unfold be.ln; rw[h]
def cX(M:bf)(n:Nat)(b:be):bf:=fun m=>if m=n then some b else M m
theorem bV(M:bf)(n:Nat)(b:be)(m:Nat):lens (cX M n b) m=if m=n then some (b.ln,b.sz)else lens M m:=by
 unfold lens cX
 split<;>simp
def zZ(N:Nat->Prop)(n:Nat):Nat->Prop:=fun m=>m=n\/ N m
def iE(ρ:Place)(n:Nat)(x:Nat × Nat):Place:=fun m=>if m=n then some x else ρ m
theorem iT(b:Nat):∀(vs:List Value)(o:Nat)(w:World),(w.setCells b o vs).drawn=w.drawn
 |[],_,_=>rfl
 |v::r,o,w=>by
  rw[World.setCells,iT b r]
  unfold World.setCell
  split<;>rfl
theorem kD(w:World)(a:Addr)(n:Nat):(w.freeze a n).drawn=w.drawn:=by
 unfold World.freeze
 split<;>rfl
theorem bY.put{C:bL}{ρ:Place}{I:Nat->Prop}{M:bf}{N:Nat->Prop}{w w':World}(h:bY C ρ I M N w)
  (n:Nat) (b:be) (g cap:Nat) (cs:Array Value) (fr:Nat × Nat)
  (hos:w'.os=w.os) (si:w'.tape=w.tape) (hout:w'.output=w.output) (hsz:w.heap.size<=w'.heap.size)
  (dj:∀k,k<w.heap.size->k≠g->w'.heap[k]? =w.heap[k]?)
  (hg:fC b.mp b.sz b.es.length w'.heap[g]? cs b.ty fr) (nG:fr.1=fr.2\/ cs.size<=fr.1)
  (sj:w.heap.size<=g\/∃c0,ρ n=some (g,c0)/\∃b0,M n=some b0)
  (hold:∀b0,M n=some b0->b0.sz=b.sz/\b0.ln<=b.ln/\(b0.ln=b.ln->ρ n=some (g,cap)))
  (jX:N n->∃b0,M n=some b0)
  (E0:∀e ∈ b.es,e.length=b.sz) (hlen:b.es.length<=cap) (hcap:cap<=maxLen) (hcs:cs.size=cap*b.sz)
  (pI:∀i j,i<b.es.length->j<b.sz->∃u,cs[i*b.sz+j]? =some u/\u.oneCell'=true/\aL ρ (lens M) I w N ((b.es.getD i []).getD j .bad) u)
  (hit:∀k ka va r sn la,b.mp=some (k,ka,va,.it r sn la)->C.w0.heap.size<=r/\¬I r/\EI w' g r sn la:=by intro _ _ _ _ _ _ hnone; first|(cases hnone; done)|(simp_all; done))
  (K5:w.drawn<=w'.drawn:=by first|exact Nat.le_refl _|exact Nat.le_succ _|assumption|exact Nat.le_of_eq (iT ..).symm|(refine Nat.le_trans ?_ (Nat.le_of_eq (kD ..).symm); exact Nat.le_succ _)):
  mM N ρ (lens M) I w (iE ρ n (g,cap)) (lens (cX M n b)) I w'/\bY C (iE ρ n (g,cap)) I (cX M n b) (zZ N n) w':=by
 have hgI:¬I g:=by
  intro hI
  rcases sj with hp|⟨c0,hp,b0,hb0⟩
  ·have:=h.lt g hI; omega
  ·obtain⟨_,_,_,_,nT,_⟩:=(h.aR n b0 hb0).real g c0 hp
   exact nT hI
 have hown:(n<C.p/\∃c,C.ρ0 n=some (g,c))\/ C.w0.heap.size<=g:=by
  rcases sj with hp|⟨c0,hp,b0,hb0⟩
  ·right; have:=h.keeps.size; omega
  ·obtain⟨_,_,_,_,_,ho,_⟩:=(h.aR n b0 hb0).real g c0 hp
   exact ho
 have E:mM N ρ (lens M) I w (iE ρ n (g,cap)) (lens (cX M n b)) I w':=by
  refine⟨?_,?_,fun _ h=>h,?_⟩
  ·intro m len sz hm h1 h0
   by_cases e:m=n
   ·subst e
    rw[bV,if_pos rfl]at h1
    simp only[Option.some.injEq,Prod.mk.injEq]at h1
    obtain⟨b0,hb0,hl0,_⟩:=az.1 h0
    obtain⟨_,_,h3⟩:=hold b0 hb0
    simp only[iE,if_pos]
    exact (h3 (by omega)).symm
   ·simp[iE,e]
  ·intro m len sz hm h1
   by_cases e:m=n
   ·subst e
    rw[bV,if_pos rfl]at h1
    simp only[Option.some.injEq,Prod.mk.injEq]at h1
    obtain⟨b0,hb0⟩:=jX hm
    obtain⟨h2,h3,_⟩:=hold b0 hb0
    exact⟨b0.ln,az.2 ⟨b0,hb0,rfl,by omega⟩,by omega⟩
   ·rw[bV,if_neg e]at h1
    exact⟨len,h1,Nat.le_refl _⟩
  ·intro k hk
   exact dj k (h.lt k hk) (fun e=>hgI (e ▸ hk))
 refine⟨E,?_,?_,h.oz,?_,h.old,?_,?_,h.Cw,h.mO E⟩
 ·intro m bm hm
  simp only[cX]at hm
  by_cases e:m=n
  ·subst e
   rw[if_pos rfl]at hm
   simp only[Option.some.injEq]at hm
   subst hm
   refine⟨Or.inl rfl,E0,fun h0=>by simp[iE]at h0,fun g' cap' h0=> ?_,fun k ka va r sn la hb=>⟨g,cap,by simp[iE],hit k ka va r sn la hb⟩⟩
   simp only[iE,if_pos,Option.some.injEq,Prod.mk.injEq]at h0
   obtain⟨rfl,rfl⟩:=h0
   refine⟨cs,fr,hg,nG,hgI,hown,hlen,hcap,hcs,fun i j hi hj=> ?_⟩
   obtain⟨u,hu,pE,hr⟩:=pI i j hi hj
   exact⟨u,hu,pE,(hr.rJ E (fun _ h=>h)).wide (fun _ h=>Or.inr h)⟩
  ·rw[if_neg e]at hm
   have B:=h.aR m bm hm
   have key:∀g' cap',ρ m=some (g',cap')->g'<w.heap.size/\g'≠g:=fun g' cap' h0'=>by
    obtain⟨cs',fr',hc1,_⟩:=B.real g' cap' h0'
    have hlt:g'<w.heap.size:=hc1.lt
    refine⟨hlt,?_⟩
    rintro rfl
    rcases sj with hp|⟨c0,hp,b0,hb0⟩
    ·omega
    ·exact e (h.inj m n bm b0 g' cap' c0 hm hb0 h0' hp)
   refine⟨Or.inr B.lt,B.even,fun h0=>B.dW (by simpa[iE,e]using h0),fun g' cap' h0=> ?_,fun k ka va r sn la hb=> ?_⟩
   rotate_left
   ·obtain⟨g',cap',h0',i1,i2,i3⟩:=B.iter k ka va r sn la hb
    obtain⟨hlt,hne⟩:=key g' cap' h0'
    refine⟨g',cap',by simpa[iE,e]using h0',i1,i2,i3.at (dj g' hlt hne) (dj r i3.lt ?_)⟩
    rintro rfl
    rcases sj with hp|⟨c0,hp,b0,hb0⟩
    ·have:=i3.lt; omega
    ·obtain⟨en,ck,since,seen,_,k2,_⟩:=i3
     obtain⟨_,_,hc1,_⟩:=(h.aR n b0 hb0).real _ c0 hp
     exact hc1.sf k2
   have h0':ρ m=some (g',cap'):=by simpa[iE,e]using h0
   obtain⟨hlt,hne⟩:=key g' cap' h0'
   obtain⟨cs',fr',hc1,Cx,jU,Cy,BQ,z',Cz,CA⟩:=B.real g' cap' h0'
   refine⟨cs',fr',hc1.at (dj g' hlt hne),Cx,jU,Cy,BQ,z',Cz,fun i j hi hj=> ?_⟩
   obtain⟨u,hu,pE,hr⟩:=CA i j hi hj
   exact⟨u,hu,pE,(hr.rJ E (fun _ h=>h)).wide (fun _ h=>Or.inr h)⟩
 ·intro m k bm bk g' c c' hm hk h1 h2
  have lt':∀(q:Nat)(bq:be)(c0:Nat),M q=some bq->ρ q=some (g,c0)->q=n:=by
   intro q bq c0 hq hρ
   obtain⟨cs',fr',hc1,_⟩:=(h.aR q bq hq).real g c0 hρ
   have hlt:g<w.heap.size:=hc1.lt
   rcases sj with hp|⟨c1,hp,b0,hb0⟩
   ·omega
   ·exact h.inj q n bq b0 g c0 c1 hq hb0 hρ hp
  simp only[cX]at hm hk
  by_cases e:m=n<;>by_cases e':k=n
  ·omega
  ·subst e
   rw[if_neg e']at hk
   simp only[iE,if_pos,if_neg e',Option.some.injEq,Prod.mk.injEq]at h1 h2
   obtain⟨rfl,_⟩:=h1
   exact (lt' k bk c' hk h2).symm
  ·subst e'
   rw[if_neg e]at hm
   simp only[iE,if_pos,if_neg e,Option.some.injEq,Prod.mk.injEq]at h1 h2
   obtain⟨rfl,_⟩:=h2
   exact lt' m bm c hm h1
  ·rw[if_neg e]at hm
   rw[if_neg e']at hk
   simp only[iE,if_neg e,if_neg e']at h1 h2
   exact h.inj m k bm bk g' c c' hm hk h1 h2
 ·intro k hk; have:=h.lt k hk; omega
 ·refine⟨hos.trans h.keeps.os,si.trans h.keeps.tape,hout.trans h.keeps.output,Nat.le_trans h.keeps.drawn K5,Nat.le_trans h.keeps.size hsz,fun k hk hf=> ?_⟩
  refine (dj k (Nat.lt_of_lt_of_le hk h.keeps.size) ?_).trans (h.keeps.block k hk hf)
  rintro rfl
  rcases hown with⟨hp,c,hc⟩|ho
  ·exact hf ⟨n,c,hp,hc⟩
  ·omega
 ·exact fun m hm=>Or.inr (h.pn m hm)
theorem bY.ext'{C:bL}{ρ:Place}{I I':Nat->Prop}{M:bf}{N:Nat->Prop}{w w':World}(h:bY C ρ I M N w)
  (hos:w'.os=w.os) (si:w'.tape=w.tape) (hout:w'.output=w.output) (hsz:w.heap.size<=w'.heap.size)
  (dj:∀k,k<w.heap.size->w'.heap[k]? =w.heap[k]?)
  (hI:∀k,I k->I' k) (hlt:∀k,I' k->k<w'.heap.size) (wy:∀k,k<w.heap.size->I' k->I k)
  (K5:C.w0.drawn<=w'.drawn):
  mM N ρ (lens M) I w ρ (lens M) I' w'/\bY C ρ I' M N w':=by
 have E:mM N ρ (lens M) I w ρ (lens M) I' w':=⟨fun _ _ _ _ _ _=>rfl,fun _ len _ _ h=>⟨len,h,Nat.le_refl _⟩,hI,fun b hb=>dj b (h.lt b hb)⟩
 refine⟨E,fun n b hb=> ?_,h.inj,fun g hg=>hI g (h.oz g hg),hlt,fun g hg uq=>h.old g hg (wy g (Nat.lt_of_lt_of_le hg h.keeps.size) uq),?_,h.pn,h.Cw,h.mO E⟩
 ·have B:=h.aR n b hb
  refine⟨B.lt,B.even,B.dW,fun g cap hg=> ?_,fun k ka va r sn la hb=> ?_⟩
  rotate_left
  ·obtain⟨g,cap,hg,i1,i2,i3⟩:=B.iter k ka va r sn la hb
   obtain⟨_,_,hc1,_⟩:=B.real g cap hg
   exact⟨g,cap,hg,i1,fun hi=>i2 (wy r i3.lt hi),i3.at (dj g hc1.lt) (dj r i3.lt)⟩
  obtain⟨cs,fr,hc1,Cx,jU,Cy,BQ,z',Cz,CA⟩:=B.real g cap hg
  have hl:g<w.heap.size:=hc1.lt
  refine⟨cs,fr,hc1.at (dj g hl),Cx,fun hi=>jU (wy g hl hi),Cy,BQ,z',Cz,fun i j hi hj=> ?_⟩
  obtain⟨u,hu,pE,hr⟩:=CA i j hi hj
  exact⟨u,hu,pE,hr.rJ E (fun _ h=>h)⟩
 ·exact⟨hos.trans h.keeps.os,si.trans h.keeps.tape,hout.trans h.keeps.output,K5,Nat.le_trans h.keeps.size hsz,fun g hg hf=>(dj g (Nat.lt_of_lt_of_le hg h.keeps.size)).trans (h.keeps.block g hg hf)⟩
theorem bY.ext{C:bL}{ρ:Place}{I I':Nat->Prop}{M:bf}{N:Nat->Prop}{w w':World}(h:bY C ρ I M N w)
 (hos:w'.os=w.os) (si:w'.tape=w.tape) (hout:w'.output=w.output) (hsz:w.heap.size<=w'.heap.size)
 (dj:∀k,k<w.heap.size->w'.heap[k]? =w.heap[k]?)
 (hI:∀k,I k->I' k) (hlt:∀k,I' k->k<w'.heap.size) (wy:∀k,k<w.heap.size->I' k->I k)
 (K5:w.drawn<=w'.drawn:=by first|exact Nat.le_refl _|exact Nat.le_succ _|assumption|exact Nat.le_of_eq (iT ..).symm|(refine Nat.le_trans ?_ (Nat.le_of_eq (kD ..).symm); exact Nat.le_succ _)):
 mM N ρ (lens M) I w ρ (lens M) I' w'/\bY C ρ I' M N w':=h.ext' hos si hout hsz dj hI hlt wy (Nat.le_trans h.keeps.drawn K5)
def zd(z:Bool)(w:World):World:= {w with drawn:=bif z then 0 else w.drawn}
theorem E2(z:Bool)(w:World):(zd z w).drawn<=w.drawn:=by cases z; exact Nat.le_refl _; exact Nat.zero_le _
def sk(z:Bool)(C:bL):Prop:=z=true->C.w0.drawn=0
theorem zF{C:bL}:sk false C:=fun h=>Bool.noConfusion h
theorem zT{z:Bool}{C:bL}(h:C.w0.drawn=0):sk z C:=fun _=>h
theorem sk.le{z:Bool}{C:bL}(h:sk z C){w w1:World}(h0:C.w0.drawn<=w.drawn)(h1:(zd z w).drawn<=w1.drawn):C.w0.drawn<=w1.drawn:=by
 cases z
 ·exact Nat.le_trans h0 h1
 ·rw[h rfl]; exact Nat.zero_le _
theorem bY.drew{C:bL}{ρ:Place}{I:Nat->Prop}{M:bf}{N:Nat->Prop}{w:World}(h:bY C ρ I M N w):bY C ρ I M N w.drew:=
 (h.ext (w':=w.drew) rfl rfl rfl (Nat.le_refl _) (fun _ _=>rfl) (fun _ h=>h) h.lt (fun _ _ h=>h)).2
mutual
def AV.under(N:Nat->Prop):AV->Prop
 | .loc n _ _ _=>N n
 | .bh n _=>N n
 | .dm n _ _ _ _=>N n
 | .omap n=>N n
 | .bK _ cs=>AV.fX N cs
 | .agg cs=>AV.fX N cs
 | .aF cs=>AV.fX N cs
 |_=>True
def AV.fX(N:Nat->Prop):List AV->Prop
 |[]=>True
 |c::cs=>AV.under N c/\AV.fX N cs
end
theorem AV.fP{N:Nat->Prop}:∀(cs:List AV)(j:Nat),AV.fX N cs->j<cs.length->AV.under N (cs.getD j .bad)
 |[],_,_,h=>by simp at h
 |c::cs,0,h,_=>by simp only[AV.fX]at h; simpa using h.1
 |c::cs,j+1,h,hj=>by simp only[AV.fX]at h; simpa using AV.fP cs j h.2 (by simpa using hj)
theorem aL.low{ρ:Place}{L:aY}{I:Nat->Prop}{w:World}{N:Nat->Prop}{a:AV}{v:Value}(h:aL ρ L I w N a v):∀{N':Nat->Prop},a.under N'->aL ρ L I w N' a v:=by
 induction h with
 |int k n=>exact fun _=> .int k n
 |bool b=>exact fun _=> .bool b
 |str s=>exact fun _=> .str s
 |aw=>exact fun _=> .aw
 |ab=>exact fun _=> .ab
 |af=>exact fun _=> .af
 |di=>exact fun _=> .di
 |bP=>exact fun _=> .bP
 |oB n r=>exact fun _=> .oB n r
 |loc n len i off v hn h1 h=>exact fun hx=> .loc n len i off v (by simpa[AV.under]using hx) h1 h
 |bh n len v hn h1 h=>exact fun hx=> .bh n len v (by simpa[AV.under]using hx) h1 h
 |dm n len i off cnt v hn h1 h=>exact fun hx=> .dm n len i off cnt v (by simpa[AV.under]using hx) h1 h
 |omap n v hn h1 h=>exact fun hx=> .omap n v (by simpa[AV.under]using hx) h1 h
 |cI sz a cap hc=>exact fun _=> .cI sz a cap hc
 |aG sz es b o cap c hl hc hI hs h1 hcell hr ih=>exact fun _=> .aG sz es b o cap c hl hc hI hs h1 hcell hr
 |bc e off b o c hI h1 hcell hr ih=>exact fun _=> .bc e off b o c hI h1 hcell hr
 |bK f aP vs hl hr ih=>exact fun hx=> .bK f aP vs hl (fun j hj=>ih j hj (AV.fP _ _ (by simpa[AV.under]using hx) hj))
 |qm f aP vs hl hr ih=>exact fun hx=> .qm f aP vs hl (fun j hj=>ih j hj (AV.fP _ _ (by simpa[AV.under]using hx) hj))
 |agg cs vs hl h1 hr ih=>exact fun hx=> .agg cs vs hl h1 (fun j hj=>ih j hj (AV.fP _ _ (by simpa[AV.under]using hx) hj))
 |aF cs vs hl hr ih=>exact fun hx=> .aF cs vs hl (fun j hj=>ih j hj (AV.fP _ _ (by simpa[AV.under]using hx) hj))
 |bad v=>exact fun _=> .bad v
end Go.AM
namespace Go.AM
open Go.RowKit
inductive TD where
 |int (k:IntKind)|bool|str|ptr (e:Nat)|slice (e:Nat)|arr (n e:Nat)|struct (fs:List (Nat × Nat))|func|iface|map (k e:Nat)|aF|other
 deriving Inhabited
structure TT where
 d:Nat->TD
 s:Nat->Nat
 z:Nat->AV
def TD.ok:TD->Bool
 | .other=>false
 |_=>true
def TD.ag:TD->Bool
 | .arr .. =>true
 | .struct .. =>true
 |_=>false
structure St where
 F:aT
 M:Mem
 nx:Nat
def ux:Value->AV
 | .int k n=> .int k n
 | .bool b=> .bool b
 | .string s=> .str s.data.toList
 | .pointer none=> .aw
 | .slice none 0 0=> .ab
 | .nilFunc=> .af
 | .nilIface=> .di
 | .map none=> .bP
 |_=> .bad
def K6:Value->AV
 | .agg cs=>bif cs.toList.all Value.oneCell' then .agg (cs.toList.map ux)else .bad
 | .tuple vs=> .aF (vs.toList.map ux)
 |v=>ux v
def ev(F:aT):Operand->AV
 | .tmp t=>look F t
 | .const v=>K6 v
 | .func f=> .bK (.fn f) []
 | .global _=> .bad
def oC(F:aT):List Operand->List AV
 |[]=>[]
 |o::r=>ev F o::oC F r
def cells:AV->List AV
 | .agg cs=>cs
 |v=>[v]
def bH:AV->Bool
 | .bad=>false
 | .aF _=>false
 |_=>true
def gB(F:aT):Option Nat->AV->aT
 |none,_=>F
 |some d,v=>(d,v)::F
def ei(b:Bool)(K:Prop):Prop:=bif b then K else False
theorem aE{b:Bool}{K:Prop}(h:b=true)(k:K):ei b K:=by simp[ei,h,k]
theorem ax{b:Bool}{K:Prop}(h:ei b K):b=true/\K:=by cases b<;>simp_all[ei]
inductive K7 where
 |lp (c:Code)
 |beg
 |cd (c:Code)
def K7.item:K7->Item
 | .lp c=> .inLoop c
 | .beg=> .beginRound
 | .cd c=> .code c
inductive It where
 |code (c:Code)
 |aR (id:Nat)
 |inl (c:Code)
 |ops (all:Array Oper) (i:Nat) (rest:List Oper) (gd:List (Nat × Nat))
 |ir (c:K7) (post:St->Prop)
 |mP (c:Code)
def It.item:It->Item
 | .code c=> .code c
 | .aR id=> .inBlock id
 | .inl c=> .inLoop c
 | .ops all i rest _=> .inRegion all (List.range' i rest.length)
 | .ir c _=>c.item
 | .mP c=> .inScope c
def Q3(K:AV->Prop)(cs:List AV):Prop:=K (.agg cs)
def alive(M:Mem)(n len:Nat)(K:be->Prop):Prop:=
 match aa M n with
 |some b=>ei (b.ln==len) (b.mp=none/\K b)
 |none=>False
def apart(ag:Bool)(n off:Nat)(cs:List AV)(K:AV->Prop):Prop:=
 ei (((cs.drop off).take n).length==n) (bif ag then K (.agg ((cs.drop off).take n))else ei (n==1) (K (((cs.drop off).take n).headD .bad)))
def wr(k:IntKind)(n:Int):Int:=k.wrap n
def cZ(op:BinOp)(k:IntKind)(x y:Int):Int:=
 let a:=BitVec.ofInt k.bits x
 let b:=BitVec.ofInt k.bits y
 match op with
 | .and=>k.wrap (a&&& b).toNat
 | .or=>k.wrap (a||| b).toNat
 | .xor=>k.wrap (a ^^^ b).toNat
 |_=>k.wrap (a&&& ~~~b).toNat
def jY(k:IntKind)(x y:Int):Int:=k.wrap (x*2 ^ (min y.toNat k.bits))
def bz(k:IntKind)(x y:Int):Int:=x.fdiv (2 ^ (min y.toNat k.bits))
def Yl:IntKind->Nat
 | .i8=>0| .i16=>1| .i32=>2| .i64=>3| .u8=>4| .u16=>5| .u32=>6| .u64=>7
def rK(k k':IntKind):Bool:=Yl k==Yl k'
theorem iU{k k':IntKind}(h:rK k k'=true):k=k':=by
 cases k<;>cases k'<;>first|rfl|(simp[rK,Yl]at h)
def Iz(op:BinOp)(x y:AV)(K:AV->Prop):Prop:=
 match x,y with
 | .int k a,.int k' b=>
   match op with
   | .shl=>(0<=b)/\K (.int k (jY k a b))
   | .shr=>(0<=b)/\K (.int k (bz k a b))
   | .add=>ei (rK k k') (K (.int k (wr k (a+b))))
   | .sub=>ei (rK k k') (K (.int k (wr k (a - b))))
   | .mul=>ei (rK k k') (K (.int k (wr k (a*b))))
   | .quo=>(b≠0)/\ei (rK k k') (K (.int k (wr k (a.tdiv b))))
   | .rem=>(b≠0)/\ei (rK k k') (K (.int k (a.tmod b)))
   | .and=>ei (rK k k') (K (.int k (cZ .and k a b)))
   | .or=>ei (rK k k') (K (.int k (cZ .or k a b)))
   | .xor=>ei (rK k k') (K (.int k (cZ .xor k a b)))
   | .andNot=>ei (rK k k') (K (.int k (cZ .andNot k a b)))
   | .eql=>ei (rK k k') (K (.bool (a==b)))
   | .neq=>ei (rK k k') (K (.bool (a != b)))
   | .lss=>ei (rK k k') (K (.bool (decide (a<b))))
   | .leq=>ei (rK k k') (K (.bool (decide (a<=b))))
   | .gtr=>ei (rK k k') (K (.bool (decide (a>b))))
   | .geq=>ei (rK k k') (K (.bool (decide (a>= b))))
 |_,_=>False
def Q5(op:UnOp)(x:AV)(K:AV->Prop):Prop:=
 match op,x with
 | .neg,.int k n=>K (.int k (wr k (0 - n)))
 | .xor,.int k n=>K (.int k (cZ .xor k (if k.signed then -1 else k.max) n))
 | .not,.bool b=>K (.bool !b)
 |_,_=>False
def Q6(D:TD)(x:AV)(K:AV->Prop):Prop:=
 match D,x with
 | .int k,.int _ n=>K (.int k (wr k n))
 | .str,.str s=>K (.str s)
 |_,_=>False
def bG(off:Nat)(vs cs:List AV):List AV:=cs.take off++(vs++cs.drop (off+vs.length))
def oD(size:Nat->Nat):List (Nat × Nat)->List (Nat × AV)->List AV->(List AV->Prop)->Prop
 |_,[],cs,K=>K cs
 |fs,(i,v)::r,cs,K=>
  match fs[i]? with
  |some (off,t)=>ei (bH v&& !((cells v).length==0)&&(cells v).length==size t&&(((cs.drop off).take (cells v).length).length==(cells v).length)) (oD size fs r (bG off (cells v) cs) K)
  |none=>False
def oE(sz:Nat):List (Nat × AV)->List AV->(List AV->Prop)->Prop
 |[],cs,K=>K cs
 |(i,v)::r,cs,K=>ei (bH v&& !((cells v).length==0)&&(cells v).length==sz&&(((cs.drop (i*sz)).take (cells v).length).length==(cells v).length)) (oE sz r (bG (i*sz) (cells v) cs) K)
def lm(sz:Nat):List (Nat × AV)->List (List AV)->(List (List AV)->Prop)->Prop
 |[],es,K=>K es
 |(i,v)::r,es,K=>ei (bH v&&(cells v).length==sz&&((es.drop i).take 1).length==1) (lm sz r (es.set i (cells v)) K)
def pJ(F:aT):List (Nat × Operand)->List (Nat × AV)
 |[]=>[]
 |(i,o)::r=>(i,ev F o)::pJ F r
def E3(d:Nat->TD):List (Nat × Nat)->Bool
 |[]=>true
 |(_,t)::r=>(d t).ok&&E3 d r
def Aa(T:TT)(t:Nat)(ps:List (Nat × AV))(K:AV->Prop):Prop:=
 match T.d t with
 | .struct fs=>ei (E3 T.d fs&&bH (T.z t)&&(cells (T.z t)).length==T.s t) (oD T.s fs ps (cells (T.z t)) (Q3 K))
 | .arr _ e=>ei ((T.d e).ok&&bH (T.z t)&&(cells (T.z t)).length==T.s t) (oE (T.s e) ps (cells (T.z t)) (Q3 K))
 |_=>False
def Ab(T:TT)(t:Nat)(x ix:AV)(M:Mem)(K:AV->Prop):Prop:=
 match ix with
 | .int _ i=>
   match T.d t with
   | .slice e=>
     (match x with
     | .aG sz es=>ei (sz==T.s e) ((0<=i/\i<es.length)/\K (.bc (es.getD i.toNat []) 0))
     | .bh n len=>alive M n len fun b=>ei (b.sz==T.s e) ((0<=i/\i<len)/\K (.loc n len i.toNat 0))
     | .dm n len j off cnt=>alive M n len fun _=>(0<=i/\i<cnt)/\K (.loc n len j (off+i.toNat*T.s e))
     |_=>False)
   | .arr m e=>
     (match x with
     | .loc n len j off=>alive M n len fun _=>(0<=i/\i< (m:Int))/\K (.loc n len j (off+i.toNat*T.s e))
     | .bc c off=>(0<=i/\i< (m:Int))/\K (.bc c (off+i.toNat*T.s e))
     |_=>False)
   |_=>False
 |_=>False
def nH(T:TT)(t:Nat)(a:AV)(M:Mem)(K:AV->Prop):Prop:=
 match a with
 | .loc n len i off=>alive M n len fun b=>apart (T.d t).ag (T.s t) off (b.es.getD i []) K
 | .bc e off=>apart (T.d t).ag (T.s t) off e K
 |_=>False
def Ad(T:TT)(t:Nat)(a v:AV)(M:Mem)(K:Mem->Prop):Prop:=
 match a with
 | .loc n len i off=>alive M n len fun b=>
     ei (bH v&&(cells v).length==T.s t&& !(T.s t==0)&&((((b.es.getD i []).drop off).take (cells v).length).length==(cells v).length))
      (K (gA M n ⟨b.ty,b.sz,b.es.set i (bG off (cells v) (b.es.getD i [])),none⟩))
 |_=>False
def lB:Nat:=1073741824
def pK(sz:Nat):Nat->List AV->List (List AV)
 |0,_=>[]
 |n+1,r=>r.take sz::pK sz n (r.drop sz)
def nU(M:Mem)(sz:Nat)(x:AV)(K:List (List AV)->Prop):Prop:=
 match x with
 | .aG s es=>ei (s==sz) (K es)
 | .ab=>K []
 | .bh n len=>alive M n len fun b=>ei (b.sz==sz) (K b.es)
 | .dm n len i off cnt=>alive M n len fun b=>ei (Nat.blt i b.es.length&&Nat.ble (off+cnt*sz) b.sz&& !(sz==0)) (K (pK sz cnt ((b.es.getD i []).drop off)))
 | .str s=>ei (sz==1) (K (s.map fun c=>[.int .u8 c.toNat]))
 |_=>False
def rL(T:TT)(t:Nat)(s x:AV)(S:St)(K:AV->Mem->Nat->Prop):Prop:=
 match T.d t with
 | .slice e=>
   (match s with
   | .bh n len=>alive S.M n len fun b=>ei (b.sz==T.s e&&b.ty==e) (nU S.M (T.s e) x fun xs=>
       (len+xs.length<=lB)/\K (.bh n (len+xs.length)) (gA S.M n ⟨b.ty,b.sz,b.es++xs,none⟩) S.nx)
   | .ab=>nU S.M (T.s e) x fun xs=>(xs.length<=lB)/\K (.bh S.nx xs.length) (gA S.M S.nx ⟨e,T.s e,xs,none⟩) (S.nx+1)
   |_=>False)
 |_=>False
def sm(k:IntKind)(a:Int):List AV->AV
 |[]=> .int k a
 | .int _ b::r=>sm k (min a b) r
 |_=> .bad
def so(k:IntKind)(a:Int):List AV->AV
 |[]=> .int k a
 | .int _ b::r=>so k (max a b) r
 |_=> .bad
def xE:List AV->AV
 | .int k a::r=>sm k a r
 |_=> .bad
def xF:List AV->AV
 | .int k a::r=>so k a r
 |_=> .bad
mutual
def AV.names:AV->List Nat
 | .loc n _ _ _=>[n]
 | .bh n _=>[n]
 | .dm n _ _ _ _=>[n]
 | .omap n=>[n]
 | .bK _ cs=>AV.ar cs
 | .agg cs=>AV.ar cs
 | .aF cs=>AV.ar cs
 |_=>[]
def AV.ar:List AV->List Nat
 |[]=>[]
 |c::cs=>AV.names c++AV.ar cs
end
def cV(M:bf):List (Nat × be)->bf
 |[]=>M
 |(n,b)::r=>cV (cX M n b) r
def bX(M:Mem):List (Nat × be)->Mem
 |[]=>M
 |(n,b)::r=>bX (gA M n b) r
def fQ(N:Nat->Prop)(ws:List (Nat × be)):Nat->Prop:=fun m=>N m\/∃b,(m,b) ∈ ws
def gC(X:bL)(M:bf)(N:Nat->Prop)(ρ:Place)(I:Nat->Prop)(w:World)(av:AV)(ws:List (Nat × be))(v:Value)(w1:World):Prop:=
 ∃ρ1 I1,mM N ρ (lens M) I w ρ1 (lens (cV M ws)) I1 w1/\bY X ρ1 I1 (cV M ws) (fQ N ws) w1/\aL ρ1 (lens (cV M ws)) I1 w1 (fQ N ws) av v
def dp(ρ:Place)(L:aY)(I:Nat->Prop)(w:World)(N:Nat->Prop)(as:List AV)(vs:List Value):Prop:=
 vs.length=as.length/\∀j,j<as.length->aL ρ L I w N (as.getD j .bad) (vs.getD j default)
def qn(P:Program)(X:bL)(f:Nat)(args:List AV)(M:bf)(av:AV)(ws:List (Nat × be))(nw:List Nat):Prop:=
 (∀p ∈ ws,p.1 ∈ nw\/ p.1 ∈ AV.ar args)/\
 ∀M' N ρ I w vs,bY X ρ I M' N w->(∀n ∈ AV.ar args,M' n=M n)->(∀n ∈ nw,¬N n)->dp ρ (lens M') I w N args vs->
  Calls P f vs.toArray w fun e w1=>∃v,e= .returned v/\gC X M' N ρ I w av ws v w1
def K8(P:Program)(X:bL)(f:Nat)(args:List AV)(Rx:List Nat)(M:bf)(av:AV)(ws:List (Nat × be))(nw:List Nat):Prop:=
 (∀p ∈ ws,p.1 ∈ nw\/(p.1 ∈ Rx/\M p.1≠none))/\
 ∀M' N ρ I w vs,bY X ρ I M' N w->(∀n ∈ Rx,M' n=M n)->(∀n ∈ nw,¬N n)->dp ρ (lens M') I w N args vs->
  Calls P f vs.toArray w fun e w1=>∃v,e= .returned v/\gC X M' N ρ I w av ws v w1
def pL(T:TT)(t:Nat)(x:AV)(lo hi mx:Option AV)(M:Mem)(K:AV->Prop):Prop:=
 match T.d t with
 | .slice e=>ei ((T.d e).ok) (match x with
   | .aG sz es=>ei (sz==T.s e) (match lo,hi,mx with
     |none,some (.int _ h),none=>(0<=h/\h<=es.length)/\K (.aG sz (es.take h.toNat))
     |some (.int _ l),none,none=>(0<=l/\l<=es.length)/\K (.aG sz (es.drop l.toNat))
     |some (.int _ l),some (.int _ h),none=>(0<=l/\l<=h/\h<=es.length)/\K (.aG sz ((es.take h.toNat).drop l.toNat))
     |none,some (.int _ h),some (.int _ m)=>(0<=h/\h<=m/\m<=es.length)/\K (.aG sz (es.take h.toNat))
     |_,_,_=>False)
   |_=>False)
 | .str=>(match x with
   | .str s=>(match lo,hi,mx with
     |none,some (.int _ h),none=>(0<=h/\h<=s.length)/\K (.str (s.take h.toNat))
     |some (.int _ l),none,none=>(0<=l/\l<=s.length)/\K (.str (s.drop l.toNat))
     |some (.int _ l),some (.int _ h),none=>(0<=l/\l<=h/\h<=s.length)/\K (.str ((s.take h.toNat).drop l.toNat))
     |_,_,_=>False)
   |_=>False)
 |_=>False
def pM(F:aT):Option Operand->Option AV
 |none=>none
 |some o=>some (ev F o)
def cP(F:aT):Op->List Nat
 | .store _ a _=>(ev F a).names
 | .mapUpdate _ m _ _=>(ev F m).names
 | .insert _ m _ _=>(ev F m).names
 | .mapEntry _ m _=>(ev F m).names
 | .entryStore _ m _ _=>(ev F m).names
 | .call c=>(match c.callee,c.args.toList with
   | .builtin .delete,s::_=>(ev F s).names
   | .builtin .append,s::_=>(ev F s).names
   | .builtin .copy,s::_=>(ev F s).names
   | .value f,as=>(match ev F f with
     | .bK _ aP=>AV.ar (oC F as++aP)
     |_=>[])
   |_,_=>[])
 |_=>[]
def K9:List (Nat × Nat)->Nat->Option Nat
 |[],_=>none
 |(i,s)::r,j=>bif j==i then some s else K9 r j
def qo:List AV->List AV->Bool
 |[],_=>true
 | .int _ x::r,.int _ y::s=>(x==y)&&qo r s
 | .bool x::r,.bool y::s=>(x==y)&&qo r s
 | .str x::r,.str y::s=>(x==y)&&qo r s
 |_,_=>false
def cC(kc:List AV):List (List AV)->Option (Nat × List AV)
 |[]=>none
 |e::r=>if qo kc e then some (0,e.drop kc.length)else (cC kc r).map fun q=>(q.1+1,q.2)
def jV:List AV->Bool
 |[]=>true
 | .int .i64 _::r=>jV r
 |_::_=>false
def IA(q:Option (Nat × List AV)):AV:=match q with
 |some q=>q.2.headD .bad
 |none=> .int .i64 0
def Vw(x:Option be):Option (Nat × Option (Nat × Bool × Bool × Dn) × (List AV->AV) × Prop):=x.map fun b=>(b.sz,b.mp,(fun kc=>if kc.length+1=b.sz then IA (cC kc b.es)else .bad),∀r ∈ b.es,jV r=true)
def qp(acc:List Nat):List Edge->Nat
 |[]=>0
 |e::r=>bif Region.binds .any e then (2 ^ e.on||| acc.getD e.on 0)||| qp acc r else qp acc r
def dA:List Oper->List Nat->List Nat
 |[],acc=>acc
 |o::r,acc=>dA r (acc++ [qp acc o.after.toList])
def sq:Nat->List Oper->Bool
 |_,[]=>true
 |i,o::r=>o.after.toList.all (fun e=> !Region.binds .any e||Nat.blt e.on i)&&sq (i+1) r
def BR(ops:Array Oper)(ms:List Nat):Bool:=
 (List.range ops.size).all fun j=>(List.range j).all fun i=>(ms.getD j 0).testBit i||(match ops[i]?,ops[j]? with
   |some x,some y=>x.apart ops y
   |_,_=>true)
def pN(ops:Array Oper):Bool:=sq 0 ops.toList&&BR ops (dA ops.toList [])
structure fY where
 i:Nat
 R:List Nat
 W:List Nat
 lo:Nat
 hi:Nat
 k:Nat
def L5(lo hi:Nat)(R W:List Nat):Bool:=R.all fun n=> !(Nat.ble lo n&&Nat.blt n hi)&& !W.any (Nat.beq n)
def Ae(ms:List Nat)(x y:fY):Bool:=
 (ms.getD x.i 0).testBit y.i||(ms.getD y.i 0).testBit x.i||(L5 x.lo x.hi y.R x.W&&L5 y.lo y.hi x.R y.W)
def lJ(log:List fY)(x:fY):Bool:=Nat.beq x.k 1&&log.all fun y=>x.R.all fun n=>Nat.blt n y.lo&&(Nat.beq y.k 2|| !y.W.any (Nat.beq n))
def CB(x y:fY):Bool:=Nat.beq x.k 3&&Nat.beq y.k 4
def wz(ops:Array Oper)(log:List fY):Bool:=log.all fun x=>log.all fun y=>Nat.beq x.i y.i||Ae (dA ops.toList []) x y||lJ log x||lJ log y||CB x y||CB y x
def nI:List Operand->List Nat
 |[]=>[]
 | .tmp t::r=>t::nI r
 |_::r=>nI r
def IB(F:aT):List Nat->List Nat
 |[]=>[]
 |s::r=>(look F s).names++IB F r
def E4(i:Nat)(R W:List Nat)(lo hi k:Nat)(log:List fY):List fY:=bif (R.isEmpty&&W.isEmpty)&&lo==hi then log else ⟨i,R,W,lo,hi,k⟩::log
def iV(p:Option (Nat × List Nat × List Nat × Nat × Nat))(hi:Nat)(log:List fY):List fY:=match p with
 |some (i,R,W,lo,k)=>E4 i R W lo hi k log
 |none=>log
def La(id:Nat):List It->Option (List It)
 | .aR id'::k=>bif id'==id then some k else La id k
 |_::k=>La id k
 |[]=>none
def lK(I:Nat->Prop)(w:World)(X:bL)(ds:List Deferred):Prop:=
 ∃Ds:List Nat,ds=Ds.map (fun D=> {target:= .collected D,args:= #[]})/\Ds.Nodup/\∀D ∈ Ds,X.w0.heap.size<=D/\I D/\w.heap[D]? =some (.deferred (some []))
theorem lK.nil{I:Nat->Prop}{w:World}{X:bL}:lK I w X []:=⟨[],rfl,List.nodup_nil,fun D h=>by simp at h⟩
theorem lK.mono{I I':Nat->Prop}{w:World}{X:bL}{ds:List Deferred}(h:lK I w X ds)(hI:∀g,I g->I' g):lK I' w X ds:=by
 obtain⟨Ds,h1,h2,h3⟩:=h
 exact⟨Ds,h1,h2,fun D hD=>⟨(h3 D hD).1,hI D (h3 D hD).2.1,(h3 D hD).2.2⟩⟩
theorem lK.rJ{N:Nat->Prop}{ρ ρ':Place}{L L':aY}{I I':Nat->Prop}{w w':World}{X:bL}{ds:List Deferred}(h:lK I w X ds)(E:mM N ρ L I w ρ' L' I' w'):lK I' w' X ds:=by
 obtain⟨Ds,h1,h2,h3⟩:=h
 exact⟨Ds,h1,h2,fun D hD=>⟨(h3 D hD).1,E.oz D (h3 D hD).2.1,(E.cell D (h3 D hD).2.1).trans (h3 D hD).2.2⟩⟩
structure jv(ρ:Place)(I:Nat->Prop)(w:World)(X:bL)(S:St)(a:Act):Prop where
 rep:∀i,aL ρ (lens (aa S.M)) I w (· <S.nx) (look S.F i) (a.tmps.getD i undef)
 defers:lK I w X a.defers
 size:a.tmps.size=X.size
def hQ(X:bL)(S:St)(a:Act)(w:World):Prop:=∃ρ I,bY X ρ I (aa S.M) (· <S.nx) w/\jv ρ I w X S a
def BS(nr:Bool)(todo:List Item):Prop:=todo=[]\/(nr=false/\∃k,todo= .code .ret::k)
def iF(P:Program)(X:bL)(b:Frame)(R:St->Prop)(ks:List It)(a:Act)(w:World):Prop:=
 ∀cs,∃a' w' S',hQ X S' a' w'/\
  ((∃todo,BS b.roundOf.isSome todo/\Steps P (lone (b.atR a (ks.map It.item)) cs w) (lone (b.atR a' todo) cs w')/\R S')\/
   (∃c post k',(It.ir c post::k') <:+ ks/\Steps P (lone (b.atR a (ks.map It.item)) cs w) (lone (b.atR a' ((It.ir c post::k').map It.item)) cs w')/\post S'))
def CC(size:Nat)(o:Oper):Bool:=match o.dst with|some d=>d<size|none=>true
def codeOk(size:Nat)(nr:Bool):Code->Bool
 | .ret=> !nr
 | .rangeFunc _ ps a c=> !nr&&codeOk size true a&&codeOk size true c&&ps.toList.all fun p=>Nat.blt p size
 | .region _ ops _=>ops.toList.all (CC size)
 | .seq a b=>codeOk size nr a&&codeOk size nr b
 | .cond _ a b=>codeOk size nr a&&codeOk size nr b
 | .block _ c=>codeOk size nr c
 | .loop c=>codeOk size nr c
 | .scope c=>codeOk size nr c
 |_=>true
def CD(size:Nat)(nr:Bool):It->Prop
 | .code c=>codeOk size nr c=true
 | .inl c=>codeOk size nr c=true
 | .ir _ _=>True
 | .aR _=>True
 | .mP _=>True
 | .ops all i rest gd=>rest=all.toList.drop i/\rest.all (CC size)=true/\∀j s,K9 gd j=some s->(all[j]?).bind (·.dst)=some s
def Q7(P:Program)(X:bL)(b:Frame)(R:St->Prop)(c:Code)(ks:List It)(S:St):Prop:=
 codeOk X.size b.roundOf.isSome c=true->(∀x ∈ ks,CD X.size b.roundOf.isSome x)->∀a w,hQ X S a w->iF P X b R (.code c:: .inl c::ks) a w
end Go.AM
namespace Go.AM
open Go.RowKit
theorem uy(M:Mem)(n:Nat)(b:be):aa (gA M n b)=cX (aa M) n b:=by
 funext m; rw[mN]; rfl
theorem gD(ws:List (Nat × be)):∀M:Mem,aa (bX M ws)=cV (aa M) ws:=by
 induction ws with
 |nil=>intro M; rfl
 |cons p r ih=>intro M; simp only[bX,cV,ih,uy]
def dq(o:Op):List Nat:=nI o.operands.toList
def bI(P:Program)(X:bL)(o:Oper)(a:Act)(M:bf)(N:Nat->Prop)(ρ:Place)(I:Nat->Prop)(w:World)(av:AV)(ws:List (Nat × be)):Prop:=
 match (execOp a.eval o).run P w with
 | .ok (.value v) w1=>gC X M N ρ I w av ws v w1
 | .ok .skip w1=>gC X M N ρ I w av ws undef w1
 | .ok (.enter f args) w1=>w1=w/\Calls P f args w fun e w2=>∃v,e= .returned v/\gC X M N ρ I w av ws v w2
 |_=>False
def bC(P:Program)(X:bL)(o:Oper)(F:aT)(M:bf)(av:AV)(ws:List (Nat × be))(nw:List Nat):Prop:=
 (∀p ∈ ws,p.1 ∈ nw\/∃s ∈ dq o.op,p.1 ∈ (look F s).names)/\
 ∀M' N ρ I a w,bY X ρ I M' N w->(∀s ∈ dq o.op,aL ρ (lens M') I w N (look F s) (a.tmps.getD s undef))->
  (∀s ∈ dq o.op,∀n ∈ (look F s).names,M' n=M n)->(∀n ∈ nw,¬N n)->bI P X o a M' N ρ I w av ws
def nJ(P:Program)(X:bL)(o:Oper)(F:aT)(M:bf)(av:AV):Prop:=
 ∀M' N ρ I a w,bY X ρ I M' N w->(∀s ∈ dq o.op,aL ρ (lens M') I w N (look F s) (a.tmps.getD s undef))->
  (∀s ∈ dq o.op,∀n ∈ (look F s).names,lens M' n=lens M n)->bI P X o a M' N ρ I w av []
theorem nJ.pO{P:Program}{X:bL}{o:Oper}{F:aT}{M:bf}{av:AV}(h:nJ P X o F M av):bC P X o F M av [] []:=
 ⟨fun p hp=>by simp at hp,fun M' N ρ I a w W hr hM _=>h M' N ρ I a w W hr (fun s hs n hn=>by unfold lens; rw[hM s hs n hn])⟩
def oF(P:Program)(X:bL)(o:Oper)(F:aT)(M:bf)(av:AV):Prop:=
 ∀M' N ρ I a w,bY X ρ I M' N w->(∀s ∈ dq o.op,aL ρ (lens M') I w N (look F s) (a.tmps.getD s undef))->
  (∀s ∈ dq o.op,∀n ∈ (look F s).names,Vw (M' n)=Vw (M n))->bI P X o a M' N ρ I w av []
def qq(P:Program)(X:bL)(o:Oper)(F:aT)(M:bf)(Rx:List Nat)(av:AV)(ws:List (Nat × be))(nw:List Nat):Prop:=
 (∀p ∈ ws,p.1 ∈ nw\/(∃s ∈ dq o.op,p.1 ∈ (look F s).names)\/(p.1 ∈ Rx/\M p.1≠none))/\((∀s ∈ dq o.op,∀n ∈ (look F s).names,n ∈ Rx)\/(ws=[]/\∀M' N ρ I a w,bY X ρ I M' N w->(∀s ∈ dq o.op,aL ρ (lens M') I w N (look F s) (a.tmps.getD s undef))->bI P X o a M' N ρ I w av []))/\
 ∀M' N ρ I a w,bY X ρ I M' N w->(∀s ∈ dq o.op,aL ρ (lens M') I w N (look F s) (a.tmps.getD s undef))->
  (∀n ∈ Rx,M' n=M n)->(∀n ∈ nw,¬N n)->bI P X o a M' N ρ I w av ws
theorem bC.more{P:Program}{X:bL}{o:Oper}{F:aT}{M:bf}{Rx:List Nat}{av:AV}{ws:List (Nat × be)}{nw:List Nat}(h:bC P X o F M av ws nw)(hR:∀s ∈ dq o.op,∀n ∈ (look F s).names,n ∈ Rx):qq P X o F M Rx av ws nw:=
 ⟨fun p hp=>(h.1 p hp).imp id .inl,.inl hR,fun M' N ρ I a w W hr hM hN=>h.2 M' N ρ I a w W hr (fun s hs n hn=>hM n (hR s hs n hn)) hN⟩
theorem pP(N:Nat->Prop):fQ N []=N:=by funext m; simp[fQ]
theorem gC.value{X:bL}{M:bf}{N:Nat->Prop}{ρ:Place}{I:Nat->Prop}{w:World}{av:AV}{v:Value}(h:bY X ρ I M N w)(r:aL ρ (lens M) I w N av v):gC X M N ρ I w av [] v w:=
 ⟨ρ,I,mM.refl _ _ _ _ _,by rw[pP]; exact h,by rw[pP]; exact r⟩
theorem iO{x:Nat}:∀{l:List Operand},Operand.tmp x ∈ l->x ∈ nI l
 | .tmp t::r,h=>by
   simp only[List.mem_cons]at h
   rcases h with h|h
   ·cases h; exact List.mem_cons_self
   ·exact List.mem_cons_of_mem _ (iO (l:=r) h)
 | .const v::r,h=>by simp only[List.mem_cons,reduceCtorEq,false_or]at h; exact iO (l:=r) h
 | .global g::r,h=>by simp only[List.mem_cons,reduceCtorEq,false_or]at h; exact iO (l:=r) h
 | .func f::r,h=>by simp only[List.mem_cons,reduceCtorEq,false_or]at h; exact iO (l:=r) h
theorem sr(ρ:Place)(L:aY)(I:Nat->Prop)(w:World)(N:Nat->Prop)(v:Value):aL ρ L I w N (ux v) v:=by
 unfold ux
 split
 ·exact .int _ _
 ·exact .bool _
 ·rename_i s; have:s=⟨s.data.toList.toArray⟩:=by cases s; simp
  conv=>rhs; rw[this]
  exact .str _
 ·exact .aw
 ·exact .ab
 ·exact .af
 ·exact .di
 ·exact .bP
 ·exact .bad _
theorem ga(ρ:Place)(L:aY)(I:Nat->Prop)(w:World)(N:Nat->Prop)(v:Value):aL ρ L I w N (K6 v) v:=by
 unfold K6
 split
 ·rename_i cs
  cases hall:cs.toList.all Value.oneCell'
  ·exact .bad _
  have:=aL.agg (ρ:=ρ) (L:=L) (I:=I) (w:=w) (N:=N) (cs.toList.map ux) cs.toList (by simp) (List.all_eq_true.1 hall) (fun j hj=>by
   have hj':j<cs.toList.length:=by simpa using hj
   simp only[List.getD_eq_getElem?_getD,List.getElem?_map,List.getElem?_eq_getElem hj',Option.map_some,Option.getD_some]
   exact sr _ _ _ _ _ _)
  simpa using this
 ·rename_i cs
  have:=aL.aF (ρ:=ρ) (L:=L) (I:=I) (w:=w) (N:=N) (cs.toList.map ux) cs.toList (by simp) (fun j hj=>by
   have hj':j<cs.toList.length:=by simpa using hj
   simp only[List.getD_eq_getElem?_getD,List.getElem?_map,List.getElem?_eq_getElem hj',Option.map_some,Option.getD_some]
   exact sr _ _ _ _ _ _)
  simpa using this
 ·exact sr _ _ _ _ _ _
theorem jI{ρ:Place}{L:aY}{I:Nat->Prop}{w:World}{N:Nat->Prop}{F:aT}{a:Act}(x:Operand)(h:∀s,x= .tmp s->aL ρ L I w N (look F s) (a.tmps.getD s undef)):aL ρ L I w N (ev F x) (a.eval x):=by
 cases x with
 |tmp t=>exact h t rfl
 |const v=>exact ga _ _ _ _ _ v
 |global g=>exact .bad _
 |func f=>exact .bK f [] [] rfl (fun j hj=>by simp at hj)
theorem ao{ρ:Place}{L:aY}{I:Nat->Prop}{w:World}{N:Nat->Prop}{F:aT}{a:Act}{o:Op}(h:∀s ∈ dq o,aL ρ L I w N (look F s) (a.tmps.getD s undef))(x:Operand)(hx:x ∈ o.operands.toList):aL ρ L I w N (ev F x) (a.eval x):=
 jI x fun s e=>h s (iO (e ▸ hx))
theorem su(v:Value):(ux v).names=[]:=by unfold ux; split<;>rfl
theorem iv:∀l:List Value,AV.ar (l.map ux)=[]
 |[]=>rfl
 |v::r=>by simp[AV.ar,su,iv r]
theorem CE(v:Value):(K6 v).names=[]:=by
 unfold K6
 split
 ·rename_i cs
  cases cs.toList.all Value.oneCell'
  ·rfl
  ·simp[AV.names,iv]
 ·simp[AV.names,iv]
 ·exact su _
theorem bg{F:aT}{o:Op}(x:Operand)(hx:x ∈ o.operands.toList){n:Nat}(hn:n ∈ (ev F x).names):∃s ∈ dq o,n ∈ (look F s).names:=by
 cases x with
 |tmp t=>exact⟨t,iO hx,hn⟩
 |const v=>simp[ev,CE]at hn
 |global g=>simp[ev,AV.names]at hn
 |func f=>simp[ev,AV.names,AV.ar]at hn
def TD.fits:TD->TypeDesc->Prop
 | .int k,.int k'=>k=k'
 | .bool,.bool=>True
 | .str,.string=>True
 | .ptr e,.pointer e'=>e=e'
 | .slice e,.slice e'=>e=e'
 | .arr n e,.array n' e'=>n=n'/\e=e'
 | .struct fs,.struct gs=>fs=gs.toList.map fun f=>(f.offset,f.type)
 | .func,.func .. =>True
 | .iface,.interface _=>True
 | .map k e,.map k' e'=>k=k'/\e=e'
 | .aF,.tuple _=>True
 |_,_=>False
def cN(P:Program)(T:TT):Prop:=∀t,T.d t≠ .other->∃D i z,P.underlying t=some D/\(T.d t).fits D/\P.info? t=some i/\i.size=T.s t/\i.bytes<=131072/\i.zero=some z/\T.z t=K6 z
theorem fD{v:Value}(h:v.oneCell'=true):v.cells= #[v]:=by
 cases v<;>simp_all[Value.oneCell',Value.cells]
theorem pQ{ρ:Place}{L:aY}{I:Nat->Prop}{w:World}{N:Nat->Prop}{a:AV}{v:Value}(h:aL ρ L I w N a v)(hs:bH a=true):
  v.cells.toList.length=(cells a).length/\(∀u ∈ v.cells.toList,u.oneCell'=true)/\∀j,j< (cells a).length->aL ρ L I w N ((cells a).getD j .bad) (v.cells.toList.getD j default):=by
 have one:∀a v,aL ρ L I w N a v->v.oneCell'=true->cells a=[a]->v.cells.toList.length=(cells a).length/\(∀u ∈ v.cells.toList,u.oneCell'=true)/\∀j,j< (cells a).length->aL ρ L I w N ((cells a).getD j .bad) (v.cells.toList.getD j default):=by
  intro a v hr h1 hc
  rw[fD h1,hc]
  refine⟨rfl,by simpa using h1,fun j hj=> ?_⟩
  have:j=0:=by simp at hj; omega
  subst this
  simpa using hr
 have h':=h
 cases h with
 |agg cs vs hl h1 hr=>exact⟨by simpa[Value.cells,cells]using hl,by simpa[Value.cells]using h1,by simpa[Value.cells,cells]using hr⟩
 |bad=>simp[bH]at hs
 |aF=>simp[bH]at hs
 |loc n len i off _ hn h1 h=>exact one _ _ h' h1 rfl
 |bh n len _ hn h1 h=>exact one _ _ h' h1 rfl
 |dm n len i off cnt _ hn h1 h=>exact one _ _ h' h1 rfl
 |omap n _ hn h1 h=>exact one _ _ h' h1 rfl
 |_=>exact one _ _ h' rfl rfl
theorem nK{P:Program}{w:World}{t:TypeId}{i:TypeInfo}(h:P.info? t=some i):(typeInfo t).run P w= .ok i w:=by simp[typeInfo,h]
theorem bt{P:Program}{w:World}{t:TypeId}{i:TypeInfo}(h:P.info? t=some i):(sizeOf t).run P w= .ok i.size w:=by simp[sizeOf,nK h]
theorem gb{P:Program}{w:World}{t:TypeId}{i:TypeInfo}{z:Value}(h:P.info? t=some i)(hz:i.zero=some z):(zeroValue t).run P w= .ok z w:=by simp[zeroValue,nK h,hz]
theorem nV{P:Program}{w:World}{t:TypeId}{D:TypeDesc}{d:TD}(h:P.underlying t=some D)(hf:d.fits D):(isAgg t).run P w= .ok d.ag w:=by
 unfold isAgg
 simp only[Sem.run_bind,run_underlying h,Result.andThen_ok]
 cases d<;>cases D<;>simp_all[TD.fits,TD.ag]
end Go.AM
namespace Go.AM
open Go.RowKit
variable {P:Program} {T:TT} {X:bL} {o:Oper} {F:aT} {M:bf}
theorem aB{av:AV}(h:∀M' N ρ I (a:Act) w,bY X ρ I M' N w->(∀s ∈ dq o.op,aL ρ (lens M') I w N (look F s) (a.tmps.getD s undef))->(∀s ∈ dq o.op,∀n ∈ (look F s).names,M' n=M n)->
  ∃v,(execOp a.eval o).run P w= .ok (.value v) w/\aL ρ (lens M') I w N av v):bC P X o F M av [] []:=by
 refine⟨fun p hp=>by simp at hp,fun M' N ρ I a w hW hU hN _=> ?_⟩
 obtain⟨v,hv,hr⟩:=h M' N ρ I a w hW hU hN
 unfold bI
 rw[hv]
 exact gC.value hW hr
theorem fR{av:AV}(h:∀M' N ρ I (a:Act) w,bY X ρ I M' N w->(∀s ∈ dq o.op,aL ρ (lens M') I w N (look F s) (a.tmps.getD s undef))->(∀s ∈ dq o.op,∀n ∈ (look F s).names,lens M' n=lens M n)->
  ∃v,(execOp a.eval o).run P w= .ok (.value v) w/\aL ρ (lens M') I w N av v):nJ P X o F M av:=by
 refine fun M' N ρ I a w hW hU hN=> ?_
 obtain⟨v,hv,hr⟩:=h M' N ρ I a w hW hU hN
 unfold bI
 rw[hv]
 exact gC.value hW hr
theorem u3{x:Operand}(ho:o.op= .move x\/ o.op= .assign x):bC P X o F M (ev F x) [] []:=by
 refine aB fun M' N ρ I a w hW hU hN=>⟨a.eval x,?_,ao hU x ?_⟩
 ·rcases ho with ho|ho<;>simp[execOp,ho]
 ·rcases ho with ho|ho<;>simp[ho,Op.operands]
theorem Ag{x:Operand}(ho:o.op= .move x\/ o.op= .assign x):qq P X o F M [] (ev F x) [] []:=by
 have free:∀M' N ρ I a w,bY X ρ I M' N w->(∀s ∈ dq o.op,aL ρ (lens M') I w N (look F s) (a.tmps.getD s undef))->bI P X o a M' N ρ I w (ev F x) []:=by
  intro M' N ρ I a w hW hU
  have e:(execOp a.eval o).run P w= .ok (.value (a.eval x)) w:=by rcases ho with ho|ho<;>simp[execOp,ho]
  unfold bI
  rw[e]
  exact gC.value hW (ao hU x (by rcases ho with ho|ho<;>simp[ho,Op.operands]))
 exact⟨fun p hp=>by simp at hp,.inr ⟨rfl,free⟩,fun M' N ρ I a w hW hU _ _=>free M' N ρ I a w hW hU⟩
theorem CF{c x y:Operand}{t:Bool}(ho:o.op= .pick c x y)(hc:ev F c= .bool t):bC P X o F M (ev F (if t then x else y)) [] []:=by
 refine aB fun M' N ρ I a w hW hU hN=>⟨a.eval (if t then x else y),?_,ao hU _ ?_⟩
 ·have hr:=ao hU c (by simp[ho,Op.operands])
  rw[hc]at hr
  generalize WZ:a.eval c=cv at hr
  cases hr
  cases t<;>simp[execOp,ho,WZ,asBool]
 ·cases t<;>simp[ho,Op.operands]
theorem jw{M':bf}{n:Nat}{b:be}(hm:M n=some b)(h:lens M' n=lens M n):lens M' n=some (b.ln,b.sz):=by
 rw[h,az]; exact⟨b,hm,rfl,rfl⟩
theorem fI{ρ:Place}{L:aY}{I:Nat->Prop}{w:World}{N:Nat->Prop}{n len i off sz:Nat}{v:Value}(h:aL ρ L I w N (.loc n len i off) v)(hl:L n=some (len,sz)):
  N n/\∃g cap,ρ n=some (g,cap)/\v= .pointer (some ⟨g,i*sz+off,none⟩):=by
 cases h with
 |loc _ _ _ _ _ hn h1 h=>exact⟨hn,(h len sz hl).2 rfl⟩
theorem gG{ρ:Place}{L:aY}{I:Nat->Prop}{w:World}{N:Nat->Prop}{n len i off sz g cap:Nat}(hn:N n)(hl:L n=some (len,sz))(hρ:ρ n=some (g,cap)):
  aL ρ L I w N (.loc n len i off) (.pointer (some ⟨g,i*sz+off,none⟩)):=
 .loc n len i off _ hn rfl fun l Ah h=>by
   rw[hl]at h
   simp only[Option.some.injEq,Prod.mk.injEq]at h
   obtain⟨rfl,rfl⟩:=h
   exact⟨Nat.le_refl _,fun _=>⟨g,cap,hρ,rfl⟩⟩
theorem bQ(g o n:Nat):(⟨g,o,none⟩:Addr).add n=⟨g,o+n,none⟩:=by
 unfold Addr.add; split<;>simp_all
theorem lL{s f:Nat}{x:Operand}{av:AV}{fs:List (Nat × Nat)}{off ft:Nat}(hT:cN P T)(ho:o.op= .fieldAddr s x f)(hs:T.d s= .struct fs)(hf:fs[f]? =some (off,ft))(hz:(T.s ft==0)=false)(hft:T.d ft≠ .other)
  (h:(∃n len i o' b,ev F x= .loc n len i o'/\M n=some b/\b.ln=len/\av= .loc n len i (o'+off))\/(∃e o',ev F x= .bc e o'/\av= .bc e (o'+off))):nJ P X o F M av:=by
 refine fR fun M' N ρ I a w hW hU hN=> ?_
 have hx:x ∈ o.op.operands.toList:=by simp[ho,Op.operands]
 have hr:=ao hU x hx
 obtain⟨D,i,z,hD,hfit,hi,hsz,_,_⟩:=hT s (by rw[hs]; simp)
 rw[hs]at hfit
 cases D<;>simp only[TD.fits]at hfit
 rename_i gs
 obtain⟨_,it,_,_,_,hit,wA,_,_⟩:=hT ft hft
 have hg:∃L6,gs[f]? =some L6/\L6.offset=off/\L6.type=ft:=by
  rw[hfit,List.getElem?_map]at hf
  cases Ym:gs.toList[f]? with
  |none=>simp[Ym]at hf
  |some L6=>
   simp only[Ym,Option.map_some,Option.some.injEq,Prod.mk.injEq]at hf
   exact⟨L6,by simpa using Ym,hf.1,hf.2⟩
 obtain⟨L6,Yn,rfl,rfl⟩:=hg
 have hne:it.size≠0:=by rw[wA]; simpa using hz
 have run:∀g q,a.eval x= .pointer (some ⟨g,q,none⟩)->(execOp a.eval o).run P w= .ok (.value (.pointer (some ⟨g,q+L6.offset,none⟩))) w:=by
  intro g q hq
  simp only[execOp,ho,Instr.fieldAt,Sem.run_bind,run_underlying hD,Result.andThen_ok,Yn,hq,Instr.sureAddr,Sem.run_pure,fieldPlace,bt hit,if_neg hne,bQ]
 rcases h with⟨n,len,i',o',b,he,hb,hl,rfl⟩|⟨e,o',he,rfl⟩
 ·rw[he]at hr
  obtain⟨sl,dJ,fi⟩:=bg (F:=F) x hx (n:=n) (by rw[he]; simp[AV.names])
  have dr:=jw hb (hN sl dJ n fi)
  rw[hl]at dr
  obtain⟨hn,g,cap,hρ,hv⟩:=fI hr dr
  refine⟨_,run g _ hv,?_⟩
  rw[Nat.add_assoc]
  exact gG hn dr hρ
 ·rw[he]at hr
  generalize pF:a.eval x=v at hr
  cases hr with
  |bc _ _ b' o'' c hI h1 hcell hr=>
   refine⟨_,run b' _ pF,?_⟩
   rw[Nat.add_assoc]
   exact .bc e _ b' o'' c hI h1 hcell hr
theorem sv{s f:Nat}{x:Operand}{av:AV}{fs:List (Nat × Nat)}{off ft:Nat}(hT:cN P T)(ho:o.op= .fieldAddr s x f)(hs:T.d s= .struct fs)(hf:fs[f]? =some (off,ft))(hz:(T.s ft==0)=false)(hft:T.d ft≠ .other)
 (h:(∃n len i o' b,ev F x= .loc n len i o'/\M n=some b/\b.ln=len/\av= .loc n len i (o'+off))\/(∃e o',ev F x= .bc e o'/\av= .bc e (o'+off))):bC P X o F M av [] []:=(lL hT ho hs hf hz hft h).pO
theorem run_indexAt_slice{t e:TypeId}{it:TypeInfo}{w:World}(hD:P.underlying t=some (.slice e))(hi:P.info? e=some it)(g q len cap:Nat)(k:IntKind)(i:Int)(h:0<=i/\i< (len:Int)):
  (Instr.indexAt t (.slice (some ⟨g,q,none⟩) len cap) (.int k i)).run P w= .ok (.pointer (some ⟨g,q+i.toNat*it.size,none⟩)) w:=by
 simp only[Instr.indexAt,asIntOf,Sem.run_bind,Sem.run_pure,Result.andThen_ok,run_underlying hD,if_pos h,bt hi,bQ]
theorem lq{t e n:Nat}{it:TypeInfo}{w:World}(hD:P.underlying t=some (.array n e))(hi:P.info? e=some it)(g q:Nat)(k:IntKind)(i:Int)(h:0<=i/\i< (n:Int)):
  (Instr.indexAt t (.pointer (some ⟨g,q,none⟩)) (.int k i)).run P w= .ok (.pointer (some ⟨g,q+i.toNat*it.size,none⟩)) w:=by
 simp only[Instr.indexAt,asIntOf,Sem.run_bind,Sem.run_pure,Result.andThen_ok,run_underlying hD,if_pos h,bt hi,bQ,Instr.sureAddr]
theorem bu{d:TD}{D:TypeDesc}{e:Nat}(hd:d= .slice e)(h:d.fits D):D= .slice e:=by
 subst hd; cases D<;>simp_all[TD.fits]
theorem dX{d:TD}{D:TypeDesc}{n e:Nat}(hd:d= .arr n e)(h:d.fits D):D= .array n e:=by
 subst hd; cases D<;>simp_all[TD.fits]
theorem jx{d:TD}{D:TypeDesc}{fs:List (Nat × Nat)}(hd:d= .struct fs)(h:d.fits D):∃gs,D= .struct gs/\fs=gs.toList.map fun f=>(f.offset,f.type):=by
 subst hd; cases D<;>simp_all[TD.fits]
theorem fits_int{d:TD}{D:TypeDesc}{k:IntKind}(hd:d= .int k)(h:d.fits D):D= .int k:=by
 subst hd; cases D<;>simp_all[TD.fits]
theorem gf{d:TD}{D:TypeDesc}(hd:d= .str)(h:d.fits D):D= .string:=by
 subst hd; cases D<;>simp_all[TD.fits]
theorem TD.dB{d:TD}(h:d.ok=true):d≠ .other:=by rintro rfl; simp[TD.ok]at h
theorem bv{ρ:Place}{L:aY}{I:Nat->Prop}{w:World}{N:Nat->Prop}{k:IntKind}{n:Int}{v:Value}(h:aL ρ L I w N (.int k n) v):v= .int k n:=by cases h; rfl
theorem gg{ρ:Place}{L:aY}{I:Nat->Prop}{w:World}{N:Nat->Prop}{b:Bool}{v:Value}(h:aL ρ L I w N (.bool b) v):v= .bool b:=by cases h; rfl
theorem gW{ρ:Place}{L:aY}{I:Nat->Prop}{w:World}{N:Nat->Prop}{s:List UInt8}{v:Value}(h:aL ρ L I w N (.str s) v):v= .string ⟨s.toArray⟩:=by cases h; rfl
theorem gX{ρ:Place}{L:aY}{I:Nat->Prop}{w:World}{N:Nat->Prop}{n len sz:Nat}{v:Value}(h:aL ρ L I w N (.bh n len) v)(hl:L n=some (len,sz)):
  N n/\((ρ n=none/\∃q,v= .slice q 0 0)\/∃g cap,ρ n=some (g,cap)/\v= .slice (some ⟨g,0,none⟩) len cap):=by
 cases h with
 |bh _ _ _ hn h1 h=>exact⟨hn,(h len sz hl).2 rfl⟩
theorem gH{ρ:Place}{L:aY}{I:Nat->Prop}{w:World}{N:Nat->Prop}{n len sz g cap:Nat}(hn:N n)(hl:L n=some (len,sz))(hρ:ρ n=some (g,cap)):
  aL ρ L I w N (.bh n len) (.slice (some ⟨g,0,none⟩) len cap):=
 .bh n len _ hn rfl fun l Ah h=>by
   rw[hl]at h
   simp only[Option.some.injEq,Prod.mk.injEq]at h
   obtain⟨rfl,rfl⟩:=h
   exact⟨Nat.le_refl _,fun _=> .inr ⟨g,cap,hρ,rfl⟩⟩
theorem jy{ρ:Place}{L:aY}{I:Nat->Prop}{w:World}{N:Nat->Prop}{n len i off cnt sz:Nat}{v:Value}(h:aL ρ L I w N (.dm n len i off cnt) v)(hl:L n=some (len,sz)):
  N n/\∃g cap c,ρ n=some (g,cap)/\v= .slice (some ⟨g,i*sz+off,none⟩) cnt c/\cnt<=c/\c<=maxLen:=by
 cases h with
 |dm _ _ _ _ _ _ hn h1 h=>exact⟨hn,(h len sz hl).2 rfl⟩
theorem lM(hT:cN P T){t:Nat}{x ix:Operand}{K:AV->Prop}{Ml:Mem}(hM:M=aa Ml)(hok:∀e,T.d t= .slice e->(T.d e).ok=true)(L7:∀m e,T.d t= .arr m e->(T.d e).ok=true)
  (ho:o.op= .indexAddr t x ix) (h:Ab T t (ev F x) (ev F ix) Ml K):∃av,nJ P X o F M av/\K av:=by
 have hx:x ∈ o.op.operands.toList:=by simp[ho,Op.operands]
 have Q8:ix ∈ o.op.operands.toList:=by simp[ho,Op.operands]
 have nm:∀n,n ∈ (ev F x).names->∀(M':bf),(∀s ∈ dq o.op,∀n ∈ (look F s).names,lens M' n=lens M n)->lens M' n=lens M n:=by
  intro n hn M' hN
  obtain⟨sl,dJ,fi⟩:=bg (F:=F) x hx hn
  exact hN sl dJ n fi
 cases qt:ev F ix with
 |int k i=>
  rw[qt]at h
  simp only[Ab]at h
  cases ht:T.d t with
  |slice e=>
   rw[ht]at h
   obtain⟨D,it0,z0,hD,hf,_⟩:=hT t (by rw[ht]; simp)
   have fW:=bu ht hf
   subst fW
   obtain⟨_,it,_,_,_,hit,wA,_⟩:=hT e (TD.dB (hok e ht))
   cases bJ:ev F x with
   |aG sz es=>
    rw[bJ]at h
    simp only at h
    obtain⟨hc,hr,hk⟩:=ax h
    refine⟨_,fR fun M' N ρ I a w hW hU hN=> ?_,hk⟩
    have r1:=ao hU x hx
    have r2:=bv (qt ▸ ao hU ix Q8)
    rw[bJ]at r1
    generalize hv:a.eval x=v at r1
    cases r1 with
    |cI=>simp at hr; omega
    |aG _ _ b q cap c hl lI hI hs h1 hcell Yo=>
     have hi:i.toNat<es.length:=by omega
     refine⟨_,by simp only[execOp,ho,r2,hv,Sem.run_bind,run_indexAt_slice hD hit _ _ _ _ _ _ hr,Result.andThen_ok,Sem.run_pure]; rfl,?_⟩
     have hsz:sz=it.size:=by rw[wA]; simpa using hc
     have hel:(es.getD i.toNat []).length=sz:=by
      rw[List.getD_eq_getElem?_getD,List.getElem?_eq_getElem hi,Option.getD_some]
      exact hs _ (List.getElem_mem _)
     have:=aL.bc (ρ:=ρ) (L:=lens M') (I:=I) (w:=w) (N:=N) (es.getD i.toNat []) 0 b (q+i.toNat*sz) (c i.toNat) hI (fun j hj=>h1 _ _ hi (by omega)) (fun j hj=>hcell _ _ hi (by omega)) (fun j hj=>Yo _ _ hi (by omega))
     rw[<-hsz]
     exact this
   |bh n len=>
    rw[bJ]at h
    simp only[alive]at h
    cases hb:aa Ml n with
    |none=>rw[hb]at h; exact h.elim
    |some b=>
     rw[hb]at h
     obtain⟨hc1,hmp,h⟩:=ax h
     obtain⟨jU,hr,hk⟩:=ax h
     have hl:b.ln=len:=by simpa using hc1
     have hsz:b.sz=it.size:=by rw[wA]; simpa using jU
     refine⟨_,fR fun M' N ρ I a w hW hU hN=> ?_,hk⟩
     have r1:=ao hU x hx
     have r2:=bv (qt ▸ ao hU ix Q8)
     rw[bJ]at r1
     have dr:=jw (M':=M') (n:=n) (b:=b) (M:=M) (by rw[hM]; exact hb) (nm n (by rw[bJ]; simp[AV.names]) M' hN)
     rw[hl]at dr
     obtain⟨hn,h2⟩:=gX r1 dr
     rcases h2 with⟨h0,hv⟩|⟨g,cap,hρ,hv⟩
     ·obtain⟨b',hb',oA,_⟩:=az.1 dr
      have:=(hW.aR n b' hb').dW h0
      rw[be.EZ this]at oA
      omega
     ·refine⟨_,by simp only[execOp,ho,r2,hv,Sem.run_bind,run_indexAt_slice hD hit _ _ _ _ _ _ hr,Result.andThen_ok,Sem.run_pure]; rfl,?_⟩
      have:=gG (I:=I) (w:=w) (i:=i.toNat) (off:=0) hn dr hρ
      rw[<-hsz,Nat.zero_add]
      simpa using this
   |dm n len j off cnt=>
    rw[bJ]at h
    simp only[alive]at h
    cases hb:aa Ml n with
    |none=>rw[hb]at h; exact h.elim
    |some b=>
     rw[hb]at h
     obtain⟨hc1,hmp,hr,hk⟩:=ax h
     have hl:b.ln=len:=by simpa using hc1
     refine⟨_,fR fun M' N ρ I a w hW hU hN=> ?_,hk⟩
     have r1:=ao hU x hx
     have r2:=bv (qt ▸ ao hU ix Q8)
     rw[bJ]at r1
     have dr:=jw (M':=M') (n:=n) (b:=b) (M:=M) (by rw[hM]; exact hb) (nm n (by rw[bJ]; simp[AV.names]) M' hN)
     rw[hl]at dr
     obtain⟨hn,g,cap,c,hρ,hv,_⟩:=jy r1 dr
     refine⟨_,by simp only[execOp,ho,r2,hv,Sem.run_bind,run_indexAt_slice hD hit _ _ _ _ _ _ hr,Result.andThen_ok,Sem.run_pure]; rfl,?_⟩
     rw[Nat.add_assoc,wA]
     exact gG hn dr hρ
   |_=>rw[bJ]at h; exact h.elim
  |arr m e=>
   rw[ht]at h
   obtain⟨D,it0,z0,hD,hf,_⟩:=hT t (by rw[ht]; simp)
   have fW:=dX ht hf
   subst fW
   obtain⟨_,it,_,_,_,hit,wA,_⟩:=hT e (TD.dB (L7 m e ht))
   cases bJ:ev F x with
   |loc n len j off=>
    rw[bJ]at h
    simp only[alive]at h
    cases hb:aa Ml n with
    |none=>rw[hb]at h; exact h.elim
    |some b=>
     rw[hb]at h
     obtain⟨hc1,hmp,hr,hk⟩:=ax h
     have hl:b.ln=len:=by simpa using hc1
     refine⟨_,fR fun M' N ρ I a w hW hU hN=> ?_,hk⟩
     have r1:=ao hU x hx
     have r2:=bv (qt ▸ ao hU ix Q8)
     rw[bJ]at r1
     have dr:=jw (M':=M') (n:=n) (b:=b) (M:=M) (by rw[hM]; exact hb) (nm n (by rw[bJ]; simp[AV.names]) M' hN)
     rw[hl]at dr
     obtain⟨hn,g,cap,hρ,hv⟩:=fI r1 dr
     refine⟨_,by simp only[execOp,ho,r2,hv,Sem.run_bind,lq hD hit _ _ _ _ hr,Result.andThen_ok,Sem.run_pure]; rfl,?_⟩
     rw[Nat.add_assoc,wA]
     exact gG hn dr hρ
   |bc c off=>
    rw[bJ]at h
    obtain⟨hr,hk⟩:=h
    refine⟨_,fR fun M' N ρ I a w hW hU hN=> ?_,hk⟩
    have r1:=ao hU x hx
    have r2:=bv (qt ▸ ao hU ix Q8)
    rw[bJ]at r1
    generalize hv:a.eval x=v at r1
    cases r1 with
    |bc _ _ b q cc hI h1 hcell Yo=>
     refine⟨_,by simp only[execOp,ho,r2,hv,Sem.run_bind,lq hD hit _ _ _ _ hr,Result.andThen_ok,Sem.run_pure]; rfl,?_⟩
     rw[Nat.add_assoc,wA]
     exact .bc c _ b q cc hI h1 hcell Yo
   |_=>rw[bJ]at h; exact h.elim
  |_=>rw[ht]at h; exact h.elim
 |_=>rw[qt]at h; exact h.elim
theorem sw(hT:cN P T){t:Nat}{x ix:Operand}{K:AV->Prop}{Ml:Mem}(hM:M=aa Ml)(hok:∀e,T.d t= .slice e->(T.d e).ok=true)(L7:∀m e,T.d t= .arr m e->(T.d e).ok=true)
  (ho:o.op= .indexAddr t x ix) (h:Ab T t (ev F x) (ev F ix) Ml K):∃av,bC P X o F M av [] []/\K av:=by
 obtain⟨av,h1,h2⟩:=lM hT hM hok L7 ho h
 exact⟨av,h1.pO,h2⟩
end Go.AM
namespace Go.AM
open Go.RowKit
variable {P:Program} {T:TT} {X:bL} {o:Oper} {F:aT} {M:bf}
theorem gY(g:Nat)(t:TypeId)(fr:Nat × Nat):∀(vs:List Value)(q:Nat)(w:World)(cs:Array Value),w.heap[g]? =some (.cells cs t fr)->q+vs.length<=cs.size->
  ∃cs',(w.setCells g q vs).heap[g]? =some (.cells cs' t fr)/\cs'.size=cs.size/\∀k,cs'[k]? =if q<=k/\k<q+vs.length then vs[k - q]? else cs[k]?
 |[],q,w,cs,hg,_=>⟨cs,hg,rfl,fun k=>by rw[if_neg (fun h=>by have:=h.1; have:=h.2; simp at this; omega)]⟩
 |v::r,q,w,cs,hg,hq=>by
  have hg1:(w.setCell ⟨g,q,none⟩ v).heap[g]? =some (.cells (cs.setIfInBounds q v) t fr):=by
   simp[World.setCell,Array.getElem?_modify,hg]
  obtain⟨cs',h1,h2,h3⟩:=gY g t fr r (q+1) (w.setCell ⟨g,q,none⟩ v) (cs.setIfInBounds q v) hg1 (by simp at hq ⊢; omega)
  refine⟨cs',h1,by simpa using h2,fun k=> ?_⟩
  rw[h3 k]
  simp only[List.length_cons]at hq ⊢
  by_cases hk:k=q
  ·subst hk
   rw[if_neg (by omega),if_pos (by omega)]
   simp[Array.getElem?_setIfInBounds]; omega
  ·by_cases hk2:q+1<=k/\k<q+1+r.length
   ·rw[if_pos hk2,if_pos (by omega)]
    have:k - q=(k - (q+1))+1:=by omega
    rw[this]; simp
   ·rw[if_neg hk2,if_neg (by omega)]
    simp[Array.getElem?_setIfInBounds]
    intro e; omega
theorem fj(g:Nat):∀(vs:List Value)(q:Nat)(w:World)(k:Nat),k≠g->(w.setCells g q vs).heap[k]? =w.heap[k]?
 |[],_,_,_,_=>rfl
 |v::r,q,w,k,hk=>by
  have:=fj g r (q+1) (w.setCell ⟨g,q,none⟩ v) k hk
  refine this.trans ?_
  exact Below.heap_setCell w _ v k hk
theorem size_setCells(g:Nat):∀(vs:List Value)(q:Nat)(w:World),(w.setCells g q vs).heap.size=w.heap.size
 |[],_,_=>rfl
 |v::r,q,w=>by
  have:=size_setCells g r (q+1) (w.setCell ⟨g,q,none⟩ v)
  exact this.trans (by simp)
theorem gZ(g:Nat):∀(vs:List Value)(q:Nat)(w:World),(w.setCells g q vs).tape=w.tape
 |[],_,_=>rfl
 |v::r,q,w=>gZ g r (q+1) (w.setCell ⟨g,q,none⟩ v)
theorem os_setCells(g:Nat):∀(vs:List Value)(q:Nat)(w:World),(w.setCells g q vs).os=w.os
 |[],_,_=>rfl
 |v::r,q,w=>os_setCells g r (q+1) (w.setCell ⟨g,q,none⟩ v)
theorem iG(g:Nat):∀(vs:List Value)(q:Nat)(w:World),(w.setCells g q vs).output=w.output
 |[],_,_=>rfl
 |v::r,q,w=>iG g r (q+1) (w.setCell ⟨g,q,none⟩ v)
theorem da{α:Type}(l:List α)(off n j:Nat)(d:α)(h:j<n):((l.drop off).take n).getD j d=l.getD (off+j) d:=by
 simp[List.getD_eq_getElem?_getD,List.getElem?_take,h]
theorem fk{t:Nat}(hT:cN P T)(hok:(T.d t).ok=true){ρ:Place}{L:aY}{I:Nat->Prop}{w:World}{N:Nat->Prop}{g q off:Nat}{cs:List AV}{K:AV->Prop}(f:Nat->Value)
  (hc:∀j,j<cs.length->w.cell? ⟨g,q+j,none⟩=some (f j)/\(f j).oneCell'=true/\aL ρ L I w N (cs.getD j .bad) (f j))
  {av:AV} (hlen:((cs.drop off).take (T.s t)).length=T.s t) (nW:av=if (T.d t).ag then .agg ((cs.drop off).take (T.s t))else ((cs.drop off).take (T.s t)).headD .bad) (h1:(T.d t).ag=false->T.s t=1):
  ∃v,(loadVar t ⟨g,q+off,none⟩).run P w= .ok v w/\aL ρ L I w N av v:=by
 obtain⟨D,it,z,hD,hf,hi,hs,_⟩:=hT t (TD.dB hok)
 have hle:off+T.s t<=cs.length\/ T.s t=0:=by
  simp only[List.length_take,List.length_drop]at hlen
  omega
 unfold loadVar
 simp only[Sem.run_bind,nV hD hf,Result.andThen_ok]
 cases jq:(T.d t).ag with
 |true=>
  simp only[if_pos,bt hi,Result.andThen_ok,Sem.run_bind]
  rw[hs]
  have hcell:∀j,j<T.s t->w.cell? ((⟨g,q+off,none⟩:Addr).add j)=some (f (off+j)):=fun j hj=>by
   rw[bQ,Nat.add_assoc]
   exact (hc (off+j) (by omega)).1
  rw[run_loadCells w _ (T.s t) (fun j=>f (off+j)) hcell]
  refine⟨_,rfl,?_⟩
  rw[nW,jq,if_pos rfl]
  refine .agg _ ((List.range (T.s t)).map fun j=>f (off+j)) (by simp; simp at hlen; omega) (fun u hu=> ?_) (fun j hj=> ?_)
  ·obtain⟨j,hj,rfl⟩:=List.mem_map.1 hu
   exact (hc (off+j) (by simp at hj; omega)).2.1
  ·rw[hlen]at hj
   rw[da _ _ _ _ _ hj]
   have:((List.range (T.s t)).map fun j=>f (off+j)).getD j default=f (off+j):=by simp[List.getD_eq_getElem?_getD,hj]
   rw[this]
   exact (hc (off+j) (by omega)).2.2
 |false=>
  have Q9:=h1 jq
  have h2:=(hc off (by omega))
  simp only[Bool.false_eq_true,if_false,run_load,h2.1]
  refine⟨_,rfl,?_⟩
  rw[nW,jq,Q9]
  have:((cs.drop off).take 1).headD .bad=cs.getD off .bad:=by
   have hlt:off<cs.length:=by omega
   rw[List.drop_eq_getElem_cons hlt,List.take_succ_cons]
   simp[List.getD_eq_getElem?_getD,hlt]
  simp only[Bool.false_eq_true,if_false,this]
  exact h2.2.2
theorem fL{ag:Bool}{n off:Nat}{cs:List AV}{K:AV->Prop}(h:apart ag n off cs K):
  ∃av,((cs.drop off).take n).length=n/\(av=if ag then .agg ((cs.drop off).take n)else ((cs.drop off).take n).headD .bad)/\(ag=false->n=1)/\K av:=by
 unfold apart at h
 obtain⟨h1,h2⟩:=ax h
 cases ag with
 |true=>exact⟨_,by simpa using h1,rfl,by simp,h2⟩
 |false=>
  obtain⟨h3,h4⟩:=ax h2
  exact⟨_,by simpa using h1,rfl,fun _=>by simpa using h3,h4⟩
theorem sg.row{C:bL}{ρ:Place}{L:aY}{I:Nat->Prop}{w:World}{N:Nat->Prop}{n:Nat}{b:be}(B:sg C ρ L I w N n b)(hmp:b.mp=none){g cap:Nat}(hρ:ρ n=some (g,cap))(i:Nat):
  ∃f:Nat->Value,∀j,j< (b.es.getD i []).length->w.cell? ⟨g,i*b.sz+j,none⟩=some (f j)/\(f j).oneCell'=true/\aL ρ L I w N ((b.es.getD i []).getD j .bad) (f j):=by
 obtain⟨cs,fr,hg,_,_,_,_,_,_,hc⟩:=B.real g cap hρ
 refine⟨fun j=>(cs[i*b.sz+j]?).getD undef,fun j hj=> ?_⟩
 have hi:i<b.es.length:=by
  rcases Nat.lt_or_ge i b.es.length with h|h
  ·exact h
  ·rw[List.getD_eq_getElem?_getD,List.getElem?_eq_none h]at hj; simp at hj
 have hsz:(b.es.getD i []).length=b.sz:=by
  rw[List.getD_eq_getElem?_getD,List.getElem?_eq_getElem hi,Option.getD_some]
  exact B.even _ (List.getElem_mem _)
 obtain⟨u,hu,h1,hr⟩:=hc i j hi (by omega)
 have e:(cs[i*b.sz+j]?).getD undef=u:=by rw[hu]; rfl
 refine⟨?_,?_,?_⟩
 ·rw[wB w g _ cs b.ty fr (hg.cells hmp)]; show _=some ((cs[i*b.sz+j]?).getD undef); rw[e,hu]
 ·show ((cs[i*b.sz+j]?).getD undef).oneCell'=true; rw[e]; exact h1
 ·show aL _ _ _ _ _ _ ((cs[i*b.sz+j]?).getD undef); rw[e]; exact hr
where wB (w:World) (g j:Nat) (cs:Array Value) (t:TypeId) (fr:Nat × Nat) (hg:w.heap[g]? =some (.cells cs t fr)):w.cell? ⟨g,j,none⟩=cs[j]? :=by simp[World.cell?,hg]
theorem CG(hT:cN P T){t:Nat}{x:Operand}{K:AV->Prop}{Ml:Mem}(hM:M=aa Ml)(hok:(T.d t).ok=true)(ho:o.op= .load t x)(h:nH T t (ev F x) Ml K):∃av,bC P X o F M av [] []/\K av:=by
 have hx:x ∈ o.op.operands.toList:=by simp[ho,Op.operands]
 cases bJ:ev F x with
 |loc n len i off=>
  rw[bJ]at h
  simp only[nH,alive]at h
  cases hb:aa Ml n with
  |none=>rw[hb]at h; exact h.elim
  |some b=>
   rw[hb]at h
   obtain⟨hc1,hmp,h⟩:=ax h
   obtain⟨av,ha1,ha2,EJ,hk⟩:=fL h
   have hl:b.ln=len:=by simpa using hc1
   refine⟨av,aB fun M' N ρ I a w hW hU hN=> ?_,hk⟩
   have r1:=ao hU x hx
   rw[bJ]at r1
   obtain⟨sl,dJ,fi⟩:=bg (F:=F) x hx (n:=n) (by rw[bJ]; simp[AV.names])
   have bM:M' n=some b:=(hN sl dJ n fi).trans (by rw[hM]; exact hb)
   have dr:lens M' n=some (b.ln,b.sz):=by rw[az]; exact⟨b,bM,rfl,rfl⟩
   rw[hl]at dr
   obtain⟨hn,g,cap,hρ,hv⟩:=fI r1 dr
   obtain⟨f,hf⟩:=(hW.aR n b bM).row hmp hρ i
   obtain⟨v,EK,L8⟩:=fk (K:=K) hT hok (off:=off) f hf ha1 ha2 EJ
   refine⟨v,?_,L8⟩
   simp only[execOp,ho,Instr.loadAt,hv,Instr.sureAddr,Sem.run_bind,Sem.run_pure,Result.andThen_ok,EK]
 |bc e off=>
  rw[bJ]at h
  simp only[nH]at h
  obtain⟨av,ha1,ha2,EJ,hk⟩:=fL h
  refine⟨av,aB fun M' N ρ I a w hW hU hN=> ?_,hk⟩
  have r1:=ao hU x hx
  rw[bJ]at r1
  generalize hv:a.eval x=v at r1
  cases r1 with
  |bc _ _ b q c hI h1 hcell hr=>
   obtain⟨v,EK,L8⟩:=fk (K:=K) (N:=N) hT hok (off:=off) c (fun j hj=>⟨hcell j hj,h1 j hj,(hr j hj).wide (fun _ h=>h.elim)⟩) ha1 ha2 EJ
   refine⟨v,?_,L8⟩
   simp only[execOp,ho,Instr.loadAt,hv,Instr.sureAddr,Sem.run_bind,Sem.run_pure,Result.andThen_ok,EK]
 |_=>rw[bJ]at h; exact h.elim
end Go.AM
namespace Go.AM
open Go.RowKit
variable {P:Program} {T:TT} {X:bL} {o:Oper} {F:aT} {M:bf}
theorem bD(N:Nat->Prop)(n:Nat)(b:be):fQ N [(n,b)]=zZ N n:=by
 funext m
 simp only[fQ,zZ,List.mem_singleton,Prod.mk.injEq,exists_and_left,eq_iff_iff]
 constructor
 ·rintro (h|⟨h,_⟩)
  ·exact .inr h
  ·exact .inl h
 ·rintro (h|h)
  ·exact .inr ⟨h,b,rfl⟩
  ·exact .inl h
theorem bY.new{ρ:Place}{I:Nat->Prop}{M:bf}{N:Nat->Prop}{w:World}(hW:bY X ρ I M N w){n:Nat}(hn:¬N n)(b:be)(hm:b.mp=none)(cs:Array Value)(cap:Nat)
  (E0:∀e ∈ b.es,e.length=b.sz) (hlen:b.es.length<=cap) (hcap:cap<=maxLen) (hcs:cs.size=cap*b.sz)
  (pI:∀i j,i<b.es.length->j<b.sz->∃u,cs[i*b.sz+j]? =some u/\u.oneCell'=true/\aL ρ (lens M) I w N ((b.es.getD i []).getD j .bad) u):
  ∃ρ1,mM N ρ (lens M) I w ρ1 (lens (cV M [(n,b)])) I (w.alloc (.cells cs b.ty))/\bY X ρ1 I (cV M [(n,b)]) (fQ N [(n,b)]) (w.alloc (.cells cs b.ty))/\ρ1 n=some (w.heap.size,cap)/\lens (cV M [(n,b)]) n=some (b.es.length,b.sz):=by
 have hln:=be.bW hm
 have hd:∀b0,M n=some b0->False:=fun b0 h0=>hn (hW.aR n b0 h0).lt
 obtain⟨E,W⟩:=hW.put (w':=w.alloc (.cells cs b.ty)) n b w.heap.size cap cs (0,0) rfl rfl rfl (by simp) (fun k hk _=>Below.heap_alloc w _ k hk) (by rw[hm]; exact heap_alloc_new w _) (.inl rfl)
  (.inl (Nat.le_refl _)) (fun b0 h0=>(hd b0 h0).elim) (fun h=>(hn h).elim) E0 hlen hcap hcs pI
 refine⟨iE ρ n (w.heap.size,cap),E,by rw[bD]; exact W,by simp[iE],?_⟩
 show lens (cX M n b) n=_
 rw[bV,if_pos rfl,hln]
theorem oG{ρ:Place}{L:aY}{I:Nat->Prop}{w:World}{N:Nat->Prop}{a:AV}{v:Value}(h:aL ρ L I w N a v)(hs:bH a=true):
  v.cells.size=(cells a).length/\∀i j,i<1->j< (cells a).length->∃u,v.cells[i* (cells a).length+j]? =some u/\u.oneCell'=true/\aL ρ L I w N (([cells a].getD i []).getD j .bad) u:=by
 obtain⟨h1,h2,h3⟩:=pQ h hs
 have Q9:v.cells.size=(cells a).length:=by simpa using h1
 refine⟨Q9,fun i j hi hj=> ?_⟩
 have:i=0:=by omega
 subst this
 have hj':j<v.cells.size:=by omega
 refine⟨v.cells[j],by simp[hj'],h2 _ (by simp),?_⟩
 have:=h3 j hj
 simpa[List.getD_eq_getElem?_getD,hj']using this
theorem qu{n t:Nat}{a:AV}(hs:bH a=true)
  (h:∀M' N ρ I (ac:Act) w,bY X ρ I M' N w->(∀s ∈ dq o.op,aL ρ (lens M') I w N (look F s) (ac.tmps.getD s undef))->
    ∃v,(execOp ac.eval o).run P w= .ok (.value (.pointer (some ⟨w.heap.size,0,none⟩))) (w.alloc (.cells v.cells t))/\aL ρ (lens M') I w N a v):bC P X o F M (.loc n 1 0 0) [(n,⟨t,(cells a).length,[cells a],none⟩)] [n]:=by
 refine⟨fun p hp=> .inl (by simp at hp; simp[hp]),fun M' N ρ I ac w hW hU hN hF=> ?_⟩
 obtain⟨v,hrun,hr⟩:=h M' N ρ I ac w hW hU
 have hn:¬N n:=hF n (by simp)
 obtain⟨h1,h2⟩:=oG hr hs
 obtain⟨ρ1,E,W,hρ,hl⟩:=hW.new hn ⟨t,(cells a).length,[cells a],none⟩ rfl v.cells 1 (by simp) (by simp) (by simp[maxLen]) (by simpa using h1) (by simpa using h2)
 unfold bI
 rw[hrun]
 refine⟨ρ1,I,E,W,?_⟩
 have IC:fQ N [(n,(⟨t,(cells a).length,[cells a],none⟩:be))] n:= .inr ⟨⟨t,(cells a).length,[cells a],none⟩,List.mem_singleton.2 rfl⟩
 have:=gG (I:=I) (w:=w.alloc (.cells v.cells t)) (i:=0) (off:=0) IC hl hρ
 simp only[Nat.zero_mul,Nat.zero_add,List.length_singleton]at this
 exact this
theorem qv{t:TypeId}{v:Value}{w:World}:(newVar t v).run P w= .ok ⟨w.heap.size,0,none⟩ (w.alloc (.cells v.cells t)):=by
 simp[newVar,newRow]
theorem E5{n t:Nat}{x:Operand}(ho:o.op= .box t x)(hs:bH (ev F x)=true):
  bC P X o F M (.loc n 1 0 0) [(n,⟨t,(cells (ev F x)).length,[cells (ev F x)],none⟩)] [n]:=
 qu hs (fun M' N ρ I ac w hW hU=>⟨ac.eval x,by simp[execOp,ho,Instr.box,qv],ao hU x (by simp[ho,Op.operands])⟩)
theorem Ai(hT:cN P T){n t:Nat}(ho:o.op= .alloc t)(hok:(T.d t).ok=true)(hs:bH (T.z t)=true):
  bC P X o F M (.loc n 1 0 0) [(n,⟨t,(cells (T.z t)).length,[cells (T.z t)],none⟩)] [n]:=by
 obtain⟨D,it,z,hD,hf,hi,hsz,_,hz,iu⟩:=hT t (TD.dB hok)
 refine qu hs (fun M' N ρ I ac w hW hU=>⟨z,by simp[execOp,ho,Instr.alloc,qv,gb hi hz],?_⟩)
 rw[iu]; exact ga _ _ _ _ _ _
theorem lN(off q:Nat)(vs row:List AV)(h:off+vs.length<=row.length):
  (bG off vs row).getD q .bad=if off<=q/\q<off+vs.length then vs.getD (q - off) .bad else row.getD q .bad:=by
 unfold bG
 simp only[List.getD_eq_getElem?_getD]
 by_cases Lb:off<=q/\q<off+vs.length
 ·rw[if_pos Lb,List.getElem?_append_right (by simp; omega),List.length_take,Nat.min_eq_left (by omega),List.getElem?_append_left (by omega)]
 ·rw[if_neg Lb]
  by_cases hlt:q<off
  ·rw[List.getElem?_append_left (by simp; omega),List.getElem?_take,if_pos hlt]
  ·rw[List.getElem?_append_right (by simp; omega),List.length_take,Nat.min_eq_left (by omega),List.getElem?_append_right (by omega),List.getElem?_drop]
   congr 2; omega
theorem sy(hT:cN P T){t:Nat}{x y:Operand}{K:Mem->Prop}{Ml:Mem}(hM:M=aa Ml)(hok:(T.d t).ok=true)(ho:o.op= .store t x y)(h:Ad T t (ev F x) (ev F y) Ml K):
  ∃n b,bC P X o F M (.aF []) [(n,b)] []/\n ∈ (ev F x).names/\K (gA Ml n b)/\(∃b0,M n=some b0/\b.ln=b0.ln/\b.sz=b0.sz):=by
 have hx:x ∈ o.op.operands.toList:=by simp[ho,Op.operands]
 have hy:y ∈ o.op.operands.toList:=by simp[ho,Op.operands]
 cases bJ:ev F x with
 |loc n len i off=>
  rw[bJ]at h
  simp only[Ad,alive]at h
  cases hb:aa Ml n with
  |none=>rw[hb]at h; exact h.elim
  |some b=>
   rw[hb]at h
   obtain⟨hc1,hmp,h⟩:=ax h
   obtain⟨jU,hk⟩:=ax h
   have hl:b.ln=len:=by simpa using hc1
   simp only[Bool.and_eq_true,beq_iff_eq,Bool.not_eq_true']at jU
   obtain⟨⟨⟨hs,hlen⟩,hz⟩,hfit⟩:=jU
   obtain⟨sl,dJ,fi⟩:=bg (F:=F) x hx (n:=n) (by rw[bJ]; simp[AV.names])
   refine⟨n,_,?_,by simp[AV.names],hk,b,by rw[hM]; exact hb,by rw[be.bW hmp]; simp[be.ln],rfl⟩
   refine⟨fun p hp=> .inr ⟨sl,dJ,by simp at hp; rw[hp]; exact fi⟩,fun M' N ρ I a w hW hU hN _=> ?_⟩
   have r1:=ao hU x hx
   have r2:=ao hU y hy
   rw[bJ]at r1
   have bM:M' n=some b:=(hN sl dJ n fi).trans (by rw[hM]; exact hb)
   have dr:lens M' n=some (b.ln,b.sz):=by rw[az]; exact⟨b,bM,rfl,rfl⟩
   rw[hl]at dr
   obtain⟨hn,g,cap,hρ,hv⟩:=fI r1 dr
   obtain⟨hcl,E6,Yp⟩:=pQ r2 hs
   have B:=hW.aR n b bM
   obtain⟨cs,fr,hg,nG,nT,hown,hlc,lI,hcs,hc⟩:=B.real g cap hρ
   have hg:=hg.cells hmp
   have Ra:=be.bW hmp
   obtain⟨D,it,z,hD,hf,hi,hsz,_⟩:=hT t (TD.dB hok)
   have hpos:0< (cells (ev F y)).length:=by
    have:T.s t≠0:=by simpa using hz
    omega
   have hi':i<b.es.length:=by
    rcases Nat.lt_or_ge i b.es.length with h|h
    ·exact h
    ·rw[List.getD_eq_getElem?_getD,List.getElem?_eq_none h]at hfit; simp at hfit; omega
   have hel:(b.es.getD i []).length=b.sz:=by
    rw[List.getD_eq_getElem?_getD,List.getElem?_eq_getElem hi',Option.getD_some]
    exact B.even _ (List.getElem_mem _)
   have hoff:off+ (cells (ev F y)).length<=b.sz:=by
    simp only[List.length_take,List.length_drop,hel]at hfit
    omega
   have hin:∀j,j<b.sz->i*b.sz+j<cs.size:=fun j hj=>by
    rw[hcs]
    calc i*b.sz+j<i*b.sz+b.sz:=by omega
     _=(i+1)*b.sz:=by rw[Nat.add_mul,Nat.one_mul]
     _<=cap*b.sz:=Nat.mul_le_mul_right _ (by omega)
   have oH:∀k,w.cell? ⟨g,k,none⟩=cs[k]? :=fun k=>by simp[World.cell?,hg]
   have Yq:∀k,k<cs.size->w.frozen? ⟨g,k,none⟩=false:=fun k hk=>by
    have:=zY nG k hk
    simp only[World.frozen?,hg]
    simpa using this
   have hrun:(execOp a.eval o).run P w= .ok .skip (w.setCells g (i*b.sz+off) (a.eval y).cells.toList):=by
    have hst:=run_storeCells_cells (P:=P) g (i*b.sz+off) (a.eval y).cells.toList 0 w
     (fun j hj=>by
       rw[Nat.add_zero,oH,Nat.add_assoc,Array.getElem?_eq_getElem (hin (off+j) (by omega))]; rfl)
     (fun j hj=>by rw[Nat.add_zero,Nat.add_assoc]; exact Yq _ (hin (off+j) (by omega)))
     E6
    have hsize:(a.eval y).cells.size=it.size:=by rw[hsz,<-hlen,<-hcl]; simp
    simp only[execOp,ho,Instr.storeAt,hv,Instr.sureAddr,Sem.run_bind,Sem.run_pure,Result.andThen_ok,storeVar,bt hi,hsize,ne_eq,not_true_eq_false,if_false]
    rw[Nat.add_zero]at hst
    rw[hst]
    rfl
   obtain⟨cs',h1,h2,h3⟩:=gY g b.ty fr (a.eval y).cells.toList (i*b.sz+off) w cs hg (by rw[hcl]; have:=hin (b.sz - 1) (by omega); omega)
   have key:∀p q,p<b.es.length->q<b.sz->∃u,cs'[p*b.sz+q]? =some u/\u.oneCell'=true/\aL ρ (lens M') I w N (((b.es.set i (bG off (cells (ev F y)) (b.es.getD i []))).getD p []).getD q .bad) u:=by
    intro p q hp hq
    rw[h3,hcl]
    by_cases hpi:p=i
    ·subst hpi
     have e1:(b.es.set p (bG off (cells (ev F y)) (b.es.getD p []))).getD p []=bG off (cells (ev F y)) (b.es.getD p []):=by
      simp[List.getD_eq_getElem?_getD,hp]
     rw[e1,lN _ _ _ _ (by omega)]
     by_cases Lb:off<=q/\q<off+ (cells (ev F y)).length
     ·rw[if_pos (by omega),if_pos Lb]
      have e2:p*b.sz+q - (p*b.sz+off)=q - off:=by omega
      rw[e2]
      have L9:q - off< (a.eval y).cells.toList.length:=by rw[hcl]; omega
      refine⟨(a.eval y).cells.toList[q - off],List.getElem?_eq_getElem L9,E6 _ (List.getElem_mem _),?_⟩
      have:=Yp (q - off) (by omega)
      rwa[List.getD_eq_getElem?_getD (l:=(a.eval y).cells.toList),List.getElem?_eq_getElem L9,Option.getD_some]at this
     ·rw[if_neg (by omega),if_neg Lb]
      exact hc p q hp hq
    ·have e1:(b.es.set i (bG off (cells (ev F y)) (b.es.getD i []))).getD p []=b.es.getD p []:=by
      simp[List.getD_eq_getElem?_getD,List.getElem?_set,Ne.symm hpi]
     rw[e1]
     rw[if_neg]
     ·exact hc p q hp hq
     ·rintro⟨ha,hb'⟩
      rcases Nat.lt_or_gt_of_ne hpi with hlt|hgt
      ·have:(p+1)*b.sz<=i*b.sz:=Nat.mul_le_mul_right _ hlt
       rw[Nat.add_mul,Nat.one_mul]at this
       omega
      ·have:(i+1)*b.sz<=p*b.sz:=Nat.mul_le_mul_right _ hgt
       rw[Nat.add_mul,Nat.one_mul]at this
       omega
   have jX:∀b0,M' n=some b0->b0=b:=fun b0 h0=>by rw[bM]at h0; exact (Option.some.inj h0).symm
   obtain⟨E,W⟩:=hW.put (w':=w.setCells g (i*b.sz+off) (a.eval y).cells.toList) n ⟨b.ty,b.sz,b.es.set i (bG off (cells (ev F y)) (b.es.getD i [])),none⟩ g cap cs' fr
    (os_setCells _ _ _ _) (gZ _ _ _ _) (iG _ _ _ _) (by rw[size_setCells]; exact Nat.le_refl _) (fun k _ hk=>fj g _ _ _ _ hk) h1 (by omega)
    (.inr ⟨cap,hρ,b,bM⟩) (fun b0 h0=>by rw[jX b0 h0,Ra]; exact⟨rfl,by simp[be.ln],fun _=>hρ⟩) (fun _=>⟨b,bM⟩)
    (fun e he=>by
      rcases List.mem_or_eq_of_mem_set he with he|rfl
      ·exact B.even e he
      ·show (bG _ _ _).length=b.sz
       unfold bG
       rw[List.length_append,List.length_append,List.length_take,List.length_drop,hel]; omega)
    (by simpa using hlc) lI (by rw[h2]; exact hcs) (by simpa using key)
   unfold bI
   rw[hrun]
   refine⟨iE ρ n (g,cap),I,E,by rw[bD]; exact W,.aF [] [] rfl (fun j hj=>by simp at hj)⟩
 |_=>rw[bJ]at h; exact h.elim
end Go.AM
namespace Go.AM
open Go.RowKit
variable {P:Program} {T:TT} {X:bL} {o:Oper} {F:aT} {M:bf}
def bn(ρ:Place)(L:aY)(I:Nat->Prop)(w:World)(N:Nat->Prop)(cs:List AV)(arr:Array Value):Prop:=
 arr.size=cs.length/\∀j,j<cs.length->∃u,arr[j]? =some u/\u.oneCell'=true/\aL ρ L I w N (cs.getD j .bad) u
theorem bn.agg{ρ:Place}{L:aY}{I:Nat->Prop}{w:World}{N:Nat->Prop}{cs:List AV}{arr:Array Value}(h:bn ρ L I w N cs arr):aL ρ L I w N (.agg cs) (.agg arr):=by
 have:arr=arr.toList.toArray:=by simp
 rw[this]
 refine .agg cs arr.toList (by simpa using h.1) (fun u hu=> ?_) (fun j hj=> ?_)
 ·obtain⟨j,hj,rfl⟩:=List.mem_iff_getElem.1 hu
  obtain⟨u,hu,h1,_⟩:=h.2 j (by have:=h.1; simp at hj; omega)
  have EL:arr.toList[j]? =some u:=by simpa using hu
  rw[List.getElem?_eq_getElem hj]at EL
  cases EL
  exact h1
 ·obtain⟨u,hu,_,hr⟩:=h.2 j hj
  have:arr.toList.getD j default=u:=by simp[List.getD_eq_getElem?_getD,hu]
  rw[this]; exact hr
theorem bn.fE{ρ:Place}{L:aY}{I:Nat->Prop}{w:World}{N:Nat->Prop}{a:AV}{v:Value}(h:aL ρ L I w N a v)(hs:bH a=true):bn ρ L I w N (cells a) v.cells:=by
 obtain⟨h1,h2⟩:=oG h hs
 refine⟨h1,fun j hj=> ?_⟩
 have:=h2 0 j (by omega) hj
 simpa using this
theorem jz(off:Nat):∀(vs:List Value)(k:Nat)(arr:Array Value),off+k+vs.length<=arr.size->
  ((vs.zipIdx k).foldl (fun cs (p:Value × Nat)=>cs.setIfInBounds (off+p.2) p.1) arr).size=arr.size/\
  ∀q,((vs.zipIdx k).foldl (fun cs (p:Value × Nat)=>cs.setIfInBounds (off+p.2) p.1) arr)[q]? =if off+k<=q/\q<off+k+vs.length then vs[q - (off+k)]? else arr[q]?
 |[],k,arr,_=>⟨rfl,fun q=>by rw[if_neg (by simp)]; rfl⟩
 |v::r,k,arr,h=>by
  simp only[List.zipIdx_cons,List.foldl_cons]
  obtain⟨h1,h2⟩:=jz off r (k+1) (arr.setIfInBounds (off+k) v) (by simp at h ⊢; omega)
  refine⟨by rw[h1]; simp,fun q=> ?_⟩
  rw[h2]
  simp only[List.length_cons]at h ⊢
  by_cases hq:q=off+k
  ·subst hq
   rw[if_neg (by omega),if_pos (by omega)]
   simp[Array.getElem?_setIfInBounds]; omega
  ·by_cases Yr:off+ (k+1)<=q/\q<off+ (k+1)+r.length
   ·rw[if_pos Yr,if_pos (by omega)]
    have:q - (off+k)=(q - (off+ (k+1)))+1:=by omega
    rw[this]; simp
   ·rw[if_neg Yr,if_neg (by omega)]
    simp[Array.getElem?_setIfInBounds]
    intro e; omega
theorem bn.part{ρ:Place}{L:aY}{I:Nat->Prop}{w:World}{N:Nat->Prop}{cs vs:List AV}{arr pR:Array Value}(h:bn ρ L I w N cs arr)(hv:bn ρ L I w N vs pR)(off:Nat)(hfit:off+vs.length<=cs.length):
  bn ρ L I w N (bG off vs cs) (pR.zipIdx.foldl (fun cs (p:Value × Nat)=>cs.setIfInBounds (off+p.2) p.1) arr):=by
 have e:pR.zipIdx.foldl (fun cs (p:Value × Nat)=>cs.setIfInBounds (off+p.2) p.1) arr=(pR.toList.zipIdx 0).foldl (fun cs (p:Value × Nat)=>cs.setIfInBounds (off+p.2) p.1) arr:=by
  rw[<-Array.foldl_toList,Array.toList_zipIdx]
 rw[e]
 have hl:pR.toList.length=vs.length:=by simpa using hv.1
 obtain⟨h1,h2⟩:=jz off pR.toList 0 arr (by have:=h.1; omega)
 have dJ:(bG off vs cs).length=cs.length:=by
  unfold bG
  rw[List.length_append,List.length_append,List.length_take,List.length_drop]; omega
 refine⟨by rw[h1,dJ]; exact h.1,fun j hj=> ?_⟩
 rw[dJ]at hj
 rw[h2,lN _ _ _ _ hfit,hl]
 simp only[Nat.add_zero]
 by_cases hr:off<=j/\j<off+vs.length
 ·rw[if_pos hr,if_pos hr]
  obtain⟨u,hu,h3⟩:=hv.2 (j - off) (by omega)
  exact⟨u,by simpa using hu,h3⟩
 ·rw[if_neg hr,if_neg hr]
  exact h.2 j hj
theorem sA{ρ:Place}{L:aY}{I:Nat->Prop}{w:World}{N:Nat->Prop}{place:Nat->Option (Nat × Nat)}{i off size:Nat}{v:Value}{a:AV}{rest:List (Nat × Value)}{cs:List AV}{arr:Array Value}
  (hp:place i=some (off,size)) (hv:bn ρ L I w N (cells a) v.cells) (hl:(cells a).length=size) (hfit:off+ (cells a).length<=cs.length) (hc:bn ρ L I w N cs arr):
  ∃gI,bn ρ L I w N (bG off (cells a) cs) gI/\Instr.fill place arr ((i,v)::rest)=Instr.fill place gI rest:=by
 refine⟨_,hc.part hv off hfit,?_⟩
 have h1:v.cells.size=size:=by rw[hv.1,hl]
 have h2:¬off+v.cells.size>arr.size:=by rw[hv.1,hc.1]; omega
 have h3:¬ (v.cells.size≠size\/ off+v.cells.size>arr.size):=by
  rintro (h|h)
  ·exact h h1
  ·exact h2 h
 simp only[Instr.fill,hp,Bool.or_eq_true,decide_eq_true_eq,if_neg h3]
theorem u4{cs:List AV}{off n:Nat}(h:((cs.drop off).take n).length=n):off+n<=cs.length\/ n=0:=by
 simp at h; omega
theorem u6{size:Nat->Nat}{fs:List (Nat × Nat)}{K:List AV->Prop}:∀(ps:List (Nat × Operand))(cs:List AV),oD size fs (pJ F ps) cs K->∃cs',oD size fs (pJ F ps) cs (fun x=>x=cs')/\K cs'
 |[],cs,h=>⟨cs,rfl,h⟩
 |(i,x)::r,cs,h=>by
  simp only[pJ,oD]at h ⊢
  cases hf:fs[i]? with
  |none=>rw[hf]at h; exact h.elim
  |some q=>
   rw[hf]at h
   obtain⟨hc1,h⟩:=ax h
   obtain⟨cs',h1,h2⟩:=u6 r _ h
   exact⟨cs',aE hc1 h1,h2⟩
theorem u7{sz:Nat}{K:List AV->Prop}:∀(ps:List (Nat × Operand))(cs:List AV),oE sz (pJ F ps) cs K->∃cs',oE sz (pJ F ps) cs (fun x=>x=cs')/\K cs'
 |[],cs,h=>⟨cs,rfl,h⟩
 |(i,x)::r,cs,h=>by
  simp only[pJ,oE]at h ⊢
  obtain⟨hc1,h⟩:=ax h
  obtain⟨cs',h1,h2⟩:=u7 r _ h
  exact⟨cs',aE hc1 h1,h2⟩
theorem qw{ρ:Place}{L:aY}{I:Nat->Prop}{w:World}{N:Nat->Prop}{a:Act}{size:Nat->Nat}{fs:List (Nat × Nat)}{place:Nat->Option (Nat × Nat)}
  (hp:∀i off t,fs[i]? =some (off,t)->place i=some (off,size t)) {K:List AV->Prop}:∀(ps:List (Nat × Operand))(cs:List AV),(∀p ∈ ps,aL ρ L I w N (ev F p.2) (a.eval p.2))->
  oD size fs (pJ F ps) cs K->∃cs',K cs'/\∀arr,bn ρ L I w N cs arr->∃gI,bn ρ L I w N cs' gI/\Instr.fill place arr (ps.map fun p=>(p.1,a.eval p.2))=some gI
 |[],cs,_,h=>⟨cs,h,fun arr hc=>⟨arr,hc,rfl⟩⟩
 |(i,x)::r,cs,hr,h=>by
  simp only[pJ,oD]at h
  cases hf:fs[i]? with
  |none=>rw[hf]at h; exact h.elim
  |some q=>
   obtain⟨off,t⟩:=q
   rw[hf]at h
   obtain⟨hc1,h⟩:=ax h
   simp only[Bool.and_eq_true,beq_iff_eq,Bool.not_eq_true',beq_eq_false_iff_ne]at hc1
   obtain⟨⟨⟨hs,Ys⟩,hl⟩,hfit⟩:=hc1
   obtain⟨cs',hk,hall⟩:=qw hp r _ (fun p hp=>hr p (List.mem_cons_of_mem _ hp)) h
   refine⟨cs',hk,fun arr hc=> ?_⟩
   have hv:=bn.fE (hr (i,x) List.mem_cons_self) hs
   obtain⟨qZ,ha1,ha2⟩:=sA (rest:=r.map fun p=>(p.1,a.eval p.2)) (hp i off t hf) hv hl (by rcases u4 hfit with h|h; exact h; exact (Ys h).elim) hc
   obtain⟨gI,EJ,Yt⟩:=hall qZ ha1
   exact⟨gI,EJ,by rw[List.map_cons,ha2]; exact Yt⟩
theorem qx{ρ:Place}{L:aY}{I:Nat->Prop}{w:World}{N:Nat->Prop}{a:Act}{sz:Nat}{K:List AV->Prop}:∀(ps:List (Nat × Operand))(cs:List AV),(∀p ∈ ps,aL ρ L I w N (ev F p.2) (a.eval p.2))->
  oE sz (pJ F ps) cs K->∃cs',K cs'/\∀arr,bn ρ L I w N cs arr->∃gI,bn ρ L I w N cs' gI/\Instr.fill (fun i=>some (i*sz,sz)) arr (ps.map fun p=>(p.1,a.eval p.2))=some gI
 |[],cs,_,h=>⟨cs,h,fun arr hc=>⟨arr,hc,rfl⟩⟩
 |(i,x)::r,cs,hr,h=>by
  simp only[pJ,oE]at h
  obtain⟨hc1,h⟩:=ax h
  simp only[Bool.and_eq_true,beq_iff_eq,Bool.not_eq_true',beq_eq_false_iff_ne]at hc1
  obtain⟨⟨⟨hs,Ys⟩,hl⟩,hfit⟩:=hc1
  obtain⟨cs',hk,hall⟩:=qx r _ (fun p hp=>hr p (List.mem_cons_of_mem _ hp)) h
  refine⟨cs',hk,fun arr hc=> ?_⟩
  have hv:=bn.fE (hr (i,x) List.mem_cons_self) hs
  obtain⟨qZ,ha1,ha2⟩:=sA (place:=fun i=>some (i*sz,sz)) (i:=i) (off:=i*sz) (size:=sz) (rest:=r.map fun p=>(p.1,a.eval p.2)) rfl hv hl (by rcases u4 hfit with h|h; exact h; exact (Ys h).elim) hc
  obtain⟨gI,EJ,Yt⟩:=hall qZ ha1
  exact⟨gI,EJ,by rw[List.map_cons,ha2]; exact Yt⟩
theorem qy(hT:cN P T):∀(gs:List Field),E3 T.d (gs.map fun f=>(f.offset,f.type))=true->
  gs.mapM (fun f=>(P.info? f.type).map fun i=>(f.offset,i.size))=some (gs.map fun f=>(f.offset,T.s f.type))
 |[],_=>rfl
 |f::r,h=>by
  simp only[List.map_cons,E3,Bool.and_eq_true]at h
  obtain⟨D,i,z,_,_,hi,hs,_⟩:=hT f.type (TD.dB h.1)
  have ih:=qy hT r h.2
  simp[List.mapM_cons,hi,hs,ih]
theorem Aj(hT:cN P T){t:Nat}{ps:Array (Nat × Operand)}{K:AV->Prop}(ho:o.op= .build t ps)(h:Aa T t (pJ F ps.toList) K):∃av,bC P X o F M av [] []/\K av:=by
 have Ak:∀p ∈ ps.toList,p.2 ∈ o.op.operands.toList:=fun p hp=>by
  simp only[ho,Op.operands]
  exact List.mem_map.2 ⟨p,hp,rfl⟩
 unfold Aa at h
 cases ht:T.d t with
 |struct fs=>
  rw[ht]at h
  simp only at h
  obtain⟨hc,h⟩:=ax h
  simp only[Bool.and_eq_true,beq_iff_eq]at hc
  obtain⟨⟨W6,oI⟩,hlen⟩:=hc
  obtain⟨D,it,z,hD,hf,hi,hsz,_,hz,iu⟩:=hT t (by rw[ht]; simp)
  obtain⟨gs,rfl,Ma⟩:=jx ht hf
  have q9:∀(i off t':Nat),fs[i]? =some (off,t')->((gs.toList.map fun f=>(f.offset,T.s f.type)).toArray[i]?)=some (off,T.s t'):=by
   intro i off t' hi'
   rw[Ma,List.getElem?_map]at hi'
   cases hg:gs.toList[i]? with
   |none=>simp[hg]at hi'
   |some g=>
    simp only[hg,Option.map_some,Option.some.injEq,Prod.mk.injEq]at hi'
    have uq:gs[i]? =some g:=by simpa using hg
    simp[uq,hi'.1,hi'.2]
  have hk0:∃cs',K (.agg cs')/\∀ρ L I w N (a:Act),(∀p ∈ ps.toList,aL ρ L I w N (ev F p.2) (a.eval p.2))->∀arr,bn ρ L I w N (cells (T.z t)) arr->∃gI,bn ρ L I w N cs' gI/\
    Instr.fill ((gs.toList.map fun f=>(f.offset,T.s f.type)).toArray[·]?) arr (ps.toList.map fun p=>(p.1,a.eval p.2))=some gI:=by
   obtain⟨cs',hcs,hk⟩:=u6 (K:=fun cs=>K (.agg cs)) ps.toList _ h
   refine⟨cs',hk,fun ρ L I w N a hr arr hc=> ?_⟩
   obtain⟨Yu,h1,h2⟩:=qw (place:=fun i=>((gs.toList.map fun f=>(f.offset,T.s f.type)).toArray[i]?)) q9 ps.toList _ hr hcs
   subst h1
   exact h2 arr hc
  obtain⟨cs',hk,hall⟩:=hk0
  refine⟨.agg cs',aB fun M' N ρ I a w hW hU hN=> ?_,hk⟩
  have hr:∀p ∈ ps.toList,aL ρ (lens M') I w N (ev F p.2) (a.eval p.2):=fun p hp=>ao hU _ (Ak p hp)
  obtain⟨gI,ha1,ha2⟩:=hall ρ (lens M') I w N a hr z.cells (by rw[iu]; exact bn.fE (ga _ _ _ _ _ z) (by rw[<-iu]; exact oI))
  refine⟨.agg gI,?_,ha1.agg⟩
  have hb:P.built t (ps.map fun (i,x)=>(i,a.eval x)).toList=some gI:=by
   unfold Program.built
   simp only[hi,hD,hz,qy hT gs.toList (by rw[<-Ma]; exact W6),Array.toList_map]
   exact ha2
  simp only[execOp,ho,Sem.run_bind,run_build w t _ _ hb,Result.andThen_ok,Sem.run_pure]
 |arr m e=>
  rw[ht]at h
  simp only at h
  obtain⟨hc,h⟩:=ax h
  simp only[Bool.and_eq_true,beq_iff_eq]at hc
  obtain⟨⟨hok,oI⟩,hlen⟩:=hc
  obtain⟨D,it,z,hD,hf,hi,hsz,_,hz,iu⟩:=hT t (by rw[ht]; simp)
  have fW:=dX ht hf
  subst fW
  obtain⟨_,ie,_,_,_,hie,lr,_⟩:=hT e (TD.dB hok)
  obtain⟨cs',hcs,hk⟩:=u7 (K:=fun cs=>K (.agg cs)) ps.toList _ h
  refine⟨.agg cs',aB fun M' N ρ I a w hW hU hN=> ?_,hk⟩
  have hr:∀p ∈ ps.toList,aL ρ (lens M') I w N (ev F p.2) (a.eval p.2):=fun p hp=>ao hU _ (Ak p hp)
  obtain⟨Yu,h1,h2⟩:=qx ps.toList _ hr hcs
  subst h1
  obtain⟨gI,ha1,ha2⟩:=h2 z.cells (by rw[iu]; exact bn.fE (ga _ _ _ _ _ z) (by rw[<-iu]; exact oI))
  refine⟨.agg gI,?_,ha1.agg⟩
  have hb:P.built t (ps.map fun (i,x)=>(i,a.eval x)).toList=some gI:=by
   unfold Program.built
   simp only[hi,hD,hz,hie,lr,Array.toList_map]
   exact ha2
  simp only[execOp,ho,Sem.run_bind,run_build w t _ _ hb,Result.andThen_ok,Sem.run_pure]
 |_=>rw[ht]at h; exact h.elim
end Go.AM
namespace Go.AM
open Go.RowKit
variable {P:Program} {T:TT} {X:bL} {o:Oper} {F:aT} {M:bf}
def iW(ρ:Place)(L:aY)(I:Nat->Prop)(w:World)(N:Nat->Prop)(sz:Nat)(es:List (List AV))(arr:Array Value):Prop:=
 es.length*sz<=arr.size/\(∀e ∈ es,e.length=sz)/\∀i j,i<es.length->j<sz->∃u,arr[i*sz+j]? =some u/\u.oneCell'=true/\aL ρ L I w N ((es.getD i []).getD j .bad) u
theorem iW.set{ρ:Place}{L:aY}{I:Nat->Prop}{w:World}{N:Nat->Prop}{sz:Nat}{es:List (List AV)}{arr pR:Array Value}{vs:List AV}{i:Nat}(h:iW ρ L I w N sz es arr)(hi:i<es.length)
  (hv:bn ρ L I w N vs pR) (hl:vs.length=sz):iW ρ L I w N sz (es.set i vs) (pR.zipIdx.foldl (fun cs (p:Value × Nat)=>cs.setIfInBounds (i*sz+p.2) p.1) arr):=by
 have e:pR.zipIdx.foldl (fun cs (p:Value × Nat)=>cs.setIfInBounds (i*sz+p.2) p.1) arr=(pR.toList.zipIdx 0).foldl (fun cs (p:Value × Nat)=>cs.setIfInBounds (i*sz+p.2) p.1) arr:=by
  rw[<-Array.foldl_toList,Array.toList_zipIdx]
 rw[e]
 obtain⟨h1,h2,h3⟩:=h
 have hvl:pR.toList.length=sz:=by have:=hv.1; simp; omega
 have hb:i*sz+sz<=es.length*sz:=by
  have:(i+1)*sz<=es.length*sz:=Nat.mul_le_mul_right _ hi
  rwa[Nat.add_mul,Nat.one_mul]at this
 obtain⟨g1,g2⟩:=jz (i*sz) pR.toList 0 arr (by rw[hvl]; omega)
 refine⟨by rw[g1]; simpa using h1,fun e he=> ?_,fun p q hp hq=> ?_⟩
 ·rcases List.mem_or_eq_of_mem_set he with he|rfl
  ·exact h2 e he
  ·exact hl
 ·rw[g2,hvl]
  simp only[Nat.add_zero]
  simp only[List.length_set]at hp
  by_cases hpi:p=i
  ·subst hpi
   rw[if_pos (by omega)]
   have:(es.set p vs).getD p []=vs:=by simp[List.getD_eq_getElem?_getD,hp]
   rw[this]
   have e2:p*sz+q - p*sz=q:=by omega
   rw[e2]
   obtain⟨u,hu,hr⟩:=hv.2 q (by omega)
   exact⟨u,by simpa using hu,hr⟩
  ·rw[if_neg]
   ·have:(es.set i vs).getD p []=es.getD p []:=by simp[List.getD_eq_getElem?_getD,List.getElem?_set,Ne.symm hpi]
    rw[this]
    exact h3 p q hp hq
   ·rintro⟨ha,hb'⟩
    rcases Nat.lt_or_gt_of_ne hpi with hlt|hgt
    ·have:(p+1)*sz<=i*sz:=Nat.mul_le_mul_right _ hlt
     rw[Nat.add_mul,Nat.one_mul]at this
     omega
    ·have:(i+1)*sz<=p*sz:=Nat.mul_le_mul_right _ hgt
     rw[Nat.add_mul,Nat.one_mul]at this
     omega
theorem u9{sz:Nat}{K:List (List AV)->Prop}:∀(ps:List (Nat × Operand))(es:List (List AV)),lm sz (pJ F ps) es K->∃es',lm sz (pJ F ps) es (fun x=>x=es')/\K es'
 |[],es,h=>⟨es,rfl,h⟩
 |(i,x)::r,es,h=>by
  simp only[pJ,lm]at h ⊢
  obtain⟨hc1,h⟩:=ax h
  obtain⟨es',h1,h2⟩:=u9 r _ h
  exact⟨es',aE hc1 h1,h2⟩
theorem qz{ρ:Place}{L:aY}{I:Nat->Prop}{w:World}{N:Nat->Prop}{a:Act}{sz:Nat}{K:List (List AV)->Prop}:∀(ps:List (Nat × Operand))(es:List (List AV)),(∀p ∈ ps,aL ρ L I w N (ev F p.2) (a.eval p.2))->
  lm sz (pJ F ps) es K->∃es',K es'/\es'.length=es.length/\∀arr,arr.size=es.length*sz->iW ρ L I w N sz es arr->∃gI,gI.size=arr.size/\iW ρ L I w N sz es' gI/\Instr.fill (fun i=>some (i*sz,sz)) arr (ps.map fun p=>(p.1,a.eval p.2))=some gI
 |[],es,_,h=>⟨es,h,rfl,fun arr _ hc=>⟨arr,rfl,hc,rfl⟩⟩
 |(i,x)::r,es,hr,h=>by
  simp only[pJ,lm]at h
  obtain⟨hc1,h⟩:=ax h
  simp only[Bool.and_eq_true,beq_iff_eq]at hc1
  obtain⟨⟨hs,hl⟩,hfit⟩:=hc1
  obtain⟨es',hk,hle,hall⟩:=qz r _ (fun p hp=>hr p (List.mem_cons_of_mem _ hp)) h
  refine⟨es',hk,by simpa using hle,fun arr hsz hc=> ?_⟩
  have hi:i<es.length:=by simp at hfit; omega
  have hv:=bn.fE (hr (i,x) List.mem_cons_self) hs
  have h1:(a.eval x).cells.size=sz:=by have:=hv.1; simp at this; omega
  have hb:i*sz+sz<=es.length*sz:=by
   have:(i+1)*sz<=es.length*sz:=Nat.mul_le_mul_right _ hi
   rwa[Nat.add_mul,Nat.one_mul]at this
  have h3:¬ ((a.eval x).cells.size≠sz\/ i*sz+ (a.eval x).cells.size>arr.size):=by
   rintro (h|h)
   ·exact h h1
   ·omega
  have ID:=hc.set hi hv hl
  have Rb:((a.eval x).cells.zipIdx.foldl (fun cs (p:Value × Nat)=>cs.setIfInBounds (i*sz+p.2) p.1) arr).size=arr.size:=by
   rw[<-Array.foldl_toList,Array.toList_zipIdx]
   exact (jz (i*sz) _ 0 arr (by simp; omega)).1
  obtain⟨gI,ha0,ha1,ha2⟩:=hall _ (by rw[Rb]; simpa using hsz) ID
  refine⟨gI,ha0.trans Rb,ha1,?_⟩
  simp only[List.map_cons,Instr.fill,Bool.or_eq_true,decide_eq_true_eq,if_neg h3]
  exact ha2
theorem iW.E7{ρ:Place}{L:aY}{I:Nat->Prop}{w:World}{N:Nat->Prop}{z:Value}{a:AV}{sz n:Nat}(h:bn ρ L I w N (cells a) z.cells)(hl:(cells a).length=sz)(hpos:sz≠0):
  iW ρ L I w N sz (List.replicate n (cells a)) ((Array.range (n*sz)).map (z.cells[· % z.cells.size]!)):=by
 have hz:z.cells.size=sz:=by rw[h.1,hl]
 refine⟨by simp,fun e he=>by rw[(List.mem_replicate.1 he).2]; exact hl,fun i j hi hj=> ?_⟩
 simp only[List.length_replicate]at hi
 have hlt:i*sz+j<n*sz:=by
  have:(i+1)*sz<=n*sz:=Nat.mul_le_mul_right _ hi
  rw[Nat.add_mul,Nat.one_mul]at this
  omega
 have Yv:(i*sz+j) % z.cells.size=j:=by
  rw[hz,Nat.add_comm,Nat.mul_comm,Nat.add_mul_mod_self_left]
  exact Nat.mod_eq_of_lt hj
 obtain⟨u,hu,h1,hr⟩:=h.2 j (by omega)
 refine⟨u,?_,h1,?_⟩
 ·have hj':j<z.cells.size:=by omega
  have EL:z.cells[j]=u:=by rw[Array.getElem?_eq_getElem hj']at hu; exact Option.some.inj hu
  simp[hlt,Yv,hj',EL]
 ·have:(List.replicate n (cells a)).getD i []=cells a:=by simp[List.getD_eq_getElem?_getD,hi]
  rw[this]; exact hr
theorem qA{n e len cap sz:Nat}{es:List (List AV)}(hlen:es.length=len)
  (h:∀M' N ρ I (ac:Act) w,bY X ρ I M' N w->(∀s ∈ dq o.op,aL ρ (lens M') I w N (look F s) (ac.tmps.getD s undef))->
    ∃arr,(execOp ac.eval o).run P w= .ok (.value (.slice (some ⟨w.heap.size,0,none⟩) len cap)) (w.alloc (.cells arr e))/\arr.size=cap*sz/\len<=cap/\cap<=maxLen/\iW ρ (lens M') I w N sz es arr):bC P X o F M (.bh n len) [(n,⟨e,sz,es,none⟩)] [n]:=by
 refine⟨fun p hp=> .inl (by simp at hp; simp[hp]),fun M' N ρ I ac w hW hU hN hF=> ?_⟩
 obtain⟨arr,hrun,h1,h2,h3,h4⟩:=h M' N ρ I ac w hW hU
 have hn:¬N n:=hF n (by simp)
 obtain⟨ρ1,E,W,hρ,hl⟩:=hW.new hn ⟨e,sz,es,none⟩ rfl arr cap h4.2.1 (by simpa using hlen ▸ h2) h3 h1 h4.2.2
 unfold bI
 rw[hrun]
 have IC:fQ N [(n,(⟨e,sz,es,none⟩:be))] n:= .inr ⟨_,List.mem_singleton.2 rfl⟩
 refine⟨ρ1,I,E,W,?_⟩
 exact gH IC (hlen ▸ hl) hρ
theorem rb(hT:cN P T){n t len:Nat}{ps:Array (Nat × Operand)}{e:Nat}{es:List (List AV)}(ho:o.op= .buildSlice t len ps)(ht:T.d t= .slice e)(hok:(T.d e).ok=true)
  (hs:bH (T.z e)=true) (hl:(cells (T.z e)).length=T.s e) (hz:T.s e≠0) (hb:len*T.s e<=16777216) (h:lm (T.s e) (pJ F ps.toList) (List.replicate len (cells (T.z e))) (fun x=>x=es)):bC P X o F M (.bh n len) [(n,⟨e,T.s e,es,none⟩)] [n]/\es.length=len:=by
 have Ak:∀p ∈ ps.toList,p.2 ∈ o.op.operands.toList:=fun p hp=>by
  simp only[ho,Op.operands]
  exact List.mem_map.2 ⟨p,hp,rfl⟩
 obtain⟨D,it,z,hD,hf,hi,hsz,_⟩:=hT t (by rw[ht]; simp)
 have fW:=bu ht hf
 subst fW
 obtain⟨_,ie,ze,_,_,hie,lr,_,Mb,iu⟩:=hT e (TD.dB hok)
 have hlen:es.length=len:=by
  clear Ak
  have:∀(ps:List (Nat × Operand))(oJ:List (List AV)),lm (T.s e) (pJ F ps) oJ (fun x=>x=es)->es.length=oJ.length:=by
   intro ps
   induction ps with
   |nil=>intro oJ h; simp only[pJ,lm]at h; rw[h]
   |cons p r ih=>
    intro oJ h
    obtain⟨i,x⟩:=p
    simp only[pJ,lm]at h
    obtain⟨_,h⟩:=ax h
    simpa using ih _ h
  simpa using this ps.toList _ h
 refine⟨qA (cap:=len) hlen (fun M' N ρ I a w hW hU=> ?_),hlen⟩
 have hr:∀p ∈ ps.toList,aL ρ (lens M') I w N (ev F p.2) (a.eval p.2):=fun p hp=>ao hU _ (Ak p hp)
 obtain⟨es',h1,h2,h3⟩:=qz (ρ:=ρ) (L:=lens M') (I:=I) (w:=w) (N:=N) (a:=a) ps.toList _ hr h
 subst h1
 have hc:bn ρ (lens M') I w N (cells (T.z e)) ze.cells:=by rw[iu]; exact bn.fE (ga _ _ _ _ _ ze) (by rw[<-iu]; exact hs)
 obtain⟨arr,ha0,ha1,ha2⟩:=h3 ((Array.range (len*T.s e)).map (ze.cells[· % ze.cells.size]!)) (by simp) (iW.E7 hc hl hz)
 have hmax:len<=maxLen:=by
  have:len*1<=len*T.s e:=Nat.mul_le_mul_left _ (by omega)
  simp only[maxLen]; omega
 refine⟨arr,?_,by rw[ha0]; simp,Nat.le_refl _,hmax,ha1⟩
 have hng:¬len*ie.size>2 ^ 24:=by rw[lr]; omega
 have E8:Instr.fill (fun i=>some (i*ie.size,ie.size)) ((Array.range (len*ie.size)).map (ze.cells[· % ze.cells.size]!)) (ps.map fun p=>(p.1,a.eval p.2)).toList=some arr:=by
  rw[lr,Array.toList_map]; exact ha2
 by_cases h0:len*ie.size=0
 ·have hl0:len=0:=by
   rcases Nat.mul_eq_zero.1 h0 with h|h
   ·exact h
   ·rw[lr]at h; exact (hz h).elim
  subst hl0
  have e0:∀f:Nat->Value,(Array.range (0*ie.size)).map f= #[]:=fun f=>by rw[Nat.zero_mul]; exact Array.eq_empty_of_size_eq_zero (by simp)
  rw[e0]at E8
  have wC:Instr.fill (fun i=>some (i*ie.size,ie.size)) #[] (ps.toList.map fun p=>(p.1,a.eval p.2))=some arr:=by
   rw[<-E8,Array.toList_map]
  simp only[execOp,ho,Instr.buildSlice,Sem.run_bind,run_underlying hD,Result.andThen_ok,bt hie,if_neg hng,if_pos h0,Sem.run_pure,Array.toList_map,e0,wC,newRow,run_newObj,World.alloc_eq]
 ·have wC:Instr.fill (fun i=>some (i*ie.size,ie.size)) ((Array.range (len*ie.size)).map (ze.cells[· % ze.cells.size]!)) (ps.toList.map fun p=>(p.1,a.eval p.2))=some arr:=by simpa using E8
  simp only[execOp,ho,Instr.buildSlice,Sem.run_bind,run_underlying hD,Result.andThen_ok,bt hie,if_neg hng,if_neg h0,gb hie Mb,Sem.run_pure,Array.toList_map,wC,newRow,run_newObj,World.alloc_eq]
end Go.AM
namespace Go.AM
open Go.RowKit
variable {P:Program} {T:TT} {X:bL} {o:Oper} {F:aT} {M:bf}
theorem xG{op:BinOp}{t:TypeId}{x y:Operand}{k k':IntKind}{a b:Int}{w:World}:(eqGuard op t x y (.int k a) (.int k' b)).run P w= .ok () w:=by
 unfold eqGuard
 cases op<;>simp
theorem E9{op:BinOp}{xt yt:TypeId}{x y:Operand}{K:AV->Prop}(ho:o.op= .binOp op xt x y yt)(h:Iz op (ev F x) (ev F y) K):∃av,bC P X o F M av [] []/\K av:=by
 have hx:x ∈ o.op.operands.toList:=by simp[ho,Op.operands]
 have hy:y ∈ o.op.operands.toList:=by simp[ho,Op.operands]
 cases bJ:ev F x with
 |int k a=>
  cases Ii:ev F y with
  |int k' b=>
   rw[bJ,Ii]at h
   have go:∀av v,(∀ρ L I w N,aL ρ L I w N av v)->(∀w,(binOp op xt (.int k a) (.int k' b)).run P w= .ok v w)->K av->∃av,bC P X o F M av [] []/\K av:=by
    intro av v hr hrun hk
    refine⟨av,aB fun M' N ρ I ac w hW hU hN=>⟨v,?_,hr _ _ _ _ _⟩,hk⟩
    have r1:=bv (bJ ▸ ao hU x hx)
    have r2:=bv (Ii ▸ ao hU y hy)
    simp only[execOp,ho,r1,r2,Sem.run_bind,xG,Result.andThen_ok,hrun,Sem.run_pure]
   have Qu:∀n,(∀w,(binOp op xt (.int k a) (.int k' b)).run P w= .ok (.int k n) w)->K (.int k n)->∃av,bC P X o F M av [] []/\K av:=fun n=>go _ _ (fun _ _ _ _ _=> .int _ _)
   have goB:∀t,(∀w,(binOp op xt (.int k a) (.int k' b)).run P w= .ok (.bool t) w)->K (.bool t)->∃av,bC P X o F M av [] []/\K av:=fun n=>go _ _ (fun _ _ _ _ _=> .bool _)
   clear go
   cases op<;>simp only[Iz]at h
   case shl=>
    have:¬b<0:=by omega
    exact Qu _ (fun w=>by simp[binOp,Op.shift,this,jY]) h.2
   case shr=>
    have:¬b<0:=by omega
    exact Qu _ (fun w=>by simp[binOp,Op.shift,this,bz]) h.2
   case quo=>
    obtain⟨h0,h1⟩:=h
    obtain⟨hk,h2⟩:=ax h1
    have hk:=iU hk; subst hk
    exact Qu _ (fun w=>by simp[binOp,Op.intDiv,h0,wr]) h2
   case rem=>
    obtain⟨h0,h1⟩:=h
    obtain⟨hk,h2⟩:=ax h1
    have hk:=iU hk; subst hk
    exact Qu _ (fun w=>by simp[binOp,Op.intDiv,h0]) h2
   all_goals
    obtain⟨hk,h2⟩:=ax h
    have hk:=iU hk; subst hk
    first
     |(refine Qu _ (fun w=> ?_) h2; simp[binOp,Op.intArith,wr]; done)
     |(refine Qu _ (fun w=> ?_) h2; simp only[binOp,ne_eq,not_true_eq_false,if_false]; rfl)
     |(refine goB _ (fun w=> ?_) h2; simp[binOp,Op.intCmp]; done)
  |_=>rw[bJ,Ii]at h; cases op<;>exact h.elim
 |_=>rw[bJ]at h; cases op<;>exact h.elim
theorem IE{op:UnOp}{xt:TypeId}{x:Operand}{K:AV->Prop}(ho:o.op= .unOp op xt x)(h:Q5 op (ev F x) K):∃av,bC P X o F M av [] []/\K av:=by
 have hx:x ∈ o.op.operands.toList:=by simp[ho,Op.operands]
 cases bJ:ev F x with
 |int k n=>
  rw[bJ]at h
  cases op<;>simp only[Q5]at h
  ·refine⟨_,aB fun M' N ρ I ac w hW hU hN=>⟨.int k (wr k (0 - n)),?_,.int _ _⟩,h⟩
   have r1:=bv (bJ ▸ ao hU x hx)
   simp[execOp,ho,r1,Op.unary,Op.intArith,wr]
  ·refine⟨_,aB fun M' N ρ I ac w hW hU hN=>⟨.int k (cZ .xor k (if k.signed then -1 else k.max) n),?_,.int _ _⟩,h⟩
   have r1:=bv (bJ ▸ ao hU x hx)
   simp[execOp,ho,r1,Op.unary,Op.intBits,cZ]
 |bool b=>
  rw[bJ]at h
  cases op<;>simp only[Q5]at h
  refine⟨_,aB fun M' N ρ I ac w hW hU hN=>⟨.bool !b,?_,.bool _⟩,h⟩
  have r1:=gg (bJ ▸ ao hU x hx)
  simp[execOp,ho,r1,Op.unary]
 |_=>rw[bJ]at h; cases op<;>exact h.elim
theorem run_convert_int{s t:Nat}{k k':IntKind}{n:Int}{w:World}{D:TypeDesc}(hs:P.underlying s=some D)(ht:P.underlying t=some (.int k)):(convert s t (.int k' n)).run P w= .ok (.int k (wr k n)) w:=by
 simp[convert,run_underlying hs,run_underlying ht,Conv.intToInt,wr]
theorem u'(hT:cN P T){s t:Nat}{x:Operand}{K:AV->Prop}(ho:o.op= .convert s t x)(hs:(T.d s).ok=true)(h:Q6 (T.d t) (ev F x) K):∃av,bC P X o F M av [] []/\K av:=by
 have hx:x ∈ o.op.operands.toList:=by simp[ho,Op.operands]
 obtain⟨Ds,_,_,W7,_⟩:=hT s (TD.dB hs)
 cases ht:T.d t with
 |int k=>
  rw[ht]at h
  obtain⟨D,it,z,hD,hf,_⟩:=hT t (by rw[ht]; simp)
  have fW:=fits_int ht hf
  subst fW
  cases bJ:ev F x with
  |int k' n=>
   rw[bJ]at h
   refine⟨_,aB fun M' N ρ I ac w hW hU hN=>⟨.int k (wr k n),?_,.int _ _⟩,h⟩
   have r1:=bv (bJ ▸ ao hU x hx)
   simp only[execOp,ho,r1,Sem.run_bind,run_convert_int W7 hD,Result.andThen_ok,Sem.run_pure]
  |_=>rw[bJ]at h; exact h.elim
 |str=>
  rw[ht]at h
  obtain⟨D,it,z,hD,hf,_⟩:=hT t (by rw[ht]; simp)
  have fW:=gf ht hf
  subst fW
  cases bJ:ev F x with
  |str l=>
   rw[bJ]at h
   refine⟨_,aB fun M' N ρ I ac w hW hU hN=>⟨.string ⟨l.toArray⟩,?_,.str _⟩,h⟩
   have r1:=gW (bJ ▸ ao hU x hx)
   simp[execOp,ho,r1,convert,run_underlying W7,run_underlying hD]
  |_=>rw[bJ]at h; exact h.elim
 |_=>rw[ht]at h; exact h.elim
theorem uz{x:Operand}{K:AV->Prop}{Ml:Mem}(hM:M=aa Ml)(ho:o.op= .nilCheck x)
  (h:(∃n len i q,ev F x= .loc n len i q/\alive Ml n len fun _=>K (.loc n len i q))\/(∃e q,ev F x= .bc e q/\K (.bc e q))\/(∃f cs,ev F x= .bK f cs/\K (.bK f cs))):∃av,bC P X o F M av [] []/\K av:=by
 have hx:x ∈ o.op.operands.toList:=by simp[ho,Op.operands]
 rcases h with⟨n,len,i,q,bJ,h⟩|⟨e,q,bJ,h⟩|⟨f,cs,bJ,h⟩
 ·simp only[alive]at h
  cases hb:aa Ml n with
  |none=>rw[hb]at h; exact h.elim
  |some b=>
   rw[hb]at h
   obtain⟨hc1,hmp,hk⟩:=ax h
   have hl:b.ln=len:=by simpa using hc1
   refine⟨_,aB fun M' N ρ I a w hW hU hN=> ?_,hk⟩
   have r1:=ao hU x hx
   rw[bJ]at r1
   obtain⟨sl,dJ,fi⟩:=bg (F:=F) x hx (n:=n) (by rw[bJ]; simp[AV.names])
   have bM:M' n=some b:=(hN sl dJ n fi).trans (by rw[hM]; exact hb)
   have dr:lens M' n=some (len,b.sz):=by rw[az]; exact⟨b,bM,hl,rfl⟩
   obtain⟨hn,g,cap,hρ,hv⟩:=fI r1 dr
   exact⟨_,by simp only[execOp,ho,hv,Sem.run_pure],gG hn dr hρ⟩
 ·refine⟨_,aB fun M' N ρ I a w hW hU hN=> ?_,h⟩
  have r1:=ao hU x hx
  rw[bJ]at r1
  generalize hv:a.eval x=v at r1
  cases r1 with
  |bc _ _ b q' c hI h1 hcell hr=>exact⟨_,by simp only[execOp,ho,hv,Sem.run_pure],.bc e q b q' c hI h1 hcell hr⟩
 ·refine⟨_,aB fun M' N ρ I a w hW hU hN=> ?_,h⟩
  have r1:=ao hU x hx
  rw[bJ]at r1
  generalize hv:a.eval x=v at r1
  cases r1 with
  |bK f _ vs hl hr=>exact⟨_,by simp only[execOp,ho,hv,Sem.run_pure],.bK f cs vs hl hr⟩
  |qm f _ vs hl hr=>exact⟨_,by simp only[execOp,ho,hv,Sem.run_pure],.qm f cs vs hl hr⟩
theorem nY:∀l:List Operand,(oC F l).length=l.length
 |[]=>rfl
 |_::r=>by simp[oC,nY r]
theorem xH:∀(l:List Operand)(j:Nat)(hj:j<l.length),(oC F l).getD j .bad=ev F l[j]
 |x::r,0,_=>rfl
 |x::r,j+1,h=>by simpa[oC]using xH r j (by simpa using h)
theorem iX{ρ:Place}{L:aY}{I:Nat->Prop}{w:World}{N:Nat->Prop}{a:Act}(l:List Operand)(h:∀x ∈ l,aL ρ L I w N (ev F x) (a.eval x)):dp ρ L I w N (oC F l) (l.map a.eval):=by
 refine⟨by simp[nY],fun j hj=> ?_⟩
 rw[nY]at hj
 rw[xH l j hj]
 have:(l.map a.eval).getD j default=a.eval l[j]:=by simp[List.getD_eq_getElem?_getD,hj]
 rw[this]
 exact h _ (List.getElem_mem _)
theorem uA{f:Nat}{first aP:Array Operand}(ho:o.op= .makeFunc (.func f) first aP)(h0:first.isEmpty=true):bC P X o F M (.bK (.fn f) (oC F aP.toList)) [] []:=by
 refine aB fun M' N ρ I a w hW hU hN=>⟨.func (.func f) #[] ((aP.toList.map a.eval).toArray),?_,?_⟩
 ·have:first= #[]:=by simpa using h0
  subst this
  have e:Array.map a.eval aP=(List.map a.eval aP.toList).toArray:=by apply Array.ext'; simp
  simp[execOp,ho,Instr.makeFunc,e]
 ·have:=iX (F:=F) (ρ:=ρ) (L:=lens M') (I:=I) (w:=w) (N:=N) (a:=a) aP.toList (fun x hx=>ao hU x (by simp only[ho,Op.operands]; simp only[Array.toList_append]; exact List.mem_append_right _ hx))
  exact .bK f _ _ this.1 this.2
theorem wD{x:Operand}{i:Nat}{vs:List AV}(ho:o.op= .extract x i)(hx':ev F x= .aF vs)(hi:i<vs.length):bC P X o F M (vs.getD i .bad) [] []:=by
 have hx:x ∈ o.op.operands.toList:=by simp[ho,Op.operands]
 refine aB fun M' N ρ I a w hW hU hN=> ?_
 have r1:=ao hU x hx
 rw[hx']at r1
 generalize hv:a.eval x=v at r1
 cases r1 with
 |aF _ us hl hr=>
  have hi':i<us.length:=by omega
  refine⟨us.getD i default,?_,hr i hi⟩
  have:us.toArray[i]? =some (us.getD i default):=by simp[hi',List.getD_eq_getElem?_getD]
  simp only[execOp,ho,hv,Instr.extract,this,Sem.run_bind,Sem.run_pure,Result.andThen_ok]
end Go.AM
namespace Go.AM
open Go.RowKit
variable {P:Program} {T:TT} {X:bL} {o:Oper} {F:aT} {M:bf}
theorem rc{α:Type}(l:List α)(h q i:Nat)(d:α)(hi:i<h - q):((l.take h).drop q).getD i d=l.getD (q+i) d:=by
 simp only[List.getD_eq_getElem?_getD,List.getElem?_drop,List.getElem?_take]
 rw[if_pos (by omega)]
theorem xI{ρ:Place}{L:aY}{I:Nat->Prop}{w:World}{N:Nat->Prop}{sz:Nat}{es:List (List AV)}{a:Option Addr}{len cap:Nat}(h:aL ρ L I w N (.aG sz es) (.slice a len cap))(l q m:Nat)
  (h1:l<=q) (h2:q<=es.length) (h3:q<=m) (h4:m<=cap):len=es.length/\aL ρ L I w N (.aG sz ((es.take q).drop l)) (.slice (if m=l then a else a.map (·.add (l*sz))) (q - l) (m - l)):=by
 cases h with
 |cI _ _ _ hc=>
  simp at h2
  have hl:l=0:=by omega
  subst hl; subst h2
  exact⟨rfl,by simpa using aL.cI sz _ (m - 0) (by omega)⟩
 |aG _ _ b o _ c hl hc hI hs Q9 hcell hr=>
  refine⟨rfl,?_⟩
  by_cases hz:q - l=0
  ·have e:(es.take q).drop l=[]:=List.eq_nil_of_length_eq_zero (by simp; omega)
   rw[e,hz]
   exact .cI sz _ _ (by omega)
  ·have hm:m≠l:=by omega
   have hlen:((es.take q).drop l).length=q - l:=by simp; omega
   rw[if_neg hm]
   have e:(Option.map (fun x:Addr=>x.add (l*sz)) (some ⟨b,o,none⟩))=some ⟨b,o+l*sz,none⟩:=by simp[bQ]
   rw[e,<-hlen]
   refine .aG sz _ b (o+l*sz) (m - l) (fun i j=>c (l+i) j) (by omega) (by omega) hI (fun e he=>hs e (List.mem_of_mem_take (List.mem_of_mem_drop he))) (fun i j hi hj=>Q9 _ _ (by omega) hj) (fun i j hi hj=> ?_) (fun i j hi hj=> ?_)
   ·have:=hcell (l+i) j (by omega) hj
    rw[Nat.add_mul,<-Nat.add_assoc]at this
    exact this
   ·rw[rc _ _ _ _ _ (by omega)]
    exact hr (l+i) j (by omega) hj
theorem run_sliceBound{k:IntKind}{i:Int}{y:Nat}{c:BoundsCode}{w:World}(h:0<=i/\i<=y):(Instr.sliceBound (.int k i) y c).run P w= .ok i.toNat w:=by
 simp[Instr.sliceBound,asIntOf,h]
theorem hY{t e:Nat}{ie:TypeInfo}{a:Option Addr}{len cap:Nat}{lo hi mx:Option Value}{w:World}(hD:P.underlying t=some (.slice e))(hi':P.info? e=some ie){l h m:Nat}
  (hb:(Instr.sliceBounds true len cap lo hi mx).run P w= .ok (l,h,m) w):(Instr.sliceAt t (.slice a len cap) lo hi mx).run P w= .ok (.slice (if m=l then a else a.map (·.add (l*ie.size))) (h - l) (m - l)) w:=by
 simp only[Instr.sliceAt,Sem.run_bind,run_underlying hD,Result.andThen_ok,Instr.slice,hb,bt hi',Sem.run_pure]
theorem re{t:Nat}{s:ByteArray}{lo hi:Option Value}{w:World}(hD:P.underlying t=some .string){l h m:Nat}
  (hb:(Instr.sliceBounds false s.size s.size lo hi none).run P w= .ok (l,h,m) w):(Instr.sliceAt t (.string s) lo hi none).run P w= .ok (.string (s.extract l h)) w:=by
 simp[Instr.sliceAt,run_underlying hD,Instr.slice,hb]
theorem rN{ρ:Place}{L:aY}{I:Nat->Prop}{w:World}{N:Nat->Prop}{sz:Nat}{es:List (List AV)}{v:Value}(h:aL ρ L I w N (.aG sz es) v):∃a cap,v= .slice a es.length cap/\es.length<=cap:=by
 cases h with
 |cI _ a cap hc=>exact⟨a,cap,rfl,Nat.zero_le _⟩
 |aG _ _ b o cap c hl=>exact⟨_,cap,rfl,hl⟩
theorem xJ(s:List UInt8)(l h:Nat)(hh:h<=s.length):(⟨s.toArray⟩:ByteArray).extract l h=⟨((s.take h).drop l).toArray⟩:=by
 apply ByteArray.ext
 apply Array.ext'
 rw[Lib.extract_data]
 simp[List.drop_take]
theorem sC(hT:cN P T){t:Nat}{x:Operand}{lo hi mx:Option Operand}{K:AV->Prop}{Ml:Mem}(ho:o.op= .slice t x lo hi mx)(h:pL T t (ev F x) (pM F lo) (pM F hi) (pM F mx) Ml K):∃av,bC P X o F M av [] []/\K av:=by
 have hx:x ∈ o.op.operands.toList:=by simp[ho,Op.operands]
 have hlo:∀y,lo=some y->y ∈ o.op.operands.toList:=by rintro y rfl; simp[ho,Op.operands]
 have hhi:∀y,hi=some y->y ∈ o.op.operands.toList:=by rintro y rfl; simp[ho,Op.operands]
 have Fa:∀y,mx=some y->y ∈ o.op.operands.toList:=by rintro y rfl; simp[ho,Op.operands]
 unfold pL at h
 cases ht:T.d t with
 |slice e=>
  rw[ht]at h
  obtain⟨hok,h⟩:=ax h
  obtain⟨D,it,z,hD,hf,_⟩:=hT t (by rw[ht]; simp)
  have fW:=bu ht hf
  subst fW
  obtain⟨_,ie,_,_,_,hie,lr,_⟩:=hT e (TD.dB hok)
  cases bJ:ev F x with
  |aG sz es=>
   rw[bJ]at h
   obtain⟨hsz,h⟩:=ax h
   have hsz:sz=ie.size:=by rw[lr]; simpa using hsz
   have fin':∀(l q:Nat),l<=q->q<=es.length->(∀cap (a:Act) w,es.length<=cap->(∀y ∈ o.op.operands.toList,∀k n,ev F y= .int k n->a.eval y= .int k n)->∃m,q<=m/\m<=cap/\(Instr.sliceBounds true es.length cap (lo.map a.eval) (hi.map a.eval) (mx.map a.eval)).run P w= .ok (l,q,m) w)->bC P X o F M (.aG sz ((es.take q).drop l)) [] []:=by
    intro l q h1 h2 hb
    refine aB fun M' N ρ I a w hW hU hN=> ?_
    have r1:=ao hU x hx
    rw[bJ]at r1
    obtain⟨ad,cap,hv,hcap⟩:=rN r1
    obtain⟨m,Yw,Qv,hb⟩:=hb cap a w hcap (fun y hy k n Md=>bv (Md ▸ ao hU y hy))
    rw[hv]at r1
    obtain⟨_,r2⟩:=xI r1 l q m h1 h2 Yw Qv
    refine⟨_,?_,r2⟩
    simp only[execOp,ho,hv,Sem.run_bind,hY hD hie hb,Result.andThen_ok,Sem.run_pure,hsz]
   cases lo with
   |none=>
    cases hi with
    |none=>cases mx<;>exact h.elim
    |some yh=>
     cases wE:ev F yh with
     |int kh nh=>
      cases mx with
      |none=>
       simp only[pM,wE]at h
       refine⟨_,fin' 0 nh.toNat (by omega) (by omega) ?_,by simpa using h.2⟩
       intro cap a w hc pF
       refine⟨cap,by omega,Nat.le_refl _,?_⟩
       have e1:=pF yh (hhi yh rfl) kh nh wE
       simp only[Option.map_none,Option.map_some,e1,Instr.sliceBounds,Sem.run_bind,Sem.run_pure,Result.andThen_ok,run_sliceBound (show 0<=nh/\nh<=(cap:Int) by omega)]
      |some ym=>
       cases Yx:ev F ym with
       |int km nm=>
        simp only[pM,wE,Yx]at h
        refine⟨_,fin' 0 nh.toNat (by omega) (by omega) ?_,by simpa using h.2⟩
        intro cap a w hc pF
        refine⟨nm.toNat,by omega,by omega,?_⟩
        have e1:=pF yh (hhi yh rfl) kh nh wE
        have e2:=pF ym (Fa ym rfl) km nm Yx
        simp only[Option.map_none,Option.map_some,e1,e2,Instr.sliceBounds,Sem.run_bind,Sem.run_pure,Result.andThen_ok,run_sliceBound (show 0<=nm/\nm<=(cap:Int) by omega),run_sliceBound (show 0<=nh/\nh<=(nm.toNat:Int) by omega)]
       |_=>simp only[pM,wE,Yx]at h
     |_=>cases mx<;>(simp only[pM,wE]at h)
   |some yl=>
    cases Al:ev F yl with
    |int kl nl=>
     cases hi with
     |none=>
      cases mx with
      |none=>
       simp only[pM,Al]at h
       refine⟨_,fin' nl.toNat es.length (by omega) (Nat.le_refl _) ?_,by simpa using h.2⟩
       intro cap a w hc pF
       refine⟨cap,by omega,Nat.le_refl _,?_⟩
       have e1:=pF yl (hlo yl rfl) kl nl Al
       simp only[Option.map_none,Option.map_some,e1,Instr.sliceBounds,Sem.run_bind,Sem.run_pure,Result.andThen_ok,run_sliceBound (show 0<=nl/\nl<=(es.length:Int) by omega)]
      |some ym=>simp only[pM,Al]at h
     |some yh=>
      cases wE:ev F yh with
      |int kh nh=>
       cases mx with
       |none=>
        simp only[pM,Al,wE]at h
        refine⟨_,fin' nl.toNat nh.toNat (by omega) (by omega) ?_,by simpa using h.2⟩
        intro cap a w hc pF
        refine⟨cap,by omega,Nat.le_refl _,?_⟩
        have e1:=pF yl (hlo yl rfl) kl nl Al
        have e2:=pF yh (hhi yh rfl) kh nh wE
        simp only[Option.map_none,Option.map_some,e1,e2,Instr.sliceBounds,Sem.run_bind,Sem.run_pure,Result.andThen_ok,run_sliceBound (show 0<=nh/\nh<=(cap:Int) by omega),run_sliceBound (show 0<=nl/\nl<=(nh.toNat:Int) by omega)]
       |some ym=>simp only[pM,Al,wE]at h
      |_=>cases mx<;>(simp only[pM,Al,wE]at h)
    |_=>cases hi<;>cases mx<;>(simp only[pM,Al]at h)
  |_=>rw[bJ]at h; exact h.elim
 |str=>
  rw[ht]at h
  obtain⟨D,it,z,hD,hf,_⟩:=hT t (by rw[ht]; simp)
  have fW:=gf ht hf
  subst fW
  cases bJ:ev F x with
  |str s=>
   rw[bJ]at h
   have fin':mx=none->∀(l q:Nat),l<=q->q<=s.length->(∀(a:Act) w,(∀y ∈ o.op.operands.toList,∀k n,ev F y= .int k n->a.eval y= .int k n)->∃m,(Instr.sliceBounds false s.length s.length (lo.map a.eval) (hi.map a.eval) none).run P w= .ok (l,q,m) w)->bC P X o F M (.str ((s.take q).drop l)) [] []:=by
    intro Yy l q h1 h2 hb
    refine aB fun M' N ρ I a w hW hU hN=> ?_
    have r1:=gW (bJ ▸ ao hU x hx)
    obtain⟨m,hb⟩:=hb a w (fun y hy k n Md=>bv (Md ▸ ao hU y hy))
    refine⟨.string ⟨((s.take q).drop l).toArray⟩,?_,.str _⟩
    have hb':(Instr.sliceBounds false (⟨s.toArray⟩:ByteArray).size (⟨s.toArray⟩:ByteArray).size (lo.map a.eval) (hi.map a.eval) none).run P w= .ok (l,q,m) w:=hb
    rw[<-xJ s l q h2]
    subst Yy
    simp only[execOp,ho,r1,Sem.run_bind,Option.map_none,re hD hb',Result.andThen_ok,Sem.run_pure]
   cases mx with
   |some ym=>cases lo<;>cases hi<;>first|exact h.elim|(simp only[pM]at h; split at h<;>first|exact h.elim|(rename_i hh; simp at hh))
   |none=>
    cases lo with
    |none=>
     cases hi with
     |none=>exact h.elim
     |some yh=>
      cases wE:ev F yh with
      |int kh nh=>
       simp only[pM,wE]at h
       refine⟨_,fin' rfl 0 nh.toNat (by omega) (by omega) ?_,by simpa using h.2⟩
       intro a w pF
       have e1:=pF yh (hhi yh rfl) kh nh wE
       refine⟨s.length,?_⟩
       simp only[Option.map_none,Option.map_some,e1,Instr.sliceBounds,Sem.run_bind,Sem.run_pure,Result.andThen_ok,Bool.false_eq_true,if_false,run_sliceBound (show 0<=nh/\nh<=(s.length:Int) by omega)]
      |_=>simp only[pM,wE]at h
    |some yl=>
     cases Al:ev F yl with
     |int kl nl=>
      cases hi with
      |none=>
       simp only[pM,Al]at h
       refine⟨_,fin' rfl nl.toNat s.length (by omega) (Nat.le_refl _) ?_,by simpa using h.2⟩
       intro a w pF
       have e1:=pF yl (hlo yl rfl) kl nl Al
       refine⟨s.length,?_⟩
       simp only[Option.map_none,Option.map_some,e1,Instr.sliceBounds,Sem.run_bind,Sem.run_pure,Result.andThen_ok,run_sliceBound (show 0<=nl/\nl<=(s.length:Int) by omega)]
      |some yh=>
       cases wE:ev F yh with
       |int kh nh=>
        simp only[pM,Al,wE]at h
        refine⟨_,fin' rfl nl.toNat nh.toNat (by omega) (by omega) ?_,by simpa using h.2⟩
        intro a w pF
        have e1:=pF yl (hlo yl rfl) kl nl Al
        have e2:=pF yh (hhi yh rfl) kh nh wE
        refine⟨s.length,?_⟩
        simp only[Option.map_none,Option.map_some,e1,e2,Instr.sliceBounds,Sem.run_bind,Sem.run_pure,Result.andThen_ok,Bool.false_eq_true,if_false,run_sliceBound (show 0<=nh/\nh<=(s.length:Int) by omega),run_sliceBound (show 0<=nl/\nl<=(nh.toNat:Int) by omega)]
       |_=>simp only[pM,Al,wE]at h
     |_=>cases hi<;>(simp only[pM,Al]at h)
  |_=>rw[bJ]at h; exact h.elim
 |_=>rw[ht]at h; exact h.elim
end Go.AM
namespace Go.AM
open Go.RowKit
variable {P:Program} {T:TT} {X:bL} {o:Oper} {F:aT} {M:bf}
def du(ρ:Place)(L:aY)(I:Nat->Prop)(w:World)(N:Nat->Prop)(sz:Nat)(xs:List (List AV))(vs:List Value):Prop:=
 vs.length=xs.length*sz/\(∀e ∈ xs,e.length=sz)/\∀i j,i<xs.length->j<sz->∃u,vs[i*sz+j]? =some u/\u.oneCell'=true/\aL ρ L I w N ((xs.getD i []).getD j .bad) u
theorem lO{i j n sz:Nat}(hi:i<n)(hj:j<sz):i*sz+j<n*sz:=by
 have:(i+1)*sz<=n*sz:=Nat.mul_le_mul_right _ hi
 rw[Nat.add_mul,Nat.one_mul]at this
 omega
theorem du.append{ρ:Place}{L:aY}{I:Nat->Prop}{w:World}{N:Nat->Prop}{sz:Nat}{xs ys:List (List AV)}{vs us:List Value}(h:du ρ L I w N sz xs vs)(k:du ρ L I w N sz ys us):du ρ L I w N sz (xs++ys) (vs++us):=by
 obtain⟨h1,h2,h3⟩:=h
 obtain⟨k1,k2,k3⟩:=k
 refine⟨by simp[h1,k1,Nat.add_mul],fun e he=> ?_,fun i j hi hj=> ?_⟩
 ·rcases List.mem_append.1 he with he|he
  ·exact h2 e he
  ·exact k2 e he
 ·by_cases hl:i<xs.length
  ·obtain⟨u,hu,hr⟩:=h3 i j hl hj
   have:=lO (sz:=sz) hl hj
   refine⟨u,by rw[List.getElem?_append_left (by omega)]; exact hu,?_⟩
   have e:(xs++ys).getD i []=xs.getD i []:=by simp[List.getD_eq_getElem?_getD,List.getElem?_append_left hl]
   rw[e]; exact hr
  ·simp at hi
   obtain⟨u,hu,hr⟩:=k3 (i - xs.length) j (by omega) hj
   have hm:xs.length*sz<=i*sz:=Nat.mul_le_mul_right _ (by omega)
   have e1:i*sz+j - vs.length=(i - xs.length)*sz+j:=by rw[h1,Nat.sub_mul]; omega
   refine⟨u,by rw[List.getElem?_append_right (by omega),e1]; exact hu,?_⟩
   have e:(xs++ys).getD i []=ys.getD (i - xs.length) []:=by simp[List.getD_eq_getElem?_getD,List.getElem?_append_right (Nat.le_of_not_lt hl)]
   rw[e]; exact hr
theorem du.one{ρ:Place}{L:aY}{I:Nat->Prop}{w:World}{N:Nat->Prop}{sz:Nat}{xs:List (List AV)}{vs:List Value}(h:du ρ L I w N sz xs vs):∀u ∈ vs,u.oneCell'=true:=by
 intro u hu
 obtain⟨k,hk,rfl⟩:=List.mem_iff_getElem.1 hu
 have hk':k<xs.length*sz:=by rw[<-h.1]; exact hk
 have hsz:0<sz:=by rcases Nat.eq_zero_or_pos sz with h|h; (subst h; simp at hk'); exact h
 have hi:k / sz<xs.length:=by rw[Nat.div_lt_iff_lt_mul hsz]; exact hk'
 obtain⟨u,hu,h1,_⟩:=h.2.2 (k / sz) (k % sz) hi (Nat.mod_lt _ hsz)
 rw[Nat.mul_comm,Nat.div_add_mod,List.getElem?_eq_getElem hk]at hu
 cases hu
 exact h1
theorem du.rJ{ρ ρ':Place}{L L':aY}{I I':Nat->Prop}{w w':World}{N:Nat->Prop}{sz:Nat}{xs:List (List AV)}{vs:List Value}(E:mM N ρ L I w ρ' L' I' w')(h:du ρ L I w N sz xs vs):du ρ' L' I' w' N sz xs vs:=
 ⟨h.1,h.2.1,fun i j hi hj=>let ⟨u,hu,h1,hr⟩:=h.2.2 i j hi hj; ⟨u,hu,h1,hr.rJ E (fun _ h=>h)⟩⟩
def vd(P:Program)(sz:Nat)(v:Value)(n:Nat)(vs:List Value)(w:World):Prop:=
 ∀m,m<=n->(Builtin.firstCells sz m v).run P w= .ok (vs.take (m*sz)).toArray w
theorem vd.nil{sz n c:Nat}{w:World}:vd P sz (.slice none n c) 0 [] w:=fun m hm=>by
 rw[List.take_nil]; exact run_firstCells_none w sz m n c
theorem vd.some{sz n c k:Nat}{a:Addr}{vs:List Value}{w:World}(hl:vs.length=n*sz)(h:∀j u,vs[j]? =some u->w.cell? (a.add j)=some u):vd P sz (.slice (some a) k c) n vs w:=fun m hm=>
 run_firstCells_some w sz m a k c (vs.take (m*sz)) (by rw[List.length_take,hl]; exact Nat.min_eq_left (Nat.mul_le_mul_right _ hm)) (fun j u hu=>by
  rw[List.getElem?_take]at hu
  split at hu
  ·exact h j u hu
  ·cases hu)
theorem vd.str{s:ByteArray}{w:World}:vd P 1 (.string s) s.size (byteCells s) w:=fun m hm=>by
 simp only[Builtin.firstCells,Sem.run_pure,Nat.mul_one]
 congr 1
 apply Array.ext'
 simp[byteCells,Lib.extract_data,List.map_take]
theorem Fb{ρ:Place}{L:aY}{I:Nat->Prop}{w:World}{N:Nat->Prop}{sz:Nat}{es:List (List AV)}{v:Value}{tx e:TypeId}(h:aL ρ L I w N (.aG sz es) v)(hk:P.underlying tx=some (.slice e)):
  ∃vs,Src P sz tx v es.length vs w/\du ρ L I w N sz es vs/\vd P sz v es.length vs w:=by
 cases h with
 |cI _ a cap hc=>
  cases a with
  |none=>exact⟨[],Src.ofNil w hk cap,⟨by simp,by simp,fun i j hi=>by simp at hi⟩,vd.nil⟩
  |some a=>exact⟨[],Src.ofSlice w hk a 0 cap [] (by simp) (by simp) (by simp),⟨by simp,by simp,fun i j hi=>by simp at hi⟩,vd.some (by simp) (by simp)⟩
 |aG _ _ b o cap c hl hc hI hs h1 hcell hr=>
  have hlo:du ρ L I w N sz es ((List.range (es.length*sz)).map fun k=>c (k / sz) (k % sz)):=by
   refine⟨by simp,hs,fun i j hi hj=> ?_⟩
   have hlt:=lO (sz:=sz) hi hj
   have hsz:0<sz:=by omega
   have e1:(i*sz+j) / sz=i:=by rw[Nat.mul_comm,Nat.mul_add_div hsz,Nat.div_eq_of_lt hj,Nat.add_zero]
   have e2:(i*sz+j) % sz=j:=by rw[Nat.mul_comm,Nat.mul_add_mod,Nat.mod_eq_of_lt hj]
   refine⟨c i j,by simp[hlt,e1,e2],h1 i j hi hj,(hr i j hi hj).wide (fun _ h=>h.elim)⟩
  have iH:∀k u,((List.range (es.length*sz)).map fun k=>c (k / sz) (k % sz))[k]? =some u->w.cell? ((⟨b,o,none⟩:Addr).add k)=some u:= ?_
  ·exact⟨_,Src.ofSlice w hk _ _ _ _ hlo.1 iH hlo.one,hlo,vd.some hlo.1 iH⟩
  intro k u hu
  have hk':k<es.length*sz:=by
   have:=(List.getElem?_eq_some_iff.1 hu).1
   simpa using this
  have hsz:0<sz:=by rcases Nat.eq_zero_or_pos sz with h|h; (subst h; simp at hk'); exact h
  have hi:k / sz<es.length:=by rw[Nat.div_lt_iff_lt_mul hsz]; exact hk'
  have uB:=hcell (k / sz) (k % sz) hi (Nat.mod_lt _ hsz)
  have EL:c (k / sz) (k % sz)=u:=by simpa[hk']using hu
  rw[bQ,<-EL,<-uB]
  have:k / sz*sz+k % sz=k:=by rw[Nat.mul_comm]; exact Nat.div_add_mod _ _
  rw[Nat.add_assoc,this]
theorem Fc{ρ:Place}{L:aY}{I:Nat->Prop}{w:World}{N:Nat->Prop}{s:List UInt8}{tx:TypeId}(hk:P.underlying tx=some .string):
  Src P 1 tx (.string ⟨s.toArray⟩) s.length (byteCells ⟨s.toArray⟩) w/\du ρ L I w N 1 (s.map fun c=>[.int .u8 c.toNat]) (byteCells ⟨s.toArray⟩)/\vd P 1 (.string ⟨s.toArray⟩) s.length (byteCells ⟨s.toArray⟩) w:=by
 have h:=Src.ofString w hk (⟨s.toArray⟩:ByteArray)
 refine⟨h,⟨by simp[byteCells],fun e he=> ?_,fun i j hi hj=> ?_⟩,vd.str⟩
 ·obtain⟨_,_,rfl⟩:=List.mem_map.1 he
  rfl
 ·have hj':j=0:=by omega
  subst hj'
  simp at hi
  refine⟨.int .u8 s[i].toNat,by simp[byteCells,hi],rfl,?_⟩
  have:((s.map fun c=>[AV.int .u8 c.toNat]).getD i []).getD 0 .bad= .int .u8 s[i].toNat:=by simp[List.getD_eq_getElem?_getD,hi]
  rw[this]; exact .int _ _
theorem sg.list{C:bL}{ρ:Place}{L:aY}{I:Nat->Prop}{w:World}{N:Nat->Prop}{n:Nat}{b:be}(B:sg C ρ L I w N n b)(hmp:b.mp=none){g cap:Nat}(hρ:ρ n=some (g,cap)):
  ∃vs,du ρ L I w N b.sz b.es vs/\∀k u,vs[k]? =some u->w.cell? ⟨g,k,none⟩=some u:=by
 obtain⟨cs,fr,hg,_,_,_,hlc,_,hcs,hc⟩:=B.real g cap hρ
 have hg:=hg.cells hmp
 have hle:b.es.length*b.sz<=cs.size:=by rw[hcs]; exact Nat.mul_le_mul_right _ hlc
 refine⟨cs.toList.take (b.es.length*b.sz),⟨by simp; omega,B.even,fun i j hi hj=> ?_⟩,fun k u hu=> ?_⟩
 ·obtain⟨u,hu,hr⟩:=hc i j hi hj
  exact⟨u,by rw[List.getElem?_take,if_pos (lO hi hj)]; simpa using hu,hr⟩
 ·rw[List.getElem?_take]at hu
  split at hu
  ·simp only[World.cell?,hg]; simpa using hu
  ·cases hu
theorem Fe{ρ:Place}{I:Nat->Prop}{w:World}{N:Nat->Prop}{n:Nat}{b:be}{v:Value}{tx e:TypeId}(hW:bY X ρ I M N w)(hb:M n=some b)(hmp:b.mp=none)(h:aL ρ (lens M) I w N (.bh n b.es.length) v)(hk:P.underlying tx=some (.slice e)):
  ∃vs,Src P b.sz tx v b.es.length vs w/\du ρ (lens M) I w N b.sz b.es vs/\vd P b.sz v b.es.length vs w:=by
 have dr:lens M n=some (b.es.length,b.sz):=by rw[az]; exact⟨b,hb,be.bW hmp,rfl⟩
 obtain⟨hn,h2⟩:=gX h dr
 have B:=hW.aR n b hb
 rcases h2 with⟨h0,q,hv⟩|⟨g,cap,hρ,hv⟩
 ·have he:=B.dW h0
  subst hv
  rw[he]
  cases q with
  |none=>exact⟨[],Src.ofNil w hk 0,⟨by simp,by simp,fun i j hi=>by simp at hi⟩,vd.nil⟩
  |some a=>exact⟨[],Src.ofSlice w hk a 0 0 [] (by simp) (by simp) (by simp),⟨by simp,by simp,fun i j hi=>by simp at hi⟩,vd.some (by simp) (by simp)⟩
 ·obtain⟨vs,h1,h2⟩:=B.list hmp hρ
  subst hv
  have iH:∀k u,vs[k]? =some u->w.cell? ((⟨g,0,none⟩:Addr).add k)=some u:=fun k u hu=>by rw[bQ,Nat.zero_add]; exact h2 k u hu
  exact⟨vs,Src.ofSlice w hk _ _ _ _ h1.1 iH h1.one,h1,vd.some h1.1 iH⟩
theorem dY{sz:Nat}:∀{n:Nat}{r:List AV},(pK sz n r).length=n
 |0,_=>rfl
 |n+1,r=>by simp[pK,dY]
theorem jZ{sz:Nat}:∀{n:Nat}{r:List AV}{i:Nat},i<n->(pK sz n r).getD i []=(r.drop (i*sz)).take sz
 |0,_,i,h=>by omega
 |n+1,r,0,h=>by simp[pK]
 |n+1,r,i+1,h=>by
  have:=jZ (sz:=sz) (n:=n) (r:=r.drop sz) (i:=i) (by omega)
  simp only[pK,List.getD_cons_succ,this,List.drop_drop]
  congr 2
  rw[Nat.add_mul,Nat.one_mul]; omega
theorem Ff{ρ:Place}{I:Nat->Prop}{w:World}{N:Nat->Prop}{n i off cnt sz:Nat}{b:be}{v:Value}{tx e:TypeId}(hW:bY X ρ I M N w)(hb:M n=some b)(hmp:b.mp=none)(h:aL ρ (lens M) I w N (.dm n b.es.length i off cnt) v)(hi:i<b.es.length)
  (hfit:off+cnt*sz<=b.sz) (hk:P.underlying tx=some (.slice e)):
  ∃vs,Src P sz tx v cnt vs w/\du ρ (lens M) I w N sz (pK sz cnt ((b.es.getD i []).drop off)) vs/\vd P sz v cnt vs w:=by
 have dr:lens M n=some (b.es.length,b.sz):=by rw[az]; exact⟨b,hb,be.bW hmp,rfl⟩
 obtain⟨hn,g,cap,c,hρ,hv,_⟩:=jy h dr
 obtain⟨cs,fr,hg,_,_,_,hlc,_,hcs,hc⟩:=(hW.aR n b hb).real g cap hρ
 have hg:=hg.cells hmp
 have hel:(b.es.getD i []).length=b.sz:=by
  rw[List.getD_eq_getElem?_getD,List.getElem?_eq_getElem hi,Option.getD_some]
  exact (hW.aR n b hb).even _ (List.getElem_mem _)
 have hin:i*b.sz+b.sz<=cs.size:=by
  rw[hcs]
  calc i*b.sz+b.sz=(i+1)*b.sz:=by rw[Nat.add_mul,Nat.one_mul]
   _<=cap*b.sz:=Nat.mul_le_mul_right _ (by omega)
 subst hv
 generalize hvs:(cs.toList.drop (i*b.sz+off)).take (cnt*sz)=vs
 have hl:vs.length=cnt*sz:=by
  rw[<-hvs]
  simp only[List.length_take,List.length_drop,Array.length_toList]; omega
 have hat:∀k,k<cnt*sz->vs[k]? =cs[i*b.sz+off+k]? :=fun k hk=>by
  rw[<-hvs,List.getElem?_take,if_pos hk,List.getElem?_drop]; simp
 have iH:∀k u,vs[k]? =some u->w.cell? ((⟨g,i*b.sz+off,none⟩:Addr).add k)=some u:=fun k u hu=>by
  have hk':k<cnt*sz:=by rw[<-hl]; exact (List.getElem?_eq_some_iff.1 hu).1
  rw[hat k hk']at hu
  rw[bQ]
  simpa[World.cell?,hg]using hu
 have hlo:du ρ (lens M) I w N sz (pK sz cnt ((b.es.getD i []).drop off)) vs:=by
  refine⟨by rw[dY,hl],fun r hr=> ?_,fun p q hp hq=> ?_⟩
  ·obtain⟨p,hp,rfl⟩:=List.mem_iff_getElem.1 hr
   rw[dY]at hp
   have e1:=jZ (sz:=sz) (r:=(b.es.getD i []).drop off) hp
   rw[List.getD_eq_getElem?_getD,List.getElem?_eq_getElem (by rw[dY]; exact hp),Option.getD_some]at e1
   rw[e1]
   have:(p+1)*sz<=cnt*sz:=Nat.mul_le_mul_right _ hp
   rw[Nat.add_mul,Nat.one_mul]at this
   simp only[List.length_take,List.length_drop,hel]; omega
  ·rw[dY]at hp
   have hlt:=lO (sz:=sz) hp hq
   obtain⟨u,hu,h1,hr⟩:=hc i (off+ (p*sz+q)) hi (by omega)
   refine⟨u,?_,h1,?_⟩
   ·rw[hat _ hlt,<-hu]; congr 1; omega
   ·rw[jZ hp,da _ _ _ _ _ hq]
    simp only[List.getD_eq_getElem?_getD,List.getElem?_drop]at hr ⊢
    rwa[show off+ (p*sz+q)=off+ (p*sz+q)from rfl]at hr
 exact⟨vs,Src.ofSlice w hk _ _ _ _ hl iH hlo.one,hlo,vd.some hl iH⟩
theorem kE(hT:cN P T){x:Operand}{Ml:Mem}(hM:M=aa Ml){tx sz:Nat}{K:List (List AV)->Prop}(hx:x ∈ o.op.operands.toList)(hk:(∃e,P.underlying tx=some (.slice e))\/ P.underlying tx=some .string)
  (hks:(∃s,ev F x= .str s)->P.underlying tx=some .string) (hkl:(¬ ∃s,ev F x= .str s)->∃e,P.underlying tx=some (.slice e)) (h:nU Ml sz (ev F x) K):
  ∃xs,K xs/\∀M' N ρ I (a:Act) w,bY X ρ I M' N w->(∀s ∈ dq o.op,aL ρ (lens M') I w N (look F s) (a.tmps.getD s undef))->(∀s ∈ dq o.op,∀n ∈ (look F s).names,M' n=M n)->
   ∃vs,Src P sz tx (a.eval x) xs.length vs w/\du ρ (lens M') I w N sz xs vs/\vd P sz (a.eval x) xs.length vs w:=by
 unfold nU at h
 cases bJ:ev F x with
 |aG s es=>
  rw[bJ]at h
  obtain⟨hc,h2⟩:=ax h
  have hs:s=sz:=by simpa using hc
  subst hs
  obtain⟨e,hk⟩:=hkl (by rw[bJ]; simp)
  exact⟨es,h2,fun M' N ρ I a w hW hU hN=>Fb (bJ ▸ ao hU x hx) hk⟩
 |ab=>
  rw[bJ]at h
  obtain⟨e,hk⟩:=hkl (by rw[bJ]; simp)
  refine⟨[],h,fun M' N ρ I a w hW hU hN=> ?_⟩
  have r1:=ao hU x hx
  rw[bJ]at r1
  generalize hv:a.eval x=v at r1
  cases r1
  exact⟨[],Src.ofNil w hk 0,⟨by simp,by simp,fun i j hi=>by simp at hi⟩,vd.nil⟩
 |bh n len=>
  rw[bJ]at h
  simp only[alive]at h
  obtain⟨e,hk⟩:=hkl (by rw[bJ]; simp)
  cases hb:aa Ml n with
  |none=>rw[hb]at h; exact h.elim
  |some b=>
   rw[hb]at h
   obtain⟨hc1,hmp,h2⟩:=ax h
   obtain⟨jU,h3⟩:=ax h2
   have hl:b.es.length=len:=(be.bW hmp).symm.trans (by simpa using hc1)
   have hs:b.sz=sz:=by simpa using jU
   subst hl; subst hs
   refine⟨b.es,h3,fun M' N ρ I a w hW hU hN=> ?_⟩
   obtain⟨sl,dJ,fi⟩:=bg (F:=F) x hx (n:=n) (by rw[bJ]; simp[AV.names])
   have bM:M' n=some b:=(hN sl dJ n fi).trans (by rw[hM]; exact hb)
   exact Fe hW bM hmp (bJ ▸ ao hU x hx) hk
 |dm n len i off cnt=>
  rw[bJ]at h
  simp only[alive]at h
  obtain⟨e,hk⟩:=hkl (by rw[bJ]; simp)
  cases hb:aa Ml n with
  |none=>rw[hb]at h; exact h.elim
  |some b=>
   rw[hb]at h
   obtain⟨hc1,hmp,h2⟩:=ax h
   obtain⟨jU,h3⟩:=ax h2
   have hl:b.es.length=len:=(be.bW hmp).symm.trans (by simpa using hc1)
   simp only[Bool.and_eq_true,Nat.blt_eq,Nat.ble_eq]at jU
   subst hl
   refine⟨_,h3,fun M' N ρ I a w hW hU hN=> ?_⟩
   obtain⟨sl,dJ,fi⟩:=bg (F:=F) x hx (n:=n) (by rw[bJ]; simp[AV.names])
   have bM:M' n=some b:=(hN sl dJ n fi).trans (by rw[hM]; exact hb)
   rw[dY]
   exact Ff hW bM hmp (bJ ▸ ao hU x hx) jU.1.1 jU.1.2 hk
 |str s=>
  rw[bJ]at h
  obtain⟨hc,h2⟩:=ax h
  have hs:sz=1:=by simpa using hc
  subst hs
  refine⟨_,h2,fun M' N ρ I a w hW hU hN=> ?_⟩
  have r1:=gW (bJ ▸ ao hU x hx)
  rw[r1]
  obtain⟨h1,h2,h3⟩:=Fc (P:=P) (ρ:=ρ) (L:=lens M') (I:=I) (w:=w) (N:=N) (s:=s) (hks ⟨s,bJ⟩)
  exact⟨_,by simpa using h1,h2,by simpa using h3⟩
 |_=>rw[bJ]at h; exact h.elim
end Go.AM
namespace Go.AM
open Go.RowKit
variable {P:Program} {T:TT} {X:bL} {o:Oper} {F:aT} {M:bf}
theorem xK{ρ:Place}{I:Nat->Prop}{w:World}{N:Nat->Prop}{M:bf}(hW:bY X ρ I M N w){n:Nat}{b:be}(hb:M n=some b)(hmp:b.mp=none){g cap:Nat}(hρ:ρ n=some (g,cap)){xs:List (List AV)}{news:List Value}
  (hx:du ρ (lens M) I w N b.sz xs news) (hroom:b.es.length+xs.length<=cap):
  (∀j,j<news.length->(w.cell? ⟨g,0+b.es.length*b.sz+j,none⟩).isSome=true)/\(∀j,j<news.length->w.frozen? ⟨g,0+b.es.length*b.sz+j,none⟩=false)/\
  gC X M N ρ I w (.bh n (b.es.length+xs.length)) [(n,⟨b.ty,b.sz,b.es++xs,none⟩)] (.slice (some ⟨g,0,none⟩) (b.es.length+xs.length) cap) (w.setCells g (0+b.es.length*b.sz) news):=by
 have B:=hW.aR n b hb
 obtain⟨cs,fr,hg,nG,nT,hown,hlc,lI,hcs,hc⟩:=B.real g cap hρ
 have hg:=hg.cells hmp
 have Ra:=be.bW hmp
 have hfit:b.es.length*b.sz+news.length<=cs.size:=by
  rw[hx.1,hcs,<-Nat.add_mul]; exact Nat.mul_le_mul_right _ hroom
 have oH:∀k,w.cell? ⟨g,k,none⟩=cs[k]? :=fun k=>by simp[World.cell?,hg]
 refine⟨fun j hj=>by rw[oH,Nat.zero_add,Array.getElem?_eq_getElem (by omega)]; rfl,fun j hj=> ?_,?_⟩
 ·have:=zY nG (b.es.length*b.sz+j) (by omega)
  simp only[World.frozen?,hg,Nat.zero_add]
  simpa using this
 ·rw[Nat.zero_add]
  obtain⟨cs',h1,h2,h3⟩:=gY g b.ty fr news (b.es.length*b.sz) w cs hg hfit
  have jX:∀b0,M n=some b0->b0=b:=fun b0 h0=>by rw[hb]at h0; exact (Option.some.inj h0).symm
  obtain⟨E,W⟩:=hW.put (w':=w.setCells g (b.es.length*b.sz) news) n ⟨b.ty,b.sz,b.es++xs,none⟩ g cap cs' fr
   (os_setCells _ _ _ _) (gZ _ _ _ _) (iG _ _ _ _) (by rw[size_setCells]; exact Nat.le_refl _) (fun k _ hk=>fj g _ _ _ _ hk) h1 (by omega)
   (.inr ⟨cap,hρ,b,hb⟩) (fun b0 h0=>by rw[jX b0 h0,Ra]; exact⟨rfl,by simp[be.ln],fun _=>hρ⟩) (fun _=>⟨b,hb⟩)
   (fun e he=>by
     rcases List.mem_append.1 he with he|he
     ·exact B.even e he
     ·exact hx.2.1 e he)
   (by simpa using hroom) lI (by rw[h2]; exact hcs) (fun i j hi hj=>by
     simp only[List.length_append]at hi
     show ∃u,cs'[i*b.sz+j]? =some u/\_/\aL ρ (lens M) I w N (((b.es++xs).getD i []).getD j .bad) u
     by_cases hl:i<b.es.length
     ·have hlt:=lO (sz:=b.sz) hl hj
      have e:(b.es++xs).getD i []=b.es.getD i []:=by simp[List.getD_eq_getElem?_getD,List.getElem?_append_left hl]
      rw[h3,if_neg (by omega),e]
      exact hc i j hl hj
     ·have hm:b.es.length*b.sz<=i*b.sz:=Nat.mul_le_mul_right _ (by omega)
      obtain⟨u,hu,hr⟩:=hx.2.2 (i - b.es.length) j (by omega) hj
      have hlt:=lO (sz:=b.sz) (show i - b.es.length<xs.length by omega) hj
      have e:(b.es++xs).getD i []=xs.getD (i - b.es.length) []:=by simp[List.getD_eq_getElem?_getD,List.getElem?_append_right (Nat.le_of_not_lt hl)]
      have e1:i*b.sz+j - b.es.length*b.sz=(i - b.es.length)*b.sz+j:=by rw[Nat.sub_mul]; omega
      rw[h3,if_pos (by rw[hx.1]; omega),e,e1]
      exact⟨u,hu,hr⟩)
  refine⟨iE ρ n (g,cap),I,E,by rw[bD]; exact W,?_⟩
  refine gH (sz:=b.sz) (.inr ⟨_,List.mem_singleton.2 rfl⟩) ?_ (by simp[iE])
  show lens (cX M n _) n=_
  rw[bV,if_pos rfl]; simp[be.ln]
theorem rf(z:Array Value)(n:Nat):(Builtin.zeroCells z n).size=n*z.size:=by simp[Builtin.zeroCells]
theorem kb{ρ:Place}{I:Nat->Prop}{w:World}{N:Nat->Prop}{M:bf}(hW:bY X ρ I M N w){n e sz:Nat}{oJ xs:List (List AV)}{olds news:List Value}{z:Value}
  (jX:N n->∃b0,M n=some b0) (hold:∀b0,M n=some b0->b0.sz=sz/\b0.es=oJ/\b0.mp=none) (hxs:0<xs.length)
  (ho:du ρ (lens M) I w N sz oJ olds) (hx:du ρ (lens M) I w N sz xs news) (hz:z.cells.size=sz) {old:Nat} (iY:oJ.length+xs.length<=lB):
  gC X M N ρ I w (.bh n (oJ.length+xs.length)) [(n,⟨e,sz,oJ++xs,none⟩)] (.slice (some ⟨w.heap.size,0,none⟩) (oJ.length+xs.length) (grownCap w (oJ.length+xs.length) old e))
   (w.drew.alloc (.cells ((olds++news).toArray++Builtin.zeroCells z.cells (grownCap w (oJ.length+xs.length) old e - (oJ.length+xs.length))) e)):=by
 have hge:=grownCap_ge w (oJ.length+xs.length) old e
 have lI:=grownCap_le_maxLen w (oJ.length+xs.length) old e (by simp only[maxLen,lB]at *; omega)
 have hall:=ho.append hx
 have hlen:(olds++news).length=(oJ.length+xs.length)*sz:=by rw[hall.1,List.length_append]
 obtain⟨E,W⟩:=hW.put (w':=w.drew.alloc (.cells ((olds++news).toArray++Builtin.zeroCells z.cells (grownCap w (oJ.length+xs.length) old e - (oJ.length+xs.length))) e)) n ⟨e,sz,oJ++xs,none⟩ w.heap.size (grownCap w (oJ.length+xs.length) old e) _ (0,0)
  rfl rfl rfl (by simp) (fun k hk _=>Below.heap_alloc w.drew _ k hk) (heap_alloc_new w.drew _) (.inl rfl)
  (.inl (Nat.le_refl _)) (fun b0 h0=>by
    obtain⟨h1,h2,hm⟩:=hold b0 h0
    have hb:=be.bW hm
    refine⟨h1,by rw[hb,h2]; simp[be.ln],fun h=> ?_⟩
    rw[hb,h2]at h
    simp[be.ln]at h
    have:=List.length_pos_iff.1 hxs
    exact (this h).elim) jX hall.2.1 (by simpa using hge) lI
  (by
    simp only[Array.size_append,List.size_toArray,rf,hz,hlen,<-Nat.add_mul]
    congr 1
    omega)
  (fun i j hi hj=>by
    obtain⟨u,hu,hr⟩:=hall.2.2 i j hi hj
    refine⟨u,?_,hr⟩
    have hlt:=lO (sz:=sz) hi hj
    rw[List.length_append]at hlt
    rw[Array.getElem?_append_left (by simp only[List.size_toArray]; omega)]
    simpa using hu)
 refine⟨_,I,E,by rw[bD]; exact W,?_⟩
 refine gH (sz:=sz) (.inr ⟨_,List.mem_singleton.2 rfl⟩) ?_ (by simp[iE])
 show lens (cX M n _) n=_
 rw[bV,if_pos rfl]; simp[be.ln]
theorem mQ{M:bf}{n:Nat}{b:be}(h:M n=some b):cX M n b=M:=by
 funext m; unfold cX; split
 ·subst_vars; exact h.symm
 ·rfl
theorem bY.dW{ρ:Place}{I:Nat->Prop}{w:World}{N:Nat->Prop}{M:bf}(hW:bY X ρ I M N w){n:Nat}(hn:¬N n)(e sz:Nat):
  mM N ρ (lens M) I w (fun m=>if m=n then none else ρ m) (lens (cX M n ⟨e,sz,[],none⟩)) I w/\bY X (fun m=>if m=n then none else ρ m) I (cX M n ⟨e,sz,[],none⟩) (zZ N n) w:=by
 have hne:∀m b,M m=some b->m≠n:=fun m b h e'=>hn (e' ▸ (hW.aR m b h).lt)
 have E:mM N ρ (lens M) I w (fun m=>if m=n then none else ρ m) (lens (cX M n ⟨e,sz,[],none⟩)) I w:=by
  refine⟨fun m len s hm _ _=> ?_,fun m len s hm h=> ?_,fun _ h=>h,fun _ _=>rfl⟩
  ·have:m≠n:=fun e'=>hn (e' ▸ hm)
   simp[this]
  ·have:m≠n:=fun e'=>hn (e' ▸ hm)
   rw[bV,if_neg this]at h
   exact⟨len,h,Nat.le_refl _⟩
 refine⟨E,fun m b hm=> ?_,fun m k b b' g c c' hm hk h1 h2=> ?_,hW.oz,hW.lt,hW.old,hW.keeps,fun m hm=> .inr (hW.pn m hm),hW.Cw,hW.mO E⟩
 ·by_cases hmn:m=n
  ·subst hmn
   simp[cX]at hm
   subst hm
   exact⟨.inl rfl,by simp,fun _=>rfl,fun g cap h=>by simp at h,fun _ _ _ _ _ _ h=>by cases h⟩
  ·simp only[cX,if_neg hmn]at hm
   have B:=hW.aR m b hm
   refine⟨.inr B.lt,B.even,fun h=>B.dW (by simpa[hmn]using h),fun g cap h=> ?_,fun k ka va r sn la hb=>by obtain⟨g,cap,h1,h2⟩:=B.iter k ka va r sn la hb; exact⟨g,cap,by simpa[hmn]using h1,h2⟩⟩
   obtain⟨cs,fr,hc1,Cx,jU,Cy,BQ,z',Cz,CA⟩:=B.real g cap (by simpa[hmn]using h)
   refine⟨cs,fr,hc1,Cx,jU,Cy,BQ,z',Cz,fun i j hi hj=> ?_⟩
   obtain⟨u,hu,pE,hr⟩:=CA i j hi hj
   exact⟨u,hu,pE,(hr.rJ E (fun _ h=>h)).wide (fun _ h=> .inr h)⟩
 ·by_cases hmn:m=n
  ·simp[hmn]at h1
  ·by_cases hkn:k=n
   ·simp[hkn]at h2
   ·simp only[cX,if_neg hmn,if_neg hkn]at hm hk h1 h2
    exact hW.inj m k b b' g c c' hm hk h1 h2
theorem dL{a:Act}{w:World}{s x:Operand}{t t':Nat}(ho:o.op= .call {callee:= .builtin .append,args:= #[s,x],argTypes:= #[t,t']}):
  (execOp a.eval o).run P w=((Builtin.append_ #[t,t'] o.type #[a.eval s,a.eval x]).run P w).andThen fun v w'=> .ok (.value v) w':=by
 simp[execOp,ho,resolve,invoke,builtin]
theorem qB(hT:cN P T){s x:Operand}{t t' nx:Nat}{Ml:Mem}{K:AV->Mem->Nat->Prop}(hM:M=aa Ml)(ho:o.op= .call {callee:= .builtin .append,args:= #[s,x],argTypes:= #[t,t']})
  (hok:∀e,T.d t= .slice e->(T.d e).ok=true/\bH (T.z e)=true/\(cells (T.z e)).length=T.s e) (Yz:(∃q,ev F x= .str q)->T.d t'= .str) (Rc:(¬ ∃q,ev F x= .str q)->∃e,T.d t'= .slice e)
  (h:rL T t (ev F s) (ev F x) ⟨F,Ml,nx⟩ K):
  ∃av n b nw aU,bC P X o F M av [(n,b)] nw/\K av (gA Ml n b) aU/\((nw=[nx]/\aU=nx+1/\n=nx)\/(aU=nx/\nw=[]/\n ∈ (ev F s).names)):=by
 have hs:s ∈ o.op.operands.toList:=by simp[ho,Op.operands,Call.operands]
 have hx:x ∈ o.op.operands.toList:=by simp[ho,Op.operands,Call.operands]
 unfold rL at h
 cases ht:T.d t with
 |slice e=>
  rw[ht]at h
  simp only at h
  obtain⟨D,it,z0,hD,hf,_⟩:=hT t (by rw[ht]; simp)
  have fW:=bu ht hf
  subst fW
  obtain⟨Me,oI,hcl⟩:=hok e ht
  obtain⟨_,ie,z,_,_,hie,lr,hby,hz,iu⟩:=hT e (TD.dB Me)
  have hzs:z.cells.size=T.s e:=by
   have:=(bn.fE (ρ:=fun _=>none) (L:=fun _=>none) (I:=fun _=>False) (w:=default) (N:=cH) (ga _ _ _ _ _ z) (by rw[<-iu]; exact oI)).1
   rw[this,<-iu,hcl]
  have ve:((∃e,P.underlying t'=some (.slice e))\/ P.underlying t'=some .string)/\((∃q,ev F x= .str q)->P.underlying t'=some .string)/\((¬ ∃q,ev F x= .str q)->∃e,P.underlying t'=some (.slice e)):=by
   by_cases hq:∃q,ev F x= .str q
   ·have h1:=Yz hq
    obtain⟨D,_,_,Re,YA,_⟩:=hT t' (by rw[h1]; simp)
    have:=gf h1 YA
    subst this
    exact⟨.inr Re,fun _=>Re,fun h=>(h hq).elim⟩
   ·obtain⟨e',h1⟩:=Rc hq
    obtain⟨D,_,_,Re,YA,_⟩:=hT t' (by rw[h1]; simp)
    have:=bu h1 YA
    subst this
    exact⟨.inl ⟨_,Re⟩,fun h=>(hq h).elim,fun _=>⟨_,Re⟩⟩
  have hfit:∀need old,old<need->need<=lB->Builtin.nextslicecap need old*ie.bytes<=281474976710656:=fun need old h1 h2=>by
   refine growslice_fits h1 ?_
   calc need*ie.bytes<=lB*131072:=Nat.mul_le_mul h2 hby
    _=140737488355328:=by simp[lB]
  cases hss:ev F s with
  |bh n len=>
   rw[hss]at h
   simp only[alive]at h
   cases hb:aa Ml n with
   |none=>rw[hb]at h; exact h.elim
   |some b=>
    rw[hb]at h
    obtain⟨hc1,hmp,h2⟩:=ax h
    obtain⟨jU,h3⟩:=ax h2
    have hl:b.es.length=len:=(be.bW hmp).symm.trans (by simpa using hc1)
    simp only[Bool.and_eq_true,beq_iff_eq]at jU
    obtain⟨hsz,Am⟩:=jU
    obtain⟨xs,⟨iY,hk⟩,hsrc⟩:=kE (X:=X) (o:=o) hT hM hx ve.1 ve.2.1 ve.2.2 h3
    obtain⟨sl,dJ,fi⟩:=bg (F:=F) s hs (n:=n) (by rw[hss]; simp[AV.names])
    refine⟨_,n,_,[],nx,?_,hk,.inr ⟨rfl,rfl,by simp[AV.names]⟩⟩
    refine⟨fun p hp=> .inr ⟨sl,dJ,by simp at hp; rw[hp]; exact fi⟩,fun M' N ρ I a w hW hU hN _=> ?_⟩
    have bM:M' n=some b:=(hN sl dJ n fi).trans (by rw[hM]; exact hb)
    have dr:lens M' n=some (b.es.length,b.sz):=by rw[az]; exact⟨b,bM,be.bW hmp,rfl⟩
    obtain⟨vs,hS,hL,-⟩:=hsrc M' N ρ I a w hW hU hN
    have r1:=ao hU s hs
    rw[hss]at r1
    subst hl
    obtain⟨hn,h2⟩:=gX r1 dr
    unfold bI
    rw[dL ho]
    rw[<-hsz]at hL hS
    have ur:Src P ie.size t' (a.eval x) xs.length vs w:=by rw[lr,<-hsz]; exact hS
    rcases h2 with⟨h0,q,hv⟩|⟨g,cap,hρ,hv⟩
    ·have hB:=hW.aR n b bM
     have he:b.es=[]:=hB.dW h0
     rw[hv]
     by_cases hx0:xs.length=0
     ·have hxs:xs=[]:=List.eq_nil_of_length_eq_zero hx0
      have hvs:vs=[]:=List.eq_nil_of_length_eq_zero (by have:=hL.1; rw[hx0]at this; simpa using this)
      subst hxs; subst hvs
      have hrun:=run_append_nothing (P:=P) w t t' o.type e ie hD hie q 0 0 (Nat.le_refl _) (a.eval x) (by simpa using ur)
      rw[hrun]
      refine⟨ρ,I,?_,?_,?_⟩
      ·show mM N ρ (lens M') I w ρ (lens (cX M' n _)) I w
       have:(⟨b.ty,b.sz,b.es++ [],none⟩:be)=b:=by have:=hmp; cases b; simp_all
       rw[this,mQ bM]; exact mM.refl _ _ _ _ _
      ·show bY X ρ I (cX M' n _) _ w
       have:(⟨b.ty,b.sz,b.es++ [],none⟩:be)=b:=by have:=hmp; cases b; simp_all
       rw[this,mQ bM]
       have IC:fQ N [(n,b)]=N:=by
        rw[bD]; funext m; simp only[zZ,eq_iff_iff]
        exact⟨fun h=>h.elim (fun e=>e ▸ hn) id,.inr⟩
       rw[bD]at IC ⊢
       rw[IC]; exact hW
      ·refine .bh n _ _ (.inl hn) rfl fun l Ah oA=> ?_
       have:(⟨b.ty,b.sz,b.es++ [],none⟩:be)=b:=by have:=hmp; cases b; simp_all
       rw[this]at oA
       change lens (cX M' n b) n=_ at oA
       rw[bV,if_pos rfl,be.bW hmp]at oA
       simp at oA
       exact⟨by simp; omega,fun _=> .inl ⟨h0,q,rfl⟩⟩
     ·have Mg:(Builtin.firstCells ie.size 0 (.slice q 0 0)).run P w.drew= .ok #[] w.drew:=by
       cases q with
       |none=>exact run_firstCells_none w.drew ie.size 0 0 0
       |some a=>exact run_firstCells_some w.drew ie.size 0 a 0 0 [] (by simp) (fun j v hv=>by simp at hv)
      have hrun:=run_append_grow_src (P:=P) w t t' o.type e ie z hD hie hz q 0 0 [] Mg (a.eval x) xs.length vs ur (by omega) (by rw[he]at iY; simp[lB]at iY ⊢; omega) (hfit _ _ (by omega) (by rw[he]at iY; simpa using iY))
      rw[hrun]
      have gh:=kb (X:=X) (e:=e) (olds:=[]) (old:=0) (z:=z) hW (fun _=>⟨b,bM⟩) (fun b0 h0=>by rw[bM]at h0; cases h0; exact⟨rfl,he,hmp⟩) (by omega) ⟨by simp,by simp,fun i j hi=>by simp at hi⟩ hL (by rw[hzs,hsz]) (by rw[he]at iY; simpa using iY)
      have e1:b.es.length+xs.length=([]:List (List AV)).length+xs.length:=by rw[he]
      have e2:(⟨b.ty,b.sz,b.es++xs,none⟩:be)=⟨e,b.sz,[]++xs,none⟩:=by rw[he,Am]
      rw[e1,e2]
      exact gh
    ·rw[hv]
     by_cases hroom:b.es.length+xs.length<=cap
     ·obtain⟨g1,g2,g3⟩:=xK hW bM hmp hρ hL hroom
      have hrun:=run_append_room_src (P:=P) w t t' o.type e ie hD hie g 0 b.es.length cap (a.eval x) xs.length vs ur hroom (by rw[lr,<-hsz]; exact g1) (by rw[lr,<-hsz]; exact g2)
      rw[hrun,lr,<-hsz]
      exact g3
     ·have hB:=hW.aR n b bM
      obtain⟨olds,Lc,Rf⟩:=hB.list hmp hρ
      have Rg:(Builtin.firstCells ie.size b.es.length (.slice (some ⟨g,0,none⟩) b.es.length cap)).run P w.drew= .ok olds.toArray w.drew:=
       run_firstCells_some (P:=P) w.drew ie.size b.es.length _ _ _ _ (by rw[lr,<-hsz]; exact Lc.1) (fun k u hu=>by rw[bQ,Nat.zero_add]; exact Rf k u hu)
      have hrun:=run_append_grow_src (P:=P) w t t' o.type e ie z hD hie hz _ b.es.length cap olds Rg (a.eval x) xs.length vs ur (by omega) (by simp[lB]at iY ⊢; omega) (hfit _ _ (by omega) iY)
      rw[hrun]
      have hcap:b.es.length<=cap:=by obtain⟨_,_,_,_,_,_,hh,_⟩:=hB.real g cap hρ; exact hh
      have gh:=kb (X:=X) (e:=e) (old:=cap) (z:=z) hW (fun _=>⟨b,bM⟩) (fun b0 h0=>by rw[bM]at h0; cases h0; exact⟨rfl,rfl,hmp⟩) (by omega) Lc hL (by rw[hzs,hsz]) iY
      rw[<-Am]at gh ⊢
      exact gh
  |ab=>
   rw[hss]at h
   obtain⟨xs,⟨iY,hk⟩,hsrc⟩:=kE (X:=X) (o:=o) hT hM hx ve.1 ve.2.1 ve.2.2 h
   refine⟨_,nx,_,[nx],nx+1,?_,hk,.inl ⟨rfl,rfl,rfl⟩⟩
   refine⟨fun p hp=> .inl (by simp at hp; simp[hp]),fun M' N ρ I a w hW hU hN hF=> ?_⟩
   have hn:¬N nx:=hF nx (by simp)
   obtain⟨vs,hS,hL,-⟩:=hsrc M' N ρ I a w hW hU hN
   have r1:=ao hU s hs
   rw[hss]at r1
   generalize hv:a.eval s=v at r1
   cases r1
   unfold bI
   rw[dL ho,hv]
   have ur:Src P ie.size t' (a.eval x) xs.length vs w:=by rw[lr]; exact hS
   by_cases hx0:xs.length=0
   ·have hxs:xs=[]:=List.eq_nil_of_length_eq_zero hx0
    have hvs:vs=[]:=List.eq_nil_of_length_eq_zero (by have:=hL.1; rw[hx0]at this; simpa using this)
    subst hxs; subst hvs
    have hrun:=run_append_nothing (P:=P) w t t' o.type e ie hD hie none 0 0 (Nat.le_refl _) (a.eval x) (by simpa using ur)
    rw[hrun]
    obtain⟨E,W⟩:=hW.dW hn e (T.s e)
    refine⟨_,I,E,by rw[bD]; exact W,?_⟩
    refine .bh nx _ _ (.inr ⟨_,List.mem_singleton.2 rfl⟩) rfl fun l Ah oA=> ?_
    change lens (cX M' nx _) nx=_ at oA
    rw[bV,if_pos rfl]at oA
    simp[be.ln]at oA
    exact⟨by simp,fun _=> .inl ⟨by simp,none,rfl⟩⟩
   ·have hrun:=run_append_grow_src (P:=P) w t t' o.type e ie z hD hie hz none 0 0 [] (run_firstCells_none w.drew ie.size 0 0 0) (a.eval x) xs.length vs ur (by omega) (by simp[lB]at iY ⊢; omega) (hfit _ _ (by omega) (by simpa using iY))
    rw[hrun]
    have gh:=kb (X:=X) (n:=nx) (e:=e) (olds:=[]) (oJ:=[]) (old:=0) (z:=z) hW (fun h=>(hn h).elim) (fun b0 h0=>(hn (hW.aR nx b0 h0).lt).elim) (by omega) ⟨by simp,by simp,fun i j hi=>by simp at hi⟩ hL hzs (by simpa using iY)
    have e1:xs.length=([]:List (List AV)).length+xs.length:=by simp
    have e2:(⟨e,T.s e,xs,none⟩:be)=⟨e,T.s e,[]++xs,none⟩:=by simp
    rw[e2]
    show gC X M' N ρ I w (.bh nx xs.length) _ _ _
    rw[e1]
    simpa using gh
  |_=>rw[hss]at h; exact h.elim
 |_=>rw[ht]at h; exact h.elim
end Go.AM
namespace Go.AM
open Go.RowKit
variable {P:Program} {T:TT} {X:bL} {o:Oper} {F:aT} {M:bf}
theorem gi{a:Act}{w:World}{b:Builtin}{args:Array Operand}{ts:Array TypeId}(ho:o.op= .call {callee:= .builtin b,args:=args,argTypes:=ts}):
  (execOp a.eval o).run P w=(builtin b ts o.type (args.map fun| .const _=>true|_=>false) (args.map a.eval)).run P w:=by
 simp only[execOp,ho,resolve,invoke,Sem.run_bind,Sem.run_pure,Result.andThen_ok]
 rfl
theorem kF{n:Int}{args:Array Operand}{ts:Array TypeId}(ho:o.op= .call {callee:= .builtin .len,args:=args,argTypes:=ts})
  (h:∀M' N ρ I (a:Act) w,bY X ρ I M' N w->(∀s ∈ dq o.op,aL ρ (lens M') I w N (look F s) (a.tmps.getD s undef))->(∀s ∈ dq o.op,∀n ∈ (look F s).names,M' n=M n)->(Builtin.len_ ts o.type (args.map a.eval)).run P w= .ok (.int .i64 n) w):
  bC P X o F M (.int .i64 n) [] []:=by
 refine aB fun M' N ρ I a w hW hU hN=>⟨.int .i64 n,?_,.int _ _⟩
 rw[gi ho]
 simp[builtin,h M' N ρ I a w hW hU hN]
theorem sD(hT:cN P T){x:Operand}{t:Nat}{K:AV->Prop}{Ml:Mem}(hM:M=aa Ml)(ho:o.op= .call {callee:= .builtin .len,args:= #[x],argTypes:= #[t]})
  (h:match T.d t with
    | .arr n _=>K (.int .i64 n)
    | .slice _=>(match ev F x with
      | .aG _ es=>K (.int .i64 es.length)
      | .bh n len=>alive Ml n len fun _=>K (.int .i64 len)
      | .dm n len _ _ cnt=>alive Ml n len fun _=>K (.int .i64 cnt)
      | .ab=>K (.int .i64 0)
      |_=>False)
    | .str=>(match ev F x with
      | .str s=>K (.int .i64 s.length)
      |_=>False)
    |_=>False):∃av,bC P X o F M av [] []/\K av:=by
 have hx:x ∈ o.op.operands.toList:=by simp[ho,Op.operands,Call.operands]
 cases ht:T.d t with
 |arr n e=>
  rw[ht]at h
  obtain⟨D,it,z0,hD,hf,_⟩:=hT t (by rw[ht]; simp)
  have fW:=dX ht hf
  subst fW
  refine⟨_,kF ho fun M' N ρ I a w hW hU hN=> ?_,h⟩
  simp[Builtin.len_,run_underlying hD,goInt]
 |str=>
  rw[ht]at h
  obtain⟨D,it,z0,hD,hf,_⟩:=hT t (by rw[ht]; simp)
  have fW:=gf ht hf
  subst fW
  cases bJ:ev F x with
  |str s=>
   rw[bJ]at h
   refine⟨_,kF ho fun M' N ρ I a w hW hU hN=> ?_,h⟩
   have r1:=gW (bJ ▸ ao hU x hx)
   have e:(⟨s.toArray⟩:ByteArray).size=s.length:=rfl
   simp[Builtin.len_,run_underlying hD,goInt,r1,e]
  |_=>rw[bJ]at h; exact h.elim
 |slice e=>
  rw[ht]at h
  obtain⟨D,it,z0,hD,hf,_⟩:=hT t (by rw[ht]; simp)
  have fW:=bu ht hf
  subst fW
  have go:∀n:Nat,(∀M' N ρ I (a:Act) w,bY X ρ I M' N w->(∀s ∈ dq o.op,aL ρ (lens M') I w N (look F s) (a.tmps.getD s undef))->(∀s ∈ dq o.op,∀n ∈ (look F s).names,M' n=M n)->∃ad cap,a.eval x= .slice ad n cap)->
    bC P X o F M (.int .i64 n) [] []:=by
   intro n hh
   refine kF ho fun M' N ρ I a w hW hU hN=> ?_
   obtain⟨ad,cap,hv⟩:=hh M' N ρ I a w hW hU hN
   simp[Builtin.len_,run_underlying hD,goInt,hv]
  cases bJ:ev F x with
  |aG sz es=>
   rw[bJ]at h
   refine⟨_,go es.length fun M' N ρ I a w hW hU hN=> ?_,h⟩
   obtain⟨ad,cap,hv,_⟩:=rN (bJ ▸ ao hU x hx)
   exact⟨ad,cap,hv⟩
  |ab=>
   rw[bJ]at h
   refine⟨_,go 0 fun M' N ρ I a w hW hU hN=> ?_,h⟩
   have r1:=ao hU x hx
   rw[bJ]at r1
   generalize hv:a.eval x=v at r1
   cases r1
   exact⟨none,0,rfl⟩
  |bh n len=>
   rw[bJ]at h
   simp only[alive]at h
   cases hb:aa Ml n with
   |none=>rw[hb]at h; exact h.elim
   |some b=>
    rw[hb]at h
    obtain⟨hc1,hmp,h2⟩:=ax h
    have hl:b.es.length=len:=(be.bW hmp).symm.trans (by simpa using hc1)
    refine⟨_,go len fun M' N ρ I a w hW hU hN=> ?_,h2⟩
    obtain⟨sl,dJ,fi⟩:=bg (F:=F) x hx (n:=n) (by rw[bJ]; simp[AV.names])
    have bM:M' n=some b:=(hN sl dJ n fi).trans (by rw[hM]; exact hb)
    have dr:lens M' n=some (len,b.sz):=by rw[az]; exact⟨b,bM,(be.bW hmp).trans hl,rfl⟩
    have r1:=ao hU x hx
    rw[bJ]at r1
    obtain⟨_,⟨h0,q,hv⟩|⟨g,cap,hρ,hv⟩⟩:=gX r1 dr
    ·have:=(hW.aR n b bM).dW h0
     rw[this]at hl
     simp at hl
     subst hl
     exact⟨_,_,hv⟩
    ·exact⟨_,_,hv⟩
  |dm n len i off cnt=>
   rw[bJ]at h
   simp only[alive]at h
   cases hb:aa Ml n with
   |none=>rw[hb]at h; exact h.elim
   |some b=>
    rw[hb]at h
    obtain⟨hc1,hmp,h2⟩:=ax h
    have hl:b.es.length=len:=(be.bW hmp).symm.trans (by simpa using hc1)
    refine⟨_,go cnt fun M' N ρ I a w hW hU hN=> ?_,h2⟩
    obtain⟨sl,dJ,fi⟩:=bg (F:=F) x hx (n:=n) (by rw[bJ]; simp[AV.names])
    have bM:M' n=some b:=(hN sl dJ n fi).trans (by rw[hM]; exact hb)
    have dr:lens M' n=some (len,b.sz):=by rw[az]; exact⟨b,bM,(be.bW hmp).trans hl,rfl⟩
    have r1:=ao hU x hx
    rw[bJ]at r1
    obtain⟨_,g,cap,c,hρ,hv,_⟩:=jy r1 dr
    exact⟨_,_,hv⟩
  |_=>rw[bJ]at h; exact h.elim
 |_=>rw[ht]at h; exact h.elim
theorem qC{k:IntKind}{w:World}{ρ:Place}{L:aY}{I:Nat->Prop}{N:Nat->Prop}:∀(as:List AV)(vs:List Value)(a:Int),dp ρ L I w N as vs->sm k a as≠ .bad->
  ∃n,sm k a as= .int k n/\(vs.foldlM Builtin.min2 (.int k a)).run P w= .ok (.int k n) w
 |[],vs,a,h,_=>by
  have:vs=[]:=List.eq_nil_of_length_eq_zero (by simpa using h.1)
  subst this
  exact⟨a,rfl,rfl⟩
 |x::r,vs,a,h,hb=>by
  cases vs with
  |nil=>simp[dp]at h
  |cons v vs=>
   have h0:=h.2 0 (by simp)
   simp at h0
   cases x with
   |int k' b=>
    have hv:=bv h0
    subst hv
    have hr:dp ρ L I w N r vs:=⟨by simpa using h.1,fun j hj=>by simpa using h.2 (j+1) (by simpa using hj)⟩
    obtain⟨n,h1,h2⟩:=qC r vs (min a b) hr hb
    refine⟨n,h1,?_⟩
    have e:(if b<a then b else a)=min a b:=by omega
    simp only[List.foldlM_cons,Builtin.min2,Sem.run_bind,Sem.run_pure,Result.andThen_ok,e]
    exact h2
   |_=>exact (hb rfl).elim
theorem qD{k:IntKind}{w:World}{ρ:Place}{L:aY}{I:Nat->Prop}{N:Nat->Prop}:∀(as:List AV)(vs:List Value)(a:Int),dp ρ L I w N as vs->so k a as≠ .bad->
  ∃n,so k a as= .int k n/\(vs.foldlM Builtin.max2 (.int k a)).run P w= .ok (.int k n) w
 |[],vs,a,h,_=>by
  have:vs=[]:=List.eq_nil_of_length_eq_zero (by simpa using h.1)
  subst this
  exact⟨a,rfl,rfl⟩
 |x::r,vs,a,h,hb=>by
  cases vs with
  |nil=>simp[dp]at h
  |cons v vs=>
   have h0:=h.2 0 (by simp)
   simp at h0
   cases x with
   |int k' b=>
    have hv:=bv h0
    subst hv
    have hr:dp ρ L I w N r vs:=⟨by simpa using h.1,fun j hj=>by simpa using h.2 (j+1) (by simpa using hj)⟩
    obtain⟨n,h1,h2⟩:=qD r vs (max a b) hr hb
    refine⟨n,h1,?_⟩
    have e:(if b>a then b else a)=max a b:=by omega
    simp only[List.foldlM_cons,Builtin.max2,Sem.run_bind,Sem.run_pure,Result.andThen_ok,e]
    exact h2
   |_=>exact (hb rfl).elim
theorem qE{mx:Bool}{args:Array Operand}{ts:Array TypeId}(ho:o.op= .call {callee:= .builtin (if mx then .max else .min),args:=args,argTypes:=ts})
  (h:(if mx then xF (oC F args.toList)else xE (oC F args.toList))≠ .bad):bC P X o F M (if mx then xF (oC F args.toList)else xE (oC F args.toList)) [] []:=by
 refine aB fun M' N ρ I a w hW hU hN=> ?_
 have hR:=iX (F:=F) (ρ:=ρ) (L:=lens M') (I:=I) (w:=w) (N:=N) (a:=a) args.toList (fun x hx=>ao hU x (by simpa[ho,Op.operands,Call.operands]using hx))
 rw[gi ho]
 cases hl:args.toList with
 |nil=>cases mx<;>simp[hl,oC,xE,xF]at h
 |cons x r=>
  rw[hl]at h hR
  simp only[oC,List.map_cons]at h hR ⊢
  have h0:=hR.2 0 (by simp)
  simp at h0
  cases hx:ev F x with
  |int k n0=>
   rw[hx]at h h0
   have hv:=bv h0
   have hr:dp ρ (lens M') I w N (oC F r) (r.map a.eval):=⟨by simpa using hR.1,fun j hj=>by simpa using hR.2 (j+1) (by simpa using hj)⟩
   have ha:(args.map a.eval).toList= .int k n0::r.map a.eval:=by rw[Array.toList_map,hl,List.map_cons,hv]
   cases mx with
   |true=>
    obtain⟨n,h1,h2⟩:=qD (P:=P) _ _ n0 hr (by simpa[xF]using h)
    refine⟨.int k n,?_,by simp only[if_true,xF,h1]; exact .int _ _⟩
    simp only[if_true,builtin,Builtin.max_,ha,h2,Sem.run_bind,Result.andThen_ok,Sem.run_pure]
   |false=>
    obtain⟨n,h1,h2⟩:=qC (P:=P) _ _ n0 hr (by simpa[xE]using h)
    refine⟨.int k n,?_,by simp only[Bool.false_eq_true,if_false,xE,h1]; exact .int _ _⟩
    simp only[Bool.false_eq_true,if_false,builtin,Builtin.min_,ha,h2,Sem.run_bind,Result.andThen_ok,Sem.run_pure]
  |_=>rw[hx]at h; cases mx<;>simp[xE,xF]at h
theorem jJ:∀a b:List AV,AV.ar (a++b)=AV.ar a++AV.ar b
 |[],b=>rfl
 |x::r,b=>by simp[AV.ar,jJ r b]
theorem iZ{n:Nat}:∀{l:List Operand},n ∈ AV.ar (oC F l)->∃x ∈ l,n ∈ (ev F x).names
 |[],h=>by simp[oC,AV.ar]at h
 |x::r,h=>by
  simp only[oC,AV.ar,List.mem_append]at h
  rcases h with h|h
  ·exact⟨x,List.mem_cons_self,h⟩
  ·obtain⟨y,hy,hn⟩:=iZ h
   exact⟨y,List.mem_cons_of_mem _ hy,hn⟩
theorem dp.append{ρ:Place}{L:aY}{I:Nat->Prop}{w:World}{N:Nat->Prop}{as bs:List AV}{vs us:List Value}(h:dp ρ L I w N as vs)(k:dp ρ L I w N bs us):dp ρ L I w N (as++bs) (vs++us):=by
 refine⟨by simp[h.1,k.1],fun j hj=> ?_⟩
 by_cases hl:j<as.length
 ·have e1:(as++bs).getD j .bad=as.getD j .bad:=by simp[List.getD_eq_getElem?_getD,List.getElem?_append_left hl]
  have e2:(vs++us).getD j default=vs.getD j default:=by simp[List.getD_eq_getElem?_getD,List.getElem?_append_left (show j<vs.length by rw[h.1]; exact hl)]
  rw[e1,e2]; exact h.2 j hl
 ·have e1:(as++bs).getD j .bad=bs.getD (j - as.length) .bad:=by simp[List.getD_eq_getElem?_getD,List.getElem?_append_right (Nat.le_of_not_lt hl)]
  have e2:(vs++us).getD j default=us.getD (j - as.length) default:=by simp[List.getD_eq_getElem?_getD,List.getElem?_append_right (show vs.length<=j by rw[h.1]; omega),h.1]
  rw[e1,e2]; exact k.2 _ (by simp at hj; omega)
theorem vf{f:Operand}{args:Array Operand}{ts:Array TypeId}{g:Nat}{aP:List AV}{av:AV}{ws:List (Nat × be)}{nw:List Nat}(ho:o.op= .call {callee:= .value f,args:=args,argTypes:=ts})(hf:ev F f= .bK (.fn g) aP)
  (hfn:∃fn,P.funcs[g]? =some fn/\(fn.name== "runtime.NumGoroutine")=false/\fn.body.isNone=false) (hc:qn P X g (oC F args.toList++aP) M av ws nw):bC P X o F M av ws nw:=by
 have hfo:f ∈ o.op.operands.toList:=by simp[ho,Op.operands,Call.operands]
 have hao:∀x ∈ args.toList,x ∈ o.op.operands.toList:=fun x hx=>by
  simp only[ho,Op.operands,Call.operands,Array.toList_append]
  exact List.mem_append_right _ hx
 have hnm:∀n ∈ AV.ar (oC F args.toList++aP),∃s ∈ dq o.op,n ∈ (look F s).names:=by
  intro n hn
  rw[jJ,List.mem_append]at hn
  rcases hn with hn|hn
  ·obtain⟨x,hx,hn⟩:=iZ hn
   exact bg x (hao x hx) hn
  ·exact bg f hfo (by rw[hf]; simpa[AV.names]using hn)
 refine⟨fun p hp=>(hc.1 p hp).imp id (hnm p.1),fun M' N ρ I a w hW hU hN hF=> ?_⟩
 have r1:=ao hU f hfo
 rw[hf]at r1
 generalize hv:a.eval f=v at r1
 cases r1 with
 |bK _ _ us hl hr=>
  have hR:=(iX (F:=F) (ρ:=ρ) (L:=lens M') (I:=I) (w:=w) (N:=N) (a:=a) args.toList (fun x hx=>ao hU x (hao x hx))).append (⟨hl,hr⟩:dp ρ (lens M') I w N aP us)
  have xL:=hc.2 M' N ρ I w _ hW (fun n hn=>by obtain⟨s,hs,fi⟩:=hnm n hn; exact hN s hs n fi) hF hR
  obtain⟨fn,hfn,hname,hbody⟩:=hfn
  unfold bI
  have hrun:(execOp a.eval o).run P w= .ok (.enter g ((args.toList.map a.eval++us).toArray)) w:=by
   have e:(args.map a.eval)++us.toArray=(args.toList.map a.eval++us).toArray:=by apply Array.ext'; simp
   have nZ:¬fn.name= "runtime.NumGoroutine" :=by simpa using hname
   have oa:¬fn.body=none:=by intro h; rw[h]at hbody; simp at hbody
   simp[execOp,ho,resolve,hv,Deferred.ofValue,invoke,callFunc,hfn,nZ,oa,e]
  rw[hrun]
  exact⟨rfl,xL⟩
theorem An{f:Operand}{args:Array Operand}{ts:Array TypeId}{g:Nat}{aP:List AV}(ho:o.op= .call {callee:= .value f,args:=args,argTypes:=ts})(hf:ev F f= .bK (.fn g) aP):∀n ∈ AV.ar (oC F args.toList++aP),∃s ∈ dq o.op,n ∈ (look F s).names:=by
 have hfo:f ∈ o.op.operands.toList:=by simp[ho,Op.operands,Call.operands]
 have hao:∀x ∈ args.toList,x ∈ o.op.operands.toList:=fun x hx=>by
  simp only[ho,Op.operands,Call.operands,Array.toList_append]
  exact List.mem_append_right _ hx
 intro n hn
 rw[jJ,List.mem_append]at hn
 rcases hn with hn|hn
 ·obtain⟨x,hx,hn⟩:=iZ hn
  exact bg x (hao x hx) hn
 ·exact bg f hfo (by rw[hf]; simpa[AV.names]using hn)
theorem Ao{Rx:List Nat}{f:Operand}{args:Array Operand}{ts:Array TypeId}{g:Nat}{aP:List AV}{av:AV}{ws:List (Nat × be)}{nw:List Nat}(ho:o.op= .call {callee:= .value f,args:=args,argTypes:=ts})(hf:ev F f= .bK (.fn g) aP)
  (hfn:∃fn,P.funcs[g]? =some fn/\(fn.name== "runtime.NumGoroutine")=false/\fn.body.isNone=false) {Ry:List Nat} (hc:K8 P X g (oC F args.toList++aP) Ry M av ws nw) (hy:∀n ∈ Ry,n ∈ Rx) (hx:∀s ∈ dq o.op,∀n ∈ (look F s).names,n ∈ Rx):qq P X o F M Rx av ws nw:=by
 have hfo:f ∈ o.op.operands.toList:=by simp[ho,Op.operands,Call.operands]
 have hao:∀x ∈ args.toList,x ∈ o.op.operands.toList:=fun x hx=>by
  simp only[ho,Op.operands,Call.operands,Array.toList_append]
  exact List.mem_append_right _ hx
 refine⟨fun p hp=>(hc.1 p hp).imp id (fun h=> .inr ⟨hy _ h.1,h.2⟩),.inl hx,fun M' N ρ I a w hW hU hN hF=> ?_⟩
 have r1:=ao hU f hfo
 rw[hf]at r1
 generalize hv:a.eval f=v at r1
 cases r1 with
 |bK _ _ us hl hr=>
  have hR:=(iX (F:=F) (ρ:=ρ) (L:=lens M') (I:=I) (w:=w) (N:=N) (a:=a) args.toList (fun x hx=>ao hU x (hao x hx))).append (⟨hl,hr⟩:dp ρ (lens M') I w N aP us)
  have xL:=hc.2 M' N ρ I w _ hW (fun n hn=>hN n (hy n hn)) hF hR
  obtain⟨fn,hfn,hname,hbody⟩:=hfn
  unfold bI
  have hrun:(execOp a.eval o).run P w= .ok (.enter g ((args.toList.map a.eval++us).toArray)) w:=by
   have e:(args.map a.eval)++us.toArray=(args.toList.map a.eval++us).toArray:=by apply Array.ext'; simp
   have nZ:¬fn.name= "runtime.NumGoroutine" :=by simpa using hname
   have oa:¬fn.body=none:=by intro h; rw[h]at hbody; simp at hbody
   simp[execOp,ho,resolve,hv,Deferred.ofValue,invoke,callFunc,hfn,nZ,oa,e]
  rw[hrun]
  exact⟨rfl,xL⟩
end Go.AM
namespace Go.AM
open Go.RowKit
variable {P:Program} {T:TT} {X:bL}
end Go.AM
namespace Go.AM
open Go.RowKit
variable {P:Program} {T:TT} {X:bL}
theorem xM{a:Act}{d:Option Nat}{v:Value}{F:aT}{av:AV}{i size:Nat}(hs:a.tmps.size=size)(hd:∀x,d=some x->x<size):
  (look (gB F d av) i=av/\(a.put d v).tmps.getD i undef=v)\/(look (gB F d av) i=look F i/\(a.put d v).tmps.getD i undef=a.tmps.getD i undef):=by
 cases d with
 |none=>exact .inr ⟨rfl,rfl⟩
 |some x=>
  by_cases h:i=x
  ·subst h
   left
   have:=hd i rfl
   refine⟨by simp[gB,look],?_⟩
   simp only[Act.put]
   rw[Array.getD_eq_getD_getElem?,Array.getElem?_setIfInBounds_self_of_lt (by omega)]
   rfl
  ·right
   have hb:(i==x)=false:=by simpa using h
   refine⟨by simp[gB,look,hb],?_⟩
   simp only[Act.put]
   rw[Array.getD_eq_getD_getElem?,Array.getElem?_setIfInBounds_ne (by omega),<-Array.getD_eq_getD_getElem?]
theorem xN{o:Oper}{a:Act}{w:World}{M:bf}{N:Nat->Prop}{ρ:Place}{I:Nat->Prop}{av:AV}{ws:List (Nat × be)}(hy:bI P X o a M N ρ I w av ws):∀c,o.op≠ .defer c:=by
 intro c ho
 unfold bI at hy
 simp only[execOp,ho,Sem.run_bind]at hy
 cases hr:(resolve a.eval c o.type).run P w with
 |ok d w1=>rw[hr]at hy; simp at hy
 |halt h w1=>rw[hr]at hy; simp at hy
theorem xO{o:Oper}{a:Act}{w w':World}{f:Nat}{vs:Array Value}(h:(execOp a.eval o).run P w= .ok (.enter f vs) w'):∀c,o.op≠ .defer c:=by
 intro c ho
 simp only[execOp,ho,Sem.run_bind]at h
 cases hr:(resolve a.eval c o.type).run P w with
 |ok d w1=>rw[hr]at h; simp at h
 |halt e w1=>rw[hr]at h; simp at h
theorem wF{b:Frame}{all:Array Oper}{i:Nat}{rest:List Nat}{k:List Item}{cs:List Frame}{o:Oper}{a:Act}{w:World}{M:bf}{N:Nat->Prop}{ρ:Place}{I:Nat->Prop}{av:AV}{ws:List (Nat × be)}
  (ho:all[i]? =some o) (hw:Region.wanted o (yielded all a.tmps)=true) (hy:bI P X o a M N ρ I w av ws):
  ∃v w1,gC X M N ρ I w av ws v w1/\Steps P (lone (b.atR a (.inRegion all (i::rest)::k)) cs w) (lone (b.atR (a.put o.dst v) (.inRegion all rest::k)) cs w1):=by
 have hg:=stepGR_op (P:=P) (b:=b) (k:=k) (cs:=cs) (w:=w) (rest:=rest) ho hw
 rw[Oper.semAt_eq _ _ _ (xN hy)]at hg
 have pS:∀v,(b.atR a (.inRegion all (i::rest)::k)).finish v=b.atR (a.put o.dst v) (.inRegion all rest::k):=by
  intro v; rw[Frame.finish_atR,ho]; rfl
 unfold bI at hy
 split at hy
 ·rename_i v w' hr
  refine⟨v,w',hy,.one (step_lone_go ?_)⟩
  rw[hg,<-pS]; simp[stepG.apply,hr]
 ·rename_i w' hr
  refine⟨undef,w',hy,.one (step_lone_go ?_)⟩
  rw[hg,<-pS]; simp[stepG.apply,hr]
 ·rename_i f args w' hr
  obtain⟨rfl,hc⟩:=hy
  obtain⟨e,w'',fr,hR,sE,_,hleave⟩:=hc (b.atR a (.inRegion all (i::rest)::k)::cs)
  obtain⟨v,rfl,hp⟩:=hR
  have ja:step P (lone (b.atR a (.inRegion all (i::rest)::k)) cs w')=
    .next (lone (Frame.enter P f args .normal) (b.atR a (.inRegion all (i::rest)::k)::cs) w'):=
   step_lone_go (by rw[hg]; simp[stepG.apply,hr,Frame.atR])
  refine⟨v,w'',hp,.head ja (sE.trans (.one ?_))⟩
  rw[<-pS]; exact step_leave_returned hleave
 ·exact hy.elim
theorem sF{all:Array Oper}{tmps:Array Value}{j s:Nat}(h:(all[j]?).bind (·.dst)=some s):yielded all tmps j=match tmps[s]? with|some (.bool b)=>some b|_=>none:=by
 unfold yielded; rw[h]; rfl
theorem CH{tmps:Array Value}{s:Nat}{t:Bool}(h:tmps.getD s undef= .bool t):tmps[s]? =some (.bool t):=by
 rw[Array.getD_eq_getD_getElem?]at h
 cases hh:tmps[s]? with
 |none=>rw[hh]at h; simp[undef]at h
 |some v=>rw[hh]at h; simpa using h
section
variable {V:Type}
def ov(g:Nat->Option V)(f:Nat->V):Nat->V:=fun k=>(g k).getD (f k)
def fl(gs:Nat->Nat->Option V)(L:Nat->Prop)[DecidablePred L]:Nat->(Nat->V)->Nat->V
 |0,f=>f
 |m+1,f=>if L m then ov (gs m) (fl gs L m f)else fl gs L m f
theorem jb{gs:Nat->Nat->Option V}{L L':Nat->Prop}[DecidablePred L][DecidablePred L']{f:Nat->V}{k:Nat}:∀{m:Nat},(∀i,i<m->gs i k≠none->(L i↔L' i))->fl gs L m f k=fl gs L' m f k
 |0,_=>rfl
 |m+1,h=>by
  have ih:=jb (gs:=gs) (f:=f) (k:=k) (m:=m) (fun i hi=>h i (by omega))
  simp only[fl]
  cases hg:gs m k with
  |none=>
   have e1:(if L m then ov (gs m) (fl gs L m f)else fl gs L m f) k=fl gs L m f k:=by split<;>simp[ov,hg]
   have e2:(if L' m then ov (gs m) (fl gs L' m f)else fl gs L' m f) k=fl gs L' m f k:=by split<;>simp[ov,hg]
   rw[e1,e2,ih]
  |some v=>
   have hh:=h m (by omega) (by rw[hg]; simp)
   by_cases hl:L m
   ·rw[if_pos hl,if_pos (hh.1 hl)]; simp[ov,hg]
   ·rw[if_neg hl,if_neg (fun h=>hl (hh.2 h))]; exact ih
theorem Ap{gs:Nat->Nat->Option V}{L L':Nat->Prop}[DecidablePred L][DecidablePred L']{f:Nat->V}{k j:Nat}(hL:∀i,L' i↔(i=j\/ L i))(hj:¬L j):∀{m:Nat},j<m->(∀i,i<m->i≠j->gs j k≠none->gs i k≠none->L i->i<j)->
  fl gs L' m f k=(gs j k).getD (fl gs L m f k)
 |0,h,_=>by omega
 |m+1,hm,h=>by
  have hne:∀i,i≠j->(L' i↔L i):=fun i hi=>by rw[hL]; exact⟨fun h=>h.elim (fun e=>(hi e).elim) id,.inr⟩
  simp only[fl]
  by_cases e:j=m
  ·subst e
   have h1:fl gs L' j f k=fl gs L j f k:=jb (fun i hi _=>hne i (by omega))
   rw[if_pos ((hL j).2 (.inl rfl)),if_neg hj]
   simp only[ov,h1]
  ·have ih:=Ap (gs:=gs) (f:=f) (k:=k) hL hj (m:=m) (by omega) (fun i hi=>h i (by omega))
   have hLm:L' m↔L m:=hne m (fun h=>e h.symm)
   by_cases hl:L m
   ·rw[if_pos (hLm.2 hl),if_pos hl]
    simp only[ov]
    cases hg:gs m k with
    |none=>simpa using ih
    |some v=>
     cases hgj:gs j k with
     |none=>simp
     |some u=>
      have:=h m (by omega) (by omega) (by rw[hgj]; simp) (by rw[hg]; simp) hl
      omega
   ·rw[if_neg (fun h=>hl (hLm.1 h)),if_neg hl]; exact ih
end
def EM(ops:Array Oper)(i j:Nat):Prop:=∃o e,ops[j]? =some o/\e ∈ o.after.toList/\Region.binds .any e=true/\e.on=i
def gJ(ops:Array Oper)(L:Nat->Prop):Prop:=∀i j,EM ops i j->L j->L i
def iw(ops:Array Oper)(i j:Nat):Prop:=∀L:Nat->Prop,gJ ops L->(∀k,EM ops k j->L k)->L i
theorem lP:∀(r:List Oper)(i:Nat),sq i r=true->∀k o,r[k]? =some o->∀e ∈ o.after.toList,Region.binds .any e=true->e.on<i+k
 |[],i,_,k,o,h=>by simp at h
 |x::r,i,hb,k,o,h=>by
  simp only[sq,Bool.and_eq_true]at hb
  intro e he Mh
  cases k with
  |zero=>
   simp only[List.getElem?_cons_zero,Option.some.injEq]at h
   subst h
   have:=List.all_eq_true.1 hb.1 e he
   simp only[Mh,Bool.not_true,Bool.false_or]at this
   rw[Nat.blt_eq]at this
   omega
  |succ k=>
   have:=lP r (i+1) hb.2 k o (by simpa using h) e he Mh
   omega
theorem ob{acc:List Nat}{i:Nat}:∀{es:List Edge},(qp acc es).testBit i=true->∃e ∈ es,Region.binds .any e=true/\(e.on=i\/(acc.getD e.on 0).testBit i=true)
 |[],h=>by simp[qp]at h
 |e::r,h=>by
  simp only[qp]at h
  cases hb:Region.binds .any e with
  |true=>
   rw[hb]at h
   simp only[cond_true,Nat.testBit_or,Bool.or_eq_true]at h
   rcases h with (h|h)|h
   ·exact⟨e,List.mem_cons_self,hb,.inl (by simpa[Nat.testBit_two_pow]using h)⟩
   ·exact⟨e,List.mem_cons_self,hb,.inr h⟩
   ·obtain⟨e',h1,h2⟩:=ob h
    exact⟨e',List.mem_cons_of_mem _ h1,h2⟩
  |false=>
   rw[hb]at h
   obtain⟨e',h1,h2⟩:=ob h
   exact⟨e',List.mem_cons_of_mem _ h1,h2⟩
theorem sG{ops:Array Oper}:∀(r:List Oper)(acc:List Nat),r=ops.toList.drop acc.length->(∀k i,(acc.getD k 0).testBit i=true->iw ops i k)->∀k i,((dA r acc).getD k 0).testBit i=true->iw ops i k
 |[],acc,_,h,k,i,hb=>h k i hb
 |o::r,acc,hr,h,k,i,hb=>by
  have ho:ops[acc.length]? =some o:=by
   have:(ops.toList.drop acc.length)[0]? =some o:=by rw[<-hr]; rfl
   simpa using this
  have hr':r=ops.toList.drop (acc.length+1):=by
   have:(o::r).drop 1=(ops.toList.drop acc.length).drop 1:=by rw[hr]
   simpa[List.drop_drop]using this
  refine sG r (acc++ [qp acc o.after.toList]) (by simpa using hr') (fun k i hb=> ?_) k i hb
  by_cases hk:k<acc.length
  ·exact h k i (by simpa[List.getD_eq_getElem?_getD,List.getElem?_append_left hk]using hb)
  ·by_cases hk2:k=acc.length
   ·subst hk2
    have:(qp acc o.after.toList).testBit i=true:=by simpa[List.getD_eq_getElem?_getD]using hb
    obtain⟨e,he,Mh,h1|h1⟩:=ob this
    ·exact fun L _ hp=>hp i ⟨o,e,ho,he,Mh,h1⟩
    ·exact fun L hc hp=>h e.on i h1 L hc (fun k' hk'=>hc _ _ hk' (hp e.on ⟨o,e,ho,he,Mh,rfl⟩))
   ·rw[List.getD_eq_getElem?_getD,List.getElem?_eq_none (by simp; omega)]at hb
    simp at hb
structure Aq where
 F:aT
 M:Mem
 lo:Nat
 run:Bool
 av:AV
 ws:List (Nat × be)
 nw:List Nat
 W:List Nat
 R:List Nat
 k:Nat
def mR(ops:Array Oper)(o:Oper)(F:aT)(run:Bool):Prop:=
 match o.guard with
 |none=>run=true
 |some (j,want)=>∃s,(ops[j]?).bind (·.dst)=some s/\((run=true/\look F s= .bool want)\/(run=false/\(look F s= .bool (!want)\/ look F s= .aF [])))
def Ar(log:List fY)(x:fY):Prop:=x ∈ log\/(x.R=[]/\x.W=[]/\x.lo=x.hi)
structure Fg(P:Program)(X:bL)(ops:Array Oper)(bN:List fY)(E:Nat->Aq)(j:Nat)(o:Oper):Prop where
 guard:mR ops o (E j).F (E j).run
 pO:(E j).run=true->qq P X o (E j).F (aa (E j).M) (E j).R (E j).av (E j).ws (E j).nw
 wn:∀p ∈ (E j).ws,p.1 ∈ (E j).nw\/ p.1 ∈ (E j).W
 skip:(E j).run=false->(E j).av= .aF []/\(E j).ws=[]/\(E j).nw=[]
 le:(E j).lo<=(E (j+1)).lo
 nw:∀n ∈ (E j).nw,(E j).lo<=n/\n< (E (j+1)).lo
 F:look (E (j+1)).F=look (gB (E j).F o.dst (E j).av)
 M:aa (E (j+1)).M=aa (bX (E j).M (E j).ws)
 log:(E j).run=true->Ar bN ⟨j,(E j).R,(E j).W,(E j).lo,(E (j+1)).lo,(E j).k⟩
 YB:(E j).run=true->(E j).k=1->nJ P X o (E j).F (aa (E j).M) (E j).av/\(E j).ws=[]
 sto:(E j).run=true->(E j).k=2->∀p ∈ (E j).ws,lens (aa (E j).M) p.1=some (p.2.ln,p.2.sz)
 YC:(E j).run=true->(E j).k=3->oF P X o (E j).F (aa (E j).M) (E j).av/\(E j).ws=[]
 Mi:(E j).run=true->(E j).k=4->∀p ∈ (E j).ws,Vw (aa (E j).M p.1)=Vw (some p.2)
theorem xP{log bN:List fY}{i:Nat}{R W:List Nat}{lo hi k:Nat}(h:∀x ∈ E4 i R W lo hi k log,x ∈ bN):Ar bN ⟨i,R,W,lo,hi,k⟩:=by
 unfold E4 at h
 cases hc:(R.isEmpty&&W.isEmpty)&&lo==hi with
 |true=>
  simp only[Bool.and_eq_true,List.isEmpty_iff,beq_iff_eq]at hc
  exact .inr ⟨hc.1.1,hc.1.2,hc.2⟩
 |false=>rw[hc]at h; exact .inl (h _ List.mem_cons_self)
theorem Fh{log:List fY}{i:Nat}{R W:List Nat}{lo hi k:Nat}:∀x ∈ log,x ∈ E4 i R W lo hi k log:=by
 intro x hx
 unfold E4
 cases (R.isEmpty&&W.isEmpty)&&lo==hi
 ·exact List.mem_cons_of_mem _ hx
 ·exact hx
theorem kG{F:aT}{s:Nat}{v:AV}(h:look F s=v):look ((s,v)::F)=look F:=by
 funext i
 by_cases e:i=s
 ·subst e; simp[look,h]
 ·have:(i==s)=false:=by simpa using e
  simp[look,this]
end Go.AM
namespace Go.AM
open Go.RowKit
variable {P:Program} {T:TT} {X:bL}
theorem dv:∀{cs:List AV}{m:Nat},m ∈ AV.ar cs->∃j,j<cs.length/\m ∈ (cs.getD j .bad).names
 |[],_,h=>by simp[AV.ar]at h
 |c::cs,m,h=>by
  simp only[AV.ar,List.mem_append]at h
  rcases h with h|h
  ·exact⟨0,by simp,by simpa using h⟩
  ·obtain⟨j,hj,hm⟩:=dv h
   exact⟨j+1,by simpa using hj,by simpa using hm⟩
theorem ke{ρ:Place}{L:aY}{I:Nat->Prop}{w:World}{N:Nat->Prop}{a:AV}{v:Value}(h:aL ρ L I w N a v):∀m ∈ a.names,N m:=by
 induction h with
 |loc n len i off v hn h1 h=>intro m hm; simp[AV.names]at hm; exact hm ▸ hn
 |bh n len v hn h1 h=>intro m hm; simp[AV.names]at hm; exact hm ▸ hn
 |dm n len i off cnt v hn h1 h=>intro m hm; simp[AV.names]at hm; exact hm ▸ hn
 |omap n v hn h1 h=>intro m hm; simp[AV.names]at hm; exact hm ▸ hn
 |qm f aP vs hl hr ih=>intro m hm; obtain⟨j,hj,hm⟩:=dv (by simpa[AV.names]using hm); exact ih j hj m hm
 |bK f aP vs hl hr ih=>intro m hm; obtain⟨j,hj,hm⟩:=dv (by simpa[AV.names]using hm); exact ih j hj m hm
 |agg cs vs hl h1 hr ih=>intro m hm; obtain⟨j,hj,hm⟩:=dv (by simpa[AV.names]using hm); exact ih j hj m hm
 |aF cs vs hl hr ih=>intro m hm; obtain⟨j,hj,hm⟩:=dv (by simpa[AV.names]using hm); exact ih j hj m hm
 |_=>intro m hm; simp[AV.names]at hm
theorem bY.sH{ρ:Place}{I:Nat->Prop}{M:bf}{N N':Nat->Prop}{w:World}(W:bY X ρ I M N w)(hN:∀m,N m->N' m):bY X ρ I M N' w:=by
 refine⟨fun n b hb=> ?_,W.inj,W.oz,W.lt,W.old,W.keeps,fun n hn=>hN n (W.pn n hn),W.Cw,W.par⟩
 have B:=W.aR n b hb
 refine⟨hN n B.lt,B.even,B.dW,fun g cap hρ=> ?_,B.iter⟩
 obtain⟨cs,fr,hc1,Cx,jU,Cy,BQ,z',Cz,CA⟩:=B.real g cap hρ
 refine⟨cs,fr,hc1,Cx,jU,Cy,BQ,z',Cz,fun i j hi hj=> ?_⟩
 obtain⟨u,hu,pE,hr⟩:=CA i j hi hj
 exact⟨u,hu,pE,hr.wide hN⟩
def uC:List (Nat × be)->Nat->Option (Option be)
 |[],_=>none
 |(n,b)::r,k=>match uC r k with
  |some x=>some x
  |none=>if k=n then some (some b)else none
theorem mS:∀(ws:List (Nat × be))(M:bf),cV M ws=ov (uC ws) M
 |[],M=>by funext k; rfl
 |(n,b)::r,M=>by
  funext k
  simp only[cV,mS r,ov,uC]
  cases hw:uC r k with
  |some x=>simp
  |none=>by_cases h:k=n<;>simp[cX,h]
theorem rO:∀{ws:List (Nat × be)}{k:Nat},uC ws k≠none->∃p ∈ ws,p.1=k
 |[],k,h=>by simp[uC]at h
 |(n,b)::r,k,h=>by
  simp only[uC]at h
  cases hw:uC r k with
  |some x=>obtain⟨p,h1,h2⟩:=rO (ws:=r) (k:=k) (by rw[hw]; simp); exact⟨p,List.mem_cons_of_mem _ h1,h2⟩
  |none=>
   rw[hw]at h
   by_cases e:k=n
   ·exact⟨_,List.mem_cons_self,e.symm⟩
   ·simp[e]at h
def uD(d:Option Nat)(av:AV)(k:Nat):Option AV:=match d with
 |some d=>if k=d then some av else none
 |none=>none
theorem CI(F:aT)(d:Option Nat)(av:AV):look (gB F d av)=ov (uD d av) (look F):=by
 funext k
 cases d with
 |none=>rfl
 |some d=>
  by_cases h:k=d
  ·subst h; simp[gB,look,ov,uD]
  ·have:(k==d)=false:=by simpa using h
   simp[gB,look,ov,uD,h,this]
theorem Fi{V:Type}{gs:Nat->Nat->Option V}{f:Nat->V}{k j:Nat}:∀{m:Nat},j<=m->fl gs (· <j) m f k=fl gs (fun _=>True) j f k
 |0,h=>by have:j=0:=by omega
          subst this; rfl
 |m+1,h=>by
  by_cases e:j=m+1
  ·subst e
   exact jb (fun i hi _=>by simp[hi])
  ·have ih:=Fi (gs:=gs) (f:=f) (k:=k) (j:=j) (m:=m) (by omega)
   simp only[fl]
   rw[if_neg (by omega)]
   exact ih
theorem xQ{a:Act}{d:Option Nat}{v:Value}{s size:Nat}(hs:a.tmps.size=size)(hd:∀x,d=some x->x<size):(a.put d v).tmps.getD s undef=if d=some s then v else a.tmps.getD s undef:=by
 cases d with
 |none=>simp[Act.put]
 |some x=>
  by_cases h:x=s
  ·subst h
   have:=hd x rfl
   simp only[Act.put,if_pos]
   rw[Array.getD_eq_getD_getElem?,Array.getElem?_setIfInBounds_self_of_lt (by omega)]
   rfl
  ·have h':¬ (some x=some s):=by simpa using h
   rw[if_neg h']
   simp only[Act.put]
   rw[Array.getD_eq_getD_getElem?,Array.getElem?_setIfInBounds_ne h,<-Array.getD_eq_getD_getElem?]
section
variable {ops:Array Oper} {E:Nat->Aq} {S:St} {bN:List fY}
def gF(ops:Array Oper)(E:Nat->Aq)(j:Nat):Nat->Option AV:=uD ((ops[j]?).bind (·.dst)) (E j).av
def gM(E:Nat->Aq)(j:Nat):Nat->Option (Option be):=uC (E j).ws
structure br(P:Program)(X:bL)(ops:Array Oper)(E:Nat->Aq)(S:St)(bN:List fY):Prop where
 YD:wz ops bN=true
 draw:pN ops=true
 F0:look (E 0).F=look S.F
 M0:(E 0).M=S.M
 YE:(E 0).lo=S.nx
 ok:∀(j:Nat)(o:Oper),ops[j]? =some o->Fg P X ops bN E j o
 size:∀(j:Nat)(o:Oper),ops[j]? =some o->∀d,o.dst=some d->d<X.size
theorem br.Fj(h:br P X ops E S bN):∀j,j<=ops.size->fl (gF ops E) (fun _=>True) j (look S.F)=look (E j).F
 |0,_=>h.F0.symm
 |j+1,hj=>by
  have ho:ops[j]? =some ops[j]:=Array.getElem?_eq_getElem (by omega)
  have R:=h.ok j _ ho
  rw[R.F,CI]
  simp only[fl,if_true]
  rw[h.Fj j (by omega)]
  simp only[gF,ho,Option.bind_some]
theorem br.sI(h:br P X ops E S bN):∀j,j<=ops.size->fl (gM E) (fun _=>True) j (aa S.M)=aa (E j).M
 |0,_=>by rw[h.M0]; rfl
 |j+1,hj=>by
  have ho:ops[j]? =some ops[j]:=Array.getElem?_eq_getElem (by omega)
  have R:=h.ok j _ ho
  rw[R.M,gD,mS]
  simp only[fl,if_true]
  rw[h.sI j (by omega)]
  rfl
theorem br.lo(h:br P X ops E S bN){i:Nat}:∀{j:Nat},i<=j->j<=ops.size->(E i).lo<=(E j).lo
 |0,hij,_=>by have:i=0:=by omega
              subst this; exact Nat.le_refl _
 |j+1,hij,hj=>by
  by_cases e:i=j+1
  ·subst e; exact Nat.le_refl _
  ·have ho:ops[j]? =some ops[j]:=Array.getElem?_eq_getElem (by omega)
   exact Nat.le_trans (h.lo (i:=i) (j:=j) (by omega) (by omega)) (h.ok j _ ho).le
theorem br.dir(h:br P X ops E S bN){i j:Nat}(hd:EM ops i j):i<j:=by
 obtain⟨o,e,ho,he,hb,rfl⟩:=hd
 have:=h.draw
 simp only[pN,Bool.and_eq_true]at this
 have:=lP _ 0 this.1 j o (by simpa using ho) e he hb
 omega
theorem br.gK(h:br P X ops E S bN){i j:Nat}(hb:iw ops i j):i<j:=
 hb (· <j) (fun a b hd hb=>by have:=h.dir hd; omega) (fun k hk=>h.dir hk)
theorem jA{i j:Nat}(h:((dA ops.toList []).getD j 0).testBit i=true):iw ops i j:=
 sG ops.toList [] (by simp) (fun k i h=>by simp at h) j i h
theorem br.apart(h:br P X ops E S bN){i j:Nat}{x y:Oper}(hi:ops[i]? =some x)(hj:ops[j]? =some y)(hij:i<j):iw ops i j\/ x.apart ops y=true:=by
 have:=h.draw
 simp only[pN,Bool.and_eq_true,BR]at this
 have hj':=(Array.getElem?_eq_some_iff.1 hj).1
 have h1:=List.all_eq_true.1 this.2 j (List.mem_range.2 hj')
 have h2:=List.all_eq_true.1 h1 i (List.mem_range.2 hij)
 rw[hi,hj]at h2
 rw[Bool.or_eq_true]at h2
 rcases h2 with h|h
 ·exact .inl (jA h)
 ·exact .inr h
theorem wG{i k:Nat}(h:gF ops E i k≠none):∃o,ops[i]? =some o/\o.dst=some k:=by
 unfold gF at h
 cases ho:ops[i]? with
 |none=>rw[ho]at h; simp[uD]at h
 |some o=>
  refine⟨o,rfl,?_⟩
  rw[ho]at h
  simp only[Option.bind_some]at h
  cases hd:o.dst with
  |none=>rw[hd]at h; simp[uD]at h
  |some d=>
   rw[hd]at h
   by_cases e:k=d
   ·rw[e]
   ·simp[uD,e]at h
theorem br.slot(h:br P X ops E S bN){L:Nat->Prop}[DecidablePred L](hc:gJ ops L){j:Nat}{o:Oper}(ho:ops[j]? =some o)(hj:¬L j)(hp:∀k,EM ops k j->L k){s:Nat}(hs:s ∈ o.looksAt ops):
  fl (gF ops E) L ops.size (look S.F) s=look (E j).F s:=by
 have Ij:=(Array.getElem?_eq_some_iff.1 ho).1
 rw[<-h.Fj j (by omega),<-Fi (m:=ops.size) (by omega)]
 refine jb fun i hi hg=> ?_
 obtain⟨x,hx,hd⟩:=wG hg
 rcases Nat.lt_trichotomy i j with hij|hij|hij
 ·rcases h.apart hx ho hij with hb|hb
  ·exact⟨fun _=>hij,fun _=>hb L hc hp⟩
  ·exact ((Oper.apart_spec hb).1 s hd hs).elim
 ·subst hij; exact⟨fun h=>(hj h).elim,fun h=>by omega⟩
 ·rcases h.apart ho hx hij with hb|hb
  ·exact⟨fun hl=>(hj (hb L hc (fun k hk=>hc k i hk hl))).elim,fun h=>by omega⟩
  ·exact ((Oper.apart_spec hb).2.2 s hd hs).elim
theorem br.IF(h:br P X ops E S bN){L:Nat->Prop}(hc:gJ ops L){j:Nat}{o:Oper}(ho:ops[j]? =some o)(hj:¬L j){k i:Nat}(hij:i≠j)(h1:gF ops E j k≠none)(h2:gF ops E i k≠none)(hl:L i):i<j:=by
 obtain⟨x,hx,hd⟩:=wG h2
 obtain⟨y,hy,BT⟩:=wG h1
 rcases Nat.lt_trichotomy i j with h3|h3|h3
 ·exact h3
 ·omega
 ·rcases h.apart hy hx h3 with hb|hb
  ·exact (hj (hb L hc (fun k hk=>hc k i hk hl))).elim
  ·exact ((Oper.apart_spec hb).2.1 k BT hd).elim
theorem vg{lo hi:Nat}{R W:List Nat}(h:L5 lo hi R W=true){n:Nat}(hn:n ∈ R):¬ (lo<=n/\n<hi)/\n ∉ W:=by
 have:=List.all_eq_true.1 h n hn
 simp only[Bool.and_eq_true,Bool.not_eq_true',Bool.and_eq_false_iff,List.any_eq_false]at this
 refine⟨?_,fun hw=> ?_⟩
 ·rintro⟨h1,h2⟩
  rcases this.1 with h3|h3
  ·have:=Nat.ble_eq_true_of_le h1; rw[h3]at this; simp at this
  ·have Rh:Nat.blt n hi=true:=by rw[Nat.blt_eq]; exact h2
   rw[h3]at Rh; simp at Rh
 ·exact this.2 n hw (Nat.beq_refl n)
def Fk(E:Nat->Aq)(bN:List fY)(j:Nat):Prop:=lJ bN ⟨j,(E j).R,(E j).W,(E j).lo,(E (j+1)).lo,(E j).k⟩=true
def KP(E:Nat->Aq)(i j:Nat):Prop:=((E i).k=3/\(E j).k=4)\/((E i).k=4/\(E j).k=3)
theorem br.pair(h:br P X ops E S bN){i j:Nat}{x y:Oper}(hi:ops[i]? =some x)(hj:ops[j]? =some y)(hij:i≠j)(ri:(E i).run=true)(rj:(E j).run=true)(ni:¬Fk E bN i)(nj:¬Fk E bN j):
  iw ops i j\/ iw ops j i\/ KP E i j\/(∀n,(∃p ∈ (E i).ws,p.1=n)->n ∉ (E j).R)/\(∀n,(∃p ∈ (E i).ws,p.1=n)->(∃p ∈ (E j).ws,p.1=n)->False):=by
 have Ri:=h.ok i x hi
 have Rj:=h.ok j y hj
 have hi':=(Array.getElem?_eq_some_iff.1 hi).1
 have hj':=(Array.getElem?_eq_some_iff.1 hj).1
 have li:=Ri.log ri
 have lj:=Rj.log rj
 have key:iw ops i j\/ iw ops j i\/ KP E i j\/((∀n ∈ (E j).R,¬ ((E i).lo<=n/\n< (E (i+1)).lo)/\n ∉ (E i).W)/\(∀n ∈ (E i).R,¬ ((E j).lo<=n/\n< (E (j+1)).lo)/\n ∉ (E j).W)):=by
  rcases li with li|⟨hR,hW,hlo⟩
  ·rcases lj with lj|⟨Qw,hW',IG⟩
   ·have h1:=List.all_eq_true.1 (List.all_eq_true.1 h.YD _ li) _ lj
    simp only[Bool.or_eq_true,Nat.beq_eq_true_eq]at h1
    rcases h1 with ((((h1|h1)|h1)|h1)|h1)|h1
    ·exact (hij (Nat.eq_of_beq_eq_true h1)).elim
    rotate_left
    ·exact (ni h1).elim
    ·exact (nj h1).elim
    ·simp only[CB,Bool.and_eq_true]at h1
     exact .inr (.inr (.inl (.inl ⟨Nat.eq_of_beq_eq_true h1.1,Nat.eq_of_beq_eq_true h1.2⟩)))
    ·simp only[CB,Bool.and_eq_true]at h1
     exact .inr (.inr (.inl (.inr ⟨Nat.eq_of_beq_eq_true h1.2,Nat.eq_of_beq_eq_true h1.1⟩)))
    ·simp only[Ae,Bool.or_eq_true,Bool.and_eq_true]at h1
     rcases h1 with (h1|h1)|⟨h1,h2⟩
     ·exact .inr (.inl (jA h1))
     ·exact .inl (jA h1)
     ·exact .inr (.inr (.inr ⟨fun n hn=>vg h1 hn,fun n hn=>vg h2 hn⟩))
   ·refine .inr (.inr (.inr ⟨fun n hn=> ?_,fun n hn=> ?_⟩))
    ·simp only at Qw; rw[Qw]at hn; simp at hn
    ·simp only at hW' IG; rw[hW']; exact⟨by omega,by simp⟩
  ·refine .inr (.inr (.inr ⟨fun n hn=> ?_,fun n hn=> ?_⟩))
   ·simp only at hW hlo; rw[hW]; exact⟨by omega,by simp⟩
   ·simp only at hR; rw[hR]at hn; simp at hn
 rcases key with h1|h1|h1|⟨k1,k2⟩
 ·exact .inl h1
 ·exact .inr (.inl h1)
 ·exact .inr (.inr (.inl h1))
 refine .inr (.inr (.inr ⟨fun n ⟨p,hp,hn⟩ hr=> ?_,fun n ⟨p,hp,hn⟩ ⟨q,hq,hn'⟩=> ?_⟩))
 ·subst hn
  rcases Ri.wn p hp with hw|hw
  ·exact (k1 _ hr).1 (Ri.nw _ hw)
  ·exact (k1 _ hr).2 hw
 ·subst hn
  have dZ:p.1 ∈ (E i).nw\/ p.1 ∈ (E i).R:=by
   rcases (Ri.pO ri).1 p hp with hv|⟨s',hs',hv⟩|⟨hv,_⟩
   ·exact .inl hv
   ·rcases (Ri.pO ri).2.1 with h2|⟨h2,_⟩
    ·exact .inr (h2 s' hs' _ hv)
    ·rw[h2]at hp; simp at hp
   ·exact .inr hv
  have inJ:q.1 ∈ (E j).nw\/ q.1 ∈ (E j).R:=by
   rcases (Rj.pO rj).1 q hq with hv|⟨s',hs',hv⟩|⟨hv,_⟩
   ·exact .inl hv
   ·rcases (Rj.pO rj).2.1 with h2|⟨h2,_⟩
    ·exact .inr (h2 s' hs' _ hv)
    ·rw[h2]at hq; simp at hq
   ·exact .inr hv
  rcases inJ with hw|hw
  ·rw[hn']at hw
   rcases dZ with hv|hv
   ·have a1:=Ri.nw _ hv
    have a2:=Rj.nw _ hw
    rcases Nat.lt_or_gt_of_ne hij with hlt|hlt
    ·have:=h.lo (i:=i+1) (j:=j) (by omega) (by omega); omega
    ·have:=h.lo (i:=j+1) (j:=i) (by omega) (by omega); omega
   ·exact (k2 _ hv).1 (Rj.nw _ hw)
  ·rw[hn']at hw
   rcases Ri.wn p hp with hv|hv
   ·exact (k1 _ hw).1 (Ri.nw _ hv)
   ·exact (k1 _ hw).2 hv
theorem br.runs(h:br P X ops E S bN){i:Nat}{k:Nat}(hi:i<ops.size)(hg:gM E i k≠none):∃x,ops[i]? =some x/\(E i).run=true/\∃p ∈ (E i).ws,p.1=k:=by
 have ho:ops[i]? =some ops[i]:=Array.getElem?_eq_getElem hi
 have hp:=rO hg
 refine⟨_,ho,?_,hp⟩
 cases hr:(E i).run with
 |true=>rfl
 |false=>
  obtain⟨_,h2,_⟩:=(h.ok i _ ho).skip hr
  rw[h2]at hp
  simp at hp
theorem br.Au(h:br P X ops E S bN){i n:Nat}{x:Oper}(hx:ops[i]? =some x)(hr:(E i).run=true)(hw:∃p ∈ (E i).ws,p.1=n):¬Fk E bN i:=by
 intro ha
 unfold Fk lJ at ha
 simp only[Bool.and_eq_true]at ha
 have:=((h.ok i x hx).YB hr (Nat.eq_of_beq_eq_true ha.1)).2
 rw[this]at hw
 simp at hw
theorem rP:∀{ws:List (Nat × be)}{k:Nat}{v:Option be},uC ws k=some v->∃p ∈ ws,p.1=k/\v=some p.2
 |[],k,v,h=>by simp[uC]at h
 |(n,b)::r,k,v,h=>by
  simp only[uC]at h
  cases hw:uC r k with
  |some x=>
   rw[hw]at h
   obtain⟨p,h1,h2,h3⟩:=rP (ws:=r) hw
   simp only[Option.some.injEq]at h
   exact⟨p,List.mem_cons_of_mem _ h1,h2,by rw[<-h]; exact h3⟩
  |none=>
   rw[hw]at h
   by_cases e:k=n
   ·simp[e]at h
    exact⟨_,List.mem_cons_self,e.symm,h.symm⟩
   ·simp[e]at h
theorem br.shape(h:br P X ops E S bN){j n:Nat}(ha:Fk E bN j)(hn:n ∈ (E j).R):∀(m:Nat),m<=ops.size->∀(L:Nat->Prop)[DecidablePred L],lens (fl (gM E) L m (aa S.M)) n=lens (aa S.M) n
 |0,_,L,_=>rfl
 |m+1,hm,L,_=>by
  have ih:=h.shape ha hn m (by omega) L
  simp only[fl]
  split
  ·cases hg:gM E m n with
   |none=>
    have e:ov (gM E m) (fl (gM E) L m (aa S.M)) n=fl (gM E) L m (aa S.M) n:=by simp[ov,hg]
    unfold lens at ih ⊢
    rw[e]; exact ih
   |some v=>
    obtain⟨p,hp,Ik,hv⟩:=rP hg
    obtain⟨x,hx,vh,_⟩:=h.runs (i:=m) (k:=n) (by omega) (by rw[hg]; simp)
    have Rm:=h.ok m x hx
    have hall:∀y ∈ bN,n<y.lo/\(y.k=2\/ n ∉ y.W):=fun y hy=>by
     have ha:=ha
     unfold Fk lJ at ha
     simp only[Bool.and_eq_true]at ha
     have h1:=List.all_eq_true.1 (List.all_eq_true.1 ha.2 y hy) n hn
     simp only[Bool.and_eq_true,Bool.or_eq_true,Bool.not_eq_true',List.any_eq_false]at h1
     refine⟨by simpa[Nat.blt_eq]using h1.1,h1.2.imp (fun h=>Nat.eq_of_beq_eq_true h) fun h hw=>h n hw (Nat.beq_refl n)⟩
    have hwn:=Rm.wn p hp
    rw[Ik]at hwn
    have hk2:(E m).k=2:=by
     rcases Rm.log vh with hl|⟨_,hW,hlo⟩
     ·obtain⟨h1,h2⟩:=hall _ hl
      simp only at h1 h2
      rcases hwn with hw|hw
      ·have:=Rm.nw n hw; omega
      ·exact h2.resolve_right fun h=>h hw
     ·simp only at hW hlo
      rcases hwn with hw|hw
      ·have:=Rm.nw n hw; omega
      ·rw[hW]at hw; simp at hw
    have hs:=Rm.sto vh hk2 p hp
    rw[Ik,<-h.sI m (by omega),h.shape ha hn m (by omega) (fun _=>True)]at hs
    have e:ov (gM E m) (fl (gM E) L m (aa S.M)) n=some p.2:=by simp[ov,hg,hv]
    rw[hs]
    rw[az]
    exact⟨p.2,e,rfl,rfl⟩
  ·exact ih
theorem br.Ld(h:br P X ops E S bN){i n:Nat}{x:Oper}(hx:ops[i]? =some x)(hr:(E i).run=true)(h3:(E i).k=3)(hw:∃p ∈ (E i).ws,p.1=n):False:=by
 rw[((h.ok i x hx).YC hr h3).2]at hw
 simp at hw
theorem br.mem(h:br P X ops E S bN){L:Nat->Prop}[DecidablePred L](hc:gJ ops L){j:Nat}{o:Oper}(ho:ops[j]? =some o)(hj:¬L j)(hp:∀k,EM ops k j->L k)(hr:(E j).run=true)(nj:¬Fk E bN j)(n3:(E j).k≠3){n:Nat}(hn:n ∈ (E j).R):
  fl (gM E) L ops.size (aa S.M) n=aa (E j).M n:=by
 have Ij:=(Array.getElem?_eq_some_iff.1 ho).1
 rw[<-h.sI j (by omega),<-Fi (m:=ops.size) (by omega)]
 refine jb fun i hi hg=> ?_
 obtain⟨x,hx,vh,hk⟩:=h.runs hi hg
 by_cases hij:i=j
 ·subst hij; exact⟨fun h=>(hj h).elim,fun h=>by omega⟩
 rcases h.pair hx ho hij vh hr (h.Au hx vh hk) nj with hb|hb|hb|⟨hb,_⟩
 ·exact⟨fun _=>h.gK hb,fun _=>hb L hc hp⟩
 ·have:=h.gK hb
  exact⟨fun hl=>(hj (hb L hc (fun k hk=>hc k i hk hl))).elim,fun h=>by omega⟩
 ·rcases hb with⟨hb,_⟩|⟨_,hb⟩
  ·exact (h.Ld hx vh hb hk).elim
  ·exact (n3 hb).elim
 ·exact (hb n hk hn).elim
theorem br.Mj(h:br P X ops E S bN){L:Nat->Prop}(hc:gJ ops L){j:Nat}(Ij:j<ops.size)(hj:¬L j){k i:Nat}(hi:i<ops.size)(hij:i≠j)(h1:gM E j k≠none)(h2:gM E i k≠none)(hl:L i):i<j:=by
 obtain⟨x,hx,vh,hk⟩:=h.runs hi h2
 obtain⟨y,hy,Mk,hk'⟩:=h.runs Ij h1
 rcases h.pair hx hy hij vh Mk (h.Au hx vh hk) (h.Au hy Mk hk')with hb|hb|hb|⟨_,hb⟩
 ·exact h.gK hb
 ·exact (hj (hb L hc (fun k hk=>hc k i hk hl))).elim
 ·rcases hb with⟨hb,_⟩|⟨_,hb⟩
  ·exact (h.Ld hx vh hb hk).elim
  ·exact (h.Ld hy Mk hb hk').elim
 ·exact (hb k hk hk').elim
theorem br.view(h:br P X ops E S bN){L:Nat->Prop}[DecidablePred L](hc:gJ ops L){j:Nat}{o:Oper}(ho:ops[j]? =some o)(hj:¬L j)(hp:∀k,EM ops k j->L k)(hr:(E j).run=true)(nj:¬Fk E bN j)(h3:(E j).k=3){n:Nat}(hn:n ∈ (E j).R):
  Vw (fl (gM E) L ops.size (aa S.M) n)=Vw (aa (E j).M n):=by
 have Ij:=(Array.getElem?_eq_some_iff.1 ho).1
 let T:Nat->Option be:=fun m=>fl (gM E) (fun _=>True) m (aa S.M) n
 have hT:∀m,m<=ops.size->T m=aa (E m).M n:=fun m hm=>by rw[<-h.sI m hm]
 have tS:∀m,gM E m n=none->T (m+1)=T m:=fun m hm=>by simp[T,fl,ov,hm]
 have lS:∀m,(L m->gM E m n=none)->fl (gM E) L (m+1) (aa S.M) n=fl (gM E) L m (aa S.M) n:=fun m hm=>by
  simp only[fl]
  split
  ·rename_i hl; simp[ov,hm hl]
  ·rfl
 have lT:∀m,L m->gM E m n≠none->fl (gM E) L (m+1) (aa S.M) n=T (m+1):=fun m hl hg=>by
  cases hv:gM E m n with
  |none=>exact (hg hv).elim
  |some v=>simp[T,fl,ov,hv,hl]
 have v4:∀m,m<ops.size->gM E m n≠none->(E m).k=4->Vw (T (m+1))=Vw (T m):=fun m hm hg h4=>by
  obtain⟨x,hx,vh,_⟩:=h.runs hm hg
  cases hv:gM E m n with
  |none=>exact (hg hv).elim
  |some v=>
   obtain⟨p,hp,Ik,hpv⟩:=rP hv
   have:=(h.ok m x hx).Mi vh h4 p hp
   rw[Ik,<-hT m (by omega)]at this
   rw[this]
   simp[T,fl,ov,hv,hpv]
 have un:∀m,m<ops.size->m≠j->gM E m n≠none->iw ops m j\/ iw ops j m\/(E m).k=4:=fun m hm Fl hg=>by
  obtain⟨x,hx,vh,hk⟩:=h.runs hm hg
  rcases h.pair hx ho Fl vh hr (h.Au hx vh hk) nj with hb|hb|hb|⟨hb,_⟩
  ·exact .inl hb
  ·exact .inr (.inl hb)
  ·rcases hb with⟨hb,_⟩|⟨hb,_⟩
   ·exact (h.Ld hx vh hb hk).elim
   ·exact .inr (.inr hb)
  ·exact (hb n hk hn).elim
 have jn:gM E j n=none:=by
  cases hv:gM E j n with
  |none=>rfl
  |some v=>
   obtain⟨p,hp,Ik,_⟩:=rP hv
   exact (h.Ld ho hr h3 ⟨p,hp,Ik⟩).elim
 have A:∀m,m<=j->Vw (fl (gM E) L m (aa S.M) n)=Vw (T m):=by
  intro m
  induction m with
  |zero=>intro _; rfl
  |succ m ih=>
   intro hm
   have ih:=ih (by omega)
   cases hv:gM E m n with
   |none=>rw[tS m hv,lS m (fun _=>hv)]; exact ih
   |some v=>
    have hg:gM E m n≠none:=by rw[hv]; simp
    by_cases hl:L m
    ·rw[lT m hl hg]
    ·rcases un m (by omega) (by omega) hg with hb|hb|h4
     ·exact (hl (hb L hc hp)).elim
     ·have:=h.gK hb; omega
     ·rw[v4 m (by omega) hg h4,lS m (fun h=>(hl h).elim)]; exact ih
 have B:∀m,j<m->m<=ops.size->Vw (fl (gM E) L m (aa S.M) n)=Vw (T j):=by
  intro m
  induction m with
  |zero=>intro h0; omega
  |succ m ih=>
   intro hm Rk
   by_cases e:m=j
   ·subst e
    rw[lS m (fun h=>(hj h).elim)]; exact A m (Nat.le_refl _)
   ·have ih:=ih (by omega) (by omega)
    by_cases hw:L m/\gM E m n≠none
    ·obtain⟨hl,hg⟩:=hw
     have m4:(E m).k=4:=by
      rcases un m (by omega) e hg with hb|hb|h4
      ·have:=h.gK hb; omega
      ·exact (hj (hb L hc (fun k hk=>hc k m hk hl))).elim
      ·exact h4
     rw[lT m hl hg,v4 m (by omega) hg m4]
     have C:∀q,j<=q->q<=m->Vw (T q)=Vw (T j):=by
      intro q
      induction q with
      |zero=>intro hq _; rw[show j=0 by omega]
      |succ q W8=>
       intro hq hqm
       by_cases e2:q+1=j
       ·rw[e2]
       ·have W8:=W8 (by omega) (by omega)
        cases hv:gM E q n with
        |none=>rw[tS q hv]; exact W8
        |some v=>
         have Rl:gM E q n≠none:=by rw[hv]; simp
         by_cases e3:q=j
         ·rw[e3]at Rl; exact (Rl jn).elim
         ·obtain⟨x,hx,vh,hk⟩:=h.runs (i:=q) (by omega) Rl
          obtain⟨y,hy,Mk,hk'⟩:=h.runs (i:=m) (by omega) hg
          have hlq:L q:=by
           rcases h.pair hx hy (by omega) vh Mk (h.Au hx vh hk) (h.Au hy Mk hk')with hb|hb|hb|⟨_,hb⟩
           ·exact hb L hc (fun k hk=>hc k m hk hl)
           ·have:=h.gK hb; omega
           ·rcases hb with⟨hb,_⟩|⟨_,hb⟩
            ·exact (h.Ld hx vh hb hk).elim
            ·exact (h.Ld hy Mk hb hk').elim
           ·exact (hb n hk hk').elim
          have q4:(E q).k=4:=by
           rcases un q (by omega) e3 Rl with hb|hb|h4
           ·have:=h.gK hb; omega
           ·exact (hj (hb L hc (fun k hk=>hc k q hk hlq))).elim
           ·exact h4
          rw[v4 q (by omega) Rl q4]; exact W8
     exact C m (by omega) (Nat.le_refl _)
    ·rw[lS m (fun hl=>Classical.not_not.1 fun hg=>hw ⟨hl,hg⟩)]; exact ih
 rw[B ops.size Ij (Nat.le_refl _),hT j (by omega)]
def NL(m:Nat)(E:Nat->Aq)(S:St)(L:Nat->Prop):Nat->Prop:=fun n=>n<S.nx\/∃i,(i<m/\L i)/\n ∈ (E i).nw
structure sJ(X:bL)(ops:Array Oper)(E:Nat->Aq)(S:St)(L:Nat->Prop)[DecidablePred L](ρ:Place)(I:Nat->Prop)(a:Act)(w:World):Prop where
 W:bY X ρ I (fl (gM E) L ops.size (aa S.M)) (NL ops.size E S L) w
 rep:∀s,aL ρ (lens (fl (gM E) L ops.size (aa S.M))) I w (NL ops.size E S L) (fl (gF ops E) L ops.size (look S.F) s) (a.tmps.getD s undef)
 defers:lK I w X a.defers
 size:a.tmps.size=X.size
def pT(all ops:Array Oper):Prop:=∀(j:Nat)(o:Oper),ops[j]? =some o->all[j]? =some o
theorem CJ{all:Array Oper}(hall:pT all ops){o:Oper}{a:Act}{F:aT}{r:Bool}(hg:mR ops o F r)(hs:∀s ∈ o.looksAt ops,∃ρ L I w N,aL ρ L I w N (look F s) (a.tmps.getD s undef)):Region.wanted o (yielded all a.tmps)=r:=by
 unfold mR at hg
 cases Ro:o.guard with
 |none=>rw[Ro]at hg; simp only at hg; simp[Region.wanted,Ro,hg]
 |some p=>
  obtain⟨j,want⟩:=p
  rw[Ro]at hg
  obtain⟨s,hd,hv⟩:=hg
  have dJ:s ∈ o.looksAt ops:=by
   simp only[Oper.looksAt,Ro,hd,List.mem_append]
   right; simp
  obtain⟨ρ,L,I,w,N,hr⟩:=hs s dJ
  have hd:(all[j]?).bind (·.dst)=some s:=by
   cases hj:ops[j]? with
   |none=>rw[hj]at hd; simp at hd
   |some x=>rw[hall j x hj,<-hj]; exact hd
  have hy:=sF (tmps:=a.tmps) hd
  have hw:Region.wanted o (yielded all a.tmps)=(yielded all a.tmps j==some want):=by simp[Region.wanted,Ro]
  have vb:∀b,look F s= .bool b->yielded all a.tmps j=some b:=fun b hb=>by
   rw[hb]at hr
   have hv:=gg hr
   have hg:a.tmps[s]? =some (.bool b):=by
    rw[Array.getD_eq_getD_getElem?]at hv
    cases hh:a.tmps[s]? with
    |none=>rw[hh]at hv; simp[undef]at hv
    |some v=>rw[hh]at hv; simpa using hv
   rw[hy,hg]
  rcases hv with⟨rfl,hv⟩|⟨rfl,hv|hv⟩
  ·rw[hw,vb _ hv]; simp
  ·rw[hw,vb _ hv]; cases want<;>rfl
  ·rw[hv]at hr
   generalize W9:a.tmps.getD s undef=v at hr
   cases hr with
   |aF _ us hle _=>
    have CK:us=[]:=List.eq_nil_of_length_eq_zero (by simpa using hle)
    subst CK
    have Md:yielded all a.tmps j=none:=by
     rw[hy]
     cases ht:a.tmps[s]? with
     |none=>rfl
     |some v=>
      rw[Array.getD_eq_getD_getElem?,ht]at W9
      simp at W9
      rw[W9]
    rw[hw,Md]; rfl
theorem br.step{all:Array Oper}(hall:pT all ops)(h:br P X ops E S bN){L:Nat->Prop}[DecidablePred L](hc:gJ ops L){j:Nat}{o:Oper}(ho:ops[j]? =some o)(hj:¬L j)(hp:∀k,EM ops k j->L k)
  {ρ:Place} {I:Nat->Prop} {a:Act} {w:World} (D:sJ X ops E S L ρ I a w) {b:Frame} {rest:List Nat} {k:List Item} {cs:List Frame}:
  ∃a' w' ρ' I',Steps P (lone (b.atR a (.inRegion all (j::rest)::k)) cs w) (lone (b.atR a' (.inRegion all rest::k)) cs w')/\sJ X ops E S (fun i=>i=j\/ L i) ρ' I' a' w':=by
 have Ij:=(Array.getElem?_eq_some_iff.1 ho).1
 have R:=h.ok j o ho
 have dJ:∀s ∈ o.looksAt ops,aL ρ (lens (fl (gM E) L ops.size (aa S.M))) I w (NL ops.size E S L) (look (E j).F s) (a.tmps.getD s undef):=fun s hs=>by
  rw[<-h.slot hc ho hj hp hs]; exact D.rep s
 have CK:∀s ∈ dq o.op,s ∈ o.looksAt ops:=fun s hs=>by
  simp only[Oper.looksAt,List.mem_append]
  left
  unfold dq at hs
  generalize o.op.operands.toList=l at hs
  induction l with
  |nil=>simp[nI]at hs
  |cons x r ih=>
   cases x with
   |tmp t=>
    simp only[nI,List.mem_cons]at hs
    rcases hs with rfl|hs
    ·simp
    ·simp[ih hs]
   |_=>simpa[nI]using ih (by simpa[nI]using hs)
 have hw:=CJ hall R.guard (a:=a) (fun s hs=>⟨_,_,_,_,_,dJ s hs⟩)
 have pU:=h.size j o ho
 have Le:∀s,fl (gF ops E) (fun i=>i=j\/ L i) ops.size (look S.F) s=if o.dst=some s then (E j).av else fl (gF ops E) L ops.size (look S.F) s:=fun s=>by
  rw[Ap (L:=L) (fun i=>Iff.rfl) hj Ij (fun i hi hij h1 h2 hl=>h.IF hc ho hj hij h1 h2 hl)]
  simp only[gF,ho,Option.bind_some]
  cases hd:o.dst with
  |none=>simp[uD]
  |some d=>
   by_cases e:d=s
   ·subst e; simp[uD]
   ·have e':¬s=d:=fun h=>e h.symm
    simp[uD,e,e']
 have Fm:fl (gM E) (fun i=>i=j\/ L i) ops.size (aa S.M)=cV (fl (gM E) L ops.size (aa S.M)) (E j).ws:=by
  funext n
  rw[Ap (L:=L) (fun i=>Iff.rfl) hj Ij (fun i hi hij h1 h2 hl=>h.Mj hc Ij hj hi hij h1 h2 hl),mS]
  rfl
 cases hr:(E j).run with
 |true=>
  rw[hr]at hw
  have hd:=R.pO hr
  have hy:bI P X o a (fl (gM E) L ops.size (aa S.M)) (NL ops.size E S L) ρ I w (E j).av (E j).ws:=by
   rcases hd.2.1 with hd2|⟨Av,hfree⟩
   rotate_left
   ·rw[Av]
    exact hfree _ _ ρ I a w D.W (fun s hs=>dJ s (CK s hs))
   by_cases hA:Fk E bN j
   ·have YF:=hA
    unfold Fk lJ at YF
    simp only[Bool.and_eq_true]at YF
    obtain⟨hl,Av⟩:=R.YB hr (Nat.eq_of_beq_eq_true YF.1)
    rw[Av]
    exact hl _ _ ρ I a w D.W (fun s hs=>dJ s (CK s hs)) (fun s hs n hn=>by
     have hn':=hd2 s hs n hn
     rw[h.shape hA hn' ops.size (Nat.le_refl _) L,<-h.sI j (by omega),h.shape hA hn' j (by omega) (fun _=>True)])
   ·by_cases h3:(E j).k=3
    ·obtain⟨hl,Av⟩:=R.YC hr h3
     rw[Av]
     exact hl _ _ ρ I a w D.W (fun s hs=>dJ s (CK s hs)) (fun s hs n hn=>h.view hc ho hj hp hr hA h3 (hd2 s hs n hn))
    exact hd.2.2 (fl (gM E) L ops.size (aa S.M)) (NL ops.size E S L) ρ I a w D.W (fun s hs=>dJ s (CK s hs)) (fun n hn=>h.mem hc ho hj hp hr hA h3 hn) (fun n hn hN=>by
     have a1:=R.nw n hn
     rcases hN with hN|⟨i,hl,hN⟩
     ·have:=h.lo (i:=0) (j:=j) (by omega) (by omega); have:=h.YE; omega
     ·have hij:i≠j:=fun e=>hj (e ▸ hl.2)
      have a2:=(h.ok i _ (Array.getElem?_eq_getElem hl.1)).nw n hN
      rcases Nat.lt_or_gt_of_ne hij with hlt|hlt
      ·have:=h.lo (i:=i+1) (j:=j) (by omega) (by omega); omega
      ·have:=h.lo (i:=j+1) (j:=i) (by omega) (by omega); omega)
  obtain⟨v,w1,⟨ρ1,I1,Ev,W1,R1⟩,hst⟩:=wF (b:=b) (rest:=rest) (k:=k) (cs:=cs) (hall _ _ ho) hw hy
  have hN:∀m,fQ (NL ops.size E S L) (E j).ws m->NL ops.size E S (fun i=>i=j\/ L i) m:=by
   rintro m (hm|⟨bb,hm⟩)
   ·rcases hm with hm|⟨i,hl,hm⟩
    ·exact .inl hm
    ·exact .inr ⟨i,⟨hl.1,.inr hl.2⟩,hm⟩
   ·have hm0:=hm
    rcases hd.1 _ hm with hm|⟨s,hs,hm⟩|⟨hm,hne⟩
    ·exact .inr ⟨j,⟨Ij,.inl rfl⟩,hm⟩
    ·rcases ke (dJ s (CK s hs)) m hm with hm|⟨i,hl,hm⟩
     ·exact .inl hm
     ·exact .inr ⟨i,⟨hl.1,.inr hl.2⟩,hm⟩
    ·have hA:¬Fk E bN j:=h.Au ho hr ⟨_,hm0,rfl⟩
     have n3:(E j).k≠3:=fun h3=>h.Ld ho hr h3 ⟨_,hm0,rfl⟩
     have e:=h.mem hc ho hj hp hr hA n3 hm
     cases hb:fl (gM E) L ops.size (aa S.M) m with
     |none=>rw[hb]at e; exact (hne e.symm).elim
     |some b=>
      rcases (D.W.aR m b hb).lt with hm|⟨i,hl,hm⟩
      ·exact .inl hm
      ·exact .inr ⟨i,⟨hl.1,.inr hl.2⟩,hm⟩
  refine⟨_,w1,ρ1,I1,hst,?_,fun s=> ?_,?_,?_⟩
  ·rw[Fm]; exact W1.sH hN
  ·rw[Fm,Le,xQ D.size pU]
   by_cases e:o.dst=some s
   ·rw[if_pos e,if_pos e]; exact R1.wide hN
   ·rw[if_neg e,if_neg e]; exact ((D.rep s).rJ Ev (fun _ h=>h)).wide (fun m hm=>hN m (.inl hm))
  ·cases o.dst<;>exact D.defers.rJ Ev
  ·cases Qx:o.dst with
   |none=>exact D.size
   |some x=>simpa[Act.put]using D.size
 |false=>
  rw[hr]at hw
  obtain⟨s1,s2,s3⟩:=R.skip hr
  have BU:fl (gM E) (fun i=>i=j\/ L i) ops.size (aa S.M)=fl (gM E) L ops.size (aa S.M):=by rw[Fm,s2]; rfl
  have hN:∀m,NL ops.size E S L m->NL ops.size E S (fun i=>i=j\/ L i) m:=by
   rintro m (hm|⟨i,hl,hm⟩)
   ·exact .inl hm
   ·exact .inr ⟨i,⟨hl.1,.inr hl.2⟩,hm⟩
  have hst:=stepR_op_skip (P:=P) (b:=b) (a:=a) (k:=k) (cs:=cs) (w:=w) (ops:=all) (i:=j) (rest:=rest) (by simp[hall _ _ ho,hw])
  simp only[hall _ _ ho,Option.bind_some]at hst
  refine⟨_,w,ρ,I,.one hst,?_,fun s=> ?_,?_,?_⟩
  ·rw[BU]; exact D.W.sH hN
  ·rw[BU,Le,xQ D.size pU]
   by_cases e:o.dst=some s
   ·rw[if_pos e,if_pos e,s1]; exact .aF [] [] rfl (fun j hj=>by simp at hj)
   ·rw[if_neg e,if_neg e]; exact (D.rep s).wide hN
  ·cases o.dst<;>exact D.defers
  ·cases Qx:o.dst with
   |none=>exact D.size
   |some x=>simpa[Act.put]using D.size
end
end Go.AM
namespace Go.AM
open Go.RowKit
structure PT(P:Program)(T:TT):Prop where
 tt:cN P T
 mix:P.follows .mixedOrders=true
variable {P:Program} {T:TT} {X:bL}
def Good(ops:Array Oper):(Nat->Prop)->List Nat->Prop
 |L,[]=>∀i,i<ops.size->L i
 |L,i::r=>i<ops.size/\¬L i/\(∀k,EM ops k i->L k)/\Good ops (fun x=>x=i\/ L x) r
theorem Good.congr{ops:Array Oper}:∀{is:List Nat}{L L':Nat->Prop},(∀i,L i↔L' i)->Good ops L is->Good ops L' is
 |[],L,L',h,g=>fun i hi=>(h i).1 (g i hi)
 |i::r,L,L',h,g=>⟨g.1,fun hl=>g.2.1 ((h i).2 hl),fun k hk=>(h k).1 (g.2.2.1 k hk),Good.congr (fun x=>by rw[h x]) g.2.2.2⟩
def cnt(m:Nat)(f:Nat->Bool):Nat:=(List.range m).countP f
theorem BV{f g:Nat->Bool}{i:Nat}:∀{m:Nat},i<m->f i=true->g i=false->(∀k,k≠i->g k=f k)->cnt m g+1=cnt m f
 |0,h,_,_,_=>by omega
 |m+1,h,hf,hg,he=>by
  simp only[cnt,List.range_succ,List.countP_append,List.countP_singleton]
  by_cases e:i=m
  ·subst e
   have h1:List.countP g (List.range i)=List.countP f (List.range i):=List.countP_congr (fun k hk=>by
    rw[he k (by have:=List.mem_range.1 hk; omega)])
   rw[h1,hf,hg]; simp
  ·have ih:=BV (m:=m) (by omega) hf hg he
   simp only[cnt]at ih
   rw[he m (fun h=>e h.symm)]
   omega
theorem wH{ops:Array Oper}(BW:∀i j,EM ops i j->i<j){listed:Array Bool}(hr:(List.range ops.size).filter (fun i=>
  !listed.getD i true&&((ops[i]?).map (·.after.all fun e=> !Region.binds .any e||listed.getD e.on false)).getD false)=[])(hsz:listed.size=ops.size):∀i,i<ops.size->listed.getD i false=true:=by
 intro i
 induction i using Nat.strongRecOn with
 |ind i ih=>
  intro hi
  have h1:=List.filter_eq_nil_iff.1 hr i (List.mem_range.2 hi)
  rw[Array.getElem?_eq_getElem hi]at h1
  simp only[Option.map_some,Option.getD_some,Bool.and_eq_true,not_and]at h1
  cases hl:listed.getD i false with
  |true=>rfl
  |false=>
   have oA:listed.getD i true=false:=by
    rw[Array.getD_eq_getD_getElem?,Array.getElem?_eq_getElem (by omega)]at hl ⊢
    simpa using hl
   refine absurd ?_ (h1 (by rw[oA]; rfl))
   rw[Array.all_eq_true']
   intro e he
   cases hb:Region.binds .any e with
   |false=>rfl
   |true=>
    have hlt:=BW e.on i ⟨ops[i],e,Array.getElem?_eq_getElem hi,by simpa using he,hb,rfl⟩
    rw[ih e.on hlt (by omega)]
    rfl
theorem xR{ops:Array Oper}(BW:∀i j,EM ops i j->i<j):∀(fuel t:Nat)(listed:Array Bool),listed.size=ops.size->cnt ops.size (fun i=> !listed.getD i true)<=fuel->Good ops (fun i=>listed.getD i false=true) (Region.linearise.go .any ops fuel t listed [])
 |0,t,listed,hsz,hc=>by
  simp only[Region.linearise.go,List.reverse_nil,Good]
  intro i hi
  have h0:cnt ops.size (fun i=> !listed.getD i true)=0:=by omega
  have:=List.countP_eq_zero.1 h0 i (List.mem_range.2 hi)
  rw[Array.getD_eq_getD_getElem?,Array.getElem?_eq_getElem (by omega)]at this ⊢
  simpa using this
 |fuel+1,t,listed,hsz,hc=>by
  simp only[Region.linearise.go]
  generalize hrs:(List.range ops.size).filter (fun i=>
   !listed.getD i true&&((ops[i]?).map (·.after.all fun e=> !Region.binds .any e||listed.getD e.on false)).getD false)=rs
  cases hi:rs[t % rs.length]? with
  |none=>
   have hnil:rs=[]:=by
    cases rs with
    |nil=>rfl
    |cons x xs=>
     have hlt:t % (x::xs).length< (x::xs).length:=Nat.mod_lt _ (by simp)
     rw[List.getElem?_eq_getElem hlt]at hi
     simp at hi
   subst hnil
   simp only[List.reverse_nil,Good]
   exact wH BW hrs hsz
  |some i=>
   simp only
   rw[linearise_go_acc,List.reverse_singleton,List.singleton_append]
   have hm:i ∈ rs:=List.mem_of_getElem? hi
   rw[<-hrs,List.mem_filter,List.mem_range]at hm
   obtain⟨him,hb⟩:=hm
   simp only[Bool.and_eq_true,Bool.not_eq_true']at hb
   obtain⟨hl,hb⟩:=hb
   rw[Array.getElem?_eq_getElem him]at hb
   simp only[Option.map_some,Option.getD_some]at hb
   have hlf:listed.getD i false=false:=by
    rw[Array.getD_eq_getD_getElem?,Array.getElem?_eq_getElem (by omega)]at hl ⊢
    simpa using hl
   have ID:∀x (d:Bool),x≠i->(listed.setIfInBounds i true).getD x d=listed.getD x d:=fun x d hx=>by
    rw[Array.getD_eq_getD_getElem?,Array.getElem?_setIfInBounds_ne (by omega),<-Array.getD_eq_getD_getElem?]
   have Lf:∀d:Bool,(listed.setIfInBounds i true).getD i d=true:=fun d=>by
    rw[Array.getD_eq_getD_getElem?,Array.getElem?_setIfInBounds_self_of_lt (by omega)]; rfl
   refine⟨him,by show ¬ (listed.getD i false=true); rw[hlf]; simp,?_,?_⟩
   ·rintro k ⟨o,e,ho,he,Mh,rfl⟩
    rw[Array.getElem?_eq_getElem him]at ho
    cases ho
    have:=(Array.all_eq_true'.1 hb) e (by simpa using he)
    rw[Mh]at this
    simpa using this
   ·refine Good.congr (fun x=> ?_) (xR BW fuel (t / rs.length) (listed.setIfInBounds i true) (by simpa using hsz) ?_)
    ·by_cases e:x=i
     ·subst e; simp[Lf]
     ·simp[ID x false e,e]
    ·have:=BV (m:=ops.size) (i:=i) (f:=fun i=> !listed.getD i true) (g:=fun x=> !(listed.setIfInBounds i true).getD x true) him (by simp[hl]) (by simp[Lf]) (fun k hk=>by simp[ID k true hk])
     omega
section
variable {ops:Array Oper} {E:Nat->Aq} {S:St} {bN:List fY}
theorem br.walk{all:Array Oper}(hall:pT all ops)(h:br P X ops E S bN){tl:List Nat}{b:Frame}{k:List Item}{cs:List Frame}:∀(is:List Nat)(L:Nat->Prop)[DecidablePred L],Good ops L is->gJ ops L->∀{ρ:Place}{I:Nat->Prop}{a:Act}{w:World},sJ X ops E S L ρ I a w->
  ∃a' w' ρ' I',Steps P (lone (b.atR a (.inRegion all (is++tl)::k)) cs w) (lone (b.atR a' (.inRegion all tl::k)) cs w')/\sJ X ops E S (fun _=>True) ρ' I' a' w'
 |[],L,_,hg,hc,ρ,I,a,w,D=>by
  refine⟨a,w,ρ,I,.refl _ _,?_⟩
  have eF:fl (gF ops E) (fun _=>True) ops.size (look S.F)=fl (gF ops E) L ops.size (look S.F):=by
   funext k; exact jb (fun i hi _=>⟨fun _=>hg i hi,fun _=>trivial⟩)
  have eM:fl (gM E) (fun _=>True) ops.size (aa S.M)=fl (gM E) L ops.size (aa S.M):=by
   funext k; exact jb (fun i hi _=>⟨fun _=>hg i hi,fun _=>trivial⟩)
  have hN:∀m,NL ops.size E S L m->NL ops.size E S (fun _=>True) m:=by
   rintro m (hm|⟨i,hl,hm⟩)
   ·exact .inl hm
   ·exact .inr ⟨i,⟨hl.1,trivial⟩,hm⟩
  exact⟨by rw[eM]; exact D.W.sH hN,fun s=>by rw[eM,eF]; exact (D.rep s).wide hN,D.defers,D.size⟩
 |i::r,L,_,hg,hc,ρ,I,a,w,D=>by
  obtain⟨him,hnl,hp,uq⟩:=hg
  have uB:gJ ops (fun x=>x=i\/ L x):=by
   rintro x y hd (rfl|hl)
   ·exact .inr (hp x hd)
   ·exact .inr (hc x y hd hl)
  obtain⟨a1,w1,ρ1,I1,h1,D1⟩:=h.step hall hc (Array.getElem?_eq_getElem him) hnl hp D (b:=b) (rest:=r++tl) (k:=k) (cs:=cs)
  obtain⟨a2,w2,ρ2,I2,h2,D2⟩:=h.walk hall (tl:=tl) r _ uq uB D1
  exact⟨a2,w2,ρ2,I2,h1.trans h2,D2⟩
end
def IH(all:Array Oper)(m:Nat):Prop:=∀j,m<=j->j<all.size->∀i,i<j->iw all i j
theorem Good.tail{all:Array Oper}{m0:Nat}(hT:IH all m0):∀(is:List Nat)(m:Nat)(L:Nat->Prop),m0<=m->m<=all.size->gJ all L->(∀i,L i↔i<m)->Good all L is->is=List.range' m (all.size - m)
 |[],m,L,_,hm,_,hL,g=>by
  have:all.size<=m:=by
   rcases Nat.lt_or_ge m all.size with h|h
   ·have:=(hL m).1 (g m h); omega
   ·exact h
  rw[show all.size - m=0 by omega]; rfl
 |i::r,m,L,h0,hm,hc,hL,g=>by
  obtain⟨g1,g2,g3,g4⟩:=g
  have hmi:m<=i:=by
   rcases Nat.lt_or_ge i m with h|h
   ·exact (g2 ((hL i).2 h)).elim
   ·exact h
  have e:i=m:=by
   rcases Nat.lt_or_ge m i with h|h
   ·have:=(hL m).1 (hT i (by omega) g1 m h L hc g3); omega
   ·omega
  subst e
  have uB:gJ all (fun x=>x=i\/ L x):=by
   rintro x y hd (rfl|hl)
   ·exact .inr (g3 x hd)
   ·exact .inr (hc x y hd hl)
  rw[show all.size - i=(all.size - (i+1))+1 by omega,List.range'_succ]
  rw[Good.tail hT r (i+1) _ (by omega) (by omega) uB (fun x=>by rw[hL x]; omega) g4]
theorem Good.split{all ops:Array Oper}(hall:pT all ops)(hT:IH all ops.size)(hsz:ops.size<=all.size):∀(is:List Nat)(L:Nat->Prop),gJ all L->(∀i,L i->i<ops.size)->Good all L is->∃s1,is=s1++List.range' ops.size (all.size - ops.size)/\Good ops L s1
 |[],L,hc,hL,g=>by
  have:all.size<=ops.size:=by
   rcases Nat.lt_or_ge ops.size all.size with h|h
   ·have:=hL _ (g ops.size h); omega
   ·exact h
  exact⟨[],by rw[show all.size - ops.size=0 by omega]; rfl,fun i hi=>g i (by omega)⟩
 |i::r,L,hc,hL,g=>by
  have g0:=g
  obtain⟨g1,g2,g3,g4⟩:=g
  have uB:gJ all (fun x=>x=i\/ L x):=by
   rintro x y hd (rfl|hl)
   ·exact .inr (g3 x hd)
   ·exact .inr (hc x y hd hl)
  rcases Nat.lt_or_ge i ops.size with hi|hi
  ·obtain⟨s1,h1,h2⟩:=Good.split hall hT hsz r _ uB (fun x hx=>hx.elim (fun e=>e ▸ hi) (hL x)) g4
   refine⟨i::s1,by rw[h1]; rfl,hi,g2,fun k hk=>g3 k ?_,h2⟩
   obtain⟨o,e,ho,he⟩:=hk
   exact⟨o,e,hall _ _ ho,he⟩
  ·have hin:∀x,x<i->L x:=fun x hx=>hT i hi g1 x hx L hc g3
   have e:i=ops.size:=by
    rcases Nat.lt_or_ge ops.size i with h|h
    ·have:=hL _ (hin _ h); omega
    ·omega
   refine⟨[],?_,fun x hx=>hin x (by omega)⟩
   rw[List.nil_append]
   exact Good.tail hT (i::r) ops.size L (Nat.le_refl _) hsz hc (fun x=>⟨hL x,fun h=>hin x (by omega)⟩) g0
theorem vi(hT:PT P T){all ops:Array Oper}(hall:pT all ops)(Lg:IH all ops.size)(hsz:ops.size<=all.size)(hbk:∀i j,EM all i j->i<j){S:St}{E:Nat->Aq}{bN:List fY}(wJ:br P X ops E S bN)
  {a:Act} {w:World} (hS:hQ X S a w) {b:Frame} {k:List Item} {id:Nat} {F:aT} {M:Mem} {nx:Nat} (e1:look F=look (E (max 0 ops.size)).F) (e2:aa M=aa (E (max 0 ops.size)).M) (e3:nx=(E (max 0 ops.size)).lo):
  ∀cs,∃a' w',hQ X ⟨F,M,nx⟩ a' w'/\Steps P (lone (b.atR a (.code (.region id all true)::k)) cs w) (lone (b.atR a' (.inRegion all (List.range' ops.size (all.size - ops.size))::k)) cs w'):=by
 intro cs
 obtain⟨ρ,I,W,FO⟩:=hS
 have Fp:Good all (fun _=>False) (Region.schedule (P.follows .mixedOrders) all (w.tape w.drawn (.order b.fn id))):=by
  rw[hT.mix]
  simp only[Region.schedule,Bool.true_or,if_true,Region.linearise]
  have:=xR hbk all.size (w.tape w.drawn (.order b.fn id)) (Array.replicate all.size false) (by simp) (by
   have:=List.countP_le_length (l:=List.range all.size) (p:=fun i=> !(Array.replicate all.size false).getD i true)
   simpa[cnt]using this)
  refine this.congr (fun i=> ?_)
  by_cases hi:i<all.size<;>simp[Array.getD,hi]
 obtain⟨s1,hs1,Fp⟩:=Good.split hall Lg hsz _ _ (fun _ _ _ h=>h) (fun _ h=>h.elim) Fp
 have D0:sJ X ops E S (fun _=>False) ρ I a w.drew:=by
  have eF:fl (gF ops E) (fun _=>False) ops.size (look S.F)=look S.F:=by
   generalize ops.size=m
   induction m with
   |zero=>rfl
   |succ m ih=>simpa[fl]using ih
  have eM:fl (gM E) (fun _=>False) ops.size (aa S.M)=aa S.M:=by
   generalize ops.size=m
   induction m with
   |zero=>rfl
   |succ m ih=>simpa[fl]using ih
  have hN:∀m,m<S.nx->NL ops.size E S (fun _=>False) m:=fun m hm=> .inl hm
  refine⟨by rw[eM]; exact (W.drew).sH hN,fun s=> ?_,FO.defers,FO.size⟩
  rw[eM,eF]
  have E1:=(W.ext (w':=w.drew) rfl rfl rfl (Nat.le_refl _) (fun _ _=>rfl) (fun _ h=>h) W.lt (fun _ _ h=>h)).1
  exact ((FO.rep s).rJ E1 (fun _ h=>h)).wide hN
 obtain⟨a',w',ρ',I',hst,D'⟩:=wJ.walk hall (tl:=List.range' ops.size (all.size - ops.size)) (b:=b) (k:=k) (cs:=cs) _ _ Fp (fun _ _ _ h=>h) D0
 refine⟨a',w',⟨ρ',I',?_,?_⟩,?_⟩
 ·have:=D'.W
  rw[wJ.sI ops.size (Nat.le_refl _)]at this
  show bY X ρ' I' (aa M) (· <nx) w'
  rw[e2,Nat.zero_max]
  refine this.sH ?_
  rintro m (hm|⟨i,hl,hm⟩)
  ·have:=wJ.lo (i:=0) (j:=ops.size) (by omega) (Nat.le_refl _)
   rw[wJ.YE]at this
   rw[Nat.zero_max]at e3
   show m<nx
   omega
  ·have h1:=((wJ.ok i _ (Array.getElem?_eq_getElem hl.1)).nw m hm).2
   have h2:=wJ.lo (i:=i+1) (j:=ops.size) (by omega) (Nat.le_refl _)
   rw[Nat.zero_max]at e3
   show m<nx
   omega
 ·refine⟨fun s=> ?_,D'.defers,D'.size⟩
  have:=D'.rep s
  rw[wJ.sI ops.size (Nat.le_refl _),wJ.Fj ops.size (Nat.le_refl _)]at this
  show aL ρ' (lens (aa M)) I' w' (· <nx) (look F s) _
  rw[e1,e2,Nat.zero_max]
  refine this.wide ?_
  rintro m (hm|⟨i,hl,hm⟩)
  ·have:=wJ.lo (i:=0) (j:=ops.size) (by omega) (Nat.le_refl _)
   rw[wJ.YE]at this
   rw[Nat.zero_max]at e3
   show m<nx
   omega
  ·have h1:=((wJ.ok i _ (Array.getElem?_eq_getElem hl.1)).nw m hm).2
   have h2:=wJ.lo (i:=i+1) (j:=ops.size) (by omega) (Nat.le_refl _)
   rw[Nat.zero_max]at e3
   show m<nx
   omega
 ·rw[<-hs1]at hst
  exact .head stepR_region_draw hst
theorem Fq(hT:PT P T){ops:Array Oper}{S:St}{E:Nat->Aq}{bN:List fY}(wJ:br P X ops E S bN)
  {a:Act} {w:World} (hS:hQ X S a w) {b:Frame} {k:List Item} {id:Nat} {F:aT} {M:Mem} {nx:Nat} (e1:look F=look (E (max 0 ops.size)).F) (e2:aa M=aa (E (max 0 ops.size)).M) (e3:nx=(E (max 0 ops.size)).lo):
  ∀cs,∃a' w',hQ X ⟨F,M,nx⟩ a' w'/\Steps P (lone (b.atR a (.code (.region id ops true)::k)) cs w) (lone (b.atR a' k) cs w'):=by
 intro cs
 obtain⟨a',w',h1,h2⟩:=vi hT (fun _ _ h=>h) (fun j h1 h2=>by omega) (Nat.le_refl _) (fun i j=>wJ.dir) wJ hS (b:=b) (k:=k) (id:=id) e1 e2 e3 cs
 rw[show ops.size - ops.size=0 by omega]at h2
 exact⟨a',w',h1,h2.trans (.one stepR_region_end)⟩
end Go.AM
