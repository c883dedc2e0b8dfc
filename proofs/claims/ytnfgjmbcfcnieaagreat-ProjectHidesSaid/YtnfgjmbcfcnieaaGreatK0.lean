/- Of the reckoning machine, and what is proved with it: texts joined by program. -/
import Derived.WalkKit
import Derived.WalkSpells
import Derived.WalkLawsBesides
import Derived.Lib.Strings
import Derived.Deep.AppendSrc
import Derived.Deep.Upon
set_option linter.all false
namespace Go.AM
open Go.RowKit
inductive FV where
 |fn (f:Nat)
 |lp (l:Nat) (tm:List Value)
 deriving Inhabited
inductive AV where
 |int (k:IntKind) (n:Int)
 |bool (b:Bool)
 |str (s:List UInt8)
 |bP
 |ai
 |ap
 |dY
 |ce
 |loc (n len i off:Nat)
 |bc (n len:Nat)
 |ee (n len i off bX:Nat)
 |aH (sz:Nat) (es:List (List AV))
 |bh (e:List AV) (off:Nat)
 |omap (n:Nat)
 |nJ (n r:Nat)
 |bR (f:FV) (aS:List AV)
 |agg (cs:List AV)
 |aN (vs:List AV)
 |bad
 deriving Inhabited
inductive Dn where
 |b (x:Bool)
 |it (r:Nat) (sn:List Bool) (la:Option Nat)
instance:Coe Bool Dn:=⟨.b⟩
def Dn.all:Dn->Bool
 | .b x=>x
 | .it _ _ _=>false
def Dn.up:Dn->Dn
 | .b x=> .b x
 | .it _ _ _=> .b false
def Dn.dl (i:Nat):Dn->Dn
 | .b _=> .b false
 | .it r sn _=> .it r (sn.eraseIdx i) none
theorem Dn.all_eq {d:Dn} (h:d.all=true):d= .b true:=by
 cases d with
 |b x=>exact congrArg Dn.b h
 |it=>exact Bool.noConfusion h
theorem Dn.FW {d:Dn}:d.up.all=d.all:=by cases d<;>rfl
theorem Dn.FX {d:Dn} {r:Nat} {sn:List Bool} {la:Option Nat}:d.up≠ .it r sn la:=by cases d<;>exact fun h=>by cases h
def FI (w:World) (g r:Nat) (sn:List Bool) (la:Option Nat):Prop:=
 ∃en ck since seen,w.heap[g]? =some (.map en ck)/\w.heap[r]? =some (.mapIter (some g) since seen ck)/\since<=ck/\(∀x ∈ en.toList,x.born<since)/\sn=en.toList.map (fun e=>seen.contains e.born)/\∀i,la=some i->∃e,en[i]? =some e/\seen.back?=some e.born
theorem FI.at {w w':World} {g r:Nat} {sn:List Bool} {la:Option Nat} (h:FI w g r sn la) (h1:w'.heap[g]? =w.heap[g]?) (h2:w'.heap[r]? =w.heap[r]?):FI w' g r sn la:=by
 obtain⟨en,ck,since,seen,k1,k2,k3⟩:=h
 exact⟨en,ck,since,seen,h1.trans k1,h2.trans k2,k3⟩
theorem FI.lt {w:World} {g r:Nat} {sn:List Bool} {la:Option Nat} (h:FI w g r sn la):r<w.heap.size:=by
 obtain⟨en,ck,since,seen,k1,k2,k3⟩:=h
 exact (Array.getElem?_eq_some_iff.1 k2).1
structure bg where
 ty:Nat
 sz:Nat
 es:List (List AV)
 mp:Option (Nat × Bool × Bool × Dn)
def bg.ln (b:bg):Nat:=match b.mp with
 |none=>b.es.length
 |some _=>0
abbrev Mem:=List (Nat × bg)
abbrev aW:=List (Nat × AV)
def ab:Mem->Nat->Option bg
 |[],_=>none
 |(m,b)::r,n=>bif n==m then some b else ab r n
def look:aW->Nat->AV
 |[],_=> .bad
 |(j,v)::r,i=>bif i==j then v else look r i
abbrev Place:=Nat->Option (Nat × Nat)
abbrev aZ:=Nat->Option (Nat × Nat)
def cJ:Nat->Prop:=fun _=>False
abbrev bv:=Nat->Option bg
def lens (M:bv):aZ:=fun n=>(M n).map fun b=>(b.ln,b.sz)
inductive aL (ρ:Place) (L:aZ) (I:Nat->Prop) (w:World):(Nat->Prop)->AV->Value->Prop
 |int {N} (k:IntKind) (n:Int):aL ρ L I w N (.int k n) (.int k n)
 |bool {N} (b:Bool):aL ρ L I w N (.bool b) (.bool b)
 |str {N} (s:List UInt8):aL ρ L I w N (.str s) (.string ⟨s.toArray⟩)
 |bP {N}:aL ρ L I w N .bP (.pointer none)
 |ai {N}:aL ρ L I w N .ai (.slice none 0 0)
 |ap {N}:aL ρ L I w N .ap .nilFunc
 |dY {N}:aL ρ L I w N .dY .nilIface
 |ce {N}:aL ρ L I w N .ce (.map none)
 |loc {N} (n len i off:Nat) (v:Value) (hn:N n) (h1:v.oneCell'=true) (h:∀l sz,L n=some (l,sz)->len<=l/\(len=l->∃g cap,ρ n=some (g,cap)/\v= .pointer (some ⟨g,i*sz+off,none⟩))):aL ρ L I w N (.loc n len i off) v
 |bc {N} (n len:Nat) (v:Value) (hn:N n) (h1:v.oneCell'=true) (h:∀l sz,L n=some (l,sz)->len<=l/\(len=l->(ρ n=none/\∃q,v= .slice q 0 0)\/∃g cap,ρ n=some (g,cap)/\v= .slice (some ⟨g,0,none⟩) len cap)):aL ρ L I w N (.bc n len) v
 |ee {N} (n len i off bX:Nat) (v:Value) (hn:N n) (h1:v.oneCell'=true) (h:∀l sz,L n=some (l,sz)->len<=l/\(len=l->∃g cap c,ρ n=some (g,cap)/\v= .slice (some ⟨g,i*sz+off,none⟩) bX c/\bX<=c/\c<=maxLen)):aL ρ L I w N (.ee n len i off bX) v
 |omap {N} (n:Nat) (v:Value) (hn:N n) (h1:v.oneCell'=true) (h:∀sz,L n=some (0,sz)->∃g cap,ρ n=some (g,cap)/\v= .map (some g)):aL ρ L I w N (.omap n) v
 |nJ {N} (n r:Nat):aL ρ L I w N (.nJ n r) (.pointer (some ⟨r,0,none⟩))
 |cP {N} (sz:Nat) (a:Option Addr) (cap:Nat) (hc:cap<=maxLen):aL ρ L I w N (.aH sz []) (.slice a 0 cap)
 |aH {N} (sz:Nat) (es:List (List AV)) (b o cap:Nat) (c:Nat->Nat->Value) (hl:es.length<=cap) (hc:cap<=maxLen) (hI:I b) (hs:∀e ∈ es,e.length=sz)
   (h1:∀i j,i<es.length->j<sz->(c i j).oneCell'=true)
   (hcell:∀i j,i<es.length->j<sz->w.cell? ⟨b,o+i*sz+j,none⟩=some (c i j))
   (hr:∀i j,i<es.length->j<sz->aL ρ L I w cJ ((es.getD i []).getD j .bad) (c i j)):aL ρ L I w N (.aH sz es) (.slice (some ⟨b,o,none⟩) es.length cap)
 |bh {N} (e:List AV) (off b o:Nat) (c:Nat->Value) (hI:I b) (h1:∀j,j<e.length->(c j).oneCell'=true) (hcell:∀j,j<e.length->w.cell? ⟨b,o+j,none⟩=some (c j))
   (hr:∀j,j<e.length->aL ρ L I w cJ (e.getD j .bad) (c j)):aL ρ L I w N (.bh e off) (.pointer (some ⟨b,o+off,none⟩))
 |bR {N} (f:Nat) (aS:List AV) (vs:List Value) (hl:vs.length=aS.length) (hr:∀j,j<aS.length->aL ρ L I w N (aS.getD j .bad) (vs.getD j default)):
   aL ρ L I w N (.bR (.fn f) aS) (.func (.func f) #[] vs.toArray)
 |qI {N} (l:Nat) (aS:List AV) (vs:List Value) (hl:vs.length=aS.length) (hr:∀j,j<aS.length->aL ρ L I w N (aS.getD j .bad) (vs.getD j default)):
   aL ρ L I w N (.bR (.lp l vs) aS) (.func (.yield l) #[] #[])
 |agg {N} (cs:List AV) (vs:List Value) (hl:vs.length=cs.length) (h1:∀u ∈ vs,u.oneCell'=true) (hr:∀j,j<cs.length->aL ρ L I w N (cs.getD j .bad) (vs.getD j default)):
   aL ρ L I w N (.agg cs) (.agg vs.toArray)
 |aN {N} (cs:List AV) (vs:List Value) (hl:vs.length=cs.length) (hr:∀j,j<cs.length->aL ρ L I w N (cs.getD j .bad) (vs.getD j default)):
   aL ρ L I w N (.aN cs) (.tuple vs.toArray)
 |bad {N} (v:Value):aL ρ L I w N .bad v
structure mI (N:Nat->Prop) (ρ:Place) (L:aZ) (I:Nat->Prop) (w:World) (ρ':Place) (L':aZ) (I':Nat->Prop) (w':World):Prop where
 alive:∀n len sz,N n->L' n=some (len,sz)->L n=some (len,sz)->ρ' n=ρ n
 back:∀n len sz,N n->L' n=some (len,sz)->∃len',L n=some (len',sz)/\len'<=len
 pW:∀b,I b->I' b
 cell:∀b,I b->w'.heap[b]? =w.heap[b]?
theorem mI.refl (N:Nat->Prop) (ρ:Place) (L:aZ) (I:Nat->Prop) (w:World):mI N ρ L I w ρ L I w:=
 ⟨fun _ _ _ _ _ _=>rfl,fun _ len _ _ h=>⟨len,h,Nat.le_refl _⟩,fun _ h=>h,fun _ _=>rfl⟩
theorem mI.trans {N:Nat->Prop} {ρ ρ' R7:Place} {L L' L'':aZ} {I I' I'':Nat->Prop} {w w' w'':World} (h:mI N ρ L I w ρ' L' I' w') (k:mI N ρ' L' I' w' R7 L'' I'' w''):mI N ρ L I w R7 L'' I'' w'':=by
 refine⟨?_,?_,fun b hb=>k.pW b (h.pW b hb),fun b hb=>(k.cell b (h.pW b hb)).trans (h.cell b hb)⟩
 ·intro n len sz hn h2 h0
  obtain⟨l1,e1,g1⟩:=k.back n len sz hn h2
  obtain⟨l0,e0,g0⟩:=h.back n l1 sz hn e1
  rw[h0]at e0
  simp only[Option.some.injEq,Prod.mk.injEq]at e0
  obtain⟨rfl,_⟩:=e0
  have:l1=len:=by omega
  subst this
  exact (k.alive n l1 sz hn h2 e1).trans (h.alive n l1 sz hn e1 h0)
 ·intro n len sz hn h2
  obtain⟨l1,e1,g1⟩:=k.back n len sz hn h2
  obtain⟨l0,e0,g0⟩:=h.back n l1 sz hn e1
  exact⟨l0,e0,by omega⟩
theorem mI.mono {N N':Nat->Prop} (hle:∀n,N' n->N n) {ρ ρ':Place} {L L':aZ} {I I':Nat->Prop} {w w':World} (h:mI N ρ L I w ρ' L' I' w'):mI N' ρ L I w ρ' L' I' w':=
 ⟨fun n len sz hn=>h.alive n len sz (hle n hn),fun n len sz hn=>h.back n len sz (hle n hn),h.pW,h.cell⟩
theorem cell_of_heap {w w':World} {b o:Nat} (h:w'.heap[b]? =w.heap[b]?):w'.cell? ⟨b,o,none⟩=w.cell? ⟨b,o,none⟩:=by
 simp[World.cell?,h]
theorem aL.uO {ρ ρ':Place} {L L':aZ} {I I':Nat->Prop} {w w':World} {NX:Nat->Prop} (E:mI NX ρ L I w ρ' L' I' w') {N:Nat->Prop} {a:AV} {v:Value} (h:aL ρ L I w N a v):(∀n,N n->NX n)->aL ρ' L' I' w' N a v:=by
 induction h with
 |int k n=>exact fun _=> .int k n
 |bool b=>exact fun _=> .bool b
 |str s=>exact fun _=> .str s
 |bP=>exact fun _=> .bP
 |ai=>exact fun _=> .ai
 |ap=>exact fun _=> .ap
 |dY=>exact fun _=> .dY
 |ce=>exact fun _=> .ce
 |nJ n r=>exact fun _=> .nJ n r
 | @loc N n len i off v hn hv h=>
   refine fun hx=> .loc n len i off v hn hv fun l sz hl=> ?_
   obtain⟨l0,e0,g0⟩:=E.back n l sz (hx n hn) hl
   obtain⟨h1,h2⟩:=h l0 sz e0
   refine⟨by omega,fun e=> ?_⟩
   have:l0=l:=by omega
   subst this
   rw[E.alive n l0 sz (hx n hn) hl e0]
   exact h2 e
 | @bc N n len v hn hv h=>
   refine fun hx=> .bc n len v hn hv fun l sz hl=> ?_
   obtain⟨l0,e0,g0⟩:=E.back n l sz (hx n hn) hl
   obtain⟨h1,h2⟩:=h l0 sz e0
   refine⟨by omega,fun e=> ?_⟩
   have:l0=l:=by omega
   subst this
   rw[E.alive n l0 sz (hx n hn) hl e0]
   exact h2 e
 | @ee N n len i off bX v hn hv h=>
   refine fun hx=> .ee n len i off bX v hn hv fun l sz hl=> ?_
   obtain⟨l0,e0,g0⟩:=E.back n l sz (hx n hn) hl
   obtain⟨h1,h2⟩:=h l0 sz e0
   refine⟨by omega,fun e=> ?_⟩
   have:l0=l:=by omega
   subst this
   rw[E.alive n l0 sz (hx n hn) hl e0]
   exact h2 e
 | @omap N n v hn hv h=>
   refine fun hx=> .omap n v hn hv fun sz hl=> ?_
   obtain⟨l0,e0,g0⟩:=E.back n 0 sz (hx n hn) hl
   obtain rfl:l0=0:=by omega
   rw[E.alive n 0 sz (hx n hn) hl e0]
   exact h sz e0
 |cP sz a cap hc=>exact fun _=> .cP sz a cap hc
 |aH sz es b o cap c hl hc hI hs h1 hcell hr ih=>
  exact fun _=> .aH sz es b o cap c hl hc (E.pW b hI) hs h1 (fun i j hi hj=>(cell_of_heap (E.cell b hI)).trans (hcell i j hi hj)) (fun i j hi hj=>ih i j hi hj (fun _ h=>h.elim))
 |bh e off b o c hI h1 hcell hr ih=>
  exact fun _=> .bh e off b o c (E.pW b hI) h1 (fun j hj=>(cell_of_heap (E.cell b hI)).trans (hcell j hj)) (fun j hj=>ih j hj (fun _ h=>h.elim))
 |bR f aS vs hl hr ih=>exact fun hx=> .bR f aS vs hl (fun j hj=>ih j hj hx)
 |qI f aS vs hl hr ih=>exact fun hx=> .qI f aS vs hl (fun j hj=>ih j hj hx)
 |agg cs vs hl h1 hr ih=>exact fun hx=> .agg cs vs hl h1 (fun j hj=>ih j hj hx)
 |aN cs vs hl hr ih=>exact fun hx=> .aN cs vs hl (fun j hj=>ih j hj hx)
 |bad v=>exact fun _=> .bad v
theorem aL.wide {ρ:Place} {L:aZ} {I:Nat->Prop} {w:World} {N:Nat->Prop} {a:AV} {v:Value} (h:aL ρ L I w N a v):∀ {N':Nat->Prop},(∀n,N n->N' n)->aL ρ L I w N' a v:=by
 induction h with
 |int k n=>exact fun _=> .int k n
 |bool b=>exact fun _=> .bool b
 |str s=>exact fun _=> .str s
 |bP=>exact fun _=> .bP
 |ai=>exact fun _=> .ai
 |ap=>exact fun _=> .ap
 |dY=>exact fun _=> .dY
 |ce=>exact fun _=> .ce
 |nJ n r=>exact fun _=> .nJ n r
 |loc n len i off v hn h1 h=>exact fun hx=> .loc n len i off v (hx n hn) h1 h
 |bc n len v hn h1 h=>exact fun hx=> .bc n len v (hx n hn) h1 h
 |ee n len i off bX v hn h1 h=>exact fun hx=> .ee n len i off bX v (hx n hn) h1 h
 |omap n v hn h1 h=>exact fun hx=> .omap n v (hx n hn) h1 h
 |cP sz a cap hc=>exact fun _=> .cP sz a cap hc
 |aH sz es b o cap c hl hc hI hs h1 hcell hr ih=>exact fun _=> .aH sz es b o cap c hl hc hI hs h1 hcell hr
 |bh e off b o c hI h1 hcell hr ih=>exact fun _=> .bh e off b o c hI h1 hcell hr
 |bR f aS vs hl hr ih=>exact fun hx=> .bR f aS vs hl (fun j hj=>ih j hj hx)
 |qI f aS vs hl hr ih=>exact fun hx=> .qI f aS vs hl (fun j hj=>ih j hj hx)
 |agg cs vs hl h1 hr ih=>exact fun hx=> .agg cs vs hl h1 (fun j hj=>ih j hj hx)
 |aN cs vs hl hr ih=>exact fun hx=> .aN cs vs hl (fun j hj=>ih j hj hx)
 |bad v=>exact fun _=> .bad v
theorem aL.bare {ρ:Place} {L:aZ} {I:Nat->Prop} {w:World} {N:Nat->Prop} {a:AV} {v:Value} (h:aL ρ L I w N a v):(∀n,¬N n)->∀ (ρ':Place) (L':aZ),aL ρ' L' I w cJ a v:=by
 induction h with
 |int k n=>exact fun _ _ _=> .int k n
 |bool b=>exact fun _ _ _=> .bool b
 |str s=>exact fun _ _ _=> .str s
 |bP=>exact fun _ _ _=> .bP
 |ai=>exact fun _ _ _=> .ai
 |ap=>exact fun _ _ _=> .ap
 |dY=>exact fun _ _ _=> .dY
 |ce=>exact fun _ _ _=> .ce
 |nJ n r=>exact fun _ _ _=> .nJ n r
 |loc n len i off v hn h1 h=>exact fun hx=>(hx n hn).elim
 |bc n len v hn h1 h=>exact fun hx=>(hx n hn).elim
 |ee n len i off bX v hn h1 h=>exact fun hx=>(hx n hn).elim
 |omap n v hn h1 h=>exact fun hx=>(hx n hn).elim
 |cP sz a cap hc=>exact fun _ _ _=> .cP sz a cap hc
 |aH sz es b o cap c hl hc hI hs h1 hcell hr ih=>exact fun _ ρ' L'=> .aH sz es b o cap c hl hc hI hs h1 hcell (fun i j hi hj=>ih i j hi hj (fun _ h=>h) ρ' L')
 |bh e off b o c hI h1 hcell hr ih=>exact fun _ ρ' L'=> .bh e off b o c hI h1 hcell (fun j hj=>ih j hj (fun _ h=>h) ρ' L')
 |bR f aS vs hl hr ih=>exact fun hx ρ' L'=> .bR f aS vs hl (fun j hj=>ih j hj hx ρ' L')
 |qI f aS vs hl hr ih=>exact fun hx ρ' L'=> .qI f aS vs hl (fun j hj=>ih j hj hx ρ' L')
 |agg cs vs hl h1 hr ih=>exact fun hx ρ' L'=> .agg cs vs hl h1 (fun j hj=>ih j hj hx ρ' L')
 |aN cs vs hl hr ih=>exact fun hx ρ' L'=> .aN cs vs hl (fun j hj=>ih j hj hx ρ' L')
 |bad v=>exact fun _ _ _=> .bad v
def aJ:Value->List Value
 | .agg cs=>cs.toList
 |v=>[v]
def ga:Value->Bool
 | .agg _=>true
 |_=>false
structure yz (k:Nat) (ka va:Bool) (dn:Dn) (sz:Nat) (en:Array Go.MapEntry) (ck:Nat) (cs:Array Value):Prop where
 key:∀ (i:Nat) (e:Go.MapEntry),en[i]? =some e->(aJ e.key).length=k/\(aJ e.key++aJ e.val).length=sz/\ga e.key=ka/\ga e.val=va
 cell:∀ (i:Nat) (e:Go.MapEntry) (j:Nat) (u:Value),en[i]? =some e->(aJ e.key++aJ e.val)[j]? =some u->cs[i*sz+j]? =some u
 born:∀ (i j:Nat) (e f:Go.MapEntry),en[i]? =some e->en[j]? =some f->i<j->e.born<f.born
 clock:∀ (i:Nat) (e:Go.MapEntry),en[i]? =some e->e.born<ck
 den:dn.all=true->ck=en.size/\∀ (i:Nat) (e:Go.MapEntry),en[i]? =some e->e.born=i
 room:cs.size=maxLen*sz/\sz≠0
def eV (mp:Option (Nat × Bool × Bool × Dn)) (sz len:Nat) (o:Option Obj) (cs:Array Value) (ty:Nat) (fr:Nat × Nat):Prop:=match mp with
 |none=>o=some (.cells cs ty fr)
 |some (k,ka,va,dn)=>∃en ck,o=some (.map en ck)/\en.size=len/\yz k ka va dn sz en ck cs
section
variable {mp:Option (Nat × Bool × Bool × Dn)} {sz len ty:Nat} {cs:Array Value} {fr:Nat × Nat}
theorem eV.some {o:Option Obj} (h:eV mp sz len o cs ty fr):∃x,o=some x:=by
 unfold eV at h
 split at h
 ·exact⟨_,h⟩
 ·obtain⟨_,_,h,_⟩:=h; exact⟨_,h⟩
theorem eV.lt {w:World} {g:Nat} (h:eV mp sz len w.heap[g]? cs ty fr):g<w.heap.size:=by
 obtain⟨x,h⟩:=h.some; exact (Array.getElem?_eq_some_iff.1 h).1
theorem eV.at {o o':Option Obj} (h:eV mp sz len o cs ty fr) (e:o'=o):eV mp sz len o' cs ty fr:=e ▸ h
theorem eV.sq {o:Option Obj} (h:eV mp sz len o cs ty fr) {a:Option Nat} {b:Nat} {c:Array Nat} {d:Nat}:o≠Option.some (.mapIter a b c d):=by
 unfold eV at h
 split at h
 ·rw[h]; exact fun e=>by cases e
 ·obtain⟨_,_,h,_⟩:=h; rw[h]; exact fun e=>by cases e
theorem eV.cells {o:Option Obj} (h:eV mp sz len o cs ty fr) (hm:mp=none):o= .some (.cells cs ty fr):=by subst hm; exact h
end
end Go.AM
namespace Go.AM
open Go.RowKit
def gJ:Mem->Nat->bg->Mem
 |[],n,b=>[(n,b)]
 |(m,c)::r,n,b=>bif n==m then (m,b)::r else (m,c)::gJ r n b
theorem mJ (M:Mem) (n:Nat) (b:bg) (m:Nat):ab (gJ M n b) m=if m=n then some b else ab M m:=by
 induction M with
 |nil=>
  by_cases h:m=n
  ·subst h; simp[gJ,ab]
  ·have hb:(m==n)=false:=by simpa using h
   simp[gJ,ab,h,hb]
 |cons x r ih=>
  obtain⟨k,c⟩:=x
  by_cases h:n=k
  ·subst h
   by_cases h':m=n
   ·subst h'; simp[gJ,ab]
   ·have hb:(m==n)=false:=by simpa using h'
    simp[gJ,ab,h',hb]
  ·have hb:(n==k)=false:=by simpa using h
   simp only[gJ,hb,cond_false,ab]
   by_cases h':m=k
   ·subst h'
    have:m≠n:=fun e=>h e.symm
    simp[this]
   ·have hb':(m==k)=false:=by simpa using h'
    simp only[hb',cond_false,ih]
structure cq where
 w0:World
 p:Nat
 I0:Nat->Prop
 size:Nat
 ρ0:Place
 L0:aZ
def cq.fp (C:cq) (g:Nat):Prop:=∃n c,n<C.p/\C.ρ0 n=some (g,c)
structure R8 (C:cq) (w:World):Prop where
 os:w.os=C.w0.os
 tape:w.tape=C.w0.tape
 output:w.output=C.w0.output
 drawn:C.w0.drawn<=w.drawn
 size:C.w0.heap.size<=w.heap.size
 block:∀g,g<C.w0.heap.size->¬C.fp g->w.heap[g]? =C.w0.heap[g]?
structure sr (C:cq) (ρ:Place) (L:aZ) (I:Nat->Prop) (w:World) (N:Nat->Prop) (n:Nat) (b:bg):Prop where
 lt:N n
 even:∀e ∈ b.es,e.length=b.sz
 eD:ρ n=none->b.es=[]
 real:∀g cap,ρ n=some (g,cap)->∃cs fr,eV b.mp b.sz b.es.length w.heap[g]? cs b.ty fr/\(∀o,o<cs.size->¬ (fr.1<=o/\o<fr.2))/\¬I g/\((n<C.p/\∃c,C.ρ0 n=some (g,c))\/ C.w0.heap.size<=g)/\b.es.length<=cap/\cap<=maxLen/\cs.size=cap*b.sz/\
  ∀i j,i<b.es.length->j<b.sz->∃u,cs[i*b.sz+j]? =some u/\u.oneCell'=true/\aL ρ L I w N ((b.es.getD i []).getD j .bad) u
 iter:∀k ka va r sn la,b.mp=some (k,ka,va,.it r sn la)->∃g cap,ρ n=some (g,cap)/\C.w0.heap.size<=r/\¬I r/\FI w g r sn la
structure c9 (C:cq) (ρ:Place) (I:Nat->Prop) (M:bv) (N:Nat->Prop) (w:World):Prop where
 aT:∀n b,M n=some b->sr C ρ (lens M) I w N n b
 inj:∀n m b b' g c c',M n=some b->M m=some b'->ρ n=some (g,c)->ρ m=some (g,c')->n=m
 pW:∀g,C.I0 g->I g
 lt:∀g,I g->g<w.heap.size
 old:∀g,g<C.w0.heap.size->I g->C.I0 g
 keeps:R8 C w
 pn:∀n,n<C.p->N n
 FY:∀g,C.fp g->g<C.w0.heap.size/\¬C.I0 g
 par:∀n len sz,n<C.p->lens M n=some (len,sz)->∃pX,C.L0 n=some (pX,sz)/\pX<=len/\(pX=len->ρ n=C.ρ0 n)
theorem c9.mK {C:cq} {ρ ρ':Place} {I I':Nat->Prop} {M:bv} {L':aZ} {N:Nat->Prop} {w w':World} (h:c9 C ρ I M N w) (E:mI N ρ (lens M) I w ρ' L' I' w'):
  ∀n len sz,n<C.p->L' n=some (len,sz)->∃pX,C.L0 n=some (pX,sz)/\pX<=len/\(pX=len->ρ' n=C.ρ0 n):=by
 intro n len sz hn hl
 obtain⟨l1,e1,g1⟩:=E.back n len sz (h.pn n hn) hl
 obtain⟨l0,e0,g0,k0⟩:=h.par n l1 sz hn e1
 refine⟨l0,e0,by omega,fun e=> ?_⟩
 have e2:l1=len:=by omega
 subst e2
 exact (E.alive n l1 sz (h.pn n hn) hl e1).trans (k0 e)
theorem aA {M:bv} {n l sz:Nat}:lens M n=some (l,sz)↔∃b,M n=some b/\b.ln=l/\b.sz=sz:=by
 simp[lens,Option.map_eq_some_iff]
theorem bg.FZ {b:bg} (h:b.es=[]):b.ln=0:=by unfold bg.ln; split<;>simp[h]
theorem bg.dg {b:bg} (h:b.mp=none):b.ln=b.es.length:=by unfold bg.ln; rw[h]
def cX (M:bv) (n:Nat) (b:bg):bv:=fun m=>if m=n then some b else M m
theorem cO (M:bv) (n:Nat) (b:bg) (m:Nat):lens (cX M n b) m=if m=n then some (b.ln,b.sz)else lens M m:=by
 unfold lens cX
 split<;>simp
def AK (N:Nat->Prop) (n:Nat):Nat->Prop:=fun m=>m=n\/ N m
def iI (ρ:Place) (n:Nat) (x:Nat × Nat):Place:=fun m=>if m=n then some x else ρ m
theorem iX (b:Nat):∀ (vs:List Value) (o:Nat) (w:World),(w.setCells b o vs).drawn=w.drawn
 |[],_,_=>rfl
 |v::r,o,w=>by
  rw[World.setCells,iX b r]
  unfold World.setCell
  split<;>rfl
theorem oN (w:World) (a:Addr) (n:Nat):(w.freeze a n).drawn=w.drawn:=by
 unfold World.freeze
 split<;>rfl
theorem c9.put {C:cq} {ρ:Place} {I:Nat->Prop} {M:bv} {N:Nat->Prop} {w w':World} (h:c9 C ρ I M N w)
  (n:Nat) (b:bg) (g cap:Nat) (cs:Array Value) (fr:Nat × Nat)
  (hos:w'.os=w.os) (su:w'.tape=w.tape) (hout:w'.output=w.output) (hsz:w.heap.size<=w'.heap.size)
  (dh:∀k,k<w.heap.size->k≠g->w'.heap[k]? =w.heap[k]?)
  (hg:eV b.mp b.sz b.es.length w'.heap[g]? cs b.ty fr) (og:∀o,o<cs.size->¬ (fr.1<=o/\o<fr.2))
  (sv:w.heap.size<=g\/∃c0,ρ n=some (g,c0)/\∃b0,M n=some b0)
  (hold:∀b0,M n=some b0->b0.sz=b.sz/\b0.ln<=b.ln/\(b0.ln=b.ln->ρ n=some (g,cap)))
  (kq:N n->∃b0,M n=some b0)
  (F3:∀e ∈ b.es,e.length=b.sz) (hlen:b.es.length<=cap) (hcap:cap<=maxLen) (hcs:cs.size=cap*b.sz)
  (wZ:∀i j,i<b.es.length->j<b.sz->∃u,cs[i*b.sz+j]? =some u/\u.oneCell'=true/\aL ρ (lens M) I w N ((b.es.getD i []).getD j .bad) u)
  (hit:∀k ka va r sn la,b.mp=some (k,ka,va,.it r sn la)->C.w0.heap.size<=r/\¬I r/\FI w' g r sn la:=by intro _ _ _ _ _ _ hnone; first|(cases hnone; done)|(simp_all; done))
  (Mu:w.drawn<=w'.drawn:=by first|exact Nat.le_refl _|exact Nat.le_succ _|assumption|exact Nat.le_of_eq (iX ..).symm|(refine Nat.le_trans ?_ (Nat.le_of_eq (oN ..).symm); exact Nat.le_succ _)):
  mI N ρ (lens M) I w (iI ρ n (g,cap)) (lens (cX M n b)) I w'/\c9 C (iI ρ n (g,cap)) I (cX M n b) (AK N n) w':=by
 have hgI:¬I g:=by
  intro hI
  rcases sv with hp|⟨c0,hp,b0,hb0⟩
  ·have:=h.lt g hI; omega
  ·obtain⟨_,_,_,_,rD,_⟩:=(h.aT n b0 hb0).real g c0 hp
   exact rD hI
 have hown:(n<C.p/\∃c,C.ρ0 n=some (g,c))\/ C.w0.heap.size<=g:=by
  rcases sv with hp|⟨c0,hp,b0,hb0⟩
  ·right; have:=h.keeps.size; omega
  ·obtain⟨_,_,_,_,_,ho,_⟩:=(h.aT n b0 hb0).real g c0 hp
   exact ho
 have E:mI N ρ (lens M) I w (iI ρ n (g,cap)) (lens (cX M n b)) I w':=by
  refine⟨?_,?_,fun _ h=>h,?_⟩
  ·intro m len sz hm h1 h0
   by_cases e:m=n
   ·subst e
    rw[cO,if_pos rfl]at h1
    simp only[Option.some.injEq,Prod.mk.injEq]at h1
    obtain⟨b0,hb0,hl0,_⟩:=aA.1 h0
    obtain⟨_,_,h3⟩:=hold b0 hb0
    simp only[iI,if_pos]
    exact (h3 (by omega)).symm
   ·simp[iI,e]
  ·intro m len sz hm h1
   by_cases e:m=n
   ·subst e
    rw[cO,if_pos rfl]at h1
    simp only[Option.some.injEq,Prod.mk.injEq]at h1
    obtain⟨b0,hb0⟩:=kq hm
    obtain⟨h2,h3,_⟩:=hold b0 hb0
    exact⟨b0.ln,aA.2 ⟨b0,hb0,rfl,by omega⟩,by omega⟩
   ·rw[cO,if_neg e]at h1
    exact⟨len,h1,Nat.le_refl _⟩
  ·intro k hk
   exact dh k (h.lt k hk) (fun e=>hgI (e ▸ hk))
 refine⟨E,?_,?_,h.pW,?_,h.old,?_,?_,h.FY,h.mK E⟩
 ·intro m bm hm
  simp only[cX]at hm
  by_cases e:m=n
  ·subst e
   rw[if_pos rfl]at hm
   simp only[Option.some.injEq]at hm
   subst hm
   refine⟨Or.inl rfl,F3,fun h0=>by simp[iI]at h0,fun g' cap' h0=> ?_,fun k ka va r sn la hb=>⟨g,cap,by simp[iI],hit k ka va r sn la hb⟩⟩
   simp only[iI,if_pos,Option.some.injEq,Prod.mk.injEq]at h0
   obtain⟨rfl,rfl⟩:=h0
   refine⟨cs,fr,hg,og,hgI,hown,hlen,hcap,hcs,fun i j hi hj=> ?_⟩
   obtain⟨u,hu,pU,hr⟩:=wZ i j hi hj
   exact⟨u,hu,pU,(hr.uO E (fun _ h=>h)).wide (fun _ h=>Or.inr h)⟩
  ·rw[if_neg e]at hm
   have B:=h.aT m bm hm
   have key:∀g' cap',ρ m=some (g',cap')->g'<w.heap.size/\g'≠g:=fun g' cap' h0'=>by
    obtain⟨cs',fr',hc1,_⟩:=B.real g' cap' h0'
    have hlt:g'<w.heap.size:=hc1.lt
    refine⟨hlt,?_⟩
    rintro rfl
    rcases sv with hp|⟨c0,hp,b0,hb0⟩
    ·omega
    ·exact e (h.inj m n bm b0 g' cap' c0 hm hb0 h0' hp)
   refine⟨Or.inr B.lt,B.even,fun h0=>B.eD (by simpa[iI,e]using h0),fun g' cap' h0=> ?_,fun k ka va r sn la hb=> ?_⟩
   rotate_left
   ·obtain⟨g',cap',h0',i1,i2,i3⟩:=B.iter k ka va r sn la hb
    obtain⟨hlt,hne⟩:=key g' cap' h0'
    refine⟨g',cap',by simpa[iI,e]using h0',i1,i2,i3.at (dh g' hlt hne) (dh r i3.lt ?_)⟩
    rintro rfl
    rcases sv with hp|⟨c0,hp,b0,hb0⟩
    ·have:=i3.lt; omega
    ·obtain⟨en,ck,since,seen,_,k2,_⟩:=i3
     obtain⟨_,_,hc1,_⟩:=(h.aT n b0 hb0).real _ c0 hp
     exact hc1.sq k2
   have h0':ρ m=some (g',cap'):=by simpa[iI,e]using h0
   obtain⟨hlt,hne⟩:=key g' cap' h0'
   obtain⟨cs',fr',hc1,DA,kn,uV,Ck,AL,DB,DC⟩:=B.real g' cap' h0'
   refine⟨cs',fr',hc1.at (dh g' hlt hne),DA,kn,uV,Ck,AL,DB,fun i j hi hj=> ?_⟩
   obtain⟨u,hu,pU,hr⟩:=DC i j hi hj
   exact⟨u,hu,pU,(hr.uO E (fun _ h=>h)).wide (fun _ h=>Or.inr h)⟩
 ·intro m k bm bk g' c c' hm hk h1 h2
  have lt':∀ (q:Nat) (bq:bg) (c0:Nat),M q=some bq->ρ q=some (g,c0)->q=n:=by
   intro q bq c0 hq hρ
   obtain⟨cs',fr',hc1,_⟩:=(h.aT q bq hq).real g c0 hρ
   have hlt:g<w.heap.size:=hc1.lt
   rcases sv with hp|⟨c1,hp,b0,hb0⟩
   ·omega
   ·exact h.inj q n bq b0 g c0 c1 hq hb0 hρ hp
  simp only[cX]at hm hk
  by_cases e:m=n<;>by_cases e':k=n
  ·omega
  ·subst e
   rw[if_neg e']at hk
   simp only[iI,if_pos,if_neg e',Option.some.injEq,Prod.mk.injEq]at h1 h2
   obtain⟨rfl,_⟩:=h1
   exact (lt' k bk c' hk h2).symm
  ·subst e'
   rw[if_neg e]at hm
   simp only[iI,if_pos,if_neg e,Option.some.injEq,Prod.mk.injEq]at h1 h2
   obtain⟨rfl,_⟩:=h2
   exact lt' m bm c hm h1
  ·rw[if_neg e]at hm
   rw[if_neg e']at hk
   simp only[iI,if_neg e,if_neg e']at h1 h2
   exact h.inj m k bm bk g' c c' hm hk h1 h2
 ·intro k hk; have:=h.lt k hk; omega
 ·refine⟨hos.trans h.keeps.os,su.trans h.keeps.tape,hout.trans h.keeps.output,Nat.le_trans h.keeps.drawn Mu,Nat.le_trans h.keeps.size hsz,fun k hk hf=> ?_⟩
  refine (dh k (Nat.lt_of_lt_of_le hk h.keeps.size) ?_).trans (h.keeps.block k hk hf)
  rintro rfl
  rcases hown with⟨hp,c,hc⟩|ho
  ·exact hf ⟨n,c,hp,hc⟩
  ·omega
 ·exact fun m hm=>Or.inr (h.pn m hm)
theorem c9.ext' {C:cq} {ρ:Place} {I I':Nat->Prop} {M:bv} {N:Nat->Prop} {w w':World} (h:c9 C ρ I M N w)
  (hos:w'.os=w.os) (su:w'.tape=w.tape) (hout:w'.output=w.output) (hsz:w.heap.size<=w'.heap.size)
  (dh:∀k,k<w.heap.size->w'.heap[k]? =w.heap[k]?)
  (hI:∀k,I k->I' k) (hlt:∀k,I' k->k<w'.heap.size) (w5:∀k,k<w.heap.size->I' k->I k)
  (Mu:C.w0.drawn<=w'.drawn):
  mI N ρ (lens M) I w ρ (lens M) I' w'/\c9 C ρ I' M N w':=by
 have E:mI N ρ (lens M) I w ρ (lens M) I' w':=⟨fun _ _ _ _ _ _=>rfl,fun _ len _ _ h=>⟨len,h,Nat.le_refl _⟩,hI,fun b hb=>dh b (h.lt b hb)⟩
 refine⟨E,fun n b hb=> ?_,h.inj,fun g hg=>hI g (h.pW g hg),hlt,fun g hg uP=>h.old g hg (w5 g (Nat.lt_of_lt_of_le hg h.keeps.size) uP),?_,h.pn,h.FY,h.mK E⟩
 ·have B:=h.aT n b hb
  refine⟨B.lt,B.even,B.eD,fun g cap hg=> ?_,fun k ka va r sn la hb=> ?_⟩
  rotate_left
  ·obtain⟨g,cap,hg,i1,i2,i3⟩:=B.iter k ka va r sn la hb
   obtain⟨_,_,hc1,_⟩:=B.real g cap hg
   exact⟨g,cap,hg,i1,fun hi=>i2 (w5 r i3.lt hi),i3.at (dh g hc1.lt) (dh r i3.lt)⟩
  obtain⟨cs,fr,hc1,DA,kn,uV,Ck,AL,DB,DC⟩:=B.real g cap hg
  have hl:g<w.heap.size:=hc1.lt
  refine⟨cs,fr,hc1.at (dh g hl),DA,fun hi=>kn (w5 g hl hi),uV,Ck,AL,DB,fun i j hi hj=> ?_⟩
  obtain⟨u,hu,pU,hr⟩:=DC i j hi hj
  exact⟨u,hu,pU,hr.uO E (fun _ h=>h)⟩
 ·exact⟨hos.trans h.keeps.os,su.trans h.keeps.tape,hout.trans h.keeps.output,Mu,Nat.le_trans h.keeps.size hsz,fun g hg hf=>(dh g (Nat.lt_of_lt_of_le hg h.keeps.size)).trans (h.keeps.block g hg hf)⟩
theorem c9.ext {C:cq} {ρ:Place} {I I':Nat->Prop} {M:bv} {N:Nat->Prop} {w w':World} (h:c9 C ρ I M N w)
 (hos:w'.os=w.os) (su:w'.tape=w.tape) (hout:w'.output=w.output) (hsz:w.heap.size<=w'.heap.size)
 (dh:∀k,k<w.heap.size->w'.heap[k]? =w.heap[k]?)
 (hI:∀k,I k->I' k) (hlt:∀k,I' k->k<w'.heap.size) (w5:∀k,k<w.heap.size->I' k->I k)
 (Mu:w.drawn<=w'.drawn:=by first|exact Nat.le_refl _|exact Nat.le_succ _|assumption|exact Nat.le_of_eq (iX ..).symm|(refine Nat.le_trans ?_ (Nat.le_of_eq (oN ..).symm); exact Nat.le_succ _)):
 mI N ρ (lens M) I w ρ (lens M) I' w'/\c9 C ρ I' M N w':=h.ext' hos su hout hsz dh hI hlt w5 (Nat.le_trans h.keeps.drawn Mu)
def zd (z:Bool) (w:World):World:= {w with drawn:=bif z then 0 else w.drawn}
theorem F4 (z:Bool) (w:World):(zd z w).drawn<=w.drawn:=by cases z; exact Nat.le_refl _; exact Nat.zero_le _
def w6 (z:Bool) (C:cq):Prop:=z=true->C.w0.drawn=0
theorem zF {C:cq}:w6 false C:=fun h=>Bool.noConfusion h
theorem zT {z:Bool} {C:cq} (h:C.w0.drawn=0):w6 z C:=fun _=>h
theorem w6.le {z:Bool} {C:cq} (h:w6 z C) {w w1:World} (h0:C.w0.drawn<=w.drawn) (h1:(zd z w).drawn<=w1.drawn):C.w0.drawn<=w1.drawn:=by
 cases z
 ·exact Nat.le_trans h0 h1
 ·rw[h rfl]; exact Nat.zero_le _
theorem c9.drew {C:cq} {ρ:Place} {I:Nat->Prop} {M:bv} {N:Nat->Prop} {w:World} (h:c9 C ρ I M N w):c9 C ρ I M N w.drew:=
 (h.ext (w':=w.drew) rfl rfl rfl (Nat.le_refl _) (fun _ _=>rfl) (fun _ h=>h) h.lt (fun _ _ h=>h)).2
mutual
def AV.under (N:Nat->Prop):AV->Prop
 | .loc n _ _ _=>N n
 | .bc n _=>N n
 | .ee n _ _ _ _=>N n
 | .omap n=>N n
 | .bR _ cs=>AV.gf N cs
 | .agg cs=>AV.gf N cs
 | .aN cs=>AV.gf N cs
 |_=>True
def AV.gf (N:Nat->Prop):List AV->Prop
 |[]=>True
 |c::cs=>AV.under N c/\AV.gf N cs
end
theorem AV.fL {N:Nat->Prop}:∀ (cs:List AV) (j:Nat),AV.gf N cs->j<cs.length->AV.under N (cs.getD j .bad)
 |[],_,_,h=>by simp at h
 |c::cs,0,h,_=>by simp only[AV.gf]at h; simpa using h.1
 |c::cs,j+1,h,hj=>by simp only[AV.gf]at h; simpa using AV.fL cs j h.2 (by simpa using hj)
theorem aL.low {ρ:Place} {L:aZ} {I:Nat->Prop} {w:World} {N:Nat->Prop} {a:AV} {v:Value} (h:aL ρ L I w N a v):∀ {N':Nat->Prop},a.under N'->aL ρ L I w N' a v:=by
 induction h with
 |int k n=>exact fun _=> .int k n
 |bool b=>exact fun _=> .bool b
 |str s=>exact fun _=> .str s
 |bP=>exact fun _=> .bP
 |ai=>exact fun _=> .ai
 |ap=>exact fun _=> .ap
 |dY=>exact fun _=> .dY
 |ce=>exact fun _=> .ce
 |nJ n r=>exact fun _=> .nJ n r
 |loc n len i off v hn h1 h=>exact fun hx=> .loc n len i off v (by simpa[AV.under]using hx) h1 h
 |bc n len v hn h1 h=>exact fun hx=> .bc n len v (by simpa[AV.under]using hx) h1 h
 |ee n len i off bX v hn h1 h=>exact fun hx=> .ee n len i off bX v (by simpa[AV.under]using hx) h1 h
 |omap n v hn h1 h=>exact fun hx=> .omap n v (by simpa[AV.under]using hx) h1 h
 |cP sz a cap hc=>exact fun _=> .cP sz a cap hc
 |aH sz es b o cap c hl hc hI hs h1 hcell hr ih=>exact fun _=> .aH sz es b o cap c hl hc hI hs h1 hcell hr
 |bh e off b o c hI h1 hcell hr ih=>exact fun _=> .bh e off b o c hI h1 hcell hr
 |bR f aS vs hl hr ih=>exact fun hx=> .bR f aS vs hl (fun j hj=>ih j hj (AV.fL _ _ (by simpa[AV.under]using hx) hj))
 |qI f aS vs hl hr ih=>exact fun hx=> .qI f aS vs hl (fun j hj=>ih j hj (AV.fL _ _ (by simpa[AV.under]using hx) hj))
 |agg cs vs hl h1 hr ih=>exact fun hx=> .agg cs vs hl h1 (fun j hj=>ih j hj (AV.fL _ _ (by simpa[AV.under]using hx) hj))
 |aN cs vs hl hr ih=>exact fun hx=> .aN cs vs hl (fun j hj=>ih j hj (AV.fL _ _ (by simpa[AV.under]using hx) hj))
 |bad v=>exact fun _=> .bad v
end Go.AM
namespace Go.AM
open Go.RowKit
inductive TD where
 |int (k:IntKind)|bool|str|ptr (e:Nat)|slice (e:Nat)|arr (n e:Nat)|struct (fs:List (Nat × Nat))|func|iface|map (k e:Nat)|aN|other
 deriving Inhabited
structure TT where
 d:Nat->TD
 s:Nat->Nat
 z:Nat->AV
def TD.ok:TD->Bool
 | .other=>false
 |_=>true
def TD.ag:TD->Bool
 | .arr .. =>true
 | .struct .. =>true
 |_=>false
structure St where
 F:aW
 M:Mem
 nx:Nat
def uW:Value->AV
 | .int k n=> .int k n
 | .bool b=> .bool b
 | .string s=> .str s.data.toList
 | .pointer none=> .bP
 | .slice none 0 0=> .ai
 | .nilFunc=> .ap
 | .nilIface=> .dY
 | .map none=> .ce
 |_=> .bad
def Mv:Value->AV
 | .agg cs=>bif cs.toList.all Value.oneCell' then .agg (cs.toList.map uW)else .bad
 | .tuple vs=> .aN (vs.toList.map uW)
 |v=>uW v
def ev (F:aW):Operand->AV
 | .tmp t=>look F t
 | .const v=>Mv v
 | .func f=> .bR (.fn f) []
 | .global _=> .bad
def oO (F:aW):List Operand->List AV
 |[]=>[]
 |o::r=>ev F o::oO F r
def cells:AV->List AV
 | .agg cs=>cs
 |v=>[v]
def bQ:AV->Bool
 | .bad=>false
 | .aN _=>false
 |_=>true
def ir (F:aW):Option Nat->AV->aW
 |none,_=>F
 |some d,v=>(d,v)::F
def jE (b:Bool) (K:Prop):Prop:=bif b then K else False
theorem aD {b:Bool} {K:Prop} (h:b=true) (k:K):jE b K:=by simp[jE,h,k]
theorem ax {b:Bool} {K:Prop} (h:jE b K):b=true/\K:=by cases b<;>simp_all[jE]
inductive Mw where
 |lp (c:Code)
 |beg
 |cd (c:Code)
def Mw.item:Mw->Item
 | .lp c=> .inLoop c
 | .beg=> .beginRound
 | .cd c=> .code c
inductive It where
 |code (c:Code)
 |aT (id:Nat)
 |inl (c:Code)
 |ops (all:Array Oper) (i:Nat) (rest:List Oper) (gd:List (Nat × Nat))
 |eW (c:Mw) (post:St->Prop)
 |mL (c:Code)
def It.item:It->Item
 | .code c=> .code c
 | .aT id=> .inBlock id
 | .inl c=> .inLoop c
 | .ops all i rest _=> .inRegion all (List.range' i rest.length)
 | .eW c _=>c.item
 | .mL c=> .inScope c
def R9 (K:AV->Prop) (cs:List AV):Prop:=K (.agg cs)
def alive (M:Mem) (n len:Nat) (K:bg->Prop):Prop:=
 match ab M n with
 |some b=>jE (b.ln==len) (b.mp=none/\K b)
 |none=>False
def apart (ag:Bool) (n off:Nat) (cs:List AV) (K:AV->Prop):Prop:=
 jE (((cs.drop off).take n).length==n) (bif ag then K (.agg ((cs.drop off).take n))else jE (n==1) (K (((cs.drop off).take n).headD .bad)))
def wr (k:IntKind) (n:Int):Int:=k.wrap n
def eE (op:BinOp) (k:IntKind) (x y:Int):Int:=
 let a:=BitVec.ofInt k.bits x
 let b:=BitVec.ofInt k.bits y
 match op with
 | .and=>k.wrap (a&&& b).toNat
 | .or=>k.wrap (a||| b).toNat
 | .xor=>k.wrap (a ^^^ b).toNat
 |_=>k.wrap (a&&& ~~~b).toNat
def pY (k:IntKind) (x y:Int):Int:=k.wrap (x*2 ^ (min y.toNat k.bits))
def fC (k:IntKind) (x y:Int):Int:=x.fdiv (2 ^ (min y.toNat k.bits))
def Y':IntKind->Nat
 | .i8=>0| .i16=>1| .i32=>2| .i64=>3| .u8=>4| .u16=>5| .u32=>6| .u64=>7
def rX (k k':IntKind):Bool:=Y' k==Y' k'
theorem iY {k k':IntKind} (h:rX k k'=true):k=k':=by
 cases k<;>cases k'<;>first|rfl|(simp[rX,Y']at h)
def Jw (op:BinOp) (x y:AV) (K:AV->Prop):Prop:=
 match x,y with
 | .int k a,.int k' b=>
   match op with
   | .shl=>(0<=b)/\K (.int k (pY k a b))
   | .shr=>(0<=b)/\K (.int k (fC k a b))
   | .add=>jE (rX k k') (K (.int k (wr k (a+b))))
   | .sub=>jE (rX k k') (K (.int k (wr k (a - b))))
   | .mul=>jE (rX k k') (K (.int k (wr k (a*b))))
   | .quo=>(b≠0)/\jE (rX k k') (K (.int k (wr k (a.tdiv b))))
   | .rem=>(b≠0)/\jE (rX k k') (K (.int k (a.tmod b)))
   | .and=>jE (rX k k') (K (.int k (eE .and k a b)))
   | .or=>jE (rX k k') (K (.int k (eE .or k a b)))
   | .xor=>jE (rX k k') (K (.int k (eE .xor k a b)))
   | .andNot=>jE (rX k k') (K (.int k (eE .andNot k a b)))
   | .eql=>jE (rX k k') (K (.bool (a==b)))
   | .neq=>jE (rX k k') (K (.bool (a != b)))
   | .lss=>jE (rX k k') (K (.bool (decide (a<b))))
   | .leq=>jE (rX k k') (K (.bool (decide (a<=b))))
   | .gtr=>jE (rX k k') (K (.bool (decide (a>b))))
   | .geq=>jE (rX k k') (K (.bool (decide (a>= b))))
 |_,_=>False
def R' (op:UnOp) (x:AV) (K:AV->Prop):Prop:=
 match op,x with
 | .neg,.int k n=>K (.int k (wr k (0 - n)))
 | .xor,.int k n=>K (.int k (eE .xor k (if k.signed then -1 else k.max) n))
 | .not,.bool b=>K (.bool !b)
 |_,_=>False
def Sa (D:TD) (x:AV) (K:AV->Prop):Prop:=
 match D,x with
 | .int k,.int _ n=>K (.int k (wr k n))
 | .str,.str s=>K (.str s)
 |_,_=>False
def bM (off:Nat) (vs cs:List AV):List AV:=cs.take off++(vs++cs.drop (off+vs.length))
def oP (size:Nat->Nat):List (Nat × Nat)->List (Nat × AV)->List AV->(List AV->Prop)->Prop
 |_,[],cs,K=>K cs
 |fs,(i,v)::r,cs,K=>
  match fs[i]? with
  |some (off,t)=>jE (bQ v&& !((cells v).length==0)&&(cells v).length==size t&&(((cs.drop off).take (cells v).length).length==(cells v).length)) (oP size fs r (bM off (cells v) cs) K)
  |none=>False
def oQ (sz:Nat):List (Nat × AV)->List AV->(List AV->Prop)->Prop
 |[],cs,K=>K cs
 |(i,v)::r,cs,K=>jE (bQ v&& !((cells v).length==0)&&(cells v).length==sz&&(((cs.drop (i*sz)).take (cells v).length).length==(cells v).length)) (oQ sz r (bM (i*sz) (cells v) cs) K)
def lM (sz:Nat):List (Nat × AV)->List (List AV)->(List (List AV)->Prop)->Prop
 |[],es,K=>K es
 |(i,v)::r,es,K=>jE (bQ v&&(cells v).length==sz&&((es.drop i).take 1).length==1) (lM sz r (es.set i (cells v)) K)
def pZ (F:aW):List (Nat × Operand)->List (Nat × AV)
 |[]=>[]
 |(i,o)::r=>(i,ev F o)::pZ F r
def F5 (d:Nat->TD):List (Nat × Nat)->Bool
 |[]=>true
 |(_,t)::r=>(d t).ok&&F5 d r
def AN (T:TT) (t:Nat) (ps:List (Nat × AV)) (K:AV->Prop):Prop:=
 match T.d t with
 | .struct fs=>jE (F5 T.d fs&&bQ (T.z t)&&(cells (T.z t)).length==T.s t) (oP T.s fs ps (cells (T.z t)) (R9 K))
 | .arr _ e=>jE ((T.d e).ok&&bQ (T.z t)&&(cells (T.z t)).length==T.s t) (oQ (T.s e) ps (cells (T.z t)) (R9 K))
 |_=>False
def AO (T:TT) (t:Nat) (x ix:AV) (M:Mem) (K:AV->Prop):Prop:=
 match ix with
 | .int _ i=>
   match T.d t with
   | .slice e=>
     (match x with
     | .aH sz es=>jE (sz==T.s e) ((0<=i/\i<es.length)/\K (.bh (es.getD i.toNat []) 0))
     | .bc n len=>alive M n len fun b=>jE (b.sz==T.s e) ((0<=i/\i<len)/\K (.loc n len i.toNat 0))
     | .ee n len j off bX=>alive M n len fun _=>(0<=i/\i<bX)/\K (.loc n len j (off+i.toNat*T.s e))
     |_=>False)
   | .arr m e=>
     (match x with
     | .loc n len j off=>alive M n len fun _=>(0<=i/\i< (m:Int))/\K (.loc n len j (off+i.toNat*T.s e))
     | .bh c off=>(0<=i/\i< (m:Int))/\K (.bh c (off+i.toNat*T.s e))
     |_=>False)
   |_=>False
 |_=>False
def nK (T:TT) (t:Nat) (a:AV) (M:Mem) (K:AV->Prop):Prop:=
 match a with
 | .loc n len i off=>alive M n len fun b=>apart (T.d t).ag (T.s t) off (b.es.getD i []) K
 | .bh e off=>apart (T.d t).ag (T.s t) off e K
 |_=>False
def AP (T:TT) (t:Nat) (a v:AV) (M:Mem) (K:Mem->Prop):Prop:=
 match a with
 | .loc n len i off=>alive M n len fun b=>
     jE (bQ v&&(cells v).length==T.s t&& !(T.s t==0)&&((((b.es.getD i []).drop off).take (cells v).length).length==(cells v).length))
      (K (gJ M n ⟨b.ty,b.sz,b.es.set i (bM off (cells v) (b.es.getD i [])),none⟩))
 |_=>False
def iu:Nat:=1073741824
def p5 (sz:Nat):Nat->List AV->List (List AV)
 |0,_=>[]
 |n+1,r=>r.take sz::p5 sz n (r.drop sz)
def oh (M:Mem) (sz:Nat) (x:AV) (K:List (List AV)->Prop):Prop:=
 match x with
 | .aH s es=>jE (s==sz) (K es)
 | .ai=>K []
 | .bc n len=>alive M n len fun b=>jE (b.sz==sz) (K b.es)
 | .ee n len i off bX=>alive M n len fun b=>jE (Nat.blt i b.es.length&&Nat.ble (off+bX*sz) b.sz&& !(sz==0)) (K (p5 sz bX ((b.es.getD i []).drop off)))
 | .str s=>jE (sz==1) (K (s.map fun c=>[.int .u8 c.toNat]))
 |_=>False
def rY (T:TT) (t:Nat) (s x:AV) (S:St) (K:AV->Mem->Nat->Prop):Prop:=
 match T.d t with
 | .slice e=>
   (match s with
   | .bc n len=>alive S.M n len fun b=>jE (b.sz==T.s e&&b.ty==e) (oh S.M (T.s e) x fun xs=>
       (len+xs.length<=iu)/\K (.bc n (len+xs.length)) (gJ S.M n ⟨b.ty,b.sz,b.es++xs,none⟩) S.nx)
   | .ai=>oh S.M (T.s e) x fun xs=>(xs.length<=iu)/\K (.bc S.nx xs.length) (gJ S.M S.nx ⟨e,T.s e,xs,none⟩) (S.nx+1)
   |_=>False)
 |_=>False
def sw (k:IntKind) (a:Int):List AV->AV
 |[]=> .int k a
 | .int _ b::r=>sw k (min a b) r
 |_=> .bad
def sy (k:IntKind) (a:Int):List AV->AV
 |[]=> .int k a
 | .int _ b::r=>sy k (max a b) r
 |_=> .bad
def yA:List AV->AV
 | .int k a::r=>sw k a r
 |_=> .bad
def yB:List AV->AV
 | .int k a::r=>sy k a r
 |_=> .bad
mutual
def AV.names:AV->List Nat
 | .loc n _ _ _=>[n]
 | .bc n _=>[n]
 | .ee n _ _ _ _=>[n]
 | .omap n=>[n]
 | .bR _ cs=>AV.az cs
 | .agg cs=>AV.az cs
 | .aN cs=>AV.az cs
 |_=>[]
def AV.az:List AV->List Nat
 |[]=>[]
 |c::cs=>AV.names c++AV.az cs
end
def dj (M:bv):List (Nat × bg)->bv
 |[]=>M
 |(n,b)::r=>dj (cX M n b) r
def cQ (M:Mem):List (Nat × bg)->Mem
 |[]=>M
 |(n,b)::r=>cQ (gJ M n b) r
def fM (N:Nat->Prop) (ws:List (Nat × bg)):Nat->Prop:=fun m=>N m\/∃b,(m,b) ∈ ws
def iv (X:cq) (M:bv) (N:Nat->Prop) (ρ:Place) (I:Nat->Prop) (w:World) (av:AV) (ws:List (Nat × bg)) (v:Value) (w1:World):Prop:=
 ∃ρ1 I1,mI N ρ (lens M) I w ρ1 (lens (dj M ws)) I1 w1/\c9 X ρ1 I1 (dj M ws) (fM N ws) w1/\aL ρ1 (lens (dj M ws)) I1 w1 (fM N ws) av v
def dw (ρ:Place) (L:aZ) (I:Nat->Prop) (w:World) (N:Nat->Prop) (as:List AV) (vs:List Value):Prop:=
 vs.length=as.length/\∀j,j<as.length->aL ρ L I w N (as.getD j .bad) (vs.getD j default)
def qJ (P:Program) (X:cq) (f:Nat) (args:List AV) (M:bv) (av:AV) (ws:List (Nat × bg)) (nw:List Nat):Prop:=
 (∀p ∈ ws,p.1 ∈ nw\/ p.1 ∈ AV.az args)/\
 ∀M' N ρ I w vs,c9 X ρ I M' N w->(∀n ∈ AV.az args,M' n=M n)->(∀n ∈ nw,¬N n)->dw ρ (lens M') I w N args vs->
  Calls P f vs.toArray w fun e w1=>∃v,e= .returned v/\iv X M' N ρ I w av ws v w1
def Mx (P:Program) (X:cq) (f:Nat) (args:List AV) (Rx:List Nat) (M:bv) (av:AV) (ws:List (Nat × bg)) (nw:List Nat):Prop:=
 (∀p ∈ ws,p.1 ∈ nw\/(p.1 ∈ Rx/\M p.1≠none))/\
 ∀M' N ρ I w vs,c9 X ρ I M' N w->(∀n ∈ Rx,M' n=M n)->(∀n ∈ nw,¬N n)->dw ρ (lens M') I w N args vs->
  Calls P f vs.toArray w fun e w1=>∃v,e= .returned v/\iv X M' N ρ I w av ws v w1
def p6 (T:TT) (t:Nat) (x:AV) (lo hi mx:Option AV) (M:Mem) (K:AV->Prop):Prop:=
 match T.d t with
 | .slice e=>jE ((T.d e).ok) (match x with
   | .aH sz es=>jE (sz==T.s e) (match lo,hi,mx with
     |none,some (.int _ h),none=>(0<=h/\h<=es.length)/\K (.aH sz (es.take h.toNat))
     |some (.int _ l),none,none=>(0<=l/\l<=es.length)/\K (.aH sz (es.drop l.toNat))
     |some (.int _ l),some (.int _ h),none=>(0<=l/\l<=h/\h<=es.length)/\K (.aH sz ((es.take h.toNat).drop l.toNat))
     |none,some (.int _ h),some (.int _ m)=>(0<=h/\h<=m/\m<=es.length)/\K (.aH sz (es.take h.toNat))
     |_,_,_=>False)
   |_=>False)
 | .str=>(match x with
   | .str s=>(match lo,hi,mx with
     |none,some (.int _ h),none=>(0<=h/\h<=s.length)/\K (.str (s.take h.toNat))
     |some (.int _ l),none,none=>(0<=l/\l<=s.length)/\K (.str (s.drop l.toNat))
     |some (.int _ l),some (.int _ h),none=>(0<=l/\l<=h/\h<=s.length)/\K (.str ((s.take h.toNat).drop l.toNat))
     |_,_,_=>False)
   |_=>False)
 |_=>False
def uQ (F:aW):Option Operand->Option AV
 |none=>none
 |some o=>some (ev F o)
def cY (F:aW):Op->List Nat
 | .store _ a _=>(ev F a).names
 | .mapUpdate _ m _ _=>(ev F m).names
 | .insert _ m _ _=>(ev F m).names
 | .mapEntry _ m _=>(ev F m).names
 | .entryStore _ m _ _=>(ev F m).names
 | .call c=>(match c.callee,c.args.toList with
   | .builtin .delete,s::_=>(ev F s).names
   | .builtin .append,s::_=>(ev F s).names
   | .builtin .copy,s::_=>(ev F s).names
   | .value f,as=>(match ev F f with
     | .bR _ aS=>AV.az (oO F as++aS)
     |_=>[])
   |_,_=>[])
 |_=>[]
def My:List (Nat × Nat)->Nat->Option Nat
 |[],_=>none
 |(i,s)::r,j=>bif j==i then some s else My r j
def kX:List AV->List AV->Bool
 |[],_=>true
 | .int _ x::r,.int _ y::s=>(x==y)&&kX r s
 | .bool x::r,.bool y::s=>(x==y)&&kX r s
 | .str x::r,.str y::s=>(x==y)&&kX r s
 |_,_=>false
def bL (kc:List AV):List (List AV)->Option (Nat × List AV)
 |[]=>none
 |e::r=>if kX kc e then some (0,e.drop kc.length)else (bL kc r).map fun q=>(q.1+1,q.2)
def jF:List AV->Bool
 |[]=>true
 | .int .i64 _::r=>jF r
 |_::_=>false
def DD (q:Option (Nat × List AV)):AV:=match q with
 |some q=>q.2.headD .bad
 |none=> .int .i64 0
def Vw (x:Option bg):Option (Nat × Option (Nat × Bool × Bool × Dn) × (List AV->AV) × Prop):=x.map fun b=>(b.sz,b.mp,(fun kc=>if kc.length+1=b.sz then DD (bL kc b.es)else .bad),∀r ∈ b.es,jF r=true)
def qK (acc:List Nat):List Edge->Nat
 |[]=>0
 |e::r=>bif Region.binds .any e then (2 ^ e.on||| acc.getD e.on 0)||| qK acc r else qK acc r
def jL:List Oper->List Nat->List Nat
 |[],acc=>acc
 |o::r,acc=>jL r (acc++ [qK acc o.after.toList])
def sA:Nat->List Oper->Bool
 |_,[]=>true
 |i,o::r=>o.after.toList.all (fun e=> !Region.binds .any e||Nat.blt e.on i)&&sA (i+1) r
def Cl (ops:Array Oper) (ms:List Nat):Bool:=
 (List.range ops.size).all fun j=>(List.range j).all fun i=>(ms.getD j 0).testBit i||(match ops[i]?,ops[j]? with
   |some x,some y=>x.apart ops y
   |_,_=>true)
def p7 (ops:Array Oper):Bool:=sA 0 ops.toList&&Cl ops (jL ops.toList [])
structure gg where
 i:Nat
 R:List Nat
 W:List Nat
 lo:Nat
 hi:Nat
 k:Nat
def Ny (lo hi:Nat) (R W:List Nat):Bool:=R.all fun n=> !(Nat.ble lo n&&Nat.blt n hi)&& !W.any (Nat.beq n)
def AQ (ms:List Nat) (x y:gg):Bool:=
 (ms.getD x.i 0).testBit y.i||(ms.getD y.i 0).testBit x.i||(Ny x.lo x.hi y.R x.W&&Ny y.lo y.hi x.R y.W)
def l7 (log:List gg) (x:gg):Bool:=Nat.beq x.k 1&&log.all fun y=>x.R.all fun n=>Nat.blt n y.lo&&(Nat.beq y.k 2|| !y.W.any (Nat.beq n))
def DE (x y:gg):Bool:=Nat.beq x.k 3&&Nat.beq y.k 4
def w7 (ops:Array Oper) (log:List gg):Bool:=log.all fun x=>log.all fun y=>Nat.beq x.i y.i||AQ (jL ops.toList []) x y||l7 log x||l7 log y||DE x y||DE y x
def nL:List Operand->List Nat
 |[]=>[]
 | .tmp t::r=>t::nL r
 |_::r=>nL r
def Jx (F:aW):List Nat->List Nat
 |[]=>[]
 |s::r=>(look F s).names++Jx F r
def F6 (i:Nat) (R W:List Nat) (lo hi k:Nat) (log:List gg):List gg:=bif (R.isEmpty&&W.isEmpty)&&lo==hi then log else ⟨i,R,W,lo,hi,k⟩::log
def iZ (p:Option (Nat × List Nat × List Nat × Nat × Nat)) (hi:Nat) (log:List gg):List gg:=match p with
 |some (i,R,W,lo,k)=>F6 i R W lo hi k log
 |none=>log
def MA (id:Nat):List It->Option (List It)
 | .aT id'::k=>bif id'==id then some k else MA id k
 |_::k=>MA id k
 |[]=>none
def l8 (I:Nat->Prop) (w:World) (X:cq) (ds:List Deferred):Prop:=
 ∃Ds:List Nat,ds=Ds.map (fun D=> {target:= .collected D,args:= #[]})/\Ds.Nodup/\∀D ∈ Ds,X.w0.heap.size<=D/\I D/\w.heap[D]? =some (.deferred (some []))
theorem l8.nil {I:Nat->Prop} {w:World} {X:cq}:l8 I w X []:=⟨[],rfl,List.nodup_nil,fun D h=>by simp at h⟩
theorem l8.mono {I I':Nat->Prop} {w:World} {X:cq} {ds:List Deferred} (h:l8 I w X ds) (hI:∀g,I g->I' g):l8 I' w X ds:=by
 obtain⟨Ds,h1,h2,h3⟩:=h
 exact⟨Ds,h1,h2,fun D hD=>⟨(h3 D hD).1,hI D (h3 D hD).2.1,(h3 D hD).2.2⟩⟩
theorem l8.uO {N:Nat->Prop} {ρ ρ':Place} {L L':aZ} {I I':Nat->Prop} {w w':World} {X:cq} {ds:List Deferred} (h:l8 I w X ds) (E:mI N ρ L I w ρ' L' I' w'):l8 I' w' X ds:=by
 obtain⟨Ds,h1,h2,h3⟩:=h
 exact⟨Ds,h1,h2,fun D hD=>⟨(h3 D hD).1,E.pW D (h3 D hD).2.1,(E.cell D (h3 D hD).2.1).trans (h3 D hD).2.2⟩⟩
structure kr (ρ:Place) (I:Nat->Prop) (w:World) (X:cq) (S:St) (a:Act):Prop where
 rep:∀i,aL ρ (lens (ab S.M)) I w (· <S.nx) (look S.F i) (a.tmps.getD i undef)
 defers:l8 I w X a.defers
 size:a.tmps.size=X.size
def jB (X:cq) (S:St) (a:Act) (w:World):Prop:=∃ρ I,c9 X ρ I (ab S.M) (· <S.nx) w/\kr ρ I w X S a
def Cm (nr:Bool) (todo:List Item):Prop:=todo=[]\/(nr=false/\∃k,todo= .code .ret::k)
def iJ (P:Program) (X:cq) (b:Frame) (R:St->Prop) (ks:List It) (a:Act) (w:World):Prop:=
 ∀cs,∃a' w' S',jB X S' a' w'/\
  ((∃todo,Cm b.roundOf.isSome todo/\Steps P (lone (b.atR a (ks.map It.item)) cs w) (lone (b.atR a' todo) cs w')/\R S')\/
   (∃c post k',(It.eW c post::k') <:+ ks/\Steps P (lone (b.atR a (ks.map It.item)) cs w) (lone (b.atR a' ((It.eW c post::k').map It.item)) cs w')/\post S'))
def DF (size:Nat) (o:Oper):Bool:=match o.dst with|some d=>d<size|none=>true
def codeOk (size:Nat) (nr:Bool):Code->Bool
 | .ret=> !nr
 | .rangeFunc _ ps a c=> !nr&&codeOk size true a&&codeOk size true c&&ps.toList.all fun p=>Nat.blt p size
 | .region _ ops _=>ops.toList.all (DF size)
 | .seq a b=>codeOk size nr a&&codeOk size nr b
 | .cond _ a b=>codeOk size nr a&&codeOk size nr b
 | .block _ c=>codeOk size nr c
 | .loop c=>codeOk size nr c
 | .scope c=>codeOk size nr c
 |_=>true
def DG (size:Nat) (nr:Bool):It->Prop
 | .code c=>codeOk size nr c=true
 | .inl c=>codeOk size nr c=true
 | .eW _ _=>True
 | .aT _=>True
 | .mL _=>True
 | .ops all i rest gd=>rest=all.toList.drop i/\rest.all (DF size)=true/\∀j s,My gd j=some s->(all[j]?).bind (·.dst)=some s
def Sb (P:Program) (X:cq) (b:Frame) (R:St->Prop) (c:Code) (ks:List It) (S:St):Prop:=
 codeOk X.size b.roundOf.isSome c=true->(∀x ∈ ks,DG X.size b.roundOf.isSome x)->∀a w,jB X S a w->iJ P X b R (.code c:: .inl c::ks) a w
end Go.AM
namespace Go.AM
open Go.RowKit
theorem uX (M:Mem) (n:Nat) (b:bg):ab (gJ M n b)=cX (ab M) n b:=by
 funext m; rw[mJ]; rfl
theorem ja (ws:List (Nat × bg)):∀M:Mem,ab (cQ M ws)=dj (ab M) ws:=by
 induction ws with
 |nil=>intro M; rfl
 |cons p r ih=>intro M; simp only[cQ,dj,ih,uX]
def dm (o:Op):List Nat:=nL o.operands.toList
def bS (P:Program) (X:cq) (o:Oper) (a:Act) (M:bv) (N:Nat->Prop) (ρ:Place) (I:Nat->Prop) (w:World) (av:AV) (ws:List (Nat × bg)):Prop:=
 match (execOp a.eval o).run P w with
 | .ok (.value v) w1=>iv X M N ρ I w av ws v w1
 | .ok .skip w1=>iv X M N ρ I w av ws undef w1
 | .ok (.enter f args) w1=>w1=w/\Calls P f args w fun e w2=>∃v,e= .returned v/\iv X M N ρ I w av ws v w2
 |_=>False
def bN (P:Program) (X:cq) (o:Oper) (F:aW) (M:bv) (av:AV) (ws:List (Nat × bg)) (nw:List Nat):Prop:=
 (∀p ∈ ws,p.1 ∈ nw\/∃s ∈ dm o.op,p.1 ∈ (look F s).names)/\
 ∀M' N ρ I a w,c9 X ρ I M' N w->(∀s ∈ dm o.op,aL ρ (lens M') I w N (look F s) (a.tmps.getD s undef))->
  (∀s ∈ dm o.op,∀n ∈ (look F s).names,M' n=M n)->(∀n ∈ nw,¬N n)->bS P X o a M' N ρ I w av ws
def nM (P:Program) (X:cq) (o:Oper) (F:aW) (M:bv) (av:AV):Prop:=
 ∀M' N ρ I a w,c9 X ρ I M' N w->(∀s ∈ dm o.op,aL ρ (lens M') I w N (look F s) (a.tmps.getD s undef))->
  (∀s ∈ dm o.op,∀n ∈ (look F s).names,lens M' n=lens M n)->bS P X o a M' N ρ I w av []
theorem nM.p8 {P:Program} {X:cq} {o:Oper} {F:aW} {M:bv} {av:AV} (h:nM P X o F M av):bN P X o F M av [] []:=
 ⟨fun p hp=>by simp at hp,fun M' N ρ I a w W hr hM _=>h M' N ρ I a w W hr (fun s hs n hn=>by unfold lens; rw[hM s hs n hn])⟩
def oR (P:Program) (X:cq) (o:Oper) (F:aW) (M:bv) (av:AV):Prop:=
 ∀M' N ρ I a w,c9 X ρ I M' N w->(∀s ∈ dm o.op,aL ρ (lens M') I w N (look F s) (a.tmps.getD s undef))->
  (∀s ∈ dm o.op,∀n ∈ (look F s).names,Vw (M' n)=Vw (M n))->bS P X o a M' N ρ I w av []
def qL (P:Program) (X:cq) (o:Oper) (F:aW) (M:bv) (Rx:List Nat) (av:AV) (ws:List (Nat × bg)) (nw:List Nat):Prop:=
 (∀p ∈ ws,p.1 ∈ nw\/(∃s ∈ dm o.op,p.1 ∈ (look F s).names)\/(p.1 ∈ Rx/\M p.1≠none))/\((∀s ∈ dm o.op,∀n ∈ (look F s).names,n ∈ Rx)\/(ws=[]/\∀M' N ρ I a w,c9 X ρ I M' N w->(∀s ∈ dm o.op,aL ρ (lens M') I w N (look F s) (a.tmps.getD s undef))->bS P X o a M' N ρ I w av []))/\
 ∀M' N ρ I a w,c9 X ρ I M' N w->(∀s ∈ dm o.op,aL ρ (lens M') I w N (look F s) (a.tmps.getD s undef))->
  (∀n ∈ Rx,M' n=M n)->(∀n ∈ nw,¬N n)->bS P X o a M' N ρ I w av ws
theorem bN.more {P:Program} {X:cq} {o:Oper} {F:aW} {M:bv} {Rx:List Nat} {av:AV} {ws:List (Nat × bg)} {nw:List Nat} (h:bN P X o F M av ws nw) (hR:∀s ∈ dm o.op,∀n ∈ (look F s).names,n ∈ Rx):qL P X o F M Rx av ws nw:=
 ⟨fun p hp=>(h.1 p hp).imp id .inl,.inl hR,fun M' N ρ I a w W hr hM hN=>h.2 M' N ρ I a w W hr (fun s hs n hn=>hM n (hR s hs n hn)) hN⟩
theorem p9 (N:Nat->Prop):fM N []=N:=by funext m; simp[fM]
theorem iv.value {X:cq} {M:bv} {N:Nat->Prop} {ρ:Place} {I:Nat->Prop} {w:World} {av:AV} {v:Value} (h:c9 X ρ I M N w) (r:aL ρ (lens M) I w N av v):iv X M N ρ I w av [] v w:=
 ⟨ρ,I,mI.refl _ _ _ _ _,by rw[p9]; exact h,by rw[p9]; exact r⟩
theorem iR {x:Nat}:∀ {l:List Operand},Operand.tmp x ∈ l->x ∈ nL l
 | .tmp t::r,h=>by
   simp only[List.mem_cons]at h
   rcases h with h|h
   ·cases h; exact List.mem_cons_self
   ·exact List.mem_cons_of_mem _ (iR (l:=r) h)
 | .const v::r,h=>by simp only[List.mem_cons,reduceCtorEq,false_or]at h; exact iR (l:=r) h
 | .global g::r,h=>by simp only[List.mem_cons,reduceCtorEq,false_or]at h; exact iR (l:=r) h
 | .func f::r,h=>by simp only[List.mem_cons,reduceCtorEq,false_or]at h; exact iR (l:=r) h
theorem sB (ρ:Place) (L:aZ) (I:Nat->Prop) (w:World) (N:Nat->Prop) (v:Value):aL ρ L I w N (uW v) v:=by
 unfold uW
 split
 ·exact .int _ _
 ·exact .bool _
 ·rename_i s; have:s=⟨s.data.toList.toArray⟩:=by cases s; simp
  conv=>rhs; rw[this]
  exact .str _
 ·exact .bP
 ·exact .ai
 ·exact .ap
 ·exact .dY
 ·exact .ce
 ·exact .bad _
theorem gh (ρ:Place) (L:aZ) (I:Nat->Prop) (w:World) (N:Nat->Prop) (v:Value):aL ρ L I w N (Mv v) v:=by
 unfold Mv
 split
 ·rename_i cs
  cases hall:cs.toList.all Value.oneCell'
  ·exact .bad _
  have:=aL.agg (ρ:=ρ) (L:=L) (I:=I) (w:=w) (N:=N) (cs.toList.map uW) cs.toList (by simp) (List.all_eq_true.1 hall) (fun j hj=>by
   have hj':j<cs.toList.length:=by simpa using hj
   simp only[List.getD_eq_getElem?_getD,List.getElem?_map,List.getElem?_eq_getElem hj',Option.map_some,Option.getD_some]
   exact sB _ _ _ _ _ _)
  simpa using this
 ·rename_i cs
  have:=aL.aN (ρ:=ρ) (L:=L) (I:=I) (w:=w) (N:=N) (cs.toList.map uW) cs.toList (by simp) (fun j hj=>by
   have hj':j<cs.toList.length:=by simpa using hj
   simp only[List.getD_eq_getElem?_getD,List.getElem?_map,List.getElem?_eq_getElem hj',Option.map_some,Option.getD_some]
   exact sB _ _ _ _ _ _)
  simpa using this
 ·exact sB _ _ _ _ _ _
theorem oi {ρ:Place} {L:aZ} {I:Nat->Prop} {w:World} {N:Nat->Prop} {F:aW} {a:Act} (x:Operand) (h:∀s,x= .tmp s->aL ρ L I w N (look F s) (a.tmps.getD s undef)):aL ρ L I w N (ev F x) (a.eval x):=by
 cases x with
 |tmp t=>exact h t rfl
 |const v=>exact gh _ _ _ _ _ v
 |global g=>exact .bad _
 |func f=>exact .bR f [] [] rfl (fun j hj=>by simp at hj)
theorem aq {ρ:Place} {L:aZ} {I:Nat->Prop} {w:World} {N:Nat->Prop} {F:aW} {a:Act} {o:Op} (h:∀s ∈ dm o,aL ρ L I w N (look F s) (a.tmps.getD s undef)) (x:Operand) (hx:x ∈ o.operands.toList):aL ρ L I w N (ev F x) (a.eval x):=
 oi x fun s e=>h s (iR (e ▸ hx))
theorem sC (v:Value):(uW v).names=[]:=by unfold uW; split<;>rfl
theorem iw:∀l:List Value,AV.az (l.map uW)=[]
 |[]=>rfl
 |v::r=>by simp[AV.az,sC,iw r]
theorem DH (v:Value):(Mv v).names=[]:=by
 unfold Mv
 split
 ·rename_i cs
  cases cs.toList.all Value.oneCell'
  ·rfl
  ·simp[AV.names,iw]
 ·simp[AV.names,iw]
 ·exact sC _
theorem bj {F:aW} {o:Op} (x:Operand) (hx:x ∈ o.operands.toList) {n:Nat} (hn:n ∈ (ev F x).names):∃s ∈ dm o,n ∈ (look F s).names:=by
 cases x with
 |tmp t=>exact⟨t,iR hx,hn⟩
 |const v=>simp[ev,DH]at hn
 |global g=>simp[ev,AV.names]at hn
 |func f=>simp[ev,AV.names,AV.az]at hn
def TD.fits:TD->TypeDesc->Prop
 | .int k,.int k'=>k=k'
 | .bool,.bool=>True
 | .str,.string=>True
 | .ptr e,.pointer e'=>e=e'
 | .slice e,.slice e'=>e=e'
 | .arr n e,.array n' e'=>n=n'/\e=e'
 | .struct fs,.struct gs=>fs=gs.toList.map fun f=>(f.offset,f.type)
 | .func,.func .. =>True
 | .iface,.interface _=>True
 | .map k e,.map k' e'=>k=k'/\e=e'
 | .aN,.tuple _=>True
 |_,_=>False
def dp (P:Program) (T:TT):Prop:=∀t,T.d t≠ .other->∃D i z,P.underlying t=some D/\(T.d t).fits D/\P.info? t=some i/\i.size=T.s t/\i.bytes<=131072/\i.zero=some z/\T.z t=Mv z
theorem eX {v:Value} (h:v.oneCell'=true):v.cells= #[v]:=by
 cases v<;>simp_all[Value.oneCell',Value.cells]
theorem p' {ρ:Place} {L:aZ} {I:Nat->Prop} {w:World} {N:Nat->Prop} {a:AV} {v:Value} (h:aL ρ L I w N a v) (hs:bQ a=true):
  v.cells.toList.length=(cells a).length/\(∀u ∈ v.cells.toList,u.oneCell'=true)/\∀j,j< (cells a).length->aL ρ L I w N ((cells a).getD j .bad) (v.cells.toList.getD j default):=by
 have one:∀a v,aL ρ L I w N a v->v.oneCell'=true->cells a=[a]->v.cells.toList.length=(cells a).length/\(∀u ∈ v.cells.toList,u.oneCell'=true)/\∀j,j< (cells a).length->aL ρ L I w N ((cells a).getD j .bad) (v.cells.toList.getD j default):=by
  intro a v hr h1 hc
  rw[eX h1,hc]
  refine⟨rfl,by simpa using h1,fun j hj=> ?_⟩
  have:j=0:=by simp at hj; omega
  subst this
  simpa using hr
 have h':=h
 cases h with
 |agg cs vs hl h1 hr=>exact⟨by simpa[Value.cells,cells]using hl,by simpa[Value.cells]using h1,by simpa[Value.cells,cells]using hr⟩
 |bad=>simp[bQ]at hs
 |aN=>simp[bQ]at hs
 |loc n len i off _ hn h1 h=>exact one _ _ h' h1 rfl
 |bc n len _ hn h1 h=>exact one _ _ h' h1 rfl
 |ee n len i off bX _ hn h1 h=>exact one _ _ h' h1 rfl
 |omap n _ hn h1 h=>exact one _ _ h' h1 rfl
 |_=>exact one _ _ h' rfl rfl
theorem nN {P:Program} {w:World} {t:TypeId} {i:TypeInfo} (h:P.info? t=some i):(typeInfo t).run P w= .ok i w:=by simp[typeInfo,h]
theorem bE {P:Program} {w:World} {t:TypeId} {i:TypeInfo} (h:P.info? t=some i):(sizeOf t).run P w= .ok i.size w:=by simp[sizeOf,nN h]
theorem gi {P:Program} {w:World} {t:TypeId} {i:TypeInfo} {z:Value} (h:P.info? t=some i) (hz:i.zero=some z):(zeroValue t).run P w= .ok z w:=by simp[zeroValue,nN h,hz]
theorem oj {P:Program} {w:World} {t:TypeId} {D:TypeDesc} {d:TD} (h:P.underlying t=some D) (hf:d.fits D):(isAgg t).run P w= .ok d.ag w:=by
 unfold isAgg
 simp only[Sem.run_bind,run_underlying h,Result.andThen_ok]
 cases d<;>cases D<;>simp_all[TD.fits,TD.ag]
end Go.AM
namespace Go.AM
open Go.RowKit
variable {P:Program} {T:TT} {X:cq} {o:Oper} {F:aW} {M:bv}
theorem aF {av:AV} (h:∀M' N ρ I (a:Act) w,c9 X ρ I M' N w->(∀s ∈ dm o.op,aL ρ (lens M') I w N (look F s) (a.tmps.getD s undef))->(∀s ∈ dm o.op,∀n ∈ (look F s).names,M' n=M n)->
  ∃v,(execOp a.eval o).run P w= .ok (.value v) w/\aL ρ (lens M') I w N av v):bN P X o F M av [] []:=by
 refine⟨fun p hp=>by simp at hp,fun M' N ρ I a w hW hU hN _=> ?_⟩
 obtain⟨v,hv,hr⟩:=h M' N ρ I a w hW hU hN
 unfold bS
 rw[hv]
 exact iv.value hW hr
theorem fN {av:AV} (h:∀M' N ρ I (a:Act) w,c9 X ρ I M' N w->(∀s ∈ dm o.op,aL ρ (lens M') I w N (look F s) (a.tmps.getD s undef))->(∀s ∈ dm o.op,∀n ∈ (look F s).names,lens M' n=lens M n)->
  ∃v,(execOp a.eval o).run P w= .ok (.value v) w/\aL ρ (lens M') I w N av v):nM P X o F M av:=by
 refine fun M' N ρ I a w hW hU hN=> ?_
 obtain⟨v,hv,hr⟩:=h M' N ρ I a w hW hU hN
 unfold bS
 rw[hv]
 exact iv.value hW hr
theorem vx {x:Operand} (ho:o.op= .move x\/ o.op= .assign x):bN P X o F M (ev F x) [] []:=by
 refine aF fun M' N ρ I a w hW hU hN=>⟨a.eval x,?_,aq hU x ?_⟩
 ·rcases ho with ho|ho<;>simp[execOp,ho]
 ·rcases ho with ho|ho<;>simp[ho,Op.operands]
theorem AR {x:Operand} (ho:o.op= .move x\/ o.op= .assign x):qL P X o F M [] (ev F x) [] []:=by
 have free:∀M' N ρ I a w,c9 X ρ I M' N w->(∀s ∈ dm o.op,aL ρ (lens M') I w N (look F s) (a.tmps.getD s undef))->bS P X o a M' N ρ I w (ev F x) []:=by
  intro M' N ρ I a w hW hU
  have e:(execOp a.eval o).run P w= .ok (.value (a.eval x)) w:=by rcases ho with ho|ho<;>simp[execOp,ho]
  unfold bS
  rw[e]
  exact iv.value hW (aq hU x (by rcases ho with ho|ho<;>simp[ho,Op.operands]))
 exact⟨fun p hp=>by simp at hp,.inr ⟨rfl,free⟩,fun M' N ρ I a w hW hU _ _=>free M' N ρ I a w hW hU⟩
theorem DI {c x y:Operand} {t:Bool} (ho:o.op= .pick c x y) (hc:ev F c= .bool t):bN P X o F M (ev F (if t then x else y)) [] []:=by
 refine aF fun M' N ρ I a w hW hU hN=>⟨a.eval (if t then x else y),?_,aq hU _ ?_⟩
 ·have hr:=aq hU c (by simp[ho,Op.operands])
  rw[hc]at hr
  generalize Yf:a.eval c=cv at hr
  cases hr
  cases t<;>simp[execOp,ho,Yf,asBool]
 ·cases t<;>simp[ho,Op.operands]
theorem jM {M':bv} {n:Nat} {b:bg} (hm:M n=some b) (h:lens M' n=lens M n):lens M' n=some (b.ln,b.sz):=by
 rw[h,aA]; exact⟨b,hm,rfl,rfl⟩
theorem gj {ρ:Place} {L:aZ} {I:Nat->Prop} {w:World} {N:Nat->Prop} {n len i off sz:Nat} {v:Value} (h:aL ρ L I w N (.loc n len i off) v) (hl:L n=some (len,sz)):
  N n/\∃g cap,ρ n=some (g,cap)/\v= .pointer (some ⟨g,i*sz+off,none⟩):=by
 cases h with
 |loc _ _ _ _ _ hn h1 h=>exact⟨hn,(h len sz hl).2 rfl⟩
theorem gK {ρ:Place} {L:aZ} {I:Nat->Prop} {w:World} {N:Nat->Prop} {n len i off sz g cap:Nat} (hn:N n) (hl:L n=some (len,sz)) (hρ:ρ n=some (g,cap)):
  aL ρ L I w N (.loc n len i off) (.pointer (some ⟨g,i*sz+off,none⟩)):=
 .loc n len i off _ hn rfl fun l AS h=>by
   rw[hl]at h
   simp only[Option.some.injEq,Prod.mk.injEq]at h
   obtain⟨rfl,rfl⟩:=h
   exact⟨Nat.le_refl _,fun _=>⟨g,cap,hρ,rfl⟩⟩
theorem cg (g o n:Nat):(⟨g,o,none⟩:Addr).add n=⟨g,o+n,none⟩:=by
 unfold Addr.add; split<;>simp_all
theorem l9 {s f:Nat} {x:Operand} {av:AV} {fs:List (Nat × Nat)} {off ft:Nat} (hT:dp P T) (ho:o.op= .fieldAddr s x f) (hs:T.d s= .struct fs) (hf:fs[f]? =some (off,ft)) (hz:(T.s ft==0)=false) (hft:T.d ft≠ .other)
  (h:(∃n len i o' b,ev F x= .loc n len i o'/\M n=some b/\b.ln=len/\av= .loc n len i (o'+off))\/(∃e o',ev F x= .bh e o'/\av= .bh e (o'+off))):nM P X o F M av:=by
 refine fN fun M' N ρ I a w hW hU hN=> ?_
 have hx:x ∈ o.op.operands.toList:=by simp[ho,Op.operands]
 have hr:=aq hU x hx
 obtain⟨D,i,z,hD,hfit,hi,hsz,_,_⟩:=hT s (by rw[hs]; simp)
 rw[hs]at hfit
 cases D<;>simp only[TD.fits]at hfit
 rename_i gs
 obtain⟨_,it,_,_,_,hit,fD,_,_⟩:=hT ft hft
 have hg:∃Nz,gs[f]? =some Nz/\Nz.offset=off/\Nz.type=ft:=by
  rw[hfit,List.getElem?_map]at hf
  cases Za:gs.toList[f]? with
  |none=>simp[Za]at hf
  |some Nz=>
   simp only[Za,Option.map_some,Option.some.injEq,Prod.mk.injEq]at hf
   exact⟨Nz,by simpa using Za,hf.1,hf.2⟩
 obtain⟨Nz,Zb,rfl,rfl⟩:=hg
 have hne:it.size≠0:=by rw[fD]; simpa using hz
 have run:∀g q,a.eval x= .pointer (some ⟨g,q,none⟩)->(execOp a.eval o).run P w= .ok (.value (.pointer (some ⟨g,q+Nz.offset,none⟩))) w:=by
  intro g q hq
  simp only[execOp,ho,Instr.fieldAt,Sem.run_bind,run_underlying hD,Result.andThen_ok,Zb,hq,Instr.sureAddr,Sem.run_pure,fieldPlace,bE hit,if_neg hne,cg]
 rcases h with⟨n,len,i',o',b,he,hb,hl,rfl⟩|⟨e,o',he,rfl⟩
 ·rw[he]at hr
  obtain⟨sl,eQ,eY⟩:=bj (F:=F) x hx (n:=n) (by rw[he]; simp[AV.names])
  have dV:=jM hb (hN sl eQ n eY)
  rw[hl]at dV
  obtain⟨hn,g,cap,hρ,hv⟩:=gj hr dV
  refine⟨_,run g _ hv,?_⟩
  rw[Nat.add_assoc]
  exact gK hn dV hρ
 ·rw[he]at hr
  generalize uY:a.eval x=v at hr
  cases hr with
  |bh _ _ b' o'' c hI h1 hcell hr=>
   refine⟨_,run b' _ uY,?_⟩
   rw[Nat.add_assoc]
   exact .bh e _ b' o'' c hI h1 hcell hr
theorem sD {s f:Nat} {x:Operand} {av:AV} {fs:List (Nat × Nat)} {off ft:Nat} (hT:dp P T) (ho:o.op= .fieldAddr s x f) (hs:T.d s= .struct fs) (hf:fs[f]? =some (off,ft)) (hz:(T.s ft==0)=false) (hft:T.d ft≠ .other)
 (h:(∃n len i o' b,ev F x= .loc n len i o'/\M n=some b/\b.ln=len/\av= .loc n len i (o'+off))\/(∃e o',ev F x= .bh e o'/\av= .bh e (o'+off))):bN P X o F M av [] []:=(l9 hT ho hs hf hz hft h).p8
theorem run_indexAt_slice {t e:TypeId} {it:TypeInfo} {w:World} (hD:P.underlying t=some (.slice e)) (hi:P.info? e=some it) (g q len cap:Nat) (k:IntKind) (i:Int) (h:0<=i/\i< (len:Int)):
  (Instr.indexAt t (.slice (some ⟨g,q,none⟩) len cap) (.int k i)).run P w= .ok (.pointer (some ⟨g,q+i.toNat*it.size,none⟩)) w:=by
 simp only[Instr.indexAt,asIntOf,Sem.run_bind,Sem.run_pure,Result.andThen_ok,run_underlying hD,if_pos h,bE hi,cg]
theorem lN {t e n:Nat} {it:TypeInfo} {w:World} (hD:P.underlying t=some (.array n e)) (hi:P.info? e=some it) (g q:Nat) (k:IntKind) (i:Int) (h:0<=i/\i< (n:Int)):
  (Instr.indexAt t (.pointer (some ⟨g,q,none⟩)) (.int k i)).run P w= .ok (.pointer (some ⟨g,q+i.toNat*it.size,none⟩)) w:=by
 simp only[Instr.indexAt,asIntOf,Sem.run_bind,Sem.run_pure,Result.andThen_ok,run_underlying hD,if_pos h,bE hi,cg,Instr.sureAddr]
theorem bV {d:TD} {D:TypeDesc} {e:Nat} (hd:d= .slice e) (h:d.fits D):D= .slice e:=by
 subst hd; cases D<;>simp_all[TD.fits]
theorem gk {d:TD} {D:TypeDesc} {n e:Nat} (hd:d= .arr n e) (h:d.fits D):D= .array n e:=by
 subst hd; cases D<;>simp_all[TD.fits]
theorem jN {d:TD} {D:TypeDesc} {fs:List (Nat × Nat)} (hd:d= .struct fs) (h:d.fits D):∃gs,D= .struct gs/\fs=gs.toList.map fun f=>(f.offset,f.type):=by
 subst hd; cases D<;>simp_all[TD.fits]
theorem fits_int {d:TD} {D:TypeDesc} {k:IntKind} (hd:d= .int k) (h:d.fits D):D= .int k:=by
 subst hd; cases D<;>simp_all[TD.fits]
theorem gl {d:TD} {D:TypeDesc} (hd:d= .str) (h:d.fits D):D= .string:=by
 subst hd; cases D<;>simp_all[TD.fits]
theorem TD.dT {d:TD} (h:d.ok=true):d≠ .other:=by rintro rfl; simp[TD.ok]at h
theorem bG {ρ:Place} {L:aZ} {I:Nat->Prop} {w:World} {N:Nat->Prop} {k:IntKind} {n:Int} {v:Value} (h:aL ρ L I w N (.int k n) v):v= .int k n:=by cases h; rfl
theorem gn {ρ:Place} {L:aZ} {I:Nat->Prop} {w:World} {N:Nat->Prop} {b:Bool} {v:Value} (h:aL ρ L I w N (.bool b) v):v= .bool b:=by cases h; rfl
theorem gW {ρ:Place} {L:aZ} {I:Nat->Prop} {w:World} {N:Nat->Prop} {s:List UInt8} {v:Value} (h:aL ρ L I w N (.str s) v):v= .string ⟨s.toArray⟩:=by cases h; rfl
theorem jO {ρ:Place} {L:aZ} {I:Nat->Prop} {w:World} {N:Nat->Prop} {n len sz:Nat} {v:Value} (h:aL ρ L I w N (.bc n len) v) (hl:L n=some (len,sz)):
  N n/\((ρ n=none/\∃q,v= .slice q 0 0)\/∃g cap,ρ n=some (g,cap)/\v= .slice (some ⟨g,0,none⟩) len cap):=by
 cases h with
 |bc _ _ _ hn h1 h=>exact⟨hn,(h len sz hl).2 rfl⟩
theorem kY {ρ:Place} {L:aZ} {I:Nat->Prop} {w:World} {N:Nat->Prop} {n len sz g cap:Nat} (hn:N n) (hl:L n=some (len,sz)) (hρ:ρ n=some (g,cap)):
  aL ρ L I w N (.bc n len) (.slice (some ⟨g,0,none⟩) len cap):=
 .bc n len _ hn rfl fun l AS h=>by
   rw[hl]at h
   simp only[Option.some.injEq,Prod.mk.injEq]at h
   obtain⟨rfl,rfl⟩:=h
   exact⟨Nat.le_refl _,fun _=> .inr ⟨g,cap,hρ,rfl⟩⟩
theorem mM {ρ:Place} {L:aZ} {I:Nat->Prop} {w:World} {N:Nat->Prop} {n len i off bX sz:Nat} {v:Value} (h:aL ρ L I w N (.ee n len i off bX) v) (hl:L n=some (len,sz)):
  N n/\∃g cap c,ρ n=some (g,cap)/\v= .slice (some ⟨g,i*sz+off,none⟩) bX c/\bX<=c/\c<=maxLen:=by
 cases h with
 |ee _ _ _ _ _ _ hn h1 h=>exact⟨hn,(h len sz hl).2 rfl⟩
theorem ma (hT:dp P T) {t:Nat} {x ix:Operand} {K:AV->Prop} {Ml:Mem} (hM:M=ab Ml) (hok:∀e,T.d t= .slice e->(T.d e).ok=true) (NA:∀m e,T.d t= .arr m e->(T.d e).ok=true)
  (ho:o.op= .indexAddr t x ix) (h:AO T t (ev F x) (ev F ix) Ml K):∃av,nM P X o F M av/\K av:=by
 have hx:x ∈ o.op.operands.toList:=by simp[ho,Op.operands]
 have Sd:ix ∈ o.op.operands.toList:=by simp[ho,Op.operands]
 have nm:∀n,n ∈ (ev F x).names->∀ (M':bv),(∀s ∈ dm o.op,∀n ∈ (look F s).names,lens M' n=lens M n)->lens M' n=lens M n:=by
  intro n hn M' hN
  obtain⟨sl,eQ,eY⟩:=bj (F:=F) x hx hn
  exact hN sl eQ n eY
 cases qM:ev F ix with
 |int k i=>
  rw[qM]at h
  simp only[AO]at h
  cases ht:T.d t with
  |slice e=>
   rw[ht]at h
   obtain⟨D,it0,z0,hD,hf,_⟩:=hT t (by rw[ht]; simp)
   have im:=bV ht hf
   subst im
   obtain⟨_,it,_,_,_,hit,fD,_⟩:=hT e (TD.dT (hok e ht))
   cases bY:ev F x with
   |aH sz es=>
    rw[bY]at h
    simp only at h
    obtain⟨hc,hr,hk⟩:=ax h
    refine⟨_,fN fun M' N ρ I a w hW hU hN=> ?_,hk⟩
    have r1:=aq hU x hx
    have r2:=bG (qM ▸ aq hU ix Sd)
    rw[bY]at r1
    generalize hv:a.eval x=v at r1
    cases r1 with
    |cP=>simp at hr; omega
    |aH _ _ b q cap c hl nO hI hs h1 hcell Zc=>
     have hi:i.toNat<es.length:=by omega
     refine⟨_,by simp only[execOp,ho,r2,hv,Sem.run_bind,run_indexAt_slice hD hit _ _ _ _ _ _ hr,Result.andThen_ok,Sem.run_pure]; rfl,?_⟩
     have hsz:sz=it.size:=by rw[fD]; simpa using hc
     have hel:(es.getD i.toNat []).length=sz:=by
      rw[List.getD_eq_getElem?_getD,List.getElem?_eq_getElem hi,Option.getD_some]
      exact hs _ (List.getElem_mem _)
     have:=aL.bh (ρ:=ρ) (L:=lens M') (I:=I) (w:=w) (N:=N) (es.getD i.toNat []) 0 b (q+i.toNat*sz) (c i.toNat) hI (fun j hj=>h1 _ _ hi (by omega)) (fun j hj=>hcell _ _ hi (by omega)) (fun j hj=>Zc _ _ hi (by omega))
     rw[<-hsz]
     exact this
   |bc n len=>
    rw[bY]at h
    simp only[alive]at h
    cases hb:ab Ml n with
    |none=>rw[hb]at h; exact h.elim
    |some b=>
     rw[hb]at h
     obtain⟨hc1,hmp,h⟩:=ax h
     obtain⟨kn,hr,hk⟩:=ax h
     have hl:b.ln=len:=by simpa using hc1
     have hsz:b.sz=it.size:=by rw[fD]; simpa using kn
     refine⟨_,fN fun M' N ρ I a w hW hU hN=> ?_,hk⟩
     have r1:=aq hU x hx
     have r2:=bG (qM ▸ aq hU ix Sd)
     rw[bY]at r1
     have dV:=jM (M':=M') (n:=n) (b:=b) (M:=M) (by rw[hM]; exact hb) (nm n (by rw[bY]; simp[AV.names]) M' hN)
     rw[hl]at dV
     obtain⟨hn,h2⟩:=jO r1 dV
     rcases h2 with⟨h0,hv⟩|⟨g,cap,hρ,hv⟩
     ·obtain⟨b',hb',ol,_⟩:=aA.1 dV
      have:=(hW.aT n b' hb').eD h0
      rw[bg.FZ this]at ol
      omega
     ·refine⟨_,by simp only[execOp,ho,r2,hv,Sem.run_bind,run_indexAt_slice hD hit _ _ _ _ _ _ hr,Result.andThen_ok,Sem.run_pure]; rfl,?_⟩
      have:=gK (I:=I) (w:=w) (i:=i.toNat) (off:=0) hn dV hρ
      rw[<-hsz,Nat.zero_add]
      simpa using this
   |ee n len j off bX=>
    rw[bY]at h
    simp only[alive]at h
    cases hb:ab Ml n with
    |none=>rw[hb]at h; exact h.elim
    |some b=>
     rw[hb]at h
     obtain⟨hc1,hmp,hr,hk⟩:=ax h
     have hl:b.ln=len:=by simpa using hc1
     refine⟨_,fN fun M' N ρ I a w hW hU hN=> ?_,hk⟩
     have r1:=aq hU x hx
     have r2:=bG (qM ▸ aq hU ix Sd)
     rw[bY]at r1
     have dV:=jM (M':=M') (n:=n) (b:=b) (M:=M) (by rw[hM]; exact hb) (nm n (by rw[bY]; simp[AV.names]) M' hN)
     rw[hl]at dV
     obtain⟨hn,g,cap,c,hρ,hv,_⟩:=mM r1 dV
     refine⟨_,by simp only[execOp,ho,r2,hv,Sem.run_bind,run_indexAt_slice hD hit _ _ _ _ _ _ hr,Result.andThen_ok,Sem.run_pure]; rfl,?_⟩
     rw[Nat.add_assoc,fD]
     exact gK hn dV hρ
   |_=>rw[bY]at h; exact h.elim
  |arr m e=>
   rw[ht]at h
   obtain⟨D,it0,z0,hD,hf,_⟩:=hT t (by rw[ht]; simp)
   have im:=gk ht hf
   subst im
   obtain⟨_,it,_,_,_,hit,fD,_⟩:=hT e (TD.dT (NA m e ht))
   cases bY:ev F x with
   |loc n len j off=>
    rw[bY]at h
    simp only[alive]at h
    cases hb:ab Ml n with
    |none=>rw[hb]at h; exact h.elim
    |some b=>
     rw[hb]at h
     obtain⟨hc1,hmp,hr,hk⟩:=ax h
     have hl:b.ln=len:=by simpa using hc1
     refine⟨_,fN fun M' N ρ I a w hW hU hN=> ?_,hk⟩
     have r1:=aq hU x hx
     have r2:=bG (qM ▸ aq hU ix Sd)
     rw[bY]at r1
     have dV:=jM (M':=M') (n:=n) (b:=b) (M:=M) (by rw[hM]; exact hb) (nm n (by rw[bY]; simp[AV.names]) M' hN)
     rw[hl]at dV
     obtain⟨hn,g,cap,hρ,hv⟩:=gj r1 dV
     refine⟨_,by simp only[execOp,ho,r2,hv,Sem.run_bind,lN hD hit _ _ _ _ hr,Result.andThen_ok,Sem.run_pure]; rfl,?_⟩
     rw[Nat.add_assoc,fD]
     exact gK hn dV hρ
   |bh c off=>
    rw[bY]at h
    obtain⟨hr,hk⟩:=h
    refine⟨_,fN fun M' N ρ I a w hW hU hN=> ?_,hk⟩
    have r1:=aq hU x hx
    have r2:=bG (qM ▸ aq hU ix Sd)
    rw[bY]at r1
    generalize hv:a.eval x=v at r1
    cases r1 with
    |bh _ _ b q cc hI h1 hcell Zc=>
     refine⟨_,by simp only[execOp,ho,r2,hv,Sem.run_bind,lN hD hit _ _ _ _ hr,Result.andThen_ok,Sem.run_pure]; rfl,?_⟩
     rw[Nat.add_assoc,fD]
     exact .bh c _ b q cc hI h1 hcell Zc
   |_=>rw[bY]at h; exact h.elim
  |_=>rw[ht]at h; exact h.elim
 |_=>rw[qM]at h; exact h.elim
theorem sE (hT:dp P T) {t:Nat} {x ix:Operand} {K:AV->Prop} {Ml:Mem} (hM:M=ab Ml) (hok:∀e,T.d t= .slice e->(T.d e).ok=true) (NA:∀m e,T.d t= .arr m e->(T.d e).ok=true)
  (ho:o.op= .indexAddr t x ix) (h:AO T t (ev F x) (ev F ix) Ml K):∃av,bN P X o F M av [] []/\K av:=by
 obtain⟨av,h1,h2⟩:=ma hT hM hok NA ho h
 exact⟨av,h1.p8,h2⟩
end Go.AM
namespace Go.AM
open Go.RowKit
variable {P:Program} {T:TT} {X:cq} {o:Oper} {F:aW} {M:bv}
theorem gX (g:Nat) (t:TypeId) (fr:Nat × Nat):∀ (vs:List Value) (q:Nat) (w:World) (cs:Array Value),w.heap[g]? =some (.cells cs t fr)->q+vs.length<=cs.size->
  ∃cs',(w.setCells g q vs).heap[g]? =some (.cells cs' t fr)/\cs'.size=cs.size/\∀k,cs'[k]? =if q<=k/\k<q+vs.length then vs[k - q]? else cs[k]?
 |[],q,w,cs,hg,_=>⟨cs,hg,rfl,fun k=>by rw[if_neg (fun h=>by have:=h.1; have:=h.2; simp at this; omega)]⟩
 |v::r,q,w,cs,hg,hq=>by
  have hg1:(w.setCell ⟨g,q,none⟩ v).heap[g]? =some (.cells (cs.setIfInBounds q v) t fr):=by
   simp[World.setCell,Array.getElem?_modify,hg]
  obtain⟨cs',h1,h2,h3⟩:=gX g t fr r (q+1) (w.setCell ⟨g,q,none⟩ v) (cs.setIfInBounds q v) hg1 (by simp at hq ⊢; omega)
  refine⟨cs',h1,by simpa using h2,fun k=> ?_⟩
  rw[h3 k]
  simp only[List.length_cons]at hq ⊢
  by_cases hk:k=q
  ·subst hk
   rw[if_neg (by omega),if_pos (by omega)]
   simp[Array.getElem?_setIfInBounds]; omega
  ·by_cases hk2:q+1<=k/\k<q+1+r.length
   ·rw[if_pos hk2,if_pos (by omega)]
    have:k - q=(k - (q+1))+1:=by omega
    rw[this]; simp
   ·rw[if_neg hk2,if_neg (by omega)]
    simp[Array.getElem?_setIfInBounds]
    intro e; omega
theorem eG (g:Nat):∀ (vs:List Value) (q:Nat) (w:World) (k:Nat),k≠g->(w.setCells g q vs).heap[k]? =w.heap[k]?
 |[],_,_,_,_=>rfl
 |v::r,q,w,k,hk=>by
  have:=eG g r (q+1) (w.setCell ⟨g,q,none⟩ v) k hk
  refine this.trans ?_
  exact Below.heap_setCell w _ v k hk
theorem size_setCells (g:Nat):∀ (vs:List Value) (q:Nat) (w:World),(w.setCells g q vs).heap.size=w.heap.size
 |[],_,_=>rfl
 |v::r,q,w=>by
  have:=size_setCells g r (q+1) (w.setCell ⟨g,q,none⟩ v)
  exact this.trans (by simp)
theorem gY (g:Nat):∀ (vs:List Value) (q:Nat) (w:World),(w.setCells g q vs).tape=w.tape
 |[],_,_=>rfl
 |v::r,q,w=>gY g r (q+1) (w.setCell ⟨g,q,none⟩ v)
theorem os_setCells (g:Nat):∀ (vs:List Value) (q:Nat) (w:World),(w.setCells g q vs).os=w.os
 |[],_,_=>rfl
 |v::r,q,w=>os_setCells g r (q+1) (w.setCell ⟨g,q,none⟩ v)
theorem iK (g:Nat):∀ (vs:List Value) (q:Nat) (w:World),(w.setCells g q vs).output=w.output
 |[],_,_=>rfl
 |v::r,q,w=>iK g r (q+1) (w.setCell ⟨g,q,none⟩ v)
theorem db {α:Type} (l:List α) (off n j:Nat) (d:α) (h:j<n):((l.drop off).take n).getD j d=l.getD (off+j) d:=by
 simp[List.getD_eq_getElem?_getD,List.getElem?_take,h]
theorem eH {t:Nat} (hT:dp P T) (hok:(T.d t).ok=true) {ρ:Place} {L:aZ} {I:Nat->Prop} {w:World} {N:Nat->Prop} {g q off:Nat} {cs:List AV} {K:AV->Prop} (f:Nat->Value)
  (hc:∀j,j<cs.length->w.cell? ⟨g,q+j,none⟩=some (f j)/\(f j).oneCell'=true/\aL ρ L I w N (cs.getD j .bad) (f j))
  {av:AV} (hlen:((cs.drop off).take (T.s t)).length=T.s t) (uR:av=if (T.d t).ag then .agg ((cs.drop off).take (T.s t))else ((cs.drop off).take (T.s t)).headD .bad) (h1:(T.d t).ag=false->T.s t=1):
  ∃v,(loadVar t ⟨g,q+off,none⟩).run P w= .ok v w/\aL ρ L I w N av v:=by
 obtain⟨D,it,z,hD,hf,hi,hs,_⟩:=hT t (TD.dT hok)
 have hle:off+T.s t<=cs.length\/ T.s t=0:=by
  simp only[List.length_take,List.length_drop]at hlen
  omega
 unfold loadVar
 simp only[Sem.run_bind,oj hD hf,Result.andThen_ok]
 cases jG:(T.d t).ag with
 |true=>
  simp only[if_pos,bE hi,Result.andThen_ok,Sem.run_bind]
  rw[hs]
  have hcell:∀j,j<T.s t->w.cell? ((⟨g,q+off,none⟩:Addr).add j)=some (f (off+j)):=fun j hj=>by
   rw[cg,Nat.add_assoc]
   exact (hc (off+j) (by omega)).1
  rw[run_loadCells w _ (T.s t) (fun j=>f (off+j)) hcell]
  refine⟨_,rfl,?_⟩
  rw[uR,jG,if_pos rfl]
  refine .agg _ ((List.range (T.s t)).map fun j=>f (off+j)) (by simp; simp at hlen; omega) (fun u hu=> ?_) (fun j hj=> ?_)
  ·obtain⟨j,hj,rfl⟩:=List.mem_map.1 hu
   exact (hc (off+j) (by simp at hj; omega)).2.1
  ·rw[hlen]at hj
   rw[db _ _ _ _ _ hj]
   have:((List.range (T.s t)).map fun j=>f (off+j)).getD j default=f (off+j):=by simp[List.getD_eq_getElem?_getD,hj]
   rw[this]
   exact (hc (off+j) (by omega)).2.2
 |false=>
  have Se:=h1 jG
  have h2:=(hc off (by omega))
  simp only[Bool.false_eq_true,if_false,run_load,h2.1]
  refine⟨_,rfl,?_⟩
  rw[uR,jG,Se]
  have:((cs.drop off).take 1).headD .bad=cs.getD off .bad:=by
   have hlt:off<cs.length:=by omega
   rw[List.drop_eq_getElem_cons hlt,List.take_succ_cons]
   simp[List.getD_eq_getElem?_getD,hlt]
  simp only[Bool.false_eq_true,if_false,this]
  exact h2.2.2
theorem fE {ag:Bool} {n off:Nat} {cs:List AV} {K:AV->Prop} (h:apart ag n off cs K):
  ∃av,((cs.drop off).take n).length=n/\(av=if ag then .agg ((cs.drop off).take n)else ((cs.drop off).take n).headD .bad)/\(ag=false->n=1)/\K av:=by
 unfold apart at h
 obtain⟨h1,h2⟩:=ax h
 cases ag with
 |true=>exact⟨_,by simpa using h1,rfl,by simp,h2⟩
 |false=>
  obtain⟨h3,h4⟩:=ax h2
  exact⟨_,by simpa using h1,rfl,fun _=>by simpa using h3,h4⟩
theorem sr.row {C:cq} {ρ:Place} {L:aZ} {I:Nat->Prop} {w:World} {N:Nat->Prop} {n:Nat} {b:bg} (B:sr C ρ L I w N n b) (hmp:b.mp=none) {g cap:Nat} (hρ:ρ n=some (g,cap)) (i:Nat):
  ∃f:Nat->Value,∀j,j< (b.es.getD i []).length->w.cell? ⟨g,i*b.sz+j,none⟩=some (f j)/\(f j).oneCell'=true/\aL ρ L I w N ((b.es.getD i []).getD j .bad) (f j):=by
 obtain⟨cs,fr,hg,_,_,_,_,_,_,hc⟩:=B.real g cap hρ
 refine⟨fun j=>(cs[i*b.sz+j]?).getD undef,fun j hj=> ?_⟩
 have hi:i<b.es.length:=by
  rcases Nat.lt_or_ge i b.es.length with h|h
  ·exact h
  ·rw[List.getD_eq_getElem?_getD,List.getElem?_eq_none h]at hj; simp at hj
 have hsz:(b.es.getD i []).length=b.sz:=by
  rw[List.getD_eq_getElem?_getD,List.getElem?_eq_getElem hi,Option.getD_some]
  exact B.even _ (List.getElem_mem _)
 obtain⟨u,hu,h1,hr⟩:=hc i j hi (by omega)
 have e:(cs[i*b.sz+j]?).getD undef=u:=by rw[hu]; rfl
 refine⟨?_,?_,?_⟩
 ·rw[w9 w g _ cs b.ty fr (hg.cells hmp)]; show _=some ((cs[i*b.sz+j]?).getD undef); rw[e,hu]
 ·show ((cs[i*b.sz+j]?).getD undef).oneCell'=true; rw[e]; exact h1
 ·show aL _ _ _ _ _ _ ((cs[i*b.sz+j]?).getD undef); rw[e]; exact hr
where w9 (w:World) (g j:Nat) (cs:Array Value) (t:TypeId) (fr:Nat × Nat) (hg:w.heap[g]? =some (.cells cs t fr)):w.cell? ⟨g,j,none⟩=cs[j]? :=by simp[World.cell?,hg]
theorem DJ (hT:dp P T) {t:Nat} {x:Operand} {K:AV->Prop} {Ml:Mem} (hM:M=ab Ml) (hok:(T.d t).ok=true) (ho:o.op= .load t x) (h:nK T t (ev F x) Ml K):∃av,bN P X o F M av [] []/\K av:=by
 have hx:x ∈ o.op.operands.toList:=by simp[ho,Op.operands]
 cases bY:ev F x with
 |loc n len i off=>
  rw[bY]at h
  simp only[nK,alive]at h
  cases hb:ab Ml n with
  |none=>rw[hb]at h; exact h.elim
  |some b=>
   rw[hb]at h
   obtain⟨hc1,hmp,h⟩:=ax h
   obtain⟨av,ha1,ha2,rE,hk⟩:=fE h
   have hl:b.ln=len:=by simpa using hc1
   refine⟨av,aF fun M' N ρ I a w hW hU hN=> ?_,hk⟩
   have r1:=aq hU x hx
   rw[bY]at r1
   obtain⟨sl,eQ,eY⟩:=bj (F:=F) x hx (n:=n) (by rw[bY]; simp[AV.names])
   have cD:M' n=some b:=(hN sl eQ n eY).trans (by rw[hM]; exact hb)
   have dV:lens M' n=some (b.ln,b.sz):=by rw[aA]; exact⟨b,cD,rfl,rfl⟩
   rw[hl]at dV
   obtain⟨hn,g,cap,hρ,hv⟩:=gj r1 dV
   obtain⟨f,hf⟩:=(hW.aT n b cD).row hmp hρ i
   obtain⟨v,FJ,NB⟩:=eH (K:=K) hT hok (off:=off) f hf ha1 ha2 rE
   refine⟨v,?_,NB⟩
   simp only[execOp,ho,Instr.loadAt,hv,Instr.sureAddr,Sem.run_bind,Sem.run_pure,Result.andThen_ok,FJ]
 |bh e off=>
  rw[bY]at h
  simp only[nK]at h
  obtain⟨av,ha1,ha2,rE,hk⟩:=fE h
  refine⟨av,aF fun M' N ρ I a w hW hU hN=> ?_,hk⟩
  have r1:=aq hU x hx
  rw[bY]at r1
  generalize hv:a.eval x=v at r1
  cases r1 with
  |bh _ _ b q c hI h1 hcell hr=>
   obtain⟨v,FJ,NB⟩:=eH (K:=K) (N:=N) hT hok (off:=off) c (fun j hj=>⟨hcell j hj,h1 j hj,(hr j hj).wide (fun _ h=>h.elim)⟩) ha1 ha2 rE
   refine⟨v,?_,NB⟩
   simp only[execOp,ho,Instr.loadAt,hv,Instr.sureAddr,Sem.run_bind,Sem.run_pure,Result.andThen_ok,FJ]
 |_=>rw[bY]at h; exact h.elim
end Go.AM
namespace Go.AM
open Go.RowKit
variable {P:Program} {T:TT} {X:cq} {o:Oper} {F:aW} {M:bv}
theorem bO (N:Nat->Prop) (n:Nat) (b:bg):fM N [(n,b)]=AK N n:=by
 funext m
 simp only[fM,AK,List.mem_singleton,Prod.mk.injEq,exists_and_left,eq_iff_iff]
 constructor
 ·rintro (h|⟨h,_⟩)
  ·exact .inr h
  ·exact .inl h
 ·rintro (h|h)
  ·exact .inr ⟨h,b,rfl⟩
  ·exact .inl h
theorem c9.new {ρ:Place} {I:Nat->Prop} {M:bv} {N:Nat->Prop} {w:World} (hW:c9 X ρ I M N w) {n:Nat} (hn:¬N n) (b:bg) (hm:b.mp=none) (cs:Array Value) (cap:Nat)
  (F3:∀e ∈ b.es,e.length=b.sz) (hlen:b.es.length<=cap) (hcap:cap<=maxLen) (hcs:cs.size=cap*b.sz)
  (wZ:∀i j,i<b.es.length->j<b.sz->∃u,cs[i*b.sz+j]? =some u/\u.oneCell'=true/\aL ρ (lens M) I w N ((b.es.getD i []).getD j .bad) u):
  ∃ρ1,mI N ρ (lens M) I w ρ1 (lens (dj M [(n,b)])) I (w.alloc (.cells cs b.ty))/\c9 X ρ1 I (dj M [(n,b)]) (fM N [(n,b)]) (w.alloc (.cells cs b.ty))/\ρ1 n=some (w.heap.size,cap)/\lens (dj M [(n,b)]) n=some (b.es.length,b.sz):=by
 have hln:=bg.dg hm
 have hd:∀b0,M n=some b0->False:=fun b0 h0=>hn (hW.aT n b0 h0).lt
 obtain⟨E,W⟩:=hW.put (w':=w.alloc (.cells cs b.ty)) n b w.heap.size cap cs (0,0) rfl rfl rfl (by simp) (fun k hk _=>Below.heap_alloc w _ k hk) (by rw[hm]; exact heap_alloc_new w _) (fun o _ h=>by omega)
  (.inl (Nat.le_refl _)) (fun b0 h0=>(hd b0 h0).elim) (fun h=>(hn h).elim) F3 hlen hcap hcs wZ
 refine⟨iI ρ n (w.heap.size,cap),E,by rw[bO]; exact W,by simp[iI],?_⟩
 show lens (cX M n b) n=_
 rw[cO,if_pos rfl,hln]
theorem oS {ρ:Place} {L:aZ} {I:Nat->Prop} {w:World} {N:Nat->Prop} {a:AV} {v:Value} (h:aL ρ L I w N a v) (hs:bQ a=true):
  v.cells.size=(cells a).length/\∀i j,i<1->j< (cells a).length->∃u,v.cells[i* (cells a).length+j]? =some u/\u.oneCell'=true/\aL ρ L I w N (([cells a].getD i []).getD j .bad) u:=by
 obtain⟨h1,h2,h3⟩:=p' h hs
 have Se:v.cells.size=(cells a).length:=by simpa using h1
 refine⟨Se,fun i j hi hj=> ?_⟩
 have:i=0:=by omega
 subst this
 have hj':j<v.cells.size:=by omega
 refine⟨v.cells[j],by simp[hj'],h2 _ (by simp),?_⟩
 have:=h3 j hj
 simpa[List.getD_eq_getElem?_getD,hj']using this
theorem qO {n t:Nat} {a:AV} (hs:bQ a=true)
  (h:∀M' N ρ I (ac:Act) w,c9 X ρ I M' N w->(∀s ∈ dm o.op,aL ρ (lens M') I w N (look F s) (ac.tmps.getD s undef))->
    ∃v,(execOp ac.eval o).run P w= .ok (.value (.pointer (some ⟨w.heap.size,0,none⟩))) (w.alloc (.cells v.cells t))/\aL ρ (lens M') I w N a v):bN P X o F M (.loc n 1 0 0) [(n,⟨t,(cells a).length,[cells a],none⟩)] [n]:=by
 refine⟨fun p hp=> .inl (by simp at hp; simp[hp]),fun M' N ρ I ac w hW hU hN hF=> ?_⟩
 obtain⟨v,hrun,hr⟩:=h M' N ρ I ac w hW hU
 have hn:¬N n:=hF n (by simp)
 obtain⟨h1,h2⟩:=oS hr hs
 obtain⟨ρ1,E,W,hρ,hl⟩:=hW.new hn ⟨t,(cells a).length,[cells a],none⟩ rfl v.cells 1 (by simp) (by simp) (by simp[maxLen]) (by simpa using h1) (by simpa using h2)
 unfold bS
 rw[hrun]
 refine⟨ρ1,I,E,W,?_⟩
 have Jy:fM N [(n,(⟨t,(cells a).length,[cells a],none⟩:bg))] n:= .inr ⟨⟨t,(cells a).length,[cells a],none⟩,List.mem_singleton.2 rfl⟩
 have:=gK (I:=I) (w:=w.alloc (.cells v.cells t)) (i:=0) (off:=0) Jy hl hρ
 simp only[Nat.zero_mul,Nat.zero_add,List.length_singleton]at this
 exact this
theorem qP {t:TypeId} {v:Value} {w:World}:(newVar t v).run P w= .ok ⟨w.heap.size,0,none⟩ (w.alloc (.cells v.cells t)):=by
 simp[newVar,newRow]
theorem F7 {n t:Nat} {x:Operand} (ho:o.op= .box t x) (hs:bQ (ev F x)=true):
  bN P X o F M (.loc n 1 0 0) [(n,⟨t,(cells (ev F x)).length,[cells (ev F x)],none⟩)] [n]:=
 qO hs (fun M' N ρ I ac w hW hU=>⟨ac.eval x,by simp[execOp,ho,Instr.box,qP],aq hU x (by simp[ho,Op.operands])⟩)
theorem AT (hT:dp P T) {n t:Nat} (ho:o.op= .alloc t) (hok:(T.d t).ok=true) (hs:bQ (T.z t)=true):
  bN P X o F M (.loc n 1 0 0) [(n,⟨t,(cells (T.z t)).length,[cells (T.z t)],none⟩)] [n]:=by
 obtain⟨D,it,z,hD,hf,hi,hsz,_,hz,jC⟩:=hT t (TD.dT hok)
 refine qO hs (fun M' N ρ I ac w hW hU=>⟨z,by simp[execOp,ho,Instr.alloc,qP,gi hi hz],?_⟩)
 rw[jC]; exact gh _ _ _ _ _ _
theorem mb (off q:Nat) (vs row:List AV) (h:off+vs.length<=row.length):
  (bM off vs row).getD q .bad=if off<=q/\q<off+vs.length then vs.getD (q - off) .bad else row.getD q .bad:=by
 unfold bM
 simp only[List.getD_eq_getElem?_getD]
 by_cases MB:off<=q/\q<off+vs.length
 ·rw[if_pos MB,List.getElem?_append_right (by simp; omega),List.length_take,Nat.min_eq_left (by omega),List.getElem?_append_left (by omega)]
 ·rw[if_neg MB]
  by_cases hlt:q<off
  ·rw[List.getElem?_append_left (by simp; omega),List.getElem?_take,if_pos hlt]
  ·rw[List.getElem?_append_right (by simp; omega),List.length_take,Nat.min_eq_left (by omega),List.getElem?_append_right (by omega),List.getElem?_drop]
   congr 2; omega
theorem sF (hT:dp P T) {t:Nat} {x y:Operand} {K:Mem->Prop} {Ml:Mem} (hM:M=ab Ml) (hok:(T.d t).ok=true) (ho:o.op= .store t x y) (h:AP T t (ev F x) (ev F y) Ml K):
  ∃n b,bN P X o F M (.aN []) [(n,b)] []/\n ∈ (ev F x).names/\K (gJ Ml n b)/\(∃b0,M n=some b0/\b.ln=b0.ln/\b.sz=b0.sz):=by
 have hx:x ∈ o.op.operands.toList:=by simp[ho,Op.operands]
 have hy:y ∈ o.op.operands.toList:=by simp[ho,Op.operands]
 cases bY:ev F x with
 |loc n len i off=>
  rw[bY]at h
  simp only[AP,alive]at h
  cases hb:ab Ml n with
  |none=>rw[hb]at h; exact h.elim
  |some b=>
   rw[hb]at h
   obtain⟨hc1,hmp,h⟩:=ax h
   obtain⟨kn,hk⟩:=ax h
   have hl:b.ln=len:=by simpa using hc1
   simp only[Bool.and_eq_true,beq_iff_eq,Bool.not_eq_true']at kn
   obtain⟨⟨⟨hs,hlen⟩,hz⟩,hfit⟩:=kn
   obtain⟨sl,eQ,eY⟩:=bj (F:=F) x hx (n:=n) (by rw[bY]; simp[AV.names])
   refine⟨n,_,?_,by simp[AV.names],hk,b,by rw[hM]; exact hb,by rw[bg.dg hmp]; simp[bg.ln],rfl⟩
   refine⟨fun p hp=> .inr ⟨sl,eQ,by simp at hp; rw[hp]; exact eY⟩,fun M' N ρ I a w hW hU hN _=> ?_⟩
   have r1:=aq hU x hx
   have r2:=aq hU y hy
   rw[bY]at r1
   have cD:M' n=some b:=(hN sl eQ n eY).trans (by rw[hM]; exact hb)
   have dV:lens M' n=some (b.ln,b.sz):=by rw[aA]; exact⟨b,cD,rfl,rfl⟩
   rw[hl]at dV
   obtain⟨hn,g,cap,hρ,hv⟩:=gj r1 dV
   obtain⟨hcl,F8,Zd⟩:=p' r2 hs
   have B:=hW.aT n b cD
   obtain⟨cs,fr,hg,og,rD,hown,hlc,nO,hcs,hc⟩:=B.real g cap hρ
   have hg:=hg.cells hmp
   have Sf:=bg.dg hmp
   obtain⟨D,it,z,hD,hf,hi,hsz,_⟩:=hT t (TD.dT hok)
   have hpos:0< (cells (ev F y)).length:=by
    have:T.s t≠0:=by simpa using hz
    omega
   have hi':i<b.es.length:=by
    rcases Nat.lt_or_ge i b.es.length with h|h
    ·exact h
    ·rw[List.getD_eq_getElem?_getD,List.getElem?_eq_none h]at hfit; simp at hfit; omega
   have hel:(b.es.getD i []).length=b.sz:=by
    rw[List.getD_eq_getElem?_getD,List.getElem?_eq_getElem hi',Option.getD_some]
    exact B.even _ (List.getElem_mem _)
   have hoff:off+ (cells (ev F y)).length<=b.sz:=by
    simp only[List.length_take,List.length_drop,hel]at hfit
    omega
   have hin:∀j,j<b.sz->i*b.sz+j<cs.size:=fun j hj=>by
    rw[hcs]
    calc i*b.sz+j<i*b.sz+b.sz:=by omega
     _=(i+1)*b.sz:=by rw[Nat.add_mul,Nat.one_mul]
     _<=cap*b.sz:=Nat.mul_le_mul_right _ (by omega)
   have oT:∀k,w.cell? ⟨g,k,none⟩=cs[k]? :=fun k=>by simp[World.cell?,hg]
   have Ze:∀k,k<cs.size->w.frozen? ⟨g,k,none⟩=false:=fun k hk=>by
    have:=og k hk
    simp only[World.frozen?,hg]
    simpa using this
   have hrun:(execOp a.eval o).run P w= .ok .skip (w.setCells g (i*b.sz+off) (a.eval y).cells.toList):=by
    have hst:=run_storeCells_cells (P:=P) g (i*b.sz+off) (a.eval y).cells.toList 0 w
     (fun j hj=>by
       rw[Nat.add_zero,oT,Nat.add_assoc,Array.getElem?_eq_getElem (hin (off+j) (by omega))]; rfl)
     (fun j hj=>by rw[Nat.add_zero,Nat.add_assoc]; exact Ze _ (hin (off+j) (by omega)))
     F8
    have hsize:(a.eval y).cells.size=it.size:=by rw[hsz,<-hlen,<-hcl]; simp
    simp only[execOp,ho,Instr.storeAt,hv,Instr.sureAddr,Sem.run_bind,Sem.run_pure,Result.andThen_ok,storeVar,bE hi,hsize,ne_eq,not_true_eq_false,if_false]
    rw[Nat.add_zero]at hst
    rw[hst]
    rfl
   obtain⟨cs',h1,h2,h3⟩:=gX g b.ty fr (a.eval y).cells.toList (i*b.sz+off) w cs hg (by rw[hcl]; have:=hin (b.sz - 1) (by omega); omega)
   have key:∀p q,p<b.es.length->q<b.sz->∃u,cs'[p*b.sz+q]? =some u/\u.oneCell'=true/\aL ρ (lens M') I w N (((b.es.set i (bM off (cells (ev F y)) (b.es.getD i []))).getD p []).getD q .bad) u:=by
    intro p q hp hq
    rw[h3,hcl]
    by_cases hpi:p=i
    ·subst hpi
     have e1:(b.es.set p (bM off (cells (ev F y)) (b.es.getD p []))).getD p []=bM off (cells (ev F y)) (b.es.getD p []):=by
      simp[List.getD_eq_getElem?_getD,hp]
     rw[e1,mb _ _ _ _ (by omega)]
     by_cases MB:off<=q/\q<off+ (cells (ev F y)).length
     ·rw[if_pos (by omega),if_pos MB]
      have e2:p*b.sz+q - (p*b.sz+off)=q - off:=by omega
      rw[e2]
      have NC:q - off< (a.eval y).cells.toList.length:=by rw[hcl]; omega
      refine⟨(a.eval y).cells.toList[q - off],List.getElem?_eq_getElem NC,F8 _ (List.getElem_mem _),?_⟩
      have:=Zd (q - off) (by omega)
      rwa[List.getD_eq_getElem?_getD (l:=(a.eval y).cells.toList),List.getElem?_eq_getElem NC,Option.getD_some]at this
     ·rw[if_neg (by omega),if_neg MB]
      exact hc p q hp hq
    ·have e1:(b.es.set i (bM off (cells (ev F y)) (b.es.getD i []))).getD p []=b.es.getD p []:=by
      simp[List.getD_eq_getElem?_getD,List.getElem?_set,Ne.symm hpi]
     rw[e1]
     rw[if_neg]
     ·exact hc p q hp hq
     ·rintro⟨ha,hb'⟩
      rcases Nat.lt_or_gt_of_ne hpi with hlt|hgt
      ·have:(p+1)*b.sz<=i*b.sz:=Nat.mul_le_mul_right _ hlt
       rw[Nat.add_mul,Nat.one_mul]at this
       omega
      ·have:(i+1)*b.sz<=p*b.sz:=Nat.mul_le_mul_right _ hgt
       rw[Nat.add_mul,Nat.one_mul]at this
       omega
   have kq:∀b0,M' n=some b0->b0=b:=fun b0 h0=>by rw[cD]at h0; exact (Option.some.inj h0).symm
   obtain⟨E,W⟩:=hW.put (w':=w.setCells g (i*b.sz+off) (a.eval y).cells.toList) n ⟨b.ty,b.sz,b.es.set i (bM off (cells (ev F y)) (b.es.getD i [])),none⟩ g cap cs' fr
    (os_setCells _ _ _ _) (gY _ _ _ _) (iK _ _ _ _) (by rw[size_setCells]; exact Nat.le_refl _) (fun k _ hk=>eG g _ _ _ _ hk) h1 (fun q hq=>og q (by omega))
    (.inr ⟨cap,hρ,b,cD⟩) (fun b0 h0=>by rw[kq b0 h0,Sf]; exact⟨rfl,by simp[bg.ln],fun _=>hρ⟩) (fun _=>⟨b,cD⟩)
    (fun e he=>by
      rcases List.mem_or_eq_of_mem_set he with he|rfl
      ·exact B.even e he
      ·show (bM _ _ _).length=b.sz
       unfold bM
       rw[List.length_append,List.length_append,List.length_take,List.length_drop,hel]; omega)
    (by simpa using hlc) nO (by rw[h2]; exact hcs) (by simpa using key)
   unfold bS
   rw[hrun]
   refine⟨iI ρ n (g,cap),I,E,by rw[bO]; exact W,.aN [] [] rfl (fun j hj=>by simp at hj)⟩
 |_=>rw[bY]at h; exact h.elim
end Go.AM
namespace Go.AM
open Go.RowKit
variable {P:Program} {T:TT} {X:cq} {o:Oper} {F:aW} {M:bv}
def bi (ρ:Place) (L:aZ) (I:Nat->Prop) (w:World) (N:Nat->Prop) (cs:List AV) (arr:Array Value):Prop:=
 arr.size=cs.length/\∀j,j<cs.length->∃u,arr[j]? =some u/\u.oneCell'=true/\aL ρ L I w N (cs.getD j .bad) u
theorem bi.agg {ρ:Place} {L:aZ} {I:Nat->Prop} {w:World} {N:Nat->Prop} {cs:List AV} {arr:Array Value} (h:bi ρ L I w N cs arr):aL ρ L I w N (.agg cs) (.agg arr):=by
 have:arr=arr.toList.toArray:=by simp
 rw[this]
 refine .agg cs arr.toList (by simpa using h.1) (fun u hu=> ?_) (fun j hj=> ?_)
 ·obtain⟨j,hj,rfl⟩:=List.mem_iff_getElem.1 hu
  obtain⟨u,hu,h1,_⟩:=h.2 j (by have:=h.1; simp at hj; omega)
  have Cn:arr.toList[j]? =some u:=by simpa using hu
  rw[List.getElem?_eq_getElem hj]at Cn
  cases Cn
  exact h1
 ·obtain⟨u,hu,_,hr⟩:=h.2 j hj
  have:arr.toList.getD j default=u:=by simp[List.getD_eq_getElem?_getD,hu]
  rw[this]; exact hr
theorem bi.fc {ρ:Place} {L:aZ} {I:Nat->Prop} {w:World} {N:Nat->Prop} {a:AV} {v:Value} (h:aL ρ L I w N a v) (hs:bQ a=true):bi ρ L I w N (cells a) v.cells:=by
 obtain⟨h1,h2⟩:=oS h hs
 refine⟨h1,fun j hj=> ?_⟩
 have:=h2 0 j (by omega) hj
 simpa using this
theorem jP (off:Nat):∀ (vs:List Value) (k:Nat) (arr:Array Value),off+k+vs.length<=arr.size->
  ((vs.zipIdx k).foldl (fun cs (p:Value × Nat)=>cs.setIfInBounds (off+p.2) p.1) arr).size=arr.size/\
  ∀q,((vs.zipIdx k).foldl (fun cs (p:Value × Nat)=>cs.setIfInBounds (off+p.2) p.1) arr)[q]? =if off+k<=q/\q<off+k+vs.length then vs[q - (off+k)]? else arr[q]?
 |[],k,arr,_=>⟨rfl,fun q=>by rw[if_neg (by simp)]; rfl⟩
 |v::r,k,arr,h=>by
  simp only[List.zipIdx_cons,List.foldl_cons]
  obtain⟨h1,h2⟩:=jP off r (k+1) (arr.setIfInBounds (off+k) v) (by simp at h ⊢; omega)
  refine⟨by rw[h1]; simp,fun q=> ?_⟩
  rw[h2]
  simp only[List.length_cons]at h ⊢
  by_cases hq:q=off+k
  ·subst hq
   rw[if_neg (by omega),if_pos (by omega)]
   simp[Array.getElem?_setIfInBounds]; omega
  ·by_cases Zf:off+ (k+1)<=q/\q<off+ (k+1)+r.length
   ·rw[if_pos Zf,if_pos (by omega)]
    have:q - (off+k)=(q - (off+ (k+1)))+1:=by omega
    rw[this]; simp
   ·rw[if_neg Zf,if_neg (by omega)]
    simp[Array.getElem?_setIfInBounds]
    intro e; omega
theorem bi.part {ρ:Place} {L:aZ} {I:Nat->Prop} {w:World} {N:Nat->Prop} {cs vs:List AV} {arr qa:Array Value} (h:bi ρ L I w N cs arr) (hv:bi ρ L I w N vs qa) (off:Nat) (hfit:off+vs.length<=cs.length):
  bi ρ L I w N (bM off vs cs) (qa.zipIdx.foldl (fun cs (p:Value × Nat)=>cs.setIfInBounds (off+p.2) p.1) arr):=by
 have e:qa.zipIdx.foldl (fun cs (p:Value × Nat)=>cs.setIfInBounds (off+p.2) p.1) arr=(qa.toList.zipIdx 0).foldl (fun cs (p:Value × Nat)=>cs.setIfInBounds (off+p.2) p.1) arr:=by
  rw[<-Array.foldl_toList,Array.toList_zipIdx]
 rw[e]
 have hl:qa.toList.length=vs.length:=by simpa using hv.1
 obtain⟨h1,h2⟩:=jP off qa.toList 0 arr (by have:=h.1; omega)
 have eQ:(bM off vs cs).length=cs.length:=by
  unfold bM
  rw[List.length_append,List.length_append,List.length_take,List.length_drop]; omega
 refine⟨by rw[h1,eQ]; exact h.1,fun j hj=> ?_⟩
 rw[eQ]at hj
 rw[h2,mb _ _ _ _ hfit,hl]
 simp only[Nat.add_zero]
 by_cases hr:off<=j/\j<off+vs.length
 ·rw[if_pos hr,if_pos hr]
  obtain⟨u,hu,h3⟩:=hv.2 (j - off) (by omega)
  exact⟨u,by simpa using hu,h3⟩
 ·rw[if_neg hr,if_neg hr]
  exact h.2 j hj
theorem sG {ρ:Place} {L:aZ} {I:Nat->Prop} {w:World} {N:Nat->Prop} {place:Nat->Option (Nat × Nat)} {i off size:Nat} {v:Value} {a:AV} {rest:List (Nat × Value)} {cs:List AV} {arr:Array Value}
  (hp:place i=some (off,size)) (hv:bi ρ L I w N (cells a) v.cells) (hl:(cells a).length=size) (hfit:off+ (cells a).length<=cs.length) (hc:bi ρ L I w N cs arr):
  ∃gL,bi ρ L I w N (bM off (cells a) cs) gL/\Instr.fill place arr ((i,v)::rest)=Instr.fill place gL rest:=by
 refine⟨_,hc.part hv off hfit,?_⟩
 have h1:v.cells.size=size:=by rw[hv.1,hl]
 have h2:¬off+v.cells.size>arr.size:=by rw[hv.1,hc.1]; omega
 have h3:¬ (v.cells.size≠size\/ off+v.cells.size>arr.size):=by
  rintro (h|h)
  ·exact h h1
  ·exact h2 h
 simp only[Instr.fill,hp,Bool.or_eq_true,decide_eq_true_eq,if_neg h3]
theorem vy {cs:List AV} {off n:Nat} (h:((cs.drop off).take n).length=n):off+n<=cs.length\/ n=0:=by
 simp at h; omega
theorem vz {size:Nat->Nat} {fs:List (Nat × Nat)} {K:List AV->Prop}:∀ (ps:List (Nat × Operand)) (cs:List AV),oP size fs (pZ F ps) cs K->∃cs',oP size fs (pZ F ps) cs (fun x=>x=cs')/\K cs'
 |[],cs,h=>⟨cs,rfl,h⟩
 |(i,x)::r,cs,h=>by
  simp only[pZ,oP]at h ⊢
  cases hf:fs[i]? with
  |none=>rw[hf]at h; exact h.elim
  |some q=>
   rw[hf]at h
   obtain⟨hc1,h⟩:=ax h
   obtain⟨cs',h1,h2⟩:=vz r _ h
   exact⟨cs',aD hc1 h1,h2⟩
theorem vA {sz:Nat} {K:List AV->Prop}:∀ (ps:List (Nat × Operand)) (cs:List AV),oQ sz (pZ F ps) cs K->∃cs',oQ sz (pZ F ps) cs (fun x=>x=cs')/\K cs'
 |[],cs,h=>⟨cs,rfl,h⟩
 |(i,x)::r,cs,h=>by
  simp only[pZ,oQ]at h ⊢
  obtain⟨hc1,h⟩:=ax h
  obtain⟨cs',h1,h2⟩:=vA r _ h
  exact⟨cs',aD hc1 h1,h2⟩
theorem qQ {ρ:Place} {L:aZ} {I:Nat->Prop} {w:World} {N:Nat->Prop} {a:Act} {size:Nat->Nat} {fs:List (Nat × Nat)} {place:Nat->Option (Nat × Nat)}
  (hp:∀i off t,fs[i]? =some (off,t)->place i=some (off,size t)) {K:List AV->Prop}:∀ (ps:List (Nat × Operand)) (cs:List AV),(∀p ∈ ps,aL ρ L I w N (ev F p.2) (a.eval p.2))->
  oP size fs (pZ F ps) cs K->∃cs',K cs'/\∀arr,bi ρ L I w N cs arr->∃gL,bi ρ L I w N cs' gL/\Instr.fill place arr (ps.map fun p=>(p.1,a.eval p.2))=some gL
 |[],cs,_,h=>⟨cs,h,fun arr hc=>⟨arr,hc,rfl⟩⟩
 |(i,x)::r,cs,hr,h=>by
  simp only[pZ,oP]at h
  cases hf:fs[i]? with
  |none=>rw[hf]at h; exact h.elim
  |some q=>
   obtain⟨off,t⟩:=q
   rw[hf]at h
   obtain⟨hc1,h⟩:=ax h
   simp only[Bool.and_eq_true,beq_iff_eq,Bool.not_eq_true',beq_eq_false_iff_ne]at hc1
   obtain⟨⟨⟨hs,Zg⟩,hl⟩,hfit⟩:=hc1
   obtain⟨cs',hk,hall⟩:=qQ hp r _ (fun p hp=>hr p (List.mem_cons_of_mem _ hp)) h
   refine⟨cs',hk,fun arr hc=> ?_⟩
   have hv:=bi.fc (hr (i,x) List.mem_cons_self) hs
   obtain⟨uZ,ha1,ha2⟩:=sG (rest:=r.map fun p=>(p.1,a.eval p.2)) (hp i off t hf) hv hl (by rcases vy hfit with h|h; exact h; exact (Zg h).elim) hc
   obtain⟨gL,rE,Zh⟩:=hall uZ ha1
   exact⟨gL,rE,by rw[List.map_cons,ha2]; exact Zh⟩
theorem qR {ρ:Place} {L:aZ} {I:Nat->Prop} {w:World} {N:Nat->Prop} {a:Act} {sz:Nat} {K:List AV->Prop}:∀ (ps:List (Nat × Operand)) (cs:List AV),(∀p ∈ ps,aL ρ L I w N (ev F p.2) (a.eval p.2))->
  oQ sz (pZ F ps) cs K->∃cs',K cs'/\∀arr,bi ρ L I w N cs arr->∃gL,bi ρ L I w N cs' gL/\Instr.fill (fun i=>some (i*sz,sz)) arr (ps.map fun p=>(p.1,a.eval p.2))=some gL
 |[],cs,_,h=>⟨cs,h,fun arr hc=>⟨arr,hc,rfl⟩⟩
 |(i,x)::r,cs,hr,h=>by
  simp only[pZ,oQ]at h
  obtain⟨hc1,h⟩:=ax h
  simp only[Bool.and_eq_true,beq_iff_eq,Bool.not_eq_true',beq_eq_false_iff_ne]at hc1
  obtain⟨⟨⟨hs,Zg⟩,hl⟩,hfit⟩:=hc1
  obtain⟨cs',hk,hall⟩:=qR r _ (fun p hp=>hr p (List.mem_cons_of_mem _ hp)) h
  refine⟨cs',hk,fun arr hc=> ?_⟩
  have hv:=bi.fc (hr (i,x) List.mem_cons_self) hs
  obtain⟨uZ,ha1,ha2⟩:=sG (place:=fun i=>some (i*sz,sz)) (i:=i) (off:=i*sz) (size:=sz) (rest:=r.map fun p=>(p.1,a.eval p.2)) rfl hv hl (by rcases vy hfit with h|h; exact h; exact (Zg h).elim) hc
  obtain⟨gL,rE,Zh⟩:=hall uZ ha1
  exact⟨gL,rE,by rw[List.map_cons,ha2]; exact Zh⟩
theorem qS (hT:dp P T):∀ (gs:List Field),F5 T.d (gs.map fun f=>(f.offset,f.type))=true->
  gs.mapM (fun f=>(P.info? f.type).map fun i=>(f.offset,i.size))=some (gs.map fun f=>(f.offset,T.s f.type))
 |[],_=>rfl
 |f::r,h=>by
  simp only[List.map_cons,F5,Bool.and_eq_true]at h
  obtain⟨D,i,z,_,_,hi,hs,_⟩:=hT f.type (TD.dT h.1)
  have ih:=qS hT r h.2
  simp[List.mapM_cons,hi,hs,ih]
theorem AU (hT:dp P T) {t:Nat} {ps:Array (Nat × Operand)} {K:AV->Prop} (ho:o.op= .build t ps) (h:AN T t (pZ F ps.toList) K):∃av,bN P X o F M av [] []/\K av:=by
 have AW:∀p ∈ ps.toList,p.2 ∈ o.op.operands.toList:=fun p hp=>by
  simp only[ho,Op.operands]
  exact List.mem_map.2 ⟨p,hp,rfl⟩
 unfold AN at h
 cases ht:T.d t with
 |struct fs=>
  rw[ht]at h
  simp only at h
  obtain⟨hc,h⟩:=ax h
  simp only[Bool.and_eq_true,beq_iff_eq]at hc
  obtain⟨⟨Yg,oU⟩,hlen⟩:=hc
  obtain⟨D,it,z,hD,hf,hi,hsz,_,hz,jC⟩:=hT t (by rw[ht]; simp)
  obtain⟨gs,rfl,ND⟩:=jN ht hf
  have MD:∀ (i off t':Nat),fs[i]? =some (off,t')->((gs.toList.map fun f=>(f.offset,T.s f.type)).toArray[i]?)=some (off,T.s t'):=by
   intro i off t' hi'
   rw[ND,List.getElem?_map]at hi'
   cases hg:gs.toList[i]? with
   |none=>simp[hg]at hi'
   |some g=>
    simp only[hg,Option.map_some,Option.some.injEq,Prod.mk.injEq]at hi'
    have uP:gs[i]? =some g:=by simpa using hg
    simp[uP,hi'.1,hi'.2]
  have RH:∃cs',K (.agg cs')/\∀ρ L I w N (a:Act),(∀p ∈ ps.toList,aL ρ L I w N (ev F p.2) (a.eval p.2))->∀arr,bi ρ L I w N (cells (T.z t)) arr->∃gL,bi ρ L I w N cs' gL/\
    Instr.fill ((gs.toList.map fun f=>(f.offset,T.s f.type)).toArray[·]?) arr (ps.toList.map fun p=>(p.1,a.eval p.2))=some gL:=by
   obtain⟨cs',hcs,hk⟩:=vz (K:=fun cs=>K (.agg cs)) ps.toList _ h
   refine⟨cs',hk,fun ρ L I w N a hr arr hc=> ?_⟩
   obtain⟨Zi,h1,h2⟩:=qQ (place:=fun i=>((gs.toList.map fun f=>(f.offset,T.s f.type)).toArray[i]?)) MD ps.toList _ hr hcs
   subst h1
   exact h2 arr hc
  obtain⟨cs',hk,hall⟩:=RH
  refine⟨.agg cs',aF fun M' N ρ I a w hW hU hN=> ?_,hk⟩
  have hr:∀p ∈ ps.toList,aL ρ (lens M') I w N (ev F p.2) (a.eval p.2):=fun p hp=>aq hU _ (AW p hp)
  obtain⟨gL,ha1,ha2⟩:=hall ρ (lens M') I w N a hr z.cells (by rw[jC]; exact bi.fc (gh _ _ _ _ _ z) (by rw[<-jC]; exact oU))
  refine⟨.agg gL,?_,ha1.agg⟩
  have hb:P.built t (ps.map fun (i,x)=>(i,a.eval x)).toList=some gL:=by
   unfold Program.built
   simp only[hi,hD,hz,qS hT gs.toList (by rw[<-ND]; exact Yg),Array.toList_map]
   exact ha2
  simp only[execOp,ho,Sem.run_bind,run_build w t _ _ hb,Result.andThen_ok,Sem.run_pure]
 |arr m e=>
  rw[ht]at h
  simp only at h
  obtain⟨hc,h⟩:=ax h
  simp only[Bool.and_eq_true,beq_iff_eq]at hc
  obtain⟨⟨hok,oU⟩,hlen⟩:=hc
  obtain⟨D,it,z,hD,hf,hi,hsz,_,hz,jC⟩:=hT t (by rw[ht]; simp)
  have im:=gk ht hf
  subst im
  obtain⟨_,ie,_,_,_,hie,mN,_⟩:=hT e (TD.dT hok)
  obtain⟨cs',hcs,hk⟩:=vA (K:=fun cs=>K (.agg cs)) ps.toList _ h
  refine⟨.agg cs',aF fun M' N ρ I a w hW hU hN=> ?_,hk⟩
  have hr:∀p ∈ ps.toList,aL ρ (lens M') I w N (ev F p.2) (a.eval p.2):=fun p hp=>aq hU _ (AW p hp)
  obtain⟨Zi,h1,h2⟩:=qR ps.toList _ hr hcs
  subst h1
  obtain⟨gL,ha1,ha2⟩:=h2 z.cells (by rw[jC]; exact bi.fc (gh _ _ _ _ _ z) (by rw[<-jC]; exact oU))
  refine⟨.agg gL,?_,ha1.agg⟩
  have hb:P.built t (ps.map fun (i,x)=>(i,a.eval x)).toList=some gL:=by
   unfold Program.built
   simp only[hi,hD,hz,hie,mN,Array.toList_map]
   exact ha2
  simp only[execOp,ho,Sem.run_bind,run_build w t _ _ hb,Result.andThen_ok,Sem.run_pure]
 |_=>rw[ht]at h; exact h.elim
end Go.AM
namespace Go.AM
open Go.RowKit
variable {P:Program} {T:TT} {X:cq} {o:Oper} {F:aW} {M:bv}
def jb (ρ:Place) (L:aZ) (I:Nat->Prop) (w:World) (N:Nat->Prop) (sz:Nat) (es:List (List AV)) (arr:Array Value):Prop:=
 es.length*sz<=arr.size/\(∀e ∈ es,e.length=sz)/\∀i j,i<es.length->j<sz->∃u,arr[i*sz+j]? =some u/\u.oneCell'=true/\aL ρ L I w N ((es.getD i []).getD j .bad) u
theorem jb.set {ρ:Place} {L:aZ} {I:Nat->Prop} {w:World} {N:Nat->Prop} {sz:Nat} {es:List (List AV)} {arr qa:Array Value} {vs:List AV} {i:Nat} (h:jb ρ L I w N sz es arr) (hi:i<es.length)
  (hv:bi ρ L I w N vs qa) (hl:vs.length=sz):jb ρ L I w N sz (es.set i vs) (qa.zipIdx.foldl (fun cs (p:Value × Nat)=>cs.setIfInBounds (i*sz+p.2) p.1) arr):=by
 have e:qa.zipIdx.foldl (fun cs (p:Value × Nat)=>cs.setIfInBounds (i*sz+p.2) p.1) arr=(qa.toList.zipIdx 0).foldl (fun cs (p:Value × Nat)=>cs.setIfInBounds (i*sz+p.2) p.1) arr:=by
  rw[<-Array.foldl_toList,Array.toList_zipIdx]
 rw[e]
 obtain⟨h1,h2,h3⟩:=h
 have hvl:qa.toList.length=sz:=by have:=hv.1; simp; omega
 have hb:i*sz+sz<=es.length*sz:=by
  have:(i+1)*sz<=es.length*sz:=Nat.mul_le_mul_right _ hi
  rwa[Nat.add_mul,Nat.one_mul]at this
 obtain⟨g1,g2⟩:=jP (i*sz) qa.toList 0 arr (by rw[hvl]; omega)
 refine⟨by rw[g1]; simpa using h1,fun e he=> ?_,fun p q hp hq=> ?_⟩
 ·rcases List.mem_or_eq_of_mem_set he with he|rfl
  ·exact h2 e he
  ·exact hl
 ·rw[g2,hvl]
  simp only[Nat.add_zero]
  simp only[List.length_set]at hp
  by_cases hpi:p=i
  ·subst hpi
   rw[if_pos (by omega)]
   have:(es.set p vs).getD p []=vs:=by simp[List.getD_eq_getElem?_getD,hp]
   rw[this]
   have e2:p*sz+q - p*sz=q:=by omega
   rw[e2]
   obtain⟨u,hu,hr⟩:=hv.2 q (by omega)
   exact⟨u,by simpa using hu,hr⟩
  ·rw[if_neg]
   ·have:(es.set i vs).getD p []=es.getD p []:=by simp[List.getD_eq_getElem?_getD,List.getElem?_set,Ne.symm hpi]
    rw[this]
    exact h3 p q hp hq
   ·rintro⟨ha,hb'⟩
    rcases Nat.lt_or_gt_of_ne hpi with hlt|hgt
    ·have:(p+1)*sz<=i*sz:=Nat.mul_le_mul_right _ hlt
     rw[Nat.add_mul,Nat.one_mul]at this
     omega
    ·have:(i+1)*sz<=p*sz:=Nat.mul_le_mul_right _ hgt
     rw[Nat.add_mul,Nat.one_mul]at this
     omega
theorem vB {sz:Nat} {K:List (List AV)->Prop}:∀ (ps:List (Nat × Operand)) (es:List (List AV)),lM sz (pZ F ps) es K->∃es',lM sz (pZ F ps) es (fun x=>x=es')/\K es'
 |[],es,h=>⟨es,rfl,h⟩
 |(i,x)::r,es,h=>by
  simp only[pZ,lM]at h ⊢
  obtain⟨hc1,h⟩:=ax h
  obtain⟨es',h1,h2⟩:=vB r _ h
  exact⟨es',aD hc1 h1,h2⟩
theorem qT {ρ:Place} {L:aZ} {I:Nat->Prop} {w:World} {N:Nat->Prop} {a:Act} {sz:Nat} {K:List (List AV)->Prop}:∀ (ps:List (Nat × Operand)) (es:List (List AV)),(∀p ∈ ps,aL ρ L I w N (ev F p.2) (a.eval p.2))->
  lM sz (pZ F ps) es K->∃es',K es'/\es'.length=es.length/\∀arr,arr.size=es.length*sz->jb ρ L I w N sz es arr->∃gL,gL.size=arr.size/\jb ρ L I w N sz es' gL/\Instr.fill (fun i=>some (i*sz,sz)) arr (ps.map fun p=>(p.1,a.eval p.2))=some gL
 |[],es,_,h=>⟨es,h,rfl,fun arr _ hc=>⟨arr,rfl,hc,rfl⟩⟩
 |(i,x)::r,es,hr,h=>by
  simp only[pZ,lM]at h
  obtain⟨hc1,h⟩:=ax h
  simp only[Bool.and_eq_true,beq_iff_eq]at hc1
  obtain⟨⟨hs,hl⟩,hfit⟩:=hc1
  obtain⟨es',hk,hle,hall⟩:=qT r _ (fun p hp=>hr p (List.mem_cons_of_mem _ hp)) h
  refine⟨es',hk,by simpa using hle,fun arr hsz hc=> ?_⟩
  have hi:i<es.length:=by simp at hfit; omega
  have hv:=bi.fc (hr (i,x) List.mem_cons_self) hs
  have h1:(a.eval x).cells.size=sz:=by have:=hv.1; simp at this; omega
  have hb:i*sz+sz<=es.length*sz:=by
   have:(i+1)*sz<=es.length*sz:=Nat.mul_le_mul_right _ hi
   rwa[Nat.add_mul,Nat.one_mul]at this
  have h3:¬ ((a.eval x).cells.size≠sz\/ i*sz+ (a.eval x).cells.size>arr.size):=by
   rintro (h|h)
   ·exact h h1
   ·omega
  have Jz:=hc.set hi hv hl
  have Sg:((a.eval x).cells.zipIdx.foldl (fun cs (p:Value × Nat)=>cs.setIfInBounds (i*sz+p.2) p.1) arr).size=arr.size:=by
   rw[<-Array.foldl_toList,Array.toList_zipIdx]
   exact (jP (i*sz) _ 0 arr (by simp; omega)).1
  obtain⟨gL,ha0,ha1,ha2⟩:=hall _ (by rw[Sg]; simpa using hsz) Jz
  refine⟨gL,ha0.trans Sg,ha1,?_⟩
  simp only[List.map_cons,Instr.fill,Bool.or_eq_true,decide_eq_true_eq,if_neg h3]
  exact ha2
theorem jb.F9 {ρ:Place} {L:aZ} {I:Nat->Prop} {w:World} {N:Nat->Prop} {z:Value} {a:AV} {sz n:Nat} (h:bi ρ L I w N (cells a) z.cells) (hl:(cells a).length=sz) (hpos:sz≠0):
  jb ρ L I w N sz (List.replicate n (cells a)) ((Array.range (n*sz)).map (z.cells[· % z.cells.size]!)):=by
 have hz:z.cells.size=sz:=by rw[h.1,hl]
 refine⟨by simp,fun e he=>by rw[(List.mem_replicate.1 he).2]; exact hl,fun i j hi hj=> ?_⟩
 simp only[List.length_replicate]at hi
 have hlt:i*sz+j<n*sz:=by
  have:(i+1)*sz<=n*sz:=Nat.mul_le_mul_right _ hi
  rw[Nat.add_mul,Nat.one_mul]at this
  omega
 have Zj:(i*sz+j) % z.cells.size=j:=by
  rw[hz,Nat.add_comm,Nat.mul_comm,Nat.add_mul_mod_self_left]
  exact Nat.mod_eq_of_lt hj
 obtain⟨u,hu,h1,hr⟩:=h.2 j (by omega)
 refine⟨u,?_,h1,?_⟩
 ·have hj':j<z.cells.size:=by omega
  have Cn:z.cells[j]=u:=by rw[Array.getElem?_eq_getElem hj']at hu; exact Option.some.inj hu
  simp[hlt,Zj,hj',Cn]
 ·have:(List.replicate n (cells a)).getD i []=cells a:=by simp[List.getD_eq_getElem?_getD,hi]
  rw[this]; exact hr
theorem qU {n e len cap sz:Nat} {es:List (List AV)} (hlen:es.length=len)
  (h:∀M' N ρ I (ac:Act) w,c9 X ρ I M' N w->(∀s ∈ dm o.op,aL ρ (lens M') I w N (look F s) (ac.tmps.getD s undef))->
    ∃arr,(execOp ac.eval o).run P w= .ok (.value (.slice (some ⟨w.heap.size,0,none⟩) len cap)) (w.alloc (.cells arr e))/\arr.size=cap*sz/\len<=cap/\cap<=maxLen/\jb ρ (lens M') I w N sz es arr):bN P X o F M (.bc n len) [(n,⟨e,sz,es,none⟩)] [n]:=by
 refine⟨fun p hp=> .inl (by simp at hp; simp[hp]),fun M' N ρ I ac w hW hU hN hF=> ?_⟩
 obtain⟨arr,hrun,h1,h2,h3,h4⟩:=h M' N ρ I ac w hW hU
 have hn:¬N n:=hF n (by simp)
 obtain⟨ρ1,E,W,hρ,hl⟩:=hW.new hn ⟨e,sz,es,none⟩ rfl arr cap h4.2.1 (by simpa using hlen ▸ h2) h3 h1 h4.2.2
 unfold bS
 rw[hrun]
 have Jy:fM N [(n,(⟨e,sz,es,none⟩:bg))] n:= .inr ⟨_,List.mem_singleton.2 rfl⟩
 refine⟨ρ1,I,E,W,?_⟩
 exact kY Jy (hlen ▸ hl) hρ
theorem rF (hT:dp P T) {n t len:Nat} {ps:Array (Nat × Operand)} {e:Nat} {es:List (List AV)} (ho:o.op= .buildSlice t len ps) (ht:T.d t= .slice e) (hok:(T.d e).ok=true)
  (hs:bQ (T.z e)=true) (hl:(cells (T.z e)).length=T.s e) (hz:T.s e≠0) (hb:len*T.s e<=16777216) (h:lM (T.s e) (pZ F ps.toList) (List.replicate len (cells (T.z e))) (fun x=>x=es)):bN P X o F M (.bc n len) [(n,⟨e,T.s e,es,none⟩)] [n]/\es.length=len:=by
 have AW:∀p ∈ ps.toList,p.2 ∈ o.op.operands.toList:=fun p hp=>by
  simp only[ho,Op.operands]
  exact List.mem_map.2 ⟨p,hp,rfl⟩
 obtain⟨D,it,z,hD,hf,hi,hsz,_⟩:=hT t (by rw[ht]; simp)
 have im:=bV ht hf
 subst im
 obtain⟨_,ie,ze,_,_,hie,mN,_,NE,jC⟩:=hT e (TD.dT hok)
 have hlen:es.length=len:=by
  clear AW
  have:∀ (ps:List (Nat × Operand)) (oV:List (List AV)),lM (T.s e) (pZ F ps) oV (fun x=>x=es)->es.length=oV.length:=by
   intro ps
   induction ps with
   |nil=>intro oV h; simp only[pZ,lM]at h; rw[h]
   |cons p r ih=>
    intro oV h
    obtain⟨i,x⟩:=p
    simp only[pZ,lM]at h
    obtain⟨_,h⟩:=ax h
    simpa using ih _ h
  simpa using this ps.toList _ h
 refine⟨qU (cap:=len) hlen (fun M' N ρ I a w hW hU=> ?_),hlen⟩
 have hr:∀p ∈ ps.toList,aL ρ (lens M') I w N (ev F p.2) (a.eval p.2):=fun p hp=>aq hU _ (AW p hp)
 obtain⟨es',h1,h2,h3⟩:=qT (ρ:=ρ) (L:=lens M') (I:=I) (w:=w) (N:=N) (a:=a) ps.toList _ hr h
 subst h1
 have hc:bi ρ (lens M') I w N (cells (T.z e)) ze.cells:=by rw[jC]; exact bi.fc (gh _ _ _ _ _ ze) (by rw[<-jC]; exact hs)
 obtain⟨arr,ha0,ha1,ha2⟩:=h3 ((Array.range (len*T.s e)).map (ze.cells[· % ze.cells.size]!)) (by simp) (jb.F9 hc hl hz)
 have hmax:len<=maxLen:=by
  have:len*1<=len*T.s e:=Nat.mul_le_mul_left _ (by omega)
  simp only[maxLen]; omega
 refine⟨arr,?_,by rw[ha0]; simp,Nat.le_refl _,hmax,ha1⟩
 have hng:¬len*ie.size>2 ^ 24:=by rw[mN]; omega
 have Ga:Instr.fill (fun i=>some (i*ie.size,ie.size)) ((Array.range (len*ie.size)).map (ze.cells[· % ze.cells.size]!)) (ps.map fun p=>(p.1,a.eval p.2)).toList=some arr:=by
  rw[mN,Array.toList_map]; exact ha2
 by_cases h0:len*ie.size=0
 ·have hl0:len=0:=by
   rcases Nat.mul_eq_zero.1 h0 with h|h
   ·exact h
   ·rw[mN]at h; exact (hz h).elim
  subst hl0
  have e0:∀f:Nat->Value,(Array.range (0*ie.size)).map f= #[]:=fun f=>by rw[Nat.zero_mul]; exact Array.eq_empty_of_size_eq_zero (by simp)
  rw[e0]at Ga
  have xa:Instr.fill (fun i=>some (i*ie.size,ie.size)) #[] (ps.toList.map fun p=>(p.1,a.eval p.2))=some arr:=by
   rw[<-Ga,Array.toList_map]
  simp only[execOp,ho,Instr.buildSlice,Sem.run_bind,run_underlying hD,Result.andThen_ok,bE hie,if_neg hng,if_pos h0,Sem.run_pure,Array.toList_map,e0,xa,newRow,run_newObj,World.alloc_eq]
 ·have xa:Instr.fill (fun i=>some (i*ie.size,ie.size)) ((Array.range (len*ie.size)).map (ze.cells[· % ze.cells.size]!)) (ps.toList.map fun p=>(p.1,a.eval p.2))=some arr:=by simpa using Ga
  simp only[execOp,ho,Instr.buildSlice,Sem.run_bind,run_underlying hD,Result.andThen_ok,bE hie,if_neg hng,if_neg h0,gi hie NE,Sem.run_pure,Array.toList_map,xa,newRow,run_newObj,World.alloc_eq]
end Go.AM
namespace Go.AM
open Go.RowKit
variable {P:Program} {T:TT} {X:cq} {o:Oper} {F:aW} {M:bv}
theorem yC {op:BinOp} {t:TypeId} {x y:Operand} {k k':IntKind} {a b:Int} {w:World}:(eqGuard op t x y (.int k a) (.int k' b)).run P w= .ok () w:=by
 unfold eqGuard
 cases op<;>simp
theorem Gb {op:BinOp} {xt yt:TypeId} {x y:Operand} {K:AV->Prop} (ho:o.op= .binOp op xt x y yt) (h:Jw op (ev F x) (ev F y) K):∃av,bN P X o F M av [] []/\K av:=by
 have hx:x ∈ o.op.operands.toList:=by simp[ho,Op.operands]
 have hy:y ∈ o.op.operands.toList:=by simp[ho,Op.operands]
 cases bY:ev F x with
 |int k a=>
  cases Gc:ev F y with
  |int k' b=>
   rw[bY,Gc]at h
   have go:∀av v,(∀ρ L I w N,aL ρ L I w N av v)->(∀w,(binOp op xt (.int k a) (.int k' b)).run P w= .ok v w)->K av->∃av,bN P X o F M av [] []/\K av:=by
    intro av v hr hrun hk
    refine⟨av,aF fun M' N ρ I ac w hW hU hN=>⟨v,?_,hr _ _ _ _ _⟩,hk⟩
    have r1:=bG (bY ▸ aq hU x hx)
    have r2:=bG (Gc ▸ aq hU y hy)
    simp only[execOp,ho,r1,r2,Sem.run_bind,yC,Result.andThen_ok,hrun,Sem.run_pure]
   have RI:∀n,(∀w,(binOp op xt (.int k a) (.int k' b)).run P w= .ok (.int k n) w)->K (.int k n)->∃av,bN P X o F M av [] []/\K av:=fun n=>go _ _ (fun _ _ _ _ _=> .int _ _)
   have goB:∀t,(∀w,(binOp op xt (.int k a) (.int k' b)).run P w= .ok (.bool t) w)->K (.bool t)->∃av,bN P X o F M av [] []/\K av:=fun n=>go _ _ (fun _ _ _ _ _=> .bool _)
   clear go
   cases op<;>simp only[Jw]at h
   case shl=>
    have:¬b<0:=by omega
    exact RI _ (fun w=>by simp[binOp,Op.shift,this,pY]) h.2
   case shr=>
    have:¬b<0:=by omega
    exact RI _ (fun w=>by simp[binOp,Op.shift,this,fC]) h.2
   case quo=>
    obtain⟨h0,h1⟩:=h
    obtain⟨hk,h2⟩:=ax h1
    have hk:=iY hk; subst hk
    exact RI _ (fun w=>by simp[binOp,Op.intDiv,h0,wr]) h2
   case rem=>
    obtain⟨h0,h1⟩:=h
    obtain⟨hk,h2⟩:=ax h1
    have hk:=iY hk; subst hk
    exact RI _ (fun w=>by simp[binOp,Op.intDiv,h0]) h2
   all_goals
    obtain⟨hk,h2⟩:=ax h
    have hk:=iY hk; subst hk
    first
     |(refine RI _ (fun w=> ?_) h2; simp[binOp,Op.intArith,wr]; done)
     |(refine RI _ (fun w=> ?_) h2; simp only[binOp,ne_eq,not_true_eq_false,if_false]; rfl)
     |(refine goB _ (fun w=> ?_) h2; simp[binOp,Op.intCmp]; done)
  |_=>rw[bY,Gc]at h; cases op<;>exact h.elim
 |_=>rw[bY]at h; cases op<;>exact h.elim
theorem JA {op:UnOp} {xt:TypeId} {x:Operand} {K:AV->Prop} (ho:o.op= .unOp op xt x) (h:R' op (ev F x) K):∃av,bN P X o F M av [] []/\K av:=by
 have hx:x ∈ o.op.operands.toList:=by simp[ho,Op.operands]
 cases bY:ev F x with
 |int k n=>
  rw[bY]at h
  cases op<;>simp only[R']at h
  ·refine⟨_,aF fun M' N ρ I ac w hW hU hN=>⟨.int k (wr k (0 - n)),?_,.int _ _⟩,h⟩
   have r1:=bG (bY ▸ aq hU x hx)
   simp[execOp,ho,r1,Op.unary,Op.intArith,wr]
  ·refine⟨_,aF fun M' N ρ I ac w hW hU hN=>⟨.int k (eE .xor k (if k.signed then -1 else k.max) n),?_,.int _ _⟩,h⟩
   have r1:=bG (bY ▸ aq hU x hx)
   simp[execOp,ho,r1,Op.unary,Op.intBits,eE]
 |bool b=>
  rw[bY]at h
  cases op<;>simp only[R']at h
  refine⟨_,aF fun M' N ρ I ac w hW hU hN=>⟨.bool !b,?_,.bool _⟩,h⟩
  have r1:=gn (bY ▸ aq hU x hx)
  simp[execOp,ho,r1,Op.unary]
 |_=>rw[bY]at h; cases op<;>exact h.elim
theorem run_convert_int {s t:Nat} {k k':IntKind} {n:Int} {w:World} {D:TypeDesc} (hs:P.underlying s=some D) (ht:P.underlying t=some (.int k)):(convert s t (.int k' n)).run P w= .ok (.int k (wr k n)) w:=by
 simp[convert,run_underlying hs,run_underlying ht,Conv.intToInt,wr]
theorem vC (hT:dp P T) {s t:Nat} {x:Operand} {K:AV->Prop} (ho:o.op= .convert s t x) (hs:(T.d s).ok=true) (h:Sa (T.d t) (ev F x) K):∃av,bN P X o F M av [] []/\K av:=by
 have hx:x ∈ o.op.operands.toList:=by simp[ho,Op.operands]
 obtain⟨Ds,_,_,Yh,_⟩:=hT s (TD.dT hs)
 cases ht:T.d t with
 |int k=>
  rw[ht]at h
  obtain⟨D,it,z,hD,hf,_⟩:=hT t (by rw[ht]; simp)
  have im:=fits_int ht hf
  subst im
  cases bY:ev F x with
  |int k' n=>
   rw[bY]at h
   refine⟨_,aF fun M' N ρ I ac w hW hU hN=>⟨.int k (wr k n),?_,.int _ _⟩,h⟩
   have r1:=bG (bY ▸ aq hU x hx)
   simp only[execOp,ho,r1,Sem.run_bind,run_convert_int Yh hD,Result.andThen_ok,Sem.run_pure]
  |_=>rw[bY]at h; exact h.elim
 |str=>
  rw[ht]at h
  obtain⟨D,it,z,hD,hf,_⟩:=hT t (by rw[ht]; simp)
  have im:=gl ht hf
  subst im
  cases bY:ev F x with
  |str l=>
   rw[bY]at h
   refine⟨_,aF fun M' N ρ I ac w hW hU hN=>⟨.string ⟨l.toArray⟩,?_,.str _⟩,h⟩
   have r1:=gW (bY ▸ aq hU x hx)
   simp[execOp,ho,r1,convert,run_underlying Yh,run_underlying hD]
  |_=>rw[bY]at h; exact h.elim
 |_=>rw[ht]at h; exact h.elim
theorem u3 {x:Operand} {K:AV->Prop} {Ml:Mem} (hM:M=ab Ml) (ho:o.op= .nilCheck x)
  (h:(∃n len i q,ev F x= .loc n len i q/\alive Ml n len fun _=>K (.loc n len i q))\/(∃e q,ev F x= .bh e q/\K (.bh e q))\/(∃f cs,ev F x= .bR f cs/\K (.bR f cs))):∃av,bN P X o F M av [] []/\K av:=by
 have hx:x ∈ o.op.operands.toList:=by simp[ho,Op.operands]
 rcases h with⟨n,len,i,q,bY,h⟩|⟨e,q,bY,h⟩|⟨f,cs,bY,h⟩
 ·simp only[alive]at h
  cases hb:ab Ml n with
  |none=>rw[hb]at h; exact h.elim
  |some b=>
   rw[hb]at h
   obtain⟨hc1,hmp,hk⟩:=ax h
   have hl:b.ln=len:=by simpa using hc1
   refine⟨_,aF fun M' N ρ I a w hW hU hN=> ?_,hk⟩
   have r1:=aq hU x hx
   rw[bY]at r1
   obtain⟨sl,eQ,eY⟩:=bj (F:=F) x hx (n:=n) (by rw[bY]; simp[AV.names])
   have cD:M' n=some b:=(hN sl eQ n eY).trans (by rw[hM]; exact hb)
   have dV:lens M' n=some (len,b.sz):=by rw[aA]; exact⟨b,cD,hl,rfl⟩
   obtain⟨hn,g,cap,hρ,hv⟩:=gj r1 dV
   exact⟨_,by simp only[execOp,ho,hv,Sem.run_pure],gK hn dV hρ⟩
 ·refine⟨_,aF fun M' N ρ I a w hW hU hN=> ?_,h⟩
  have r1:=aq hU x hx
  rw[bY]at r1
  generalize hv:a.eval x=v at r1
  cases r1 with
  |bh _ _ b q' c hI h1 hcell hr=>exact⟨_,by simp only[execOp,ho,hv,Sem.run_pure],.bh e q b q' c hI h1 hcell hr⟩
 ·refine⟨_,aF fun M' N ρ I a w hW hU hN=> ?_,h⟩
  have r1:=aq hU x hx
  rw[bY]at r1
  generalize hv:a.eval x=v at r1
  cases r1 with
  |bR f _ vs hl hr=>exact⟨_,by simp only[execOp,ho,hv,Sem.run_pure],.bR f cs vs hl hr⟩
  |qI f _ vs hl hr=>exact⟨_,by simp only[execOp,ho,hv,Sem.run_pure],.qI f cs vs hl hr⟩
theorem om:∀l:List Operand,(oO F l).length=l.length
 |[]=>rfl
 |_::r=>by simp[oO,om r]
theorem yD:∀ (l:List Operand) (j:Nat) (hj:j<l.length),(oO F l).getD j .bad=ev F l[j]
 |x::r,0,_=>rfl
 |x::r,j+1,h=>by simpa[oO]using yD r j (by simpa using h)
theorem jc {ρ:Place} {L:aZ} {I:Nat->Prop} {w:World} {N:Nat->Prop} {a:Act} (l:List Operand) (h:∀x ∈ l,aL ρ L I w N (ev F x) (a.eval x)):dw ρ L I w N (oO F l) (l.map a.eval):=by
 refine⟨by simp[om],fun j hj=> ?_⟩
 rw[om]at hj
 rw[yD l j hj]
 have:(l.map a.eval).getD j default=a.eval l[j]:=by simp[List.getD_eq_getElem?_getD,hj]
 rw[this]
 exact h _ (List.getElem_mem _)
theorem u4 {f:Nat} {first aS:Array Operand} (ho:o.op= .makeFunc (.func f) first aS) (h0:first.isEmpty=true):bN P X o F M (.bR (.fn f) (oO F aS.toList)) [] []:=by
 refine aF fun M' N ρ I a w hW hU hN=>⟨.func (.func f) #[] ((aS.toList.map a.eval).toArray),?_,?_⟩
 ·have:first= #[]:=by simpa using h0
  subst this
  have e:Array.map a.eval aS=(List.map a.eval aS.toList).toArray:=by apply Array.ext'; simp
  simp[execOp,ho,Instr.makeFunc,e]
 ·have:=jc (F:=F) (ρ:=ρ) (L:=lens M') (I:=I) (w:=w) (N:=N) (a:=a) aS.toList (fun x hx=>aq hU x (by simp only[ho,Op.operands]; simp only[Array.toList_append]; exact List.mem_append_right _ hx))
  exact .bR f _ _ this.1 this.2
theorem xb {x:Operand} {i:Nat} {vs:List AV} (ho:o.op= .extract x i) (hx':ev F x= .aN vs) (hi:i<vs.length):bN P X o F M (vs.getD i .bad) [] []:=by
 have hx:x ∈ o.op.operands.toList:=by simp[ho,Op.operands]
 refine aF fun M' N ρ I a w hW hU hN=> ?_
 have r1:=aq hU x hx
 rw[hx']at r1
 generalize hv:a.eval x=v at r1
 cases r1 with
 |aN _ us hl hr=>
  have hi':i<us.length:=by omega
  refine⟨us.getD i default,?_,hr i hi⟩
  have:us.toArray[i]? =some (us.getD i default):=by simp[hi',List.getD_eq_getElem?_getD]
  simp only[execOp,ho,hv,Instr.extract,this,Sem.run_bind,Sem.run_pure,Result.andThen_ok]
end Go.AM
namespace Go.AM
open Go.RowKit
variable {P:Program} {T:TT} {X:cq} {o:Oper} {F:aW} {M:bv}
theorem rG {α:Type} (l:List α) (h q i:Nat) (d:α) (hi:i<h - q):((l.take h).drop q).getD i d=l.getD (q+i) d:=by
 simp only[List.getD_eq_getElem?_getD,List.getElem?_drop,List.getElem?_take]
 rw[if_pos (by omega)]
theorem yE {ρ:Place} {L:aZ} {I:Nat->Prop} {w:World} {N:Nat->Prop} {sz:Nat} {es:List (List AV)} {a:Option Addr} {len cap:Nat} (h:aL ρ L I w N (.aH sz es) (.slice a len cap)) (l q m:Nat)
  (h1:l<=q) (h2:q<=es.length) (h3:q<=m) (h4:m<=cap):len=es.length/\aL ρ L I w N (.aH sz ((es.take q).drop l)) (.slice (if m=l then a else a.map (·.add (l*sz))) (q - l) (m - l)):=by
 cases h with
 |cP _ _ _ hc=>
  simp at h2
  have hl:l=0:=by omega
  subst hl; subst h2
  exact⟨rfl,by simpa using aL.cP sz _ (m - 0) (by omega)⟩
 |aH _ _ b o _ c hl hc hI hs Se hcell hr=>
  refine⟨rfl,?_⟩
  by_cases hz:q - l=0
  ·have e:(es.take q).drop l=[]:=List.eq_nil_of_length_eq_zero (by simp; omega)
   rw[e,hz]
   exact .cP sz _ _ (by omega)
  ·have hm:m≠l:=by omega
   have hlen:((es.take q).drop l).length=q - l:=by simp; omega
   rw[if_neg hm]
   have e:(Option.map (fun x:Addr=>x.add (l*sz)) (some ⟨b,o,none⟩))=some ⟨b,o+l*sz,none⟩:=by simp[cg]
   rw[e,<-hlen]
   refine .aH sz _ b (o+l*sz) (m - l) (fun i j=>c (l+i) j) (by omega) (by omega) hI (fun e he=>hs e (List.mem_of_mem_take (List.mem_of_mem_drop he))) (fun i j hi hj=>Se _ _ (by omega) hj) (fun i j hi hj=> ?_) (fun i j hi hj=> ?_)
   ·have:=hcell (l+i) j (by omega) hj
    rw[Nat.add_mul,<-Nat.add_assoc]at this
    exact this
   ·rw[rG _ _ _ _ _ (by omega)]
    exact hr (l+i) j (by omega) hj
theorem run_sliceBound {k:IntKind} {i:Int} {y:Nat} {c:BoundsCode} {w:World} (h:0<=i/\i<=y):(Instr.sliceBound (.int k i) y c).run P w= .ok i.toNat w:=by
 simp[Instr.sliceBound,asIntOf,h]
theorem qV {t e:Nat} {ie:TypeInfo} {a:Option Addr} {len cap:Nat} {lo hi mx:Option Value} {w:World} (hD:P.underlying t=some (.slice e)) (hi':P.info? e=some ie) {l h m:Nat}
  (hb:(Instr.sliceBounds true len cap lo hi mx).run P w= .ok (l,h,m) w):(Instr.sliceAt t (.slice a len cap) lo hi mx).run P w= .ok (.slice (if m=l then a else a.map (·.add (l*ie.size))) (h - l) (m - l)) w:=by
 simp only[Instr.sliceAt,Sem.run_bind,run_underlying hD,Result.andThen_ok,Instr.slice,hb,bE hi',Sem.run_pure]
theorem rH {t:Nat} {s:ByteArray} {lo hi:Option Value} {w:World} (hD:P.underlying t=some .string) {l h m:Nat}
  (hb:(Instr.sliceBounds false s.size s.size lo hi none).run P w= .ok (l,h,m) w):(Instr.sliceAt t (.string s) lo hi none).run P w= .ok (.string (s.extract l h)) w:=by
 simp[Instr.sliceAt,run_underlying hD,Instr.slice,hb]
theorem rZ {ρ:Place} {L:aZ} {I:Nat->Prop} {w:World} {N:Nat->Prop} {sz:Nat} {es:List (List AV)} {v:Value} (h:aL ρ L I w N (.aH sz es) v):∃a cap,v= .slice a es.length cap/\es.length<=cap:=by
 cases h with
 |cP _ a cap hc=>exact⟨a,cap,rfl,Nat.zero_le _⟩
 |aH _ _ b o cap c hl=>exact⟨_,cap,rfl,hl⟩
theorem yF (s:List UInt8) (l h:Nat) (hh:h<=s.length):(⟨s.toArray⟩:ByteArray).extract l h=⟨((s.take h).drop l).toArray⟩:=by
 apply ByteArray.ext
 apply Array.ext'
 rw[Lib.extract_data]
 simp[List.drop_take]
theorem sH (hT:dp P T) {t:Nat} {x:Operand} {lo hi mx:Option Operand} {K:AV->Prop} {Ml:Mem} (ho:o.op= .slice t x lo hi mx) (h:p6 T t (ev F x) (uQ F lo) (uQ F hi) (uQ F mx) Ml K):∃av,bN P X o F M av [] []/\K av:=by
 have hx:x ∈ o.op.operands.toList:=by simp[ho,Op.operands]
 have hlo:∀y,lo=some y->y ∈ o.op.operands.toList:=by rintro y rfl; simp[ho,Op.operands]
 have hhi:∀y,hi=some y->y ∈ o.op.operands.toList:=by rintro y rfl; simp[ho,Op.operands]
 have RJ:∀y,mx=some y->y ∈ o.op.operands.toList:=by rintro y rfl; simp[ho,Op.operands]
 unfold p6 at h
 cases ht:T.d t with
 |slice e=>
  rw[ht]at h
  obtain⟨hok,h⟩:=ax h
  obtain⟨D,it,z,hD,hf,_⟩:=hT t (by rw[ht]; simp)
  have im:=bV ht hf
  subst im
  obtain⟨_,ie,_,_,_,hie,mN,_⟩:=hT e (TD.dT hok)
  cases bY:ev F x with
  |aH sz es=>
   rw[bY]at h
   obtain⟨hsz,h⟩:=ax h
   have hsz:sz=ie.size:=by rw[mN]; simpa using hsz
   have fin':∀ (l q:Nat),l<=q->q<=es.length->(∀cap (a:Act) w,es.length<=cap->(∀y ∈ o.op.operands.toList,∀k n,ev F y= .int k n->a.eval y= .int k n)->∃m,q<=m/\m<=cap/\(Instr.sliceBounds true es.length cap (lo.map a.eval) (hi.map a.eval) (mx.map a.eval)).run P w= .ok (l,q,m) w)->bN P X o F M (.aH sz ((es.take q).drop l)) [] []:=by
    intro l q h1 h2 hb
    refine aF fun M' N ρ I a w hW hU hN=> ?_
    have r1:=aq hU x hx
    rw[bY]at r1
    obtain⟨ad,cap,hv,hcap⟩:=rZ r1
    obtain⟨m,Zk,RK,hb⟩:=hb cap a w hcap (fun y hy k n NF=>bG (NF ▸ aq hU y hy))
    rw[hv]at r1
    obtain⟨_,r2⟩:=yE r1 l q m h1 h2 Zk RK
    refine⟨_,?_,r2⟩
    simp only[execOp,ho,hv,Sem.run_bind,qV hD hie hb,Result.andThen_ok,Sem.run_pure,hsz]
   cases lo with
   |none=>
    cases hi with
    |none=>cases mx<;>exact h.elim
    |some yh=>
     cases xc:ev F yh with
     |int kh nh=>
      cases mx with
      |none=>
       simp only[uQ,xc]at h
       refine⟨_,fin' 0 nh.toNat (by omega) (by omega) ?_,by simpa using h.2⟩
       intro cap a w hc uY
       refine⟨cap,by omega,Nat.le_refl _,?_⟩
       have e1:=uY yh (hhi yh rfl) kh nh xc
       simp only[Option.map_none,Option.map_some,e1,Instr.sliceBounds,Sem.run_bind,Sem.run_pure,Result.andThen_ok,run_sliceBound (show 0<=nh/\nh<=(cap:Int) by omega)]
      |some ym=>
       cases lO:ev F ym with
       |int km nm=>
        simp only[uQ,xc,lO]at h
        refine⟨_,fin' 0 nh.toNat (by omega) (by omega) ?_,by simpa using h.2⟩
        intro cap a w hc uY
        refine⟨nm.toNat,by omega,by omega,?_⟩
        have e1:=uY yh (hhi yh rfl) kh nh xc
        have e2:=uY ym (RJ ym rfl) km nm lO
        simp only[Option.map_none,Option.map_some,e1,e2,Instr.sliceBounds,Sem.run_bind,Sem.run_pure,Result.andThen_ok,run_sliceBound (show 0<=nm/\nm<=(cap:Int) by omega),run_sliceBound (show 0<=nh/\nh<=(nm.toNat:Int) by omega)]
       |_=>simp only[uQ,xc,lO]at h
     |_=>cases mx<;>(simp only[uQ,xc]at h)
   |some yl=>
    cases AX:ev F yl with
    |int kl nl=>
     cases hi with
     |none=>
      cases mx with
      |none=>
       simp only[uQ,AX]at h
       refine⟨_,fin' nl.toNat es.length (by omega) (Nat.le_refl _) ?_,by simpa using h.2⟩
       intro cap a w hc uY
       refine⟨cap,by omega,Nat.le_refl _,?_⟩
       have e1:=uY yl (hlo yl rfl) kl nl AX
       simp only[Option.map_none,Option.map_some,e1,Instr.sliceBounds,Sem.run_bind,Sem.run_pure,Result.andThen_ok,run_sliceBound (show 0<=nl/\nl<=(es.length:Int) by omega)]
      |some ym=>simp only[uQ,AX]at h
     |some yh=>
      cases xc:ev F yh with
      |int kh nh=>
       cases mx with
       |none=>
        simp only[uQ,AX,xc]at h
        refine⟨_,fin' nl.toNat nh.toNat (by omega) (by omega) ?_,by simpa using h.2⟩
        intro cap a w hc uY
        refine⟨cap,by omega,Nat.le_refl _,?_⟩
        have e1:=uY yl (hlo yl rfl) kl nl AX
        have e2:=uY yh (hhi yh rfl) kh nh xc
        simp only[Option.map_none,Option.map_some,e1,e2,Instr.sliceBounds,Sem.run_bind,Sem.run_pure,Result.andThen_ok,run_sliceBound (show 0<=nh/\nh<=(cap:Int) by omega),run_sliceBound (show 0<=nl/\nl<=(nh.toNat:Int) by omega)]
       |some ym=>simp only[uQ,AX,xc]at h
      |_=>cases mx<;>(simp only[uQ,AX,xc]at h)
    |_=>cases hi<;>cases mx<;>(simp only[uQ,AX]at h)
  |_=>rw[bY]at h; exact h.elim
 |str=>
  rw[ht]at h
  obtain⟨D,it,z,hD,hf,_⟩:=hT t (by rw[ht]; simp)
  have im:=gl ht hf
  subst im
  cases bY:ev F x with
  |str s=>
   rw[bY]at h
   have fin':mx=none->∀ (l q:Nat),l<=q->q<=s.length->(∀ (a:Act) w,(∀y ∈ o.op.operands.toList,∀k n,ev F y= .int k n->a.eval y= .int k n)->∃m,(Instr.sliceBounds false s.length s.length (lo.map a.eval) (hi.map a.eval) none).run P w= .ok (l,q,m) w)->bN P X o F M (.str ((s.take q).drop l)) [] []:=by
    intro Zl l q h1 h2 hb
    refine aF fun M' N ρ I a w hW hU hN=> ?_
    have r1:=gW (bY ▸ aq hU x hx)
    obtain⟨m,hb⟩:=hb a w (fun y hy k n NF=>bG (NF ▸ aq hU y hy))
    refine⟨.string ⟨((s.take q).drop l).toArray⟩,?_,.str _⟩
    have hb':(Instr.sliceBounds false (⟨s.toArray⟩:ByteArray).size (⟨s.toArray⟩:ByteArray).size (lo.map a.eval) (hi.map a.eval) none).run P w= .ok (l,q,m) w:=hb
    rw[<-yF s l q h2]
    subst Zl
    simp only[execOp,ho,r1,Sem.run_bind,Option.map_none,rH hD hb',Result.andThen_ok,Sem.run_pure]
   cases mx with
   |some ym=>cases lo<;>cases hi<;>first|exact h.elim|(simp only[uQ]at h; split at h<;>first|exact h.elim|(rename_i hh; simp at hh))
   |none=>
    cases lo with
    |none=>
     cases hi with
     |none=>exact h.elim
     |some yh=>
      cases xc:ev F yh with
      |int kh nh=>
       simp only[uQ,xc]at h
       refine⟨_,fin' rfl 0 nh.toNat (by omega) (by omega) ?_,by simpa using h.2⟩
       intro a w uY
       have e1:=uY yh (hhi yh rfl) kh nh xc
       refine⟨s.length,?_⟩
       simp only[Option.map_none,Option.map_some,e1,Instr.sliceBounds,Sem.run_bind,Sem.run_pure,Result.andThen_ok,Bool.false_eq_true,if_false,run_sliceBound (show 0<=nh/\nh<=(s.length:Int) by omega)]
      |_=>simp only[uQ,xc]at h
    |some yl=>
     cases AX:ev F yl with
     |int kl nl=>
      cases hi with
      |none=>
       simp only[uQ,AX]at h
       refine⟨_,fin' rfl nl.toNat s.length (by omega) (Nat.le_refl _) ?_,by simpa using h.2⟩
       intro a w uY
       have e1:=uY yl (hlo yl rfl) kl nl AX
       refine⟨s.length,?_⟩
       simp only[Option.map_none,Option.map_some,e1,Instr.sliceBounds,Sem.run_bind,Sem.run_pure,Result.andThen_ok,run_sliceBound (show 0<=nl/\nl<=(s.length:Int) by omega)]
      |some yh=>
       cases xc:ev F yh with
       |int kh nh=>
        simp only[uQ,AX,xc]at h
        refine⟨_,fin' rfl nl.toNat nh.toNat (by omega) (by omega) ?_,by simpa using h.2⟩
        intro a w uY
        have e1:=uY yl (hlo yl rfl) kl nl AX
        have e2:=uY yh (hhi yh rfl) kh nh xc
        refine⟨s.length,?_⟩
        simp only[Option.map_none,Option.map_some,e1,e2,Instr.sliceBounds,Sem.run_bind,Sem.run_pure,Result.andThen_ok,Bool.false_eq_true,if_false,run_sliceBound (show 0<=nh/\nh<=(s.length:Int) by omega),run_sliceBound (show 0<=nl/\nl<=(nh.toNat:Int) by omega)]
       |_=>simp only[uQ,AX,xc]at h
     |_=>cases hi<;>(simp only[uQ,AX]at h)
  |_=>rw[bY]at h; exact h.elim
 |_=>rw[ht]at h; exact h.elim
end Go.AM
namespace Go.AM
open Go.RowKit
variable {P:Program} {T:TT} {X:cq} {o:Oper} {F:aW} {M:bv}
def dx (ρ:Place) (L:aZ) (I:Nat->Prop) (w:World) (N:Nat->Prop) (sz:Nat) (xs:List (List AV)) (vs:List Value):Prop:=
 vs.length=xs.length*sz/\(∀e ∈ xs,e.length=sz)/\∀i j,i<xs.length->j<sz->∃u,vs[i*sz+j]? =some u/\u.oneCell'=true/\aL ρ L I w N ((xs.getD i []).getD j .bad) u
theorem me {i j n sz:Nat} (hi:i<n) (hj:j<sz):i*sz+j<n*sz:=by
 have:(i+1)*sz<=n*sz:=Nat.mul_le_mul_right _ hi
 rw[Nat.add_mul,Nat.one_mul]at this
 omega
theorem dx.append {ρ:Place} {L:aZ} {I:Nat->Prop} {w:World} {N:Nat->Prop} {sz:Nat} {xs ys:List (List AV)} {vs us:List Value} (h:dx ρ L I w N sz xs vs) (k:dx ρ L I w N sz ys us):dx ρ L I w N sz (xs++ys) (vs++us):=by
 obtain⟨h1,h2,h3⟩:=h
 obtain⟨k1,k2,k3⟩:=k
 refine⟨by simp[h1,k1,Nat.add_mul],fun e he=> ?_,fun i j hi hj=> ?_⟩
 ·rcases List.mem_append.1 he with he|he
  ·exact h2 e he
  ·exact k2 e he
 ·by_cases hl:i<xs.length
  ·obtain⟨u,hu,hr⟩:=h3 i j hl hj
   have:=me (sz:=sz) hl hj
   refine⟨u,by rw[List.getElem?_append_left (by omega)]; exact hu,?_⟩
   have e:(xs++ys).getD i []=xs.getD i []:=by simp[List.getD_eq_getElem?_getD,List.getElem?_append_left hl]
   rw[e]; exact hr
  ·simp at hi
   obtain⟨u,hu,hr⟩:=k3 (i - xs.length) j (by omega) hj
   have hm:xs.length*sz<=i*sz:=Nat.mul_le_mul_right _ (by omega)
   have e1:i*sz+j - vs.length=(i - xs.length)*sz+j:=by rw[h1,Nat.sub_mul]; omega
   refine⟨u,by rw[List.getElem?_append_right (by omega),e1]; exact hu,?_⟩
   have e:(xs++ys).getD i []=ys.getD (i - xs.length) []:=by simp[List.getD_eq_getElem?_getD,List.getElem?_append_right (Nat.le_of_not_lt hl)]
   rw[e]; exact hr
theorem dx.one {ρ:Place} {L:aZ} {I:Nat->Prop} {w:World} {N:Nat->Prop} {sz:Nat} {xs:List (List AV)} {vs:List Value} (h:dx ρ L I w N sz xs vs):∀u ∈ vs,u.oneCell'=true:=by
 intro u hu
 obtain⟨k,hk,rfl⟩:=List.mem_iff_getElem.1 hu
 have hk':k<xs.length*sz:=by rw[<-h.1]; exact hk
 have hsz:0<sz:=by rcases Nat.eq_zero_or_pos sz with h|h; (subst h; simp at hk'); exact h
 have hi:k / sz<xs.length:=by rw[Nat.div_lt_iff_lt_mul hsz]; exact hk'
 obtain⟨u,hu,h1,_⟩:=h.2.2 (k / sz) (k % sz) hi (Nat.mod_lt _ hsz)
 rw[Nat.mul_comm,Nat.div_add_mod,List.getElem?_eq_getElem hk]at hu
 cases hu
 exact h1
theorem dx.uO {ρ ρ':Place} {L L':aZ} {I I':Nat->Prop} {w w':World} {N:Nat->Prop} {sz:Nat} {xs:List (List AV)} {vs:List Value} (E:mI N ρ L I w ρ' L' I' w') (h:dx ρ L I w N sz xs vs):dx ρ' L' I' w' N sz xs vs:=
 ⟨h.1,h.2.1,fun i j hi hj=>let ⟨u,hu,h1,hr⟩:=h.2.2 i j hi hj; ⟨u,hu,h1,hr.uO E (fun _ h=>h)⟩⟩
def vD (P:Program) (sz:Nat) (v:Value) (n:Nat) (vs:List Value) (w:World):Prop:=
 ∀m,m<=n->(Builtin.firstCells sz m v).run P w= .ok (vs.take (m*sz)).toArray w
theorem vD.nil {sz n c:Nat} {w:World}:vD P sz (.slice none n c) 0 [] w:=fun m hm=>by
 rw[List.take_nil]; exact run_firstCells_none w sz m n c
theorem vD.some {sz n c k:Nat} {a:Addr} {vs:List Value} {w:World} (hl:vs.length=n*sz) (h:∀j u,vs[j]? =some u->w.cell? (a.add j)=some u):vD P sz (.slice (some a) k c) n vs w:=fun m hm=>
 run_firstCells_some w sz m a k c (vs.take (m*sz)) (by rw[List.length_take,hl]; exact Nat.min_eq_left (Nat.mul_le_mul_right _ hm)) (fun j u hu=>by
  rw[List.getElem?_take]at hu
  split at hu
  ·exact h j u hu
  ·cases hu)
theorem vD.str {s:ByteArray} {w:World}:vD P 1 (.string s) s.size (byteCells s) w:=fun m hm=>by
 simp only[Builtin.firstCells,Sem.run_pure,Nat.mul_one]
 congr 1
 apply Array.ext'
 simp[byteCells,Lib.extract_data,List.map_take]
theorem Gd {ρ:Place} {L:aZ} {I:Nat->Prop} {w:World} {N:Nat->Prop} {sz:Nat} {es:List (List AV)} {v:Value} {tx e:TypeId} (h:aL ρ L I w N (.aH sz es) v) (hk:P.underlying tx=some (.slice e)):
  ∃vs,Src P sz tx v es.length vs w/\dx ρ L I w N sz es vs/\vD P sz v es.length vs w:=by
 cases h with
 |cP _ a cap hc=>
  cases a with
  |none=>exact⟨[],Src.ofNil w hk cap,⟨by simp,by simp,fun i j hi=>by simp at hi⟩,vD.nil⟩
  |some a=>exact⟨[],Src.ofSlice w hk a 0 cap [] (by simp) (by simp) (by simp),⟨by simp,by simp,fun i j hi=>by simp at hi⟩,vD.some (by simp) (by simp)⟩
 |aH _ _ b o cap c hl hc hI hs h1 hcell hr=>
  have hlo:dx ρ L I w N sz es ((List.range (es.length*sz)).map fun k=>c (k / sz) (k % sz)):=by
   refine⟨by simp,hs,fun i j hi hj=> ?_⟩
   have hlt:=me (sz:=sz) hi hj
   have hsz:0<sz:=by omega
   have e1:(i*sz+j) / sz=i:=by rw[Nat.mul_comm,Nat.mul_add_div hsz,Nat.div_eq_of_lt hj,Nat.add_zero]
   have e2:(i*sz+j) % sz=j:=by rw[Nat.mul_comm,Nat.mul_add_mod,Nat.mod_eq_of_lt hj]
   refine⟨c i j,by simp[hlt,e1,e2],h1 i j hi hj,(hr i j hi hj).wide (fun _ h=>h.elim)⟩
  have lP:∀k u,((List.range (es.length*sz)).map fun k=>c (k / sz) (k % sz))[k]? =some u->w.cell? ((⟨b,o,none⟩:Addr).add k)=some u:= ?_
  ·exact⟨_,Src.ofSlice w hk _ _ _ _ hlo.1 lP hlo.one,hlo,vD.some hlo.1 lP⟩
  intro k u hu
  have hk':k<es.length*sz:=by
   have:=(List.getElem?_eq_some_iff.1 hu).1
   simpa using this
  have hsz:0<sz:=by rcases Nat.eq_zero_or_pos sz with h|h; (subst h; simp at hk'); exact h
  have hi:k / sz<es.length:=by rw[Nat.div_lt_iff_lt_mul hsz]; exact hk'
  have lZ:=hcell (k / sz) (k % sz) hi (Nat.mod_lt _ hsz)
  have Cn:c (k / sz) (k % sz)=u:=by simpa[hk']using hu
  rw[cg,<-Cn,<-lZ]
  have:k / sz*sz+k % sz=k:=by rw[Nat.mul_comm]; exact Nat.div_add_mod _ _
  rw[Nat.add_assoc,this]
theorem Ge {ρ:Place} {L:aZ} {I:Nat->Prop} {w:World} {N:Nat->Prop} {s:List UInt8} {tx:TypeId} (hk:P.underlying tx=some .string):
  Src P 1 tx (.string ⟨s.toArray⟩) s.length (byteCells ⟨s.toArray⟩) w/\dx ρ L I w N 1 (s.map fun c=>[.int .u8 c.toNat]) (byteCells ⟨s.toArray⟩)/\vD P 1 (.string ⟨s.toArray⟩) s.length (byteCells ⟨s.toArray⟩) w:=by
 have h:=Src.ofString w hk (⟨s.toArray⟩:ByteArray)
 refine⟨h,⟨by simp[byteCells],fun e he=> ?_,fun i j hi hj=> ?_⟩,vD.str⟩
 ·obtain⟨_,_,rfl⟩:=List.mem_map.1 he
  rfl
 ·have hj':j=0:=by omega
  subst hj'
  simp at hi
  refine⟨.int .u8 s[i].toNat,by simp[byteCells,hi],rfl,?_⟩
  have:((s.map fun c=>[AV.int .u8 c.toNat]).getD i []).getD 0 .bad= .int .u8 s[i].toNat:=by simp[List.getD_eq_getElem?_getD,hi]
  rw[this]; exact .int _ _
theorem sr.list {C:cq} {ρ:Place} {L:aZ} {I:Nat->Prop} {w:World} {N:Nat->Prop} {n:Nat} {b:bg} (B:sr C ρ L I w N n b) (hmp:b.mp=none) {g cap:Nat} (hρ:ρ n=some (g,cap)):
  ∃vs,dx ρ L I w N b.sz b.es vs/\∀k u,vs[k]? =some u->w.cell? ⟨g,k,none⟩=some u:=by
 obtain⟨cs,fr,hg,_,_,_,hlc,_,hcs,hc⟩:=B.real g cap hρ
 have hg:=hg.cells hmp
 have hle:b.es.length*b.sz<=cs.size:=by rw[hcs]; exact Nat.mul_le_mul_right _ hlc
 refine⟨cs.toList.take (b.es.length*b.sz),⟨by simp; omega,B.even,fun i j hi hj=> ?_⟩,fun k u hu=> ?_⟩
 ·obtain⟨u,hu,hr⟩:=hc i j hi hj
  exact⟨u,by rw[List.getElem?_take,if_pos (me hi hj)]; simpa using hu,hr⟩
 ·rw[List.getElem?_take]at hu
  split at hu
  ·simp only[World.cell?,hg]; simpa using hu
  ·cases hu
theorem Gf {ρ:Place} {I:Nat->Prop} {w:World} {N:Nat->Prop} {n:Nat} {b:bg} {v:Value} {tx e:TypeId} (hW:c9 X ρ I M N w) (hb:M n=some b) (hmp:b.mp=none) (h:aL ρ (lens M) I w N (.bc n b.es.length) v) (hk:P.underlying tx=some (.slice e)):
  ∃vs,Src P b.sz tx v b.es.length vs w/\dx ρ (lens M) I w N b.sz b.es vs/\vD P b.sz v b.es.length vs w:=by
 have dV:lens M n=some (b.es.length,b.sz):=by rw[aA]; exact⟨b,hb,bg.dg hmp,rfl⟩
 obtain⟨hn,h2⟩:=jO h dV
 have B:=hW.aT n b hb
 rcases h2 with⟨h0,q,hv⟩|⟨g,cap,hρ,hv⟩
 ·have he:=B.eD h0
  subst hv
  rw[he]
  cases q with
  |none=>exact⟨[],Src.ofNil w hk 0,⟨by simp,by simp,fun i j hi=>by simp at hi⟩,vD.nil⟩
  |some a=>exact⟨[],Src.ofSlice w hk a 0 0 [] (by simp) (by simp) (by simp),⟨by simp,by simp,fun i j hi=>by simp at hi⟩,vD.some (by simp) (by simp)⟩
 ·obtain⟨vs,h1,h2⟩:=B.list hmp hρ
  subst hv
  have lP:∀k u,vs[k]? =some u->w.cell? ((⟨g,0,none⟩:Addr).add k)=some u:=fun k u hu=>by rw[cg,Nat.zero_add]; exact h2 k u hu
  exact⟨vs,Src.ofSlice w hk _ _ _ _ h1.1 lP h1.one,h1,vD.some h1.1 lP⟩
theorem eo {sz:Nat}:∀ {n:Nat} {r:List AV},(p5 sz n r).length=n
 |0,_=>rfl
 |n+1,r=>by simp[p5,eo]
theorem ku {sz:Nat}:∀ {n:Nat} {r:List AV} {i:Nat},i<n->(p5 sz n r).getD i []=(r.drop (i*sz)).take sz
 |0,_,i,h=>by omega
 |n+1,r,0,h=>by simp[p5]
 |n+1,r,i+1,h=>by
  have:=ku (sz:=sz) (n:=n) (r:=r.drop sz) (i:=i) (by omega)
  simp only[p5,List.getD_cons_succ,this,List.drop_drop]
  congr 2
  rw[Nat.add_mul,Nat.one_mul]; omega
theorem Gg {ρ:Place} {I:Nat->Prop} {w:World} {N:Nat->Prop} {n i off bX sz:Nat} {b:bg} {v:Value} {tx e:TypeId} (hW:c9 X ρ I M N w) (hb:M n=some b) (hmp:b.mp=none) (h:aL ρ (lens M) I w N (.ee n b.es.length i off bX) v) (hi:i<b.es.length)
  (hfit:off+bX*sz<=b.sz) (hk:P.underlying tx=some (.slice e)):
  ∃vs,Src P sz tx v bX vs w/\dx ρ (lens M) I w N sz (p5 sz bX ((b.es.getD i []).drop off)) vs/\vD P sz v bX vs w:=by
 have dV:lens M n=some (b.es.length,b.sz):=by rw[aA]; exact⟨b,hb,bg.dg hmp,rfl⟩
 obtain⟨hn,g,cap,c,hρ,hv,_⟩:=mM h dV
 obtain⟨cs,fr,hg,_,_,_,hlc,_,hcs,hc⟩:=(hW.aT n b hb).real g cap hρ
 have hg:=hg.cells hmp
 have hel:(b.es.getD i []).length=b.sz:=by
  rw[List.getD_eq_getElem?_getD,List.getElem?_eq_getElem hi,Option.getD_some]
  exact (hW.aT n b hb).even _ (List.getElem_mem _)
 have hin:i*b.sz+b.sz<=cs.size:=by
  rw[hcs]
  calc i*b.sz+b.sz=(i+1)*b.sz:=by rw[Nat.add_mul,Nat.one_mul]
   _<=cap*b.sz:=Nat.mul_le_mul_right _ (by omega)
 subst hv
 generalize hvs:(cs.toList.drop (i*b.sz+off)).take (bX*sz)=vs
 have hl:vs.length=bX*sz:=by
  rw[<-hvs]
  simp only[List.length_take,List.length_drop,Array.length_toList]; omega
 have hat:∀k,k<bX*sz->vs[k]? =cs[i*b.sz+off+k]? :=fun k hk=>by
  rw[<-hvs,List.getElem?_take,if_pos hk,List.getElem?_drop]; simp
 have lP:∀k u,vs[k]? =some u->w.cell? ((⟨g,i*b.sz+off,none⟩:Addr).add k)=some u:=fun k u hu=>by
  have hk':k<bX*sz:=by rw[<-hl]; exact (List.getElem?_eq_some_iff.1 hu).1
  rw[hat k hk']at hu
  rw[cg]
  simpa[World.cell?,hg]using hu
 have hlo:dx ρ (lens M) I w N sz (p5 sz bX ((b.es.getD i []).drop off)) vs:=by
  refine⟨by rw[eo,hl],fun r hr=> ?_,fun p q hp hq=> ?_⟩
  ·obtain⟨p,hp,rfl⟩:=List.mem_iff_getElem.1 hr
   rw[eo]at hp
   have e1:=ku (sz:=sz) (r:=(b.es.getD i []).drop off) hp
   rw[List.getD_eq_getElem?_getD,List.getElem?_eq_getElem (by rw[eo]; exact hp),Option.getD_some]at e1
   rw[e1]
   have:(p+1)*sz<=bX*sz:=Nat.mul_le_mul_right _ hp
   rw[Nat.add_mul,Nat.one_mul]at this
   simp only[List.length_take,List.length_drop,hel]; omega
  ·rw[eo]at hp
   have hlt:=me (sz:=sz) hp hq
   obtain⟨u,hu,h1,hr⟩:=hc i (off+ (p*sz+q)) hi (by omega)
   refine⟨u,?_,h1,?_⟩
   ·rw[hat _ hlt,<-hu]; congr 1; omega
   ·rw[ku hp,db _ _ _ _ _ hq]
    simp only[List.getD_eq_getElem?_getD,List.getElem?_drop]at hr ⊢
    rwa[show off+ (p*sz+q)=off+ (p*sz+q)from rfl]at hr
 exact⟨vs,Src.ofSlice w hk _ _ _ _ hl lP hlo.one,hlo,vD.some hl lP⟩
theorem kZ (hT:dp P T) {x:Operand} {Ml:Mem} (hM:M=ab Ml) {tx sz:Nat} {K:List (List AV)->Prop} (hx:x ∈ o.op.operands.toList) (hk:(∃e,P.underlying tx=some (.slice e))\/ P.underlying tx=some .string)
  (hks:(∃s,ev F x= .str s)->P.underlying tx=some .string) (hkl:(¬ ∃s,ev F x= .str s)->∃e,P.underlying tx=some (.slice e)) (h:oh Ml sz (ev F x) K):
  ∃xs,K xs/\∀M' N ρ I (a:Act) w,c9 X ρ I M' N w->(∀s ∈ dm o.op,aL ρ (lens M') I w N (look F s) (a.tmps.getD s undef))->(∀s ∈ dm o.op,∀n ∈ (look F s).names,M' n=M n)->
   ∃vs,Src P sz tx (a.eval x) xs.length vs w/\dx ρ (lens M') I w N sz xs vs/\vD P sz (a.eval x) xs.length vs w:=by
 unfold oh at h
 cases bY:ev F x with
 |aH s es=>
  rw[bY]at h
  obtain⟨hc,h2⟩:=ax h
  have hs:s=sz:=by simpa using hc
  subst hs
  obtain⟨e,hk⟩:=hkl (by rw[bY]; simp)
  exact⟨es,h2,fun M' N ρ I a w hW hU hN=>Gd (bY ▸ aq hU x hx) hk⟩
 |ai=>
  rw[bY]at h
  obtain⟨e,hk⟩:=hkl (by rw[bY]; simp)
  refine⟨[],h,fun M' N ρ I a w hW hU hN=> ?_⟩
  have r1:=aq hU x hx
  rw[bY]at r1
  generalize hv:a.eval x=v at r1
  cases r1
  exact⟨[],Src.ofNil w hk 0,⟨by simp,by simp,fun i j hi=>by simp at hi⟩,vD.nil⟩
 |bc n len=>
  rw[bY]at h
  simp only[alive]at h
  obtain⟨e,hk⟩:=hkl (by rw[bY]; simp)
  cases hb:ab Ml n with
  |none=>rw[hb]at h; exact h.elim
  |some b=>
   rw[hb]at h
   obtain⟨hc1,hmp,h2⟩:=ax h
   obtain⟨kn,h3⟩:=ax h2
   have hl:b.es.length=len:=(bg.dg hmp).symm.trans (by simpa using hc1)
   have hs:b.sz=sz:=by simpa using kn
   subst hl; subst hs
   refine⟨b.es,h3,fun M' N ρ I a w hW hU hN=> ?_⟩
   obtain⟨sl,eQ,eY⟩:=bj (F:=F) x hx (n:=n) (by rw[bY]; simp[AV.names])
   have cD:M' n=some b:=(hN sl eQ n eY).trans (by rw[hM]; exact hb)
   exact Gf hW cD hmp (bY ▸ aq hU x hx) hk
 |ee n len i off bX=>
  rw[bY]at h
  simp only[alive]at h
  obtain⟨e,hk⟩:=hkl (by rw[bY]; simp)
  cases hb:ab Ml n with
  |none=>rw[hb]at h; exact h.elim
  |some b=>
   rw[hb]at h
   obtain⟨hc1,hmp,h2⟩:=ax h
   obtain⟨kn,h3⟩:=ax h2
   have hl:b.es.length=len:=(bg.dg hmp).symm.trans (by simpa using hc1)
   simp only[Bool.and_eq_true,Nat.blt_eq,Nat.ble_eq]at kn
   subst hl
   refine⟨_,h3,fun M' N ρ I a w hW hU hN=> ?_⟩
   obtain⟨sl,eQ,eY⟩:=bj (F:=F) x hx (n:=n) (by rw[bY]; simp[AV.names])
   have cD:M' n=some b:=(hN sl eQ n eY).trans (by rw[hM]; exact hb)
   rw[eo]
   exact Gg hW cD hmp (bY ▸ aq hU x hx) kn.1.1 kn.1.2 hk
 |str s=>
  rw[bY]at h
  obtain⟨hc,h2⟩:=ax h
  have hs:sz=1:=by simpa using hc
  subst hs
  refine⟨_,h2,fun M' N ρ I a w hW hU hN=> ?_⟩
  have r1:=gW (bY ▸ aq hU x hx)
  rw[r1]
  obtain⟨h1,h2,h3⟩:=Ge (P:=P) (ρ:=ρ) (L:=lens M') (I:=I) (w:=w) (N:=N) (s:=s) (hks ⟨s,bY⟩)
  exact⟨_,by simpa using h1,h2,by simpa using h3⟩
 |_=>rw[bY]at h; exact h.elim
end Go.AM
namespace Go.AM
open Go.RowKit
variable {P:Program} {T:TT} {X:cq} {o:Oper} {F:aW} {M:bv}
theorem yG {ρ:Place} {I:Nat->Prop} {w:World} {N:Nat->Prop} {M:bv} (hW:c9 X ρ I M N w) {n:Nat} {b:bg} (hb:M n=some b) (hmp:b.mp=none) {g cap:Nat} (hρ:ρ n=some (g,cap)) {xs:List (List AV)} {news:List Value}
  (hx:dx ρ (lens M) I w N b.sz xs news) (hroom:b.es.length+xs.length<=cap):
  (∀j,j<news.length->(w.cell? ⟨g,0+b.es.length*b.sz+j,none⟩).isSome=true)/\(∀j,j<news.length->w.frozen? ⟨g,0+b.es.length*b.sz+j,none⟩=false)/\
  iv X M N ρ I w (.bc n (b.es.length+xs.length)) [(n,⟨b.ty,b.sz,b.es++xs,none⟩)] (.slice (some ⟨g,0,none⟩) (b.es.length+xs.length) cap) (w.setCells g (0+b.es.length*b.sz) news):=by
 have B:=hW.aT n b hb
 obtain⟨cs,fr,hg,og,rD,hown,hlc,nO,hcs,hc⟩:=B.real g cap hρ
 have hg:=hg.cells hmp
 have Sf:=bg.dg hmp
 have hfit:b.es.length*b.sz+news.length<=cs.size:=by
  rw[hx.1,hcs,<-Nat.add_mul]; exact Nat.mul_le_mul_right _ hroom
 have oT:∀k,w.cell? ⟨g,k,none⟩=cs[k]? :=fun k=>by simp[World.cell?,hg]
 refine⟨fun j hj=>by rw[oT,Nat.zero_add,Array.getElem?_eq_getElem (by omega)]; rfl,fun j hj=> ?_,?_⟩
 ·have:=og (b.es.length*b.sz+j) (by omega)
  simp only[World.frozen?,hg,Nat.zero_add]
  simpa using this
 ·rw[Nat.zero_add]
  obtain⟨cs',h1,h2,h3⟩:=gX g b.ty fr news (b.es.length*b.sz) w cs hg hfit
  have kq:∀b0,M n=some b0->b0=b:=fun b0 h0=>by rw[hb]at h0; exact (Option.some.inj h0).symm
  obtain⟨E,W⟩:=hW.put (w':=w.setCells g (b.es.length*b.sz) news) n ⟨b.ty,b.sz,b.es++xs,none⟩ g cap cs' fr
   (os_setCells _ _ _ _) (gY _ _ _ _) (iK _ _ _ _) (by rw[size_setCells]; exact Nat.le_refl _) (fun k _ hk=>eG g _ _ _ _ hk) h1 (fun q hq=>og q (by omega))
   (.inr ⟨cap,hρ,b,hb⟩) (fun b0 h0=>by rw[kq b0 h0,Sf]; exact⟨rfl,by simp[bg.ln],fun _=>hρ⟩) (fun _=>⟨b,hb⟩)
   (fun e he=>by
     rcases List.mem_append.1 he with he|he
     ·exact B.even e he
     ·exact hx.2.1 e he)
   (by simpa using hroom) nO (by rw[h2]; exact hcs) (fun i j hi hj=>by
     simp only[List.length_append]at hi
     show ∃u,cs'[i*b.sz+j]? =some u/\_/\aL ρ (lens M) I w N (((b.es++xs).getD i []).getD j .bad) u
     by_cases hl:i<b.es.length
     ·have hlt:=me (sz:=b.sz) hl hj
      have e:(b.es++xs).getD i []=b.es.getD i []:=by simp[List.getD_eq_getElem?_getD,List.getElem?_append_left hl]
      rw[h3,if_neg (by omega),e]
      exact hc i j hl hj
     ·have hm:b.es.length*b.sz<=i*b.sz:=Nat.mul_le_mul_right _ (by omega)
      obtain⟨u,hu,hr⟩:=hx.2.2 (i - b.es.length) j (by omega) hj
      have hlt:=me (sz:=b.sz) (show i - b.es.length<xs.length by omega) hj
      have e:(b.es++xs).getD i []=xs.getD (i - b.es.length) []:=by simp[List.getD_eq_getElem?_getD,List.getElem?_append_right (Nat.le_of_not_lt hl)]
      have e1:i*b.sz+j - b.es.length*b.sz=(i - b.es.length)*b.sz+j:=by rw[Nat.sub_mul]; omega
      rw[h3,if_pos (by rw[hx.1]; omega),e,e1]
      exact⟨u,hu,hr⟩)
  refine⟨iI ρ n (g,cap),I,E,by rw[bO]; exact W,?_⟩
  refine kY (sz:=b.sz) (.inr ⟨_,List.mem_singleton.2 rfl⟩) ?_ (by simp[iI])
  show lens (cX M n _) n=_
  rw[cO,if_pos rfl]; simp[bg.ln]
theorem rI (z:Array Value) (n:Nat):(Builtin.zeroCells z n).size=n*z.size:=by simp[Builtin.zeroCells]
theorem kw {ρ:Place} {I:Nat->Prop} {w:World} {N:Nat->Prop} {M:bv} (hW:c9 X ρ I M N w) {n e sz:Nat} {oV xs:List (List AV)} {olds news:List Value} {z:Value}
  (kq:N n->∃b0,M n=some b0) (hold:∀b0,M n=some b0->b0.sz=sz/\b0.es=oV/\b0.mp=none) (hxs:0<xs.length)
  (ho:dx ρ (lens M) I w N sz oV olds) (hx:dx ρ (lens M) I w N sz xs news) (hz:z.cells.size=sz) {old:Nat} (iy:oV.length+xs.length<=iu):
  iv X M N ρ I w (.bc n (oV.length+xs.length)) [(n,⟨e,sz,oV++xs,none⟩)] (.slice (some ⟨w.heap.size,0,none⟩) (oV.length+xs.length) (grownCap w (oV.length+xs.length) old e))
   (w.drew.alloc (.cells ((olds++news).toArray++Builtin.zeroCells z.cells (grownCap w (oV.length+xs.length) old e - (oV.length+xs.length))) e)):=by
 have hge:=grownCap_ge w (oV.length+xs.length) old e
 have nO:=grownCap_le_maxLen w (oV.length+xs.length) old e (by simp only[maxLen,iu]at *; omega)
 have hall:=ho.append hx
 have hlen:(olds++news).length=(oV.length+xs.length)*sz:=by rw[hall.1,List.length_append]
 obtain⟨E,W⟩:=hW.put (w':=w.drew.alloc (.cells ((olds++news).toArray++Builtin.zeroCells z.cells (grownCap w (oV.length+xs.length) old e - (oV.length+xs.length))) e)) n ⟨e,sz,oV++xs,none⟩ w.heap.size (grownCap w (oV.length+xs.length) old e) _ (0,0)
  rfl rfl rfl (by simp) (fun k hk _=>Below.heap_alloc w.drew _ k hk) (heap_alloc_new w.drew _) (fun o _ h=>by omega)
  (.inl (Nat.le_refl _)) (fun b0 h0=>by
    obtain⟨h1,h2,hm⟩:=hold b0 h0
    have hb:=bg.dg hm
    refine⟨h1,by rw[hb,h2]; simp[bg.ln],fun h=> ?_⟩
    rw[hb,h2]at h
    simp[bg.ln]at h
    have:=List.length_pos_iff.1 hxs
    exact (this h).elim) kq hall.2.1 (by simpa using hge) nO
  (by
    simp only[Array.size_append,List.size_toArray,rI,hz,hlen,<-Nat.add_mul]
    congr 1
    omega)
  (fun i j hi hj=>by
    obtain⟨u,hu,hr⟩:=hall.2.2 i j hi hj
    refine⟨u,?_,hr⟩
    have hlt:=me (sz:=sz) hi hj
    rw[List.length_append]at hlt
    rw[Array.getElem?_append_left (by simp only[List.size_toArray]; omega)]
    simpa using hu)
 refine⟨_,I,E,by rw[bO]; exact W,?_⟩
 refine kY (sz:=sz) (.inr ⟨_,List.mem_singleton.2 rfl⟩) ?_ (by simp[iI])
 show lens (cX M n _) n=_
 rw[cO,if_pos rfl]; simp[bg.ln]
theorem mO {M:bv} {n:Nat} {b:bg} (h:M n=some b):cX M n b=M:=by
 funext m; unfold cX; split
 ·subst_vars; exact h.symm
 ·rfl
theorem c9.eD {ρ:Place} {I:Nat->Prop} {w:World} {N:Nat->Prop} {M:bv} (hW:c9 X ρ I M N w) {n:Nat} (hn:¬N n) (e sz:Nat):
  mI N ρ (lens M) I w (fun m=>if m=n then none else ρ m) (lens (cX M n ⟨e,sz,[],none⟩)) I w/\c9 X (fun m=>if m=n then none else ρ m) I (cX M n ⟨e,sz,[],none⟩) (AK N n) w:=by
 have hne:∀m b,M m=some b->m≠n:=fun m b h e'=>hn (e' ▸ (hW.aT m b h).lt)
 have E:mI N ρ (lens M) I w (fun m=>if m=n then none else ρ m) (lens (cX M n ⟨e,sz,[],none⟩)) I w:=by
  refine⟨fun m len s hm _ _=> ?_,fun m len s hm h=> ?_,fun _ h=>h,fun _ _=>rfl⟩
  ·have:m≠n:=fun e'=>hn (e' ▸ hm)
   simp[this]
  ·have:m≠n:=fun e'=>hn (e' ▸ hm)
   rw[cO,if_neg this]at h
   exact⟨len,h,Nat.le_refl _⟩
 refine⟨E,fun m b hm=> ?_,fun m k b b' g c c' hm hk h1 h2=> ?_,hW.pW,hW.lt,hW.old,hW.keeps,fun m hm=> .inr (hW.pn m hm),hW.FY,hW.mK E⟩
 ·by_cases hmn:m=n
  ·subst hmn
   simp[cX]at hm
   subst hm
   exact⟨.inl rfl,by simp,fun _=>rfl,fun g cap h=>by simp at h,fun _ _ _ _ _ _ h=>by cases h⟩
  ·simp only[cX,if_neg hmn]at hm
   have B:=hW.aT m b hm
   refine⟨.inr B.lt,B.even,fun h=>B.eD (by simpa[hmn]using h),fun g cap h=> ?_,fun k ka va r sn la hb=>by obtain⟨g,cap,h1,h2⟩:=B.iter k ka va r sn la hb; exact⟨g,cap,by simpa[hmn]using h1,h2⟩⟩
   obtain⟨cs,fr,hc1,DA,kn,uV,Ck,AL,DB,DC⟩:=B.real g cap (by simpa[hmn]using h)
   refine⟨cs,fr,hc1,DA,kn,uV,Ck,AL,DB,fun i j hi hj=> ?_⟩
   obtain⟨u,hu,pU,hr⟩:=DC i j hi hj
   exact⟨u,hu,pU,(hr.uO E (fun _ h=>h)).wide (fun _ h=> .inr h)⟩
 ·by_cases hmn:m=n
  ·simp[hmn]at h1
  ·by_cases hkn:k=n
   ·simp[hkn]at h2
   ·simp only[cX,if_neg hmn,if_neg hkn]at hm hk h1 h2
    exact hW.inj m k b b' g c c' hm hk h1 h2
theorem dO {a:Act} {w:World} {s x:Operand} {t t':Nat} (ho:o.op= .call {callee:= .builtin .append,args:= #[s,x],argTypes:= #[t,t']}):
  (execOp a.eval o).run P w=((Builtin.append_ #[t,t'] o.type #[a.eval s,a.eval x]).run P w).andThen fun v w'=> .ok (.value v) w':=by
 simp[execOp,ho,resolve,invoke,builtin]
theorem qW (hT:dp P T) {s x:Operand} {t t' nx:Nat} {Ml:Mem} {K:AV->Mem->Nat->Prop} (hM:M=ab Ml) (ho:o.op= .call {callee:= .builtin .append,args:= #[s,x],argTypes:= #[t,t']})
  (hok:∀e,T.d t= .slice e->(T.d e).ok=true/\bQ (T.z e)=true/\(cells (T.z e)).length=T.s e) (Zm:(∃q,ev F x= .str q)->T.d t'= .str) (Sh:(¬ ∃q,ev F x= .str q)->∃e,T.d t'= .slice e)
  (h:rY T t (ev F s) (ev F x) ⟨F,Ml,nx⟩ K):
  ∃av n b nw aY,bN P X o F M av [(n,b)] nw/\K av (gJ Ml n b) aY/\((nw=[nx]/\aY=nx+1/\n=nx)\/(aY=nx/\nw=[]/\n ∈ (ev F s).names)):=by
 have hs:s ∈ o.op.operands.toList:=by simp[ho,Op.operands,Call.operands]
 have hx:x ∈ o.op.operands.toList:=by simp[ho,Op.operands,Call.operands]
 unfold rY at h
 cases ht:T.d t with
 |slice e=>
  rw[ht]at h
  simp only at h
  obtain⟨D,it,z0,hD,hf,_⟩:=hT t (by rw[ht]; simp)
  have im:=bV ht hf
  subst im
  obtain⟨NG,oU,hcl⟩:=hok e ht
  obtain⟨_,ie,z,_,_,hie,mN,hby,hz,jC⟩:=hT e (TD.dT NG)
  have hzs:z.cells.size=T.s e:=by
   have:=(bi.fc (ρ:=fun _=>none) (L:=fun _=>none) (I:=fun _=>False) (w:=default) (N:=cJ) (gh _ _ _ _ _ z) (by rw[<-jC]; exact oU)).1
   rw[this,<-jC,hcl]
  have vE:((∃e,P.underlying t'=some (.slice e))\/ P.underlying t'=some .string)/\((∃q,ev F x= .str q)->P.underlying t'=some .string)/\((¬ ∃q,ev F x= .str q)->∃e,P.underlying t'=some (.slice e)):=by
   by_cases hq:∃q,ev F x= .str q
   ·have h1:=Zm hq
    obtain⟨D,_,_,Si,Zn,_⟩:=hT t' (by rw[h1]; simp)
    have:=gl h1 Zn
    subst this
    exact⟨.inr Si,fun _=>Si,fun h=>(h hq).elim⟩
   ·obtain⟨e',h1⟩:=Sh hq
    obtain⟨D,_,_,Si,Zn,_⟩:=hT t' (by rw[h1]; simp)
    have:=bV h1 Zn
    subst this
    exact⟨.inl ⟨_,Si⟩,fun h=>(hq h).elim,fun _=>⟨_,Si⟩⟩
  have hfit:∀need old,old<need->need<=iu->Builtin.nextslicecap need old*ie.bytes<=281474976710656:=fun need old h1 h2=>by
   refine growslice_fits h1 ?_
   calc need*ie.bytes<=iu*131072:=Nat.mul_le_mul h2 hby
    _=140737488355328:=by simp[iu]
  cases hss:ev F s with
  |bc n len=>
   rw[hss]at h
   simp only[alive]at h
   cases hb:ab Ml n with
   |none=>rw[hb]at h; exact h.elim
   |some b=>
    rw[hb]at h
    obtain⟨hc1,hmp,h2⟩:=ax h
    obtain⟨kn,h3⟩:=ax h2
    have hl:b.es.length=len:=(bg.dg hmp).symm.trans (by simpa using hc1)
    simp only[Bool.and_eq_true,beq_iff_eq]at kn
    obtain⟨hsz,AY⟩:=kn
    obtain⟨xs,⟨iy,hk⟩,hsrc⟩:=kZ (X:=X) (o:=o) hT hM hx vE.1 vE.2.1 vE.2.2 h3
    obtain⟨sl,eQ,eY⟩:=bj (F:=F) s hs (n:=n) (by rw[hss]; simp[AV.names])
    refine⟨_,n,_,[],nx,?_,hk,.inr ⟨rfl,rfl,by simp[AV.names]⟩⟩
    refine⟨fun p hp=> .inr ⟨sl,eQ,by simp at hp; rw[hp]; exact eY⟩,fun M' N ρ I a w hW hU hN _=> ?_⟩
    have cD:M' n=some b:=(hN sl eQ n eY).trans (by rw[hM]; exact hb)
    have dV:lens M' n=some (b.es.length,b.sz):=by rw[aA]; exact⟨b,cD,bg.dg hmp,rfl⟩
    obtain⟨vs,hS,hL,-⟩:=hsrc M' N ρ I a w hW hU hN
    have r1:=aq hU s hs
    rw[hss]at r1
    subst hl
    obtain⟨hn,h2⟩:=jO r1 dV
    unfold bS
    rw[dO ho]
    rw[<-hsz]at hL hS
    have xd:Src P ie.size t' (a.eval x) xs.length vs w:=by rw[mN,<-hsz]; exact hS
    rcases h2 with⟨h0,q,hv⟩|⟨g,cap,hρ,hv⟩
    ·have hB:=hW.aT n b cD
     have he:b.es=[]:=hB.eD h0
     rw[hv]
     by_cases hx0:xs.length=0
     ·have hxs:xs=[]:=List.eq_nil_of_length_eq_zero hx0
      have hvs:vs=[]:=List.eq_nil_of_length_eq_zero (by have:=hL.1; rw[hx0]at this; simpa using this)
      subst hxs; subst hvs
      have hrun:=run_append_nothing (P:=P) w t t' o.type e ie hD hie q 0 0 (Nat.le_refl _) (a.eval x) (by simpa using xd)
      rw[hrun]
      refine⟨ρ,I,?_,?_,?_⟩
      ·show mI N ρ (lens M') I w ρ (lens (cX M' n _)) I w
       have:(⟨b.ty,b.sz,b.es++ [],none⟩:bg)=b:=by have:=hmp; cases b; simp_all
       rw[this,mO cD]; exact mI.refl _ _ _ _ _
      ·show c9 X ρ I (cX M' n _) _ w
       have:(⟨b.ty,b.sz,b.es++ [],none⟩:bg)=b:=by have:=hmp; cases b; simp_all
       rw[this,mO cD]
       have Jy:fM N [(n,b)]=N:=by
        rw[bO]; funext m; simp only[AK,eq_iff_iff]
        exact⟨fun h=>h.elim (fun e=>e ▸ hn) id,.inr⟩
       rw[bO]at Jy ⊢
       rw[Jy]; exact hW
      ·refine .bc n _ _ (.inl hn) rfl fun l AS ol=> ?_
       have:(⟨b.ty,b.sz,b.es++ [],none⟩:bg)=b:=by have:=hmp; cases b; simp_all
       rw[this]at ol
       change lens (cX M' n b) n=_ at ol
       rw[cO,if_pos rfl,bg.dg hmp]at ol
       simp at ol
       exact⟨by simp; omega,fun _=> .inl ⟨h0,q,rfl⟩⟩
     ·have NH:(Builtin.firstCells ie.size 0 (.slice q 0 0)).run P w.drew= .ok #[] w.drew:=by
       cases q with
       |none=>exact run_firstCells_none w.drew ie.size 0 0 0
       |some a=>exact run_firstCells_some w.drew ie.size 0 a 0 0 [] (by simp) (fun j v hv=>by simp at hv)
      have hrun:=run_append_grow_src (P:=P) w t t' o.type e ie z hD hie hz q 0 0 [] NH (a.eval x) xs.length vs xd (by omega) (by rw[he]at iy; simp[iu]at iy ⊢; omega) (hfit _ _ (by omega) (by rw[he]at iy; simpa using iy))
      rw[hrun]
      have hJ:=kw (X:=X) (e:=e) (olds:=[]) (old:=0) (z:=z) hW (fun _=>⟨b,cD⟩) (fun b0 h0=>by rw[cD]at h0; cases h0; exact⟨rfl,he,hmp⟩) (by omega) ⟨by simp,by simp,fun i j hi=>by simp at hi⟩ hL (by rw[hzs,hsz]) (by rw[he]at iy; simpa using iy)
      have e1:b.es.length+xs.length=([]:List (List AV)).length+xs.length:=by rw[he]
      have e2:(⟨b.ty,b.sz,b.es++xs,none⟩:bg)=⟨e,b.sz,[]++xs,none⟩:=by rw[he,AY]
      rw[e1,e2]
      exact hJ
    ·rw[hv]
     by_cases hroom:b.es.length+xs.length<=cap
     ·obtain⟨g1,g2,g3⟩:=yG hW cD hmp hρ hL hroom
      have hrun:=run_append_room_src (P:=P) w t t' o.type e ie hD hie g 0 b.es.length cap (a.eval x) xs.length vs xd hroom (by rw[mN,<-hsz]; exact g1) (by rw[mN,<-hsz]; exact g2)
      rw[hrun,mN,<-hsz]
      exact g3
     ·have hB:=hW.aT n b cD
      obtain⟨olds,ME,Sj⟩:=hB.list hmp hρ
      have Zo:(Builtin.firstCells ie.size b.es.length (.slice (some ⟨g,0,none⟩) b.es.length cap)).run P w.drew= .ok olds.toArray w.drew:=
       run_firstCells_some (P:=P) w.drew ie.size b.es.length _ _ _ _ (by rw[mN,<-hsz]; exact ME.1) (fun k u hu=>by rw[cg,Nat.zero_add]; exact Sj k u hu)
      have hrun:=run_append_grow_src (P:=P) w t t' o.type e ie z hD hie hz _ b.es.length cap olds Zo (a.eval x) xs.length vs xd (by omega) (by simp[iu]at iy ⊢; omega) (hfit _ _ (by omega) iy)
      rw[hrun]
      have hcap:b.es.length<=cap:=by obtain⟨_,_,_,_,_,_,hh,_⟩:=hB.real g cap hρ; exact hh
      have hJ:=kw (X:=X) (e:=e) (old:=cap) (z:=z) hW (fun _=>⟨b,cD⟩) (fun b0 h0=>by rw[cD]at h0; cases h0; exact⟨rfl,rfl,hmp⟩) (by omega) ME hL (by rw[hzs,hsz]) iy
      rw[<-AY]at hJ ⊢
      exact hJ
  |ai=>
   rw[hss]at h
   obtain⟨xs,⟨iy,hk⟩,hsrc⟩:=kZ (X:=X) (o:=o) hT hM hx vE.1 vE.2.1 vE.2.2 h
   refine⟨_,nx,_,[nx],nx+1,?_,hk,.inl ⟨rfl,rfl,rfl⟩⟩
   refine⟨fun p hp=> .inl (by simp at hp; simp[hp]),fun M' N ρ I a w hW hU hN hF=> ?_⟩
   have hn:¬N nx:=hF nx (by simp)
   obtain⟨vs,hS,hL,-⟩:=hsrc M' N ρ I a w hW hU hN
   have r1:=aq hU s hs
   rw[hss]at r1
   generalize hv:a.eval s=v at r1
   cases r1
   unfold bS
   rw[dO ho,hv]
   have xd:Src P ie.size t' (a.eval x) xs.length vs w:=by rw[mN]; exact hS
   by_cases hx0:xs.length=0
   ·have hxs:xs=[]:=List.eq_nil_of_length_eq_zero hx0
    have hvs:vs=[]:=List.eq_nil_of_length_eq_zero (by have:=hL.1; rw[hx0]at this; simpa using this)
    subst hxs; subst hvs
    have hrun:=run_append_nothing (P:=P) w t t' o.type e ie hD hie none 0 0 (Nat.le_refl _) (a.eval x) (by simpa using xd)
    rw[hrun]
    obtain⟨E,W⟩:=hW.eD hn e (T.s e)
    refine⟨_,I,E,by rw[bO]; exact W,?_⟩
    refine .bc nx _ _ (.inr ⟨_,List.mem_singleton.2 rfl⟩) rfl fun l AS ol=> ?_
    change lens (cX M' nx _) nx=_ at ol
    rw[cO,if_pos rfl]at ol
    simp[bg.ln]at ol
    exact⟨by simp,fun _=> .inl ⟨by simp,none,rfl⟩⟩
   ·have hrun:=run_append_grow_src (P:=P) w t t' o.type e ie z hD hie hz none 0 0 [] (run_firstCells_none w.drew ie.size 0 0 0) (a.eval x) xs.length vs xd (by omega) (by simp[iu]at iy ⊢; omega) (hfit _ _ (by omega) (by simpa using iy))
    rw[hrun]
    have hJ:=kw (X:=X) (n:=nx) (e:=e) (olds:=[]) (oV:=[]) (old:=0) (z:=z) hW (fun h=>(hn h).elim) (fun b0 h0=>(hn (hW.aT nx b0 h0).lt).elim) (by omega) ⟨by simp,by simp,fun i j hi=>by simp at hi⟩ hL hzs (by simpa using iy)
    have e1:xs.length=([]:List (List AV)).length+xs.length:=by simp
    have e2:(⟨e,T.s e,xs,none⟩:bg)=⟨e,T.s e,[]++xs,none⟩:=by simp
    rw[e2]
    show iv X M' N ρ I w (.bc nx xs.length) _ _ _
    rw[e1]
    simpa using hJ
  |_=>rw[hss]at h; exact h.elim
 |_=>rw[ht]at h; exact h.elim
end Go.AM
namespace Go.AM
open Go.RowKit
variable {P:Program} {T:TT} {X:cq} {o:Oper} {F:aW} {M:bv}
theorem jd {a:Act} {w:World} {b:Builtin} {args:Array Operand} {ts:Array TypeId} (ho:o.op= .call {callee:= .builtin b,args:=args,argTypes:=ts}):
  (execOp a.eval o).run P w=(builtin b ts o.type (args.map fun| .const _=>true|_=>false) (args.map a.eval)).run P w:=by
 simp only[execOp,ho,resolve,invoke,Sem.run_bind,Sem.run_pure,Result.andThen_ok]
 rfl
theorem k6 {n:Int} {args:Array Operand} {ts:Array TypeId} (ho:o.op= .call {callee:= .builtin .len,args:=args,argTypes:=ts})
  (h:∀M' N ρ I (a:Act) w,c9 X ρ I M' N w->(∀s ∈ dm o.op,aL ρ (lens M') I w N (look F s) (a.tmps.getD s undef))->(∀s ∈ dm o.op,∀n ∈ (look F s).names,M' n=M n)->(Builtin.len_ ts o.type (args.map a.eval)).run P w= .ok (.int .i64 n) w):
  bN P X o F M (.int .i64 n) [] []:=by
 refine aF fun M' N ρ I a w hW hU hN=>⟨.int .i64 n,?_,.int _ _⟩
 rw[jd ho]
 simp[builtin,h M' N ρ I a w hW hU hN]
theorem sI (hT:dp P T) {x:Operand} {t:Nat} {K:AV->Prop} {Ml:Mem} (hM:M=ab Ml) (ho:o.op= .call {callee:= .builtin .len,args:= #[x],argTypes:= #[t]})
  (h:match T.d t with
    | .arr n _=>K (.int .i64 n)
    | .slice _=>(match ev F x with
      | .aH _ es=>K (.int .i64 es.length)
      | .bc n len=>alive Ml n len fun _=>K (.int .i64 len)
      | .ee n len _ _ bX=>alive Ml n len fun _=>K (.int .i64 bX)
      | .ai=>K (.int .i64 0)
      |_=>False)
    | .str=>(match ev F x with
      | .str s=>K (.int .i64 s.length)
      |_=>False)
    |_=>False):∃av,bN P X o F M av [] []/\K av:=by
 have hx:x ∈ o.op.operands.toList:=by simp[ho,Op.operands,Call.operands]
 cases ht:T.d t with
 |arr n e=>
  rw[ht]at h
  obtain⟨D,it,z0,hD,hf,_⟩:=hT t (by rw[ht]; simp)
  have im:=gk ht hf
  subst im
  refine⟨_,k6 ho fun M' N ρ I a w hW hU hN=> ?_,h⟩
  simp[Builtin.len_,run_underlying hD,goInt]
 |str=>
  rw[ht]at h
  obtain⟨D,it,z0,hD,hf,_⟩:=hT t (by rw[ht]; simp)
  have im:=gl ht hf
  subst im
  cases bY:ev F x with
  |str s=>
   rw[bY]at h
   refine⟨_,k6 ho fun M' N ρ I a w hW hU hN=> ?_,h⟩
   have r1:=gW (bY ▸ aq hU x hx)
   have e:(⟨s.toArray⟩:ByteArray).size=s.length:=rfl
   simp[Builtin.len_,run_underlying hD,goInt,r1,e]
  |_=>rw[bY]at h; exact h.elim
 |slice e=>
  rw[ht]at h
  obtain⟨D,it,z0,hD,hf,_⟩:=hT t (by rw[ht]; simp)
  have im:=bV ht hf
  subst im
  have go:∀n:Nat,(∀M' N ρ I (a:Act) w,c9 X ρ I M' N w->(∀s ∈ dm o.op,aL ρ (lens M') I w N (look F s) (a.tmps.getD s undef))->(∀s ∈ dm o.op,∀n ∈ (look F s).names,M' n=M n)->∃ad cap,a.eval x= .slice ad n cap)->
    bN P X o F M (.int .i64 n) [] []:=by
   intro n hh
   refine k6 ho fun M' N ρ I a w hW hU hN=> ?_
   obtain⟨ad,cap,hv⟩:=hh M' N ρ I a w hW hU hN
   simp[Builtin.len_,run_underlying hD,goInt,hv]
  cases bY:ev F x with
  |aH sz es=>
   rw[bY]at h
   refine⟨_,go es.length fun M' N ρ I a w hW hU hN=> ?_,h⟩
   obtain⟨ad,cap,hv,_⟩:=rZ (bY ▸ aq hU x hx)
   exact⟨ad,cap,hv⟩
  |ai=>
   rw[bY]at h
   refine⟨_,go 0 fun M' N ρ I a w hW hU hN=> ?_,h⟩
   have r1:=aq hU x hx
   rw[bY]at r1
   generalize hv:a.eval x=v at r1
   cases r1
   exact⟨none,0,rfl⟩
  |bc n len=>
   rw[bY]at h
   simp only[alive]at h
   cases hb:ab Ml n with
   |none=>rw[hb]at h; exact h.elim
   |some b=>
    rw[hb]at h
    obtain⟨hc1,hmp,h2⟩:=ax h
    have hl:b.es.length=len:=(bg.dg hmp).symm.trans (by simpa using hc1)
    refine⟨_,go len fun M' N ρ I a w hW hU hN=> ?_,h2⟩
    obtain⟨sl,eQ,eY⟩:=bj (F:=F) x hx (n:=n) (by rw[bY]; simp[AV.names])
    have cD:M' n=some b:=(hN sl eQ n eY).trans (by rw[hM]; exact hb)
    have dV:lens M' n=some (len,b.sz):=by rw[aA]; exact⟨b,cD,(bg.dg hmp).trans hl,rfl⟩
    have r1:=aq hU x hx
    rw[bY]at r1
    obtain⟨_,⟨h0,q,hv⟩|⟨g,cap,hρ,hv⟩⟩:=jO r1 dV
    ·have:=(hW.aT n b cD).eD h0
     rw[this]at hl
     simp at hl
     subst hl
     exact⟨_,_,hv⟩
    ·exact⟨_,_,hv⟩
  |ee n len i off bX=>
   rw[bY]at h
   simp only[alive]at h
   cases hb:ab Ml n with
   |none=>rw[hb]at h; exact h.elim
   |some b=>
    rw[hb]at h
    obtain⟨hc1,hmp,h2⟩:=ax h
    have hl:b.es.length=len:=(bg.dg hmp).symm.trans (by simpa using hc1)
    refine⟨_,go bX fun M' N ρ I a w hW hU hN=> ?_,h2⟩
    obtain⟨sl,eQ,eY⟩:=bj (F:=F) x hx (n:=n) (by rw[bY]; simp[AV.names])
    have cD:M' n=some b:=(hN sl eQ n eY).trans (by rw[hM]; exact hb)
    have dV:lens M' n=some (len,b.sz):=by rw[aA]; exact⟨b,cD,(bg.dg hmp).trans hl,rfl⟩
    have r1:=aq hU x hx
    rw[bY]at r1
    obtain⟨_,g,cap,c,hρ,hv,_⟩:=mM r1 dV
    exact⟨_,_,hv⟩
  |_=>rw[bY]at h; exact h.elim
 |_=>rw[ht]at h; exact h.elim
theorem qX {k:IntKind} {w:World} {ρ:Place} {L:aZ} {I:Nat->Prop} {N:Nat->Prop}:∀ (as:List AV) (vs:List Value) (a:Int),dw ρ L I w N as vs->sw k a as≠ .bad->
  ∃n,sw k a as= .int k n/\(vs.foldlM Builtin.min2 (.int k a)).run P w= .ok (.int k n) w
 |[],vs,a,h,_=>by
  have:vs=[]:=List.eq_nil_of_length_eq_zero (by simpa using h.1)
  subst this
  exact⟨a,rfl,rfl⟩
 |x::r,vs,a,h,hb=>by
  cases vs with
  |nil=>simp[dw]at h
  |cons v vs=>
   have h0:=h.2 0 (by simp)
   simp at h0
   cases x with
   |int k' b=>
    have hv:=bG h0
    subst hv
    have hr:dw ρ L I w N r vs:=⟨by simpa using h.1,fun j hj=>by simpa using h.2 (j+1) (by simpa using hj)⟩
    obtain⟨n,h1,h2⟩:=qX r vs (min a b) hr hb
    refine⟨n,h1,?_⟩
    have e:(if b<a then b else a)=min a b:=by omega
    simp only[List.foldlM_cons,Builtin.min2,Sem.run_bind,Sem.run_pure,Result.andThen_ok,e]
    exact h2
   |_=>exact (hb rfl).elim
theorem qY {k:IntKind} {w:World} {ρ:Place} {L:aZ} {I:Nat->Prop} {N:Nat->Prop}:∀ (as:List AV) (vs:List Value) (a:Int),dw ρ L I w N as vs->sy k a as≠ .bad->
  ∃n,sy k a as= .int k n/\(vs.foldlM Builtin.max2 (.int k a)).run P w= .ok (.int k n) w
 |[],vs,a,h,_=>by
  have:vs=[]:=List.eq_nil_of_length_eq_zero (by simpa using h.1)
  subst this
  exact⟨a,rfl,rfl⟩
 |x::r,vs,a,h,hb=>by
  cases vs with
  |nil=>simp[dw]at h
  |cons v vs=>
   have h0:=h.2 0 (by simp)
   simp at h0
   cases x with
   |int k' b=>
    have hv:=bG h0
    subst hv
    have hr:dw ρ L I w N r vs:=⟨by simpa using h.1,fun j hj=>by simpa using h.2 (j+1) (by simpa using hj)⟩
    obtain⟨n,h1,h2⟩:=qY r vs (max a b) hr hb
    refine⟨n,h1,?_⟩
    have e:(if b>a then b else a)=max a b:=by omega
    simp only[List.foldlM_cons,Builtin.max2,Sem.run_bind,Sem.run_pure,Result.andThen_ok,e]
    exact h2
   |_=>exact (hb rfl).elim
theorem qZ {mx:Bool} {args:Array Operand} {ts:Array TypeId} (ho:o.op= .call {callee:= .builtin (if mx then .max else .min),args:=args,argTypes:=ts})
  (h:(if mx then yB (oO F args.toList)else yA (oO F args.toList))≠ .bad):bN P X o F M (if mx then yB (oO F args.toList)else yA (oO F args.toList)) [] []:=by
 refine aF fun M' N ρ I a w hW hU hN=> ?_
 have hR:=jc (F:=F) (ρ:=ρ) (L:=lens M') (I:=I) (w:=w) (N:=N) (a:=a) args.toList (fun x hx=>aq hU x (by simpa[ho,Op.operands,Call.operands]using hx))
 rw[jd ho]
 cases hl:args.toList with
 |nil=>cases mx<;>simp[hl,oO,yA,yB]at h
 |cons x r=>
  rw[hl]at h hR
  simp only[oO,List.map_cons]at h hR ⊢
  have h0:=hR.2 0 (by simp)
  simp at h0
  cases hx:ev F x with
  |int k n0=>
   rw[hx]at h h0
   have hv:=bG h0
   have hr:dw ρ (lens M') I w N (oO F r) (r.map a.eval):=⟨by simpa using hR.1,fun j hj=>by simpa using hR.2 (j+1) (by simpa using hj)⟩
   have ha:(args.map a.eval).toList= .int k n0::r.map a.eval:=by rw[Array.toList_map,hl,List.map_cons,hv]
   cases mx with
   |true=>
    obtain⟨n,h1,h2⟩:=qY (P:=P) _ _ n0 hr (by simpa[yB]using h)
    refine⟨.int k n,?_,by simp only[if_true,yB,h1]; exact .int _ _⟩
    simp only[if_true,builtin,Builtin.max_,ha,h2,Sem.run_bind,Result.andThen_ok,Sem.run_pure]
   |false=>
    obtain⟨n,h1,h2⟩:=qX (P:=P) _ _ n0 hr (by simpa[yA]using h)
    refine⟨.int k n,?_,by simp only[Bool.false_eq_true,if_false,yA,h1]; exact .int _ _⟩
    simp only[Bool.false_eq_true,if_false,builtin,Builtin.min_,ha,h2,Sem.run_bind,Result.andThen_ok,Sem.run_pure]
  |_=>rw[hx]at h; cases mx<;>simp[yA,yB]at h
theorem j4:∀a b:List AV,AV.az (a++b)=AV.az a++AV.az b
 |[],b=>rfl
 |x::r,b=>by simp[AV.az,j4 r b]
theorem je {n:Nat}:∀ {l:List Operand},n ∈ AV.az (oO F l)->∃x ∈ l,n ∈ (ev F x).names
 |[],h=>by simp[oO,AV.az]at h
 |x::r,h=>by
  simp only[oO,AV.az,List.mem_append]at h
  rcases h with h|h
  ·exact⟨x,List.mem_cons_self,h⟩
  ·obtain⟨y,hy,hn⟩:=je h
   exact⟨y,List.mem_cons_of_mem _ hy,hn⟩
theorem dw.append {ρ:Place} {L:aZ} {I:Nat->Prop} {w:World} {N:Nat->Prop} {as bs:List AV} {vs us:List Value} (h:dw ρ L I w N as vs) (k:dw ρ L I w N bs us):dw ρ L I w N (as++bs) (vs++us):=by
 refine⟨by simp[h.1,k.1],fun j hj=> ?_⟩
 by_cases hl:j<as.length
 ·have e1:(as++bs).getD j .bad=as.getD j .bad:=by simp[List.getD_eq_getElem?_getD,List.getElem?_append_left hl]
  have e2:(vs++us).getD j default=vs.getD j default:=by simp[List.getD_eq_getElem?_getD,List.getElem?_append_left (show j<vs.length by rw[h.1]; exact hl)]
  rw[e1,e2]; exact h.2 j hl
 ·have e1:(as++bs).getD j .bad=bs.getD (j - as.length) .bad:=by simp[List.getD_eq_getElem?_getD,List.getElem?_append_right (Nat.le_of_not_lt hl)]
  have e2:(vs++us).getD j default=us.getD (j - as.length) default:=by simp[List.getD_eq_getElem?_getD,List.getElem?_append_right (show vs.length<=j by rw[h.1]; omega),h.1]
  rw[e1,e2]; exact k.2 _ (by simp at hj; omega)
theorem vF {f:Operand} {args:Array Operand} {ts:Array TypeId} {g:Nat} {aS:List AV} {av:AV} {ws:List (Nat × bg)} {nw:List Nat} (ho:o.op= .call {callee:= .value f,args:=args,argTypes:=ts}) (hf:ev F f= .bR (.fn g) aS)
  (hfn:∃fn,P.funcs[g]? =some fn/\(fn.name== "runtime.NumGoroutine")=false/\fn.body.isNone=false) (hc:qJ P X g (oO F args.toList++aS) M av ws nw):bN P X o F M av ws nw:=by
 have hfo:f ∈ o.op.operands.toList:=by simp[ho,Op.operands,Call.operands]
 have hao:∀x ∈ args.toList,x ∈ o.op.operands.toList:=fun x hx=>by
  simp only[ho,Op.operands,Call.operands,Array.toList_append]
  exact List.mem_append_right _ hx
 have hnm:∀n ∈ AV.az (oO F args.toList++aS),∃s ∈ dm o.op,n ∈ (look F s).names:=by
  intro n hn
  rw[j4,List.mem_append]at hn
  rcases hn with hn|hn
  ·obtain⟨x,hx,hn⟩:=je hn
   exact bj x (hao x hx) hn
  ·exact bj f hfo (by rw[hf]; simpa[AV.names]using hn)
 refine⟨fun p hp=>(hc.1 p hp).imp id (hnm p.1),fun M' N ρ I a w hW hU hN hF=> ?_⟩
 have r1:=aq hU f hfo
 rw[hf]at r1
 generalize hv:a.eval f=v at r1
 cases r1 with
 |bR _ _ us hl hr=>
  have hR:=(jc (F:=F) (ρ:=ρ) (L:=lens M') (I:=I) (w:=w) (N:=N) (a:=a) args.toList (fun x hx=>aq hU x (hao x hx))).append (⟨hl,hr⟩:dw ρ (lens M') I w N aS us)
  have yH:=hc.2 M' N ρ I w _ hW (fun n hn=>by obtain⟨s,hs,eY⟩:=hnm n hn; exact hN s hs n eY) hF hR
  obtain⟨fn,hfn,hname,hbody⟩:=hfn
  unfold bS
  have hrun:(execOp a.eval o).run P w= .ok (.enter g ((args.toList.map a.eval++us).toArray)) w:=by
   have e:(args.map a.eval)++us.toArray=(args.toList.map a.eval++us).toArray:=by apply Array.ext'; simp
   have oo:¬fn.name= "runtime.NumGoroutine" :=by simpa using hname
   have oq:¬fn.body=none:=by intro h; rw[h]at hbody; simp at hbody
   simp[execOp,ho,resolve,hv,Deferred.ofValue,invoke,callFunc,hfn,oo,oq,e]
  rw[hrun]
  exact⟨rfl,yH⟩
theorem AZ {f:Operand} {args:Array Operand} {ts:Array TypeId} {g:Nat} {aS:List AV} (ho:o.op= .call {callee:= .value f,args:=args,argTypes:=ts}) (hf:ev F f= .bR (.fn g) aS):∀n ∈ AV.az (oO F args.toList++aS),∃s ∈ dm o.op,n ∈ (look F s).names:=by
 have hfo:f ∈ o.op.operands.toList:=by simp[ho,Op.operands,Call.operands]
 have hao:∀x ∈ args.toList,x ∈ o.op.operands.toList:=fun x hx=>by
  simp only[ho,Op.operands,Call.operands,Array.toList_append]
  exact List.mem_append_right _ hx
 intro n hn
 rw[j4,List.mem_append]at hn
 rcases hn with hn|hn
 ·obtain⟨x,hx,hn⟩:=je hn
  exact bj x (hao x hx) hn
 ·exact bj f hfo (by rw[hf]; simpa[AV.names]using hn)
theorem A0 {Rx:List Nat} {f:Operand} {args:Array Operand} {ts:Array TypeId} {g:Nat} {aS:List AV} {av:AV} {ws:List (Nat × bg)} {nw:List Nat} (ho:o.op= .call {callee:= .value f,args:=args,argTypes:=ts}) (hf:ev F f= .bR (.fn g) aS)
  (hfn:∃fn,P.funcs[g]? =some fn/\(fn.name== "runtime.NumGoroutine")=false/\fn.body.isNone=false) {Ry:List Nat} (hc:Mx P X g (oO F args.toList++aS) Ry M av ws nw) (hy:∀n ∈ Ry,n ∈ Rx) (hx:∀s ∈ dm o.op,∀n ∈ (look F s).names,n ∈ Rx):qL P X o F M Rx av ws nw:=by
 have hfo:f ∈ o.op.operands.toList:=by simp[ho,Op.operands,Call.operands]
 have hao:∀x ∈ args.toList,x ∈ o.op.operands.toList:=fun x hx=>by
  simp only[ho,Op.operands,Call.operands,Array.toList_append]
  exact List.mem_append_right _ hx
 refine⟨fun p hp=>(hc.1 p hp).imp id (fun h=> .inr ⟨hy _ h.1,h.2⟩),.inl hx,fun M' N ρ I a w hW hU hN hF=> ?_⟩
 have r1:=aq hU f hfo
 rw[hf]at r1
 generalize hv:a.eval f=v at r1
 cases r1 with
 |bR _ _ us hl hr=>
  have hR:=(jc (F:=F) (ρ:=ρ) (L:=lens M') (I:=I) (w:=w) (N:=N) (a:=a) args.toList (fun x hx=>aq hU x (hao x hx))).append (⟨hl,hr⟩:dw ρ (lens M') I w N aS us)
  have yH:=hc.2 M' N ρ I w _ hW (fun n hn=>hN n (hy n hn)) hF hR
  obtain⟨fn,hfn,hname,hbody⟩:=hfn
  unfold bS
  have hrun:(execOp a.eval o).run P w= .ok (.enter g ((args.toList.map a.eval++us).toArray)) w:=by
   have e:(args.map a.eval)++us.toArray=(args.toList.map a.eval++us).toArray:=by apply Array.ext'; simp
   have oo:¬fn.name= "runtime.NumGoroutine" :=by simpa using hname
   have oq:¬fn.body=none:=by intro h; rw[h]at hbody; simp at hbody
   simp[execOp,ho,resolve,hv,Deferred.ofValue,invoke,callFunc,hfn,oo,oq,e]
  rw[hrun]
  exact⟨rfl,yH⟩
end Go.AM
namespace Go.AM
open Go.RowKit
variable {P:Program} {T:TT} {X:cq}
end Go.AM
namespace Go.AM
open Go.RowKit
variable {P:Program} {T:TT} {X:cq}
theorem yI {a:Act} {d:Option Nat} {v:Value} {F:aW} {av:AV} {i size:Nat} (hs:a.tmps.size=size) (hd:∀x,d=some x->x<size):
  (look (ir F d av) i=av/\(a.put d v).tmps.getD i undef=v)\/(look (ir F d av) i=look F i/\(a.put d v).tmps.getD i undef=a.tmps.getD i undef):=by
 cases d with
 |none=>exact .inr ⟨rfl,rfl⟩
 |some x=>
  by_cases h:i=x
  ·subst h
   left
   have:=hd i rfl
   refine⟨by simp[ir,look],?_⟩
   simp only[Act.put]
   rw[Array.getD_eq_getD_getElem?,Array.getElem?_setIfInBounds_self_of_lt (by omega)]
   rfl
  ·right
   have hb:(i==x)=false:=by simpa using h
   refine⟨by simp[ir,look,hb],?_⟩
   simp only[Act.put]
   rw[Array.getD_eq_getD_getElem?,Array.getElem?_setIfInBounds_ne (by omega),<-Array.getD_eq_getD_getElem?]
theorem yJ {o:Oper} {a:Act} {w:World} {M:bv} {N:Nat->Prop} {ρ:Place} {I:Nat->Prop} {av:AV} {ws:List (Nat × bg)} (hy:bS P X o a M N ρ I w av ws):∀c,o.op≠ .defer c:=by
 intro c ho
 unfold bS at hy
 simp only[execOp,ho,Sem.run_bind]at hy
 cases hr:(resolve a.eval c o.type).run P w with
 |ok d w1=>rw[hr]at hy; simp at hy
 |halt h w1=>rw[hr]at hy; simp at hy
theorem yK {o:Oper} {a:Act} {w w':World} {f:Nat} {vs:Array Value} (h:(execOp a.eval o).run P w= .ok (.enter f vs) w'):∀c,o.op≠ .defer c:=by
 intro c ho
 simp only[execOp,ho,Sem.run_bind]at h
 cases hr:(resolve a.eval c o.type).run P w with
 |ok d w1=>rw[hr]at h; simp at h
 |halt e w1=>rw[hr]at h; simp at h
theorem xe {b:Frame} {all:Array Oper} {i:Nat} {rest:List Nat} {k:List Item} {cs:List Frame} {o:Oper} {a:Act} {w:World} {M:bv} {N:Nat->Prop} {ρ:Place} {I:Nat->Prop} {av:AV} {ws:List (Nat × bg)}
  (ho:all[i]? =some o) (hw:Region.wanted o (yielded all a.tmps)=true) (hy:bS P X o a M N ρ I w av ws):
  ∃v w1,iv X M N ρ I w av ws v w1/\Steps P (lone (b.atR a (.inRegion all (i::rest)::k)) cs w) (lone (b.atR (a.put o.dst v) (.inRegion all rest::k)) cs w1):=by
 have hg:=stepGR_op (P:=P) (b:=b) (k:=k) (cs:=cs) (w:=w) (rest:=rest) ho hw
 rw[Oper.semAt_eq _ _ _ (yJ hy)]at hg
 have xf:∀v,(b.atR a (.inRegion all (i::rest)::k)).finish v=b.atR (a.put o.dst v) (.inRegion all rest::k):=by
  intro v; rw[Frame.finish_atR,ho]; rfl
 unfold bS at hy
 split at hy
 ·rename_i v w' hr
  refine⟨v,w',hy,.one (step_lone_go ?_)⟩
  rw[hg,<-xf]; simp[stepG.apply,hr]
 ·rename_i w' hr
  refine⟨undef,w',hy,.one (step_lone_go ?_)⟩
  rw[hg,<-xf]; simp[stepG.apply,hr]
 ·rename_i f args w' hr
  obtain⟨rfl,hc⟩:=hy
  obtain⟨e,w'',fr,hR,sJ,_,sK⟩:=hc (b.atR a (.inRegion all (i::rest)::k)::cs)
  obtain⟨v,rfl,hp⟩:=hR
  have k7:step P (lone (b.atR a (.inRegion all (i::rest)::k)) cs w')=
    .next (lone (Frame.enter P f args .normal) (b.atR a (.inRegion all (i::rest)::k)::cs) w'):=
   step_lone_go (by rw[hg]; simp[stepG.apply,hr,Frame.atR])
  refine⟨v,w'',hp,.head k7 (sJ.trans (.one ?_))⟩
  rw[<-xf]; exact step_leave_returned sK
 ·exact hy.elim
theorem sL {all:Array Oper} {tmps:Array Value} {j s:Nat} (h:(all[j]?).bind (·.dst)=some s):yielded all tmps j=match tmps[s]? with|some (.bool b)=>some b|_=>none:=by
 unfold yielded; rw[h]; rfl
theorem DK {tmps:Array Value} {s:Nat} {t:Bool} (h:tmps.getD s undef= .bool t):tmps[s]? =some (.bool t):=by
 rw[Array.getD_eq_getD_getElem?]at h
 cases hh:tmps[s]? with
 |none=>rw[hh]at h; simp[undef]at h
 |some v=>rw[hh]at h; simpa using h
section
variable {V:Type}
def ov (g:Nat->Option V) (f:Nat->V):Nat->V:=fun k=>(g k).getD (f k)
def fl (gs:Nat->Nat->Option V) (L:Nat->Prop) [DecidablePred L]:Nat->(Nat->V)->Nat->V
 |0,f=>f
 |m+1,f=>if L m then ov (gs m) (fl gs L m f)else fl gs L m f
theorem jf {gs:Nat->Nat->Option V} {L L':Nat->Prop} [DecidablePred L] [DecidablePred L'] {f:Nat->V} {k:Nat}:∀ {m:Nat},(∀i,i<m->gs i k≠none->(L i↔L' i))->fl gs L m f k=fl gs L' m f k
 |0,_=>rfl
 |m+1,h=>by
  have ih:=jf (gs:=gs) (f:=f) (k:=k) (m:=m) (fun i hi=>h i (by omega))
  simp only[fl]
  cases hg:gs m k with
  |none=>
   have e1:(if L m then ov (gs m) (fl gs L m f)else fl gs L m f) k=fl gs L m f k:=by split<;>simp[ov,hg]
   have e2:(if L' m then ov (gs m) (fl gs L' m f)else fl gs L' m f) k=fl gs L' m f k:=by split<;>simp[ov,hg]
   rw[e1,e2,ih]
  |some v=>
   have hh:=h m (by omega) (by rw[hg]; simp)
   by_cases hl:L m
   ·rw[if_pos hl,if_pos (hh.1 hl)]; simp[ov,hg]
   ·rw[if_neg hl,if_neg (fun h=>hl (hh.2 h))]; exact ih
theorem A1 {gs:Nat->Nat->Option V} {L L':Nat->Prop} [DecidablePred L] [DecidablePred L'] {f:Nat->V} {k j:Nat} (hL:∀i,L' i↔(i=j\/ L i)) (hj:¬L j):∀ {m:Nat},j<m->(∀i,i<m->i≠j->gs j k≠none->gs i k≠none->L i->i<j)->
  fl gs L' m f k=(gs j k).getD (fl gs L m f k)
 |0,h,_=>by omega
 |m+1,hm,h=>by
  have hne:∀i,i≠j->(L' i↔L i):=fun i hi=>by rw[hL]; exact⟨fun h=>h.elim (fun e=>(hi e).elim) id,.inr⟩
  simp only[fl]
  by_cases e:j=m
  ·subst e
   have h1:fl gs L' j f k=fl gs L j f k:=jf (fun i hi _=>hne i (by omega))
   rw[if_pos ((hL j).2 (.inl rfl)),if_neg hj]
   simp only[ov,h1]
  ·have ih:=A1 (gs:=gs) (f:=f) (k:=k) hL hj (m:=m) (by omega) (fun i hi=>h i (by omega))
   have hLm:L' m↔L m:=hne m (fun h=>e h.symm)
   by_cases hl:L m
   ·rw[if_pos (hLm.2 hl),if_pos hl]
    simp only[ov]
    cases hg:gs m k with
    |none=>simpa using ih
    |some v=>
     cases hgj:gs j k with
     |none=>simp
     |some u=>
      have:=h m (by omega) (by omega) (by rw[hgj]; simp) (by rw[hg]; simp) hl
      omega
   ·rw[if_neg (fun h=>hl (hLm.1 h)),if_neg hl]; exact ih
end
def FK (ops:Array Oper) (i j:Nat):Prop:=∃o e,ops[j]? =some o/\e ∈ o.after.toList/\Region.binds .any e=true/\e.on=i
def gN (ops:Array Oper) (L:Nat->Prop):Prop:=∀i j,FK ops i j->L j->L i
def iz (ops:Array Oper) (i j:Nat):Prop:=∀L:Nat->Prop,gN ops L->(∀k,FK ops k j->L k)->L i
theorem mf:∀ (r:List Oper) (i:Nat),sA i r=true->∀k o,r[k]? =some o->∀e ∈ o.after.toList,Region.binds .any e=true->e.on<i+k
 |[],i,_,k,o,h=>by simp at h
 |x::r,i,hb,k,o,h=>by
  simp only[sA,Bool.and_eq_true]at hb
  intro e he NI
  cases k with
  |zero=>
   simp only[List.getElem?_cons_zero,Option.some.injEq]at h
   subst h
   have:=List.all_eq_true.1 hb.1 e he
   simp only[NI,Bool.not_true,Bool.false_or]at this
   rw[Nat.blt_eq]at this
   omega
  |succ k=>
   have:=mf r (i+1) hb.2 k o (by simpa using h) e he NI
   omega
theorem ot {acc:List Nat} {i:Nat}:∀ {es:List Edge},(qK acc es).testBit i=true->∃e ∈ es,Region.binds .any e=true/\(e.on=i\/(acc.getD e.on 0).testBit i=true)
 |[],h=>by simp[qK]at h
 |e::r,h=>by
  simp only[qK]at h
  cases hb:Region.binds .any e with
  |true=>
   rw[hb]at h
   simp only[cond_true,Nat.testBit_or,Bool.or_eq_true]at h
   rcases h with (h|h)|h
   ·exact⟨e,List.mem_cons_self,hb,.inl (by simpa[Nat.testBit_two_pow]using h)⟩
   ·exact⟨e,List.mem_cons_self,hb,.inr h⟩
   ·obtain⟨e',h1,h2⟩:=ot h
    exact⟨e',List.mem_cons_of_mem _ h1,h2⟩
  |false=>
   rw[hb]at h
   obtain⟨e',h1,h2⟩:=ot h
   exact⟨e',List.mem_cons_of_mem _ h1,h2⟩
theorem sM {ops:Array Oper}:∀ (r:List Oper) (acc:List Nat),r=ops.toList.drop acc.length->(∀k i,(acc.getD k 0).testBit i=true->iz ops i k)->∀k i,((jL r acc).getD k 0).testBit i=true->iz ops i k
 |[],acc,_,h,k,i,hb=>h k i hb
 |o::r,acc,hr,h,k,i,hb=>by
  have ho:ops[acc.length]? =some o:=by
   have:(ops.toList.drop acc.length)[0]? =some o:=by rw[<-hr]; rfl
   simpa using this
  have hr':r=ops.toList.drop (acc.length+1):=by
   have:(o::r).drop 1=(ops.toList.drop acc.length).drop 1:=by rw[hr]
   simpa[List.drop_drop]using this
  refine sM r (acc++ [qK acc o.after.toList]) (by simpa using hr') (fun k i hb=> ?_) k i hb
  by_cases hk:k<acc.length
  ·exact h k i (by simpa[List.getD_eq_getElem?_getD,List.getElem?_append_left hk]using hb)
  ·by_cases hk2:k=acc.length
   ·subst hk2
    have:(qK acc o.after.toList).testBit i=true:=by simpa[List.getD_eq_getElem?_getD]using hb
    obtain⟨e,he,NI,h1|h1⟩:=ot this
    ·exact fun L _ hp=>hp i ⟨o,e,ho,he,NI,h1⟩
    ·exact fun L hc hp=>h e.on i h1 L hc (fun k' hk'=>hc _ _ hk' (hp e.on ⟨o,e,ho,he,NI,rfl⟩))
   ·rw[List.getD_eq_getElem?_getD,List.getElem?_eq_none (by simp; omega)]at hb
    simp at hb
structure A2 where
 F:aW
 M:Mem
 lo:Nat
 run:Bool
 av:AV
 ws:List (Nat × bg)
 nw:List Nat
 W:List Nat
 R:List Nat
 k:Nat
def mP (ops:Array Oper) (o:Oper) (F:aW) (run:Bool):Prop:=
 match o.guard with
 |none=>run=true
 |some (j,want)=>∃s,(ops[j]?).bind (·.dst)=some s/\((run=true/\look F s= .bool want)\/(run=false/\(look F s= .bool (!want)\/ look F s= .aN [])))
def A3 (log:List gg) (x:gg):Prop:=x ∈ log\/(x.R=[]/\x.W=[]/\x.lo=x.hi)
structure Gh (P:Program) (X:cq) (ops:Array Oper) (ca:List gg) (E:Nat->A2) (j:Nat) (o:Oper):Prop where
 guard:mP ops o (E j).F (E j).run
 p8:(E j).run=true->qL P X o (E j).F (ab (E j).M) (E j).R (E j).av (E j).ws (E j).nw
 wn:∀p ∈ (E j).ws,p.1 ∈ (E j).nw\/ p.1 ∈ (E j).W
 skip:(E j).run=false->(E j).av= .aN []/\(E j).ws=[]/\(E j).nw=[]
 le:(E j).lo<=(E (j+1)).lo
 nw:∀n ∈ (E j).nw,(E j).lo<=n/\n< (E (j+1)).lo
 F:look (E (j+1)).F=look (ir (E j).F o.dst (E j).av)
 M:ab (E (j+1)).M=ab (cQ (E j).M (E j).ws)
 log:(E j).run=true->A3 ca ⟨j,(E j).R,(E j).W,(E j).lo,(E (j+1)).lo,(E j).k⟩
 Zp:(E j).run=true->(E j).k=1->nM P X o (E j).F (ab (E j).M) (E j).av/\(E j).ws=[]
 sto:(E j).run=true->(E j).k=2->∀p ∈ (E j).ws,lens (ab (E j).M) p.1=some (p.2.ln,p.2.sz)
 Zq:(E j).run=true->(E j).k=3->oR P X o (E j).F (ab (E j).M) (E j).av/\(E j).ws=[]
 JB:(E j).run=true->(E j).k=4->∀p ∈ (E j).ws,Vw (ab (E j).M p.1)=Vw (some p.2)
theorem yL {log ca:List gg} {i:Nat} {R W:List Nat} {lo hi k:Nat} (h:∀x ∈ F6 i R W lo hi k log,x ∈ ca):A3 ca ⟨i,R,W,lo,hi,k⟩:=by
 unfold F6 at h
 cases hc:(R.isEmpty&&W.isEmpty)&&lo==hi with
 |true=>
  simp only[Bool.and_eq_true,List.isEmpty_iff,beq_iff_eq]at hc
  exact .inr ⟨hc.1.1,hc.1.2,hc.2⟩
 |false=>rw[hc]at h; exact .inl (h _ List.mem_cons_self)
theorem Gi {log:List gg} {i:Nat} {R W:List Nat} {lo hi k:Nat}:∀x ∈ log,x ∈ F6 i R W lo hi k log:=by
 intro x hx
 unfold F6
 cases (R.isEmpty&&W.isEmpty)&&lo==hi
 ·exact List.mem_cons_of_mem _ hx
 ·exact hx
theorem k8 {F:aW} {s:Nat} {v:AV} (h:look F s=v):look ((s,v)::F)=look F:=by
 funext i
 by_cases e:i=s
 ·subst e; simp[look,h]
 ·have:(i==s)=false:=by simpa using e
  simp[look,this]
end Go.AM
namespace Go.AM
open Go.RowKit
variable {P:Program} {T:TT} {X:cq}
theorem dy:∀ {cs:List AV} {m:Nat},m ∈ AV.az cs->∃j,j<cs.length/\m ∈ (cs.getD j .bad).names
 |[],_,h=>by simp[AV.az]at h
 |c::cs,m,h=>by
  simp only[AV.az,List.mem_append]at h
  rcases h with h|h
  ·exact⟨0,by simp,by simpa using h⟩
  ·obtain⟨j,hj,hm⟩:=dy h
   exact⟨j+1,by simpa using hj,by simpa using hm⟩
theorem ky {ρ:Place} {L:aZ} {I:Nat->Prop} {w:World} {N:Nat->Prop} {a:AV} {v:Value} (h:aL ρ L I w N a v):∀m ∈ a.names,N m:=by
 induction h with
 |loc n len i off v hn h1 h=>intro m hm; simp[AV.names]at hm; exact hm ▸ hn
 |bc n len v hn h1 h=>intro m hm; simp[AV.names]at hm; exact hm ▸ hn
 |ee n len i off bX v hn h1 h=>intro m hm; simp[AV.names]at hm; exact hm ▸ hn
 |omap n v hn h1 h=>intro m hm; simp[AV.names]at hm; exact hm ▸ hn
 |qI f aS vs hl hr ih=>intro m hm; obtain⟨j,hj,hm⟩:=dy (by simpa[AV.names]using hm); exact ih j hj m hm
 |bR f aS vs hl hr ih=>intro m hm; obtain⟨j,hj,hm⟩:=dy (by simpa[AV.names]using hm); exact ih j hj m hm
 |agg cs vs hl h1 hr ih=>intro m hm; obtain⟨j,hj,hm⟩:=dy (by simpa[AV.names]using hm); exact ih j hj m hm
 |aN cs vs hl hr ih=>intro m hm; obtain⟨j,hj,hm⟩:=dy (by simpa[AV.names]using hm); exact ih j hj m hm
 |_=>intro m hm; simp[AV.names]at hm
theorem c9.nP {ρ:Place} {I:Nat->Prop} {M:bv} {N N':Nat->Prop} {w:World} (W:c9 X ρ I M N w) (hN:∀m,N m->N' m):c9 X ρ I M N' w:=by
 refine⟨fun n b hb=> ?_,W.inj,W.pW,W.lt,W.old,W.keeps,fun n hn=>hN n (W.pn n hn),W.FY,W.par⟩
 have B:=W.aT n b hb
 refine⟨hN n B.lt,B.even,B.eD,fun g cap hρ=> ?_,B.iter⟩
 obtain⟨cs,fr,hc1,DA,kn,uV,Ck,AL,DB,DC⟩:=B.real g cap hρ
 refine⟨cs,fr,hc1,DA,kn,uV,Ck,AL,DB,fun i j hi hj=> ?_⟩
 obtain⟨u,hu,pU,hr⟩:=DC i j hi hj
 exact⟨u,hu,pU,hr.wide hN⟩
def u5:List (Nat × bg)->Nat->Option (Option bg)
 |[],_=>none
 |(n,b)::r,k=>match u5 r k with
  |some x=>some x
  |none=>if k=n then some (some b)else none
theorem mQ:∀ (ws:List (Nat × bg)) (M:bv),dj M ws=ov (u5 ws) M
 |[],M=>by funext k; rfl
 |(n,b)::r,M=>by
  funext k
  simp only[dj,mQ r,ov,u5]
  cases hw:u5 r k with
  |some x=>simp
  |none=>by_cases h:k=n<;>simp[cX,h]
theorem r4:∀ {ws:List (Nat × bg)} {k:Nat},u5 ws k≠none->∃p ∈ ws,p.1=k
 |[],k,h=>by simp[u5]at h
 |(n,b)::r,k,h=>by
  simp only[u5]at h
  cases hw:u5 r k with
  |some x=>obtain⟨p,h1,h2⟩:=r4 (ws:=r) (k:=k) (by rw[hw]; simp); exact⟨p,List.mem_cons_of_mem _ h1,h2⟩
  |none=>
   rw[hw]at h
   by_cases e:k=n
   ·exact⟨_,List.mem_cons_self,e.symm⟩
   ·simp[e]at h
def u6 (d:Option Nat) (av:AV) (k:Nat):Option AV:=match d with
 |some d=>if k=d then some av else none
 |none=>none
theorem DL (F:aW) (d:Option Nat) (av:AV):look (ir F d av)=ov (u6 d av) (look F):=by
 funext k
 cases d with
 |none=>rfl
 |some d=>
  by_cases h:k=d
  ·subst h; simp[ir,look,ov,u6]
  ·have:(k==d)=false:=by simpa using h
   simp[ir,look,ov,u6,h,this]
theorem Gj {V:Type} {gs:Nat->Nat->Option V} {f:Nat->V} {k j:Nat}:∀ {m:Nat},j<=m->fl gs (· <j) m f k=fl gs (fun _=>True) j f k
 |0,h=>by have:j=0:=by omega
          subst this; rfl
 |m+1,h=>by
  by_cases e:j=m+1
  ·subst e
   exact jf (fun i hi _=>by simp[hi])
  ·have ih:=Gj (gs:=gs) (f:=f) (k:=k) (j:=j) (m:=m) (by omega)
   simp only[fl]
   rw[if_neg (by omega)]
   exact ih
theorem yM {a:Act} {d:Option Nat} {v:Value} {s size:Nat} (hs:a.tmps.size=size) (hd:∀x,d=some x->x<size):(a.put d v).tmps.getD s undef=if d=some s then v else a.tmps.getD s undef:=by
 cases d with
 |none=>simp[Act.put]
 |some x=>
  by_cases h:x=s
  ·subst h
   have:=hd x rfl
   simp only[Act.put,if_pos]
   rw[Array.getD_eq_getD_getElem?,Array.getElem?_setIfInBounds_self_of_lt (by omega)]
   rfl
  ·have h':¬ (some x=some s):=by simpa using h
   rw[if_neg h']
   simp only[Act.put]
   rw[Array.getD_eq_getD_getElem?,Array.getElem?_setIfInBounds_ne h,<-Array.getD_eq_getD_getElem?]
section
variable {ops:Array Oper} {E:Nat->A2} {S:St} {ca:List gg}
def gF (ops:Array Oper) (E:Nat->A2) (j:Nat):Nat->Option AV:=u6 ((ops[j]?).bind (·.dst)) (E j).av
def gM (E:Nat->A2) (j:Nat):Nat->Option (Option bg):=u5 (E j).ws
structure bw (P:Program) (X:cq) (ops:Array Oper) (E:Nat->A2) (S:St) (ca:List gg):Prop where
 Zr:w7 ops ca=true
 draw:p7 ops=true
 F0:look (E 0).F=look S.F
 M0:(E 0).M=S.M
 Zt:(E 0).lo=S.nx
 ok:∀ (j:Nat) (o:Oper),ops[j]? =some o->Gh P X ops ca E j o
 size:∀ (j:Nat) (o:Oper),ops[j]? =some o->∀d,o.dst=some d->d<X.size
theorem bw.Gk (h:bw P X ops E S ca):∀j,j<=ops.size->fl (gF ops E) (fun _=>True) j (look S.F)=look (E j).F
 |0,_=>h.F0.symm
 |j+1,hj=>by
  have ho:ops[j]? =some ops[j]:=Array.getElem?_eq_getElem (by omega)
  have R:=h.ok j _ ho
  rw[R.F,DL]
  simp only[fl,if_true]
  rw[h.Gk j (by omega)]
  simp only[gF,ho,Option.bind_some]
theorem bw.sN (h:bw P X ops E S ca):∀j,j<=ops.size->fl (gM E) (fun _=>True) j (ab S.M)=ab (E j).M
 |0,_=>by rw[h.M0]; rfl
 |j+1,hj=>by
  have ho:ops[j]? =some ops[j]:=Array.getElem?_eq_getElem (by omega)
  have R:=h.ok j _ ho
  rw[R.M,ja,mQ]
  simp only[fl,if_true]
  rw[h.sN j (by omega)]
  rfl
theorem bw.lo (h:bw P X ops E S ca) {i:Nat}:∀ {j:Nat},i<=j->j<=ops.size->(E i).lo<=(E j).lo
 |0,hij,_=>by have:i=0:=by omega
              subst this; exact Nat.le_refl _
 |j+1,hij,hj=>by
  by_cases e:i=j+1
  ·subst e; exact Nat.le_refl _
  ·have ho:ops[j]? =some ops[j]:=Array.getElem?_eq_getElem (by omega)
   exact Nat.le_trans (h.lo (i:=i) (j:=j) (by omega) (by omega)) (h.ok j _ ho).le
theorem bw.dir (h:bw P X ops E S ca) {i j:Nat} (hd:FK ops i j):i<j:=by
 obtain⟨o,e,ho,he,hb,rfl⟩:=hd
 have:=h.draw
 simp only[p7,Bool.and_eq_true]at this
 have:=mf _ 0 this.1 j o (by simpa using ho) e he hb
 omega
theorem bw.gO (h:bw P X ops E S ca) {i j:Nat} (hb:iz ops i j):i<j:=
 hb (· <j) (fun a b hd hb=>by have:=h.dir hd; omega) (fun k hk=>h.dir hk)
theorem jQ {i j:Nat} (h:((jL ops.toList []).getD j 0).testBit i=true):iz ops i j:=
 sM ops.toList [] (by simp) (fun k i h=>by simp at h) j i h
theorem bw.apart (h:bw P X ops E S ca) {i j:Nat} {x y:Oper} (hi:ops[i]? =some x) (hj:ops[j]? =some y) (hij:i<j):iz ops i j\/ x.apart ops y=true:=by
 have:=h.draw
 simp only[p7,Bool.and_eq_true,Cl]at this
 have hj':=(Array.getElem?_eq_some_iff.1 hj).1
 have h1:=List.all_eq_true.1 this.2 j (List.mem_range.2 hj')
 have h2:=List.all_eq_true.1 h1 i (List.mem_range.2 hij)
 rw[hi,hj]at h2
 rw[Bool.or_eq_true]at h2
 rcases h2 with h|h
 ·exact .inl (jQ h)
 ·exact .inr h
theorem xg {i k:Nat} (h:gF ops E i k≠none):∃o,ops[i]? =some o/\o.dst=some k:=by
 unfold gF at h
 cases ho:ops[i]? with
 |none=>rw[ho]at h; simp[u6]at h
 |some o=>
  refine⟨o,rfl,?_⟩
  rw[ho]at h
  simp only[Option.bind_some]at h
  cases hd:o.dst with
  |none=>rw[hd]at h; simp[u6]at h
  |some d=>
   rw[hd]at h
   by_cases e:k=d
   ·rw[e]
   ·simp[u6,e]at h
theorem bw.slot (h:bw P X ops E S ca) {L:Nat->Prop} [DecidablePred L] (hc:gN ops L) {j:Nat} {o:Oper} (ho:ops[j]? =some o) (hj:¬L j) (hp:∀k,FK ops k j->L k) {s:Nat} (hs:s ∈ o.looksAt ops):
  fl (gF ops E) L ops.size (look S.F) s=look (E j).F s:=by
 have Jj:=(Array.getElem?_eq_some_iff.1 ho).1
 rw[<-h.Gk j (by omega),<-Gj (m:=ops.size) (by omega)]
 refine jf fun i hi hg=> ?_
 obtain⟨x,hx,hd⟩:=xg hg
 rcases Nat.lt_trichotomy i j with hij|hij|hij
 ·rcases h.apart hx ho hij with hb|hb
  ·exact⟨fun _=>hij,fun _=>hb L hc hp⟩
  ·exact ((Oper.apart_spec hb).1 s hd hs).elim
 ·subst hij; exact⟨fun h=>(hj h).elim,fun h=>by omega⟩
 ·rcases h.apart ho hx hij with hb|hb
  ·exact⟨fun hl=>(hj (hb L hc (fun k hk=>hc k i hk hl))).elim,fun h=>by omega⟩
  ·exact ((Oper.apart_spec hb).2.2 s hd hs).elim
theorem bw.JC (h:bw P X ops E S ca) {L:Nat->Prop} (hc:gN ops L) {j:Nat} {o:Oper} (ho:ops[j]? =some o) (hj:¬L j) {k i:Nat} (hij:i≠j) (h1:gF ops E j k≠none) (h2:gF ops E i k≠none) (hl:L i):i<j:=by
 obtain⟨x,hx,hd⟩:=xg h2
 obtain⟨y,hy,Co⟩:=xg h1
 rcases Nat.lt_trichotomy i j with h3|h3|h3
 ·exact h3
 ·omega
 ·rcases h.apart hy hx h3 with hb|hb
  ·exact (hj (hb L hc (fun k hk=>hc k i hk hl))).elim
  ·exact ((Oper.apart_spec hb).2.1 k Co hd).elim
theorem vG {lo hi:Nat} {R W:List Nat} (h:Ny lo hi R W=true) {n:Nat} (hn:n ∈ R):¬ (lo<=n/\n<hi)/\n ∉ W:=by
 have:=List.all_eq_true.1 h n hn
 simp only[Bool.and_eq_true,Bool.not_eq_true',Bool.and_eq_false_iff,List.any_eq_false]at this
 refine⟨?_,fun hw=> ?_⟩
 ·rintro⟨h1,h2⟩
  rcases this.1 with h3|h3
  ·have:=Nat.ble_eq_true_of_le h1; rw[h3]at this; simp at this
  ·have Sk:Nat.blt n hi=true:=by rw[Nat.blt_eq]; exact h2
   rw[h3]at Sk; simp at Sk
 ·exact this.2 n hw (Nat.beq_refl n)
def Gl (E:Nat->A2) (ca:List gg) (j:Nat):Prop:=l7 ca ⟨j,(E j).R,(E j).W,(E j).lo,(E (j+1)).lo,(E j).k⟩=true
def KP (E:Nat->A2) (i j:Nat):Prop:=((E i).k=3/\(E j).k=4)\/((E i).k=4/\(E j).k=3)
theorem bw.pair (h:bw P X ops E S ca) {i j:Nat} {x y:Oper} (hi:ops[i]? =some x) (hj:ops[j]? =some y) (hij:i≠j) (ri:(E i).run=true) (rj:(E j).run=true) (ni:¬Gl E ca i) (nj:¬Gl E ca j):
  iz ops i j\/ iz ops j i\/ KP E i j\/(∀n,(∃p ∈ (E i).ws,p.1=n)->n ∉ (E j).R)/\(∀n,(∃p ∈ (E i).ws,p.1=n)->(∃p ∈ (E j).ws,p.1=n)->False):=by
 have Ri:=h.ok i x hi
 have Rj:=h.ok j y hj
 have hi':=(Array.getElem?_eq_some_iff.1 hi).1
 have hj':=(Array.getElem?_eq_some_iff.1 hj).1
 have li:=Ri.log ri
 have lj:=Rj.log rj
 have key:iz ops i j\/ iz ops j i\/ KP E i j\/((∀n ∈ (E j).R,¬ ((E i).lo<=n/\n< (E (i+1)).lo)/\n ∉ (E i).W)/\(∀n ∈ (E i).R,¬ ((E j).lo<=n/\n< (E (j+1)).lo)/\n ∉ (E j).W)):=by
  rcases li with li|⟨hR,hW,hlo⟩
  ·rcases lj with lj|⟨RL,hW',Zu⟩
   ·have h1:=List.all_eq_true.1 (List.all_eq_true.1 h.Zr _ li) _ lj
    simp only[Bool.or_eq_true,Nat.beq_eq_true_eq]at h1
    rcases h1 with ((((h1|h1)|h1)|h1)|h1)|h1
    ·exact (hij (Nat.eq_of_beq_eq_true h1)).elim
    rotate_left
    ·exact (ni h1).elim
    ·exact (nj h1).elim
    ·simp only[DE,Bool.and_eq_true]at h1
     exact .inr (.inr (.inl (.inl ⟨Nat.eq_of_beq_eq_true h1.1,Nat.eq_of_beq_eq_true h1.2⟩)))
    ·simp only[DE,Bool.and_eq_true]at h1
     exact .inr (.inr (.inl (.inr ⟨Nat.eq_of_beq_eq_true h1.2,Nat.eq_of_beq_eq_true h1.1⟩)))
    ·simp only[AQ,Bool.or_eq_true,Bool.and_eq_true]at h1
     rcases h1 with (h1|h1)|⟨h1,h2⟩
     ·exact .inr (.inl (jQ h1))
     ·exact .inl (jQ h1)
     ·exact .inr (.inr (.inr ⟨fun n hn=>vG h1 hn,fun n hn=>vG h2 hn⟩))
   ·refine .inr (.inr (.inr ⟨fun n hn=> ?_,fun n hn=> ?_⟩))
    ·simp only at RL; rw[RL]at hn; simp at hn
    ·simp only at hW' Zu; rw[hW']; exact⟨by omega,by simp⟩
  ·refine .inr (.inr (.inr ⟨fun n hn=> ?_,fun n hn=> ?_⟩))
   ·simp only at hW hlo; rw[hW]; exact⟨by omega,by simp⟩
   ·simp only at hR; rw[hR]at hn; simp at hn
 rcases key with h1|h1|h1|⟨k1,k2⟩
 ·exact .inl h1
 ·exact .inr (.inl h1)
 ·exact .inr (.inr (.inl h1))
 refine .inr (.inr (.inr ⟨fun n ⟨p,hp,hn⟩ hr=> ?_,fun n ⟨p,hp,hn⟩ ⟨q,hq,hn'⟩=> ?_⟩))
 ·subst hn
  rcases Ri.wn p hp with hw|hw
  ·exact (k1 _ hr).1 (Ri.nw _ hw)
  ·exact (k1 _ hr).2 hw
 ·subst hn
  have bf:p.1 ∈ (E i).nw\/ p.1 ∈ (E i).R:=by
   rcases (Ri.p8 ri).1 p hp with hv|⟨s',hs',hv⟩|⟨hv,_⟩
   ·exact .inl hv
   ·rcases (Ri.p8 ri).2.1 with h2|⟨h2,_⟩
    ·exact .inr (h2 s' hs' _ hv)
    ·rw[h2]at hp; simp at hp
   ·exact .inr hv
  have inJ:q.1 ∈ (E j).nw\/ q.1 ∈ (E j).R:=by
   rcases (Rj.p8 rj).1 q hq with hv|⟨s',hs',hv⟩|⟨hv,_⟩
   ·exact .inl hv
   ·rcases (Rj.p8 rj).2.1 with h2|⟨h2,_⟩
    ·exact .inr (h2 s' hs' _ hv)
    ·rw[h2]at hq; simp at hq
   ·exact .inr hv
  rcases inJ with hw|hw
  ·rw[hn']at hw
   rcases bf with hv|hv
   ·have a1:=Ri.nw _ hv
    have a2:=Rj.nw _ hw
    rcases Nat.lt_or_gt_of_ne hij with hlt|hlt
    ·have:=h.lo (i:=i+1) (j:=j) (by omega) (by omega); omega
    ·have:=h.lo (i:=j+1) (j:=i) (by omega) (by omega); omega
   ·exact (k2 _ hv).1 (Rj.nw _ hw)
  ·rw[hn']at hw
   rcases Ri.wn p hp with hv|hv
   ·exact (k1 _ hw).1 (Ri.nw _ hv)
   ·exact (k1 _ hw).2 hv
theorem bw.runs (h:bw P X ops E S ca) {i:Nat} {k:Nat} (hi:i<ops.size) (hg:gM E i k≠none):∃x,ops[i]? =some x/\(E i).run=true/\∃p ∈ (E i).ws,p.1=k:=by
 have ho:ops[i]? =some ops[i]:=Array.getElem?_eq_getElem hi
 have hp:=r4 hg
 refine⟨_,ho,?_,hp⟩
 cases hr:(E i).run with
 |true=>rfl
 |false=>
  obtain⟨_,h2,_⟩:=(h.ok i _ ho).skip hr
  rw[h2]at hp
  simp at hp
theorem bw.A4 (h:bw P X ops E S ca) {i n:Nat} {x:Oper} (hx:ops[i]? =some x) (hr:(E i).run=true) (hw:∃p ∈ (E i).ws,p.1=n):¬Gl E ca i:=by
 intro ha
 unfold Gl l7 at ha
 simp only[Bool.and_eq_true]at ha
 have:=((h.ok i x hx).Zp hr (Nat.eq_of_beq_eq_true ha.1)).2
 rw[this]at hw
 simp at hw
theorem r5:∀ {ws:List (Nat × bg)} {k:Nat} {v:Option bg},u5 ws k=some v->∃p ∈ ws,p.1=k/\v=some p.2
 |[],k,v,h=>by simp[u5]at h
 |(n,b)::r,k,v,h=>by
  simp only[u5]at h
  cases hw:u5 r k with
  |some x=>
   rw[hw]at h
   obtain⟨p,h1,h2,h3⟩:=r5 (ws:=r) hw
   simp only[Option.some.injEq]at h
   exact⟨p,List.mem_cons_of_mem _ h1,h2,by rw[<-h]; exact h3⟩
  |none=>
   rw[hw]at h
   by_cases e:k=n
   ·simp[e]at h
    exact⟨_,List.mem_cons_self,e.symm,h.symm⟩
   ·simp[e]at h
theorem bw.shape (h:bw P X ops E S ca) {j n:Nat} (ha:Gl E ca j) (hn:n ∈ (E j).R):∀ (m:Nat),m<=ops.size->∀ (L:Nat->Prop) [DecidablePred L],lens (fl (gM E) L m (ab S.M)) n=lens (ab S.M) n
 |0,_,L,_=>rfl
 |m+1,hm,L,_=>by
  have ih:=h.shape ha hn m (by omega) L
  simp only[fl]
  split
  ·cases hg:gM E m n with
   |none=>
    have e:ov (gM E m) (fl (gM E) L m (ab S.M)) n=fl (gM E) L m (ab S.M) n:=by simp[ov,hg]
    unfold lens at ih ⊢
    rw[e]; exact ih
   |some v=>
    obtain⟨p,hp,JD,hv⟩:=r5 hg
    obtain⟨x,hx,vH,_⟩:=h.runs (i:=m) (k:=n) (by omega) (by rw[hg]; simp)
    have Rm:=h.ok m x hx
    have hall:∀y ∈ ca,n<y.lo/\(y.k=2\/ n ∉ y.W):=fun y hy=>by
     have ha:=ha
     unfold Gl l7 at ha
     simp only[Bool.and_eq_true]at ha
     have h1:=List.all_eq_true.1 (List.all_eq_true.1 ha.2 y hy) n hn
     simp only[Bool.and_eq_true,Bool.or_eq_true,Bool.not_eq_true',List.any_eq_false]at h1
     refine⟨by simpa[Nat.blt_eq]using h1.1,h1.2.imp (fun h=>Nat.eq_of_beq_eq_true h) fun h hw=>h n hw (Nat.beq_refl n)⟩
    have hwn:=Rm.wn p hp
    rw[JD]at hwn
    have hk2:(E m).k=2:=by
     rcases Rm.log vH with hl|⟨_,hW,hlo⟩
     ·obtain⟨h1,h2⟩:=hall _ hl
      simp only at h1 h2
      rcases hwn with hw|hw
      ·have:=Rm.nw n hw; omega
      ·exact h2.resolve_right fun h=>h hw
     ·simp only at hW hlo
      rcases hwn with hw|hw
      ·have:=Rm.nw n hw; omega
      ·rw[hW]at hw; simp at hw
    have hs:=Rm.sto vH hk2 p hp
    rw[JD,<-h.sN m (by omega),h.shape ha hn m (by omega) (fun _=>True)]at hs
    have e:ov (gM E m) (fl (gM E) L m (ab S.M)) n=some p.2:=by simp[ov,hg,hv]
    rw[hs]
    rw[aA]
    exact⟨p.2,e,rfl,rfl⟩
  ·exact ih
theorem bw.MF (h:bw P X ops E S ca) {i n:Nat} {x:Oper} (hx:ops[i]? =some x) (hr:(E i).run=true) (h3:(E i).k=3) (hw:∃p ∈ (E i).ws,p.1=n):False:=by
 rw[((h.ok i x hx).Zq hr h3).2]at hw
 simp at hw
theorem bw.mem (h:bw P X ops E S ca) {L:Nat->Prop} [DecidablePred L] (hc:gN ops L) {j:Nat} {o:Oper} (ho:ops[j]? =some o) (hj:¬L j) (hp:∀k,FK ops k j->L k) (hr:(E j).run=true) (nj:¬Gl E ca j) (n3:(E j).k≠3) {n:Nat} (hn:n ∈ (E j).R):
  fl (gM E) L ops.size (ab S.M) n=ab (E j).M n:=by
 have Jj:=(Array.getElem?_eq_some_iff.1 ho).1
 rw[<-h.sN j (by omega),<-Gj (m:=ops.size) (by omega)]
 refine jf fun i hi hg=> ?_
 obtain⟨x,hx,vH,hk⟩:=h.runs hi hg
 by_cases hij:i=j
 ·subst hij; exact⟨fun h=>(hj h).elim,fun h=>by omega⟩
 rcases h.pair hx ho hij vH hr (h.A4 hx vH hk) nj with hb|hb|hb|⟨hb,_⟩
 ·exact⟨fun _=>h.gO hb,fun _=>hb L hc hp⟩
 ·have:=h.gO hb
  exact⟨fun hl=>(hj (hb L hc (fun k hk=>hc k i hk hl))).elim,fun h=>by omega⟩
 ·rcases hb with⟨hb,_⟩|⟨_,hb⟩
  ·exact (h.MF hx vH hb hk).elim
  ·exact (n3 hb).elim
 ·exact (hb n hk hn).elim
theorem bw.NJ (h:bw P X ops E S ca) {L:Nat->Prop} (hc:gN ops L) {j:Nat} (Jj:j<ops.size) (hj:¬L j) {k i:Nat} (hi:i<ops.size) (hij:i≠j) (h1:gM E j k≠none) (h2:gM E i k≠none) (hl:L i):i<j:=by
 obtain⟨x,hx,vH,hk⟩:=h.runs hi h2
 obtain⟨y,hy,NK,hk'⟩:=h.runs Jj h1
 rcases h.pair hx hy hij vH NK (h.A4 hx vH hk) (h.A4 hy NK hk')with hb|hb|hb|⟨_,hb⟩
 ·exact h.gO hb
 ·exact (hj (hb L hc (fun k hk=>hc k i hk hl))).elim
 ·rcases hb with⟨hb,_⟩|⟨_,hb⟩
  ·exact (h.MF hx vH hb hk).elim
  ·exact (h.MF hy NK hb hk').elim
 ·exact (hb k hk hk').elim
theorem bw.view (h:bw P X ops E S ca) {L:Nat->Prop} [DecidablePred L] (hc:gN ops L) {j:Nat} {o:Oper} (ho:ops[j]? =some o) (hj:¬L j) (hp:∀k,FK ops k j->L k) (hr:(E j).run=true) (nj:¬Gl E ca j) (h3:(E j).k=3) {n:Nat} (hn:n ∈ (E j).R):
  Vw (fl (gM E) L ops.size (ab S.M) n)=Vw (ab (E j).M n):=by
 have Jj:=(Array.getElem?_eq_some_iff.1 ho).1
 let T:Nat->Option bg:=fun m=>fl (gM E) (fun _=>True) m (ab S.M) n
 have hT:∀m,m<=ops.size->T m=ab (E m).M n:=fun m hm=>by rw[<-h.sN m hm]
 have tS:∀m,gM E m n=none->T (m+1)=T m:=fun m hm=>by simp[T,fl,ov,hm]
 have lS:∀m,(L m->gM E m n=none)->fl (gM E) L (m+1) (ab S.M) n=fl (gM E) L m (ab S.M) n:=fun m hm=>by
  simp only[fl]
  split
  ·rename_i hl; simp[ov,hm hl]
  ·rfl
 have lT:∀m,L m->gM E m n≠none->fl (gM E) L (m+1) (ab S.M) n=T (m+1):=fun m hl hg=>by
  cases hv:gM E m n with
  |none=>exact (hg hv).elim
  |some v=>simp[T,fl,ov,hv,hl]
 have v4:∀m,m<ops.size->gM E m n≠none->(E m).k=4->Vw (T (m+1))=Vw (T m):=fun m hm hg h4=>by
  obtain⟨x,hx,vH,_⟩:=h.runs hm hg
  cases hv:gM E m n with
  |none=>exact (hg hv).elim
  |some v=>
   obtain⟨p,hp,JD,hpv⟩:=r5 hv
   have:=(h.ok m x hx).JB vH h4 p hp
   rw[JD,<-hT m (by omega)]at this
   rw[this]
   simp[T,fl,ov,hv,hpv]
 have un:∀m,m<ops.size->m≠j->gM E m n≠none->iz ops m j\/ iz ops j m\/(E m).k=4:=fun m hm Gm hg=>by
  obtain⟨x,hx,vH,hk⟩:=h.runs hm hg
  rcases h.pair hx ho Gm vH hr (h.A4 hx vH hk) nj with hb|hb|hb|⟨hb,_⟩
  ·exact .inl hb
  ·exact .inr (.inl hb)
  ·rcases hb with⟨hb,_⟩|⟨hb,_⟩
   ·exact (h.MF hx vH hb hk).elim
   ·exact .inr (.inr hb)
  ·exact (hb n hk hn).elim
 have jn:gM E j n=none:=by
  cases hv:gM E j n with
  |none=>rfl
  |some v=>
   obtain⟨p,hp,JD,_⟩:=r5 hv
   exact (h.MF ho hr h3 ⟨p,hp,JD⟩).elim
 have A:∀m,m<=j->Vw (fl (gM E) L m (ab S.M) n)=Vw (T m):=by
  intro m
  induction m with
  |zero=>intro _; rfl
  |succ m ih=>
   intro hm
   have ih:=ih (by omega)
   cases hv:gM E m n with
   |none=>rw[tS m hv,lS m (fun _=>hv)]; exact ih
   |some v=>
    have hg:gM E m n≠none:=by rw[hv]; simp
    by_cases hl:L m
    ·rw[lT m hl hg]
    ·rcases un m (by omega) (by omega) hg with hb|hb|h4
     ·exact (hl (hb L hc hp)).elim
     ·have:=h.gO hb; omega
     ·rw[v4 m (by omega) hg h4,lS m (fun h=>(hl h).elim)]; exact ih
 have B:∀m,j<m->m<=ops.size->Vw (fl (gM E) L m (ab S.M) n)=Vw (T j):=by
  intro m
  induction m with
  |zero=>intro h0; omega
  |succ m ih=>
   intro hm Sl
   by_cases e:m=j
   ·subst e
    rw[lS m (fun h=>(hj h).elim)]; exact A m (Nat.le_refl _)
   ·have ih:=ih (by omega) (by omega)
    by_cases hw:L m/\gM E m n≠none
    ·obtain⟨hl,hg⟩:=hw
     have m4:(E m).k=4:=by
      rcases un m (by omega) e hg with hb|hb|h4
      ·have:=h.gO hb; omega
      ·exact (hj (hb L hc (fun k hk=>hc k m hk hl))).elim
      ·exact h4
     rw[lT m hl hg,v4 m (by omega) hg m4]
     have C:∀q,j<=q->q<=m->Vw (T q)=Vw (T j):=by
      intro q
      induction q with
      |zero=>intro hq _; rw[show j=0 by omega]
      |succ q Yi=>
       intro hq hqm
       by_cases e2:q+1=j
       ·rw[e2]
       ·have Yi:=Yi (by omega) (by omega)
        cases hv:gM E q n with
        |none=>rw[tS q hv]; exact Yi
        |some v=>
         have Sm:gM E q n≠none:=by rw[hv]; simp
         by_cases e3:q=j
         ·rw[e3]at Sm; exact (Sm jn).elim
         ·obtain⟨x,hx,vH,hk⟩:=h.runs (i:=q) (by omega) Sm
          obtain⟨y,hy,NK,hk'⟩:=h.runs (i:=m) (by omega) hg
          have hlq:L q:=by
           rcases h.pair hx hy (by omega) vH NK (h.A4 hx vH hk) (h.A4 hy NK hk')with hb|hb|hb|⟨_,hb⟩
           ·exact hb L hc (fun k hk=>hc k m hk hl)
           ·have:=h.gO hb; omega
           ·rcases hb with⟨hb,_⟩|⟨_,hb⟩
            ·exact (h.MF hx vH hb hk).elim
            ·exact (h.MF hy NK hb hk').elim
           ·exact (hb n hk hk').elim
          have q4:(E q).k=4:=by
           rcases un q (by omega) e3 Sm with hb|hb|h4
           ·have:=h.gO hb; omega
           ·exact (hj (hb L hc (fun k hk=>hc k q hk hlq))).elim
           ·exact h4
          rw[v4 q (by omega) Sm q4]; exact Yi
     exact C m (by omega) (Nat.le_refl _)
    ·rw[lS m (fun hl=>Classical.not_not.1 fun hg=>hw ⟨hl,hg⟩)]; exact ih
 rw[B ops.size Jj (Nat.le_refl _),hT j (by omega)]
def NL (m:Nat) (E:Nat->A2) (S:St) (L:Nat->Prop):Nat->Prop:=fun n=>n<S.nx\/∃i,(i<m/\L i)/\n ∈ (E i).nw
structure sO (X:cq) (ops:Array Oper) (E:Nat->A2) (S:St) (L:Nat->Prop) [DecidablePred L] (ρ:Place) (I:Nat->Prop) (a:Act) (w:World):Prop where
 W:c9 X ρ I (fl (gM E) L ops.size (ab S.M)) (NL ops.size E S L) w
 rep:∀s,aL ρ (lens (fl (gM E) L ops.size (ab S.M))) I w (NL ops.size E S L) (fl (gF ops E) L ops.size (look S.F) s) (a.tmps.getD s undef)
 defers:l8 I w X a.defers
 size:a.tmps.size=X.size
def qb (all ops:Array Oper):Prop:=∀ (j:Nat) (o:Oper),ops[j]? =some o->all[j]? =some o
theorem DM {all:Array Oper} (hall:qb all ops) {o:Oper} {a:Act} {F:aW} {r:Bool} (hg:mP ops o F r) (hs:∀s ∈ o.looksAt ops,∃ρ L I w N,aL ρ L I w N (look F s) (a.tmps.getD s undef)):Region.wanted o (yielded all a.tmps)=r:=by
 unfold mP at hg
 cases Sp:o.guard with
 |none=>rw[Sp]at hg; simp only at hg; simp[Region.wanted,Sp,hg]
 |some p=>
  obtain⟨j,want⟩:=p
  rw[Sp]at hg
  obtain⟨s,hd,hv⟩:=hg
  have eQ:s ∈ o.looksAt ops:=by
   simp only[Oper.looksAt,Sp,hd,List.mem_append]
   right; simp
  obtain⟨ρ,L,I,w,N,hr⟩:=hs s eQ
  have hd:(all[j]?).bind (·.dst)=some s:=by
   cases hj:ops[j]? with
   |none=>rw[hj]at hd; simp at hd
   |some x=>rw[hall j x hj,<-hj]; exact hd
  have hy:=sL (tmps:=a.tmps) hd
  have hw:Region.wanted o (yielded all a.tmps)=(yielded all a.tmps j==some want):=by simp[Region.wanted,Sp]
  have vb:∀b,look F s= .bool b->yielded all a.tmps j=some b:=fun b hb=>by
   rw[hb]at hr
   have hv:=gn hr
   have hg:a.tmps[s]? =some (.bool b):=by
    rw[Array.getD_eq_getD_getElem?]at hv
    cases hh:a.tmps[s]? with
    |none=>rw[hh]at hv; simp[undef]at hv
    |some v=>rw[hh]at hv; simpa using hv
   rw[hy,hg]
  rcases hv with⟨rfl,hv⟩|⟨rfl,hv|hv⟩
  ·rw[hw,vb _ hv]; simp
  ·rw[hw,vb _ hv]; cases want<;>rfl
  ·rw[hv]at hr
   generalize Yj:a.tmps.getD s undef=v at hr
   cases hr with
   |aN _ us hle _=>
    have Gn:us=[]:=List.eq_nil_of_length_eq_zero (by simpa using hle)
    subst Gn
    have NF:yielded all a.tmps j=none:=by
     rw[hy]
     cases ht:a.tmps[s]? with
     |none=>rfl
     |some v=>
      rw[Array.getD_eq_getD_getElem?,ht]at Yj
      simp at Yj
      rw[Yj]
    rw[hw,NF]; rfl
theorem bw.step {all:Array Oper} (hall:qb all ops) (h:bw P X ops E S ca) {L:Nat->Prop} [DecidablePred L] (hc:gN ops L) {j:Nat} {o:Oper} (ho:ops[j]? =some o) (hj:¬L j) (hp:∀k,FK ops k j->L k)
  {ρ:Place} {I:Nat->Prop} {a:Act} {w:World} (D:sO X ops E S L ρ I a w) {b:Frame} {rest:List Nat} {k:List Item} {cs:List Frame}:
  ∃a' w' ρ' I',Steps P (lone (b.atR a (.inRegion all (j::rest)::k)) cs w) (lone (b.atR a' (.inRegion all rest::k)) cs w')/\sO X ops E S (fun i=>i=j\/ L i) ρ' I' a' w':=by
 have Jj:=(Array.getElem?_eq_some_iff.1 ho).1
 have R:=h.ok j o ho
 have eQ:∀s ∈ o.looksAt ops,aL ρ (lens (fl (gM E) L ops.size (ab S.M))) I w (NL ops.size E S L) (look (E j).F s) (a.tmps.getD s undef):=fun s hs=>by
  rw[<-h.slot hc ho hj hp hs]; exact D.rep s
 have Gn:∀s ∈ dm o.op,s ∈ o.looksAt ops:=fun s hs=>by
  simp only[Oper.looksAt,List.mem_append]
  left
  unfold dm at hs
  generalize o.op.operands.toList=l at hs
  induction l with
  |nil=>simp[nL]at hs
  |cons x r ih=>
   cases x with
   |tmp t=>
    simp only[nL,List.mem_cons]at hs
    rcases hs with rfl|hs
    ·simp
    ·simp[ih hs]
   |_=>simpa[nL]using ih (by simpa[nL]using hs)
 have hw:=DM hall R.guard (a:=a) (fun s hs=>⟨_,_,_,_,_,eQ s hs⟩)
 have yN:=h.size j o ho
 have MG:∀s,fl (gF ops E) (fun i=>i=j\/ L i) ops.size (look S.F) s=if o.dst=some s then (E j).av else fl (gF ops E) L ops.size (look S.F) s:=fun s=>by
  rw[A1 (L:=L) (fun i=>Iff.rfl) hj Jj (fun i hi hij h1 h2 hl=>h.JC hc ho hj hij h1 h2 hl)]
  simp only[gF,ho,Option.bind_some]
  cases hd:o.dst with
  |none=>simp[u6]
  |some d=>
   by_cases e:d=s
   ·subst e; simp[u6]
   ·have e':¬s=d:=fun h=>e h.symm
    simp[u6,e,e']
 have Gp:fl (gM E) (fun i=>i=j\/ L i) ops.size (ab S.M)=dj (fl (gM E) L ops.size (ab S.M)) (E j).ws:=by
  funext n
  rw[A1 (L:=L) (fun i=>Iff.rfl) hj Jj (fun i hi hij h1 h2 hl=>h.NJ hc Jj hj hi hij h1 h2 hl),mQ]
  rfl
 cases hr:(E j).run with
 |true=>
  rw[hr]at hw
  have hd:=R.p8 hr
  have hy:bS P X o a (fl (gM E) L ops.size (ab S.M)) (NL ops.size E S L) ρ I w (E j).av (E j).ws:=by
   rcases hd.2.1 with hd2|⟨A5,hfree⟩
   rotate_left
   ·rw[A5]
    exact hfree _ _ ρ I a w D.W (fun s hs=>eQ s (Gn s hs))
   by_cases hA:Gl E ca j
   ·have Zv:=hA
    unfold Gl l7 at Zv
    simp only[Bool.and_eq_true]at Zv
    obtain⟨hl,A5⟩:=R.Zp hr (Nat.eq_of_beq_eq_true Zv.1)
    rw[A5]
    exact hl _ _ ρ I a w D.W (fun s hs=>eQ s (Gn s hs)) (fun s hs n hn=>by
     have hn':=hd2 s hs n hn
     rw[h.shape hA hn' ops.size (Nat.le_refl _) L,<-h.sN j (by omega),h.shape hA hn' j (by omega) (fun _=>True)])
   ·by_cases h3:(E j).k=3
    ·obtain⟨hl,A5⟩:=R.Zq hr h3
     rw[A5]
     exact hl _ _ ρ I a w D.W (fun s hs=>eQ s (Gn s hs)) (fun s hs n hn=>h.view hc ho hj hp hr hA h3 (hd2 s hs n hn))
    exact hd.2.2 (fl (gM E) L ops.size (ab S.M)) (NL ops.size E S L) ρ I a w D.W (fun s hs=>eQ s (Gn s hs)) (fun n hn=>h.mem hc ho hj hp hr hA h3 hn) (fun n hn hN=>by
     have a1:=R.nw n hn
     rcases hN with hN|⟨i,hl,hN⟩
     ·have:=h.lo (i:=0) (j:=j) (by omega) (by omega); have:=h.Zt; omega
     ·have hij:i≠j:=fun e=>hj (e ▸ hl.2)
      have a2:=(h.ok i _ (Array.getElem?_eq_getElem hl.1)).nw n hN
      rcases Nat.lt_or_gt_of_ne hij with hlt|hlt
      ·have:=h.lo (i:=i+1) (j:=j) (by omega) (by omega); omega
      ·have:=h.lo (i:=j+1) (j:=i) (by omega) (by omega); omega)
  obtain⟨v,w1,⟨ρ1,I1,Ev,W1,R1⟩,hst⟩:=xe (b:=b) (rest:=rest) (k:=k) (cs:=cs) (hall _ _ ho) hw hy
  have hN:∀m,fM (NL ops.size E S L) (E j).ws m->NL ops.size E S (fun i=>i=j\/ L i) m:=by
   rintro m (hm|⟨bb,hm⟩)
   ·rcases hm with hm|⟨i,hl,hm⟩
    ·exact .inl hm
    ·exact .inr ⟨i,⟨hl.1,.inr hl.2⟩,hm⟩
   ·have hm0:=hm
    rcases hd.1 _ hm with hm|⟨s,hs,hm⟩|⟨hm,hne⟩
    ·exact .inr ⟨j,⟨Jj,.inl rfl⟩,hm⟩
    ·rcases ky (eQ s (Gn s hs)) m hm with hm|⟨i,hl,hm⟩
     ·exact .inl hm
     ·exact .inr ⟨i,⟨hl.1,.inr hl.2⟩,hm⟩
    ·have hA:¬Gl E ca j:=h.A4 ho hr ⟨_,hm0,rfl⟩
     have n3:(E j).k≠3:=fun h3=>h.MF ho hr h3 ⟨_,hm0,rfl⟩
     have e:=h.mem hc ho hj hp hr hA n3 hm
     cases hb:fl (gM E) L ops.size (ab S.M) m with
     |none=>rw[hb]at e; exact (hne e.symm).elim
     |some b=>
      rcases (D.W.aT m b hb).lt with hm|⟨i,hl,hm⟩
      ·exact .inl hm
      ·exact .inr ⟨i,⟨hl.1,.inr hl.2⟩,hm⟩
  refine⟨_,w1,ρ1,I1,hst,?_,fun s=> ?_,?_,?_⟩
  ·rw[Gp]; exact W1.nP hN
  ·rw[Gp,MG,yM D.size yN]
   by_cases e:o.dst=some s
   ·rw[if_pos e,if_pos e]; exact R1.wide hN
   ·rw[if_neg e,if_neg e]; exact ((D.rep s).uO Ev (fun _ h=>h)).wide (fun m hm=>hN m (.inl hm))
  ·cases o.dst<;>exact D.defers.uO Ev
  ·cases hdd:o.dst with
   |none=>exact D.size
   |some x=>simpa[Act.put]using D.size
 |false=>
  rw[hr]at hw
  obtain⟨s1,s2,s3⟩:=R.skip hr
  have MH:fl (gM E) (fun i=>i=j\/ L i) ops.size (ab S.M)=fl (gM E) L ops.size (ab S.M):=by rw[Gp,s2]; rfl
  have hN:∀m,NL ops.size E S L m->NL ops.size E S (fun i=>i=j\/ L i) m:=by
   rintro m (hm|⟨i,hl,hm⟩)
   ·exact .inl hm
   ·exact .inr ⟨i,⟨hl.1,.inr hl.2⟩,hm⟩
  have hst:=stepR_op_skip (P:=P) (b:=b) (a:=a) (k:=k) (cs:=cs) (w:=w) (ops:=all) (i:=j) (rest:=rest) (by simp[hall _ _ ho,hw])
  simp only[hall _ _ ho,Option.bind_some]at hst
  refine⟨_,w,ρ,I,.one hst,?_,fun s=> ?_,?_,?_⟩
  ·rw[MH]; exact D.W.nP hN
  ·rw[MH,MG,yM D.size yN]
   by_cases e:o.dst=some s
   ·rw[if_pos e,if_pos e,s1]; exact .aN [] [] rfl (fun j hj=>by simp at hj)
   ·rw[if_neg e,if_neg e]; exact (D.rep s).wide hN
  ·cases o.dst<;>exact D.defers
  ·cases hdd:o.dst with
   |none=>exact D.size
   |some x=>simpa[Act.put]using D.size
end
end Go.AM
namespace Go.AM
open Go.RowKit
structure PT (P:Program) (T:TT):Prop where
 tt:dp P T
 mix:P.follows .mixedOrders=true
variable {P:Program} {T:TT} {X:cq}
def Good (ops:Array Oper):(Nat->Prop)->List Nat->Prop
 |L,[]=>∀i,i<ops.size->L i
 |L,i::r=>i<ops.size/\¬L i/\(∀k,FK ops k i->L k)/\Good ops (fun x=>x=i\/ L x) r
theorem Good.congr {ops:Array Oper}:∀ {is:List Nat} {L L':Nat->Prop},(∀i,L i↔L' i)->Good ops L is->Good ops L' is
 |[],L,L',h,g=>fun i hi=>(h i).1 (g i hi)
 |i::r,L,L',h,g=>⟨g.1,fun hl=>g.2.1 ((h i).2 hl),fun k hk=>(h k).1 (g.2.2.1 k hk),Good.congr (fun x=>by rw[h x]) g.2.2.2⟩
def bX (m:Nat) (f:Nat->Bool):Nat:=(List.range m).countP f
theorem Cp {f g:Nat->Bool} {i:Nat}:∀ {m:Nat},i<m->f i=true->g i=false->(∀k,k≠i->g k=f k)->bX m g+1=bX m f
 |0,h,_,_,_=>by omega
 |m+1,h,hf,hg,he=>by
  simp only[bX,List.range_succ,List.countP_append,List.countP_singleton]
  by_cases e:i=m
  ·subst e
   have h1:List.countP g (List.range i)=List.countP f (List.range i):=List.countP_congr (fun k hk=>by
    rw[he k (by have:=List.mem_range.1 hk; omega)])
   rw[h1,hf,hg]; simp
  ·have ih:=Cp (m:=m) (by omega) hf hg he
   simp only[bX]at ih
   rw[he m (fun h=>e h.symm)]
   omega
theorem xh {ops:Array Oper} (Cq:∀i j,FK ops i j->i<j) {listed:Array Bool} (hr:(List.range ops.size).filter (fun i=>
  !listed.getD i true&&((ops[i]?).map (·.after.all fun e=> !Region.binds .any e||listed.getD e.on false)).getD false)=[]) (hsz:listed.size=ops.size):∀i,i<ops.size->listed.getD i false=true:=by
 intro i
 induction i using Nat.strongRecOn with
 |ind i ih=>
  intro hi
  have h1:=List.filter_eq_nil_iff.1 hr i (List.mem_range.2 hi)
  rw[Array.getElem?_eq_getElem hi]at h1
  simp only[Option.map_some,Option.getD_some,Bool.and_eq_true,not_and]at h1
  cases hl:listed.getD i false with
  |true=>rfl
  |false=>
   have ol:listed.getD i true=false:=by
    rw[Array.getD_eq_getD_getElem?,Array.getElem?_eq_getElem (by omega)]at hl ⊢
    simpa using hl
   refine absurd ?_ (h1 (by rw[ol]; rfl))
   rw[Array.all_eq_true']
   intro e he
   cases hb:Region.binds .any e with
   |false=>rfl
   |true=>
    have hlt:=Cq e.on i ⟨ops[i],e,Array.getElem?_eq_getElem hi,by simpa using he,hb,rfl⟩
    rw[ih e.on hlt (by omega)]
    rfl
theorem yO {ops:Array Oper} (Cq:∀i j,FK ops i j->i<j):∀ (fuel t:Nat) (listed:Array Bool),listed.size=ops.size->bX ops.size (fun i=> !listed.getD i true)<=fuel->Good ops (fun i=>listed.getD i false=true) (Region.linearise.go .any ops fuel t listed [])
 |0,t,listed,hsz,hc=>by
  simp only[Region.linearise.go,List.reverse_nil,Good]
  intro i hi
  have h0:bX ops.size (fun i=> !listed.getD i true)=0:=by omega
  have:=List.countP_eq_zero.1 h0 i (List.mem_range.2 hi)
  rw[Array.getD_eq_getD_getElem?,Array.getElem?_eq_getElem (by omega)]at this ⊢
  simpa using this
 |fuel+1,t,listed,hsz,hc=>by
  simp only[Region.linearise.go]
  generalize hrs:(List.range ops.size).filter (fun i=>
   !listed.getD i true&&((ops[i]?).map (·.after.all fun e=> !Region.binds .any e||listed.getD e.on false)).getD false)=rs
  cases hi:rs[t % rs.length]? with
  |none=>
   have hnil:rs=[]:=by
    cases rs with
    |nil=>rfl
    |cons x xs=>
     have hlt:t % (x::xs).length< (x::xs).length:=Nat.mod_lt _ (by simp)
     rw[List.getElem?_eq_getElem hlt]at hi
     simp at hi
   subst hnil
   simp only[List.reverse_nil,Good]
   exact xh Cq hrs hsz
  |some i=>
   simp only
   rw[linearise_go_acc,List.reverse_singleton,List.singleton_append]
   have hm:i ∈ rs:=List.mem_of_getElem? hi
   rw[<-hrs,List.mem_filter,List.mem_range]at hm
   obtain⟨him,hb⟩:=hm
   simp only[Bool.and_eq_true,Bool.not_eq_true']at hb
   obtain⟨hl,hb⟩:=hb
   rw[Array.getElem?_eq_getElem him]at hb
   simp only[Option.map_some,Option.getD_some]at hb
   have hlf:listed.getD i false=false:=by
    rw[Array.getD_eq_getD_getElem?,Array.getElem?_eq_getElem (by omega)]at hl ⊢
    simpa using hl
   have Jz:∀x (d:Bool),x≠i->(listed.setIfInBounds i true).getD x d=listed.getD x d:=fun x d hx=>by
    rw[Array.getD_eq_getD_getElem?,Array.getElem?_setIfInBounds_ne (by omega),<-Array.getD_eq_getD_getElem?]
   have MI:∀d:Bool,(listed.setIfInBounds i true).getD i d=true:=fun d=>by
    rw[Array.getD_eq_getD_getElem?,Array.getElem?_setIfInBounds_self_of_lt (by omega)]; rfl
   refine⟨him,by show ¬ (listed.getD i false=true); rw[hlf]; simp,?_,?_⟩
   ·rintro k ⟨o,e,ho,he,NI,rfl⟩
    rw[Array.getElem?_eq_getElem him]at ho
    cases ho
    have:=(Array.all_eq_true'.1 hb) e (by simpa using he)
    rw[NI]at this
    simpa using this
   ·refine Good.congr (fun x=> ?_) (yO Cq fuel (t / rs.length) (listed.setIfInBounds i true) (by simpa using hsz) ?_)
    ·by_cases e:x=i
     ·subst e; simp[MI]
     ·simp[Jz x false e,e]
    ·have:=Cp (m:=ops.size) (i:=i) (f:=fun i=> !listed.getD i true) (g:=fun x=> !(listed.setIfInBounds i true).getD x true) him (by simp[hl]) (by simp[MI]) (fun k hk=>by simp[Jz k true hk])
     omega
section
variable {ops:Array Oper} {E:Nat->A2} {S:St} {ca:List gg}
theorem bw.walk {all:Array Oper} (hall:qb all ops) (h:bw P X ops E S ca) {tl:List Nat} {b:Frame} {k:List Item} {cs:List Frame}:∀ (is:List Nat) (L:Nat->Prop) [DecidablePred L],Good ops L is->gN ops L->∀ {ρ:Place} {I:Nat->Prop} {a:Act} {w:World},sO X ops E S L ρ I a w->
  ∃a' w' ρ' I',Steps P (lone (b.atR a (.inRegion all (is++tl)::k)) cs w) (lone (b.atR a' (.inRegion all tl::k)) cs w')/\sO X ops E S (fun _=>True) ρ' I' a' w'
 |[],L,_,hg,hc,ρ,I,a,w,D=>by
  refine⟨a,w,ρ,I,.refl _ _,?_⟩
  have eF:fl (gF ops E) (fun _=>True) ops.size (look S.F)=fl (gF ops E) L ops.size (look S.F):=by
   funext k; exact jf (fun i hi _=>⟨fun _=>hg i hi,fun _=>trivial⟩)
  have eM:fl (gM E) (fun _=>True) ops.size (ab S.M)=fl (gM E) L ops.size (ab S.M):=by
   funext k; exact jf (fun i hi _=>⟨fun _=>hg i hi,fun _=>trivial⟩)
  have hN:∀m,NL ops.size E S L m->NL ops.size E S (fun _=>True) m:=by
   rintro m (hm|⟨i,hl,hm⟩)
   ·exact .inl hm
   ·exact .inr ⟨i,⟨hl.1,trivial⟩,hm⟩
  exact⟨by rw[eM]; exact D.W.nP hN,fun s=>by rw[eM,eF]; exact (D.rep s).wide hN,D.defers,D.size⟩
 |i::r,L,_,hg,hc,ρ,I,a,w,D=>by
  obtain⟨him,hnl,hp,uP⟩:=hg
  have lZ:gN ops (fun x=>x=i\/ L x):=by
   rintro x y hd (rfl|hl)
   ·exact .inr (hp x hd)
   ·exact .inr (hc x y hd hl)
  obtain⟨a1,w1,ρ1,I1,h1,D1⟩:=h.step hall hc (Array.getElem?_eq_getElem him) hnl hp D (b:=b) (rest:=r++tl) (k:=k) (cs:=cs)
  obtain⟨a2,w2,ρ2,I2,h2,D2⟩:=h.walk hall (tl:=tl) r _ uP lZ D1
  exact⟨a2,w2,ρ2,I2,h1.trans h2,D2⟩
end
def JE (all:Array Oper) (m:Nat):Prop:=∀j,m<=j->j<all.size->∀i,i<j->iz all i j
theorem Good.tail {all:Array Oper} {m0:Nat} (hT:JE all m0):∀ (is:List Nat) (m:Nat) (L:Nat->Prop),m0<=m->m<=all.size->gN all L->(∀i,L i↔i<m)->Good all L is->is=List.range' m (all.size - m)
 |[],m,L,_,hm,_,hL,g=>by
  have:all.size<=m:=by
   rcases Nat.lt_or_ge m all.size with h|h
   ·have:=(hL m).1 (g m h); omega
   ·exact h
  rw[show all.size - m=0 by omega]; rfl
 |i::r,m,L,h0,hm,hc,hL,g=>by
  obtain⟨g1,g2,g3,g4⟩:=g
  have hmi:m<=i:=by
   rcases Nat.lt_or_ge i m with h|h
   ·exact (g2 ((hL i).2 h)).elim
   ·exact h
  have e:i=m:=by
   rcases Nat.lt_or_ge m i with h|h
   ·have:=(hL m).1 (hT i (by omega) g1 m h L hc g3); omega
   ·omega
  subst e
  have lZ:gN all (fun x=>x=i\/ L x):=by
   rintro x y hd (rfl|hl)
   ·exact .inr (g3 x hd)
   ·exact .inr (hc x y hd hl)
  rw[show all.size - i=(all.size - (i+1))+1 by omega,List.range'_succ]
  rw[Good.tail hT r (i+1) _ (by omega) (by omega) lZ (fun x=>by rw[hL x]; omega) g4]
theorem Good.split {all ops:Array Oper} (hall:qb all ops) (hT:JE all ops.size) (hsz:ops.size<=all.size):∀ (is:List Nat) (L:Nat->Prop),gN all L->(∀i,L i->i<ops.size)->Good all L is->∃s1,is=s1++List.range' ops.size (all.size - ops.size)/\Good ops L s1
 |[],L,hc,hL,g=>by
  have:all.size<=ops.size:=by
   rcases Nat.lt_or_ge ops.size all.size with h|h
   ·have:=hL _ (g ops.size h); omega
   ·exact h
  exact⟨[],by rw[show all.size - ops.size=0 by omega]; rfl,fun i hi=>g i (by omega)⟩
 |i::r,L,hc,hL,g=>by
  have g0:=g
  obtain⟨g1,g2,g3,g4⟩:=g
  have lZ:gN all (fun x=>x=i\/ L x):=by
   rintro x y hd (rfl|hl)
   ·exact .inr (g3 x hd)
   ·exact .inr (hc x y hd hl)
  rcases Nat.lt_or_ge i ops.size with hi|hi
  ·obtain⟨s1,h1,h2⟩:=Good.split hall hT hsz r _ lZ (fun x hx=>hx.elim (fun e=>e ▸ hi) (hL x)) g4
   refine⟨i::s1,by rw[h1]; rfl,hi,g2,fun k hk=>g3 k ?_,h2⟩
   obtain⟨o,e,ho,he⟩:=hk
   exact⟨o,e,hall _ _ ho,he⟩
  ·have hin:∀x,x<i->L x:=fun x hx=>hT i hi g1 x hx L hc g3
   have e:i=ops.size:=by
    rcases Nat.lt_or_ge ops.size i with h|h
    ·have:=hL _ (hin _ h); omega
    ·omega
   refine⟨[],?_,fun x hx=>hin x (by omega)⟩
   rw[List.nil_append]
   exact Good.tail hT (i::r) ops.size L (Nat.le_refl _) hsz hc (fun x=>⟨hL x,fun h=>hin x (by omega)⟩) g0
theorem vI (hT:PT P T) {all ops:Array Oper} (hall:qb all ops) (FL:JE all ops.size) (hsz:ops.size<=all.size) (hbk:∀i j,FK all i j->i<j) {S:St} {E:Nat->A2} {ca:List gg} (xi:bw P X ops E S ca)
  {a:Act} {w:World} (hS:jB X S a w) {b:Frame} {k:List Item} {id:Nat} {F:aW} {M:Mem} {nx:Nat} (e1:look F=look (E (max 0 ops.size)).F) (e2:ab M=ab (E (max 0 ops.size)).M) (e3:nx=(E (max 0 ops.size)).lo):
  ∀cs,∃a' w',jB X ⟨F,M,nx⟩ a' w'/\Steps P (lone (b.atR a (.code (.region id all true)::k)) cs w) (lone (b.atR a' (.inRegion all (List.range' ops.size (all.size - ops.size))::k)) cs w'):=by
 intro cs
 obtain⟨ρ,I,W,FO⟩:=hS
 have Gq:Good all (fun _=>False) (Region.schedule (P.follows .mixedOrders) all (w.tape w.drawn (.order b.fn id))):=by
  rw[hT.mix]
  simp only[Region.schedule,Bool.true_or,if_true,Region.linearise]
  have:=yO hbk all.size (w.tape w.drawn (.order b.fn id)) (Array.replicate all.size false) (by simp) (by
   have:=List.countP_le_length (l:=List.range all.size) (p:=fun i=> !(Array.replicate all.size false).getD i true)
   simpa[bX]using this)
  refine this.congr (fun i=> ?_)
  by_cases hi:i<all.size<;>simp[Array.getD,hi]
 obtain⟨s1,hs1,Gq⟩:=Good.split hall FL hsz _ _ (fun _ _ _ h=>h) (fun _ h=>h.elim) Gq
 have D0:sO X ops E S (fun _=>False) ρ I a w.drew:=by
  have eF:fl (gF ops E) (fun _=>False) ops.size (look S.F)=look S.F:=by
   generalize ops.size=m
   induction m with
   |zero=>rfl
   |succ m ih=>simpa[fl]using ih
  have eM:fl (gM E) (fun _=>False) ops.size (ab S.M)=ab S.M:=by
   generalize ops.size=m
   induction m with
   |zero=>rfl
   |succ m ih=>simpa[fl]using ih
  have hN:∀m,m<S.nx->NL ops.size E S (fun _=>False) m:=fun m hm=> .inl hm
  refine⟨by rw[eM]; exact (W.drew).nP hN,fun s=> ?_,FO.defers,FO.size⟩
  rw[eM,eF]
  have E1:=(W.ext (w':=w.drew) rfl rfl rfl (Nat.le_refl _) (fun _ _=>rfl) (fun _ h=>h) W.lt (fun _ _ h=>h)).1
  exact ((FO.rep s).uO E1 (fun _ h=>h)).wide hN
 obtain⟨a',w',ρ',I',hst,D'⟩:=xi.walk hall (tl:=List.range' ops.size (all.size - ops.size)) (b:=b) (k:=k) (cs:=cs) _ _ Gq (fun _ _ _ h=>h) D0
 refine⟨a',w',⟨ρ',I',?_,?_⟩,?_⟩
 ·have:=D'.W
  rw[xi.sN ops.size (Nat.le_refl _)]at this
  show c9 X ρ' I' (ab M) (· <nx) w'
  rw[e2,Nat.zero_max]
  refine this.nP ?_
  rintro m (hm|⟨i,hl,hm⟩)
  ·have:=xi.lo (i:=0) (j:=ops.size) (by omega) (Nat.le_refl _)
   rw[xi.Zt]at this
   rw[Nat.zero_max]at e3
   show m<nx
   omega
  ·have h1:=((xi.ok i _ (Array.getElem?_eq_getElem hl.1)).nw m hm).2
   have h2:=xi.lo (i:=i+1) (j:=ops.size) (by omega) (Nat.le_refl _)
   rw[Nat.zero_max]at e3
   show m<nx
   omega
 ·refine⟨fun s=> ?_,D'.defers,D'.size⟩
  have:=D'.rep s
  rw[xi.sN ops.size (Nat.le_refl _),xi.Gk ops.size (Nat.le_refl _)]at this
  show aL ρ' (lens (ab M)) I' w' (· <nx) (look F s) _
  rw[e1,e2,Nat.zero_max]
  refine this.wide ?_
  rintro m (hm|⟨i,hl,hm⟩)
  ·have:=xi.lo (i:=0) (j:=ops.size) (by omega) (Nat.le_refl _)
   rw[xi.Zt]at this
   rw[Nat.zero_max]at e3
   show m<nx
   omega
  ·have h1:=((xi.ok i _ (Array.getElem?_eq_getElem hl.1)).nw m hm).2
   have h2:=xi.lo (i:=i+1) (j:=ops.size) (by omega) (Nat.le_refl _)
   rw[Nat.zero_max]at e3
   show m<nx
   omega
 ·rw[<-hs1]at hst
  exact .head stepR_region_draw hst
theorem Gs (hT:PT P T) {ops:Array Oper} {S:St} {E:Nat->A2} {ca:List gg} (xi:bw P X ops E S ca)
  {a:Act} {w:World} (hS:jB X S a w) {b:Frame} {k:List Item} {id:Nat} {F:aW} {M:Mem} {nx:Nat} (e1:look F=look (E (max 0 ops.size)).F) (e2:ab M=ab (E (max 0 ops.size)).M) (e3:nx=(E (max 0 ops.size)).lo):
  ∀cs,∃a' w',jB X ⟨F,M,nx⟩ a' w'/\Steps P (lone (b.atR a (.code (.region id ops true)::k)) cs w) (lone (b.atR a' k) cs w'):=by
 intro cs
 obtain⟨a',w',h1,h2⟩:=vI hT (fun _ _ h=>h) (fun j h1 h2=>by omega) (Nat.le_refl _) (fun i j=>xi.dir) xi hS (b:=b) (k:=k) (id:=id) e1 e2 e3 cs
 rw[show ops.size - ops.size=0 by omega]at h2
 exact⟨a',w',h1,h2.trans (.one stepR_region_end)⟩
end Go.AM
