/- Of the reckoning machine, and what is proved with it: texts joined by program. -/
import Derived.WalkKit
import Derived.WalkSpells
import Derived.WalkLawsBesides
import Derived.Lib.Strings
import Derived.Deep.AppendSrc
import Derived.Deep.Upon
set_option linter.all false
namespace Go.AM
open Go.RowKit
inductive CO where
 |fn (f:Nat)
 |lp (l:Nat) (tm:List Value)
 deriving Inhabited
inductive AV where
 |int (k:IntKind) (n:Int)
 |bool (b:Bool)
 |str (s:List UInt8)
 |bU
 |an
 |au
 |dL
 |ci
 |loc (n len i off:Nat)
 |bh (n len:Nat)
 |dP (n len i off ca:Nat)
 |aO (sz:Nat) (es:List (List AV))
 |bv (e:List AV) (off:Nat)
 |omap (n:Nat)
 |lW (n r:Nat)
 |bW (f:CO) (aW:List AV)
 |agg (cs:List AV)
 |aU (vs:List AV)
 |bad
 deriving Inhabited
inductive Dn where
 |b (x:Bool)
 |it (r:Nat) (sn:List Bool) (la:Option Nat)
instance:Coe Bool Dn:=⟨.b⟩
def Dn.all:Dn→Bool
 | .b x=>x
 | .it _ _ _=>false
def Dn.up:Dn→Dn
 | .b x=> .b x
 | .it _ _ _=> .b false
def Dn.dl (i:Nat):Dn→Dn
 | .b _=> .b false
 | .it r sn _=> .it r (sn.eraseIdx i) none
theorem Dn.all_eq {d:Dn} (h:d.all=true):d= .b true:=by
 cases d with
 |b x=>exact congrArg Dn.b h
 |it=>exact Bool.noConfusion h
theorem Dn.CP {d:Dn}:d.up.all=d.all:=by cases d<;>rfl
theorem Dn.CQ {d:Dn} {r:Nat} {sn:List Bool} {la:Option Nat}:d.up≠ .it r sn la:=by cases d<;>exact fun h=>by cases h
def CF (w:World) (g r:Nat) (sn:List Bool) (la:Option Nat):Prop:=
 ∃en ck since seen,w.heap[g]? =some (.map en ck)∧w.heap[r]? =some (.mapIter (some g) since seen ck)∧since≤ck∧(∀x ∈ en.toList,x.born<since)∧sn=en.toList.map (fun e=>seen.contains e.born)∧∀i,la=some i→∃e,en[i]? =some e∧seen.back?=some e.born
theorem CF.at {w w':World} {g r:Nat} {sn:List Bool} {la:Option Nat} (h:CF w g r sn la) (h1:w'.heap[g]? =w.heap[g]?) (h2:w'.heap[r]? =w.heap[r]?):CF w' g r sn la:=by
 obtain⟨en,ck,since,seen,k1,k2,k3⟩:=h
 exact⟨en,ck,since,seen,h1.trans k1,h2.trans k2,k3⟩
theorem CF.lt {w:World} {g r:Nat} {sn:List Bool} {la:Option Nat} (h:CF w g r sn la):r<w.heap.size:=by
 obtain⟨en,ck,since,seen,k1,k2,k3⟩:=h
 exact (Array.getElem?_eq_some_iff.1 k2).1
structure bu where
 ty:Nat
 sz:Nat
 es:List (List AV)
 mp:Option (Nat × Bool × Bool × Dn)
def bu.ln (b:bu):Nat:=match b.mp with
 |none=>b.es.length
 |some _=>0
abbrev Mem:=List (Nat × bu)
abbrev bj:=List (Nat × AV)
def ae:Mem→Nat→Option bu
 |[],_=>none
 |(m,b)::r,n=>bif n==m then some b else ae r n
def look:bj→Nat→AV
 |[],_=> .bad
 |(j,v)::r,i=>bif i==j then v else look r i
abbrev Place:=Nat→Option (Nat × Nat)
abbrev bn:=Nat→Option (Nat × Nat)
def cE:Nat→Prop:=fun _=>False
abbrev bA:=Nat→Option bu
def lens (M:bA):bn:=fun n=>(M n).map fun b=>(b.ln,b.sz)
inductive aS (ρ:Place) (L:bn) (I:Nat→Prop) (w:World):(Nat→Prop)→AV→Value→Prop
 |int {N} (k:IntKind) (n:Int):aS ρ L I w N (.int k n) (.int k n)
 |bool {N} (b:Bool):aS ρ L I w N (.bool b) (.bool b)
 |str {N} (s:List UInt8):aS ρ L I w N (.str s) (.string ⟨s.toArray⟩)
 |bU {N}:aS ρ L I w N .bU (.pointer none)
 |an {N}:aS ρ L I w N .an (.slice none 0 0)
 |au {N}:aS ρ L I w N .au .nilFunc
 |dL {N}:aS ρ L I w N .dL .nilIface
 |ci {N}:aS ρ L I w N .ci (.map none)
 |loc {N} (n len i off:Nat) (v:Value) (hn:N n) (h1:v.oneCell'=true) (h:∀l sz,L n=some (l,sz)→len≤l∧(len=l→∃g cap,ρ n=some (g,cap)∧v= .pointer (some ⟨g,i*sz+off,none⟩))):aS ρ L I w N (.loc n len i off) v
 |bh {N} (n len:Nat) (v:Value) (hn:N n) (h1:v.oneCell'=true) (h:∀l sz,L n=some (l,sz)→len≤l∧(len=l→(ρ n=none∧∃q,v= .slice q 0 0)∨∃g cap,ρ n=some (g,cap)∧v= .slice (some ⟨g,0,none⟩) len cap)):aS ρ L I w N (.bh n len) v
 |dP {N} (n len i off ca:Nat) (v:Value) (hn:N n) (h1:v.oneCell'=true) (h:∀l sz,L n=some (l,sz)→len≤l∧(len=l→∃g cap c,ρ n=some (g,cap)∧v= .slice (some ⟨g,i*sz+off,none⟩) ca c∧ca≤c∧c≤maxLen)):aS ρ L I w N (.dP n len i off ca) v
 |omap {N} (n:Nat) (v:Value) (hn:N n) (h1:v.oneCell'=true) (h:∀sz,L n=some (0,sz)→∃g cap,ρ n=some (g,cap)∧v= .map (some g)):aS ρ L I w N (.omap n) v
 |lW {N} (n r:Nat):aS ρ L I w N (.lW n r) (.pointer (some ⟨r,0,none⟩))
 |cI {N} (sz:Nat) (a:Option Addr) (cap:Nat) (hc:cap≤maxLen):aS ρ L I w N (.aO sz []) (.slice a 0 cap)
 |aO {N} (sz:Nat) (es:List (List AV)) (b o cap:Nat) (c:Nat→Nat→Value) (hl:es.length≤cap) (hc:cap≤maxLen) (hI:I b) (hs:∀e ∈ es,e.length=sz)
   (h1:∀i j,i<es.length→j<sz→(c i j).oneCell'=true)
   (hcell:∀i j,i<es.length→j<sz→w.cell? ⟨b,o+i*sz+j,none⟩=some (c i j))
   (hr:∀i j,i<es.length→j<sz→aS ρ L I w cE ((es.getD i []).getD j .bad) (c i j)):aS ρ L I w N (.aO sz es) (.slice (some ⟨b,o,none⟩) es.length cap)
 |bv {N} (e:List AV) (off b o:Nat) (c:Nat→Value) (hI:I b) (h1:∀j,j<e.length→(c j).oneCell'=true) (hcell:∀j,j<e.length→w.cell? ⟨b,o+j,none⟩=some (c j))
   (hr:∀j,j<e.length→aS ρ L I w cE (e.getD j .bad) (c j)):aS ρ L I w N (.bv e off) (.pointer (some ⟨b,o+off,none⟩))
 |bW {N} (f:Nat) (aW:List AV) (vs:List Value) (hl:vs.length=aW.length) (hr:∀j,j<aW.length→aS ρ L I w N (aW.getD j .bad) (vs.getD j default)):
   aS ρ L I w N (.bW (.fn f) aW) (.func (.func f) #[] vs.toArray)
 |oE {N} (l:Nat) (aW:List AV) (vs:List Value) (hl:vs.length=aW.length) (hr:∀j,j<aW.length→aS ρ L I w N (aW.getD j .bad) (vs.getD j default)):
   aS ρ L I w N (.bW (.lp l vs) aW) (.func (.yield l) #[] #[])
 |agg {N} (cs:List AV) (vs:List Value) (hl:vs.length=cs.length) (h1:∀u ∈ vs,u.oneCell'=true) (hr:∀j,j<cs.length→aS ρ L I w N (cs.getD j .bad) (vs.getD j default)):
   aS ρ L I w N (.agg cs) (.agg vs.toArray)
 |aU {N} (cs:List AV) (vs:List Value) (hl:vs.length=cs.length) (hr:∀j,j<cs.length→aS ρ L I w N (cs.getD j .bad) (vs.getD j default)):
   aS ρ L I w N (.aU cs) (.tuple vs.toArray)
 |bad {N} (v:Value):aS ρ L I w N .bad v
structure kY (N:Nat→Prop) (ρ:Place) (L:bn) (I:Nat→Prop) (w:World) (ρ':Place) (L':bn) (I':Nat→Prop) (w':World):Prop where
 alive:∀n len sz,N n→L' n=some (len,sz)→L n=some (len,sz)→ρ' n=ρ n
 back:∀n len sz,N n→L' n=some (len,sz)→∃len',L n=some (len',sz)∧len'≤len
 nN:∀b,I b→I' b
 cell:∀b,I b→w'.heap[b]? =w.heap[b]?
theorem kY.refl (N:Nat→Prop) (ρ:Place) (L:bn) (I:Nat→Prop) (w:World):kY N ρ L I w ρ L I w:=
 ⟨fun _ _ _ _ _ _=>rfl,fun _ len _ _ h=>⟨len,h,Nat.le_refl _⟩,fun _ h=>h,fun _ _=>rfl⟩
theorem kY.trans {N:Nat→Prop} {ρ ρ' NU:Place} {L L' Yt:bn} {I I' Yu:Nat→Prop} {w w' w'':World} (h:kY N ρ L I w ρ' L' I' w') (k:kY N ρ' L' I' w' NU Yt Yu w''):kY N ρ L I w NU Yt Yu w'':=by
 refine⟨?_,?_,fun b hb=>k.nN b (h.nN b hb),fun b hb=>(k.cell b (h.nN b hb)).trans (h.cell b hb)⟩
 ·intro n len sz hn h2 h0
  obtain⟨l1,e1,g1⟩:=k.back n len sz hn h2
  obtain⟨l0,e0,g0⟩:=h.back n l1 sz hn e1
  rw[h0]at e0
  simp only[Option.some.injEq,Prod.mk.injEq]at e0
  obtain⟨rfl,_⟩:=e0
  have:l1=len:=by omega
  subst this
  exact (k.alive n l1 sz hn h2 e1).trans (h.alive n l1 sz hn e1 h0)
 ·intro n len sz hn h2
  obtain⟨l1,e1,g1⟩:=k.back n len sz hn h2
  obtain⟨l0,e0,g0⟩:=h.back n l1 sz hn e1
  exact⟨l0,e0,by omega⟩
theorem kY.mono {N N':Nat→Prop} (hle:∀n,N' n→N n) {ρ ρ':Place} {L L':bn} {I I':Nat→Prop} {w w':World} (h:kY N ρ L I w ρ' L' I' w'):kY N' ρ L I w ρ' L' I' w':=
 ⟨fun n len sz hn=>h.alive n len sz (hle n hn),fun n len sz hn=>h.back n len sz (hle n hn),h.nN,h.cell⟩
theorem cell_of_heap {w w':World} {b o:Nat} (h:w'.heap[b]? =w.heap[b]?):w'.cell? ⟨b,o,none⟩=w.cell? ⟨b,o,none⟩:=by
 simp[World.cell?,h]
theorem aS.rZ {ρ ρ':Place} {L L':bn} {I I':Nat→Prop} {w w':World} {NX:Nat→Prop} (E:kY NX ρ L I w ρ' L' I' w') {N:Nat→Prop} {a:AV} {v:Value} (h:aS ρ L I w N a v):(∀n,N n→NX n)→aS ρ' L' I' w' N a v:=by
 induction h with
 |int k n=>exact fun _=> .int k n
 |bool b=>exact fun _=> .bool b
 |str s=>exact fun _=> .str s
 |bU=>exact fun _=> .bU
 |an=>exact fun _=> .an
 |au=>exact fun _=> .au
 |dL=>exact fun _=> .dL
 |ci=>exact fun _=> .ci
 |lW n r=>exact fun _=> .lW n r
 | @loc N n len i off v hn hv h=>
   refine fun hx=> .loc n len i off v hn hv fun l sz hl=> ?_
   obtain⟨l0,e0,g0⟩:=E.back n l sz (hx n hn) hl
   obtain⟨h1,h2⟩:=h l0 sz e0
   refine⟨by omega,fun e=> ?_⟩
   have:l0=l:=by omega
   subst this
   rw[E.alive n l0 sz (hx n hn) hl e0]
   exact h2 e
 | @bh N n len v hn hv h=>
   refine fun hx=> .bh n len v hn hv fun l sz hl=> ?_
   obtain⟨l0,e0,g0⟩:=E.back n l sz (hx n hn) hl
   obtain⟨h1,h2⟩:=h l0 sz e0
   refine⟨by omega,fun e=> ?_⟩
   have:l0=l:=by omega
   subst this
   rw[E.alive n l0 sz (hx n hn) hl e0]
   exact h2 e
 | @dP N n len i off ca v hn hv h=>
   refine fun hx=> .dP n len i off ca v hn hv fun l sz hl=> ?_
   obtain⟨l0,e0,g0⟩:=E.back n l sz (hx n hn) hl
   obtain⟨h1,h2⟩:=h l0 sz e0
   refine⟨by omega,fun e=> ?_⟩
   have:l0=l:=by omega
   subst this
   rw[E.alive n l0 sz (hx n hn) hl e0]
   exact h2 e
 | @omap N n v hn hv h=>
   refine fun hx=> .omap n v hn hv fun sz hl=> ?_
   obtain⟨l0,e0,g0⟩:=E.back n 0 sz (hx n hn) hl
   obtain rfl:l0=0:=by omega
   rw[E.alive n 0 sz (hx n hn) hl e0]
   exact h sz e0
 |cI sz a cap hc=>exact fun _=> .cI sz a cap hc
 |aO sz es b o cap c hl hc hI hs h1 hcell hr ih=>
  exact fun _=> .aO sz es b o cap c hl hc (E.nN b hI) hs h1 (fun i j hi hj=>(cell_of_heap (E.cell b hI)).trans (hcell i j hi hj)) (fun i j hi hj=>ih i j hi hj (fun _ h=>h.elim))
 |bv e off b o c hI h1 hcell hr ih=>
  exact fun _=> .bv e off b o c (E.nN b hI) h1 (fun j hj=>(cell_of_heap (E.cell b hI)).trans (hcell j hj)) (fun j hj=>ih j hj (fun _ h=>h.elim))
 |bW f aW vs hl hr ih=>exact fun hx=> .bW f aW vs hl (fun j hj=>ih j hj hx)
 |oE f aW vs hl hr ih=>exact fun hx=> .oE f aW vs hl (fun j hj=>ih j hj hx)
 |agg cs vs hl h1 hr ih=>exact fun hx=> .agg cs vs hl h1 (fun j hj=>ih j hj hx)
 |aU cs vs hl hr ih=>exact fun hx=> .aU cs vs hl (fun j hj=>ih j hj hx)
 |bad v=>exact fun _=> .bad v
theorem aS.wide {ρ:Place} {L:bn} {I:Nat→Prop} {w:World} {N:Nat→Prop} {a:AV} {v:Value} (h:aS ρ L I w N a v):∀ {N':Nat→Prop},(∀n,N n→N' n)→aS ρ L I w N' a v:=by
 induction h with
 |int k n=>exact fun _=> .int k n
 |bool b=>exact fun _=> .bool b
 |str s=>exact fun _=> .str s
 |bU=>exact fun _=> .bU
 |an=>exact fun _=> .an
 |au=>exact fun _=> .au
 |dL=>exact fun _=> .dL
 |ci=>exact fun _=> .ci
 |lW n r=>exact fun _=> .lW n r
 |loc n len i off v hn h1 h=>exact fun hx=> .loc n len i off v (hx n hn) h1 h
 |bh n len v hn h1 h=>exact fun hx=> .bh n len v (hx n hn) h1 h
 |dP n len i off ca v hn h1 h=>exact fun hx=> .dP n len i off ca v (hx n hn) h1 h
 |omap n v hn h1 h=>exact fun hx=> .omap n v (hx n hn) h1 h
 |cI sz a cap hc=>exact fun _=> .cI sz a cap hc
 |aO sz es b o cap c hl hc hI hs h1 hcell hr ih=>exact fun _=> .aO sz es b o cap c hl hc hI hs h1 hcell hr
 |bv e off b o c hI h1 hcell hr ih=>exact fun _=> .bv e off b o c hI h1 hcell hr
 |bW f aW vs hl hr ih=>exact fun hx=> .bW f aW vs hl (fun j hj=>ih j hj hx)
 |oE f aW vs hl hr ih=>exact fun hx=> .oE f aW vs hl (fun j hj=>ih j hj hx)
 |agg cs vs hl h1 hr ih=>exact fun hx=> .agg cs vs hl h1 (fun j hj=>ih j hj hx)
 |aU cs vs hl hr ih=>exact fun hx=> .aU cs vs hl (fun j hj=>ih j hj hx)
 |bad v=>exact fun _=> .bad v
theorem aS.bare {ρ:Place} {L:bn} {I:Nat→Prop} {w:World} {N:Nat→Prop} {a:AV} {v:Value} (h:aS ρ L I w N a v):(∀n,¬N n)→∀ (ρ':Place) (L':bn),aS ρ' L' I w cE a v:=by
 induction h with
 |int k n=>exact fun _ _ _=> .int k n
 |bool b=>exact fun _ _ _=> .bool b
 |str s=>exact fun _ _ _=> .str s
 |bU=>exact fun _ _ _=> .bU
 |an=>exact fun _ _ _=> .an
 |au=>exact fun _ _ _=> .au
 |dL=>exact fun _ _ _=> .dL
 |ci=>exact fun _ _ _=> .ci
 |lW n r=>exact fun _ _ _=> .lW n r
 |loc n len i off v hn h1 h=>exact fun hx=>(hx n hn).elim
 |bh n len v hn h1 h=>exact fun hx=>(hx n hn).elim
 |dP n len i off ca v hn h1 h=>exact fun hx=>(hx n hn).elim
 |omap n v hn h1 h=>exact fun hx=>(hx n hn).elim
 |cI sz a cap hc=>exact fun _ _ _=> .cI sz a cap hc
 |aO sz es b o cap c hl hc hI hs h1 hcell hr ih=>exact fun _ ρ' L'=> .aO sz es b o cap c hl hc hI hs h1 hcell (fun i j hi hj=>ih i j hi hj (fun _ h=>h) ρ' L')
 |bv e off b o c hI h1 hcell hr ih=>exact fun _ ρ' L'=> .bv e off b o c hI h1 hcell (fun j hj=>ih j hj (fun _ h=>h) ρ' L')
 |bW f aW vs hl hr ih=>exact fun hx ρ' L'=> .bW f aW vs hl (fun j hj=>ih j hj hx ρ' L')
 |oE f aW vs hl hr ih=>exact fun hx ρ' L'=> .oE f aW vs hl (fun j hj=>ih j hj hx ρ' L')
 |agg cs vs hl h1 hr ih=>exact fun hx ρ' L'=> .agg cs vs hl h1 (fun j hj=>ih j hj hx ρ' L')
 |aU cs vs hl hr ih=>exact fun hx ρ' L'=> .aU cs vs hl (fun j hj=>ih j hj hx ρ' L')
 |bad v=>exact fun _ _ _=> .bad v
def aQ:Value→List Value
 | .agg cs=>cs.toList
 |v=>[v]
def ff:Value→Bool
 | .agg _=>true
 |_=>false
structure vB (k:Nat) (ka va:Bool) (dn:Dn) (sz:Nat) (en:Array Go.MapEntry) (ck:Nat) (cs:Array Value):Prop where
 key:∀ (i:Nat) (e:Go.MapEntry),en[i]? =some e→(aQ e.key).length=k∧(aQ e.key++aQ e.val).length=sz∧ff e.key=ka∧ff e.val=va
 cell:∀ (i:Nat) (e:Go.MapEntry) (j:Nat) (u:Value),en[i]? =some e→(aQ e.key++aQ e.val)[j]? =some u→cs[i*sz+j]? =some u
 born:∀ (i j:Nat) (e f:Go.MapEntry),en[i]? =some e→en[j]? =some f→i<j→e.born<f.born
 clock:∀ (i:Nat) (e:Go.MapEntry),en[i]? =some e→e.born<ck
 den:dn.all=true→ck=en.size∧∀ (i:Nat) (e:Go.MapEntry),en[i]? =some e→e.born=i
 room:cs.size=maxLen*sz∧sz≠0
def eo (mp:Option (Nat × Bool × Bool × Dn)) (sz len:Nat) (o:Option Obj) (cs:Array Value) (ty:Nat) (fr:Nat × Nat):Prop:=match mp with
 |none=>o=some (.cells cs ty fr)
 |some (k,ka,va,dn)=>∃en ck,o=some (.map en ck)∧en.size=len∧vB k ka va dn sz en ck cs
section
variable {mp:Option (Nat × Bool × Bool × Dn)} {sz len ty:Nat} {cs:Array Value} {fr:Nat × Nat}
theorem eo.some {o:Option Obj} (h:eo mp sz len o cs ty fr):∃x,o=some x:=by
 unfold eo at h
 split at h
 ·exact⟨_,h⟩
 ·obtain⟨_,_,h,_⟩:=h; exact⟨_,h⟩
theorem eo.lt {w:World} {g:Nat} (h:eo mp sz len w.heap[g]? cs ty fr):g<w.heap.size:=by
 obtain⟨x,h⟩:=h.some; exact (Array.getElem?_eq_some_iff.1 h).1
theorem eo.at {o o':Option Obj} (h:eo mp sz len o cs ty fr) (e:o'=o):eo mp sz len o' cs ty fr:=e ▸ h
theorem eo.p8 {o:Option Obj} (h:eo mp sz len o cs ty fr) {a:Option Nat} {b:Nat} {c:Array Nat} {d:Nat}:o≠Option.some (.mapIter a b c d):=by
 unfold eo at h
 split at h
 ·rw[h]; exact fun e=>by cases e
 ·obtain⟨_,_,h,_⟩:=h; rw[h]; exact fun e=>by cases e
theorem eo.cells {o:Option Obj} (h:eo mp sz len o cs ty fr) (hm:mp=none):o= .some (.cells cs ty fr):=by subst hm; exact h
end
end Go.AM
namespace Go.AM
open Go.RowKit
def fR:Mem→Nat→bu→Mem
 |[],n,b=>[(n,b)]
 |(m,c)::r,n,b=>bif n==m then (m,b)::r else (m,c)::fR r n b
theorem kZ (M:Mem) (n:Nat) (b:bu) (m:Nat):ae (fR M n b) m=if m=n then some b else ae M m:=by
 induction M with
 |nil=>
  by_cases h:m=n
  ·subst h; simp[fR,ae]
  ·have hb:(m==n)=false:=by simpa using h
   simp[fR,ae,h,hb]
 |cons x r ih=>
  obtain⟨k,c⟩:=x
  by_cases h:n=k
  ·subst h
   by_cases h':m=n
   ·subst h'; simp[fR,ae]
   ·have hb:(m==n)=false:=by simpa using h'
    simp[fR,ae,h',hb]
  ·have hb:(n==k)=false:=by simpa using h
   simp only[fR,hb,cond_false,ae]
   by_cases h':m=k
   ·subst h'
    have:m≠n:=fun e=>h e.symm
    simp[this]
   ·have hb':(m==k)=false:=by simpa using h'
    simp only[hb',cond_false,ih]
structure ct where
 w0:World
 p:Nat
 I0:Nat→Prop
 size:Nat
 ρ0:Place
 L0:bn
def ct.fp (C:ct) (g:Nat):Prop:=∃n c,n<C.p∧C.ρ0 n=some (g,c)
structure NV (C:ct) (w:World):Prop where
 os:w.os=C.w0.os
 tape:w.tape=C.w0.tape
 output:w.output=C.w0.output
 drawn:C.w0.drawn≤w.drawn
 size:C.w0.heap.size≤w.heap.size
 block:∀g,g<C.w0.heap.size→¬C.fp g→w.heap[g]? =C.w0.heap[g]?
structure p9 (C:ct) (ρ:Place) (L:bn) (I:Nat→Prop) (w:World) (N:Nat→Prop) (n:Nat) (b:bu):Prop where
 lt:N n
 even:∀e ∈ b.es,e.length=b.sz
 dY:ρ n=none→b.es=[]
 real:∀g cap,ρ n=some (g,cap)→∃cs fr,eo b.mp b.sz b.es.length w.heap[g]? cs b.ty fr∧(∀o,o<cs.size→¬ (fr.1≤o∧o<fr.2))∧¬I g∧((n<C.p∧∃c,C.ρ0 n=some (g,c))∨C.w0.heap.size≤g)∧b.es.length≤cap∧cap≤maxLen∧cs.size=cap*b.sz∧
  ∀i j,i<b.es.length→j<b.sz→∃u,cs[i*b.sz+j]? =some u∧u.oneCell'=true∧aS ρ L I w N ((b.es.getD i []).getD j .bad) u
 iter:∀k ka va r sn la,b.mp=some (k,ka,va,.it r sn la)→∃g cap,ρ n=some (g,cap)∧C.w0.heap.size≤r∧¬I r∧CF w g r sn la
structure cY (C:ct) (ρ:Place) (I:Nat→Prop) (M:bA) (N:Nat→Prop) (w:World):Prop where
 bg:∀n b,M n=some b→p9 C ρ (lens M) I w N n b
 inj:∀n m b b' g c c',M n=some b→M m=some b'→ρ n=some (g,c)→ρ m=some (g,c')→n=m
 nN:∀g,C.I0 g→I g
 lt:∀g,I g→g<w.heap.size
 old:∀g,g<C.w0.heap.size→I g→C.I0 g
 keeps:NV C w
 pn:∀n,n<C.p→N n
 CR:∀g,C.fp g→g<C.w0.heap.size∧¬C.I0 g
 par:∀n len sz,n<C.p→lens M n=some (len,sz)→∃nO,C.L0 n=some (nO,sz)∧nO≤len∧(nO=len→ρ n=C.ρ0 n)
theorem cY.k6 {C:ct} {ρ ρ':Place} {I I':Nat→Prop} {M:bA} {L':bn} {N:Nat→Prop} {w w':World} (h:cY C ρ I M N w) (E:kY N ρ (lens M) I w ρ' L' I' w'):
  ∀n len sz,n<C.p→L' n=some (len,sz)→∃nO,C.L0 n=some (nO,sz)∧nO≤len∧(nO=len→ρ' n=C.ρ0 n):=by
 intro n len sz hn hl
 obtain⟨l1,e1,g1⟩:=E.back n len sz (h.pn n hn) hl
 obtain⟨l0,e0,g0,k0⟩:=h.par n l1 sz hn e1
 refine⟨l0,e0,by omega,fun e=> ?_⟩
 have e2:l1=len:=by omega
 subst e2
 exact (E.alive n l1 sz (h.pn n hn) hl e1).trans (k0 e)
theorem aH {M:bA} {n l sz:Nat}:lens M n=some (l,sz)↔∃b,M n=some b∧b.ln=l∧b.sz=sz:=by
 simp[lens,Option.map_eq_some_iff]
theorem bu.CS {b:bu} (h:b.es=[]):b.ln=0:=by unfold bu.ln; split<;>simp[h]
theorem bu.db {b:bu} (h:b.mp=none):b.ln=b.es.length:=by unfold bu.ln; rw[h]
def cQ (M:bA) (n:Nat) (b:bu):bA:=fun m=>if m=n then some b else M m
theorem cH (M:bA) (n:Nat) (b:bu) (m:Nat):lens (cQ M n b) m=if m=n then some (b.ln,b.sz)else lens M m:=by
 unfold lens cQ
 split<;>simp
def xG (N:Nat→Prop) (n:Nat):Nat→Prop:=fun m=>m=n∨N m
def gN (ρ:Place) (n:Nat) (x:Nat × Nat):Place:=fun m=>if m=n then some x else ρ m
theorem hQ (b:Nat):∀ (vs:List Value) (o:Nat) (w:World),(w.setCells b o vs).drawn=w.drawn
 |[],_,_=>rfl
 |v::r,o,w=>by
  rw[World.setCells,hQ b r]
  unfold World.setCell
  split<;>rfl
theorem mA (w:World) (a:Addr) (n:Nat):(w.freeze a n).drawn=w.drawn:=by
 unfold World.freeze
 split<;>rfl
theorem cY.put {C:ct} {ρ:Place} {I:Nat→Prop} {M:bA} {N:Nat→Prop} {w w':World} (h:cY C ρ I M N w)
  (n:Nat) (b:bu) (g cap:Nat) (cs:Array Value) (fr:Nat × Nat)
  (hos:w'.os=w.os) (p':w'.tape=w.tape) (hout:w'.output=w.output) (hsz:w.heap.size≤w'.heap.size)
  (dc:∀k,k<w.heap.size→k≠g→w'.heap[k]? =w.heap[k]?)
  (hg:eo b.mp b.sz b.es.length w'.heap[g]? cs b.ty fr) (lX:∀o,o<cs.size→¬ (fr.1≤o∧o<fr.2))
  (qa:w.heap.size≤g∨∃c0,ρ n=some (g,c0)∧∃b0,M n=some b0)
  (hold:∀b0,M n=some b0→b0.sz=b.sz∧b0.ln≤b.ln∧(b0.ln=b.ln→ρ n=some (g,cap)))
  (jr:N n→∃b0,M n=some b0)
  (CT:∀e ∈ b.es,e.length=b.sz) (hlen:b.es.length≤cap) (hcap:cap≤maxLen) (hcs:cs.size=cap*b.sz)
  (ul:∀i j,i<b.es.length→j<b.sz→∃u,cs[i*b.sz+j]? =some u∧u.oneCell'=true∧aS ρ (lens M) I w N ((b.es.getD i []).getD j .bad) u)
  (hit:∀k ka va r sn la,b.mp=some (k,ka,va,.it r sn la)→C.w0.heap.size≤r∧¬I r∧CF w' g r sn la:=by intro _ _ _ _ _ _ hnone; first|(cases hnone; done)|(simp_all; done))
  (Iz:w.drawn≤w'.drawn:=by first|exact Nat.le_refl _|exact Nat.le_succ _|assumption|exact Nat.le_of_eq (hQ ..).symm|(refine Nat.le_trans ?_ (Nat.le_of_eq (mA ..).symm); exact Nat.le_succ _)):
  kY N ρ (lens M) I w (gN ρ n (g,cap)) (lens (cQ M n b)) I w'∧cY C (gN ρ n (g,cap)) I (cQ M n b) (xG N n) w':=by
 have Yv:¬I g:=by
  intro hI
  rcases qa with hp|⟨c0,hp,b0,hb0⟩
  ·have:=h.lt g hI; omega
  ·obtain⟨_,_,_,_,pw,_⟩:=(h.bg n b0 hb0).real g c0 hp
   exact pw hI
 have hown:(n<C.p∧∃c,C.ρ0 n=some (g,c))∨C.w0.heap.size≤g:=by
  rcases qa with hp|⟨c0,hp,b0,hb0⟩
  ·right; have:=h.keeps.size; omega
  ·obtain⟨_,_,_,_,_,ho,_⟩:=(h.bg n b0 hb0).real g c0 hp
   exact ho
 have E:kY N ρ (lens M) I w (gN ρ n (g,cap)) (lens (cQ M n b)) I w':=by
  refine⟨?_,?_,fun _ h=>h,?_⟩
  ·intro m len sz hm h1 h0
   by_cases e:m=n
   ·subst e
    rw[cH,if_pos rfl]at h1
    simp only[Option.some.injEq,Prod.mk.injEq]at h1
    obtain⟨b0,hb0,hl0,_⟩:=aH.1 h0
    obtain⟨_,_,h3⟩:=hold b0 hb0
    simp only[gN,if_pos]
    exact (h3 (by omega)).symm
   ·simp[gN,e]
  ·intro m len sz hm h1
   by_cases e:m=n
   ·subst e
    rw[cH,if_pos rfl]at h1
    simp only[Option.some.injEq,Prod.mk.injEq]at h1
    obtain⟨b0,hb0⟩:=jr hm
    obtain⟨h2,h3,_⟩:=hold b0 hb0
    exact⟨b0.ln,aH.2 ⟨b0,hb0,rfl,by omega⟩,by omega⟩
   ·rw[cH,if_neg e]at h1
    exact⟨len,h1,Nat.le_refl _⟩
  ·intro k hk
   exact dc k (h.lt k hk) (fun e=>Yv (e ▸ hk))
 refine⟨E,?_,?_,h.nN,?_,h.old,?_,?_,h.CR,h.k6 E⟩
 ·intro m bm hm
  simp only[cQ]at hm
  by_cases e:m=n
  ·subst e
   rw[if_pos rfl]at hm
   simp only[Option.some.injEq]at hm
   subst hm
   refine⟨Or.inl rfl,CT,fun h0=>by simp[gN]at h0,fun g' cap' h0=> ?_,fun k ka va r sn la hb=>⟨g,cap,by simp[gN],hit k ka va r sn la hb⟩⟩
   simp only[gN,if_pos,Option.some.injEq,Prod.mk.injEq]at h0
   obtain⟨rfl,rfl⟩:=h0
   refine⟨cs,fr,hg,lX,Yv,hown,hlen,hcap,hcs,fun i j hi hj=> ?_⟩
   obtain⟨u,hu,nK,hr⟩:=ul i j hi hj
   exact⟨u,hu,nK,(hr.rZ E (fun _ h=>h)).wide (fun _ h=>Or.inr h)⟩
  ·rw[if_neg e]at hm
   have B:=h.bg m bm hm
   have key:∀g' cap',ρ m=some (g',cap')→g'<w.heap.size∧g'≠g:=fun g' cap' h0'=>by
    obtain⟨cs',fr',hc1,_⟩:=B.real g' cap' h0'
    have hlt:g'<w.heap.size:=hc1.lt
    refine⟨hlt,?_⟩
    rintro rfl
    rcases qa with hp|⟨c0,hp,b0,hb0⟩
    ·omega
    ·exact e (h.inj m n bm b0 g' cap' c0 hm hb0 h0' hp)
   refine⟨Or.inr B.lt,B.even,fun h0=>B.dY (by simpa[gN,e]using h0),fun g' cap' h0=> ?_,fun k ka va r sn la hb=> ?_⟩
   rotate_left
   ·obtain⟨g',cap',h0',i1,i2,i3⟩:=B.iter k ka va r sn la hb
    obtain⟨hlt,hne⟩:=key g' cap' h0'
    refine⟨g',cap',by simpa[gN,e]using h0',i1,i2,i3.at (dc g' hlt hne) (dc r i3.lt ?_)⟩
    rintro rfl
    rcases qa with hp|⟨c0,hp,b0,hb0⟩
    ·have:=i3.lt; omega
    ·obtain⟨en,ck,since,seen,_,k2,_⟩:=i3
     obtain⟨_,_,hc1,_⟩:=(h.bg n b0 hb0).real _ c0 hp
     exact hc1.p8 k2
   have h0':ρ m=some (g',cap'):=by simpa[gN,e]using h0
   obtain⟨hlt,hne⟩:=key g' cap' h0'
   obtain⟨cs',fr',hc1,AN,jK,xE,zC,xH,AO,AP⟩:=B.real g' cap' h0'
   refine⟨cs',fr',hc1.at (dc g' hlt hne),AN,jK,xE,zC,xH,AO,fun i j hi hj=> ?_⟩
   obtain⟨u,hu,nK,hr⟩:=AP i j hi hj
   exact⟨u,hu,nK,(hr.rZ E (fun _ h=>h)).wide (fun _ h=>Or.inr h)⟩
 ·intro m k bm bk g' c c' hm hk h1 h2
  have lt':∀ (q:Nat) (bq:bu) (c0:Nat),M q=some bq→ρ q=some (g,c0)→q=n:=by
   intro q bq c0 hq hρ
   obtain⟨cs',fr',hc1,_⟩:=(h.bg q bq hq).real g c0 hρ
   have hlt:g<w.heap.size:=hc1.lt
   rcases qa with hp|⟨c1,hp,b0,hb0⟩
   ·omega
   ·exact h.inj q n bq b0 g c0 c1 hq hb0 hρ hp
  simp only[cQ]at hm hk
  by_cases e:m=n<;>by_cases e':k=n
  ·omega
  ·subst e
   rw[if_neg e']at hk
   simp only[gN,if_pos,if_neg e',Option.some.injEq,Prod.mk.injEq]at h1 h2
   obtain⟨rfl,_⟩:=h1
   exact (lt' k bk c' hk h2).symm
  ·subst e'
   rw[if_neg e]at hm
   simp only[gN,if_pos,if_neg e,Option.some.injEq,Prod.mk.injEq]at h1 h2
   obtain⟨rfl,_⟩:=h2
   exact lt' m bm c hm h1
  ·rw[if_neg e]at hm
   rw[if_neg e']at hk
   simp only[gN,if_neg e,if_neg e']at h1 h2
   exact h.inj m k bm bk g' c c' hm hk h1 h2
 ·intro k hk; have:=h.lt k hk; omega
 ·refine⟨hos.trans h.keeps.os,p'.trans h.keeps.tape,hout.trans h.keeps.output,Nat.le_trans h.keeps.drawn Iz,Nat.le_trans h.keeps.size hsz,fun k hk hf=> ?_⟩
  refine (dc k (Nat.lt_of_lt_of_le hk h.keeps.size) ?_).trans (h.keeps.block k hk hf)
  rintro rfl
  rcases hown with⟨hp,c,hc⟩|ho
  ·exact hf ⟨n,c,hp,hc⟩
  ·omega
 ·exact fun m hm=>Or.inr (h.pn m hm)
theorem cY.ext' {C:ct} {ρ:Place} {I I':Nat→Prop} {M:bA} {N:Nat→Prop} {w w':World} (h:cY C ρ I M N w)
  (hos:w'.os=w.os) (p':w'.tape=w.tape) (hout:w'.output=w.output) (hsz:w.heap.size≤w'.heap.size)
  (dc:∀k,k<w.heap.size→w'.heap[k]? =w.heap[k]?)
  (hI:∀k,I k→I' k) (hlt:∀k,I' k→k<w'.heap.size) (um:∀k,k<w.heap.size→I' k→I k)
  (Iz:C.w0.drawn≤w'.drawn):
  kY N ρ (lens M) I w ρ (lens M) I' w'∧cY C ρ I' M N w':=by
 have E:kY N ρ (lens M) I w ρ (lens M) I' w':=⟨fun _ _ _ _ _ _=>rfl,fun _ len _ _ h=>⟨len,h,Nat.le_refl _⟩,hI,fun b hb=>dc b (h.lt b hb)⟩
 refine⟨E,fun n b hb=> ?_,h.inj,fun g hg=>hI g (h.nN g hg),hlt,fun g hg r4=>h.old g hg (um g (Nat.lt_of_lt_of_le hg h.keeps.size) r4),?_,h.pn,h.CR,h.k6 E⟩
 ·have B:=h.bg n b hb
  refine⟨B.lt,B.even,B.dY,fun g cap hg=> ?_,fun k ka va r sn la hb=> ?_⟩
  rotate_left
  ·obtain⟨g,cap,hg,i1,i2,i3⟩:=B.iter k ka va r sn la hb
   obtain⟨_,_,hc1,_⟩:=B.real g cap hg
   exact⟨g,cap,hg,i1,fun hi=>i2 (um r i3.lt hi),i3.at (dc g hc1.lt) (dc r i3.lt)⟩
  obtain⟨cs,fr,hc1,AN,jK,xE,zC,xH,AO,AP⟩:=B.real g cap hg
  have hl:g<w.heap.size:=hc1.lt
  refine⟨cs,fr,hc1.at (dc g hl),AN,fun hi=>jK (um g hl hi),xE,zC,xH,AO,fun i j hi hj=> ?_⟩
  obtain⟨u,hu,nK,hr⟩:=AP i j hi hj
  exact⟨u,hu,nK,hr.rZ E (fun _ h=>h)⟩
 ·exact⟨hos.trans h.keeps.os,p'.trans h.keeps.tape,hout.trans h.keeps.output,Iz,Nat.le_trans h.keeps.size hsz,fun g hg hf=>(dc g (Nat.lt_of_lt_of_le hg h.keeps.size)).trans (h.keeps.block g hg hf)⟩
theorem cY.ext {C:ct} {ρ:Place} {I I':Nat→Prop} {M:bA} {N:Nat→Prop} {w w':World} (h:cY C ρ I M N w)
 (hos:w'.os=w.os) (p':w'.tape=w.tape) (hout:w'.output=w.output) (hsz:w.heap.size≤w'.heap.size)
 (dc:∀k,k<w.heap.size→w'.heap[k]? =w.heap[k]?)
 (hI:∀k,I k→I' k) (hlt:∀k,I' k→k<w'.heap.size) (um:∀k,k<w.heap.size→I' k→I k)
 (Iz:w.drawn≤w'.drawn:=by first|exact Nat.le_refl _|exact Nat.le_succ _|assumption|exact Nat.le_of_eq (hQ ..).symm|(refine Nat.le_trans ?_ (Nat.le_of_eq (mA ..).symm); exact Nat.le_succ _)):
 kY N ρ (lens M) I w ρ (lens M) I' w'∧cY C ρ I' M N w':=h.ext' hos p' hout hsz dc hI hlt um (Nat.le_trans h.keeps.drawn Iz)
def zd (z:Bool) (w:World):World:= {w with drawn:=bif z then 0 else w.drawn}
theorem CU (z:Bool) (w:World):(zd z w).drawn≤w.drawn:=by cases z; exact Nat.le_refl _; exact Nat.zero_le _
def vz (z:Bool) (C:ct):Prop:=z=true→C.w0.drawn=0
theorem zF {C:ct}:vz false C:=fun h=>Bool.noConfusion h
theorem zT {z:Bool} {C:ct} (h:C.w0.drawn=0):vz z C:=fun _=>h
theorem vz.le {z:Bool} {C:ct} (h:vz z C) {w w1:World} (h0:C.w0.drawn≤w.drawn) (h1:(zd z w).drawn≤w1.drawn):C.w0.drawn≤w1.drawn:=by
 cases z
 ·exact Nat.le_trans h0 h1
 ·rw[h rfl]; exact Nat.zero_le _
theorem cY.drew {C:ct} {ρ:Place} {I:Nat→Prop} {M:bA} {N:Nat→Prop} {w:World} (h:cY C ρ I M N w):cY C ρ I M N w.drew:=
 (h.ext (w':=w.drew) rfl rfl rfl (Nat.le_refl _) (fun _ _=>rfl) (fun _ h=>h) h.lt (fun _ _ h=>h)).2
mutual
def AV.under (N:Nat→Prop):AV→Prop
 | .loc n _ _ _=>N n
 | .bh n _=>N n
 | .dP n _ _ _ _=>N n
 | .omap n=>N n
 | .bW _ cs=>AV.fh N cs
 | .agg cs=>AV.fh N cs
 | .aU cs=>AV.fh N cs
 |_=>True
def AV.fh (N:Nat→Prop):List AV→Prop
 |[]=>True
 |c::cs=>AV.under N c∧AV.fh N cs
end
theorem AV.eR {N:Nat→Prop}:∀ (cs:List AV) (j:Nat),AV.fh N cs→j<cs.length→AV.under N (cs.getD j .bad)
 |[],_,_,h=>by simp at h
 |c::cs,0,h,_=>by simp only[AV.fh]at h; simpa using h.1
 |c::cs,j+1,h,hj=>by simp only[AV.fh]at h; simpa using AV.eR cs j h.2 (by simpa using hj)
theorem aS.low {ρ:Place} {L:bn} {I:Nat→Prop} {w:World} {N:Nat→Prop} {a:AV} {v:Value} (h:aS ρ L I w N a v):∀ {N':Nat→Prop},a.under N'→aS ρ L I w N' a v:=by
 induction h with
 |int k n=>exact fun _=> .int k n
 |bool b=>exact fun _=> .bool b
 |str s=>exact fun _=> .str s
 |bU=>exact fun _=> .bU
 |an=>exact fun _=> .an
 |au=>exact fun _=> .au
 |dL=>exact fun _=> .dL
 |ci=>exact fun _=> .ci
 |lW n r=>exact fun _=> .lW n r
 |loc n len i off v hn h1 h=>exact fun hx=> .loc n len i off v (by simpa[AV.under]using hx) h1 h
 |bh n len v hn h1 h=>exact fun hx=> .bh n len v (by simpa[AV.under]using hx) h1 h
 |dP n len i off ca v hn h1 h=>exact fun hx=> .dP n len i off ca v (by simpa[AV.under]using hx) h1 h
 |omap n v hn h1 h=>exact fun hx=> .omap n v (by simpa[AV.under]using hx) h1 h
 |cI sz a cap hc=>exact fun _=> .cI sz a cap hc
 |aO sz es b o cap c hl hc hI hs h1 hcell hr ih=>exact fun _=> .aO sz es b o cap c hl hc hI hs h1 hcell hr
 |bv e off b o c hI h1 hcell hr ih=>exact fun _=> .bv e off b o c hI h1 hcell hr
 |bW f aW vs hl hr ih=>exact fun hx=> .bW f aW vs hl (fun j hj=>ih j hj (AV.eR _ _ (by simpa[AV.under]using hx) hj))
 |oE f aW vs hl hr ih=>exact fun hx=> .oE f aW vs hl (fun j hj=>ih j hj (AV.eR _ _ (by simpa[AV.under]using hx) hj))
 |agg cs vs hl h1 hr ih=>exact fun hx=> .agg cs vs hl h1 (fun j hj=>ih j hj (AV.eR _ _ (by simpa[AV.under]using hx) hj))
 |aU cs vs hl hr ih=>exact fun hx=> .aU cs vs hl (fun j hj=>ih j hj (AV.eR _ _ (by simpa[AV.under]using hx) hj))
 |bad v=>exact fun _=> .bad v
end Go.AM
namespace Go.AM
open Go.RowKit
inductive TD where
 |int (k:IntKind)|bool|str|ptr (e:Nat)|slice (e:Nat)|arr (n e:Nat)|struct (fs:List (Nat × Nat))|func|iface|map (k e:Nat)|aU|other
 deriving Inhabited
structure TT where
 d:Nat→TD
 s:Nat→Nat
 z:Nat→AV
def TD.ok:TD→Bool
 | .other=>false
 |_=>true
def TD.ag:TD→Bool
 | .arr .. =>true
 | .struct .. =>true
 |_=>false
structure St where
 F:bj
 M:Mem
 nx:Nat
def sb:Value→AV
 | .int k n=> .int k n
 | .bool b=> .bool b
 | .string s=> .str s.data.toList
 | .pointer none=> .bU
 | .slice none 0 0=> .an
 | .nilFunc=> .au
 | .nilIface=> .dL
 | .map none=> .ci
 |_=> .bad
def IA:Value→AV
 | .agg cs=>bif cs.toList.all Value.oneCell' then .agg (cs.toList.map sb)else .bad
 | .tuple vs=> .aU (vs.toList.map sb)
 |v=>sb v
def ev (F:bj):Operand→AV
 | .tmp t=>look F t
 | .const v=>IA v
 | .func f=> .bW (.fn f) []
 | .global _=> .bad
def mB (F:bj):List Operand→List AV
 |[]=>[]
 |o::r=>ev F o::mB F r
def cells:AV→List AV
 | .agg cs=>cs
 |v=>[v]
def bS:AV→Bool
 | .bad=>false
 | .aU _=>false
 |_=>true
def gB (F:bj):Option Nat→AV→bj
 |none,_=>F
 |some d,v=>(d,v)::F
def iK (b:Bool) (K:Prop):Prop:=bif b then K else False
theorem aI {b:Bool} {K:Prop} (h:b=true) (k:K):iK b K:=by simp[iK,h,k]
theorem aB {b:Bool} {K:Prop} (h:iK b K):b=true∧K:=by cases b<;>simp_all[iK]
inductive IB where
 |lp (c:Code)
 |ZJ
 |cd (c:Code)
def IB.item:IB→Item
 | .lp c=> .inLoop c
 | .ZJ=> .beginRound
 | .cd c=> .code c
inductive It where
 |code (c:Code)
 |bg (id:Nat)
 |inl (c:Code)
 |ops (all:Array Oper) (i:Nat) (rest:List Oper) (gd:List (Nat × Nat))
 |fe (c:IB) (post:St→Prop)
 |k7 (c:Code)
def It.item:It→Item
 | .code c=> .code c
 | .bg id=> .inBlock id
 | .inl c=> .inLoop c
 | .ops all i rest _=> .inRegion all (List.range' i rest.length)
 | .fe c _=>c.item
 | .k7 c=> .inScope c
def NW (K:AV→Prop) (cs:List AV):Prop:=K (.agg cs)
def alive (M:Mem) (n len:Nat) (K:bu→Prop):Prop:=
 match ae M n with
 |some b=>iK (b.ln==len) (b.mp=none∧K b)
 |none=>False
def apart (ag:Bool) (n off:Nat) (cs:List AV) (K:AV→Prop):Prop:=
 iK (((cs.drop off).take n).length==n) (bif ag then K (.agg ((cs.drop off).take n))else iK (n==1) (K (((cs.drop off).take n).headD .bad)))
def wr (k:IntKind) (n:Int):Int:=k.wrap n
def eE (op:BinOp) (k:IntKind) (x y:Int):Int:=
 let a:=BitVec.ofInt k.bits x
 let b:=BitVec.ofInt k.bits y
 match op with
 | .and=>k.wrap (a&&& b).toNat
 | .or=>k.wrap (a||| b).toNat
 | .xor=>k.wrap (a ^^^ b).toNat
 |_=>k.wrap (a&&& ~~~b).toNat
def qb (k:IntKind) (x y:Int):Int:=k.wrap (x*2 ^ (min y.toNat k.bits))
def fi (k:IntKind) (x y:Int):Int:=x.fdiv (2 ^ (min y.toNat k.bits))
def TV:IntKind→Nat
 | .i8=>0| .i16=>1| .i32=>2| .i64=>3| .u8=>4| .u16=>5| .u32=>6| .u64=>7
def pQ (k k':IntKind):Bool:=TV k==TV k'
theorem hY {k k':IntKind} (h:pQ k k'=true):k=k':=by
 cases k<;>cases k'<;>first|rfl|(simp[pQ,TV]at h)
def Gf (op:BinOp) (x y:AV) (K:AV→Prop):Prop:=
 match x,y with
 | .int k a,.int k' b=>
   match op with
   | .shl=>(0≤b)∧K (.int k (qb k a b))
   | .shr=>(0≤b)∧K (.int k (fi k a b))
   | .add=>iK (pQ k k') (K (.int k (wr k (a+b))))
   | .sub=>iK (pQ k k') (K (.int k (wr k (a - b))))
   | .mul=>iK (pQ k k') (K (.int k (wr k (a*b))))
   | .quo=>(b≠0)∧iK (pQ k k') (K (.int k (wr k (a.tdiv b))))
   | .rem=>(b≠0)∧iK (pQ k k') (K (.int k (a.tmod b)))
   | .and=>iK (pQ k k') (K (.int k (eE .and k a b)))
   | .or=>iK (pQ k k') (K (.int k (eE .or k a b)))
   | .xor=>iK (pQ k k') (K (.int k (eE .xor k a b)))
   | .andNot=>iK (pQ k k') (K (.int k (eE .andNot k a b)))
   | .eql=>iK (pQ k k') (K (.bool (a==b)))
   | .neq=>iK (pQ k k') (K (.bool (a != b)))
   | .lss=>iK (pQ k k') (K (.bool (decide (a<b))))
   | .leq=>iK (pQ k k') (K (.bool (decide (a≤b))))
   | .gtr=>iK (pQ k k') (K (.bool (decide (a>b))))
   | .geq=>iK (pQ k k') (K (.bool (decide (a≥b))))
 |_,_=>False
def NY (op:UnOp) (x:AV) (K:AV→Prop):Prop:=
 match op,x with
 | .neg,.int k n=>K (.int k (wr k (0 - n)))
 | .xor,.int k n=>K (.int k (eE .xor k (if k.signed then -1 else k.max) n))
 | .not,.bool b=>K (.bool !b)
 |_,_=>False
def NZ (D:TD) (x:AV) (K:AV→Prop):Prop:=
 match D,x with
 | .int k,.int _ n=>K (.int k (wr k n))
 | .str,.str s=>K (.str s)
 |_,_=>False
def bO (off:Nat) (vs cs:List AV):List AV:=cs.take off++(vs++cs.drop (off+vs.length))
def mC (size:Nat→Nat):List (Nat × Nat)→List (Nat × AV)→List AV→(List AV→Prop)→Prop
 |_,[],cs,K=>K cs
 |fs,(i,v)::r,cs,K=>
  match fs[i]? with
  |some (off,t)=>iK (bS v&& !((cells v).length==0)&&(cells v).length==size t&&(((cs.drop off).take (cells v).length).length==(cells v).length)) (mC size fs r (bO off (cells v) cs) K)
  |none=>False
def mD (sz:Nat):List (Nat × AV)→List AV→(List AV→Prop)→Prop
 |[],cs,K=>K cs
 |(i,v)::r,cs,K=>iK (bS v&& !((cells v).length==0)&&(cells v).length==sz&&(((cs.drop (i*sz)).take (cells v).length).length==(cells v).length)) (mD sz r (bO (i*sz) (cells v) cs) K)
def j9 (sz:Nat):List (Nat × AV)→List (List AV)→(List (List AV)→Prop)→Prop
 |[],es,K=>K es
 |(i,v)::r,es,K=>iK (bS v&&(cells v).length==sz&&((es.drop i).take 1).length==1) (j9 sz r (es.set i (cells v)) K)
def nP (F:bj):List (Nat × Operand)→List (Nat × AV)
 |[]=>[]
 |(i,o)::r=>(i,ev F o)::nP F r
def CV (d:Nat→TD):List (Nat × Nat)→Bool
 |[]=>true
 |(_,t)::r=>(d t).ok&&CV d r
def xI (T:TT) (t:Nat) (ps:List (Nat × AV)) (K:AV→Prop):Prop:=
 match T.d t with
 | .struct fs=>iK (CV T.d fs&&bS (T.z t)&&(cells (T.z t)).length==T.s t) (mC T.s fs ps (cells (T.z t)) (NW K))
 | .arr _ e=>iK ((T.d e).ok&&bS (T.z t)&&(cells (T.z t)).length==T.s t) (mD (T.s e) ps (cells (T.z t)) (NW K))
 |_=>False
def xJ (T:TT) (t:Nat) (x ix:AV) (M:Mem) (K:AV→Prop):Prop:=
 match ix with
 | .int _ i=>
   match T.d t with
   | .slice e=>
     (match x with
     | .aO sz es=>iK (sz==T.s e) ((0≤i∧i<es.length)∧K (.bv (es.getD i.toNat []) 0))
     | .bh n len=>alive M n len fun b=>iK (b.sz==T.s e) ((0≤i∧i<len)∧K (.loc n len i.toNat 0))
     | .dP n len j off ca=>alive M n len fun _=>(0≤i∧i<ca)∧K (.loc n len j (off+i.toNat*T.s e))
     |_=>False)
   | .arr m e=>
     (match x with
     | .loc n len j off=>alive M n len fun _=>(0≤i∧i< (m:Int))∧K (.loc n len j (off+i.toNat*T.s e))
     | .bv c off=>(0≤i∧i< (m:Int))∧K (.bv c (off+i.toNat*T.s e))
     |_=>False)
   |_=>False
 |_=>False
def lD (T:TT) (t:Nat) (a:AV) (M:Mem) (K:AV→Prop):Prop:=
 match a with
 | .loc n len i off=>alive M n len fun b=>apart (T.d t).ag (T.s t) off (b.es.getD i []) K
 | .bv e off=>apart (T.d t).ag (T.s t) off e K
 |_=>False
def xK (T:TT) (t:Nat) (a v:AV) (M:Mem) (K:Mem→Prop):Prop:=
 match a with
 | .loc n len i off=>alive M n len fun b=>
     iK (bS v&&(cells v).length==T.s t&& !(T.s t==0)&&((((b.es.getD i []).drop off).take (cells v).length).length==(cells v).length))
      (K (fR M n ⟨b.ty,b.sz,b.es.set i (bO off (cells v) (b.es.getD i [])),none⟩))
 |_=>False
def kj:Nat:=1073741824
def nQ (sz:Nat):Nat→List AV→List (List AV)
 |0,_=>[]
 |n+1,r=>r.take sz::nQ sz n (r.drop sz)
def lY (M:Mem) (sz:Nat) (x:AV) (K:List (List AV)→Prop):Prop:=
 match x with
 | .aO s es=>iK (s==sz) (K es)
 | .an=>K []
 | .bh n len=>alive M n len fun b=>iK (b.sz==sz) (K b.es)
 | .dP n len i off ca=>alive M n len fun b=>iK (Nat.blt i b.es.length&&Nat.ble (off+ca*sz) b.sz&& !(sz==0)) (K (nQ sz ca ((b.es.getD i []).drop off)))
 | .str s=>iK (sz==1) (K (s.map fun c=>[.int .u8 c.toNat]))
 |_=>False
def pR (T:TT) (t:Nat) (s x:AV) (S:St) (K:AV→Mem→Nat→Prop):Prop:=
 match T.d t with
 | .slice e=>
   (match s with
   | .bh n len=>alive S.M n len fun b=>iK (b.sz==T.s e&&b.ty==e) (lY S.M (T.s e) x fun xs=>
       (len+xs.length≤kj)∧K (.bh n (len+xs.length)) (fR S.M n ⟨b.ty,b.sz,b.es++xs,none⟩) S.nx)
   | .an=>lY S.M (T.s e) x fun xs=>(xs.length≤kj)∧K (.bh S.nx xs.length) (fR S.M S.nx ⟨e,T.s e,xs,none⟩) (S.nx+1)
   |_=>False)
 |_=>False
def qc (k:IntKind) (a:Int):List AV→AV
 |[]=> .int k a
 | .int _ b::r=>qc k (min a b) r
 |_=> .bad
def qd (k:IntKind) (a:Int):List AV→AV
 |[]=> .int k a
 | .int _ b::r=>qd k (max a b) r
 |_=> .bad
def vC:List AV→AV
 | .int k a::r=>qc k a r
 |_=> .bad
def vD:List AV→AV
 | .int k a::r=>qd k a r
 |_=> .bad
mutual
def AV.names:AV→List Nat
 | .loc n _ _ _=>[n]
 | .bh n _=>[n]
 | .dP n _ _ _ _=>[n]
 | .omap n=>[n]
 | .bW _ cs=>AV.aD cs
 | .agg cs=>AV.aD cs
 | .aU cs=>AV.aD cs
 |_=>[]
def AV.aD:List AV→List Nat
 |[]=>[]
 |c::cs=>AV.names c++AV.aD cs
end
def df (M:bA):List (Nat × bu)→bA
 |[]=>M
 |(n,b)::r=>df (cQ M n b) r
def cL (M:Mem):List (Nat × bu)→Mem
 |[]=>M
 |(n,b)::r=>cL (fR M n b) r
def eT (N:Nat→Prop) (ws:List (Nat × bu)):Nat→Prop:=fun m=>N m∨∃b,(m,b) ∈ ws
def gC (X:ct) (M:bA) (N:Nat→Prop) (ρ:Place) (I:Nat→Prop) (w:World) (av:AV) (ws:List (Nat × bu)) (v:Value) (w1:World):Prop:=
 ∃ρ1 I1,kY N ρ (lens M) I w ρ1 (lens (df M ws)) I1 w1∧cY X ρ1 I1 (df M ws) (eT N ws) w1∧aS ρ1 (lens (df M ws)) I1 w1 (eT N ws) av v
def dp (ρ:Place) (L:bn) (I:Nat→Prop) (w:World) (N:Nat→Prop) (as:List AV) (vs:List Value):Prop:=
 vs.length=as.length∧∀j,j<as.length→aS ρ L I w N (as.getD j .bad) (vs.getD j default)
def oF (P:Program) (X:ct) (f:Nat) (args:List AV) (M:bA) (av:AV) (ws:List (Nat × bu)) (nw:List Nat):Prop:=
 (∀p ∈ ws,p.1 ∈ nw∨p.1 ∈ AV.aD args)∧
 ∀M' N ρ I w vs,cY X ρ I M' N w→(∀n ∈ AV.aD args,M' n=M n)→(∀n ∈ nw,¬N n)→dp ρ (lens M') I w N args vs→
  Calls P f vs.toArray w fun e w1=>∃v,e= .returned v∧gC X M' N ρ I w av ws v w1
def IC (P:Program) (X:ct) (f:Nat) (args:List AV) (Rx:List Nat) (M:bA) (av:AV) (ws:List (Nat × bu)) (nw:List Nat):Prop:=
 (∀p ∈ ws,p.1 ∈ nw∨(p.1 ∈ Rx∧M p.1≠none))∧
 ∀M' N ρ I w vs,cY X ρ I M' N w→(∀n ∈ Rx,M' n=M n)→(∀n ∈ nw,¬N n)→dp ρ (lens M') I w N args vs→
  Calls P f vs.toArray w fun e w1=>∃v,e= .returned v∧gC X M' N ρ I w av ws v w1
def nS (T:TT) (t:Nat) (x:AV) (lo hi mx:Option AV) (M:Mem) (K:AV→Prop):Prop:=
 match T.d t with
 | .slice e=>iK ((T.d e).ok) (match x with
   | .aO sz es=>iK (sz==T.s e) (match lo,hi,mx with
     |none,some (.int _ h),none=>(0≤h∧h≤es.length)∧K (.aO sz (es.take h.toNat))
     |some (.int _ l),none,none=>(0≤l∧l≤es.length)∧K (.aO sz (es.drop l.toNat))
     |some (.int _ l),some (.int _ h),none=>(0≤l∧l≤h∧h≤es.length)∧K (.aO sz ((es.take h.toNat).drop l.toNat))
     |none,some (.int _ h),some (.int _ m)=>(0≤h∧h≤m∧m≤es.length)∧K (.aO sz (es.take h.toNat))
     |_,_,_=>False)
   |_=>False)
 | .str=>(match x with
   | .str s=>(match lo,hi,mx with
     |none,some (.int _ h),none=>(0≤h∧h≤s.length)∧K (.str (s.take h.toNat))
     |some (.int _ l),none,none=>(0≤l∧l≤s.length)∧K (.str (s.drop l.toNat))
     |some (.int _ l),some (.int _ h),none=>(0≤l∧l≤h∧h≤s.length)∧K (.str ((s.take h.toNat).drop l.toNat))
     |_,_,_=>False)
   |_=>False)
 |_=>False
def r5 (F:bj):Option Operand→Option AV
 |none=>none
 |some o=>some (ev F o)
def cR (F:bj):Op→List Nat
 | .store _ a _=>(ev F a).names
 | .mapUpdate _ m _ _=>(ev F m).names
 | .insert _ m _ _=>(ev F m).names
 | .mapEntry _ m _=>(ev F m).names
 | .entryStore _ m _ _=>(ev F m).names
 | .call c=>(match c.callee,c.args.toList with
   | .builtin .delete,s::_=>(ev F s).names
   | .builtin .append,s::_=>(ev F s).names
   | .builtin .copy,s::_=>(ev F s).names
   | .value f,as=>(match ev F f with
     | .bW _ aW=>AV.aD (mB F as++aW)
     |_=>[])
   |_,_=>[])
 |_=>[]
def ID:List (Nat × Nat)→Nat→Option Nat
 |[],_=>none
 |(i,s)::r,j=>bif j==i then some s else ID r j
def lE:List AV→List AV→Bool
 |[],_=>true
 | .int _ x::r,.int _ y::s=>(x==y)&&lE r s
 | .bool x::r,.bool y::s=>(x==y)&&lE r s
 | .str x::r,.str y::s=>(x==y)&&lE r s
 |_,_=>false
def cg (kc:List AV):List (List AV)→Option (Nat × List AV)
 |[]=>none
 |e::r=>if lE kc e then some (0,e.drop kc.length)else (cg kc r).map fun q=>(q.1+1,q.2)
def iL:List AV→Bool
 |[]=>true
 | .int .i64 _::r=>iL r
 |_::_=>false
def AQ (q:Option (Nat × List AV)):AV:=match q with
 |some q=>q.2.headD .bad
 |none=> .int .i64 0
def Vw (x:Option bu):Option (Nat × Option (Nat × Bool × Bool × Dn) × (List AV→AV) × Prop):=x.map fun b=>(b.sz,b.mp,(fun kc=>if kc.length+1=b.sz then AQ (cg kc b.es)else .bad),∀r ∈ b.es,iL r=true)
def oG (acc:List Nat):List Edge→Nat
 |[]=>0
 |e::r=>bif Region.binds .any e then (2 ^ e.on||| acc.getD e.on 0)||| oG acc r else oG acc r
def iP:List Oper→List Nat→List Nat
 |[],acc=>acc
 |o::r,acc=>iP r (acc++ [oG acc o.after.toList])
def qe:Nat→List Oper→Bool
 |_,[]=>true
 |i,o::r=>o.after.toList.all (fun e=> !Region.binds .any e||Nat.blt e.on i)&&qe (i+1) r
def zD (ops:Array Oper) (ms:List Nat):Bool:=
 (List.range ops.size).all fun j=>(List.range j).all fun i=>(ms.getD j 0).testBit i||(match ops[i]?,ops[j]? with
   |some x,some y=>x.apart ops y
   |_,_=>true)
def nT (ops:Array Oper):Bool:=qe 0 ops.toList&&zD ops (iP ops.toList [])
structure fj where
 i:Nat
 R:List Nat
 W:List Nat
 lo:Nat
 hi:Nat
 k:Nat
def JC (lo hi:Nat) (R W:List Nat):Bool:=R.all fun n=> !(Nat.ble lo n&&Nat.blt n hi)&& !W.any (Nat.beq n)
def xL (ms:List Nat) (x y:fj):Bool:=
 (ms.getD x.i 0).testBit y.i||(ms.getD y.i 0).testBit x.i||(JC x.lo x.hi y.R x.W&&JC y.lo y.hi x.R y.W)
def kq (log:List fj) (x:fj):Bool:=Nat.beq x.k 1&&log.all fun y=>x.R.all fun n=>Nat.blt n y.lo&&(Nat.beq y.k 2|| !y.W.any (Nat.beq n))
def AR (x y:fj):Bool:=Nat.beq x.k 3&&Nat.beq y.k 4
def uo (ops:Array Oper) (log:List fj):Bool:=log.all fun x=>log.all fun y=>Nat.beq x.i y.i||xL (iP ops.toList []) x y||kq log x||kq log y||AR x y||AR y x
def lF:List Operand→List Nat
 |[]=>[]
 | .tmp t::r=>t::lF r
 |_::r=>lF r
def Gg (F:bj):List Nat→List Nat
 |[]=>[]
 |s::r=>(look F s).names++Gg F r
def CW (i:Nat) (R W:List Nat) (lo hi k:Nat) (log:List fj):List fj:=bif (R.isEmpty&&W.isEmpty)&&lo==hi then log else ⟨i,R,W,lo,hi,k⟩::log
def ic (p:Option (Nat × List Nat × List Nat × Nat × Nat)) (hi:Nat) (log:List fj):List fj:=match p with
 |some (i,R,W,lo,k)=>CW i R W lo hi k log
 |none=>log
def IE (id:Nat):List It→Option (List It)
 | .bg id'::k=>bif id'==id then some k else IE id k
 |_::k=>IE id k
 |[]=>none
def kr (I:Nat→Prop) (w:World) (X:ct) (ds:List Deferred):Prop:=
 ∃Ds:List Nat,ds=Ds.map (fun D=> {target:= .collected D,args:= #[]})∧Ds.Nodup∧∀D ∈ Ds,X.w0.heap.size≤D∧I D∧w.heap[D]? =some (.deferred (some []))
theorem kr.nil {I:Nat→Prop} {w:World} {X:ct}:kr I w X []:=⟨[],rfl,List.nodup_nil,fun D h=>by simp at h⟩
theorem kr.mono {I I':Nat→Prop} {w:World} {X:ct} {ds:List Deferred} (h:kr I w X ds) (hI:∀g,I g→I' g):kr I' w X ds:=by
 obtain⟨Ds,h1,h2,h3⟩:=h
 exact⟨Ds,h1,h2,fun D hD=>⟨(h3 D hD).1,hI D (h3 D hD).2.1,(h3 D hD).2.2⟩⟩
theorem kr.rZ {N:Nat→Prop} {ρ ρ':Place} {L L':bn} {I I':Nat→Prop} {w w':World} {X:ct} {ds:List Deferred} (h:kr I w X ds) (E:kY N ρ L I w ρ' L' I' w'):kr I' w' X ds:=by
 obtain⟨Ds,h1,h2,h3⟩:=h
 exact⟨Ds,h1,h2,fun D hD=>⟨(h3 D hD).1,E.nN D (h3 D hD).2.1,(E.cell D (h3 D hD).2.1).trans (h3 D hD).2.2⟩⟩
structure js (ρ:Place) (I:Nat→Prop) (w:World) (X:ct) (S:St) (a:Act):Prop where
 rep:∀i,aS ρ (lens (ae S.M)) I w (· <S.nx) (look S.F i) (a.tmps.getD i undef)
 defers:kr I w X a.defers
 size:a.tmps.size=X.size
def iJ (X:ct) (S:St) (a:Act) (w:World):Prop:=∃ρ I,cY X ρ I (ae S.M) (· <S.nx) w∧js ρ I w X S a
def zG (nr:Bool) (todo:List Item):Prop:=todo=[]∨(nr=false∧∃k,todo= .code .ret::k)
def gO (P:Program) (X:ct) (b:Frame) (R:St→Prop) (ks:List It) (a:Act) (w:World):Prop:=
 ∀cs,∃a' w' S',iJ X S' a' w'∧
  ((∃todo,zG b.roundOf.isSome todo∧Steps P (lone (b.atR a (ks.map It.item)) cs w) (lone (b.atR a' todo) cs w')∧R S')∨
   (∃c post k',(It.fe c post::k') <:+ ks∧Steps P (lone (b.atR a (ks.map It.item)) cs w) (lone (b.atR a' ((It.fe c post::k').map It.item)) cs w')∧post S'))
def AS (size:Nat) (o:Oper):Bool:=match o.dst with|some d=>d<size|none=>true
def codeOk (size:Nat) (nr:Bool):Code→Bool
 | .ret=> !nr
 | .rangeFunc _ ps a c=> !nr&&codeOk size true a&&codeOk size true c&&ps.toList.all fun p=>Nat.blt p size
 | .region _ ops _=>ops.toList.all (AS size)
 | .seq a b=>codeOk size nr a&&codeOk size nr b
 | .cond _ a b=>codeOk size nr a&&codeOk size nr b
 | .block _ c=>codeOk size nr c
 | .loop c=>codeOk size nr c
 | .scope c=>codeOk size nr c
 |_=>true
def AT (size:Nat) (nr:Bool):It→Prop
 | .code c=>codeOk size nr c=true
 | .inl c=>codeOk size nr c=true
 | .fe _ _=>True
 | .bg _=>True
 | .k7 _=>True
 | .ops all i rest gd=>rest=all.toList.drop i∧rest.all (AS size)=true∧∀j s,ID gd j=some s→(all[j]?).bind (·.dst)=some s
def N0 (P:Program) (X:ct) (b:Frame) (R:St→Prop) (c:Code) (ks:List It) (S:St):Prop:=
 codeOk X.size b.roundOf.isSome c=true→(∀x ∈ ks,AT X.size b.roundOf.isSome x)→∀a w,iJ X S a w→gO P X b R (.code c:: .inl c::ks) a w
end Go.AM
namespace Go.AM
open Go.RowKit
theorem sc (M:Mem) (n:Nat) (b:bu):ae (fR M n b)=cQ (ae M) n b:=by
 funext m; rw[kZ]; rfl
theorem ig (ws:List (Nat × bu)):∀M:Mem,ae (cL M ws)=df (ae M) ws:=by
 induction ws with
 |nil=>intro M; rfl
 |cons p r ih=>intro M; simp only[cL,df,ih,sc]
def dg (o:Op):List Nat:=lF o.operands.toList
def bV (P:Program) (X:ct) (o:Oper) (a:Act) (M:bA) (N:Nat→Prop) (ρ:Place) (I:Nat→Prop) (w:World) (av:AV) (ws:List (Nat × bu)):Prop:=
 match (execOp a.eval o).run P w with
 | .ok (.value v) w1=>gC X M N ρ I w av ws v w1
 | .ok .skip w1=>gC X M N ρ I w av ws undef w1
 | .ok (.enter f args) w1=>w1=w∧Calls P f args w fun e w2=>∃v,e= .returned v∧gC X M N ρ I w av ws v w2
 |_=>False
def bP (P:Program) (X:ct) (o:Oper) (F:bj) (M:bA) (av:AV) (ws:List (Nat × bu)) (nw:List Nat):Prop:=
 (∀p ∈ ws,p.1 ∈ nw∨∃s ∈ dg o.op,p.1 ∈ (look F s).names)∧
 ∀M' N ρ I a w,cY X ρ I M' N w→(∀s ∈ dg o.op,aS ρ (lens M') I w N (look F s) (a.tmps.getD s undef))→
  (∀s ∈ dg o.op,∀n ∈ (look F s).names,M' n=M n)→(∀n ∈ nw,¬N n)→bV P X o a M' N ρ I w av ws
def lG (P:Program) (X:ct) (o:Oper) (F:bj) (M:bA) (av:AV):Prop:=
 ∀M' N ρ I a w,cY X ρ I M' N w→(∀s ∈ dg o.op,aS ρ (lens M') I w N (look F s) (a.tmps.getD s undef))→
  (∀s ∈ dg o.op,∀n ∈ (look F s).names,lens M' n=lens M n)→bV P X o a M' N ρ I w av []
theorem lG.nU {P:Program} {X:ct} {o:Oper} {F:bj} {M:bA} {av:AV} (h:lG P X o F M av):bP P X o F M av [] []:=
 ⟨fun p hp=>by simp at hp,fun M' N ρ I a w W hr hM _=>h M' N ρ I a w W hr (fun s hs n hn=>by unfold lens; rw[hM s hs n hn])⟩
def mE (P:Program) (X:ct) (o:Oper) (F:bj) (M:bA) (av:AV):Prop:=
 ∀M' N ρ I a w,cY X ρ I M' N w→(∀s ∈ dg o.op,aS ρ (lens M') I w N (look F s) (a.tmps.getD s undef))→
  (∀s ∈ dg o.op,∀n ∈ (look F s).names,Vw (M' n)=Vw (M n))→bV P X o a M' N ρ I w av []
def oH (P:Program) (X:ct) (o:Oper) (F:bj) (M:bA) (Rx:List Nat) (av:AV) (ws:List (Nat × bu)) (nw:List Nat):Prop:=
 (∀p ∈ ws,p.1 ∈ nw∨(∃s ∈ dg o.op,p.1 ∈ (look F s).names)∨(p.1 ∈ Rx∧M p.1≠none))∧((∀s ∈ dg o.op,∀n ∈ (look F s).names,n ∈ Rx)∨(ws=[]∧∀M' N ρ I a w,cY X ρ I M' N w→(∀s ∈ dg o.op,aS ρ (lens M') I w N (look F s) (a.tmps.getD s undef))→bV P X o a M' N ρ I w av []))∧
 ∀M' N ρ I a w,cY X ρ I M' N w→(∀s ∈ dg o.op,aS ρ (lens M') I w N (look F s) (a.tmps.getD s undef))→
  (∀n ∈ Rx,M' n=M n)→(∀n ∈ nw,¬N n)→bV P X o a M' N ρ I w av ws
theorem bP.more {P:Program} {X:ct} {o:Oper} {F:bj} {M:bA} {Rx:List Nat} {av:AV} {ws:List (Nat × bu)} {nw:List Nat} (h:bP P X o F M av ws nw) (hR:∀s ∈ dg o.op,∀n ∈ (look F s).names,n ∈ Rx):oH P X o F M Rx av ws nw:=
 ⟨fun p hp=>(h.1 p hp).imp id .inl,.inl hR,fun M' N ρ I a w W hr hM hN=>h.2 M' N ρ I a w W hr (fun s hs n hn=>hM n (hR s hs n hn)) hN⟩
theorem nV (N:Nat→Prop):eT N []=N:=by funext m; simp[eT]
theorem gC.value {X:ct} {M:bA} {N:Nat→Prop} {ρ:Place} {I:Nat→Prop} {w:World} {av:AV} {v:Value} (h:cY X ρ I M N w) (r:aS ρ (lens M) I w N av v):gC X M N ρ I w av [] v w:=
 ⟨ρ,I,kY.refl _ _ _ _ _,by rw[nV]; exact h,by rw[nV]; exact r⟩
theorem gV {x:Nat}:∀ {l:List Operand},Operand.tmp x ∈ l→x ∈ lF l
 | .tmp t::r,h=>by
   simp only[List.mem_cons]at h
   rcases h with h|h
   ·cases h; exact List.mem_cons_self
   ·exact List.mem_cons_of_mem _ (gV (l:=r) h)
 | .const v::r,h=>by simp only[List.mem_cons,reduceCtorEq,false_or]at h; exact gV (l:=r) h
 | .global g::r,h=>by simp only[List.mem_cons,reduceCtorEq,false_or]at h; exact gV (l:=r) h
 | .func f::r,h=>by simp only[List.mem_cons,reduceCtorEq,false_or]at h; exact gV (l:=r) h
theorem qf (ρ:Place) (L:bn) (I:Nat→Prop) (w:World) (N:Nat→Prop) (v:Value):aS ρ L I w N (sb v) v:=by
 unfold sb
 split
 ·exact .int _ _
 ·exact .bool _
 ·rename_i s; have:s=⟨s.data.toList.toArray⟩:=by cases s; simp
  conv=>rhs; rw[this]
  exact .str _
 ·exact .bU
 ·exact .an
 ·exact .au
 ·exact .dL
 ·exact .ci
 ·exact .bad _
theorem fk (ρ:Place) (L:bn) (I:Nat→Prop) (w:World) (N:Nat→Prop) (v:Value):aS ρ L I w N (IA v) v:=by
 unfold IA
 split
 ·rename_i cs
  cases hall:cs.toList.all Value.oneCell'
  ·exact .bad _
  have:=aS.agg (ρ:=ρ) (L:=L) (I:=I) (w:=w) (N:=N) (cs.toList.map sb) cs.toList (by simp) (List.all_eq_true.1 hall) (fun j hj=>by
   have hj':j<cs.toList.length:=by simpa using hj
   simp only[List.getD_eq_getElem?_getD,List.getElem?_map,List.getElem?_eq_getElem hj',Option.map_some,Option.getD_some]
   exact qf _ _ _ _ _ _)
  simpa using this
 ·rename_i cs
  have:=aS.aU (ρ:=ρ) (L:=L) (I:=I) (w:=w) (N:=N) (cs.toList.map sb) cs.toList (by simp) (fun j hj=>by
   have hj':j<cs.toList.length:=by simpa using hj
   simp only[List.getD_eq_getElem?_getD,List.getElem?_map,List.getElem?_eq_getElem hj',Option.map_some,Option.getD_some]
   exact qf _ _ _ _ _ _)
  simpa using this
 ·exact qf _ _ _ _ _ _
theorem lZ {ρ:Place} {L:bn} {I:Nat→Prop} {w:World} {N:Nat→Prop} {F:bj} {a:Act} (x:Operand) (h:∀s,x= .tmp s→aS ρ L I w N (look F s) (a.tmps.getD s undef)):aS ρ L I w N (ev F x) (a.eval x):=by
 cases x with
 |tmp t=>exact h t rfl
 |const v=>exact fk _ _ _ _ _ v
 |global g=>exact .bad _
 |func f=>exact .bW f [] [] rfl (fun j hj=>by simp at hj)
theorem ay {ρ:Place} {L:bn} {I:Nat→Prop} {w:World} {N:Nat→Prop} {F:bj} {a:Act} {o:Op} (h:∀s ∈ dg o,aS ρ L I w N (look F s) (a.tmps.getD s undef)) (x:Operand) (hx:x ∈ o.operands.toList):aS ρ L I w N (ev F x) (a.eval x):=
 lZ x fun s e=>h s (gV (e ▸ hx))
theorem qg (v:Value):(sb v).names=[]:=by unfold sb; split<;>rfl
theorem gD:∀l:List Value,AV.aD (l.map sb)=[]
 |[]=>rfl
 |v::r=>by simp[AV.aD,qg,gD r]
theorem AU (v:Value):(IA v).names=[]:=by
 unfold IA
 split
 ·rename_i cs
  cases cs.toList.all Value.oneCell'
  ·rfl
  ·simp[AV.names,gD]
 ·simp[AV.names,gD]
 ·exact qg _
theorem bz {F:bj} {o:Op} (x:Operand) (hx:x ∈ o.operands.toList) {n:Nat} (hn:n ∈ (ev F x).names):∃s ∈ dg o,n ∈ (look F s).names:=by
 cases x with
 |tmp t=>exact⟨t,gV hx,hn⟩
 |const v=>simp[ev,AU]at hn
 |global g=>simp[ev,AV.names]at hn
 |func f=>simp[ev,AV.names,AV.aD]at hn
def TD.fits:TD→TypeDesc→Prop
 | .int k,.int k'=>k=k'
 | .bool,.bool=>True
 | .str,.string=>True
 | .ptr e,.pointer e'=>e=e'
 | .slice e,.slice e'=>e=e'
 | .arr n e,.array n' e'=>n=n'∧e=e'
 | .struct fs,.struct gs=>fs=gs.toList.map fun f=>(f.offset,f.type)
 | .func,.func .. =>True
 | .iface,.interface _=>True
 | .map k e,.map k' e'=>k=k'∧e=e'
 | .aU,.tuple _=>True
 |_,_=>False
def dh (P:Program) (T:TT):Prop:=∀t,T.d t≠ .other→∃D i z,P.underlying t=some D∧(T.d t).fits D∧P.info? t=some i∧i.size=T.s t∧i.bytes≤131072∧i.zero=some z∧T.z t=IA z
theorem ep {v:Value} (h:v.oneCell'=true):v.cells= #[v]:=by
 cases v<;>simp_all[Value.oneCell',Value.cells]
theorem nW {ρ:Place} {L:bn} {I:Nat→Prop} {w:World} {N:Nat→Prop} {a:AV} {v:Value} (h:aS ρ L I w N a v) (hs:bS a=true):
  v.cells.toList.length=(cells a).length∧(∀u ∈ v.cells.toList,u.oneCell'=true)∧∀j,j< (cells a).length→aS ρ L I w N ((cells a).getD j .bad) (v.cells.toList.getD j default):=by
 have one:∀a v,aS ρ L I w N a v→v.oneCell'=true→cells a=[a]→v.cells.toList.length=(cells a).length∧(∀u ∈ v.cells.toList,u.oneCell'=true)∧∀j,j< (cells a).length→aS ρ L I w N ((cells a).getD j .bad) (v.cells.toList.getD j default):=by
  intro a v hr h1 hc
  rw[ep h1,hc]
  refine⟨rfl,by simpa using h1,fun j hj=> ?_⟩
  have:j=0:=by simp at hj; omega
  subst this
  simpa using hr
 have h':=h
 cases h with
 |agg cs vs hl h1 hr=>exact⟨by simpa[Value.cells,cells]using hl,by simpa[Value.cells]using h1,by simpa[Value.cells,cells]using hr⟩
 |bad=>simp[bS]at hs
 |aU=>simp[bS]at hs
 |loc n len i off _ hn h1 h=>exact one _ _ h' h1 rfl
 |bh n len _ hn h1 h=>exact one _ _ h' h1 rfl
 |dP n len i off ca _ hn h1 h=>exact one _ _ h' h1 rfl
 |omap n _ hn h1 h=>exact one _ _ h' h1 rfl
 |_=>exact one _ _ h' rfl rfl
theorem lH {P:Program} {w:World} {t:TypeId} {i:TypeInfo} (h:P.info? t=some i):(typeInfo t).run P w= .ok i w:=by simp[typeInfo,h]
theorem bG {P:Program} {w:World} {t:TypeId} {i:TypeInfo} (h:P.info? t=some i):(sizeOf t).run P w= .ok i.size w:=by simp[sizeOf,lH h]
theorem fm {P:Program} {w:World} {t:TypeId} {i:TypeInfo} {z:Value} (h:P.info? t=some i) (hz:i.zero=some z):(zeroValue t).run P w= .ok z w:=by simp[zeroValue,lH h,hz]
theorem l7 {P:Program} {w:World} {t:TypeId} {D:TypeDesc} {d:TD} (h:P.underlying t=some D) (hf:d.fits D):(isAgg t).run P w= .ok d.ag w:=by
 unfold isAgg
 simp only[Sem.run_bind,run_underlying h,Result.andThen_ok]
 cases d<;>cases D<;>simp_all[TD.fits,TD.ag]
end Go.AM
namespace Go.AM
open Go.RowKit
variable {P:Program} {T:TT} {X:ct} {o:Oper} {F:bj} {M:bA}
theorem aJ {av:AV} (h:∀M' N ρ I (a:Act) w,cY X ρ I M' N w→(∀s ∈ dg o.op,aS ρ (lens M') I w N (look F s) (a.tmps.getD s undef))→(∀s ∈ dg o.op,∀n ∈ (look F s).names,M' n=M n)→
  ∃v,(execOp a.eval o).run P w= .ok (.value v) w∧aS ρ (lens M') I w N av v):bP P X o F M av [] []:=by
 refine⟨fun p hp=>by simp at hp,fun M' N ρ I a w hW hU hN _=> ?_⟩
 obtain⟨v,hv,hr⟩:=h M' N ρ I a w hW hU hN
 unfold bV
 rw[hv]
 exact gC.value hW hr
theorem eU {av:AV} (h:∀M' N ρ I (a:Act) w,cY X ρ I M' N w→(∀s ∈ dg o.op,aS ρ (lens M') I w N (look F s) (a.tmps.getD s undef))→(∀s ∈ dg o.op,∀n ∈ (look F s).names,lens M' n=lens M n)→
  ∃v,(execOp a.eval o).run P w= .ok (.value v) w∧aS ρ (lens M') I w N av v):lG P X o F M av:=by
 refine fun M' N ρ I a w hW hU hN=> ?_
 obtain⟨v,hv,hr⟩:=h M' N ρ I a w hW hU hN
 unfold bV
 rw[hv]
 exact gC.value hW hr
theorem sQ {x:Operand} (ho:o.op= .move x∨o.op= .assign x):bP P X o F M (ev F x) [] []:=by
 refine aJ fun M' N ρ I a w hW hU hN=>⟨a.eval x,?_,ay hU x ?_⟩
 ·rcases ho with ho|ho<;>simp[execOp,ho]
 ·rcases ho with ho|ho<;>simp[ho,Op.operands]
theorem xM {x:Operand} (ho:o.op= .move x∨o.op= .assign x):oH P X o F M [] (ev F x) [] []:=by
 have free:∀M' N ρ I a w,cY X ρ I M' N w→(∀s ∈ dg o.op,aS ρ (lens M') I w N (look F s) (a.tmps.getD s undef))→bV P X o a M' N ρ I w (ev F x) []:=by
  intro M' N ρ I a w hW hU
  have e:(execOp a.eval o).run P w= .ok (.value (a.eval x)) w:=by rcases ho with ho|ho<;>simp[execOp,ho]
  unfold bV
  rw[e]
  exact gC.value hW (ay hU x (by rcases ho with ho|ho<;>simp[ho,Op.operands]))
 exact⟨fun p hp=>by simp at hp,.inr ⟨rfl,free⟩,fun M' N ρ I a w hW hU _ _=>free M' N ρ I a w hW hU⟩
theorem AW {c x y:Operand} {t:Bool} (ho:o.op= .pick c x y) (hc:ev F c= .bool t):bP P X o F M (ev F (if t then x else y)) [] []:=by
 refine aJ fun M' N ρ I a w hW hU hN=>⟨a.eval (if t then x else y),?_,ay hU _ ?_⟩
 ·have hr:=ay hU c (by simp[ho,Op.operands])
  rw[hc]at hr
  generalize SS:a.eval c=cv at hr
  cases hr
  cases t<;>simp[execOp,ho,SS,asBool]
 ·cases t<;>simp[ho,Op.operands]
theorem iR {M':bA} {n:Nat} {b:bu} (hm:M n=some b) (h:lens M' n=lens M n):lens M' n=some (b.ln,b.sz):=by
 rw[h,aH]; exact⟨b,hm,rfl,rfl⟩
theorem fq {ρ:Place} {L:bn} {I:Nat→Prop} {w:World} {N:Nat→Prop} {n len i off sz:Nat} {v:Value} (h:aS ρ L I w N (.loc n len i off) v) (hl:L n=some (len,sz)):
  N n∧∃g cap,ρ n=some (g,cap)∧v= .pointer (some ⟨g,i*sz+off,none⟩):=by
 cases h with
 |loc _ _ _ _ _ hn h1 h=>exact⟨hn,(h len sz hl).2 rfl⟩
theorem fS {ρ:Place} {L:bn} {I:Nat→Prop} {w:World} {N:Nat→Prop} {n len i off sz g cap:Nat} (hn:N n) (hl:L n=some (len,sz)) (hρ:ρ n=some (g,cap)):
  aS ρ L I w N (.loc n len i off) (.pointer (some ⟨g,i*sz+off,none⟩)):=
 .loc n len i off _ hn rfl fun l xN h=>by
   rw[hl]at h
   simp only[Option.some.injEq,Prod.mk.injEq]at h
   obtain⟨rfl,rfl⟩:=h
   exact⟨Nat.le_refl _,fun _=>⟨g,cap,hρ,rfl⟩⟩
theorem cj (g o n:Nat):(⟨g,o,none⟩:Addr).add n=⟨g,o+n,none⟩:=by
 unfold Addr.add; split<;>simp_all
theorem ku {s f:Nat} {x:Operand} {av:AV} {fs:List (Nat × Nat)} {off ft:Nat} (hT:dh P T) (ho:o.op= .fieldAddr s x f) (hs:T.d s= .struct fs) (hf:fs[f]? =some (off,ft)) (hz:(T.s ft==0)=false) (hft:T.d ft≠ .other)
  (h:(∃n len i o' b,ev F x= .loc n len i o'∧M n=some b∧b.ln=len∧av= .loc n len i (o'+off))∨(∃e o',ev F x= .bv e o'∧av= .bv e (o'+off))):lG P X o F M av:=by
 refine eU fun M' N ρ I a w hW hU hN=> ?_
 have hx:x ∈ o.op.operands.toList:=by simp[ho,Op.operands]
 have hr:=ay hU x hx
 obtain⟨D,i,z,hD,hfit,hi,hsz,_,_⟩:=hT s (by rw[hs]; simp)
 rw[hs]at hfit
 cases D<;>simp only[TD.fits]at hfit
 rename_i gs
 obtain⟨_,it,_,_,_,hit,se,_,_⟩:=hT ft hft
 have hg:∃JD,gs[f]? =some JD∧JD.offset=off∧JD.type=ft:=by
  rw[hfit,List.getElem?_map]at hf
  cases TW:gs.toList[f]? with
  |none=>simp[TW]at hf
  |some JD=>
   simp only[TW,Option.map_some,Option.some.injEq,Prod.mk.injEq]at hf
   exact⟨JD,by simpa using TW,hf.1,hf.2⟩
 obtain⟨JD,TX,rfl,rfl⟩:=hg
 have hne:it.size≠0:=by rw[se]; simpa using hz
 have run:∀g q,a.eval x= .pointer (some ⟨g,q,none⟩)→(execOp a.eval o).run P w= .ok (.value (.pointer (some ⟨g,q+JD.offset,none⟩))) w:=by
  intro g q hq
  simp only[execOp,ho,Instr.fieldAt,Sem.run_bind,run_underlying hD,Result.andThen_ok,TX,hq,Instr.sureAddr,Sem.run_pure,fieldPlace,bG hit,if_neg hne,cj]
 rcases h with⟨n,len,i',o',b,he,hb,hl,rfl⟩|⟨e,o',he,rfl⟩
 ·rw[he]at hr
  obtain⟨sl,ee,er⟩:=bz (F:=F) x hx (n:=n) (by rw[he]; simp[AV.names])
  have dJ:=iR hb (hN sl ee n er)
  rw[hl]at dJ
  obtain⟨hn,g,cap,hρ,hv⟩:=fq hr dJ
  refine⟨_,run g _ hv,?_⟩
  rw[Nat.add_assoc]
  exact fS hn dJ hρ
 ·rw[he]at hr
  generalize sf:a.eval x=v at hr
  cases hr with
  |bv _ _ b' ZK c hI h1 hcell hr=>
   refine⟨_,run b' _ sf,?_⟩
   rw[Nat.add_assoc]
   exact .bv e _ b' ZK c hI h1 hcell hr
theorem qh {s f:Nat} {x:Operand} {av:AV} {fs:List (Nat × Nat)} {off ft:Nat} (hT:dh P T) (ho:o.op= .fieldAddr s x f) (hs:T.d s= .struct fs) (hf:fs[f]? =some (off,ft)) (hz:(T.s ft==0)=false) (hft:T.d ft≠ .other)
 (h:(∃n len i o' b,ev F x= .loc n len i o'∧M n=some b∧b.ln=len∧av= .loc n len i (o'+off))∨(∃e o',ev F x= .bv e o'∧av= .bv e (o'+off))):bP P X o F M av [] []:=(ku hT ho hs hf hz hft h).nU
theorem run_indexAt_slice {t e:TypeId} {it:TypeInfo} {w:World} (hD:P.underlying t=some (.slice e)) (hi:P.info? e=some it) (g q len cap:Nat) (k:IntKind) (i:Int) (h:0≤i∧i< (len:Int)):
  (Instr.indexAt t (.slice (some ⟨g,q,none⟩) len cap) (.int k i)).run P w= .ok (.pointer (some ⟨g,q+i.toNat*it.size,none⟩)) w:=by
 simp only[Instr.indexAt,asIntOf,Sem.run_bind,Sem.run_pure,Result.andThen_ok,run_underlying hD,if_pos h,bG hi,cj]
theorem kb {t e n:Nat} {it:TypeInfo} {w:World} (hD:P.underlying t=some (.array n e)) (hi:P.info? e=some it) (g q:Nat) (k:IntKind) (i:Int) (h:0≤i∧i< (n:Int)):
  (Instr.indexAt t (.pointer (some ⟨g,q,none⟩)) (.int k i)).run P w= .ok (.pointer (some ⟨g,q+i.toNat*it.size,none⟩)) w:=by
 simp only[Instr.indexAt,asIntOf,Sem.run_bind,Sem.run_pure,Result.andThen_ok,run_underlying hD,if_pos h,bG hi,cj,Instr.sureAddr]
theorem bZ {d:TD} {D:TypeDesc} {e:Nat} (hd:d= .slice e) (h:d.fits D):D= .slice e:=by
 subst hd; cases D<;>simp_all[TD.fits]
theorem fu {d:TD} {D:TypeDesc} {n e:Nat} (hd:d= .arr n e) (h:d.fits D):D= .array n e:=by
 subst hd; cases D<;>simp_all[TD.fits]
theorem iS {d:TD} {D:TypeDesc} {fs:List (Nat × Nat)} (hd:d= .struct fs) (h:d.fits D):∃gs,D= .struct gs∧fs=gs.toList.map fun f=>(f.offset,f.type):=by
 subst hd; cases D<;>simp_all[TD.fits]
theorem fits_int {d:TD} {D:TypeDesc} {k:IntKind} (hd:d= .int k) (h:d.fits D):D= .int k:=by
 subst hd; cases D<;>simp_all[TD.fits]
theorem fy {d:TD} {D:TypeDesc} (hd:d= .str) (h:d.fits D):D= .string:=by
 subst hd; cases D<;>simp_all[TD.fits]
theorem TD.dG {d:TD} (h:d.ok=true):d≠ .other:=by rintro rfl; simp[TD.ok]at h
theorem bH {ρ:Place} {L:bn} {I:Nat→Prop} {w:World} {N:Nat→Prop} {k:IntKind} {n:Int} {v:Value} (h:aS ρ L I w N (.int k n) v):v= .int k n:=by cases h; rfl
theorem fA {ρ:Place} {L:bn} {I:Nat→Prop} {w:World} {N:Nat→Prop} {b:Bool} {v:Value} (h:aS ρ L I w N (.bool b) v):v= .bool b:=by cases h; rfl
theorem gh {ρ:Place} {L:bn} {I:Nat→Prop} {w:World} {N:Nat→Prop} {s:List UInt8} {v:Value} (h:aS ρ L I w N (.str s) v):v= .string ⟨s.toArray⟩:=by cases h; rfl
theorem iT {ρ:Place} {L:bn} {I:Nat→Prop} {w:World} {N:Nat→Prop} {n len sz:Nat} {v:Value} (h:aS ρ L I w N (.bh n len) v) (hl:L n=some (len,sz)):
  N n∧((ρ n=none∧∃q,v= .slice q 0 0)∨∃g cap,ρ n=some (g,cap)∧v= .slice (some ⟨g,0,none⟩) len cap):=by
 cases h with
 |bh _ _ _ hn h1 h=>exact⟨hn,(h len sz hl).2 rfl⟩
theorem jL {ρ:Place} {L:bn} {I:Nat→Prop} {w:World} {N:Nat→Prop} {n len sz g cap:Nat} (hn:N n) (hl:L n=some (len,sz)) (hρ:ρ n=some (g,cap)):
  aS ρ L I w N (.bh n len) (.slice (some ⟨g,0,none⟩) len cap):=
 .bh n len _ hn rfl fun l xN h=>by
   rw[hl]at h
   simp only[Option.some.injEq,Prod.mk.injEq]at h
   obtain⟨rfl,rfl⟩:=h
   exact⟨Nat.le_refl _,fun _=> .inr ⟨g,cap,hρ,rfl⟩⟩
theorem k8 {ρ:Place} {L:bn} {I:Nat→Prop} {w:World} {N:Nat→Prop} {n len i off ca sz:Nat} {v:Value} (h:aS ρ L I w N (.dP n len i off ca) v) (hl:L n=some (len,sz)):
  N n∧∃g cap c,ρ n=some (g,cap)∧v= .slice (some ⟨g,i*sz+off,none⟩) ca c∧ca≤c∧c≤maxLen:=by
 cases h with
 |dP _ _ _ _ _ _ hn h1 h=>exact⟨hn,(h len sz hl).2 rfl⟩
theorem kw (hT:dh P T) {t:Nat} {x ix:Operand} {K:AV→Prop} {Ml:Mem} (hM:M=ae Ml) (hok:∀e,T.d t= .slice e→(T.d e).ok=true) (JE:∀m e,T.d t= .arr m e→(T.d e).ok=true)
  (ho:o.op= .indexAddr t x ix) (h:xJ T t (ev F x) (ev F ix) Ml K):∃av,lG P X o F M av∧K av:=by
 have hx:x ∈ o.op.operands.toList:=by simp[ho,Op.operands]
 have JF:ix ∈ o.op.operands.toList:=by simp[ho,Op.operands]
 have nm:∀n,n ∈ (ev F x).names→∀ (M':bA),(∀s ∈ dg o.op,∀n ∈ (look F s).names,lens M' n=lens M n)→lens M' n=lens M n:=by
  intro n hn M' hN
  obtain⟨sl,ee,er⟩:=bz (F:=F) x hx hn
  exact hN sl ee n er
 cases oI:ev F ix with
 |int k i=>
  rw[oI]at h
  simp only[xJ]at h
  cases ht:T.d t with
  |slice e=>
   rw[ht]at h
   obtain⟨D,ZL,z0,hD,hf,_⟩:=hT t (by rw[ht]; simp)
   have gA:=bZ ht hf
   subst gA
   obtain⟨_,it,_,_,_,hit,se,_⟩:=hT e (TD.dG (hok e ht))
   cases ch:ev F x with
   |aO sz es=>
    rw[ch]at h
    simp only at h
    obtain⟨hc,hr,hk⟩:=aB h
    refine⟨_,eU fun M' N ρ I a w hW hU hN=> ?_,hk⟩
    have r1:=ay hU x hx
    have r2:=bH (oI ▸ ay hU ix JF)
    rw[ch]at r1
    generalize hv:a.eval x=v at r1
    cases r1 with
    |cI=>simp at hr; omega
    |aO _ _ b q cap c hl lI hI hs h1 hcell TY=>
     have hi:i.toNat<es.length:=by omega
     refine⟨_,by simp only[execOp,ho,r2,hv,Sem.run_bind,run_indexAt_slice hD hit _ _ _ _ _ _ hr,Result.andThen_ok,Sem.run_pure]; rfl,?_⟩
     have hsz:sz=it.size:=by rw[se]; simpa using hc
     have hel:(es.getD i.toNat []).length=sz:=by
      rw[List.getD_eq_getElem?_getD,List.getElem?_eq_getElem hi,Option.getD_some]
      exact hs _ (List.getElem_mem _)
     have:=aS.bv (ρ:=ρ) (L:=lens M') (I:=I) (w:=w) (N:=N) (es.getD i.toNat []) 0 b (q+i.toNat*sz) (c i.toNat) hI (fun j hj=>h1 _ _ hi (by omega)) (fun j hj=>hcell _ _ hi (by omega)) (fun j hj=>TY _ _ hi (by omega))
     rw[←hsz]
     exact this
   |bh n len=>
    rw[ch]at h
    simp only[alive]at h
    cases hb:ae Ml n with
    |none=>rw[hb]at h; exact h.elim
    |some b=>
     rw[hb]at h
     obtain⟨hc1,hmp,h⟩:=aB h
     obtain⟨jK,hr,hk⟩:=aB h
     have hl:b.ln=len:=by simpa using hc1
     have hsz:b.sz=it.size:=by rw[se]; simpa using jK
     refine⟨_,eU fun M' N ρ I a w hW hU hN=> ?_,hk⟩
     have r1:=ay hU x hx
     have r2:=bH (oI ▸ ay hU ix JF)
     rw[ch]at r1
     have dJ:=iR (M':=M') (n:=n) (b:=b) (M:=M) (by rw[hM]; exact hb) (nm n (by rw[ch]; simp[AV.names]) M' hN)
     rw[hl]at dJ
     obtain⟨hn,h2⟩:=iT r1 dJ
     rcases h2 with⟨h0,hv⟩|⟨g,cap,hρ,hv⟩
     ·obtain⟨b',hb',nL,_⟩:=aH.1 dJ
      have:=(hW.bg n b' hb').dY h0
      rw[bu.CS this]at nL
      omega
     ·refine⟨_,by simp only[execOp,ho,r2,hv,Sem.run_bind,run_indexAt_slice hD hit _ _ _ _ _ _ hr,Result.andThen_ok,Sem.run_pure]; rfl,?_⟩
      have:=fS (I:=I) (w:=w) (i:=i.toNat) (off:=0) hn dJ hρ
      rw[←hsz,Nat.zero_add]
      simpa using this
   |dP n len j off ca=>
    rw[ch]at h
    simp only[alive]at h
    cases hb:ae Ml n with
    |none=>rw[hb]at h; exact h.elim
    |some b=>
     rw[hb]at h
     obtain⟨hc1,hmp,hr,hk⟩:=aB h
     have hl:b.ln=len:=by simpa using hc1
     refine⟨_,eU fun M' N ρ I a w hW hU hN=> ?_,hk⟩
     have r1:=ay hU x hx
     have r2:=bH (oI ▸ ay hU ix JF)
     rw[ch]at r1
     have dJ:=iR (M':=M') (n:=n) (b:=b) (M:=M) (by rw[hM]; exact hb) (nm n (by rw[ch]; simp[AV.names]) M' hN)
     rw[hl]at dJ
     obtain⟨hn,g,cap,c,hρ,hv,_⟩:=k8 r1 dJ
     refine⟨_,by simp only[execOp,ho,r2,hv,Sem.run_bind,run_indexAt_slice hD hit _ _ _ _ _ _ hr,Result.andThen_ok,Sem.run_pure]; rfl,?_⟩
     rw[Nat.add_assoc,se]
     exact fS hn dJ hρ
   |_=>rw[ch]at h; exact h.elim
  |arr m e=>
   rw[ht]at h
   obtain⟨D,ZL,z0,hD,hf,_⟩:=hT t (by rw[ht]; simp)
   have gA:=fu ht hf
   subst gA
   obtain⟨_,it,_,_,_,hit,se,_⟩:=hT e (TD.dG (JE m e ht))
   cases ch:ev F x with
   |loc n len j off=>
    rw[ch]at h
    simp only[alive]at h
    cases hb:ae Ml n with
    |none=>rw[hb]at h; exact h.elim
    |some b=>
     rw[hb]at h
     obtain⟨hc1,hmp,hr,hk⟩:=aB h
     have hl:b.ln=len:=by simpa using hc1
     refine⟨_,eU fun M' N ρ I a w hW hU hN=> ?_,hk⟩
     have r1:=ay hU x hx
     have r2:=bH (oI ▸ ay hU ix JF)
     rw[ch]at r1
     have dJ:=iR (M':=M') (n:=n) (b:=b) (M:=M) (by rw[hM]; exact hb) (nm n (by rw[ch]; simp[AV.names]) M' hN)
     rw[hl]at dJ
     obtain⟨hn,g,cap,hρ,hv⟩:=fq r1 dJ
     refine⟨_,by simp only[execOp,ho,r2,hv,Sem.run_bind,kb hD hit _ _ _ _ hr,Result.andThen_ok,Sem.run_pure]; rfl,?_⟩
     rw[Nat.add_assoc,se]
     exact fS hn dJ hρ
   |bv c off=>
    rw[ch]at h
    obtain⟨hr,hk⟩:=h
    refine⟨_,eU fun M' N ρ I a w hW hU hN=> ?_,hk⟩
    have r1:=ay hU x hx
    have r2:=bH (oI ▸ ay hU ix JF)
    rw[ch]at r1
    generalize hv:a.eval x=v at r1
    cases r1 with
    |bv _ _ b q cc hI h1 hcell TY=>
     refine⟨_,by simp only[execOp,ho,r2,hv,Sem.run_bind,kb hD hit _ _ _ _ hr,Result.andThen_ok,Sem.run_pure]; rfl,?_⟩
     rw[Nat.add_assoc,se]
     exact .bv c _ b q cc hI h1 hcell TY
   |_=>rw[ch]at h; exact h.elim
  |_=>rw[ht]at h; exact h.elim
 |_=>rw[oI]at h; exact h.elim
theorem qi (hT:dh P T) {t:Nat} {x ix:Operand} {K:AV→Prop} {Ml:Mem} (hM:M=ae Ml) (hok:∀e,T.d t= .slice e→(T.d e).ok=true) (JE:∀m e,T.d t= .arr m e→(T.d e).ok=true)
  (ho:o.op= .indexAddr t x ix) (h:xJ T t (ev F x) (ev F ix) Ml K):∃av,bP P X o F M av [] []∧K av:=by
 obtain⟨av,h1,h2⟩:=kw hT hM hok JE ho h
 exact⟨av,h1.nU,h2⟩
end Go.AM
namespace Go.AM
open Go.RowKit
variable {P:Program} {T:TT} {X:ct} {o:Oper} {F:bj} {M:bA}
theorem gi (g:Nat) (t:TypeId) (fr:Nat × Nat):∀ (vs:List Value) (q:Nat) (w:World) (cs:Array Value),w.heap[g]? =some (.cells cs t fr)→q+vs.length≤cs.size→
  ∃cs',(w.setCells g q vs).heap[g]? =some (.cells cs' t fr)∧cs'.size=cs.size∧∀k,cs'[k]? =if q≤k∧k<q+vs.length then vs[k - q]? else cs[k]?
 |[],q,w,cs,hg,_=>⟨cs,hg,rfl,fun k=>by rw[if_neg (fun h=>by have:=h.1; have:=h.2; simp at this; omega)]⟩
 |v::r,q,w,cs,hg,hq=>by
  have hg1:(w.setCell ⟨g,q,none⟩ v).heap[g]? =some (.cells (cs.setIfInBounds q v) t fr):=by
   simp[World.setCell,Array.getElem?_modify,hg]
  obtain⟨cs',h1,h2,h3⟩:=gi g t fr r (q+1) (w.setCell ⟨g,q,none⟩ v) (cs.setIfInBounds q v) hg1 (by simp at hq ⊢; omega)
  refine⟨cs',h1,by simpa using h2,fun k=> ?_⟩
  rw[h3 k]
  simp only[List.length_cons]at hq ⊢
  by_cases hk:k=q
  ·subst hk
   rw[if_neg (by omega),if_pos (by omega)]
   simp[Array.getElem?_setIfInBounds]; omega
  ·by_cases hk2:q+1≤k∧k<q+1+r.length
   ·rw[if_pos hk2,if_pos (by omega)]
    have:k - q=(k - (q+1))+1:=by omega
    rw[this]; simp
   ·rw[if_neg hk2,if_neg (by omega)]
    simp[Array.getElem?_setIfInBounds]
    intro e; omega
theorem dZ (g:Nat):∀ (vs:List Value) (q:Nat) (w:World) (k:Nat),k≠g→(w.setCells g q vs).heap[k]? =w.heap[k]?
 |[],_,_,_,_=>rfl
 |v::r,q,w,k,hk=>by
  have:=dZ g r (q+1) (w.setCell ⟨g,q,none⟩ v) k hk
  refine this.trans ?_
  exact Below.heap_setCell w _ v k hk
theorem size_setCells (g:Nat):∀ (vs:List Value) (q:Nat) (w:World),(w.setCells g q vs).heap.size=w.heap.size
 |[],_,_=>rfl
 |v::r,q,w=>by
  have:=size_setCells g r (q+1) (w.setCell ⟨g,q,none⟩ v)
  exact this.trans (by simp)
theorem gj (g:Nat):∀ (vs:List Value) (q:Nat) (w:World),(w.setCells g q vs).tape=w.tape
 |[],_,_=>rfl
 |v::r,q,w=>gj g r (q+1) (w.setCell ⟨g,q,none⟩ v)
theorem os_setCells (g:Nat):∀ (vs:List Value) (q:Nat) (w:World),(w.setCells g q vs).os=w.os
 |[],_,_=>rfl
 |v::r,q,w=>os_setCells g r (q+1) (w.setCell ⟨g,q,none⟩ v)
theorem gP (g:Nat):∀ (vs:List Value) (q:Nat) (w:World),(w.setCells g q vs).output=w.output
 |[],_,_=>rfl
 |v::r,q,w=>gP g r (q+1) (w.setCell ⟨g,q,none⟩ v)
theorem c8 {α:Type} (l:List α) (off n j:Nat) (d:α) (h:j<n):((l.drop off).take n).getD j d=l.getD (off+j) d:=by
 simp[List.getD_eq_getElem?_getD,List.getElem?_take,h]
theorem eb {t:Nat} (hT:dh P T) (hok:(T.d t).ok=true) {ρ:Place} {L:bn} {I:Nat→Prop} {w:World} {N:Nat→Prop} {g q off:Nat} {cs:List AV} {K:AV→Prop} (f:Nat→Value)
  (hc:∀j,j<cs.length→w.cell? ⟨g,q+j,none⟩=some (f j)∧(f j).oneCell'=true∧aS ρ L I w N (cs.getD j .bad) (f j))
  {av:AV} (hlen:((cs.drop off).take (T.s t)).length=T.s t) (r6:av=if (T.d t).ag then .agg ((cs.drop off).take (T.s t))else ((cs.drop off).take (T.s t)).headD .bad) (h1:(T.d t).ag=false→T.s t=1):
  ∃v,(loadVar t ⟨g,q+off,none⟩).run P w= .ok v w∧aS ρ L I w N av v:=by
 obtain⟨D,it,z,hD,hf,hi,hs,_⟩:=hT t (TD.dG hok)
 have hle:off+T.s t≤cs.length∨T.s t=0:=by
  simp only[List.length_take,List.length_drop]at hlen
  omega
 unfold loadVar
 simp only[Sem.run_bind,l7 hD hf,Result.andThen_ok]
 cases iM:(T.d t).ag with
 |true=>
  simp only[if_pos,bG hi,Result.andThen_ok,Sem.run_bind]
  rw[hs]
  have hcell:∀j,j<T.s t→w.cell? ((⟨g,q+off,none⟩:Addr).add j)=some (f (off+j)):=fun j hj=>by
   rw[cj,Nat.add_assoc]
   exact (hc (off+j) (by omega)).1
  rw[run_loadCells w _ (T.s t) (fun j=>f (off+j)) hcell]
  refine⟨_,rfl,?_⟩
  rw[r6,iM,if_pos rfl]
  refine .agg _ ((List.range (T.s t)).map fun j=>f (off+j)) (by simp; simp at hlen; omega) (fun u hu=> ?_) (fun j hj=> ?_)
  ·obtain⟨j,hj,rfl⟩:=List.mem_map.1 hu
   exact (hc (off+j) (by simp at hj; omega)).2.1
  ·rw[hlen]at hj
   rw[c8 _ _ _ _ _ hj]
   have:((List.range (T.s t)).map fun j=>f (off+j)).getD j default=f (off+j):=by simp[List.getD_eq_getElem?_getD,hj]
   rw[this]
   exact (hc (off+j) (by omega)).2.2
 |false=>
  have N3:=h1 iM
  have h2:=(hc off (by omega))
  simp only[Bool.false_eq_true,if_false,run_load,h2.1]
  refine⟨_,rfl,?_⟩
  rw[r6,iM,N3]
  have:((cs.drop off).take 1).headD .bad=cs.getD off .bad:=by
   have hlt:off<cs.length:=by omega
   rw[List.drop_eq_getElem_cons hlt,List.take_succ_cons]
   simp[List.getD_eq_getElem?_getD,hlt]
  simp only[Bool.false_eq_true,if_false,this]
  exact h2.2.2
theorem eG {ag:Bool} {n off:Nat} {cs:List AV} {K:AV→Prop} (h:apart ag n off cs K):
  ∃av,((cs.drop off).take n).length=n∧(av=if ag then .agg ((cs.drop off).take n)else ((cs.drop off).take n).headD .bad)∧(ag=false→n=1)∧K av:=by
 unfold apart at h
 obtain⟨h1,h2⟩:=aB h
 cases ag with
 |true=>exact⟨_,by simpa using h1,rfl,by simp,h2⟩
 |false=>
  obtain⟨h3,h4⟩:=aB h2
  exact⟨_,by simpa using h1,rfl,fun _=>by simpa using h3,h4⟩
theorem p9.row {C:ct} {ρ:Place} {L:bn} {I:Nat→Prop} {w:World} {N:Nat→Prop} {n:Nat} {b:bu} (B:p9 C ρ L I w N n b) (hmp:b.mp=none) {g cap:Nat} (hρ:ρ n=some (g,cap)) (i:Nat):
  ∃f:Nat→Value,∀j,j< (b.es.getD i []).length→w.cell? ⟨g,i*b.sz+j,none⟩=some (f j)∧(f j).oneCell'=true∧aS ρ L I w N ((b.es.getD i []).getD j .bad) (f j):=by
 obtain⟨cs,fr,hg,_,_,_,_,_,_,hc⟩:=B.real g cap hρ
 refine⟨fun j=>(cs[i*b.sz+j]?).getD undef,fun j hj=> ?_⟩
 have hi:i<b.es.length:=by
  rcases Nat.lt_or_ge i b.es.length with h|h
  ·exact h
  ·rw[List.getD_eq_getElem?_getD,List.getElem?_eq_none h]at hj; simp at hj
 have hsz:(b.es.getD i []).length=b.sz:=by
  rw[List.getD_eq_getElem?_getD,List.getElem?_eq_getElem hi,Option.getD_some]
  exact B.even _ (List.getElem_mem _)
 obtain⟨u,hu,h1,hr⟩:=hc i j hi (by omega)
 have e:(cs[i*b.sz+j]?).getD undef=u:=by rw[hu]; rfl
 refine⟨?_,?_,?_⟩
 ·rw[uq w g _ cs b.ty fr (hg.cells hmp)]; show _=some ((cs[i*b.sz+j]?).getD undef); rw[e,hu]
 ·show ((cs[i*b.sz+j]?).getD undef).oneCell'=true; rw[e]; exact h1
 ·show aS _ _ _ _ _ _ ((cs[i*b.sz+j]?).getD undef); rw[e]; exact hr
where uq (w:World) (g j:Nat) (cs:Array Value) (t:TypeId) (fr:Nat × Nat) (hg:w.heap[g]? =some (.cells cs t fr)):w.cell? ⟨g,j,none⟩=cs[j]? :=by simp[World.cell?,hg]
theorem AX (hT:dh P T) {t:Nat} {x:Operand} {K:AV→Prop} {Ml:Mem} (hM:M=ae Ml) (hok:(T.d t).ok=true) (ho:o.op= .load t x) (h:lD T t (ev F x) Ml K):∃av,bP P X o F M av [] []∧K av:=by
 have hx:x ∈ o.op.operands.toList:=by simp[ho,Op.operands]
 cases ch:ev F x with
 |loc n len i off=>
  rw[ch]at h
  simp only[lD,alive]at h
  cases hb:ae Ml n with
  |none=>rw[hb]at h; exact h.elim
  |some b=>
   rw[hb]at h
   obtain⟨hc1,hmp,h⟩:=aB h
   obtain⟨av,ha1,ha2,CG,hk⟩:=eG h
   have hl:b.ln=len:=by simpa using hc1
   refine⟨av,aJ fun M' N ρ I a w hW hU hN=> ?_,hk⟩
   have r1:=ay hU x hx
   rw[ch]at r1
   obtain⟨sl,ee,er⟩:=bz (F:=F) x hx (n:=n) (by rw[ch]; simp[AV.names])
   have cy:M' n=some b:=(hN sl ee n er).trans (by rw[hM]; exact hb)
   have dJ:lens M' n=some (b.ln,b.sz):=by rw[aH]; exact⟨b,cy,rfl,rfl⟩
   rw[hl]at dJ
   obtain⟨hn,g,cap,hρ,hv⟩:=fq r1 dJ
   obtain⟨f,hf⟩:=(hW.bg n b cy).row hmp hρ i
   obtain⟨v,CH,JG⟩:=eb (K:=K) hT hok (off:=off) f hf ha1 ha2 CG
   refine⟨v,?_,JG⟩
   simp only[execOp,ho,Instr.loadAt,hv,Instr.sureAddr,Sem.run_bind,Sem.run_pure,Result.andThen_ok,CH]
 |bv e off=>
  rw[ch]at h
  simp only[lD]at h
  obtain⟨av,ha1,ha2,CG,hk⟩:=eG h
  refine⟨av,aJ fun M' N ρ I a w hW hU hN=> ?_,hk⟩
  have r1:=ay hU x hx
  rw[ch]at r1
  generalize hv:a.eval x=v at r1
  cases r1 with
  |bv _ _ b q c hI h1 hcell hr=>
   obtain⟨v,CH,JG⟩:=eb (K:=K) (N:=N) hT hok (off:=off) c (fun j hj=>⟨hcell j hj,h1 j hj,(hr j hj).wide (fun _ h=>h.elim)⟩) ha1 ha2 CG
   refine⟨v,?_,JG⟩
   simp only[execOp,ho,Instr.loadAt,hv,Instr.sureAddr,Sem.run_bind,Sem.run_pure,Result.andThen_ok,CH]
 |_=>rw[ch]at h; exact h.elim
end Go.AM
namespace Go.AM
open Go.RowKit
variable {P:Program} {T:TT} {X:ct} {o:Oper} {F:bj} {M:bA}
theorem bQ (N:Nat→Prop) (n:Nat) (b:bu):eT N [(n,b)]=xG N n:=by
 funext m
 simp only[eT,xG,List.mem_singleton,Prod.mk.injEq,exists_and_left,eq_iff_iff]
 constructor
 ·rintro (h|⟨h,_⟩)
  ·exact .inr h
  ·exact .inl h
 ·rintro (h|h)
  ·exact .inr ⟨h,b,rfl⟩
  ·exact .inl h
theorem cY.new {ρ:Place} {I:Nat→Prop} {M:bA} {N:Nat→Prop} {w:World} (hW:cY X ρ I M N w) {n:Nat} (hn:¬N n) (b:bu) (hm:b.mp=none) (cs:Array Value) (cap:Nat)
  (CT:∀e ∈ b.es,e.length=b.sz) (hlen:b.es.length≤cap) (hcap:cap≤maxLen) (hcs:cs.size=cap*b.sz)
  (ul:∀i j,i<b.es.length→j<b.sz→∃u,cs[i*b.sz+j]? =some u∧u.oneCell'=true∧aS ρ (lens M) I w N ((b.es.getD i []).getD j .bad) u):
  ∃ρ1,kY N ρ (lens M) I w ρ1 (lens (df M [(n,b)])) I (w.alloc (.cells cs b.ty))∧cY X ρ1 I (df M [(n,b)]) (eT N [(n,b)]) (w.alloc (.cells cs b.ty))∧ρ1 n=some (w.heap.size,cap)∧lens (df M [(n,b)]) n=some (b.es.length,b.sz):=by
 have ZM:=bu.db hm
 have hd:∀b0,M n=some b0→False:=fun b0 h0=>hn (hW.bg n b0 h0).lt
 obtain⟨E,W⟩:=hW.put (w':=w.alloc (.cells cs b.ty)) n b w.heap.size cap cs (0,0) rfl rfl rfl (by simp) (fun k hk _=>Below.heap_alloc w _ k hk) (by rw[hm]; exact heap_alloc_new w _) (fun o _ h=>by omega)
  (.inl (Nat.le_refl _)) (fun b0 h0=>(hd b0 h0).elim) (fun h=>(hn h).elim) CT hlen hcap hcs ul
 refine⟨gN ρ n (w.heap.size,cap),E,by rw[bQ]; exact W,by simp[gN],?_⟩
 show lens (cQ M n b) n=_
 rw[cH,if_pos rfl,ZM]
theorem mF {ρ:Place} {L:bn} {I:Nat→Prop} {w:World} {N:Nat→Prop} {a:AV} {v:Value} (h:aS ρ L I w N a v) (hs:bS a=true):
  v.cells.size=(cells a).length∧∀i j,i<1→j< (cells a).length→∃u,v.cells[i* (cells a).length+j]? =some u∧u.oneCell'=true∧aS ρ L I w N (([cells a].getD i []).getD j .bad) u:=by
 obtain⟨h1,h2,h3⟩:=nW h hs
 have N3:v.cells.size=(cells a).length:=by simpa using h1
 refine⟨N3,fun i j hi hj=> ?_⟩
 have:i=0:=by omega
 subst this
 have hj':j<v.cells.size:=by omega
 refine⟨v.cells[j],by simp[hj'],h2 _ (by simp),?_⟩
 have:=h3 j hj
 simpa[List.getD_eq_getElem?_getD,hj']using this
theorem oJ {n t:Nat} {a:AV} (hs:bS a=true)
  (h:∀M' N ρ I (ac:Act) w,cY X ρ I M' N w→(∀s ∈ dg o.op,aS ρ (lens M') I w N (look F s) (ac.tmps.getD s undef))→
    ∃v,(execOp ac.eval o).run P w= .ok (.value (.pointer (some ⟨w.heap.size,0,none⟩))) (w.alloc (.cells v.cells t))∧aS ρ (lens M') I w N a v):bP P X o F M (.loc n 1 0 0) [(n,⟨t,(cells a).length,[cells a],none⟩)] [n]:=by
 refine⟨fun p hp=> .inl (by simp at hp; simp[hp]),fun M' N ρ I ac w hW hU hN hF=> ?_⟩
 obtain⟨v,hrun,hr⟩:=h M' N ρ I ac w hW hU
 have hn:¬N n:=hF n (by simp)
 obtain⟨h1,h2⟩:=mF hr hs
 obtain⟨ρ1,E,W,hρ,hl⟩:=hW.new hn ⟨t,(cells a).length,[cells a],none⟩ rfl v.cells 1 (by simp) (by simp) (by simp[maxLen]) (by simpa using h1) (by simpa using h2)
 unfold bV
 rw[hrun]
 refine⟨ρ1,I,E,W,?_⟩
 have Gh:eT N [(n,(⟨t,(cells a).length,[cells a],none⟩:bu))] n:= .inr ⟨⟨t,(cells a).length,[cells a],none⟩,List.mem_singleton.2 rfl⟩
 have:=fS (I:=I) (w:=w.alloc (.cells v.cells t)) (i:=0) (off:=0) Gh hl hρ
 simp only[Nat.zero_mul,Nat.zero_add,List.length_singleton]at this
 exact this
theorem oK {t:TypeId} {v:Value} {w:World}:(newVar t v).run P w= .ok ⟨w.heap.size,0,none⟩ (w.alloc (.cells v.cells t)):=by
 simp[newVar,newRow]
theorem CX {n t:Nat} {x:Operand} (ho:o.op= .box t x) (hs:bS (ev F x)=true):
  bP P X o F M (.loc n 1 0 0) [(n,⟨t,(cells (ev F x)).length,[cells (ev F x)],none⟩)] [n]:=
 oJ hs (fun M' N ρ I ac w hW hU=>⟨ac.eval x,by simp[execOp,ho,Instr.box,oK],ay hU x (by simp[ho,Op.operands])⟩)
theorem xO (hT:dh P T) {n t:Nat} (ho:o.op= .alloc t) (hok:(T.d t).ok=true) (hs:bS (T.z t)=true):
  bP P X o F M (.loc n 1 0 0) [(n,⟨t,(cells (T.z t)).length,[cells (T.z t)],none⟩)] [n]:=by
 obtain⟨D,it,z,hD,hf,hi,hsz,_,hz,iU⟩:=hT t (TD.dG hok)
 refine oJ hs (fun M' N ρ I ac w hW hU=>⟨z,by simp[execOp,ho,Instr.alloc,oK,fm hi hz],?_⟩)
 rw[iU]; exact fk _ _ _ _ _ _
theorem ky (off q:Nat) (vs row:List AV) (h:off+vs.length≤row.length):
  (bO off vs row).getD q .bad=if off≤q∧q<off+vs.length then vs.getD (q - off) .bad else row.getD q .bad:=by
 unfold bO
 simp only[List.getD_eq_getElem?_getD]
 by_cases IF:off≤q∧q<off+vs.length
 ·rw[if_pos IF,List.getElem?_append_right (by simp; omega),List.length_take,Nat.min_eq_left (by omega),List.getElem?_append_left (by omega)]
 ·rw[if_neg IF]
  by_cases hlt:q<off
  ·rw[List.getElem?_append_left (by simp; omega),List.getElem?_take,if_pos hlt]
  ·rw[List.getElem?_append_right (by simp; omega),List.length_take,Nat.min_eq_left (by omega),List.getElem?_append_right (by omega),List.getElem?_drop]
   congr 2; omega
theorem qj (hT:dh P T) {t:Nat} {x y:Operand} {K:Mem→Prop} {Ml:Mem} (hM:M=ae Ml) (hok:(T.d t).ok=true) (ho:o.op= .store t x y) (h:xK T t (ev F x) (ev F y) Ml K):
  ∃n b,bP P X o F M (.aU []) [(n,b)] []∧n ∈ (ev F x).names∧K (fR Ml n b)∧(∃b0,M n=some b0∧b.ln=b0.ln∧b.sz=b0.sz):=by
 have hx:x ∈ o.op.operands.toList:=by simp[ho,Op.operands]
 have hy:y ∈ o.op.operands.toList:=by simp[ho,Op.operands]
 cases ch:ev F x with
 |loc n len i off=>
  rw[ch]at h
  simp only[xK,alive]at h
  cases hb:ae Ml n with
  |none=>rw[hb]at h; exact h.elim
  |some b=>
   rw[hb]at h
   obtain⟨hc1,hmp,h⟩:=aB h
   obtain⟨jK,hk⟩:=aB h
   have hl:b.ln=len:=by simpa using hc1
   simp only[Bool.and_eq_true,beq_iff_eq,Bool.not_eq_true']at jK
   obtain⟨⟨⟨hs,hlen⟩,hz⟩,hfit⟩:=jK
   obtain⟨sl,ee,er⟩:=bz (F:=F) x hx (n:=n) (by rw[ch]; simp[AV.names])
   refine⟨n,_,?_,by simp[AV.names],hk,b,by rw[hM]; exact hb,by rw[bu.db hmp]; simp[bu.ln],rfl⟩
   refine⟨fun p hp=> .inr ⟨sl,ee,by simp at hp; rw[hp]; exact er⟩,fun M' N ρ I a w hW hU hN _=> ?_⟩
   have r1:=ay hU x hx
   have r2:=ay hU y hy
   rw[ch]at r1
   have cy:M' n=some b:=(hN sl ee n er).trans (by rw[hM]; exact hb)
   have dJ:lens M' n=some (b.ln,b.sz):=by rw[aH]; exact⟨b,cy,rfl,rfl⟩
   rw[hl]at dJ
   obtain⟨hn,g,cap,hρ,hv⟩:=fq r1 dJ
   obtain⟨hcl,CY,TZ⟩:=nW r2 hs
   have B:=hW.bg n b cy
   obtain⟨cs,fr,hg,lX,pw,hown,hlc,lI,hcs,hc⟩:=B.real g cap hρ
   have hg:=hg.cells hmp
   have N5:=bu.db hmp
   obtain⟨D,it,z,hD,hf,hi,hsz,_⟩:=hT t (TD.dG hok)
   have hpos:0< (cells (ev F y)).length:=by
    have:T.s t≠0:=by simpa using hz
    omega
   have hi':i<b.es.length:=by
    rcases Nat.lt_or_ge i b.es.length with h|h
    ·exact h
    ·rw[List.getD_eq_getElem?_getD,List.getElem?_eq_none h]at hfit; simp at hfit; omega
   have hel:(b.es.getD i []).length=b.sz:=by
    rw[List.getD_eq_getElem?_getD,List.getElem?_eq_getElem hi',Option.getD_some]
    exact B.even _ (List.getElem_mem _)
   have hoff:off+ (cells (ev F y)).length≤b.sz:=by
    simp only[List.length_take,List.length_drop,hel]at hfit
    omega
   have hin:∀j,j<b.sz→i*b.sz+j<cs.size:=fun j hj=>by
    rw[hcs]
    calc i*b.sz+j<i*b.sz+b.sz:=by omega
     _=(i+1)*b.sz:=by rw[Nat.add_mul,Nat.one_mul]
     _≤cap*b.sz:=Nat.mul_le_mul_right _ (by omega)
   have mG:∀k,w.cell? ⟨g,k,none⟩=cs[k]? :=fun k=>by simp[World.cell?,hg]
   have T0:∀k,k<cs.size→w.frozen? ⟨g,k,none⟩=false:=fun k hk=>by
    have:=lX k hk
    simp only[World.frozen?,hg]
    simpa using this
   have hrun:(execOp a.eval o).run P w= .ok .skip (w.setCells g (i*b.sz+off) (a.eval y).cells.toList):=by
    have hst:=run_storeCells_cells (P:=P) g (i*b.sz+off) (a.eval y).cells.toList 0 w
     (fun j hj=>by
       rw[Nat.add_zero,mG,Nat.add_assoc,Array.getElem?_eq_getElem (hin (off+j) (by omega))]; rfl)
     (fun j hj=>by rw[Nat.add_zero,Nat.add_assoc]; exact T0 _ (hin (off+j) (by omega)))
     CY
    have hsize:(a.eval y).cells.size=it.size:=by rw[hsz,←hlen,←hcl]; simp
    simp only[execOp,ho,Instr.storeAt,hv,Instr.sureAddr,Sem.run_bind,Sem.run_pure,Result.andThen_ok,storeVar,bG hi,hsize,ne_eq,not_true_eq_false,if_false]
    rw[Nat.add_zero]at hst
    rw[hst]
    rfl
   obtain⟨cs',h1,h2,h3⟩:=gi g b.ty fr (a.eval y).cells.toList (i*b.sz+off) w cs hg (by rw[hcl]; have:=hin (b.sz - 1) (by omega); omega)
   have key:∀p q,p<b.es.length→q<b.sz→∃u,cs'[p*b.sz+q]? =some u∧u.oneCell'=true∧aS ρ (lens M') I w N (((b.es.set i (bO off (cells (ev F y)) (b.es.getD i []))).getD p []).getD q .bad) u:=by
    intro p q hp hq
    rw[h3,hcl]
    by_cases hpi:p=i
    ·subst hpi
     have e1:(b.es.set p (bO off (cells (ev F y)) (b.es.getD p []))).getD p []=bO off (cells (ev F y)) (b.es.getD p []):=by
      simp[List.getD_eq_getElem?_getD,hp]
     rw[e1,ky _ _ _ _ (by omega)]
     by_cases IF:off≤q∧q<off+ (cells (ev F y)).length
     ·rw[if_pos (by omega),if_pos IF]
      have e2:p*b.sz+q - (p*b.sz+off)=q - off:=by omega
      rw[e2]
      have JH:q - off< (a.eval y).cells.toList.length:=by rw[hcl]; omega
      refine⟨(a.eval y).cells.toList[q - off],List.getElem?_eq_getElem JH,CY _ (List.getElem_mem _),?_⟩
      have:=TZ (q - off) (by omega)
      rwa[List.getD_eq_getElem?_getD (l:=(a.eval y).cells.toList),List.getElem?_eq_getElem JH,Option.getD_some]at this
     ·rw[if_neg (by omega),if_neg IF]
      exact hc p q hp hq
    ·have e1:(b.es.set i (bO off (cells (ev F y)) (b.es.getD i []))).getD p []=b.es.getD p []:=by
      simp[List.getD_eq_getElem?_getD,List.getElem?_set,Ne.symm hpi]
     rw[e1]
     rw[if_neg]
     ·exact hc p q hp hq
     ·rintro⟨ha,hb'⟩
      rcases Nat.lt_or_gt_of_ne hpi with hlt|hgt
      ·have:(p+1)*b.sz≤i*b.sz:=Nat.mul_le_mul_right _ hlt
       rw[Nat.add_mul,Nat.one_mul]at this
       omega
      ·have:(i+1)*b.sz≤p*b.sz:=Nat.mul_le_mul_right _ hgt
       rw[Nat.add_mul,Nat.one_mul]at this
       omega
   have jr:∀b0,M' n=some b0→b0=b:=fun b0 h0=>by rw[cy]at h0; exact (Option.some.inj h0).symm
   obtain⟨E,W⟩:=hW.put (w':=w.setCells g (i*b.sz+off) (a.eval y).cells.toList) n ⟨b.ty,b.sz,b.es.set i (bO off (cells (ev F y)) (b.es.getD i [])),none⟩ g cap cs' fr
    (os_setCells _ _ _ _) (gj _ _ _ _) (gP _ _ _ _) (by rw[size_setCells]; exact Nat.le_refl _) (fun k _ hk=>dZ g _ _ _ _ hk) h1 (fun q hq=>lX q (by omega))
    (.inr ⟨cap,hρ,b,cy⟩) (fun b0 h0=>by rw[jr b0 h0,N5]; exact⟨rfl,by simp[bu.ln],fun _=>hρ⟩) (fun _=>⟨b,cy⟩)
    (fun e he=>by
      rcases List.mem_or_eq_of_mem_set he with he|rfl
      ·exact B.even e he
      ·show (bO _ _ _).length=b.sz
       unfold bO
       rw[List.length_append,List.length_append,List.length_take,List.length_drop,hel]; omega)
    (by simpa using hlc) lI (by rw[h2]; exact hcs) (by simpa using key)
   unfold bV
   rw[hrun]
   refine⟨gN ρ n (g,cap),I,E,by rw[bQ]; exact W,.aU [] [] rfl (fun j hj=>by simp at hj)⟩
 |_=>rw[ch]at h; exact h.elim
end Go.AM
namespace Go.AM
open Go.RowKit
variable {P:Program} {T:TT} {X:ct} {o:Oper} {F:bj} {M:bA}
def bw (ρ:Place) (L:bn) (I:Nat→Prop) (w:World) (N:Nat→Prop) (cs:List AV) (arr:Array Value):Prop:=
 arr.size=cs.length∧∀j,j<cs.length→∃u,arr[j]? =some u∧u.oneCell'=true∧aS ρ L I w N (cs.getD j .bad) u
theorem bw.agg {ρ:Place} {L:bn} {I:Nat→Prop} {w:World} {N:Nat→Prop} {cs:List AV} {arr:Array Value} (h:bw ρ L I w N cs arr):aS ρ L I w N (.agg cs) (.agg arr):=by
 have:arr=arr.toList.toArray:=by simp
 rw[this]
 refine .agg cs arr.toList (by simpa using h.1) (fun u hu=> ?_) (fun j hj=> ?_)
 ·obtain⟨j,hj,rfl⟩:=List.mem_iff_getElem.1 hu
  obtain⟨u,hu,h1,_⟩:=h.2 j (by have:=h.1; simp at hj; omega)
  have zH:arr.toList[j]? =some u:=by simpa using hu
  rw[List.getElem?_eq_getElem hj]at zH
  cases zH
  exact h1
 ·obtain⟨u,hu,_,hr⟩:=h.2 j hj
  have:arr.toList.getD j default=u:=by simp[List.getD_eq_getElem?_getD,hu]
  rw[this]; exact hr
theorem bw.eu {ρ:Place} {L:bn} {I:Nat→Prop} {w:World} {N:Nat→Prop} {a:AV} {v:Value} (h:aS ρ L I w N a v) (hs:bS a=true):bw ρ L I w N (cells a) v.cells:=by
 obtain⟨h1,h2⟩:=mF h hs
 refine⟨h1,fun j hj=> ?_⟩
 have:=h2 0 j (by omega) hj
 simpa using this
theorem iV (off:Nat):∀ (vs:List Value) (k:Nat) (arr:Array Value),off+k+vs.length≤arr.size→
  ((vs.zipIdx k).foldl (fun cs (p:Value × Nat)=>cs.setIfInBounds (off+p.2) p.1) arr).size=arr.size∧
  ∀q,((vs.zipIdx k).foldl (fun cs (p:Value × Nat)=>cs.setIfInBounds (off+p.2) p.1) arr)[q]? =if off+k≤q∧q<off+k+vs.length then vs[q - (off+k)]? else arr[q]?
 |[],k,arr,_=>⟨rfl,fun q=>by rw[if_neg (by simp)]; rfl⟩
 |v::r,k,arr,h=>by
  simp only[List.zipIdx_cons,List.foldl_cons]
  obtain⟨h1,h2⟩:=iV off r (k+1) (arr.setIfInBounds (off+k) v) (by simp at h ⊢; omega)
  refine⟨by rw[h1]; simp,fun q=> ?_⟩
  rw[h2]
  simp only[List.length_cons]at h ⊢
  by_cases hq:q=off+k
  ·subst hq
   rw[if_neg (by omega),if_pos (by omega)]
   simp[Array.getElem?_setIfInBounds]; omega
  ·by_cases ur:off+ (k+1)≤q∧q<off+ (k+1)+r.length
   ·rw[if_pos ur,if_pos (by omega)]
    have:q - (off+k)=(q - (off+ (k+1)))+1:=by omega
    rw[this]; simp
   ·rw[if_neg ur,if_neg (by omega)]
    simp[Array.getElem?_setIfInBounds]
    intro e; omega
theorem bw.part {ρ:Place} {L:bn} {I:Nat→Prop} {w:World} {N:Nat→Prop} {cs vs:List AV} {arr nY:Array Value} (h:bw ρ L I w N cs arr) (hv:bw ρ L I w N vs nY) (off:Nat) (hfit:off+vs.length≤cs.length):
  bw ρ L I w N (bO off vs cs) (nY.zipIdx.foldl (fun cs (p:Value × Nat)=>cs.setIfInBounds (off+p.2) p.1) arr):=by
 have e:nY.zipIdx.foldl (fun cs (p:Value × Nat)=>cs.setIfInBounds (off+p.2) p.1) arr=(nY.toList.zipIdx 0).foldl (fun cs (p:Value × Nat)=>cs.setIfInBounds (off+p.2) p.1) arr:=by
  rw[←Array.foldl_toList,Array.toList_zipIdx]
 rw[e]
 have hl:nY.toList.length=vs.length:=by simpa using hv.1
 obtain⟨h1,h2⟩:=iV off nY.toList 0 arr (by have:=h.1; omega)
 have ee:(bO off vs cs).length=cs.length:=by
  unfold bO
  rw[List.length_append,List.length_append,List.length_take,List.length_drop]; omega
 refine⟨by rw[h1,ee]; exact h.1,fun j hj=> ?_⟩
 rw[ee]at hj
 rw[h2,ky _ _ _ _ hfit,hl]
 simp only[Nat.add_zero]
 by_cases hr:off≤j∧j<off+vs.length
 ·rw[if_pos hr,if_pos hr]
  obtain⟨u,hu,h3⟩:=hv.2 (j - off) (by omega)
  exact⟨u,by simpa using hu,h3⟩
 ·rw[if_neg hr,if_neg hr]
  exact h.2 j hj
theorem qk {ρ:Place} {L:bn} {I:Nat→Prop} {w:World} {N:Nat→Prop} {place:Nat→Option (Nat × Nat)} {i off size:Nat} {v:Value} {a:AV} {rest:List (Nat × Value)} {cs:List AV} {arr:Array Value}
  (hp:place i=some (off,size)) (hv:bw ρ L I w N (cells a) v.cells) (hl:(cells a).length=size) (hfit:off+ (cells a).length≤cs.length) (hc:bw ρ L I w N cs arr):
  ∃fT,bw ρ L I w N (bO off (cells a) cs) fT∧Instr.fill place arr ((i,v)::rest)=Instr.fill place fT rest:=by
 refine⟨_,hc.part hv off hfit,?_⟩
 have h1:v.cells.size=size:=by rw[hv.1,hl]
 have h2:¬off+v.cells.size>arr.size:=by rw[hv.1,hc.1]; omega
 have h3:¬ (v.cells.size≠size∨off+v.cells.size>arr.size):=by
  rintro (h|h)
  ·exact h h1
  ·exact h2 h
 simp only[Instr.fill,hp,Bool.or_eq_true,decide_eq_true_eq,if_neg h3]
theorem sR {cs:List AV} {off n:Nat} (h:((cs.drop off).take n).length=n):off+n≤cs.length∨n=0:=by
 simp at h; omega
theorem sS {size:Nat→Nat} {fs:List (Nat × Nat)} {K:List AV→Prop}:∀ (ps:List (Nat × Operand)) (cs:List AV),mC size fs (nP F ps) cs K→∃cs',mC size fs (nP F ps) cs (fun x=>x=cs')∧K cs'
 |[],cs,h=>⟨cs,rfl,h⟩
 |(i,x)::r,cs,h=>by
  simp only[nP,mC]at h ⊢
  cases hf:fs[i]? with
  |none=>rw[hf]at h; exact h.elim
  |some q=>
   rw[hf]at h
   obtain⟨hc1,h⟩:=aB h
   obtain⟨cs',h1,h2⟩:=sS r _ h
   exact⟨cs',aI hc1 h1,h2⟩
theorem sT {sz:Nat} {K:List AV→Prop}:∀ (ps:List (Nat × Operand)) (cs:List AV),mD sz (nP F ps) cs K→∃cs',mD sz (nP F ps) cs (fun x=>x=cs')∧K cs'
 |[],cs,h=>⟨cs,rfl,h⟩
 |(i,x)::r,cs,h=>by
  simp only[nP,mD]at h ⊢
  obtain⟨hc1,h⟩:=aB h
  obtain⟨cs',h1,h2⟩:=sT r _ h
  exact⟨cs',aI hc1 h1,h2⟩
theorem oL {ρ:Place} {L:bn} {I:Nat→Prop} {w:World} {N:Nat→Prop} {a:Act} {size:Nat→Nat} {fs:List (Nat × Nat)} {place:Nat→Option (Nat × Nat)}
  (hp:∀i off t,fs[i]? =some (off,t)→place i=some (off,size t)) {K:List AV→Prop}:∀ (ps:List (Nat × Operand)) (cs:List AV),(∀p ∈ ps,aS ρ L I w N (ev F p.2) (a.eval p.2))→
  mC size fs (nP F ps) cs K→∃cs',K cs'∧∀arr,bw ρ L I w N cs arr→∃fT,bw ρ L I w N cs' fT∧Instr.fill place arr (ps.map fun p=>(p.1,a.eval p.2))=some fT
 |[],cs,_,h=>⟨cs,h,fun arr hc=>⟨arr,hc,rfl⟩⟩
 |(i,x)::r,cs,hr,h=>by
  simp only[nP,mC]at h
  cases hf:fs[i]? with
  |none=>rw[hf]at h; exact h.elim
  |some q=>
   obtain⟨off,t⟩:=q
   rw[hf]at h
   obtain⟨hc1,h⟩:=aB h
   simp only[Bool.and_eq_true,beq_iff_eq,Bool.not_eq_true',beq_eq_false_iff_ne]at hc1
   obtain⟨⟨⟨hs,T1⟩,hl⟩,hfit⟩:=hc1
   obtain⟨cs',hk,hall⟩:=oL hp r _ (fun p hp=>hr p (List.mem_cons_of_mem _ hp)) h
   refine⟨cs',hk,fun arr hc=> ?_⟩
   have hv:=bw.eu (hr (i,x) List.mem_cons_self) hs
   obtain⟨sg,ha1,ha2⟩:=qk (rest:=r.map fun p=>(p.1,a.eval p.2)) (hp i off t hf) hv hl (by rcases sR hfit with h|h; exact h; exact (T1 h).elim) hc
   obtain⟨fT,CG,T2⟩:=hall sg ha1
   exact⟨fT,CG,by rw[List.map_cons,ha2]; exact T2⟩
theorem oM {ρ:Place} {L:bn} {I:Nat→Prop} {w:World} {N:Nat→Prop} {a:Act} {sz:Nat} {K:List AV→Prop}:∀ (ps:List (Nat × Operand)) (cs:List AV),(∀p ∈ ps,aS ρ L I w N (ev F p.2) (a.eval p.2))→
  mD sz (nP F ps) cs K→∃cs',K cs'∧∀arr,bw ρ L I w N cs arr→∃fT,bw ρ L I w N cs' fT∧Instr.fill (fun i=>some (i*sz,sz)) arr (ps.map fun p=>(p.1,a.eval p.2))=some fT
 |[],cs,_,h=>⟨cs,h,fun arr hc=>⟨arr,hc,rfl⟩⟩
 |(i,x)::r,cs,hr,h=>by
  simp only[nP,mD]at h
  obtain⟨hc1,h⟩:=aB h
  simp only[Bool.and_eq_true,beq_iff_eq,Bool.not_eq_true',beq_eq_false_iff_ne]at hc1
  obtain⟨⟨⟨hs,T1⟩,hl⟩,hfit⟩:=hc1
  obtain⟨cs',hk,hall⟩:=oM r _ (fun p hp=>hr p (List.mem_cons_of_mem _ hp)) h
  refine⟨cs',hk,fun arr hc=> ?_⟩
  have hv:=bw.eu (hr (i,x) List.mem_cons_self) hs
  obtain⟨sg,ha1,ha2⟩:=qk (place:=fun i=>some (i*sz,sz)) (i:=i) (off:=i*sz) (size:=sz) (rest:=r.map fun p=>(p.1,a.eval p.2)) rfl hv hl (by rcases sR hfit with h|h; exact h; exact (T1 h).elim) hc
  obtain⟨fT,CG,T2⟩:=hall sg ha1
  exact⟨fT,CG,by rw[List.map_cons,ha2]; exact T2⟩
theorem oN (hT:dh P T):∀ (gs:List Field),CV T.d (gs.map fun f=>(f.offset,f.type))=true→
  gs.mapM (fun f=>(P.info? f.type).map fun i=>(f.offset,i.size))=some (gs.map fun f=>(f.offset,T.s f.type))
 |[],_=>rfl
 |f::r,h=>by
  simp only[List.map_cons,CV,Bool.and_eq_true]at h
  obtain⟨D,i,z,_,_,hi,hs,_⟩:=hT f.type (TD.dG h.1)
  have ih:=oN hT r h.2
  simp[List.mapM_cons,hi,hs,ih]
theorem xP (hT:dh P T) {t:Nat} {ps:Array (Nat × Operand)} {K:AV→Prop} (ho:o.op= .build t ps) (h:xI T t (nP F ps.toList) K):∃av,bP P X o F M av [] []∧K av:=by
 have xQ:∀p ∈ ps.toList,p.2 ∈ o.op.operands.toList:=fun p hp=>by
  simp only[ho,Op.operands]
  exact List.mem_map.2 ⟨p,hp,rfl⟩
 unfold xI at h
 cases ht:T.d t with
 |struct fs=>
  rw[ht]at h
  simp only at h
  obtain⟨hc,h⟩:=aB h
  simp only[Bool.and_eq_true,beq_iff_eq]at hc
  obtain⟨⟨SU,mH⟩,hlen⟩:=hc
  obtain⟨D,it,z,hD,hf,hi,hsz,_,hz,iU⟩:=hT t (by rw[ht]; simp)
  obtain⟨gs,rfl,JI⟩:=iS ht hf
  have IG:∀ (i off t':Nat),fs[i]? =some (off,t')→((gs.toList.map fun f=>(f.offset,T.s f.type)).toArray[i]?)=some (off,T.s t'):=by
   intro i off t' hi'
   rw[JI,List.getElem?_map]at hi'
   cases hg:gs.toList[i]? with
   |none=>simp[hg]at hi'
   |some g=>
    simp only[hg,Option.map_some,Option.some.injEq,Prod.mk.injEq]at hi'
    have r4:gs[i]? =some g:=by simpa using hg
    simp[r4,hi'.1,hi'.2]
  have Nz:∃cs',K (.agg cs')∧∀ρ L I w N (a:Act),(∀p ∈ ps.toList,aS ρ L I w N (ev F p.2) (a.eval p.2))→∀arr,bw ρ L I w N (cells (T.z t)) arr→∃fT,bw ρ L I w N cs' fT∧
    Instr.fill ((gs.toList.map fun f=>(f.offset,T.s f.type)).toArray[·]?) arr (ps.toList.map fun p=>(p.1,a.eval p.2))=some fT:=by
   obtain⟨cs',hcs,hk⟩:=sS (K:=fun cs=>K (.agg cs)) ps.toList _ h
   refine⟨cs',hk,fun ρ L I w N a hr arr hc=> ?_⟩
   obtain⟨T4,h1,h2⟩:=oL (place:=fun i=>((gs.toList.map fun f=>(f.offset,T.s f.type)).toArray[i]?)) IG ps.toList _ hr hcs
   subst h1
   exact h2 arr hc
  obtain⟨cs',hk,hall⟩:=Nz
  refine⟨.agg cs',aJ fun M' N ρ I a w hW hU hN=> ?_,hk⟩
  have hr:∀p ∈ ps.toList,aS ρ (lens M') I w N (ev F p.2) (a.eval p.2):=fun p hp=>ay hU _ (xQ p hp)
  obtain⟨fT,ha1,ha2⟩:=hall ρ (lens M') I w N a hr z.cells (by rw[iU]; exact bw.eu (fk _ _ _ _ _ z) (by rw[←iU]; exact mH))
  refine⟨.agg fT,?_,ha1.agg⟩
  have hb:P.built t (ps.map fun (i,x)=>(i,a.eval x)).toList=some fT:=by
   unfold Program.built
   simp only[hi,hD,hz,oN hT gs.toList (by rw[←JI]; exact SU),Array.toList_map]
   exact ha2
  simp only[execOp,ho,Sem.run_bind,run_build w t _ _ hb,Result.andThen_ok,Sem.run_pure]
 |arr m e=>
  rw[ht]at h
  simp only at h
  obtain⟨hc,h⟩:=aB h
  simp only[Bool.and_eq_true,beq_iff_eq]at hc
  obtain⟨⟨hok,mH⟩,hlen⟩:=hc
  obtain⟨D,it,z,hD,hf,hi,hsz,_,hz,iU⟩:=hT t (by rw[ht]; simp)
  have gA:=fu ht hf
  subst gA
  obtain⟨_,ie,_,_,_,hie,k9,_⟩:=hT e (TD.dG hok)
  obtain⟨cs',hcs,hk⟩:=sT (K:=fun cs=>K (.agg cs)) ps.toList _ h
  refine⟨.agg cs',aJ fun M' N ρ I a w hW hU hN=> ?_,hk⟩
  have hr:∀p ∈ ps.toList,aS ρ (lens M') I w N (ev F p.2) (a.eval p.2):=fun p hp=>ay hU _ (xQ p hp)
  obtain⟨T4,h1,h2⟩:=oM ps.toList _ hr hcs
  subst h1
  obtain⟨fT,ha1,ha2⟩:=h2 z.cells (by rw[iU]; exact bw.eu (fk _ _ _ _ _ z) (by rw[←iU]; exact mH))
  refine⟨.agg fT,?_,ha1.agg⟩
  have hb:P.built t (ps.map fun (i,x)=>(i,a.eval x)).toList=some fT:=by
   unfold Program.built
   simp only[hi,hD,hz,hie,k9,Array.toList_map]
   exact ha2
  simp only[execOp,ho,Sem.run_bind,run_build w t _ _ hb,Result.andThen_ok,Sem.run_pure]
 |_=>rw[ht]at h; exact h.elim
end Go.AM
namespace Go.AM
open Go.RowKit
variable {P:Program} {T:TT} {X:ct} {o:Oper} {F:bj} {M:bA}
def ii (ρ:Place) (L:bn) (I:Nat→Prop) (w:World) (N:Nat→Prop) (sz:Nat) (es:List (List AV)) (arr:Array Value):Prop:=
 es.length*sz≤arr.size∧(∀e ∈ es,e.length=sz)∧∀i j,i<es.length→j<sz→∃u,arr[i*sz+j]? =some u∧u.oneCell'=true∧aS ρ L I w N ((es.getD i []).getD j .bad) u
theorem ii.set {ρ:Place} {L:bn} {I:Nat→Prop} {w:World} {N:Nat→Prop} {sz:Nat} {es:List (List AV)} {arr nY:Array Value} {vs:List AV} {i:Nat} (h:ii ρ L I w N sz es arr) (hi:i<es.length)
  (hv:bw ρ L I w N vs nY) (hl:vs.length=sz):ii ρ L I w N sz (es.set i vs) (nY.zipIdx.foldl (fun cs (p:Value × Nat)=>cs.setIfInBounds (i*sz+p.2) p.1) arr):=by
 have e:nY.zipIdx.foldl (fun cs (p:Value × Nat)=>cs.setIfInBounds (i*sz+p.2) p.1) arr=(nY.toList.zipIdx 0).foldl (fun cs (p:Value × Nat)=>cs.setIfInBounds (i*sz+p.2) p.1) arr:=by
  rw[←Array.foldl_toList,Array.toList_zipIdx]
 rw[e]
 obtain⟨h1,h2,h3⟩:=h
 have hvl:nY.toList.length=sz:=by have:=hv.1; simp; omega
 have hb:i*sz+sz≤es.length*sz:=by
  have:(i+1)*sz≤es.length*sz:=Nat.mul_le_mul_right _ hi
  rwa[Nat.add_mul,Nat.one_mul]at this
 obtain⟨g1,g2⟩:=iV (i*sz) nY.toList 0 arr (by rw[hvl]; omega)
 refine⟨by rw[g1]; simpa using h1,fun e he=> ?_,fun p q hp hq=> ?_⟩
 ·rcases List.mem_or_eq_of_mem_set he with he|rfl
  ·exact h2 e he
  ·exact hl
 ·rw[g2,hvl]
  simp only[Nat.add_zero]
  simp only[List.length_set]at hp
  by_cases hpi:p=i
  ·subst hpi
   rw[if_pos (by omega)]
   have:(es.set p vs).getD p []=vs:=by simp[List.getD_eq_getElem?_getD,hp]
   rw[this]
   have e2:p*sz+q - p*sz=q:=by omega
   rw[e2]
   obtain⟨u,hu,hr⟩:=hv.2 q (by omega)
   exact⟨u,by simpa using hu,hr⟩
  ·rw[if_neg]
   ·have:(es.set i vs).getD p []=es.getD p []:=by simp[List.getD_eq_getElem?_getD,List.getElem?_set,Ne.symm hpi]
    rw[this]
    exact h3 p q hp hq
   ·rintro⟨ha,hb'⟩
    rcases Nat.lt_or_gt_of_ne hpi with hlt|hgt
    ·have:(p+1)*sz≤i*sz:=Nat.mul_le_mul_right _ hlt
     rw[Nat.add_mul,Nat.one_mul]at this
     omega
    ·have:(i+1)*sz≤p*sz:=Nat.mul_le_mul_right _ hgt
     rw[Nat.add_mul,Nat.one_mul]at this
     omega
theorem sU {sz:Nat} {K:List (List AV)→Prop}:∀ (ps:List (Nat × Operand)) (es:List (List AV)),j9 sz (nP F ps) es K→∃es',j9 sz (nP F ps) es (fun x=>x=es')∧K es'
 |[],es,h=>⟨es,rfl,h⟩
 |(i,x)::r,es,h=>by
  simp only[nP,j9]at h ⊢
  obtain⟨hc1,h⟩:=aB h
  obtain⟨es',h1,h2⟩:=sU r _ h
  exact⟨es',aI hc1 h1,h2⟩
theorem oO {ρ:Place} {L:bn} {I:Nat→Prop} {w:World} {N:Nat→Prop} {a:Act} {sz:Nat} {K:List (List AV)→Prop}:∀ (ps:List (Nat × Operand)) (es:List (List AV)),(∀p ∈ ps,aS ρ L I w N (ev F p.2) (a.eval p.2))→
  j9 sz (nP F ps) es K→∃es',K es'∧es'.length=es.length∧∀arr,arr.size=es.length*sz→ii ρ L I w N sz es arr→∃fT,fT.size=arr.size∧ii ρ L I w N sz es' fT∧Instr.fill (fun i=>some (i*sz,sz)) arr (ps.map fun p=>(p.1,a.eval p.2))=some fT
 |[],es,_,h=>⟨es,h,rfl,fun arr _ hc=>⟨arr,rfl,hc,rfl⟩⟩
 |(i,x)::r,es,hr,h=>by
  simp only[nP,j9]at h
  obtain⟨hc1,h⟩:=aB h
  simp only[Bool.and_eq_true,beq_iff_eq]at hc1
  obtain⟨⟨hs,hl⟩,hfit⟩:=hc1
  obtain⟨es',hk,hle,hall⟩:=oO r _ (fun p hp=>hr p (List.mem_cons_of_mem _ hp)) h
  refine⟨es',hk,by simpa using hle,fun arr hsz hc=> ?_⟩
  have hi:i<es.length:=by simp at hfit; omega
  have hv:=bw.eu (hr (i,x) List.mem_cons_self) hs
  have h1:(a.eval x).cells.size=sz:=by have:=hv.1; simp at this; omega
  have hb:i*sz+sz≤es.length*sz:=by
   have:(i+1)*sz≤es.length*sz:=Nat.mul_le_mul_right _ hi
   rwa[Nat.add_mul,Nat.one_mul]at this
  have h3:¬ ((a.eval x).cells.size≠sz∨i*sz+ (a.eval x).cells.size>arr.size):=by
   rintro (h|h)
   ·exact h h1
   ·omega
  have Gi:=hc.set hi hv hl
  have N6:((a.eval x).cells.zipIdx.foldl (fun cs (p:Value × Nat)=>cs.setIfInBounds (i*sz+p.2) p.1) arr).size=arr.size:=by
   rw[←Array.foldl_toList,Array.toList_zipIdx]
   exact (iV (i*sz) _ 0 arr (by simp; omega)).1
  obtain⟨fT,ha0,ha1,ha2⟩:=hall _ (by rw[N6]; simpa using hsz) Gi
  refine⟨fT,ha0.trans N6,ha1,?_⟩
  simp only[List.map_cons,Instr.fill,Bool.or_eq_true,decide_eq_true_eq,if_neg h3]
  exact ha2
theorem ii.CZ {ρ:Place} {L:bn} {I:Nat→Prop} {w:World} {N:Nat→Prop} {z:Value} {a:AV} {sz n:Nat} (h:bw ρ L I w N (cells a) z.cells) (hl:(cells a).length=sz) (hpos:sz≠0):
  ii ρ L I w N sz (List.replicate n (cells a)) ((Array.range (n*sz)).map (z.cells[· % z.cells.size]!)):=by
 have hz:z.cells.size=sz:=by rw[h.1,hl]
 refine⟨by simp,fun e he=>by rw[(List.mem_replicate.1 he).2]; exact hl,fun i j hi hj=> ?_⟩
 simp only[List.length_replicate]at hi
 have hlt:i*sz+j<n*sz:=by
  have:(i+1)*sz≤n*sz:=Nat.mul_le_mul_right _ hi
  rw[Nat.add_mul,Nat.one_mul]at this
  omega
 have T5:(i*sz+j) % z.cells.size=j:=by
  rw[hz,Nat.add_comm,Nat.mul_comm,Nat.add_mul_mod_self_left]
  exact Nat.mod_eq_of_lt hj
 obtain⟨u,hu,h1,hr⟩:=h.2 j (by omega)
 refine⟨u,?_,h1,?_⟩
 ·have hj':j<z.cells.size:=by omega
  have zH:z.cells[j]=u:=by rw[Array.getElem?_eq_getElem hj']at hu; exact Option.some.inj hu
  simp[hlt,T5,hj',zH]
 ·have:(List.replicate n (cells a)).getD i []=cells a:=by simp[List.getD_eq_getElem?_getD,hi]
  rw[this]; exact hr
theorem oP {n e len cap sz:Nat} {es:List (List AV)} (hlen:es.length=len)
  (h:∀M' N ρ I (ac:Act) w,cY X ρ I M' N w→(∀s ∈ dg o.op,aS ρ (lens M') I w N (look F s) (ac.tmps.getD s undef))→
    ∃arr,(execOp ac.eval o).run P w= .ok (.value (.slice (some ⟨w.heap.size,0,none⟩) len cap)) (w.alloc (.cells arr e))∧arr.size=cap*sz∧len≤cap∧cap≤maxLen∧ii ρ (lens M') I w N sz es arr):bP P X o F M (.bh n len) [(n,⟨e,sz,es,none⟩)] [n]:=by
 refine⟨fun p hp=> .inl (by simp at hp; simp[hp]),fun M' N ρ I ac w hW hU hN hF=> ?_⟩
 obtain⟨arr,hrun,h1,h2,h3,h4⟩:=h M' N ρ I ac w hW hU
 have hn:¬N n:=hF n (by simp)
 obtain⟨ρ1,E,W,hρ,hl⟩:=hW.new hn ⟨e,sz,es,none⟩ rfl arr cap h4.2.1 (by simpa using hlen ▸ h2) h3 h1 h4.2.2
 unfold bV
 rw[hrun]
 have Gh:eT N [(n,(⟨e,sz,es,none⟩:bu))] n:= .inr ⟨_,List.mem_singleton.2 rfl⟩
 refine⟨ρ1,I,E,W,?_⟩
 exact jL Gh (hlen ▸ hl) hρ
theorem pz (hT:dh P T) {n t len:Nat} {ps:Array (Nat × Operand)} {e:Nat} {es:List (List AV)} (ho:o.op= .buildSlice t len ps) (ht:T.d t= .slice e) (hok:(T.d e).ok=true)
  (hs:bS (T.z e)=true) (hl:(cells (T.z e)).length=T.s e) (hz:T.s e≠0) (hb:len*T.s e≤16777216) (h:j9 (T.s e) (nP F ps.toList) (List.replicate len (cells (T.z e))) (fun x=>x=es)):bP P X o F M (.bh n len) [(n,⟨e,T.s e,es,none⟩)] [n]∧es.length=len:=by
 have xQ:∀p ∈ ps.toList,p.2 ∈ o.op.operands.toList:=fun p hp=>by
  simp only[ho,Op.operands]
  exact List.mem_map.2 ⟨p,hp,rfl⟩
 obtain⟨D,it,z,hD,hf,hi,hsz,_⟩:=hT t (by rw[ht]; simp)
 have gA:=bZ ht hf
 subst gA
 obtain⟨_,ie,ze,_,_,hie,k9,_,JJ,iU⟩:=hT e (TD.dG hok)
 have hlen:es.length=len:=by
  clear xQ
  have:∀ (ps:List (Nat × Operand)) (mI:List (List AV)),j9 (T.s e) (nP F ps) mI (fun x=>x=es)→es.length=mI.length:=by
   intro ps
   induction ps with
   |nil=>intro mI h; simp only[nP,j9]at h; rw[h]
   |cons p r ih=>
    intro mI h
    obtain⟨i,x⟩:=p
    simp only[nP,j9]at h
    obtain⟨_,h⟩:=aB h
    simpa using ih _ h
  simpa using this ps.toList _ h
 refine⟨oP (cap:=len) hlen (fun M' N ρ I a w hW hU=> ?_),hlen⟩
 have hr:∀p ∈ ps.toList,aS ρ (lens M') I w N (ev F p.2) (a.eval p.2):=fun p hp=>ay hU _ (xQ p hp)
 obtain⟨es',h1,h2,h3⟩:=oO (ρ:=ρ) (L:=lens M') (I:=I) (w:=w) (N:=N) (a:=a) ps.toList _ hr h
 subst h1
 have hc:bw ρ (lens M') I w N (cells (T.z e)) ze.cells:=by rw[iU]; exact bw.eu (fk _ _ _ _ _ ze) (by rw[←iU]; exact hs)
 obtain⟨arr,ha0,ha1,ha2⟩:=h3 ((Array.range (len*T.s e)).map (ze.cells[· % ze.cells.size]!)) (by simp) (ii.CZ hc hl hz)
 have hmax:len≤maxLen:=by
  have:len*1≤len*T.s e:=Nat.mul_le_mul_left _ (by omega)
  simp only[maxLen]; omega
 refine⟨arr,?_,by rw[ha0]; simp,Nat.le_refl _,hmax,ha1⟩
 have Yw:¬len*ie.size>2 ^ 24:=by rw[k9]; omega
 have C0:Instr.fill (fun i=>some (i*ie.size,ie.size)) ((Array.range (len*ie.size)).map (ze.cells[· % ze.cells.size]!)) (ps.map fun p=>(p.1,a.eval p.2)).toList=some arr:=by
  rw[k9,Array.toList_map]; exact ha2
 by_cases h0:len*ie.size=0
 ·have hl0:len=0:=by
   rcases Nat.mul_eq_zero.1 h0 with h|h
   ·exact h
   ·rw[k9]at h; exact (hz h).elim
  subst hl0
  have e0:∀f:Nat→Value,(Array.range (0*ie.size)).map f= #[]:=fun f=>by rw[Nat.zero_mul]; exact Array.eq_empty_of_size_eq_zero (by simp)
  rw[e0]at C0
  have ut:Instr.fill (fun i=>some (i*ie.size,ie.size)) #[] (ps.toList.map fun p=>(p.1,a.eval p.2))=some arr:=by
   rw[←C0,Array.toList_map]
  simp only[execOp,ho,Instr.buildSlice,Sem.run_bind,run_underlying hD,Result.andThen_ok,bG hie,if_neg Yw,if_pos h0,Sem.run_pure,Array.toList_map,e0,ut,newRow,run_newObj,World.alloc_eq]
 ·have ut:Instr.fill (fun i=>some (i*ie.size,ie.size)) ((Array.range (len*ie.size)).map (ze.cells[· % ze.cells.size]!)) (ps.toList.map fun p=>(p.1,a.eval p.2))=some arr:=by simpa using C0
  simp only[execOp,ho,Instr.buildSlice,Sem.run_bind,run_underlying hD,Result.andThen_ok,bG hie,if_neg Yw,if_neg h0,fm hie JJ,Sem.run_pure,Array.toList_map,ut,newRow,run_newObj,World.alloc_eq]
end Go.AM
namespace Go.AM
open Go.RowKit
variable {P:Program} {T:TT} {X:ct} {o:Oper} {F:bj} {M:bA}
theorem vE {op:BinOp} {t:TypeId} {x y:Operand} {k k':IntKind} {a b:Int} {w:World}:(eqGuard op t x y (.int k a) (.int k' b)).run P w= .ok () w:=by
 unfold eqGuard
 cases op<;>simp
theorem C1 {op:BinOp} {xt yt:TypeId} {x y:Operand} {K:AV→Prop} (ho:o.op= .binOp op xt x y yt) (h:Gf op (ev F x) (ev F y) K):∃av,bP P X o F M av [] []∧K av:=by
 have hx:x ∈ o.op.operands.toList:=by simp[ho,Op.operands]
 have hy:y ∈ o.op.operands.toList:=by simp[ho,Op.operands]
 cases ch:ev F x with
 |int k a=>
  cases NA:ev F y with
  |int k' b=>
   rw[ch,NA]at h
   have go:∀av v,(∀ρ L I w N,aS ρ L I w N av v)→(∀w,(binOp op xt (.int k a) (.int k' b)).run P w= .ok v w)→K av→∃av,bP P X o F M av [] []∧K av:=by
    intro av v hr hrun hk
    refine⟨av,aJ fun M' N ρ I ac w hW hU hN=>⟨v,?_,hr _ _ _ _ _⟩,hk⟩
    have r1:=bH (ch ▸ ay hU x hx)
    have r2:=bH (NA ▸ ay hU y hy)
    simp only[execOp,ho,r1,r2,Sem.run_bind,vE,Result.andThen_ok,hrun,Sem.run_pure]
   have NB:∀n,(∀w,(binOp op xt (.int k a) (.int k' b)).run P w= .ok (.int k n) w)→K (.int k n)→∃av,bP P X o F M av [] []∧K av:=fun n=>go _ _ (fun _ _ _ _ _=> .int _ _)
   have ZN:∀t,(∀w,(binOp op xt (.int k a) (.int k' b)).run P w= .ok (.bool t) w)→K (.bool t)→∃av,bP P X o F M av [] []∧K av:=fun n=>go _ _ (fun _ _ _ _ _=> .bool _)
   clear go
   cases op<;>simp only[Gf]at h
   case shl=>
    have:¬b<0:=by omega
    exact NB _ (fun w=>by simp[binOp,Op.shift,this,qb]) h.2
   case shr=>
    have:¬b<0:=by omega
    exact NB _ (fun w=>by simp[binOp,Op.shift,this,fi]) h.2
   case quo=>
    obtain⟨h0,h1⟩:=h
    obtain⟨hk,h2⟩:=aB h1
    have hk:=hY hk; subst hk
    exact NB _ (fun w=>by simp[binOp,Op.intDiv,h0,wr]) h2
   case rem=>
    obtain⟨h0,h1⟩:=h
    obtain⟨hk,h2⟩:=aB h1
    have hk:=hY hk; subst hk
    exact NB _ (fun w=>by simp[binOp,Op.intDiv,h0]) h2
   all_goals
    obtain⟨hk,h2⟩:=aB h
    have hk:=hY hk; subst hk
    first
     |(refine NB _ (fun w=> ?_) h2; simp[binOp,Op.intArith,wr]; done)
     |(refine NB _ (fun w=> ?_) h2; simp only[binOp,ne_eq,not_true_eq_false,if_false]; rfl)
     |(refine ZN _ (fun w=> ?_) h2; simp[binOp,Op.intCmp]; done)
  |_=>rw[ch,NA]at h; cases op<;>exact h.elim
 |_=>rw[ch]at h; cases op<;>exact h.elim
theorem Gj {op:UnOp} {xt:TypeId} {x:Operand} {K:AV→Prop} (ho:o.op= .unOp op xt x) (h:NY op (ev F x) K):∃av,bP P X o F M av [] []∧K av:=by
 have hx:x ∈ o.op.operands.toList:=by simp[ho,Op.operands]
 cases ch:ev F x with
 |int k n=>
  rw[ch]at h
  cases op<;>simp only[NY]at h
  ·refine⟨_,aJ fun M' N ρ I ac w hW hU hN=>⟨.int k (wr k (0 - n)),?_,.int _ _⟩,h⟩
   have r1:=bH (ch ▸ ay hU x hx)
   simp[execOp,ho,r1,Op.unary,Op.intArith,wr]
  ·refine⟨_,aJ fun M' N ρ I ac w hW hU hN=>⟨.int k (eE .xor k (if k.signed then -1 else k.max) n),?_,.int _ _⟩,h⟩
   have r1:=bH (ch ▸ ay hU x hx)
   simp[execOp,ho,r1,Op.unary,Op.intBits,eE]
 |bool b=>
  rw[ch]at h
  cases op<;>simp only[NY]at h
  refine⟨_,aJ fun M' N ρ I ac w hW hU hN=>⟨.bool !b,?_,.bool _⟩,h⟩
  have r1:=fA (ch ▸ ay hU x hx)
  simp[execOp,ho,r1,Op.unary]
 |_=>rw[ch]at h; cases op<;>exact h.elim
theorem run_convert_int {s t:Nat} {k k':IntKind} {n:Int} {w:World} {D:TypeDesc} (hs:P.underlying s=some D) (ht:P.underlying t=some (.int k)):(convert s t (.int k' n)).run P w= .ok (.int k (wr k n)) w:=by
 simp[convert,run_underlying hs,run_underlying ht,Conv.intToInt,wr]
theorem sV (hT:dh P T) {s t:Nat} {x:Operand} {K:AV→Prop} (ho:o.op= .convert s t x) (hs:(T.d s).ok=true) (h:NZ (T.d t) (ev F x) K):∃av,bP P X o F M av [] []∧K av:=by
 have hx:x ∈ o.op.operands.toList:=by simp[ho,Op.operands]
 obtain⟨Ds,_,_,SV,_⟩:=hT s (TD.dG hs)
 cases ht:T.d t with
 |int k=>
  rw[ht]at h
  obtain⟨D,it,z,hD,hf,_⟩:=hT t (by rw[ht]; simp)
  have gA:=fits_int ht hf
  subst gA
  cases ch:ev F x with
  |int k' n=>
   rw[ch]at h
   refine⟨_,aJ fun M' N ρ I ac w hW hU hN=>⟨.int k (wr k n),?_,.int _ _⟩,h⟩
   have r1:=bH (ch ▸ ay hU x hx)
   simp only[execOp,ho,r1,Sem.run_bind,run_convert_int SV hD,Result.andThen_ok,Sem.run_pure]
  |_=>rw[ch]at h; exact h.elim
 |str=>
  rw[ht]at h
  obtain⟨D,it,z,hD,hf,_⟩:=hT t (by rw[ht]; simp)
  have gA:=fy ht hf
  subst gA
  cases ch:ev F x with
  |str l=>
   rw[ch]at h
   refine⟨_,aJ fun M' N ρ I ac w hW hU hN=>⟨.string ⟨l.toArray⟩,?_,.str _⟩,h⟩
   have r1:=gh (ch ▸ ay hU x hx)
   simp[execOp,ho,r1,convert,run_underlying SV,run_underlying hD]
  |_=>rw[ch]at h; exact h.elim
 |_=>rw[ht]at h; exact h.elim
theorem si {x:Operand} {K:AV→Prop} {Ml:Mem} (hM:M=ae Ml) (ho:o.op= .nilCheck x)
  (h:(∃n len i q,ev F x= .loc n len i q∧alive Ml n len fun _=>K (.loc n len i q))∨(∃e q,ev F x= .bv e q∧K (.bv e q))∨(∃f cs,ev F x= .bW f cs∧K (.bW f cs))):∃av,bP P X o F M av [] []∧K av:=by
 have hx:x ∈ o.op.operands.toList:=by simp[ho,Op.operands]
 rcases h with⟨n,len,i,q,ch,h⟩|⟨e,q,ch,h⟩|⟨f,cs,ch,h⟩
 ·simp only[alive]at h
  cases hb:ae Ml n with
  |none=>rw[hb]at h; exact h.elim
  |some b=>
   rw[hb]at h
   obtain⟨hc1,hmp,hk⟩:=aB h
   have hl:b.ln=len:=by simpa using hc1
   refine⟨_,aJ fun M' N ρ I a w hW hU hN=> ?_,hk⟩
   have r1:=ay hU x hx
   rw[ch]at r1
   obtain⟨sl,ee,er⟩:=bz (F:=F) x hx (n:=n) (by rw[ch]; simp[AV.names])
   have cy:M' n=some b:=(hN sl ee n er).trans (by rw[hM]; exact hb)
   have dJ:lens M' n=some (len,b.sz):=by rw[aH]; exact⟨b,cy,hl,rfl⟩
   obtain⟨hn,g,cap,hρ,hv⟩:=fq r1 dJ
   exact⟨_,by simp only[execOp,ho,hv,Sem.run_pure],fS hn dJ hρ⟩
 ·refine⟨_,aJ fun M' N ρ I a w hW hU hN=> ?_,h⟩
  have r1:=ay hU x hx
  rw[ch]at r1
  generalize hv:a.eval x=v at r1
  cases r1 with
  |bv _ _ b q' c hI h1 hcell hr=>exact⟨_,by simp only[execOp,ho,hv,Sem.run_pure],.bv e q b q' c hI h1 hcell hr⟩
 ·refine⟨_,aJ fun M' N ρ I a w hW hU hN=> ?_,h⟩
  have r1:=ay hU x hx
  rw[ch]at r1
  generalize hv:a.eval x=v at r1
  cases r1 with
  |bW f _ vs hl hr=>exact⟨_,by simp only[execOp,ho,hv,Sem.run_pure],.bW f cs vs hl hr⟩
  |oE f _ vs hl hr=>exact⟨_,by simp only[execOp,ho,hv,Sem.run_pure],.oE f cs vs hl hr⟩
theorem l8:∀l:List Operand,(mB F l).length=l.length
 |[]=>rfl
 |_::r=>by simp[mB,l8 r]
theorem vF:∀ (l:List Operand) (j:Nat) (hj:j<l.length),(mB F l).getD j .bad=ev F l[j]
 |x::r,0,_=>rfl
 |x::r,j+1,h=>by simpa[mB]using vF r j (by simpa using h)
theorem ij {ρ:Place} {L:bn} {I:Nat→Prop} {w:World} {N:Nat→Prop} {a:Act} (l:List Operand) (h:∀x ∈ l,aS ρ L I w N (ev F x) (a.eval x)):dp ρ L I w N (mB F l) (l.map a.eval):=by
 refine⟨by simp[l8],fun j hj=> ?_⟩
 rw[l8]at hj
 rw[vF l j hj]
 have:(l.map a.eval).getD j default=a.eval l[j]:=by simp[List.getD_eq_getElem?_getD,hj]
 rw[this]
 exact h _ (List.getElem_mem _)
theorem sj {f:Nat} {first aW:Array Operand} (ho:o.op= .makeFunc (.func f) first aW) (h0:first.isEmpty=true):bP P X o F M (.bW (.fn f) (mB F aW.toList)) [] []:=by
 refine aJ fun M' N ρ I a w hW hU hN=>⟨.func (.func f) #[] ((aW.toList.map a.eval).toArray),?_,?_⟩
 ·have:first= #[]:=by simpa using h0
  subst this
  have e:Array.map a.eval aW=(List.map a.eval aW.toList).toArray:=by apply Array.ext'; simp
  simp[execOp,ho,Instr.makeFunc,e]
 ·have:=ij (F:=F) (ρ:=ρ) (L:=lens M') (I:=I) (w:=w) (N:=N) (a:=a) aW.toList (fun x hx=>ay hU x (by simp only[ho,Op.operands]; simp only[Array.toList_append]; exact List.mem_append_right _ hx))
  exact .bW f _ _ this.1 this.2
theorem uu {x:Operand} {i:Nat} {vs:List AV} (ho:o.op= .extract x i) (hx':ev F x= .aU vs) (hi:i<vs.length):bP P X o F M (vs.getD i .bad) [] []:=by
 have hx:x ∈ o.op.operands.toList:=by simp[ho,Op.operands]
 refine aJ fun M' N ρ I a w hW hU hN=> ?_
 have r1:=ay hU x hx
 rw[hx']at r1
 generalize hv:a.eval x=v at r1
 cases r1 with
 |aU _ us hl hr=>
  have hi':i<us.length:=by omega
  refine⟨us.getD i default,?_,hr i hi⟩
  have:us.toArray[i]? =some (us.getD i default):=by simp[hi',List.getD_eq_getElem?_getD]
  simp only[execOp,ho,hv,Instr.extract,this,Sem.run_bind,Sem.run_pure,Result.andThen_ok]
end Go.AM
namespace Go.AM
open Go.RowKit
variable {P:Program} {T:TT} {X:ct} {o:Oper} {F:bj} {M:bA}
theorem pA {α:Type} (l:List α) (h q i:Nat) (d:α) (hi:i<h - q):((l.take h).drop q).getD i d=l.getD (q+i) d:=by
 simp only[List.getD_eq_getElem?_getD,List.getElem?_drop,List.getElem?_take]
 rw[if_pos (by omega)]
theorem vG {ρ:Place} {L:bn} {I:Nat→Prop} {w:World} {N:Nat→Prop} {sz:Nat} {es:List (List AV)} {a:Option Addr} {len cap:Nat} (h:aS ρ L I w N (.aO sz es) (.slice a len cap)) (l q m:Nat)
  (h1:l≤q) (h2:q≤es.length) (h3:q≤m) (h4:m≤cap):len=es.length∧aS ρ L I w N (.aO sz ((es.take q).drop l)) (.slice (if m=l then a else a.map (·.add (l*sz))) (q - l) (m - l)):=by
 cases h with
 |cI _ _ _ hc=>
  simp at h2
  have hl:l=0:=by omega
  subst hl; subst h2
  exact⟨rfl,by simpa using aS.cI sz _ (m - 0) (by omega)⟩
 |aO _ _ b o _ c hl hc hI hs N3 hcell hr=>
  refine⟨rfl,?_⟩
  by_cases hz:q - l=0
  ·have e:(es.take q).drop l=[]:=List.eq_nil_of_length_eq_zero (by simp; omega)
   rw[e,hz]
   exact .cI sz _ _ (by omega)
  ·have hm:m≠l:=by omega
   have hlen:((es.take q).drop l).length=q - l:=by simp; omega
   rw[if_neg hm]
   have e:(Option.map (fun x:Addr=>x.add (l*sz)) (some ⟨b,o,none⟩))=some ⟨b,o+l*sz,none⟩:=by simp[cj]
   rw[e,←hlen]
   refine .aO sz _ b (o+l*sz) (m - l) (fun i j=>c (l+i) j) (by omega) (by omega) hI (fun e he=>hs e (List.mem_of_mem_take (List.mem_of_mem_drop he))) (fun i j hi hj=>N3 _ _ (by omega) hj) (fun i j hi hj=> ?_) (fun i j hi hj=> ?_)
   ·have:=hcell (l+i) j (by omega) hj
    rw[Nat.add_mul,←Nat.add_assoc]at this
    exact this
   ·rw[pA _ _ _ _ _ (by omega)]
    exact hr (l+i) j (by omega) hj
theorem run_sliceBound {k:IntKind} {i:Int} {y:Nat} {c:BoundsCode} {w:World} (h:0≤i∧i≤y):(Instr.sliceBound (.int k i) y c).run P w= .ok i.toNat w:=by
 simp[Instr.sliceBound,asIntOf,h]
theorem oQ {t e:Nat} {ie:TypeInfo} {a:Option Addr} {len cap:Nat} {lo hi mx:Option Value} {w:World} (hD:P.underlying t=some (.slice e)) (hi':P.info? e=some ie) {l h m:Nat}
  (hb:(Instr.sliceBounds true len cap lo hi mx).run P w= .ok (l,h,m) w):(Instr.sliceAt t (.slice a len cap) lo hi mx).run P w= .ok (.slice (if m=l then a else a.map (·.add (l*ie.size))) (h - l) (m - l)) w:=by
 simp only[Instr.sliceAt,Sem.run_bind,run_underlying hD,Result.andThen_ok,Instr.slice,hb,bG hi',Sem.run_pure]
theorem pB {t:Nat} {s:ByteArray} {lo hi:Option Value} {w:World} (hD:P.underlying t=some .string) {l h m:Nat}
  (hb:(Instr.sliceBounds false s.size s.size lo hi none).run P w= .ok (l,h,m) w):(Instr.sliceAt t (.string s) lo hi none).run P w= .ok (.string (s.extract l h)) w:=by
 simp[Instr.sliceAt,run_underlying hD,Instr.slice,hb]
theorem pS {ρ:Place} {L:bn} {I:Nat→Prop} {w:World} {N:Nat→Prop} {sz:Nat} {es:List (List AV)} {v:Value} (h:aS ρ L I w N (.aO sz es) v):∃a cap,v= .slice a es.length cap∧es.length≤cap:=by
 cases h with
 |cI _ a cap hc=>exact⟨a,cap,rfl,Nat.zero_le _⟩
 |aO _ _ b o cap c hl=>exact⟨_,cap,rfl,hl⟩
theorem vH (s:List UInt8) (l h:Nat) (hh:h≤s.length):(⟨s.toArray⟩:ByteArray).extract l h=⟨((s.take h).drop l).toArray⟩:=by
 apply ByteArray.ext
 apply Array.ext'
 rw[Lib.extract_data]
 simp[List.drop_take]
theorem ql (hT:dh P T) {t:Nat} {x:Operand} {lo hi mx:Option Operand} {K:AV→Prop} {Ml:Mem} (ho:o.op= .slice t x lo hi mx) (h:nS T t (ev F x) (r5 F lo) (r5 F hi) (r5 F mx) Ml K):∃av,bP P X o F M av [] []∧K av:=by
 have hx:x ∈ o.op.operands.toList:=by simp[ho,Op.operands]
 have hlo:∀y,lo=some y→y ∈ o.op.operands.toList:=by rintro y rfl; simp[ho,Op.operands]
 have hhi:∀y,hi=some y→y ∈ o.op.operands.toList:=by rintro y rfl; simp[ho,Op.operands]
 have NC:∀y,mx=some y→y ∈ o.op.operands.toList:=by rintro y rfl; simp[ho,Op.operands]
 unfold nS at h
 cases ht:T.d t with
 |slice e=>
  rw[ht]at h
  obtain⟨hok,h⟩:=aB h
  obtain⟨D,it,z,hD,hf,_⟩:=hT t (by rw[ht]; simp)
  have gA:=bZ ht hf
  subst gA
  obtain⟨_,ie,_,_,_,hie,k9,_⟩:=hT e (TD.dG hok)
  cases ch:ev F x with
  |aO sz es=>
   rw[ch]at h
   obtain⟨hsz,h⟩:=aB h
   have hsz:sz=ie.size:=by rw[k9]; simpa using hsz
   have fin':∀ (l q:Nat),l≤q→q≤es.length→(∀cap (a:Act) w,es.length≤cap→(∀y ∈ o.op.operands.toList,∀k n,ev F y= .int k n→a.eval y= .int k n)→∃m,q≤m∧m≤cap∧(Instr.sliceBounds true es.length cap (lo.map a.eval) (hi.map a.eval) (mx.map a.eval)).run P w= .ok (l,q,m) w)→bP P X o F M (.aO sz ((es.take q).drop l)) [] []:=by
    intro l q h1 h2 hb
    refine aJ fun M' N ρ I a w hW hU hN=> ?_
    have r1:=ay hU x hx
    rw[ch]at r1
    obtain⟨ad,cap,hv,hcap⟩:=pS r1
    obtain⟨m,T6,ND,hb⟩:=hb cap a w hcap (fun y hy k n JK=>bH (JK ▸ ay hU y hy))
    rw[hv]at r1
    obtain⟨_,r2⟩:=vG r1 l q m h1 h2 T6 ND
    refine⟨_,?_,r2⟩
    simp only[execOp,ho,hv,Sem.run_bind,oQ hD hie hb,Result.andThen_ok,Sem.run_pure,hsz]
   cases lo with
   |none=>
    cases hi with
    |none=>cases mx<;>exact h.elim
    |some yh=>
     cases uw:ev F yh with
     |int kh nh=>
      cases mx with
      |none=>
       simp only[r5,uw]at h
       refine⟨_,fin' 0 nh.toNat (by omega) (by omega) ?_,by simpa using h.2⟩
       intro cap a w hc sf
       refine⟨cap,by omega,Nat.le_refl _,?_⟩
       have e1:=sf yh (hhi yh rfl) kh nh uw
       simp only[Option.map_none,Option.map_some,e1,Instr.sliceBounds,Sem.run_bind,Sem.run_pure,Result.andThen_ok,run_sliceBound (show 0≤nh∧nh≤(cap:Int) by omega)]
      |some ym=>
       cases JL:ev F ym with
       |int km nm=>
        simp only[r5,uw,JL]at h
        refine⟨_,fin' 0 nh.toNat (by omega) (by omega) ?_,by simpa using h.2⟩
        intro cap a w hc sf
        refine⟨nm.toNat,by omega,by omega,?_⟩
        have e1:=sf yh (hhi yh rfl) kh nh uw
        have e2:=sf ym (NC ym rfl) km nm JL
        simp only[Option.map_none,Option.map_some,e1,e2,Instr.sliceBounds,Sem.run_bind,Sem.run_pure,Result.andThen_ok,run_sliceBound (show 0≤nm∧nm≤(cap:Int) by omega),run_sliceBound (show 0≤nh∧nh≤(nm.toNat:Int) by omega)]
       |_=>simp only[r5,uw,JL]at h
     |_=>cases mx<;>(simp only[r5,uw]at h)
   |some yl=>
    cases xR:ev F yl with
    |int kl nl=>
     cases hi with
     |none=>
      cases mx with
      |none=>
       simp only[r5,xR]at h
       refine⟨_,fin' nl.toNat es.length (by omega) (Nat.le_refl _) ?_,by simpa using h.2⟩
       intro cap a w hc sf
       refine⟨cap,by omega,Nat.le_refl _,?_⟩
       have e1:=sf yl (hlo yl rfl) kl nl xR
       simp only[Option.map_none,Option.map_some,e1,Instr.sliceBounds,Sem.run_bind,Sem.run_pure,Result.andThen_ok,run_sliceBound (show 0≤nl∧nl≤(es.length:Int) by omega)]
      |some ym=>simp only[r5,xR]at h
     |some yh=>
      cases uw:ev F yh with
      |int kh nh=>
       cases mx with
       |none=>
        simp only[r5,xR,uw]at h
        refine⟨_,fin' nl.toNat nh.toNat (by omega) (by omega) ?_,by simpa using h.2⟩
        intro cap a w hc sf
        refine⟨cap,by omega,Nat.le_refl _,?_⟩
        have e1:=sf yl (hlo yl rfl) kl nl xR
        have e2:=sf yh (hhi yh rfl) kh nh uw
        simp only[Option.map_none,Option.map_some,e1,e2,Instr.sliceBounds,Sem.run_bind,Sem.run_pure,Result.andThen_ok,run_sliceBound (show 0≤nh∧nh≤(cap:Int) by omega),run_sliceBound (show 0≤nl∧nl≤(nh.toNat:Int) by omega)]
       |some ym=>simp only[r5,xR,uw]at h
      |_=>cases mx<;>(simp only[r5,xR,uw]at h)
    |_=>cases hi<;>cases mx<;>(simp only[r5,xR]at h)
  |_=>rw[ch]at h; exact h.elim
 |str=>
  rw[ht]at h
  obtain⟨D,it,z,hD,hf,_⟩:=hT t (by rw[ht]; simp)
  have gA:=fy ht hf
  subst gA
  cases ch:ev F x with
  |str s=>
   rw[ch]at h
   have fin':mx=none→∀ (l q:Nat),l≤q→q≤s.length→(∀ (a:Act) w,(∀y ∈ o.op.operands.toList,∀k n,ev F y= .int k n→a.eval y= .int k n)→∃m,(Instr.sliceBounds false s.length s.length (lo.map a.eval) (hi.map a.eval) none).run P w= .ok (l,q,m) w)→bP P X o F M (.str ((s.take q).drop l)) [] []:=by
    intro T7 l q h1 h2 hb
    refine aJ fun M' N ρ I a w hW hU hN=> ?_
    have r1:=gh (ch ▸ ay hU x hx)
    obtain⟨m,hb⟩:=hb a w (fun y hy k n JK=>bH (JK ▸ ay hU y hy))
    refine⟨.string ⟨((s.take q).drop l).toArray⟩,?_,.str _⟩
    have hb':(Instr.sliceBounds false (⟨s.toArray⟩:ByteArray).size (⟨s.toArray⟩:ByteArray).size (lo.map a.eval) (hi.map a.eval) none).run P w= .ok (l,q,m) w:=hb
    rw[←vH s l q h2]
    subst T7
    simp only[execOp,ho,r1,Sem.run_bind,Option.map_none,pB hD hb',Result.andThen_ok,Sem.run_pure]
   cases mx with
   |some ym=>cases lo<;>cases hi<;>first|exact h.elim|(simp only[r5]at h; split at h<;>first|exact h.elim|(rename_i hh; simp at hh))
   |none=>
    cases lo with
    |none=>
     cases hi with
     |none=>exact h.elim
     |some yh=>
      cases uw:ev F yh with
      |int kh nh=>
       simp only[r5,uw]at h
       refine⟨_,fin' rfl 0 nh.toNat (by omega) (by omega) ?_,by simpa using h.2⟩
       intro a w sf
       have e1:=sf yh (hhi yh rfl) kh nh uw
       refine⟨s.length,?_⟩
       simp only[Option.map_none,Option.map_some,e1,Instr.sliceBounds,Sem.run_bind,Sem.run_pure,Result.andThen_ok,Bool.false_eq_true,if_false,run_sliceBound (show 0≤nh∧nh≤(s.length:Int) by omega)]
      |_=>simp only[r5,uw]at h
    |some yl=>
     cases xR:ev F yl with
     |int kl nl=>
      cases hi with
      |none=>
       simp only[r5,xR]at h
       refine⟨_,fin' rfl nl.toNat s.length (by omega) (Nat.le_refl _) ?_,by simpa using h.2⟩
       intro a w sf
       have e1:=sf yl (hlo yl rfl) kl nl xR
       refine⟨s.length,?_⟩
       simp only[Option.map_none,Option.map_some,e1,Instr.sliceBounds,Sem.run_bind,Sem.run_pure,Result.andThen_ok,run_sliceBound (show 0≤nl∧nl≤(s.length:Int) by omega)]
      |some yh=>
       cases uw:ev F yh with
       |int kh nh=>
        simp only[r5,xR,uw]at h
        refine⟨_,fin' rfl nl.toNat nh.toNat (by omega) (by omega) ?_,by simpa using h.2⟩
        intro a w sf
        have e1:=sf yl (hlo yl rfl) kl nl xR
        have e2:=sf yh (hhi yh rfl) kh nh uw
        refine⟨s.length,?_⟩
        simp only[Option.map_none,Option.map_some,e1,e2,Instr.sliceBounds,Sem.run_bind,Sem.run_pure,Result.andThen_ok,Bool.false_eq_true,if_false,run_sliceBound (show 0≤nh∧nh≤(s.length:Int) by omega),run_sliceBound (show 0≤nl∧nl≤(nh.toNat:Int) by omega)]
       |_=>simp only[r5,xR,uw]at h
     |_=>cases hi<;>(simp only[r5,xR]at h)
  |_=>rw[ch]at h; exact h.elim
 |_=>rw[ht]at h; exact h.elim
end Go.AM
namespace Go.AM
open Go.RowKit
variable {P:Program} {T:TT} {X:ct} {o:Oper} {F:bj} {M:bA}
def dq (ρ:Place) (L:bn) (I:Nat→Prop) (w:World) (N:Nat→Prop) (sz:Nat) (xs:List (List AV)) (vs:List Value):Prop:=
 vs.length=xs.length*sz∧(∀e ∈ xs,e.length=sz)∧∀i j,i<xs.length→j<sz→∃u,vs[i*sz+j]? =some u∧u.oneCell'=true∧aS ρ L I w N ((xs.getD i []).getD j .bad) u
theorem kz {i j n sz:Nat} (hi:i<n) (hj:j<sz):i*sz+j<n*sz:=by
 have:(i+1)*sz≤n*sz:=Nat.mul_le_mul_right _ hi
 rw[Nat.add_mul,Nat.one_mul]at this
 omega
theorem dq.append {ρ:Place} {L:bn} {I:Nat→Prop} {w:World} {N:Nat→Prop} {sz:Nat} {xs ys:List (List AV)} {vs us:List Value} (h:dq ρ L I w N sz xs vs) (k:dq ρ L I w N sz ys us):dq ρ L I w N sz (xs++ys) (vs++us):=by
 obtain⟨h1,h2,h3⟩:=h
 obtain⟨k1,k2,k3⟩:=k
 refine⟨by simp[h1,k1,Nat.add_mul],fun e he=> ?_,fun i j hi hj=> ?_⟩
 ·rcases List.mem_append.1 he with he|he
  ·exact h2 e he
  ·exact k2 e he
 ·by_cases hl:i<xs.length
  ·obtain⟨u,hu,hr⟩:=h3 i j hl hj
   have:=kz (sz:=sz) hl hj
   refine⟨u,by rw[List.getElem?_append_left (by omega)]; exact hu,?_⟩
   have e:(xs++ys).getD i []=xs.getD i []:=by simp[List.getD_eq_getElem?_getD,List.getElem?_append_left hl]
   rw[e]; exact hr
  ·simp at hi
   obtain⟨u,hu,hr⟩:=k3 (i - xs.length) j (by omega) hj
   have hm:xs.length*sz≤i*sz:=Nat.mul_le_mul_right _ (by omega)
   have e1:i*sz+j - vs.length=(i - xs.length)*sz+j:=by rw[h1,Nat.sub_mul]; omega
   refine⟨u,by rw[List.getElem?_append_right (by omega),e1]; exact hu,?_⟩
   have e:(xs++ys).getD i []=ys.getD (i - xs.length) []:=by simp[List.getD_eq_getElem?_getD,List.getElem?_append_right (Nat.le_of_not_lt hl)]
   rw[e]; exact hr
theorem dq.one {ρ:Place} {L:bn} {I:Nat→Prop} {w:World} {N:Nat→Prop} {sz:Nat} {xs:List (List AV)} {vs:List Value} (h:dq ρ L I w N sz xs vs):∀u ∈ vs,u.oneCell'=true:=by
 intro u hu
 obtain⟨k,hk,rfl⟩:=List.mem_iff_getElem.1 hu
 have hk':k<xs.length*sz:=by rw[←h.1]; exact hk
 have hsz:0<sz:=by rcases Nat.eq_zero_or_pos sz with h|h; (subst h; simp at hk'); exact h
 have hi:k / sz<xs.length:=by rw[Nat.div_lt_iff_lt_mul hsz]; exact hk'
 obtain⟨u,hu,h1,_⟩:=h.2.2 (k / sz) (k % sz) hi (Nat.mod_lt _ hsz)
 rw[Nat.mul_comm,Nat.div_add_mod,List.getElem?_eq_getElem hk]at hu
 cases hu
 exact h1
theorem dq.rZ {ρ ρ':Place} {L L':bn} {I I':Nat→Prop} {w w':World} {N:Nat→Prop} {sz:Nat} {xs:List (List AV)} {vs:List Value} (E:kY N ρ L I w ρ' L' I' w') (h:dq ρ L I w N sz xs vs):dq ρ' L' I' w' N sz xs vs:=
 ⟨h.1,h.2.1,fun i j hi hj=>let ⟨u,hu,h1,hr⟩:=h.2.2 i j hi hj; ⟨u,hu,h1,hr.rZ E (fun _ h=>h)⟩⟩
def sW (P:Program) (sz:Nat) (v:Value) (n:Nat) (vs:List Value) (w:World):Prop:=
 ∀m,m≤n→(Builtin.firstCells sz m v).run P w= .ok (vs.take (m*sz)).toArray w
theorem sW.nil {sz n c:Nat} {w:World}:sW P sz (.slice none n c) 0 [] w:=fun m hm=>by
 rw[List.take_nil]; exact run_firstCells_none w sz m n c
theorem sW.some {sz n c k:Nat} {a:Addr} {vs:List Value} {w:World} (hl:vs.length=n*sz) (h:∀j u,vs[j]? =some u→w.cell? (a.add j)=some u):sW P sz (.slice (some a) k c) n vs w:=fun m hm=>
 run_firstCells_some w sz m a k c (vs.take (m*sz)) (by rw[List.length_take,hl]; exact Nat.min_eq_left (Nat.mul_le_mul_right _ hm)) (fun j u hu=>by
  rw[List.getElem?_take]at hu
  split at hu
  ·exact h j u hu
  ·cases hu)
theorem sW.str {s:ByteArray} {w:World}:sW P 1 (.string s) s.size (byteCells s) w:=fun m hm=>by
 simp only[Builtin.firstCells,Sem.run_pure,Nat.mul_one]
 congr 1
 apply Array.ext'
 simp[byteCells,Lib.extract_data,List.map_take]
theorem C2 {ρ:Place} {L:bn} {I:Nat→Prop} {w:World} {N:Nat→Prop} {sz:Nat} {es:List (List AV)} {v:Value} {tx e:TypeId} (h:aS ρ L I w N (.aO sz es) v) (hk:P.underlying tx=some (.slice e)):
  ∃vs,Src P sz tx v es.length vs w∧dq ρ L I w N sz es vs∧sW P sz v es.length vs w:=by
 cases h with
 |cI _ a cap hc=>
  cases a with
  |none=>exact⟨[],Src.ofNil w hk cap,⟨by simp,by simp,fun i j hi=>by simp at hi⟩,sW.nil⟩
  |some a=>exact⟨[],Src.ofSlice w hk a 0 cap [] (by simp) (by simp) (by simp),⟨by simp,by simp,fun i j hi=>by simp at hi⟩,sW.some (by simp) (by simp)⟩
 |aO _ _ b o cap c hl hc hI hs h1 hcell hr=>
  have hlo:dq ρ L I w N sz es ((List.range (es.length*sz)).map fun k=>c (k / sz) (k % sz)):=by
   refine⟨by simp,hs,fun i j hi hj=> ?_⟩
   have hlt:=kz (sz:=sz) hi hj
   have hsz:0<sz:=by omega
   have e1:(i*sz+j) / sz=i:=by rw[Nat.mul_comm,Nat.mul_add_div hsz,Nat.div_eq_of_lt hj,Nat.add_zero]
   have e2:(i*sz+j) % sz=j:=by rw[Nat.mul_comm,Nat.mul_add_mod,Nat.mod_eq_of_lt hj]
   refine⟨c i j,by simp[hlt,e1,e2],h1 i j hi hj,(hr i j hi hj).wide (fun _ h=>h.elim)⟩
  have ke:∀k u,((List.range (es.length*sz)).map fun k=>c (k / sz) (k % sz))[k]? =some u→w.cell? ((⟨b,o,none⟩:Addr).add k)=some u:= ?_
  ·exact⟨_,Src.ofSlice w hk _ _ _ _ hlo.1 ke hlo.one,hlo,sW.some hlo.1 ke⟩
  intro k u hu
  have hk':k<es.length*sz:=by
   have:=(List.getElem?_eq_some_iff.1 hu).1
   simpa using this
  have hsz:0<sz:=by rcases Nat.eq_zero_or_pos sz with h|h; (subst h; simp at hk'); exact h
  have hi:k / sz<es.length:=by rw[Nat.div_lt_iff_lt_mul hsz]; exact hk'
  have sk:=hcell (k / sz) (k % sz) hi (Nat.mod_lt _ hsz)
  have zH:c (k / sz) (k % sz)=u:=by simpa[hk']using hu
  rw[cj,←zH,←sk]
  have:k / sz*sz+k % sz=k:=by rw[Nat.mul_comm]; exact Nat.div_add_mod _ _
  rw[Nat.add_assoc,this]
theorem C3 {ρ:Place} {L:bn} {I:Nat→Prop} {w:World} {N:Nat→Prop} {s:List UInt8} {tx:TypeId} (hk:P.underlying tx=some .string):
  Src P 1 tx (.string ⟨s.toArray⟩) s.length (byteCells ⟨s.toArray⟩) w∧dq ρ L I w N 1 (s.map fun c=>[.int .u8 c.toNat]) (byteCells ⟨s.toArray⟩)∧sW P 1 (.string ⟨s.toArray⟩) s.length (byteCells ⟨s.toArray⟩) w:=by
 have h:=Src.ofString w hk (⟨s.toArray⟩:ByteArray)
 refine⟨h,⟨by simp[byteCells],fun e he=> ?_,fun i j hi hj=> ?_⟩,sW.str⟩
 ·obtain⟨_,_,rfl⟩:=List.mem_map.1 he
  rfl
 ·have hj':j=0:=by omega
  subst hj'
  simp at hi
  refine⟨.int .u8 s[i].toNat,by simp[byteCells,hi],rfl,?_⟩
  have:((s.map fun c=>[AV.int .u8 c.toNat]).getD i []).getD 0 .bad= .int .u8 s[i].toNat:=by simp[List.getD_eq_getElem?_getD,hi]
  rw[this]; exact .int _ _
theorem p9.list {C:ct} {ρ:Place} {L:bn} {I:Nat→Prop} {w:World} {N:Nat→Prop} {n:Nat} {b:bu} (B:p9 C ρ L I w N n b) (hmp:b.mp=none) {g cap:Nat} (hρ:ρ n=some (g,cap)):
  ∃vs,dq ρ L I w N b.sz b.es vs∧∀k u,vs[k]? =some u→w.cell? ⟨g,k,none⟩=some u:=by
 obtain⟨cs,fr,hg,_,_,_,hlc,_,hcs,hc⟩:=B.real g cap hρ
 have hg:=hg.cells hmp
 have hle:b.es.length*b.sz≤cs.size:=by rw[hcs]; exact Nat.mul_le_mul_right _ hlc
 refine⟨cs.toList.take (b.es.length*b.sz),⟨by simp; omega,B.even,fun i j hi hj=> ?_⟩,fun k u hu=> ?_⟩
 ·obtain⟨u,hu,hr⟩:=hc i j hi hj
  exact⟨u,by rw[List.getElem?_take,if_pos (kz hi hj)]; simpa using hu,hr⟩
 ·rw[List.getElem?_take]at hu
  split at hu
  ·simp only[World.cell?,hg]; simpa using hu
  ·cases hu
theorem C4 {ρ:Place} {I:Nat→Prop} {w:World} {N:Nat→Prop} {n:Nat} {b:bu} {v:Value} {tx e:TypeId} (hW:cY X ρ I M N w) (hb:M n=some b) (hmp:b.mp=none) (h:aS ρ (lens M) I w N (.bh n b.es.length) v) (hk:P.underlying tx=some (.slice e)):
  ∃vs,Src P b.sz tx v b.es.length vs w∧dq ρ (lens M) I w N b.sz b.es vs∧sW P b.sz v b.es.length vs w:=by
 have dJ:lens M n=some (b.es.length,b.sz):=by rw[aH]; exact⟨b,hb,bu.db hmp,rfl⟩
 obtain⟨hn,h2⟩:=iT h dJ
 have B:=hW.bg n b hb
 rcases h2 with⟨h0,q,hv⟩|⟨g,cap,hρ,hv⟩
 ·have he:=B.dY h0
  subst hv
  rw[he]
  cases q with
  |none=>exact⟨[],Src.ofNil w hk 0,⟨by simp,by simp,fun i j hi=>by simp at hi⟩,sW.nil⟩
  |some a=>exact⟨[],Src.ofSlice w hk a 0 0 [] (by simp) (by simp) (by simp),⟨by simp,by simp,fun i j hi=>by simp at hi⟩,sW.some (by simp) (by simp)⟩
 ·obtain⟨vs,h1,h2⟩:=B.list hmp hρ
  subst hv
  have ke:∀k u,vs[k]? =some u→w.cell? ((⟨g,0,none⟩:Addr).add k)=some u:=fun k u hu=>by rw[cj,Nat.zero_add]; exact h2 k u hu
  exact⟨vs,Src.ofSlice w hk _ _ _ _ h1.1 ke h1.one,h1,sW.some h1.1 ke⟩
theorem dT {sz:Nat}:∀ {n:Nat} {r:List AV},(nQ sz n r).length=n
 |0,_=>rfl
 |n+1,r=>by simp[nQ,dT]
theorem jt {sz:Nat}:∀ {n:Nat} {r:List AV} {i:Nat},i<n→(nQ sz n r).getD i []=(r.drop (i*sz)).take sz
 |0,_,i,h=>by omega
 |n+1,r,0,h=>by simp[nQ]
 |n+1,r,i+1,h=>by
  have:=jt (sz:=sz) (n:=n) (r:=r.drop sz) (i:=i) (by omega)
  simp only[nQ,List.getD_cons_succ,this,List.drop_drop]
  congr 2
  rw[Nat.add_mul,Nat.one_mul]; omega
theorem C5 {ρ:Place} {I:Nat→Prop} {w:World} {N:Nat→Prop} {n i off ca sz:Nat} {b:bu} {v:Value} {tx e:TypeId} (hW:cY X ρ I M N w) (hb:M n=some b) (hmp:b.mp=none) (h:aS ρ (lens M) I w N (.dP n b.es.length i off ca) v) (hi:i<b.es.length)
  (hfit:off+ca*sz≤b.sz) (hk:P.underlying tx=some (.slice e)):
  ∃vs,Src P sz tx v ca vs w∧dq ρ (lens M) I w N sz (nQ sz ca ((b.es.getD i []).drop off)) vs∧sW P sz v ca vs w:=by
 have dJ:lens M n=some (b.es.length,b.sz):=by rw[aH]; exact⟨b,hb,bu.db hmp,rfl⟩
 obtain⟨hn,g,cap,c,hρ,hv,_⟩:=k8 h dJ
 obtain⟨cs,fr,hg,_,_,_,hlc,_,hcs,hc⟩:=(hW.bg n b hb).real g cap hρ
 have hg:=hg.cells hmp
 have hel:(b.es.getD i []).length=b.sz:=by
  rw[List.getD_eq_getElem?_getD,List.getElem?_eq_getElem hi,Option.getD_some]
  exact (hW.bg n b hb).even _ (List.getElem_mem _)
 have hin:i*b.sz+b.sz≤cs.size:=by
  rw[hcs]
  calc i*b.sz+b.sz=(i+1)*b.sz:=by rw[Nat.add_mul,Nat.one_mul]
   _≤cap*b.sz:=Nat.mul_le_mul_right _ (by omega)
 subst hv
 generalize hvs:(cs.toList.drop (i*b.sz+off)).take (ca*sz)=vs
 have hl:vs.length=ca*sz:=by
  rw[←hvs]
  simp only[List.length_take,List.length_drop,Array.length_toList]; omega
 have hat:∀k,k<ca*sz→vs[k]? =cs[i*b.sz+off+k]? :=fun k hk=>by
  rw[←hvs,List.getElem?_take,if_pos hk,List.getElem?_drop]; simp
 have ke:∀k u,vs[k]? =some u→w.cell? ((⟨g,i*b.sz+off,none⟩:Addr).add k)=some u:=fun k u hu=>by
  have hk':k<ca*sz:=by rw[←hl]; exact (List.getElem?_eq_some_iff.1 hu).1
  rw[hat k hk']at hu
  rw[cj]
  simpa[World.cell?,hg]using hu
 have hlo:dq ρ (lens M) I w N sz (nQ sz ca ((b.es.getD i []).drop off)) vs:=by
  refine⟨by rw[dT,hl],fun r hr=> ?_,fun p q hp hq=> ?_⟩
  ·obtain⟨p,hp,rfl⟩:=List.mem_iff_getElem.1 hr
   rw[dT]at hp
   have e1:=jt (sz:=sz) (r:=(b.es.getD i []).drop off) hp
   rw[List.getD_eq_getElem?_getD,List.getElem?_eq_getElem (by rw[dT]; exact hp),Option.getD_some]at e1
   rw[e1]
   have:(p+1)*sz≤ca*sz:=Nat.mul_le_mul_right _ hp
   rw[Nat.add_mul,Nat.one_mul]at this
   simp only[List.length_take,List.length_drop,hel]; omega
  ·rw[dT]at hp
   have hlt:=kz (sz:=sz) hp hq
   obtain⟨u,hu,h1,hr⟩:=hc i (off+ (p*sz+q)) hi (by omega)
   refine⟨u,?_,h1,?_⟩
   ·rw[hat _ hlt,←hu]; congr 1; omega
   ·rw[jt hp,c8 _ _ _ _ _ hq]
    simp only[List.getD_eq_getElem?_getD,List.getElem?_drop]at hr ⊢
    rwa[show off+ (p*sz+q)=off+ (p*sz+q)from rfl]at hr
 exact⟨vs,Src.ofSlice w hk _ _ _ _ hl ke hlo.one,hlo,sW.some hl ke⟩
theorem jM (hT:dh P T) {x:Operand} {Ml:Mem} (hM:M=ae Ml) {tx sz:Nat} {K:List (List AV)→Prop} (hx:x ∈ o.op.operands.toList) (hk:(∃e,P.underlying tx=some (.slice e))∨P.underlying tx=some .string)
  (hks:(∃s,ev F x= .str s)→P.underlying tx=some .string) (hkl:(¬ ∃s,ev F x= .str s)→∃e,P.underlying tx=some (.slice e)) (h:lY Ml sz (ev F x) K):
  ∃xs,K xs∧∀M' N ρ I (a:Act) w,cY X ρ I M' N w→(∀s ∈ dg o.op,aS ρ (lens M') I w N (look F s) (a.tmps.getD s undef))→(∀s ∈ dg o.op,∀n ∈ (look F s).names,M' n=M n)→
   ∃vs,Src P sz tx (a.eval x) xs.length vs w∧dq ρ (lens M') I w N sz xs vs∧sW P sz (a.eval x) xs.length vs w:=by
 unfold lY at h
 cases ch:ev F x with
 |aO s es=>
  rw[ch]at h
  obtain⟨hc,h2⟩:=aB h
  have hs:s=sz:=by simpa using hc
  subst hs
  obtain⟨e,hk⟩:=hkl (by rw[ch]; simp)
  exact⟨es,h2,fun M' N ρ I a w hW hU hN=>C2 (ch ▸ ay hU x hx) hk⟩
 |an=>
  rw[ch]at h
  obtain⟨e,hk⟩:=hkl (by rw[ch]; simp)
  refine⟨[],h,fun M' N ρ I a w hW hU hN=> ?_⟩
  have r1:=ay hU x hx
  rw[ch]at r1
  generalize hv:a.eval x=v at r1
  cases r1
  exact⟨[],Src.ofNil w hk 0,⟨by simp,by simp,fun i j hi=>by simp at hi⟩,sW.nil⟩
 |bh n len=>
  rw[ch]at h
  simp only[alive]at h
  obtain⟨e,hk⟩:=hkl (by rw[ch]; simp)
  cases hb:ae Ml n with
  |none=>rw[hb]at h; exact h.elim
  |some b=>
   rw[hb]at h
   obtain⟨hc1,hmp,h2⟩:=aB h
   obtain⟨jK,h3⟩:=aB h2
   have hl:b.es.length=len:=(bu.db hmp).symm.trans (by simpa using hc1)
   have hs:b.sz=sz:=by simpa using jK
   subst hl; subst hs
   refine⟨b.es,h3,fun M' N ρ I a w hW hU hN=> ?_⟩
   obtain⟨sl,ee,er⟩:=bz (F:=F) x hx (n:=n) (by rw[ch]; simp[AV.names])
   have cy:M' n=some b:=(hN sl ee n er).trans (by rw[hM]; exact hb)
   exact C4 hW cy hmp (ch ▸ ay hU x hx) hk
 |dP n len i off ca=>
  rw[ch]at h
  simp only[alive]at h
  obtain⟨e,hk⟩:=hkl (by rw[ch]; simp)
  cases hb:ae Ml n with
  |none=>rw[hb]at h; exact h.elim
  |some b=>
   rw[hb]at h
   obtain⟨hc1,hmp,h2⟩:=aB h
   obtain⟨jK,h3⟩:=aB h2
   have hl:b.es.length=len:=(bu.db hmp).symm.trans (by simpa using hc1)
   simp only[Bool.and_eq_true,Nat.blt_eq,Nat.ble_eq]at jK
   subst hl
   refine⟨_,h3,fun M' N ρ I a w hW hU hN=> ?_⟩
   obtain⟨sl,ee,er⟩:=bz (F:=F) x hx (n:=n) (by rw[ch]; simp[AV.names])
   have cy:M' n=some b:=(hN sl ee n er).trans (by rw[hM]; exact hb)
   rw[dT]
   exact C5 hW cy hmp (ch ▸ ay hU x hx) jK.1.1 jK.1.2 hk
 |str s=>
  rw[ch]at h
  obtain⟨hc,h2⟩:=aB h
  have hs:sz=1:=by simpa using hc
  subst hs
  refine⟨_,h2,fun M' N ρ I a w hW hU hN=> ?_⟩
  have r1:=gh (ch ▸ ay hU x hx)
  rw[r1]
  obtain⟨h1,h2,h3⟩:=C3 (P:=P) (ρ:=ρ) (L:=lens M') (I:=I) (w:=w) (N:=N) (s:=s) (hks ⟨s,ch⟩)
  exact⟨_,by simpa using h1,h2,by simpa using h3⟩
 |_=>rw[ch]at h; exact h.elim
end Go.AM
namespace Go.AM
open Go.RowKit
variable {P:Program} {T:TT} {X:ct} {o:Oper} {F:bj} {M:bA}
theorem vI {ρ:Place} {I:Nat→Prop} {w:World} {N:Nat→Prop} {M:bA} (hW:cY X ρ I M N w) {n:Nat} {b:bu} (hb:M n=some b) (hmp:b.mp=none) {g cap:Nat} (hρ:ρ n=some (g,cap)) {xs:List (List AV)} {news:List Value}
  (hx:dq ρ (lens M) I w N b.sz xs news) (hroom:b.es.length+xs.length≤cap):
  (∀j,j<news.length→(w.cell? ⟨g,0+b.es.length*b.sz+j,none⟩).isSome=true)∧(∀j,j<news.length→w.frozen? ⟨g,0+b.es.length*b.sz+j,none⟩=false)∧
  gC X M N ρ I w (.bh n (b.es.length+xs.length)) [(n,⟨b.ty,b.sz,b.es++xs,none⟩)] (.slice (some ⟨g,0,none⟩) (b.es.length+xs.length) cap) (w.setCells g (0+b.es.length*b.sz) news):=by
 have B:=hW.bg n b hb
 obtain⟨cs,fr,hg,lX,pw,hown,hlc,lI,hcs,hc⟩:=B.real g cap hρ
 have hg:=hg.cells hmp
 have N5:=bu.db hmp
 have hfit:b.es.length*b.sz+news.length≤cs.size:=by
  rw[hx.1,hcs,←Nat.add_mul]; exact Nat.mul_le_mul_right _ hroom
 have mG:∀k,w.cell? ⟨g,k,none⟩=cs[k]? :=fun k=>by simp[World.cell?,hg]
 refine⟨fun j hj=>by rw[mG,Nat.zero_add,Array.getElem?_eq_getElem (by omega)]; rfl,fun j hj=> ?_,?_⟩
 ·have:=lX (b.es.length*b.sz+j) (by omega)
  simp only[World.frozen?,hg,Nat.zero_add]
  simpa using this
 ·rw[Nat.zero_add]
  obtain⟨cs',h1,h2,h3⟩:=gi g b.ty fr news (b.es.length*b.sz) w cs hg hfit
  have jr:∀b0,M n=some b0→b0=b:=fun b0 h0=>by rw[hb]at h0; exact (Option.some.inj h0).symm
  obtain⟨E,W⟩:=hW.put (w':=w.setCells g (b.es.length*b.sz) news) n ⟨b.ty,b.sz,b.es++xs,none⟩ g cap cs' fr
   (os_setCells _ _ _ _) (gj _ _ _ _) (gP _ _ _ _) (by rw[size_setCells]; exact Nat.le_refl _) (fun k _ hk=>dZ g _ _ _ _ hk) h1 (fun q hq=>lX q (by omega))
   (.inr ⟨cap,hρ,b,hb⟩) (fun b0 h0=>by rw[jr b0 h0,N5]; exact⟨rfl,by simp[bu.ln],fun _=>hρ⟩) (fun _=>⟨b,hb⟩)
   (fun e he=>by
     rcases List.mem_append.1 he with he|he
     ·exact B.even e he
     ·exact hx.2.1 e he)
   (by simpa using hroom) lI (by rw[h2]; exact hcs) (fun i j hi hj=>by
     simp only[List.length_append]at hi
     show ∃u,cs'[i*b.sz+j]? =some u∧_∧aS ρ (lens M) I w N (((b.es++xs).getD i []).getD j .bad) u
     by_cases hl:i<b.es.length
     ·have hlt:=kz (sz:=b.sz) hl hj
      have e:(b.es++xs).getD i []=b.es.getD i []:=by simp[List.getD_eq_getElem?_getD,List.getElem?_append_left hl]
      rw[h3,if_neg (by omega),e]
      exact hc i j hl hj
     ·have hm:b.es.length*b.sz≤i*b.sz:=Nat.mul_le_mul_right _ (by omega)
      obtain⟨u,hu,hr⟩:=hx.2.2 (i - b.es.length) j (by omega) hj
      have hlt:=kz (sz:=b.sz) (show i - b.es.length<xs.length by omega) hj
      have e:(b.es++xs).getD i []=xs.getD (i - b.es.length) []:=by simp[List.getD_eq_getElem?_getD,List.getElem?_append_right (Nat.le_of_not_lt hl)]
      have e1:i*b.sz+j - b.es.length*b.sz=(i - b.es.length)*b.sz+j:=by rw[Nat.sub_mul]; omega
      rw[h3,if_pos (by rw[hx.1]; omega),e,e1]
      exact⟨u,hu,hr⟩)
  refine⟨gN ρ n (g,cap),I,E,by rw[bQ]; exact W,?_⟩
  refine jL (sz:=b.sz) (.inr ⟨_,List.mem_singleton.2 rfl⟩) ?_ (by simp[gN])
  show lens (cQ M n _) n=_
  rw[cH,if_pos rfl]; simp[bu.ln]
theorem pC (z:Array Value) (n:Nat):(Builtin.zeroCells z n).size=n*z.size:=by simp[Builtin.zeroCells]
theorem ju {ρ:Place} {I:Nat→Prop} {w:World} {N:Nat→Prop} {M:bA} (hW:cY X ρ I M N w) {n e sz:Nat} {mI xs:List (List AV)} {olds news:List Value} {z:Value}
  (jr:N n→∃b0,M n=some b0) (hold:∀b0,M n=some b0→b0.sz=sz∧b0.es=mI∧b0.mp=none) (hxs:0<xs.length)
  (ho:dq ρ (lens M) I w N sz mI olds) (hx:dq ρ (lens M) I w N sz xs news) (hz:z.cells.size=sz) {old:Nat} (ik:mI.length+xs.length≤kj):
  gC X M N ρ I w (.bh n (mI.length+xs.length)) [(n,⟨e,sz,mI++xs,none⟩)] (.slice (some ⟨w.heap.size,0,none⟩) (mI.length+xs.length) (grownCap w (mI.length+xs.length) old e))
   (w.drew.alloc (.cells ((olds++news).toArray++Builtin.zeroCells z.cells (grownCap w (mI.length+xs.length) old e - (mI.length+xs.length))) e)):=by
 have hge:=grownCap_ge w (mI.length+xs.length) old e
 have lI:=grownCap_le_maxLen w (mI.length+xs.length) old e (by simp only[maxLen,kj]at *; omega)
 have hall:=ho.append hx
 have hlen:(olds++news).length=(mI.length+xs.length)*sz:=by rw[hall.1,List.length_append]
 obtain⟨E,W⟩:=hW.put (w':=w.drew.alloc (.cells ((olds++news).toArray++Builtin.zeroCells z.cells (grownCap w (mI.length+xs.length) old e - (mI.length+xs.length))) e)) n ⟨e,sz,mI++xs,none⟩ w.heap.size (grownCap w (mI.length+xs.length) old e) _ (0,0)
  rfl rfl rfl (by simp) (fun k hk _=>Below.heap_alloc w.drew _ k hk) (heap_alloc_new w.drew _) (fun o _ h=>by omega)
  (.inl (Nat.le_refl _)) (fun b0 h0=>by
    obtain⟨h1,h2,hm⟩:=hold b0 h0
    have hb:=bu.db hm
    refine⟨h1,by rw[hb,h2]; simp[bu.ln],fun h=> ?_⟩
    rw[hb,h2]at h
    simp[bu.ln]at h
    have:=List.length_pos_iff.1 hxs
    exact (this h).elim) jr hall.2.1 (by simpa using hge) lI
  (by
    simp only[Array.size_append,List.size_toArray,pC,hz,hlen,←Nat.add_mul]
    congr 1
    omega)
  (fun i j hi hj=>by
    obtain⟨u,hu,hr⟩:=hall.2.2 i j hi hj
    refine⟨u,?_,hr⟩
    have hlt:=kz (sz:=sz) hi hj
    rw[List.length_append]at hlt
    rw[Array.getElem?_append_left (by simp only[List.size_toArray]; omega)]
    simpa using hu)
 refine⟨_,I,E,by rw[bQ]; exact W,?_⟩
 refine jL (sz:=sz) (.inr ⟨_,List.mem_singleton.2 rfl⟩) ?_ (by simp[gN])
 show lens (cQ M n _) n=_
 rw[cH,if_pos rfl]; simp[bu.ln]
theorem lc {M:bA} {n:Nat} {b:bu} (h:M n=some b):cQ M n b=M:=by
 funext m; unfold cQ; split
 ·subst_vars; exact h.symm
 ·rfl
theorem cY.dY {ρ:Place} {I:Nat→Prop} {w:World} {N:Nat→Prop} {M:bA} (hW:cY X ρ I M N w) {n:Nat} (hn:¬N n) (e sz:Nat):
  kY N ρ (lens M) I w (fun m=>if m=n then none else ρ m) (lens (cQ M n ⟨e,sz,[],none⟩)) I w∧cY X (fun m=>if m=n then none else ρ m) I (cQ M n ⟨e,sz,[],none⟩) (xG N n) w:=by
 have hne:∀m b,M m=some b→m≠n:=fun m b h e'=>hn (e' ▸ (hW.bg m b h).lt)
 have E:kY N ρ (lens M) I w (fun m=>if m=n then none else ρ m) (lens (cQ M n ⟨e,sz,[],none⟩)) I w:=by
  refine⟨fun m len s hm _ _=> ?_,fun m len s hm h=> ?_,fun _ h=>h,fun _ _=>rfl⟩
  ·have:m≠n:=fun e'=>hn (e' ▸ hm)
   simp[this]
  ·have:m≠n:=fun e'=>hn (e' ▸ hm)
   rw[cH,if_neg this]at h
   exact⟨len,h,Nat.le_refl _⟩
 refine⟨E,fun m b hm=> ?_,fun m k b b' g c c' hm hk h1 h2=> ?_,hW.nN,hW.lt,hW.old,hW.keeps,fun m hm=> .inr (hW.pn m hm),hW.CR,hW.k6 E⟩
 ·by_cases hmn:m=n
  ·subst hmn
   simp[cQ]at hm
   subst hm
   exact⟨.inl rfl,by simp,fun _=>rfl,fun g cap h=>by simp at h,fun _ _ _ _ _ _ h=>by cases h⟩
  ·simp only[cQ,if_neg hmn]at hm
   have B:=hW.bg m b hm
   refine⟨.inr B.lt,B.even,fun h=>B.dY (by simpa[hmn]using h),fun g cap h=> ?_,fun k ka va r sn la hb=>by obtain⟨g,cap,h1,h2⟩:=B.iter k ka va r sn la hb; exact⟨g,cap,by simpa[hmn]using h1,h2⟩⟩
   obtain⟨cs,fr,hc1,AN,jK,xE,zC,xH,AO,AP⟩:=B.real g cap (by simpa[hmn]using h)
   refine⟨cs,fr,hc1,AN,jK,xE,zC,xH,AO,fun i j hi hj=> ?_⟩
   obtain⟨u,hu,nK,hr⟩:=AP i j hi hj
   exact⟨u,hu,nK,(hr.rZ E (fun _ h=>h)).wide (fun _ h=> .inr h)⟩
 ·by_cases hmn:m=n
  ·simp[hmn]at h1
  ·by_cases hkn:k=n
   ·simp[hkn]at h2
   ·simp only[cQ,if_neg hmn,if_neg hkn]at hm hk h1 h2
    exact hW.inj m k b b' g c c' hm hk h1 h2
theorem dB {a:Act} {w:World} {s x:Operand} {t t':Nat} (ho:o.op= .call {callee:= .builtin .append,args:= #[s,x],argTypes:= #[t,t']}):
  (execOp a.eval o).run P w=((Builtin.append_ #[t,t'] o.type #[a.eval s,a.eval x]).run P w).andThen fun v w'=> .ok (.value v) w':=by
 simp[execOp,ho,resolve,invoke,builtin]
theorem oR (hT:dh P T) {s x:Operand} {t t' nx:Nat} {Ml:Mem} {K:AV→Mem→Nat→Prop} (hM:M=ae Ml) (ho:o.op= .call {callee:= .builtin .append,args:= #[s,x],argTypes:= #[t,t']})
  (hok:∀e,T.d t= .slice e→(T.d e).ok=true∧bS (T.z e)=true∧(cells (T.z e)).length=T.s e) (T8:(∃q,ev F x= .str q)→T.d t'= .str) (N7:(¬ ∃q,ev F x= .str q)→∃e,T.d t'= .slice e)
  (h:pR T t (ev F s) (ev F x) ⟨F,Ml,nx⟩ K):
  ∃av n b nw bp,bP P X o F M av [(n,b)] nw∧K av (fR Ml n b) bp∧((nw=[nx]∧bp=nx+1∧n=nx)∨(bp=nx∧nw=[]∧n ∈ (ev F s).names)):=by
 have hs:s ∈ o.op.operands.toList:=by simp[ho,Op.operands,Call.operands]
 have hx:x ∈ o.op.operands.toList:=by simp[ho,Op.operands,Call.operands]
 unfold pR at h
 cases ht:T.d t with
 |slice e=>
  rw[ht]at h
  simp only at h
  obtain⟨D,it,z0,hD,hf,_⟩:=hT t (by rw[ht]; simp)
  have gA:=bZ ht hf
  subst gA
  obtain⟨JM,mH,hcl⟩:=hok e ht
  obtain⟨_,ie,z,_,_,hie,k9,hby,hz,iU⟩:=hT e (TD.dG JM)
  have hzs:z.cells.size=T.s e:=by
   have:=(bw.eu (ρ:=fun _=>none) (L:=fun _=>none) (I:=fun _=>False) (w:=default) (N:=cE) (fk _ _ _ _ _ z) (by rw[←iU]; exact mH)).1
   rw[this,←iU,hcl]
  have sX:((∃e,P.underlying t'=some (.slice e))∨P.underlying t'=some .string)∧((∃q,ev F x= .str q)→P.underlying t'=some .string)∧((¬ ∃q,ev F x= .str q)→∃e,P.underlying t'=some (.slice e)):=by
   by_cases hq:∃q,ev F x= .str q
   ·have h1:=T8 hq
    obtain⟨D,_,_,N8,T9,_⟩:=hT t' (by rw[h1]; simp)
    have:=fy h1 T9
    subst this
    exact⟨.inr N8,fun _=>N8,fun h=>(h hq).elim⟩
   ·obtain⟨e',h1⟩:=N7 hq
    obtain⟨D,_,_,N8,T9,_⟩:=hT t' (by rw[h1]; simp)
    have:=bZ h1 T9
    subst this
    exact⟨.inl ⟨_,N8⟩,fun h=>(hq h).elim,fun _=>⟨_,N8⟩⟩
  have hfit:∀need old,old<need→need≤kj→Builtin.nextslicecap need old*ie.bytes≤281474976710656:=fun need old h1 h2=>by
   refine growslice_fits h1 ?_
   calc need*ie.bytes≤kj*131072:=Nat.mul_le_mul h2 hby
    _=140737488355328:=by simp[kj]
  cases hss:ev F s with
  |bh n len=>
   rw[hss]at h
   simp only[alive]at h
   cases hb:ae Ml n with
   |none=>rw[hb]at h; exact h.elim
   |some b=>
    rw[hb]at h
    obtain⟨hc1,hmp,h2⟩:=aB h
    obtain⟨jK,h3⟩:=aB h2
    have hl:b.es.length=len:=(bu.db hmp).symm.trans (by simpa using hc1)
    simp only[Bool.and_eq_true,beq_iff_eq]at jK
    obtain⟨hsz,xS⟩:=jK
    obtain⟨xs,⟨ik,hk⟩,hsrc⟩:=jM (X:=X) (o:=o) hT hM hx sX.1 sX.2.1 sX.2.2 h3
    obtain⟨sl,ee,er⟩:=bz (F:=F) s hs (n:=n) (by rw[hss]; simp[AV.names])
    refine⟨_,n,_,[],nx,?_,hk,.inr ⟨rfl,rfl,by simp[AV.names]⟩⟩
    refine⟨fun p hp=> .inr ⟨sl,ee,by simp at hp; rw[hp]; exact er⟩,fun M' N ρ I a w hW hU hN _=> ?_⟩
    have cy:M' n=some b:=(hN sl ee n er).trans (by rw[hM]; exact hb)
    have dJ:lens M' n=some (b.es.length,b.sz):=by rw[aH]; exact⟨b,cy,bu.db hmp,rfl⟩
    obtain⟨vs,hS,hL,-⟩:=hsrc M' N ρ I a w hW hU hN
    have r1:=ay hU s hs
    rw[hss]at r1
    subst hl
    obtain⟨hn,h2⟩:=iT r1 dJ
    unfold bV
    rw[dB ho]
    rw[←hsz]at hL hS
    have ux:Src P ie.size t' (a.eval x) xs.length vs w:=by rw[k9,←hsz]; exact hS
    rcases h2 with⟨h0,q,hv⟩|⟨g,cap,hρ,hv⟩
    ·have hB:=hW.bg n b cy
     have he:b.es=[]:=hB.dY h0
     rw[hv]
     by_cases hx0:xs.length=0
     ·have hxs:xs=[]:=List.eq_nil_of_length_eq_zero hx0
      have hvs:vs=[]:=List.eq_nil_of_length_eq_zero (by have:=hL.1; rw[hx0]at this; simpa using this)
      subst hxs; subst hvs
      have hrun:=run_append_nothing (P:=P) w t t' o.type e ie hD hie q 0 0 (Nat.le_refl _) (a.eval x) (by simpa using ux)
      rw[hrun]
      refine⟨ρ,I,?_,?_,?_⟩
      ·show kY N ρ (lens M') I w ρ (lens (cQ M' n _)) I w
       have:(⟨b.ty,b.sz,b.es++ [],none⟩:bu)=b:=by have:=hmp; cases b; simp_all
       rw[this,lc cy]; exact kY.refl _ _ _ _ _
      ·show cY X ρ I (cQ M' n _) _ w
       have:(⟨b.ty,b.sz,b.es++ [],none⟩:bu)=b:=by have:=hmp; cases b; simp_all
       rw[this,lc cy]
       have Gh:eT N [(n,b)]=N:=by
        rw[bQ]; funext m; simp only[xG,eq_iff_iff]
        exact⟨fun h=>h.elim (fun e=>e ▸ hn) id,.inr⟩
       rw[bQ]at Gh ⊢
       rw[Gh]; exact hW
      ·refine .bh n _ _ (.inl hn) rfl fun l xN nL=> ?_
       have:(⟨b.ty,b.sz,b.es++ [],none⟩:bu)=b:=by have:=hmp; cases b; simp_all
       rw[this]at nL
       change lens (cQ M' n b) n=_ at nL
       rw[cH,if_pos rfl,bu.db hmp]at nL
       simp at nL
       exact⟨by simp; omega,fun _=> .inl ⟨h0,q,rfl⟩⟩
     ·have JN:(Builtin.firstCells ie.size 0 (.slice q 0 0)).run P w.drew= .ok #[] w.drew:=by
       cases q with
       |none=>exact run_firstCells_none w.drew ie.size 0 0 0
       |some a=>exact run_firstCells_some w.drew ie.size 0 a 0 0 [] (by simp) (fun j v hv=>by simp at hv)
      have hrun:=run_append_grow_src (P:=P) w t t' o.type e ie z hD hie hz q 0 0 [] JN (a.eval x) xs.length vs ux (by omega) (by rw[he]at ik; simp[kj]at ik ⊢; omega) (hfit _ _ (by omega) (by rw[he]at ik; simpa using ik))
      rw[hrun]
      have gn:=ju (X:=X) (e:=e) (olds:=[]) (old:=0) (z:=z) hW (fun _=>⟨b,cy⟩) (fun b0 h0=>by rw[cy]at h0; cases h0; exact⟨rfl,he,hmp⟩) (by omega) ⟨by simp,by simp,fun i j hi=>by simp at hi⟩ hL (by rw[hzs,hsz]) (by rw[he]at ik; simpa using ik)
      have e1:b.es.length+xs.length=([]:List (List AV)).length+xs.length:=by rw[he]
      have e2:(⟨b.ty,b.sz,b.es++xs,none⟩:bu)=⟨e,b.sz,[]++xs,none⟩:=by rw[he,xS]
      rw[e1,e2]
      exact gn
    ·rw[hv]
     by_cases hroom:b.es.length+xs.length≤cap
     ·obtain⟨g1,g2,g3⟩:=vI hW cy hmp hρ hL hroom
      have hrun:=run_append_room_src (P:=P) w t t' o.type e ie hD hie g 0 b.es.length cap (a.eval x) xs.length vs ux hroom (by rw[k9,←hsz]; exact g1) (by rw[k9,←hsz]; exact g2)
      rw[hrun,k9,←hsz]
      exact g3
     ·have hB:=hW.bg n b cy
      obtain⟨olds,IH,N9⟩:=hB.list hmp hρ
      have T':(Builtin.firstCells ie.size b.es.length (.slice (some ⟨g,0,none⟩) b.es.length cap)).run P w.drew= .ok olds.toArray w.drew:=
       run_firstCells_some (P:=P) w.drew ie.size b.es.length _ _ _ _ (by rw[k9,←hsz]; exact IH.1) (fun k u hu=>by rw[cj,Nat.zero_add]; exact N9 k u hu)
      have hrun:=run_append_grow_src (P:=P) w t t' o.type e ie z hD hie hz _ b.es.length cap olds T' (a.eval x) xs.length vs ux (by omega) (by simp[kj]at ik ⊢; omega) (hfit _ _ (by omega) ik)
      rw[hrun]
      have hcap:b.es.length≤cap:=by obtain⟨_,_,_,_,_,_,hh,_⟩:=hB.real g cap hρ; exact hh
      have gn:=ju (X:=X) (e:=e) (old:=cap) (z:=z) hW (fun _=>⟨b,cy⟩) (fun b0 h0=>by rw[cy]at h0; cases h0; exact⟨rfl,rfl,hmp⟩) (by omega) IH hL (by rw[hzs,hsz]) ik
      rw[←xS]at gn ⊢
      exact gn
  |an=>
   rw[hss]at h
   obtain⟨xs,⟨ik,hk⟩,hsrc⟩:=jM (X:=X) (o:=o) hT hM hx sX.1 sX.2.1 sX.2.2 h
   refine⟨_,nx,_,[nx],nx+1,?_,hk,.inl ⟨rfl,rfl,rfl⟩⟩
   refine⟨fun p hp=> .inl (by simp at hp; simp[hp]),fun M' N ρ I a w hW hU hN hF=> ?_⟩
   have hn:¬N nx:=hF nx (by simp)
   obtain⟨vs,hS,hL,-⟩:=hsrc M' N ρ I a w hW hU hN
   have r1:=ay hU s hs
   rw[hss]at r1
   generalize hv:a.eval s=v at r1
   cases r1
   unfold bV
   rw[dB ho,hv]
   have ux:Src P ie.size t' (a.eval x) xs.length vs w:=by rw[k9]; exact hS
   by_cases hx0:xs.length=0
   ·have hxs:xs=[]:=List.eq_nil_of_length_eq_zero hx0
    have hvs:vs=[]:=List.eq_nil_of_length_eq_zero (by have:=hL.1; rw[hx0]at this; simpa using this)
    subst hxs; subst hvs
    have hrun:=run_append_nothing (P:=P) w t t' o.type e ie hD hie none 0 0 (Nat.le_refl _) (a.eval x) (by simpa using ux)
    rw[hrun]
    obtain⟨E,W⟩:=hW.dY hn e (T.s e)
    refine⟨_,I,E,by rw[bQ]; exact W,?_⟩
    refine .bh nx _ _ (.inr ⟨_,List.mem_singleton.2 rfl⟩) rfl fun l xN nL=> ?_
    change lens (cQ M' nx _) nx=_ at nL
    rw[cH,if_pos rfl]at nL
    simp[bu.ln]at nL
    exact⟨by simp,fun _=> .inl ⟨by simp,none,rfl⟩⟩
   ·have hrun:=run_append_grow_src (P:=P) w t t' o.type e ie z hD hie hz none 0 0 [] (run_firstCells_none w.drew ie.size 0 0 0) (a.eval x) xs.length vs ux (by omega) (by simp[kj]at ik ⊢; omega) (hfit _ _ (by omega) (by simpa using ik))
    rw[hrun]
    have gn:=ju (X:=X) (n:=nx) (e:=e) (olds:=[]) (mI:=[]) (old:=0) (z:=z) hW (fun h=>(hn h).elim) (fun b0 h0=>(hn (hW.bg nx b0 h0).lt).elim) (by omega) ⟨by simp,by simp,fun i j hi=>by simp at hi⟩ hL hzs (by simpa using ik)
    have e1:xs.length=([]:List (List AV)).length+xs.length:=by simp
    have e2:(⟨e,T.s e,xs,none⟩:bu)=⟨e,T.s e,[]++xs,none⟩:=by simp
    rw[e2]
    show gC X M' N ρ I w (.bh nx xs.length) _ _ _
    rw[e1]
    simpa using gn
  |_=>rw[hss]at h; exact h.elim
 |_=>rw[ht]at h; exact h.elim
end Go.AM
namespace Go.AM
open Go.RowKit
variable {P:Program} {T:TT} {X:ct} {o:Oper} {F:bj} {M:bA}
theorem im {a:Act} {w:World} {b:Builtin} {args:Array Operand} {ts:Array TypeId} (ho:o.op= .call {callee:= .builtin b,args:=args,argTypes:=ts}):
  (execOp a.eval o).run P w=(builtin b ts o.type (args.map fun| .const _=>true|_=>false) (args.map a.eval)).run P w:=by
 simp only[execOp,ho,resolve,invoke,Sem.run_bind,Sem.run_pure,Result.andThen_ok]
 rfl
theorem jN {n:Int} {args:Array Operand} {ts:Array TypeId} (ho:o.op= .call {callee:= .builtin .len,args:=args,argTypes:=ts})
  (h:∀M' N ρ I (a:Act) w,cY X ρ I M' N w→(∀s ∈ dg o.op,aS ρ (lens M') I w N (look F s) (a.tmps.getD s undef))→(∀s ∈ dg o.op,∀n ∈ (look F s).names,M' n=M n)→(Builtin.len_ ts o.type (args.map a.eval)).run P w= .ok (.int .i64 n) w):
  bP P X o F M (.int .i64 n) [] []:=by
 refine aJ fun M' N ρ I a w hW hU hN=>⟨.int .i64 n,?_,.int _ _⟩
 rw[im ho]
 simp[builtin,h M' N ρ I a w hW hU hN]
theorem qm (hT:dh P T) {x:Operand} {t:Nat} {K:AV→Prop} {Ml:Mem} (hM:M=ae Ml) (ho:o.op= .call {callee:= .builtin .len,args:= #[x],argTypes:= #[t]})
  (h:match T.d t with
    | .arr n _=>K (.int .i64 n)
    | .slice _=>(match ev F x with
      | .aO _ es=>K (.int .i64 es.length)
      | .bh n len=>alive Ml n len fun _=>K (.int .i64 len)
      | .dP n len _ _ ca=>alive Ml n len fun _=>K (.int .i64 ca)
      | .an=>K (.int .i64 0)
      |_=>False)
    | .str=>(match ev F x with
      | .str s=>K (.int .i64 s.length)
      |_=>False)
    |_=>False):∃av,bP P X o F M av [] []∧K av:=by
 have hx:x ∈ o.op.operands.toList:=by simp[ho,Op.operands,Call.operands]
 cases ht:T.d t with
 |arr n e=>
  rw[ht]at h
  obtain⟨D,it,z0,hD,hf,_⟩:=hT t (by rw[ht]; simp)
  have gA:=fu ht hf
  subst gA
  refine⟨_,jN ho fun M' N ρ I a w hW hU hN=> ?_,h⟩
  simp[Builtin.len_,run_underlying hD,goInt]
 |str=>
  rw[ht]at h
  obtain⟨D,it,z0,hD,hf,_⟩:=hT t (by rw[ht]; simp)
  have gA:=fy ht hf
  subst gA
  cases ch:ev F x with
  |str s=>
   rw[ch]at h
   refine⟨_,jN ho fun M' N ρ I a w hW hU hN=> ?_,h⟩
   have r1:=gh (ch ▸ ay hU x hx)
   have e:(⟨s.toArray⟩:ByteArray).size=s.length:=rfl
   simp[Builtin.len_,run_underlying hD,goInt,r1,e]
  |_=>rw[ch]at h; exact h.elim
 |slice e=>
  rw[ht]at h
  obtain⟨D,it,z0,hD,hf,_⟩:=hT t (by rw[ht]; simp)
  have gA:=bZ ht hf
  subst gA
  have go:∀n:Nat,(∀M' N ρ I (a:Act) w,cY X ρ I M' N w→(∀s ∈ dg o.op,aS ρ (lens M') I w N (look F s) (a.tmps.getD s undef))→(∀s ∈ dg o.op,∀n ∈ (look F s).names,M' n=M n)→∃ad cap,a.eval x= .slice ad n cap)→
    bP P X o F M (.int .i64 n) [] []:=by
   intro n hh
   refine jN ho fun M' N ρ I a w hW hU hN=> ?_
   obtain⟨ad,cap,hv⟩:=hh M' N ρ I a w hW hU hN
   simp[Builtin.len_,run_underlying hD,goInt,hv]
  cases ch:ev F x with
  |aO sz es=>
   rw[ch]at h
   refine⟨_,go es.length fun M' N ρ I a w hW hU hN=> ?_,h⟩
   obtain⟨ad,cap,hv,_⟩:=pS (ch ▸ ay hU x hx)
   exact⟨ad,cap,hv⟩
  |an=>
   rw[ch]at h
   refine⟨_,go 0 fun M' N ρ I a w hW hU hN=> ?_,h⟩
   have r1:=ay hU x hx
   rw[ch]at r1
   generalize hv:a.eval x=v at r1
   cases r1
   exact⟨none,0,rfl⟩
  |bh n len=>
   rw[ch]at h
   simp only[alive]at h
   cases hb:ae Ml n with
   |none=>rw[hb]at h; exact h.elim
   |some b=>
    rw[hb]at h
    obtain⟨hc1,hmp,h2⟩:=aB h
    have hl:b.es.length=len:=(bu.db hmp).symm.trans (by simpa using hc1)
    refine⟨_,go len fun M' N ρ I a w hW hU hN=> ?_,h2⟩
    obtain⟨sl,ee,er⟩:=bz (F:=F) x hx (n:=n) (by rw[ch]; simp[AV.names])
    have cy:M' n=some b:=(hN sl ee n er).trans (by rw[hM]; exact hb)
    have dJ:lens M' n=some (len,b.sz):=by rw[aH]; exact⟨b,cy,(bu.db hmp).trans hl,rfl⟩
    have r1:=ay hU x hx
    rw[ch]at r1
    obtain⟨_,⟨h0,q,hv⟩|⟨g,cap,hρ,hv⟩⟩:=iT r1 dJ
    ·have:=(hW.bg n b cy).dY h0
     rw[this]at hl
     simp at hl
     subst hl
     exact⟨_,_,hv⟩
    ·exact⟨_,_,hv⟩
  |dP n len i off ca=>
   rw[ch]at h
   simp only[alive]at h
   cases hb:ae Ml n with
   |none=>rw[hb]at h; exact h.elim
   |some b=>
    rw[hb]at h
    obtain⟨hc1,hmp,h2⟩:=aB h
    have hl:b.es.length=len:=(bu.db hmp).symm.trans (by simpa using hc1)
    refine⟨_,go ca fun M' N ρ I a w hW hU hN=> ?_,h2⟩
    obtain⟨sl,ee,er⟩:=bz (F:=F) x hx (n:=n) (by rw[ch]; simp[AV.names])
    have cy:M' n=some b:=(hN sl ee n er).trans (by rw[hM]; exact hb)
    have dJ:lens M' n=some (len,b.sz):=by rw[aH]; exact⟨b,cy,(bu.db hmp).trans hl,rfl⟩
    have r1:=ay hU x hx
    rw[ch]at r1
    obtain⟨_,g,cap,c,hρ,hv,_⟩:=k8 r1 dJ
    exact⟨_,_,hv⟩
  |_=>rw[ch]at h; exact h.elim
 |_=>rw[ht]at h; exact h.elim
theorem oS {k:IntKind} {w:World} {ρ:Place} {L:bn} {I:Nat→Prop} {N:Nat→Prop}:∀ (as:List AV) (vs:List Value) (a:Int),dp ρ L I w N as vs→qc k a as≠ .bad→
  ∃n,qc k a as= .int k n∧(vs.foldlM Builtin.min2 (.int k a)).run P w= .ok (.int k n) w
 |[],vs,a,h,_=>by
  have:vs=[]:=List.eq_nil_of_length_eq_zero (by simpa using h.1)
  subst this
  exact⟨a,rfl,rfl⟩
 |x::r,vs,a,h,hb=>by
  cases vs with
  |nil=>simp[dp]at h
  |cons v vs=>
   have h0:=h.2 0 (by simp)
   simp at h0
   cases x with
   |int k' b=>
    have hv:=bH h0
    subst hv
    have hr:dp ρ L I w N r vs:=⟨by simpa using h.1,fun j hj=>by simpa using h.2 (j+1) (by simpa using hj)⟩
    obtain⟨n,h1,h2⟩:=oS r vs (min a b) hr hb
    refine⟨n,h1,?_⟩
    have e:(if b<a then b else a)=min a b:=by omega
    simp only[List.foldlM_cons,Builtin.min2,Sem.run_bind,Sem.run_pure,Result.andThen_ok,e]
    exact h2
   |_=>exact (hb rfl).elim
theorem oT {k:IntKind} {w:World} {ρ:Place} {L:bn} {I:Nat→Prop} {N:Nat→Prop}:∀ (as:List AV) (vs:List Value) (a:Int),dp ρ L I w N as vs→qd k a as≠ .bad→
  ∃n,qd k a as= .int k n∧(vs.foldlM Builtin.max2 (.int k a)).run P w= .ok (.int k n) w
 |[],vs,a,h,_=>by
  have:vs=[]:=List.eq_nil_of_length_eq_zero (by simpa using h.1)
  subst this
  exact⟨a,rfl,rfl⟩
 |x::r,vs,a,h,hb=>by
  cases vs with
  |nil=>simp[dp]at h
  |cons v vs=>
   have h0:=h.2 0 (by simp)
   simp at h0
   cases x with
   |int k' b=>
    have hv:=bH h0
    subst hv
    have hr:dp ρ L I w N r vs:=⟨by simpa using h.1,fun j hj=>by simpa using h.2 (j+1) (by simpa using hj)⟩
    obtain⟨n,h1,h2⟩:=oT r vs (max a b) hr hb
    refine⟨n,h1,?_⟩
    have e:(if b>a then b else a)=max a b:=by omega
    simp only[List.foldlM_cons,Builtin.max2,Sem.run_bind,Sem.run_pure,Result.andThen_ok,e]
    exact h2
   |_=>exact (hb rfl).elim
theorem oU {mx:Bool} {args:Array Operand} {ts:Array TypeId} (ho:o.op= .call {callee:= .builtin (if mx then .max else .min),args:=args,argTypes:=ts})
  (h:(if mx then vD (mB F args.toList)else vC (mB F args.toList))≠ .bad):bP P X o F M (if mx then vD (mB F args.toList)else vC (mB F args.toList)) [] []:=by
 refine aJ fun M' N ρ I a w hW hU hN=> ?_
 have hR:=ij (F:=F) (ρ:=ρ) (L:=lens M') (I:=I) (w:=w) (N:=N) (a:=a) args.toList (fun x hx=>ay hU x (by simpa[ho,Op.operands,Call.operands]using hx))
 rw[im ho]
 cases hl:args.toList with
 |nil=>cases mx<;>simp[hl,mB,vC,vD]at h
 |cons x r=>
  rw[hl]at h hR
  simp only[mB,List.map_cons]at h hR ⊢
  have h0:=hR.2 0 (by simp)
  simp at h0
  cases hx:ev F x with
  |int k n0=>
   rw[hx]at h h0
   have hv:=bH h0
   have hr:dp ρ (lens M') I w N (mB F r) (r.map a.eval):=⟨by simpa using hR.1,fun j hj=>by simpa using hR.2 (j+1) (by simpa using hj)⟩
   have ha:(args.map a.eval).toList= .int k n0::r.map a.eval:=by rw[Array.toList_map,hl,List.map_cons,hv]
   cases mx with
   |true=>
    obtain⟨n,h1,h2⟩:=oT (P:=P) _ _ n0 hr (by simpa[vD]using h)
    refine⟨.int k n,?_,by simp only[if_true,vD,h1]; exact .int _ _⟩
    simp only[if_true,builtin,Builtin.max_,ha,h2,Sem.run_bind,Result.andThen_ok,Sem.run_pure]
   |false=>
    obtain⟨n,h1,h2⟩:=oS (P:=P) _ _ n0 hr (by simpa[vC]using h)
    refine⟨.int k n,?_,by simp only[Bool.false_eq_true,if_false,vC,h1]; exact .int _ _⟩
    simp only[Bool.false_eq_true,if_false,builtin,Builtin.min_,ha,h2,Sem.run_bind,Result.andThen_ok,Sem.run_pure]
  |_=>rw[hx]at h; cases mx<;>simp[vC,vD]at h
theorem jg:∀a b:List AV,AV.aD (a++b)=AV.aD a++AV.aD b
 |[],b=>rfl
 |x::r,b=>by simp[AV.aD,jg r b]
theorem iq {n:Nat}:∀ {l:List Operand},n ∈ AV.aD (mB F l)→∃x ∈ l,n ∈ (ev F x).names
 |[],h=>by simp[mB,AV.aD]at h
 |x::r,h=>by
  simp only[mB,AV.aD,List.mem_append]at h
  rcases h with h|h
  ·exact⟨x,List.mem_cons_self,h⟩
  ·obtain⟨y,hy,hn⟩:=iq h
   exact⟨y,List.mem_cons_of_mem _ hy,hn⟩
theorem dp.append {ρ:Place} {L:bn} {I:Nat→Prop} {w:World} {N:Nat→Prop} {as bs:List AV} {vs us:List Value} (h:dp ρ L I w N as vs) (k:dp ρ L I w N bs us):dp ρ L I w N (as++bs) (vs++us):=by
 refine⟨by simp[h.1,k.1],fun j hj=> ?_⟩
 by_cases hl:j<as.length
 ·have e1:(as++bs).getD j .bad=as.getD j .bad:=by simp[List.getD_eq_getElem?_getD,List.getElem?_append_left hl]
  have e2:(vs++us).getD j default=vs.getD j default:=by simp[List.getD_eq_getElem?_getD,List.getElem?_append_left (show j<vs.length by rw[h.1]; exact hl)]
  rw[e1,e2]; exact h.2 j hl
 ·have e1:(as++bs).getD j .bad=bs.getD (j - as.length) .bad:=by simp[List.getD_eq_getElem?_getD,List.getElem?_append_right (Nat.le_of_not_lt hl)]
  have e2:(vs++us).getD j default=us.getD (j - as.length) default:=by simp[List.getD_eq_getElem?_getD,List.getElem?_append_right (show vs.length≤j by rw[h.1]; omega),h.1]
  rw[e1,e2]; exact k.2 _ (by simp at hj; omega)
theorem sY {f:Operand} {args:Array Operand} {ts:Array TypeId} {g:Nat} {aW:List AV} {av:AV} {ws:List (Nat × bu)} {nw:List Nat} (ho:o.op= .call {callee:= .value f,args:=args,argTypes:=ts}) (hf:ev F f= .bW (.fn g) aW)
  (hfn:∃fn,P.funcs[g]? =some fn∧(fn.name== "runtime.NumGoroutine")=false∧fn.body.isNone=false) (hc:oF P X g (mB F args.toList++aW) M av ws nw):bP P X o F M av ws nw:=by
 have hfo:f ∈ o.op.operands.toList:=by simp[ho,Op.operands,Call.operands]
 have hao:∀x ∈ args.toList,x ∈ o.op.operands.toList:=fun x hx=>by
  simp only[ho,Op.operands,Call.operands,Array.toList_append]
  exact List.mem_append_right _ hx
 have hnm:∀n ∈ AV.aD (mB F args.toList++aW),∃s ∈ dg o.op,n ∈ (look F s).names:=by
  intro n hn
  rw[jg,List.mem_append]at hn
  rcases hn with hn|hn
  ·obtain⟨x,hx,hn⟩:=iq hn
   exact bz x (hao x hx) hn
  ·exact bz f hfo (by rw[hf]; simpa[AV.names]using hn)
 refine⟨fun p hp=>(hc.1 p hp).imp id (hnm p.1),fun M' N ρ I a w hW hU hN hF=> ?_⟩
 have r1:=ay hU f hfo
 rw[hf]at r1
 generalize hv:a.eval f=v at r1
 cases r1 with
 |bW _ _ us hl hr=>
  have hR:=(ij (F:=F) (ρ:=ρ) (L:=lens M') (I:=I) (w:=w) (N:=N) (a:=a) args.toList (fun x hx=>ay hU x (hao x hx))).append (⟨hl,hr⟩:dp ρ (lens M') I w N aW us)
  have vJ:=hc.2 M' N ρ I w _ hW (fun n hn=>by obtain⟨s,hs,er⟩:=hnm n hn; exact hN s hs n er) hF hR
  obtain⟨fn,hfn,hname,hbody⟩:=hfn
  unfold bV
  have hrun:(execOp a.eval o).run P w= .ok (.enter g ((args.toList.map a.eval++us).toArray)) w:=by
   have e:(args.map a.eval)++us.toArray=(args.toList.map a.eval++us).toArray:=by apply Array.ext'; simp
   have l9:¬fn.name= "runtime.NumGoroutine" :=by simpa using hname
   have ma:¬fn.body=none:=by intro h; rw[h]at hbody; simp at hbody
   simp[execOp,ho,resolve,hv,Deferred.ofValue,invoke,callFunc,hfn,l9,ma,e]
  rw[hrun]
  exact⟨rfl,vJ⟩
theorem xT {f:Operand} {args:Array Operand} {ts:Array TypeId} {g:Nat} {aW:List AV} (ho:o.op= .call {callee:= .value f,args:=args,argTypes:=ts}) (hf:ev F f= .bW (.fn g) aW):∀n ∈ AV.aD (mB F args.toList++aW),∃s ∈ dg o.op,n ∈ (look F s).names:=by
 have hfo:f ∈ o.op.operands.toList:=by simp[ho,Op.operands,Call.operands]
 have hao:∀x ∈ args.toList,x ∈ o.op.operands.toList:=fun x hx=>by
  simp only[ho,Op.operands,Call.operands,Array.toList_append]
  exact List.mem_append_right _ hx
 intro n hn
 rw[jg,List.mem_append]at hn
 rcases hn with hn|hn
 ·obtain⟨x,hx,hn⟩:=iq hn
  exact bz x (hao x hx) hn
 ·exact bz f hfo (by rw[hf]; simpa[AV.names]using hn)
theorem xU {Rx:List Nat} {f:Operand} {args:Array Operand} {ts:Array TypeId} {g:Nat} {aW:List AV} {av:AV} {ws:List (Nat × bu)} {nw:List Nat} (ho:o.op= .call {callee:= .value f,args:=args,argTypes:=ts}) (hf:ev F f= .bW (.fn g) aW)
  (hfn:∃fn,P.funcs[g]? =some fn∧(fn.name== "runtime.NumGoroutine")=false∧fn.body.isNone=false) {Ry:List Nat} (hc:IC P X g (mB F args.toList++aW) Ry M av ws nw) (hy:∀n ∈ Ry,n ∈ Rx) (hx:∀s ∈ dg o.op,∀n ∈ (look F s).names,n ∈ Rx):oH P X o F M Rx av ws nw:=by
 have hfo:f ∈ o.op.operands.toList:=by simp[ho,Op.operands,Call.operands]
 have hao:∀x ∈ args.toList,x ∈ o.op.operands.toList:=fun x hx=>by
  simp only[ho,Op.operands,Call.operands,Array.toList_append]
  exact List.mem_append_right _ hx
 refine⟨fun p hp=>(hc.1 p hp).imp id (fun h=> .inr ⟨hy _ h.1,h.2⟩),.inl hx,fun M' N ρ I a w hW hU hN hF=> ?_⟩
 have r1:=ay hU f hfo
 rw[hf]at r1
 generalize hv:a.eval f=v at r1
 cases r1 with
 |bW _ _ us hl hr=>
  have hR:=(ij (F:=F) (ρ:=ρ) (L:=lens M') (I:=I) (w:=w) (N:=N) (a:=a) args.toList (fun x hx=>ay hU x (hao x hx))).append (⟨hl,hr⟩:dp ρ (lens M') I w N aW us)
  have vJ:=hc.2 M' N ρ I w _ hW (fun n hn=>hN n (hy n hn)) hF hR
  obtain⟨fn,hfn,hname,hbody⟩:=hfn
  unfold bV
  have hrun:(execOp a.eval o).run P w= .ok (.enter g ((args.toList.map a.eval++us).toArray)) w:=by
   have e:(args.map a.eval)++us.toArray=(args.toList.map a.eval++us).toArray:=by apply Array.ext'; simp
   have l9:¬fn.name= "runtime.NumGoroutine" :=by simpa using hname
   have ma:¬fn.body=none:=by intro h; rw[h]at hbody; simp at hbody
   simp[execOp,ho,resolve,hv,Deferred.ofValue,invoke,callFunc,hfn,l9,ma,e]
  rw[hrun]
  exact⟨rfl,vJ⟩
end Go.AM
namespace Go.AM
open Go.RowKit
variable {P:Program} {T:TT} {X:ct}
end Go.AM
namespace Go.AM
open Go.RowKit
variable {P:Program} {T:TT} {X:ct}
theorem vK {a:Act} {d:Option Nat} {v:Value} {F:bj} {av:AV} {i size:Nat} (hs:a.tmps.size=size) (hd:∀x,d=some x→x<size):
  (look (gB F d av) i=av∧(a.put d v).tmps.getD i undef=v)∨(look (gB F d av) i=look F i∧(a.put d v).tmps.getD i undef=a.tmps.getD i undef):=by
 cases d with
 |none=>exact .inr ⟨rfl,rfl⟩
 |some x=>
  by_cases h:i=x
  ·subst h
   left
   have:=hd i rfl
   refine⟨by simp[gB,look],?_⟩
   simp only[Act.put]
   rw[Array.getD_eq_getD_getElem?,Array.getElem?_setIfInBounds_self_of_lt (by omega)]
   rfl
  ·right
   have hb:(i==x)=false:=by simpa using h
   refine⟨by simp[gB,look,hb],?_⟩
   simp only[Act.put]
   rw[Array.getD_eq_getD_getElem?,Array.getElem?_setIfInBounds_ne (by omega),←Array.getD_eq_getD_getElem?]
theorem vM {o:Oper} {a:Act} {w:World} {M:bA} {N:Nat→Prop} {ρ:Place} {I:Nat→Prop} {av:AV} {ws:List (Nat × bu)} (hy:bV P X o a M N ρ I w av ws):∀c,o.op≠ .defer c:=by
 intro c ho
 unfold bV at hy
 simp only[execOp,ho,Sem.run_bind]at hy
 cases hr:(resolve a.eval c o.type).run P w with
 |ok d w1=>rw[hr]at hy; simp at hy
 |halt h w1=>rw[hr]at hy; simp at hy
theorem vN {o:Oper} {a:Act} {w w':World} {f:Nat} {vs:Array Value} (h:(execOp a.eval o).run P w= .ok (.enter f vs) w'):∀c,o.op≠ .defer c:=by
 intro c ho
 simp only[execOp,ho,Sem.run_bind]at h
 cases hr:(resolve a.eval c o.type).run P w with
 |ok d w1=>rw[hr]at h; simp at h
 |halt e w1=>rw[hr]at h; simp at h
theorem uy {b:Frame} {all:Array Oper} {i:Nat} {rest:List Nat} {k:List Item} {cs:List Frame} {o:Oper} {a:Act} {w:World} {M:bA} {N:Nat→Prop} {ρ:Place} {I:Nat→Prop} {av:AV} {ws:List (Nat × bu)}
  (ho:all[i]? =some o) (hw:Region.wanted o (yielded all a.tmps)=true) (hy:bV P X o a M N ρ I w av ws):
  ∃v w1,gC X M N ρ I w av ws v w1∧Steps P (lone (b.atR a (.inRegion all (i::rest)::k)) cs w) (lone (b.atR (a.put o.dst v) (.inRegion all rest::k)) cs w1):=by
 have hg:=stepGR_op (P:=P) (b:=b) (k:=k) (cs:=cs) (w:=w) (rest:=rest) ho hw
 rw[Oper.semAt_eq _ _ _ (vM hy)]at hg
 have uz:∀v,(b.atR a (.inRegion all (i::rest)::k)).finish v=b.atR (a.put o.dst v) (.inRegion all rest::k):=by
  intro v; rw[Frame.finish_atR,ho]; rfl
 unfold bV at hy
 split at hy
 ·rename_i v w' hr
  refine⟨v,w',hy,.one (step_lone_go ?_)⟩
  rw[hg,←uz]; simp[stepG.apply,hr]
 ·rename_i w' hr
  refine⟨undef,w',hy,.one (step_lone_go ?_)⟩
  rw[hg,←uz]; simp[stepG.apply,hr]
 ·rename_i f args w' hr
  obtain⟨rfl,hc⟩:=hy
  obtain⟨e,w'',fr,hR,qn,_,qo⟩:=hc (b.atR a (.inRegion all (i::rest)::k)::cs)
  obtain⟨v,rfl,hp⟩:=hR
  have jO:step P (lone (b.atR a (.inRegion all (i::rest)::k)) cs w')=
    .next (lone (Frame.enter P f args .normal) (b.atR a (.inRegion all (i::rest)::k)::cs) w'):=
   step_lone_go (by rw[hg]; simp[stepG.apply,hr,Frame.atR])
  refine⟨v,w'',hp,.head jO (qn.trans (.one ?_))⟩
  rw[←uz]; exact step_leave_returned qo
 ·exact hy.elim
theorem qp {all:Array Oper} {tmps:Array Value} {j s:Nat} (h:(all[j]?).bind (·.dst)=some s):yielded all tmps j=match tmps[s]? with|some (.bool b)=>some b|_=>none:=by
 unfold yielded; rw[h]; rfl
theorem AY {tmps:Array Value} {s:Nat} {t:Bool} (h:tmps.getD s undef= .bool t):tmps[s]? =some (.bool t):=by
 rw[Array.getD_eq_getD_getElem?]at h
 cases hh:tmps[s]? with
 |none=>rw[hh]at h; simp[undef]at h
 |some v=>rw[hh]at h; simpa using h
section
variable {V:Type}
def ov (g:Nat→Option V) (f:Nat→V):Nat→V:=fun k=>(g k).getD (f k)
def fl (gs:Nat→Nat→Option V) (L:Nat→Prop) [DecidablePred L]:Nat→(Nat→V)→Nat→V
 |0,f=>f
 |m+1,f=>if L m then ov (gs m) (fl gs L m f)else fl gs L m f
theorem ir {gs:Nat→Nat→Option V} {L L':Nat→Prop} [DecidablePred L] [DecidablePred L'] {f:Nat→V} {k:Nat}:∀ {m:Nat},(∀i,i<m→gs i k≠none→(L i↔L' i))→fl gs L m f k=fl gs L' m f k
 |0,_=>rfl
 |m+1,h=>by
  have ih:=ir (gs:=gs) (f:=f) (k:=k) (m:=m) (fun i hi=>h i (by omega))
  simp only[fl]
  cases hg:gs m k with
  |none=>
   have e1:(if L m then ov (gs m) (fl gs L m f)else fl gs L m f) k=fl gs L m f k:=by split<;>simp[ov,hg]
   have e2:(if L' m then ov (gs m) (fl gs L' m f)else fl gs L' m f) k=fl gs L' m f k:=by split<;>simp[ov,hg]
   rw[e1,e2,ih]
  |some v=>
   have hh:=h m (by omega) (by rw[hg]; simp)
   by_cases hl:L m
   ·rw[if_pos hl,if_pos (hh.1 hl)]; simp[ov,hg]
   ·rw[if_neg hl,if_neg (fun h=>hl (hh.2 h))]; exact ih
theorem xV {gs:Nat→Nat→Option V} {L L':Nat→Prop} [DecidablePred L] [DecidablePred L'] {f:Nat→V} {k j:Nat} (hL:∀i,L' i↔(i=j∨L i)) (hj:¬L j):∀ {m:Nat},j<m→(∀i,i<m→i≠j→gs j k≠none→gs i k≠none→L i→i<j)→
  fl gs L' m f k=(gs j k).getD (fl gs L m f k)
 |0,h,_=>by omega
 |m+1,hm,h=>by
  have hne:∀i,i≠j→(L' i↔L i):=fun i hi=>by rw[hL]; exact⟨fun h=>h.elim (fun e=>(hi e).elim) id,.inr⟩
  simp only[fl]
  by_cases e:j=m
  ·subst e
   have h1:fl gs L' j f k=fl gs L j f k:=ir (fun i hi _=>hne i (by omega))
   rw[if_pos ((hL j).2 (.inl rfl)),if_neg hj]
   simp only[ov,h1]
  ·have ih:=xV (gs:=gs) (f:=f) (k:=k) hL hj (m:=m) (by omega) (fun i hi=>h i (by omega))
   have Yx:L' m↔L m:=hne m (fun h=>e h.symm)
   by_cases hl:L m
   ·rw[if_pos (Yx.2 hl),if_pos hl]
    simp only[ov]
    cases hg:gs m k with
    |none=>simpa using ih
    |some v=>
     cases ZO:gs j k with
     |none=>simp
     |some u=>
      have:=h m (by omega) (by omega) (by rw[ZO]; simp) (by rw[hg]; simp) hl
      omega
   ·rw[if_neg (fun h=>hl (Yx.1 h)),if_neg hl]; exact ih
end
def CI (ops:Array Oper) (i j:Nat):Prop:=∃o e,ops[j]? =some o∧e ∈ o.after.toList∧Region.binds .any e=true∧e.on=i
def fU (ops:Array Oper) (L:Nat→Prop):Prop:=∀i j,CI ops i j→L j→L i
def gE (ops:Array Oper) (i j:Nat):Prop:=∀L:Nat→Prop,fU ops L→(∀k,CI ops k j→L k)→L i
theorem kA:∀ (r:List Oper) (i:Nat),qe i r=true→∀k o,r[k]? =some o→∀e ∈ o.after.toList,Region.binds .any e=true→e.on<i+k
 |[],i,_,k,o,h=>by simp at h
 |x::r,i,hb,k,o,h=>by
  simp only[qe,Bool.and_eq_true]at hb
  intro e he Gk
  cases k with
  |zero=>
   simp only[List.getElem?_cons_zero,Option.some.injEq]at h
   subst h
   have:=List.all_eq_true.1 hb.1 e he
   simp only[Gk,Bool.not_true,Bool.false_or]at this
   rw[Nat.blt_eq]at this
   omega
  |succ k=>
   have:=kA r (i+1) hb.2 k o (by simpa using h) e he Gk
   omega
theorem mb {acc:List Nat} {i:Nat}:∀ {es:List Edge},(oG acc es).testBit i=true→∃e ∈ es,Region.binds .any e=true∧(e.on=i∨(acc.getD e.on 0).testBit i=true)
 |[],h=>by simp[oG]at h
 |e::r,h=>by
  simp only[oG]at h
  cases hb:Region.binds .any e with
  |true=>
   rw[hb]at h
   simp only[cond_true,Nat.testBit_or,Bool.or_eq_true]at h
   rcases h with (h|h)|h
   ·exact⟨e,List.mem_cons_self,hb,.inl (by simpa[Nat.testBit_two_pow]using h)⟩
   ·exact⟨e,List.mem_cons_self,hb,.inr h⟩
   ·obtain⟨e',h1,h2⟩:=mb h
    exact⟨e',List.mem_cons_of_mem _ h1,h2⟩
  |false=>
   rw[hb]at h
   obtain⟨e',h1,h2⟩:=mb h
   exact⟨e',List.mem_cons_of_mem _ h1,h2⟩
theorem qq {ops:Array Oper}:∀ (r:List Oper) (acc:List Nat),r=ops.toList.drop acc.length→(∀k i,(acc.getD k 0).testBit i=true→gE ops i k)→∀k i,((iP r acc).getD k 0).testBit i=true→gE ops i k
 |[],acc,_,h,k,i,hb=>h k i hb
 |o::r,acc,hr,h,k,i,hb=>by
  have ho:ops[acc.length]? =some o:=by
   have:(ops.toList.drop acc.length)[0]? =some o:=by rw[←hr]; rfl
   simpa using this
  have hr':r=ops.toList.drop (acc.length+1):=by
   have:(o::r).drop 1=(ops.toList.drop acc.length).drop 1:=by rw[hr]
   simpa[List.drop_drop]using this
  refine qq r (acc++ [oG acc o.after.toList]) (by simpa using hr') (fun k i hb=> ?_) k i hb
  by_cases hk:k<acc.length
  ·exact h k i (by simpa[List.getD_eq_getElem?_getD,List.getElem?_append_left hk]using hb)
  ·by_cases hk2:k=acc.length
   ·subst hk2
    have:(oG acc o.after.toList).testBit i=true:=by simpa[List.getD_eq_getElem?_getD]using hb
    obtain⟨e,he,Gk,h1|h1⟩:=mb this
    ·exact fun L _ hp=>hp i ⟨o,e,ho,he,Gk,h1⟩
    ·exact fun L hc hp=>h e.on i h1 L hc (fun k' hk'=>hc _ _ hk' (hp e.on ⟨o,e,ho,he,Gk,rfl⟩))
   ·rw[List.getD_eq_getElem?_getD,List.getElem?_eq_none (by simp; omega)]at hb
    simp at hb
structure xW where
 F:bj
 M:Mem
 lo:Nat
 run:Bool
 av:AV
 ws:List (Nat × bu)
 nw:List Nat
 W:List Nat
 R:List Nat
 k:Nat
def lf (ops:Array Oper) (o:Oper) (F:bj) (run:Bool):Prop:=
 match o.guard with
 |none=>run=true
 |some (j,want)=>∃s,(ops[j]?).bind (·.dst)=some s∧((run=true∧look F s= .bool want)∨(run=false∧(look F s= .bool (!want)∨look F s= .aU [])))
def xX (log:List fj) (x:fj):Prop:=x ∈ log∨(x.R=[]∧x.W=[]∧x.lo=x.hi)
structure C6 (P:Program) (X:ct) (ops:Array Oper) (ce:List fj) (E:Nat→xW) (j:Nat) (o:Oper):Prop where
 guard:lf ops o (E j).F (E j).run
 nU:(E j).run=true→oH P X o (E j).F (ae (E j).M) (E j).R (E j).av (E j).ws (E j).nw
 wn:∀p ∈ (E j).ws,p.1 ∈ (E j).nw∨p.1 ∈ (E j).W
 skip:(E j).run=false→(E j).av= .aU []∧(E j).ws=[]∧(E j).nw=[]
 le:(E j).lo≤(E (j+1)).lo
 nw:∀n ∈ (E j).nw,(E j).lo≤n∧n< (E (j+1)).lo
 F:look (E (j+1)).F=look (gB (E j).F o.dst (E j).av)
 M:ae (E (j+1)).M=ae (cL (E j).M (E j).ws)
 log:(E j).run=true→xX ce ⟨j,(E j).R,(E j).W,(E j).lo,(E (j+1)).lo,(E j).k⟩
 Ua:(E j).run=true→(E j).k=1→lG P X o (E j).F (ae (E j).M) (E j).av∧(E j).ws=[]
 Yy:(E j).run=true→(E j).k=2→∀p ∈ (E j).ws,lens (ae (E j).M) p.1=some (p.2.ln,p.2.sz)
 Ub:(E j).run=true→(E j).k=3→mE P X o (E j).F (ae (E j).M) (E j).av∧(E j).ws=[]
 II:(E j).run=true→(E j).k=4→∀p ∈ (E j).ws,Vw (ae (E j).M p.1)=Vw (some p.2)
theorem vO {log ce:List fj} {i:Nat} {R W:List Nat} {lo hi k:Nat} (h:∀x ∈ CW i R W lo hi k log,x ∈ ce):xX ce ⟨i,R,W,lo,hi,k⟩:=by
 unfold CW at h
 cases hc:(R.isEmpty&&W.isEmpty)&&lo==hi with
 |true=>
  simp only[Bool.and_eq_true,List.isEmpty_iff,beq_iff_eq]at hc
  exact .inr ⟨hc.1.1,hc.1.2,hc.2⟩
 |false=>rw[hc]at h; exact .inl (h _ List.mem_cons_self)
theorem C7 {log:List fj} {i:Nat} {R W:List Nat} {lo hi k:Nat}:∀x ∈ log,x ∈ CW i R W lo hi k log:=by
 intro x hx
 unfold CW
 cases (R.isEmpty&&W.isEmpty)&&lo==hi
 ·exact List.mem_cons_of_mem _ hx
 ·exact hx
theorem jP {F:bj} {s:Nat} {v:AV} (h:look F s=v):look ((s,v)::F)=look F:=by
 funext i
 by_cases e:i=s
 ·subst e; simp[look,h]
 ·have:(i==s)=false:=by simpa using e
  simp[look,this]
end Go.AM
namespace Go.AM
open Go.RowKit
variable {P:Program} {T:TT} {X:ct}
theorem dr:∀ {cs:List AV} {m:Nat},m ∈ AV.aD cs→∃j,j<cs.length∧m ∈ (cs.getD j .bad).names
 |[],_,h=>by simp[AV.aD]at h
 |c::cs,m,h=>by
  simp only[AV.aD,List.mem_append]at h
  rcases h with h|h
  ·exact⟨0,by simp,by simpa using h⟩
  ·obtain⟨j,hj,hm⟩:=dr h
   exact⟨j+1,by simpa using hj,by simpa using hm⟩
theorem jv {ρ:Place} {L:bn} {I:Nat→Prop} {w:World} {N:Nat→Prop} {a:AV} {v:Value} (h:aS ρ L I w N a v):∀m ∈ a.names,N m:=by
 induction h with
 |loc n len i off v hn h1 h=>intro m hm; simp[AV.names]at hm; exact hm ▸ hn
 |bh n len v hn h1 h=>intro m hm; simp[AV.names]at hm; exact hm ▸ hn
 |dP n len i off ca v hn h1 h=>intro m hm; simp[AV.names]at hm; exact hm ▸ hn
 |omap n v hn h1 h=>intro m hm; simp[AV.names]at hm; exact hm ▸ hn
 |oE f aW vs hl hr ih=>intro m hm; obtain⟨j,hj,hm⟩:=dr (by simpa[AV.names]using hm); exact ih j hj m hm
 |bW f aW vs hl hr ih=>intro m hm; obtain⟨j,hj,hm⟩:=dr (by simpa[AV.names]using hm); exact ih j hj m hm
 |agg cs vs hl h1 hr ih=>intro m hm; obtain⟨j,hj,hm⟩:=dr (by simpa[AV.names]using hm); exact ih j hj m hm
 |aU cs vs hl hr ih=>intro m hm; obtain⟨j,hj,hm⟩:=dr (by simpa[AV.names]using hm); exact ih j hj m hm
 |_=>intro m hm; simp[AV.names]at hm
theorem cY.lJ {ρ:Place} {I:Nat→Prop} {M:bA} {N N':Nat→Prop} {w:World} (W:cY X ρ I M N w) (hN:∀m,N m→N' m):cY X ρ I M N' w:=by
 refine⟨fun n b hb=> ?_,W.inj,W.nN,W.lt,W.old,W.keeps,fun n hn=>hN n (W.pn n hn),W.CR,W.par⟩
 have B:=W.bg n b hb
 refine⟨hN n B.lt,B.even,B.dY,fun g cap hρ=> ?_,B.iter⟩
 obtain⟨cs,fr,hc1,AN,jK,xE,zC,xH,AO,AP⟩:=B.real g cap hρ
 refine⟨cs,fr,hc1,AN,jK,xE,zC,xH,AO,fun i j hi hj=> ?_⟩
 obtain⟨u,hu,nK,hr⟩:=AP i j hi hj
 exact⟨u,hu,nK,hr.wide hN⟩
def sm:List (Nat × bu)→Nat→Option (Option bu)
 |[],_=>none
 |(n,b)::r,k=>match sm r k with
  |some x=>some x
  |none=>if k=n then some (some b)else none
theorem lg:∀ (ws:List (Nat × bu)) (M:bA),df M ws=ov (sm ws) M
 |[],M=>by funext k; rfl
 |(n,b)::r,M=>by
  funext k
  simp only[df,lg r,ov,sm]
  cases hw:sm r k with
  |some x=>simp
  |none=>by_cases h:k=n<;>simp[cQ,h]
theorem pT:∀ {ws:List (Nat × bu)} {k:Nat},sm ws k≠none→∃p ∈ ws,p.1=k
 |[],k,h=>by simp[sm]at h
 |(n,b)::r,k,h=>by
  simp only[sm]at h
  cases hw:sm r k with
  |some x=>obtain⟨p,h1,h2⟩:=pT (ws:=r) (k:=k) (by rw[hw]; simp); exact⟨p,List.mem_cons_of_mem _ h1,h2⟩
  |none=>
   rw[hw]at h
   by_cases e:k=n
   ·exact⟨_,List.mem_cons_self,e.symm⟩
   ·simp[e]at h
def so (d:Option Nat) (av:AV) (k:Nat):Option AV:=match d with
 |some d=>if k=d then some av else none
 |none=>none
theorem AZ (F:bj) (d:Option Nat) (av:AV):look (gB F d av)=ov (so d av) (look F):=by
 funext k
 cases d with
 |none=>rfl
 |some d=>
  by_cases h:k=d
  ·subst h; simp[gB,look,ov,so]
  ·have:(k==d)=false:=by simpa using h
   simp[gB,look,ov,so,h,this]
theorem C8 {V:Type} {gs:Nat→Nat→Option V} {f:Nat→V} {k j:Nat}:∀ {m:Nat},j≤m→fl gs (· <j) m f k=fl gs (fun _=>True) j f k
 |0,h=>by have:j=0:=by omega
          subst this; rfl
 |m+1,h=>by
  by_cases e:j=m+1
  ·subst e
   exact ir (fun i hi _=>by simp[hi])
  ·have ih:=C8 (gs:=gs) (f:=f) (k:=k) (j:=j) (m:=m) (by omega)
   simp only[fl]
   rw[if_neg (by omega)]
   exact ih
theorem vP {a:Act} {d:Option Nat} {v:Value} {s size:Nat} (hs:a.tmps.size=size) (hd:∀x,d=some x→x<size):(a.put d v).tmps.getD s undef=if d=some s then v else a.tmps.getD s undef:=by
 cases d with
 |none=>simp[Act.put]
 |some x=>
  by_cases h:x=s
  ·subst h
   have:=hd x rfl
   simp only[Act.put,if_pos]
   rw[Array.getD_eq_getD_getElem?,Array.getElem?_setIfInBounds_self_of_lt (by omega)]
   rfl
  ·have h':¬ (some x=some s):=by simpa using h
   rw[if_neg h']
   simp only[Act.put]
   rw[Array.getD_eq_getD_getElem?,Array.getElem?_setIfInBounds_ne h,←Array.getD_eq_getD_getElem?]
section
variable {ops:Array Oper} {E:Nat→xW} {S:St} {ce:List fj}
def gF (ops:Array Oper) (E:Nat→xW) (j:Nat):Nat→Option AV:=so ((ops[j]?).bind (·.dst)) (E j).av
def gM (E:Nat→xW) (j:Nat):Nat→Option (Option bu):=sm (E j).ws
structure bB (P:Program) (X:ct) (ops:Array Oper) (E:Nat→xW) (S:St) (ce:List fj):Prop where
 Uc:uo ops ce=true
 draw:nT ops=true
 F0:look (E 0).F=look S.F
 M0:(E 0).M=S.M
 Ud:(E 0).lo=S.nx
 ok:∀ (j:Nat) (o:Oper),ops[j]? =some o→C6 P X ops ce E j o
 size:∀ (j:Nat) (o:Oper),ops[j]? =some o→∀d,o.dst=some d→d<X.size
theorem bB.C9 (h:bB P X ops E S ce):∀j,j≤ops.size→fl (gF ops E) (fun _=>True) j (look S.F)=look (E j).F
 |0,_=>h.F0.symm
 |j+1,hj=>by
  have ho:ops[j]? =some ops[j]:=Array.getElem?_eq_getElem (by omega)
  have R:=h.ok j _ ho
  rw[R.F,AZ]
  simp only[fl,if_true]
  rw[h.C9 j (by omega)]
  simp only[gF,ho,Option.bind_some]
theorem bB.qt (h:bB P X ops E S ce):∀j,j≤ops.size→fl (gM E) (fun _=>True) j (ae S.M)=ae (E j).M
 |0,_=>by rw[h.M0]; rfl
 |j+1,hj=>by
  have ho:ops[j]? =some ops[j]:=Array.getElem?_eq_getElem (by omega)
  have R:=h.ok j _ ho
  rw[R.M,ig,lg]
  simp only[fl,if_true]
  rw[h.qt j (by omega)]
  rfl
theorem bB.lo (h:bB P X ops E S ce) {i:Nat}:∀ {j:Nat},i≤j→j≤ops.size→(E i).lo≤(E j).lo
 |0,hij,_=>by have:i=0:=by omega
              subst this; exact Nat.le_refl _
 |j+1,hij,hj=>by
  by_cases e:i=j+1
  ·subst e; exact Nat.le_refl _
  ·have ho:ops[j]? =some ops[j]:=Array.getElem?_eq_getElem (by omega)
   exact Nat.le_trans (h.lo (i:=i) (j:=j) (by omega) (by omega)) (h.ok j _ ho).le
theorem bB.dir (h:bB P X ops E S ce) {i j:Nat} (hd:CI ops i j):i<j:=by
 obtain⟨o,e,ho,he,hb,rfl⟩:=hd
 have:=h.draw
 simp only[nT,Bool.and_eq_true]at this
 have:=kA _ 0 this.1 j o (by simpa using ho) e he hb
 omega
theorem bB.fV (h:bB P X ops E S ce) {i j:Nat} (hb:gE ops i j):i<j:=
 hb (· <j) (fun a b hd hb=>by have:=h.dir hd; omega) (fun k hk=>h.dir hk)
theorem iW {i j:Nat} (h:((iP ops.toList []).getD j 0).testBit i=true):gE ops i j:=
 qq ops.toList [] (by simp) (fun k i h=>by simp at h) j i h
theorem bB.apart (h:bB P X ops E S ce) {i j:Nat} {x y:Oper} (hi:ops[i]? =some x) (hj:ops[j]? =some y) (hij:i<j):gE ops i j∨x.apart ops y=true:=by
 have:=h.draw
 simp only[nT,Bool.and_eq_true,zD]at this
 have hj':=(Array.getElem?_eq_some_iff.1 hj).1
 have h1:=List.all_eq_true.1 this.2 j (List.mem_range.2 hj')
 have h2:=List.all_eq_true.1 h1 i (List.mem_range.2 hij)
 rw[hi,hj]at h2
 rw[Bool.or_eq_true]at h2
 rcases h2 with h|h
 ·exact .inl (iW h)
 ·exact .inr h
theorem uA {i k:Nat} (h:gF ops E i k≠none):∃o,ops[i]? =some o∧o.dst=some k:=by
 unfold gF at h
 cases ho:ops[i]? with
 |none=>rw[ho]at h; simp[so]at h
 |some o=>
  refine⟨o,rfl,?_⟩
  rw[ho]at h
  simp only[Option.bind_some]at h
  cases hd:o.dst with
  |none=>rw[hd]at h; simp[so]at h
  |some d=>
   rw[hd]at h
   by_cases e:k=d
   ·rw[e]
   ·simp[so,e]at h
theorem bB.slot (h:bB P X ops E S ce) {L:Nat→Prop} [DecidablePred L] (hc:fU ops L) {j:Nat} {o:Oper} (ho:ops[j]? =some o) (hj:¬L j) (hp:∀k,CI ops k j→L k) {s:Nat} (hs:s ∈ o.looksAt ops):
  fl (gF ops E) L ops.size (look S.F) s=look (E j).F s:=by
 have FZ:=(Array.getElem?_eq_some_iff.1 ho).1
 rw[←h.C9 j (by omega),←C8 (m:=ops.size) (by omega)]
 refine ir fun i hi hg=> ?_
 obtain⟨x,hx,hd⟩:=uA hg
 rcases Nat.lt_trichotomy i j with hij|hij|hij
 ·rcases h.apart hx ho hij with hb|hb
  ·exact⟨fun _=>hij,fun _=>hb L hc hp⟩
  ·exact ((Oper.apart_spec hb).1 s hd hs).elim
 ·subst hij; exact⟨fun h=>(hj h).elim,fun h=>by omega⟩
 ·rcases h.apart ho hx hij with hb|hb
  ·exact⟨fun hl=>(hj (hb L hc (fun k hk=>hc k i hk hl))).elim,fun h=>by omega⟩
  ·exact ((Oper.apart_spec hb).2.2 s hd hs).elim
theorem bB.Gl (h:bB P X ops E S ce) {L:Nat→Prop} (hc:fU ops L) {j:Nat} {o:Oper} (ho:ops[j]? =some o) (hj:¬L j) {k i:Nat} (hij:i≠j) (h1:gF ops E j k≠none) (h2:gF ops E i k≠none) (hl:L i):i<j:=by
 obtain⟨x,hx,hd⟩:=uA h2
 obtain⟨y,hy,zI⟩:=uA h1
 rcases Nat.lt_trichotomy i j with h3|h3|h3
 ·exact h3
 ·omega
 ·rcases h.apart hy hx h3 with hb|hb
  ·exact (hj (hb L hc (fun k hk=>hc k i hk hl))).elim
  ·exact ((Oper.apart_spec hb).2.1 k zI hd).elim
theorem sZ {lo hi:Nat} {R W:List Nat} (h:JC lo hi R W=true) {n:Nat} (hn:n ∈ R):¬ (lo≤n∧n<hi)∧n ∉ W:=by
 have:=List.all_eq_true.1 h n hn
 simp only[Bool.and_eq_true,Bool.not_eq_true',Bool.and_eq_false_iff,List.any_eq_false]at this
 refine⟨?_,fun hw=> ?_⟩
 ·rintro⟨h1,h2⟩
  rcases this.1 with h3|h3
  ·have:=Nat.ble_eq_true_of_le h1; rw[h3]at this; simp at this
  ·have Oa:Nat.blt n hi=true:=by rw[Nat.blt_eq]; exact h2
   rw[h3]at Oa; simp at Oa
 ·exact this.2 n hw (Nat.beq_refl n)
def C' (E:Nat→xW) (ce:List fj) (j:Nat):Prop:=kq ce ⟨j,(E j).R,(E j).W,(E j).lo,(E (j+1)).lo,(E j).k⟩=true
def KP (E:Nat→xW) (i j:Nat):Prop:=((E i).k=3∧(E j).k=4)∨((E i).k=4∧(E j).k=3)
theorem bB.pair (h:bB P X ops E S ce) {i j:Nat} {x y:Oper} (hi:ops[i]? =some x) (hj:ops[j]? =some y) (hij:i≠j) (ri:(E i).run=true) (rj:(E j).run=true) (ni:¬C' E ce i) (nj:¬C' E ce j):
  gE ops i j∨gE ops j i∨KP E i j∨(∀n,(∃p ∈ (E i).ws,p.1=n)→n ∉ (E j).R)∧(∀n,(∃p ∈ (E i).ws,p.1=n)→(∃p ∈ (E j).ws,p.1=n)→False):=by
 have Ri:=h.ok i x hi
 have Rj:=h.ok j y hj
 have hi':=(Array.getElem?_eq_some_iff.1 hi).1
 have hj':=(Array.getElem?_eq_some_iff.1 hj).1
 have li:=Ri.log ri
 have lj:=Rj.log rj
 have key:gE ops i j∨gE ops j i∨KP E i j∨((∀n ∈ (E j).R,¬ ((E i).lo≤n∧n< (E (i+1)).lo)∧n ∉ (E i).W)∧(∀n ∈ (E i).R,¬ ((E j).lo≤n∧n< (E (j+1)).lo)∧n ∉ (E j).W)):=by
  rcases li with li|⟨hR,hW,hlo⟩
  ·rcases lj with lj|⟨NE,Yz,Ue⟩
   ·have h1:=List.all_eq_true.1 (List.all_eq_true.1 h.Uc _ li) _ lj
    simp only[Bool.or_eq_true,Nat.beq_eq_true_eq]at h1
    rcases h1 with ((((h1|h1)|h1)|h1)|h1)|h1
    ·exact (hij (Nat.eq_of_beq_eq_true h1)).elim
    rotate_left
    ·exact (ni h1).elim
    ·exact (nj h1).elim
    ·simp only[AR,Bool.and_eq_true]at h1
     exact .inr (.inr (.inl (.inl ⟨Nat.eq_of_beq_eq_true h1.1,Nat.eq_of_beq_eq_true h1.2⟩)))
    ·simp only[AR,Bool.and_eq_true]at h1
     exact .inr (.inr (.inl (.inr ⟨Nat.eq_of_beq_eq_true h1.2,Nat.eq_of_beq_eq_true h1.1⟩)))
    ·simp only[xL,Bool.or_eq_true,Bool.and_eq_true]at h1
     rcases h1 with (h1|h1)|⟨h1,h2⟩
     ·exact .inr (.inl (iW h1))
     ·exact .inl (iW h1)
     ·exact .inr (.inr (.inr ⟨fun n hn=>sZ h1 hn,fun n hn=>sZ h2 hn⟩))
   ·refine .inr (.inr (.inr ⟨fun n hn=> ?_,fun n hn=> ?_⟩))
    ·simp only at NE; rw[NE]at hn; simp at hn
    ·simp only at Yz Ue; rw[Yz]; exact⟨by omega,by simp⟩
  ·refine .inr (.inr (.inr ⟨fun n hn=> ?_,fun n hn=> ?_⟩))
   ·simp only at hW hlo; rw[hW]; exact⟨by omega,by simp⟩
   ·simp only at hR; rw[hR]at hn; simp at hn
 rcases key with h1|h1|h1|⟨k1,k2⟩
 ·exact .inl h1
 ·exact .inr (.inl h1)
 ·exact .inr (.inr (.inl h1))
 refine .inr (.inr (.inr ⟨fun n ⟨p,hp,hn⟩ hr=> ?_,fun n ⟨p,hp,hn⟩ ⟨q,hq,hn'⟩=> ?_⟩))
 ·subst hn
  rcases Ri.wn p hp with hw|hw
  ·exact (k1 _ hr).1 (Ri.nw _ hw)
  ·exact (k1 _ hr).2 hw
 ·subst hn
  have aZ:p.1 ∈ (E i).nw∨p.1 ∈ (E i).R:=by
   rcases (Ri.nU ri).1 p hp with hv|⟨s',hs',hv⟩|⟨hv,_⟩
   ·exact .inl hv
   ·rcases (Ri.nU ri).2.1 with h2|⟨h2,_⟩
    ·exact .inr (h2 s' hs' _ hv)
    ·rw[h2]at hp; simp at hp
   ·exact .inr hv
  have ZP:q.1 ∈ (E j).nw∨q.1 ∈ (E j).R:=by
   rcases (Rj.nU rj).1 q hq with hv|⟨s',hs',hv⟩|⟨hv,_⟩
   ·exact .inl hv
   ·rcases (Rj.nU rj).2.1 with h2|⟨h2,_⟩
    ·exact .inr (h2 s' hs' _ hv)
    ·rw[h2]at hq; simp at hq
   ·exact .inr hv
  rcases ZP with hw|hw
  ·rw[hn']at hw
   rcases aZ with hv|hv
   ·have a1:=Ri.nw _ hv
    have a2:=Rj.nw _ hw
    rcases Nat.lt_or_gt_of_ne hij with hlt|hlt
    ·have:=h.lo (i:=i+1) (j:=j) (by omega) (by omega); omega
    ·have:=h.lo (i:=j+1) (j:=i) (by omega) (by omega); omega
   ·exact (k2 _ hv).1 (Rj.nw _ hw)
  ·rw[hn']at hw
   rcases Ri.wn p hp with hv|hv
   ·exact (k1 _ hw).1 (Ri.nw _ hv)
   ·exact (k1 _ hw).2 hv
theorem bB.runs (h:bB P X ops E S ce) {i:Nat} {k:Nat} (hi:i<ops.size) (hg:gM E i k≠none):∃x,ops[i]? =some x∧(E i).run=true∧∃p ∈ (E i).ws,p.1=k:=by
 have ho:ops[i]? =some ops[i]:=Array.getElem?_eq_getElem hi
 have hp:=pT hg
 refine⟨_,ho,?_,hp⟩
 cases hr:(E i).run with
 |true=>rfl
 |false=>
  obtain⟨_,h2,_⟩:=(h.ok i _ ho).skip hr
  rw[h2]at hp
  simp at hp
theorem bB.xY (h:bB P X ops E S ce) {i n:Nat} {x:Oper} (hx:ops[i]? =some x) (hr:(E i).run=true) (hw:∃p ∈ (E i).ws,p.1=n):¬C' E ce i:=by
 intro ha
 unfold C' kq at ha
 simp only[Bool.and_eq_true]at ha
 have:=((h.ok i x hx).Ua hr (Nat.eq_of_beq_eq_true ha.1)).2
 rw[this]at hw
 simp at hw
theorem pU:∀ {ws:List (Nat × bu)} {k:Nat} {v:Option bu},sm ws k=some v→∃p ∈ ws,p.1=k∧v=some p.2
 |[],k,v,h=>by simp[sm]at h
 |(n,b)::r,k,v,h=>by
  simp only[sm]at h
  cases hw:sm r k with
  |some x=>
   rw[hw]at h
   obtain⟨p,h1,h2,h3⟩:=pU (ws:=r) hw
   simp only[Option.some.injEq]at h
   exact⟨p,List.mem_cons_of_mem _ h1,h2,by rw[←h]; exact h3⟩
  |none=>
   rw[hw]at h
   by_cases e:k=n
   ·simp[e]at h
    exact⟨_,List.mem_cons_self,e.symm,h.symm⟩
   ·simp[e]at h
theorem bB.shape (h:bB P X ops E S ce) {j n:Nat} (ha:C' E ce j) (hn:n ∈ (E j).R):∀ (m:Nat),m≤ops.size→∀ (L:Nat→Prop) [DecidablePred L],lens (fl (gM E) L m (ae S.M)) n=lens (ae S.M) n
 |0,_,L,_=>rfl
 |m+1,hm,L,_=>by
  have ih:=h.shape ha hn m (by omega) L
  simp only[fl]
  split
  ·cases hg:gM E m n with
   |none=>
    have e:ov (gM E m) (fl (gM E) L m (ae S.M)) n=fl (gM E) L m (ae S.M) n:=by simp[ov,hg]
    unfold lens at ih ⊢
    rw[e]; exact ih
   |some v=>
    obtain⟨p,hp,Gm,hv⟩:=pU hg
    obtain⟨x,hx,s4,_⟩:=h.runs (i:=m) (k:=n) (by omega) (by rw[hg]; simp)
    have Rm:=h.ok m x hx
    have hall:∀y ∈ ce,n<y.lo∧(y.k=2∨n ∉ y.W):=fun y hy=>by
     have ha:=ha
     unfold C' kq at ha
     simp only[Bool.and_eq_true]at ha
     have h1:=List.all_eq_true.1 (List.all_eq_true.1 ha.2 y hy) n hn
     simp only[Bool.and_eq_true,Bool.or_eq_true,Bool.not_eq_true',List.any_eq_false]at h1
     refine⟨by simpa[Nat.blt_eq]using h1.1,h1.2.imp (fun h=>Nat.eq_of_beq_eq_true h) fun h hw=>h n hw (Nat.beq_refl n)⟩
    have hwn:=Rm.wn p hp
    rw[Gm]at hwn
    have hk2:(E m).k=2:=by
     rcases Rm.log s4 with hl|⟨_,hW,hlo⟩
     ·obtain⟨h1,h2⟩:=hall _ hl
      simp only at h1 h2
      rcases hwn with hw|hw
      ·have:=Rm.nw n hw; omega
      ·exact h2.resolve_right fun h=>h hw
     ·simp only at hW hlo
      rcases hwn with hw|hw
      ·have:=Rm.nw n hw; omega
      ·rw[hW]at hw; simp at hw
    have hs:=Rm.Yy s4 hk2 p hp
    rw[Gm,←h.qt m (by omega),h.shape ha hn m (by omega) (fun _=>True)]at hs
    have e:ov (gM E m) (fl (gM E) L m (ae S.M)) n=some p.2:=by simp[ov,hg,hv]
    rw[hs]
    rw[aH]
    exact⟨p.2,e,rfl,rfl⟩
  ·exact ih
theorem bB.IJ (h:bB P X ops E S ce) {i n:Nat} {x:Oper} (hx:ops[i]? =some x) (hr:(E i).run=true) (h3:(E i).k=3) (hw:∃p ∈ (E i).ws,p.1=n):False:=by
 rw[((h.ok i x hx).Ub hr h3).2]at hw
 simp at hw
theorem bB.mem (h:bB P X ops E S ce) {L:Nat→Prop} [DecidablePred L] (hc:fU ops L) {j:Nat} {o:Oper} (ho:ops[j]? =some o) (hj:¬L j) (hp:∀k,CI ops k j→L k) (hr:(E j).run=true) (nj:¬C' E ce j) (n3:(E j).k≠3) {n:Nat} (hn:n ∈ (E j).R):
  fl (gM E) L ops.size (ae S.M) n=ae (E j).M n:=by
 have FZ:=(Array.getElem?_eq_some_iff.1 ho).1
 rw[←h.qt j (by omega),←C8 (m:=ops.size) (by omega)]
 refine ir fun i hi hg=> ?_
 obtain⟨x,hx,s4,hk⟩:=h.runs hi hg
 by_cases hij:i=j
 ·subst hij; exact⟨fun h=>(hj h).elim,fun h=>by omega⟩
 rcases h.pair hx ho hij s4 hr (h.xY hx s4 hk) nj with hb|hb|hb|⟨hb,_⟩
 ·exact⟨fun _=>h.fV hb,fun _=>hb L hc hp⟩
 ·have:=h.fV hb
  exact⟨fun hl=>(hj (hb L hc (fun k hk=>hc k i hk hl))).elim,fun h=>by omega⟩
 ·rcases hb with⟨hb,_⟩|⟨_,hb⟩
  ·exact (h.IJ hx s4 hb hk).elim
  ·exact (n3 hb).elim
 ·exact (hb n hk hn).elim
theorem bB.JO (h:bB P X ops E S ce) {L:Nat→Prop} (hc:fU ops L) {j:Nat} (FZ:j<ops.size) (hj:¬L j) {k i:Nat} (hi:i<ops.size) (hij:i≠j) (h1:gM E j k≠none) (h2:gM E i k≠none) (hl:L i):i<j:=by
 obtain⟨x,hx,s4,hk⟩:=h.runs hi h2
 obtain⟨y,hy,JP,hk'⟩:=h.runs FZ h1
 rcases h.pair hx hy hij s4 JP (h.xY hx s4 hk) (h.xY hy JP hk')with hb|hb|hb|⟨_,hb⟩
 ·exact h.fV hb
 ·exact (hj (hb L hc (fun k hk=>hc k i hk hl))).elim
 ·rcases hb with⟨hb,_⟩|⟨_,hb⟩
  ·exact (h.IJ hx s4 hb hk).elim
  ·exact (h.IJ hy JP hb hk').elim
 ·exact (hb k hk hk').elim
theorem bB.view (h:bB P X ops E S ce) {L:Nat→Prop} [DecidablePred L] (hc:fU ops L) {j:Nat} {o:Oper} (ho:ops[j]? =some o) (hj:¬L j) (hp:∀k,CI ops k j→L k) (hr:(E j).run=true) (nj:¬C' E ce j) (h3:(E j).k=3) {n:Nat} (hn:n ∈ (E j).R):
  Vw (fl (gM E) L ops.size (ae S.M) n)=Vw (ae (E j).M n):=by
 have FZ:=(Array.getElem?_eq_some_iff.1 ho).1
 let T:Nat→Option bu:=fun m=>fl (gM E) (fun _=>True) m (ae S.M) n
 have hT:∀m,m≤ops.size→T m=ae (E m).M n:=fun m hm=>by rw[←h.qt m hm]
 have tS:∀m,gM E m n=none→T (m+1)=T m:=fun m hm=>by simp[T,fl,ov,hm]
 have lS:∀m,(L m→gM E m n=none)→fl (gM E) L (m+1) (ae S.M) n=fl (gM E) L m (ae S.M) n:=fun m hm=>by
  simp only[fl]
  split
  ·rename_i hl; simp[ov,hm hl]
  ·rfl
 have lT:∀m,L m→gM E m n≠none→fl (gM E) L (m+1) (ae S.M) n=T (m+1):=fun m hl hg=>by
  cases hv:gM E m n with
  |none=>exact (hg hv).elim
  |some v=>simp[T,fl,ov,hv,hl]
 have v4:∀m,m<ops.size→gM E m n≠none→(E m).k=4→Vw (T (m+1))=Vw (T m):=fun m hm hg h4=>by
  obtain⟨x,hx,s4,_⟩:=h.runs hm hg
  cases hv:gM E m n with
  |none=>exact (hg hv).elim
  |some v=>
   obtain⟨p,hp,Gm,hpv⟩:=pU hv
   have:=(h.ok m x hx).II s4 h4 p hp
   rw[Gm,←hT m (by omega)]at this
   rw[this]
   simp[T,fl,ov,hv,hpv]
 have un:∀m,m<ops.size→m≠j→gM E m n≠none→gE ops m j∨gE ops j m∨(E m).k=4:=fun m hm Da hg=>by
  obtain⟨x,hx,s4,hk⟩:=h.runs hm hg
  rcases h.pair hx ho Da s4 hr (h.xY hx s4 hk) nj with hb|hb|hb|⟨hb,_⟩
  ·exact .inl hb
  ·exact .inr (.inl hb)
  ·rcases hb with⟨hb,_⟩|⟨hb,_⟩
   ·exact (h.IJ hx s4 hb hk).elim
   ·exact .inr (.inr hb)
  ·exact (hb n hk hn).elim
 have jn:gM E j n=none:=by
  cases hv:gM E j n with
  |none=>rfl
  |some v=>
   obtain⟨p,hp,Gm,_⟩:=pU hv
   exact (h.IJ ho hr h3 ⟨p,hp,Gm⟩).elim
 have A:∀m,m≤j→Vw (fl (gM E) L m (ae S.M) n)=Vw (T m):=by
  intro m
  induction m with
  |zero=>intro _; rfl
  |succ m ih=>
   intro hm
   have ih:=ih (by omega)
   cases hv:gM E m n with
   |none=>rw[tS m hv,lS m (fun _=>hv)]; exact ih
   |some v=>
    have hg:gM E m n≠none:=by rw[hv]; simp
    by_cases hl:L m
    ·rw[lT m hl hg]
    ·rcases un m (by omega) (by omega) hg with hb|hb|h4
     ·exact (hl (hb L hc hp)).elim
     ·have:=h.fV hb; omega
     ·rw[v4 m (by omega) hg h4,lS m (fun h=>(hl h).elim)]; exact ih
 have B:∀m,j<m→m≤ops.size→Vw (fl (gM E) L m (ae S.M) n)=Vw (T j):=by
  intro m
  induction m with
  |zero=>intro h0; omega
  |succ m ih=>
   intro hm Ob
   by_cases e:m=j
   ·subst e
    rw[lS m (fun h=>(hj h).elim)]; exact A m (Nat.le_refl _)
   ·have ih:=ih (by omega) (by omega)
    by_cases hw:L m∧gM E m n≠none
    ·obtain⟨hl,hg⟩:=hw
     have m4:(E m).k=4:=by
      rcases un m (by omega) e hg with hb|hb|h4
      ·have:=h.fV hb; omega
      ·exact (hj (hb L hc (fun k hk=>hc k m hk hl))).elim
      ·exact h4
     rw[lT m hl hg,v4 m (by omega) hg m4]
     have C:∀q,j≤q→q≤m→Vw (T q)=Vw (T j):=by
      intro q
      induction q with
      |zero=>intro hq _; rw[show j=0 by omega]
      |succ q SX=>
       intro hq hqm
       by_cases e2:q+1=j
       ·rw[e2]
       ·have SX:=SX (by omega) (by omega)
        cases hv:gM E q n with
        |none=>rw[tS q hv]; exact SX
        |some v=>
         have Oc:gM E q n≠none:=by rw[hv]; simp
         by_cases e3:q=j
         ·rw[e3]at Oc; exact (Oc jn).elim
         ·obtain⟨x,hx,s4,hk⟩:=h.runs (i:=q) (by omega) Oc
          obtain⟨y,hy,JP,hk'⟩:=h.runs (i:=m) (by omega) hg
          have ZQ:L q:=by
           rcases h.pair hx hy (by omega) s4 JP (h.xY hx s4 hk) (h.xY hy JP hk')with hb|hb|hb|⟨_,hb⟩
           ·exact hb L hc (fun k hk=>hc k m hk hl)
           ·have:=h.fV hb; omega
           ·rcases hb with⟨hb,_⟩|⟨_,hb⟩
            ·exact (h.IJ hx s4 hb hk).elim
            ·exact (h.IJ hy JP hb hk').elim
           ·exact (hb n hk hk').elim
          have q4:(E q).k=4:=by
           rcases un q (by omega) e3 Oc with hb|hb|h4
           ·have:=h.fV hb; omega
           ·exact (hj (hb L hc (fun k hk=>hc k q hk ZQ))).elim
           ·exact h4
          rw[v4 q (by omega) Oc q4]; exact SX
     exact C m (by omega) (Nat.le_refl _)
    ·rw[lS m (fun hl=>Classical.not_not.1 fun hg=>hw ⟨hl,hg⟩)]; exact ih
 rw[B ops.size FZ (Nat.le_refl _),hT j (by omega)]
def NL (m:Nat) (E:Nat→xW) (S:St) (L:Nat→Prop):Nat→Prop:=fun n=>n<S.nx∨∃i,(i<m∧L i)∧n ∈ (E i).nw
structure qu (X:ct) (ops:Array Oper) (E:Nat→xW) (S:St) (L:Nat→Prop) [DecidablePred L] (ρ:Place) (I:Nat→Prop) (a:Act) (w:World):Prop where
 W:cY X ρ I (fl (gM E) L ops.size (ae S.M)) (NL ops.size E S L) w
 rep:∀s,aS ρ (lens (fl (gM E) L ops.size (ae S.M))) I w (NL ops.size E S L) (fl (gF ops E) L ops.size (look S.F) s) (a.tmps.getD s undef)
 defers:kr I w X a.defers
 size:a.tmps.size=X.size
def nZ (all ops:Array Oper):Prop:=∀ (j:Nat) (o:Oper),ops[j]? =some o→all[j]? =some o
theorem A6 {all:Array Oper} (hall:nZ all ops) {o:Oper} {a:Act} {F:bj} {r:Bool} (hg:lf ops o F r) (hs:∀s ∈ o.looksAt ops,∃ρ L I w N,aS ρ L I w N (look F s) (a.tmps.getD s undef)):Region.wanted o (yielded all a.tmps)=r:=by
 unfold lf at hg
 cases Od:o.guard with
 |none=>rw[Od]at hg; simp only at hg; simp[Region.wanted,Od,hg]
 |some p=>
  obtain⟨j,want⟩:=p
  rw[Od]at hg
  obtain⟨s,hd,hv⟩:=hg
  have ee:s ∈ o.looksAt ops:=by
   simp only[Oper.looksAt,Od,hd,List.mem_append]
   right; simp
  obtain⟨ρ,L,I,w,N,hr⟩:=hs s ee
  have hd:(all[j]?).bind (·.dst)=some s:=by
   cases hj:ops[j]? with
   |none=>rw[hj]at hd; simp at hd
   |some x=>rw[hall j x hj,←hj]; exact hd
  have hy:=qp (tmps:=a.tmps) hd
  have hw:Region.wanted o (yielded all a.tmps)=(yielded all a.tmps j==some want):=by simp[Region.wanted,Od]
  have vb:∀b,look F s= .bool b→yielded all a.tmps j=some b:=fun b hb=>by
   rw[hb]at hr
   have hv:=fA hr
   have hg:a.tmps[s]? =some (.bool b):=by
    rw[Array.getD_eq_getD_getElem?]at hv
    cases hh:a.tmps[s]? with
    |none=>rw[hh]at hv; simp[undef]at hv
    |some v=>rw[hh]at hv; simpa using hv
   rw[hy,hg]
  rcases hv with⟨rfl,hv⟩|⟨rfl,hv|hv⟩
  ·rw[hw,vb _ hv]; simp
  ·rw[hw,vb _ hv]; cases want<;>rfl
  ·rw[hv]at hr
   generalize SY:a.tmps.getD s undef=v at hr
   cases hr with
   |aU _ us hle _=>
    have Db:us=[]:=List.eq_nil_of_length_eq_zero (by simpa using hle)
    subst Db
    have JK:yielded all a.tmps j=none:=by
     rw[hy]
     cases ht:a.tmps[s]? with
     |none=>rfl
     |some v=>
      rw[Array.getD_eq_getD_getElem?,ht]at SY
      simp at SY
      rw[SY]
    rw[hw,JK]; rfl
theorem bB.step {all:Array Oper} (hall:nZ all ops) (h:bB P X ops E S ce) {L:Nat→Prop} [DecidablePred L] (hc:fU ops L) {j:Nat} {o:Oper} (ho:ops[j]? =some o) (hj:¬L j) (hp:∀k,CI ops k j→L k)
  {ρ:Place} {I:Nat→Prop} {a:Act} {w:World} (D:qu X ops E S L ρ I a w) {b:Frame} {rest:List Nat} {k:List Item} {cs:List Frame}:
  ∃a' w' ρ' I',Steps P (lone (b.atR a (.inRegion all (j::rest)::k)) cs w) (lone (b.atR a' (.inRegion all rest::k)) cs w')∧qu X ops E S (fun i=>i=j∨L i) ρ' I' a' w':=by
 have FZ:=(Array.getElem?_eq_some_iff.1 ho).1
 have R:=h.ok j o ho
 have ee:∀s ∈ o.looksAt ops,aS ρ (lens (fl (gM E) L ops.size (ae S.M))) I w (NL ops.size E S L) (look (E j).F s) (a.tmps.getD s undef):=fun s hs=>by
  rw[←h.slot hc ho hj hp hs]; exact D.rep s
 have Db:∀s ∈ dg o.op,s ∈ o.looksAt ops:=fun s hs=>by
  simp only[Oper.looksAt,List.mem_append]
  left
  unfold dg at hs
  generalize o.op.operands.toList=l at hs
  induction l with
  |nil=>simp[lF]at hs
  |cons x r ih=>
   cases x with
   |tmp t=>
    simp only[lF,List.mem_cons]at hs
    rcases hs with rfl|hs
    ·simp
    ·simp[ih hs]
   |_=>simpa[lF]using ih (by simpa[lF]using hs)
 have hw:=A6 hall R.guard (a:=a) (fun s hs=>⟨_,_,_,_,_,ee s hs⟩)
 have vQ:=h.size j o ho
 have IK:∀s,fl (gF ops E) (fun i=>i=j∨L i) ops.size (look S.F) s=if o.dst=some s then (E j).av else fl (gF ops E) L ops.size (look S.F) s:=fun s=>by
  rw[xV (L:=L) (fun i=>Iff.rfl) hj FZ (fun i hi hij h1 h2 hl=>h.Gl hc ho hj hij h1 h2 hl)]
  simp only[gF,ho,Option.bind_some]
  cases hd:o.dst with
  |none=>simp[so]
  |some d=>
   by_cases e:d=s
   ·subst e; simp[so]
   ·have e':¬s=d:=fun h=>e h.symm
    simp[so,e,e']
 have Dc:fl (gM E) (fun i=>i=j∨L i) ops.size (ae S.M)=df (fl (gM E) L ops.size (ae S.M)) (E j).ws:=by
  funext n
  rw[xV (L:=L) (fun i=>Iff.rfl) hj FZ (fun i hi hij h1 h2 hl=>h.JO hc FZ hj hi hij h1 h2 hl),lg]
  rfl
 cases hr:(E j).run with
 |true=>
  rw[hr]at hw
  have hd:=R.nU hr
  have hy:bV P X o a (fl (gM E) L ops.size (ae S.M)) (NL ops.size E S L) ρ I w (E j).av (E j).ws:=by
   rcases hd.2.1 with hd2|⟨xZ,hfree⟩
   rotate_left
   ·rw[xZ]
    exact hfree _ _ ρ I a w D.W (fun s hs=>ee s (Db s hs))
   by_cases hA:C' E ce j
   ·have Uf:=hA
    unfold C' kq at Uf
    simp only[Bool.and_eq_true]at Uf
    obtain⟨hl,xZ⟩:=R.Ua hr (Nat.eq_of_beq_eq_true Uf.1)
    rw[xZ]
    exact hl _ _ ρ I a w D.W (fun s hs=>ee s (Db s hs)) (fun s hs n hn=>by
     have hn':=hd2 s hs n hn
     rw[h.shape hA hn' ops.size (Nat.le_refl _) L,←h.qt j (by omega),h.shape hA hn' j (by omega) (fun _=>True)])
   ·by_cases h3:(E j).k=3
    ·obtain⟨hl,xZ⟩:=R.Ub hr h3
     rw[xZ]
     exact hl _ _ ρ I a w D.W (fun s hs=>ee s (Db s hs)) (fun s hs n hn=>h.view hc ho hj hp hr hA h3 (hd2 s hs n hn))
    exact hd.2.2 (fl (gM E) L ops.size (ae S.M)) (NL ops.size E S L) ρ I a w D.W (fun s hs=>ee s (Db s hs)) (fun n hn=>h.mem hc ho hj hp hr hA h3 hn) (fun n hn hN=>by
     have a1:=R.nw n hn
     rcases hN with hN|⟨i,hl,hN⟩
     ·have:=h.lo (i:=0) (j:=j) (by omega) (by omega); have:=h.Ud; omega
     ·have hij:i≠j:=fun e=>hj (e ▸ hl.2)
      have a2:=(h.ok i _ (Array.getElem?_eq_getElem hl.1)).nw n hN
      rcases Nat.lt_or_gt_of_ne hij with hlt|hlt
      ·have:=h.lo (i:=i+1) (j:=j) (by omega) (by omega); omega
      ·have:=h.lo (i:=j+1) (j:=i) (by omega) (by omega); omega)
  obtain⟨v,w1,⟨ρ1,I1,Ev,W1,R1⟩,hst⟩:=uy (b:=b) (rest:=rest) (k:=k) (cs:=cs) (hall _ _ ho) hw hy
  have hN:∀m,eT (NL ops.size E S L) (E j).ws m→NL ops.size E S (fun i=>i=j∨L i) m:=by
   rintro m (hm|⟨bb,hm⟩)
   ·rcases hm with hm|⟨i,hl,hm⟩
    ·exact .inl hm
    ·exact .inr ⟨i,⟨hl.1,.inr hl.2⟩,hm⟩
   ·have hm0:=hm
    rcases hd.1 _ hm with hm|⟨s,hs,hm⟩|⟨hm,hne⟩
    ·exact .inr ⟨j,⟨FZ,.inl rfl⟩,hm⟩
    ·rcases jv (ee s (Db s hs)) m hm with hm|⟨i,hl,hm⟩
     ·exact .inl hm
     ·exact .inr ⟨i,⟨hl.1,.inr hl.2⟩,hm⟩
    ·have hA:¬C' E ce j:=h.xY ho hr ⟨_,hm0,rfl⟩
     have n3:(E j).k≠3:=fun h3=>h.IJ ho hr h3 ⟨_,hm0,rfl⟩
     have e:=h.mem hc ho hj hp hr hA n3 hm
     cases hb:fl (gM E) L ops.size (ae S.M) m with
     |none=>rw[hb]at e; exact (hne e.symm).elim
     |some b=>
      rcases (D.W.bg m b hb).lt with hm|⟨i,hl,hm⟩
      ·exact .inl hm
      ·exact .inr ⟨i,⟨hl.1,.inr hl.2⟩,hm⟩
  refine⟨_,w1,ρ1,I1,hst,?_,fun s=> ?_,?_,?_⟩
  ·rw[Dc]; exact W1.lJ hN
  ·rw[Dc,IK,vP D.size vQ]
   by_cases e:o.dst=some s
   ·rw[if_pos e,if_pos e]; exact R1.wide hN
   ·rw[if_neg e,if_neg e]; exact ((D.rep s).rZ Ev (fun _ h=>h)).wide (fun m hm=>hN m (.inl hm))
  ·cases o.dst<;>exact D.defers.rZ Ev
  ·cases ZR:o.dst with
   |none=>exact D.size
   |some x=>simpa[Act.put]using D.size
 |false=>
  rw[hr]at hw
  obtain⟨s1,s2,s3⟩:=R.skip hr
  have IL:fl (gM E) (fun i=>i=j∨L i) ops.size (ae S.M)=fl (gM E) L ops.size (ae S.M):=by rw[Dc,s2]; rfl
  have hN:∀m,NL ops.size E S L m→NL ops.size E S (fun i=>i=j∨L i) m:=by
   rintro m (hm|⟨i,hl,hm⟩)
   ·exact .inl hm
   ·exact .inr ⟨i,⟨hl.1,.inr hl.2⟩,hm⟩
  have hst:=stepR_op_skip (P:=P) (b:=b) (a:=a) (k:=k) (cs:=cs) (w:=w) (ops:=all) (i:=j) (rest:=rest) (by simp[hall _ _ ho,hw])
  simp only[hall _ _ ho,Option.bind_some]at hst
  refine⟨_,w,ρ,I,.one hst,?_,fun s=> ?_,?_,?_⟩
  ·rw[IL]; exact D.W.lJ hN
  ·rw[IL,IK,vP D.size vQ]
   by_cases e:o.dst=some s
   ·rw[if_pos e,if_pos e,s1]; exact .aU [] [] rfl (fun j hj=>by simp at hj)
   ·rw[if_neg e,if_neg e]; exact (D.rep s).wide hN
  ·cases o.dst<;>exact D.defers
  ·cases ZR:o.dst with
   |none=>exact D.size
   |some x=>simpa[Act.put]using D.size
end
end Go.AM
namespace Go.AM
open Go.RowKit
structure PT (P:Program) (T:TT):Prop where
 tt:dh P T
 mix:P.follows .mixedOrders=true
variable {P:Program} {T:TT} {X:ct}
def Good (ops:Array Oper):(Nat→Prop)→List Nat→Prop
 |L,[]=>∀i,i<ops.size→L i
 |L,i::r=>i<ops.size∧¬L i∧(∀k,CI ops k i→L k)∧Good ops (fun x=>x=i∨L x) r
theorem Good.congr {ops:Array Oper}:∀ {is:List Nat} {L L':Nat→Prop},(∀i,L i↔L' i)→Good ops L is→Good ops L' is
 |[],L,L',h,g=>fun i hi=>(h i).1 (g i hi)
 |i::r,L,L',h,g=>⟨g.1,fun hl=>g.2.1 ((h i).2 hl),fun k hk=>(h k).1 (g.2.2.1 k hk),Good.congr (fun x=>by rw[h x]) g.2.2.2⟩
def ca (m:Nat) (f:Nat→Bool):Nat:=(List.range m).countP f
theorem zJ {f g:Nat→Bool} {i:Nat}:∀ {m:Nat},i<m→f i=true→g i=false→(∀k,k≠i→g k=f k)→ca m g+1=ca m f
 |0,h,_,_,_=>by omega
 |m+1,h,hf,hg,he=>by
  simp only[ca,List.range_succ,List.countP_append,List.countP_singleton]
  by_cases e:i=m
  ·subst e
   have h1:List.countP g (List.range i)=List.countP f (List.range i):=List.countP_congr (fun k hk=>by
    rw[he k (by have:=List.mem_range.1 hk; omega)])
   rw[h1,hf,hg]; simp
  ·have ih:=zJ (m:=m) (by omega) hf hg he
   simp only[ca]at ih
   rw[he m (fun h=>e h.symm)]
   omega
theorem uB {ops:Array Oper} (zK:∀i j,CI ops i j→i<j) {listed:Array Bool} (hr:(List.range ops.size).filter (fun i=>
  !listed.getD i true&&((ops[i]?).map (·.after.all fun e=> !Region.binds .any e||listed.getD e.on false)).getD false)=[]) (hsz:listed.size=ops.size):∀i,i<ops.size→listed.getD i false=true:=by
 intro i
 induction i using Nat.strongRecOn with
 |ind i ih=>
  intro hi
  have h1:=List.filter_eq_nil_iff.1 hr i (List.mem_range.2 hi)
  rw[Array.getElem?_eq_getElem hi]at h1
  simp only[Option.map_some,Option.getD_some,Bool.and_eq_true,not_and]at h1
  cases hl:listed.getD i false with
  |true=>rfl
  |false=>
   have nL:listed.getD i true=false:=by
    rw[Array.getD_eq_getD_getElem?,Array.getElem?_eq_getElem (by omega)]at hl ⊢
    simpa using hl
   refine absurd ?_ (h1 (by rw[nL]; rfl))
   rw[Array.all_eq_true']
   intro e he
   cases hb:Region.binds .any e with
   |false=>rfl
   |true=>
    have hlt:=zK e.on i ⟨ops[i],e,Array.getElem?_eq_getElem hi,by simpa using he,hb,rfl⟩
    rw[ih e.on hlt (by omega)]
    rfl
theorem vR {ops:Array Oper} (zK:∀i j,CI ops i j→i<j):∀ (fuel t:Nat) (listed:Array Bool),listed.size=ops.size→ca ops.size (fun i=> !listed.getD i true)≤fuel→Good ops (fun i=>listed.getD i false=true) (Region.linearise.go .any ops fuel t listed [])
 |0,t,listed,hsz,hc=>by
  simp only[Region.linearise.go,List.reverse_nil,Good]
  intro i hi
  have h0:ca ops.size (fun i=> !listed.getD i true)=0:=by omega
  have:=List.countP_eq_zero.1 h0 i (List.mem_range.2 hi)
  rw[Array.getD_eq_getD_getElem?,Array.getElem?_eq_getElem (by omega)]at this ⊢
  simpa using this
 |fuel+1,t,listed,hsz,hc=>by
  simp only[Region.linearise.go]
  generalize YA:(List.range ops.size).filter (fun i=>
   !listed.getD i true&&((ops[i]?).map (·.after.all fun e=> !Region.binds .any e||listed.getD e.on false)).getD false)=rs
  cases hi:rs[t % rs.length]? with
  |none=>
   have hnil:rs=[]:=by
    cases rs with
    |nil=>rfl
    |cons x xs=>
     have hlt:t % (x::xs).length< (x::xs).length:=Nat.mod_lt _ (by simp)
     rw[List.getElem?_eq_getElem hlt]at hi
     simp at hi
   subst hnil
   simp only[List.reverse_nil,Good]
   exact uB zK YA hsz
  |some i=>
   simp only
   rw[linearise_go_acc,List.reverse_singleton,List.singleton_append]
   have hm:i ∈ rs:=List.mem_of_getElem? hi
   rw[←YA,List.mem_filter,List.mem_range]at hm
   obtain⟨him,hb⟩:=hm
   simp only[Bool.and_eq_true,Bool.not_eq_true']at hb
   obtain⟨hl,hb⟩:=hb
   rw[Array.getElem?_eq_getElem him]at hb
   simp only[Option.map_some,Option.getD_some]at hb
   have hlf:listed.getD i false=false:=by
    rw[Array.getD_eq_getD_getElem?,Array.getElem?_eq_getElem (by omega)]at hl ⊢
    simpa using hl
   have Gi:∀x (d:Bool),x≠i→(listed.setIfInBounds i true).getD x d=listed.getD x d:=fun x d hx=>by
    rw[Array.getD_eq_getD_getElem?,Array.getElem?_setIfInBounds_ne (by omega),←Array.getD_eq_getD_getElem?]
   have IM:∀d:Bool,(listed.setIfInBounds i true).getD i d=true:=fun d=>by
    rw[Array.getD_eq_getD_getElem?,Array.getElem?_setIfInBounds_self_of_lt (by omega)]; rfl
   refine⟨him,by show ¬ (listed.getD i false=true); rw[hlf]; simp,?_,?_⟩
   ·rintro k ⟨o,e,ho,he,Gk,rfl⟩
    rw[Array.getElem?_eq_getElem him]at ho
    cases ho
    have:=(Array.all_eq_true'.1 hb) e (by simpa using he)
    rw[Gk]at this
    simpa using this
   ·refine Good.congr (fun x=> ?_) (vR zK fuel (t / rs.length) (listed.setIfInBounds i true) (by simpa using hsz) ?_)
    ·by_cases e:x=i
     ·subst e; simp[IM]
     ·simp[Gi x false e,e]
    ·have:=zJ (m:=ops.size) (i:=i) (f:=fun i=> !listed.getD i true) (g:=fun x=> !(listed.setIfInBounds i true).getD x true) him (by simp[hl]) (by simp[IM]) (fun k hk=>by simp[Gi k true hk])
     omega
section
variable {ops:Array Oper} {E:Nat→xW} {S:St} {ce:List fj}
theorem bB.walk {all:Array Oper} (hall:nZ all ops) (h:bB P X ops E S ce) {tl:List Nat} {b:Frame} {k:List Item} {cs:List Frame}:∀ (is:List Nat) (L:Nat→Prop) [DecidablePred L],Good ops L is→fU ops L→∀ {ρ:Place} {I:Nat→Prop} {a:Act} {w:World},qu X ops E S L ρ I a w→
  ∃a' w' ρ' I',Steps P (lone (b.atR a (.inRegion all (is++tl)::k)) cs w) (lone (b.atR a' (.inRegion all tl::k)) cs w')∧qu X ops E S (fun _=>True) ρ' I' a' w'
 |[],L,_,hg,hc,ρ,I,a,w,D=>by
  refine⟨a,w,ρ,I,.refl _ _,?_⟩
  have eF:fl (gF ops E) (fun _=>True) ops.size (look S.F)=fl (gF ops E) L ops.size (look S.F):=by
   funext k; exact ir (fun i hi _=>⟨fun _=>hg i hi,fun _=>trivial⟩)
  have eM:fl (gM E) (fun _=>True) ops.size (ae S.M)=fl (gM E) L ops.size (ae S.M):=by
   funext k; exact ir (fun i hi _=>⟨fun _=>hg i hi,fun _=>trivial⟩)
  have hN:∀m,NL ops.size E S L m→NL ops.size E S (fun _=>True) m:=by
   rintro m (hm|⟨i,hl,hm⟩)
   ·exact .inl hm
   ·exact .inr ⟨i,⟨hl.1,trivial⟩,hm⟩
  exact⟨by rw[eM]; exact D.W.lJ hN,fun s=>by rw[eM,eF]; exact (D.rep s).wide hN,D.defers,D.size⟩
 |i::r,L,_,hg,hc,ρ,I,a,w,D=>by
  obtain⟨him,hnl,hp,r4⟩:=hg
  have sk:fU ops (fun x=>x=i∨L x):=by
   rintro x y hd (rfl|hl)
   ·exact .inr (hp x hd)
   ·exact .inr (hc x y hd hl)
  obtain⟨a1,w1,ρ1,I1,h1,D1⟩:=h.step hall hc (Array.getElem?_eq_getElem him) hnl hp D (b:=b) (rest:=r++tl) (k:=k) (cs:=cs)
  obtain⟨a2,w2,ρ2,I2,h2,D2⟩:=h.walk hall (tl:=tl) r _ r4 sk D1
  exact⟨a2,w2,ρ2,I2,h1.trans h2,D2⟩
end
def Gn (all:Array Oper) (m:Nat):Prop:=∀j,m≤j→j<all.size→∀i,i<j→gE all i j
theorem Good.tail {all:Array Oper} {m0:Nat} (hT:Gn all m0):∀ (is:List Nat) (m:Nat) (L:Nat→Prop),m0≤m→m≤all.size→fU all L→(∀i,L i↔i<m)→Good all L is→is=List.range' m (all.size - m)
 |[],m,L,_,hm,_,hL,g=>by
  have:all.size≤m:=by
   rcases Nat.lt_or_ge m all.size with h|h
   ·have:=(hL m).1 (g m h); omega
   ·exact h
  rw[show all.size - m=0 by omega]; rfl
 |i::r,m,L,h0,hm,hc,hL,g=>by
  obtain⟨g1,g2,g3,g4⟩:=g
  have hmi:m≤i:=by
   rcases Nat.lt_or_ge i m with h|h
   ·exact (g2 ((hL i).2 h)).elim
   ·exact h
  have e:i=m:=by
   rcases Nat.lt_or_ge m i with h|h
   ·have:=(hL m).1 (hT i (by omega) g1 m h L hc g3); omega
   ·omega
  subst e
  have sk:fU all (fun x=>x=i∨L x):=by
   rintro x y hd (rfl|hl)
   ·exact .inr (g3 x hd)
   ·exact .inr (hc x y hd hl)
  rw[show all.size - i=(all.size - (i+1))+1 by omega,List.range'_succ]
  rw[Good.tail hT r (i+1) _ (by omega) (by omega) sk (fun x=>by rw[hL x]; omega) g4]
theorem Good.split {all ops:Array Oper} (hall:nZ all ops) (hT:Gn all ops.size) (hsz:ops.size≤all.size):∀ (is:List Nat) (L:Nat→Prop),fU all L→(∀i,L i→i<ops.size)→Good all L is→∃s1,is=s1++List.range' ops.size (all.size - ops.size)∧Good ops L s1
 |[],L,hc,hL,g=>by
  have:all.size≤ops.size:=by
   rcases Nat.lt_or_ge ops.size all.size with h|h
   ·have:=hL _ (g ops.size h); omega
   ·exact h
  exact⟨[],by rw[show all.size - ops.size=0 by omega]; rfl,fun i hi=>g i (by omega)⟩
 |i::r,L,hc,hL,g=>by
  have g0:=g
  obtain⟨g1,g2,g3,g4⟩:=g
  have sk:fU all (fun x=>x=i∨L x):=by
   rintro x y hd (rfl|hl)
   ·exact .inr (g3 x hd)
   ·exact .inr (hc x y hd hl)
  rcases Nat.lt_or_ge i ops.size with hi|hi
  ·obtain⟨s1,h1,h2⟩:=Good.split hall hT hsz r _ sk (fun x hx=>hx.elim (fun e=>e ▸ hi) (hL x)) g4
   refine⟨i::s1,by rw[h1]; rfl,hi,g2,fun k hk=>g3 k ?_,h2⟩
   obtain⟨o,e,ho,he⟩:=hk
   exact⟨o,e,hall _ _ ho,he⟩
  ·have hin:∀x,x<i→L x:=fun x hx=>hT i hi g1 x hx L hc g3
   have e:i=ops.size:=by
    rcases Nat.lt_or_ge ops.size i with h|h
    ·have:=hL _ (hin _ h); omega
    ·omega
   refine⟨[],?_,fun x hx=>hin x (by omega)⟩
   rw[List.nil_append]
   exact Good.tail hT (i::r) ops.size L (Nat.le_refl _) hsz hc (fun x=>⟨hL x,fun h=>hin x (by omega)⟩) g0
theorem s5 (hT:PT P T) {all ops:Array Oper} (hall:nZ all ops) (Dd:Gn all ops.size) (hsz:ops.size≤all.size) (hbk:∀i j,CI all i j→i<j) {S:St} {E:Nat→xW} {ce:List fj} (uC:bB P X ops E S ce)
  {a:Act} {w:World} (hS:iJ X S a w) {b:Frame} {k:List Item} {id:Nat} {F:bj} {M:Mem} {nx:Nat} (e1:look F=look (E (max 0 ops.size)).F) (e2:ae M=ae (E (max 0 ops.size)).M) (e3:nx=(E (max 0 ops.size)).lo):
  ∀cs,∃a' w',iJ X ⟨F,M,nx⟩ a' w'∧Steps P (lone (b.atR a (.code (.region id all true)::k)) cs w) (lone (b.atR a' (.inRegion all (List.range' ops.size (all.size - ops.size))::k)) cs w'):=by
 intro cs
 obtain⟨ρ,I,W,FO⟩:=hS
 have Df:Good all (fun _=>False) (Region.schedule (P.follows .mixedOrders) all (w.tape w.drawn (.order b.fn id))):=by
  rw[hT.mix]
  simp only[Region.schedule,Bool.true_or,if_true,Region.linearise]
  have:=vR hbk all.size (w.tape w.drawn (.order b.fn id)) (Array.replicate all.size false) (by simp) (by
   have:=List.countP_le_length (l:=List.range all.size) (p:=fun i=> !(Array.replicate all.size false).getD i true)
   simpa[ca]using this)
  refine this.congr (fun i=> ?_)
  by_cases hi:i<all.size<;>simp[Array.getD,hi]
 obtain⟨s1,hs1,Df⟩:=Good.split hall Dd hsz _ _ (fun _ _ _ h=>h) (fun _ h=>h.elim) Df
 have D0:qu X ops E S (fun _=>False) ρ I a w.drew:=by
  have eF:fl (gF ops E) (fun _=>False) ops.size (look S.F)=look S.F:=by
   generalize ops.size=m
   induction m with
   |zero=>rfl
   |succ m ih=>simpa[fl]using ih
  have eM:fl (gM E) (fun _=>False) ops.size (ae S.M)=ae S.M:=by
   generalize ops.size=m
   induction m with
   |zero=>rfl
   |succ m ih=>simpa[fl]using ih
  have hN:∀m,m<S.nx→NL ops.size E S (fun _=>False) m:=fun m hm=> .inl hm
  refine⟨by rw[eM]; exact (W.drew).lJ hN,fun s=> ?_,FO.defers,FO.size⟩
  rw[eM,eF]
  have E1:=(W.ext (w':=w.drew) rfl rfl rfl (Nat.le_refl _) (fun _ _=>rfl) (fun _ h=>h) W.lt (fun _ _ h=>h)).1
  exact ((FO.rep s).rZ E1 (fun _ h=>h)).wide hN
 obtain⟨a',w',ρ',I',hst,D'⟩:=uC.walk hall (tl:=List.range' ops.size (all.size - ops.size)) (b:=b) (k:=k) (cs:=cs) _ _ Df (fun _ _ _ h=>h) D0
 refine⟨a',w',⟨ρ',I',?_,?_⟩,?_⟩
 ·have:=D'.W
  rw[uC.qt ops.size (Nat.le_refl _)]at this
  show cY X ρ' I' (ae M) (· <nx) w'
  rw[e2,Nat.zero_max]
  refine this.lJ ?_
  rintro m (hm|⟨i,hl,hm⟩)
  ·have:=uC.lo (i:=0) (j:=ops.size) (by omega) (Nat.le_refl _)
   rw[uC.Ud]at this
   rw[Nat.zero_max]at e3
   show m<nx
   omega
  ·have h1:=((uC.ok i _ (Array.getElem?_eq_getElem hl.1)).nw m hm).2
   have h2:=uC.lo (i:=i+1) (j:=ops.size) (by omega) (Nat.le_refl _)
   rw[Nat.zero_max]at e3
   show m<nx
   omega
 ·refine⟨fun s=> ?_,D'.defers,D'.size⟩
  have:=D'.rep s
  rw[uC.qt ops.size (Nat.le_refl _),uC.C9 ops.size (Nat.le_refl _)]at this
  show aS ρ' (lens (ae M)) I' w' (· <nx) (look F s) _
  rw[e1,e2,Nat.zero_max]
  refine this.wide ?_
  rintro m (hm|⟨i,hl,hm⟩)
  ·have:=uC.lo (i:=0) (j:=ops.size) (by omega) (Nat.le_refl _)
   rw[uC.Ud]at this
   rw[Nat.zero_max]at e3
   show m<nx
   omega
  ·have h1:=((uC.ok i _ (Array.getElem?_eq_getElem hl.1)).nw m hm).2
   have h2:=uC.lo (i:=i+1) (j:=ops.size) (by omega) (Nat.le_refl _)
   rw[Nat.zero_max]at e3
   show m<nx
   omega
 ·rw[←hs1]at hst
  exact .head stepR_region_draw hst
theorem Dg (hT:PT P T) {ops:Array Oper} {S:St} {E:Nat→xW} {ce:List fj} (uC:bB P X ops E S ce)
  {a:Act} {w:World} (hS:iJ X S a w) {b:Frame} {k:List Item} {id:Nat} {F:bj} {M:Mem} {nx:Nat} (e1:look F=look (E (max 0 ops.size)).F) (e2:ae M=ae (E (max 0 ops.size)).M) (e3:nx=(E (max 0 ops.size)).lo):
  ∀cs,∃a' w',iJ X ⟨F,M,nx⟩ a' w'∧Steps P (lone (b.atR a (.code (.region id ops true)::k)) cs w) (lone (b.atR a' k) cs w'):=by
 intro cs
 obtain⟨a',w',h1,h2⟩:=s5 hT (fun _ _ h=>h) (fun j h1 h2=>by omega) (Nat.le_refl _) (fun i j=>uC.dir) uC hS (b:=b) (k:=k) (id:=id) e1 e2 e3 cs
 rw[show ops.size - ops.size=0 by omega]at h2
 exact⟨a',w',h1,h2.trans (.one stepR_region_end)⟩
end Go.AM
