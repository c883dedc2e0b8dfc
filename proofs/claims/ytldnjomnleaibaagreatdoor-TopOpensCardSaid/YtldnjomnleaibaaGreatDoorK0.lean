/- Of the reckoning machine, and what is proved with it: texts joined by program. -/
import Derived.WalkKit
import Derived.WalkSpells
import Derived.WalkLawsBesides
import Derived.Lib.Strings
import Derived.Deep.AppendSrc
import Derived.Deep.Upon
set_option linter.all false
namespace Go.AM
open Go.RowKit
inductive EX where
 |fn (f:Nat)
 |lp (l:Nat) (tm:List Value)
 deriving Inhabited
inductive AV where
 |int (k:IntKind) (n:Int)
 |bool (b:Bool)
 |str (s:List UInt8)
 |ax
 |ab
 |af
 |dj
 |bQ
 |loc (n len i off:Nat)
 |bi (n len:Nat)
 |dp (n len i off cnt:Nat)
 |aH (sz:Nat) (es:List (List AV))
 |be (e:List AV) (off:Nat)
 |omap (n:Nat)
 |oC (n r:Nat)
 |bL (f:EX) (aQ:List AV)
 |agg (cs:List AV)
 |aG (vs:List AV)
 |bad
 deriving Inhabited
inductive Dn where
 |b (x:Bool)
 |it (r:Nat) (sn:List Bool) (la:Option Nat)
instance:Coe Bool Dn:=⟨.b⟩
def Dn.all:Dn->Bool
 | .b x=>x
 | .it _ _ _=>false
def Dn.up:Dn->Dn
 | .b x=> .b x
 | .it _ _ _=> .b false
def Dn.dl(i:Nat):Dn->Dn
 | .b _=> .b false
 | .it r sn _=> .it r (sn.eraseIdx i) none
theorem Dn.all_eq{d:Dn}(h:d.all=true):d= .b true:=by
 cases d with
 |b x=>exact congrArg Dn.b h
 |it=>exact Bool.noConfusion h
theorem Dn.EY{d:Dn}:d.up.all=d.all:=by cases d<;>rfl
theorem Dn.EZ{d:Dn}{r:Nat}{sn:List Bool}{la:Option Nat}:d.up≠ .it r sn la:=by cases d<;>exact fun h=>by cases h
def EJ(w:World)(g r:Nat)(sn:List Bool)(la:Option Nat):Prop:=
 ∃en ck since seen,w.heap[g]? =some (.map en ck)/\w.heap[r]? =some (.mapIter (some g) since seen ck)/\since<=ck/\(∀x ∈ en.toList,x.born<since)/\sn=en.toList.map (fun e=>seen.contains e.born)/\∀i,la=some i->∃e,en[i]? =some e/\seen.back?=some e.born
theorem EJ.at{w w':World}{g r:Nat}{sn:List Bool}{la:Option Nat}(h:EJ w g r sn la)(h1:w'.heap[g]? =w.heap[g]?)(h2:w'.heap[r]? =w.heap[r]?):EJ w' g r sn la:=by
 obtain⟨en,ck,since,seen,k1,k2,k3⟩:=h
 exact⟨en,ck,since,seen,h1.trans k1,h2.trans k2,k3⟩
theorem EJ.lt{w:World}{g r:Nat}{sn:List Bool}{la:Option Nat}(h:EJ w g r sn la):r<w.heap.size:=by
 obtain⟨en,ck,since,seen,k1,k2,k3⟩:=h
 exact (Array.getElem?_eq_some_iff.1 k2).1
structure bf where
 ty:Nat
 sz:Nat
 es:List (List AV)
 mp:Option (Nat × Bool × Bool × Dn)
def bf.ln(b:bf):Nat:=match b.mp with
 |none=>b.es.length
 |some _=>0
abbrev Mem:=List (Nat × bf)
abbrev aT:=List (Nat × AV)
def aa:Mem->Nat->Option bf
 |[],_=>none
 |(m,b)::r,n=>bif n==m then some b else aa r n
def look:aT->Nat->AV
 |[],_=> .bad
 |(j,v)::r,i=>bif i==j then v else look r i
abbrev Place:=Nat->Option (Nat × Nat)
abbrev aZ:=Nat->Option (Nat × Nat)
def cI:Nat->Prop:=fun _=>False
abbrev bg:=Nat->Option bf
def lens(M:bg):aZ:=fun n=>(M n).map fun b=>(b.ln,b.sz)
inductive aM(ρ:Place)(L:aZ)(I:Nat->Prop)(w:World):(Nat->Prop)->AV->Value->Prop
 |int {N} (k:IntKind) (n:Int):aM ρ L I w N (.int k n) (.int k n)
 |bool {N} (b:Bool):aM ρ L I w N (.bool b) (.bool b)
 |str {N} (s:List UInt8):aM ρ L I w N (.str s) (.string ⟨s.toArray⟩)
 |ax {N}:aM ρ L I w N .ax (.pointer none)
 |ab {N}:aM ρ L I w N .ab (.slice none 0 0)
 |af {N}:aM ρ L I w N .af .nilFunc
 |dj {N}:aM ρ L I w N .dj .nilIface
 |bQ {N}:aM ρ L I w N .bQ (.map none)
 |loc {N} (n len i off:Nat) (v:Value) (hn:N n) (h1:v.oneCell'=true) (h:∀l sz,L n=some (l,sz)->len<=l/\(len=l->∃g cap,ρ n=some (g,cap)/\v= .pointer (some ⟨g,i*sz+off,none⟩))):aM ρ L I w N (.loc n len i off) v
 |bi {N} (n len:Nat) (v:Value) (hn:N n) (h1:v.oneCell'=true) (h:∀l sz,L n=some (l,sz)->len<=l/\(len=l->(ρ n=none/\∃q,v= .slice q 0 0)\/∃g cap,ρ n=some (g,cap)/\v= .slice (some ⟨g,0,none⟩) len cap)):aM ρ L I w N (.bi n len) v
 |dp {N} (n len i off cnt:Nat) (v:Value) (hn:N n) (h1:v.oneCell'=true) (h:∀l sz,L n=some (l,sz)->len<=l/\(len=l->∃g cap c,ρ n=some (g,cap)/\v= .slice (some ⟨g,i*sz+off,none⟩) cnt c/\cnt<=c/\c<=maxLen)):aM ρ L I w N (.dp n len i off cnt) v
 |omap {N} (n:Nat) (v:Value) (hn:N n) (h1:v.oneCell'=true) (h:∀sz,L n=some (0,sz)->∃g cap,ρ n=some (g,cap)/\v= .map (some g)):aM ρ L I w N (.omap n) v
 |oC {N} (n r:Nat):aM ρ L I w N (.oC n r) (.pointer (some ⟨r,0,none⟩))
 |cJ {N} (sz:Nat) (a:Option Addr) (cap:Nat) (hc:cap<=maxLen):aM ρ L I w N (.aH sz []) (.slice a 0 cap)
 |aH {N} (sz:Nat) (es:List (List AV)) (b o cap:Nat) (c:Nat->Nat->Value) (hl:es.length<=cap) (hc:cap<=maxLen) (hI:I b) (hs:∀e ∈ es,e.length=sz)
   (h1:∀i j,i<es.length->j<sz->(c i j).oneCell'=true)
   (hcell:∀i j,i<es.length->j<sz->w.cell? ⟨b,o+i*sz+j,none⟩=some (c i j))
   (hr:∀i j,i<es.length->j<sz->aM ρ L I w cI ((es.getD i []).getD j .bad) (c i j)):aM ρ L I w N (.aH sz es) (.slice (some ⟨b,o,none⟩) es.length cap)
 |be {N} (e:List AV) (off b o:Nat) (c:Nat->Value) (hI:I b) (h1:∀j,j<e.length->(c j).oneCell'=true) (hcell:∀j,j<e.length->w.cell? ⟨b,o+j,none⟩=some (c j))
   (hr:∀j,j<e.length->aM ρ L I w cI (e.getD j .bad) (c j)):aM ρ L I w N (.be e off) (.pointer (some ⟨b,o+off,none⟩))
 |bL {N} (f:Nat) (aQ:List AV) (vs:List Value) (hl:vs.length=aQ.length) (hr:∀j,j<aQ.length->aM ρ L I w N (aQ.getD j .bad) (vs.getD j default)):
   aM ρ L I w N (.bL (.fn f) aQ) (.func (.func f) #[] vs.toArray)
 |qn {N} (l:Nat) (aQ:List AV) (vs:List Value) (hl:vs.length=aQ.length) (hr:∀j,j<aQ.length->aM ρ L I w N (aQ.getD j .bad) (vs.getD j default)):
   aM ρ L I w N (.bL (.lp l vs) aQ) (.func (.yield l) #[] #[])
 |agg {N} (cs:List AV) (vs:List Value) (hl:vs.length=cs.length) (h1:∀u ∈ vs,u.oneCell'=true) (hr:∀j,j<cs.length->aM ρ L I w N (cs.getD j .bad) (vs.getD j default)):
   aM ρ L I w N (.agg cs) (.agg vs.toArray)
 |aG {N} (cs:List AV) (vs:List Value) (hl:vs.length=cs.length) (hr:∀j,j<cs.length->aM ρ L I w N (cs.getD j .bad) (vs.getD j default)):
   aM ρ L I w N (.aG cs) (.tuple vs.toArray)
 |bad {N} (v:Value):aM ρ L I w N .bad v
structure mN(N:Nat->Prop)(ρ:Place)(L:aZ)(I:Nat->Prop)(w:World)(ρ':Place)(L':aZ)(I':Nat->Prop)(w':World):Prop where
 alive:∀n len sz,N n->L' n=some (len,sz)->L n=some (len,sz)->ρ' n=ρ n
 back:∀n len sz,N n->L' n=some (len,sz)->∃len',L n=some (len',sz)/\len'<=len
 oA:∀b,I b->I' b
 cell:∀b,I b->w'.heap[b]? =w.heap[b]?
theorem mN.refl(N:Nat->Prop)(ρ:Place)(L:aZ)(I:Nat->Prop)(w:World):mN N ρ L I w ρ L I w:=
 ⟨fun _ _ _ _ _ _=>rfl,fun _ len _ _ h=>⟨len,h,Nat.le_refl _⟩,fun _ h=>h,fun _ _=>rfl⟩
theorem mN.trans{N:Nat->Prop}{ρ ρ' Q7:Place}{L L' L'':aZ}{I I' I'':Nat->Prop}{w w' w'':World}(h:mN N ρ L I w ρ' L' I' w')(k:mN N ρ' L' I' w' Q7 L'' I'' w''):mN N ρ L I w Q7 L'' I'' w'':=by
 refine⟨?_,?_,fun b hb=>k.oA b (h.oA b hb),fun b hb=>(k.cell b (h.oA b hb)).trans (h.cell b hb)⟩
 ·intro n len sz hn h2 h0
  obtain⟨l1,e1,g1⟩:=k.back n len sz hn h2
  obtain⟨l0,e0,g0⟩:=h.back n l1 sz hn e1
  rw[h0]at e0
  simp only[Option.some.injEq,Prod.mk.injEq]at e0
  obtain⟨rfl,_⟩:=e0
  have:l1=len:=by omega
  subst this
  exact (k.alive n l1 sz hn h2 e1).trans (h.alive n l1 sz hn e1 h0)
 ·intro n len sz hn h2
  obtain⟨l1,e1,g1⟩:=k.back n len sz hn h2
  obtain⟨l0,e0,g0⟩:=h.back n l1 sz hn e1
  exact⟨l0,e0,by omega⟩
theorem mN.mono{N N':Nat->Prop}(hle:∀n,N' n->N n){ρ ρ':Place}{L L':aZ}{I I':Nat->Prop}{w w':World}(h:mN N ρ L I w ρ' L' I' w'):mN N' ρ L I w ρ' L' I' w':=
 ⟨fun n len sz hn=>h.alive n len sz (hle n hn),fun n len sz hn=>h.back n len sz (hle n hn),h.oA,h.cell⟩
theorem cell_of_heap{w w':World}{b o:Nat}(h:w'.heap[b]? =w.heap[b]?):w'.cell? ⟨b,o,none⟩=w.cell? ⟨b,o,none⟩:=by
 simp[World.cell?,h]
theorem aM.rK{ρ ρ':Place}{L L':aZ}{I I':Nat->Prop}{w w':World}{NX:Nat->Prop}(E:mN NX ρ L I w ρ' L' I' w'){N:Nat->Prop}{a:AV}{v:Value}(h:aM ρ L I w N a v):(∀n,N n->NX n)->aM ρ' L' I' w' N a v:=by
 induction h with
 |int k n=>exact fun _=> .int k n
 |bool b=>exact fun _=> .bool b
 |str s=>exact fun _=> .str s
 |ax=>exact fun _=> .ax
 |ab=>exact fun _=> .ab
 |af=>exact fun _=> .af
 |dj=>exact fun _=> .dj
 |bQ=>exact fun _=> .bQ
 |oC n r=>exact fun _=> .oC n r
 | @loc N n len i off v hn hv h=>
   refine fun hx=> .loc n len i off v hn hv fun l sz hl=> ?_
   obtain⟨l0,e0,g0⟩:=E.back n l sz (hx n hn) hl
   obtain⟨h1,h2⟩:=h l0 sz e0
   refine⟨by omega,fun e=> ?_⟩
   have:l0=l:=by omega
   subst this
   rw[E.alive n l0 sz (hx n hn) hl e0]
   exact h2 e
 | @bi N n len v hn hv h=>
   refine fun hx=> .bi n len v hn hv fun l sz hl=> ?_
   obtain⟨l0,e0,g0⟩:=E.back n l sz (hx n hn) hl
   obtain⟨h1,h2⟩:=h l0 sz e0
   refine⟨by omega,fun e=> ?_⟩
   have:l0=l:=by omega
   subst this
   rw[E.alive n l0 sz (hx n hn) hl e0]
   exact h2 e
 | @dp N n len i off cnt v hn hv h=>
   refine fun hx=> .dp n len i off cnt v hn hv fun l sz hl=> ?_
   obtain⟨l0,e0,g0⟩:=E.back n l sz (hx n hn) hl
   obtain⟨h1,h2⟩:=h l0 sz e0
   refine⟨by omega,fun e=> ?_⟩
   have:l0=l:=by omega
   subst this
   rw[E.alive n l0 sz (hx n hn) hl e0]
   exact h2 e
 | @omap N n v hn hv h=>
   refine fun hx=> .omap n v hn hv fun sz hl=> ?_
   obtain⟨l0,e0,g0⟩:=E.back n 0 sz (hx n hn) hl
   obtain rfl:l0=0:=by omega
   rw[E.alive n 0 sz (hx n hn) hl e0]
   exact h sz e0
 |cJ sz a cap hc=>exact fun _=> .cJ sz a cap hc
 |aH sz es b o cap c hl hc hI hs h1 hcell hr ih=>
  exact fun _=> .aH sz es b o cap c hl hc (E.oA b hI) hs h1 (fun i j hi hj=>(cell_of_heap (E.cell b hI)).trans (hcell i j hi hj)) (fun i j hi hj=>ih i j hi hj (fun _ h=>h.elim))
 |be e off b o c hI h1 hcell hr ih=>
  exact fun _=> .be e off b o c (E.oA b hI) h1 (fun j hj=>(cell_of_heap (E.cell b hI)).trans (hcell j hj)) (fun j hj=>ih j hj (fun _ h=>h.elim))
 |bL f aQ vs hl hr ih=>exact fun hx=> .bL f aQ vs hl (fun j hj=>ih j hj hx)
 |qn f aQ vs hl hr ih=>exact fun hx=> .qn f aQ vs hl (fun j hj=>ih j hj hx)
 |agg cs vs hl h1 hr ih=>exact fun hx=> .agg cs vs hl h1 (fun j hj=>ih j hj hx)
 |aG cs vs hl hr ih=>exact fun hx=> .aG cs vs hl (fun j hj=>ih j hj hx)
 |bad v=>exact fun _=> .bad v
theorem aM.wide{ρ:Place}{L:aZ}{I:Nat->Prop}{w:World}{N:Nat->Prop}{a:AV}{v:Value}(h:aM ρ L I w N a v):∀{N':Nat->Prop},(∀n,N n->N' n)->aM ρ L I w N' a v:=by
 induction h with
 |int k n=>exact fun _=> .int k n
 |bool b=>exact fun _=> .bool b
 |str s=>exact fun _=> .str s
 |ax=>exact fun _=> .ax
 |ab=>exact fun _=> .ab
 |af=>exact fun _=> .af
 |dj=>exact fun _=> .dj
 |bQ=>exact fun _=> .bQ
 |oC n r=>exact fun _=> .oC n r
 |loc n len i off v hn h1 h=>exact fun hx=> .loc n len i off v (hx n hn) h1 h
 |bi n len v hn h1 h=>exact fun hx=> .bi n len v (hx n hn) h1 h
 |dp n len i off cnt v hn h1 h=>exact fun hx=> .dp n len i off cnt v (hx n hn) h1 h
 |omap n v hn h1 h=>exact fun hx=> .omap n v (hx n hn) h1 h
 |cJ sz a cap hc=>exact fun _=> .cJ sz a cap hc
 |aH sz es b o cap c hl hc hI hs h1 hcell hr ih=>exact fun _=> .aH sz es b o cap c hl hc hI hs h1 hcell hr
 |be e off b o c hI h1 hcell hr ih=>exact fun _=> .be e off b o c hI h1 hcell hr
 |bL f aQ vs hl hr ih=>exact fun hx=> .bL f aQ vs hl (fun j hj=>ih j hj hx)
 |qn f aQ vs hl hr ih=>exact fun hx=> .qn f aQ vs hl (fun j hj=>ih j hj hx)
 |agg cs vs hl h1 hr ih=>exact fun hx=> .agg cs vs hl h1 (fun j hj=>ih j hj hx)
 |aG cs vs hl hr ih=>exact fun hx=> .aG cs vs hl (fun j hj=>ih j hj hx)
 |bad v=>exact fun _=> .bad v
theorem aM.bare{ρ:Place}{L:aZ}{I:Nat->Prop}{w:World}{N:Nat->Prop}{a:AV}{v:Value}(h:aM ρ L I w N a v):(∀n,¬N n)->∀(ρ':Place)(L':aZ),aM ρ' L' I w cI a v:=by
 induction h with
 |int k n=>exact fun _ _ _=> .int k n
 |bool b=>exact fun _ _ _=> .bool b
 |str s=>exact fun _ _ _=> .str s
 |ax=>exact fun _ _ _=> .ax
 |ab=>exact fun _ _ _=> .ab
 |af=>exact fun _ _ _=> .af
 |dj=>exact fun _ _ _=> .dj
 |bQ=>exact fun _ _ _=> .bQ
 |oC n r=>exact fun _ _ _=> .oC n r
 |loc n len i off v hn h1 h=>exact fun hx=>(hx n hn).elim
 |bi n len v hn h1 h=>exact fun hx=>(hx n hn).elim
 |dp n len i off cnt v hn h1 h=>exact fun hx=>(hx n hn).elim
 |omap n v hn h1 h=>exact fun hx=>(hx n hn).elim
 |cJ sz a cap hc=>exact fun _ _ _=> .cJ sz a cap hc
 |aH sz es b o cap c hl hc hI hs h1 hcell hr ih=>exact fun _ ρ' L'=> .aH sz es b o cap c hl hc hI hs h1 hcell (fun i j hi hj=>ih i j hi hj (fun _ h=>h) ρ' L')
 |be e off b o c hI h1 hcell hr ih=>exact fun _ ρ' L'=> .be e off b o c hI h1 hcell (fun j hj=>ih j hj (fun _ h=>h) ρ' L')
 |bL f aQ vs hl hr ih=>exact fun hx ρ' L'=> .bL f aQ vs hl (fun j hj=>ih j hj hx ρ' L')
 |qn f aQ vs hl hr ih=>exact fun hx ρ' L'=> .qn f aQ vs hl (fun j hj=>ih j hj hx ρ' L')
 |agg cs vs hl h1 hr ih=>exact fun hx ρ' L'=> .agg cs vs hl h1 (fun j hj=>ih j hj hx ρ' L')
 |aG cs vs hl hr ih=>exact fun hx ρ' L'=> .aG cs vs hl (fun j hj=>ih j hj hx ρ' L')
 |bad v=>exact fun _ _ _=> .bad v
def aN:Value->List Value
 | .agg cs=>cs.toList
 |v=>[v]
def gA:Value->Bool
 | .agg _=>true
 |_=>false
structure xE(k:Nat)(ka va:Bool)(dn:Dn)(sz:Nat)(en:Array Go.MapEntry)(ck:Nat)(cs:Array Value):Prop where
 key:∀(i:Nat)(e:Go.MapEntry),en[i]? =some e->(aN e.key).length=k/\(aN e.key++aN e.val).length=sz/\gA e.key=ka/\gA e.val=va
 cell:∀(i:Nat)(e:Go.MapEntry)(j:Nat)(u:Value),en[i]? =some e->(aN e.key++aN e.val)[j]? =some u->cs[i*sz+j]? =some u
 born:∀(i j:Nat)(e f:Go.MapEntry),en[i]? =some e->en[j]? =some f->i<j->e.born<f.born
 clock:∀(i:Nat)(e:Go.MapEntry),en[i]? =some e->e.born<ck
 den:dn.all=true->ck=en.size/\∀(i:Nat)(e:Go.MapEntry),en[i]? =some e->e.born=i
 room:cs.size=maxLen*sz/\sz≠0
def fD(mp:Option (Nat × Bool × Bool × Dn))(sz len:Nat)(o:Option Obj)(cs:Array Value)(ty:Nat)(fr:Nat × Nat):Prop:=match mp with
 |none=>o=some (.cells cs ty fr)
 |some (k,ka,va,dn)=>∃en ck,o=some (.map en ck)/\en.size=len/\xE k ka va dn sz en ck cs
section
variable {mp:Option (Nat × Bool × Bool × Dn)} {sz len ty:Nat} {cs:Array Value} {fr:Nat × Nat}
theorem fD.some{o:Option Obj}(h:fD mp sz len o cs ty fr):∃x,o=some x:=by
 unfold fD at h
 split at h
 ·exact⟨_,h⟩
 ·obtain⟨_,_,h,_⟩:=h; exact⟨_,h⟩
theorem fD.lt{w:World}{g:Nat}(h:fD mp sz len w.heap[g]? cs ty fr):g<w.heap.size:=by
 obtain⟨x,h⟩:=h.some; exact (Array.getElem?_eq_some_iff.1 h).1
theorem fD.at{o o':Option Obj}(h:fD mp sz len o cs ty fr)(e:o'=o):fD mp sz len o' cs ty fr:=e ▸ h
theorem fD.sg{o:Option Obj}(h:fD mp sz len o cs ty fr){a:Option Nat}{b:Nat}{c:Array Nat}{d:Nat}:o≠Option.some (.mapIter a b c d):=by
 unfold fD at h
 split at h
 ·rw[h]; exact fun e=>by cases e
 ·obtain⟨_,_,h,_⟩:=h; rw[h]; exact fun e=>by cases e
theorem fD.cells{o:Option Obj}(h:fD mp sz len o cs ty fr)(hm:mp=none):o= .some (.cells cs ty fr):=by subst hm; exact h
end
end Go.AM
namespace Go.AM
open Go.RowKit
def gB:Mem->Nat->bf->Mem
 |[],n,b=>[(n,b)]
 |(m,c)::r,n,b=>bif n==m then (m,b)::r else (m,c)::gB r n b
theorem mO(M:Mem)(n:Nat)(b:bf)(m:Nat):aa (gB M n b) m=if m=n then some b else aa M m:=by
 induction M with
 |nil=>
  by_cases h:m=n
  ·subst h; simp[gB,aa]
  ·have hb:(m==n)=false:=by simpa using h
   simp[gB,aa,h,hb]
 |cons x r ih=>
  obtain⟨k,c⟩:=x
  by_cases h:n=k
  ·subst h
   by_cases h':m=n
   ·subst h'; simp[gB,aa]
   ·have hb:(m==n)=false:=by simpa using h'
    simp[gB,aa,h',hb]
  ·have hb:(n==k)=false:=by simpa using h
   simp only[gB,hb,cond_false,aa]
   by_cases h':m=k
   ·subst h'
    have:m≠n:=fun e=>h e.symm
    simp[this]
   ·have hb':(m==k)=false:=by simpa using h'
    simp only[hb',cond_false,ih]
structure bM where
 w0:World
 p:Nat
 I0:Nat->Prop
 size:Nat
 ρ0:Place
 L0:aZ
def bM.fp(C:bM)(g:Nat):Prop:=∃n c,n<C.p/\C.ρ0 n=some (g,c)
structure Q8(C:bM)(w:World):Prop where
 os:w.os=C.w0.os
 tape:w.tape=C.w0.tape
 output:w.output=C.w0.output
 drawn:C.w0.drawn<=w.drawn
 size:C.w0.heap.size<=w.heap.size
 block:∀g,g<C.w0.heap.size->¬C.fp g->w.heap[g]? =C.w0.heap[g]?
theorem zZ{fr:Nat × Nat}{n:Nat}(h:fr.1=fr.2\/ n<=fr.1)(o:Nat)(ho:o<n):¬ (fr.1<=o/\o<fr.2):=by omega
structure si(C:bM)(ρ:Place)(L:aZ)(I:Nat->Prop)(w:World)(N:Nat->Prop)(n:Nat)(b:bf):Prop where
 lt:N n
 even:∀e ∈ b.es,e.length=b.sz
 dX:ρ n=none->b.es=[]
 real:∀g cap,ρ n=some (g,cap)->∃cs fr,fD b.mp b.sz b.es.length w.heap[g]? cs b.ty fr/\(fr.1=fr.2\/ cs.size<=fr.1)/\¬I g/\((n<C.p/\∃c,C.ρ0 n=some (g,c))\/ C.w0.heap.size<=g)/\b.es.length<=cap/\cap<=maxLen/\cs.size=cap*b.sz/\
  ∀i j,i<b.es.length->j<b.sz->∃u,cs[i*b.sz+j]? =some u/\u.oneCell'=true/\aM ρ L I w N ((b.es.getD i []).getD j .bad) u
 iter:∀k ka va r sn la,b.mp=some (k,ka,va,.it r sn la)->∃g cap,ρ n=some (g,cap)/\C.w0.heap.size<=r/\¬I r/\EJ w g r sn la
structure bZ(C:bM)(ρ:Place)(I:Nat->Prop)(M:bg)(N:Nat->Prop)(w:World):Prop where
 aS:∀n b,M n=some b->si C ρ (lens M) I w N n b
 inj:∀n m b b' g c c',M n=some b->M m=some b'->ρ n=some (g,c)->ρ m=some (g,c')->n=m
 oA:∀g,C.I0 g->I g
 lt:∀g,I g->g<w.heap.size
 old:∀g,g<C.w0.heap.size->I g->C.I0 g
 keeps:Q8 C w
 pn:∀n,n<C.p->N n
 Cx:∀g,C.fp g->g<C.w0.heap.size/\¬C.I0 g
 par:∀n len sz,n<C.p->lens M n=some (len,sz)->∃pI,C.L0 n=some (pI,sz)/\pI<=len/\(pI=len->ρ n=C.ρ0 n)
theorem bZ.mP{C:bM}{ρ ρ':Place}{I I':Nat->Prop}{M:bg}{L':aZ}{N:Nat->Prop}{w w':World}(h:bZ C ρ I M N w)(E:mN N ρ (lens M) I w ρ' L' I' w'):
  ∀n len sz,n<C.p->L' n=some (len,sz)->∃pI,C.L0 n=some (pI,sz)/\pI<=len/\(pI=len->ρ' n=C.ρ0 n):=by
 intro n len sz hn hl
 obtain⟨l1,e1,g1⟩:=E.back n len sz (h.pn n hn) hl
 obtain⟨l0,e0,g0,k0⟩:=h.par n l1 sz hn e1
 refine⟨l0,e0,by omega,fun e=> ?_⟩
 have e2:l1=len:=by omega
 subst e2
 exact (E.alive n l1 sz (h.pn n hn) hl e1).trans (k0 e)
theorem aA{M:bg}{n l sz:Nat}:lens M n=some (l,sz)↔∃b,M n=some b/\b.ln=l/\b.sz=sz:=by
 simp[lens,Option.map_eq_some_iff]
theorem bf.E0{b:bf}(h:b.es=[]):b.ln=0:=by unfold bf.ln; split<;>simp[h]
theorem bf.bX{b:bf}(h:b.mp=none):b.ln=b.es.length:=by unfold bf.ln; rw[h]
def cZ(M:bg)(n:Nat)(b:bf):bg:=fun m=>if m=n then some b else M m
theorem bW(M:bg)(n:Nat)(b:bf)(m:Nat):lens (cZ M n b) m=if m=n then some (b.ln,b.sz)else lens M m:=by
 unfold lens cZ
 split<;>simp
def z'(N:Nat->Prop)(n:Nat):Nat->Prop:=fun m=>m=n\/ N m
def iF(ρ:Place)(n:Nat)(x:Nat × Nat):Place:=fun m=>if m=n then some x else ρ m
theorem iU(b:Nat):∀(vs:List Value)(o:Nat)(w:World),(w.setCells b o vs).drawn=w.drawn
 |[],_,_=>rfl
 |v::r,o,w=>by
  rw[World.setCells,iU b r]
  unfold World.setCell
  split<;>rfl
theorem kE(w:World)(a:Addr)(n:Nat):(w.freeze a n).drawn=w.drawn:=by
 unfold World.freeze
 split<;>rfl
theorem bZ.put{C:bM}{ρ:Place}{I:Nat->Prop}{M:bg}{N:Nat->Prop}{w w':World}(h:bZ C ρ I M N w)
  (n:Nat) (b:bf) (g cap:Nat) (cs:Array Value) (fr:Nat × Nat)
  (hos:w'.os=w.os) (sj:w'.tape=w.tape) (hout:w'.output=w.output) (hsz:w.heap.size<=w'.heap.size)
  (dm:∀k,k<w.heap.size->k≠g->w'.heap[k]? =w.heap[k]?)
  (hg:fD b.mp b.sz b.es.length w'.heap[g]? cs b.ty fr) (nH:fr.1=fr.2\/ cs.size<=fr.1)
  (sk:w.heap.size<=g\/∃c0,ρ n=some (g,c0)/\∃b0,M n=some b0)
  (hold:∀b0,M n=some b0->b0.sz=b.sz/\b0.ln<=b.ln/\(b0.ln=b.ln->ρ n=some (g,cap)))
  (jY:N n->∃b0,M n=some b0)
  (E2:∀e ∈ b.es,e.length=b.sz) (hlen:b.es.length<=cap) (hcap:cap<=maxLen) (hcs:cs.size=cap*b.sz)
  (pJ:∀i j,i<b.es.length->j<b.sz->∃u,cs[i*b.sz+j]? =some u/\u.oneCell'=true/\aM ρ (lens M) I w N ((b.es.getD i []).getD j .bad) u)
  (hit:∀k ka va r sn la,b.mp=some (k,ka,va,.it r sn la)->C.w0.heap.size<=r/\¬I r/\EJ w' g r sn la:=by intro _ _ _ _ _ _ hnone; first|(cases hnone; done)|(simp_all; done))
  (Lb:w.drawn<=w'.drawn:=by first|exact Nat.le_refl _|exact Nat.le_succ _|assumption|exact Nat.le_of_eq (iU ..).symm|(refine Nat.le_trans ?_ (Nat.le_of_eq (kE ..).symm); exact Nat.le_succ _)):
  mN N ρ (lens M) I w (iF ρ n (g,cap)) (lens (cZ M n b)) I w'/\bZ C (iF ρ n (g,cap)) I (cZ M n b) (z' N n) w':=by
 have hgI:¬I g:=by
  intro hI
  rcases sk with hp|⟨c0,hp,b0,hb0⟩
  ·have:=h.lt g hI; omega
  ·obtain⟨_,_,_,_,nU,_⟩:=(h.aS n b0 hb0).real g c0 hp
   exact nU hI
 have hown:(n<C.p/\∃c,C.ρ0 n=some (g,c))\/ C.w0.heap.size<=g:=by
  rcases sk with hp|⟨c0,hp,b0,hb0⟩
  ·right; have:=h.keeps.size; omega
  ·obtain⟨_,_,_,_,_,ho,_⟩:=(h.aS n b0 hb0).real g c0 hp
   exact ho
 have E:mN N ρ (lens M) I w (iF ρ n (g,cap)) (lens (cZ M n b)) I w':=by
  refine⟨?_,?_,fun _ h=>h,?_⟩
  ·intro m len sz hm h1 h0
   by_cases e:m=n
   ·subst e
    rw[bW,if_pos rfl]at h1
    simp only[Option.some.injEq,Prod.mk.injEq]at h1
    obtain⟨b0,hb0,hl0,_⟩:=aA.1 h0
    obtain⟨_,_,h3⟩:=hold b0 hb0
    simp only[iF,if_pos]
    exact (h3 (by omega)).symm
   ·simp[iF,e]
  ·intro m len sz hm h1
   by_cases e:m=n
   ·subst e
    rw[bW,if_pos rfl]at h1
    simp only[Option.some.injEq,Prod.mk.injEq]at h1
    obtain⟨b0,hb0⟩:=jY hm
    obtain⟨h2,h3,_⟩:=hold b0 hb0
    exact⟨b0.ln,aA.2 ⟨b0,hb0,rfl,by omega⟩,by omega⟩
   ·rw[bW,if_neg e]at h1
    exact⟨len,h1,Nat.le_refl _⟩
  ·intro k hk
   exact dm k (h.lt k hk) (fun e=>hgI (e ▸ hk))
 refine⟨E,?_,?_,h.oA,?_,h.old,?_,?_,h.Cx,h.mP E⟩
 ·intro m bm hm
  simp only[cZ]at hm
  by_cases e:m=n
  ·subst e
   rw[if_pos rfl]at hm
   simp only[Option.some.injEq]at hm
   subst hm
   refine⟨Or.inl rfl,E2,fun h0=>by simp[iF]at h0,fun g' cap' h0=> ?_,fun k ka va r sn la hb=>⟨g,cap,by simp[iF],hit k ka va r sn la hb⟩⟩
   simp only[iF,if_pos,Option.some.injEq,Prod.mk.injEq]at h0
   obtain⟨rfl,rfl⟩:=h0
   refine⟨cs,fr,hg,nH,hgI,hown,hlen,hcap,hcs,fun i j hi hj=> ?_⟩
   obtain⟨u,hu,pF,hr⟩:=pJ i j hi hj
   exact⟨u,hu,pF,(hr.rK E (fun _ h=>h)).wide (fun _ h=>Or.inr h)⟩
  ·rw[if_neg e]at hm
   have B:=h.aS m bm hm
   have key:∀g' cap',ρ m=some (g',cap')->g'<w.heap.size/\g'≠g:=fun g' cap' h0'=>by
    obtain⟨cs',fr',hc1,_⟩:=B.real g' cap' h0'
    have hlt:g'<w.heap.size:=hc1.lt
    refine⟨hlt,?_⟩
    rintro rfl
    rcases sk with hp|⟨c0,hp,b0,hb0⟩
    ·omega
    ·exact e (h.inj m n bm b0 g' cap' c0 hm hb0 h0' hp)
   refine⟨Or.inr B.lt,B.even,fun h0=>B.dX (by simpa[iF,e]using h0),fun g' cap' h0=> ?_,fun k ka va r sn la hb=> ?_⟩
   rotate_left
   ·obtain⟨g',cap',h0',i1,i2,i3⟩:=B.iter k ka va r sn la hb
    obtain⟨hlt,hne⟩:=key g' cap' h0'
    refine⟨g',cap',by simpa[iF,e]using h0',i1,i2,i3.at (dm g' hlt hne) (dm r i3.lt ?_)⟩
    rintro rfl
    rcases sk with hp|⟨c0,hp,b0,hb0⟩
    ·have:=i3.lt; omega
    ·obtain⟨en,ck,since,seen,_,k2,_⟩:=i3
     obtain⟨_,_,hc1,_⟩:=(h.aS n b0 hb0).real _ c0 hp
     exact hc1.sg k2
   have h0':ρ m=some (g',cap'):=by simpa[iF,e]using h0
   obtain⟨hlt,hne⟩:=key g' cap' h0'
   obtain⟨cs',fr',hc1,Cy,jV,Cz,BR,Aa,CA,CB⟩:=B.real g' cap' h0'
   refine⟨cs',fr',hc1.at (dm g' hlt hne),Cy,jV,Cz,BR,Aa,CA,fun i j hi hj=> ?_⟩
   obtain⟨u,hu,pF,hr⟩:=CB i j hi hj
   exact⟨u,hu,pF,(hr.rK E (fun _ h=>h)).wide (fun _ h=>Or.inr h)⟩
 ·intro m k bm bk g' c c' hm hk h1 h2
  have lt':∀(q:Nat)(bq:bf)(c0:Nat),M q=some bq->ρ q=some (g,c0)->q=n:=by
   intro q bq c0 hq hρ
   obtain⟨cs',fr',hc1,_⟩:=(h.aS q bq hq).real g c0 hρ
   have hlt:g<w.heap.size:=hc1.lt
   rcases sk with hp|⟨c1,hp,b0,hb0⟩
   ·omega
   ·exact h.inj q n bq b0 g c0 c1 hq hb0 hρ hp
  simp only[cZ]at hm hk
  by_cases e:m=n<;>by_cases e':k=n
  ·omega
  ·subst e
   rw[if_neg e']at hk
   simp only[iF,if_pos,if_neg e',Option.some.injEq,Prod.mk.injEq]at h1 h2
   obtain⟨rfl,_⟩:=h1
   exact (lt' k bk c' hk h2).symm
  ·subst e'
   rw[if_neg e]at hm
   simp only[iF,if_pos,if_neg e,Option.some.injEq,Prod.mk.injEq]at h1 h2
   obtain⟨rfl,_⟩:=h2
   exact lt' m bm c hm h1
  ·rw[if_neg e]at hm
   rw[if_neg e']at hk
   simp only[iF,if_neg e,if_neg e']at h1 h2
   exact h.inj m k bm bk g' c c' hm hk h1 h2
 ·intro k hk; have:=h.lt k hk; omega
 ·refine⟨hos.trans h.keeps.os,sj.trans h.keeps.tape,hout.trans h.keeps.output,Nat.le_trans h.keeps.drawn Lb,Nat.le_trans h.keeps.size hsz,fun k hk hf=> ?_⟩
  refine (dm k (Nat.lt_of_lt_of_le hk h.keeps.size) ?_).trans (h.keeps.block k hk hf)
  rintro rfl
  rcases hown with⟨hp,c,hc⟩|ho
  ·exact hf ⟨n,c,hp,hc⟩
  ·omega
 ·exact fun m hm=>Or.inr (h.pn m hm)
theorem bZ.ext'{C:bM}{ρ:Place}{I I':Nat->Prop}{M:bg}{N:Nat->Prop}{w w':World}(h:bZ C ρ I M N w)
  (hos:w'.os=w.os) (sj:w'.tape=w.tape) (hout:w'.output=w.output) (hsz:w.heap.size<=w'.heap.size)
  (dm:∀k,k<w.heap.size->w'.heap[k]? =w.heap[k]?)
  (hI:∀k,I k->I' k) (hlt:∀k,I' k->k<w'.heap.size) (wz:∀k,k<w.heap.size->I' k->I k)
  (Lb:C.w0.drawn<=w'.drawn):
  mN N ρ (lens M) I w ρ (lens M) I' w'/\bZ C ρ I' M N w':=by
 have E:mN N ρ (lens M) I w ρ (lens M) I' w':=⟨fun _ _ _ _ _ _=>rfl,fun _ len _ _ h=>⟨len,h,Nat.le_refl _⟩,hI,fun b hb=>dm b (h.lt b hb)⟩
 refine⟨E,fun n b hb=> ?_,h.inj,fun g hg=>hI g (h.oA g hg),hlt,fun g hg ur=>h.old g hg (wz g (Nat.lt_of_lt_of_le hg h.keeps.size) ur),?_,h.pn,h.Cx,h.mP E⟩
 ·have B:=h.aS n b hb
  refine⟨B.lt,B.even,B.dX,fun g cap hg=> ?_,fun k ka va r sn la hb=> ?_⟩
  rotate_left
  ·obtain⟨g,cap,hg,i1,i2,i3⟩:=B.iter k ka va r sn la hb
   obtain⟨_,_,hc1,_⟩:=B.real g cap hg
   exact⟨g,cap,hg,i1,fun hi=>i2 (wz r i3.lt hi),i3.at (dm g hc1.lt) (dm r i3.lt)⟩
  obtain⟨cs,fr,hc1,Cy,jV,Cz,BR,Aa,CA,CB⟩:=B.real g cap hg
  have hl:g<w.heap.size:=hc1.lt
  refine⟨cs,fr,hc1.at (dm g hl),Cy,fun hi=>jV (wz g hl hi),Cz,BR,Aa,CA,fun i j hi hj=> ?_⟩
  obtain⟨u,hu,pF,hr⟩:=CB i j hi hj
  exact⟨u,hu,pF,hr.rK E (fun _ h=>h)⟩
 ·exact⟨hos.trans h.keeps.os,sj.trans h.keeps.tape,hout.trans h.keeps.output,Lb,Nat.le_trans h.keeps.size hsz,fun g hg hf=>(dm g (Nat.lt_of_lt_of_le hg h.keeps.size)).trans (h.keeps.block g hg hf)⟩
theorem bZ.ext{C:bM}{ρ:Place}{I I':Nat->Prop}{M:bg}{N:Nat->Prop}{w w':World}(h:bZ C ρ I M N w)
 (hos:w'.os=w.os) (sj:w'.tape=w.tape) (hout:w'.output=w.output) (hsz:w.heap.size<=w'.heap.size)
 (dm:∀k,k<w.heap.size->w'.heap[k]? =w.heap[k]?)
 (hI:∀k,I k->I' k) (hlt:∀k,I' k->k<w'.heap.size) (wz:∀k,k<w.heap.size->I' k->I k)
 (Lb:w.drawn<=w'.drawn:=by first|exact Nat.le_refl _|exact Nat.le_succ _|assumption|exact Nat.le_of_eq (iU ..).symm|(refine Nat.le_trans ?_ (Nat.le_of_eq (kE ..).symm); exact Nat.le_succ _)):
 mN N ρ (lens M) I w ρ (lens M) I' w'/\bZ C ρ I' M N w':=h.ext' hos sj hout hsz dm hI hlt wz (Nat.le_trans h.keeps.drawn Lb)
def zd(z:Bool)(w:World):World:= {w with drawn:=bif z then 0 else w.drawn}
theorem E3(z:Bool)(w:World):(zd z w).drawn<=w.drawn:=by cases z; exact Nat.le_refl _; exact Nat.zero_le _
def sm(z:Bool)(C:bM):Prop:=z=true->C.w0.drawn=0
theorem zF{C:bM}:sm false C:=fun h=>Bool.noConfusion h
theorem zT{z:Bool}{C:bM}(h:C.w0.drawn=0):sm z C:=fun _=>h
theorem sm.le{z:Bool}{C:bM}(h:sm z C){w w1:World}(h0:C.w0.drawn<=w.drawn)(h1:(zd z w).drawn<=w1.drawn):C.w0.drawn<=w1.drawn:=by
 cases z
 ·exact Nat.le_trans h0 h1
 ·rw[h rfl]; exact Nat.zero_le _
theorem bZ.drew{C:bM}{ρ:Place}{I:Nat->Prop}{M:bg}{N:Nat->Prop}{w:World}(h:bZ C ρ I M N w):bZ C ρ I M N w.drew:=
 (h.ext (w':=w.drew) rfl rfl rfl (Nat.le_refl _) (fun _ _=>rfl) (fun _ h=>h) h.lt (fun _ _ h=>h)).2
mutual
def AV.under(N:Nat->Prop):AV->Prop
 | .loc n _ _ _=>N n
 | .bi n _=>N n
 | .dp n _ _ _ _=>N n
 | .omap n=>N n
 | .bL _ cs=>AV.fY N cs
 | .agg cs=>AV.fY N cs
 | .aG cs=>AV.fY N cs
 |_=>True
def AV.fY(N:Nat->Prop):List AV->Prop
 |[]=>True
 |c::cs=>AV.under N c/\AV.fY N cs
end
theorem AV.fQ{N:Nat->Prop}:∀(cs:List AV)(j:Nat),AV.fY N cs->j<cs.length->AV.under N (cs.getD j .bad)
 |[],_,_,h=>by simp at h
 |c::cs,0,h,_=>by simp only[AV.fY]at h; simpa using h.1
 |c::cs,j+1,h,hj=>by simp only[AV.fY]at h; simpa using AV.fQ cs j h.2 (by simpa using hj)
theorem aM.low{ρ:Place}{L:aZ}{I:Nat->Prop}{w:World}{N:Nat->Prop}{a:AV}{v:Value}(h:aM ρ L I w N a v):∀{N':Nat->Prop},a.under N'->aM ρ L I w N' a v:=by
 induction h with
 |int k n=>exact fun _=> .int k n
 |bool b=>exact fun _=> .bool b
 |str s=>exact fun _=> .str s
 |ax=>exact fun _=> .ax
 |ab=>exact fun _=> .ab
 |af=>exact fun _=> .af
 |dj=>exact fun _=> .dj
 |bQ=>exact fun _=> .bQ
 |oC n r=>exact fun _=> .oC n r
 |loc n len i off v hn h1 h=>exact fun hx=> .loc n len i off v (by simpa[AV.under]using hx) h1 h
 |bi n len v hn h1 h=>exact fun hx=> .bi n len v (by simpa[AV.under]using hx) h1 h
 |dp n len i off cnt v hn h1 h=>exact fun hx=> .dp n len i off cnt v (by simpa[AV.under]using hx) h1 h
 |omap n v hn h1 h=>exact fun hx=> .omap n v (by simpa[AV.under]using hx) h1 h
 |cJ sz a cap hc=>exact fun _=> .cJ sz a cap hc
 |aH sz es b o cap c hl hc hI hs h1 hcell hr ih=>exact fun _=> .aH sz es b o cap c hl hc hI hs h1 hcell hr
 |be e off b o c hI h1 hcell hr ih=>exact fun _=> .be e off b o c hI h1 hcell hr
 |bL f aQ vs hl hr ih=>exact fun hx=> .bL f aQ vs hl (fun j hj=>ih j hj (AV.fQ _ _ (by simpa[AV.under]using hx) hj))
 |qn f aQ vs hl hr ih=>exact fun hx=> .qn f aQ vs hl (fun j hj=>ih j hj (AV.fQ _ _ (by simpa[AV.under]using hx) hj))
 |agg cs vs hl h1 hr ih=>exact fun hx=> .agg cs vs hl h1 (fun j hj=>ih j hj (AV.fQ _ _ (by simpa[AV.under]using hx) hj))
 |aG cs vs hl hr ih=>exact fun hx=> .aG cs vs hl (fun j hj=>ih j hj (AV.fQ _ _ (by simpa[AV.under]using hx) hj))
 |bad v=>exact fun _=> .bad v
end Go.AM
namespace Go.AM
open Go.RowKit
inductive TD where
 |int (k:IntKind)|bool|str|ptr (e:Nat)|slice (e:Nat)|arr (n e:Nat)|struct (fs:List (Nat × Nat))|func|iface|map (k e:Nat)|aG|other
 deriving Inhabited
structure TT where
 d:Nat->TD
 s:Nat->Nat
 z:Nat->AV
def TD.ok:TD->Bool
 | .other=>false
 |_=>true
def TD.ag:TD->Bool
 | .arr .. =>true
 | .struct .. =>true
 |_=>false
structure St where
 F:aT
 M:Mem
 nx:Nat
def uy:Value->AV
 | .int k n=> .int k n
 | .bool b=> .bool b
 | .string s=> .str s.data.toList
 | .pointer none=> .ax
 | .slice none 0 0=> .ab
 | .nilFunc=> .af
 | .nilIface=> .dj
 | .map none=> .bQ
 |_=> .bad
def Lc:Value->AV
 | .agg cs=>bif cs.toList.all Value.oneCell' then .agg (cs.toList.map uy)else .bad
 | .tuple vs=> .aG (vs.toList.map uy)
 |v=>uy v
def ev(F:aT):Operand->AV
 | .tmp t=>look F t
 | .const v=>Lc v
 | .func f=> .bL (.fn f) []
 | .global _=> .bad
def oD(F:aT):List Operand->List AV
 |[]=>[]
 |o::r=>ev F o::oD F r
def cells:AV->List AV
 | .agg cs=>cs
 |v=>[v]
def bI:AV->Bool
 | .bad=>false
 | .aG _=>false
 |_=>true
def gC(F:aT):Option Nat->AV->aT
 |none,_=>F
 |some d,v=>(d,v)::F
def ej(b:Bool)(K:Prop):Prop:=bif b then K else False
theorem aF{b:Bool}{K:Prop}(h:b=true)(k:K):ej b K:=by simp[ej,h,k]
theorem ay{b:Bool}{K:Prop}(h:ej b K):b=true/\K:=by cases b<;>simp_all[ej]
inductive Ld where
 |lp (c:Code)
 |beg
 |cd (c:Code)
def Ld.item:Ld->Item
 | .lp c=> .inLoop c
 | .beg=> .beginRound
 | .cd c=> .code c
inductive It where
 |code (c:Code)
 |aS (id:Nat)
 |inl (c:Code)
 |ops (all:Array Oper) (i:Nat) (rest:List Oper) (gd:List (Nat × Nat))
 |iu (c:Ld) (post:St->Prop)
 |mQ (c:Code)
def It.item:It->Item
 | .code c=> .code c
 | .aS id=> .inBlock id
 | .inl c=> .inLoop c
 | .ops all i rest _=> .inRegion all (List.range' i rest.length)
 | .iu c _=>c.item
 | .mQ c=> .inScope c
def Q9(K:AV->Prop)(cs:List AV):Prop:=K (.agg cs)
def alive(M:Mem)(n len:Nat)(K:bf->Prop):Prop:=
 match aa M n with
 |some b=>ej (b.ln==len) (b.mp=none/\K b)
 |none=>False
def apart(ag:Bool)(n off:Nat)(cs:List AV)(K:AV->Prop):Prop:=
 ej (((cs.drop off).take n).length==n) (bif ag then K (.agg ((cs.drop off).take n))else ej (n==1) (K (((cs.drop off).take n).headD .bad)))
def wr(k:IntKind)(n:Int):Int:=k.wrap n
def da(op:BinOp)(k:IntKind)(x y:Int):Int:=
 let a:=BitVec.ofInt k.bits x
 let b:=BitVec.ofInt k.bits y
 match op with
 | .and=>k.wrap (a&&& b).toNat
 | .or=>k.wrap (a||| b).toNat
 | .xor=>k.wrap (a ^^^ b).toNat
 |_=>k.wrap (a&&& ~~~b).toNat
def jZ(k:IntKind)(x y:Int):Int:=k.wrap (x*2 ^ (min y.toNat k.bits))
def bA(k:IntKind)(x y:Int):Int:=x.fdiv (2 ^ (min y.toNat k.bits))
def Yr:IntKind->Nat
 | .i8=>0| .i16=>1| .i32=>2| .i64=>3| .u8=>4| .u16=>5| .u32=>6| .u64=>7
def rL(k k':IntKind):Bool:=Yr k==Yr k'
theorem iV{k k':IntKind}(h:rL k k'=true):k=k':=by
 cases k<;>cases k'<;>first|rfl|(simp[rL,Yr]at h)
def ID(op:BinOp)(x y:AV)(K:AV->Prop):Prop:=
 match x,y with
 | .int k a,.int k' b=>
   match op with
   | .shl=>(0<=b)/\K (.int k (jZ k a b))
   | .shr=>(0<=b)/\K (.int k (bA k a b))
   | .add=>ej (rL k k') (K (.int k (wr k (a+b))))
   | .sub=>ej (rL k k') (K (.int k (wr k (a - b))))
   | .mul=>ej (rL k k') (K (.int k (wr k (a*b))))
   | .quo=>(b≠0)/\ej (rL k k') (K (.int k (wr k (a.tdiv b))))
   | .rem=>(b≠0)/\ej (rL k k') (K (.int k (a.tmod b)))
   | .and=>ej (rL k k') (K (.int k (da .and k a b)))
   | .or=>ej (rL k k') (K (.int k (da .or k a b)))
   | .xor=>ej (rL k k') (K (.int k (da .xor k a b)))
   | .andNot=>ej (rL k k') (K (.int k (da .andNot k a b)))
   | .eql=>ej (rL k k') (K (.bool (a==b)))
   | .neq=>ej (rL k k') (K (.bool (a != b)))
   | .lss=>ej (rL k k') (K (.bool (decide (a<b))))
   | .leq=>ej (rL k k') (K (.bool (decide (a<=b))))
   | .gtr=>ej (rL k k') (K (.bool (decide (a>b))))
   | .geq=>ej (rL k k') (K (.bool (decide (a>= b))))
 |_,_=>False
def Ra(op:UnOp)(x:AV)(K:AV->Prop):Prop:=
 match op,x with
 | .neg,.int k n=>K (.int k (wr k (0 - n)))
 | .xor,.int k n=>K (.int k (da .xor k (if k.signed then -1 else k.max) n))
 | .not,.bool b=>K (.bool !b)
 |_,_=>False
def Rb(D:TD)(x:AV)(K:AV->Prop):Prop:=
 match D,x with
 | .int k,.int _ n=>K (.int k (wr k n))
 | .str,.str s=>K (.str s)
 |_,_=>False
def bH(off:Nat)(vs cs:List AV):List AV:=cs.take off++(vs++cs.drop (off+vs.length))
def oE(size:Nat->Nat):List (Nat × Nat)->List (Nat × AV)->List AV->(List AV->Prop)->Prop
 |_,[],cs,K=>K cs
 |fs,(i,v)::r,cs,K=>
  match fs[i]? with
  |some (off,t)=>ej (bI v&& !((cells v).length==0)&&(cells v).length==size t&&(((cs.drop off).take (cells v).length).length==(cells v).length)) (oE size fs r (bH off (cells v) cs) K)
  |none=>False
def oF(sz:Nat):List (Nat × AV)->List AV->(List AV->Prop)->Prop
 |[],cs,K=>K cs
 |(i,v)::r,cs,K=>ej (bI v&& !((cells v).length==0)&&(cells v).length==sz&&(((cs.drop (i*sz)).take (cells v).length).length==(cells v).length)) (oF sz r (bH (i*sz) (cells v) cs) K)
def lq(sz:Nat):List (Nat × AV)->List (List AV)->(List (List AV)->Prop)->Prop
 |[],es,K=>K es
 |(i,v)::r,es,K=>ej (bI v&&(cells v).length==sz&&((es.drop i).take 1).length==1) (lq sz r (es.set i (cells v)) K)
def pK(F:aT):List (Nat × Operand)->List (Nat × AV)
 |[]=>[]
 |(i,o)::r=>(i,ev F o)::pK F r
def E4(d:Nat->TD):List (Nat × Nat)->Bool
 |[]=>true
 |(_,t)::r=>(d t).ok&&E4 d r
def Ab(T:TT)(t:Nat)(ps:List (Nat × AV))(K:AV->Prop):Prop:=
 match T.d t with
 | .struct fs=>ej (E4 T.d fs&&bI (T.z t)&&(cells (T.z t)).length==T.s t) (oE T.s fs ps (cells (T.z t)) (Q9 K))
 | .arr _ e=>ej ((T.d e).ok&&bI (T.z t)&&(cells (T.z t)).length==T.s t) (oF (T.s e) ps (cells (T.z t)) (Q9 K))
 |_=>False
def Ad(T:TT)(t:Nat)(x ix:AV)(M:Mem)(K:AV->Prop):Prop:=
 match ix with
 | .int _ i=>
   match T.d t with
   | .slice e=>
     (match x with
     | .aH sz es=>ej (sz==T.s e) ((0<=i/\i<es.length)/\K (.be (es.getD i.toNat []) 0))
     | .bi n len=>alive M n len fun b=>ej (b.sz==T.s e) ((0<=i/\i<len)/\K (.loc n len i.toNat 0))
     | .dp n len j off cnt=>alive M n len fun _=>(0<=i/\i<cnt)/\K (.loc n len j (off+i.toNat*T.s e))
     |_=>False)
   | .arr m e=>
     (match x with
     | .loc n len j off=>alive M n len fun _=>(0<=i/\i< (m:Int))/\K (.loc n len j (off+i.toNat*T.s e))
     | .be c off=>(0<=i/\i< (m:Int))/\K (.be c (off+i.toNat*T.s e))
     |_=>False)
   |_=>False
 |_=>False
def nI(T:TT)(t:Nat)(a:AV)(M:Mem)(K:AV->Prop):Prop:=
 match a with
 | .loc n len i off=>alive M n len fun b=>apart (T.d t).ag (T.s t) off (b.es.getD i []) K
 | .be e off=>apart (T.d t).ag (T.s t) off e K
 |_=>False
def Ae(T:TT)(t:Nat)(a v:AV)(M:Mem)(K:Mem->Prop):Prop:=
 match a with
 | .loc n len i off=>alive M n len fun b=>
     ej (bI v&&(cells v).length==T.s t&& !(T.s t==0)&&((((b.es.getD i []).drop off).take (cells v).length).length==(cells v).length))
      (K (gB M n ⟨b.ty,b.sz,b.es.set i (bH off (cells v) (b.es.getD i [])),none⟩))
 |_=>False
def lC:Nat:=1073741824
def pL(sz:Nat):Nat->List AV->List (List AV)
 |0,_=>[]
 |n+1,r=>r.take sz::pL sz n (r.drop sz)
def nV(M:Mem)(sz:Nat)(x:AV)(K:List (List AV)->Prop):Prop:=
 match x with
 | .aH s es=>ej (s==sz) (K es)
 | .ab=>K []
 | .bi n len=>alive M n len fun b=>ej (b.sz==sz) (K b.es)
 | .dp n len i off cnt=>alive M n len fun b=>ej (Nat.blt i b.es.length&&Nat.ble (off+cnt*sz) b.sz&& !(sz==0)) (K (pL sz cnt ((b.es.getD i []).drop off)))
 | .str s=>ej (sz==1) (K (s.map fun c=>[.int .u8 c.toNat]))
 |_=>False
def rN(T:TT)(t:Nat)(s x:AV)(S:St)(K:AV->Mem->Nat->Prop):Prop:=
 match T.d t with
 | .slice e=>
   (match s with
   | .bi n len=>alive S.M n len fun b=>ej (b.sz==T.s e&&b.ty==e) (nV S.M (T.s e) x fun xs=>
       (len+xs.length<=lC)/\K (.bi n (len+xs.length)) (gB S.M n ⟨b.ty,b.sz,b.es++xs,none⟩) S.nx)
   | .ab=>nV S.M (T.s e) x fun xs=>(xs.length<=lC)/\K (.bi S.nx xs.length) (gB S.M S.nx ⟨e,T.s e,xs,none⟩) (S.nx+1)
   |_=>False)
 |_=>False
def so(k:IntKind)(a:Int):List AV->AV
 |[]=> .int k a
 | .int _ b::r=>so k (min a b) r
 |_=> .bad
def sq(k:IntKind)(a:Int):List AV->AV
 |[]=> .int k a
 | .int _ b::r=>sq k (max a b) r
 |_=> .bad
def xF:List AV->AV
 | .int k a::r=>so k a r
 |_=> .bad
def xG:List AV->AV
 | .int k a::r=>sq k a r
 |_=> .bad
mutual
def AV.names:AV->List Nat
 | .loc n _ _ _=>[n]
 | .bi n _=>[n]
 | .dp n _ _ _ _=>[n]
 | .omap n=>[n]
 | .bL _ cs=>AV.au cs
 | .agg cs=>AV.au cs
 | .aG cs=>AV.au cs
 |_=>[]
def AV.au:List AV->List Nat
 |[]=>[]
 |c::cs=>AV.names c++AV.au cs
end
def cX(M:bg):List (Nat × bf)->bg
 |[]=>M
 |(n,b)::r=>cX (cZ M n b) r
def bY(M:Mem):List (Nat × bf)->Mem
 |[]=>M
 |(n,b)::r=>bY (gB M n b) r
def fR(N:Nat->Prop)(ws:List (Nat × bf)):Nat->Prop:=fun m=>N m\/∃b,(m,b) ∈ ws
def gD(X:bM)(M:bg)(N:Nat->Prop)(ρ:Place)(I:Nat->Prop)(w:World)(av:AV)(ws:List (Nat × bf))(v:Value)(w1:World):Prop:=
 ∃ρ1 I1,mN N ρ (lens M) I w ρ1 (lens (cX M ws)) I1 w1/\bZ X ρ1 I1 (cX M ws) (fR N ws) w1/\aM ρ1 (lens (cX M ws)) I1 w1 (fR N ws) av v
def dq(ρ:Place)(L:aZ)(I:Nat->Prop)(w:World)(N:Nat->Prop)(as:List AV)(vs:List Value):Prop:=
 vs.length=as.length/\∀j,j<as.length->aM ρ L I w N (as.getD j .bad) (vs.getD j default)
def qo(P:Program)(X:bM)(f:Nat)(args:List AV)(M:bg)(av:AV)(ws:List (Nat × bf))(nw:List Nat):Prop:=
 (∀p ∈ ws,p.1 ∈ nw\/ p.1 ∈ AV.au args)/\
 ∀M' N ρ I w vs,bZ X ρ I M' N w->(∀n ∈ AV.au args,M' n=M n)->(∀n ∈ nw,¬N n)->dq ρ (lens M') I w N args vs->
  Calls P f vs.toArray w fun e w1=>∃v,e= .returned v/\gD X M' N ρ I w av ws v w1
def Le(P:Program)(X:bM)(f:Nat)(args:List AV)(Rx:List Nat)(M:bg)(av:AV)(ws:List (Nat × bf))(nw:List Nat):Prop:=
 (∀p ∈ ws,p.1 ∈ nw\/(p.1 ∈ Rx/\M p.1≠none))/\
 ∀M' N ρ I w vs,bZ X ρ I M' N w->(∀n ∈ Rx,M' n=M n)->(∀n ∈ nw,¬N n)->dq ρ (lens M') I w N args vs->
  Calls P f vs.toArray w fun e w1=>∃v,e= .returned v/\gD X M' N ρ I w av ws v w1
def pM(T:TT)(t:Nat)(x:AV)(lo hi mx:Option AV)(M:Mem)(K:AV->Prop):Prop:=
 match T.d t with
 | .slice e=>ej ((T.d e).ok) (match x with
   | .aH sz es=>ej (sz==T.s e) (match lo,hi,mx with
     |none,some (.int _ h),none=>(0<=h/\h<=es.length)/\K (.aH sz (es.take h.toNat))
     |some (.int _ l),none,none=>(0<=l/\l<=es.length)/\K (.aH sz (es.drop l.toNat))
     |some (.int _ l),some (.int _ h),none=>(0<=l/\l<=h/\h<=es.length)/\K (.aH sz ((es.take h.toNat).drop l.toNat))
     |none,some (.int _ h),some (.int _ m)=>(0<=h/\h<=m/\m<=es.length)/\K (.aH sz (es.take h.toNat))
     |_,_,_=>False)
   |_=>False)
 | .str=>(match x with
   | .str s=>(match lo,hi,mx with
     |none,some (.int _ h),none=>(0<=h/\h<=s.length)/\K (.str (s.take h.toNat))
     |some (.int _ l),none,none=>(0<=l/\l<=s.length)/\K (.str (s.drop l.toNat))
     |some (.int _ l),some (.int _ h),none=>(0<=l/\l<=h/\h<=s.length)/\K (.str ((s.take h.toNat).drop l.toNat))
     |_,_,_=>False)
   |_=>False)
 |_=>False
def pN(F:aT):Option Operand->Option AV
 |none=>none
 |some o=>some (ev F o)
def cQ(F:aT):Op->List Nat
 | .store _ a _=>(ev F a).names
 | .mapUpdate _ m _ _=>(ev F m).names
 | .insert _ m _ _=>(ev F m).names
 | .mapEntry _ m _=>(ev F m).names
 | .entryStore _ m _ _=>(ev F m).names
 | .call c=>(match c.callee,c.args.toList with
   | .builtin .delete,s::_=>(ev F s).names
   | .builtin .append,s::_=>(ev F s).names
   | .builtin .copy,s::_=>(ev F s).names
   | .value f,as=>(match ev F f with
     | .bL _ aQ=>AV.au (oD F as++aQ)
     |_=>[])
   |_,_=>[])
 |_=>[]
def Lf:List (Nat × Nat)->Nat->Option Nat
 |[],_=>none
 |(i,s)::r,j=>bif j==i then some s else Lf r j
def qp:List AV->List AV->Bool
 |[],_=>true
 | .int _ x::r,.int _ y::s=>(x==y)&&qp r s
 | .bool x::r,.bool y::s=>(x==y)&&qp r s
 | .str x::r,.str y::s=>(x==y)&&qp r s
 |_,_=>false
def cD(kc:List AV):List (List AV)->Option (Nat × List AV)
 |[]=>none
 |e::r=>if qp kc e then some (0,e.drop kc.length)else (cD kc r).map fun q=>(q.1+1,q.2)
def jW:List AV->Bool
 |[]=>true
 | .int .i64 _::r=>jW r
 |_::_=>false
def IE(q:Option (Nat × List AV)):AV:=match q with
 |some q=>q.2.headD .bad
 |none=> .int .i64 0
def Vw(x:Option bf):Option (Nat × Option (Nat × Bool × Bool × Dn) × (List AV->AV) × Prop):=x.map fun b=>(b.sz,b.mp,(fun kc=>if kc.length+1=b.sz then IE (cD kc b.es)else .bad),∀r ∈ b.es,jW r=true)
def qq(acc:List Nat):List Edge->Nat
 |[]=>0
 |e::r=>bif Region.binds .any e then (2 ^ e.on||| acc.getD e.on 0)||| qq acc r else qq acc r
def dB:List Oper->List Nat->List Nat
 |[],acc=>acc
 |o::r,acc=>dB r (acc++ [qq acc o.after.toList])
def sr:Nat->List Oper->Bool
 |_,[]=>true
 |i,o::r=>o.after.toList.all (fun e=> !Region.binds .any e||Nat.blt e.on i)&&sr (i+1) r
def BS(ops:Array Oper)(ms:List Nat):Bool:=
 (List.range ops.size).all fun j=>(List.range j).all fun i=>(ms.getD j 0).testBit i||(match ops[i]?,ops[j]? with
   |some x,some y=>x.apart ops y
   |_,_=>true)
def pO(ops:Array Oper):Bool:=sr 0 ops.toList&&BS ops (dB ops.toList [])
structure ga where
 i:Nat
 R:List Nat
 W:List Nat
 lo:Nat
 hi:Nat
 k:Nat
def Ma(lo hi:Nat)(R W:List Nat):Bool:=R.all fun n=> !(Nat.ble lo n&&Nat.blt n hi)&& !W.any (Nat.beq n)
def Ag(ms:List Nat)(x y:ga):Bool:=
 (ms.getD x.i 0).testBit y.i||(ms.getD y.i 0).testBit x.i||(Ma x.lo x.hi y.R x.W&&Ma y.lo y.hi x.R y.W)
def lK(log:List ga)(x:ga):Bool:=Nat.beq x.k 1&&log.all fun y=>x.R.all fun n=>Nat.blt n y.lo&&(Nat.beq y.k 2|| !y.W.any (Nat.beq n))
def CC(x y:ga):Bool:=Nat.beq x.k 3&&Nat.beq y.k 4
def wA(ops:Array Oper)(log:List ga):Bool:=log.all fun x=>log.all fun y=>Nat.beq x.i y.i||Ag (dB ops.toList []) x y||lK log x||lK log y||CC x y||CC y x
def nJ:List Operand->List Nat
 |[]=>[]
 | .tmp t::r=>t::nJ r
 |_::r=>nJ r
def IF(F:aT):List Nat->List Nat
 |[]=>[]
 |s::r=>(look F s).names++IF F r
def E5(i:Nat)(R W:List Nat)(lo hi k:Nat)(log:List ga):List ga:=bif (R.isEmpty&&W.isEmpty)&&lo==hi then log else ⟨i,R,W,lo,hi,k⟩::log
def iW(p:Option (Nat × List Nat × List Nat × Nat × Nat))(hi:Nat)(log:List ga):List ga:=match p with
 |some (i,R,W,lo,k)=>E5 i R W lo hi k log
 |none=>log
def Lg(id:Nat):List It->Option (List It)
 | .aS id'::k=>bif id'==id then some k else Lg id k
 |_::k=>Lg id k
 |[]=>none
def lL(I:Nat->Prop)(w:World)(X:bM)(ds:List Deferred):Prop:=
 ∃Ds:List Nat,ds=Ds.map (fun D=> {target:= .collected D,args:= #[]})/\Ds.Nodup/\∀D ∈ Ds,X.w0.heap.size<=D/\I D/\w.heap[D]? =some (.deferred (some []))
theorem lL.nil{I:Nat->Prop}{w:World}{X:bM}:lL I w X []:=⟨[],rfl,List.nodup_nil,fun D h=>by simp at h⟩
theorem lL.mono{I I':Nat->Prop}{w:World}{X:bM}{ds:List Deferred}(h:lL I w X ds)(hI:∀g,I g->I' g):lL I' w X ds:=by
 obtain⟨Ds,h1,h2,h3⟩:=h
 exact⟨Ds,h1,h2,fun D hD=>⟨(h3 D hD).1,hI D (h3 D hD).2.1,(h3 D hD).2.2⟩⟩
theorem lL.rK{N:Nat->Prop}{ρ ρ':Place}{L L':aZ}{I I':Nat->Prop}{w w':World}{X:bM}{ds:List Deferred}(h:lL I w X ds)(E:mN N ρ L I w ρ' L' I' w'):lL I' w' X ds:=by
 obtain⟨Ds,h1,h2,h3⟩:=h
 exact⟨Ds,h1,h2,fun D hD=>⟨(h3 D hD).1,E.oA D (h3 D hD).2.1,(E.cell D (h3 D hD).2.1).trans (h3 D hD).2.2⟩⟩
structure jw(ρ:Place)(I:Nat->Prop)(w:World)(X:bM)(S:St)(a:Act):Prop where
 rep:∀i,aM ρ (lens (aa S.M)) I w (· <S.nx) (look S.F i) (a.tmps.getD i undef)
 defers:lL I w X a.defers
 size:a.tmps.size=X.size
def hY(X:bM)(S:St)(a:Act)(w:World):Prop:=∃ρ I,bZ X ρ I (aa S.M) (· <S.nx) w/\jw ρ I w X S a
def BT(nr:Bool)(todo:List Item):Prop:=todo=[]\/(nr=false/\∃k,todo= .code .ret::k)
def iG(P:Program)(X:bM)(b:Frame)(R:St->Prop)(ks:List It)(a:Act)(w:World):Prop:=
 ∀cs,∃a' w' S',hY X S' a' w'/\
  ((∃todo,BT b.roundOf.isSome todo/\Steps P (lone (b.atR a (ks.map It.item)) cs w) (lone (b.atR a' todo) cs w')/\R S')\/
   (∃c post k',(It.iu c post::k') <:+ ks/\Steps P (lone (b.atR a (ks.map It.item)) cs w) (lone (b.atR a' ((It.iu c post::k').map It.item)) cs w')/\post S'))
def CD(size:Nat)(o:Oper):Bool:=match o.dst with|some d=>d<size|none=>true
def codeOk(size:Nat)(nr:Bool):Code->Bool
 | .ret=> !nr
 | .rangeFunc _ ps a c=> !nr&&codeOk size true a&&codeOk size true c&&ps.toList.all fun p=>Nat.blt p size
 | .region _ ops _=>ops.toList.all (CD size)
 | .seq a b=>codeOk size nr a&&codeOk size nr b
 | .cond _ a b=>codeOk size nr a&&codeOk size nr b
 | .block _ c=>codeOk size nr c
 | .loop c=>codeOk size nr c
 | .scope c=>codeOk size nr c
 |_=>true
def CE(size:Nat)(nr:Bool):It->Prop
 | .code c=>codeOk size nr c=true
 | .inl c=>codeOk size nr c=true
 | .iu _ _=>True
 | .aS _=>True
 | .mQ _=>True
 | .ops all i rest gd=>rest=all.toList.drop i/\rest.all (CD size)=true/\∀j s,Lf gd j=some s->(all[j]?).bind (·.dst)=some s
def Rc(P:Program)(X:bM)(b:Frame)(R:St->Prop)(c:Code)(ks:List It)(S:St):Prop:=
 codeOk X.size b.roundOf.isSome c=true->(∀x ∈ ks,CE X.size b.roundOf.isSome x)->∀a w,hY X S a w->iG P X b R (.code c:: .inl c::ks) a w
end Go.AM
namespace Go.AM
open Go.RowKit
theorem uz(M:Mem)(n:Nat)(b:bf):aa (gB M n b)=cZ (aa M) n b:=by
 funext m; rw[mO]; rfl
theorem gG(ws:List (Nat × bf)):∀M:Mem,aa (bY M ws)=cX (aa M) ws:=by
 induction ws with
 |nil=>intro M; rfl
 |cons p r ih=>intro M; simp only[bY,cX,ih,uz]
def dr(o:Op):List Nat:=nJ o.operands.toList
def bJ(P:Program)(X:bM)(o:Oper)(a:Act)(M:bg)(N:Nat->Prop)(ρ:Place)(I:Nat->Prop)(w:World)(av:AV)(ws:List (Nat × bf)):Prop:=
 match (execOp a.eval o).run P w with
 | .ok (.value v) w1=>gD X M N ρ I w av ws v w1
 | .ok .skip w1=>gD X M N ρ I w av ws undef w1
 | .ok (.enter f args) w1=>w1=w/\Calls P f args w fun e w2=>∃v,e= .returned v/\gD X M N ρ I w av ws v w2
 |_=>False
def bD(P:Program)(X:bM)(o:Oper)(F:aT)(M:bg)(av:AV)(ws:List (Nat × bf))(nw:List Nat):Prop:=
 (∀p ∈ ws,p.1 ∈ nw\/∃s ∈ dr o.op,p.1 ∈ (look F s).names)/\
 ∀M' N ρ I a w,bZ X ρ I M' N w->(∀s ∈ dr o.op,aM ρ (lens M') I w N (look F s) (a.tmps.getD s undef))->
  (∀s ∈ dr o.op,∀n ∈ (look F s).names,M' n=M n)->(∀n ∈ nw,¬N n)->bJ P X o a M' N ρ I w av ws
def nK(P:Program)(X:bM)(o:Oper)(F:aT)(M:bg)(av:AV):Prop:=
 ∀M' N ρ I a w,bZ X ρ I M' N w->(∀s ∈ dr o.op,aM ρ (lens M') I w N (look F s) (a.tmps.getD s undef))->
  (∀s ∈ dr o.op,∀n ∈ (look F s).names,lens M' n=lens M n)->bJ P X o a M' N ρ I w av []
theorem nK.pP{P:Program}{X:bM}{o:Oper}{F:aT}{M:bg}{av:AV}(h:nK P X o F M av):bD P X o F M av [] []:=
 ⟨fun p hp=>by simp at hp,fun M' N ρ I a w W hr hM _=>h M' N ρ I a w W hr (fun s hs n hn=>by unfold lens; rw[hM s hs n hn])⟩
def oG(P:Program)(X:bM)(o:Oper)(F:aT)(M:bg)(av:AV):Prop:=
 ∀M' N ρ I a w,bZ X ρ I M' N w->(∀s ∈ dr o.op,aM ρ (lens M') I w N (look F s) (a.tmps.getD s undef))->
  (∀s ∈ dr o.op,∀n ∈ (look F s).names,Vw (M' n)=Vw (M n))->bJ P X o a M' N ρ I w av []
def qt(P:Program)(X:bM)(o:Oper)(F:aT)(M:bg)(Rx:List Nat)(av:AV)(ws:List (Nat × bf))(nw:List Nat):Prop:=
 (∀p ∈ ws,p.1 ∈ nw\/(∃s ∈ dr o.op,p.1 ∈ (look F s).names)\/(p.1 ∈ Rx/\M p.1≠none))/\((∀s ∈ dr o.op,∀n ∈ (look F s).names,n ∈ Rx)\/(ws=[]/\∀M' N ρ I a w,bZ X ρ I M' N w->(∀s ∈ dr o.op,aM ρ (lens M') I w N (look F s) (a.tmps.getD s undef))->bJ P X o a M' N ρ I w av []))/\
 ∀M' N ρ I a w,bZ X ρ I M' N w->(∀s ∈ dr o.op,aM ρ (lens M') I w N (look F s) (a.tmps.getD s undef))->
  (∀n ∈ Rx,M' n=M n)->(∀n ∈ nw,¬N n)->bJ P X o a M' N ρ I w av ws
theorem bD.more{P:Program}{X:bM}{o:Oper}{F:aT}{M:bg}{Rx:List Nat}{av:AV}{ws:List (Nat × bf)}{nw:List Nat}(h:bD P X o F M av ws nw)(hR:∀s ∈ dr o.op,∀n ∈ (look F s).names,n ∈ Rx):qt P X o F M Rx av ws nw:=
 ⟨fun p hp=>(h.1 p hp).imp id .inl,.inl hR,fun M' N ρ I a w W hr hM hN=>h.2 M' N ρ I a w W hr (fun s hs n hn=>hM n (hR s hs n hn)) hN⟩
theorem pQ(N:Nat->Prop):fR N []=N:=by funext m; simp[fR]
theorem gD.value{X:bM}{M:bg}{N:Nat->Prop}{ρ:Place}{I:Nat->Prop}{w:World}{av:AV}{v:Value}(h:bZ X ρ I M N w)(r:aM ρ (lens M) I w N av v):gD X M N ρ I w av [] v w:=
 ⟨ρ,I,mN.refl _ _ _ _ _,by rw[pQ]; exact h,by rw[pQ]; exact r⟩
theorem iP{x:Nat}:∀{l:List Operand},Operand.tmp x ∈ l->x ∈ nJ l
 | .tmp t::r,h=>by
   simp only[List.mem_cons]at h
   rcases h with h|h
   ·cases h; exact List.mem_cons_self
   ·exact List.mem_cons_of_mem _ (iP (l:=r) h)
 | .const v::r,h=>by simp only[List.mem_cons,reduceCtorEq,false_or]at h; exact iP (l:=r) h
 | .global g::r,h=>by simp only[List.mem_cons,reduceCtorEq,false_or]at h; exact iP (l:=r) h
 | .func f::r,h=>by simp only[List.mem_cons,reduceCtorEq,false_or]at h; exact iP (l:=r) h
theorem su(ρ:Place)(L:aZ)(I:Nat->Prop)(w:World)(N:Nat->Prop)(v:Value):aM ρ L I w N (uy v) v:=by
 unfold uy
 split
 ·exact .int _ _
 ·exact .bool _
 ·rename_i s; have:s=⟨s.data.toList.toArray⟩:=by cases s; simp
  conv=>rhs; rw[this]
  exact .str _
 ·exact .ax
 ·exact .ab
 ·exact .af
 ·exact .dj
 ·exact .bQ
 ·exact .bad _
theorem gb(ρ:Place)(L:aZ)(I:Nat->Prop)(w:World)(N:Nat->Prop)(v:Value):aM ρ L I w N (Lc v) v:=by
 unfold Lc
 split
 ·rename_i cs
  cases hall:cs.toList.all Value.oneCell'
  ·exact .bad _
  have:=aM.agg (ρ:=ρ) (L:=L) (I:=I) (w:=w) (N:=N) (cs.toList.map uy) cs.toList (by simp) (List.all_eq_true.1 hall) (fun j hj=>by
   have hj':j<cs.toList.length:=by simpa using hj
   simp only[List.getD_eq_getElem?_getD,List.getElem?_map,List.getElem?_eq_getElem hj',Option.map_some,Option.getD_some]
   exact su _ _ _ _ _ _)
  simpa using this
 ·rename_i cs
  have:=aM.aG (ρ:=ρ) (L:=L) (I:=I) (w:=w) (N:=N) (cs.toList.map uy) cs.toList (by simp) (fun j hj=>by
   have hj':j<cs.toList.length:=by simpa using hj
   simp only[List.getD_eq_getElem?_getD,List.getElem?_map,List.getElem?_eq_getElem hj',Option.map_some,Option.getD_some]
   exact su _ _ _ _ _ _)
  simpa using this
 ·exact su _ _ _ _ _ _
theorem jJ{ρ:Place}{L:aZ}{I:Nat->Prop}{w:World}{N:Nat->Prop}{F:aT}{a:Act}(x:Operand)(h:∀s,x= .tmp s->aM ρ L I w N (look F s) (a.tmps.getD s undef)):aM ρ L I w N (ev F x) (a.eval x):=by
 cases x with
 |tmp t=>exact h t rfl
 |const v=>exact gb _ _ _ _ _ v
 |global g=>exact .bad _
 |func f=>exact .bL f [] [] rfl (fun j hj=>by simp at hj)
theorem ap{ρ:Place}{L:aZ}{I:Nat->Prop}{w:World}{N:Nat->Prop}{F:aT}{a:Act}{o:Op}(h:∀s ∈ dr o,aM ρ L I w N (look F s) (a.tmps.getD s undef))(x:Operand)(hx:x ∈ o.operands.toList):aM ρ L I w N (ev F x) (a.eval x):=
 jJ x fun s e=>h s (iP (e ▸ hx))
theorem sv(v:Value):(uy v).names=[]:=by unfold uy; split<;>rfl
theorem iw:∀l:List Value,AV.au (l.map uy)=[]
 |[]=>rfl
 |v::r=>by simp[AV.au,sv,iw r]
theorem CF(v:Value):(Lc v).names=[]:=by
 unfold Lc
 split
 ·rename_i cs
  cases cs.toList.all Value.oneCell'
  ·rfl
  ·simp[AV.names,iw]
 ·simp[AV.names,iw]
 ·exact sv _
theorem bh{F:aT}{o:Op}(x:Operand)(hx:x ∈ o.operands.toList){n:Nat}(hn:n ∈ (ev F x).names):∃s ∈ dr o,n ∈ (look F s).names:=by
 cases x with
 |tmp t=>exact⟨t,iP hx,hn⟩
 |const v=>simp[ev,CF]at hn
 |global g=>simp[ev,AV.names]at hn
 |func f=>simp[ev,AV.names,AV.au]at hn
def TD.fits:TD->TypeDesc->Prop
 | .int k,.int k'=>k=k'
 | .bool,.bool=>True
 | .str,.string=>True
 | .ptr e,.pointer e'=>e=e'
 | .slice e,.slice e'=>e=e'
 | .arr n e,.array n' e'=>n=n'/\e=e'
 | .struct fs,.struct gs=>fs=gs.toList.map fun f=>(f.offset,f.type)
 | .func,.func .. =>True
 | .iface,.interface _=>True
 | .map k e,.map k' e'=>k=k'/\e=e'
 | .aG,.tuple _=>True
 |_,_=>False
def cO(P:Program)(T:TT):Prop:=∀t,T.d t≠ .other->∃D i z,P.underlying t=some D/\(T.d t).fits D/\P.info? t=some i/\i.size=T.s t/\i.bytes<=131072/\i.zero=some z/\T.z t=Lc z
theorem fE{v:Value}(h:v.oneCell'=true):v.cells= #[v]:=by
 cases v<;>simp_all[Value.oneCell',Value.cells]
theorem pR{ρ:Place}{L:aZ}{I:Nat->Prop}{w:World}{N:Nat->Prop}{a:AV}{v:Value}(h:aM ρ L I w N a v)(hs:bI a=true):
  v.cells.toList.length=(cells a).length/\(∀u ∈ v.cells.toList,u.oneCell'=true)/\∀j,j< (cells a).length->aM ρ L I w N ((cells a).getD j .bad) (v.cells.toList.getD j default):=by
 have one:∀a v,aM ρ L I w N a v->v.oneCell'=true->cells a=[a]->v.cells.toList.length=(cells a).length/\(∀u ∈ v.cells.toList,u.oneCell'=true)/\∀j,j< (cells a).length->aM ρ L I w N ((cells a).getD j .bad) (v.cells.toList.getD j default):=by
  intro a v hr h1 hc
  rw[fE h1,hc]
  refine⟨rfl,by simpa using h1,fun j hj=> ?_⟩
  have:j=0:=by simp at hj; omega
  subst this
  simpa using hr
 have h':=h
 cases h with
 |agg cs vs hl h1 hr=>exact⟨by simpa[Value.cells,cells]using hl,by simpa[Value.cells]using h1,by simpa[Value.cells,cells]using hr⟩
 |bad=>simp[bI]at hs
 |aG=>simp[bI]at hs
 |loc n len i off _ hn h1 h=>exact one _ _ h' h1 rfl
 |bi n len _ hn h1 h=>exact one _ _ h' h1 rfl
 |dp n len i off cnt _ hn h1 h=>exact one _ _ h' h1 rfl
 |omap n _ hn h1 h=>exact one _ _ h' h1 rfl
 |_=>exact one _ _ h' rfl rfl
theorem nL{P:Program}{w:World}{t:TypeId}{i:TypeInfo}(h:P.info? t=some i):(typeInfo t).run P w= .ok i w:=by simp[typeInfo,h]
theorem bu{P:Program}{w:World}{t:TypeId}{i:TypeInfo}(h:P.info? t=some i):(sizeOf t).run P w= .ok i.size w:=by simp[sizeOf,nL h]
theorem gf{P:Program}{w:World}{t:TypeId}{i:TypeInfo}{z:Value}(h:P.info? t=some i)(hz:i.zero=some z):(zeroValue t).run P w= .ok z w:=by simp[zeroValue,nL h,hz]
theorem nW{P:Program}{w:World}{t:TypeId}{D:TypeDesc}{d:TD}(h:P.underlying t=some D)(hf:d.fits D):(isAgg t).run P w= .ok d.ag w:=by
 unfold isAgg
 simp only[Sem.run_bind,run_underlying h,Result.andThen_ok]
 cases d<;>cases D<;>simp_all[TD.fits,TD.ag]
end Go.AM
namespace Go.AM
open Go.RowKit
variable {P:Program} {T:TT} {X:bM} {o:Oper} {F:aT} {M:bg}
theorem aC{av:AV}(h:∀M' N ρ I (a:Act) w,bZ X ρ I M' N w->(∀s ∈ dr o.op,aM ρ (lens M') I w N (look F s) (a.tmps.getD s undef))->(∀s ∈ dr o.op,∀n ∈ (look F s).names,M' n=M n)->
  ∃v,(execOp a.eval o).run P w= .ok (.value v) w/\aM ρ (lens M') I w N av v):bD P X o F M av [] []:=by
 refine⟨fun p hp=>by simp at hp,fun M' N ρ I a w hW hU hN _=> ?_⟩
 obtain⟨v,hv,hr⟩:=h M' N ρ I a w hW hU hN
 unfold bJ
 rw[hv]
 exact gD.value hW hr
theorem fS{av:AV}(h:∀M' N ρ I (a:Act) w,bZ X ρ I M' N w->(∀s ∈ dr o.op,aM ρ (lens M') I w N (look F s) (a.tmps.getD s undef))->(∀s ∈ dr o.op,∀n ∈ (look F s).names,lens M' n=lens M n)->
  ∃v,(execOp a.eval o).run P w= .ok (.value v) w/\aM ρ (lens M') I w N av v):nK P X o F M av:=by
 refine fun M' N ρ I a w hW hU hN=> ?_
 obtain⟨v,hv,hr⟩:=h M' N ρ I a w hW hU hN
 unfold bJ
 rw[hv]
 exact gD.value hW hr
theorem u4{x:Operand}(ho:o.op= .move x\/ o.op= .assign x):bD P X o F M (ev F x) [] []:=by
 refine aC fun M' N ρ I a w hW hU hN=>⟨a.eval x,?_,ap hU x ?_⟩
 ·rcases ho with ho|ho<;>simp[execOp,ho]
 ·rcases ho with ho|ho<;>simp[ho,Op.operands]
theorem Ah{x:Operand}(ho:o.op= .move x\/ o.op= .assign x):qt P X o F M [] (ev F x) [] []:=by
 have free:∀M' N ρ I a w,bZ X ρ I M' N w->(∀s ∈ dr o.op,aM ρ (lens M') I w N (look F s) (a.tmps.getD s undef))->bJ P X o a M' N ρ I w (ev F x) []:=by
  intro M' N ρ I a w hW hU
  have e:(execOp a.eval o).run P w= .ok (.value (a.eval x)) w:=by rcases ho with ho|ho<;>simp[execOp,ho]
  unfold bJ
  rw[e]
  exact gD.value hW (ap hU x (by rcases ho with ho|ho<;>simp[ho,Op.operands]))
 exact⟨fun p hp=>by simp at hp,.inr ⟨rfl,free⟩,fun M' N ρ I a w hW hU _ _=>free M' N ρ I a w hW hU⟩
theorem CG{c x y:Operand}{t:Bool}(ho:o.op= .pick c x y)(hc:ev F c= .bool t):bD P X o F M (ev F (if t then x else y)) [] []:=by
 refine aC fun M' N ρ I a w hW hU hN=>⟨a.eval (if t then x else y),?_,ap hU _ ?_⟩
 ·have hr:=ap hU c (by simp[ho,Op.operands])
  rw[hc]at hr
  generalize Xb:a.eval c=cv at hr
  cases hr
  cases t<;>simp[execOp,ho,Xb,asBool]
 ·cases t<;>simp[ho,Op.operands]
theorem jx{M':bg}{n:Nat}{b:bf}(hm:M n=some b)(h:lens M' n=lens M n):lens M' n=some (b.ln,b.sz):=by
 rw[h,aA]; exact⟨b,hm,rfl,rfl⟩
theorem fJ{ρ:Place}{L:aZ}{I:Nat->Prop}{w:World}{N:Nat->Prop}{n len i off sz:Nat}{v:Value}(h:aM ρ L I w N (.loc n len i off) v)(hl:L n=some (len,sz)):
  N n/\∃g cap,ρ n=some (g,cap)/\v= .pointer (some ⟨g,i*sz+off,none⟩):=by
 cases h with
 |loc _ _ _ _ _ hn h1 h=>exact⟨hn,(h len sz hl).2 rfl⟩
theorem gH{ρ:Place}{L:aZ}{I:Nat->Prop}{w:World}{N:Nat->Prop}{n len i off sz g cap:Nat}(hn:N n)(hl:L n=some (len,sz))(hρ:ρ n=some (g,cap)):
  aM ρ L I w N (.loc n len i off) (.pointer (some ⟨g,i*sz+off,none⟩)):=
 .loc n len i off _ hn rfl fun l Ai h=>by
   rw[hl]at h
   simp only[Option.some.injEq,Prod.mk.injEq]at h
   obtain⟨rfl,rfl⟩:=h
   exact⟨Nat.le_refl _,fun _=>⟨g,cap,hρ,rfl⟩⟩
theorem bR(g o n:Nat):(⟨g,o,none⟩:Addr).add n=⟨g,o+n,none⟩:=by
 unfold Addr.add; split<;>simp_all
theorem lM{s f:Nat}{x:Operand}{av:AV}{fs:List (Nat × Nat)}{off ft:Nat}(hT:cO P T)(ho:o.op= .fieldAddr s x f)(hs:T.d s= .struct fs)(hf:fs[f]? =some (off,ft))(hz:(T.s ft==0)=false)(hft:T.d ft≠ .other)
  (h:(∃n len i o' b,ev F x= .loc n len i o'/\M n=some b/\b.ln=len/\av= .loc n len i (o'+off))\/(∃e o',ev F x= .be e o'/\av= .be e (o'+off))):nK P X o F M av:=by
 refine fS fun M' N ρ I a w hW hU hN=> ?_
 have hx:x ∈ o.op.operands.toList:=by simp[ho,Op.operands]
 have hr:=ap hU x hx
 obtain⟨D,i,z,hD,hfit,hi,hsz,_,_⟩:=hT s (by rw[hs]; simp)
 rw[hs]at hfit
 cases D<;>simp only[TD.fits]at hfit
 rename_i gs
 obtain⟨_,it,_,_,_,hit,wB,_,_⟩:=hT ft hft
 have hg:∃Mb,gs[f]? =some Mb/\Mb.offset=off/\Mb.type=ft:=by
  rw[hfit,List.getElem?_map]at hf
  cases Ys:gs.toList[f]? with
  |none=>simp[Ys]at hf
  |some Mb=>
   simp only[Ys,Option.map_some,Option.some.injEq,Prod.mk.injEq]at hf
   exact⟨Mb,by simpa using Ys,hf.1,hf.2⟩
 obtain⟨Mb,Yt,rfl,rfl⟩:=hg
 have hne:it.size≠0:=by rw[wB]; simpa using hz
 have run:∀g q,a.eval x= .pointer (some ⟨g,q,none⟩)->(execOp a.eval o).run P w= .ok (.value (.pointer (some ⟨g,q+Mb.offset,none⟩))) w:=by
  intro g q hq
  simp only[execOp,ho,Instr.fieldAt,Sem.run_bind,run_underlying hD,Result.andThen_ok,Yt,hq,Instr.sureAddr,Sem.run_pure,fieldPlace,bu hit,if_neg hne,bR]
 rcases h with⟨n,len,i',o',b,he,hb,hl,rfl⟩|⟨e,o',he,rfl⟩
 ·rw[he]at hr
  obtain⟨sl,dK,fj⟩:=bh (F:=F) x hx (n:=n) (by rw[he]; simp[AV.names])
  have dt:=jx hb (hN sl dK n fj)
  rw[hl]at dt
  obtain⟨hn,g,cap,hρ,hv⟩:=fJ hr dt
  refine⟨_,run g _ hv,?_⟩
  rw[Nat.add_assoc]
  exact gH hn dt hρ
 ·rw[he]at hr
  generalize pG:a.eval x=v at hr
  cases hr with
  |be _ _ b' o'' c hI h1 hcell hr=>
   refine⟨_,run b' _ pG,?_⟩
   rw[Nat.add_assoc]
   exact .be e _ b' o'' c hI h1 hcell hr
theorem sw{s f:Nat}{x:Operand}{av:AV}{fs:List (Nat × Nat)}{off ft:Nat}(hT:cO P T)(ho:o.op= .fieldAddr s x f)(hs:T.d s= .struct fs)(hf:fs[f]? =some (off,ft))(hz:(T.s ft==0)=false)(hft:T.d ft≠ .other)
 (h:(∃n len i o' b,ev F x= .loc n len i o'/\M n=some b/\b.ln=len/\av= .loc n len i (o'+off))\/(∃e o',ev F x= .be e o'/\av= .be e (o'+off))):bD P X o F M av [] []:=(lM hT ho hs hf hz hft h).pP
theorem run_indexAt_slice{t e:TypeId}{it:TypeInfo}{w:World}(hD:P.underlying t=some (.slice e))(hi:P.info? e=some it)(g q len cap:Nat)(k:IntKind)(i:Int)(h:0<=i/\i< (len:Int)):
  (Instr.indexAt t (.slice (some ⟨g,q,none⟩) len cap) (.int k i)).run P w= .ok (.pointer (some ⟨g,q+i.toNat*it.size,none⟩)) w:=by
 simp only[Instr.indexAt,asIntOf,Sem.run_bind,Sem.run_pure,Result.andThen_ok,run_underlying hD,if_pos h,bu hi,bR]
theorem lr{t e n:Nat}{it:TypeInfo}{w:World}(hD:P.underlying t=some (.array n e))(hi:P.info? e=some it)(g q:Nat)(k:IntKind)(i:Int)(h:0<=i/\i< (n:Int)):
  (Instr.indexAt t (.pointer (some ⟨g,q,none⟩)) (.int k i)).run P w= .ok (.pointer (some ⟨g,q+i.toNat*it.size,none⟩)) w:=by
 simp only[Instr.indexAt,asIntOf,Sem.run_bind,Sem.run_pure,Result.andThen_ok,run_underlying hD,if_pos h,bu hi,bR,Instr.sureAddr]
theorem bv{d:TD}{D:TypeDesc}{e:Nat}(hd:d= .slice e)(h:d.fits D):D= .slice e:=by
 subst hd; cases D<;>simp_all[TD.fits]
theorem dY{d:TD}{D:TypeDesc}{n e:Nat}(hd:d= .arr n e)(h:d.fits D):D= .array n e:=by
 subst hd; cases D<;>simp_all[TD.fits]
theorem jy{d:TD}{D:TypeDesc}{fs:List (Nat × Nat)}(hd:d= .struct fs)(h:d.fits D):∃gs,D= .struct gs/\fs=gs.toList.map fun f=>(f.offset,f.type):=by
 subst hd; cases D<;>simp_all[TD.fits]
theorem fits_int{d:TD}{D:TypeDesc}{k:IntKind}(hd:d= .int k)(h:d.fits D):D= .int k:=by
 subst hd; cases D<;>simp_all[TD.fits]
theorem gg{d:TD}{D:TypeDesc}(hd:d= .str)(h:d.fits D):D= .string:=by
 subst hd; cases D<;>simp_all[TD.fits]
theorem TD.dC{d:TD}(h:d.ok=true):d≠ .other:=by rintro rfl; simp[TD.ok]at h
theorem bw{ρ:Place}{L:aZ}{I:Nat->Prop}{w:World}{N:Nat->Prop}{k:IntKind}{n:Int}{v:Value}(h:aM ρ L I w N (.int k n) v):v= .int k n:=by cases h; rfl
theorem gh{ρ:Place}{L:aZ}{I:Nat->Prop}{w:World}{N:Nat->Prop}{b:Bool}{v:Value}(h:aM ρ L I w N (.bool b) v):v= .bool b:=by cases h; rfl
theorem gX{ρ:Place}{L:aZ}{I:Nat->Prop}{w:World}{N:Nat->Prop}{s:List UInt8}{v:Value}(h:aM ρ L I w N (.str s) v):v= .string ⟨s.toArray⟩:=by cases h; rfl
theorem gY{ρ:Place}{L:aZ}{I:Nat->Prop}{w:World}{N:Nat->Prop}{n len sz:Nat}{v:Value}(h:aM ρ L I w N (.bi n len) v)(hl:L n=some (len,sz)):
  N n/\((ρ n=none/\∃q,v= .slice q 0 0)\/∃g cap,ρ n=some (g,cap)/\v= .slice (some ⟨g,0,none⟩) len cap):=by
 cases h with
 |bi _ _ _ hn h1 h=>exact⟨hn,(h len sz hl).2 rfl⟩
theorem gI{ρ:Place}{L:aZ}{I:Nat->Prop}{w:World}{N:Nat->Prop}{n len sz g cap:Nat}(hn:N n)(hl:L n=some (len,sz))(hρ:ρ n=some (g,cap)):
  aM ρ L I w N (.bi n len) (.slice (some ⟨g,0,none⟩) len cap):=
 .bi n len _ hn rfl fun l Ai h=>by
   rw[hl]at h
   simp only[Option.some.injEq,Prod.mk.injEq]at h
   obtain⟨rfl,rfl⟩:=h
   exact⟨Nat.le_refl _,fun _=> .inr ⟨g,cap,hρ,rfl⟩⟩
theorem jz{ρ:Place}{L:aZ}{I:Nat->Prop}{w:World}{N:Nat->Prop}{n len i off cnt sz:Nat}{v:Value}(h:aM ρ L I w N (.dp n len i off cnt) v)(hl:L n=some (len,sz)):
  N n/\∃g cap c,ρ n=some (g,cap)/\v= .slice (some ⟨g,i*sz+off,none⟩) cnt c/\cnt<=c/\c<=maxLen:=by
 cases h with
 |dp _ _ _ _ _ _ hn h1 h=>exact⟨hn,(h len sz hl).2 rfl⟩
theorem lN(hT:cO P T){t:Nat}{x ix:Operand}{K:AV->Prop}{Ml:Mem}(hM:M=aa Ml)(hok:∀e,T.d t= .slice e->(T.d e).ok=true)(Md:∀m e,T.d t= .arr m e->(T.d e).ok=true)
  (ho:o.op= .indexAddr t x ix) (h:Ad T t (ev F x) (ev F ix) Ml K):∃av,nK P X o F M av/\K av:=by
 have hx:x ∈ o.op.operands.toList:=by simp[ho,Op.operands]
 have Re:ix ∈ o.op.operands.toList:=by simp[ho,Op.operands]
 have nm:∀n,n ∈ (ev F x).names->∀(M':bg),(∀s ∈ dr o.op,∀n ∈ (look F s).names,lens M' n=lens M n)->lens M' n=lens M n:=by
  intro n hn M' hN
  obtain⟨sl,dK,fj⟩:=bh (F:=F) x hx hn
  exact hN sl dK n fj
 cases qu:ev F ix with
 |int k i=>
  rw[qu]at h
  simp only[Ad]at h
  cases ht:T.d t with
  |slice e=>
   rw[ht]at h
   obtain⟨D,it0,z0,hD,hf,_⟩:=hT t (by rw[ht]; simp)
   have fX:=bv ht hf
   subst fX
   obtain⟨_,it,_,_,_,hit,wB,_⟩:=hT e (TD.dC (hok e ht))
   cases bK:ev F x with
   |aH sz es=>
    rw[bK]at h
    simp only at h
    obtain⟨hc,hr,hk⟩:=ay h
    refine⟨_,fS fun M' N ρ I a w hW hU hN=> ?_,hk⟩
    have r1:=ap hU x hx
    have r2:=bw (qu ▸ ap hU ix Re)
    rw[bK]at r1
    generalize hv:a.eval x=v at r1
    cases r1 with
    |cJ=>simp at hr; omega
    |aH _ _ b q cap c hl lJ hI hs h1 hcell Yu=>
     have hi:i.toNat<es.length:=by omega
     refine⟨_,by simp only[execOp,ho,r2,hv,Sem.run_bind,run_indexAt_slice hD hit _ _ _ _ _ _ hr,Result.andThen_ok,Sem.run_pure]; rfl,?_⟩
     have hsz:sz=it.size:=by rw[wB]; simpa using hc
     have hel:(es.getD i.toNat []).length=sz:=by
      rw[List.getD_eq_getElem?_getD,List.getElem?_eq_getElem hi,Option.getD_some]
      exact hs _ (List.getElem_mem _)
     have:=aM.be (ρ:=ρ) (L:=lens M') (I:=I) (w:=w) (N:=N) (es.getD i.toNat []) 0 b (q+i.toNat*sz) (c i.toNat) hI (fun j hj=>h1 _ _ hi (by omega)) (fun j hj=>hcell _ _ hi (by omega)) (fun j hj=>Yu _ _ hi (by omega))
     rw[<-hsz]
     exact this
   |bi n len=>
    rw[bK]at h
    simp only[alive]at h
    cases hb:aa Ml n with
    |none=>rw[hb]at h; exact h.elim
    |some b=>
     rw[hb]at h
     obtain⟨hc1,hmp,h⟩:=ay h
     obtain⟨jV,hr,hk⟩:=ay h
     have hl:b.ln=len:=by simpa using hc1
     have hsz:b.sz=it.size:=by rw[wB]; simpa using jV
     refine⟨_,fS fun M' N ρ I a w hW hU hN=> ?_,hk⟩
     have r1:=ap hU x hx
     have r2:=bw (qu ▸ ap hU ix Re)
     rw[bK]at r1
     have dt:=jx (M':=M') (n:=n) (b:=b) (M:=M) (by rw[hM]; exact hb) (nm n (by rw[bK]; simp[AV.names]) M' hN)
     rw[hl]at dt
     obtain⟨hn,h2⟩:=gY r1 dt
     rcases h2 with⟨h0,hv⟩|⟨g,cap,hρ,hv⟩
     ·obtain⟨b',hb',oB,_⟩:=aA.1 dt
      have:=(hW.aS n b' hb').dX h0
      rw[bf.E0 this]at oB
      omega
     ·refine⟨_,by simp only[execOp,ho,r2,hv,Sem.run_bind,run_indexAt_slice hD hit _ _ _ _ _ _ hr,Result.andThen_ok,Sem.run_pure]; rfl,?_⟩
      have:=gH (I:=I) (w:=w) (i:=i.toNat) (off:=0) hn dt hρ
      rw[<-hsz,Nat.zero_add]
      simpa using this
   |dp n len j off cnt=>
    rw[bK]at h
    simp only[alive]at h
    cases hb:aa Ml n with
    |none=>rw[hb]at h; exact h.elim
    |some b=>
     rw[hb]at h
     obtain⟨hc1,hmp,hr,hk⟩:=ay h
     have hl:b.ln=len:=by simpa using hc1
     refine⟨_,fS fun M' N ρ I a w hW hU hN=> ?_,hk⟩
     have r1:=ap hU x hx
     have r2:=bw (qu ▸ ap hU ix Re)
     rw[bK]at r1
     have dt:=jx (M':=M') (n:=n) (b:=b) (M:=M) (by rw[hM]; exact hb) (nm n (by rw[bK]; simp[AV.names]) M' hN)
     rw[hl]at dt
     obtain⟨hn,g,cap,c,hρ,hv,_⟩:=jz r1 dt
     refine⟨_,by simp only[execOp,ho,r2,hv,Sem.run_bind,run_indexAt_slice hD hit _ _ _ _ _ _ hr,Result.andThen_ok,Sem.run_pure]; rfl,?_⟩
     rw[Nat.add_assoc,wB]
     exact gH hn dt hρ
   |_=>rw[bK]at h; exact h.elim
  |arr m e=>
   rw[ht]at h
   obtain⟨D,it0,z0,hD,hf,_⟩:=hT t (by rw[ht]; simp)
   have fX:=dY ht hf
   subst fX
   obtain⟨_,it,_,_,_,hit,wB,_⟩:=hT e (TD.dC (Md m e ht))
   cases bK:ev F x with
   |loc n len j off=>
    rw[bK]at h
    simp only[alive]at h
    cases hb:aa Ml n with
    |none=>rw[hb]at h; exact h.elim
    |some b=>
     rw[hb]at h
     obtain⟨hc1,hmp,hr,hk⟩:=ay h
     have hl:b.ln=len:=by simpa using hc1
     refine⟨_,fS fun M' N ρ I a w hW hU hN=> ?_,hk⟩
     have r1:=ap hU x hx
     have r2:=bw (qu ▸ ap hU ix Re)
     rw[bK]at r1
     have dt:=jx (M':=M') (n:=n) (b:=b) (M:=M) (by rw[hM]; exact hb) (nm n (by rw[bK]; simp[AV.names]) M' hN)
     rw[hl]at dt
     obtain⟨hn,g,cap,hρ,hv⟩:=fJ r1 dt
     refine⟨_,by simp only[execOp,ho,r2,hv,Sem.run_bind,lr hD hit _ _ _ _ hr,Result.andThen_ok,Sem.run_pure]; rfl,?_⟩
     rw[Nat.add_assoc,wB]
     exact gH hn dt hρ
   |be c off=>
    rw[bK]at h
    obtain⟨hr,hk⟩:=h
    refine⟨_,fS fun M' N ρ I a w hW hU hN=> ?_,hk⟩
    have r1:=ap hU x hx
    have r2:=bw (qu ▸ ap hU ix Re)
    rw[bK]at r1
    generalize hv:a.eval x=v at r1
    cases r1 with
    |be _ _ b q cc hI h1 hcell Yu=>
     refine⟨_,by simp only[execOp,ho,r2,hv,Sem.run_bind,lr hD hit _ _ _ _ hr,Result.andThen_ok,Sem.run_pure]; rfl,?_⟩
     rw[Nat.add_assoc,wB]
     exact .be c _ b q cc hI h1 hcell Yu
   |_=>rw[bK]at h; exact h.elim
  |_=>rw[ht]at h; exact h.elim
 |_=>rw[qu]at h; exact h.elim
theorem sy(hT:cO P T){t:Nat}{x ix:Operand}{K:AV->Prop}{Ml:Mem}(hM:M=aa Ml)(hok:∀e,T.d t= .slice e->(T.d e).ok=true)(Md:∀m e,T.d t= .arr m e->(T.d e).ok=true)
  (ho:o.op= .indexAddr t x ix) (h:Ad T t (ev F x) (ev F ix) Ml K):∃av,bD P X o F M av [] []/\K av:=by
 obtain⟨av,h1,h2⟩:=lN hT hM hok Md ho h
 exact⟨av,h1.pP,h2⟩
end Go.AM
namespace Go.AM
open Go.RowKit
variable {P:Program} {T:TT} {X:bM} {o:Oper} {F:aT} {M:bg}
theorem gZ(g:Nat)(t:TypeId)(fr:Nat × Nat):∀(vs:List Value)(q:Nat)(w:World)(cs:Array Value),w.heap[g]? =some (.cells cs t fr)->q+vs.length<=cs.size->
  ∃cs',(w.setCells g q vs).heap[g]? =some (.cells cs' t fr)/\cs'.size=cs.size/\∀k,cs'[k]? =if q<=k/\k<q+vs.length then vs[k - q]? else cs[k]?
 |[],q,w,cs,hg,_=>⟨cs,hg,rfl,fun k=>by rw[if_neg (fun h=>by have:=h.1; have:=h.2; simp at this; omega)]⟩
 |v::r,q,w,cs,hg,hq=>by
  have hg1:(w.setCell ⟨g,q,none⟩ v).heap[g]? =some (.cells (cs.setIfInBounds q v) t fr):=by
   simp[World.setCell,Array.getElem?_modify,hg]
  obtain⟨cs',h1,h2,h3⟩:=gZ g t fr r (q+1) (w.setCell ⟨g,q,none⟩ v) (cs.setIfInBounds q v) hg1 (by simp at hq ⊢; omega)
  refine⟨cs',h1,by simpa using h2,fun k=> ?_⟩
  rw[h3 k]
  simp only[List.length_cons]at hq ⊢
  by_cases hk:k=q
  ·subst hk
   rw[if_neg (by omega),if_pos (by omega)]
   simp[Array.getElem?_setIfInBounds]; omega
  ·by_cases hk2:q+1<=k/\k<q+1+r.length
   ·rw[if_pos hk2,if_pos (by omega)]
    have:k - q=(k - (q+1))+1:=by omega
    rw[this]; simp
   ·rw[if_neg hk2,if_neg (by omega)]
    simp[Array.getElem?_setIfInBounds]
    intro e; omega
theorem fk(g:Nat):∀(vs:List Value)(q:Nat)(w:World)(k:Nat),k≠g->(w.setCells g q vs).heap[k]? =w.heap[k]?
 |[],_,_,_,_=>rfl
 |v::r,q,w,k,hk=>by
  have:=fk g r (q+1) (w.setCell ⟨g,q,none⟩ v) k hk
  refine this.trans ?_
  exact Below.heap_setCell w _ v k hk
theorem size_setCells(g:Nat):∀(vs:List Value)(q:Nat)(w:World),(w.setCells g q vs).heap.size=w.heap.size
 |[],_,_=>rfl
 |v::r,q,w=>by
  have:=size_setCells g r (q+1) (w.setCell ⟨g,q,none⟩ v)
  exact this.trans (by simp)
theorem hG(g:Nat):∀(vs:List Value)(q:Nat)(w:World),(w.setCells g q vs).tape=w.tape
 |[],_,_=>rfl
 |v::r,q,w=>hG g r (q+1) (w.setCell ⟨g,q,none⟩ v)
theorem os_setCells(g:Nat):∀(vs:List Value)(q:Nat)(w:World),(w.setCells g q vs).os=w.os
 |[],_,_=>rfl
 |v::r,q,w=>os_setCells g r (q+1) (w.setCell ⟨g,q,none⟩ v)
theorem iH(g:Nat):∀(vs:List Value)(q:Nat)(w:World),(w.setCells g q vs).output=w.output
 |[],_,_=>rfl
 |v::r,q,w=>iH g r (q+1) (w.setCell ⟨g,q,none⟩ v)
theorem db{α:Type}(l:List α)(off n j:Nat)(d:α)(h:j<n):((l.drop off).take n).getD j d=l.getD (off+j) d:=by
 simp[List.getD_eq_getElem?_getD,List.getElem?_take,h]
theorem fm{t:Nat}(hT:cO P T)(hok:(T.d t).ok=true){ρ:Place}{L:aZ}{I:Nat->Prop}{w:World}{N:Nat->Prop}{g q off:Nat}{cs:List AV}{K:AV->Prop}(f:Nat->Value)
  (hc:∀j,j<cs.length->w.cell? ⟨g,q+j,none⟩=some (f j)/\(f j).oneCell'=true/\aM ρ L I w N (cs.getD j .bad) (f j))
  {av:AV} (hlen:((cs.drop off).take (T.s t)).length=T.s t) (nY:av=if (T.d t).ag then .agg ((cs.drop off).take (T.s t))else ((cs.drop off).take (T.s t)).headD .bad) (h1:(T.d t).ag=false->T.s t=1):
  ∃v,(loadVar t ⟨g,q+off,none⟩).run P w= .ok v w/\aM ρ L I w N av v:=by
 obtain⟨D,it,z,hD,hf,hi,hs,_⟩:=hT t (TD.dC hok)
 have hle:off+T.s t<=cs.length\/ T.s t=0:=by
  simp only[List.length_take,List.length_drop]at hlen
  omega
 unfold loadVar
 simp only[Sem.run_bind,nW hD hf,Result.andThen_ok]
 cases jr:(T.d t).ag with
 |true=>
  simp only[if_pos,bu hi,Result.andThen_ok,Sem.run_bind]
  rw[hs]
  have hcell:∀j,j<T.s t->w.cell? ((⟨g,q+off,none⟩:Addr).add j)=some (f (off+j)):=fun j hj=>by
   rw[bR,Nat.add_assoc]
   exact (hc (off+j) (by omega)).1
  rw[run_loadCells w _ (T.s t) (fun j=>f (off+j)) hcell]
  refine⟨_,rfl,?_⟩
  rw[nY,jr,if_pos rfl]
  refine .agg _ ((List.range (T.s t)).map fun j=>f (off+j)) (by simp; simp at hlen; omega) (fun u hu=> ?_) (fun j hj=> ?_)
  ·obtain⟨j,hj,rfl⟩:=List.mem_map.1 hu
   exact (hc (off+j) (by simp at hj; omega)).2.1
  ·rw[hlen]at hj
   rw[db _ _ _ _ _ hj]
   have:((List.range (T.s t)).map fun j=>f (off+j)).getD j default=f (off+j):=by simp[List.getD_eq_getElem?_getD,hj]
   rw[this]
   exact (hc (off+j) (by omega)).2.2
 |false=>
  have Rf:=h1 jr
  have h2:=(hc off (by omega))
  simp only[Bool.false_eq_true,if_false,run_load,h2.1]
  refine⟨_,rfl,?_⟩
  rw[nY,jr,Rf]
  have:((cs.drop off).take 1).headD .bad=cs.getD off .bad:=by
   have hlt:off<cs.length:=by omega
   rw[List.drop_eq_getElem_cons hlt,List.take_succ_cons]
   simp[List.getD_eq_getElem?_getD,hlt]
  simp only[Bool.false_eq_true,if_false,this]
  exact h2.2.2
theorem fM{ag:Bool}{n off:Nat}{cs:List AV}{K:AV->Prop}(h:apart ag n off cs K):
  ∃av,((cs.drop off).take n).length=n/\(av=if ag then .agg ((cs.drop off).take n)else ((cs.drop off).take n).headD .bad)/\(ag=false->n=1)/\K av:=by
 unfold apart at h
 obtain⟨h1,h2⟩:=ay h
 cases ag with
 |true=>exact⟨_,by simpa using h1,rfl,by simp,h2⟩
 |false=>
  obtain⟨h3,h4⟩:=ay h2
  exact⟨_,by simpa using h1,rfl,fun _=>by simpa using h3,h4⟩
theorem si.row{C:bM}{ρ:Place}{L:aZ}{I:Nat->Prop}{w:World}{N:Nat->Prop}{n:Nat}{b:bf}(B:si C ρ L I w N n b)(hmp:b.mp=none){g cap:Nat}(hρ:ρ n=some (g,cap))(i:Nat):
  ∃f:Nat->Value,∀j,j< (b.es.getD i []).length->w.cell? ⟨g,i*b.sz+j,none⟩=some (f j)/\(f j).oneCell'=true/\aM ρ L I w N ((b.es.getD i []).getD j .bad) (f j):=by
 obtain⟨cs,fr,hg,_,_,_,_,_,_,hc⟩:=B.real g cap hρ
 refine⟨fun j=>(cs[i*b.sz+j]?).getD undef,fun j hj=> ?_⟩
 have hi:i<b.es.length:=by
  rcases Nat.lt_or_ge i b.es.length with h|h
  ·exact h
  ·rw[List.getD_eq_getElem?_getD,List.getElem?_eq_none h]at hj; simp at hj
 have hsz:(b.es.getD i []).length=b.sz:=by
  rw[List.getD_eq_getElem?_getD,List.getElem?_eq_getElem hi,Option.getD_some]
  exact B.even _ (List.getElem_mem _)
 obtain⟨u,hu,h1,hr⟩:=hc i j hi (by omega)
 have e:(cs[i*b.sz+j]?).getD undef=u:=by rw[hu]; rfl
 refine⟨?_,?_,?_⟩
 ·rw[wC w g _ cs b.ty fr (hg.cells hmp)]; show _=some ((cs[i*b.sz+j]?).getD undef); rw[e,hu]
 ·show ((cs[i*b.sz+j]?).getD undef).oneCell'=true; rw[e]; exact h1
 ·show aM _ _ _ _ _ _ ((cs[i*b.sz+j]?).getD undef); rw[e]; exact hr
where wC (w:World) (g j:Nat) (cs:Array Value) (t:TypeId) (fr:Nat × Nat) (hg:w.heap[g]? =some (.cells cs t fr)):w.cell? ⟨g,j,none⟩=cs[j]? :=by simp[World.cell?,hg]
theorem CH(hT:cO P T){t:Nat}{x:Operand}{K:AV->Prop}{Ml:Mem}(hM:M=aa Ml)(hok:(T.d t).ok=true)(ho:o.op= .load t x)(h:nI T t (ev F x) Ml K):∃av,bD P X o F M av [] []/\K av:=by
 have hx:x ∈ o.op.operands.toList:=by simp[ho,Op.operands]
 cases bK:ev F x with
 |loc n len i off=>
  rw[bK]at h
  simp only[nI,alive]at h
  cases hb:aa Ml n with
  |none=>rw[hb]at h; exact h.elim
  |some b=>
   rw[hb]at h
   obtain⟨hc1,hmp,h⟩:=ay h
   obtain⟨av,ha1,ha2,EK,hk⟩:=fM h
   have hl:b.ln=len:=by simpa using hc1
   refine⟨av,aC fun M' N ρ I a w hW hU hN=> ?_,hk⟩
   have r1:=ap hU x hx
   rw[bK]at r1
   obtain⟨sl,dK,fj⟩:=bh (F:=F) x hx (n:=n) (by rw[bK]; simp[AV.names])
   have bN:M' n=some b:=(hN sl dK n fj).trans (by rw[hM]; exact hb)
   have dt:lens M' n=some (b.ln,b.sz):=by rw[aA]; exact⟨b,bN,rfl,rfl⟩
   rw[hl]at dt
   obtain⟨hn,g,cap,hρ,hv⟩:=fJ r1 dt
   obtain⟨f,hf⟩:=(hW.aS n b bN).row hmp hρ i
   obtain⟨v,EL,Me⟩:=fm (K:=K) hT hok (off:=off) f hf ha1 ha2 EK
   refine⟨v,?_,Me⟩
   simp only[execOp,ho,Instr.loadAt,hv,Instr.sureAddr,Sem.run_bind,Sem.run_pure,Result.andThen_ok,EL]
 |be e off=>
  rw[bK]at h
  simp only[nI]at h
  obtain⟨av,ha1,ha2,EK,hk⟩:=fM h
  refine⟨av,aC fun M' N ρ I a w hW hU hN=> ?_,hk⟩
  have r1:=ap hU x hx
  rw[bK]at r1
  generalize hv:a.eval x=v at r1
  cases r1 with
  |be _ _ b q c hI h1 hcell hr=>
   obtain⟨v,EL,Me⟩:=fm (K:=K) (N:=N) hT hok (off:=off) c (fun j hj=>⟨hcell j hj,h1 j hj,(hr j hj).wide (fun _ h=>h.elim)⟩) ha1 ha2 EK
   refine⟨v,?_,Me⟩
   simp only[execOp,ho,Instr.loadAt,hv,Instr.sureAddr,Sem.run_bind,Sem.run_pure,Result.andThen_ok,EL]
 |_=>rw[bK]at h; exact h.elim
end Go.AM
namespace Go.AM
open Go.RowKit
variable {P:Program} {T:TT} {X:bM} {o:Oper} {F:aT} {M:bg}
theorem bE(N:Nat->Prop)(n:Nat)(b:bf):fR N [(n,b)]=z' N n:=by
 funext m
 simp only[fR,z',List.mem_singleton,Prod.mk.injEq,exists_and_left,eq_iff_iff]
 constructor
 ·rintro (h|⟨h,_⟩)
  ·exact .inr h
  ·exact .inl h
 ·rintro (h|h)
  ·exact .inr ⟨h,b,rfl⟩
  ·exact .inl h
theorem bZ.new{ρ:Place}{I:Nat->Prop}{M:bg}{N:Nat->Prop}{w:World}(hW:bZ X ρ I M N w){n:Nat}(hn:¬N n)(b:bf)(hm:b.mp=none)(cs:Array Value)(cap:Nat)
  (E2:∀e ∈ b.es,e.length=b.sz) (hlen:b.es.length<=cap) (hcap:cap<=maxLen) (hcs:cs.size=cap*b.sz)
  (pJ:∀i j,i<b.es.length->j<b.sz->∃u,cs[i*b.sz+j]? =some u/\u.oneCell'=true/\aM ρ (lens M) I w N ((b.es.getD i []).getD j .bad) u):
  ∃ρ1,mN N ρ (lens M) I w ρ1 (lens (cX M [(n,b)])) I (w.alloc (.cells cs b.ty))/\bZ X ρ1 I (cX M [(n,b)]) (fR N [(n,b)]) (w.alloc (.cells cs b.ty))/\ρ1 n=some (w.heap.size,cap)/\lens (cX M [(n,b)]) n=some (b.es.length,b.sz):=by
 have hln:=bf.bX hm
 have hd:∀b0,M n=some b0->False:=fun b0 h0=>hn (hW.aS n b0 h0).lt
 obtain⟨E,W⟩:=hW.put (w':=w.alloc (.cells cs b.ty)) n b w.heap.size cap cs (0,0) rfl rfl rfl (by simp) (fun k hk _=>Below.heap_alloc w _ k hk) (by rw[hm]; exact heap_alloc_new w _) (.inl rfl)
  (.inl (Nat.le_refl _)) (fun b0 h0=>(hd b0 h0).elim) (fun h=>(hn h).elim) E2 hlen hcap hcs pJ
 refine⟨iF ρ n (w.heap.size,cap),E,by rw[bE]; exact W,by simp[iF],?_⟩
 show lens (cZ M n b) n=_
 rw[bW,if_pos rfl,hln]
theorem oH{ρ:Place}{L:aZ}{I:Nat->Prop}{w:World}{N:Nat->Prop}{a:AV}{v:Value}(h:aM ρ L I w N a v)(hs:bI a=true):
  v.cells.size=(cells a).length/\∀i j,i<1->j< (cells a).length->∃u,v.cells[i* (cells a).length+j]? =some u/\u.oneCell'=true/\aM ρ L I w N (([cells a].getD i []).getD j .bad) u:=by
 obtain⟨h1,h2,h3⟩:=pR h hs
 have Rf:v.cells.size=(cells a).length:=by simpa using h1
 refine⟨Rf,fun i j hi hj=> ?_⟩
 have:i=0:=by omega
 subst this
 have hj':j<v.cells.size:=by omega
 refine⟨v.cells[j],by simp[hj'],h2 _ (by simp),?_⟩
 have:=h3 j hj
 simpa[List.getD_eq_getElem?_getD,hj']using this
theorem qv{n t:Nat}{a:AV}(hs:bI a=true)
  (h:∀M' N ρ I (ac:Act) w,bZ X ρ I M' N w->(∀s ∈ dr o.op,aM ρ (lens M') I w N (look F s) (ac.tmps.getD s undef))->
    ∃v,(execOp ac.eval o).run P w= .ok (.value (.pointer (some ⟨w.heap.size,0,none⟩))) (w.alloc (.cells v.cells t))/\aM ρ (lens M') I w N a v):bD P X o F M (.loc n 1 0 0) [(n,⟨t,(cells a).length,[cells a],none⟩)] [n]:=by
 refine⟨fun p hp=> .inl (by simp at hp; simp[hp]),fun M' N ρ I ac w hW hU hN hF=> ?_⟩
 obtain⟨v,hrun,hr⟩:=h M' N ρ I ac w hW hU
 have hn:¬N n:=hF n (by simp)
 obtain⟨h1,h2⟩:=oH hr hs
 obtain⟨ρ1,E,W,hρ,hl⟩:=hW.new hn ⟨t,(cells a).length,[cells a],none⟩ rfl v.cells 1 (by simp) (by simp) (by simp[maxLen]) (by simpa using h1) (by simpa using h2)
 unfold bJ
 rw[hrun]
 refine⟨ρ1,I,E,W,?_⟩
 have IG:fR N [(n,(⟨t,(cells a).length,[cells a],none⟩:bf))] n:= .inr ⟨⟨t,(cells a).length,[cells a],none⟩,List.mem_singleton.2 rfl⟩
 have:=gH (I:=I) (w:=w.alloc (.cells v.cells t)) (i:=0) (off:=0) IG hl hρ
 simp only[Nat.zero_mul,Nat.zero_add,List.length_singleton]at this
 exact this
theorem qw{t:TypeId}{v:Value}{w:World}:(newVar t v).run P w= .ok ⟨w.heap.size,0,none⟩ (w.alloc (.cells v.cells t)):=by
 simp[newVar,newRow]
theorem E6{n t:Nat}{x:Operand}(ho:o.op= .box t x)(hs:bI (ev F x)=true):
  bD P X o F M (.loc n 1 0 0) [(n,⟨t,(cells (ev F x)).length,[cells (ev F x)],none⟩)] [n]:=
 qv hs (fun M' N ρ I ac w hW hU=>⟨ac.eval x,by simp[execOp,ho,Instr.box,qw],ap hU x (by simp[ho,Op.operands])⟩)
theorem Aj(hT:cO P T){n t:Nat}(ho:o.op= .alloc t)(hok:(T.d t).ok=true)(hs:bI (T.z t)=true):
  bD P X o F M (.loc n 1 0 0) [(n,⟨t,(cells (T.z t)).length,[cells (T.z t)],none⟩)] [n]:=by
 obtain⟨D,it,z,hD,hf,hi,hsz,_,hz,iv⟩:=hT t (TD.dC hok)
 refine qv hs (fun M' N ρ I ac w hW hU=>⟨z,by simp[execOp,ho,Instr.alloc,qw,gf hi hz],?_⟩)
 rw[iv]; exact gb _ _ _ _ _ _
theorem lO(off q:Nat)(vs row:List AV)(h:off+vs.length<=row.length):
  (bH off vs row).getD q .bad=if off<=q/\q<off+vs.length then vs.getD (q - off) .bad else row.getD q .bad:=by
 unfold bH
 simp only[List.getD_eq_getElem?_getD]
 by_cases Lh:off<=q/\q<off+vs.length
 ·rw[if_pos Lh,List.getElem?_append_right (by simp; omega),List.length_take,Nat.min_eq_left (by omega),List.getElem?_append_left (by omega)]
 ·rw[if_neg Lh]
  by_cases hlt:q<off
  ·rw[List.getElem?_append_left (by simp; omega),List.getElem?_take,if_pos hlt]
  ·rw[List.getElem?_append_right (by simp; omega),List.length_take,Nat.min_eq_left (by omega),List.getElem?_append_right (by omega),List.getElem?_drop]
   congr 2; omega
theorem sA(hT:cO P T){t:Nat}{x y:Operand}{K:Mem->Prop}{Ml:Mem}(hM:M=aa Ml)(hok:(T.d t).ok=true)(ho:o.op= .store t x y)(h:Ae T t (ev F x) (ev F y) Ml K):
  ∃n b,bD P X o F M (.aG []) [(n,b)] []/\n ∈ (ev F x).names/\K (gB Ml n b)/\(∃b0,M n=some b0/\b.ln=b0.ln/\b.sz=b0.sz):=by
 have hx:x ∈ o.op.operands.toList:=by simp[ho,Op.operands]
 have hy:y ∈ o.op.operands.toList:=by simp[ho,Op.operands]
 cases bK:ev F x with
 |loc n len i off=>
  rw[bK]at h
  simp only[Ae,alive]at h
  cases hb:aa Ml n with
  |none=>rw[hb]at h; exact h.elim
  |some b=>
   rw[hb]at h
   obtain⟨hc1,hmp,h⟩:=ay h
   obtain⟨jV,hk⟩:=ay h
   have hl:b.ln=len:=by simpa using hc1
   simp only[Bool.and_eq_true,beq_iff_eq,Bool.not_eq_true']at jV
   obtain⟨⟨⟨hs,hlen⟩,hz⟩,hfit⟩:=jV
   obtain⟨sl,dK,fj⟩:=bh (F:=F) x hx (n:=n) (by rw[bK]; simp[AV.names])
   refine⟨n,_,?_,by simp[AV.names],hk,b,by rw[hM]; exact hb,by rw[bf.bX hmp]; simp[bf.ln],rfl⟩
   refine⟨fun p hp=> .inr ⟨sl,dK,by simp at hp; rw[hp]; exact fj⟩,fun M' N ρ I a w hW hU hN _=> ?_⟩
   have r1:=ap hU x hx
   have r2:=ap hU y hy
   rw[bK]at r1
   have bN:M' n=some b:=(hN sl dK n fj).trans (by rw[hM]; exact hb)
   have dt:lens M' n=some (b.ln,b.sz):=by rw[aA]; exact⟨b,bN,rfl,rfl⟩
   rw[hl]at dt
   obtain⟨hn,g,cap,hρ,hv⟩:=fJ r1 dt
   obtain⟨hcl,E7,Yv⟩:=pR r2 hs
   have B:=hW.aS n b bN
   obtain⟨cs,fr,hg,nH,nU,hown,hlc,lJ,hcs,hc⟩:=B.real g cap hρ
   have hg:=hg.cells hmp
   have Rg:=bf.bX hmp
   obtain⟨D,it,z,hD,hf,hi,hsz,_⟩:=hT t (TD.dC hok)
   have hpos:0< (cells (ev F y)).length:=by
    have:T.s t≠0:=by simpa using hz
    omega
   have hi':i<b.es.length:=by
    rcases Nat.lt_or_ge i b.es.length with h|h
    ·exact h
    ·rw[List.getD_eq_getElem?_getD,List.getElem?_eq_none h]at hfit; simp at hfit; omega
   have hel:(b.es.getD i []).length=b.sz:=by
    rw[List.getD_eq_getElem?_getD,List.getElem?_eq_getElem hi',Option.getD_some]
    exact B.even _ (List.getElem_mem _)
   have hoff:off+ (cells (ev F y)).length<=b.sz:=by
    simp only[List.length_take,List.length_drop,hel]at hfit
    omega
   have hin:∀j,j<b.sz->i*b.sz+j<cs.size:=fun j hj=>by
    rw[hcs]
    calc i*b.sz+j<i*b.sz+b.sz:=by omega
     _=(i+1)*b.sz:=by rw[Nat.add_mul,Nat.one_mul]
     _<=cap*b.sz:=Nat.mul_le_mul_right _ (by omega)
   have oI:∀k,w.cell? ⟨g,k,none⟩=cs[k]? :=fun k=>by simp[World.cell?,hg]
   have Yw:∀k,k<cs.size->w.frozen? ⟨g,k,none⟩=false:=fun k hk=>by
    have:=zZ nH k hk
    simp only[World.frozen?,hg]
    simpa using this
   have hrun:(execOp a.eval o).run P w= .ok .skip (w.setCells g (i*b.sz+off) (a.eval y).cells.toList):=by
    have hst:=run_storeCells_cells (P:=P) g (i*b.sz+off) (a.eval y).cells.toList 0 w
     (fun j hj=>by
       rw[Nat.add_zero,oI,Nat.add_assoc,Array.getElem?_eq_getElem (hin (off+j) (by omega))]; rfl)
     (fun j hj=>by rw[Nat.add_zero,Nat.add_assoc]; exact Yw _ (hin (off+j) (by omega)))
     E7
    have hsize:(a.eval y).cells.size=it.size:=by rw[hsz,<-hlen,<-hcl]; simp
    simp only[execOp,ho,Instr.storeAt,hv,Instr.sureAddr,Sem.run_bind,Sem.run_pure,Result.andThen_ok,storeVar,bu hi,hsize,ne_eq,not_true_eq_false,if_false]
    rw[Nat.add_zero]at hst
    rw[hst]
    rfl
   obtain⟨cs',h1,h2,h3⟩:=gZ g b.ty fr (a.eval y).cells.toList (i*b.sz+off) w cs hg (by rw[hcl]; have:=hin (b.sz - 1) (by omega); omega)
   have key:∀p q,p<b.es.length->q<b.sz->∃u,cs'[p*b.sz+q]? =some u/\u.oneCell'=true/\aM ρ (lens M') I w N (((b.es.set i (bH off (cells (ev F y)) (b.es.getD i []))).getD p []).getD q .bad) u:=by
    intro p q hp hq
    rw[h3,hcl]
    by_cases hpi:p=i
    ·subst hpi
     have e1:(b.es.set p (bH off (cells (ev F y)) (b.es.getD p []))).getD p []=bH off (cells (ev F y)) (b.es.getD p []):=by
      simp[List.getD_eq_getElem?_getD,hp]
     rw[e1,lO _ _ _ _ (by omega)]
     by_cases Lh:off<=q/\q<off+ (cells (ev F y)).length
     ·rw[if_pos (by omega),if_pos Lh]
      have e2:p*b.sz+q - (p*b.sz+off)=q - off:=by omega
      rw[e2]
      have Mg:q - off< (a.eval y).cells.toList.length:=by rw[hcl]; omega
      refine⟨(a.eval y).cells.toList[q - off],List.getElem?_eq_getElem Mg,E7 _ (List.getElem_mem _),?_⟩
      have:=Yv (q - off) (by omega)
      rwa[List.getD_eq_getElem?_getD (l:=(a.eval y).cells.toList),List.getElem?_eq_getElem Mg,Option.getD_some]at this
     ·rw[if_neg (by omega),if_neg Lh]
      exact hc p q hp hq
    ·have e1:(b.es.set i (bH off (cells (ev F y)) (b.es.getD i []))).getD p []=b.es.getD p []:=by
      simp[List.getD_eq_getElem?_getD,List.getElem?_set,Ne.symm hpi]
     rw[e1]
     rw[if_neg]
     ·exact hc p q hp hq
     ·rintro⟨ha,hb'⟩
      rcases Nat.lt_or_gt_of_ne hpi with hlt|hgt
      ·have:(p+1)*b.sz<=i*b.sz:=Nat.mul_le_mul_right _ hlt
       rw[Nat.add_mul,Nat.one_mul]at this
       omega
      ·have:(i+1)*b.sz<=p*b.sz:=Nat.mul_le_mul_right _ hgt
       rw[Nat.add_mul,Nat.one_mul]at this
       omega
   have jY:∀b0,M' n=some b0->b0=b:=fun b0 h0=>by rw[bN]at h0; exact (Option.some.inj h0).symm
   obtain⟨E,W⟩:=hW.put (w':=w.setCells g (i*b.sz+off) (a.eval y).cells.toList) n ⟨b.ty,b.sz,b.es.set i (bH off (cells (ev F y)) (b.es.getD i [])),none⟩ g cap cs' fr
    (os_setCells _ _ _ _) (hG _ _ _ _) (iH _ _ _ _) (by rw[size_setCells]; exact Nat.le_refl _) (fun k _ hk=>fk g _ _ _ _ hk) h1 (by omega)
    (.inr ⟨cap,hρ,b,bN⟩) (fun b0 h0=>by rw[jY b0 h0,Rg]; exact⟨rfl,by simp[bf.ln],fun _=>hρ⟩) (fun _=>⟨b,bN⟩)
    (fun e he=>by
      rcases List.mem_or_eq_of_mem_set he with he|rfl
      ·exact B.even e he
      ·show (bH _ _ _).length=b.sz
       unfold bH
       rw[List.length_append,List.length_append,List.length_take,List.length_drop,hel]; omega)
    (by simpa using hlc) lJ (by rw[h2]; exact hcs) (by simpa using key)
   unfold bJ
   rw[hrun]
   refine⟨iF ρ n (g,cap),I,E,by rw[bE]; exact W,.aG [] [] rfl (fun j hj=>by simp at hj)⟩
 |_=>rw[bK]at h; exact h.elim
end Go.AM
namespace Go.AM
open Go.RowKit
variable {P:Program} {T:TT} {X:bM} {o:Oper} {F:aT} {M:bg}
def bo(ρ:Place)(L:aZ)(I:Nat->Prop)(w:World)(N:Nat->Prop)(cs:List AV)(arr:Array Value):Prop:=
 arr.size=cs.length/\∀j,j<cs.length->∃u,arr[j]? =some u/\u.oneCell'=true/\aM ρ L I w N (cs.getD j .bad) u
theorem bo.agg{ρ:Place}{L:aZ}{I:Nat->Prop}{w:World}{N:Nat->Prop}{cs:List AV}{arr:Array Value}(h:bo ρ L I w N cs arr):aM ρ L I w N (.agg cs) (.agg arr):=by
 have:arr=arr.toList.toArray:=by simp
 rw[this]
 refine .agg cs arr.toList (by simpa using h.1) (fun u hu=> ?_) (fun j hj=> ?_)
 ·obtain⟨j,hj,rfl⟩:=List.mem_iff_getElem.1 hu
  obtain⟨u,hu,h1,_⟩:=h.2 j (by have:=h.1; simp at hj; omega)
  have EM:arr.toList[j]? =some u:=by simpa using hu
  rw[List.getElem?_eq_getElem hj]at EM
  cases EM
  exact h1
 ·obtain⟨u,hu,_,hr⟩:=h.2 j hj
  have:arr.toList.getD j default=u:=by simp[List.getD_eq_getElem?_getD,hu]
  rw[this]; exact hr
theorem bo.fF{ρ:Place}{L:aZ}{I:Nat->Prop}{w:World}{N:Nat->Prop}{a:AV}{v:Value}(h:aM ρ L I w N a v)(hs:bI a=true):bo ρ L I w N (cells a) v.cells:=by
 obtain⟨h1,h2⟩:=oH h hs
 refine⟨h1,fun j hj=> ?_⟩
 have:=h2 0 j (by omega) hj
 simpa using this
theorem jA(off:Nat):∀(vs:List Value)(k:Nat)(arr:Array Value),off+k+vs.length<=arr.size->
  ((vs.zipIdx k).foldl (fun cs (p:Value × Nat)=>cs.setIfInBounds (off+p.2) p.1) arr).size=arr.size/\
  ∀q,((vs.zipIdx k).foldl (fun cs (p:Value × Nat)=>cs.setIfInBounds (off+p.2) p.1) arr)[q]? =if off+k<=q/\q<off+k+vs.length then vs[q - (off+k)]? else arr[q]?
 |[],k,arr,_=>⟨rfl,fun q=>by rw[if_neg (by simp)]; rfl⟩
 |v::r,k,arr,h=>by
  simp only[List.zipIdx_cons,List.foldl_cons]
  obtain⟨h1,h2⟩:=jA off r (k+1) (arr.setIfInBounds (off+k) v) (by simp at h ⊢; omega)
  refine⟨by rw[h1]; simp,fun q=> ?_⟩
  rw[h2]
  simp only[List.length_cons]at h ⊢
  by_cases hq:q=off+k
  ·subst hq
   rw[if_neg (by omega),if_pos (by omega)]
   simp[Array.getElem?_setIfInBounds]; omega
  ·by_cases Yx:off+ (k+1)<=q/\q<off+ (k+1)+r.length
   ·rw[if_pos Yx,if_pos (by omega)]
    have:q - (off+k)=(q - (off+ (k+1)))+1:=by omega
    rw[this]; simp
   ·rw[if_neg Yx,if_neg (by omega)]
    simp[Array.getElem?_setIfInBounds]
    intro e; omega
theorem bo.part{ρ:Place}{L:aZ}{I:Nat->Prop}{w:World}{N:Nat->Prop}{cs vs:List AV}{arr pS:Array Value}(h:bo ρ L I w N cs arr)(hv:bo ρ L I w N vs pS)(off:Nat)(hfit:off+vs.length<=cs.length):
  bo ρ L I w N (bH off vs cs) (pS.zipIdx.foldl (fun cs (p:Value × Nat)=>cs.setIfInBounds (off+p.2) p.1) arr):=by
 have e:pS.zipIdx.foldl (fun cs (p:Value × Nat)=>cs.setIfInBounds (off+p.2) p.1) arr=(pS.toList.zipIdx 0).foldl (fun cs (p:Value × Nat)=>cs.setIfInBounds (off+p.2) p.1) arr:=by
  rw[<-Array.foldl_toList,Array.toList_zipIdx]
 rw[e]
 have hl:pS.toList.length=vs.length:=by simpa using hv.1
 obtain⟨h1,h2⟩:=jA off pS.toList 0 arr (by have:=h.1; omega)
 have dK:(bH off vs cs).length=cs.length:=by
  unfold bH
  rw[List.length_append,List.length_append,List.length_take,List.length_drop]; omega
 refine⟨by rw[h1,dK]; exact h.1,fun j hj=> ?_⟩
 rw[dK]at hj
 rw[h2,lO _ _ _ _ hfit,hl]
 simp only[Nat.add_zero]
 by_cases hr:off<=j/\j<off+vs.length
 ·rw[if_pos hr,if_pos hr]
  obtain⟨u,hu,h3⟩:=hv.2 (j - off) (by omega)
  exact⟨u,by simpa using hu,h3⟩
 ·rw[if_neg hr,if_neg hr]
  exact h.2 j hj
theorem sC{ρ:Place}{L:aZ}{I:Nat->Prop}{w:World}{N:Nat->Prop}{place:Nat->Option (Nat × Nat)}{i off size:Nat}{v:Value}{a:AV}{rest:List (Nat × Value)}{cs:List AV}{arr:Array Value}
  (hp:place i=some (off,size)) (hv:bo ρ L I w N (cells a) v.cells) (hl:(cells a).length=size) (hfit:off+ (cells a).length<=cs.length) (hc:bo ρ L I w N cs arr):
  ∃gJ,bo ρ L I w N (bH off (cells a) cs) gJ/\Instr.fill place arr ((i,v)::rest)=Instr.fill place gJ rest:=by
 refine⟨_,hc.part hv off hfit,?_⟩
 have h1:v.cells.size=size:=by rw[hv.1,hl]
 have h2:¬off+v.cells.size>arr.size:=by rw[hv.1,hc.1]; omega
 have h3:¬ (v.cells.size≠size\/ off+v.cells.size>arr.size):=by
  rintro (h|h)
  ·exact h h1
  ·exact h2 h
 simp only[Instr.fill,hp,Bool.or_eq_true,decide_eq_true_eq,if_neg h3]
theorem u6{cs:List AV}{off n:Nat}(h:((cs.drop off).take n).length=n):off+n<=cs.length\/ n=0:=by
 simp at h; omega
theorem u7{size:Nat->Nat}{fs:List (Nat × Nat)}{K:List AV->Prop}:∀(ps:List (Nat × Operand))(cs:List AV),oE size fs (pK F ps) cs K->∃cs',oE size fs (pK F ps) cs (fun x=>x=cs')/\K cs'
 |[],cs,h=>⟨cs,rfl,h⟩
 |(i,x)::r,cs,h=>by
  simp only[pK,oE]at h ⊢
  cases hf:fs[i]? with
  |none=>rw[hf]at h; exact h.elim
  |some q=>
   rw[hf]at h
   obtain⟨hc1,h⟩:=ay h
   obtain⟨cs',h1,h2⟩:=u7 r _ h
   exact⟨cs',aF hc1 h1,h2⟩
theorem u9{sz:Nat}{K:List AV->Prop}:∀(ps:List (Nat × Operand))(cs:List AV),oF sz (pK F ps) cs K->∃cs',oF sz (pK F ps) cs (fun x=>x=cs')/\K cs'
 |[],cs,h=>⟨cs,rfl,h⟩
 |(i,x)::r,cs,h=>by
  simp only[pK,oF]at h ⊢
  obtain⟨hc1,h⟩:=ay h
  obtain⟨cs',h1,h2⟩:=u9 r _ h
  exact⟨cs',aF hc1 h1,h2⟩
theorem qx{ρ:Place}{L:aZ}{I:Nat->Prop}{w:World}{N:Nat->Prop}{a:Act}{size:Nat->Nat}{fs:List (Nat × Nat)}{place:Nat->Option (Nat × Nat)}
  (hp:∀i off t,fs[i]? =some (off,t)->place i=some (off,size t)) {K:List AV->Prop}:∀(ps:List (Nat × Operand))(cs:List AV),(∀p ∈ ps,aM ρ L I w N (ev F p.2) (a.eval p.2))->
  oE size fs (pK F ps) cs K->∃cs',K cs'/\∀arr,bo ρ L I w N cs arr->∃gJ,bo ρ L I w N cs' gJ/\Instr.fill place arr (ps.map fun p=>(p.1,a.eval p.2))=some gJ
 |[],cs,_,h=>⟨cs,h,fun arr hc=>⟨arr,hc,rfl⟩⟩
 |(i,x)::r,cs,hr,h=>by
  simp only[pK,oE]at h
  cases hf:fs[i]? with
  |none=>rw[hf]at h; exact h.elim
  |some q=>
   obtain⟨off,t⟩:=q
   rw[hf]at h
   obtain⟨hc1,h⟩:=ay h
   simp only[Bool.and_eq_true,beq_iff_eq,Bool.not_eq_true',beq_eq_false_iff_ne]at hc1
   obtain⟨⟨⟨hs,Yy⟩,hl⟩,hfit⟩:=hc1
   obtain⟨cs',hk,hall⟩:=qx hp r _ (fun p hp=>hr p (List.mem_cons_of_mem _ hp)) h
   refine⟨cs',hk,fun arr hc=> ?_⟩
   have hv:=bo.fF (hr (i,x) List.mem_cons_self) hs
   obtain⟨q9,ha1,ha2⟩:=sC (rest:=r.map fun p=>(p.1,a.eval p.2)) (hp i off t hf) hv hl (by rcases u6 hfit with h|h; exact h; exact (Yy h).elim) hc
   obtain⟨gJ,EK,Yz⟩:=hall q9 ha1
   exact⟨gJ,EK,by rw[List.map_cons,ha2]; exact Yz⟩
theorem qy{ρ:Place}{L:aZ}{I:Nat->Prop}{w:World}{N:Nat->Prop}{a:Act}{sz:Nat}{K:List AV->Prop}:∀(ps:List (Nat × Operand))(cs:List AV),(∀p ∈ ps,aM ρ L I w N (ev F p.2) (a.eval p.2))->
  oF sz (pK F ps) cs K->∃cs',K cs'/\∀arr,bo ρ L I w N cs arr->∃gJ,bo ρ L I w N cs' gJ/\Instr.fill (fun i=>some (i*sz,sz)) arr (ps.map fun p=>(p.1,a.eval p.2))=some gJ
 |[],cs,_,h=>⟨cs,h,fun arr hc=>⟨arr,hc,rfl⟩⟩
 |(i,x)::r,cs,hr,h=>by
  simp only[pK,oF]at h
  obtain⟨hc1,h⟩:=ay h
  simp only[Bool.and_eq_true,beq_iff_eq,Bool.not_eq_true',beq_eq_false_iff_ne]at hc1
  obtain⟨⟨⟨hs,Yy⟩,hl⟩,hfit⟩:=hc1
  obtain⟨cs',hk,hall⟩:=qy r _ (fun p hp=>hr p (List.mem_cons_of_mem _ hp)) h
  refine⟨cs',hk,fun arr hc=> ?_⟩
  have hv:=bo.fF (hr (i,x) List.mem_cons_self) hs
  obtain⟨q9,ha1,ha2⟩:=sC (place:=fun i=>some (i*sz,sz)) (i:=i) (off:=i*sz) (size:=sz) (rest:=r.map fun p=>(p.1,a.eval p.2)) rfl hv hl (by rcases u6 hfit with h|h; exact h; exact (Yy h).elim) hc
  obtain⟨gJ,EK,Yz⟩:=hall q9 ha1
  exact⟨gJ,EK,by rw[List.map_cons,ha2]; exact Yz⟩
theorem qz(hT:cO P T):∀(gs:List Field),E4 T.d (gs.map fun f=>(f.offset,f.type))=true->
  gs.mapM (fun f=>(P.info? f.type).map fun i=>(f.offset,i.size))=some (gs.map fun f=>(f.offset,T.s f.type))
 |[],_=>rfl
 |f::r,h=>by
  simp only[List.map_cons,E4,Bool.and_eq_true]at h
  obtain⟨D,i,z,_,_,hi,hs,_⟩:=hT f.type (TD.dC h.1)
  have ih:=qz hT r h.2
  simp[List.mapM_cons,hi,hs,ih]
theorem Ak(hT:cO P T){t:Nat}{ps:Array (Nat × Operand)}{K:AV->Prop}(ho:o.op= .build t ps)(h:Ab T t (pK F ps.toList) K):∃av,bD P X o F M av [] []/\K av:=by
 have Al:∀p ∈ ps.toList,p.2 ∈ o.op.operands.toList:=fun p hp=>by
  simp only[ho,Op.operands]
  exact List.mem_map.2 ⟨p,hp,rfl⟩
 unfold Ab at h
 cases ht:T.d t with
 |struct fs=>
  rw[ht]at h
  simp only at h
  obtain⟨hc,h⟩:=ay h
  simp only[Bool.and_eq_true,beq_iff_eq]at hc
  obtain⟨⟨Xc,oJ⟩,hlen⟩:=hc
  obtain⟨D,it,z,hD,hf,hi,hsz,_,hz,iv⟩:=hT t (by rw[ht]; simp)
  obtain⟨gs,rfl,Mh⟩:=jy ht hf
  have rb:∀(i off t':Nat),fs[i]? =some (off,t')->((gs.toList.map fun f=>(f.offset,T.s f.type)).toArray[i]?)=some (off,T.s t'):=by
   intro i off t' hi'
   rw[Mh,List.getElem?_map]at hi'
   cases hg:gs.toList[i]? with
   |none=>simp[hg]at hi'
   |some g=>
    simp only[hg,Option.map_some,Option.some.injEq,Prod.mk.injEq]at hi'
    have ur:gs[i]? =some g:=by simpa using hg
    simp[ur,hi'.1,hi'.2]
  have hk0:∃cs',K (.agg cs')/\∀ρ L I w N (a:Act),(∀p ∈ ps.toList,aM ρ L I w N (ev F p.2) (a.eval p.2))->∀arr,bo ρ L I w N (cells (T.z t)) arr->∃gJ,bo ρ L I w N cs' gJ/\
    Instr.fill ((gs.toList.map fun f=>(f.offset,T.s f.type)).toArray[·]?) arr (ps.toList.map fun p=>(p.1,a.eval p.2))=some gJ:=by
   obtain⟨cs',hcs,hk⟩:=u7 (K:=fun cs=>K (.agg cs)) ps.toList _ h
   refine⟨cs',hk,fun ρ L I w N a hr arr hc=> ?_⟩
   obtain⟨YA,h1,h2⟩:=qx (place:=fun i=>((gs.toList.map fun f=>(f.offset,T.s f.type)).toArray[i]?)) rb ps.toList _ hr hcs
   subst h1
   exact h2 arr hc
  obtain⟨cs',hk,hall⟩:=hk0
  refine⟨.agg cs',aC fun M' N ρ I a w hW hU hN=> ?_,hk⟩
  have hr:∀p ∈ ps.toList,aM ρ (lens M') I w N (ev F p.2) (a.eval p.2):=fun p hp=>ap hU _ (Al p hp)
  obtain⟨gJ,ha1,ha2⟩:=hall ρ (lens M') I w N a hr z.cells (by rw[iv]; exact bo.fF (gb _ _ _ _ _ z) (by rw[<-iv]; exact oJ))
  refine⟨.agg gJ,?_,ha1.agg⟩
  have hb:P.built t (ps.map fun (i,x)=>(i,a.eval x)).toList=some gJ:=by
   unfold Program.built
   simp only[hi,hD,hz,qz hT gs.toList (by rw[<-Mh]; exact Xc),Array.toList_map]
   exact ha2
  simp only[execOp,ho,Sem.run_bind,run_build w t _ _ hb,Result.andThen_ok,Sem.run_pure]
 |arr m e=>
  rw[ht]at h
  simp only at h
  obtain⟨hc,h⟩:=ay h
  simp only[Bool.and_eq_true,beq_iff_eq]at hc
  obtain⟨⟨hok,oJ⟩,hlen⟩:=hc
  obtain⟨D,it,z,hD,hf,hi,hsz,_,hz,iv⟩:=hT t (by rw[ht]; simp)
  have fX:=dY ht hf
  subst fX
  obtain⟨_,ie,_,_,_,hie,lu,_⟩:=hT e (TD.dC hok)
  obtain⟨cs',hcs,hk⟩:=u9 (K:=fun cs=>K (.agg cs)) ps.toList _ h
  refine⟨.agg cs',aC fun M' N ρ I a w hW hU hN=> ?_,hk⟩
  have hr:∀p ∈ ps.toList,aM ρ (lens M') I w N (ev F p.2) (a.eval p.2):=fun p hp=>ap hU _ (Al p hp)
  obtain⟨YA,h1,h2⟩:=qy ps.toList _ hr hcs
  subst h1
  obtain⟨gJ,ha1,ha2⟩:=h2 z.cells (by rw[iv]; exact bo.fF (gb _ _ _ _ _ z) (by rw[<-iv]; exact oJ))
  refine⟨.agg gJ,?_,ha1.agg⟩
  have hb:P.built t (ps.map fun (i,x)=>(i,a.eval x)).toList=some gJ:=by
   unfold Program.built
   simp only[hi,hD,hz,hie,lu,Array.toList_map]
   exact ha2
  simp only[execOp,ho,Sem.run_bind,run_build w t _ _ hb,Result.andThen_ok,Sem.run_pure]
 |_=>rw[ht]at h; exact h.elim
end Go.AM
namespace Go.AM
open Go.RowKit
variable {P:Program} {T:TT} {X:bM} {o:Oper} {F:aT} {M:bg}
def iX(ρ:Place)(L:aZ)(I:Nat->Prop)(w:World)(N:Nat->Prop)(sz:Nat)(es:List (List AV))(arr:Array Value):Prop:=
 es.length*sz<=arr.size/\(∀e ∈ es,e.length=sz)/\∀i j,i<es.length->j<sz->∃u,arr[i*sz+j]? =some u/\u.oneCell'=true/\aM ρ L I w N ((es.getD i []).getD j .bad) u
theorem iX.set{ρ:Place}{L:aZ}{I:Nat->Prop}{w:World}{N:Nat->Prop}{sz:Nat}{es:List (List AV)}{arr pS:Array Value}{vs:List AV}{i:Nat}(h:iX ρ L I w N sz es arr)(hi:i<es.length)
  (hv:bo ρ L I w N vs pS) (hl:vs.length=sz):iX ρ L I w N sz (es.set i vs) (pS.zipIdx.foldl (fun cs (p:Value × Nat)=>cs.setIfInBounds (i*sz+p.2) p.1) arr):=by
 have e:pS.zipIdx.foldl (fun cs (p:Value × Nat)=>cs.setIfInBounds (i*sz+p.2) p.1) arr=(pS.toList.zipIdx 0).foldl (fun cs (p:Value × Nat)=>cs.setIfInBounds (i*sz+p.2) p.1) arr:=by
  rw[<-Array.foldl_toList,Array.toList_zipIdx]
 rw[e]
 obtain⟨h1,h2,h3⟩:=h
 have hvl:pS.toList.length=sz:=by have:=hv.1; simp; omega
 have hb:i*sz+sz<=es.length*sz:=by
  have:(i+1)*sz<=es.length*sz:=Nat.mul_le_mul_right _ hi
  rwa[Nat.add_mul,Nat.one_mul]at this
 obtain⟨g1,g2⟩:=jA (i*sz) pS.toList 0 arr (by rw[hvl]; omega)
 refine⟨by rw[g1]; simpa using h1,fun e he=> ?_,fun p q hp hq=> ?_⟩
 ·rcases List.mem_or_eq_of_mem_set he with he|rfl
  ·exact h2 e he
  ·exact hl
 ·rw[g2,hvl]
  simp only[Nat.add_zero]
  simp only[List.length_set]at hp
  by_cases hpi:p=i
  ·subst hpi
   rw[if_pos (by omega)]
   have:(es.set p vs).getD p []=vs:=by simp[List.getD_eq_getElem?_getD,hp]
   rw[this]
   have e2:p*sz+q - p*sz=q:=by omega
   rw[e2]
   obtain⟨u,hu,hr⟩:=hv.2 q (by omega)
   exact⟨u,by simpa using hu,hr⟩
  ·rw[if_neg]
   ·have:(es.set i vs).getD p []=es.getD p []:=by simp[List.getD_eq_getElem?_getD,List.getElem?_set,Ne.symm hpi]
    rw[this]
    exact h3 p q hp hq
   ·rintro⟨ha,hb'⟩
    rcases Nat.lt_or_gt_of_ne hpi with hlt|hgt
    ·have:(p+1)*sz<=i*sz:=Nat.mul_le_mul_right _ hlt
     rw[Nat.add_mul,Nat.one_mul]at this
     omega
    ·have:(i+1)*sz<=p*sz:=Nat.mul_le_mul_right _ hgt
     rw[Nat.add_mul,Nat.one_mul]at this
     omega
theorem u'{sz:Nat}{K:List (List AV)->Prop}:∀(ps:List (Nat × Operand))(es:List (List AV)),lq sz (pK F ps) es K->∃es',lq sz (pK F ps) es (fun x=>x=es')/\K es'
 |[],es,h=>⟨es,rfl,h⟩
 |(i,x)::r,es,h=>by
  simp only[pK,lq]at h ⊢
  obtain⟨hc1,h⟩:=ay h
  obtain⟨es',h1,h2⟩:=u' r _ h
  exact⟨es',aF hc1 h1,h2⟩
theorem qA{ρ:Place}{L:aZ}{I:Nat->Prop}{w:World}{N:Nat->Prop}{a:Act}{sz:Nat}{K:List (List AV)->Prop}:∀(ps:List (Nat × Operand))(es:List (List AV)),(∀p ∈ ps,aM ρ L I w N (ev F p.2) (a.eval p.2))->
  lq sz (pK F ps) es K->∃es',K es'/\es'.length=es.length/\∀arr,arr.size=es.length*sz->iX ρ L I w N sz es arr->∃gJ,gJ.size=arr.size/\iX ρ L I w N sz es' gJ/\Instr.fill (fun i=>some (i*sz,sz)) arr (ps.map fun p=>(p.1,a.eval p.2))=some gJ
 |[],es,_,h=>⟨es,h,rfl,fun arr _ hc=>⟨arr,rfl,hc,rfl⟩⟩
 |(i,x)::r,es,hr,h=>by
  simp only[pK,lq]at h
  obtain⟨hc1,h⟩:=ay h
  simp only[Bool.and_eq_true,beq_iff_eq]at hc1
  obtain⟨⟨hs,hl⟩,hfit⟩:=hc1
  obtain⟨es',hk,hle,hall⟩:=qA r _ (fun p hp=>hr p (List.mem_cons_of_mem _ hp)) h
  refine⟨es',hk,by simpa using hle,fun arr hsz hc=> ?_⟩
  have hi:i<es.length:=by simp at hfit; omega
  have hv:=bo.fF (hr (i,x) List.mem_cons_self) hs
  have h1:(a.eval x).cells.size=sz:=by have:=hv.1; simp at this; omega
  have hb:i*sz+sz<=es.length*sz:=by
   have:(i+1)*sz<=es.length*sz:=Nat.mul_le_mul_right _ hi
   rwa[Nat.add_mul,Nat.one_mul]at this
  have h3:¬ ((a.eval x).cells.size≠sz\/ i*sz+ (a.eval x).cells.size>arr.size):=by
   rintro (h|h)
   ·exact h h1
   ·omega
  have IH:=hc.set hi hv hl
  have Rh:((a.eval x).cells.zipIdx.foldl (fun cs (p:Value × Nat)=>cs.setIfInBounds (i*sz+p.2) p.1) arr).size=arr.size:=by
   rw[<-Array.foldl_toList,Array.toList_zipIdx]
   exact (jA (i*sz) _ 0 arr (by simp; omega)).1
  obtain⟨gJ,ha0,ha1,ha2⟩:=hall _ (by rw[Rh]; simpa using hsz) IH
  refine⟨gJ,ha0.trans Rh,ha1,?_⟩
  simp only[List.map_cons,Instr.fill,Bool.or_eq_true,decide_eq_true_eq,if_neg h3]
  exact ha2
theorem iX.E8{ρ:Place}{L:aZ}{I:Nat->Prop}{w:World}{N:Nat->Prop}{z:Value}{a:AV}{sz n:Nat}(h:bo ρ L I w N (cells a) z.cells)(hl:(cells a).length=sz)(hpos:sz≠0):
  iX ρ L I w N sz (List.replicate n (cells a)) ((Array.range (n*sz)).map (z.cells[· % z.cells.size]!)):=by
 have hz:z.cells.size=sz:=by rw[h.1,hl]
 refine⟨by simp,fun e he=>by rw[(List.mem_replicate.1 he).2]; exact hl,fun i j hi hj=> ?_⟩
 simp only[List.length_replicate]at hi
 have hlt:i*sz+j<n*sz:=by
  have:(i+1)*sz<=n*sz:=Nat.mul_le_mul_right _ hi
  rw[Nat.add_mul,Nat.one_mul]at this
  omega
 have YB:(i*sz+j) % z.cells.size=j:=by
  rw[hz,Nat.add_comm,Nat.mul_comm,Nat.add_mul_mod_self_left]
  exact Nat.mod_eq_of_lt hj
 obtain⟨u,hu,h1,hr⟩:=h.2 j (by omega)
 refine⟨u,?_,h1,?_⟩
 ·have hj':j<z.cells.size:=by omega
  have EM:z.cells[j]=u:=by rw[Array.getElem?_eq_getElem hj']at hu; exact Option.some.inj hu
  simp[hlt,YB,hj',EM]
 ·have:(List.replicate n (cells a)).getD i []=cells a:=by simp[List.getD_eq_getElem?_getD,hi]
  rw[this]; exact hr
theorem qB{n e len cap sz:Nat}{es:List (List AV)}(hlen:es.length=len)
  (h:∀M' N ρ I (ac:Act) w,bZ X ρ I M' N w->(∀s ∈ dr o.op,aM ρ (lens M') I w N (look F s) (ac.tmps.getD s undef))->
    ∃arr,(execOp ac.eval o).run P w= .ok (.value (.slice (some ⟨w.heap.size,0,none⟩) len cap)) (w.alloc (.cells arr e))/\arr.size=cap*sz/\len<=cap/\cap<=maxLen/\iX ρ (lens M') I w N sz es arr):bD P X o F M (.bi n len) [(n,⟨e,sz,es,none⟩)] [n]:=by
 refine⟨fun p hp=> .inl (by simp at hp; simp[hp]),fun M' N ρ I ac w hW hU hN hF=> ?_⟩
 obtain⟨arr,hrun,h1,h2,h3,h4⟩:=h M' N ρ I ac w hW hU
 have hn:¬N n:=hF n (by simp)
 obtain⟨ρ1,E,W,hρ,hl⟩:=hW.new hn ⟨e,sz,es,none⟩ rfl arr cap h4.2.1 (by simpa using hlen ▸ h2) h3 h1 h4.2.2
 unfold bJ
 rw[hrun]
 have IG:fR N [(n,(⟨e,sz,es,none⟩:bf))] n:= .inr ⟨_,List.mem_singleton.2 rfl⟩
 refine⟨ρ1,I,E,W,?_⟩
 exact gI IG (hlen ▸ hl) hρ
theorem rc(hT:cO P T){n t len:Nat}{ps:Array (Nat × Operand)}{e:Nat}{es:List (List AV)}(ho:o.op= .buildSlice t len ps)(ht:T.d t= .slice e)(hok:(T.d e).ok=true)
  (hs:bI (T.z e)=true) (hl:(cells (T.z e)).length=T.s e) (hz:T.s e≠0) (hb:len*T.s e<=16777216) (h:lq (T.s e) (pK F ps.toList) (List.replicate len (cells (T.z e))) (fun x=>x=es)):bD P X o F M (.bi n len) [(n,⟨e,T.s e,es,none⟩)] [n]/\es.length=len:=by
 have Al:∀p ∈ ps.toList,p.2 ∈ o.op.operands.toList:=fun p hp=>by
  simp only[ho,Op.operands]
  exact List.mem_map.2 ⟨p,hp,rfl⟩
 obtain⟨D,it,z,hD,hf,hi,hsz,_⟩:=hT t (by rw[ht]; simp)
 have fX:=bv ht hf
 subst fX
 obtain⟨_,ie,ze,_,_,hie,lu,_,Mi,iv⟩:=hT e (TD.dC hok)
 have hlen:es.length=len:=by
  clear Al
  have:∀(ps:List (Nat × Operand))(oK:List (List AV)),lq (T.s e) (pK F ps) oK (fun x=>x=es)->es.length=oK.length:=by
   intro ps
   induction ps with
   |nil=>intro oK h; simp only[pK,lq]at h; rw[h]
   |cons p r ih=>
    intro oK h
    obtain⟨i,x⟩:=p
    simp only[pK,lq]at h
    obtain⟨_,h⟩:=ay h
    simpa using ih _ h
  simpa using this ps.toList _ h
 refine⟨qB (cap:=len) hlen (fun M' N ρ I a w hW hU=> ?_),hlen⟩
 have hr:∀p ∈ ps.toList,aM ρ (lens M') I w N (ev F p.2) (a.eval p.2):=fun p hp=>ap hU _ (Al p hp)
 obtain⟨es',h1,h2,h3⟩:=qA (ρ:=ρ) (L:=lens M') (I:=I) (w:=w) (N:=N) (a:=a) ps.toList _ hr h
 subst h1
 have hc:bo ρ (lens M') I w N (cells (T.z e)) ze.cells:=by rw[iv]; exact bo.fF (gb _ _ _ _ _ ze) (by rw[<-iv]; exact hs)
 obtain⟨arr,ha0,ha1,ha2⟩:=h3 ((Array.range (len*T.s e)).map (ze.cells[· % ze.cells.size]!)) (by simp) (iX.E8 hc hl hz)
 have hmax:len<=maxLen:=by
  have:len*1<=len*T.s e:=Nat.mul_le_mul_left _ (by omega)
  simp only[maxLen]; omega
 refine⟨arr,?_,by rw[ha0]; simp,Nat.le_refl _,hmax,ha1⟩
 have hng:¬len*ie.size>2 ^ 24:=by rw[lu]; omega
 have E9:Instr.fill (fun i=>some (i*ie.size,ie.size)) ((Array.range (len*ie.size)).map (ze.cells[· % ze.cells.size]!)) (ps.map fun p=>(p.1,a.eval p.2)).toList=some arr:=by
  rw[lu,Array.toList_map]; exact ha2
 by_cases h0:len*ie.size=0
 ·have hl0:len=0:=by
   rcases Nat.mul_eq_zero.1 h0 with h|h
   ·exact h
   ·rw[lu]at h; exact (hz h).elim
  subst hl0
  have e0:∀f:Nat->Value,(Array.range (0*ie.size)).map f= #[]:=fun f=>by rw[Nat.zero_mul]; exact Array.eq_empty_of_size_eq_zero (by simp)
  rw[e0]at E9
  have wD:Instr.fill (fun i=>some (i*ie.size,ie.size)) #[] (ps.toList.map fun p=>(p.1,a.eval p.2))=some arr:=by
   rw[<-E9,Array.toList_map]
  simp only[execOp,ho,Instr.buildSlice,Sem.run_bind,run_underlying hD,Result.andThen_ok,bu hie,if_neg hng,if_pos h0,Sem.run_pure,Array.toList_map,e0,wD,newRow,run_newObj,World.alloc_eq]
 ·have wD:Instr.fill (fun i=>some (i*ie.size,ie.size)) ((Array.range (len*ie.size)).map (ze.cells[· % ze.cells.size]!)) (ps.toList.map fun p=>(p.1,a.eval p.2))=some arr:=by simpa using E9
  simp only[execOp,ho,Instr.buildSlice,Sem.run_bind,run_underlying hD,Result.andThen_ok,bu hie,if_neg hng,if_neg h0,gf hie Mi,Sem.run_pure,Array.toList_map,wD,newRow,run_newObj,World.alloc_eq]
end Go.AM
namespace Go.AM
open Go.RowKit
variable {P:Program} {T:TT} {X:bM} {o:Oper} {F:aT} {M:bg}
theorem xH{op:BinOp}{t:TypeId}{x y:Operand}{k k':IntKind}{a b:Int}{w:World}:(eqGuard op t x y (.int k a) (.int k' b)).run P w= .ok () w:=by
 unfold eqGuard
 cases op<;>simp
theorem Fa{op:BinOp}{xt yt:TypeId}{x y:Operand}{K:AV->Prop}(ho:o.op= .binOp op xt x y yt)(h:ID op (ev F x) (ev F y) K):∃av,bD P X o F M av [] []/\K av:=by
 have hx:x ∈ o.op.operands.toList:=by simp[ho,Op.operands]
 have hy:y ∈ o.op.operands.toList:=by simp[ho,Op.operands]
 cases bK:ev F x with
 |int k a=>
  cases Im:ev F y with
  |int k' b=>
   rw[bK,Im]at h
   have go:∀av v,(∀ρ L I w N,aM ρ L I w N av v)->(∀w,(binOp op xt (.int k a) (.int k' b)).run P w= .ok v w)->K av->∃av,bD P X o F M av [] []/\K av:=by
    intro av v hr hrun hk
    refine⟨av,aC fun M' N ρ I ac w hW hU hN=>⟨v,?_,hr _ _ _ _ _⟩,hk⟩
    have r1:=bw (bK ▸ ap hU x hx)
    have r2:=bw (Im ▸ ap hU y hy)
    simp only[execOp,ho,r1,r2,Sem.run_bind,xH,Result.andThen_ok,hrun,Sem.run_pure]
   have Qz:∀n,(∀w,(binOp op xt (.int k a) (.int k' b)).run P w= .ok (.int k n) w)->K (.int k n)->∃av,bD P X o F M av [] []/\K av:=fun n=>go _ _ (fun _ _ _ _ _=> .int _ _)
   have goB:∀t,(∀w,(binOp op xt (.int k a) (.int k' b)).run P w= .ok (.bool t) w)->K (.bool t)->∃av,bD P X o F M av [] []/\K av:=fun n=>go _ _ (fun _ _ _ _ _=> .bool _)
   clear go
   cases op<;>simp only[ID]at h
   case shl=>
    have:¬b<0:=by omega
    exact Qz _ (fun w=>by simp[binOp,Op.shift,this,jZ]) h.2
   case shr=>
    have:¬b<0:=by omega
    exact Qz _ (fun w=>by simp[binOp,Op.shift,this,bA]) h.2
   case quo=>
    obtain⟨h0,h1⟩:=h
    obtain⟨hk,h2⟩:=ay h1
    have hk:=iV hk; subst hk
    exact Qz _ (fun w=>by simp[binOp,Op.intDiv,h0,wr]) h2
   case rem=>
    obtain⟨h0,h1⟩:=h
    obtain⟨hk,h2⟩:=ay h1
    have hk:=iV hk; subst hk
    exact Qz _ (fun w=>by simp[binOp,Op.intDiv,h0]) h2
   all_goals
    obtain⟨hk,h2⟩:=ay h
    have hk:=iV hk; subst hk
    first
     |(refine Qz _ (fun w=> ?_) h2; simp[binOp,Op.intArith,wr]; done)
     |(refine Qz _ (fun w=> ?_) h2; simp only[binOp,ne_eq,not_true_eq_false,if_false]; rfl)
     |(refine goB _ (fun w=> ?_) h2; simp[binOp,Op.intCmp]; done)
  |_=>rw[bK,Im]at h; cases op<;>exact h.elim
 |_=>rw[bK]at h; cases op<;>exact h.elim
theorem II{op:UnOp}{xt:TypeId}{x:Operand}{K:AV->Prop}(ho:o.op= .unOp op xt x)(h:Ra op (ev F x) K):∃av,bD P X o F M av [] []/\K av:=by
 have hx:x ∈ o.op.operands.toList:=by simp[ho,Op.operands]
 cases bK:ev F x with
 |int k n=>
  rw[bK]at h
  cases op<;>simp only[Ra]at h
  ·refine⟨_,aC fun M' N ρ I ac w hW hU hN=>⟨.int k (wr k (0 - n)),?_,.int _ _⟩,h⟩
   have r1:=bw (bK ▸ ap hU x hx)
   simp[execOp,ho,r1,Op.unary,Op.intArith,wr]
  ·refine⟨_,aC fun M' N ρ I ac w hW hU hN=>⟨.int k (da .xor k (if k.signed then -1 else k.max) n),?_,.int _ _⟩,h⟩
   have r1:=bw (bK ▸ ap hU x hx)
   simp[execOp,ho,r1,Op.unary,Op.intBits,da]
 |bool b=>
  rw[bK]at h
  cases op<;>simp only[Ra]at h
  refine⟨_,aC fun M' N ρ I ac w hW hU hN=>⟨.bool !b,?_,.bool _⟩,h⟩
  have r1:=gh (bK ▸ ap hU x hx)
  simp[execOp,ho,r1,Op.unary]
 |_=>rw[bK]at h; cases op<;>exact h.elim
theorem run_convert_int{s t:Nat}{k k':IntKind}{n:Int}{w:World}{D:TypeDesc}(hs:P.underlying s=some D)(ht:P.underlying t=some (.int k)):(convert s t (.int k' n)).run P w= .ok (.int k (wr k n)) w:=by
 simp[convert,run_underlying hs,run_underlying ht,Conv.intToInt,wr]
theorem vd(hT:cO P T){s t:Nat}{x:Operand}{K:AV->Prop}(ho:o.op= .convert s t x)(hs:(T.d s).ok=true)(h:Rb (T.d t) (ev F x) K):∃av,bD P X o F M av [] []/\K av:=by
 have hx:x ∈ o.op.operands.toList:=by simp[ho,Op.operands]
 obtain⟨Ds,_,_,Xd,_⟩:=hT s (TD.dC hs)
 cases ht:T.d t with
 |int k=>
  rw[ht]at h
  obtain⟨D,it,z,hD,hf,_⟩:=hT t (by rw[ht]; simp)
  have fX:=fits_int ht hf
  subst fX
  cases bK:ev F x with
  |int k' n=>
   rw[bK]at h
   refine⟨_,aC fun M' N ρ I ac w hW hU hN=>⟨.int k (wr k n),?_,.int _ _⟩,h⟩
   have r1:=bw (bK ▸ ap hU x hx)
   simp only[execOp,ho,r1,Sem.run_bind,run_convert_int Xd hD,Result.andThen_ok,Sem.run_pure]
  |_=>rw[bK]at h; exact h.elim
 |str=>
  rw[ht]at h
  obtain⟨D,it,z,hD,hf,_⟩:=hT t (by rw[ht]; simp)
  have fX:=gg ht hf
  subst fX
  cases bK:ev F x with
  |str l=>
   rw[bK]at h
   refine⟨_,aC fun M' N ρ I ac w hW hU hN=>⟨.string ⟨l.toArray⟩,?_,.str _⟩,h⟩
   have r1:=gX (bK ▸ ap hU x hx)
   simp[execOp,ho,r1,convert,run_underlying Xd,run_underlying hD]
  |_=>rw[bK]at h; exact h.elim
 |_=>rw[ht]at h; exact h.elim
theorem uA{x:Operand}{K:AV->Prop}{Ml:Mem}(hM:M=aa Ml)(ho:o.op= .nilCheck x)
  (h:(∃n len i q,ev F x= .loc n len i q/\alive Ml n len fun _=>K (.loc n len i q))\/(∃e q,ev F x= .be e q/\K (.be e q))\/(∃f cs,ev F x= .bL f cs/\K (.bL f cs))):∃av,bD P X o F M av [] []/\K av:=by
 have hx:x ∈ o.op.operands.toList:=by simp[ho,Op.operands]
 rcases h with⟨n,len,i,q,bK,h⟩|⟨e,q,bK,h⟩|⟨f,cs,bK,h⟩
 ·simp only[alive]at h
  cases hb:aa Ml n with
  |none=>rw[hb]at h; exact h.elim
  |some b=>
   rw[hb]at h
   obtain⟨hc1,hmp,hk⟩:=ay h
   have hl:b.ln=len:=by simpa using hc1
   refine⟨_,aC fun M' N ρ I a w hW hU hN=> ?_,hk⟩
   have r1:=ap hU x hx
   rw[bK]at r1
   obtain⟨sl,dK,fj⟩:=bh (F:=F) x hx (n:=n) (by rw[bK]; simp[AV.names])
   have bN:M' n=some b:=(hN sl dK n fj).trans (by rw[hM]; exact hb)
   have dt:lens M' n=some (len,b.sz):=by rw[aA]; exact⟨b,bN,hl,rfl⟩
   obtain⟨hn,g,cap,hρ,hv⟩:=fJ r1 dt
   exact⟨_,by simp only[execOp,ho,hv,Sem.run_pure],gH hn dt hρ⟩
 ·refine⟨_,aC fun M' N ρ I a w hW hU hN=> ?_,h⟩
  have r1:=ap hU x hx
  rw[bK]at r1
  generalize hv:a.eval x=v at r1
  cases r1 with
  |be _ _ b q' c hI h1 hcell hr=>exact⟨_,by simp only[execOp,ho,hv,Sem.run_pure],.be e q b q' c hI h1 hcell hr⟩
 ·refine⟨_,aC fun M' N ρ I a w hW hU hN=> ?_,h⟩
  have r1:=ap hU x hx
  rw[bK]at r1
  generalize hv:a.eval x=v at r1
  cases r1 with
  |bL f _ vs hl hr=>exact⟨_,by simp only[execOp,ho,hv,Sem.run_pure],.bL f cs vs hl hr⟩
  |qn f _ vs hl hr=>exact⟨_,by simp only[execOp,ho,hv,Sem.run_pure],.qn f cs vs hl hr⟩
theorem nZ:∀l:List Operand,(oD F l).length=l.length
 |[]=>rfl
 |_::r=>by simp[oD,nZ r]
theorem xI:∀(l:List Operand)(j:Nat)(hj:j<l.length),(oD F l).getD j .bad=ev F l[j]
 |x::r,0,_=>rfl
 |x::r,j+1,h=>by simpa[oD]using xI r j (by simpa using h)
theorem iY{ρ:Place}{L:aZ}{I:Nat->Prop}{w:World}{N:Nat->Prop}{a:Act}(l:List Operand)(h:∀x ∈ l,aM ρ L I w N (ev F x) (a.eval x)):dq ρ L I w N (oD F l) (l.map a.eval):=by
 refine⟨by simp[nZ],fun j hj=> ?_⟩
 rw[nZ]at hj
 rw[xI l j hj]
 have:(l.map a.eval).getD j default=a.eval l[j]:=by simp[List.getD_eq_getElem?_getD,hj]
 rw[this]
 exact h _ (List.getElem_mem _)
theorem uB{f:Nat}{first aQ:Array Operand}(ho:o.op= .makeFunc (.func f) first aQ)(h0:first.isEmpty=true):bD P X o F M (.bL (.fn f) (oD F aQ.toList)) [] []:=by
 refine aC fun M' N ρ I a w hW hU hN=>⟨.func (.func f) #[] ((aQ.toList.map a.eval).toArray),?_,?_⟩
 ·have:first= #[]:=by simpa using h0
  subst this
  have e:Array.map a.eval aQ=(List.map a.eval aQ.toList).toArray:=by apply Array.ext'; simp
  simp[execOp,ho,Instr.makeFunc,e]
 ·have:=iY (F:=F) (ρ:=ρ) (L:=lens M') (I:=I) (w:=w) (N:=N) (a:=a) aQ.toList (fun x hx=>ap hU x (by simp only[ho,Op.operands]; simp only[Array.toList_append]; exact List.mem_append_right _ hx))
  exact .bL f _ _ this.1 this.2
theorem wE{x:Operand}{i:Nat}{vs:List AV}(ho:o.op= .extract x i)(hx':ev F x= .aG vs)(hi:i<vs.length):bD P X o F M (vs.getD i .bad) [] []:=by
 have hx:x ∈ o.op.operands.toList:=by simp[ho,Op.operands]
 refine aC fun M' N ρ I a w hW hU hN=> ?_
 have r1:=ap hU x hx
 rw[hx']at r1
 generalize hv:a.eval x=v at r1
 cases r1 with
 |aG _ us hl hr=>
  have hi':i<us.length:=by omega
  refine⟨us.getD i default,?_,hr i hi⟩
  have:us.toArray[i]? =some (us.getD i default):=by simp[hi',List.getD_eq_getElem?_getD]
  simp only[execOp,ho,hv,Instr.extract,this,Sem.run_bind,Sem.run_pure,Result.andThen_ok]
end Go.AM
namespace Go.AM
open Go.RowKit
variable {P:Program} {T:TT} {X:bM} {o:Oper} {F:aT} {M:bg}
theorem re{α:Type}(l:List α)(h q i:Nat)(d:α)(hi:i<h - q):((l.take h).drop q).getD i d=l.getD (q+i) d:=by
 simp only[List.getD_eq_getElem?_getD,List.getElem?_drop,List.getElem?_take]
 rw[if_pos (by omega)]
theorem xJ{ρ:Place}{L:aZ}{I:Nat->Prop}{w:World}{N:Nat->Prop}{sz:Nat}{es:List (List AV)}{a:Option Addr}{len cap:Nat}(h:aM ρ L I w N (.aH sz es) (.slice a len cap))(l q m:Nat)
  (h1:l<=q) (h2:q<=es.length) (h3:q<=m) (h4:m<=cap):len=es.length/\aM ρ L I w N (.aH sz ((es.take q).drop l)) (.slice (if m=l then a else a.map (·.add (l*sz))) (q - l) (m - l)):=by
 cases h with
 |cJ _ _ _ hc=>
  simp at h2
  have hl:l=0:=by omega
  subst hl; subst h2
  exact⟨rfl,by simpa using aM.cJ sz _ (m - 0) (by omega)⟩
 |aH _ _ b o _ c hl hc hI hs Rf hcell hr=>
  refine⟨rfl,?_⟩
  by_cases hz:q - l=0
  ·have e:(es.take q).drop l=[]:=List.eq_nil_of_length_eq_zero (by simp; omega)
   rw[e,hz]
   exact .cJ sz _ _ (by omega)
  ·have hm:m≠l:=by omega
   have hlen:((es.take q).drop l).length=q - l:=by simp; omega
   rw[if_neg hm]
   have e:(Option.map (fun x:Addr=>x.add (l*sz)) (some ⟨b,o,none⟩))=some ⟨b,o+l*sz,none⟩:=by simp[bR]
   rw[e,<-hlen]
   refine .aH sz _ b (o+l*sz) (m - l) (fun i j=>c (l+i) j) (by omega) (by omega) hI (fun e he=>hs e (List.mem_of_mem_take (List.mem_of_mem_drop he))) (fun i j hi hj=>Rf _ _ (by omega) hj) (fun i j hi hj=> ?_) (fun i j hi hj=> ?_)
   ·have:=hcell (l+i) j (by omega) hj
    rw[Nat.add_mul,<-Nat.add_assoc]at this
    exact this
   ·rw[re _ _ _ _ _ (by omega)]
    exact hr (l+i) j (by omega) hj
theorem run_sliceBound{k:IntKind}{i:Int}{y:Nat}{c:BoundsCode}{w:World}(h:0<=i/\i<=y):(Instr.sliceBound (.int k i) y c).run P w= .ok i.toNat w:=by
 simp[Instr.sliceBound,asIntOf,h]
theorem hZ{t e:Nat}{ie:TypeInfo}{a:Option Addr}{len cap:Nat}{lo hi mx:Option Value}{w:World}(hD:P.underlying t=some (.slice e))(hi':P.info? e=some ie){l h m:Nat}
  (hb:(Instr.sliceBounds true len cap lo hi mx).run P w= .ok (l,h,m) w):(Instr.sliceAt t (.slice a len cap) lo hi mx).run P w= .ok (.slice (if m=l then a else a.map (·.add (l*ie.size))) (h - l) (m - l)) w:=by
 simp only[Instr.sliceAt,Sem.run_bind,run_underlying hD,Result.andThen_ok,Instr.slice,hb,bu hi',Sem.run_pure]
theorem rf{t:Nat}{s:ByteArray}{lo hi:Option Value}{w:World}(hD:P.underlying t=some .string){l h m:Nat}
  (hb:(Instr.sliceBounds false s.size s.size lo hi none).run P w= .ok (l,h,m) w):(Instr.sliceAt t (.string s) lo hi none).run P w= .ok (.string (s.extract l h)) w:=by
 simp[Instr.sliceAt,run_underlying hD,Instr.slice,hb]
theorem rO{ρ:Place}{L:aZ}{I:Nat->Prop}{w:World}{N:Nat->Prop}{sz:Nat}{es:List (List AV)}{v:Value}(h:aM ρ L I w N (.aH sz es) v):∃a cap,v= .slice a es.length cap/\es.length<=cap:=by
 cases h with
 |cJ _ a cap hc=>exact⟨a,cap,rfl,Nat.zero_le _⟩
 |aH _ _ b o cap c hl=>exact⟨_,cap,rfl,hl⟩
theorem xK(s:List UInt8)(l h:Nat)(hh:h<=s.length):(⟨s.toArray⟩:ByteArray).extract l h=⟨((s.take h).drop l).toArray⟩:=by
 apply ByteArray.ext
 apply Array.ext'
 rw[Lib.extract_data]
 simp[List.drop_take]
theorem sD(hT:cO P T){t:Nat}{x:Operand}{lo hi mx:Option Operand}{K:AV->Prop}{Ml:Mem}(ho:o.op= .slice t x lo hi mx)(h:pM T t (ev F x) (pN F lo) (pN F hi) (pN F mx) Ml K):∃av,bD P X o F M av [] []/\K av:=by
 have hx:x ∈ o.op.operands.toList:=by simp[ho,Op.operands]
 have hlo:∀y,lo=some y->y ∈ o.op.operands.toList:=by rintro y rfl; simp[ho,Op.operands]
 have hhi:∀y,hi=some y->y ∈ o.op.operands.toList:=by rintro y rfl; simp[ho,Op.operands]
 have Fb:∀y,mx=some y->y ∈ o.op.operands.toList:=by rintro y rfl; simp[ho,Op.operands]
 unfold pM at h
 cases ht:T.d t with
 |slice e=>
  rw[ht]at h
  obtain⟨hok,h⟩:=ay h
  obtain⟨D,it,z,hD,hf,_⟩:=hT t (by rw[ht]; simp)
  have fX:=bv ht hf
  subst fX
  obtain⟨_,ie,_,_,_,hie,lu,_⟩:=hT e (TD.dC hok)
  cases bK:ev F x with
  |aH sz es=>
   rw[bK]at h
   obtain⟨hsz,h⟩:=ay h
   have hsz:sz=ie.size:=by rw[lu]; simpa using hsz
   have fin':∀(l q:Nat),l<=q->q<=es.length->(∀cap (a:Act) w,es.length<=cap->(∀y ∈ o.op.operands.toList,∀k n,ev F y= .int k n->a.eval y= .int k n)->∃m,q<=m/\m<=cap/\(Instr.sliceBounds true es.length cap (lo.map a.eval) (hi.map a.eval) (mx.map a.eval)).run P w= .ok (l,q,m) w)->bD P X o F M (.aH sz ((es.take q).drop l)) [] []:=by
    intro l q h1 h2 hb
    refine aC fun M' N ρ I a w hW hU hN=> ?_
    have r1:=ap hU x hx
    rw[bK]at r1
    obtain⟨ad,cap,hv,hcap⟩:=rO r1
    obtain⟨m,YC,QA,hb⟩:=hb cap a w hcap (fun y hy k n Mj=>bw (Mj ▸ ap hU y hy))
    rw[hv]at r1
    obtain⟨_,r2⟩:=xJ r1 l q m h1 h2 YC QA
    refine⟨_,?_,r2⟩
    simp only[execOp,ho,hv,Sem.run_bind,hZ hD hie hb,Result.andThen_ok,Sem.run_pure,hsz]
   cases lo with
   |none=>
    cases hi with
    |none=>cases mx<;>exact h.elim
    |some yh=>
     cases wF:ev F yh with
     |int kh nh=>
      cases mx with
      |none=>
       simp only[pN,wF]at h
       refine⟨_,fin' 0 nh.toNat (by omega) (by omega) ?_,by simpa using h.2⟩
       intro cap a w hc pG
       refine⟨cap,by omega,Nat.le_refl _,?_⟩
       have e1:=pG yh (hhi yh rfl) kh nh wF
       simp only[Option.map_none,Option.map_some,e1,Instr.sliceBounds,Sem.run_bind,Sem.run_pure,Result.andThen_ok,run_sliceBound (show 0<=nh/\nh<=(cap:Int) by omega)]
      |some ym=>
       cases YD:ev F ym with
       |int km nm=>
        simp only[pN,wF,YD]at h
        refine⟨_,fin' 0 nh.toNat (by omega) (by omega) ?_,by simpa using h.2⟩
        intro cap a w hc pG
        refine⟨nm.toNat,by omega,by omega,?_⟩
        have e1:=pG yh (hhi yh rfl) kh nh wF
        have e2:=pG ym (Fb ym rfl) km nm YD
        simp only[Option.map_none,Option.map_some,e1,e2,Instr.sliceBounds,Sem.run_bind,Sem.run_pure,Result.andThen_ok,run_sliceBound (show 0<=nm/\nm<=(cap:Int) by omega),run_sliceBound (show 0<=nh/\nh<=(nm.toNat:Int) by omega)]
       |_=>simp only[pN,wF,YD]at h
     |_=>cases mx<;>(simp only[pN,wF]at h)
   |some yl=>
    cases Am:ev F yl with
    |int kl nl=>
     cases hi with
     |none=>
      cases mx with
      |none=>
       simp only[pN,Am]at h
       refine⟨_,fin' nl.toNat es.length (by omega) (Nat.le_refl _) ?_,by simpa using h.2⟩
       intro cap a w hc pG
       refine⟨cap,by omega,Nat.le_refl _,?_⟩
       have e1:=pG yl (hlo yl rfl) kl nl Am
       simp only[Option.map_none,Option.map_some,e1,Instr.sliceBounds,Sem.run_bind,Sem.run_pure,Result.andThen_ok,run_sliceBound (show 0<=nl/\nl<=(es.length:Int) by omega)]
      |some ym=>simp only[pN,Am]at h
     |some yh=>
      cases wF:ev F yh with
      |int kh nh=>
       cases mx with
       |none=>
        simp only[pN,Am,wF]at h
        refine⟨_,fin' nl.toNat nh.toNat (by omega) (by omega) ?_,by simpa using h.2⟩
        intro cap a w hc pG
        refine⟨cap,by omega,Nat.le_refl _,?_⟩
        have e1:=pG yl (hlo yl rfl) kl nl Am
        have e2:=pG yh (hhi yh rfl) kh nh wF
        simp only[Option.map_none,Option.map_some,e1,e2,Instr.sliceBounds,Sem.run_bind,Sem.run_pure,Result.andThen_ok,run_sliceBound (show 0<=nh/\nh<=(cap:Int) by omega),run_sliceBound (show 0<=nl/\nl<=(nh.toNat:Int) by omega)]
       |some ym=>simp only[pN,Am,wF]at h
      |_=>cases mx<;>(simp only[pN,Am,wF]at h)
    |_=>cases hi<;>cases mx<;>(simp only[pN,Am]at h)
  |_=>rw[bK]at h; exact h.elim
 |str=>
  rw[ht]at h
  obtain⟨D,it,z,hD,hf,_⟩:=hT t (by rw[ht]; simp)
  have fX:=gg ht hf
  subst fX
  cases bK:ev F x with
  |str s=>
   rw[bK]at h
   have fin':mx=none->∀(l q:Nat),l<=q->q<=s.length->(∀(a:Act) w,(∀y ∈ o.op.operands.toList,∀k n,ev F y= .int k n->a.eval y= .int k n)->∃m,(Instr.sliceBounds false s.length s.length (lo.map a.eval) (hi.map a.eval) none).run P w= .ok (l,q,m) w)->bD P X o F M (.str ((s.take q).drop l)) [] []:=by
    intro YE l q h1 h2 hb
    refine aC fun M' N ρ I a w hW hU hN=> ?_
    have r1:=gX (bK ▸ ap hU x hx)
    obtain⟨m,hb⟩:=hb a w (fun y hy k n Mj=>bw (Mj ▸ ap hU y hy))
    refine⟨.string ⟨((s.take q).drop l).toArray⟩,?_,.str _⟩
    have hb':(Instr.sliceBounds false (⟨s.toArray⟩:ByteArray).size (⟨s.toArray⟩:ByteArray).size (lo.map a.eval) (hi.map a.eval) none).run P w= .ok (l,q,m) w:=hb
    rw[<-xK s l q h2]
    subst YE
    simp only[execOp,ho,r1,Sem.run_bind,Option.map_none,rf hD hb',Result.andThen_ok,Sem.run_pure]
   cases mx with
   |some ym=>cases lo<;>cases hi<;>first|exact h.elim|(simp only[pN]at h; split at h<;>first|exact h.elim|(rename_i hh; simp at hh))
   |none=>
    cases lo with
    |none=>
     cases hi with
     |none=>exact h.elim
     |some yh=>
      cases wF:ev F yh with
      |int kh nh=>
       simp only[pN,wF]at h
       refine⟨_,fin' rfl 0 nh.toNat (by omega) (by omega) ?_,by simpa using h.2⟩
       intro a w pG
       have e1:=pG yh (hhi yh rfl) kh nh wF
       refine⟨s.length,?_⟩
       simp only[Option.map_none,Option.map_some,e1,Instr.sliceBounds,Sem.run_bind,Sem.run_pure,Result.andThen_ok,Bool.false_eq_true,if_false,run_sliceBound (show 0<=nh/\nh<=(s.length:Int) by omega)]
      |_=>simp only[pN,wF]at h
    |some yl=>
     cases Am:ev F yl with
     |int kl nl=>
      cases hi with
      |none=>
       simp only[pN,Am]at h
       refine⟨_,fin' rfl nl.toNat s.length (by omega) (Nat.le_refl _) ?_,by simpa using h.2⟩
       intro a w pG
       have e1:=pG yl (hlo yl rfl) kl nl Am
       refine⟨s.length,?_⟩
       simp only[Option.map_none,Option.map_some,e1,Instr.sliceBounds,Sem.run_bind,Sem.run_pure,Result.andThen_ok,run_sliceBound (show 0<=nl/\nl<=(s.length:Int) by omega)]
      |some yh=>
       cases wF:ev F yh with
       |int kh nh=>
        simp only[pN,Am,wF]at h
        refine⟨_,fin' rfl nl.toNat nh.toNat (by omega) (by omega) ?_,by simpa using h.2⟩
        intro a w pG
        have e1:=pG yl (hlo yl rfl) kl nl Am
        have e2:=pG yh (hhi yh rfl) kh nh wF
        refine⟨s.length,?_⟩
        simp only[Option.map_none,Option.map_some,e1,e2,Instr.sliceBounds,Sem.run_bind,Sem.run_pure,Result.andThen_ok,Bool.false_eq_true,if_false,run_sliceBound (show 0<=nh/\nh<=(s.length:Int) by omega),run_sliceBound (show 0<=nl/\nl<=(nh.toNat:Int) by omega)]
       |_=>simp only[pN,Am,wF]at h
     |_=>cases hi<;>(simp only[pN,Am]at h)
  |_=>rw[bK]at h; exact h.elim
 |_=>rw[ht]at h; exact h.elim
end Go.AM
namespace Go.AM
open Go.RowKit
variable {P:Program} {T:TT} {X:bM} {o:Oper} {F:aT} {M:bg}
def dv(ρ:Place)(L:aZ)(I:Nat->Prop)(w:World)(N:Nat->Prop)(sz:Nat)(xs:List (List AV))(vs:List Value):Prop:=
 vs.length=xs.length*sz/\(∀e ∈ xs,e.length=sz)/\∀i j,i<xs.length->j<sz->∃u,vs[i*sz+j]? =some u/\u.oneCell'=true/\aM ρ L I w N ((xs.getD i []).getD j .bad) u
theorem lP{i j n sz:Nat}(hi:i<n)(hj:j<sz):i*sz+j<n*sz:=by
 have:(i+1)*sz<=n*sz:=Nat.mul_le_mul_right _ hi
 rw[Nat.add_mul,Nat.one_mul]at this
 omega
theorem dv.append{ρ:Place}{L:aZ}{I:Nat->Prop}{w:World}{N:Nat->Prop}{sz:Nat}{xs ys:List (List AV)}{vs us:List Value}(h:dv ρ L I w N sz xs vs)(k:dv ρ L I w N sz ys us):dv ρ L I w N sz (xs++ys) (vs++us):=by
 obtain⟨h1,h2,h3⟩:=h
 obtain⟨k1,k2,k3⟩:=k
 refine⟨by simp[h1,k1,Nat.add_mul],fun e he=> ?_,fun i j hi hj=> ?_⟩
 ·rcases List.mem_append.1 he with he|he
  ·exact h2 e he
  ·exact k2 e he
 ·by_cases hl:i<xs.length
  ·obtain⟨u,hu,hr⟩:=h3 i j hl hj
   have:=lP (sz:=sz) hl hj
   refine⟨u,by rw[List.getElem?_append_left (by omega)]; exact hu,?_⟩
   have e:(xs++ys).getD i []=xs.getD i []:=by simp[List.getD_eq_getElem?_getD,List.getElem?_append_left hl]
   rw[e]; exact hr
  ·simp at hi
   obtain⟨u,hu,hr⟩:=k3 (i - xs.length) j (by omega) hj
   have hm:xs.length*sz<=i*sz:=Nat.mul_le_mul_right _ (by omega)
   have e1:i*sz+j - vs.length=(i - xs.length)*sz+j:=by rw[h1,Nat.sub_mul]; omega
   refine⟨u,by rw[List.getElem?_append_right (by omega),e1]; exact hu,?_⟩
   have e:(xs++ys).getD i []=ys.getD (i - xs.length) []:=by simp[List.getD_eq_getElem?_getD,List.getElem?_append_right (Nat.le_of_not_lt hl)]
   rw[e]; exact hr
theorem dv.one{ρ:Place}{L:aZ}{I:Nat->Prop}{w:World}{N:Nat->Prop}{sz:Nat}{xs:List (List AV)}{vs:List Value}(h:dv ρ L I w N sz xs vs):∀u ∈ vs,u.oneCell'=true:=by
 intro u hu
 obtain⟨k,hk,rfl⟩:=List.mem_iff_getElem.1 hu
 have hk':k<xs.length*sz:=by rw[<-h.1]; exact hk
 have hsz:0<sz:=by rcases Nat.eq_zero_or_pos sz with h|h; (subst h; simp at hk'); exact h
 have hi:k / sz<xs.length:=by rw[Nat.div_lt_iff_lt_mul hsz]; exact hk'
 obtain⟨u,hu,h1,_⟩:=h.2.2 (k / sz) (k % sz) hi (Nat.mod_lt _ hsz)
 rw[Nat.mul_comm,Nat.div_add_mod,List.getElem?_eq_getElem hk]at hu
 cases hu
 exact h1
theorem dv.rK{ρ ρ':Place}{L L':aZ}{I I':Nat->Prop}{w w':World}{N:Nat->Prop}{sz:Nat}{xs:List (List AV)}{vs:List Value}(E:mN N ρ L I w ρ' L' I' w')(h:dv ρ L I w N sz xs vs):dv ρ' L' I' w' N sz xs vs:=
 ⟨h.1,h.2.1,fun i j hi hj=>let ⟨u,hu,h1,hr⟩:=h.2.2 i j hi hj; ⟨u,hu,h1,hr.rK E (fun _ h=>h)⟩⟩
def ve(P:Program)(sz:Nat)(v:Value)(n:Nat)(vs:List Value)(w:World):Prop:=
 ∀m,m<=n->(Builtin.firstCells sz m v).run P w= .ok (vs.take (m*sz)).toArray w
theorem ve.nil{sz n c:Nat}{w:World}:ve P sz (.slice none n c) 0 [] w:=fun m hm=>by
 rw[List.take_nil]; exact run_firstCells_none w sz m n c
theorem ve.some{sz n c k:Nat}{a:Addr}{vs:List Value}{w:World}(hl:vs.length=n*sz)(h:∀j u,vs[j]? =some u->w.cell? (a.add j)=some u):ve P sz (.slice (some a) k c) n vs w:=fun m hm=>
 run_firstCells_some w sz m a k c (vs.take (m*sz)) (by rw[List.length_take,hl]; exact Nat.min_eq_left (Nat.mul_le_mul_right _ hm)) (fun j u hu=>by
  rw[List.getElem?_take]at hu
  split at hu
  ·exact h j u hu
  ·cases hu)
theorem ve.str{s:ByteArray}{w:World}:ve P 1 (.string s) s.size (byteCells s) w:=fun m hm=>by
 simp only[Builtin.firstCells,Sem.run_pure,Nat.mul_one]
 congr 1
 apply Array.ext'
 simp[byteCells,Lib.extract_data,List.map_take]
theorem Fc{ρ:Place}{L:aZ}{I:Nat->Prop}{w:World}{N:Nat->Prop}{sz:Nat}{es:List (List AV)}{v:Value}{tx e:TypeId}(h:aM ρ L I w N (.aH sz es) v)(hk:P.underlying tx=some (.slice e)):
  ∃vs,Src P sz tx v es.length vs w/\dv ρ L I w N sz es vs/\ve P sz v es.length vs w:=by
 cases h with
 |cJ _ a cap hc=>
  cases a with
  |none=>exact⟨[],Src.ofNil w hk cap,⟨by simp,by simp,fun i j hi=>by simp at hi⟩,ve.nil⟩
  |some a=>exact⟨[],Src.ofSlice w hk a 0 cap [] (by simp) (by simp) (by simp),⟨by simp,by simp,fun i j hi=>by simp at hi⟩,ve.some (by simp) (by simp)⟩
 |aH _ _ b o cap c hl hc hI hs h1 hcell hr=>
  have hlo:dv ρ L I w N sz es ((List.range (es.length*sz)).map fun k=>c (k / sz) (k % sz)):=by
   refine⟨by simp,hs,fun i j hi hj=> ?_⟩
   have hlt:=lP (sz:=sz) hi hj
   have hsz:0<sz:=by omega
   have e1:(i*sz+j) / sz=i:=by rw[Nat.mul_comm,Nat.mul_add_div hsz,Nat.div_eq_of_lt hj,Nat.add_zero]
   have e2:(i*sz+j) % sz=j:=by rw[Nat.mul_comm,Nat.mul_add_mod,Nat.mod_eq_of_lt hj]
   refine⟨c i j,by simp[hlt,e1,e2],h1 i j hi hj,(hr i j hi hj).wide (fun _ h=>h.elim)⟩
  have iI:∀k u,((List.range (es.length*sz)).map fun k=>c (k / sz) (k % sz))[k]? =some u->w.cell? ((⟨b,o,none⟩:Addr).add k)=some u:= ?_
  ·exact⟨_,Src.ofSlice w hk _ _ _ _ hlo.1 iI hlo.one,hlo,ve.some hlo.1 iI⟩
  intro k u hu
  have hk':k<es.length*sz:=by
   have:=(List.getElem?_eq_some_iff.1 hu).1
   simpa using this
  have hsz:0<sz:=by rcases Nat.eq_zero_or_pos sz with h|h; (subst h; simp at hk'); exact h
  have hi:k / sz<es.length:=by rw[Nat.div_lt_iff_lt_mul hsz]; exact hk'
  have uC:=hcell (k / sz) (k % sz) hi (Nat.mod_lt _ hsz)
  have EM:c (k / sz) (k % sz)=u:=by simpa[hk']using hu
  rw[bR,<-EM,<-uC]
  have:k / sz*sz+k % sz=k:=by rw[Nat.mul_comm]; exact Nat.div_add_mod _ _
  rw[Nat.add_assoc,this]
theorem Fe{ρ:Place}{L:aZ}{I:Nat->Prop}{w:World}{N:Nat->Prop}{s:List UInt8}{tx:TypeId}(hk:P.underlying tx=some .string):
  Src P 1 tx (.string ⟨s.toArray⟩) s.length (byteCells ⟨s.toArray⟩) w/\dv ρ L I w N 1 (s.map fun c=>[.int .u8 c.toNat]) (byteCells ⟨s.toArray⟩)/\ve P 1 (.string ⟨s.toArray⟩) s.length (byteCells ⟨s.toArray⟩) w:=by
 have h:=Src.ofString w hk (⟨s.toArray⟩:ByteArray)
 refine⟨h,⟨by simp[byteCells],fun e he=> ?_,fun i j hi hj=> ?_⟩,ve.str⟩
 ·obtain⟨_,_,rfl⟩:=List.mem_map.1 he
  rfl
 ·have hj':j=0:=by omega
  subst hj'
  simp at hi
  refine⟨.int .u8 s[i].toNat,by simp[byteCells,hi],rfl,?_⟩
  have:((s.map fun c=>[AV.int .u8 c.toNat]).getD i []).getD 0 .bad= .int .u8 s[i].toNat:=by simp[List.getD_eq_getElem?_getD,hi]
  rw[this]; exact .int _ _
theorem si.list{C:bM}{ρ:Place}{L:aZ}{I:Nat->Prop}{w:World}{N:Nat->Prop}{n:Nat}{b:bf}(B:si C ρ L I w N n b)(hmp:b.mp=none){g cap:Nat}(hρ:ρ n=some (g,cap)):
  ∃vs,dv ρ L I w N b.sz b.es vs/\∀k u,vs[k]? =some u->w.cell? ⟨g,k,none⟩=some u:=by
 obtain⟨cs,fr,hg,_,_,_,hlc,_,hcs,hc⟩:=B.real g cap hρ
 have hg:=hg.cells hmp
 have hle:b.es.length*b.sz<=cs.size:=by rw[hcs]; exact Nat.mul_le_mul_right _ hlc
 refine⟨cs.toList.take (b.es.length*b.sz),⟨by simp; omega,B.even,fun i j hi hj=> ?_⟩,fun k u hu=> ?_⟩
 ·obtain⟨u,hu,hr⟩:=hc i j hi hj
  exact⟨u,by rw[List.getElem?_take,if_pos (lP hi hj)]; simpa using hu,hr⟩
 ·rw[List.getElem?_take]at hu
  split at hu
  ·simp only[World.cell?,hg]; simpa using hu
  ·cases hu
theorem Ff{ρ:Place}{I:Nat->Prop}{w:World}{N:Nat->Prop}{n:Nat}{b:bf}{v:Value}{tx e:TypeId}(hW:bZ X ρ I M N w)(hb:M n=some b)(hmp:b.mp=none)(h:aM ρ (lens M) I w N (.bi n b.es.length) v)(hk:P.underlying tx=some (.slice e)):
  ∃vs,Src P b.sz tx v b.es.length vs w/\dv ρ (lens M) I w N b.sz b.es vs/\ve P b.sz v b.es.length vs w:=by
 have dt:lens M n=some (b.es.length,b.sz):=by rw[aA]; exact⟨b,hb,bf.bX hmp,rfl⟩
 obtain⟨hn,h2⟩:=gY h dt
 have B:=hW.aS n b hb
 rcases h2 with⟨h0,q,hv⟩|⟨g,cap,hρ,hv⟩
 ·have he:=B.dX h0
  subst hv
  rw[he]
  cases q with
  |none=>exact⟨[],Src.ofNil w hk 0,⟨by simp,by simp,fun i j hi=>by simp at hi⟩,ve.nil⟩
  |some a=>exact⟨[],Src.ofSlice w hk a 0 0 [] (by simp) (by simp) (by simp),⟨by simp,by simp,fun i j hi=>by simp at hi⟩,ve.some (by simp) (by simp)⟩
 ·obtain⟨vs,h1,h2⟩:=B.list hmp hρ
  subst hv
  have iI:∀k u,vs[k]? =some u->w.cell? ((⟨g,0,none⟩:Addr).add k)=some u:=fun k u hu=>by rw[bR,Nat.zero_add]; exact h2 k u hu
  exact⟨vs,Src.ofSlice w hk _ _ _ _ h1.1 iI h1.one,h1,ve.some h1.1 iI⟩
theorem dZ{sz:Nat}:∀{n:Nat}{r:List AV},(pL sz n r).length=n
 |0,_=>rfl
 |n+1,r=>by simp[pL,dZ]
theorem kb{sz:Nat}:∀{n:Nat}{r:List AV}{i:Nat},i<n->(pL sz n r).getD i []=(r.drop (i*sz)).take sz
 |0,_,i,h=>by omega
 |n+1,r,0,h=>by simp[pL]
 |n+1,r,i+1,h=>by
  have:=kb (sz:=sz) (n:=n) (r:=r.drop sz) (i:=i) (by omega)
  simp only[pL,List.getD_cons_succ,this,List.drop_drop]
  congr 2
  rw[Nat.add_mul,Nat.one_mul]; omega
theorem Fg{ρ:Place}{I:Nat->Prop}{w:World}{N:Nat->Prop}{n i off cnt sz:Nat}{b:bf}{v:Value}{tx e:TypeId}(hW:bZ X ρ I M N w)(hb:M n=some b)(hmp:b.mp=none)(h:aM ρ (lens M) I w N (.dp n b.es.length i off cnt) v)(hi:i<b.es.length)
  (hfit:off+cnt*sz<=b.sz) (hk:P.underlying tx=some (.slice e)):
  ∃vs,Src P sz tx v cnt vs w/\dv ρ (lens M) I w N sz (pL sz cnt ((b.es.getD i []).drop off)) vs/\ve P sz v cnt vs w:=by
 have dt:lens M n=some (b.es.length,b.sz):=by rw[aA]; exact⟨b,hb,bf.bX hmp,rfl⟩
 obtain⟨hn,g,cap,c,hρ,hv,_⟩:=jz h dt
 obtain⟨cs,fr,hg,_,_,_,hlc,_,hcs,hc⟩:=(hW.aS n b hb).real g cap hρ
 have hg:=hg.cells hmp
 have hel:(b.es.getD i []).length=b.sz:=by
  rw[List.getD_eq_getElem?_getD,List.getElem?_eq_getElem hi,Option.getD_some]
  exact (hW.aS n b hb).even _ (List.getElem_mem _)
 have hin:i*b.sz+b.sz<=cs.size:=by
  rw[hcs]
  calc i*b.sz+b.sz=(i+1)*b.sz:=by rw[Nat.add_mul,Nat.one_mul]
   _<=cap*b.sz:=Nat.mul_le_mul_right _ (by omega)
 subst hv
 generalize hvs:(cs.toList.drop (i*b.sz+off)).take (cnt*sz)=vs
 have hl:vs.length=cnt*sz:=by
  rw[<-hvs]
  simp only[List.length_take,List.length_drop,Array.length_toList]; omega
 have hat:∀k,k<cnt*sz->vs[k]? =cs[i*b.sz+off+k]? :=fun k hk=>by
  rw[<-hvs,List.getElem?_take,if_pos hk,List.getElem?_drop]; simp
 have iI:∀k u,vs[k]? =some u->w.cell? ((⟨g,i*b.sz+off,none⟩:Addr).add k)=some u:=fun k u hu=>by
  have hk':k<cnt*sz:=by rw[<-hl]; exact (List.getElem?_eq_some_iff.1 hu).1
  rw[hat k hk']at hu
  rw[bR]
  simpa[World.cell?,hg]using hu
 have hlo:dv ρ (lens M) I w N sz (pL sz cnt ((b.es.getD i []).drop off)) vs:=by
  refine⟨by rw[dZ,hl],fun r hr=> ?_,fun p q hp hq=> ?_⟩
  ·obtain⟨p,hp,rfl⟩:=List.mem_iff_getElem.1 hr
   rw[dZ]at hp
   have e1:=kb (sz:=sz) (r:=(b.es.getD i []).drop off) hp
   rw[List.getD_eq_getElem?_getD,List.getElem?_eq_getElem (by rw[dZ]; exact hp),Option.getD_some]at e1
   rw[e1]
   have:(p+1)*sz<=cnt*sz:=Nat.mul_le_mul_right _ hp
   rw[Nat.add_mul,Nat.one_mul]at this
   simp only[List.length_take,List.length_drop,hel]; omega
  ·rw[dZ]at hp
   have hlt:=lP (sz:=sz) hp hq
   obtain⟨u,hu,h1,hr⟩:=hc i (off+ (p*sz+q)) hi (by omega)
   refine⟨u,?_,h1,?_⟩
   ·rw[hat _ hlt,<-hu]; congr 1; omega
   ·rw[kb hp,db _ _ _ _ _ hq]
    simp only[List.getD_eq_getElem?_getD,List.getElem?_drop]at hr ⊢
    rwa[show off+ (p*sz+q)=off+ (p*sz+q)from rfl]at hr
 exact⟨vs,Src.ofSlice w hk _ _ _ _ hl iI hlo.one,hlo,ve.some hl iI⟩
theorem kF(hT:cO P T){x:Operand}{Ml:Mem}(hM:M=aa Ml){tx sz:Nat}{K:List (List AV)->Prop}(hx:x ∈ o.op.operands.toList)(hk:(∃e,P.underlying tx=some (.slice e))\/ P.underlying tx=some .string)
  (hks:(∃s,ev F x= .str s)->P.underlying tx=some .string) (hkl:(¬ ∃s,ev F x= .str s)->∃e,P.underlying tx=some (.slice e)) (h:nV Ml sz (ev F x) K):
  ∃xs,K xs/\∀M' N ρ I (a:Act) w,bZ X ρ I M' N w->(∀s ∈ dr o.op,aM ρ (lens M') I w N (look F s) (a.tmps.getD s undef))->(∀s ∈ dr o.op,∀n ∈ (look F s).names,M' n=M n)->
   ∃vs,Src P sz tx (a.eval x) xs.length vs w/\dv ρ (lens M') I w N sz xs vs/\ve P sz (a.eval x) xs.length vs w:=by
 unfold nV at h
 cases bK:ev F x with
 |aH s es=>
  rw[bK]at h
  obtain⟨hc,h2⟩:=ay h
  have hs:s=sz:=by simpa using hc
  subst hs
  obtain⟨e,hk⟩:=hkl (by rw[bK]; simp)
  exact⟨es,h2,fun M' N ρ I a w hW hU hN=>Fc (bK ▸ ap hU x hx) hk⟩
 |ab=>
  rw[bK]at h
  obtain⟨e,hk⟩:=hkl (by rw[bK]; simp)
  refine⟨[],h,fun M' N ρ I a w hW hU hN=> ?_⟩
  have r1:=ap hU x hx
  rw[bK]at r1
  generalize hv:a.eval x=v at r1
  cases r1
  exact⟨[],Src.ofNil w hk 0,⟨by simp,by simp,fun i j hi=>by simp at hi⟩,ve.nil⟩
 |bi n len=>
  rw[bK]at h
  simp only[alive]at h
  obtain⟨e,hk⟩:=hkl (by rw[bK]; simp)
  cases hb:aa Ml n with
  |none=>rw[hb]at h; exact h.elim
  |some b=>
   rw[hb]at h
   obtain⟨hc1,hmp,h2⟩:=ay h
   obtain⟨jV,h3⟩:=ay h2
   have hl:b.es.length=len:=(bf.bX hmp).symm.trans (by simpa using hc1)
   have hs:b.sz=sz:=by simpa using jV
   subst hl; subst hs
   refine⟨b.es,h3,fun M' N ρ I a w hW hU hN=> ?_⟩
   obtain⟨sl,dK,fj⟩:=bh (F:=F) x hx (n:=n) (by rw[bK]; simp[AV.names])
   have bN:M' n=some b:=(hN sl dK n fj).trans (by rw[hM]; exact hb)
   exact Ff hW bN hmp (bK ▸ ap hU x hx) hk
 |dp n len i off cnt=>
  rw[bK]at h
  simp only[alive]at h
  obtain⟨e,hk⟩:=hkl (by rw[bK]; simp)
  cases hb:aa Ml n with
  |none=>rw[hb]at h; exact h.elim
  |some b=>
   rw[hb]at h
   obtain⟨hc1,hmp,h2⟩:=ay h
   obtain⟨jV,h3⟩:=ay h2
   have hl:b.es.length=len:=(bf.bX hmp).symm.trans (by simpa using hc1)
   simp only[Bool.and_eq_true,Nat.blt_eq,Nat.ble_eq]at jV
   subst hl
   refine⟨_,h3,fun M' N ρ I a w hW hU hN=> ?_⟩
   obtain⟨sl,dK,fj⟩:=bh (F:=F) x hx (n:=n) (by rw[bK]; simp[AV.names])
   have bN:M' n=some b:=(hN sl dK n fj).trans (by rw[hM]; exact hb)
   rw[dZ]
   exact Fg hW bN hmp (bK ▸ ap hU x hx) jV.1.1 jV.1.2 hk
 |str s=>
  rw[bK]at h
  obtain⟨hc,h2⟩:=ay h
  have hs:sz=1:=by simpa using hc
  subst hs
  refine⟨_,h2,fun M' N ρ I a w hW hU hN=> ?_⟩
  have r1:=gX (bK ▸ ap hU x hx)
  rw[r1]
  obtain⟨h1,h2,h3⟩:=Fe (P:=P) (ρ:=ρ) (L:=lens M') (I:=I) (w:=w) (N:=N) (s:=s) (hks ⟨s,bK⟩)
  exact⟨_,by simpa using h1,h2,by simpa using h3⟩
 |_=>rw[bK]at h; exact h.elim
end Go.AM
namespace Go.AM
open Go.RowKit
variable {P:Program} {T:TT} {X:bM} {o:Oper} {F:aT} {M:bg}
theorem xL{ρ:Place}{I:Nat->Prop}{w:World}{N:Nat->Prop}{M:bg}(hW:bZ X ρ I M N w){n:Nat}{b:bf}(hb:M n=some b)(hmp:b.mp=none){g cap:Nat}(hρ:ρ n=some (g,cap)){xs:List (List AV)}{news:List Value}
  (hx:dv ρ (lens M) I w N b.sz xs news) (hroom:b.es.length+xs.length<=cap):
  (∀j,j<news.length->(w.cell? ⟨g,0+b.es.length*b.sz+j,none⟩).isSome=true)/\(∀j,j<news.length->w.frozen? ⟨g,0+b.es.length*b.sz+j,none⟩=false)/\
  gD X M N ρ I w (.bi n (b.es.length+xs.length)) [(n,⟨b.ty,b.sz,b.es++xs,none⟩)] (.slice (some ⟨g,0,none⟩) (b.es.length+xs.length) cap) (w.setCells g (0+b.es.length*b.sz) news):=by
 have B:=hW.aS n b hb
 obtain⟨cs,fr,hg,nH,nU,hown,hlc,lJ,hcs,hc⟩:=B.real g cap hρ
 have hg:=hg.cells hmp
 have Rg:=bf.bX hmp
 have hfit:b.es.length*b.sz+news.length<=cs.size:=by
  rw[hx.1,hcs,<-Nat.add_mul]; exact Nat.mul_le_mul_right _ hroom
 have oI:∀k,w.cell? ⟨g,k,none⟩=cs[k]? :=fun k=>by simp[World.cell?,hg]
 refine⟨fun j hj=>by rw[oI,Nat.zero_add,Array.getElem?_eq_getElem (by omega)]; rfl,fun j hj=> ?_,?_⟩
 ·have:=zZ nH (b.es.length*b.sz+j) (by omega)
  simp only[World.frozen?,hg,Nat.zero_add]
  simpa using this
 ·rw[Nat.zero_add]
  obtain⟨cs',h1,h2,h3⟩:=gZ g b.ty fr news (b.es.length*b.sz) w cs hg hfit
  have jY:∀b0,M n=some b0->b0=b:=fun b0 h0=>by rw[hb]at h0; exact (Option.some.inj h0).symm
  obtain⟨E,W⟩:=hW.put (w':=w.setCells g (b.es.length*b.sz) news) n ⟨b.ty,b.sz,b.es++xs,none⟩ g cap cs' fr
   (os_setCells _ _ _ _) (hG _ _ _ _) (iH _ _ _ _) (by rw[size_setCells]; exact Nat.le_refl _) (fun k _ hk=>fk g _ _ _ _ hk) h1 (by omega)
   (.inr ⟨cap,hρ,b,hb⟩) (fun b0 h0=>by rw[jY b0 h0,Rg]; exact⟨rfl,by simp[bf.ln],fun _=>hρ⟩) (fun _=>⟨b,hb⟩)
   (fun e he=>by
     rcases List.mem_append.1 he with he|he
     ·exact B.even e he
     ·exact hx.2.1 e he)
   (by simpa using hroom) lJ (by rw[h2]; exact hcs) (fun i j hi hj=>by
     simp only[List.length_append]at hi
     show ∃u,cs'[i*b.sz+j]? =some u/\_/\aM ρ (lens M) I w N (((b.es++xs).getD i []).getD j .bad) u
     by_cases hl:i<b.es.length
     ·have hlt:=lP (sz:=b.sz) hl hj
      have e:(b.es++xs).getD i []=b.es.getD i []:=by simp[List.getD_eq_getElem?_getD,List.getElem?_append_left hl]
      rw[h3,if_neg (by omega),e]
      exact hc i j hl hj
     ·have hm:b.es.length*b.sz<=i*b.sz:=Nat.mul_le_mul_right _ (by omega)
      obtain⟨u,hu,hr⟩:=hx.2.2 (i - b.es.length) j (by omega) hj
      have hlt:=lP (sz:=b.sz) (show i - b.es.length<xs.length by omega) hj
      have e:(b.es++xs).getD i []=xs.getD (i - b.es.length) []:=by simp[List.getD_eq_getElem?_getD,List.getElem?_append_right (Nat.le_of_not_lt hl)]
      have e1:i*b.sz+j - b.es.length*b.sz=(i - b.es.length)*b.sz+j:=by rw[Nat.sub_mul]; omega
      rw[h3,if_pos (by rw[hx.1]; omega),e,e1]
      exact⟨u,hu,hr⟩)
  refine⟨iF ρ n (g,cap),I,E,by rw[bE]; exact W,?_⟩
  refine gI (sz:=b.sz) (.inr ⟨_,List.mem_singleton.2 rfl⟩) ?_ (by simp[iF])
  show lens (cZ M n _) n=_
  rw[bW,if_pos rfl]; simp[bf.ln]
theorem rh(z:Array Value)(n:Nat):(Builtin.zeroCells z n).size=n*z.size:=by simp[Builtin.zeroCells]
theorem ke{ρ:Place}{I:Nat->Prop}{w:World}{N:Nat->Prop}{M:bg}(hW:bZ X ρ I M N w){n e sz:Nat}{oK xs:List (List AV)}{olds news:List Value}{z:Value}
  (jY:N n->∃b0,M n=some b0) (hold:∀b0,M n=some b0->b0.sz=sz/\b0.es=oK/\b0.mp=none) (hxs:0<xs.length)
  (ho:dv ρ (lens M) I w N sz oK olds) (hx:dv ρ (lens M) I w N sz xs news) (hz:z.cells.size=sz) {old:Nat} (iZ:oK.length+xs.length<=lC):
  gD X M N ρ I w (.bi n (oK.length+xs.length)) [(n,⟨e,sz,oK++xs,none⟩)] (.slice (some ⟨w.heap.size,0,none⟩) (oK.length+xs.length) (grownCap w (oK.length+xs.length) old e))
   (w.drew.alloc (.cells ((olds++news).toArray++Builtin.zeroCells z.cells (grownCap w (oK.length+xs.length) old e - (oK.length+xs.length))) e)):=by
 have hge:=grownCap_ge w (oK.length+xs.length) old e
 have lJ:=grownCap_le_maxLen w (oK.length+xs.length) old e (by simp only[maxLen,lC]at *; omega)
 have hall:=ho.append hx
 have hlen:(olds++news).length=(oK.length+xs.length)*sz:=by rw[hall.1,List.length_append]
 obtain⟨E,W⟩:=hW.put (w':=w.drew.alloc (.cells ((olds++news).toArray++Builtin.zeroCells z.cells (grownCap w (oK.length+xs.length) old e - (oK.length+xs.length))) e)) n ⟨e,sz,oK++xs,none⟩ w.heap.size (grownCap w (oK.length+xs.length) old e) _ (0,0)
  rfl rfl rfl (by simp) (fun k hk _=>Below.heap_alloc w.drew _ k hk) (heap_alloc_new w.drew _) (.inl rfl)
  (.inl (Nat.le_refl _)) (fun b0 h0=>by
    obtain⟨h1,h2,hm⟩:=hold b0 h0
    have hb:=bf.bX hm
    refine⟨h1,by rw[hb,h2]; simp[bf.ln],fun h=> ?_⟩
    rw[hb,h2]at h
    simp[bf.ln]at h
    have:=List.length_pos_iff.1 hxs
    exact (this h).elim) jY hall.2.1 (by simpa using hge) lJ
  (by
    simp only[Array.size_append,List.size_toArray,rh,hz,hlen,<-Nat.add_mul]
    congr 1
    omega)
  (fun i j hi hj=>by
    obtain⟨u,hu,hr⟩:=hall.2.2 i j hi hj
    refine⟨u,?_,hr⟩
    have hlt:=lP (sz:=sz) hi hj
    rw[List.length_append]at hlt
    rw[Array.getElem?_append_left (by simp only[List.size_toArray]; omega)]
    simpa using hu)
 refine⟨_,I,E,by rw[bE]; exact W,?_⟩
 refine gI (sz:=sz) (.inr ⟨_,List.mem_singleton.2 rfl⟩) ?_ (by simp[iF])
 show lens (cZ M n _) n=_
 rw[bW,if_pos rfl]; simp[bf.ln]
theorem mR{M:bg}{n:Nat}{b:bf}(h:M n=some b):cZ M n b=M:=by
 funext m; unfold cZ; split
 ·subst_vars; exact h.symm
 ·rfl
theorem bZ.dX{ρ:Place}{I:Nat->Prop}{w:World}{N:Nat->Prop}{M:bg}(hW:bZ X ρ I M N w){n:Nat}(hn:¬N n)(e sz:Nat):
  mN N ρ (lens M) I w (fun m=>if m=n then none else ρ m) (lens (cZ M n ⟨e,sz,[],none⟩)) I w/\bZ X (fun m=>if m=n then none else ρ m) I (cZ M n ⟨e,sz,[],none⟩) (z' N n) w:=by
 have hne:∀m b,M m=some b->m≠n:=fun m b h e'=>hn (e' ▸ (hW.aS m b h).lt)
 have E:mN N ρ (lens M) I w (fun m=>if m=n then none else ρ m) (lens (cZ M n ⟨e,sz,[],none⟩)) I w:=by
  refine⟨fun m len s hm _ _=> ?_,fun m len s hm h=> ?_,fun _ h=>h,fun _ _=>rfl⟩
  ·have:m≠n:=fun e'=>hn (e' ▸ hm)
   simp[this]
  ·have:m≠n:=fun e'=>hn (e' ▸ hm)
   rw[bW,if_neg this]at h
   exact⟨len,h,Nat.le_refl _⟩
 refine⟨E,fun m b hm=> ?_,fun m k b b' g c c' hm hk h1 h2=> ?_,hW.oA,hW.lt,hW.old,hW.keeps,fun m hm=> .inr (hW.pn m hm),hW.Cx,hW.mP E⟩
 ·by_cases hmn:m=n
  ·subst hmn
   simp[cZ]at hm
   subst hm
   exact⟨.inl rfl,by simp,fun _=>rfl,fun g cap h=>by simp at h,fun _ _ _ _ _ _ h=>by cases h⟩
  ·simp only[cZ,if_neg hmn]at hm
   have B:=hW.aS m b hm
   refine⟨.inr B.lt,B.even,fun h=>B.dX (by simpa[hmn]using h),fun g cap h=> ?_,fun k ka va r sn la hb=>by obtain⟨g,cap,h1,h2⟩:=B.iter k ka va r sn la hb; exact⟨g,cap,by simpa[hmn]using h1,h2⟩⟩
   obtain⟨cs,fr,hc1,Cy,jV,Cz,BR,Aa,CA,CB⟩:=B.real g cap (by simpa[hmn]using h)
   refine⟨cs,fr,hc1,Cy,jV,Cz,BR,Aa,CA,fun i j hi hj=> ?_⟩
   obtain⟨u,hu,pF,hr⟩:=CB i j hi hj
   exact⟨u,hu,pF,(hr.rK E (fun _ h=>h)).wide (fun _ h=> .inr h)⟩
 ·by_cases hmn:m=n
  ·simp[hmn]at h1
  ·by_cases hkn:k=n
   ·simp[hkn]at h2
   ·simp only[cZ,if_neg hmn,if_neg hkn]at hm hk h1 h2
    exact hW.inj m k b b' g c c' hm hk h1 h2
theorem dM{a:Act}{w:World}{s x:Operand}{t t':Nat}(ho:o.op= .call {callee:= .builtin .append,args:= #[s,x],argTypes:= #[t,t']}):
  (execOp a.eval o).run P w=((Builtin.append_ #[t,t'] o.type #[a.eval s,a.eval x]).run P w).andThen fun v w'=> .ok (.value v) w':=by
 simp[execOp,ho,resolve,invoke,builtin]
theorem qC(hT:cO P T){s x:Operand}{t t' nx:Nat}{Ml:Mem}{K:AV->Mem->Nat->Prop}(hM:M=aa Ml)(ho:o.op= .call {callee:= .builtin .append,args:= #[s,x],argTypes:= #[t,t']})
  (hok:∀e,T.d t= .slice e->(T.d e).ok=true/\bI (T.z e)=true/\(cells (T.z e)).length=T.s e) (YF:(∃q,ev F x= .str q)->T.d t'= .str) (Rk:(¬ ∃q,ev F x= .str q)->∃e,T.d t'= .slice e)
  (h:rN T t (ev F s) (ev F x) ⟨F,Ml,nx⟩ K):
  ∃av n b nw aV,bD P X o F M av [(n,b)] nw/\K av (gB Ml n b) aV/\((nw=[nx]/\aV=nx+1/\n=nx)\/(aV=nx/\nw=[]/\n ∈ (ev F s).names)):=by
 have hs:s ∈ o.op.operands.toList:=by simp[ho,Op.operands,Call.operands]
 have hx:x ∈ o.op.operands.toList:=by simp[ho,Op.operands,Call.operands]
 unfold rN at h
 cases ht:T.d t with
 |slice e=>
  rw[ht]at h
  simp only at h
  obtain⟨D,it,z0,hD,hf,_⟩:=hT t (by rw[ht]; simp)
  have fX:=bv ht hf
  subst fX
  obtain⟨Mk,oJ,hcl⟩:=hok e ht
  obtain⟨_,ie,z,_,_,hie,lu,hby,hz,iv⟩:=hT e (TD.dC Mk)
  have hzs:z.cells.size=T.s e:=by
   have:=(bo.fF (ρ:=fun _=>none) (L:=fun _=>none) (I:=fun _=>False) (w:=default) (N:=cI) (gb _ _ _ _ _ z) (by rw[<-iv]; exact oJ)).1
   rw[this,<-iv,hcl]
  have vf:((∃e,P.underlying t'=some (.slice e))\/ P.underlying t'=some .string)/\((∃q,ev F x= .str q)->P.underlying t'=some .string)/\((¬ ∃q,ev F x= .str q)->∃e,P.underlying t'=some (.slice e)):=by
   by_cases hq:∃q,ev F x= .str q
   ·have h1:=YF hq
    obtain⟨D,_,_,Rl,YG,_⟩:=hT t' (by rw[h1]; simp)
    have:=gg h1 YG
    subst this
    exact⟨.inr Rl,fun _=>Rl,fun h=>(h hq).elim⟩
   ·obtain⟨e',h1⟩:=Rk hq
    obtain⟨D,_,_,Rl,YG,_⟩:=hT t' (by rw[h1]; simp)
    have:=bv h1 YG
    subst this
    exact⟨.inl ⟨_,Rl⟩,fun h=>(hq h).elim,fun _=>⟨_,Rl⟩⟩
  have hfit:∀need old,old<need->need<=lC->Builtin.nextslicecap need old*ie.bytes<=281474976710656:=fun need old h1 h2=>by
   refine growslice_fits h1 ?_
   calc need*ie.bytes<=lC*131072:=Nat.mul_le_mul h2 hby
    _=140737488355328:=by simp[lC]
  cases hss:ev F s with
  |bi n len=>
   rw[hss]at h
   simp only[alive]at h
   cases hb:aa Ml n with
   |none=>rw[hb]at h; exact h.elim
   |some b=>
    rw[hb]at h
    obtain⟨hc1,hmp,h2⟩:=ay h
    obtain⟨jV,h3⟩:=ay h2
    have hl:b.es.length=len:=(bf.bX hmp).symm.trans (by simpa using hc1)
    simp only[Bool.and_eq_true,beq_iff_eq]at jV
    obtain⟨hsz,An⟩:=jV
    obtain⟨xs,⟨iZ,hk⟩,hsrc⟩:=kF (X:=X) (o:=o) hT hM hx vf.1 vf.2.1 vf.2.2 h3
    obtain⟨sl,dK,fj⟩:=bh (F:=F) s hs (n:=n) (by rw[hss]; simp[AV.names])
    refine⟨_,n,_,[],nx,?_,hk,.inr ⟨rfl,rfl,by simp[AV.names]⟩⟩
    refine⟨fun p hp=> .inr ⟨sl,dK,by simp at hp; rw[hp]; exact fj⟩,fun M' N ρ I a w hW hU hN _=> ?_⟩
    have bN:M' n=some b:=(hN sl dK n fj).trans (by rw[hM]; exact hb)
    have dt:lens M' n=some (b.es.length,b.sz):=by rw[aA]; exact⟨b,bN,bf.bX hmp,rfl⟩
    obtain⟨vs,hS,hL,-⟩:=hsrc M' N ρ I a w hW hU hN
    have r1:=ap hU s hs
    rw[hss]at r1
    subst hl
    obtain⟨hn,h2⟩:=gY r1 dt
    unfold bJ
    rw[dM ho]
    rw[<-hsz]at hL hS
    have ut:Src P ie.size t' (a.eval x) xs.length vs w:=by rw[lu,<-hsz]; exact hS
    rcases h2 with⟨h0,q,hv⟩|⟨g,cap,hρ,hv⟩
    ·have hB:=hW.aS n b bN
     have he:b.es=[]:=hB.dX h0
     rw[hv]
     by_cases hx0:xs.length=0
     ·have hxs:xs=[]:=List.eq_nil_of_length_eq_zero hx0
      have hvs:vs=[]:=List.eq_nil_of_length_eq_zero (by have:=hL.1; rw[hx0]at this; simpa using this)
      subst hxs; subst hvs
      have hrun:=run_append_nothing (P:=P) w t t' o.type e ie hD hie q 0 0 (Nat.le_refl _) (a.eval x) (by simpa using ut)
      rw[hrun]
      refine⟨ρ,I,?_,?_,?_⟩
      ·show mN N ρ (lens M') I w ρ (lens (cZ M' n _)) I w
       have:(⟨b.ty,b.sz,b.es++ [],none⟩:bf)=b:=by have:=hmp; cases b; simp_all
       rw[this,mR bN]; exact mN.refl _ _ _ _ _
      ·show bZ X ρ I (cZ M' n _) _ w
       have:(⟨b.ty,b.sz,b.es++ [],none⟩:bf)=b:=by have:=hmp; cases b; simp_all
       rw[this,mR bN]
       have IG:fR N [(n,b)]=N:=by
        rw[bE]; funext m; simp only[z',eq_iff_iff]
        exact⟨fun h=>h.elim (fun e=>e ▸ hn) id,.inr⟩
       rw[bE]at IG ⊢
       rw[IG]; exact hW
      ·refine .bi n _ _ (.inl hn) rfl fun l Ai oB=> ?_
       have:(⟨b.ty,b.sz,b.es++ [],none⟩:bf)=b:=by have:=hmp; cases b; simp_all
       rw[this]at oB
       change lens (cZ M' n b) n=_ at oB
       rw[bW,if_pos rfl,bf.bX hmp]at oB
       simp at oB
       exact⟨by simp; omega,fun _=> .inl ⟨h0,q,rfl⟩⟩
     ·have Mn:(Builtin.firstCells ie.size 0 (.slice q 0 0)).run P w.drew= .ok #[] w.drew:=by
       cases q with
       |none=>exact run_firstCells_none w.drew ie.size 0 0 0
       |some a=>exact run_firstCells_some w.drew ie.size 0 a 0 0 [] (by simp) (fun j v hv=>by simp at hv)
      have hrun:=run_append_grow_src (P:=P) w t t' o.type e ie z hD hie hz q 0 0 [] Mn (a.eval x) xs.length vs ut (by omega) (by rw[he]at iZ; simp[lC]at iZ ⊢; omega) (hfit _ _ (by omega) (by rw[he]at iZ; simpa using iZ))
      rw[hrun]
      have gi:=ke (X:=X) (e:=e) (olds:=[]) (old:=0) (z:=z) hW (fun _=>⟨b,bN⟩) (fun b0 h0=>by rw[bN]at h0; cases h0; exact⟨rfl,he,hmp⟩) (by omega) ⟨by simp,by simp,fun i j hi=>by simp at hi⟩ hL (by rw[hzs,hsz]) (by rw[he]at iZ; simpa using iZ)
      have e1:b.es.length+xs.length=([]:List (List AV)).length+xs.length:=by rw[he]
      have e2:(⟨b.ty,b.sz,b.es++xs,none⟩:bf)=⟨e,b.sz,[]++xs,none⟩:=by rw[he,An]
      rw[e1,e2]
      exact gi
    ·rw[hv]
     by_cases hroom:b.es.length+xs.length<=cap
     ·obtain⟨g1,g2,g3⟩:=xL hW bN hmp hρ hL hroom
      have hrun:=run_append_room_src (P:=P) w t t' o.type e ie hD hie g 0 b.es.length cap (a.eval x) xs.length vs ut hroom (by rw[lu,<-hsz]; exact g1) (by rw[lu,<-hsz]; exact g2)
      rw[hrun,lu,<-hsz]
      exact g3
     ·have hB:=hW.aS n b bN
      obtain⟨olds,Li,Ro⟩:=hB.list hmp hρ
      have Rq:(Builtin.firstCells ie.size b.es.length (.slice (some ⟨g,0,none⟩) b.es.length cap)).run P w.drew= .ok olds.toArray w.drew:=
       run_firstCells_some (P:=P) w.drew ie.size b.es.length _ _ _ _ (by rw[lu,<-hsz]; exact Li.1) (fun k u hu=>by rw[bR,Nat.zero_add]; exact Ro k u hu)
      have hrun:=run_append_grow_src (P:=P) w t t' o.type e ie z hD hie hz _ b.es.length cap olds Rq (a.eval x) xs.length vs ut (by omega) (by simp[lC]at iZ ⊢; omega) (hfit _ _ (by omega) iZ)
      rw[hrun]
      have hcap:b.es.length<=cap:=by obtain⟨_,_,_,_,_,_,hh,_⟩:=hB.real g cap hρ; exact hh
      have gi:=ke (X:=X) (e:=e) (old:=cap) (z:=z) hW (fun _=>⟨b,bN⟩) (fun b0 h0=>by rw[bN]at h0; cases h0; exact⟨rfl,rfl,hmp⟩) (by omega) Li hL (by rw[hzs,hsz]) iZ
      rw[<-An]at gi ⊢
      exact gi
  |ab=>
   rw[hss]at h
   obtain⟨xs,⟨iZ,hk⟩,hsrc⟩:=kF (X:=X) (o:=o) hT hM hx vf.1 vf.2.1 vf.2.2 h
   refine⟨_,nx,_,[nx],nx+1,?_,hk,.inl ⟨rfl,rfl,rfl⟩⟩
   refine⟨fun p hp=> .inl (by simp at hp; simp[hp]),fun M' N ρ I a w hW hU hN hF=> ?_⟩
   have hn:¬N nx:=hF nx (by simp)
   obtain⟨vs,hS,hL,-⟩:=hsrc M' N ρ I a w hW hU hN
   have r1:=ap hU s hs
   rw[hss]at r1
   generalize hv:a.eval s=v at r1
   cases r1
   unfold bJ
   rw[dM ho,hv]
   have ut:Src P ie.size t' (a.eval x) xs.length vs w:=by rw[lu]; exact hS
   by_cases hx0:xs.length=0
   ·have hxs:xs=[]:=List.eq_nil_of_length_eq_zero hx0
    have hvs:vs=[]:=List.eq_nil_of_length_eq_zero (by have:=hL.1; rw[hx0]at this; simpa using this)
    subst hxs; subst hvs
    have hrun:=run_append_nothing (P:=P) w t t' o.type e ie hD hie none 0 0 (Nat.le_refl _) (a.eval x) (by simpa using ut)
    rw[hrun]
    obtain⟨E,W⟩:=hW.dX hn e (T.s e)
    refine⟨_,I,E,by rw[bE]; exact W,?_⟩
    refine .bi nx _ _ (.inr ⟨_,List.mem_singleton.2 rfl⟩) rfl fun l Ai oB=> ?_
    change lens (cZ M' nx _) nx=_ at oB
    rw[bW,if_pos rfl]at oB
    simp[bf.ln]at oB
    exact⟨by simp,fun _=> .inl ⟨by simp,none,rfl⟩⟩
   ·have hrun:=run_append_grow_src (P:=P) w t t' o.type e ie z hD hie hz none 0 0 [] (run_firstCells_none w.drew ie.size 0 0 0) (a.eval x) xs.length vs ut (by omega) (by simp[lC]at iZ ⊢; omega) (hfit _ _ (by omega) (by simpa using iZ))
    rw[hrun]
    have gi:=ke (X:=X) (n:=nx) (e:=e) (olds:=[]) (oK:=[]) (old:=0) (z:=z) hW (fun h=>(hn h).elim) (fun b0 h0=>(hn (hW.aS nx b0 h0).lt).elim) (by omega) ⟨by simp,by simp,fun i j hi=>by simp at hi⟩ hL hzs (by simpa using iZ)
    have e1:xs.length=([]:List (List AV)).length+xs.length:=by simp
    have e2:(⟨e,T.s e,xs,none⟩:bf)=⟨e,T.s e,[]++xs,none⟩:=by simp
    rw[e2]
    show gD X M' N ρ I w (.bi nx xs.length) _ _ _
    rw[e1]
    simpa using gi
  |_=>rw[hss]at h; exact h.elim
 |_=>rw[ht]at h; exact h.elim
end Go.AM
namespace Go.AM
open Go.RowKit
variable {P:Program} {T:TT} {X:bM} {o:Oper} {F:aT} {M:bg}
theorem gj{a:Act}{w:World}{b:Builtin}{args:Array Operand}{ts:Array TypeId}(ho:o.op= .call {callee:= .builtin b,args:=args,argTypes:=ts}):
  (execOp a.eval o).run P w=(builtin b ts o.type (args.map fun| .const _=>true|_=>false) (args.map a.eval)).run P w:=by
 simp only[execOp,ho,resolve,invoke,Sem.run_bind,Sem.run_pure,Result.andThen_ok]
 rfl
theorem kG{n:Int}{args:Array Operand}{ts:Array TypeId}(ho:o.op= .call {callee:= .builtin .len,args:=args,argTypes:=ts})
  (h:∀M' N ρ I (a:Act) w,bZ X ρ I M' N w->(∀s ∈ dr o.op,aM ρ (lens M') I w N (look F s) (a.tmps.getD s undef))->(∀s ∈ dr o.op,∀n ∈ (look F s).names,M' n=M n)->(Builtin.len_ ts o.type (args.map a.eval)).run P w= .ok (.int .i64 n) w):
  bD P X o F M (.int .i64 n) [] []:=by
 refine aC fun M' N ρ I a w hW hU hN=>⟨.int .i64 n,?_,.int _ _⟩
 rw[gj ho]
 simp[builtin,h M' N ρ I a w hW hU hN]
theorem sE(hT:cO P T){x:Operand}{t:Nat}{K:AV->Prop}{Ml:Mem}(hM:M=aa Ml)(ho:o.op= .call {callee:= .builtin .len,args:= #[x],argTypes:= #[t]})
  (h:match T.d t with
    | .arr n _=>K (.int .i64 n)
    | .slice _=>(match ev F x with
      | .aH _ es=>K (.int .i64 es.length)
      | .bi n len=>alive Ml n len fun _=>K (.int .i64 len)
      | .dp n len _ _ cnt=>alive Ml n len fun _=>K (.int .i64 cnt)
      | .ab=>K (.int .i64 0)
      |_=>False)
    | .str=>(match ev F x with
      | .str s=>K (.int .i64 s.length)
      |_=>False)
    |_=>False):∃av,bD P X o F M av [] []/\K av:=by
 have hx:x ∈ o.op.operands.toList:=by simp[ho,Op.operands,Call.operands]
 cases ht:T.d t with
 |arr n e=>
  rw[ht]at h
  obtain⟨D,it,z0,hD,hf,_⟩:=hT t (by rw[ht]; simp)
  have fX:=dY ht hf
  subst fX
  refine⟨_,kG ho fun M' N ρ I a w hW hU hN=> ?_,h⟩
  simp[Builtin.len_,run_underlying hD,goInt]
 |str=>
  rw[ht]at h
  obtain⟨D,it,z0,hD,hf,_⟩:=hT t (by rw[ht]; simp)
  have fX:=gg ht hf
  subst fX
  cases bK:ev F x with
  |str s=>
   rw[bK]at h
   refine⟨_,kG ho fun M' N ρ I a w hW hU hN=> ?_,h⟩
   have r1:=gX (bK ▸ ap hU x hx)
   have e:(⟨s.toArray⟩:ByteArray).size=s.length:=rfl
   simp[Builtin.len_,run_underlying hD,goInt,r1,e]
  |_=>rw[bK]at h; exact h.elim
 |slice e=>
  rw[ht]at h
  obtain⟨D,it,z0,hD,hf,_⟩:=hT t (by rw[ht]; simp)
  have fX:=bv ht hf
  subst fX
  have go:∀n:Nat,(∀M' N ρ I (a:Act) w,bZ X ρ I M' N w->(∀s ∈ dr o.op,aM ρ (lens M') I w N (look F s) (a.tmps.getD s undef))->(∀s ∈ dr o.op,∀n ∈ (look F s).names,M' n=M n)->∃ad cap,a.eval x= .slice ad n cap)->
    bD P X o F M (.int .i64 n) [] []:=by
   intro n hh
   refine kG ho fun M' N ρ I a w hW hU hN=> ?_
   obtain⟨ad,cap,hv⟩:=hh M' N ρ I a w hW hU hN
   simp[Builtin.len_,run_underlying hD,goInt,hv]
  cases bK:ev F x with
  |aH sz es=>
   rw[bK]at h
   refine⟨_,go es.length fun M' N ρ I a w hW hU hN=> ?_,h⟩
   obtain⟨ad,cap,hv,_⟩:=rO (bK ▸ ap hU x hx)
   exact⟨ad,cap,hv⟩
  |ab=>
   rw[bK]at h
   refine⟨_,go 0 fun M' N ρ I a w hW hU hN=> ?_,h⟩
   have r1:=ap hU x hx
   rw[bK]at r1
   generalize hv:a.eval x=v at r1
   cases r1
   exact⟨none,0,rfl⟩
  |bi n len=>
   rw[bK]at h
   simp only[alive]at h
   cases hb:aa Ml n with
   |none=>rw[hb]at h; exact h.elim
   |some b=>
    rw[hb]at h
    obtain⟨hc1,hmp,h2⟩:=ay h
    have hl:b.es.length=len:=(bf.bX hmp).symm.trans (by simpa using hc1)
    refine⟨_,go len fun M' N ρ I a w hW hU hN=> ?_,h2⟩
    obtain⟨sl,dK,fj⟩:=bh (F:=F) x hx (n:=n) (by rw[bK]; simp[AV.names])
    have bN:M' n=some b:=(hN sl dK n fj).trans (by rw[hM]; exact hb)
    have dt:lens M' n=some (len,b.sz):=by rw[aA]; exact⟨b,bN,(bf.bX hmp).trans hl,rfl⟩
    have r1:=ap hU x hx
    rw[bK]at r1
    obtain⟨_,⟨h0,q,hv⟩|⟨g,cap,hρ,hv⟩⟩:=gY r1 dt
    ·have:=(hW.aS n b bN).dX h0
     rw[this]at hl
     simp at hl
     subst hl
     exact⟨_,_,hv⟩
    ·exact⟨_,_,hv⟩
  |dp n len i off cnt=>
   rw[bK]at h
   simp only[alive]at h
   cases hb:aa Ml n with
   |none=>rw[hb]at h; exact h.elim
   |some b=>
    rw[hb]at h
    obtain⟨hc1,hmp,h2⟩:=ay h
    have hl:b.es.length=len:=(bf.bX hmp).symm.trans (by simpa using hc1)
    refine⟨_,go cnt fun M' N ρ I a w hW hU hN=> ?_,h2⟩
    obtain⟨sl,dK,fj⟩:=bh (F:=F) x hx (n:=n) (by rw[bK]; simp[AV.names])
    have bN:M' n=some b:=(hN sl dK n fj).trans (by rw[hM]; exact hb)
    have dt:lens M' n=some (len,b.sz):=by rw[aA]; exact⟨b,bN,(bf.bX hmp).trans hl,rfl⟩
    have r1:=ap hU x hx
    rw[bK]at r1
    obtain⟨_,g,cap,c,hρ,hv,_⟩:=jz r1 dt
    exact⟨_,_,hv⟩
  |_=>rw[bK]at h; exact h.elim
 |_=>rw[ht]at h; exact h.elim
theorem qD{k:IntKind}{w:World}{ρ:Place}{L:aZ}{I:Nat->Prop}{N:Nat->Prop}:∀(as:List AV)(vs:List Value)(a:Int),dq ρ L I w N as vs->so k a as≠ .bad->
  ∃n,so k a as= .int k n/\(vs.foldlM Builtin.min2 (.int k a)).run P w= .ok (.int k n) w
 |[],vs,a,h,_=>by
  have:vs=[]:=List.eq_nil_of_length_eq_zero (by simpa using h.1)
  subst this
  exact⟨a,rfl,rfl⟩
 |x::r,vs,a,h,hb=>by
  cases vs with
  |nil=>simp[dq]at h
  |cons v vs=>
   have h0:=h.2 0 (by simp)
   simp at h0
   cases x with
   |int k' b=>
    have hv:=bw h0
    subst hv
    have hr:dq ρ L I w N r vs:=⟨by simpa using h.1,fun j hj=>by simpa using h.2 (j+1) (by simpa using hj)⟩
    obtain⟨n,h1,h2⟩:=qD r vs (min a b) hr hb
    refine⟨n,h1,?_⟩
    have e:(if b<a then b else a)=min a b:=by omega
    simp only[List.foldlM_cons,Builtin.min2,Sem.run_bind,Sem.run_pure,Result.andThen_ok,e]
    exact h2
   |_=>exact (hb rfl).elim
theorem qE{k:IntKind}{w:World}{ρ:Place}{L:aZ}{I:Nat->Prop}{N:Nat->Prop}:∀(as:List AV)(vs:List Value)(a:Int),dq ρ L I w N as vs->sq k a as≠ .bad->
  ∃n,sq k a as= .int k n/\(vs.foldlM Builtin.max2 (.int k a)).run P w= .ok (.int k n) w
 |[],vs,a,h,_=>by
  have:vs=[]:=List.eq_nil_of_length_eq_zero (by simpa using h.1)
  subst this
  exact⟨a,rfl,rfl⟩
 |x::r,vs,a,h,hb=>by
  cases vs with
  |nil=>simp[dq]at h
  |cons v vs=>
   have h0:=h.2 0 (by simp)
   simp at h0
   cases x with
   |int k' b=>
    have hv:=bw h0
    subst hv
    have hr:dq ρ L I w N r vs:=⟨by simpa using h.1,fun j hj=>by simpa using h.2 (j+1) (by simpa using hj)⟩
    obtain⟨n,h1,h2⟩:=qE r vs (max a b) hr hb
    refine⟨n,h1,?_⟩
    have e:(if b>a then b else a)=max a b:=by omega
    simp only[List.foldlM_cons,Builtin.max2,Sem.run_bind,Sem.run_pure,Result.andThen_ok,e]
    exact h2
   |_=>exact (hb rfl).elim
theorem qF{mx:Bool}{args:Array Operand}{ts:Array TypeId}(ho:o.op= .call {callee:= .builtin (if mx then .max else .min),args:=args,argTypes:=ts})
  (h:(if mx then xG (oD F args.toList)else xF (oD F args.toList))≠ .bad):bD P X o F M (if mx then xG (oD F args.toList)else xF (oD F args.toList)) [] []:=by
 refine aC fun M' N ρ I a w hW hU hN=> ?_
 have hR:=iY (F:=F) (ρ:=ρ) (L:=lens M') (I:=I) (w:=w) (N:=N) (a:=a) args.toList (fun x hx=>ap hU x (by simpa[ho,Op.operands,Call.operands]using hx))
 rw[gj ho]
 cases hl:args.toList with
 |nil=>cases mx<;>simp[hl,oD,xF,xG]at h
 |cons x r=>
  rw[hl]at h hR
  simp only[oD,List.map_cons]at h hR ⊢
  have h0:=hR.2 0 (by simp)
  simp at h0
  cases hx:ev F x with
  |int k n0=>
   rw[hx]at h h0
   have hv:=bw h0
   have hr:dq ρ (lens M') I w N (oD F r) (r.map a.eval):=⟨by simpa using hR.1,fun j hj=>by simpa using hR.2 (j+1) (by simpa using hj)⟩
   have ha:(args.map a.eval).toList= .int k n0::r.map a.eval:=by rw[Array.toList_map,hl,List.map_cons,hv]
   cases mx with
   |true=>
    obtain⟨n,h1,h2⟩:=qE (P:=P) _ _ n0 hr (by simpa[xG]using h)
    refine⟨.int k n,?_,by simp only[if_true,xG,h1]; exact .int _ _⟩
    simp only[if_true,builtin,Builtin.max_,ha,h2,Sem.run_bind,Result.andThen_ok,Sem.run_pure]
   |false=>
    obtain⟨n,h1,h2⟩:=qD (P:=P) _ _ n0 hr (by simpa[xF]using h)
    refine⟨.int k n,?_,by simp only[Bool.false_eq_true,if_false,xF,h1]; exact .int _ _⟩
    simp only[Bool.false_eq_true,if_false,builtin,Builtin.min_,ha,h2,Sem.run_bind,Result.andThen_ok,Sem.run_pure]
  |_=>rw[hx]at h; cases mx<;>simp[xF,xG]at h
theorem jK:∀a b:List AV,AV.au (a++b)=AV.au a++AV.au b
 |[],b=>rfl
 |x::r,b=>by simp[AV.au,jK r b]
theorem ja{n:Nat}:∀{l:List Operand},n ∈ AV.au (oD F l)->∃x ∈ l,n ∈ (ev F x).names
 |[],h=>by simp[oD,AV.au]at h
 |x::r,h=>by
  simp only[oD,AV.au,List.mem_append]at h
  rcases h with h|h
  ·exact⟨x,List.mem_cons_self,h⟩
  ·obtain⟨y,hy,hn⟩:=ja h
   exact⟨y,List.mem_cons_of_mem _ hy,hn⟩
theorem dq.append{ρ:Place}{L:aZ}{I:Nat->Prop}{w:World}{N:Nat->Prop}{as bs:List AV}{vs us:List Value}(h:dq ρ L I w N as vs)(k:dq ρ L I w N bs us):dq ρ L I w N (as++bs) (vs++us):=by
 refine⟨by simp[h.1,k.1],fun j hj=> ?_⟩
 by_cases hl:j<as.length
 ·have e1:(as++bs).getD j .bad=as.getD j .bad:=by simp[List.getD_eq_getElem?_getD,List.getElem?_append_left hl]
  have e2:(vs++us).getD j default=vs.getD j default:=by simp[List.getD_eq_getElem?_getD,List.getElem?_append_left (show j<vs.length by rw[h.1]; exact hl)]
  rw[e1,e2]; exact h.2 j hl
 ·have e1:(as++bs).getD j .bad=bs.getD (j - as.length) .bad:=by simp[List.getD_eq_getElem?_getD,List.getElem?_append_right (Nat.le_of_not_lt hl)]
  have e2:(vs++us).getD j default=us.getD (j - as.length) default:=by simp[List.getD_eq_getElem?_getD,List.getElem?_append_right (show vs.length<=j by rw[h.1]; omega),h.1]
  rw[e1,e2]; exact k.2 _ (by simp at hj; omega)
theorem vg{f:Operand}{args:Array Operand}{ts:Array TypeId}{g:Nat}{aQ:List AV}{av:AV}{ws:List (Nat × bf)}{nw:List Nat}(ho:o.op= .call {callee:= .value f,args:=args,argTypes:=ts})(hf:ev F f= .bL (.fn g) aQ)
  (hfn:∃fn,P.funcs[g]? =some fn/\(fn.name== "runtime.NumGoroutine")=false/\fn.body.isNone=false) (hc:qo P X g (oD F args.toList++aQ) M av ws nw):bD P X o F M av ws nw:=by
 have hfo:f ∈ o.op.operands.toList:=by simp[ho,Op.operands,Call.operands]
 have hao:∀x ∈ args.toList,x ∈ o.op.operands.toList:=fun x hx=>by
  simp only[ho,Op.operands,Call.operands,Array.toList_append]
  exact List.mem_append_right _ hx
 have hnm:∀n ∈ AV.au (oD F args.toList++aQ),∃s ∈ dr o.op,n ∈ (look F s).names:=by
  intro n hn
  rw[jK,List.mem_append]at hn
  rcases hn with hn|hn
  ·obtain⟨x,hx,hn⟩:=ja hn
   exact bh x (hao x hx) hn
  ·exact bh f hfo (by rw[hf]; simpa[AV.names]using hn)
 refine⟨fun p hp=>(hc.1 p hp).imp id (hnm p.1),fun M' N ρ I a w hW hU hN hF=> ?_⟩
 have r1:=ap hU f hfo
 rw[hf]at r1
 generalize hv:a.eval f=v at r1
 cases r1 with
 |bL _ _ us hl hr=>
  have hR:=(iY (F:=F) (ρ:=ρ) (L:=lens M') (I:=I) (w:=w) (N:=N) (a:=a) args.toList (fun x hx=>ap hU x (hao x hx))).append (⟨hl,hr⟩:dq ρ (lens M') I w N aQ us)
  have xM:=hc.2 M' N ρ I w _ hW (fun n hn=>by obtain⟨s,hs,fj⟩:=hnm n hn; exact hN s hs n fj) hF hR
  obtain⟨fn,hfn,hname,hbody⟩:=hfn
  unfold bJ
  have hrun:(execOp a.eval o).run P w= .ok (.enter g ((args.toList.map a.eval++us).toArray)) w:=by
   have e:(args.map a.eval)++us.toArray=(args.toList.map a.eval++us).toArray:=by apply Array.ext'; simp
   have oa:¬fn.name= "runtime.NumGoroutine" :=by simpa using hname
   have ob:¬fn.body=none:=by intro h; rw[h]at hbody; simp at hbody
   simp[execOp,ho,resolve,hv,Deferred.ofValue,invoke,callFunc,hfn,oa,ob,e]
  rw[hrun]
  exact⟨rfl,xM⟩
theorem Ao{f:Operand}{args:Array Operand}{ts:Array TypeId}{g:Nat}{aQ:List AV}(ho:o.op= .call {callee:= .value f,args:=args,argTypes:=ts})(hf:ev F f= .bL (.fn g) aQ):∀n ∈ AV.au (oD F args.toList++aQ),∃s ∈ dr o.op,n ∈ (look F s).names:=by
 have hfo:f ∈ o.op.operands.toList:=by simp[ho,Op.operands,Call.operands]
 have hao:∀x ∈ args.toList,x ∈ o.op.operands.toList:=fun x hx=>by
  simp only[ho,Op.operands,Call.operands,Array.toList_append]
  exact List.mem_append_right _ hx
 intro n hn
 rw[jK,List.mem_append]at hn
 rcases hn with hn|hn
 ·obtain⟨x,hx,hn⟩:=ja hn
  exact bh x (hao x hx) hn
 ·exact bh f hfo (by rw[hf]; simpa[AV.names]using hn)
theorem Ap{Rx:List Nat}{f:Operand}{args:Array Operand}{ts:Array TypeId}{g:Nat}{aQ:List AV}{av:AV}{ws:List (Nat × bf)}{nw:List Nat}(ho:o.op= .call {callee:= .value f,args:=args,argTypes:=ts})(hf:ev F f= .bL (.fn g) aQ)
  (hfn:∃fn,P.funcs[g]? =some fn/\(fn.name== "runtime.NumGoroutine")=false/\fn.body.isNone=false) {Ry:List Nat} (hc:Le P X g (oD F args.toList++aQ) Ry M av ws nw) (hy:∀n ∈ Ry,n ∈ Rx) (hx:∀s ∈ dr o.op,∀n ∈ (look F s).names,n ∈ Rx):qt P X o F M Rx av ws nw:=by
 have hfo:f ∈ o.op.operands.toList:=by simp[ho,Op.operands,Call.operands]
 have hao:∀x ∈ args.toList,x ∈ o.op.operands.toList:=fun x hx=>by
  simp only[ho,Op.operands,Call.operands,Array.toList_append]
  exact List.mem_append_right _ hx
 refine⟨fun p hp=>(hc.1 p hp).imp id (fun h=> .inr ⟨hy _ h.1,h.2⟩),.inl hx,fun M' N ρ I a w hW hU hN hF=> ?_⟩
 have r1:=ap hU f hfo
 rw[hf]at r1
 generalize hv:a.eval f=v at r1
 cases r1 with
 |bL _ _ us hl hr=>
  have hR:=(iY (F:=F) (ρ:=ρ) (L:=lens M') (I:=I) (w:=w) (N:=N) (a:=a) args.toList (fun x hx=>ap hU x (hao x hx))).append (⟨hl,hr⟩:dq ρ (lens M') I w N aQ us)
  have xM:=hc.2 M' N ρ I w _ hW (fun n hn=>hN n (hy n hn)) hF hR
  obtain⟨fn,hfn,hname,hbody⟩:=hfn
  unfold bJ
  have hrun:(execOp a.eval o).run P w= .ok (.enter g ((args.toList.map a.eval++us).toArray)) w:=by
   have e:(args.map a.eval)++us.toArray=(args.toList.map a.eval++us).toArray:=by apply Array.ext'; simp
   have oa:¬fn.name= "runtime.NumGoroutine" :=by simpa using hname
   have ob:¬fn.body=none:=by intro h; rw[h]at hbody; simp at hbody
   simp[execOp,ho,resolve,hv,Deferred.ofValue,invoke,callFunc,hfn,oa,ob,e]
  rw[hrun]
  exact⟨rfl,xM⟩
end Go.AM
namespace Go.AM
open Go.RowKit
variable {P:Program} {T:TT} {X:bM}
end Go.AM
namespace Go.AM
open Go.RowKit
variable {P:Program} {T:TT} {X:bM}
theorem xN{a:Act}{d:Option Nat}{v:Value}{F:aT}{av:AV}{i size:Nat}(hs:a.tmps.size=size)(hd:∀x,d=some x->x<size):
  (look (gC F d av) i=av/\(a.put d v).tmps.getD i undef=v)\/(look (gC F d av) i=look F i/\(a.put d v).tmps.getD i undef=a.tmps.getD i undef):=by
 cases d with
 |none=>exact .inr ⟨rfl,rfl⟩
 |some x=>
  by_cases h:i=x
  ·subst h
   left
   have:=hd i rfl
   refine⟨by simp[gC,look],?_⟩
   simp only[Act.put]
   rw[Array.getD_eq_getD_getElem?,Array.getElem?_setIfInBounds_self_of_lt (by omega)]
   rfl
  ·right
   have hb:(i==x)=false:=by simpa using h
   refine⟨by simp[gC,look,hb],?_⟩
   simp only[Act.put]
   rw[Array.getD_eq_getD_getElem?,Array.getElem?_setIfInBounds_ne (by omega),<-Array.getD_eq_getD_getElem?]
theorem xO{o:Oper}{a:Act}{w:World}{M:bg}{N:Nat->Prop}{ρ:Place}{I:Nat->Prop}{av:AV}{ws:List (Nat × bf)}(hy:bJ P X o a M N ρ I w av ws):∀c,o.op≠ .defer c:=by
 intro c ho
 unfold bJ at hy
 simp only[execOp,ho,Sem.run_bind]at hy
 cases hr:(resolve a.eval c o.type).run P w with
 |ok d w1=>rw[hr]at hy; simp at hy
 |halt h w1=>rw[hr]at hy; simp at hy
theorem xP{o:Oper}{a:Act}{w w':World}{f:Nat}{vs:Array Value}(h:(execOp a.eval o).run P w= .ok (.enter f vs) w'):∀c,o.op≠ .defer c:=by
 intro c ho
 simp only[execOp,ho,Sem.run_bind]at h
 cases hr:(resolve a.eval c o.type).run P w with
 |ok d w1=>rw[hr]at h; simp at h
 |halt e w1=>rw[hr]at h; simp at h
theorem wG{b:Frame}{all:Array Oper}{i:Nat}{rest:List Nat}{k:List Item}{cs:List Frame}{o:Oper}{a:Act}{w:World}{M:bg}{N:Nat->Prop}{ρ:Place}{I:Nat->Prop}{av:AV}{ws:List (Nat × bf)}
  (ho:all[i]? =some o) (hw:Region.wanted o (yielded all a.tmps)=true) (hy:bJ P X o a M N ρ I w av ws):
  ∃v w1,gD X M N ρ I w av ws v w1/\Steps P (lone (b.atR a (.inRegion all (i::rest)::k)) cs w) (lone (b.atR (a.put o.dst v) (.inRegion all rest::k)) cs w1):=by
 have hg:=stepGR_op (P:=P) (b:=b) (k:=k) (cs:=cs) (w:=w) (rest:=rest) ho hw
 rw[Oper.semAt_eq _ _ _ (xO hy)]at hg
 have pT:∀v,(b.atR a (.inRegion all (i::rest)::k)).finish v=b.atR (a.put o.dst v) (.inRegion all rest::k):=by
  intro v; rw[Frame.finish_atR,ho]; rfl
 unfold bJ at hy
 split at hy
 ·rename_i v w' hr
  refine⟨v,w',hy,.one (step_lone_go ?_)⟩
  rw[hg,<-pT]; simp[stepG.apply,hr]
 ·rename_i w' hr
  refine⟨undef,w',hy,.one (step_lone_go ?_)⟩
  rw[hg,<-pT]; simp[stepG.apply,hr]
 ·rename_i f args w' hr
  obtain⟨rfl,hc⟩:=hy
  obtain⟨e,w'',fr,hR,sF,_,hleave⟩:=hc (b.atR a (.inRegion all (i::rest)::k)::cs)
  obtain⟨v,rfl,hp⟩:=hR
  have jb:step P (lone (b.atR a (.inRegion all (i::rest)::k)) cs w')=
    .next (lone (Frame.enter P f args .normal) (b.atR a (.inRegion all (i::rest)::k)::cs) w'):=
   step_lone_go (by rw[hg]; simp[stepG.apply,hr,Frame.atR])
  refine⟨v,w'',hp,.head jb (sF.trans (.one ?_))⟩
  rw[<-pT]; exact step_leave_returned hleave
 ·exact hy.elim
theorem sG{all:Array Oper}{tmps:Array Value}{j s:Nat}(h:(all[j]?).bind (·.dst)=some s):yielded all tmps j=match tmps[s]? with|some (.bool b)=>some b|_=>none:=by
 unfold yielded; rw[h]; rfl
theorem CI{tmps:Array Value}{s:Nat}{t:Bool}(h:tmps.getD s undef= .bool t):tmps[s]? =some (.bool t):=by
 rw[Array.getD_eq_getD_getElem?]at h
 cases hh:tmps[s]? with
 |none=>rw[hh]at h; simp[undef]at h
 |some v=>rw[hh]at h; simpa using h
section
variable {V:Type}
def ov(g:Nat->Option V)(f:Nat->V):Nat->V:=fun k=>(g k).getD (f k)
def fl(gs:Nat->Nat->Option V)(L:Nat->Prop)[DecidablePred L]:Nat->(Nat->V)->Nat->V
 |0,f=>f
 |m+1,f=>if L m then ov (gs m) (fl gs L m f)else fl gs L m f
theorem jc{gs:Nat->Nat->Option V}{L L':Nat->Prop}[DecidablePred L][DecidablePred L']{f:Nat->V}{k:Nat}:∀{m:Nat},(∀i,i<m->gs i k≠none->(L i↔L' i))->fl gs L m f k=fl gs L' m f k
 |0,_=>rfl
 |m+1,h=>by
  have ih:=jc (gs:=gs) (f:=f) (k:=k) (m:=m) (fun i hi=>h i (by omega))
  simp only[fl]
  cases hg:gs m k with
  |none=>
   have e1:(if L m then ov (gs m) (fl gs L m f)else fl gs L m f) k=fl gs L m f k:=by split<;>simp[ov,hg]
   have e2:(if L' m then ov (gs m) (fl gs L' m f)else fl gs L' m f) k=fl gs L' m f k:=by split<;>simp[ov,hg]
   rw[e1,e2,ih]
  |some v=>
   have hh:=h m (by omega) (by rw[hg]; simp)
   by_cases hl:L m
   ·rw[if_pos hl,if_pos (hh.1 hl)]; simp[ov,hg]
   ·rw[if_neg hl,if_neg (fun h=>hl (hh.2 h))]; exact ih
theorem Aq{gs:Nat->Nat->Option V}{L L':Nat->Prop}[DecidablePred L][DecidablePred L']{f:Nat->V}{k j:Nat}(hL:∀i,L' i↔(i=j\/ L i))(hj:¬L j):∀{m:Nat},j<m->(∀i,i<m->i≠j->gs j k≠none->gs i k≠none->L i->i<j)->
  fl gs L' m f k=(gs j k).getD (fl gs L m f k)
 |0,h,_=>by omega
 |m+1,hm,h=>by
  have hne:∀i,i≠j->(L' i↔L i):=fun i hi=>by rw[hL]; exact⟨fun h=>h.elim (fun e=>(hi e).elim) id,.inr⟩
  simp only[fl]
  by_cases e:j=m
  ·subst e
   have h1:fl gs L' j f k=fl gs L j f k:=jc (fun i hi _=>hne i (by omega))
   rw[if_pos ((hL j).2 (.inl rfl)),if_neg hj]
   simp only[ov,h1]
  ·have ih:=Aq (gs:=gs) (f:=f) (k:=k) hL hj (m:=m) (by omega) (fun i hi=>h i (by omega))
   have hLm:L' m↔L m:=hne m (fun h=>e h.symm)
   by_cases hl:L m
   ·rw[if_pos (hLm.2 hl),if_pos hl]
    simp only[ov]
    cases hg:gs m k with
    |none=>simpa using ih
    |some v=>
     cases hgj:gs j k with
     |none=>simp
     |some u=>
      have:=h m (by omega) (by omega) (by rw[hgj]; simp) (by rw[hg]; simp) hl
      omega
   ·rw[if_neg (fun h=>hl (hLm.1 h)),if_neg hl]; exact ih
end
def EN(ops:Array Oper)(i j:Nat):Prop:=∃o e,ops[j]? =some o/\e ∈ o.after.toList/\Region.binds .any e=true/\e.on=i
def gK(ops:Array Oper)(L:Nat->Prop):Prop:=∀i j,EN ops i j->L j->L i
def iy(ops:Array Oper)(i j:Nat):Prop:=∀L:Nat->Prop,gK ops L->(∀k,EN ops k j->L k)->L i
theorem lQ:∀(r:List Oper)(i:Nat),sr i r=true->∀k o,r[k]? =some o->∀e ∈ o.after.toList,Region.binds .any e=true->e.on<i+k
 |[],i,_,k,o,h=>by simp at h
 |x::r,i,hb,k,o,h=>by
  simp only[sr,Bool.and_eq_true]at hb
  intro e he Mo
  cases k with
  |zero=>
   simp only[List.getElem?_cons_zero,Option.some.injEq]at h
   subst h
   have:=List.all_eq_true.1 hb.1 e he
   simp only[Mo,Bool.not_true,Bool.false_or]at this
   rw[Nat.blt_eq]at this
   omega
  |succ k=>
   have:=lQ r (i+1) hb.2 k o (by simpa using h) e he Mo
   omega
theorem oc{acc:List Nat}{i:Nat}:∀{es:List Edge},(qq acc es).testBit i=true->∃e ∈ es,Region.binds .any e=true/\(e.on=i\/(acc.getD e.on 0).testBit i=true)
 |[],h=>by simp[qq]at h
 |e::r,h=>by
  simp only[qq]at h
  cases hb:Region.binds .any e with
  |true=>
   rw[hb]at h
   simp only[cond_true,Nat.testBit_or,Bool.or_eq_true]at h
   rcases h with (h|h)|h
   ·exact⟨e,List.mem_cons_self,hb,.inl (by simpa[Nat.testBit_two_pow]using h)⟩
   ·exact⟨e,List.mem_cons_self,hb,.inr h⟩
   ·obtain⟨e',h1,h2⟩:=oc h
    exact⟨e',List.mem_cons_of_mem _ h1,h2⟩
  |false=>
   rw[hb]at h
   obtain⟨e',h1,h2⟩:=oc h
   exact⟨e',List.mem_cons_of_mem _ h1,h2⟩
theorem sH{ops:Array Oper}:∀(r:List Oper)(acc:List Nat),r=ops.toList.drop acc.length->(∀k i,(acc.getD k 0).testBit i=true->iy ops i k)->∀k i,((dB r acc).getD k 0).testBit i=true->iy ops i k
 |[],acc,_,h,k,i,hb=>h k i hb
 |o::r,acc,hr,h,k,i,hb=>by
  have ho:ops[acc.length]? =some o:=by
   have:(ops.toList.drop acc.length)[0]? =some o:=by rw[<-hr]; rfl
   simpa using this
  have hr':r=ops.toList.drop (acc.length+1):=by
   have:(o::r).drop 1=(ops.toList.drop acc.length).drop 1:=by rw[hr]
   simpa[List.drop_drop]using this
  refine sH r (acc++ [qq acc o.after.toList]) (by simpa using hr') (fun k i hb=> ?_) k i hb
  by_cases hk:k<acc.length
  ·exact h k i (by simpa[List.getD_eq_getElem?_getD,List.getElem?_append_left hk]using hb)
  ·by_cases hk2:k=acc.length
   ·subst hk2
    have:(qq acc o.after.toList).testBit i=true:=by simpa[List.getD_eq_getElem?_getD]using hb
    obtain⟨e,he,Mo,h1|h1⟩:=oc this
    ·exact fun L _ hp=>hp i ⟨o,e,ho,he,Mo,h1⟩
    ·exact fun L hc hp=>h e.on i h1 L hc (fun k' hk'=>hc _ _ hk' (hp e.on ⟨o,e,ho,he,Mo,rfl⟩))
   ·rw[List.getD_eq_getElem?_getD,List.getElem?_eq_none (by simp; omega)]at hb
    simp at hb
structure Ar where
 F:aT
 M:Mem
 lo:Nat
 run:Bool
 av:AV
 ws:List (Nat × bf)
 nw:List Nat
 W:List Nat
 R:List Nat
 k:Nat
def mS(ops:Array Oper)(o:Oper)(F:aT)(run:Bool):Prop:=
 match o.guard with
 |none=>run=true
 |some (j,want)=>∃s,(ops[j]?).bind (·.dst)=some s/\((run=true/\look F s= .bool want)\/(run=false/\(look F s= .bool (!want)\/ look F s= .aG [])))
def Au(log:List ga)(x:ga):Prop:=x ∈ log\/(x.R=[]/\x.W=[]/\x.lo=x.hi)
structure Fh(P:Program)(X:bM)(ops:Array Oper)(bO:List ga)(E:Nat->Ar)(j:Nat)(o:Oper):Prop where
 guard:mS ops o (E j).F (E j).run
 pP:(E j).run=true->qt P X o (E j).F (aa (E j).M) (E j).R (E j).av (E j).ws (E j).nw
 wn:∀p ∈ (E j).ws,p.1 ∈ (E j).nw\/ p.1 ∈ (E j).W
 skip:(E j).run=false->(E j).av= .aG []/\(E j).ws=[]/\(E j).nw=[]
 le:(E j).lo<=(E (j+1)).lo
 nw:∀n ∈ (E j).nw,(E j).lo<=n/\n< (E (j+1)).lo
 F:look (E (j+1)).F=look (gC (E j).F o.dst (E j).av)
 M:aa (E (j+1)).M=aa (bY (E j).M (E j).ws)
 log:(E j).run=true->Au bO ⟨j,(E j).R,(E j).W,(E j).lo,(E (j+1)).lo,(E j).k⟩
 YH:(E j).run=true->(E j).k=1->nK P X o (E j).F (aa (E j).M) (E j).av/\(E j).ws=[]
 sto:(E j).run=true->(E j).k=2->∀p ∈ (E j).ws,lens (aa (E j).M) p.1=some (p.2.ln,p.2.sz)
 YI:(E j).run=true->(E j).k=3->oG P X o (E j).F (aa (E j).M) (E j).av/\(E j).ws=[]
 Mp:(E j).run=true->(E j).k=4->∀p ∈ (E j).ws,Vw (aa (E j).M p.1)=Vw (some p.2)
theorem xQ{log bO:List ga}{i:Nat}{R W:List Nat}{lo hi k:Nat}(h:∀x ∈ E5 i R W lo hi k log,x ∈ bO):Au bO ⟨i,R,W,lo,hi,k⟩:=by
 unfold E5 at h
 cases hc:(R.isEmpty&&W.isEmpty)&&lo==hi with
 |true=>
  simp only[Bool.and_eq_true,List.isEmpty_iff,beq_iff_eq]at hc
  exact .inr ⟨hc.1.1,hc.1.2,hc.2⟩
 |false=>rw[hc]at h; exact .inl (h _ List.mem_cons_self)
theorem Fi{log:List ga}{i:Nat}{R W:List Nat}{lo hi k:Nat}:∀x ∈ log,x ∈ E5 i R W lo hi k log:=by
 intro x hx
 unfold E5
 cases (R.isEmpty&&W.isEmpty)&&lo==hi
 ·exact List.mem_cons_of_mem _ hx
 ·exact hx
theorem kH{F:aT}{s:Nat}{v:AV}(h:look F s=v):look ((s,v)::F)=look F:=by
 funext i
 by_cases e:i=s
 ·subst e; simp[look,h]
 ·have:(i==s)=false:=by simpa using e
  simp[look,this]
end Go.AM
namespace Go.AM
open Go.RowKit
variable {P:Program} {T:TT} {X:bM}
theorem dw:∀{cs:List AV}{m:Nat},m ∈ AV.au cs->∃j,j<cs.length/\m ∈ (cs.getD j .bad).names
 |[],_,h=>by simp[AV.au]at h
 |c::cs,m,h=>by
  simp only[AV.au,List.mem_append]at h
  rcases h with h|h
  ·exact⟨0,by simp,by simpa using h⟩
  ·obtain⟨j,hj,hm⟩:=dw h
   exact⟨j+1,by simpa using hj,by simpa using hm⟩
theorem kf{ρ:Place}{L:aZ}{I:Nat->Prop}{w:World}{N:Nat->Prop}{a:AV}{v:Value}(h:aM ρ L I w N a v):∀m ∈ a.names,N m:=by
 induction h with
 |loc n len i off v hn h1 h=>intro m hm; simp[AV.names]at hm; exact hm ▸ hn
 |bi n len v hn h1 h=>intro m hm; simp[AV.names]at hm; exact hm ▸ hn
 |dp n len i off cnt v hn h1 h=>intro m hm; simp[AV.names]at hm; exact hm ▸ hn
 |omap n v hn h1 h=>intro m hm; simp[AV.names]at hm; exact hm ▸ hn
 |qn f aQ vs hl hr ih=>intro m hm; obtain⟨j,hj,hm⟩:=dw (by simpa[AV.names]using hm); exact ih j hj m hm
 |bL f aQ vs hl hr ih=>intro m hm; obtain⟨j,hj,hm⟩:=dw (by simpa[AV.names]using hm); exact ih j hj m hm
 |agg cs vs hl h1 hr ih=>intro m hm; obtain⟨j,hj,hm⟩:=dw (by simpa[AV.names]using hm); exact ih j hj m hm
 |aG cs vs hl hr ih=>intro m hm; obtain⟨j,hj,hm⟩:=dw (by simpa[AV.names]using hm); exact ih j hj m hm
 |_=>intro m hm; simp[AV.names]at hm
theorem bZ.sI{ρ:Place}{I:Nat->Prop}{M:bg}{N N':Nat->Prop}{w:World}(W:bZ X ρ I M N w)(hN:∀m,N m->N' m):bZ X ρ I M N' w:=by
 refine⟨fun n b hb=> ?_,W.inj,W.oA,W.lt,W.old,W.keeps,fun n hn=>hN n (W.pn n hn),W.Cx,W.par⟩
 have B:=W.aS n b hb
 refine⟨hN n B.lt,B.even,B.dX,fun g cap hρ=> ?_,B.iter⟩
 obtain⟨cs,fr,hc1,Cy,jV,Cz,BR,Aa,CA,CB⟩:=B.real g cap hρ
 refine⟨cs,fr,hc1,Cy,jV,Cz,BR,Aa,CA,fun i j hi hj=> ?_⟩
 obtain⟨u,hu,pF,hr⟩:=CB i j hi hj
 exact⟨u,hu,pF,hr.wide hN⟩
def uD:List (Nat × bf)->Nat->Option (Option bf)
 |[],_=>none
 |(n,b)::r,k=>match uD r k with
  |some x=>some x
  |none=>if k=n then some (some b)else none
theorem mT:∀(ws:List (Nat × bf))(M:bg),cX M ws=ov (uD ws) M
 |[],M=>by funext k; rfl
 |(n,b)::r,M=>by
  funext k
  simp only[cX,mT r,ov,uD]
  cases hw:uD r k with
  |some x=>simp
  |none=>by_cases h:k=n<;>simp[cZ,h]
theorem rP:∀{ws:List (Nat × bf)}{k:Nat},uD ws k≠none->∃p ∈ ws,p.1=k
 |[],k,h=>by simp[uD]at h
 |(n,b)::r,k,h=>by
  simp only[uD]at h
  cases hw:uD r k with
  |some x=>obtain⟨p,h1,h2⟩:=rP (ws:=r) (k:=k) (by rw[hw]; simp); exact⟨p,List.mem_cons_of_mem _ h1,h2⟩
  |none=>
   rw[hw]at h
   by_cases e:k=n
   ·exact⟨_,List.mem_cons_self,e.symm⟩
   ·simp[e]at h
def uE(d:Option Nat)(av:AV)(k:Nat):Option AV:=match d with
 |some d=>if k=d then some av else none
 |none=>none
theorem CJ(F:aT)(d:Option Nat)(av:AV):look (gC F d av)=ov (uE d av) (look F):=by
 funext k
 cases d with
 |none=>rfl
 |some d=>
  by_cases h:k=d
  ·subst h; simp[gC,look,ov,uE]
  ·have:(k==d)=false:=by simpa using h
   simp[gC,look,ov,uE,h,this]
theorem Fj{V:Type}{gs:Nat->Nat->Option V}{f:Nat->V}{k j:Nat}:∀{m:Nat},j<=m->fl gs (· <j) m f k=fl gs (fun _=>True) j f k
 |0,h=>by have:j=0:=by omega
          subst this; rfl
 |m+1,h=>by
  by_cases e:j=m+1
  ·subst e
   exact jc (fun i hi _=>by simp[hi])
  ·have ih:=Fj (gs:=gs) (f:=f) (k:=k) (j:=j) (m:=m) (by omega)
   simp only[fl]
   rw[if_neg (by omega)]
   exact ih
theorem xR{a:Act}{d:Option Nat}{v:Value}{s size:Nat}(hs:a.tmps.size=size)(hd:∀x,d=some x->x<size):(a.put d v).tmps.getD s undef=if d=some s then v else a.tmps.getD s undef:=by
 cases d with
 |none=>simp[Act.put]
 |some x=>
  by_cases h:x=s
  ·subst h
   have:=hd x rfl
   simp only[Act.put,if_pos]
   rw[Array.getD_eq_getD_getElem?,Array.getElem?_setIfInBounds_self_of_lt (by omega)]
   rfl
  ·have h':¬ (some x=some s):=by simpa using h
   rw[if_neg h']
   simp only[Act.put]
   rw[Array.getD_eq_getD_getElem?,Array.getElem?_setIfInBounds_ne h,<-Array.getD_eq_getD_getElem?]
section
variable {ops:Array Oper} {E:Nat->Ar} {S:St} {bO:List ga}
def gF(ops:Array Oper)(E:Nat->Ar)(j:Nat):Nat->Option AV:=uE ((ops[j]?).bind (·.dst)) (E j).av
def gM(E:Nat->Ar)(j:Nat):Nat->Option (Option bf):=uD (E j).ws
structure bt(P:Program)(X:bM)(ops:Array Oper)(E:Nat->Ar)(S:St)(bO:List ga):Prop where
 YJ:wA ops bO=true
 draw:pO ops=true
 F0:look (E 0).F=look S.F
 M0:(E 0).M=S.M
 YK:(E 0).lo=S.nx
 ok:∀(j:Nat)(o:Oper),ops[j]? =some o->Fh P X ops bO E j o
 size:∀(j:Nat)(o:Oper),ops[j]? =some o->∀d,o.dst=some d->d<X.size
theorem bt.Fk(h:bt P X ops E S bO):∀j,j<=ops.size->fl (gF ops E) (fun _=>True) j (look S.F)=look (E j).F
 |0,_=>h.F0.symm
 |j+1,hj=>by
  have ho:ops[j]? =some ops[j]:=Array.getElem?_eq_getElem (by omega)
  have R:=h.ok j _ ho
  rw[R.F,CJ]
  simp only[fl,if_true]
  rw[h.Fk j (by omega)]
  simp only[gF,ho,Option.bind_some]
theorem bt.sJ(h:bt P X ops E S bO):∀j,j<=ops.size->fl (gM E) (fun _=>True) j (aa S.M)=aa (E j).M
 |0,_=>by rw[h.M0]; rfl
 |j+1,hj=>by
  have ho:ops[j]? =some ops[j]:=Array.getElem?_eq_getElem (by omega)
  have R:=h.ok j _ ho
  rw[R.M,gG,mT]
  simp only[fl,if_true]
  rw[h.sJ j (by omega)]
  rfl
theorem bt.lo(h:bt P X ops E S bO){i:Nat}:∀{j:Nat},i<=j->j<=ops.size->(E i).lo<=(E j).lo
 |0,hij,_=>by have:i=0:=by omega
              subst this; exact Nat.le_refl _
 |j+1,hij,hj=>by
  by_cases e:i=j+1
  ·subst e; exact Nat.le_refl _
  ·have ho:ops[j]? =some ops[j]:=Array.getElem?_eq_getElem (by omega)
   exact Nat.le_trans (h.lo (i:=i) (j:=j) (by omega) (by omega)) (h.ok j _ ho).le
theorem bt.dir(h:bt P X ops E S bO){i j:Nat}(hd:EN ops i j):i<j:=by
 obtain⟨o,e,ho,he,hb,rfl⟩:=hd
 have:=h.draw
 simp only[pO,Bool.and_eq_true]at this
 have:=lQ _ 0 this.1 j o (by simpa using ho) e he hb
 omega
theorem bt.gL(h:bt P X ops E S bO){i j:Nat}(hb:iy ops i j):i<j:=
 hb (· <j) (fun a b hd hb=>by have:=h.dir hd; omega) (fun k hk=>h.dir hk)
theorem jB{i j:Nat}(h:((dB ops.toList []).getD j 0).testBit i=true):iy ops i j:=
 sH ops.toList [] (by simp) (fun k i h=>by simp at h) j i h
theorem bt.apart(h:bt P X ops E S bO){i j:Nat}{x y:Oper}(hi:ops[i]? =some x)(hj:ops[j]? =some y)(hij:i<j):iy ops i j\/ x.apart ops y=true:=by
 have:=h.draw
 simp only[pO,Bool.and_eq_true,BS]at this
 have hj':=(Array.getElem?_eq_some_iff.1 hj).1
 have h1:=List.all_eq_true.1 this.2 j (List.mem_range.2 hj')
 have h2:=List.all_eq_true.1 h1 i (List.mem_range.2 hij)
 rw[hi,hj]at h2
 rw[Bool.or_eq_true]at h2
 rcases h2 with h|h
 ·exact .inl (jB h)
 ·exact .inr h
theorem wH{i k:Nat}(h:gF ops E i k≠none):∃o,ops[i]? =some o/\o.dst=some k:=by
 unfold gF at h
 cases ho:ops[i]? with
 |none=>rw[ho]at h; simp[uE]at h
 |some o=>
  refine⟨o,rfl,?_⟩
  rw[ho]at h
  simp only[Option.bind_some]at h
  cases hd:o.dst with
  |none=>rw[hd]at h; simp[uE]at h
  |some d=>
   rw[hd]at h
   by_cases e:k=d
   ·rw[e]
   ·simp[uE,e]at h
theorem bt.slot(h:bt P X ops E S bO){L:Nat->Prop}[DecidablePred L](hc:gK ops L){j:Nat}{o:Oper}(ho:ops[j]? =some o)(hj:¬L j)(hp:∀k,EN ops k j->L k){s:Nat}(hs:s ∈ o.looksAt ops):
  fl (gF ops E) L ops.size (look S.F) s=look (E j).F s:=by
 have Io:=(Array.getElem?_eq_some_iff.1 ho).1
 rw[<-h.Fk j (by omega),<-Fj (m:=ops.size) (by omega)]
 refine jc fun i hi hg=> ?_
 obtain⟨x,hx,hd⟩:=wH hg
 rcases Nat.lt_trichotomy i j with hij|hij|hij
 ·rcases h.apart hx ho hij with hb|hb
  ·exact⟨fun _=>hij,fun _=>hb L hc hp⟩
  ·exact ((Oper.apart_spec hb).1 s hd hs).elim
 ·subst hij; exact⟨fun h=>(hj h).elim,fun h=>by omega⟩
 ·rcases h.apart ho hx hij with hb|hb
  ·exact⟨fun hl=>(hj (hb L hc (fun k hk=>hc k i hk hl))).elim,fun h=>by omega⟩
  ·exact ((Oper.apart_spec hb).2.2 s hd hs).elim
theorem bt.IJ(h:bt P X ops E S bO){L:Nat->Prop}(hc:gK ops L){j:Nat}{o:Oper}(ho:ops[j]? =some o)(hj:¬L j){k i:Nat}(hij:i≠j)(h1:gF ops E j k≠none)(h2:gF ops E i k≠none)(hl:L i):i<j:=by
 obtain⟨x,hx,hd⟩:=wH h2
 obtain⟨y,hy,BU⟩:=wH h1
 rcases Nat.lt_trichotomy i j with h3|h3|h3
 ·exact h3
 ·omega
 ·rcases h.apart hy hx h3 with hb|hb
  ·exact (hj (hb L hc (fun k hk=>hc k i hk hl))).elim
  ·exact ((Oper.apart_spec hb).2.1 k BU hd).elim
theorem vh{lo hi:Nat}{R W:List Nat}(h:Ma lo hi R W=true){n:Nat}(hn:n ∈ R):¬ (lo<=n/\n<hi)/\n ∉ W:=by
 have:=List.all_eq_true.1 h n hn
 simp only[Bool.and_eq_true,Bool.not_eq_true',Bool.and_eq_false_iff,List.any_eq_false]at this
 refine⟨?_,fun hw=> ?_⟩
 ·rintro⟨h1,h2⟩
  rcases this.1 with h3|h3
  ·have:=Nat.ble_eq_true_of_le h1; rw[h3]at this; simp at this
  ·have Rr:Nat.blt n hi=true:=by rw[Nat.blt_eq]; exact h2
   rw[h3]at Rr; simp at Rr
 ·exact this.2 n hw (Nat.beq_refl n)
def Fl(E:Nat->Ar)(bO:List ga)(j:Nat):Prop:=lK bO ⟨j,(E j).R,(E j).W,(E j).lo,(E (j+1)).lo,(E j).k⟩=true
def KP(E:Nat->Ar)(i j:Nat):Prop:=((E i).k=3/\(E j).k=4)\/((E i).k=4/\(E j).k=3)
theorem bt.pair(h:bt P X ops E S bO){i j:Nat}{x y:Oper}(hi:ops[i]? =some x)(hj:ops[j]? =some y)(hij:i≠j)(ri:(E i).run=true)(rj:(E j).run=true)(ni:¬Fl E bO i)(nj:¬Fl E bO j):
  iy ops i j\/ iy ops j i\/ KP E i j\/(∀n,(∃p ∈ (E i).ws,p.1=n)->n ∉ (E j).R)/\(∀n,(∃p ∈ (E i).ws,p.1=n)->(∃p ∈ (E j).ws,p.1=n)->False):=by
 have Ri:=h.ok i x hi
 have Rj:=h.ok j y hj
 have hi':=(Array.getElem?_eq_some_iff.1 hi).1
 have hj':=(Array.getElem?_eq_some_iff.1 hj).1
 have li:=Ri.log ri
 have lj:=Rj.log rj
 have key:iy ops i j\/ iy ops j i\/ KP E i j\/((∀n ∈ (E j).R,¬ ((E i).lo<=n/\n< (E (i+1)).lo)/\n ∉ (E i).W)/\(∀n ∈ (E i).R,¬ ((E j).lo<=n/\n< (E (j+1)).lo)/\n ∉ (E j).W)):=by
  rcases li with li|⟨hR,hW,hlo⟩
  ·rcases lj with lj|⟨QB,hW',IK⟩
   ·have h1:=List.all_eq_true.1 (List.all_eq_true.1 h.YJ _ li) _ lj
    simp only[Bool.or_eq_true,Nat.beq_eq_true_eq]at h1
    rcases h1 with ((((h1|h1)|h1)|h1)|h1)|h1
    ·exact (hij (Nat.eq_of_beq_eq_true h1)).elim
    rotate_left
    ·exact (ni h1).elim
    ·exact (nj h1).elim
    ·simp only[CC,Bool.and_eq_true]at h1
     exact .inr (.inr (.inl (.inl ⟨Nat.eq_of_beq_eq_true h1.1,Nat.eq_of_beq_eq_true h1.2⟩)))
    ·simp only[CC,Bool.and_eq_true]at h1
     exact .inr (.inr (.inl (.inr ⟨Nat.eq_of_beq_eq_true h1.2,Nat.eq_of_beq_eq_true h1.1⟩)))
    ·simp only[Ag,Bool.or_eq_true,Bool.and_eq_true]at h1
     rcases h1 with (h1|h1)|⟨h1,h2⟩
     ·exact .inr (.inl (jB h1))
     ·exact .inl (jB h1)
     ·exact .inr (.inr (.inr ⟨fun n hn=>vh h1 hn,fun n hn=>vh h2 hn⟩))
   ·refine .inr (.inr (.inr ⟨fun n hn=> ?_,fun n hn=> ?_⟩))
    ·simp only at QB; rw[QB]at hn; simp at hn
    ·simp only at hW' IK; rw[hW']; exact⟨by omega,by simp⟩
  ·refine .inr (.inr (.inr ⟨fun n hn=> ?_,fun n hn=> ?_⟩))
   ·simp only at hW hlo; rw[hW]; exact⟨by omega,by simp⟩
   ·simp only at hR; rw[hR]at hn; simp at hn
 rcases key with h1|h1|h1|⟨k1,k2⟩
 ·exact .inl h1
 ·exact .inr (.inl h1)
 ·exact .inr (.inr (.inl h1))
 refine .inr (.inr (.inr ⟨fun n ⟨p,hp,hn⟩ hr=> ?_,fun n ⟨p,hp,hn⟩ ⟨q,hq,hn'⟩=> ?_⟩))
 ·subst hn
  rcases Ri.wn p hp with hw|hw
  ·exact (k1 _ hr).1 (Ri.nw _ hw)
  ·exact (k1 _ hr).2 hw
 ·subst hn
  have ed:p.1 ∈ (E i).nw\/ p.1 ∈ (E i).R:=by
   rcases (Ri.pP ri).1 p hp with hv|⟨s',hs',hv⟩|⟨hv,_⟩
   ·exact .inl hv
   ·rcases (Ri.pP ri).2.1 with h2|⟨h2,_⟩
    ·exact .inr (h2 s' hs' _ hv)
    ·rw[h2]at hp; simp at hp
   ·exact .inr hv
  have inJ:q.1 ∈ (E j).nw\/ q.1 ∈ (E j).R:=by
   rcases (Rj.pP rj).1 q hq with hv|⟨s',hs',hv⟩|⟨hv,_⟩
   ·exact .inl hv
   ·rcases (Rj.pP rj).2.1 with h2|⟨h2,_⟩
    ·exact .inr (h2 s' hs' _ hv)
    ·rw[h2]at hq; simp at hq
   ·exact .inr hv
  rcases inJ with hw|hw
  ·rw[hn']at hw
   rcases ed with hv|hv
   ·have a1:=Ri.nw _ hv
    have a2:=Rj.nw _ hw
    rcases Nat.lt_or_gt_of_ne hij with hlt|hlt
    ·have:=h.lo (i:=i+1) (j:=j) (by omega) (by omega); omega
    ·have:=h.lo (i:=j+1) (j:=i) (by omega) (by omega); omega
   ·exact (k2 _ hv).1 (Rj.nw _ hw)
  ·rw[hn']at hw
   rcases Ri.wn p hp with hv|hv
   ·exact (k1 _ hw).1 (Ri.nw _ hv)
   ·exact (k1 _ hw).2 hv
theorem bt.runs(h:bt P X ops E S bO){i:Nat}{k:Nat}(hi:i<ops.size)(hg:gM E i k≠none):∃x,ops[i]? =some x/\(E i).run=true/\∃p ∈ (E i).ws,p.1=k:=by
 have ho:ops[i]? =some ops[i]:=Array.getElem?_eq_getElem hi
 have hp:=rP hg
 refine⟨_,ho,?_,hp⟩
 cases hr:(E i).run with
 |true=>rfl
 |false=>
  obtain⟨_,h2,_⟩:=(h.ok i _ ho).skip hr
  rw[h2]at hp
  simp at hp
theorem bt.Av(h:bt P X ops E S bO){i n:Nat}{x:Oper}(hx:ops[i]? =some x)(hr:(E i).run=true)(hw:∃p ∈ (E i).ws,p.1=n):¬Fl E bO i:=by
 intro ha
 unfold Fl lK at ha
 simp only[Bool.and_eq_true]at ha
 have:=((h.ok i x hx).YH hr (Nat.eq_of_beq_eq_true ha.1)).2
 rw[this]at hw
 simp at hw
theorem rQ:∀{ws:List (Nat × bf)}{k:Nat}{v:Option bf},uD ws k=some v->∃p ∈ ws,p.1=k/\v=some p.2
 |[],k,v,h=>by simp[uD]at h
 |(n,b)::r,k,v,h=>by
  simp only[uD]at h
  cases hw:uD r k with
  |some x=>
   rw[hw]at h
   obtain⟨p,h1,h2,h3⟩:=rQ (ws:=r) hw
   simp only[Option.some.injEq]at h
   exact⟨p,List.mem_cons_of_mem _ h1,h2,by rw[<-h]; exact h3⟩
  |none=>
   rw[hw]at h
   by_cases e:k=n
   ·simp[e]at h
    exact⟨_,List.mem_cons_self,e.symm,h.symm⟩
   ·simp[e]at h
theorem bt.shape(h:bt P X ops E S bO){j n:Nat}(ha:Fl E bO j)(hn:n ∈ (E j).R):∀(m:Nat),m<=ops.size->∀(L:Nat->Prop)[DecidablePred L],lens (fl (gM E) L m (aa S.M)) n=lens (aa S.M) n
 |0,_,L,_=>rfl
 |m+1,hm,L,_=>by
  have ih:=h.shape ha hn m (by omega) L
  simp only[fl]
  split
  ·cases hg:gM E m n with
   |none=>
    have e:ov (gM E m) (fl (gM E) L m (aa S.M)) n=fl (gM E) L m (aa S.M) n:=by simp[ov,hg]
    unfold lens at ih ⊢
    rw[e]; exact ih
   |some v=>
    obtain⟨p,hp,Ip,hv⟩:=rQ hg
    obtain⟨x,hx,vi,_⟩:=h.runs (i:=m) (k:=n) (by omega) (by rw[hg]; simp)
    have Rm:=h.ok m x hx
    have hall:∀y ∈ bO,n<y.lo/\(y.k=2\/ n ∉ y.W):=fun y hy=>by
     have ha:=ha
     unfold Fl lK at ha
     simp only[Bool.and_eq_true]at ha
     have h1:=List.all_eq_true.1 (List.all_eq_true.1 ha.2 y hy) n hn
     simp only[Bool.and_eq_true,Bool.or_eq_true,Bool.not_eq_true',List.any_eq_false]at h1
     refine⟨by simpa[Nat.blt_eq]using h1.1,h1.2.imp (fun h=>Nat.eq_of_beq_eq_true h) fun h hw=>h n hw (Nat.beq_refl n)⟩
    have hwn:=Rm.wn p hp
    rw[Ip]at hwn
    have hk2:(E m).k=2:=by
     rcases Rm.log vi with hl|⟨_,hW,hlo⟩
     ·obtain⟨h1,h2⟩:=hall _ hl
      simp only at h1 h2
      rcases hwn with hw|hw
      ·have:=Rm.nw n hw; omega
      ·exact h2.resolve_right fun h=>h hw
     ·simp only at hW hlo
      rcases hwn with hw|hw
      ·have:=Rm.nw n hw; omega
      ·rw[hW]at hw; simp at hw
    have hs:=Rm.sto vi hk2 p hp
    rw[Ip,<-h.sJ m (by omega),h.shape ha hn m (by omega) (fun _=>True)]at hs
    have e:ov (gM E m) (fl (gM E) L m (aa S.M)) n=some p.2:=by simp[ov,hg,hv]
    rw[hs]
    rw[aA]
    exact⟨p.2,e,rfl,rfl⟩
  ·exact ih
theorem bt.Lj(h:bt P X ops E S bO){i n:Nat}{x:Oper}(hx:ops[i]? =some x)(hr:(E i).run=true)(h3:(E i).k=3)(hw:∃p ∈ (E i).ws,p.1=n):False:=by
 rw[((h.ok i x hx).YI hr h3).2]at hw
 simp at hw
theorem bt.mem(h:bt P X ops E S bO){L:Nat->Prop}[DecidablePred L](hc:gK ops L){j:Nat}{o:Oper}(ho:ops[j]? =some o)(hj:¬L j)(hp:∀k,EN ops k j->L k)(hr:(E j).run=true)(nj:¬Fl E bO j)(n3:(E j).k≠3){n:Nat}(hn:n ∈ (E j).R):
  fl (gM E) L ops.size (aa S.M) n=aa (E j).M n:=by
 have Io:=(Array.getElem?_eq_some_iff.1 ho).1
 rw[<-h.sJ j (by omega),<-Fj (m:=ops.size) (by omega)]
 refine jc fun i hi hg=> ?_
 obtain⟨x,hx,vi,hk⟩:=h.runs hi hg
 by_cases hij:i=j
 ·subst hij; exact⟨fun h=>(hj h).elim,fun h=>by omega⟩
 rcases h.pair hx ho hij vi hr (h.Av hx vi hk) nj with hb|hb|hb|⟨hb,_⟩
 ·exact⟨fun _=>h.gL hb,fun _=>hb L hc hp⟩
 ·have:=h.gL hb
  exact⟨fun hl=>(hj (hb L hc (fun k hk=>hc k i hk hl))).elim,fun h=>by omega⟩
 ·rcases hb with⟨hb,_⟩|⟨_,hb⟩
  ·exact (h.Lj hx vi hb hk).elim
  ·exact (n3 hb).elim
 ·exact (hb n hk hn).elim
theorem bt.Mq(h:bt P X ops E S bO){L:Nat->Prop}(hc:gK ops L){j:Nat}(Io:j<ops.size)(hj:¬L j){k i:Nat}(hi:i<ops.size)(hij:i≠j)(h1:gM E j k≠none)(h2:gM E i k≠none)(hl:L i):i<j:=by
 obtain⟨x,hx,vi,hk⟩:=h.runs hi h2
 obtain⟨y,hy,Mr,hk'⟩:=h.runs Io h1
 rcases h.pair hx hy hij vi Mr (h.Av hx vi hk) (h.Av hy Mr hk')with hb|hb|hb|⟨_,hb⟩
 ·exact h.gL hb
 ·exact (hj (hb L hc (fun k hk=>hc k i hk hl))).elim
 ·rcases hb with⟨hb,_⟩|⟨_,hb⟩
  ·exact (h.Lj hx vi hb hk).elim
  ·exact (h.Lj hy Mr hb hk').elim
 ·exact (hb k hk hk').elim
theorem bt.view(h:bt P X ops E S bO){L:Nat->Prop}[DecidablePred L](hc:gK ops L){j:Nat}{o:Oper}(ho:ops[j]? =some o)(hj:¬L j)(hp:∀k,EN ops k j->L k)(hr:(E j).run=true)(nj:¬Fl E bO j)(h3:(E j).k=3){n:Nat}(hn:n ∈ (E j).R):
  Vw (fl (gM E) L ops.size (aa S.M) n)=Vw (aa (E j).M n):=by
 have Io:=(Array.getElem?_eq_some_iff.1 ho).1
 let T:Nat->Option bf:=fun m=>fl (gM E) (fun _=>True) m (aa S.M) n
 have hT:∀m,m<=ops.size->T m=aa (E m).M n:=fun m hm=>by rw[<-h.sJ m hm]
 have tS:∀m,gM E m n=none->T (m+1)=T m:=fun m hm=>by simp[T,fl,ov,hm]
 have lS:∀m,(L m->gM E m n=none)->fl (gM E) L (m+1) (aa S.M) n=fl (gM E) L m (aa S.M) n:=fun m hm=>by
  simp only[fl]
  split
  ·rename_i hl; simp[ov,hm hl]
  ·rfl
 have lT:∀m,L m->gM E m n≠none->fl (gM E) L (m+1) (aa S.M) n=T (m+1):=fun m hl hg=>by
  cases hv:gM E m n with
  |none=>exact (hg hv).elim
  |some v=>simp[T,fl,ov,hv,hl]
 have v4:∀m,m<ops.size->gM E m n≠none->(E m).k=4->Vw (T (m+1))=Vw (T m):=fun m hm hg h4=>by
  obtain⟨x,hx,vi,_⟩:=h.runs hm hg
  cases hv:gM E m n with
  |none=>exact (hg hv).elim
  |some v=>
   obtain⟨p,hp,Ip,hpv⟩:=rQ hv
   have:=(h.ok m x hx).Mp vi h4 p hp
   rw[Ip,<-hT m (by omega)]at this
   rw[this]
   simp[T,fl,ov,hv,hpv]
 have un:∀m,m<ops.size->m≠j->gM E m n≠none->iy ops m j\/ iy ops j m\/(E m).k=4:=fun m hm Fm hg=>by
  obtain⟨x,hx,vi,hk⟩:=h.runs hm hg
  rcases h.pair hx ho Fm vi hr (h.Av hx vi hk) nj with hb|hb|hb|⟨hb,_⟩
  ·exact .inl hb
  ·exact .inr (.inl hb)
  ·rcases hb with⟨hb,_⟩|⟨hb,_⟩
   ·exact (h.Lj hx vi hb hk).elim
   ·exact .inr (.inr hb)
  ·exact (hb n hk hn).elim
 have jn:gM E j n=none:=by
  cases hv:gM E j n with
  |none=>rfl
  |some v=>
   obtain⟨p,hp,Ip,_⟩:=rQ hv
   exact (h.Lj ho hr h3 ⟨p,hp,Ip⟩).elim
 have A:∀m,m<=j->Vw (fl (gM E) L m (aa S.M) n)=Vw (T m):=by
  intro m
  induction m with
  |zero=>intro _; rfl
  |succ m ih=>
   intro hm
   have ih:=ih (by omega)
   cases hv:gM E m n with
   |none=>rw[tS m hv,lS m (fun _=>hv)]; exact ih
   |some v=>
    have hg:gM E m n≠none:=by rw[hv]; simp
    by_cases hl:L m
    ·rw[lT m hl hg]
    ·rcases un m (by omega) (by omega) hg with hb|hb|h4
     ·exact (hl (hb L hc hp)).elim
     ·have:=h.gL hb; omega
     ·rw[v4 m (by omega) hg h4,lS m (fun h=>(hl h).elim)]; exact ih
 have B:∀m,j<m->m<=ops.size->Vw (fl (gM E) L m (aa S.M) n)=Vw (T j):=by
  intro m
  induction m with
  |zero=>intro h0; omega
  |succ m ih=>
   intro hm Rs
   by_cases e:m=j
   ·subst e
    rw[lS m (fun h=>(hj h).elim)]; exact A m (Nat.le_refl _)
   ·have ih:=ih (by omega) (by omega)
    by_cases hw:L m/\gM E m n≠none
    ·obtain⟨hl,hg⟩:=hw
     have m4:(E m).k=4:=by
      rcases un m (by omega) e hg with hb|hb|h4
      ·have:=h.gL hb; omega
      ·exact (hj (hb L hc (fun k hk=>hc k m hk hl))).elim
      ·exact h4
     rw[lT m hl hg,v4 m (by omega) hg m4]
     have C:∀q,j<=q->q<=m->Vw (T q)=Vw (T j):=by
      intro q
      induction q with
      |zero=>intro hq _; rw[show j=0 by omega]
      |succ q Xe=>
       intro hq hqm
       by_cases e2:q+1=j
       ·rw[e2]
       ·have Xe:=Xe (by omega) (by omega)
        cases hv:gM E q n with
        |none=>rw[tS q hv]; exact Xe
        |some v=>
         have Rt:gM E q n≠none:=by rw[hv]; simp
         by_cases e3:q=j
         ·rw[e3]at Rt; exact (Rt jn).elim
         ·obtain⟨x,hx,vi,hk⟩:=h.runs (i:=q) (by omega) Rt
          obtain⟨y,hy,Mr,hk'⟩:=h.runs (i:=m) (by omega) hg
          have hlq:L q:=by
           rcases h.pair hx hy (by omega) vi Mr (h.Av hx vi hk) (h.Av hy Mr hk')with hb|hb|hb|⟨_,hb⟩
           ·exact hb L hc (fun k hk=>hc k m hk hl)
           ·have:=h.gL hb; omega
           ·rcases hb with⟨hb,_⟩|⟨_,hb⟩
            ·exact (h.Lj hx vi hb hk).elim
            ·exact (h.Lj hy Mr hb hk').elim
           ·exact (hb n hk hk').elim
          have q4:(E q).k=4:=by
           rcases un q (by omega) e3 Rt with hb|hb|h4
           ·have:=h.gL hb; omega
           ·exact (hj (hb L hc (fun k hk=>hc k q hk hlq))).elim
           ·exact h4
          rw[v4 q (by omega) Rt q4]; exact Xe
     exact C m (by omega) (Nat.le_refl _)
    ·rw[lS m (fun hl=>Classical.not_not.1 fun hg=>hw ⟨hl,hg⟩)]; exact ih
 rw[B ops.size Io (Nat.le_refl _),hT j (by omega)]
def NL(m:Nat)(E:Nat->Ar)(S:St)(L:Nat->Prop):Nat->Prop:=fun n=>n<S.nx\/∃i,(i<m/\L i)/\n ∈ (E i).nw
structure sK(X:bM)(ops:Array Oper)(E:Nat->Ar)(S:St)(L:Nat->Prop)[DecidablePred L](ρ:Place)(I:Nat->Prop)(a:Act)(w:World):Prop where
 W:bZ X ρ I (fl (gM E) L ops.size (aa S.M)) (NL ops.size E S L) w
 rep:∀s,aM ρ (lens (fl (gM E) L ops.size (aa S.M))) I w (NL ops.size E S L) (fl (gF ops E) L ops.size (look S.F) s) (a.tmps.getD s undef)
 defers:lL I w X a.defers
 size:a.tmps.size=X.size
def pU(all ops:Array Oper):Prop:=∀(j:Nat)(o:Oper),ops[j]? =some o->all[j]? =some o
theorem CK{all:Array Oper}(hall:pU all ops){o:Oper}{a:Act}{F:aT}{r:Bool}(hg:mS ops o F r)(hs:∀s ∈ o.looksAt ops,∃ρ L I w N,aM ρ L I w N (look F s) (a.tmps.getD s undef)):Region.wanted o (yielded all a.tmps)=r:=by
 unfold mS at hg
 cases Ru:o.guard with
 |none=>rw[Ru]at hg; simp only at hg; simp[Region.wanted,Ru,hg]
 |some p=>
  obtain⟨j,want⟩:=p
  rw[Ru]at hg
  obtain⟨s,hd,hv⟩:=hg
  have dK:s ∈ o.looksAt ops:=by
   simp only[Oper.looksAt,Ru,hd,List.mem_append]
   right; simp
  obtain⟨ρ,L,I,w,N,hr⟩:=hs s dK
  have hd:(all[j]?).bind (·.dst)=some s:=by
   cases hj:ops[j]? with
   |none=>rw[hj]at hd; simp at hd
   |some x=>rw[hall j x hj,<-hj]; exact hd
  have hy:=sG (tmps:=a.tmps) hd
  have hw:Region.wanted o (yielded all a.tmps)=(yielded all a.tmps j==some want):=by simp[Region.wanted,Ru]
  have vb:∀b,look F s= .bool b->yielded all a.tmps j=some b:=fun b hb=>by
   rw[hb]at hr
   have hv:=gh hr
   have hg:a.tmps[s]? =some (.bool b):=by
    rw[Array.getD_eq_getD_getElem?]at hv
    cases hh:a.tmps[s]? with
    |none=>rw[hh]at hv; simp[undef]at hv
    |some v=>rw[hh]at hv; simpa using hv
   rw[hy,hg]
  rcases hv with⟨rfl,hv⟩|⟨rfl,hv|hv⟩
  ·rw[hw,vb _ hv]; simp
  ·rw[hw,vb _ hv]; cases want<;>rfl
  ·rw[hv]at hr
   generalize Xf:a.tmps.getD s undef=v at hr
   cases hr with
   |aG _ us hle _=>
    have CM:us=[]:=List.eq_nil_of_length_eq_zero (by simpa using hle)
    subst CM
    have Mj:yielded all a.tmps j=none:=by
     rw[hy]
     cases ht:a.tmps[s]? with
     |none=>rfl
     |some v=>
      rw[Array.getD_eq_getD_getElem?,ht]at Xf
      simp at Xf
      rw[Xf]
    rw[hw,Mj]; rfl
theorem bt.step{all:Array Oper}(hall:pU all ops)(h:bt P X ops E S bO){L:Nat->Prop}[DecidablePred L](hc:gK ops L){j:Nat}{o:Oper}(ho:ops[j]? =some o)(hj:¬L j)(hp:∀k,EN ops k j->L k)
  {ρ:Place} {I:Nat->Prop} {a:Act} {w:World} (D:sK X ops E S L ρ I a w) {b:Frame} {rest:List Nat} {k:List Item} {cs:List Frame}:
  ∃a' w' ρ' I',Steps P (lone (b.atR a (.inRegion all (j::rest)::k)) cs w) (lone (b.atR a' (.inRegion all rest::k)) cs w')/\sK X ops E S (fun i=>i=j\/ L i) ρ' I' a' w':=by
 have Io:=(Array.getElem?_eq_some_iff.1 ho).1
 have R:=h.ok j o ho
 have dK:∀s ∈ o.looksAt ops,aM ρ (lens (fl (gM E) L ops.size (aa S.M))) I w (NL ops.size E S L) (look (E j).F s) (a.tmps.getD s undef):=fun s hs=>by
  rw[<-h.slot hc ho hj hp hs]; exact D.rep s
 have CM:∀s ∈ dr o.op,s ∈ o.looksAt ops:=fun s hs=>by
  simp only[Oper.looksAt,List.mem_append]
  left
  unfold dr at hs
  generalize o.op.operands.toList=l at hs
  induction l with
  |nil=>simp[nJ]at hs
  |cons x r ih=>
   cases x with
   |tmp t=>
    simp only[nJ,List.mem_cons]at hs
    rcases hs with rfl|hs
    ·simp
    ·simp[ih hs]
   |_=>simpa[nJ]using ih (by simpa[nJ]using hs)
 have hw:=CK hall R.guard (a:=a) (fun s hs=>⟨_,_,_,_,_,dK s hs⟩)
 have pV:=h.size j o ho
 have Lk:∀s,fl (gF ops E) (fun i=>i=j\/ L i) ops.size (look S.F) s=if o.dst=some s then (E j).av else fl (gF ops E) L ops.size (look S.F) s:=fun s=>by
  rw[Aq (L:=L) (fun i=>Iff.rfl) hj Io (fun i hi hij h1 h2 hl=>h.IJ hc ho hj hij h1 h2 hl)]
  simp only[gF,ho,Option.bind_some]
  cases hd:o.dst with
  |none=>simp[uE]
  |some d=>
   by_cases e:d=s
   ·subst e; simp[uE]
   ·have e':¬s=d:=fun h=>e h.symm
    simp[uE,e,e']
 have Fp:fl (gM E) (fun i=>i=j\/ L i) ops.size (aa S.M)=cX (fl (gM E) L ops.size (aa S.M)) (E j).ws:=by
  funext n
  rw[Aq (L:=L) (fun i=>Iff.rfl) hj Io (fun i hi hij h1 h2 hl=>h.Mq hc Io hj hi hij h1 h2 hl),mT]
  rfl
 cases hr:(E j).run with
 |true=>
  rw[hr]at hw
  have hd:=R.pP hr
  have hy:bJ P X o a (fl (gM E) L ops.size (aa S.M)) (NL ops.size E S L) ρ I w (E j).av (E j).ws:=by
   rcases hd.2.1 with hd2|⟨Aw,hfree⟩
   rotate_left
   ·rw[Aw]
    exact hfree _ _ ρ I a w D.W (fun s hs=>dK s (CM s hs))
   by_cases hA:Fl E bO j
   ·have YL:=hA
    unfold Fl lK at YL
    simp only[Bool.and_eq_true]at YL
    obtain⟨hl,Aw⟩:=R.YH hr (Nat.eq_of_beq_eq_true YL.1)
    rw[Aw]
    exact hl _ _ ρ I a w D.W (fun s hs=>dK s (CM s hs)) (fun s hs n hn=>by
     have hn':=hd2 s hs n hn
     rw[h.shape hA hn' ops.size (Nat.le_refl _) L,<-h.sJ j (by omega),h.shape hA hn' j (by omega) (fun _=>True)])
   ·by_cases h3:(E j).k=3
    ·obtain⟨hl,Aw⟩:=R.YI hr h3
     rw[Aw]
     exact hl _ _ ρ I a w D.W (fun s hs=>dK s (CM s hs)) (fun s hs n hn=>h.view hc ho hj hp hr hA h3 (hd2 s hs n hn))
    exact hd.2.2 (fl (gM E) L ops.size (aa S.M)) (NL ops.size E S L) ρ I a w D.W (fun s hs=>dK s (CM s hs)) (fun n hn=>h.mem hc ho hj hp hr hA h3 hn) (fun n hn hN=>by
     have a1:=R.nw n hn
     rcases hN with hN|⟨i,hl,hN⟩
     ·have:=h.lo (i:=0) (j:=j) (by omega) (by omega); have:=h.YK; omega
     ·have hij:i≠j:=fun e=>hj (e ▸ hl.2)
      have a2:=(h.ok i _ (Array.getElem?_eq_getElem hl.1)).nw n hN
      rcases Nat.lt_or_gt_of_ne hij with hlt|hlt
      ·have:=h.lo (i:=i+1) (j:=j) (by omega) (by omega); omega
      ·have:=h.lo (i:=j+1) (j:=i) (by omega) (by omega); omega)
  obtain⟨v,w1,⟨ρ1,I1,Ev,W1,R1⟩,hst⟩:=wG (b:=b) (rest:=rest) (k:=k) (cs:=cs) (hall _ _ ho) hw hy
  have hN:∀m,fR (NL ops.size E S L) (E j).ws m->NL ops.size E S (fun i=>i=j\/ L i) m:=by
   rintro m (hm|⟨bb,hm⟩)
   ·rcases hm with hm|⟨i,hl,hm⟩
    ·exact .inl hm
    ·exact .inr ⟨i,⟨hl.1,.inr hl.2⟩,hm⟩
   ·have hm0:=hm
    rcases hd.1 _ hm with hm|⟨s,hs,hm⟩|⟨hm,hne⟩
    ·exact .inr ⟨j,⟨Io,.inl rfl⟩,hm⟩
    ·rcases kf (dK s (CM s hs)) m hm with hm|⟨i,hl,hm⟩
     ·exact .inl hm
     ·exact .inr ⟨i,⟨hl.1,.inr hl.2⟩,hm⟩
    ·have hA:¬Fl E bO j:=h.Av ho hr ⟨_,hm0,rfl⟩
     have n3:(E j).k≠3:=fun h3=>h.Lj ho hr h3 ⟨_,hm0,rfl⟩
     have e:=h.mem hc ho hj hp hr hA n3 hm
     cases hb:fl (gM E) L ops.size (aa S.M) m with
     |none=>rw[hb]at e; exact (hne e.symm).elim
     |some b=>
      rcases (D.W.aS m b hb).lt with hm|⟨i,hl,hm⟩
      ·exact .inl hm
      ·exact .inr ⟨i,⟨hl.1,.inr hl.2⟩,hm⟩
  refine⟨_,w1,ρ1,I1,hst,?_,fun s=> ?_,?_,?_⟩
  ·rw[Fp]; exact W1.sI hN
  ·rw[Fp,Lk,xR D.size pV]
   by_cases e:o.dst=some s
   ·rw[if_pos e,if_pos e]; exact R1.wide hN
   ·rw[if_neg e,if_neg e]; exact ((D.rep s).rK Ev (fun _ h=>h)).wide (fun m hm=>hN m (.inl hm))
  ·cases o.dst<;>exact D.defers.rK Ev
  ·cases QC:o.dst with
   |none=>exact D.size
   |some x=>simpa[Act.put]using D.size
 |false=>
  rw[hr]at hw
  obtain⟨s1,s2,s3⟩:=R.skip hr
  have BV:fl (gM E) (fun i=>i=j\/ L i) ops.size (aa S.M)=fl (gM E) L ops.size (aa S.M):=by rw[Fp,s2]; rfl
  have hN:∀m,NL ops.size E S L m->NL ops.size E S (fun i=>i=j\/ L i) m:=by
   rintro m (hm|⟨i,hl,hm⟩)
   ·exact .inl hm
   ·exact .inr ⟨i,⟨hl.1,.inr hl.2⟩,hm⟩
  have hst:=stepR_op_skip (P:=P) (b:=b) (a:=a) (k:=k) (cs:=cs) (w:=w) (ops:=all) (i:=j) (rest:=rest) (by simp[hall _ _ ho,hw])
  simp only[hall _ _ ho,Option.bind_some]at hst
  refine⟨_,w,ρ,I,.one hst,?_,fun s=> ?_,?_,?_⟩
  ·rw[BV]; exact D.W.sI hN
  ·rw[BV,Lk,xR D.size pV]
   by_cases e:o.dst=some s
   ·rw[if_pos e,if_pos e,s1]; exact .aG [] [] rfl (fun j hj=>by simp at hj)
   ·rw[if_neg e,if_neg e]; exact (D.rep s).wide hN
  ·cases o.dst<;>exact D.defers
  ·cases QC:o.dst with
   |none=>exact D.size
   |some x=>simpa[Act.put]using D.size
end
end Go.AM
namespace Go.AM
open Go.RowKit
structure PT(P:Program)(T:TT):Prop where
 tt:cO P T
 mix:P.follows .mixedOrders=true
variable {P:Program} {T:TT} {X:bM}
def Good(ops:Array Oper):(Nat->Prop)->List Nat->Prop
 |L,[]=>∀i,i<ops.size->L i
 |L,i::r=>i<ops.size/\¬L i/\(∀k,EN ops k i->L k)/\Good ops (fun x=>x=i\/ L x) r
theorem Good.congr{ops:Array Oper}:∀{is:List Nat}{L L':Nat->Prop},(∀i,L i↔L' i)->Good ops L is->Good ops L' is
 |[],L,L',h,g=>fun i hi=>(h i).1 (g i hi)
 |i::r,L,L',h,g=>⟨g.1,fun hl=>g.2.1 ((h i).2 hl),fun k hk=>(h k).1 (g.2.2.1 k hk),Good.congr (fun x=>by rw[h x]) g.2.2.2⟩
def cnt(m:Nat)(f:Nat->Bool):Nat:=(List.range m).countP f
theorem BW{f g:Nat->Bool}{i:Nat}:∀{m:Nat},i<m->f i=true->g i=false->(∀k,k≠i->g k=f k)->cnt m g+1=cnt m f
 |0,h,_,_,_=>by omega
 |m+1,h,hf,hg,he=>by
  simp only[cnt,List.range_succ,List.countP_append,List.countP_singleton]
  by_cases e:i=m
  ·subst e
   have h1:List.countP g (List.range i)=List.countP f (List.range i):=List.countP_congr (fun k hk=>by
    rw[he k (by have:=List.mem_range.1 hk; omega)])
   rw[h1,hf,hg]; simp
  ·have ih:=BW (m:=m) (by omega) hf hg he
   simp only[cnt]at ih
   rw[he m (fun h=>e h.symm)]
   omega
theorem wJ{ops:Array Oper}(BX:∀i j,EN ops i j->i<j){listed:Array Bool}(hr:(List.range ops.size).filter (fun i=>
  !listed.getD i true&&((ops[i]?).map (·.after.all fun e=> !Region.binds .any e||listed.getD e.on false)).getD false)=[])(hsz:listed.size=ops.size):∀i,i<ops.size->listed.getD i false=true:=by
 intro i
 induction i using Nat.strongRecOn with
 |ind i ih=>
  intro hi
  have h1:=List.filter_eq_nil_iff.1 hr i (List.mem_range.2 hi)
  rw[Array.getElem?_eq_getElem hi]at h1
  simp only[Option.map_some,Option.getD_some,Bool.and_eq_true,not_and]at h1
  cases hl:listed.getD i false with
  |true=>rfl
  |false=>
   have oB:listed.getD i true=false:=by
    rw[Array.getD_eq_getD_getElem?,Array.getElem?_eq_getElem (by omega)]at hl ⊢
    simpa using hl
   refine absurd ?_ (h1 (by rw[oB]; rfl))
   rw[Array.all_eq_true']
   intro e he
   cases hb:Region.binds .any e with
   |false=>rfl
   |true=>
    have hlt:=BX e.on i ⟨ops[i],e,Array.getElem?_eq_getElem hi,by simpa using he,hb,rfl⟩
    rw[ih e.on hlt (by omega)]
    rfl
theorem xS{ops:Array Oper}(BX:∀i j,EN ops i j->i<j):∀(fuel t:Nat)(listed:Array Bool),listed.size=ops.size->cnt ops.size (fun i=> !listed.getD i true)<=fuel->Good ops (fun i=>listed.getD i false=true) (Region.linearise.go .any ops fuel t listed [])
 |0,t,listed,hsz,hc=>by
  simp only[Region.linearise.go,List.reverse_nil,Good]
  intro i hi
  have h0:cnt ops.size (fun i=> !listed.getD i true)=0:=by omega
  have:=List.countP_eq_zero.1 h0 i (List.mem_range.2 hi)
  rw[Array.getD_eq_getD_getElem?,Array.getElem?_eq_getElem (by omega)]at this ⊢
  simpa using this
 |fuel+1,t,listed,hsz,hc=>by
  simp only[Region.linearise.go]
  generalize hrs:(List.range ops.size).filter (fun i=>
   !listed.getD i true&&((ops[i]?).map (·.after.all fun e=> !Region.binds .any e||listed.getD e.on false)).getD false)=rs
  cases hi:rs[t % rs.length]? with
  |none=>
   have hnil:rs=[]:=by
    cases rs with
    |nil=>rfl
    |cons x xs=>
     have hlt:t % (x::xs).length< (x::xs).length:=Nat.mod_lt _ (by simp)
     rw[List.getElem?_eq_getElem hlt]at hi
     simp at hi
   subst hnil
   simp only[List.reverse_nil,Good]
   exact wJ BX hrs hsz
  |some i=>
   simp only
   rw[linearise_go_acc,List.reverse_singleton,List.singleton_append]
   have hm:i ∈ rs:=List.mem_of_getElem? hi
   rw[<-hrs,List.mem_filter,List.mem_range]at hm
   obtain⟨him,hb⟩:=hm
   simp only[Bool.and_eq_true,Bool.not_eq_true']at hb
   obtain⟨hl,hb⟩:=hb
   rw[Array.getElem?_eq_getElem him]at hb
   simp only[Option.map_some,Option.getD_some]at hb
   have hlf:listed.getD i false=false:=by
    rw[Array.getD_eq_getD_getElem?,Array.getElem?_eq_getElem (by omega)]at hl ⊢
    simpa using hl
   have IH:∀x (d:Bool),x≠i->(listed.setIfInBounds i true).getD x d=listed.getD x d:=fun x d hx=>by
    rw[Array.getD_eq_getD_getElem?,Array.getElem?_setIfInBounds_ne (by omega),<-Array.getD_eq_getD_getElem?]
   have Ll:∀d:Bool,(listed.setIfInBounds i true).getD i d=true:=fun d=>by
    rw[Array.getD_eq_getD_getElem?,Array.getElem?_setIfInBounds_self_of_lt (by omega)]; rfl
   refine⟨him,by show ¬ (listed.getD i false=true); rw[hlf]; simp,?_,?_⟩
   ·rintro k ⟨o,e,ho,he,Mo,rfl⟩
    rw[Array.getElem?_eq_getElem him]at ho
    cases ho
    have:=(Array.all_eq_true'.1 hb) e (by simpa using he)
    rw[Mo]at this
    simpa using this
   ·refine Good.congr (fun x=> ?_) (xS BX fuel (t / rs.length) (listed.setIfInBounds i true) (by simpa using hsz) ?_)
    ·by_cases e:x=i
     ·subst e; simp[Ll]
     ·simp[IH x false e,e]
    ·have:=BW (m:=ops.size) (i:=i) (f:=fun i=> !listed.getD i true) (g:=fun x=> !(listed.setIfInBounds i true).getD x true) him (by simp[hl]) (by simp[Ll]) (fun k hk=>by simp[IH k true hk])
     omega
section
variable {ops:Array Oper} {E:Nat->Ar} {S:St} {bO:List ga}
theorem bt.walk{all:Array Oper}(hall:pU all ops)(h:bt P X ops E S bO){tl:List Nat}{b:Frame}{k:List Item}{cs:List Frame}:∀(is:List Nat)(L:Nat->Prop)[DecidablePred L],Good ops L is->gK ops L->∀{ρ:Place}{I:Nat->Prop}{a:Act}{w:World},sK X ops E S L ρ I a w->
  ∃a' w' ρ' I',Steps P (lone (b.atR a (.inRegion all (is++tl)::k)) cs w) (lone (b.atR a' (.inRegion all tl::k)) cs w')/\sK X ops E S (fun _=>True) ρ' I' a' w'
 |[],L,_,hg,hc,ρ,I,a,w,D=>by
  refine⟨a,w,ρ,I,.refl _ _,?_⟩
  have eF:fl (gF ops E) (fun _=>True) ops.size (look S.F)=fl (gF ops E) L ops.size (look S.F):=by
   funext k; exact jc (fun i hi _=>⟨fun _=>hg i hi,fun _=>trivial⟩)
  have eM:fl (gM E) (fun _=>True) ops.size (aa S.M)=fl (gM E) L ops.size (aa S.M):=by
   funext k; exact jc (fun i hi _=>⟨fun _=>hg i hi,fun _=>trivial⟩)
  have hN:∀m,NL ops.size E S L m->NL ops.size E S (fun _=>True) m:=by
   rintro m (hm|⟨i,hl,hm⟩)
   ·exact .inl hm
   ·exact .inr ⟨i,⟨hl.1,trivial⟩,hm⟩
  exact⟨by rw[eM]; exact D.W.sI hN,fun s=>by rw[eM,eF]; exact (D.rep s).wide hN,D.defers,D.size⟩
 |i::r,L,_,hg,hc,ρ,I,a,w,D=>by
  obtain⟨him,hnl,hp,ur⟩:=hg
  have uC:gK ops (fun x=>x=i\/ L x):=by
   rintro x y hd (rfl|hl)
   ·exact .inr (hp x hd)
   ·exact .inr (hc x y hd hl)
  obtain⟨a1,w1,ρ1,I1,h1,D1⟩:=h.step hall hc (Array.getElem?_eq_getElem him) hnl hp D (b:=b) (rest:=r++tl) (k:=k) (cs:=cs)
  obtain⟨a2,w2,ρ2,I2,h2,D2⟩:=h.walk hall (tl:=tl) r _ ur uC D1
  exact⟨a2,w2,ρ2,I2,h1.trans h2,D2⟩
end
def IL(all:Array Oper)(m:Nat):Prop:=∀j,m<=j->j<all.size->∀i,i<j->iy all i j
theorem Good.tail{all:Array Oper}{m0:Nat}(hT:IL all m0):∀(is:List Nat)(m:Nat)(L:Nat->Prop),m0<=m->m<=all.size->gK all L->(∀i,L i↔i<m)->Good all L is->is=List.range' m (all.size - m)
 |[],m,L,_,hm,_,hL,g=>by
  have:all.size<=m:=by
   rcases Nat.lt_or_ge m all.size with h|h
   ·have:=(hL m).1 (g m h); omega
   ·exact h
  rw[show all.size - m=0 by omega]; rfl
 |i::r,m,L,h0,hm,hc,hL,g=>by
  obtain⟨g1,g2,g3,g4⟩:=g
  have hmi:m<=i:=by
   rcases Nat.lt_or_ge i m with h|h
   ·exact (g2 ((hL i).2 h)).elim
   ·exact h
  have e:i=m:=by
   rcases Nat.lt_or_ge m i with h|h
   ·have:=(hL m).1 (hT i (by omega) g1 m h L hc g3); omega
   ·omega
  subst e
  have uC:gK all (fun x=>x=i\/ L x):=by
   rintro x y hd (rfl|hl)
   ·exact .inr (g3 x hd)
   ·exact .inr (hc x y hd hl)
  rw[show all.size - i=(all.size - (i+1))+1 by omega,List.range'_succ]
  rw[Good.tail hT r (i+1) _ (by omega) (by omega) uC (fun x=>by rw[hL x]; omega) g4]
theorem Good.split{all ops:Array Oper}(hall:pU all ops)(hT:IL all ops.size)(hsz:ops.size<=all.size):∀(is:List Nat)(L:Nat->Prop),gK all L->(∀i,L i->i<ops.size)->Good all L is->∃s1,is=s1++List.range' ops.size (all.size - ops.size)/\Good ops L s1
 |[],L,hc,hL,g=>by
  have:all.size<=ops.size:=by
   rcases Nat.lt_or_ge ops.size all.size with h|h
   ·have:=hL _ (g ops.size h); omega
   ·exact h
  exact⟨[],by rw[show all.size - ops.size=0 by omega]; rfl,fun i hi=>g i (by omega)⟩
 |i::r,L,hc,hL,g=>by
  have g0:=g
  obtain⟨g1,g2,g3,g4⟩:=g
  have uC:gK all (fun x=>x=i\/ L x):=by
   rintro x y hd (rfl|hl)
   ·exact .inr (g3 x hd)
   ·exact .inr (hc x y hd hl)
  rcases Nat.lt_or_ge i ops.size with hi|hi
  ·obtain⟨s1,h1,h2⟩:=Good.split hall hT hsz r _ uC (fun x hx=>hx.elim (fun e=>e ▸ hi) (hL x)) g4
   refine⟨i::s1,by rw[h1]; rfl,hi,g2,fun k hk=>g3 k ?_,h2⟩
   obtain⟨o,e,ho,he⟩:=hk
   exact⟨o,e,hall _ _ ho,he⟩
  ·have hin:∀x,x<i->L x:=fun x hx=>hT i hi g1 x hx L hc g3
   have e:i=ops.size:=by
    rcases Nat.lt_or_ge ops.size i with h|h
    ·have:=hL _ (hin _ h); omega
    ·omega
   refine⟨[],?_,fun x hx=>hin x (by omega)⟩
   rw[List.nil_append]
   exact Good.tail hT (i::r) ops.size L (Nat.le_refl _) hsz hc (fun x=>⟨hL x,fun h=>hin x (by omega)⟩) g0
theorem vj(hT:PT P T){all ops:Array Oper}(hall:pU all ops)(Lm:IL all ops.size)(hsz:ops.size<=all.size)(hbk:∀i j,EN all i j->i<j){S:St}{E:Nat->Ar}{bO:List ga}(wK:bt P X ops E S bO)
  {a:Act} {w:World} (hS:hY X S a w) {b:Frame} {k:List Item} {id:Nat} {F:aT} {M:Mem} {nx:Nat} (e1:look F=look (E (max 0 ops.size)).F) (e2:aa M=aa (E (max 0 ops.size)).M) (e3:nx=(E (max 0 ops.size)).lo):
  ∀cs,∃a' w',hY X ⟨F,M,nx⟩ a' w'/\Steps P (lone (b.atR a (.code (.region id all true)::k)) cs w) (lone (b.atR a' (.inRegion all (List.range' ops.size (all.size - ops.size))::k)) cs w'):=by
 intro cs
 obtain⟨ρ,I,W,FO⟩:=hS
 have Fq:Good all (fun _=>False) (Region.schedule (P.follows .mixedOrders) all (w.tape w.drawn (.order b.fn id))):=by
  rw[hT.mix]
  simp only[Region.schedule,Bool.true_or,if_true,Region.linearise]
  have:=xS hbk all.size (w.tape w.drawn (.order b.fn id)) (Array.replicate all.size false) (by simp) (by
   have:=List.countP_le_length (l:=List.range all.size) (p:=fun i=> !(Array.replicate all.size false).getD i true)
   simpa[cnt]using this)
  refine this.congr (fun i=> ?_)
  by_cases hi:i<all.size<;>simp[Array.getD,hi]
 obtain⟨s1,hs1,Fq⟩:=Good.split hall Lm hsz _ _ (fun _ _ _ h=>h) (fun _ h=>h.elim) Fq
 have D0:sK X ops E S (fun _=>False) ρ I a w.drew:=by
  have eF:fl (gF ops E) (fun _=>False) ops.size (look S.F)=look S.F:=by
   generalize ops.size=m
   induction m with
   |zero=>rfl
   |succ m ih=>simpa[fl]using ih
  have eM:fl (gM E) (fun _=>False) ops.size (aa S.M)=aa S.M:=by
   generalize ops.size=m
   induction m with
   |zero=>rfl
   |succ m ih=>simpa[fl]using ih
  have hN:∀m,m<S.nx->NL ops.size E S (fun _=>False) m:=fun m hm=> .inl hm
  refine⟨by rw[eM]; exact (W.drew).sI hN,fun s=> ?_,FO.defers,FO.size⟩
  rw[eM,eF]
  have E1:=(W.ext (w':=w.drew) rfl rfl rfl (Nat.le_refl _) (fun _ _=>rfl) (fun _ h=>h) W.lt (fun _ _ h=>h)).1
  exact ((FO.rep s).rK E1 (fun _ h=>h)).wide hN
 obtain⟨a',w',ρ',I',hst,D'⟩:=wK.walk hall (tl:=List.range' ops.size (all.size - ops.size)) (b:=b) (k:=k) (cs:=cs) _ _ Fq (fun _ _ _ h=>h) D0
 refine⟨a',w',⟨ρ',I',?_,?_⟩,?_⟩
 ·have:=D'.W
  rw[wK.sJ ops.size (Nat.le_refl _)]at this
  show bZ X ρ' I' (aa M) (· <nx) w'
  rw[e2,Nat.zero_max]
  refine this.sI ?_
  rintro m (hm|⟨i,hl,hm⟩)
  ·have:=wK.lo (i:=0) (j:=ops.size) (by omega) (Nat.le_refl _)
   rw[wK.YK]at this
   rw[Nat.zero_max]at e3
   show m<nx
   omega
  ·have h1:=((wK.ok i _ (Array.getElem?_eq_getElem hl.1)).nw m hm).2
   have h2:=wK.lo (i:=i+1) (j:=ops.size) (by omega) (Nat.le_refl _)
   rw[Nat.zero_max]at e3
   show m<nx
   omega
 ·refine⟨fun s=> ?_,D'.defers,D'.size⟩
  have:=D'.rep s
  rw[wK.sJ ops.size (Nat.le_refl _),wK.Fk ops.size (Nat.le_refl _)]at this
  show aM ρ' (lens (aa M)) I' w' (· <nx) (look F s) _
  rw[e1,e2,Nat.zero_max]
  refine this.wide ?_
  rintro m (hm|⟨i,hl,hm⟩)
  ·have:=wK.lo (i:=0) (j:=ops.size) (by omega) (Nat.le_refl _)
   rw[wK.YK]at this
   rw[Nat.zero_max]at e3
   show m<nx
   omega
  ·have h1:=((wK.ok i _ (Array.getElem?_eq_getElem hl.1)).nw m hm).2
   have h2:=wK.lo (i:=i+1) (j:=ops.size) (by omega) (Nat.le_refl _)
   rw[Nat.zero_max]at e3
   show m<nx
   omega
 ·rw[<-hs1]at hst
  exact .head stepR_region_draw hst
theorem Fs(hT:PT P T){ops:Array Oper}{S:St}{E:Nat->Ar}{bO:List ga}(wK:bt P X ops E S bO)
  {a:Act} {w:World} (hS:hY X S a w) {b:Frame} {k:List Item} {id:Nat} {F:aT} {M:Mem} {nx:Nat} (e1:look F=look (E (max 0 ops.size)).F) (e2:aa M=aa (E (max 0 ops.size)).M) (e3:nx=(E (max 0 ops.size)).lo):
  ∀cs,∃a' w',hY X ⟨F,M,nx⟩ a' w'/\Steps P (lone (b.atR a (.code (.region id ops true)::k)) cs w) (lone (b.atR a' k) cs w'):=by
 intro cs
 obtain⟨a',w',h1,h2⟩:=vj hT (fun _ _ h=>h) (fun j h1 h2=>by omega) (Nat.le_refl _) (fun i j=>wK.dir) wK hS (b:=b) (k:=k) (id:=id) e1 e2 e3 cs
 rw[show ops.size - ops.size=0 by omega]at h2
 exact⟨a',w',h1,h2.trans (.one stepR_region_end)⟩
end Go.AM
