/- Of the reckoning machine, and what is proved with it: texts joined by program. -/
import Derived.WalkKit
import Derived.WalkSpells
import Derived.WalkLawsBesides
import Derived.Lib.Strings
import Derived.Deep.AppendSrc
import Derived.Deep.Upon
set_option linter.all false
namespace Go.AM
open Go.RowKit
inductive Gl where
 |fn (f:Nat)
 |lp (l:Nat) (tm:List Value)
 deriving Inhabited
inductive AV where
 |int (k:IntKind) (n:Int)
 |bool (b:Bool)
 |str (s:List UInt8)
 |bM
 |ai
 |aw
 |ep
 |cj
 |loc (n len i off:Nat)
 |aV (n len:Nat)
 |eD (n len i off cr:Nat)
 |aD (sz:Nat) (es:List (List AV))
 |bz (e:List AV) (off:Nat)
 |omap (n:Nat)
 |nE (n r:Nat)
 |ce (f:Gl) (aZ:List AV)
 |agg (cs:List AV)
 |aQ (vs:List AV)
 |bad
 deriving Inhabited
inductive Dn where
 |b (x:Bool)
 |it (r:Nat) (sn:List Bool) (la:Option Nat)
instance:Coe Bool Dn:=⟨.b⟩
def Dn.all:Dn->Bool
 | .b x=>x
 | .it _ _ _=>false
def Dn.up:Dn->Dn
 | .b x=> .b x
 | .it _ _ _=> .b false
def Dn.dl(i:Nat):Dn->Dn
 | .b _=> .b false
 | .it r sn _=> .it r (sn.eraseIdx i) none
theorem Dn.all_eq{d:Dn}(h:d.all=true):d= .b true:=by
 cases d with
 |b x=>exact congrArg Dn.b h
 |it=>exact Bool.noConfusion h
theorem Dn.Gm{d:Dn}:d.up.all=d.all:=by cases d<;>rfl
theorem Dn.Gn{d:Dn}{r:Nat}{sn:List Bool}{la:Option Nat}:d.up≠ .it r sn la:=by cases d<;>exact fun h=>by cases h
def F9(w:World)(g r:Nat)(sn:List Bool)(la:Option Nat):Prop:=
 ∃en ck since seen,w.heap[g]? =some (.map en ck)/\w.heap[r]? =some (.mapIter (some g) since seen ck)/\since<=ck/\(∀x ∈ en.toList,x.born<since)/\sn=en.toList.map (fun e=>seen.contains e.born)/\∀i,la=some i->∃e,en[i]? =some e/\seen.back?=some e.born
theorem F9.at{w w':World}{g r:Nat}{sn:List Bool}{la:Option Nat}(h:F9 w g r sn la)(h1:w'.heap[g]? =w.heap[g]?)(h2:w'.heap[r]? =w.heap[r]?):F9 w' g r sn la:=by
 obtain⟨en,ck,since,seen,k1,k2,k3⟩:=h
 exact⟨en,ck,since,seen,h1.trans k1,h2.trans k2,k3⟩
theorem F9.lt{w:World}{g r:Nat}{sn:List Bool}{la:Option Nat}(h:F9 w g r sn la):r<w.heap.size:=by
 obtain⟨en,ck,since,seen,k1,k2,k3⟩:=h
 exact (Array.getElem?_eq_some_iff.1 k2).1
structure bD where
 ty:Nat
 sz:Nat
 es:List (List AV)
 mp:Option (Nat × Bool × Bool × Dn)
def bD.ln(b:bD):Nat:=match b.mp with
 |none=>b.es.length
 |some _=>0
abbrev Mem:=List (Nat × bD)
abbrev bh:=List (Nat × AV)
def ab:Mem->Nat->Option bD
 |[],_=>none
 |(m,b)::r,n=>bif n==m then some b else ab r n
def look:bh->Nat->AV
 |[],_=> .bad
 |(j,v)::r,i=>bif i==j then v else look r i
abbrev Place:=Nat->Option (Nat × Nat)
abbrev bi:=Nat->Option (Nat × Nat)
def cW:Nat->Prop:=fun _=>False
abbrev bA:=Nat->Option bD
def lens(M:bA):bi:=fun n=>(M n).map fun b=>(b.ln,b.sz)
inductive aP(ρ:Place)(L:bi)(I:Nat->Prop)(w:World):(Nat->Prop)->AV->Value->Prop
 |int {N} (k:IntKind) (n:Int):aP ρ L I w N (.int k n) (.int k n)
 |bool {N} (b:Bool):aP ρ L I w N (.bool b) (.bool b)
 |str {N} (s:List UInt8):aP ρ L I w N (.str s) (.string ⟨s.toArray⟩)
 |bM {N}:aP ρ L I w N .bM (.pointer none)
 |ai {N}:aP ρ L I w N .ai (.slice none 0 0)
 |aw {N}:aP ρ L I w N .aw .nilFunc
 |ep {N}:aP ρ L I w N .ep .nilIface
 |cj {N}:aP ρ L I w N .cj (.map none)
 |loc {N} (n len i off:Nat) (v:Value) (hn:N n) (h1:v.oneCell'=true) (h:∀l sz,L n=some (l,sz)->len<=l/\(len=l->∃g cap,ρ n=some (g,cap)/\v= .pointer (some ⟨g,i*sz+off,none⟩))):aP ρ L I w N (.loc n len i off) v
 |aV {N} (n len:Nat) (v:Value) (hn:N n) (h1:v.oneCell'=true) (h:∀l sz,L n=some (l,sz)->len<=l/\(len=l->(ρ n=none/\∃q,v= .slice q 0 0)\/∃g cap,ρ n=some (g,cap)/\v= .slice (some ⟨g,0,none⟩) len cap)):aP ρ L I w N (.aV n len) v
 |eD {N} (n len i off cr:Nat) (v:Value) (hn:N n) (h1:v.oneCell'=true) (h:∀l sz,L n=some (l,sz)->len<=l/\(len=l->∃g cap c,ρ n=some (g,cap)/\v= .slice (some ⟨g,i*sz+off,none⟩) cr c/\cr<=c/\c<=maxLen)):aP ρ L I w N (.eD n len i off cr) v
 |omap {N} (n:Nat) (v:Value) (hn:N n) (h1:v.oneCell'=true) (h:∀sz,L n=some (0,sz)->∃g cap,ρ n=some (g,cap)/\v= .map (some g)):aP ρ L I w N (.omap n) v
 |nE {N} (n r:Nat):aP ρ L I w N (.nE n r) (.pointer (some ⟨r,0,none⟩))
 |c7 {N} (sz:Nat) (a:Option Addr) (cap:Nat) (hc:cap<=maxLen):aP ρ L I w N (.aD sz []) (.slice a 0 cap)
 |aD {N} (sz:Nat) (es:List (List AV)) (b o cap:Nat) (c:Nat->Nat->Value) (hl:es.length<=cap) (hc:cap<=maxLen) (hI:I b) (hs:∀e ∈ es,e.length=sz)
   (h1:∀i j,i<es.length->j<sz->(c i j).oneCell'=true)
   (hcell:∀i j,i<es.length->j<sz->w.cell? ⟨b,o+i*sz+j,none⟩=some (c i j))
   (hr:∀i j,i<es.length->j<sz->aP ρ L I w cW ((es.getD i []).getD j .bad) (c i j)):aP ρ L I w N (.aD sz es) (.slice (some ⟨b,o,none⟩) es.length cap)
 |bz {N} (e:List AV) (off b o:Nat) (c:Nat->Value) (hI:I b) (h1:∀j,j<e.length->(c j).oneCell'=true) (hcell:∀j,j<e.length->w.cell? ⟨b,o+j,none⟩=some (c j))
   (hr:∀j,j<e.length->aP ρ L I w cW (e.getD j .bad) (c j)):aP ρ L I w N (.bz e off) (.pointer (some ⟨b,o+off,none⟩))
 |ce {N} (f:Nat) (aZ:List AV) (vs:List Value) (hl:vs.length=aZ.length) (hr:∀j,j<aZ.length->aP ρ L I w N (aZ.getD j .bad) (vs.getD j default)):
   aP ρ L I w N (.ce (.fn f) aZ) (.func (.func f) #[] vs.toArray)
 |rn {N} (l:Nat) (aZ:List AV) (vs:List Value) (hl:vs.length=aZ.length) (hr:∀j,j<aZ.length->aP ρ L I w N (aZ.getD j .bad) (vs.getD j default)):
   aP ρ L I w N (.ce (.lp l vs) aZ) (.func (.yield l) #[] #[])
 |agg {N} (cs:List AV) (vs:List Value) (hl:vs.length=cs.length) (h1:∀u ∈ vs,u.oneCell'=true) (hr:∀j,j<cs.length->aP ρ L I w N (cs.getD j .bad) (vs.getD j default)):
   aP ρ L I w N (.agg cs) (.agg vs.toArray)
 |aQ {N} (cs:List AV) (vs:List Value) (hl:vs.length=cs.length) (hr:∀j,j<cs.length->aP ρ L I w N (cs.getD j .bad) (vs.getD j default)):
   aP ρ L I w N (.aQ cs) (.tuple vs.toArray)
 |bad {N} (v:Value):aP ρ L I w N .bad v
structure oK(N:Nat->Prop)(ρ:Place)(L:bi)(I:Nat->Prop)(w:World)(ρ':Place)(L':bi)(I':Nat->Prop)(w':World):Prop where
 alive:∀n len sz,N n->L' n=some (len,sz)->L n=some (len,sz)->ρ' n=ρ n
 back:∀n len sz,N n->L' n=some (len,sz)->∃len',L n=some (len',sz)/\len'<=len
 rp:∀b,I b->I' b
 cell:∀b,I b->w'.heap[b]? =w.heap[b]?
theorem oK.refl(N:Nat->Prop)(ρ:Place)(L:bi)(I:Nat->Prop)(w:World):oK N ρ L I w ρ L I w:=
 ⟨fun _ _ _ _ _ _=>rfl,fun _ len _ _ h=>⟨len,h,Nat.le_refl _⟩,fun _ h=>h,fun _ _=>rfl⟩
theorem oK.trans{N:Nat->Prop}{ρ ρ' SP:Place}{L L' L'':bi}{I I' I'':Nat->Prop}{w w' w'':World}(h:oK N ρ L I w ρ' L' I' w')(k:oK N ρ' L' I' w' SP L'' I'' w''):oK N ρ L I w SP L'' I'' w'':=by
 refine⟨?_,?_,fun b hb=>k.rp b (h.rp b hb),fun b hb=>(k.cell b (h.rp b hb)).trans (h.cell b hb)⟩
 ·intro n len sz hn h2 h0
  obtain⟨l1,e1,g1⟩:=k.back n len sz hn h2
  obtain⟨l0,e0,g0⟩:=h.back n l1 sz hn e1
  rw[h0]at e0
  simp only[Option.some.injEq,Prod.mk.injEq]at e0
  obtain⟨rfl,_⟩:=e0
  have:l1=len:=by omega
  subst this
  exact (k.alive n l1 sz hn h2 e1).trans (h.alive n l1 sz hn e1 h0)
 ·intro n len sz hn h2
  obtain⟨l1,e1,g1⟩:=k.back n len sz hn h2
  obtain⟨l0,e0,g0⟩:=h.back n l1 sz hn e1
  exact⟨l0,e0,by omega⟩
theorem cell_of_heap{w w':World}{b o:Nat}(h:w'.heap[b]? =w.heap[b]?):w'.cell? ⟨b,o,none⟩=w.cell? ⟨b,o,none⟩:=by
 simp[World.cell?,h]
theorem aP.yr{ρ ρ':Place}{L L':bi}{I I':Nat->Prop}{w w':World}{NX:Nat->Prop}(E:oK NX ρ L I w ρ' L' I' w'){N:Nat->Prop}{a:AV}{v:Value}(h:aP ρ L I w N a v):(∀n,N n->NX n)->aP ρ' L' I' w' N a v:=by
 induction h with
 |int k n=>exact fun _=> .int k n
 |bool b=>exact fun _=> .bool b
 |str s=>exact fun _=> .str s
 |bM=>exact fun _=> .bM
 |ai=>exact fun _=> .ai
 |aw=>exact fun _=> .aw
 |ep=>exact fun _=> .ep
 |cj=>exact fun _=> .cj
 |nE n r=>exact fun _=> .nE n r
 | @loc N n len i off v hn hv h=>
   refine fun hx=> .loc n len i off v hn hv fun l sz hl=> ?_
   obtain⟨l0,e0,g0⟩:=E.back n l sz (hx n hn) hl
   obtain⟨h1,h2⟩:=h l0 sz e0
   refine⟨by omega,fun e=> ?_⟩
   have:l0=l:=by omega
   subst this
   rw[E.alive n l0 sz (hx n hn) hl e0]
   exact h2 e
 | @aV N n len v hn hv h=>
   refine fun hx=> .aV n len v hn hv fun l sz hl=> ?_
   obtain⟨l0,e0,g0⟩:=E.back n l sz (hx n hn) hl
   obtain⟨h1,h2⟩:=h l0 sz e0
   refine⟨by omega,fun e=> ?_⟩
   have:l0=l:=by omega
   subst this
   rw[E.alive n l0 sz (hx n hn) hl e0]
   exact h2 e
 | @eD N n len i off cr v hn hv h=>
   refine fun hx=> .eD n len i off cr v hn hv fun l sz hl=> ?_
   obtain⟨l0,e0,g0⟩:=E.back n l sz (hx n hn) hl
   obtain⟨h1,h2⟩:=h l0 sz e0
   refine⟨by omega,fun e=> ?_⟩
   have:l0=l:=by omega
   subst this
   rw[E.alive n l0 sz (hx n hn) hl e0]
   exact h2 e
 | @omap N n v hn hv h=>
   refine fun hx=> .omap n v hn hv fun sz hl=> ?_
   obtain⟨l0,e0,g0⟩:=E.back n 0 sz (hx n hn) hl
   obtain rfl:l0=0:=by omega
   rw[E.alive n 0 sz (hx n hn) hl e0]
   exact h sz e0
 |c7 sz a cap hc=>exact fun _=> .c7 sz a cap hc
 |aD sz es b o cap c hl hc hI hs h1 hcell hr ih=>
  exact fun _=> .aD sz es b o cap c hl hc (E.rp b hI) hs h1 (fun i j hi hj=>(cell_of_heap (E.cell b hI)).trans (hcell i j hi hj)) (fun i j hi hj=>ih i j hi hj (fun _ h=>h.elim))
 |bz e off b o c hI h1 hcell hr ih=>
  exact fun _=> .bz e off b o c (E.rp b hI) h1 (fun j hj=>(cell_of_heap (E.cell b hI)).trans (hcell j hj)) (fun j hj=>ih j hj (fun _ h=>h.elim))
 |ce f aZ vs hl hr ih=>exact fun hx=> .ce f aZ vs hl (fun j hj=>ih j hj hx)
 |rn f aZ vs hl hr ih=>exact fun hx=> .rn f aZ vs hl (fun j hj=>ih j hj hx)
 |agg cs vs hl h1 hr ih=>exact fun hx=> .agg cs vs hl h1 (fun j hj=>ih j hj hx)
 |aQ cs vs hl hr ih=>exact fun hx=> .aQ cs vs hl (fun j hj=>ih j hj hx)
 |bad v=>exact fun _=> .bad v
theorem aP.wide{ρ:Place}{L:bi}{I:Nat->Prop}{w:World}{N:Nat->Prop}{a:AV}{v:Value}(h:aP ρ L I w N a v):∀{N':Nat->Prop},(∀n,N n->N' n)->aP ρ L I w N' a v:=by
 induction h with
 |int k n=>exact fun _=> .int k n
 |bool b=>exact fun _=> .bool b
 |str s=>exact fun _=> .str s
 |bM=>exact fun _=> .bM
 |ai=>exact fun _=> .ai
 |aw=>exact fun _=> .aw
 |ep=>exact fun _=> .ep
 |cj=>exact fun _=> .cj
 |nE n r=>exact fun _=> .nE n r
 |loc n len i off v hn h1 h=>exact fun hx=> .loc n len i off v (hx n hn) h1 h
 |aV n len v hn h1 h=>exact fun hx=> .aV n len v (hx n hn) h1 h
 |eD n len i off cr v hn h1 h=>exact fun hx=> .eD n len i off cr v (hx n hn) h1 h
 |omap n v hn h1 h=>exact fun hx=> .omap n v (hx n hn) h1 h
 |c7 sz a cap hc=>exact fun _=> .c7 sz a cap hc
 |aD sz es b o cap c hl hc hI hs h1 hcell hr ih=>exact fun _=> .aD sz es b o cap c hl hc hI hs h1 hcell hr
 |bz e off b o c hI h1 hcell hr ih=>exact fun _=> .bz e off b o c hI h1 hcell hr
 |ce f aZ vs hl hr ih=>exact fun hx=> .ce f aZ vs hl (fun j hj=>ih j hj hx)
 |rn f aZ vs hl hr ih=>exact fun hx=> .rn f aZ vs hl (fun j hj=>ih j hj hx)
 |agg cs vs hl h1 hr ih=>exact fun hx=> .agg cs vs hl h1 (fun j hj=>ih j hj hx)
 |aQ cs vs hl hr ih=>exact fun hx=> .aQ cs vs hl (fun j hj=>ih j hj hx)
 |bad v=>exact fun _=> .bad v
theorem aP.bare{ρ:Place}{L:bi}{I:Nat->Prop}{w:World}{N:Nat->Prop}{a:AV}{v:Value}(h:aP ρ L I w N a v):(∀n,¬N n)->∀(ρ':Place)(L':bi),aP ρ' L' I w cW a v:=by
 induction h with
 |int k n=>exact fun _ _ _=> .int k n
 |bool b=>exact fun _ _ _=> .bool b
 |str s=>exact fun _ _ _=> .str s
 |bM=>exact fun _ _ _=> .bM
 |ai=>exact fun _ _ _=> .ai
 |aw=>exact fun _ _ _=> .aw
 |ep=>exact fun _ _ _=> .ep
 |cj=>exact fun _ _ _=> .cj
 |nE n r=>exact fun _ _ _=> .nE n r
 |loc n len i off v hn h1 h=>exact fun hx=>(hx n hn).elim
 |aV n len v hn h1 h=>exact fun hx=>(hx n hn).elim
 |eD n len i off cr v hn h1 h=>exact fun hx=>(hx n hn).elim
 |omap n v hn h1 h=>exact fun hx=>(hx n hn).elim
 |c7 sz a cap hc=>exact fun _ _ _=> .c7 sz a cap hc
 |aD sz es b o cap c hl hc hI hs h1 hcell hr ih=>exact fun _ ρ' L'=> .aD sz es b o cap c hl hc hI hs h1 hcell (fun i j hi hj=>ih i j hi hj (fun _ h=>h) ρ' L')
 |bz e off b o c hI h1 hcell hr ih=>exact fun _ ρ' L'=> .bz e off b o c hI h1 hcell (fun j hj=>ih j hj (fun _ h=>h) ρ' L')
 |ce f aZ vs hl hr ih=>exact fun hx ρ' L'=> .ce f aZ vs hl (fun j hj=>ih j hj hx ρ' L')
 |rn f aZ vs hl hr ih=>exact fun hx ρ' L'=> .rn f aZ vs hl (fun j hj=>ih j hj hx ρ' L')
 |agg cs vs hl h1 hr ih=>exact fun hx ρ' L'=> .agg cs vs hl h1 (fun j hj=>ih j hj hx ρ' L')
 |aQ cs vs hl hr ih=>exact fun hx ρ' L'=> .aQ cs vs hl (fun j hj=>ih j hj hx ρ' L')
 |bad v=>exact fun _ _ _=> .bad v
def aN:Value->List Value
 | .agg cs=>cs.toList
 |v=>[v]
def gw:Value->Bool
 | .agg _=>true
 |_=>false
structure yy(k:Nat)(ka va:Bool)(dn:Dn)(sz:Nat)(en:Array Go.MapEntry)(ck:Nat)(cs:Array Value):Prop where
 key:∀(i:Nat)(e:Go.MapEntry),en[i]? =some e->(aN e.key).length=k/\(aN e.key++aN e.val).length=sz/\gw e.key=ka/\gw e.val=va
 cell:∀(i:Nat)(e:Go.MapEntry)(j:Nat)(u:Value),en[i]? =some e->(aN e.key++aN e.val)[j]? =some u->cs[i*sz+j]? =some u
 born:∀(i j:Nat)(e f:Go.MapEntry),en[i]? =some e->en[j]? =some f->i<j->e.born<f.born
 clock:∀(i:Nat)(e:Go.MapEntry),en[i]? =some e->e.born<ck
 den:dn.all=true->ck=en.size/\∀(i:Nat)(e:Go.MapEntry),en[i]? =some e->e.born=i
 room:cs.size=maxLen*sz/\sz≠0
def fC(mp:Option (Nat × Bool × Bool × Dn))(sz len:Nat)(o:Option Obj)(cs:Array Value)(ty:Nat)(fr:Nat × Nat):Prop:=match mp with
 |none=>o=some (.cells cs ty fr)
 |some (k,ka,va,dn)=>∃en ck,o=some (.map en ck)/\en.size=len/\yy k ka va dn sz en ck cs
section
variable {mp:Option (Nat × Bool × Bool × Dn)} {sz len ty:Nat} {cs:Array Value} {fr:Nat × Nat}
theorem fC.some{o:Option Obj}(h:fC mp sz len o cs ty fr):∃x,o=some x:=by
 unfold fC at h
 split at h
 ·exact⟨_,h⟩
 ·obtain⟨_,_,h,_⟩:=h; exact⟨_,h⟩
theorem fC.lt{w:World}{g:Nat}(h:fC mp sz len w.heap[g]? cs ty fr):g<w.heap.size:=by
 obtain⟨x,h⟩:=h.some; exact (Array.getElem?_eq_some_iff.1 h).1
theorem fC.at{o o':Option Obj}(h:fC mp sz len o cs ty fr)(e:o'=o):fC mp sz len o' cs ty fr:=e ▸ h
theorem fC.r9{o:Option Obj}(h:fC mp sz len o cs ty fr){a:Option Nat}{b:Nat}{c:Array Nat}{d:Nat}:o≠Option.some (.mapIter a b c d):=by
 unfold fC at h
 split at h
 ·rw[h]; exact fun e=>by cases e
 ·obtain⟨_,_,h,_⟩:=h; rw[h]; exact fun e=>by cases e
theorem fC.cells{o:Option Obj}(h:fC mp sz len o cs ty fr)(hm:mp=none):o= .some (.cells cs ty fr):=by subst hm; exact h
end
end Go.AM
namespace Go.AM
open Go.RowKit
def gZ:Mem->Nat->bD->Mem
 |[],n,b=>[(n,b)]
 |(m,c)::r,n,b=>bif n==m then (m,b)::r else (m,c)::gZ r n b
theorem mG(M:Mem)(n:Nat)(b:bD)(m:Nat):ab (gZ M n b) m=if m=n then some b else ab M m:=by
 induction M with
 |nil=>
  by_cases h:m=n
  ·subst h; simp[gZ,ab]
  ·have hb:(m==n)=false:=by simpa using h
   simp[gZ,ab,h,hb]
 |cons x r ih=>
  obtain⟨k,c⟩:=x
  by_cases h:n=k
  ·subst h
   by_cases h':m=n
   ·subst h'; simp[gZ,ab]
   ·have hb:(m==n)=false:=by simpa using h'
    simp[gZ,ab,h',hb]
  ·have hb:(n==k)=false:=by simpa using h
   simp only[gZ,hb,cond_false,ab]
   by_cases h':m=k
   ·subst h'
    have:m≠n:=fun e=>h e.symm
    simp[this]
   ·have hb':(m==k)=false:=by simpa using h'
    simp only[hb',cond_false,ih]
structure cE where
 w0:World
 p:Nat
 I0:Nat->Prop
 size:Nat
 ρ0:Place
 L0:bi
def cE.fp(C:cE)(g:Nat):Prop:=∃n c,n<C.p/\C.ρ0 n=some (g,c)
structure SQ(C:cE)(w:World):Prop where
 os:w.os=C.w0.os
 tape:w.tape=C.w0.tape
 output:w.output=C.w0.output
 drawn:C.w0.drawn<=w.drawn
 size:C.w0.heap.size<=w.heap.size
 block:∀g,g<C.w0.heap.size->¬C.fp g->w.heap[g]? =C.w0.heap[g]?
structure se(C:cE)(ρ:Place)(L:bi)(I:Nat->Prop)(w:World)(N:Nat->Prop)(n:Nat)(b:bD):Prop where
 lt:N n
 even:∀e ∈ b.es,e.length=b.sz
 eW:ρ n=none->b.es=[]
 real:∀g cap,ρ n=some (g,cap)->∃cs fr,fC b.mp b.sz b.es.length w.heap[g]? cs b.ty fr/\(∀o,o<cs.size->¬ (fr.1<=o/\o<fr.2))/\¬I g/\((n<C.p/\∃c,C.ρ0 n=some (g,c))\/ C.w0.heap.size<=g)/\b.es.length<=cap/\cap<=maxLen/\cs.size=cap*b.sz/\
  ∀i j,i<b.es.length->j<b.sz->∃u,cs[i*b.sz+j]? =some u/\u.oneCell'=true/\aP ρ L I w N ((b.es.getD i []).getD j .bad) u
 iter:∀k ka va r sn la,b.mp=some (k,ka,va,.it r sn la)->∃g cap,ρ n=some (g,cap)/\C.w0.heap.size<=r/\¬I r/\F9 w g r sn la
structure db(C:cE)(ρ:Place)(I:Nat->Prop)(M:bA)(N:Nat->Prop)(w:World):Prop where
 bf:∀n b,M n=some b->se C ρ (lens M) I w N n b
 inj:∀n m b b' g c c',M n=some b->M m=some b'->ρ n=some (g,c)->ρ m=some (g,c')->n=m
 rp:∀g,C.I0 g->I g
 lt:∀g,I g->g<w.heap.size
 old:∀g,g<C.w0.heap.size->I g->C.I0 g
 keeps:SQ C w
 pn:∀n,n<C.p->N n
 JF:∀g,C.fp g->g<C.w0.heap.size/\¬C.I0 g
 par:∀n len sz,n<C.p->lens M n=some (len,sz)->∃pU,C.L0 n=some (pU,sz)/\pU<=len/\(pU=len->ρ n=C.ρ0 n)
theorem db.mH{C:cE}{ρ ρ':Place}{I I':Nat->Prop}{M:bA}{L':bi}{N:Nat->Prop}{w w':World}(h:db C ρ I M N w)(E:oK N ρ (lens M) I w ρ' L' I' w'):
  ∀n len sz,n<C.p->L' n=some (len,sz)->∃pU,C.L0 n=some (pU,sz)/\pU<=len/\(pU=len->ρ' n=C.ρ0 n):=by
 intro n len sz hn hl
 obtain⟨l1,e1,g1⟩:=E.back n len sz (h.pn n hn) hl
 obtain⟨l0,e0,g0,k0⟩:=h.par n l1 sz hn e1
 refine⟨l0,e0,by omega,fun e=> ?_⟩
 have e2:l1=len:=by omega
 subst e2
 exact (E.alive n l1 sz (h.pn n hn) hl e1).trans (k0 e)
theorem aC{M:bA}{n l sz:Nat}:lens M n=some (l,sz)↔∃b,M n=some b/\b.ln=l/\b.sz=sz:=by
 simp[lens,Option.map_eq_some_iff]
theorem bD.Gp{b:bD}(h:b.es=[]):b.ln=0:=by unfold bD.ln; split<;>simp[h]
theorem bD.dw{b:bD}(h:b.mp=none):b.ln=b.es.length:=by unfold bD.ln; rw[h]
def dc(M:bA)(n:Nat)(b:bD):bA:=fun m=>if m=n then some b else M m
theorem cY(M:bA)(n:Nat)(b:bD)(m:Nat):lens (dc M n b) m=if m=n then some (b.ln,b.sz)else lens M m:=by
 unfold lens dc
 split<;>simp
def AN(N:Nat->Prop)(n:Nat):Nat->Prop:=fun m=>m=n\/ N m
def iW(ρ:Place)(n:Nat)(x:Nat × Nat):Place:=fun m=>if m=n then some x else ρ m
theorem jj(b:Nat):∀(vs:List Value)(o:Nat)(w:World),(w.setCells b o vs).drawn=w.drawn
 |[],_,_=>rfl
 |v::r,o,w=>by
  rw[World.setCells,jj b r]
  unfold World.setCell
  split<;>rfl
theorem db.put{C:cE}{ρ:Place}{I:Nat->Prop}{M:bA}{N:Nat->Prop}{w w':World}(h:db C ρ I M N w)
  (n:Nat) (b:bD) (g cap:Nat) (cs:Array Value) (fr:Nat × Nat)
  (hos:w'.os=w.os) (sf:w'.tape=w.tape) (hout:w'.output=w.output) (hsz:w.heap.size<=w'.heap.size)
  (dy:∀k,k<w.heap.size->k≠g->w'.heap[k]? =w.heap[k]?)
  (hg:fC b.mp b.sz b.es.length w'.heap[g]? cs b.ty fr) (oc:∀o,o<cs.size->¬ (fr.1<=o/\o<fr.2))
  (sg:w.heap.size<=g\/∃c0,ρ n=some (g,c0)/\∃b0,M n=some b0)
  (hold:∀b0,M n=some b0->b0.sz=b.sz/\b0.ln<=b.ln/\(b0.ln=b.ln->ρ n=some (g,cap)))
  (kD:N n->∃b0,M n=some b0)
  (Gq:∀e ∈ b.es,e.length=b.sz) (hlen:b.es.length<=cap) (hcap:cap<=maxLen) (hcs:cs.size=cap*b.sz)
  (w4:∀i j,i<b.es.length->j<b.sz->∃u,cs[i*b.sz+j]? =some u/\u.oneCell'=true/\aP ρ (lens M) I w N ((b.es.getD i []).getD j .bad) u)
  (hit:∀k ka va r sn la,b.mp=some (k,ka,va,.it r sn la)->C.w0.heap.size<=r/\¬I r/\F9 w' g r sn la:=by intro _ _ _ _ _ _ hnone; first|(cases hnone; done)|(simp_all; done))
  (N0:w.drawn<=w'.drawn:=by first|exact Nat.le_refl _|exact Nat.le_succ _|assumption|exact Nat.le_of_eq (jj ..).symm|(refine Nat.le_trans ?_ (Nat.le_of_eq (w5 ..).symm); exact Nat.le_succ _)):
  oK N ρ (lens M) I w (iW ρ n (g,cap)) (lens (dc M n b)) I w'/\db C (iW ρ n (g,cap)) I (dc M n b) (AN N n) w':=by
 have hgI:¬I g:=by
  intro hI
  rcases sg with hp|⟨c0,hp,b0,hb0⟩
  ·have:=h.lt g hI; omega
  ·obtain⟨_,_,_,_,rq,_⟩:=(h.bf n b0 hb0).real g c0 hp
   exact rq hI
 have hown:(n<C.p/\∃c,C.ρ0 n=some (g,c))\/ C.w0.heap.size<=g:=by
  rcases sg with hp|⟨c0,hp,b0,hb0⟩
  ·right; have:=h.keeps.size; omega
  ·obtain⟨_,_,_,_,_,ho,_⟩:=(h.bf n b0 hb0).real g c0 hp
   exact ho
 have E:oK N ρ (lens M) I w (iW ρ n (g,cap)) (lens (dc M n b)) I w':=by
  refine⟨?_,?_,fun _ h=>h,?_⟩
  ·intro m len sz hm h1 h0
   by_cases e:m=n
   ·subst e
    rw[cY,if_pos rfl]at h1
    simp only[Option.some.injEq,Prod.mk.injEq]at h1
    obtain⟨b0,hb0,hl0,_⟩:=aC.1 h0
    obtain⟨_,_,h3⟩:=hold b0 hb0
    simp only[iW,if_pos]
    exact (h3 (by omega)).symm
   ·simp[iW,e]
  ·intro m len sz hm h1
   by_cases e:m=n
   ·subst e
    rw[cY,if_pos rfl]at h1
    simp only[Option.some.injEq,Prod.mk.injEq]at h1
    obtain⟨b0,hb0⟩:=kD hm
    obtain⟨h2,h3,_⟩:=hold b0 hb0
    exact⟨b0.ln,aC.2 ⟨b0,hb0,rfl,by omega⟩,by omega⟩
   ·rw[cY,if_neg e]at h1
    exact⟨len,h1,Nat.le_refl _⟩
  ·intro k hk
   exact dy k (h.lt k hk) (fun e=>hgI (e ▸ hk))
 refine⟨E,?_,?_,h.rp,?_,h.old,?_,?_,h.JF,h.mH E⟩
 ·intro m bm hm
  simp only[dc]at hm
  by_cases e:m=n
  ·subst e
   rw[if_pos rfl]at hm
   simp only[Option.some.injEq]at hm
   subst hm
   refine⟨Or.inl rfl,Gq,fun h0=>by simp[iW]at h0,fun g' cap' h0=> ?_,fun k ka va r sn la hb=>⟨g,cap,by simp[iW],hit k ka va r sn la hb⟩⟩
   simp only[iW,if_pos,Option.some.injEq,Prod.mk.injEq]at h0
   obtain⟨rfl,rfl⟩:=h0
   refine⟨cs,fr,hg,oc,hgI,hown,hlen,hcap,hcs,fun i j hi hj=> ?_⟩
   obtain⟨u,hu,pS,hr⟩:=w4 i j hi hj
   exact⟨u,hu,pS,(hr.yr E (fun _ h=>h)).wide (fun _ h=>Or.inr h)⟩
  ·rw[if_neg e]at hm
   have B:=h.bf m bm hm
   have key:∀g' cap',ρ m=some (g',cap')->g'<w.heap.size/\g'≠g:=fun g' cap' h0'=>by
    obtain⟨cs',fr',hc1,_⟩:=B.real g' cap' h0'
    have hlt:g'<w.heap.size:=hc1.lt
    refine⟨hlt,?_⟩
    rintro rfl
    rcases sg with hp|⟨c0,hp,b0,hb0⟩
    ·omega
    ·exact e (h.inj m n bm b0 g' cap' c0 hm hb0 h0' hp)
   refine⟨Or.inr B.lt,B.even,fun h0=>B.eW (by simpa[iW,e]using h0),fun g' cap' h0=> ?_,fun k ka va r sn la hb=> ?_⟩
   rotate_left
   ·obtain⟨g',cap',h0',i1,i2,i3⟩:=B.iter k ka va r sn la hb
    obtain⟨hlt,hne⟩:=key g' cap' h0'
    refine⟨g',cap',by simpa[iW,e]using h0',i1,i2,i3.at (dy g' hlt hne) (dy r i3.lt ?_)⟩
    rintro rfl
    rcases sg with hp|⟨c0,hp,b0,hb0⟩
    ·have:=i3.lt; omega
    ·obtain⟨en,ck,since,seen,_,k2,_⟩:=i3
     obtain⟨_,_,hc1,_⟩:=(h.bf n b0 hb0).real _ c0 hp
     exact hc1.r9 k2
   have h0':ρ m=some (g',cap'):=by simpa[iW,e]using h0
   obtain⟨hlt,hne⟩:=key g' cap' h0'
   obtain⟨cs',fr',hc1,DV,kw,si,Cz,AO,DW,DX⟩:=B.real g' cap' h0'
   refine⟨cs',fr',hc1.at (dy g' hlt hne),DV,kw,si,Cz,AO,DW,fun i j hi hj=> ?_⟩
   obtain⟨u,hu,pS,hr⟩:=DX i j hi hj
   exact⟨u,hu,pS,(hr.yr E (fun _ h=>h)).wide (fun _ h=>Or.inr h)⟩
 ·intro m k bm bk g' c c' hm hk h1 h2
  have lt':∀(q:Nat)(bq:bD)(c0:Nat),M q=some bq->ρ q=some (g,c0)->q=n:=by
   intro q bq c0 hq hρ
   obtain⟨cs',fr',hc1,_⟩:=(h.bf q bq hq).real g c0 hρ
   have hlt:g<w.heap.size:=hc1.lt
   rcases sg with hp|⟨c1,hp,b0,hb0⟩
   ·omega
   ·exact h.inj q n bq b0 g c0 c1 hq hb0 hρ hp
  simp only[dc]at hm hk
  by_cases e:m=n<;>by_cases e':k=n
  ·omega
  ·subst e
   rw[if_neg e']at hk
   simp only[iW,if_pos,if_neg e',Option.some.injEq,Prod.mk.injEq]at h1 h2
   obtain⟨rfl,_⟩:=h1
   exact (lt' k bk c' hk h2).symm
  ·subst e'
   rw[if_neg e]at hm
   simp only[iW,if_pos,if_neg e,Option.some.injEq,Prod.mk.injEq]at h1 h2
   obtain⟨rfl,_⟩:=h2
   exact lt' m bm c hm h1
  ·rw[if_neg e]at hm
   rw[if_neg e']at hk
   simp only[iW,if_neg e,if_neg e']at h1 h2
   exact h.inj m k bm bk g' c c' hm hk h1 h2
 ·intro k hk; have:=h.lt k hk; omega
 ·refine⟨hos.trans h.keeps.os,sf.trans h.keeps.tape,hout.trans h.keeps.output,Nat.le_trans h.keeps.drawn N0,Nat.le_trans h.keeps.size hsz,fun k hk hf=> ?_⟩
  refine (dy k (Nat.lt_of_lt_of_le hk h.keeps.size) ?_).trans (h.keeps.block k hk hf)
  rintro rfl
  rcases hown with⟨hp,c,hc⟩|ho
  ·exact hf ⟨n,c,hp,hc⟩
  ·omega
 ·exact fun m hm=>Or.inr (h.pn m hm)
theorem db.ext'{C:cE}{ρ:Place}{I I':Nat->Prop}{M:bA}{N:Nat->Prop}{w w':World}(h:db C ρ I M N w)
  (hos:w'.os=w.os) (sf:w'.tape=w.tape) (hout:w'.output=w.output) (hsz:w.heap.size<=w'.heap.size)
  (dy:∀k,k<w.heap.size->w'.heap[k]? =w.heap[k]?)
  (hI:∀k,I k->I' k) (hlt:∀k,I' k->k<w'.heap.size) (w6:∀k,k<w.heap.size->I' k->I k)
  (N0:C.w0.drawn<=w'.drawn):
  oK N ρ (lens M) I w ρ (lens M) I' w'/\db C ρ I' M N w':=by
 have E:oK N ρ (lens M) I w ρ (lens M) I' w':=⟨fun _ _ _ _ _ _=>rfl,fun _ len _ _ h=>⟨len,h,Nat.le_refl _⟩,hI,fun b hb=>dy b (h.lt b hb)⟩
 refine⟨E,fun n b hb=> ?_,h.inj,fun g hg=>hI g (h.rp g hg),hlt,fun g hg uL=>h.old g hg (w6 g (Nat.lt_of_lt_of_le hg h.keeps.size) uL),?_,h.pn,h.JF,h.mH E⟩
 ·have B:=h.bf n b hb
  refine⟨B.lt,B.even,B.eW,fun g cap hg=> ?_,fun k ka va r sn la hb=> ?_⟩
  rotate_left
  ·obtain⟨g,cap,hg,i1,i2,i3⟩:=B.iter k ka va r sn la hb
   obtain⟨_,_,hc1,_⟩:=B.real g cap hg
   exact⟨g,cap,hg,i1,fun hi=>i2 (w6 r i3.lt hi),i3.at (dy g hc1.lt) (dy r i3.lt)⟩
  obtain⟨cs,fr,hc1,DV,kw,si,Cz,AO,DW,DX⟩:=B.real g cap hg
  have hl:g<w.heap.size:=hc1.lt
  refine⟨cs,fr,hc1.at (dy g hl),DV,fun hi=>kw (w6 g hl hi),si,Cz,AO,DW,fun i j hi hj=> ?_⟩
  obtain⟨u,hu,pS,hr⟩:=DX i j hi hj
  exact⟨u,hu,pS,hr.yr E (fun _ h=>h)⟩
 ·exact⟨hos.trans h.keeps.os,sf.trans h.keeps.tape,hout.trans h.keeps.output,N0,Nat.le_trans h.keeps.size hsz,fun g hg hf=>(dy g (Nat.lt_of_lt_of_le hg h.keeps.size)).trans (h.keeps.block g hg hf)⟩
theorem db.ext{C:cE}{ρ:Place}{I I':Nat->Prop}{M:bA}{N:Nat->Prop}{w w':World}(h:db C ρ I M N w)
 (hos:w'.os=w.os) (sf:w'.tape=w.tape) (hout:w'.output=w.output) (hsz:w.heap.size<=w'.heap.size)
 (dy:∀k,k<w.heap.size->w'.heap[k]? =w.heap[k]?)
 (hI:∀k,I k->I' k) (hlt:∀k,I' k->k<w'.heap.size) (w6:∀k,k<w.heap.size->I' k->I k)
 (N0:w.drawn<=w'.drawn:=by first|exact Nat.le_refl _|exact Nat.le_succ _|assumption|exact Nat.le_of_eq (jj ..).symm|(refine Nat.le_trans ?_ (Nat.le_of_eq (w5 ..).symm); exact Nat.le_succ _)):
 oK N ρ (lens M) I w ρ (lens M) I' w'/\db C ρ I' M N w':=h.ext' hos sf hout hsz dy hI hlt w6 (Nat.le_trans h.keeps.drawn N0)
def zd(z:Bool)(w:World):World:= {w with drawn:=bif z then 0 else w.drawn}
theorem Gs(z:Bool)(w:World):(zd z w).drawn<=w.drawn:=by cases z; exact Nat.le_refl _; exact Nat.zero_le _
def yu(z:Bool)(C:cE):Prop:=z=true->C.w0.drawn=0
theorem zF{C:cE}:yu false C:=fun h=>Bool.noConfusion h
theorem zT{z:Bool}{C:cE}(h:C.w0.drawn=0):yu z C:=fun _=>h
theorem yu.le{z:Bool}{C:cE}(h:yu z C){w w1:World}(h0:C.w0.drawn<=w.drawn)(h1:(zd z w).drawn<=w1.drawn):C.w0.drawn<=w1.drawn:=by
 cases z
 ·exact Nat.le_trans h0 h1
 ·rw[h rfl]; exact Nat.zero_le _
theorem db.drew{C:cE}{ρ:Place}{I:Nat->Prop}{M:bA}{N:Nat->Prop}{w:World}(h:db C ρ I M N w):db C ρ I M N w.drew:=
 (h.ext (w':=w.drew) rfl rfl rfl (Nat.le_refl _) (fun _ _=>rfl) (fun _ h=>h) h.lt (fun _ _ h=>h)).2
mutual
def AV.under(N:Nat->Prop):AV->Prop
 | .loc n _ _ _=>N n
 | .aV n _=>N n
 | .eD n _ _ _ _=>N n
 | .omap n=>N n
 | .ce _ cs=>AV.gx N cs
 | .agg cs=>AV.gx N cs
 | .aQ cs=>AV.gx N cs
 |_=>True
def AV.gx(N:Nat->Prop):List AV->Prop
 |[]=>True
 |c::cs=>AV.under N c/\AV.gx N cs
end
theorem AV.fY{N:Nat->Prop}:∀(cs:List AV)(j:Nat),AV.gx N cs->j<cs.length->AV.under N (cs.getD j .bad)
 |[],_,_,h=>by simp at h
 |c::cs,0,h,_=>by simp only[AV.gx]at h; simpa using h.1
 |c::cs,j+1,h,hj=>by simp only[AV.gx]at h; simpa using AV.fY cs j h.2 (by simpa using hj)
theorem aP.low{ρ:Place}{L:bi}{I:Nat->Prop}{w:World}{N:Nat->Prop}{a:AV}{v:Value}(h:aP ρ L I w N a v):∀{N':Nat->Prop},a.under N'->aP ρ L I w N' a v:=by
 induction h with
 |int k n=>exact fun _=> .int k n
 |bool b=>exact fun _=> .bool b
 |str s=>exact fun _=> .str s
 |bM=>exact fun _=> .bM
 |ai=>exact fun _=> .ai
 |aw=>exact fun _=> .aw
 |ep=>exact fun _=> .ep
 |cj=>exact fun _=> .cj
 |nE n r=>exact fun _=> .nE n r
 |loc n len i off v hn h1 h=>exact fun hx=> .loc n len i off v (by simpa[AV.under]using hx) h1 h
 |aV n len v hn h1 h=>exact fun hx=> .aV n len v (by simpa[AV.under]using hx) h1 h
 |eD n len i off cr v hn h1 h=>exact fun hx=> .eD n len i off cr v (by simpa[AV.under]using hx) h1 h
 |omap n v hn h1 h=>exact fun hx=> .omap n v (by simpa[AV.under]using hx) h1 h
 |c7 sz a cap hc=>exact fun _=> .c7 sz a cap hc
 |aD sz es b o cap c hl hc hI hs h1 hcell hr ih=>exact fun _=> .aD sz es b o cap c hl hc hI hs h1 hcell hr
 |bz e off b o c hI h1 hcell hr ih=>exact fun _=> .bz e off b o c hI h1 hcell hr
 |ce f aZ vs hl hr ih=>exact fun hx=> .ce f aZ vs hl (fun j hj=>ih j hj (AV.fY _ _ (by simpa[AV.under]using hx) hj))
 |rn f aZ vs hl hr ih=>exact fun hx=> .rn f aZ vs hl (fun j hj=>ih j hj (AV.fY _ _ (by simpa[AV.under]using hx) hj))
 |agg cs vs hl h1 hr ih=>exact fun hx=> .agg cs vs hl h1 (fun j hj=>ih j hj (AV.fY _ _ (by simpa[AV.under]using hx) hj))
 |aQ cs vs hl hr ih=>exact fun hx=> .aQ cs vs hl (fun j hj=>ih j hj (AV.fY _ _ (by simpa[AV.under]using hx) hj))
 |bad v=>exact fun _=> .bad v
end Go.AM
namespace Go.AM
open Go.RowKit
inductive TD where
 |int (k:IntKind)|bool|str|ptr (e:Nat)|slice (e:Nat)|arr (n e:Nat)|struct (fs:List (Nat × Nat))|func|iface|map (k e:Nat)|aQ|other
 deriving Inhabited
structure TT where
 d:Nat->TD
 s:Nat->Nat
 z:Nat->AV
def TD.ok:TD->Bool
 | .other=>false
 |_=>true
def TD.ag:TD->Bool
 | .arr .. =>true
 | .struct .. =>true
 |_=>false
structure St where
 F:bh
 M:Mem
 nx:Nat
def uQ:Value->AV
 | .int k n=> .int k n
 | .bool b=> .bool b
 | .string s=> .str s.data.toList
 | .pointer none=> .bM
 | .slice none 0 0=> .ai
 | .nilFunc=> .aw
 | .nilIface=> .ep
 | .map none=> .cj
 |_=> .bad
def Na:Value->AV
 | .agg cs=>bif cs.toList.all Value.oneCell' then .agg (cs.toList.map uQ)else .bad
 | .tuple vs=> .aQ (vs.toList.map uQ)
 |v=>uQ v
def ev(F:bh):Operand->AV
 | .tmp t=>look F t
 | .const v=>Na v
 | .func f=> .ce (.fn f) []
 | .global _=> .bad
def oM(F:bh):List Operand->List AV
 |[]=>[]
 |o::r=>ev F o::oM F r
def cells:AV->List AV
 | .agg cs=>cs
 |v=>[v]
def bX:AV->Bool
 | .bad=>false
 | .aQ _=>false
 |_=>true
def iX(F:bh):Option Nat->AV->bh
 |none,_=>F
 |some d,v=>(d,v)::F
def j9(b:Bool)(K:Prop):Prop:=bif b then K else False
theorem aG{b:Bool}{K:Prop}(h:b=true)(k:K):j9 b K:=by simp[j9,h,k]
theorem aA{b:Bool}{K:Prop}(h:j9 b K):b=true/\K:=by cases b<;>simp_all[j9]
inductive Nb where
 |lp (c:Code)
 |beg
 |cd (c:Code)
def Nb.item:Nb->Item
 | .lp c=> .inLoop c
 | .beg=> .beginRound
 | .cd c=> .code c
inductive It where
 |code (c:Code)
 |bf (id:Nat)
 |inl (c:Code)
 |ops (all:Array Oper) (i:Nat) (rest:List Oper) (gd:List (Nat × Nat))
 |fD (c:Nb) (post:St->Prop)
 |mI (c:Code)
def It.item:It->Item
 | .code c=> .code c
 | .bf id=> .inBlock id
 | .inl c=> .inLoop c
 | .ops all i rest _=> .inRegion all (List.range' i rest.length)
 | .fD c _=>c.item
 | .mI c=> .inScope c
def SR(K:AV->Prop)(cs:List AV):Prop:=K (.agg cs)
def alive(M:Mem)(n len:Nat)(K:bD->Prop):Prop:=
 match ab M n with
 |some b=>j9 (b.ln==len) (b.mp=none/\K b)
 |none=>False
def apart(ag:Bool)(n off:Nat)(cs:List AV)(K:AV->Prop):Prop:=
 j9 (((cs.drop off).take n).length==n) (bif ag then K (.agg ((cs.drop off).take n))else j9 (n==1) (K (((cs.drop off).take n).headD .bad)))
def wr(k:IntKind)(n:Int):Int:=k.wrap n
def eX(op:BinOp)(k:IntKind)(x y:Int):Int:=
 let a:=BitVec.ofInt k.bits x
 let b:=BitVec.ofInt k.bits y
 match op with
 | .and=>k.wrap (a&&& b).toNat
 | .or=>k.wrap (a||| b).toNat
 | .xor=>k.wrap (a ^^^ b).toNat
 |_=>k.wrap (a&&& ~~~b).toNat
def pV(k:IntKind)(x y:Int):Int:=k.wrap (x*2 ^ (min y.toNat k.bits))
def fS(k:IntKind)(x y:Int):Int:=x.fdiv (2 ^ (min y.toNat k.bits))
def ZN:IntKind->Nat
 | .i8=>0| .i16=>1| .i32=>2| .i64=>3| .u8=>4| .u16=>5| .u32=>6| .u64=>7
def rK(k k':IntKind):Bool:=ZN k==ZN k'
theorem jk{k k':IntKind}(h:rK k k'=true):k=k':=by
 cases k<;>cases k'<;>first|rfl|(simp[rK,ZN]at h)
def JT(op:BinOp)(x y:AV)(K:AV->Prop):Prop:=
 match x,y with
 | .int k a,.int k' b=>
   match op with
   | .shl=>(0<=b)/\K (.int k (pV k a b))
   | .shr=>(0<=b)/\K (.int k (fS k a b))
   | .add=>j9 (rK k k') (K (.int k (wr k (a+b))))
   | .sub=>j9 (rK k k') (K (.int k (wr k (a - b))))
   | .mul=>j9 (rK k k') (K (.int k (wr k (a*b))))
   | .quo=>(b≠0)/\j9 (rK k k') (K (.int k (wr k (a.tdiv b))))
   | .rem=>(b≠0)/\j9 (rK k k') (K (.int k (a.tmod b)))
   | .and=>j9 (rK k k') (K (.int k (eX .and k a b)))
   | .or=>j9 (rK k k') (K (.int k (eX .or k a b)))
   | .xor=>j9 (rK k k') (K (.int k (eX .xor k a b)))
   | .andNot=>j9 (rK k k') (K (.int k (eX .andNot k a b)))
   | .eql=>j9 (rK k k') (K (.bool (a==b)))
   | .neq=>j9 (rK k k') (K (.bool (a != b)))
   | .lss=>j9 (rK k k') (K (.bool (decide (a<b))))
   | .leq=>j9 (rK k k') (K (.bool (decide (a<=b))))
   | .gtr=>j9 (rK k k') (K (.bool (decide (a>b))))
   | .geq=>j9 (rK k k') (K (.bool (decide (a>= b))))
 |_,_=>False
def SS(op:UnOp)(x:AV)(K:AV->Prop):Prop:=
 match op,x with
 | .neg,.int k n=>K (.int k (wr k (0 - n)))
 | .xor,.int k n=>K (.int k (eX .xor k (if k.signed then -1 else k.max) n))
 | .not,.bool b=>K (.bool !b)
 |_,_=>False
def SU(D:TD)(x:AV)(K:AV->Prop):Prop:=
 match D,x with
 | .int k,.int _ n=>K (.int k (wr k n))
 | .str,.str s=>K (.str s)
 |_,_=>False
def bS(off:Nat)(vs cs:List AV):List AV:=cs.take off++(vs++cs.drop (off+vs.length))
def oN(size:Nat->Nat):List (Nat × Nat)->List (Nat × AV)->List AV->(List AV->Prop)->Prop
 |_,[],cs,K=>K cs
 |fs,(i,v)::r,cs,K=>
  match fs[i]? with
  |some (off,t)=>j9 (bX v&& !((cells v).length==0)&&(cells v).length==size t&&(((cs.drop off).take (cells v).length).length==(cells v).length)) (oN size fs r (bS off (cells v) cs) K)
  |none=>False
def oO(sz:Nat):List (Nat × AV)->List AV->(List AV->Prop)->Prop
 |[],cs,K=>K cs
 |(i,v)::r,cs,K=>j9 (bX v&& !((cells v).length==0)&&(cells v).length==sz&&(((cs.drop (i*sz)).take (cells v).length).length==(cells v).length)) (oO sz r (bS (i*sz) (cells v) cs) K)
def lI(sz:Nat):List (Nat × AV)->List (List AV)->(List (List AV)->Prop)->Prop
 |[],es,K=>K es
 |(i,v)::r,es,K=>j9 (bX v&&(cells v).length==sz&&((es.drop i).take 1).length==1) (lI sz r (es.set i (cells v)) K)
def pW(F:bh):List (Nat × Operand)->List (Nat × AV)
 |[]=>[]
 |(i,o)::r=>(i,ev F o)::pW F r
def Gt(d:Nat->TD):List (Nat × Nat)->Bool
 |[]=>true
 |(_,t)::r=>(d t).ok&&Gt d r
def AP(T:TT)(t:Nat)(ps:List (Nat × AV))(K:AV->Prop):Prop:=
 match T.d t with
 | .struct fs=>j9 (Gt T.d fs&&bX (T.z t)&&(cells (T.z t)).length==T.s t) (oN T.s fs ps (cells (T.z t)) (SR K))
 | .arr _ e=>j9 ((T.d e).ok&&bX (T.z t)&&(cells (T.z t)).length==T.s t) (oO (T.s e) ps (cells (T.z t)) (SR K))
 |_=>False
def AQ(T:TT)(t:Nat)(x ix:AV)(M:Mem)(K:AV->Prop):Prop:=
 match ix with
 | .int _ i=>
   match T.d t with
   | .slice e=>
     (match x with
     | .aD sz es=>j9 (sz==T.s e) ((0<=i/\i<es.length)/\K (.bz (es.getD i.toNat []) 0))
     | .aV n len=>alive M n len fun b=>j9 (b.sz==T.s e) ((0<=i/\i<len)/\K (.loc n len i.toNat 0))
     | .eD n len j off cr=>alive M n len fun _=>(0<=i/\i<cr)/\K (.loc n len j (off+i.toNat*T.s e))
     |_=>False)
   | .arr m e=>
     (match x with
     | .loc n len j off=>alive M n len fun _=>(0<=i/\i< (m:Int))/\K (.loc n len j (off+i.toNat*T.s e))
     | .bz c off=>(0<=i/\i< (m:Int))/\K (.bz c (off+i.toNat*T.s e))
     |_=>False)
   |_=>False
 |_=>False
def nG(T:TT)(t:Nat)(a:AV)(M:Mem)(K:AV->Prop):Prop:=
 match a with
 | .loc n len i off=>alive M n len fun b=>apart (T.d t).ag (T.s t) off (b.es.getD i []) K
 | .bz e off=>apart (T.d t).ag (T.s t) off e K
 |_=>False
def AR(T:TT)(t:Nat)(a v:AV)(M:Mem)(K:Mem->Prop):Prop:=
 match a with
 | .loc n len i off=>alive M n len fun b=>
     j9 (bX v&&(cells v).length==T.s t&& !(T.s t==0)&&((((b.es.getD i []).drop off).take (cells v).length).length==(cells v).length))
      (K (gZ M n ⟨b.ty,b.sz,b.es.set i (bS off (cells v) (b.es.getD i [])),none⟩))
 |_=>False
def iJ:Nat:=1073741824
def pX(sz:Nat):Nat->List AV->List (List AV)
 |0,_=>[]
 |n+1,r=>r.take sz::pX sz n (r.drop sz)
def od(M:Mem)(sz:Nat)(x:AV)(K:List (List AV)->Prop):Prop:=
 match x with
 | .aD s es=>j9 (s==sz) (K es)
 | .ai=>K []
 | .aV n len=>alive M n len fun b=>j9 (b.sz==sz) (K b.es)
 | .eD n len i off cr=>alive M n len fun b=>j9 (Nat.blt i b.es.length&&Nat.ble (off+cr*sz) b.sz&& !(sz==0)) (K (pX sz cr ((b.es.getD i []).drop off)))
 | .str s=>j9 (sz==1) (K (s.map fun c=>[.int .u8 c.toNat]))
 |_=>False
def rL(T:TT)(t:Nat)(s x:AV)(S:St)(K:AV->Mem->Nat->Prop):Prop:=
 match T.d t with
 | .slice e=>
   (match s with
   | .aV n len=>alive S.M n len fun b=>j9 (b.sz==T.s e&&b.ty==e) (od S.M (T.s e) x fun xs=>
       (len+xs.length<=iJ)/\K (.aV n (len+xs.length)) (gZ S.M n ⟨b.ty,b.sz,b.es++xs,none⟩) S.nx)
   | .ai=>od S.M (T.s e) x fun xs=>(xs.length<=iJ)/\K (.aV S.nx xs.length) (gZ S.M S.nx ⟨e,T.s e,xs,none⟩) (S.nx+1)
   |_=>False)
 |_=>False
def sj(k:IntKind)(a:Int):List AV->AV
 |[]=> .int k a
 | .int _ b::r=>sj k (min a b) r
 |_=> .bad
def sk(k:IntKind)(a:Int):List AV->AV
 |[]=> .int k a
 | .int _ b::r=>sk k (max a b) r
 |_=> .bad
def yz:List AV->AV
 | .int k a::r=>sj k a r
 |_=> .bad
def yA:List AV->AV
 | .int k a::r=>sk k a r
 |_=> .bad
mutual
def AV.names:AV->List Nat
 | .loc n _ _ _=>[n]
 | .aV n _=>[n]
 | .eD n _ _ _ _=>[n]
 | .omap n=>[n]
 | .ce _ cs=>AV.aB cs
 | .agg cs=>AV.aB cs
 | .aQ cs=>AV.aB cs
 |_=>[]
def AV.aB:List AV->List Nat
 |[]=>[]
 |c::cs=>AV.names c++AV.aB cs
end
def dO(M:bA):List (Nat × bD)->bA
 |[]=>M
 |(n,b)::r=>dO (dc M n b) r
def dh(M:Mem):List (Nat × bD)->Mem
 |[]=>M
 |(n,b)::r=>dh (gZ M n b) r
def gV(N:Nat->Prop)(ws:List (Nat × bD)):Nat->Prop:=fun m=>N m\/∃b,(m,b) ∈ ws
def iz(X:cE)(M:bA)(N:Nat->Prop)(ρ:Place)(I:Nat->Prop)(w:World)(av:AV)(ws:List (Nat × bD))(v:Value)(w1:World):Prop:=
 ∃ρ1 I1,oK N ρ (lens M) I w ρ1 (lens (dO M ws)) I1 w1/\db X ρ1 I1 (dO M ws) (gV N ws) w1/\aP ρ1 (lens (dO M ws)) I1 w1 (gV N ws) av v
def dB(ρ:Place)(L:bi)(I:Nat->Prop)(w:World)(N:Nat->Prop)(as:List AV)(vs:List Value):Prop:=
 vs.length=as.length/\∀j,j<as.length->aP ρ L I w N (as.getD j .bad) (vs.getD j default)
def CA(P:Program)(X:cE)(f:Nat)(args:List AV)(M:bA)(av:AV)(ws:List (Nat × bD))(nw:List Nat):Prop:=
 (∀p ∈ ws,p.1 ∈ nw\/ p.1 ∈ AV.aB args)/\
 ∀M' N ρ I w vs,db X ρ I M' N w->(∀n ∈ AV.aB args,M' n=M n)->(∀n ∈ nw,¬N n)->dB ρ (lens M') I w N args vs->
  Calls P f vs.toArray w fun e w1=>∃v,e= .returned v/\iz X M' N ρ I w av ws v w1
def Nc(P:Program)(X:cE)(f:Nat)(args:List AV)(Rx:List Nat)(M:bA)(av:AV)(ws:List (Nat × bD))(nw:List Nat):Prop:=
 (∀p ∈ ws,p.1 ∈ nw\/(p.1 ∈ Rx/\M p.1≠none))/\
 ∀M' N ρ I w vs,db X ρ I M' N w->(∀n ∈ Rx,M' n=M n)->(∀n ∈ nw,¬N n)->dB ρ (lens M') I w N args vs->
  Calls P f vs.toArray w fun e w1=>∃v,e= .returned v/\iz X M' N ρ I w av ws v w1
def pY(T:TT)(t:Nat)(x:AV)(lo hi mx:Option AV)(M:Mem)(K:AV->Prop):Prop:=
 match T.d t with
 | .slice e=>j9 ((T.d e).ok) (match x with
   | .aD sz es=>j9 (sz==T.s e) (match lo,hi,mx with
     |none,some (.int _ h),none=>(0<=h/\h<=es.length)/\K (.aD sz (es.take h.toNat))
     |some (.int _ l),none,none=>(0<=l/\l<=es.length)/\K (.aD sz (es.drop l.toNat))
     |some (.int _ l),some (.int _ h),none=>(0<=l/\l<=h/\h<=es.length)/\K (.aD sz ((es.take h.toNat).drop l.toNat))
     |none,some (.int _ h),some (.int _ m)=>(0<=h/\h<=m/\m<=es.length)/\K (.aD sz (es.take h.toNat))
     |_,_,_=>False)
   |_=>False)
 | .str=>(match x with
   | .str s=>(match lo,hi,mx with
     |none,some (.int _ h),none=>(0<=h/\h<=s.length)/\K (.str (s.take h.toNat))
     |some (.int _ l),none,none=>(0<=l/\l<=s.length)/\K (.str (s.drop l.toNat))
     |some (.int _ l),some (.int _ h),none=>(0<=l/\l<=h/\h<=s.length)/\K (.str ((s.take h.toNat).drop l.toNat))
     |_,_,_=>False)
   |_=>False)
 |_=>False
def uM(F:bh):Option Operand->Option AV
 |none=>none
 |some o=>some (ev F o)
def dd(F:bh):Op->List Nat
 | .store _ a _=>(ev F a).names
 | .mapUpdate _ m _ _=>(ev F m).names
 | .insert _ m _ _=>(ev F m).names
 | .mapEntry _ m _=>(ev F m).names
 | .entryStore _ m _ _=>(ev F m).names
 | .call c=>(match c.callee,c.args.toList with
   | .builtin .delete,s::_=>(ev F s).names
   | .builtin .append,s::_=>(ev F s).names
   | .builtin .copy,s::_=>(ev F s).names
   | .value f,as=>(match ev F f with
     | .ce _ aZ=>AV.aB (oM F as++aZ)
     |_=>[])
   |_,_=>[])
 |_=>[]
def Nd:List (Nat × Nat)->Nat->Option Nat
 |[],_=>none
 |(i,s)::r,j=>bif j==i then some s else Nd r j
def kU:List AV->List AV->Bool
 |[],_=>true
 | .int _ x::r,.int _ y::s=>(x==y)&&kU r s
 | .bool x::r,.bool y::s=>(x==y)&&kU r s
 | .str x::r,.str y::s=>(x==y)&&kU r s
 |_,_=>false
def bR(kc:List AV):List (List AV)->Option (Nat × List AV)
 |[]=>none
 |e::r=>if kU kc e then some (0,e.drop kc.length)else (bR kc r).map fun q=>(q.1+1,q.2)
def jG:List AV->Bool
 |[]=>true
 | .int .i64 _::r=>jG r
 |_::_=>false
def DY(q:Option (Nat × List AV)):AV:=match q with
 |some q=>q.2.headD .bad
 |none=> .int .i64 0
def Vw(x:Option bD):Option (Nat × Option (Nat × Bool × Bool × Dn) × (List AV->AV) × Prop):=x.map fun b=>(b.sz,b.mp,(fun kc=>if kc.length+1=b.sz then DY (bR kc b.es)else .bad),∀r ∈ b.es,jG r=true)
def qy(acc:List Nat):List Edge->Nat
 |[]=>0
 |e::r=>bif Region.binds .any e then (2 ^ e.on||| acc.getD e.on 0)||| qy acc r else qy acc r
def jN:List Oper->List Nat->List Nat
 |[],acc=>acc
 |o::r,acc=>jN r (acc++ [qy acc o.after.toList])
def sm:Nat->List Oper->Bool
 |_,[]=>true
 |i,o::r=>o.after.toList.all (fun e=> !Region.binds .any e||Nat.blt e.on i)&&sm (i+1) r
def CB(ops:Array Oper)(ms:List Nat):Bool:=
 (List.range ops.size).all fun j=>(List.range j).all fun i=>(ms.getD j 0).testBit i||(match ops[i]?,ops[j]? with
   |some x,some y=>x.apart ops y
   |_,_=>true)
def pZ(ops:Array Oper):Bool:=sm 0 ops.toList&&CB ops (jN ops.toList [])
structure gy where
 i:Nat
 R:List Nat
 W:List Nat
 lo:Nat
 hi:Nat
 k:Nat
def N3(lo hi:Nat)(R W:List Nat):Bool:=R.all fun n=> !(Nat.ble lo n&&Nat.blt n hi)&& !W.any (Nat.beq n)
def AS(ms:List Nat)(x y:gy):Bool:=
 (ms.getD x.i 0).testBit y.i||(ms.getD y.i 0).testBit x.i||(N3 x.lo x.hi y.R x.W&&N3 y.lo y.hi x.R y.W)
def lY(log:List gy)(x:gy):Bool:=Nat.beq x.k 1&&log.all fun y=>x.R.all fun n=>Nat.blt n y.lo&&(Nat.beq y.k 2|| !y.W.any (Nat.beq n))
def DZ(x y:gy):Bool:=Nat.beq x.k 3&&Nat.beq y.k 4
def w7(ops:Array Oper)(log:List gy):Bool:=log.all fun x=>log.all fun y=>Nat.beq x.i y.i||AS (jN ops.toList []) x y||lY log x||lY log y||DZ x y||DZ y x
def nH:List Operand->List Nat
 |[]=>[]
 | .tmp t::r=>t::nH r
 |_::r=>nH r
def JU(F:bh):List Nat->List Nat
 |[]=>[]
 |s::r=>(look F s).names++JU F r
def Gu(i:Nat)(R W:List Nat)(lo hi k:Nat)(log:List gy):List gy:=bif (R.isEmpty&&W.isEmpty)&&lo==hi then log else ⟨i,R,W,lo,hi,k⟩::log
def jl(p:Option (Nat × List Nat × List Nat × Nat × Nat))(hi:Nat)(log:List gy):List gy:=match p with
 |some (i,R,W,lo,k)=>Gu i R W lo hi k log
 |none=>log
def Ng(id:Nat):List It->Option (List It)
 | .bf id'::k=>bif id'==id then some k else Ng id k
 |_::k=>Ng id k
 |[]=>none
def lZ(I:Nat->Prop)(w:World)(X:cE)(ds:List Deferred):Prop:=
 ∃Ds:List Nat,ds=Ds.map (fun D=> {target:= .collected D,args:= #[]})/\Ds.Nodup/\∀D ∈ Ds,X.w0.heap.size<=D/\I D/\w.heap[D]? =some (.deferred (some []))
theorem lZ.nil{I:Nat->Prop}{w:World}{X:cE}:lZ I w X []:=⟨[],rfl,List.nodup_nil,fun D h=>by simp at h⟩
theorem lZ.mono{I I':Nat->Prop}{w:World}{X:cE}{ds:List Deferred}(h:lZ I w X ds)(hI:∀g,I g->I' g):lZ I' w X ds:=by
 obtain⟨Ds,h1,h2,h3⟩:=h
 exact⟨Ds,h1,h2,fun D hD=>⟨(h3 D hD).1,hI D (h3 D hD).2.1,(h3 D hD).2.2⟩⟩
theorem lZ.yr{N:Nat->Prop}{ρ ρ':Place}{L L':bi}{I I':Nat->Prop}{w w':World}{X:cE}{ds:List Deferred}(h:lZ I w X ds)(E:oK N ρ L I w ρ' L' I' w'):lZ I' w' X ds:=by
 obtain⟨Ds,h1,h2,h3⟩:=h
 exact⟨Ds,h1,h2,fun D hD=>⟨(h3 D hD).1,E.rp D (h3 D hD).2.1,(E.cell D (h3 D hD).2.1).trans (h3 D hD).2.2⟩⟩
structure lJ(ρ:Place)(I:Nat->Prop)(w:World)(X:cE)(S:St)(a:Act):Prop where
 rep:∀i,aP ρ (lens (ab S.M)) I w (· <S.nx) (look S.F i) (a.tmps.getD i undef)
 defers:lZ I w X a.defers
 size:a.tmps.size=X.size
def jH(X:cE)(S:St)(a:Act)(w:World):Prop:=∃ρ I,db X ρ I (ab S.M) (· <S.nx) w/\lJ ρ I w X S a
def CC(nr:Bool)(todo:List Item):Prop:=todo=[]\/(nr=false/\∃k,todo= .code .ret::k)
def iY(P:Program)(X:cE)(b:Frame)(R:St->Prop)(ks:List It)(a:Act)(w:World):Prop:=
 ∀cs,∃a' w' S',jH X S' a' w'/\
  ((∃todo,CC b.roundOf.isSome todo/\Steps P (lone (b.atR a (ks.map It.item)) cs w) (lone (b.atR a' todo) cs w')/\R S')\/
   (∃c post k',(It.fD c post::k') <:+ ks/\Steps P (lone (b.atR a (ks.map It.item)) cs w) (lone (b.atR a' ((It.fD c post::k').map It.item)) cs w')/\post S'))
def D3(size:Nat)(o:Oper):Bool:=match o.dst with|some d=>d<size|none=>true
def codeOk(size:Nat)(nr:Bool):Code->Bool
 | .ret=> !nr
 | .rangeFunc _ ps a c=> !nr&&codeOk size true a&&codeOk size true c&&ps.toList.all fun p=>Nat.blt p size
 | .region _ ops _=>ops.toList.all (D3 size)
 | .seq a b=>codeOk size nr a&&codeOk size nr b
 | .cond _ a b=>codeOk size nr a&&codeOk size nr b
 | .block _ c=>codeOk size nr c
 | .loop c=>codeOk size nr c
 | .scope c=>codeOk size nr c
 |_=>true
def D4(size:Nat)(nr:Bool):It->Prop
 | .code c=>codeOk size nr c=true
 | .inl c=>codeOk size nr c=true
 | .fD _ _=>True
 | .bf _=>True
 | .mI _=>True
 | .ops all i rest gd=>rest=all.toList.drop i/\rest.all (D3 size)=true/\∀j s,Nd gd j=some s->(all[j]?).bind (·.dst)=some s
def SV(P:Program)(X:cE)(b:Frame)(R:St->Prop)(c:Code)(ks:List It)(S:St):Prop:=
 codeOk X.size b.roundOf.isSome c=true->(∀x ∈ ks,D4 X.size b.roundOf.isSome x)->∀a w,jH X S a w->iY P X b R (.code c:: .inl c::ks) a w
end Go.AM
namespace Go.AM
open Go.RowKit
theorem uR(M:Mem)(n:Nat)(b:bD):ab (gZ M n b)=dc (ab M) n b:=by
 funext m; rw[mG]; rfl
theorem so(ws:List (Nat × bD)):∀M:Mem,ab (dh M ws)=dO (ab M) ws:=by
 induction ws with
 |nil=>intro M; rfl
 |cons p r ih=>intro M; simp only[dh,dO,ih,uR]
def dC(o:Op):List Nat:=nH o.operands.toList
def bZ(P:Program)(X:cE)(o:Oper)(a:Act)(M:bA)(N:Nat->Prop)(ρ:Place)(I:Nat->Prop)(w:World)(av:AV)(ws:List (Nat × bD)):Prop:=
 match (execOp a.eval o).run P w with
 | .ok (.value v) w1=>iz X M N ρ I w av ws v w1
 | .ok .skip w1=>iz X M N ρ I w av ws undef w1
 | .ok (.enter f args) w1=>w1=w/\Calls P f args w fun e w2=>∃v,e= .returned v/\iz X M N ρ I w av ws v w2
 |_=>False
def bT(P:Program)(X:cE)(o:Oper)(F:bh)(M:bA)(av:AV)(ws:List (Nat × bD))(nw:List Nat):Prop:=
 (∀p ∈ ws,p.1 ∈ nw\/∃s ∈ dC o.op,p.1 ∈ (look F s).names)/\
 ∀M' N ρ I a w,db X ρ I M' N w->(∀s ∈ dC o.op,aP ρ (lens M') I w N (look F s) (a.tmps.getD s undef))->
  (∀s ∈ dC o.op,∀n ∈ (look F s).names,M' n=M n)->(∀n ∈ nw,¬N n)->bZ P X o a M' N ρ I w av ws
def nI(P:Program)(X:cE)(o:Oper)(F:bh)(M:bA)(av:AV):Prop:=
 ∀M' N ρ I a w,db X ρ I M' N w->(∀s ∈ dC o.op,aP ρ (lens M') I w N (look F s) (a.tmps.getD s undef))->
  (∀s ∈ dC o.op,∀n ∈ (look F s).names,lens M' n=lens M n)->bZ P X o a M' N ρ I w av []
theorem nI.p5{P:Program}{X:cE}{o:Oper}{F:bh}{M:bA}{av:AV}(h:nI P X o F M av):bT P X o F M av [] []:=
 ⟨fun p hp=>by simp at hp,fun M' N ρ I a w W hr hM _=>h M' N ρ I a w W hr (fun s hs n hn=>by unfold lens; rw[hM s hs n hn])⟩
def oP(P:Program)(X:cE)(o:Oper)(F:bh)(M:bA)(av:AV):Prop:=
 ∀M' N ρ I a w,db X ρ I M' N w->(∀s ∈ dC o.op,aP ρ (lens M') I w N (look F s) (a.tmps.getD s undef))->
  (∀s ∈ dC o.op,∀n ∈ (look F s).names,Vw (M' n)=Vw (M n))->bZ P X o a M' N ρ I w av []
def qz(P:Program)(X:cE)(o:Oper)(F:bh)(M:bA)(Rx:List Nat)(av:AV)(ws:List (Nat × bD))(nw:List Nat):Prop:=
 (∀p ∈ ws,p.1 ∈ nw\/(∃s ∈ dC o.op,p.1 ∈ (look F s).names)\/(p.1 ∈ Rx/\M p.1≠none))/\((∀s ∈ dC o.op,∀n ∈ (look F s).names,n ∈ Rx)\/(ws=[]/\∀M' N ρ I a w,db X ρ I M' N w->(∀s ∈ dC o.op,aP ρ (lens M') I w N (look F s) (a.tmps.getD s undef))->bZ P X o a M' N ρ I w av []))/\
 ∀M' N ρ I a w,db X ρ I M' N w->(∀s ∈ dC o.op,aP ρ (lens M') I w N (look F s) (a.tmps.getD s undef))->
  (∀n ∈ Rx,M' n=M n)->(∀n ∈ nw,¬N n)->bZ P X o a M' N ρ I w av ws
theorem bT.more{P:Program}{X:cE}{o:Oper}{F:bh}{M:bA}{Rx:List Nat}{av:AV}{ws:List (Nat × bD)}{nw:List Nat}(h:bT P X o F M av ws nw)(hR:∀s ∈ dC o.op,∀n ∈ (look F s).names,n ∈ Rx):qz P X o F M Rx av ws nw:=
 ⟨fun p hp=>(h.1 p hp).imp id .inl,.inl hR,fun M' N ρ I a w W hr hM hN=>h.2 M' N ρ I a w W hr (fun s hs n hn=>hM n (hR s hs n hn)) hN⟩
theorem p6(N:Nat->Prop):gV N []=N:=by funext m; simp[gV]
theorem iz.value{X:cE}{M:bA}{N:Nat->Prop}{ρ:Place}{I:Nat->Prop}{w:World}{av:AV}{v:Value}(h:db X ρ I M N w)(r:aP ρ (lens M) I w N av v):iz X M N ρ I w av [] v w:=
 ⟨ρ,I,oK.refl _ _ _ _ _,by rw[p6]; exact h,by rw[p6]; exact r⟩
theorem jf{x:Nat}:∀{l:List Operand},Operand.tmp x ∈ l->x ∈ nH l
 | .tmp t::r,h=>by
   simp only[List.mem_cons]at h
   rcases h with h|h
   ·cases h; exact List.mem_cons_self
   ·exact List.mem_cons_of_mem _ (jf (l:=r) h)
 | .const v::r,h=>by simp only[List.mem_cons,reduceCtorEq,false_or]at h; exact jf (l:=r) h
 | .global g::r,h=>by simp only[List.mem_cons,reduceCtorEq,false_or]at h; exact jf (l:=r) h
 | .func f::r,h=>by simp only[List.mem_cons,reduceCtorEq,false_or]at h; exact jf (l:=r) h
theorem sq(ρ:Place)(L:bi)(I:Nat->Prop)(w:World)(N:Nat->Prop)(v:Value):aP ρ L I w N (uQ v) v:=by
 unfold uQ
 split
 ·exact .int _ _
 ·exact .bool _
 ·rename_i s; have:s=⟨s.data.toList.toArray⟩:=by cases s; simp
  conv=>rhs; rw[this]
  exact .str _
 ·exact .bM
 ·exact .ai
 ·exact .aw
 ·exact .ep
 ·exact .cj
 ·exact .bad _
theorem gz(ρ:Place)(L:bi)(I:Nat->Prop)(w:World)(N:Nat->Prop)(v:Value):aP ρ L I w N (Na v) v:=by
 unfold Na
 split
 ·rename_i cs
  cases hall:cs.toList.all Value.oneCell'
  ·exact .bad _
  have:=aP.agg (ρ:=ρ) (L:=L) (I:=I) (w:=w) (N:=N) (cs.toList.map uQ) cs.toList (by simp) (List.all_eq_true.1 hall) (fun j hj=>by
   have hj':j<cs.toList.length:=by simpa using hj
   simp only[List.getD_eq_getElem?_getD,List.getElem?_map,List.getElem?_eq_getElem hj',Option.map_some,Option.getD_some]
   exact sq _ _ _ _ _ _)
  simpa using this
 ·rename_i cs
  have:=aP.aQ (ρ:=ρ) (L:=L) (I:=I) (w:=w) (N:=N) (cs.toList.map uQ) cs.toList (by simp) (fun j hj=>by
   have hj':j<cs.toList.length:=by simpa using hj
   simp only[List.getD_eq_getElem?_getD,List.getElem?_map,List.getElem?_eq_getElem hj',Option.map_some,Option.getD_some]
   exact sq _ _ _ _ _ _)
  simpa using this
 ·exact sq _ _ _ _ _ _
theorem p7{ρ:Place}{L:bi}{I:Nat->Prop}{w:World}{N:Nat->Prop}{F:bh}{a:Act}(x:Operand)(h:∀s,x= .tmp s->aP ρ L I w N (look F s) (a.tmps.getD s undef)):aP ρ L I w N (ev F x) (a.eval x):=by
 cases x with
 |tmp t=>exact h t rfl
 |const v=>exact gz _ _ _ _ _ v
 |global g=>exact .bad _
 |func f=>exact .ce f [] [] rfl (fun j hj=>by simp at hj)
theorem ax{ρ:Place}{L:bi}{I:Nat->Prop}{w:World}{N:Nat->Prop}{F:bh}{a:Act}{o:Op}(h:∀s ∈ dC o,aP ρ L I w N (look F s) (a.tmps.getD s undef))(x:Operand)(hx:x ∈ o.operands.toList):aP ρ L I w N (ev F x) (a.eval x):=
 p7 x fun s e=>h s (jf (e ▸ hx))
theorem sr(v:Value):(uQ v).names=[]:=by unfold uQ; split<;>rfl
theorem iK:∀l:List Value,AV.aB (l.map uQ)=[]
 |[]=>rfl
 |v::r=>by simp[AV.aB,sr,iK r]
theorem D5(v:Value):(Na v).names=[]:=by
 unfold Na
 split
 ·rename_i cs
  cases cs.toList.all Value.oneCell'
  ·rfl
  ·simp[AV.names,iK]
 ·simp[AV.names,iK]
 ·exact sr _
theorem bE{F:bh}{o:Op}(x:Operand)(hx:x ∈ o.operands.toList){n:Nat}(hn:n ∈ (ev F x).names):∃s ∈ dC o,n ∈ (look F s).names:=by
 cases x with
 |tmp t=>exact⟨t,jf hx,hn⟩
 |const v=>simp[ev,D5]at hn
 |global g=>simp[ev,AV.names]at hn
 |func f=>simp[ev,AV.names,AV.aB]at hn
def TD.fits:TD->TypeDesc->Prop
 | .int k,.int k'=>k=k'
 | .bool,.bool=>True
 | .str,.string=>True
 | .ptr e,.pointer e'=>e=e'
 | .slice e,.slice e'=>e=e'
 | .arr n e,.array n' e'=>n=n'/\e=e'
 | .struct fs,.struct gs=>fs=gs.toList.map fun f=>(f.offset,f.type)
 | .func,.func .. =>True
 | .iface,.interface _=>True
 | .map k e,.map k' e'=>k=k'/\e=e'
 | .aQ,.tuple _=>True
 |_,_=>False
def dD(P:Program)(T:TT):Prop:=∀t,T.d t≠ .other->∃D i z,P.underlying t=some D/\(T.d t).fits D/\P.info? t=some i/\i.size=T.s t/\i.bytes<=131072/\i.zero=some z/\T.z t=Na z
theorem fE{v:Value}(h:v.oneCell'=true):v.cells= #[v]:=by
 cases v<;>simp_all[Value.oneCell',Value.cells]
theorem p8{ρ:Place}{L:bi}{I:Nat->Prop}{w:World}{N:Nat->Prop}{a:AV}{v:Value}(h:aP ρ L I w N a v)(hs:bX a=true):
  v.cells.toList.length=(cells a).length/\(∀u ∈ v.cells.toList,u.oneCell'=true)/\∀j,j< (cells a).length->aP ρ L I w N ((cells a).getD j .bad) (v.cells.toList.getD j default):=by
 have one:∀a v,aP ρ L I w N a v->v.oneCell'=true->cells a=[a]->v.cells.toList.length=(cells a).length/\(∀u ∈ v.cells.toList,u.oneCell'=true)/\∀j,j< (cells a).length->aP ρ L I w N ((cells a).getD j .bad) (v.cells.toList.getD j default):=by
  intro a v hr h1 hc
  rw[fE h1,hc]
  refine⟨rfl,by simpa using h1,fun j hj=> ?_⟩
  have:j=0:=by simp at hj; omega
  subst this
  simpa using hr
 have h':=h
 cases h with
 |agg cs vs hl h1 hr=>exact⟨by simpa[Value.cells,cells]using hl,by simpa[Value.cells]using h1,by simpa[Value.cells,cells]using hr⟩
 |bad=>simp[bX]at hs
 |aQ=>simp[bX]at hs
 |loc n len i off _ hn h1 h=>exact one _ _ h' h1 rfl
 |aV n len _ hn h1 h=>exact one _ _ h' h1 rfl
 |eD n len i off cr _ hn h1 h=>exact one _ _ h' h1 rfl
 |omap n _ hn h1 h=>exact one _ _ h' h1 rfl
 |_=>exact one _ _ h' rfl rfl
theorem nJ{P:Program}{w:World}{t:TypeId}{i:TypeInfo}(h:P.info? t=some i):(typeInfo t).run P w= .ok i w:=by simp[typeInfo,h]
theorem bI{P:Program}{w:World}{t:TypeId}{i:TypeInfo}(h:P.info? t=some i):(sizeOf t).run P w= .ok i.size w:=by simp[sizeOf,nJ h]
theorem gA{P:Program}{w:World}{t:TypeId}{i:TypeInfo}{z:Value}(h:P.info? t=some i)(hz:i.zero=some z):(zeroValue t).run P w= .ok z w:=by simp[zeroValue,nJ h,hz]
theorem oe{P:Program}{w:World}{t:TypeId}{D:TypeDesc}{d:TD}(h:P.underlying t=some D)(hf:d.fits D):(isAgg t).run P w= .ok d.ag w:=by
 unfold isAgg
 simp only[Sem.run_bind,run_underlying h,Result.andThen_ok]
 cases d<;>cases D<;>simp_all[TD.fits,TD.ag]
end Go.AM
namespace Go.AM
open Go.RowKit
variable {P:Program} {T:TT} {X:cE} {o:Oper} {F:bh} {M:bA}
theorem aH{av:AV}(h:∀M' N ρ I (a:Act) w,db X ρ I M' N w->(∀s ∈ dC o.op,aP ρ (lens M') I w N (look F s) (a.tmps.getD s undef))->(∀s ∈ dC o.op,∀n ∈ (look F s).names,M' n=M n)->
  ∃v,(execOp a.eval o).run P w= .ok (.value v) w/\aP ρ (lens M') I w N av v):bT P X o F M av [] []:=by
 refine⟨fun p hp=>by simp at hp,fun M' N ρ I a w hW hU hN _=> ?_⟩
 obtain⟨v,hv,hr⟩:=h M' N ρ I a w hW hU hN
 unfold bZ
 rw[hv]
 exact iz.value hW hr
theorem ga{av:AV}(h:∀M' N ρ I (a:Act) w,db X ρ I M' N w->(∀s ∈ dC o.op,aP ρ (lens M') I w N (look F s) (a.tmps.getD s undef))->(∀s ∈ dC o.op,∀n ∈ (look F s).names,lens M' n=lens M n)->
  ∃v,(execOp a.eval o).run P w= .ok (.value v) w/\aP ρ (lens M') I w N av v):nI P X o F M av:=by
 refine fun M' N ρ I a w hW hU hN=> ?_
 obtain⟨v,hv,hr⟩:=h M' N ρ I a w hW hU hN
 unfold bZ
 rw[hv]
 exact iz.value hW hr
theorem vt{x:Operand}(ho:o.op= .move x\/ o.op= .assign x):bT P X o F M (ev F x) [] []:=by
 refine aH fun M' N ρ I a w hW hU hN=>⟨a.eval x,?_,ax hU x ?_⟩
 ·rcases ho with ho|ho<;>simp[execOp,ho]
 ·rcases ho with ho|ho<;>simp[ho,Op.operands]
theorem AT{x:Operand}(ho:o.op= .move x\/ o.op= .assign x):qz P X o F M [] (ev F x) [] []:=by
 have free:∀M' N ρ I a w,db X ρ I M' N w->(∀s ∈ dC o.op,aP ρ (lens M') I w N (look F s) (a.tmps.getD s undef))->bZ P X o a M' N ρ I w (ev F x) []:=by
  intro M' N ρ I a w hW hU
  have e:(execOp a.eval o).run P w= .ok (.value (a.eval x)) w:=by rcases ho with ho|ho<;>simp[execOp,ho]
  unfold bZ
  rw[e]
  exact iz.value hW (ax hU x (by rcases ho with ho|ho<;>simp[ho,Op.operands]))
 exact⟨fun p hp=>by simp at hp,.inr ⟨rfl,free⟩,fun M' N ρ I a w hW hU _ _=>free M' N ρ I a w hW hU⟩
theorem D6{c x y:Operand}{t:Bool}(ho:o.op= .pick c x y)(hc:ev F c= .bool t):bT P X o F M (ev F (if t then x else y)) [] []:=by
 refine aH fun M' N ρ I a w hW hU hN=>⟨a.eval (if t then x else y),?_,ax hU _ ?_⟩
 ·have hr:=ax hU c (by simp[ho,Op.operands])
  rw[hc]at hr
  generalize YX:a.eval c=cv at hr
  cases hr
  cases t<;>simp[execOp,ho,YX,asBool]
 ·cases t<;>simp[ho,Op.operands]
theorem jO{M':bA}{n:Nat}{b:bD}(hm:M n=some b)(h:lens M' n=lens M n):lens M' n=some (b.ln,b.sz):=by
 rw[h,aC]; exact⟨b,hm,rfl,rfl⟩
theorem gB{ρ:Place}{L:bi}{I:Nat->Prop}{w:World}{N:Nat->Prop}{n len i off sz:Nat}{v:Value}(h:aP ρ L I w N (.loc n len i off) v)(hl:L n=some (len,sz)):
  N n/\∃g cap,ρ n=some (g,cap)/\v= .pointer (some ⟨g,i*sz+off,none⟩):=by
 cases h with
 |loc _ _ _ _ _ hn h1 h=>exact⟨hn,(h len sz hl).2 rfl⟩
theorem hG{ρ:Place}{L:bi}{I:Nat->Prop}{w:World}{N:Nat->Prop}{n len i off sz g cap:Nat}(hn:N n)(hl:L n=some (len,sz))(hρ:ρ n=some (g,cap)):
  aP ρ L I w N (.loc n len i off) (.pointer (some ⟨g,i*sz+off,none⟩)):=
 .loc n len i off _ hn rfl fun l AU h=>by
   rw[hl]at h
   simp only[Option.some.injEq,Prod.mk.injEq]at h
   obtain⟨rfl,rfl⟩:=h
   exact⟨Nat.le_refl _,fun _=>⟨g,cap,hρ,rfl⟩⟩
theorem cz(g o n:Nat):(⟨g,o,none⟩:Addr).add n=⟨g,o+n,none⟩:=by
 unfold Addr.add; split<;>simp_all
theorem l7{s f:Nat}{x:Operand}{av:AV}{fs:List (Nat × Nat)}{off ft:Nat}(hT:dD P T)(ho:o.op= .fieldAddr s x f)(hs:T.d s= .struct fs)(hf:fs[f]? =some (off,ft))(hz:(T.s ft==0)=false)(hft:T.d ft≠ .other)
  (h:(∃n len i o' b,ev F x= .loc n len i o'/\M n=some b/\b.ln=len/\av= .loc n len i (o'+off))\/(∃e o',ev F x= .bz e o'/\av= .bz e (o'+off))):nI P X o F M av:=by
 refine ga fun M' N ρ I a w hW hU hN=> ?_
 have hx:x ∈ o.op.operands.toList:=by simp[ho,Op.operands]
 have hr:=ax hU x hx
 obtain⟨D,i,z,hD,hfit,hi,hsz,_,_⟩:=hT s (by rw[hs]; simp)
 rw[hs]at hfit
 cases D<;>simp only[TD.fits]at hfit
 rename_i gs
 obtain⟨_,it,_,_,_,hit,gu,_,_⟩:=hT ft hft
 have hg:∃N5,gs[f]? =some N5/\N5.offset=off/\N5.type=ft:=by
  rw[hfit,List.getElem?_map]at hf
  cases ZO:gs.toList[f]? with
  |none=>simp[ZO]at hf
  |some N5=>
   simp only[ZO,Option.map_some,Option.some.injEq,Prod.mk.injEq]at hf
   exact⟨N5,by simpa using ZO,hf.1,hf.2⟩
 obtain⟨N5,ZP,rfl,rfl⟩:=hg
 have hne:it.size≠0:=by rw[gu]; simpa using hz
 have run:∀g q,a.eval x= .pointer (some ⟨g,q,none⟩)->(execOp a.eval o).run P w= .ok (.value (.pointer (some ⟨g,q+N5.offset,none⟩))) w:=by
  intro g q hq
  simp only[execOp,ho,Instr.fieldAt,Sem.run_bind,run_underlying hD,Result.andThen_ok,ZP,hq,Instr.sureAddr,Sem.run_pure,fieldPlace,bI hit,if_neg hne,cz]
 rcases h with⟨n,len,i',o',b,he,hb,hl,rfl⟩|⟨e,o',he,rfl⟩
 ·rw[he]at hr
  obtain⟨sl,fq,fF⟩:=bE (F:=F) x hx (n:=n) (by rw[he]; simp[AV.names])
  have ej:=jO hb (hN sl fq n fF)
  rw[hl]at ej
  obtain⟨hn,g,cap,hρ,hv⟩:=gB hr ej
  refine⟨_,run g _ hv,?_⟩
  rw[Nat.add_assoc]
  exact hG hn ej hρ
 ·rw[he]at hr
  generalize uS:a.eval x=v at hr
  cases hr with
  |bz _ _ b' o'' c hI h1 hcell hr=>
   refine⟨_,run b' _ uS,?_⟩
   rw[Nat.add_assoc]
   exact .bz e _ b' o'' c hI h1 hcell hr
theorem su{s f:Nat}{x:Operand}{av:AV}{fs:List (Nat × Nat)}{off ft:Nat}(hT:dD P T)(ho:o.op= .fieldAddr s x f)(hs:T.d s= .struct fs)(hf:fs[f]? =some (off,ft))(hz:(T.s ft==0)=false)(hft:T.d ft≠ .other)
 (h:(∃n len i o' b,ev F x= .loc n len i o'/\M n=some b/\b.ln=len/\av= .loc n len i (o'+off))\/(∃e o',ev F x= .bz e o'/\av= .bz e (o'+off))):bT P X o F M av [] []:=(l7 hT ho hs hf hz hft h).p5
theorem run_indexAt_slice{t e:TypeId}{it:TypeInfo}{w:World}(hD:P.underlying t=some (.slice e))(hi:P.info? e=some it)(g q len cap:Nat)(k:IntKind)(i:Int)(h:0<=i/\i< (len:Int)):
  (Instr.indexAt t (.slice (some ⟨g,q,none⟩) len cap) (.int k i)).run P w= .ok (.pointer (some ⟨g,q+i.toNat*it.size,none⟩)) w:=by
 simp only[Instr.indexAt,asIntOf,Sem.run_bind,Sem.run_pure,Result.andThen_ok,run_underlying hD,if_pos h,bI hi,cz]
theorem lK{t e n:Nat}{it:TypeInfo}{w:World}(hD:P.underlying t=some (.array n e))(hi:P.info? e=some it)(g q:Nat)(k:IntKind)(i:Int)(h:0<=i/\i< (n:Int)):
  (Instr.indexAt t (.pointer (some ⟨g,q,none⟩)) (.int k i)).run P w= .ok (.pointer (some ⟨g,q+i.toNat*it.size,none⟩)) w:=by
 simp only[Instr.indexAt,asIntOf,Sem.run_bind,Sem.run_pure,Result.andThen_ok,run_underlying hD,if_pos h,bI hi,cz,Instr.sureAddr]
theorem cq{d:TD}{D:TypeDesc}{e:Nat}(hd:d= .slice e)(h:d.fits D):D= .slice e:=by
 subst hd; cases D<;>simp_all[TD.fits]
theorem gC{d:TD}{D:TypeDesc}{n e:Nat}(hd:d= .arr n e)(h:d.fits D):D= .array n e:=by
 subst hd; cases D<;>simp_all[TD.fits]
theorem jP{d:TD}{D:TypeDesc}{fs:List (Nat × Nat)}(hd:d= .struct fs)(h:d.fits D):∃gs,D= .struct gs/\fs=gs.toList.map fun f=>(f.offset,f.type):=by
 subst hd; cases D<;>simp_all[TD.fits]
theorem fits_int{d:TD}{D:TypeDesc}{k:IntKind}(hd:d= .int k)(h:d.fits D):D= .int k:=by
 subst hd; cases D<;>simp_all[TD.fits]
theorem gD{d:TD}{D:TypeDesc}(hd:d= .str)(h:d.fits D):D= .string:=by
 subst hd; cases D<;>simp_all[TD.fits]
theorem TD.ee{d:TD}(h:d.ok=true):d≠ .other:=by rintro rfl; simp[TD.ok]at h
theorem bN{ρ:Place}{L:bi}{I:Nat->Prop}{w:World}{N:Nat->Prop}{k:IntKind}{n:Int}{v:Value}(h:aP ρ L I w N (.int k n) v):v= .int k n:=by cases h; rfl
theorem gE{ρ:Place}{L:bi}{I:Nat->Prop}{w:World}{N:Nat->Prop}{b:Bool}{v:Value}(h:aP ρ L I w N (.bool b) v):v= .bool b:=by cases h; rfl
theorem ir{ρ:Place}{L:bi}{I:Nat->Prop}{w:World}{N:Nat->Prop}{s:List UInt8}{v:Value}(h:aP ρ L I w N (.str s) v):v= .string ⟨s.toArray⟩:=by cases h; rfl
theorem jQ{ρ:Place}{L:bi}{I:Nat->Prop}{w:World}{N:Nat->Prop}{n len sz:Nat}{v:Value}(h:aP ρ L I w N (.aV n len) v)(hl:L n=some (len,sz)):
  N n/\((ρ n=none/\∃q,v= .slice q 0 0)\/∃g cap,ρ n=some (g,cap)/\v= .slice (some ⟨g,0,none⟩) len cap):=by
 cases h with
 |aV _ _ _ hn h1 h=>exact⟨hn,(h len sz hl).2 rfl⟩
theorem kW{ρ:Place}{L:bi}{I:Nat->Prop}{w:World}{N:Nat->Prop}{n len sz g cap:Nat}(hn:N n)(hl:L n=some (len,sz))(hρ:ρ n=some (g,cap)):
  aP ρ L I w N (.aV n len) (.slice (some ⟨g,0,none⟩) len cap):=
 .aV n len _ hn rfl fun l AU h=>by
   rw[hl]at h
   simp only[Option.some.injEq,Prod.mk.injEq]at h
   obtain⟨rfl,rfl⟩:=h
   exact⟨Nat.le_refl _,fun _=> .inr ⟨g,cap,hρ,rfl⟩⟩
theorem mJ{ρ:Place}{L:bi}{I:Nat->Prop}{w:World}{N:Nat->Prop}{n len i off cr sz:Nat}{v:Value}(h:aP ρ L I w N (.eD n len i off cr) v)(hl:L n=some (len,sz)):
  N n/\∃g cap c,ρ n=some (g,cap)/\v= .slice (some ⟨g,i*sz+off,none⟩) cr c/\cr<=c/\c<=maxLen:=by
 cases h with
 |eD _ _ _ _ _ _ hn h1 h=>exact⟨hn,(h len sz hl).2 rfl⟩
theorem l8(hT:dD P T){t:Nat}{x ix:Operand}{K:AV->Prop}{Ml:Mem}(hM:M=ab Ml)(hok:∀e,T.d t= .slice e->(T.d e).ok=true)(N6:∀m e,T.d t= .arr m e->(T.d e).ok=true)
  (ho:o.op= .indexAddr t x ix) (h:AQ T t (ev F x) (ev F ix) Ml K):∃av,nI P X o F M av/\K av:=by
 have hx:x ∈ o.op.operands.toList:=by simp[ho,Op.operands]
 have N7:ix ∈ o.op.operands.toList:=by simp[ho,Op.operands]
 have nm:∀n,n ∈ (ev F x).names->∀(M':bA),(∀s ∈ dC o.op,∀n ∈ (look F s).names,lens M' n=lens M n)->lens M' n=lens M n:=by
  intro n hn M' hN
  obtain⟨sl,fq,fF⟩:=bE (F:=F) x hx hn
  exact hN sl fq n fF
 cases qA:ev F ix with
 |int k i=>
  rw[qA]at h
  simp only[AQ]at h
  cases ht:T.d t with
  |slice e=>
   rw[ht]at h
   obtain⟨D,it0,z0,hD,hf,_⟩:=hT t (by rw[ht]; simp)
   have iG:=cq ht hf
   subst iG
   obtain⟨_,it,_,_,_,hit,gu,_⟩:=hT e (TD.ee (hok e ht))
   cases ct:ev F x with
   |aD sz es=>
    rw[ct]at h
    simp only at h
    obtain⟨hc,hr,hk⟩:=aA h
    refine⟨_,ga fun M' N ρ I a w hW hU hN=> ?_,hk⟩
    have r1:=ax hU x hx
    have r2:=bN (qA ▸ ax hU ix N7)
    rw[ct]at r1
    generalize hv:a.eval x=v at r1
    cases r1 with
    |c7=>simp at hr; omega
    |aD _ _ b q cap c hl nK hI hs h1 hcell ZQ=>
     have hi:i.toNat<es.length:=by omega
     refine⟨_,by simp only[execOp,ho,r2,hv,Sem.run_bind,run_indexAt_slice hD hit _ _ _ _ _ _ hr,Result.andThen_ok,Sem.run_pure]; rfl,?_⟩
     have hsz:sz=it.size:=by rw[gu]; simpa using hc
     have hel:(es.getD i.toNat []).length=sz:=by
      rw[List.getD_eq_getElem?_getD,List.getElem?_eq_getElem hi,Option.getD_some]
      exact hs _ (List.getElem_mem _)
     have:=aP.bz (ρ:=ρ) (L:=lens M') (I:=I) (w:=w) (N:=N) (es.getD i.toNat []) 0 b (q+i.toNat*sz) (c i.toNat) hI (fun j hj=>h1 _ _ hi (by omega)) (fun j hj=>hcell _ _ hi (by omega)) (fun j hj=>ZQ _ _ hi (by omega))
     rw[<-hsz]
     exact this
   |aV n len=>
    rw[ct]at h
    simp only[alive]at h
    cases hb:ab Ml n with
    |none=>rw[hb]at h; exact h.elim
    |some b=>
     rw[hb]at h
     obtain⟨hc1,hmp,h⟩:=aA h
     obtain⟨kw,hr,hk⟩:=aA h
     have hl:b.ln=len:=by simpa using hc1
     have hsz:b.sz=it.size:=by rw[gu]; simpa using kw
     refine⟨_,ga fun M' N ρ I a w hW hU hN=> ?_,hk⟩
     have r1:=ax hU x hx
     have r2:=bN (qA ▸ ax hU ix N7)
     rw[ct]at r1
     have ej:=jO (M':=M') (n:=n) (b:=b) (M:=M) (by rw[hM]; exact hb) (nm n (by rw[ct]; simp[AV.names]) M' hN)
     rw[hl]at ej
     obtain⟨hn,h2⟩:=jQ r1 ej
     rcases h2 with⟨h0,hv⟩|⟨g,cap,hρ,hv⟩
     ·obtain⟨b',hb',og,_⟩:=aC.1 ej
      have:=(hW.bf n b' hb').eW h0
      rw[bD.Gp this]at og
      omega
     ·refine⟨_,by simp only[execOp,ho,r2,hv,Sem.run_bind,run_indexAt_slice hD hit _ _ _ _ _ _ hr,Result.andThen_ok,Sem.run_pure]; rfl,?_⟩
      have:=hG (I:=I) (w:=w) (i:=i.toNat) (off:=0) hn ej hρ
      rw[<-hsz,Nat.zero_add]
      simpa using this
   |eD n len j off cr=>
    rw[ct]at h
    simp only[alive]at h
    cases hb:ab Ml n with
    |none=>rw[hb]at h; exact h.elim
    |some b=>
     rw[hb]at h
     obtain⟨hc1,hmp,hr,hk⟩:=aA h
     have hl:b.ln=len:=by simpa using hc1
     refine⟨_,ga fun M' N ρ I a w hW hU hN=> ?_,hk⟩
     have r1:=ax hU x hx
     have r2:=bN (qA ▸ ax hU ix N7)
     rw[ct]at r1
     have ej:=jO (M':=M') (n:=n) (b:=b) (M:=M) (by rw[hM]; exact hb) (nm n (by rw[ct]; simp[AV.names]) M' hN)
     rw[hl]at ej
     obtain⟨hn,g,cap,c,hρ,hv,_⟩:=mJ r1 ej
     refine⟨_,by simp only[execOp,ho,r2,hv,Sem.run_bind,run_indexAt_slice hD hit _ _ _ _ _ _ hr,Result.andThen_ok,Sem.run_pure]; rfl,?_⟩
     rw[Nat.add_assoc,gu]
     exact hG hn ej hρ
   |_=>rw[ct]at h; exact h.elim
  |arr m e=>
   rw[ht]at h
   obtain⟨D,it0,z0,hD,hf,_⟩:=hT t (by rw[ht]; simp)
   have iG:=gC ht hf
   subst iG
   obtain⟨_,it,_,_,_,hit,gu,_⟩:=hT e (TD.ee (N6 m e ht))
   cases ct:ev F x with
   |loc n len j off=>
    rw[ct]at h
    simp only[alive]at h
    cases hb:ab Ml n with
    |none=>rw[hb]at h; exact h.elim
    |some b=>
     rw[hb]at h
     obtain⟨hc1,hmp,hr,hk⟩:=aA h
     have hl:b.ln=len:=by simpa using hc1
     refine⟨_,ga fun M' N ρ I a w hW hU hN=> ?_,hk⟩
     have r1:=ax hU x hx
     have r2:=bN (qA ▸ ax hU ix N7)
     rw[ct]at r1
     have ej:=jO (M':=M') (n:=n) (b:=b) (M:=M) (by rw[hM]; exact hb) (nm n (by rw[ct]; simp[AV.names]) M' hN)
     rw[hl]at ej
     obtain⟨hn,g,cap,hρ,hv⟩:=gB r1 ej
     refine⟨_,by simp only[execOp,ho,r2,hv,Sem.run_bind,lK hD hit _ _ _ _ hr,Result.andThen_ok,Sem.run_pure]; rfl,?_⟩
     rw[Nat.add_assoc,gu]
     exact hG hn ej hρ
   |bz c off=>
    rw[ct]at h
    obtain⟨hr,hk⟩:=h
    refine⟨_,ga fun M' N ρ I a w hW hU hN=> ?_,hk⟩
    have r1:=ax hU x hx
    have r2:=bN (qA ▸ ax hU ix N7)
    rw[ct]at r1
    generalize hv:a.eval x=v at r1
    cases r1 with
    |bz _ _ b q cc hI h1 hcell ZQ=>
     refine⟨_,by simp only[execOp,ho,r2,hv,Sem.run_bind,lK hD hit _ _ _ _ hr,Result.andThen_ok,Sem.run_pure]; rfl,?_⟩
     rw[Nat.add_assoc,gu]
     exact .bz c _ b q cc hI h1 hcell ZQ
   |_=>rw[ct]at h; exact h.elim
  |_=>rw[ht]at h; exact h.elim
 |_=>rw[qA]at h; exact h.elim
theorem sv(hT:dD P T){t:Nat}{x ix:Operand}{K:AV->Prop}{Ml:Mem}(hM:M=ab Ml)(hok:∀e,T.d t= .slice e->(T.d e).ok=true)(N6:∀m e,T.d t= .arr m e->(T.d e).ok=true)
  (ho:o.op= .indexAddr t x ix) (h:AQ T t (ev F x) (ev F ix) Ml K):∃av,bT P X o F M av [] []/\K av:=by
 obtain⟨av,h1,h2⟩:=l8 hT hM hok N6 ho h
 exact⟨av,h1.p5,h2⟩
end Go.AM
namespace Go.AM
open Go.RowKit
variable {P:Program} {T:TT} {X:cE} {o:Oper} {F:bh} {M:bA}
theorem iu(g:Nat)(t:TypeId)(fr:Nat × Nat):∀(vs:List Value)(q:Nat)(w:World)(cs:Array Value),w.heap[g]? =some (.cells cs t fr)->q+vs.length<=cs.size->
  ∃cs',(w.setCells g q vs).heap[g]? =some (.cells cs' t fr)/\cs'.size=cs.size/\∀k,cs'[k]? =if q<=k/\k<q+vs.length then vs[k - q]? else cs[k]?
 |[],q,w,cs,hg,_=>⟨cs,hg,rfl,fun k=>by rw[if_neg (fun h=>by have:=h.1; have:=h.2; simp at this; omega)]⟩
 |v::r,q,w,cs,hg,hq=>by
  have hg1:(w.setCell ⟨g,q,none⟩ v).heap[g]? =some (.cells (cs.setIfInBounds q v) t fr):=by
   simp[World.setCell,Array.getElem?_modify,hg]
  obtain⟨cs',h1,h2,h3⟩:=iu g t fr r (q+1) (w.setCell ⟨g,q,none⟩ v) (cs.setIfInBounds q v) hg1 (by simp at hq ⊢; omega)
  refine⟨cs',h1,by simpa using h2,fun k=> ?_⟩
  rw[h3 k]
  simp only[List.length_cons]at hq ⊢
  by_cases hk:k=q
  ·subst hk
   rw[if_neg (by omega),if_pos (by omega)]
   simp[Array.getElem?_setIfInBounds]; omega
  ·by_cases hk2:q+1<=k/\k<q+1+r.length
   ·rw[if_pos hk2,if_pos (by omega)]
    have:k - q=(k - (q+1))+1:=by omega
    rw[this]; simp
   ·rw[if_neg hk2,if_neg (by omega)]
    simp[Array.getElem?_setIfInBounds]
    intro e; omega
theorem eY(g:Nat):∀(vs:List Value)(q:Nat)(w:World)(k:Nat),k≠g->(w.setCells g q vs).heap[k]? =w.heap[k]?
 |[],_,_,_,_=>rfl
 |v::r,q,w,k,hk=>by
  have:=eY g r (q+1) (w.setCell ⟨g,q,none⟩ v) k hk
  refine this.trans ?_
  exact Below.heap_setCell w _ v k hk
theorem size_setCells(g:Nat):∀(vs:List Value)(q:Nat)(w:World),(w.setCells g q vs).heap.size=w.heap.size
 |[],_,_=>rfl
 |v::r,q,w=>by
  have:=size_setCells g r (q+1) (w.setCell ⟨g,q,none⟩ v)
  exact this.trans (by simp)
theorem iv(g:Nat):∀(vs:List Value)(q:Nat)(w:World),(w.setCells g q vs).tape=w.tape
 |[],_,_=>rfl
 |v::r,q,w=>iv g r (q+1) (w.setCell ⟨g,q,none⟩ v)
theorem os_setCells(g:Nat):∀(vs:List Value)(q:Nat)(w:World),(w.setCells g q vs).os=w.os
 |[],_,_=>rfl
 |v::r,q,w=>os_setCells g r (q+1) (w.setCell ⟨g,q,none⟩ v)
theorem iZ(g:Nat):∀(vs:List Value)(q:Nat)(w:World),(w.setCells g q vs).output=w.output
 |[],_,_=>rfl
 |v::r,q,w=>iZ g r (q+1) (w.setCell ⟨g,q,none⟩ v)
theorem dq{α:Type}(l:List α)(off n j:Nat)(d:α)(h:j<n):((l.drop off).take n).getD j d=l.getD (off+j) d:=by
 simp[List.getD_eq_getElem?_getD,List.getElem?_take,h]
theorem fc{t:Nat}(hT:dD P T)(hok:(T.d t).ok=true){ρ:Place}{L:bi}{I:Nat->Prop}{w:World}{N:Nat->Prop}{g q off:Nat}{cs:List AV}{K:AV->Prop}(f:Nat->Value)
  (hc:∀j,j<cs.length->w.cell? ⟨g,q+j,none⟩=some (f j)/\(f j).oneCell'=true/\aP ρ L I w N (cs.getD j .bad) (f j))
  {av:AV} (hlen:((cs.drop off).take (T.s t)).length=T.s t) (uT:av=if (T.d t).ag then .agg ((cs.drop off).take (T.s t))else ((cs.drop off).take (T.s t)).headD .bad) (h1:(T.d t).ag=false->T.s t=1):
  ∃v,(loadVar t ⟨g,q+off,none⟩).run P w= .ok v w/\aP ρ L I w N av v:=by
 obtain⟨D,it,z,hD,hf,hi,hs,_⟩:=hT t (TD.ee hok)
 have hle:off+T.s t<=cs.length\/ T.s t=0:=by
  simp only[List.length_take,List.length_drop]at hlen
  omega
 unfold loadVar
 simp only[Sem.run_bind,oe hD hf,Result.andThen_ok]
 cases jI:(T.d t).ag with
 |true=>
  simp only[if_pos,bI hi,Result.andThen_ok,Sem.run_bind]
  rw[hs]
  have hcell:∀j,j<T.s t->w.cell? ((⟨g,q+off,none⟩:Addr).add j)=some (f (off+j)):=fun j hj=>by
   rw[cz,Nat.add_assoc]
   exact (hc (off+j) (by omega)).1
  rw[run_loadCells w _ (T.s t) (fun j=>f (off+j)) hcell]
  refine⟨_,rfl,?_⟩
  rw[uT,jI,if_pos rfl]
  refine .agg _ ((List.range (T.s t)).map fun j=>f (off+j)) (by simp; simp at hlen; omega) (fun u hu=> ?_) (fun j hj=> ?_)
  ·obtain⟨j,hj,rfl⟩:=List.mem_map.1 hu
   exact (hc (off+j) (by simp at hj; omega)).2.1
  ·rw[hlen]at hj
   rw[dq _ _ _ _ _ hj]
   have:((List.range (T.s t)).map fun j=>f (off+j)).getD j default=f (off+j):=by simp[List.getD_eq_getElem?_getD,hj]
   rw[this]
   exact (hc (off+j) (by omega)).2.2
 |false=>
  have SX:=h1 jI
  have h2:=(hc off (by omega))
  simp only[Bool.false_eq_true,if_false,run_load,h2.1]
  refine⟨_,rfl,?_⟩
  rw[uT,jI,SX]
  have:((cs.drop off).take 1).headD .bad=cs.getD off .bad:=by
   have hlt:off<cs.length:=by omega
   rw[List.drop_eq_getElem_cons hlt,List.take_succ_cons]
   simp[List.getD_eq_getElem?_getD,hlt]
  simp only[Bool.false_eq_true,if_false,this]
  exact h2.2.2
theorem fT{ag:Bool}{n off:Nat}{cs:List AV}{K:AV->Prop}(h:apart ag n off cs K):
  ∃av,((cs.drop off).take n).length=n/\(av=if ag then .agg ((cs.drop off).take n)else ((cs.drop off).take n).headD .bad)/\(ag=false->n=1)/\K av:=by
 unfold apart at h
 obtain⟨h1,h2⟩:=aA h
 cases ag with
 |true=>exact⟨_,by simpa using h1,rfl,by simp,h2⟩
 |false=>
  obtain⟨h3,h4⟩:=aA h2
  exact⟨_,by simpa using h1,rfl,fun _=>by simpa using h3,h4⟩
theorem se.row{C:cE}{ρ:Place}{L:bi}{I:Nat->Prop}{w:World}{N:Nat->Prop}{n:Nat}{b:bD}(B:se C ρ L I w N n b)(hmp:b.mp=none){g cap:Nat}(hρ:ρ n=some (g,cap))(i:Nat):
  ∃f:Nat->Value,∀j,j< (b.es.getD i []).length->w.cell? ⟨g,i*b.sz+j,none⟩=some (f j)/\(f j).oneCell'=true/\aP ρ L I w N ((b.es.getD i []).getD j .bad) (f j):=by
 obtain⟨cs,fr,hg,_,_,_,_,_,_,hc⟩:=B.real g cap hρ
 refine⟨fun j=>(cs[i*b.sz+j]?).getD undef,fun j hj=> ?_⟩
 have hi:i<b.es.length:=by
  rcases Nat.lt_or_ge i b.es.length with h|h
  ·exact h
  ·rw[List.getD_eq_getElem?_getD,List.getElem?_eq_none h]at hj; simp at hj
 have hsz:(b.es.getD i []).length=b.sz:=by
  rw[List.getD_eq_getElem?_getD,List.getElem?_eq_getElem hi,Option.getD_some]
  exact B.even _ (List.getElem_mem _)
 obtain⟨u,hu,h1,hr⟩:=hc i j hi (by omega)
 have e:(cs[i*b.sz+j]?).getD undef=u:=by rw[hu]; rfl
 refine⟨?_,?_,?_⟩
 ·rw[w9 w g _ cs b.ty fr (hg.cells hmp)]; show _=some ((cs[i*b.sz+j]?).getD undef); rw[e,hu]
 ·show ((cs[i*b.sz+j]?).getD undef).oneCell'=true; rw[e]; exact h1
 ·show aP _ _ _ _ _ _ ((cs[i*b.sz+j]?).getD undef); rw[e]; exact hr
where w9 (w:World) (g j:Nat) (cs:Array Value) (t:TypeId) (fr:Nat × Nat) (hg:w.heap[g]? =some (.cells cs t fr)):w.cell? ⟨g,j,none⟩=cs[j]? :=by simp[World.cell?,hg]
theorem D7(hT:dD P T){t:Nat}{x:Operand}{K:AV->Prop}{Ml:Mem}(hM:M=ab Ml)(hok:(T.d t).ok=true)(ho:o.op= .load t x)(h:nG T t (ev F x) Ml K):∃av,bT P X o F M av [] []/\K av:=by
 have hx:x ∈ o.op.operands.toList:=by simp[ho,Op.operands]
 cases ct:ev F x with
 |loc n len i off=>
  rw[ct]at h
  simp only[nG,alive]at h
  cases hb:ab Ml n with
  |none=>rw[hb]at h; exact h.elim
  |some b=>
   rw[hb]at h
   obtain⟨hc1,hmp,h⟩:=aA h
   obtain⟨av,ha1,ha2,rr,hk⟩:=fT h
   have hl:b.ln=len:=by simpa using hc1
   refine⟨av,aH fun M' N ρ I a w hW hU hN=> ?_,hk⟩
   have r1:=ax hU x hx
   rw[ct]at r1
   obtain⟨sl,fq,fF⟩:=bE (F:=F) x hx (n:=n) (by rw[ct]; simp[AV.names])
   have cL:M' n=some b:=(hN sl fq n fF).trans (by rw[hM]; exact hb)
   have ej:lens M' n=some (b.ln,b.sz):=by rw[aC]; exact⟨b,cL,rfl,rfl⟩
   rw[hl]at ej
   obtain⟨hn,g,cap,hρ,hv⟩:=gB r1 ej
   obtain⟨f,hf⟩:=(hW.bf n b cL).row hmp hρ i
   obtain⟨v,Ga,N8⟩:=fc (K:=K) hT hok (off:=off) f hf ha1 ha2 rr
   refine⟨v,?_,N8⟩
   simp only[execOp,ho,Instr.loadAt,hv,Instr.sureAddr,Sem.run_bind,Sem.run_pure,Result.andThen_ok,Ga]
 |bz e off=>
  rw[ct]at h
  simp only[nG]at h
  obtain⟨av,ha1,ha2,rr,hk⟩:=fT h
  refine⟨av,aH fun M' N ρ I a w hW hU hN=> ?_,hk⟩
  have r1:=ax hU x hx
  rw[ct]at r1
  generalize hv:a.eval x=v at r1
  cases r1 with
  |bz _ _ b q c hI h1 hcell hr=>
   obtain⟨v,Ga,N8⟩:=fc (K:=K) (N:=N) hT hok (off:=off) c (fun j hj=>⟨hcell j hj,h1 j hj,(hr j hj).wide (fun _ h=>h.elim)⟩) ha1 ha2 rr
   refine⟨v,?_,N8⟩
   simp only[execOp,ho,Instr.loadAt,hv,Instr.sureAddr,Sem.run_bind,Sem.run_pure,Result.andThen_ok,Ga]
 |_=>rw[ct]at h; exact h.elim
end Go.AM
namespace Go.AM
open Go.RowKit
variable {P:Program} {T:TT} {X:cE} {o:Oper} {F:bh} {M:bA}
theorem bU(N:Nat->Prop)(n:Nat)(b:bD):gV N [(n,b)]=AN N n:=by
 funext m
 simp only[gV,AN,List.mem_singleton,Prod.mk.injEq,exists_and_left,eq_iff_iff]
 constructor
 ·rintro (h|⟨h,_⟩)
  ·exact .inr h
  ·exact .inl h
 ·rintro (h|h)
  ·exact .inr ⟨h,b,rfl⟩
  ·exact .inl h
theorem db.new{ρ:Place}{I:Nat->Prop}{M:bA}{N:Nat->Prop}{w:World}(hW:db X ρ I M N w){n:Nat}(hn:¬N n)(b:bD)(hm:b.mp=none)(cs:Array Value)(cap:Nat)
  (Gq:∀e ∈ b.es,e.length=b.sz) (hlen:b.es.length<=cap) (hcap:cap<=maxLen) (hcs:cs.size=cap*b.sz)
  (w4:∀i j,i<b.es.length->j<b.sz->∃u,cs[i*b.sz+j]? =some u/\u.oneCell'=true/\aP ρ (lens M) I w N ((b.es.getD i []).getD j .bad) u):
  ∃ρ1,oK N ρ (lens M) I w ρ1 (lens (dO M [(n,b)])) I (w.alloc (.cells cs b.ty))/\db X ρ1 I (dO M [(n,b)]) (gV N [(n,b)]) (w.alloc (.cells cs b.ty))/\ρ1 n=some (w.heap.size,cap)/\lens (dO M [(n,b)]) n=some (b.es.length,b.sz):=by
 have hln:=bD.dw hm
 have hd:∀b0,M n=some b0->False:=fun b0 h0=>hn (hW.bf n b0 h0).lt
 obtain⟨E,W⟩:=hW.put (w':=w.alloc (.cells cs b.ty)) n b w.heap.size cap cs (0,0) rfl rfl rfl (by simp) (fun k hk _=>Below.heap_alloc w _ k hk) (by rw[hm]; exact heap_alloc_new w _) (fun o _ h=>by omega)
  (.inl (Nat.le_refl _)) (fun b0 h0=>(hd b0 h0).elim) (fun h=>(hn h).elim) Gq hlen hcap hcs w4
 refine⟨iW ρ n (w.heap.size,cap),E,by rw[bU]; exact W,by simp[iW],?_⟩
 show lens (dc M n b) n=_
 rw[cY,if_pos rfl,hln]
theorem oQ{ρ:Place}{L:bi}{I:Nat->Prop}{w:World}{N:Nat->Prop}{a:AV}{v:Value}(h:aP ρ L I w N a v)(hs:bX a=true):
  v.cells.size=(cells a).length/\∀i j,i<1->j< (cells a).length->∃u,v.cells[i* (cells a).length+j]? =some u/\u.oneCell'=true/\aP ρ L I w N (([cells a].getD i []).getD j .bad) u:=by
 obtain⟨h1,h2,h3⟩:=p8 h hs
 have SX:v.cells.size=(cells a).length:=by simpa using h1
 refine⟨SX,fun i j hi hj=> ?_⟩
 have:i=0:=by omega
 subst this
 have hj':j<v.cells.size:=by omega
 refine⟨v.cells[j],by simp[hj'],h2 _ (by simp),?_⟩
 have:=h3 j hj
 simpa[List.getD_eq_getElem?_getD,hj']using this
theorem qB{n t:Nat}{a:AV}(hs:bX a=true)
  (h:∀M' N ρ I (ac:Act) w,db X ρ I M' N w->(∀s ∈ dC o.op,aP ρ (lens M') I w N (look F s) (ac.tmps.getD s undef))->
    ∃v,(execOp ac.eval o).run P w= .ok (.value (.pointer (some ⟨w.heap.size,0,none⟩))) (w.alloc (.cells v.cells t))/\aP ρ (lens M') I w N a v):bT P X o F M (.loc n 1 0 0) [(n,⟨t,(cells a).length,[cells a],none⟩)] [n]:=by
 refine⟨fun p hp=> .inl (by simp at hp; simp[hp]),fun M' N ρ I ac w hW hU hN hF=> ?_⟩
 obtain⟨v,hrun,hr⟩:=h M' N ρ I ac w hW hU
 have hn:¬N n:=hF n (by simp)
 obtain⟨h1,h2⟩:=oQ hr hs
 obtain⟨ρ1,E,W,hρ,hl⟩:=hW.new hn ⟨t,(cells a).length,[cells a],none⟩ rfl v.cells 1 (by simp) (by simp) (by simp[maxLen]) (by simpa using h1) (by simpa using h2)
 unfold bZ
 rw[hrun]
 refine⟨ρ1,I,E,W,?_⟩
 have JV:gV N [(n,(⟨t,(cells a).length,[cells a],none⟩:bD))] n:= .inr ⟨⟨t,(cells a).length,[cells a],none⟩,List.mem_singleton.2 rfl⟩
 have:=hG (I:=I) (w:=w.alloc (.cells v.cells t)) (i:=0) (off:=0) JV hl hρ
 simp only[Nat.zero_mul,Nat.zero_add,List.length_singleton]at this
 exact this
theorem qC{t:TypeId}{v:Value}{w:World}:(newVar t v).run P w= .ok ⟨w.heap.size,0,none⟩ (w.alloc (.cells v.cells t)):=by
 simp[newVar,newRow]
theorem Gv{n t:Nat}{x:Operand}(ho:o.op= .box t x)(hs:bX (ev F x)=true):
  bT P X o F M (.loc n 1 0 0) [(n,⟨t,(cells (ev F x)).length,[cells (ev F x)],none⟩)] [n]:=
 qB hs (fun M' N ρ I ac w hW hU=>⟨ac.eval x,by simp[execOp,ho,Instr.box,qC],ax hU x (by simp[ho,Op.operands])⟩)
theorem AW(hT:dD P T){n t:Nat}(ho:o.op= .alloc t)(hok:(T.d t).ok=true)(hs:bX (T.z t)=true):
  bT P X o F M (.loc n 1 0 0) [(n,⟨t,(cells (T.z t)).length,[cells (T.z t)],none⟩)] [n]:=by
 obtain⟨D,it,z,hD,hf,hi,hsz,_,hz,ky⟩:=hT t (TD.ee hok)
 refine qB hs (fun M' N ρ I ac w hW hU=>⟨z,by simp[execOp,ho,Instr.alloc,qC,gA hi hz],?_⟩)
 rw[ky]; exact gz _ _ _ _ _ _
theorem l9(off q:Nat)(vs row:List AV)(h:off+vs.length<=row.length):
  (bS off vs row).getD q .bad=if off<=q/\q<off+vs.length then vs.getD (q - off) .bad else row.getD q .bad:=by
 unfold bS
 simp only[List.getD_eq_getElem?_getD]
 by_cases Nh:off<=q/\q<off+vs.length
 ·rw[if_pos Nh,List.getElem?_append_right (by simp; omega),List.length_take,Nat.min_eq_left (by omega),List.getElem?_append_left (by omega)]
 ·rw[if_neg Nh]
  by_cases hlt:q<off
  ·rw[List.getElem?_append_left (by simp; omega),List.getElem?_take,if_pos hlt]
  ·rw[List.getElem?_append_right (by simp; omega),List.length_take,Nat.min_eq_left (by omega),List.getElem?_append_right (by omega),List.getElem?_drop]
   congr 2; omega
theorem sw(hT:dD P T){t:Nat}{x y:Operand}{K:Mem->Prop}{Ml:Mem}(hM:M=ab Ml)(hok:(T.d t).ok=true)(ho:o.op= .store t x y)(h:AR T t (ev F x) (ev F y) Ml K):
  ∃n b,bT P X o F M (.aQ []) [(n,b)] []/\n ∈ (ev F x).names/\K (gZ Ml n b)/\(∃b0,M n=some b0/\b.ln=b0.ln/\b.sz=b0.sz):=by
 have hx:x ∈ o.op.operands.toList:=by simp[ho,Op.operands]
 have hy:y ∈ o.op.operands.toList:=by simp[ho,Op.operands]
 cases ct:ev F x with
 |loc n len i off=>
  rw[ct]at h
  simp only[AR,alive]at h
  cases hb:ab Ml n with
  |none=>rw[hb]at h; exact h.elim
  |some b=>
   rw[hb]at h
   obtain⟨hc1,hmp,h⟩:=aA h
   obtain⟨kw,hk⟩:=aA h
   have hl:b.ln=len:=by simpa using hc1
   simp only[Bool.and_eq_true,beq_iff_eq,Bool.not_eq_true']at kw
   obtain⟨⟨⟨hs,hlen⟩,hz⟩,hfit⟩:=kw
   obtain⟨sl,fq,fF⟩:=bE (F:=F) x hx (n:=n) (by rw[ct]; simp[AV.names])
   refine⟨n,_,?_,by simp[AV.names],hk,b,by rw[hM]; exact hb,by rw[bD.dw hmp]; simp[bD.ln],rfl⟩
   refine⟨fun p hp=> .inr ⟨sl,fq,by simp at hp; rw[hp]; exact fF⟩,fun M' N ρ I a w hW hU hN _=> ?_⟩
   have r1:=ax hU x hx
   have r2:=ax hU y hy
   rw[ct]at r1
   have cL:M' n=some b:=(hN sl fq n fF).trans (by rw[hM]; exact hb)
   have ej:lens M' n=some (b.ln,b.sz):=by rw[aC]; exact⟨b,cL,rfl,rfl⟩
   rw[hl]at ej
   obtain⟨hn,g,cap,hρ,hv⟩:=gB r1 ej
   obtain⟨hcl,Gw,ZR⟩:=p8 r2 hs
   have B:=hW.bf n b cL
   obtain⟨cs,fr,hg,oc,rq,hown,hlc,nK,hcs,hc⟩:=B.real g cap hρ
   have hg:=hg.cells hmp
   have SY:=bD.dw hmp
   obtain⟨D,it,z,hD,hf,hi,hsz,_⟩:=hT t (TD.ee hok)
   have hpos:0< (cells (ev F y)).length:=by
    have:T.s t≠0:=by simpa using hz
    omega
   have hi':i<b.es.length:=by
    rcases Nat.lt_or_ge i b.es.length with h|h
    ·exact h
    ·rw[List.getD_eq_getElem?_getD,List.getElem?_eq_none h]at hfit; simp at hfit; omega
   have hel:(b.es.getD i []).length=b.sz:=by
    rw[List.getD_eq_getElem?_getD,List.getElem?_eq_getElem hi',Option.getD_some]
    exact B.even _ (List.getElem_mem _)
   have hoff:off+ (cells (ev F y)).length<=b.sz:=by
    simp only[List.length_take,List.length_drop,hel]at hfit
    omega
   have hin:∀j,j<b.sz->i*b.sz+j<cs.size:=fun j hj=>by
    rw[hcs]
    calc i*b.sz+j<i*b.sz+b.sz:=by omega
     _=(i+1)*b.sz:=by rw[Nat.add_mul,Nat.one_mul]
     _<=cap*b.sz:=Nat.mul_le_mul_right _ (by omega)
   have oR:∀k,w.cell? ⟨g,k,none⟩=cs[k]? :=fun k=>by simp[World.cell?,hg]
   have ZS:∀k,k<cs.size->w.frozen? ⟨g,k,none⟩=false:=fun k hk=>by
    have:=oc k hk
    simp only[World.frozen?,hg]
    simpa using this
   have hrun:(execOp a.eval o).run P w= .ok .skip (w.setCells g (i*b.sz+off) (a.eval y).cells.toList):=by
    have hst:=run_storeCells_cells (P:=P) g (i*b.sz+off) (a.eval y).cells.toList 0 w
     (fun j hj=>by
       rw[Nat.add_zero,oR,Nat.add_assoc,Array.getElem?_eq_getElem (hin (off+j) (by omega))]; rfl)
     (fun j hj=>by rw[Nat.add_zero,Nat.add_assoc]; exact ZS _ (hin (off+j) (by omega)))
     Gw
    have hsize:(a.eval y).cells.size=it.size:=by rw[hsz,<-hlen,<-hcl]; simp
    simp only[execOp,ho,Instr.storeAt,hv,Instr.sureAddr,Sem.run_bind,Sem.run_pure,Result.andThen_ok,storeVar,bI hi,hsize,ne_eq,not_true_eq_false,if_false]
    rw[Nat.add_zero]at hst
    rw[hst]
    rfl
   obtain⟨cs',h1,h2,h3⟩:=iu g b.ty fr (a.eval y).cells.toList (i*b.sz+off) w cs hg (by rw[hcl]; have:=hin (b.sz - 1) (by omega); omega)
   have key:∀p q,p<b.es.length->q<b.sz->∃u,cs'[p*b.sz+q]? =some u/\u.oneCell'=true/\aP ρ (lens M') I w N (((b.es.set i (bS off (cells (ev F y)) (b.es.getD i []))).getD p []).getD q .bad) u:=by
    intro p q hp hq
    rw[h3,hcl]
    by_cases hpi:p=i
    ·subst hpi
     have e1:(b.es.set p (bS off (cells (ev F y)) (b.es.getD p []))).getD p []=bS off (cells (ev F y)) (b.es.getD p []):=by
      simp[List.getD_eq_getElem?_getD,hp]
     rw[e1,l9 _ _ _ _ (by omega)]
     by_cases Nh:off<=q/\q<off+ (cells (ev F y)).length
     ·rw[if_pos (by omega),if_pos Nh]
      have e2:p*b.sz+q - (p*b.sz+off)=q - off:=by omega
      rw[e2]
      have N9:q - off< (a.eval y).cells.toList.length:=by rw[hcl]; omega
      refine⟨(a.eval y).cells.toList[q - off],List.getElem?_eq_getElem N9,Gw _ (List.getElem_mem _),?_⟩
      have:=ZR (q - off) (by omega)
      rwa[List.getD_eq_getElem?_getD (l:=(a.eval y).cells.toList),List.getElem?_eq_getElem N9,Option.getD_some]at this
     ·rw[if_neg (by omega),if_neg Nh]
      exact hc p q hp hq
    ·have e1:(b.es.set i (bS off (cells (ev F y)) (b.es.getD i []))).getD p []=b.es.getD p []:=by
      simp[List.getD_eq_getElem?_getD,List.getElem?_set,Ne.symm hpi]
     rw[e1]
     rw[if_neg]
     ·exact hc p q hp hq
     ·rintro⟨ha,hb'⟩
      rcases Nat.lt_or_gt_of_ne hpi with hlt|hgt
      ·have:(p+1)*b.sz<=i*b.sz:=Nat.mul_le_mul_right _ hlt
       rw[Nat.add_mul,Nat.one_mul]at this
       omega
      ·have:(i+1)*b.sz<=p*b.sz:=Nat.mul_le_mul_right _ hgt
       rw[Nat.add_mul,Nat.one_mul]at this
       omega
   have kD:∀b0,M' n=some b0->b0=b:=fun b0 h0=>by rw[cL]at h0; exact (Option.some.inj h0).symm
   obtain⟨E,W⟩:=hW.put (w':=w.setCells g (i*b.sz+off) (a.eval y).cells.toList) n ⟨b.ty,b.sz,b.es.set i (bS off (cells (ev F y)) (b.es.getD i [])),none⟩ g cap cs' fr
    (os_setCells _ _ _ _) (iv _ _ _ _) (iZ _ _ _ _) (by rw[size_setCells]; exact Nat.le_refl _) (fun k _ hk=>eY g _ _ _ _ hk) h1 (fun q hq=>oc q (by omega))
    (.inr ⟨cap,hρ,b,cL⟩) (fun b0 h0=>by rw[kD b0 h0,SY]; exact⟨rfl,by simp[bD.ln],fun _=>hρ⟩) (fun _=>⟨b,cL⟩)
    (fun e he=>by
      rcases List.mem_or_eq_of_mem_set he with he|rfl
      ·exact B.even e he
      ·show (bS _ _ _).length=b.sz
       unfold bS
       rw[List.length_append,List.length_append,List.length_take,List.length_drop,hel]; omega)
    (by simpa using hlc) nK (by rw[h2]; exact hcs) (by simpa using key)
   unfold bZ
   rw[hrun]
   refine⟨iW ρ n (g,cap),I,E,by rw[bU]; exact W,.aQ [] [] rfl (fun j hj=>by simp at hj)⟩
 |_=>rw[ct]at h; exact h.elim
end Go.AM
namespace Go.AM
open Go.RowKit
variable {P:Program} {T:TT} {X:cE} {o:Oper} {F:bh} {M:bA}
def bB(ρ:Place)(L:bi)(I:Nat->Prop)(w:World)(N:Nat->Prop)(cs:List AV)(arr:Array Value):Prop:=
 arr.size=cs.length/\∀j,j<cs.length->∃u,arr[j]? =some u/\u.oneCell'=true/\aP ρ L I w N (cs.getD j .bad) u
theorem bB.agg{ρ:Place}{L:bi}{I:Nat->Prop}{w:World}{N:Nat->Prop}{cs:List AV}{arr:Array Value}(h:bB ρ L I w N cs arr):aP ρ L I w N (.agg cs) (.agg arr):=by
 have:arr=arr.toList.toArray:=by simp
 rw[this]
 refine .agg cs arr.toList (by simpa using h.1) (fun u hu=> ?_) (fun j hj=> ?_)
 ·obtain⟨j,hj,rfl⟩:=List.mem_iff_getElem.1 hu
  obtain⟨u,hu,h1,_⟩:=h.2 j (by have:=h.1; simp at hj; omega)
  have CD:arr.toList[j]? =some u:=by simpa using hu
  rw[List.getElem?_eq_getElem hj]at CD
  cases CD
  exact h1
 ·obtain⟨u,hu,_,hr⟩:=h.2 j hj
  have:arr.toList.getD j default=u:=by simp[List.getD_eq_getElem?_getD,hu]
  rw[this]; exact hr
theorem bB.fG{ρ:Place}{L:bi}{I:Nat->Prop}{w:World}{N:Nat->Prop}{a:AV}{v:Value}(h:aP ρ L I w N a v)(hs:bX a=true):bB ρ L I w N (cells a) v.cells:=by
 obtain⟨h1,h2⟩:=oQ h hs
 refine⟨h1,fun j hj=> ?_⟩
 have:=h2 0 j (by omega) hj
 simpa using this
theorem jR(off:Nat):∀(vs:List Value)(k:Nat)(arr:Array Value),off+k+vs.length<=arr.size->
  ((vs.zipIdx k).foldl (fun cs (p:Value × Nat)=>cs.setIfInBounds (off+p.2) p.1) arr).size=arr.size/\
  ∀q,((vs.zipIdx k).foldl (fun cs (p:Value × Nat)=>cs.setIfInBounds (off+p.2) p.1) arr)[q]? =if off+k<=q/\q<off+k+vs.length then vs[q - (off+k)]? else arr[q]?
 |[],k,arr,_=>⟨rfl,fun q=>by rw[if_neg (by simp)]; rfl⟩
 |v::r,k,arr,h=>by
  simp only[List.zipIdx_cons,List.foldl_cons]
  obtain⟨h1,h2⟩:=jR off r (k+1) (arr.setIfInBounds (off+k) v) (by simp at h ⊢; omega)
  refine⟨by rw[h1]; simp,fun q=> ?_⟩
  rw[h2]
  simp only[List.length_cons]at h ⊢
  by_cases hq:q=off+k
  ·subst hq
   rw[if_neg (by omega),if_pos (by omega)]
   simp[Array.getElem?_setIfInBounds]; omega
  ·by_cases ZT:off+ (k+1)<=q/\q<off+ (k+1)+r.length
   ·rw[if_pos ZT,if_pos (by omega)]
    have:q - (off+k)=(q - (off+ (k+1)))+1:=by omega
    rw[this]; simp
   ·rw[if_neg ZT,if_neg (by omega)]
    simp[Array.getElem?_setIfInBounds]
    intro e; omega
theorem bB.part{ρ:Place}{L:bi}{I:Nat->Prop}{w:World}{N:Nat->Prop}{cs vs:List AV}{arr p9:Array Value}(h:bB ρ L I w N cs arr)(hv:bB ρ L I w N vs p9)(off:Nat)(hfit:off+vs.length<=cs.length):
  bB ρ L I w N (bS off vs cs) (p9.zipIdx.foldl (fun cs (p:Value × Nat)=>cs.setIfInBounds (off+p.2) p.1) arr):=by
 have e:p9.zipIdx.foldl (fun cs (p:Value × Nat)=>cs.setIfInBounds (off+p.2) p.1) arr=(p9.toList.zipIdx 0).foldl (fun cs (p:Value × Nat)=>cs.setIfInBounds (off+p.2) p.1) arr:=by
  rw[<-Array.foldl_toList,Array.toList_zipIdx]
 rw[e]
 have hl:p9.toList.length=vs.length:=by simpa using hv.1
 obtain⟨h1,h2⟩:=jR off p9.toList 0 arr (by have:=h.1; omega)
 have fq:(bS off vs cs).length=cs.length:=by
  unfold bS
  rw[List.length_append,List.length_append,List.length_take,List.length_drop]; omega
 refine⟨by rw[h1,fq]; exact h.1,fun j hj=> ?_⟩
 rw[fq]at hj
 rw[h2,l9 _ _ _ _ hfit,hl]
 simp only[Nat.add_zero]
 by_cases hr:off<=j/\j<off+vs.length
 ·rw[if_pos hr,if_pos hr]
  obtain⟨u,hu,h3⟩:=hv.2 (j - off) (by omega)
  exact⟨u,by simpa using hu,h3⟩
 ·rw[if_neg hr,if_neg hr]
  exact h.2 j hj
theorem sy{ρ:Place}{L:bi}{I:Nat->Prop}{w:World}{N:Nat->Prop}{place:Nat->Option (Nat × Nat)}{i off size:Nat}{v:Value}{a:AV}{rest:List (Nat × Value)}{cs:List AV}{arr:Array Value}
  (hp:place i=some (off,size)) (hv:bB ρ L I w N (cells a) v.cells) (hl:(cells a).length=size) (hfit:off+ (cells a).length<=cs.length) (hc:bB ρ L I w N cs arr):
  ∃hJ,bB ρ L I w N (bS off (cells a) cs) hJ/\Instr.fill place arr ((i,v)::rest)=Instr.fill place hJ rest:=by
 refine⟨_,hc.part hv off hfit,?_⟩
 have h1:v.cells.size=size:=by rw[hv.1,hl]
 have h2:¬off+v.cells.size>arr.size:=by rw[hv.1,hc.1]; omega
 have h3:¬ (v.cells.size≠size\/ off+v.cells.size>arr.size):=by
  rintro (h|h)
  ·exact h h1
  ·exact h2 h
 simp only[Instr.fill,hp,Bool.or_eq_true,decide_eq_true_eq,if_neg h3]
theorem vu{cs:List AV}{off n:Nat}(h:((cs.drop off).take n).length=n):off+n<=cs.length\/ n=0:=by
 simp at h; omega
theorem vw{size:Nat->Nat}{fs:List (Nat × Nat)}{K:List AV->Prop}:∀(ps:List (Nat × Operand))(cs:List AV),oN size fs (pW F ps) cs K->∃cs',oN size fs (pW F ps) cs (fun x=>x=cs')/\K cs'
 |[],cs,h=>⟨cs,rfl,h⟩
 |(i,x)::r,cs,h=>by
  simp only[pW,oN]at h ⊢
  cases hf:fs[i]? with
  |none=>rw[hf]at h; exact h.elim
  |some q=>
   rw[hf]at h
   obtain⟨hc1,h⟩:=aA h
   obtain⟨cs',h1,h2⟩:=vw r _ h
   exact⟨cs',aG hc1 h1,h2⟩
theorem vx{sz:Nat}{K:List AV->Prop}:∀(ps:List (Nat × Operand))(cs:List AV),oO sz (pW F ps) cs K->∃cs',oO sz (pW F ps) cs (fun x=>x=cs')/\K cs'
 |[],cs,h=>⟨cs,rfl,h⟩
 |(i,x)::r,cs,h=>by
  simp only[pW,oO]at h ⊢
  obtain⟨hc1,h⟩:=aA h
  obtain⟨cs',h1,h2⟩:=vx r _ h
  exact⟨cs',aG hc1 h1,h2⟩
theorem qD{ρ:Place}{L:bi}{I:Nat->Prop}{w:World}{N:Nat->Prop}{a:Act}{size:Nat->Nat}{fs:List (Nat × Nat)}{place:Nat->Option (Nat × Nat)}
  (hp:∀i off t,fs[i]? =some (off,t)->place i=some (off,size t)) {K:List AV->Prop}:∀(ps:List (Nat × Operand))(cs:List AV),(∀p ∈ ps,aP ρ L I w N (ev F p.2) (a.eval p.2))->
  oN size fs (pW F ps) cs K->∃cs',K cs'/\∀arr,bB ρ L I w N cs arr->∃hJ,bB ρ L I w N cs' hJ/\Instr.fill place arr (ps.map fun p=>(p.1,a.eval p.2))=some hJ
 |[],cs,_,h=>⟨cs,h,fun arr hc=>⟨arr,hc,rfl⟩⟩
 |(i,x)::r,cs,hr,h=>by
  simp only[pW,oN]at h
  cases hf:fs[i]? with
  |none=>rw[hf]at h; exact h.elim
  |some q=>
   obtain⟨off,t⟩:=q
   rw[hf]at h
   obtain⟨hc1,h⟩:=aA h
   simp only[Bool.and_eq_true,beq_iff_eq,Bool.not_eq_true',beq_eq_false_iff_ne]at hc1
   obtain⟨⟨⟨hs,ZU⟩,hl⟩,hfit⟩:=hc1
   obtain⟨cs',hk,hall⟩:=qD hp r _ (fun p hp=>hr p (List.mem_cons_of_mem _ hp)) h
   refine⟨cs',hk,fun arr hc=> ?_⟩
   have hv:=bB.fG (hr (i,x) List.mem_cons_self) hs
   obtain⟨uU,ha1,ha2⟩:=sy (rest:=r.map fun p=>(p.1,a.eval p.2)) (hp i off t hf) hv hl (by rcases vu hfit with h|h; exact h; exact (ZU h).elim) hc
   obtain⟨hJ,rr,ZV⟩:=hall uU ha1
   exact⟨hJ,rr,by rw[List.map_cons,ha2]; exact ZV⟩
theorem qE{ρ:Place}{L:bi}{I:Nat->Prop}{w:World}{N:Nat->Prop}{a:Act}{sz:Nat}{K:List AV->Prop}:∀(ps:List (Nat × Operand))(cs:List AV),(∀p ∈ ps,aP ρ L I w N (ev F p.2) (a.eval p.2))->
  oO sz (pW F ps) cs K->∃cs',K cs'/\∀arr,bB ρ L I w N cs arr->∃hJ,bB ρ L I w N cs' hJ/\Instr.fill (fun i=>some (i*sz,sz)) arr (ps.map fun p=>(p.1,a.eval p.2))=some hJ
 |[],cs,_,h=>⟨cs,h,fun arr hc=>⟨arr,hc,rfl⟩⟩
 |(i,x)::r,cs,hr,h=>by
  simp only[pW,oO]at h
  obtain⟨hc1,h⟩:=aA h
  simp only[Bool.and_eq_true,beq_iff_eq,Bool.not_eq_true',beq_eq_false_iff_ne]at hc1
  obtain⟨⟨⟨hs,ZU⟩,hl⟩,hfit⟩:=hc1
  obtain⟨cs',hk,hall⟩:=qE r _ (fun p hp=>hr p (List.mem_cons_of_mem _ hp)) h
  refine⟨cs',hk,fun arr hc=> ?_⟩
  have hv:=bB.fG (hr (i,x) List.mem_cons_self) hs
  obtain⟨uU,ha1,ha2⟩:=sy (place:=fun i=>some (i*sz,sz)) (i:=i) (off:=i*sz) (size:=sz) (rest:=r.map fun p=>(p.1,a.eval p.2)) rfl hv hl (by rcases vu hfit with h|h; exact h; exact (ZU h).elim) hc
  obtain⟨hJ,rr,ZV⟩:=hall uU ha1
  exact⟨hJ,rr,by rw[List.map_cons,ha2]; exact ZV⟩
theorem qF(hT:dD P T):∀(gs:List Field),Gt T.d (gs.map fun f=>(f.offset,f.type))=true->
  gs.mapM (fun f=>(P.info? f.type).map fun i=>(f.offset,i.size))=some (gs.map fun f=>(f.offset,T.s f.type))
 |[],_=>rfl
 |f::r,h=>by
  simp only[List.map_cons,Gt,Bool.and_eq_true]at h
  obtain⟨D,i,z,_,_,hi,hs,_⟩:=hT f.type (TD.ee h.1)
  have ih:=qF hT r h.2
  simp[List.mapM_cons,hi,hs,ih]
theorem AX(hT:dD P T){t:Nat}{ps:Array (Nat × Operand)}{K:AV->Prop}(ho:o.op= .build t ps)(h:AP T t (pW F ps.toList) K):∃av,bT P X o F M av [] []/\K av:=by
 have AY:∀p ∈ ps.toList,p.2 ∈ o.op.operands.toList:=fun p hp=>by
  simp only[ho,Op.operands]
  exact List.mem_map.2 ⟨p,hp,rfl⟩
 unfold AP at h
 cases ht:T.d t with
 |struct fs=>
  rw[ht]at h
  simp only at h
  obtain⟨hc,h⟩:=aA h
  simp only[Bool.and_eq_true,beq_iff_eq]at hc
  obtain⟨⟨YY,oS⟩,hlen⟩:=hc
  obtain⟨D,it,z,hD,hf,hi,hsz,_,hz,ky⟩:=hT t (by rw[ht]; simp)
  obtain⟨gs,rfl,Oa⟩:=jP ht hf
  have Ni:∀(i off t':Nat),fs[i]? =some (off,t')->((gs.toList.map fun f=>(f.offset,T.s f.type)).toArray[i]?)=some (off,T.s t'):=by
   intro i off t' hi'
   rw[Oa,List.getElem?_map]at hi'
   cases hg:gs.toList[i]? with
   |none=>simp[hg]at hi'
   |some g=>
    simp only[hg,Option.map_some,Option.some.injEq,Prod.mk.injEq]at hi'
    have uL:gs[i]? =some g:=by simpa using hg
    simp[uL,hi'.1,hi'.2]
  have Ss:∃cs',K (.agg cs')/\∀ρ L I w N (a:Act),(∀p ∈ ps.toList,aP ρ L I w N (ev F p.2) (a.eval p.2))->∀arr,bB ρ L I w N (cells (T.z t)) arr->∃hJ,bB ρ L I w N cs' hJ/\
    Instr.fill ((gs.toList.map fun f=>(f.offset,T.s f.type)).toArray[·]?) arr (ps.toList.map fun p=>(p.1,a.eval p.2))=some hJ:=by
   obtain⟨cs',hcs,hk⟩:=vw (K:=fun cs=>K (.agg cs)) ps.toList _ h
   refine⟨cs',hk,fun ρ L I w N a hr arr hc=> ?_⟩
   obtain⟨ZW,h1,h2⟩:=qD (place:=fun i=>((gs.toList.map fun f=>(f.offset,T.s f.type)).toArray[i]?)) Ni ps.toList _ hr hcs
   subst h1
   exact h2 arr hc
  obtain⟨cs',hk,hall⟩:=Ss
  refine⟨.agg cs',aH fun M' N ρ I a w hW hU hN=> ?_,hk⟩
  have hr:∀p ∈ ps.toList,aP ρ (lens M') I w N (ev F p.2) (a.eval p.2):=fun p hp=>ax hU _ (AY p hp)
  obtain⟨hJ,ha1,ha2⟩:=hall ρ (lens M') I w N a hr z.cells (by rw[ky]; exact bB.fG (gz _ _ _ _ _ z) (by rw[<-ky]; exact oS))
  refine⟨.agg hJ,?_,ha1.agg⟩
  have hb:P.built t (ps.map fun (i,x)=>(i,a.eval x)).toList=some hJ:=by
   unfold Program.built
   simp only[hi,hD,hz,qF hT gs.toList (by rw[<-Oa]; exact YY),Array.toList_map]
   exact ha2
  simp only[execOp,ho,Sem.run_bind,run_build w t _ _ hb,Result.andThen_ok,Sem.run_pure]
 |arr m e=>
  rw[ht]at h
  simp only at h
  obtain⟨hc,h⟩:=aA h
  simp only[Bool.and_eq_true,beq_iff_eq]at hc
  obtain⟨⟨hok,oS⟩,hlen⟩:=hc
  obtain⟨D,it,z,hD,hf,hi,hsz,_,hz,ky⟩:=hT t (by rw[ht]; simp)
  have iG:=gC ht hf
  subst iG
  obtain⟨_,ie,_,_,_,hie,mK,_⟩:=hT e (TD.ee hok)
  obtain⟨cs',hcs,hk⟩:=vx (K:=fun cs=>K (.agg cs)) ps.toList _ h
  refine⟨.agg cs',aH fun M' N ρ I a w hW hU hN=> ?_,hk⟩
  have hr:∀p ∈ ps.toList,aP ρ (lens M') I w N (ev F p.2) (a.eval p.2):=fun p hp=>ax hU _ (AY p hp)
  obtain⟨ZW,h1,h2⟩:=qE ps.toList _ hr hcs
  subst h1
  obtain⟨hJ,ha1,ha2⟩:=h2 z.cells (by rw[ky]; exact bB.fG (gz _ _ _ _ _ z) (by rw[<-ky]; exact oS))
  refine⟨.agg hJ,?_,ha1.agg⟩
  have hb:P.built t (ps.map fun (i,x)=>(i,a.eval x)).toList=some hJ:=by
   unfold Program.built
   simp only[hi,hD,hz,hie,mK,Array.toList_map]
   exact ha2
  simp only[execOp,ho,Sem.run_bind,run_build w t _ _ hb,Result.andThen_ok,Sem.run_pure]
 |_=>rw[ht]at h; exact h.elim
end Go.AM
namespace Go.AM
open Go.RowKit
variable {P:Program} {T:TT} {X:cE} {o:Oper} {F:bh} {M:bA}
def jm(ρ:Place)(L:bi)(I:Nat->Prop)(w:World)(N:Nat->Prop)(sz:Nat)(es:List (List AV))(arr:Array Value):Prop:=
 es.length*sz<=arr.size/\(∀e ∈ es,e.length=sz)/\∀i j,i<es.length->j<sz->∃u,arr[i*sz+j]? =some u/\u.oneCell'=true/\aP ρ L I w N ((es.getD i []).getD j .bad) u
theorem jm.set{ρ:Place}{L:bi}{I:Nat->Prop}{w:World}{N:Nat->Prop}{sz:Nat}{es:List (List AV)}{arr p9:Array Value}{vs:List AV}{i:Nat}(h:jm ρ L I w N sz es arr)(hi:i<es.length)
  (hv:bB ρ L I w N vs p9) (hl:vs.length=sz):jm ρ L I w N sz (es.set i vs) (p9.zipIdx.foldl (fun cs (p:Value × Nat)=>cs.setIfInBounds (i*sz+p.2) p.1) arr):=by
 have e:p9.zipIdx.foldl (fun cs (p:Value × Nat)=>cs.setIfInBounds (i*sz+p.2) p.1) arr=(p9.toList.zipIdx 0).foldl (fun cs (p:Value × Nat)=>cs.setIfInBounds (i*sz+p.2) p.1) arr:=by
  rw[<-Array.foldl_toList,Array.toList_zipIdx]
 rw[e]
 obtain⟨h1,h2,h3⟩:=h
 have hvl:p9.toList.length=sz:=by have:=hv.1; simp; omega
 have hb:i*sz+sz<=es.length*sz:=by
  have:(i+1)*sz<=es.length*sz:=Nat.mul_le_mul_right _ hi
  rwa[Nat.add_mul,Nat.one_mul]at this
 obtain⟨g1,g2⟩:=jR (i*sz) p9.toList 0 arr (by rw[hvl]; omega)
 refine⟨by rw[g1]; simpa using h1,fun e he=> ?_,fun p q hp hq=> ?_⟩
 ·rcases List.mem_or_eq_of_mem_set he with he|rfl
  ·exact h2 e he
  ·exact hl
 ·rw[g2,hvl]
  simp only[Nat.add_zero]
  simp only[List.length_set]at hp
  by_cases hpi:p=i
  ·subst hpi
   rw[if_pos (by omega)]
   have:(es.set p vs).getD p []=vs:=by simp[List.getD_eq_getElem?_getD,hp]
   rw[this]
   have e2:p*sz+q - p*sz=q:=by omega
   rw[e2]
   obtain⟨u,hu,hr⟩:=hv.2 q (by omega)
   exact⟨u,by simpa using hu,hr⟩
  ·rw[if_neg]
   ·have:(es.set i vs).getD p []=es.getD p []:=by simp[List.getD_eq_getElem?_getD,List.getElem?_set,Ne.symm hpi]
    rw[this]
    exact h3 p q hp hq
   ·rintro⟨ha,hb'⟩
    rcases Nat.lt_or_gt_of_ne hpi with hlt|hgt
    ·have:(p+1)*sz<=i*sz:=Nat.mul_le_mul_right _ hlt
     rw[Nat.add_mul,Nat.one_mul]at this
     omega
    ·have:(i+1)*sz<=p*sz:=Nat.mul_le_mul_right _ hgt
     rw[Nat.add_mul,Nat.one_mul]at this
     omega
theorem vy{sz:Nat}{K:List (List AV)->Prop}:∀(ps:List (Nat × Operand))(es:List (List AV)),lI sz (pW F ps) es K->∃es',lI sz (pW F ps) es (fun x=>x=es')/\K es'
 |[],es,h=>⟨es,rfl,h⟩
 |(i,x)::r,es,h=>by
  simp only[pW,lI]at h ⊢
  obtain⟨hc1,h⟩:=aA h
  obtain⟨es',h1,h2⟩:=vy r _ h
  exact⟨es',aG hc1 h1,h2⟩
theorem qG{ρ:Place}{L:bi}{I:Nat->Prop}{w:World}{N:Nat->Prop}{a:Act}{sz:Nat}{K:List (List AV)->Prop}:∀(ps:List (Nat × Operand))(es:List (List AV)),(∀p ∈ ps,aP ρ L I w N (ev F p.2) (a.eval p.2))->
  lI sz (pW F ps) es K->∃es',K es'/\es'.length=es.length/\∀arr,arr.size=es.length*sz->jm ρ L I w N sz es arr->∃hJ,hJ.size=arr.size/\jm ρ L I w N sz es' hJ/\Instr.fill (fun i=>some (i*sz,sz)) arr (ps.map fun p=>(p.1,a.eval p.2))=some hJ
 |[],es,_,h=>⟨es,h,rfl,fun arr _ hc=>⟨arr,rfl,hc,rfl⟩⟩
 |(i,x)::r,es,hr,h=>by
  simp only[pW,lI]at h
  obtain⟨hc1,h⟩:=aA h
  simp only[Bool.and_eq_true,beq_iff_eq]at hc1
  obtain⟨⟨hs,hl⟩,hfit⟩:=hc1
  obtain⟨es',hk,hle,hall⟩:=qG r _ (fun p hp=>hr p (List.mem_cons_of_mem _ hp)) h
  refine⟨es',hk,by simpa using hle,fun arr hsz hc=> ?_⟩
  have hi:i<es.length:=by simp at hfit; omega
  have hv:=bB.fG (hr (i,x) List.mem_cons_self) hs
  have h1:(a.eval x).cells.size=sz:=by have:=hv.1; simp at this; omega
  have hb:i*sz+sz<=es.length*sz:=by
   have:(i+1)*sz<=es.length*sz:=Nat.mul_le_mul_right _ hi
   rwa[Nat.add_mul,Nat.one_mul]at this
  have h3:¬ ((a.eval x).cells.size≠sz\/ i*sz+ (a.eval x).cells.size>arr.size):=by
   rintro (h|h)
   ·exact h h1
   ·omega
  have JW:=hc.set hi hv hl
  have SZ:((a.eval x).cells.zipIdx.foldl (fun cs (p:Value × Nat)=>cs.setIfInBounds (i*sz+p.2) p.1) arr).size=arr.size:=by
   rw[<-Array.foldl_toList,Array.toList_zipIdx]
   exact (jR (i*sz) _ 0 arr (by simp; omega)).1
  obtain⟨hJ,ha0,ha1,ha2⟩:=hall _ (by rw[SZ]; simpa using hsz) JW
  refine⟨hJ,ha0.trans SZ,ha1,?_⟩
  simp only[List.map_cons,Instr.fill,Bool.or_eq_true,decide_eq_true_eq,if_neg h3]
  exact ha2
theorem jm.Gx{ρ:Place}{L:bi}{I:Nat->Prop}{w:World}{N:Nat->Prop}{z:Value}{a:AV}{sz n:Nat}(h:bB ρ L I w N (cells a) z.cells)(hl:(cells a).length=sz)(hpos:sz≠0):
  jm ρ L I w N sz (List.replicate n (cells a)) ((Array.range (n*sz)).map (z.cells[· % z.cells.size]!)):=by
 have hz:z.cells.size=sz:=by rw[h.1,hl]
 refine⟨by simp,fun e he=>by rw[(List.mem_replicate.1 he).2]; exact hl,fun i j hi hj=> ?_⟩
 simp only[List.length_replicate]at hi
 have hlt:i*sz+j<n*sz:=by
  have:(i+1)*sz<=n*sz:=Nat.mul_le_mul_right _ hi
  rw[Nat.add_mul,Nat.one_mul]at this
  omega
 have ZX:(i*sz+j) % z.cells.size=j:=by
  rw[hz,Nat.add_comm,Nat.mul_comm,Nat.add_mul_mod_self_left]
  exact Nat.mod_eq_of_lt hj
 obtain⟨u,hu,h1,hr⟩:=h.2 j (by omega)
 refine⟨u,?_,h1,?_⟩
 ·have hj':j<z.cells.size:=by omega
  have CD:z.cells[j]=u:=by rw[Array.getElem?_eq_getElem hj']at hu; exact Option.some.inj hu
  simp[hlt,ZX,hj',CD]
 ·have:(List.replicate n (cells a)).getD i []=cells a:=by simp[List.getD_eq_getElem?_getD,hi]
  rw[this]; exact hr
theorem qH{n e len cap sz:Nat}{es:List (List AV)}(hlen:es.length=len)
  (h:∀M' N ρ I (ac:Act) w,db X ρ I M' N w->(∀s ∈ dC o.op,aP ρ (lens M') I w N (look F s) (ac.tmps.getD s undef))->
    ∃arr,(execOp ac.eval o).run P w= .ok (.value (.slice (some ⟨w.heap.size,0,none⟩) len cap)) (w.alloc (.cells arr e))/\arr.size=cap*sz/\len<=cap/\cap<=maxLen/\jm ρ (lens M') I w N sz es arr):bT P X o F M (.aV n len) [(n,⟨e,sz,es,none⟩)] [n]:=by
 refine⟨fun p hp=> .inl (by simp at hp; simp[hp]),fun M' N ρ I ac w hW hU hN hF=> ?_⟩
 obtain⟨arr,hrun,h1,h2,h3,h4⟩:=h M' N ρ I ac w hW hU
 have hn:¬N n:=hF n (by simp)
 obtain⟨ρ1,E,W,hρ,hl⟩:=hW.new hn ⟨e,sz,es,none⟩ rfl arr cap h4.2.1 (by simpa using hlen ▸ h2) h3 h1 h4.2.2
 unfold bZ
 rw[hrun]
 have JV:gV N [(n,(⟨e,sz,es,none⟩:bD))] n:= .inr ⟨_,List.mem_singleton.2 rfl⟩
 refine⟨ρ1,I,E,W,?_⟩
 exact kW JV (hlen ▸ hl) hρ
theorem ru(hT:dD P T){n t len:Nat}{ps:Array (Nat × Operand)}{e:Nat}{es:List (List AV)}(ho:o.op= .buildSlice t len ps)(ht:T.d t= .slice e)(hok:(T.d e).ok=true)
  (hs:bX (T.z e)=true) (hl:(cells (T.z e)).length=T.s e) (hz:T.s e≠0) (hb:len*T.s e<=16777216) (h:lI (T.s e) (pW F ps.toList) (List.replicate len (cells (T.z e))) (fun x=>x=es)):bT P X o F M (.aV n len) [(n,⟨e,T.s e,es,none⟩)] [n]/\es.length=len:=by
 have AY:∀p ∈ ps.toList,p.2 ∈ o.op.operands.toList:=fun p hp=>by
  simp only[ho,Op.operands]
  exact List.mem_map.2 ⟨p,hp,rfl⟩
 obtain⟨D,it,z,hD,hf,hi,hsz,_⟩:=hT t (by rw[ht]; simp)
 have iG:=cq ht hf
 subst iG
 obtain⟨_,ie,ze,_,_,hie,mK,_,Ob,ky⟩:=hT e (TD.ee hok)
 have hlen:es.length=len:=by
  clear AY
  have:∀(ps:List (Nat × Operand))(oT:List (List AV)),lI (T.s e) (pW F ps) oT (fun x=>x=es)->es.length=oT.length:=by
   intro ps
   induction ps with
   |nil=>intro oT h; simp only[pW,lI]at h; rw[h]
   |cons p r ih=>
    intro oT h
    obtain⟨i,x⟩:=p
    simp only[pW,lI]at h
    obtain⟨_,h⟩:=aA h
    simpa using ih _ h
  simpa using this ps.toList _ h
 refine⟨qH (cap:=len) hlen (fun M' N ρ I a w hW hU=> ?_),hlen⟩
 have hr:∀p ∈ ps.toList,aP ρ (lens M') I w N (ev F p.2) (a.eval p.2):=fun p hp=>ax hU _ (AY p hp)
 obtain⟨es',h1,h2,h3⟩:=qG (ρ:=ρ) (L:=lens M') (I:=I) (w:=w) (N:=N) (a:=a) ps.toList _ hr h
 subst h1
 have hc:bB ρ (lens M') I w N (cells (T.z e)) ze.cells:=by rw[ky]; exact bB.fG (gz _ _ _ _ _ ze) (by rw[<-ky]; exact hs)
 obtain⟨arr,ha0,ha1,ha2⟩:=h3 ((Array.range (len*T.s e)).map (ze.cells[· % ze.cells.size]!)) (by simp) (jm.Gx hc hl hz)
 have hmax:len<=maxLen:=by
  have:len*1<=len*T.s e:=Nat.mul_le_mul_left _ (by omega)
  simp only[maxLen]; omega
 refine⟨arr,?_,by rw[ha0]; simp,Nat.le_refl _,hmax,ha1⟩
 have hng:¬len*ie.size>2 ^ 24:=by rw[mK]; omega
 have Gy:Instr.fill (fun i=>some (i*ie.size,ie.size)) ((Array.range (len*ie.size)).map (ze.cells[· % ze.cells.size]!)) (ps.map fun p=>(p.1,a.eval p.2)).toList=some arr:=by
  rw[mK,Array.toList_map]; exact ha2
 by_cases h0:len*ie.size=0
 ·have hl0:len=0:=by
   rcases Nat.mul_eq_zero.1 h0 with h|h
   ·exact h
   ·rw[mK]at h; exact (hz h).elim
  subst hl0
  have e0:∀f:Nat->Value,(Array.range (0*ie.size)).map f= #[]:=fun f=>by rw[Nat.zero_mul]; exact Array.eq_empty_of_size_eq_zero (by simp)
  rw[e0]at Gy
  have xa:Instr.fill (fun i=>some (i*ie.size,ie.size)) #[] (ps.toList.map fun p=>(p.1,a.eval p.2))=some arr:=by
   rw[<-Gy,Array.toList_map]
  simp only[execOp,ho,Instr.buildSlice,Sem.run_bind,run_underlying hD,Result.andThen_ok,bI hie,if_neg hng,if_pos h0,Sem.run_pure,Array.toList_map,e0,xa,newRow,run_newObj,World.alloc_eq]
 ·have xa:Instr.fill (fun i=>some (i*ie.size,ie.size)) ((Array.range (len*ie.size)).map (ze.cells[· % ze.cells.size]!)) (ps.toList.map fun p=>(p.1,a.eval p.2))=some arr:=by simpa using Gy
  simp only[execOp,ho,Instr.buildSlice,Sem.run_bind,run_underlying hD,Result.andThen_ok,bI hie,if_neg hng,if_neg h0,gA hie Ob,Sem.run_pure,Array.toList_map,xa,newRow,run_newObj,World.alloc_eq]
end Go.AM
namespace Go.AM
open Go.RowKit
variable {P:Program} {T:TT} {X:cE} {o:Oper} {F:bh} {M:bA}
theorem yB{op:BinOp}{t:TypeId}{x y:Operand}{k k':IntKind}{a b:Int}{w:World}:(eqGuard op t x y (.int k a) (.int k' b)).run P w= .ok () w:=by
 unfold eqGuard
 cases op<;>simp
theorem Gz{op:BinOp}{xt yt:TypeId}{x y:Operand}{K:AV->Prop}(ho:o.op= .binOp op xt x y yt)(h:JT op (ev F x) (ev F y) K):∃av,bT P X o F M av [] []/\K av:=by
 have hx:x ∈ o.op.operands.toList:=by simp[ho,Op.operands]
 have hy:y ∈ o.op.operands.toList:=by simp[ho,Op.operands]
 cases ct:ev F x with
 |int k a=>
  cases JX:ev F y with
  |int k' b=>
   rw[ct,JX]at h
   have go:∀av v,(∀ρ L I w N,aP ρ L I w N av v)->(∀w,(binOp op xt (.int k a) (.int k' b)).run P w= .ok v w)->K av->∃av,bT P X o F M av [] []/\K av:=by
    intro av v hr hrun hk
    refine⟨av,aH fun M' N ρ I ac w hW hU hN=>⟨v,?_,hr _ _ _ _ _⟩,hk⟩
    have r1:=bN (ct ▸ ax hU x hx)
    have r2:=bN (JX ▸ ax hU y hy)
    simp only[execOp,ho,r1,r2,Sem.run_bind,yB,Result.andThen_ok,hrun,Sem.run_pure]
   have Su:∀n,(∀w,(binOp op xt (.int k a) (.int k' b)).run P w= .ok (.int k n) w)->K (.int k n)->∃av,bT P X o F M av [] []/\K av:=fun n=>go _ _ (fun _ _ _ _ _=> .int _ _)
   have goB:∀t,(∀w,(binOp op xt (.int k a) (.int k' b)).run P w= .ok (.bool t) w)->K (.bool t)->∃av,bT P X o F M av [] []/\K av:=fun n=>go _ _ (fun _ _ _ _ _=> .bool _)
   clear go
   cases op<;>simp only[JT]at h
   case shl=>
    have:¬b<0:=by omega
    exact Su _ (fun w=>by simp[binOp,Op.shift,this,pV]) h.2
   case shr=>
    have:¬b<0:=by omega
    exact Su _ (fun w=>by simp[binOp,Op.shift,this,fS]) h.2
   case quo=>
    obtain⟨h0,h1⟩:=h
    obtain⟨hk,h2⟩:=aA h1
    have hk:=jk hk; subst hk
    exact Su _ (fun w=>by simp[binOp,Op.intDiv,h0,wr]) h2
   case rem=>
    obtain⟨h0,h1⟩:=h
    obtain⟨hk,h2⟩:=aA h1
    have hk:=jk hk; subst hk
    exact Su _ (fun w=>by simp[binOp,Op.intDiv,h0]) h2
   all_goals
    obtain⟨hk,h2⟩:=aA h
    have hk:=jk hk; subst hk
    first
     |(refine Su _ (fun w=> ?_) h2; simp[binOp,Op.intArith,wr]; done)
     |(refine Su _ (fun w=> ?_) h2; simp only[binOp,ne_eq,not_true_eq_false,if_false]; rfl)
     |(refine goB _ (fun w=> ?_) h2; simp[binOp,Op.intCmp]; done)
  |_=>rw[ct,JX]at h; cases op<;>exact h.elim
 |_=>rw[ct]at h; cases op<;>exact h.elim
theorem JY{op:UnOp}{xt:TypeId}{x:Operand}{K:AV->Prop}(ho:o.op= .unOp op xt x)(h:SS op (ev F x) K):∃av,bT P X o F M av [] []/\K av:=by
 have hx:x ∈ o.op.operands.toList:=by simp[ho,Op.operands]
 cases ct:ev F x with
 |int k n=>
  rw[ct]at h
  cases op<;>simp only[SS]at h
  ·refine⟨_,aH fun M' N ρ I ac w hW hU hN=>⟨.int k (wr k (0 - n)),?_,.int _ _⟩,h⟩
   have r1:=bN (ct ▸ ax hU x hx)
   simp[execOp,ho,r1,Op.unary,Op.intArith,wr]
  ·refine⟨_,aH fun M' N ρ I ac w hW hU hN=>⟨.int k (eX .xor k (if k.signed then -1 else k.max) n),?_,.int _ _⟩,h⟩
   have r1:=bN (ct ▸ ax hU x hx)
   simp[execOp,ho,r1,Op.unary,Op.intBits,eX]
 |bool b=>
  rw[ct]at h
  cases op<;>simp only[SS]at h
  refine⟨_,aH fun M' N ρ I ac w hW hU hN=>⟨.bool !b,?_,.bool _⟩,h⟩
  have r1:=gE (ct ▸ ax hU x hx)
  simp[execOp,ho,r1,Op.unary]
 |_=>rw[ct]at h; cases op<;>exact h.elim
theorem run_convert_int{s t:Nat}{k k':IntKind}{n:Int}{w:World}{D:TypeDesc}(hs:P.underlying s=some D)(ht:P.underlying t=some (.int k)):(convert s t (.int k' n)).run P w= .ok (.int k (wr k n)) w:=by
 simp[convert,run_underlying hs,run_underlying ht,Conv.intToInt,wr]
theorem vz(hT:dD P T){s t:Nat}{x:Operand}{K:AV->Prop}(ho:o.op= .convert s t x)(hs:(T.d s).ok=true)(h:SU (T.d t) (ev F x) K):∃av,bT P X o F M av [] []/\K av:=by
 have hx:x ∈ o.op.operands.toList:=by simp[ho,Op.operands]
 obtain⟨Ds,_,_,YZ,_⟩:=hT s (TD.ee hs)
 cases ht:T.d t with
 |int k=>
  rw[ht]at h
  obtain⟨D,it,z,hD,hf,_⟩:=hT t (by rw[ht]; simp)
  have iG:=fits_int ht hf
  subst iG
  cases ct:ev F x with
  |int k' n=>
   rw[ct]at h
   refine⟨_,aH fun M' N ρ I ac w hW hU hN=>⟨.int k (wr k n),?_,.int _ _⟩,h⟩
   have r1:=bN (ct ▸ ax hU x hx)
   simp only[execOp,ho,r1,Sem.run_bind,run_convert_int YZ hD,Result.andThen_ok,Sem.run_pure]
  |_=>rw[ct]at h; exact h.elim
 |str=>
  rw[ht]at h
  obtain⟨D,it,z,hD,hf,_⟩:=hT t (by rw[ht]; simp)
  have iG:=gD ht hf
  subst iG
  cases ct:ev F x with
  |str l=>
   rw[ct]at h
   refine⟨_,aH fun M' N ρ I ac w hW hU hN=>⟨.string ⟨l.toArray⟩,?_,.str _⟩,h⟩
   have r1:=ir (ct ▸ ax hU x hx)
   simp[execOp,ho,r1,convert,run_underlying YZ,run_underlying hD]
  |_=>rw[ct]at h; exact h.elim
 |_=>rw[ht]at h; exact h.elim
theorem uV{x:Operand}{K:AV->Prop}{Ml:Mem}(hM:M=ab Ml)(ho:o.op= .nilCheck x)
  (h:(∃n len i q,ev F x= .loc n len i q/\alive Ml n len fun _=>K (.loc n len i q))\/(∃e q,ev F x= .bz e q/\K (.bz e q))\/(∃f cs,ev F x= .ce f cs/\K (.ce f cs))):∃av,bT P X o F M av [] []/\K av:=by
 have hx:x ∈ o.op.operands.toList:=by simp[ho,Op.operands]
 rcases h with⟨n,len,i,q,ct,h⟩|⟨e,q,ct,h⟩|⟨f,cs,ct,h⟩
 ·simp only[alive]at h
  cases hb:ab Ml n with
  |none=>rw[hb]at h; exact h.elim
  |some b=>
   rw[hb]at h
   obtain⟨hc1,hmp,hk⟩:=aA h
   have hl:b.ln=len:=by simpa using hc1
   refine⟨_,aH fun M' N ρ I a w hW hU hN=> ?_,hk⟩
   have r1:=ax hU x hx
   rw[ct]at r1
   obtain⟨sl,fq,fF⟩:=bE (F:=F) x hx (n:=n) (by rw[ct]; simp[AV.names])
   have cL:M' n=some b:=(hN sl fq n fF).trans (by rw[hM]; exact hb)
   have ej:lens M' n=some (len,b.sz):=by rw[aC]; exact⟨b,cL,hl,rfl⟩
   obtain⟨hn,g,cap,hρ,hv⟩:=gB r1 ej
   exact⟨_,by simp only[execOp,ho,hv,Sem.run_pure],hG hn ej hρ⟩
 ·refine⟨_,aH fun M' N ρ I a w hW hU hN=> ?_,h⟩
  have r1:=ax hU x hx
  rw[ct]at r1
  generalize hv:a.eval x=v at r1
  cases r1 with
  |bz _ _ b q' c hI h1 hcell hr=>exact⟨_,by simp only[execOp,ho,hv,Sem.run_pure],.bz e q b q' c hI h1 hcell hr⟩
 ·refine⟨_,aH fun M' N ρ I a w hW hU hN=> ?_,h⟩
  have r1:=ax hU x hx
  rw[ct]at r1
  generalize hv:a.eval x=v at r1
  cases r1 with
  |ce f _ vs hl hr=>exact⟨_,by simp only[execOp,ho,hv,Sem.run_pure],.ce f cs vs hl hr⟩
  |rn f _ vs hl hr=>exact⟨_,by simp only[execOp,ho,hv,Sem.run_pure],.rn f cs vs hl hr⟩
theorem oh:∀l:List Operand,(oM F l).length=l.length
 |[]=>rfl
 |_::r=>by simp[oM,oh r]
theorem yC:∀(l:List Operand)(j:Nat)(hj:j<l.length),(oM F l).getD j .bad=ev F l[j]
 |x::r,0,_=>rfl
 |x::r,j+1,h=>by simpa[oM]using yC r j (by simpa using h)
theorem jo{ρ:Place}{L:bi}{I:Nat->Prop}{w:World}{N:Nat->Prop}{a:Act}(l:List Operand)(h:∀x ∈ l,aP ρ L I w N (ev F x) (a.eval x)):dB ρ L I w N (oM F l) (l.map a.eval):=by
 refine⟨by simp[oh],fun j hj=> ?_⟩
 rw[oh]at hj
 rw[yC l j hj]
 have:(l.map a.eval).getD j default=a.eval l[j]:=by simp[List.getD_eq_getElem?_getD,hj]
 rw[this]
 exact h _ (List.getElem_mem _)
theorem uW{f:Nat}{first aZ:Array Operand}(ho:o.op= .makeFunc (.func f) first aZ)(h0:first.isEmpty=true):bT P X o F M (.ce (.fn f) (oM F aZ.toList)) [] []:=by
 refine aH fun M' N ρ I a w hW hU hN=>⟨.func (.func f) #[] ((aZ.toList.map a.eval).toArray),?_,?_⟩
 ·have:first= #[]:=by simpa using h0
  subst this
  have e:Array.map a.eval aZ=(List.map a.eval aZ.toList).toArray:=by apply Array.ext'; simp
  simp[execOp,ho,Instr.makeFunc,e]
 ·have:=jo (F:=F) (ρ:=ρ) (L:=lens M') (I:=I) (w:=w) (N:=N) (a:=a) aZ.toList (fun x hx=>ax hU x (by simp only[ho,Op.operands]; simp only[Array.toList_append]; exact List.mem_append_right _ hx))
  exact .ce f _ _ this.1 this.2
theorem xb{x:Operand}{i:Nat}{vs:List AV}(ho:o.op= .extract x i)(hx':ev F x= .aQ vs)(hi:i<vs.length):bT P X o F M (vs.getD i .bad) [] []:=by
 have hx:x ∈ o.op.operands.toList:=by simp[ho,Op.operands]
 refine aH fun M' N ρ I a w hW hU hN=> ?_
 have r1:=ax hU x hx
 rw[hx']at r1
 generalize hv:a.eval x=v at r1
 cases r1 with
 |aQ _ us hl hr=>
  have hi':i<us.length:=by omega
  refine⟨us.getD i default,?_,hr i hi⟩
  have:us.toArray[i]? =some (us.getD i default):=by simp[hi',List.getD_eq_getElem?_getD]
  simp only[execOp,ho,hv,Instr.extract,this,Sem.run_bind,Sem.run_pure,Result.andThen_ok]
end Go.AM
namespace Go.AM
open Go.RowKit
variable {P:Program} {T:TT} {X:cE} {o:Oper} {F:bh} {M:bA}
theorem rv{α:Type}(l:List α)(h q i:Nat)(d:α)(hi:i<h - q):((l.take h).drop q).getD i d=l.getD (q+i) d:=by
 simp only[List.getD_eq_getElem?_getD,List.getElem?_drop,List.getElem?_take]
 rw[if_pos (by omega)]
theorem yD{ρ:Place}{L:bi}{I:Nat->Prop}{w:World}{N:Nat->Prop}{sz:Nat}{es:List (List AV)}{a:Option Addr}{len cap:Nat}(h:aP ρ L I w N (.aD sz es) (.slice a len cap))(l q m:Nat)
  (h1:l<=q) (h2:q<=es.length) (h3:q<=m) (h4:m<=cap):len=es.length/\aP ρ L I w N (.aD sz ((es.take q).drop l)) (.slice (if m=l then a else a.map (·.add (l*sz))) (q - l) (m - l)):=by
 cases h with
 |c7 _ _ _ hc=>
  simp at h2
  have hl:l=0:=by omega
  subst hl; subst h2
  exact⟨rfl,by simpa using aP.c7 sz _ (m - 0) (by omega)⟩
 |aD _ _ b o _ c hl hc hI hs SX hcell hr=>
  refine⟨rfl,?_⟩
  by_cases hz:q - l=0
  ·have e:(es.take q).drop l=[]:=List.eq_nil_of_length_eq_zero (by simp; omega)
   rw[e,hz]
   exact .c7 sz _ _ (by omega)
  ·have hm:m≠l:=by omega
   have hlen:((es.take q).drop l).length=q - l:=by simp; omega
   rw[if_neg hm]
   have e:(Option.map (fun x:Addr=>x.add (l*sz)) (some ⟨b,o,none⟩))=some ⟨b,o+l*sz,none⟩:=by simp[cz]
   rw[e,<-hlen]
   refine .aD sz _ b (o+l*sz) (m - l) (fun i j=>c (l+i) j) (by omega) (by omega) hI (fun e he=>hs e (List.mem_of_mem_take (List.mem_of_mem_drop he))) (fun i j hi hj=>SX _ _ (by omega) hj) (fun i j hi hj=> ?_) (fun i j hi hj=> ?_)
   ·have:=hcell (l+i) j (by omega) hj
    rw[Nat.add_mul,<-Nat.add_assoc]at this
    exact this
   ·rw[rv _ _ _ _ _ (by omega)]
    exact hr (l+i) j (by omega) hj
theorem run_sliceBound{k:IntKind}{i:Int}{y:Nat}{c:BoundsCode}{w:World}(h:0<=i/\i<=y):(Instr.sliceBound (.int k i) y c).run P w= .ok i.toNat w:=by
 simp[Instr.sliceBound,asIntOf,h]
theorem qI{t e:Nat}{ie:TypeInfo}{a:Option Addr}{len cap:Nat}{lo hi mx:Option Value}{w:World}(hD:P.underlying t=some (.slice e))(hi':P.info? e=some ie){l h m:Nat}
  (hb:(Instr.sliceBounds true len cap lo hi mx).run P w= .ok (l,h,m) w):(Instr.sliceAt t (.slice a len cap) lo hi mx).run P w= .ok (.slice (if m=l then a else a.map (·.add (l*ie.size))) (h - l) (m - l)) w:=by
 simp only[Instr.sliceAt,Sem.run_bind,run_underlying hD,Result.andThen_ok,Instr.slice,hb,bI hi',Sem.run_pure]
theorem ry{t:Nat}{s:ByteArray}{lo hi:Option Value}{w:World}(hD:P.underlying t=some .string){l h m:Nat}
  (hb:(Instr.sliceBounds false s.size s.size lo hi none).run P w= .ok (l,h,m) w):(Instr.sliceAt t (.string s) lo hi none).run P w= .ok (.string (s.extract l h)) w:=by
 simp[Instr.sliceAt,run_underlying hD,Instr.slice,hb]
theorem rN{ρ:Place}{L:bi}{I:Nat->Prop}{w:World}{N:Nat->Prop}{sz:Nat}{es:List (List AV)}{v:Value}(h:aP ρ L I w N (.aD sz es) v):∃a cap,v= .slice a es.length cap/\es.length<=cap:=by
 cases h with
 |c7 _ a cap hc=>exact⟨a,cap,rfl,Nat.zero_le _⟩
 |aD _ _ b o cap c hl=>exact⟨_,cap,rfl,hl⟩
theorem yE(s:List UInt8)(l h:Nat)(hh:h<=s.length):(⟨s.toArray⟩:ByteArray).extract l h=⟨((s.take h).drop l).toArray⟩:=by
 apply ByteArray.ext
 apply Array.ext'
 rw[Lib.extract_data]
 simp[List.drop_take]
theorem sA(hT:dD P T){t:Nat}{x:Operand}{lo hi mx:Option Operand}{K:AV->Prop}{Ml:Mem}(ho:o.op= .slice t x lo hi mx)(h:pY T t (ev F x) (uM F lo) (uM F hi) (uM F mx) Ml K):∃av,bT P X o F M av [] []/\K av:=by
 have hx:x ∈ o.op.operands.toList:=by simp[ho,Op.operands]
 have hlo:∀y,lo=some y->y ∈ o.op.operands.toList:=by rintro y rfl; simp[ho,Op.operands]
 have hhi:∀y,hi=some y->y ∈ o.op.operands.toList:=by rintro y rfl; simp[ho,Op.operands]
 have Sv:∀y,mx=some y->y ∈ o.op.operands.toList:=by rintro y rfl; simp[ho,Op.operands]
 unfold pY at h
 cases ht:T.d t with
 |slice e=>
  rw[ht]at h
  obtain⟨hok,h⟩:=aA h
  obtain⟨D,it,z,hD,hf,_⟩:=hT t (by rw[ht]; simp)
  have iG:=cq ht hf
  subst iG
  obtain⟨_,ie,_,_,_,hie,mK,_⟩:=hT e (TD.ee hok)
  cases ct:ev F x with
  |aD sz es=>
   rw[ct]at h
   obtain⟨hsz,h⟩:=aA h
   have hsz:sz=ie.size:=by rw[mK]; simpa using hsz
   have fin':∀(l q:Nat),l<=q->q<=es.length->(∀cap (a:Act) w,es.length<=cap->(∀y ∈ o.op.operands.toList,∀k n,ev F y= .int k n->a.eval y= .int k n)->∃m,q<=m/\m<=cap/\(Instr.sliceBounds true es.length cap (lo.map a.eval) (hi.map a.eval) (mx.map a.eval)).run P w= .ok (l,q,m) w)->bT P X o F M (.aD sz ((es.take q).drop l)) [] []:=by
    intro l q h1 h2 hb
    refine aH fun M' N ρ I a w hW hU hN=> ?_
    have r1:=ax hU x hx
    rw[ct]at r1
    obtain⟨ad,cap,hv,hcap⟩:=rN r1
    obtain⟨m,hm1,hm2,hb⟩:=hb cap a w hcap (fun y hy k n Oc=>bN (Oc ▸ ax hU y hy))
    rw[hv]at r1
    obtain⟨_,r2⟩:=yD r1 l q m h1 h2 hm1 hm2
    refine⟨_,?_,r2⟩
    simp only[execOp,ho,hv,Sem.run_bind,qI hD hie hb,Result.andThen_ok,Sem.run_pure,hsz]
   cases lo with
   |none=>
    cases hi with
    |none=>cases mx<;>exact h.elim
    |some yh=>
     cases xc:ev F yh with
     |int kh nh=>
      cases mx with
      |none=>
       simp only[uM,xc]at h
       refine⟨_,fin' 0 nh.toNat (by omega) (by omega) ?_,by simpa using h.2⟩
       intro cap a w hc uS
       refine⟨cap,by omega,Nat.le_refl _,?_⟩
       have e1:=uS yh (hhi yh rfl) kh nh xc
       simp only[Option.map_none,Option.map_some,e1,Instr.sliceBounds,Sem.run_bind,Sem.run_pure,Result.andThen_ok,run_sliceBound (show 0<=nh/\nh<=(cap:Int) by omega)]
      |some ym=>
       cases kz:ev F ym with
       |int km nm=>
        simp only[uM,xc,kz]at h
        refine⟨_,fin' 0 nh.toNat (by omega) (by omega) ?_,by simpa using h.2⟩
        intro cap a w hc uS
        refine⟨nm.toNat,by omega,by omega,?_⟩
        have e1:=uS yh (hhi yh rfl) kh nh xc
        have e2:=uS ym (Sv ym rfl) km nm kz
        simp only[Option.map_none,Option.map_some,e1,e2,Instr.sliceBounds,Sem.run_bind,Sem.run_pure,Result.andThen_ok,run_sliceBound (show 0<=nm/\nm<=(cap:Int) by omega),run_sliceBound (show 0<=nh/\nh<=(nm.toNat:Int) by omega)]
       |_=>simp only[uM,xc,kz]at h
     |_=>cases mx<;>(simp only[uM,xc]at h)
   |some yl=>
    cases AZ:ev F yl with
    |int kl nl=>
     cases hi with
     |none=>
      cases mx with
      |none=>
       simp only[uM,AZ]at h
       refine⟨_,fin' nl.toNat es.length (by omega) (Nat.le_refl _) ?_,by simpa using h.2⟩
       intro cap a w hc uS
       refine⟨cap,by omega,Nat.le_refl _,?_⟩
       have e1:=uS yl (hlo yl rfl) kl nl AZ
       simp only[Option.map_none,Option.map_some,e1,Instr.sliceBounds,Sem.run_bind,Sem.run_pure,Result.andThen_ok,run_sliceBound (show 0<=nl/\nl<=(es.length:Int) by omega)]
      |some ym=>simp only[uM,AZ]at h
     |some yh=>
      cases xc:ev F yh with
      |int kh nh=>
       cases mx with
       |none=>
        simp only[uM,AZ,xc]at h
        refine⟨_,fin' nl.toNat nh.toNat (by omega) (by omega) ?_,by simpa using h.2⟩
        intro cap a w hc uS
        refine⟨cap,by omega,Nat.le_refl _,?_⟩
        have e1:=uS yl (hlo yl rfl) kl nl AZ
        have e2:=uS yh (hhi yh rfl) kh nh xc
        simp only[Option.map_none,Option.map_some,e1,e2,Instr.sliceBounds,Sem.run_bind,Sem.run_pure,Result.andThen_ok,run_sliceBound (show 0<=nh/\nh<=(cap:Int) by omega),run_sliceBound (show 0<=nl/\nl<=(nh.toNat:Int) by omega)]
       |some ym=>simp only[uM,AZ,xc]at h
      |_=>cases mx<;>(simp only[uM,AZ,xc]at h)
    |_=>cases hi<;>cases mx<;>(simp only[uM,AZ]at h)
  |_=>rw[ct]at h; exact h.elim
 |str=>
  rw[ht]at h
  obtain⟨D,it,z,hD,hf,_⟩:=hT t (by rw[ht]; simp)
  have iG:=gD ht hf
  subst iG
  cases ct:ev F x with
  |str s=>
   rw[ct]at h
   have fin':mx=none->∀(l q:Nat),l<=q->q<=s.length->(∀(a:Act) w,(∀y ∈ o.op.operands.toList,∀k n,ev F y= .int k n->a.eval y= .int k n)->∃m,(Instr.sliceBounds false s.length s.length (lo.map a.eval) (hi.map a.eval) none).run P w= .ok (l,q,m) w)->bT P X o F M (.str ((s.take q).drop l)) [] []:=by
    intro ZY l q h1 h2 hb
    refine aH fun M' N ρ I a w hW hU hN=> ?_
    have r1:=ir (ct ▸ ax hU x hx)
    obtain⟨m,hb⟩:=hb a w (fun y hy k n Oc=>bN (Oc ▸ ax hU y hy))
    refine⟨.string ⟨((s.take q).drop l).toArray⟩,?_,.str _⟩
    have hb':(Instr.sliceBounds false (⟨s.toArray⟩:ByteArray).size (⟨s.toArray⟩:ByteArray).size (lo.map a.eval) (hi.map a.eval) none).run P w= .ok (l,q,m) w:=hb
    rw[<-yE s l q h2]
    subst ZY
    simp only[execOp,ho,r1,Sem.run_bind,Option.map_none,ry hD hb',Result.andThen_ok,Sem.run_pure]
   cases mx with
   |some ym=>cases lo<;>cases hi<;>first|exact h.elim|(simp only[uM]at h; split at h<;>first|exact h.elim|(rename_i hh; simp at hh))
   |none=>
    cases lo with
    |none=>
     cases hi with
     |none=>exact h.elim
     |some yh=>
      cases xc:ev F yh with
      |int kh nh=>
       simp only[uM,xc]at h
       refine⟨_,fin' rfl 0 nh.toNat (by omega) (by omega) ?_,by simpa using h.2⟩
       intro a w uS
       have e1:=uS yh (hhi yh rfl) kh nh xc
       refine⟨s.length,?_⟩
       simp only[Option.map_none,Option.map_some,e1,Instr.sliceBounds,Sem.run_bind,Sem.run_pure,Result.andThen_ok,Bool.false_eq_true,if_false,run_sliceBound (show 0<=nh/\nh<=(s.length:Int) by omega)]
      |_=>simp only[uM,xc]at h
    |some yl=>
     cases AZ:ev F yl with
     |int kl nl=>
      cases hi with
      |none=>
       simp only[uM,AZ]at h
       refine⟨_,fin' rfl nl.toNat s.length (by omega) (Nat.le_refl _) ?_,by simpa using h.2⟩
       intro a w uS
       have e1:=uS yl (hlo yl rfl) kl nl AZ
       refine⟨s.length,?_⟩
       simp only[Option.map_none,Option.map_some,e1,Instr.sliceBounds,Sem.run_bind,Sem.run_pure,Result.andThen_ok,run_sliceBound (show 0<=nl/\nl<=(s.length:Int) by omega)]
      |some yh=>
       cases xc:ev F yh with
       |int kh nh=>
        simp only[uM,AZ,xc]at h
        refine⟨_,fin' rfl nl.toNat nh.toNat (by omega) (by omega) ?_,by simpa using h.2⟩
        intro a w uS
        have e1:=uS yl (hlo yl rfl) kl nl AZ
        have e2:=uS yh (hhi yh rfl) kh nh xc
        refine⟨s.length,?_⟩
        simp only[Option.map_none,Option.map_some,e1,e2,Instr.sliceBounds,Sem.run_bind,Sem.run_pure,Result.andThen_ok,Bool.false_eq_true,if_false,run_sliceBound (show 0<=nh/\nh<=(s.length:Int) by omega),run_sliceBound (show 0<=nl/\nl<=(nh.toNat:Int) by omega)]
       |_=>simp only[uM,AZ,xc]at h
     |_=>cases hi<;>(simp only[uM,AZ]at h)
  |_=>rw[ct]at h; exact h.elim
 |_=>rw[ht]at h; exact h.elim
end Go.AM
namespace Go.AM
open Go.RowKit
variable {P:Program} {T:TT} {X:cE} {o:Oper} {F:bh} {M:bA}
def er(ρ:Place)(L:bi)(I:Nat->Prop)(w:World)(N:Nat->Prop)(sz:Nat)(xs:List (List AV))(vs:List Value):Prop:=
 vs.length=xs.length*sz/\(∀e ∈ xs,e.length=sz)/\∀i j,i<xs.length->j<sz->∃u,vs[i*sz+j]? =some u/\u.oneCell'=true/\aP ρ L I w N ((xs.getD i []).getD j .bad) u
theorem ma{i j n sz:Nat}(hi:i<n)(hj:j<sz):i*sz+j<n*sz:=by
 have:(i+1)*sz<=n*sz:=Nat.mul_le_mul_right _ hi
 rw[Nat.add_mul,Nat.one_mul]at this
 omega
theorem er.append{ρ:Place}{L:bi}{I:Nat->Prop}{w:World}{N:Nat->Prop}{sz:Nat}{xs ys:List (List AV)}{vs us:List Value}(h:er ρ L I w N sz xs vs)(k:er ρ L I w N sz ys us):er ρ L I w N sz (xs++ys) (vs++us):=by
 obtain⟨h1,h2,h3⟩:=h
 obtain⟨k1,k2,k3⟩:=k
 refine⟨by simp[h1,k1,Nat.add_mul],fun e he=> ?_,fun i j hi hj=> ?_⟩
 ·rcases List.mem_append.1 he with he|he
  ·exact h2 e he
  ·exact k2 e he
 ·by_cases hl:i<xs.length
  ·obtain⟨u,hu,hr⟩:=h3 i j hl hj
   have:=ma (sz:=sz) hl hj
   refine⟨u,by rw[List.getElem?_append_left (by omega)]; exact hu,?_⟩
   have e:(xs++ys).getD i []=xs.getD i []:=by simp[List.getD_eq_getElem?_getD,List.getElem?_append_left hl]
   rw[e]; exact hr
  ·simp at hi
   obtain⟨u,hu,hr⟩:=k3 (i - xs.length) j (by omega) hj
   have hm:xs.length*sz<=i*sz:=Nat.mul_le_mul_right _ (by omega)
   have e1:i*sz+j - vs.length=(i - xs.length)*sz+j:=by rw[h1,Nat.sub_mul]; omega
   refine⟨u,by rw[List.getElem?_append_right (by omega),e1]; exact hu,?_⟩
   have e:(xs++ys).getD i []=ys.getD (i - xs.length) []:=by simp[List.getD_eq_getElem?_getD,List.getElem?_append_right (Nat.le_of_not_lt hl)]
   rw[e]; exact hr
theorem er.one{ρ:Place}{L:bi}{I:Nat->Prop}{w:World}{N:Nat->Prop}{sz:Nat}{xs:List (List AV)}{vs:List Value}(h:er ρ L I w N sz xs vs):∀u ∈ vs,u.oneCell'=true:=by
 intro u hu
 obtain⟨k,hk,rfl⟩:=List.mem_iff_getElem.1 hu
 have hk':k<xs.length*sz:=by rw[<-h.1]; exact hk
 have hsz:0<sz:=by rcases Nat.eq_zero_or_pos sz with h|h; (subst h; simp at hk'); exact h
 have hi:k / sz<xs.length:=by rw[Nat.div_lt_iff_lt_mul hsz]; exact hk'
 obtain⟨u,hu,h1,_⟩:=h.2.2 (k / sz) (k % sz) hi (Nat.mod_lt _ hsz)
 rw[Nat.mul_comm,Nat.div_add_mod,List.getElem?_eq_getElem hk]at hu
 cases hu
 exact h1
def vA(P:Program)(sz:Nat)(v:Value)(n:Nat)(vs:List Value)(w:World):Prop:=
 ∀m,m<=n->(Builtin.firstCells sz m v).run P w= .ok (vs.take (m*sz)).toArray w
theorem vA.nil{sz n c:Nat}{w:World}:vA P sz (.slice none n c) 0 [] w:=fun m hm=>by
 rw[List.take_nil]; exact run_firstCells_none w sz m n c
theorem vA.some{sz n c k:Nat}{a:Addr}{vs:List Value}{w:World}(hl:vs.length=n*sz)(h:∀j u,vs[j]? =some u->w.cell? (a.add j)=some u):vA P sz (.slice (some a) k c) n vs w:=fun m hm=>
 run_firstCells_some w sz m a k c (vs.take (m*sz)) (by rw[List.length_take,hl]; exact Nat.min_eq_left (Nat.mul_le_mul_right _ hm)) (fun j u hu=>by
  rw[List.getElem?_take]at hu
  split at hu
  ·exact h j u hu
  ·cases hu)
theorem vA.str{s:ByteArray}{w:World}:vA P 1 (.string s) s.size (byteCells s) w:=fun m hm=>by
 simp only[Builtin.firstCells,Sem.run_pure,Nat.mul_one]
 congr 1
 apply Array.ext'
 simp[byteCells,Lib.extract_data,List.map_take]
theorem GA{ρ:Place}{L:bi}{I:Nat->Prop}{w:World}{N:Nat->Prop}{sz:Nat}{es:List (List AV)}{v:Value}{tx e:TypeId}(h:aP ρ L I w N (.aD sz es) v)(hk:P.underlying tx=some (.slice e)):
  ∃vs,Src P sz tx v es.length vs w/\er ρ L I w N sz es vs/\vA P sz v es.length vs w:=by
 cases h with
 |c7 _ a cap hc=>
  cases a with
  |none=>exact⟨[],Src.ofNil w hk cap,⟨by simp,by simp,fun i j hi=>by simp at hi⟩,vA.nil⟩
  |some a=>exact⟨[],Src.ofSlice w hk a 0 cap [] (by simp) (by simp) (by simp),⟨by simp,by simp,fun i j hi=>by simp at hi⟩,vA.some (by simp) (by simp)⟩
 |aD _ _ b o cap c hl hc hI hs h1 hcell hr=>
  have hlo:er ρ L I w N sz es ((List.range (es.length*sz)).map fun k=>c (k / sz) (k % sz)):=by
   refine⟨by simp,hs,fun i j hi hj=> ?_⟩
   have hlt:=ma (sz:=sz) hi hj
   have hsz:0<sz:=by omega
   have e1:(i*sz+j) / sz=i:=by rw[Nat.mul_comm,Nat.mul_add_div hsz,Nat.div_eq_of_lt hj,Nat.add_zero]
   have e2:(i*sz+j) % sz=j:=by rw[Nat.mul_comm,Nat.mul_add_mod,Nat.mod_eq_of_lt hj]
   refine⟨c i j,by simp[hlt,e1,e2],h1 i j hi hj,(hr i j hi hj).wide (fun _ h=>h.elim)⟩
  have lL:∀k u,((List.range (es.length*sz)).map fun k=>c (k / sz) (k % sz))[k]? =some u->w.cell? ((⟨b,o,none⟩:Addr).add k)=some u:= ?_
  ·exact⟨_,Src.ofSlice w hk _ _ _ _ hlo.1 lL hlo.one,hlo,vA.some hlo.1 lL⟩
  intro k u hu
  have hk':k<es.length*sz:=by
   have:=(List.getElem?_eq_some_iff.1 hu).1
   simpa using this
  have hsz:0<sz:=by rcases Nat.eq_zero_or_pos sz with h|h; (subst h; simp at hk'); exact h
  have hi:k / sz<es.length:=by rw[Nat.div_lt_iff_lt_mul hsz]; exact hk'
  have oi:=hcell (k / sz) (k % sz) hi (Nat.mod_lt _ hsz)
  have CD:c (k / sz) (k % sz)=u:=by simpa[hk']using hu
  rw[cz,<-CD,<-oi]
  have:k / sz*sz+k % sz=k:=by rw[Nat.mul_comm]; exact Nat.div_add_mod _ _
  rw[Nat.add_assoc,this]
theorem GB{ρ:Place}{L:bi}{I:Nat->Prop}{w:World}{N:Nat->Prop}{s:List UInt8}{tx:TypeId}(hk:P.underlying tx=some .string):
  Src P 1 tx (.string ⟨s.toArray⟩) s.length (byteCells ⟨s.toArray⟩) w/\er ρ L I w N 1 (s.map fun c=>[.int .u8 c.toNat]) (byteCells ⟨s.toArray⟩)/\vA P 1 (.string ⟨s.toArray⟩) s.length (byteCells ⟨s.toArray⟩) w:=by
 have h:=Src.ofString w hk (⟨s.toArray⟩:ByteArray)
 refine⟨h,⟨by simp[byteCells],fun e he=> ?_,fun i j hi hj=> ?_⟩,vA.str⟩
 ·obtain⟨_,_,rfl⟩:=List.mem_map.1 he
  rfl
 ·have hj':j=0:=by omega
  subst hj'
  simp at hi
  refine⟨.int .u8 s[i].toNat,by simp[byteCells,hi],rfl,?_⟩
  have:((s.map fun c=>[AV.int .u8 c.toNat]).getD i []).getD 0 .bad= .int .u8 s[i].toNat:=by simp[List.getD_eq_getElem?_getD,hi]
  rw[this]; exact .int _ _
theorem se.list{C:cE}{ρ:Place}{L:bi}{I:Nat->Prop}{w:World}{N:Nat->Prop}{n:Nat}{b:bD}(B:se C ρ L I w N n b)(hmp:b.mp=none){g cap:Nat}(hρ:ρ n=some (g,cap)):
  ∃vs,er ρ L I w N b.sz b.es vs/\∀k u,vs[k]? =some u->w.cell? ⟨g,k,none⟩=some u:=by
 obtain⟨cs,fr,hg,_,_,_,hlc,_,hcs,hc⟩:=B.real g cap hρ
 have hg:=hg.cells hmp
 have hle:b.es.length*b.sz<=cs.size:=by rw[hcs]; exact Nat.mul_le_mul_right _ hlc
 refine⟨cs.toList.take (b.es.length*b.sz),⟨by simp; omega,B.even,fun i j hi hj=> ?_⟩,fun k u hu=> ?_⟩
 ·obtain⟨u,hu,hr⟩:=hc i j hi hj
  exact⟨u,by rw[List.getElem?_take,if_pos (ma hi hj)]; simpa using hu,hr⟩
 ·rw[List.getElem?_take]at hu
  split at hu
  ·simp only[World.cell?,hg]; simpa using hu
  ·cases hu
theorem GC{ρ:Place}{I:Nat->Prop}{w:World}{N:Nat->Prop}{n:Nat}{b:bD}{v:Value}{tx e:TypeId}(hW:db X ρ I M N w)(hb:M n=some b)(hmp:b.mp=none)(h:aP ρ (lens M) I w N (.aV n b.es.length) v)(hk:P.underlying tx=some (.slice e)):
  ∃vs,Src P b.sz tx v b.es.length vs w/\er ρ (lens M) I w N b.sz b.es vs/\vA P b.sz v b.es.length vs w:=by
 have ej:lens M n=some (b.es.length,b.sz):=by rw[aC]; exact⟨b,hb,bD.dw hmp,rfl⟩
 obtain⟨hn,h2⟩:=jQ h ej
 have B:=hW.bf n b hb
 rcases h2 with⟨h0,q,hv⟩|⟨g,cap,hρ,hv⟩
 ·have he:=B.eW h0
  subst hv
  rw[he]
  cases q with
  |none=>exact⟨[],Src.ofNil w hk 0,⟨by simp,by simp,fun i j hi=>by simp at hi⟩,vA.nil⟩
  |some a=>exact⟨[],Src.ofSlice w hk a 0 0 [] (by simp) (by simp) (by simp),⟨by simp,by simp,fun i j hi=>by simp at hi⟩,vA.some (by simp) (by simp)⟩
 ·obtain⟨vs,h1,h2⟩:=B.list hmp hρ
  subst hv
  have lL:∀k u,vs[k]? =some u->w.cell? ((⟨g,0,none⟩:Addr).add k)=some u:=fun k u hu=>by rw[cz,Nat.zero_add]; exact h2 k u hu
  exact⟨vs,Src.ofSlice w hk _ _ _ _ h1.1 lL h1.one,h1,vA.some h1.1 lL⟩
theorem eJ{sz:Nat}:∀{n:Nat}{r:List AV},(pX sz n r).length=n
 |0,_=>rfl
 |n+1,r=>by simp[pX,eJ]
theorem kE{sz:Nat}:∀{n:Nat}{r:List AV}{i:Nat},i<n->(pX sz n r).getD i []=(r.drop (i*sz)).take sz
 |0,_,i,h=>by omega
 |n+1,r,0,h=>by simp[pX]
 |n+1,r,i+1,h=>by
  have:=kE (sz:=sz) (n:=n) (r:=r.drop sz) (i:=i) (by omega)
  simp only[pX,List.getD_cons_succ,this,List.drop_drop]
  congr 2
  rw[Nat.add_mul,Nat.one_mul]; omega
theorem GD{ρ:Place}{I:Nat->Prop}{w:World}{N:Nat->Prop}{n i off cr sz:Nat}{b:bD}{v:Value}{tx e:TypeId}(hW:db X ρ I M N w)(hb:M n=some b)(hmp:b.mp=none)(h:aP ρ (lens M) I w N (.eD n b.es.length i off cr) v)(hi:i<b.es.length)
  (hfit:off+cr*sz<=b.sz) (hk:P.underlying tx=some (.slice e)):
  ∃vs,Src P sz tx v cr vs w/\er ρ (lens M) I w N sz (pX sz cr ((b.es.getD i []).drop off)) vs/\vA P sz v cr vs w:=by
 have ej:lens M n=some (b.es.length,b.sz):=by rw[aC]; exact⟨b,hb,bD.dw hmp,rfl⟩
 obtain⟨hn,g,cap,c,hρ,hv,_⟩:=mJ h ej
 obtain⟨cs,fr,hg,_,_,_,hlc,_,hcs,hc⟩:=(hW.bf n b hb).real g cap hρ
 have hg:=hg.cells hmp
 have hel:(b.es.getD i []).length=b.sz:=by
  rw[List.getD_eq_getElem?_getD,List.getElem?_eq_getElem hi,Option.getD_some]
  exact (hW.bf n b hb).even _ (List.getElem_mem _)
 have hin:i*b.sz+b.sz<=cs.size:=by
  rw[hcs]
  calc i*b.sz+b.sz=(i+1)*b.sz:=by rw[Nat.add_mul,Nat.one_mul]
   _<=cap*b.sz:=Nat.mul_le_mul_right _ (by omega)
 subst hv
 generalize hvs:(cs.toList.drop (i*b.sz+off)).take (cr*sz)=vs
 have hl:vs.length=cr*sz:=by
  rw[<-hvs]
  simp only[List.length_take,List.length_drop,Array.length_toList]; omega
 have hat:∀k,k<cr*sz->vs[k]? =cs[i*b.sz+off+k]? :=fun k hk=>by
  rw[<-hvs,List.getElem?_take,if_pos hk,List.getElem?_drop]; simp
 have lL:∀k u,vs[k]? =some u->w.cell? ((⟨g,i*b.sz+off,none⟩:Addr).add k)=some u:=fun k u hu=>by
  have hk':k<cr*sz:=by rw[<-hl]; exact (List.getElem?_eq_some_iff.1 hu).1
  rw[hat k hk']at hu
  rw[cz]
  simpa[World.cell?,hg]using hu
 have hlo:er ρ (lens M) I w N sz (pX sz cr ((b.es.getD i []).drop off)) vs:=by
  refine⟨by rw[eJ,hl],fun r hr=> ?_,fun p q hp hq=> ?_⟩
  ·obtain⟨p,hp,rfl⟩:=List.mem_iff_getElem.1 hr
   rw[eJ]at hp
   have e1:=kE (sz:=sz) (r:=(b.es.getD i []).drop off) hp
   rw[List.getD_eq_getElem?_getD,List.getElem?_eq_getElem (by rw[eJ]; exact hp),Option.getD_some]at e1
   rw[e1]
   have:(p+1)*sz<=cr*sz:=Nat.mul_le_mul_right _ hp
   rw[Nat.add_mul,Nat.one_mul]at this
   simp only[List.length_take,List.length_drop,hel]; omega
  ·rw[eJ]at hp
   have hlt:=ma (sz:=sz) hp hq
   obtain⟨u,hu,h1,hr⟩:=hc i (off+ (p*sz+q)) hi (by omega)
   refine⟨u,?_,h1,?_⟩
   ·rw[hat _ hlt,<-hu]; congr 1; omega
   ·rw[kE hp,dq _ _ _ _ _ hq]
    simp only[List.getD_eq_getElem?_getD,List.getElem?_drop]at hr ⊢
    rwa[show off+ (p*sz+q)=off+ (p*sz+q)from rfl]at hr
 exact⟨vs,Src.ofSlice w hk _ _ _ _ hl lL hlo.one,hlo,vA.some hl lL⟩
theorem kX(hT:dD P T){x:Operand}{Ml:Mem}(hM:M=ab Ml){tx sz:Nat}{K:List (List AV)->Prop}(hx:x ∈ o.op.operands.toList)(hk:(∃e,P.underlying tx=some (.slice e))\/ P.underlying tx=some .string)
  (hks:(∃s,ev F x= .str s)->P.underlying tx=some .string) (hkl:(¬ ∃s,ev F x= .str s)->∃e,P.underlying tx=some (.slice e)) (h:od Ml sz (ev F x) K):
  ∃xs,K xs/\∀M' N ρ I (a:Act) w,db X ρ I M' N w->(∀s ∈ dC o.op,aP ρ (lens M') I w N (look F s) (a.tmps.getD s undef))->(∀s ∈ dC o.op,∀n ∈ (look F s).names,M' n=M n)->
   ∃vs,Src P sz tx (a.eval x) xs.length vs w/\er ρ (lens M') I w N sz xs vs/\vA P sz (a.eval x) xs.length vs w:=by
 unfold od at h
 cases ct:ev F x with
 |aD s es=>
  rw[ct]at h
  obtain⟨hc,h2⟩:=aA h
  have hs:s=sz:=by simpa using hc
  subst hs
  obtain⟨e,hk⟩:=hkl (by rw[ct]; simp)
  exact⟨es,h2,fun M' N ρ I a w hW hU hN=>GA (ct ▸ ax hU x hx) hk⟩
 |ai=>
  rw[ct]at h
  obtain⟨e,hk⟩:=hkl (by rw[ct]; simp)
  refine⟨[],h,fun M' N ρ I a w hW hU hN=> ?_⟩
  have r1:=ax hU x hx
  rw[ct]at r1
  generalize hv:a.eval x=v at r1
  cases r1
  exact⟨[],Src.ofNil w hk 0,⟨by simp,by simp,fun i j hi=>by simp at hi⟩,vA.nil⟩
 |aV n len=>
  rw[ct]at h
  simp only[alive]at h
  obtain⟨e,hk⟩:=hkl (by rw[ct]; simp)
  cases hb:ab Ml n with
  |none=>rw[hb]at h; exact h.elim
  |some b=>
   rw[hb]at h
   obtain⟨hc1,hmp,h2⟩:=aA h
   obtain⟨kw,h3⟩:=aA h2
   have hl:b.es.length=len:=(bD.dw hmp).symm.trans (by simpa using hc1)
   have hs:b.sz=sz:=by simpa using kw
   subst hl; subst hs
   refine⟨b.es,h3,fun M' N ρ I a w hW hU hN=> ?_⟩
   obtain⟨sl,fq,fF⟩:=bE (F:=F) x hx (n:=n) (by rw[ct]; simp[AV.names])
   have cL:M' n=some b:=(hN sl fq n fF).trans (by rw[hM]; exact hb)
   exact GC hW cL hmp (ct ▸ ax hU x hx) hk
 |eD n len i off cr=>
  rw[ct]at h
  simp only[alive]at h
  obtain⟨e,hk⟩:=hkl (by rw[ct]; simp)
  cases hb:ab Ml n with
  |none=>rw[hb]at h; exact h.elim
  |some b=>
   rw[hb]at h
   obtain⟨hc1,hmp,h2⟩:=aA h
   obtain⟨kw,h3⟩:=aA h2
   have hl:b.es.length=len:=(bD.dw hmp).symm.trans (by simpa using hc1)
   simp only[Bool.and_eq_true,Nat.blt_eq,Nat.ble_eq]at kw
   subst hl
   refine⟨_,h3,fun M' N ρ I a w hW hU hN=> ?_⟩
   obtain⟨sl,fq,fF⟩:=bE (F:=F) x hx (n:=n) (by rw[ct]; simp[AV.names])
   have cL:M' n=some b:=(hN sl fq n fF).trans (by rw[hM]; exact hb)
   rw[eJ]
   exact GD hW cL hmp (ct ▸ ax hU x hx) kw.1.1 kw.1.2 hk
 |str s=>
  rw[ct]at h
  obtain⟨hc,h2⟩:=aA h
  have hs:sz=1:=by simpa using hc
  subst hs
  refine⟨_,h2,fun M' N ρ I a w hW hU hN=> ?_⟩
  have r1:=ir (ct ▸ ax hU x hx)
  rw[r1]
  obtain⟨h1,h2,h3⟩:=GB (P:=P) (ρ:=ρ) (L:=lens M') (I:=I) (w:=w) (N:=N) (s:=s) (hks ⟨s,ct⟩)
  exact⟨_,by simpa using h1,h2,by simpa using h3⟩
 |_=>rw[ct]at h; exact h.elim
end Go.AM
namespace Go.AM
open Go.RowKit
variable {P:Program} {T:TT} {X:cE} {o:Oper} {F:bh} {M:bA}
theorem yF{ρ:Place}{I:Nat->Prop}{w:World}{N:Nat->Prop}{M:bA}(hW:db X ρ I M N w){n:Nat}{b:bD}(hb:M n=some b)(hmp:b.mp=none){g cap:Nat}(hρ:ρ n=some (g,cap)){xs:List (List AV)}{news:List Value}
  (hx:er ρ (lens M) I w N b.sz xs news) (hroom:b.es.length+xs.length<=cap):
  (∀j,j<news.length->(w.cell? ⟨g,0+b.es.length*b.sz+j,none⟩).isSome=true)/\(∀j,j<news.length->w.frozen? ⟨g,0+b.es.length*b.sz+j,none⟩=false)/\
  iz X M N ρ I w (.aV n (b.es.length+xs.length)) [(n,⟨b.ty,b.sz,b.es++xs,none⟩)] (.slice (some ⟨g,0,none⟩) (b.es.length+xs.length) cap) (w.setCells g (0+b.es.length*b.sz) news):=by
 have B:=hW.bf n b hb
 obtain⟨cs,fr,hg,oc,rq,hown,hlc,nK,hcs,hc⟩:=B.real g cap hρ
 have hg:=hg.cells hmp
 have SY:=bD.dw hmp
 have hfit:b.es.length*b.sz+news.length<=cs.size:=by
  rw[hx.1,hcs,<-Nat.add_mul]; exact Nat.mul_le_mul_right _ hroom
 have oR:∀k,w.cell? ⟨g,k,none⟩=cs[k]? :=fun k=>by simp[World.cell?,hg]
 refine⟨fun j hj=>by rw[oR,Nat.zero_add,Array.getElem?_eq_getElem (by omega)]; rfl,fun j hj=> ?_,?_⟩
 ·have:=oc (b.es.length*b.sz+j) (by omega)
  simp only[World.frozen?,hg,Nat.zero_add]
  simpa using this
 ·rw[Nat.zero_add]
  obtain⟨cs',h1,h2,h3⟩:=iu g b.ty fr news (b.es.length*b.sz) w cs hg hfit
  have kD:∀b0,M n=some b0->b0=b:=fun b0 h0=>by rw[hb]at h0; exact (Option.some.inj h0).symm
  obtain⟨E,W⟩:=hW.put (w':=w.setCells g (b.es.length*b.sz) news) n ⟨b.ty,b.sz,b.es++xs,none⟩ g cap cs' fr
   (os_setCells _ _ _ _) (iv _ _ _ _) (iZ _ _ _ _) (by rw[size_setCells]; exact Nat.le_refl _) (fun k _ hk=>eY g _ _ _ _ hk) h1 (fun q hq=>oc q (by omega))
   (.inr ⟨cap,hρ,b,hb⟩) (fun b0 h0=>by rw[kD b0 h0,SY]; exact⟨rfl,by simp[bD.ln],fun _=>hρ⟩) (fun _=>⟨b,hb⟩)
   (fun e he=>by
     rcases List.mem_append.1 he with he|he
     ·exact B.even e he
     ·exact hx.2.1 e he)
   (by simpa using hroom) nK (by rw[h2]; exact hcs) (fun i j hi hj=>by
     simp only[List.length_append]at hi
     show ∃u,cs'[i*b.sz+j]? =some u/\_/\aP ρ (lens M) I w N (((b.es++xs).getD i []).getD j .bad) u
     by_cases hl:i<b.es.length
     ·have hlt:=ma (sz:=b.sz) hl hj
      have e:(b.es++xs).getD i []=b.es.getD i []:=by simp[List.getD_eq_getElem?_getD,List.getElem?_append_left hl]
      rw[h3,if_neg (by omega),e]
      exact hc i j hl hj
     ·have hm:b.es.length*b.sz<=i*b.sz:=Nat.mul_le_mul_right _ (by omega)
      obtain⟨u,hu,hr⟩:=hx.2.2 (i - b.es.length) j (by omega) hj
      have hlt:=ma (sz:=b.sz) (show i - b.es.length<xs.length by omega) hj
      have e:(b.es++xs).getD i []=xs.getD (i - b.es.length) []:=by simp[List.getD_eq_getElem?_getD,List.getElem?_append_right (Nat.le_of_not_lt hl)]
      have e1:i*b.sz+j - b.es.length*b.sz=(i - b.es.length)*b.sz+j:=by rw[Nat.sub_mul]; omega
      rw[h3,if_pos (by rw[hx.1]; omega),e,e1]
      exact⟨u,hu,hr⟩)
  refine⟨iW ρ n (g,cap),I,E,by rw[bU]; exact W,?_⟩
  refine kW (sz:=b.sz) (.inr ⟨_,List.mem_singleton.2 rfl⟩) ?_ (by simp[iW])
  show lens (dc M n _) n=_
  rw[cY,if_pos rfl]; simp[bD.ln]
theorem rz(z:Array Value)(n:Nat):(Builtin.zeroCells z n).size=n*z.size:=by simp[Builtin.zeroCells]
theorem kF{ρ:Place}{I:Nat->Prop}{w:World}{N:Nat->Prop}{M:bA}(hW:db X ρ I M N w){n e sz:Nat}{oT xs:List (List AV)}{olds news:List Value}{z:Value}
  (kD:N n->∃b0,M n=some b0) (hold:∀b0,M n=some b0->b0.sz=sz/\b0.es=oT/\b0.mp=none) (hxs:0<xs.length)
  (ho:er ρ (lens M) I w N sz oT olds) (hx:er ρ (lens M) I w N sz xs news) (hz:z.cells.size=sz) {old:Nat} (iL:oT.length+xs.length<=iJ):
  iz X M N ρ I w (.aV n (oT.length+xs.length)) [(n,⟨e,sz,oT++xs,none⟩)] (.slice (some ⟨w.heap.size,0,none⟩) (oT.length+xs.length) (grownCap w (oT.length+xs.length) old e))
   (w.drew.alloc (.cells ((olds++news).toArray++Builtin.zeroCells z.cells (grownCap w (oT.length+xs.length) old e - (oT.length+xs.length))) e)):=by
 have hge:=grownCap_ge w (oT.length+xs.length) old e
 have nK:=grownCap_le_maxLen w (oT.length+xs.length) old e (by simp only[maxLen,iJ]at *; omega)
 have hall:=ho.append hx
 have hlen:(olds++news).length=(oT.length+xs.length)*sz:=by rw[hall.1,List.length_append]
 obtain⟨E,W⟩:=hW.put (w':=w.drew.alloc (.cells ((olds++news).toArray++Builtin.zeroCells z.cells (grownCap w (oT.length+xs.length) old e - (oT.length+xs.length))) e)) n ⟨e,sz,oT++xs,none⟩ w.heap.size (grownCap w (oT.length+xs.length) old e) _ (0,0)
  rfl rfl rfl (by simp) (fun k hk _=>Below.heap_alloc w.drew _ k hk) (heap_alloc_new w.drew _) (fun o _ h=>by omega)
  (.inl (Nat.le_refl _)) (fun b0 h0=>by
    obtain⟨h1,h2,hm⟩:=hold b0 h0
    have hb:=bD.dw hm
    refine⟨h1,by rw[hb,h2]; simp[bD.ln],fun h=> ?_⟩
    rw[hb,h2]at h
    simp[bD.ln]at h
    have:=List.length_pos_iff.1 hxs
    exact (this h).elim) kD hall.2.1 (by simpa using hge) nK
  (by
    simp only[Array.size_append,List.size_toArray,rz,hz,hlen,<-Nat.add_mul]
    congr 1
    omega)
  (fun i j hi hj=>by
    obtain⟨u,hu,hr⟩:=hall.2.2 i j hi hj
    refine⟨u,?_,hr⟩
    have hlt:=ma (sz:=sz) hi hj
    rw[List.length_append]at hlt
    rw[Array.getElem?_append_left (by simp only[List.size_toArray]; omega)]
    simpa using hu)
 refine⟨_,I,E,by rw[bU]; exact W,?_⟩
 refine kW (sz:=sz) (.inr ⟨_,List.mem_singleton.2 rfl⟩) ?_ (by simp[iW])
 show lens (dc M n _) n=_
 rw[cY,if_pos rfl]; simp[bD.ln]
theorem mL{M:bA}{n:Nat}{b:bD}(h:M n=some b):dc M n b=M:=by
 funext m; unfold dc; split
 ·subst_vars; exact h.symm
 ·rfl
theorem db.eW{ρ:Place}{I:Nat->Prop}{w:World}{N:Nat->Prop}{M:bA}(hW:db X ρ I M N w){n:Nat}(hn:¬N n)(e sz:Nat):
  oK N ρ (lens M) I w (fun m=>if m=n then none else ρ m) (lens (dc M n ⟨e,sz,[],none⟩)) I w/\db X (fun m=>if m=n then none else ρ m) I (dc M n ⟨e,sz,[],none⟩) (AN N n) w:=by
 have hne:∀m b,M m=some b->m≠n:=fun m b h e'=>hn (e' ▸ (hW.bf m b h).lt)
 have E:oK N ρ (lens M) I w (fun m=>if m=n then none else ρ m) (lens (dc M n ⟨e,sz,[],none⟩)) I w:=by
  refine⟨fun m len s hm _ _=> ?_,fun m len s hm h=> ?_,fun _ h=>h,fun _ _=>rfl⟩
  ·have:m≠n:=fun e'=>hn (e' ▸ hm)
   simp[this]
  ·have:m≠n:=fun e'=>hn (e' ▸ hm)
   rw[cY,if_neg this]at h
   exact⟨len,h,Nat.le_refl _⟩
 refine⟨E,fun m b hm=> ?_,fun m k b b' g c c' hm hk h1 h2=> ?_,hW.rp,hW.lt,hW.old,hW.keeps,fun m hm=> .inr (hW.pn m hm),hW.JF,hW.mH E⟩
 ·by_cases hmn:m=n
  ·subst hmn
   simp[dc]at hm
   subst hm
   exact⟨.inl rfl,by simp,fun _=>rfl,fun g cap h=>by simp at h,fun _ _ _ _ _ _ h=>by cases h⟩
  ·simp only[dc,if_neg hmn]at hm
   have B:=hW.bf m b hm
   refine⟨.inr B.lt,B.even,fun h=>B.eW (by simpa[hmn]using h),fun g cap h=> ?_,fun k ka va r sn la hb=>by obtain⟨g,cap,h1,h2⟩:=B.iter k ka va r sn la hb; exact⟨g,cap,by simpa[hmn]using h1,h2⟩⟩
   obtain⟨cs,fr,hc1,DV,kw,si,Cz,AO,DW,DX⟩:=B.real g cap (by simpa[hmn]using h)
   refine⟨cs,fr,hc1,DV,kw,si,Cz,AO,DW,fun i j hi hj=> ?_⟩
   obtain⟨u,hu,pS,hr⟩:=DX i j hi hj
   exact⟨u,hu,pS,(hr.yr E (fun _ h=>h)).wide (fun _ h=> .inr h)⟩
 ·by_cases hmn:m=n
  ·simp[hmn]at h1
  ·by_cases hkn:k=n
   ·simp[hkn]at h2
   ·simp only[dc,if_neg hmn,if_neg hkn]at hm hk h1 h2
    exact hW.inj m k b b' g c c' hm hk h1 h2
theorem dW{a:Act}{w:World}{s x:Operand}{t t':Nat}(ho:o.op= .call {callee:= .builtin .append,args:= #[s,x],argTypes:= #[t,t']}):
  (execOp a.eval o).run P w=((Builtin.append_ #[t,t'] o.type #[a.eval s,a.eval x]).run P w).andThen fun v w'=> .ok (.value v) w':=by
 simp[execOp,ho,resolve,invoke,builtin]
theorem qJ(hT:dD P T){s x:Operand}{t t' nx:Nat}{Ml:Mem}{K:AV->Mem->Nat->Prop}(hM:M=ab Ml)(ho:o.op= .call {callee:= .builtin .append,args:= #[s,x],argTypes:= #[t,t']})
  (hok:∀e,T.d t= .slice e->(T.d e).ok=true/\bX (T.z e)=true/\(cells (T.z e)).length=T.s e) (ZZ:(∃q,ev F x= .str q)->T.d t'= .str) (S4:(¬ ∃q,ev F x= .str q)->∃e,T.d t'= .slice e)
  (h:rL T t (ev F s) (ev F x) ⟨F,Ml,nx⟩ K):
  ∃av n b nw bo,bT P X o F M av [(n,b)] nw/\K av (gZ Ml n b) bo/\((nw=[nx]/\bo=nx+1/\n=nx)\/(bo=nx/\nw=[]/\n ∈ (ev F s).names)):=by
 have hs:s ∈ o.op.operands.toList:=by simp[ho,Op.operands,Call.operands]
 have hx:x ∈ o.op.operands.toList:=by simp[ho,Op.operands,Call.operands]
 unfold rL at h
 cases ht:T.d t with
 |slice e=>
  rw[ht]at h
  simp only at h
  obtain⟨D,it,z0,hD,hf,_⟩:=hT t (by rw[ht]; simp)
  have iG:=cq ht hf
  subst iG
  obtain⟨Od,oS,hcl⟩:=hok e ht
  obtain⟨_,ie,z,_,_,hie,mK,hby,hz,ky⟩:=hT e (TD.ee Od)
  have hzs:z.cells.size=T.s e:=by
   have:=(bB.fG (ρ:=fun _=>none) (L:=fun _=>none) (I:=fun _=>False) (w:=default) (N:=cW) (gz _ _ _ _ _ z) (by rw[<-ky]; exact oS)).1
   rw[this,<-ky,hcl]
  have vB:((∃e,P.underlying t'=some (.slice e))\/ P.underlying t'=some .string)/\((∃q,ev F x= .str q)->P.underlying t'=some .string)/\((¬ ∃q,ev F x= .str q)->∃e,P.underlying t'=some (.slice e)):=by
   by_cases hq:∃q,ev F x= .str q
   ·have h1:=ZZ hq
    obtain⟨D,_,_,S5,Z0,_⟩:=hT t' (by rw[h1]; simp)
    have:=gD h1 Z0
    subst this
    exact⟨.inr S5,fun _=>S5,fun h=>(h hq).elim⟩
   ·obtain⟨e',h1⟩:=S4 hq
    obtain⟨D,_,_,S5,Z0,_⟩:=hT t' (by rw[h1]; simp)
    have:=cq h1 Z0
    subst this
    exact⟨.inl ⟨_,S5⟩,fun h=>(hq h).elim,fun _=>⟨_,S5⟩⟩
  have hfit:∀need old,old<need->need<=iJ->Builtin.nextslicecap need old*ie.bytes<=281474976710656:=fun need old h1 h2=>by
   refine growslice_fits h1 ?_
   calc need*ie.bytes<=iJ*131072:=Nat.mul_le_mul h2 hby
    _=140737488355328:=by simp[iJ]
  cases hss:ev F s with
  |aV n len=>
   rw[hss]at h
   simp only[alive]at h
   cases hb:ab Ml n with
   |none=>rw[hb]at h; exact h.elim
   |some b=>
    rw[hb]at h
    obtain⟨hc1,hmp,h2⟩:=aA h
    obtain⟨kw,h3⟩:=aA h2
    have hl:b.es.length=len:=(bD.dw hmp).symm.trans (by simpa using hc1)
    simp only[Bool.and_eq_true,beq_iff_eq]at kw
    obtain⟨hsz,A6⟩:=kw
    obtain⟨xs,⟨iL,hk⟩,hsrc⟩:=kX (X:=X) (o:=o) hT hM hx vB.1 vB.2.1 vB.2.2 h3
    obtain⟨sl,fq,fF⟩:=bE (F:=F) s hs (n:=n) (by rw[hss]; simp[AV.names])
    refine⟨_,n,_,[],nx,?_,hk,.inr ⟨rfl,rfl,by simp[AV.names]⟩⟩
    refine⟨fun p hp=> .inr ⟨sl,fq,by simp at hp; rw[hp]; exact fF⟩,fun M' N ρ I a w hW hU hN _=> ?_⟩
    have cL:M' n=some b:=(hN sl fq n fF).trans (by rw[hM]; exact hb)
    have ej:lens M' n=some (b.es.length,b.sz):=by rw[aC]; exact⟨b,cL,bD.dw hmp,rfl⟩
    obtain⟨vs,hS,hL,-⟩:=hsrc M' N ρ I a w hW hU hN
    have r1:=ax hU s hs
    rw[hss]at r1
    subst hl
    obtain⟨hn,h2⟩:=jQ r1 ej
    unfold bZ
    rw[dW ho]
    rw[<-hsz]at hL hS
    have xd:Src P ie.size t' (a.eval x) xs.length vs w:=by rw[mK,<-hsz]; exact hS
    rcases h2 with⟨h0,q,hv⟩|⟨g,cap,hρ,hv⟩
    ·have hB:=hW.bf n b cL
     have he:b.es=[]:=hB.eW h0
     rw[hv]
     by_cases hx0:xs.length=0
     ·have hxs:xs=[]:=List.eq_nil_of_length_eq_zero hx0
      have hvs:vs=[]:=List.eq_nil_of_length_eq_zero (by have:=hL.1; rw[hx0]at this; simpa using this)
      subst hxs; subst hvs
      have hrun:=run_append_nothing (P:=P) w t t' o.type e ie hD hie q 0 0 (Nat.le_refl _) (a.eval x) (by simpa using xd)
      rw[hrun]
      refine⟨ρ,I,?_,?_,?_⟩
      ·show oK N ρ (lens M') I w ρ (lens (dc M' n _)) I w
       have:(⟨b.ty,b.sz,b.es++ [],none⟩:bD)=b:=by have:=hmp; cases b; simp_all
       rw[this,mL cL]; exact oK.refl _ _ _ _ _
      ·show db X ρ I (dc M' n _) _ w
       have:(⟨b.ty,b.sz,b.es++ [],none⟩:bD)=b:=by have:=hmp; cases b; simp_all
       rw[this,mL cL]
       have JV:gV N [(n,b)]=N:=by
        rw[bU]; funext m; simp only[AN,eq_iff_iff]
        exact⟨fun h=>h.elim (fun e=>e ▸ hn) id,.inr⟩
       rw[bU]at JV ⊢
       rw[JV]; exact hW
      ·refine .aV n _ _ (.inl hn) rfl fun l AU og=> ?_
       have:(⟨b.ty,b.sz,b.es++ [],none⟩:bD)=b:=by have:=hmp; cases b; simp_all
       rw[this]at og
       change lens (dc M' n b) n=_ at og
       rw[cY,if_pos rfl,bD.dw hmp]at og
       simp at og
       exact⟨by simp; omega,fun _=> .inl ⟨h0,q,rfl⟩⟩
     ·have Oe:(Builtin.firstCells ie.size 0 (.slice q 0 0)).run P w.drew= .ok #[] w.drew:=by
       cases q with
       |none=>exact run_firstCells_none w.drew ie.size 0 0 0
       |some a=>exact run_firstCells_some w.drew ie.size 0 a 0 0 [] (by simp) (fun j v hv=>by simp at hv)
      have hrun:=run_append_grow_src (P:=P) w t t' o.type e ie z hD hie hz q 0 0 [] Oe (a.eval x) xs.length vs xd (by omega) (by rw[he]at iL; simp[iJ]at iL ⊢; omega) (hfit _ _ (by omega) (by rw[he]at iL; simpa using iL))
      rw[hrun]
      have iA:=kF (X:=X) (e:=e) (olds:=[]) (old:=0) (z:=z) hW (fun _=>⟨b,cL⟩) (fun b0 h0=>by rw[cL]at h0; cases h0; exact⟨rfl,he,hmp⟩) (by omega) ⟨by simp,by simp,fun i j hi=>by simp at hi⟩ hL (by rw[hzs,hsz]) (by rw[he]at iL; simpa using iL)
      have e1:b.es.length+xs.length=([]:List (List AV)).length+xs.length:=by rw[he]
      have e2:(⟨b.ty,b.sz,b.es++xs,none⟩:bD)=⟨e,b.sz,[]++xs,none⟩:=by rw[he,A6]
      rw[e1,e2]
      exact iA
    ·rw[hv]
     by_cases hroom:b.es.length+xs.length<=cap
     ·obtain⟨g1,g2,g3⟩:=yF hW cL hmp hρ hL hroom
      have hrun:=run_append_room_src (P:=P) w t t' o.type e ie hD hie g 0 b.es.length cap (a.eval x) xs.length vs xd hroom (by rw[mK,<-hsz]; exact g1) (by rw[mK,<-hsz]; exact g2)
      rw[hrun,mK,<-hsz]
      exact g3
     ·have hB:=hW.bf n b cL
      obtain⟨olds,S6,Z'⟩:=hB.list hmp hρ
      have hfc:(Builtin.firstCells ie.size b.es.length (.slice (some ⟨g,0,none⟩) b.es.length cap)).run P w.drew= .ok olds.toArray w.drew:=
       run_firstCells_some (P:=P) w.drew ie.size b.es.length _ _ _ _ (by rw[mK,<-hsz]; exact S6.1) (fun k u hu=>by rw[cz,Nat.zero_add]; exact Z' k u hu)
      have hrun:=run_append_grow_src (P:=P) w t t' o.type e ie z hD hie hz _ b.es.length cap olds hfc (a.eval x) xs.length vs xd (by omega) (by simp[iJ]at iL ⊢; omega) (hfit _ _ (by omega) iL)
      rw[hrun]
      have hcap:b.es.length<=cap:=by obtain⟨_,_,_,_,_,_,hh,_⟩:=hB.real g cap hρ; exact hh
      have iA:=kF (X:=X) (e:=e) (old:=cap) (z:=z) hW (fun _=>⟨b,cL⟩) (fun b0 h0=>by rw[cL]at h0; cases h0; exact⟨rfl,rfl,hmp⟩) (by omega) S6 hL (by rw[hzs,hsz]) iL
      rw[<-A6]at iA ⊢
      exact iA
  |ai=>
   rw[hss]at h
   obtain⟨xs,⟨iL,hk⟩,hsrc⟩:=kX (X:=X) (o:=o) hT hM hx vB.1 vB.2.1 vB.2.2 h
   refine⟨_,nx,_,[nx],nx+1,?_,hk,.inl ⟨rfl,rfl,rfl⟩⟩
   refine⟨fun p hp=> .inl (by simp at hp; simp[hp]),fun M' N ρ I a w hW hU hN hF=> ?_⟩
   have hn:¬N nx:=hF nx (by simp)
   obtain⟨vs,hS,hL,-⟩:=hsrc M' N ρ I a w hW hU hN
   have r1:=ax hU s hs
   rw[hss]at r1
   generalize hv:a.eval s=v at r1
   cases r1
   unfold bZ
   rw[dW ho,hv]
   have xd:Src P ie.size t' (a.eval x) xs.length vs w:=by rw[mK]; exact hS
   by_cases hx0:xs.length=0
   ·have hxs:xs=[]:=List.eq_nil_of_length_eq_zero hx0
    have hvs:vs=[]:=List.eq_nil_of_length_eq_zero (by have:=hL.1; rw[hx0]at this; simpa using this)
    subst hxs; subst hvs
    have hrun:=run_append_nothing (P:=P) w t t' o.type e ie hD hie none 0 0 (Nat.le_refl _) (a.eval x) (by simpa using xd)
    rw[hrun]
    obtain⟨E,W⟩:=hW.eW hn e (T.s e)
    refine⟨_,I,E,by rw[bU]; exact W,?_⟩
    refine .aV nx _ _ (.inr ⟨_,List.mem_singleton.2 rfl⟩) rfl fun l AU og=> ?_
    change lens (dc M' nx _) nx=_ at og
    rw[cY,if_pos rfl]at og
    simp[bD.ln]at og
    exact⟨by simp,fun _=> .inl ⟨by simp,none,rfl⟩⟩
   ·have hrun:=run_append_grow_src (P:=P) w t t' o.type e ie z hD hie hz none 0 0 [] (run_firstCells_none w.drew ie.size 0 0 0) (a.eval x) xs.length vs xd (by omega) (by simp[iJ]at iL ⊢; omega) (hfit _ _ (by omega) (by simpa using iL))
    rw[hrun]
    have iA:=kF (X:=X) (n:=nx) (e:=e) (olds:=[]) (oT:=[]) (old:=0) (z:=z) hW (fun h=>(hn h).elim) (fun b0 h0=>(hn (hW.bf nx b0 h0).lt).elim) (by omega) ⟨by simp,by simp,fun i j hi=>by simp at hi⟩ hL hzs (by simpa using iL)
    have e1:xs.length=([]:List (List AV)).length+xs.length:=by simp
    have e2:(⟨e,T.s e,xs,none⟩:bD)=⟨e,T.s e,[]++xs,none⟩:=by simp
    rw[e2]
    show iz X M' N ρ I w (.aV nx xs.length) _ _ _
    rw[e1]
    simpa using iA
  |_=>rw[hss]at h; exact h.elim
 |_=>rw[ht]at h; exact h.elim
end Go.AM
namespace Go.AM
open Go.RowKit
variable {P:Program} {T:TT} {X:cE} {o:Oper} {F:bh} {M:bA}
theorem jp{a:Act}{w:World}{b:Builtin}{args:Array Operand}{ts:Array TypeId}(ho:o.op= .call {callee:= .builtin b,args:=args,argTypes:=ts}):
  (execOp a.eval o).run P w=(builtin b ts o.type (args.map fun| .const _=>true|_=>false) (args.map a.eval)).run P w:=by
 simp only[execOp,ho,resolve,invoke,Sem.run_bind,Sem.run_pure,Result.andThen_ok]
 rfl
theorem kY{n:Int}{args:Array Operand}{ts:Array TypeId}(ho:o.op= .call {callee:= .builtin .len,args:=args,argTypes:=ts})
  (h:∀M' N ρ I (a:Act) w,db X ρ I M' N w->(∀s ∈ dC o.op,aP ρ (lens M') I w N (look F s) (a.tmps.getD s undef))->(∀s ∈ dC o.op,∀n ∈ (look F s).names,M' n=M n)->(Builtin.len_ ts o.type (args.map a.eval)).run P w= .ok (.int .i64 n) w):
  bT P X o F M (.int .i64 n) [] []:=by
 refine aH fun M' N ρ I a w hW hU hN=>⟨.int .i64 n,?_,.int _ _⟩
 rw[jp ho]
 simp[builtin,h M' N ρ I a w hW hU hN]
theorem sB(hT:dD P T){x:Operand}{t:Nat}{K:AV->Prop}{Ml:Mem}(hM:M=ab Ml)(ho:o.op= .call {callee:= .builtin .len,args:= #[x],argTypes:= #[t]})
  (h:match T.d t with
    | .arr n _=>K (.int .i64 n)
    | .slice _=>(match ev F x with
      | .aD _ es=>K (.int .i64 es.length)
      | .aV n len=>alive Ml n len fun _=>K (.int .i64 len)
      | .eD n len _ _ cr=>alive Ml n len fun _=>K (.int .i64 cr)
      | .ai=>K (.int .i64 0)
      |_=>False)
    | .str=>(match ev F x with
      | .str s=>K (.int .i64 s.length)
      |_=>False)
    |_=>False):∃av,bT P X o F M av [] []/\K av:=by
 have hx:x ∈ o.op.operands.toList:=by simp[ho,Op.operands,Call.operands]
 cases ht:T.d t with
 |arr n e=>
  rw[ht]at h
  obtain⟨D,it,z0,hD,hf,_⟩:=hT t (by rw[ht]; simp)
  have iG:=gC ht hf
  subst iG
  refine⟨_,kY ho fun M' N ρ I a w hW hU hN=> ?_,h⟩
  simp[Builtin.len_,run_underlying hD,goInt]
 |str=>
  rw[ht]at h
  obtain⟨D,it,z0,hD,hf,_⟩:=hT t (by rw[ht]; simp)
  have iG:=gD ht hf
  subst iG
  cases ct:ev F x with
  |str s=>
   rw[ct]at h
   refine⟨_,kY ho fun M' N ρ I a w hW hU hN=> ?_,h⟩
   have r1:=ir (ct ▸ ax hU x hx)
   have e:(⟨s.toArray⟩:ByteArray).size=s.length:=rfl
   simp[Builtin.len_,run_underlying hD,goInt,r1,e]
  |_=>rw[ct]at h; exact h.elim
 |slice e=>
  rw[ht]at h
  obtain⟨D,it,z0,hD,hf,_⟩:=hT t (by rw[ht]; simp)
  have iG:=cq ht hf
  subst iG
  have go:∀n:Nat,(∀M' N ρ I (a:Act) w,db X ρ I M' N w->(∀s ∈ dC o.op,aP ρ (lens M') I w N (look F s) (a.tmps.getD s undef))->(∀s ∈ dC o.op,∀n ∈ (look F s).names,M' n=M n)->∃ad cap,a.eval x= .slice ad n cap)->
    bT P X o F M (.int .i64 n) [] []:=by
   intro n hh
   refine kY ho fun M' N ρ I a w hW hU hN=> ?_
   obtain⟨ad,cap,hv⟩:=hh M' N ρ I a w hW hU hN
   simp[Builtin.len_,run_underlying hD,goInt,hv]
  cases ct:ev F x with
  |aD sz es=>
   rw[ct]at h
   refine⟨_,go es.length fun M' N ρ I a w hW hU hN=> ?_,h⟩
   obtain⟨ad,cap,hv,_⟩:=rN (ct ▸ ax hU x hx)
   exact⟨ad,cap,hv⟩
  |ai=>
   rw[ct]at h
   refine⟨_,go 0 fun M' N ρ I a w hW hU hN=> ?_,h⟩
   have r1:=ax hU x hx
   rw[ct]at r1
   generalize hv:a.eval x=v at r1
   cases r1
   exact⟨none,0,rfl⟩
  |aV n len=>
   rw[ct]at h
   simp only[alive]at h
   cases hb:ab Ml n with
   |none=>rw[hb]at h; exact h.elim
   |some b=>
    rw[hb]at h
    obtain⟨hc1,hmp,h2⟩:=aA h
    have hl:b.es.length=len:=(bD.dw hmp).symm.trans (by simpa using hc1)
    refine⟨_,go len fun M' N ρ I a w hW hU hN=> ?_,h2⟩
    obtain⟨sl,fq,fF⟩:=bE (F:=F) x hx (n:=n) (by rw[ct]; simp[AV.names])
    have cL:M' n=some b:=(hN sl fq n fF).trans (by rw[hM]; exact hb)
    have ej:lens M' n=some (len,b.sz):=by rw[aC]; exact⟨b,cL,(bD.dw hmp).trans hl,rfl⟩
    have r1:=ax hU x hx
    rw[ct]at r1
    obtain⟨_,⟨h0,q,hv⟩|⟨g,cap,hρ,hv⟩⟩:=jQ r1 ej
    ·have:=(hW.bf n b cL).eW h0
     rw[this]at hl
     simp at hl
     subst hl
     exact⟨_,_,hv⟩
    ·exact⟨_,_,hv⟩
  |eD n len i off cr=>
   rw[ct]at h
   simp only[alive]at h
   cases hb:ab Ml n with
   |none=>rw[hb]at h; exact h.elim
   |some b=>
    rw[hb]at h
    obtain⟨hc1,hmp,h2⟩:=aA h
    have hl:b.es.length=len:=(bD.dw hmp).symm.trans (by simpa using hc1)
    refine⟨_,go cr fun M' N ρ I a w hW hU hN=> ?_,h2⟩
    obtain⟨sl,fq,fF⟩:=bE (F:=F) x hx (n:=n) (by rw[ct]; simp[AV.names])
    have cL:M' n=some b:=(hN sl fq n fF).trans (by rw[hM]; exact hb)
    have ej:lens M' n=some (len,b.sz):=by rw[aC]; exact⟨b,cL,(bD.dw hmp).trans hl,rfl⟩
    have r1:=ax hU x hx
    rw[ct]at r1
    obtain⟨_,g,cap,c,hρ,hv,_⟩:=mJ r1 ej
    exact⟨_,_,hv⟩
  |_=>rw[ct]at h; exact h.elim
 |_=>rw[ht]at h; exact h.elim
theorem qK{k:IntKind}{w:World}{ρ:Place}{L:bi}{I:Nat->Prop}{N:Nat->Prop}:∀(as:List AV)(vs:List Value)(a:Int),dB ρ L I w N as vs->sj k a as≠ .bad->
  ∃n,sj k a as= .int k n/\(vs.foldlM Builtin.min2 (.int k a)).run P w= .ok (.int k n) w
 |[],vs,a,h,_=>by
  have:vs=[]:=List.eq_nil_of_length_eq_zero (by simpa using h.1)
  subst this
  exact⟨a,rfl,rfl⟩
 |x::r,vs,a,h,hb=>by
  cases vs with
  |nil=>simp[dB]at h
  |cons v vs=>
   have h0:=h.2 0 (by simp)
   simp at h0
   cases x with
   |int k' b=>
    have hv:=bN h0
    subst hv
    have hr:dB ρ L I w N r vs:=⟨by simpa using h.1,fun j hj=>by simpa using h.2 (j+1) (by simpa using hj)⟩
    obtain⟨n,h1,h2⟩:=qK r vs (min a b) hr hb
    refine⟨n,h1,?_⟩
    have e:(if b<a then b else a)=min a b:=by omega
    simp only[List.foldlM_cons,Builtin.min2,Sem.run_bind,Sem.run_pure,Result.andThen_ok,e]
    exact h2
   |_=>exact (hb rfl).elim
theorem qL{k:IntKind}{w:World}{ρ:Place}{L:bi}{I:Nat->Prop}{N:Nat->Prop}:∀(as:List AV)(vs:List Value)(a:Int),dB ρ L I w N as vs->sk k a as≠ .bad->
  ∃n,sk k a as= .int k n/\(vs.foldlM Builtin.max2 (.int k a)).run P w= .ok (.int k n) w
 |[],vs,a,h,_=>by
  have:vs=[]:=List.eq_nil_of_length_eq_zero (by simpa using h.1)
  subst this
  exact⟨a,rfl,rfl⟩
 |x::r,vs,a,h,hb=>by
  cases vs with
  |nil=>simp[dB]at h
  |cons v vs=>
   have h0:=h.2 0 (by simp)
   simp at h0
   cases x with
   |int k' b=>
    have hv:=bN h0
    subst hv
    have hr:dB ρ L I w N r vs:=⟨by simpa using h.1,fun j hj=>by simpa using h.2 (j+1) (by simpa using hj)⟩
    obtain⟨n,h1,h2⟩:=qL r vs (max a b) hr hb
    refine⟨n,h1,?_⟩
    have e:(if b>a then b else a)=max a b:=by omega
    simp only[List.foldlM_cons,Builtin.max2,Sem.run_bind,Sem.run_pure,Result.andThen_ok,e]
    exact h2
   |_=>exact (hb rfl).elim
theorem qM{mx:Bool}{args:Array Operand}{ts:Array TypeId}(ho:o.op= .call {callee:= .builtin (if mx then .max else .min),args:=args,argTypes:=ts})
  (h:(if mx then yA (oM F args.toList)else yz (oM F args.toList))≠ .bad):bT P X o F M (if mx then yA (oM F args.toList)else yz (oM F args.toList)) [] []:=by
 refine aH fun M' N ρ I a w hW hU hN=> ?_
 have hR:=jo (F:=F) (ρ:=ρ) (L:=lens M') (I:=I) (w:=w) (N:=N) (a:=a) args.toList (fun x hx=>ax hU x (by simpa[ho,Op.operands,Call.operands]using hx))
 rw[jp ho]
 cases hl:args.toList with
 |nil=>cases mx<;>simp[hl,oM,yz,yA]at h
 |cons x r=>
  rw[hl]at h hR
  simp only[oM,List.map_cons]at h hR ⊢
  have h0:=hR.2 0 (by simp)
  simp at h0
  cases hx:ev F x with
  |int k n0=>
   rw[hx]at h h0
   have hv:=bN h0
   have hr:dB ρ (lens M') I w N (oM F r) (r.map a.eval):=⟨by simpa using hR.1,fun j hj=>by simpa using hR.2 (j+1) (by simpa using hj)⟩
   have ha:(args.map a.eval).toList= .int k n0::r.map a.eval:=by rw[Array.toList_map,hl,List.map_cons,hv]
   cases mx with
   |true=>
    obtain⟨n,h1,h2⟩:=qL (P:=P) _ _ n0 hr (by simpa[yA]using h)
    refine⟨.int k n,?_,by simp only[if_true,yA,h1]; exact .int _ _⟩
    simp only[if_true,builtin,Builtin.max_,ha,h2,Sem.run_bind,Result.andThen_ok,Sem.run_pure]
   |false=>
    obtain⟨n,h1,h2⟩:=qK (P:=P) _ _ n0 hr (by simpa[yz]using h)
    refine⟨.int k n,?_,by simp only[Bool.false_eq_true,if_false,yz,h1]; exact .int _ _⟩
    simp only[Bool.false_eq_true,if_false,builtin,Builtin.min_,ha,h2,Sem.run_bind,Result.andThen_ok,Sem.run_pure]
  |_=>rw[hx]at h; cases mx<;>simp[yz,yA]at h
theorem ke:∀a b:List AV,AV.aB (a++b)=AV.aB a++AV.aB b
 |[],b=>rfl
 |x::r,b=>by simp[AV.aB,ke r b]
theorem jq{n:Nat}:∀{l:List Operand},n ∈ AV.aB (oM F l)->∃x ∈ l,n ∈ (ev F x).names
 |[],h=>by simp[oM,AV.aB]at h
 |x::r,h=>by
  simp only[oM,AV.aB,List.mem_append]at h
  rcases h with h|h
  ·exact⟨x,List.mem_cons_self,h⟩
  ·obtain⟨y,hy,hn⟩:=jq h
   exact⟨y,List.mem_cons_of_mem _ hy,hn⟩
theorem dB.append{ρ:Place}{L:bi}{I:Nat->Prop}{w:World}{N:Nat->Prop}{as bs:List AV}{vs us:List Value}(h:dB ρ L I w N as vs)(k:dB ρ L I w N bs us):dB ρ L I w N (as++bs) (vs++us):=by
 refine⟨by simp[h.1,k.1],fun j hj=> ?_⟩
 by_cases hl:j<as.length
 ·have e1:(as++bs).getD j .bad=as.getD j .bad:=by simp[List.getD_eq_getElem?_getD,List.getElem?_append_left hl]
  have e2:(vs++us).getD j default=vs.getD j default:=by simp[List.getD_eq_getElem?_getD,List.getElem?_append_left (show j<vs.length by rw[h.1]; exact hl)]
  rw[e1,e2]; exact h.2 j hl
 ·have e1:(as++bs).getD j .bad=bs.getD (j - as.length) .bad:=by simp[List.getD_eq_getElem?_getD,List.getElem?_append_right (Nat.le_of_not_lt hl)]
  have e2:(vs++us).getD j default=us.getD (j - as.length) default:=by simp[List.getD_eq_getElem?_getD,List.getElem?_append_right (show vs.length<=j by rw[h.1]; omega),h.1]
  rw[e1,e2]; exact k.2 _ (by simp at hj; omega)
theorem vC{f:Operand}{args:Array Operand}{ts:Array TypeId}{g:Nat}{aZ:List AV}{av:AV}{ws:List (Nat × bD)}{nw:List Nat}(ho:o.op= .call {callee:= .value f,args:=args,argTypes:=ts})(hf:ev F f= .ce (.fn g) aZ)
  (hfn:∃fn,P.funcs[g]? =some fn/\(fn.name== "runtime.NumGoroutine")=false/\fn.body.isNone=false) (hc:CA P X g (oM F args.toList++aZ) M av ws nw):bT P X o F M av ws nw:=by
 have hfo:f ∈ o.op.operands.toList:=by simp[ho,Op.operands,Call.operands]
 have hao:∀x ∈ args.toList,x ∈ o.op.operands.toList:=fun x hx=>by
  simp only[ho,Op.operands,Call.operands,Array.toList_append]
  exact List.mem_append_right _ hx
 have hnm:∀n ∈ AV.aB (oM F args.toList++aZ),∃s ∈ dC o.op,n ∈ (look F s).names:=by
  intro n hn
  rw[ke,List.mem_append]at hn
  rcases hn with hn|hn
  ·obtain⟨x,hx,hn⟩:=jq hn
   exact bE x (hao x hx) hn
  ·exact bE f hfo (by rw[hf]; simpa[AV.names]using hn)
 refine⟨fun p hp=>(hc.1 p hp).imp id (hnm p.1),fun M' N ρ I a w hW hU hN hF=> ?_⟩
 have r1:=ax hU f hfo
 rw[hf]at r1
 generalize hv:a.eval f=v at r1
 cases r1 with
 |ce _ _ us hl hr=>
  have hR:=(jo (F:=F) (ρ:=ρ) (L:=lens M') (I:=I) (w:=w) (N:=N) (a:=a) args.toList (fun x hx=>ax hU x (hao x hx))).append (⟨hl,hr⟩:dB ρ (lens M') I w N aZ us)
  have yG:=hc.2 M' N ρ I w _ hW (fun n hn=>by obtain⟨s,hs,fF⟩:=hnm n hn; exact hN s hs n fF) hF hR
  obtain⟨fn,hfn,hname,hbody⟩:=hfn
  unfold bZ
  have hrun:(execOp a.eval o).run P w= .ok (.enter g ((args.toList.map a.eval++us).toArray)) w:=by
   have e:(args.map a.eval)++us.toArray=(args.toList.map a.eval++us).toArray:=by apply Array.ext'; simp
   have sC:¬fn.name= "runtime.NumGoroutine" :=by simpa using hname
   have sD:¬fn.body=none:=by intro h; rw[h]at hbody; simp at hbody
   simp[execOp,ho,resolve,hv,Deferred.ofValue,invoke,callFunc,hfn,sC,sD,e]
  rw[hrun]
  exact⟨rfl,yG⟩
theorem A7{f:Operand}{args:Array Operand}{ts:Array TypeId}{g:Nat}{aZ:List AV}(ho:o.op= .call {callee:= .value f,args:=args,argTypes:=ts})(hf:ev F f= .ce (.fn g) aZ):∀n ∈ AV.aB (oM F args.toList++aZ),∃s ∈ dC o.op,n ∈ (look F s).names:=by
 have hfo:f ∈ o.op.operands.toList:=by simp[ho,Op.operands,Call.operands]
 have hao:∀x ∈ args.toList,x ∈ o.op.operands.toList:=fun x hx=>by
  simp only[ho,Op.operands,Call.operands,Array.toList_append]
  exact List.mem_append_right _ hx
 intro n hn
 rw[ke,List.mem_append]at hn
 rcases hn with hn|hn
 ·obtain⟨x,hx,hn⟩:=jq hn
  exact bE x (hao x hx) hn
 ·exact bE f hfo (by rw[hf]; simpa[AV.names]using hn)
theorem A8{Rx:List Nat}{f:Operand}{args:Array Operand}{ts:Array TypeId}{g:Nat}{aZ:List AV}{av:AV}{ws:List (Nat × bD)}{nw:List Nat}(ho:o.op= .call {callee:= .value f,args:=args,argTypes:=ts})(hf:ev F f= .ce (.fn g) aZ)
  (hfn:∃fn,P.funcs[g]? =some fn/\(fn.name== "runtime.NumGoroutine")=false/\fn.body.isNone=false) {Ry:List Nat} (hc:Nc P X g (oM F args.toList++aZ) Ry M av ws nw) (hy:∀n ∈ Ry,n ∈ Rx) (hx:∀s ∈ dC o.op,∀n ∈ (look F s).names,n ∈ Rx):qz P X o F M Rx av ws nw:=by
 have hfo:f ∈ o.op.operands.toList:=by simp[ho,Op.operands,Call.operands]
 have hao:∀x ∈ args.toList,x ∈ o.op.operands.toList:=fun x hx=>by
  simp only[ho,Op.operands,Call.operands,Array.toList_append]
  exact List.mem_append_right _ hx
 refine⟨fun p hp=>(hc.1 p hp).imp id (fun h=> .inr ⟨hy _ h.1,h.2⟩),.inl hx,fun M' N ρ I a w hW hU hN hF=> ?_⟩
 have r1:=ax hU f hfo
 rw[hf]at r1
 generalize hv:a.eval f=v at r1
 cases r1 with
 |ce _ _ us hl hr=>
  have hR:=(jo (F:=F) (ρ:=ρ) (L:=lens M') (I:=I) (w:=w) (N:=N) (a:=a) args.toList (fun x hx=>ax hU x (hao x hx))).append (⟨hl,hr⟩:dB ρ (lens M') I w N aZ us)
  have yG:=hc.2 M' N ρ I w _ hW (fun n hn=>hN n (hy n hn)) hF hR
  obtain⟨fn,hfn,hname,hbody⟩:=hfn
  unfold bZ
  have hrun:(execOp a.eval o).run P w= .ok (.enter g ((args.toList.map a.eval++us).toArray)) w:=by
   have e:(args.map a.eval)++us.toArray=(args.toList.map a.eval++us).toArray:=by apply Array.ext'; simp
   have sC:¬fn.name= "runtime.NumGoroutine" :=by simpa using hname
   have sD:¬fn.body=none:=by intro h; rw[h]at hbody; simp at hbody
   simp[execOp,ho,resolve,hv,Deferred.ofValue,invoke,callFunc,hfn,sC,sD,e]
  rw[hrun]
  exact⟨rfl,yG⟩
end Go.AM
namespace Go.AM
open Go.RowKit
variable {P:Program} {T:TT} {X:cE}
end Go.AM
namespace Go.AM
open Go.RowKit
variable {P:Program} {T:TT} {X:cE}
theorem yH{a:Act}{d:Option Nat}{v:Value}{F:bh}{av:AV}{i size:Nat}(hs:a.tmps.size=size)(hd:∀x,d=some x->x<size):
  (look (iX F d av) i=av/\(a.put d v).tmps.getD i undef=v)\/(look (iX F d av) i=look F i/\(a.put d v).tmps.getD i undef=a.tmps.getD i undef):=by
 cases d with
 |none=>exact .inr ⟨rfl,rfl⟩
 |some x=>
  by_cases h:i=x
  ·subst h
   left
   have:=hd i rfl
   refine⟨by simp[iX,look],?_⟩
   simp only[Act.put]
   rw[Array.getD_eq_getD_getElem?,Array.getElem?_setIfInBounds_self_of_lt (by omega)]
   rfl
  ·right
   have hb:(i==x)=false:=by simpa using h
   refine⟨by simp[iX,look,hb],?_⟩
   simp only[Act.put]
   rw[Array.getD_eq_getD_getElem?,Array.getElem?_setIfInBounds_ne (by omega),<-Array.getD_eq_getD_getElem?]
theorem yI{o:Oper}{a:Act}{w:World}{M:bA}{N:Nat->Prop}{ρ:Place}{I:Nat->Prop}{av:AV}{ws:List (Nat × bD)}(hy:bZ P X o a M N ρ I w av ws):∀c,o.op≠ .defer c:=by
 intro c ho
 unfold bZ at hy
 simp only[execOp,ho,Sem.run_bind]at hy
 cases hr:(resolve a.eval c o.type).run P w with
 |ok d w1=>rw[hr]at hy; simp at hy
 |halt h w1=>rw[hr]at hy; simp at hy
theorem yJ{o:Oper}{a:Act}{w w':World}{f:Nat}{vs:Array Value}(h:(execOp a.eval o).run P w= .ok (.enter f vs) w'):∀c,o.op≠ .defer c:=by
 intro c ho
 simp only[execOp,ho,Sem.run_bind]at h
 cases hr:(resolve a.eval c o.type).run P w with
 |ok d w1=>rw[hr]at h; simp at h
 |halt e w1=>rw[hr]at h; simp at h
theorem xe{b:Frame}{all:Array Oper}{i:Nat}{rest:List Nat}{k:List Item}{cs:List Frame}{o:Oper}{a:Act}{w:World}{M:bA}{N:Nat->Prop}{ρ:Place}{I:Nat->Prop}{av:AV}{ws:List (Nat × bD)}
  (ho:all[i]? =some o) (hw:Region.wanted o (yielded all a.tmps)=true) (hy:bZ P X o a M N ρ I w av ws):
  ∃v w1,iz X M N ρ I w av ws v w1/\Steps P (lone (b.atR a (.inRegion all (i::rest)::k)) cs w) (lone (b.atR (a.put o.dst v) (.inRegion all rest::k)) cs w1):=by
 have hg:=stepGR_op (P:=P) (b:=b) (k:=k) (cs:=cs) (w:=w) (rest:=rest) ho hw
 rw[Oper.semAt_eq _ _ _ (yI hy)]at hg
 have A9:∀v,(b.atR a (.inRegion all (i::rest)::k)).finish v=b.atR (a.put o.dst v) (.inRegion all rest::k):=by
  intro v; rw[Frame.finish_atR,ho]; rfl
 unfold bZ at hy
 split at hy
 ·rename_i v w' hr
  refine⟨v,w',hy,.one (step_lone_go ?_)⟩
  rw[hg,<-A9]; simp[stepG.apply,hr]
 ·rename_i w' hr
  refine⟨undef,w',hy,.one (step_lone_go ?_)⟩
  rw[hg,<-A9]; simp[stepG.apply,hr]
 ·rename_i f args w' hr
  obtain⟨rfl,hc⟩:=hy
  obtain⟨e,w'',fr,hR,A',_,Ba⟩:=hc (b.atR a (.inRegion all (i::rest)::k)::cs)
  obtain⟨v,rfl,hp⟩:=hR
  have kZ:step P (lone (b.atR a (.inRegion all (i::rest)::k)) cs w')=
    .next (lone (Frame.enter P f args .normal) (b.atR a (.inRegion all (i::rest)::k)::cs) w'):=
   step_lone_go (by rw[hg]; simp[stepG.apply,hr,Frame.atR])
  refine⟨v,w'',hp,.head kZ (A'.trans (.one ?_))⟩
  rw[<-A9]; exact step_leave_returned Ba
 ·exact hy.elim
theorem sE{all:Array Oper}{tmps:Array Value}{j s:Nat}(h:(all[j]?).bind (·.dst)=some s):yielded all tmps j=match tmps[s]? with|some (.bool b)=>some b|_=>none:=by
 unfold yielded; rw[h]; rfl
theorem D8{tmps:Array Value}{s:Nat}{t:Bool}(h:tmps.getD s undef= .bool t):tmps[s]? =some (.bool t):=by
 rw[Array.getD_eq_getD_getElem?]at h
 cases hh:tmps[s]? with
 |none=>rw[hh]at h; simp[undef]at h
 |some v=>rw[hh]at h; simpa using h
section
variable {V:Type}
def ov(g:Nat->Option V)(f:Nat->V):Nat->V:=fun k=>(g k).getD (f k)
def fl(gs:Nat->Nat->Option V)(L:Nat->Prop)[DecidablePred L]:Nat->(Nat->V)->Nat->V
 |0,f=>f
 |m+1,f=>if L m then ov (gs m) (fl gs L m f)else fl gs L m f
theorem jr{gs:Nat->Nat->Option V}{L L':Nat->Prop}[DecidablePred L][DecidablePred L']{f:Nat->V}{k:Nat}:∀{m:Nat},(∀i,i<m->gs i k≠none->(L i↔L' i))->fl gs L m f k=fl gs L' m f k
 |0,_=>rfl
 |m+1,h=>by
  have ih:=jr (gs:=gs) (f:=f) (k:=k) (m:=m) (fun i hi=>h i (by omega))
  simp only[fl]
  cases hg:gs m k with
  |none=>
   have e1:(if L m then ov (gs m) (fl gs L m f)else fl gs L m f) k=fl gs L m f k:=by split<;>simp[ov,hg]
   have e2:(if L' m then ov (gs m) (fl gs L' m f)else fl gs L' m f) k=fl gs L' m f k:=by split<;>simp[ov,hg]
   rw[e1,e2,ih]
  |some v=>
   have hh:=h m (by omega) (by rw[hg]; simp)
   by_cases hl:L m
   ·rw[if_pos hl,if_pos (hh.1 hl)]; simp[ov,hg]
   ·rw[if_neg hl,if_neg (fun h=>hl (hh.2 h))]; exact ih
theorem Bb{gs:Nat->Nat->Option V}{L L':Nat->Prop}[DecidablePred L][DecidablePred L']{f:Nat->V}{k j:Nat}(hL:∀i,L' i↔(i=j\/ L i))(hj:¬L j):∀{m:Nat},j<m->(∀i,i<m->i≠j->gs j k≠none->gs i k≠none->L i->i<j)->
  fl gs L' m f k=(gs j k).getD (fl gs L m f k)
 |0,h,_=>by omega
 |m+1,hm,h=>by
  have hne:∀i,i≠j->(L' i↔L i):=fun i hi=>by rw[hL]; exact⟨fun h=>h.elim (fun e=>(hi e).elim) id,.inr⟩
  simp only[fl]
  by_cases e:j=m
  ·subst e
   have h1:fl gs L' j f k=fl gs L j f k:=jr (fun i hi _=>hne i (by omega))
   rw[if_pos ((hL j).2 (.inl rfl)),if_neg hj]
   simp only[ov,h1]
  ·have ih:=Bb (gs:=gs) (f:=f) (k:=k) hL hj (m:=m) (by omega) (fun i hi=>h i (by omega))
   have hLm:L' m↔L m:=hne m (fun h=>e h.symm)
   by_cases hl:L m
   ·rw[if_pos (hLm.2 hl),if_pos hl]
    simp only[ov]
    cases hg:gs m k with
    |none=>simpa using ih
    |some v=>
     cases hgj:gs j k with
     |none=>simp
     |some u=>
      have:=h m (by omega) (by omega) (by rw[hgj]; simp) (by rw[hg]; simp) hl
      omega
   ·rw[if_neg (fun h=>hl (hLm.1 h)),if_neg hl]; exact ih
end
def Gb(ops:Array Oper)(i j:Nat):Prop:=∃o e,ops[j]? =some o/\e ∈ o.after.toList/\Region.binds .any e=true/\e.on=i
def hQ(ops:Array Oper)(L:Nat->Prop):Prop:=∀i j,Gb ops i j->L j->L i
def iM(ops:Array Oper)(i j:Nat):Prop:=∀L:Nat->Prop,hQ ops L->(∀k,Gb ops k j->L k)->L i
theorem mb:∀(r:List Oper)(i:Nat),sm i r=true->∀k o,r[k]? =some o->∀e ∈ o.after.toList,Region.binds .any e=true->e.on<i+k
 |[],i,_,k,o,h=>by simp at h
 |x::r,i,hb,k,o,h=>by
  simp only[sm,Bool.and_eq_true]at hb
  intro e he Of
  cases k with
  |zero=>
   simp only[List.getElem?_cons_zero,Option.some.injEq]at h
   subst h
   have:=List.all_eq_true.1 hb.1 e he
   simp only[Of,Bool.not_true,Bool.false_or]at this
   rw[Nat.blt_eq]at this
   omega
  |succ k=>
   have:=mb r (i+1) hb.2 k o (by simpa using h) e he Of
   omega
theorem oj{acc:List Nat}{i:Nat}:∀{es:List Edge},(qy acc es).testBit i=true->∃e ∈ es,Region.binds .any e=true/\(e.on=i\/(acc.getD e.on 0).testBit i=true)
 |[],h=>by simp[qy]at h
 |e::r,h=>by
  simp only[qy]at h
  cases hb:Region.binds .any e with
  |true=>
   rw[hb]at h
   simp only[cond_true,Nat.testBit_or,Bool.or_eq_true]at h
   rcases h with (h|h)|h
   ·exact⟨e,List.mem_cons_self,hb,.inl (by simpa[Nat.testBit_two_pow]using h)⟩
   ·exact⟨e,List.mem_cons_self,hb,.inr h⟩
   ·obtain⟨e',h1,h2⟩:=oj h
    exact⟨e',List.mem_cons_of_mem _ h1,h2⟩
  |false=>
   rw[hb]at h
   obtain⟨e',h1,h2⟩:=oj h
   exact⟨e',List.mem_cons_of_mem _ h1,h2⟩
theorem sF{ops:Array Oper}:∀(r:List Oper)(acc:List Nat),r=ops.toList.drop acc.length->(∀k i,(acc.getD k 0).testBit i=true->iM ops i k)->∀k i,((jN r acc).getD k 0).testBit i=true->iM ops i k
 |[],acc,_,h,k,i,hb=>h k i hb
 |o::r,acc,hr,h,k,i,hb=>by
  have ho:ops[acc.length]? =some o:=by
   have:(ops.toList.drop acc.length)[0]? =some o:=by rw[<-hr]; rfl
   simpa using this
  have hr':r=ops.toList.drop (acc.length+1):=by
   have:(o::r).drop 1=(ops.toList.drop acc.length).drop 1:=by rw[hr]
   simpa[List.drop_drop]using this
  refine sF r (acc++ [qy acc o.after.toList]) (by simpa using hr') (fun k i hb=> ?_) k i hb
  by_cases hk:k<acc.length
  ·exact h k i (by simpa[List.getD_eq_getElem?_getD,List.getElem?_append_left hk]using hb)
  ·by_cases hk2:k=acc.length
   ·subst hk2
    have:(qy acc o.after.toList).testBit i=true:=by simpa[List.getD_eq_getElem?_getD]using hb
    obtain⟨e,he,Of,h1|h1⟩:=oj this
    ·exact fun L _ hp=>hp i ⟨o,e,ho,he,Of,h1⟩
    ·exact fun L hc hp=>h e.on i h1 L hc (fun k' hk'=>hc _ _ hk' (hp e.on ⟨o,e,ho,he,Of,rfl⟩))
   ·rw[List.getD_eq_getElem?_getD,List.getElem?_eq_none (by simp; omega)]at hb
    simp at hb
structure Bc where
 F:bh
 M:Mem
 lo:Nat
 run:Bool
 av:AV
 ws:List (Nat × bD)
 nw:List Nat
 W:List Nat
 R:List Nat
 k:Nat
def mM(ops:Array Oper)(o:Oper)(F:bh)(run:Bool):Prop:=
 match o.guard with
 |none=>run=true
 |some (j,want)=>∃s,(ops[j]?).bind (·.dst)=some s/\((run=true/\look F s= .bool want)\/(run=false/\(look F s= .bool (!want)\/ look F s= .aQ [])))
def Bd(log:List gy)(x:gy):Prop:=x ∈ log\/(x.R=[]/\x.W=[]/\x.lo=x.hi)
structure GF(P:Program)(X:cE)(ops:Array Oper)(cx:List gy)(E:Nat->Bc)(j:Nat)(o:Oper):Prop where
 guard:mM ops o (E j).F (E j).run
 p5:(E j).run=true->qz P X o (E j).F (ab (E j).M) (E j).R (E j).av (E j).ws (E j).nw
 wn:∀p ∈ (E j).ws,p.1 ∈ (E j).nw\/ p.1 ∈ (E j).W
 skip:(E j).run=false->(E j).av= .aQ []/\(E j).ws=[]/\(E j).nw=[]
 le:(E j).lo<=(E (j+1)).lo
 nw:∀n ∈ (E j).nw,(E j).lo<=n/\n< (E (j+1)).lo
 F:look (E (j+1)).F=look (iX (E j).F o.dst (E j).av)
 M:ab (E (j+1)).M=ab (dh (E j).M (E j).ws)
 log:(E j).run=true->Bd cx ⟨j,(E j).R,(E j).W,(E j).lo,(E (j+1)).lo,(E j).k⟩
 adr:(E j).run=true->(E j).k=1->nI P X o (E j).F (ab (E j).M) (E j).av/\(E j).ws=[]
 sto:(E j).run=true->(E j).k=2->∀p ∈ (E j).ws,lens (ab (E j).M) p.1=some (p.2.ln,p.2.sz)
 lok:(E j).run=true->(E j).k=3->oP P X o (E j).F (ab (E j).M) (E j).av/\(E j).ws=[]
 JZ:(E j).run=true->(E j).k=4->∀p ∈ (E j).ws,Vw (ab (E j).M p.1)=Vw (some p.2)
theorem yK{log cx:List gy}{i:Nat}{R W:List Nat}{lo hi k:Nat}(h:∀x ∈ Gu i R W lo hi k log,x ∈ cx):Bd cx ⟨i,R,W,lo,hi,k⟩:=by
 unfold Gu at h
 cases hc:(R.isEmpty&&W.isEmpty)&&lo==hi with
 |true=>
  simp only[Bool.and_eq_true,List.isEmpty_iff,beq_iff_eq]at hc
  exact .inr ⟨hc.1.1,hc.1.2,hc.2⟩
 |false=>rw[hc]at h; exact .inl (h _ List.mem_cons_self)
theorem GG{log:List gy}{i:Nat}{R W:List Nat}{lo hi k:Nat}:∀x ∈ log,x ∈ Gu i R W lo hi k log:=by
 intro x hx
 unfold Gu
 cases (R.isEmpty&&W.isEmpty)&&lo==hi
 ·exact List.mem_cons_of_mem _ hx
 ·exact hx
theorem k6{F:bh}{s:Nat}{v:AV}(h:look F s=v):look ((s,v)::F)=look F:=by
 funext i
 by_cases e:i=s
 ·subst e; simp[look,h]
 ·have:(i==s)=false:=by simpa using e
  simp[look,this]
end Go.AM
namespace Go.AM
open Go.RowKit
variable {P:Program} {T:TT} {X:cE}
theorem dX:∀{cs:List AV}{m:Nat},m ∈ AV.aB cs->∃j,j<cs.length/\m ∈ (cs.getD j .bad).names
 |[],_,h=>by simp[AV.aB]at h
 |c::cs,m,h=>by
  simp only[AV.aB,List.mem_append]at h
  rcases h with h|h
  ·exact⟨0,by simp,by simpa using h⟩
  ·obtain⟨j,hj,hm⟩:=dX h
   exact⟨j+1,by simpa using hj,by simpa using hm⟩
theorem mN{ρ:Place}{L:bi}{I:Nat->Prop}{w:World}{N:Nat->Prop}{a:AV}{v:Value}(h:aP ρ L I w N a v):∀m ∈ a.names,N m:=by
 induction h with
 |loc n len i off v hn h1 h=>intro m hm; simp[AV.names]at hm; exact hm ▸ hn
 |aV n len v hn h1 h=>intro m hm; simp[AV.names]at hm; exact hm ▸ hn
 |eD n len i off cr v hn h1 h=>intro m hm; simp[AV.names]at hm; exact hm ▸ hn
 |omap n v hn h1 h=>intro m hm; simp[AV.names]at hm; exact hm ▸ hn
 |rn f aZ vs hl hr ih=>intro m hm; obtain⟨j,hj,hm⟩:=dX (by simpa[AV.names]using hm); exact ih j hj m hm
 |ce f aZ vs hl hr ih=>intro m hm; obtain⟨j,hj,hm⟩:=dX (by simpa[AV.names]using hm); exact ih j hj m hm
 |agg cs vs hl h1 hr ih=>intro m hm; obtain⟨j,hj,hm⟩:=dX (by simpa[AV.names]using hm); exact ih j hj m hm
 |aQ cs vs hl hr ih=>intro m hm; obtain⟨j,hj,hm⟩:=dX (by simpa[AV.names]using hm); exact ih j hj m hm
 |_=>intro m hm; simp[AV.names]at hm
theorem db.nL{ρ:Place}{I:Nat->Prop}{M:bA}{N N':Nat->Prop}{w:World}(W:db X ρ I M N w)(hN:∀m,N m->N' m):db X ρ I M N' w:=by
 refine⟨fun n b hb=> ?_,W.inj,W.rp,W.lt,W.old,W.keeps,fun n hn=>hN n (W.pn n hn),W.JF,W.par⟩
 have B:=W.bf n b hb
 refine⟨hN n B.lt,B.even,B.eW,fun g cap hρ=> ?_,B.iter⟩
 obtain⟨cs,fr,hc1,DV,kw,si,Cz,AO,DW,DX⟩:=B.real g cap hρ
 refine⟨cs,fr,hc1,DV,kw,si,Cz,AO,DW,fun i j hi hj=> ?_⟩
 obtain⟨u,hu,pS,hr⟩:=DX i j hi hj
 exact⟨u,hu,pS,hr.wide hN⟩
def D9:List (Nat × bD)->Nat->Option (Option bD)
 |[],_=>none
 |(n,b)::r,k=>match D9 r k with
  |some x=>some x
  |none=>if k=n then some (some b)else none
theorem xf:∀(ws:List (Nat × bD))(M:bA),dO M ws=ov (D9 ws) M
 |[],M=>by funext k; rfl
 |(n,b)::r,M=>by
  funext k
  simp only[dO,xf r,ov,D9]
  cases hw:D9 r k with
  |some x=>simp
  |none=>by_cases h:k=n<;>simp[dc,h]
theorem CE:∀{ws:List (Nat × bD)}{k:Nat},D9 ws k≠none->∃p ∈ ws,p.1=k
 |[],k,h=>by simp[D9]at h
 |(n,b)::r,k,h=>by
  simp only[D9]at h
  cases hw:D9 r k with
  |some x=>obtain⟨p,h1,h2⟩:=CE (ws:=r) (k:=k) (by rw[hw]; simp); exact⟨p,List.mem_cons_of_mem _ h1,h2⟩
  |none=>
   rw[hw]at h
   by_cases e:k=n
   ·exact⟨_,List.mem_cons_self,e.symm⟩
   ·simp[e]at h
def uX(d:Option Nat)(av:AV)(k:Nat):Option AV:=match d with
 |some d=>if k=d then some av else none
 |none=>none
theorem Ea(F:bh)(d:Option Nat)(av:AV):look (iX F d av)=ov (uX d av) (look F):=by
 funext k
 cases d with
 |none=>rfl
 |some d=>
  by_cases h:k=d
  ·subst h; simp[iX,look,ov,uX]
  ·have:(k==d)=false:=by simpa using h
   simp[iX,look,ov,uX,h,this]
theorem GH{V:Type}{gs:Nat->Nat->Option V}{f:Nat->V}{k j:Nat}:∀{m:Nat},j<=m->fl gs (· <j) m f k=fl gs (fun _=>True) j f k
 |0,h=>by have:j=0:=by omega
          subst this; rfl
 |m+1,h=>by
  by_cases e:j=m+1
  ·subst e
   exact jr (fun i hi _=>by simp[hi])
  ·have ih:=GH (gs:=gs) (f:=f) (k:=k) (j:=j) (m:=m) (by omega)
   simp only[fl]
   rw[if_neg (by omega)]
   exact ih
theorem yL{a:Act}{d:Option Nat}{v:Value}{s size:Nat}(hs:a.tmps.size=size)(hd:∀x,d=some x->x<size):(a.put d v).tmps.getD s undef=if d=some s then v else a.tmps.getD s undef:=by
 cases d with
 |none=>simp[Act.put]
 |some x=>
  by_cases h:x=s
  ·subst h
   have:=hd x rfl
   simp only[Act.put,if_pos]
   rw[Array.getD_eq_getD_getElem?,Array.getElem?_setIfInBounds_self_of_lt (by omega)]
   rfl
  ·have h':¬ (some x=some s):=by simpa using h
   rw[if_neg h']
   simp only[Act.put]
   rw[Array.getD_eq_getD_getElem?,Array.getElem?_setIfInBounds_ne h,<-Array.getD_eq_getD_getElem?]
section
variable {ops:Array Oper} {E:Nat->Bc} {S:St} {cx:List gy}
def gF(ops:Array Oper)(E:Nat->Bc)(j:Nat):Nat->Option AV:=uX ((ops[j]?).bind (·.dst)) (E j).av
def gM(E:Nat->Bc)(j:Nat):Nat->Option (Option bD):=D9 (E j).ws
structure bH(P:Program)(X:cE)(ops:Array Oper)(E:Nat->Bc)(S:St)(cx:List gy):Prop where
 aad:w7 ops cx=true
 draw:pZ ops=true
 F0:look (E 0).F=look S.F
 M0:(E 0).M=S.M
 lo0:(E 0).lo=S.nx
 ok:∀(j:Nat)(o:Oper),ops[j]? =some o->GF P X ops cx E j o
 size:∀(j:Nat)(o:Oper),ops[j]? =some o->∀d,o.dst=some d->d<X.size
theorem bH.GI(h:bH P X ops E S cx):∀j,j<=ops.size->fl (gF ops E) (fun _=>True) j (look S.F)=look (E j).F
 |0,_=>h.F0.symm
 |j+1,hj=>by
  have ho:ops[j]? =some ops[j]:=Array.getElem?_eq_getElem (by omega)
  have R:=h.ok j _ ho
  rw[R.F,Ea]
  simp only[fl,if_true]
  rw[h.GI j (by omega)]
  simp only[gF,ho,Option.bind_some]
theorem bH.sG(h:bH P X ops E S cx):∀j,j<=ops.size->fl (gM E) (fun _=>True) j (ab S.M)=ab (E j).M
 |0,_=>by rw[h.M0]; rfl
 |j+1,hj=>by
  have ho:ops[j]? =some ops[j]:=Array.getElem?_eq_getElem (by omega)
  have R:=h.ok j _ ho
  rw[R.M,so,xf]
  simp only[fl,if_true]
  rw[h.sG j (by omega)]
  rfl
theorem bH.lo(h:bH P X ops E S cx){i:Nat}:∀{j:Nat},i<=j->j<=ops.size->(E i).lo<=(E j).lo
 |0,hij,_=>by have:i=0:=by omega
              subst this; exact Nat.le_refl _
 |j+1,hij,hj=>by
  by_cases e:i=j+1
  ·subst e; exact Nat.le_refl _
  ·have ho:ops[j]? =some ops[j]:=Array.getElem?_eq_getElem (by omega)
   exact Nat.le_trans (h.lo (i:=i) (j:=j) (by omega) (by omega)) (h.ok j _ ho).le
theorem bH.dir(h:bH P X ops E S cx){i j:Nat}(hd:Gb ops i j):i<j:=by
 obtain⟨o,e,ho,he,hb,rfl⟩:=hd
 have:=h.draw
 simp only[pZ,Bool.and_eq_true]at this
 have:=mb _ 0 this.1 j o (by simpa using ho) e he hb
 omega
theorem bH.hX(h:bH P X ops E S cx){i j:Nat}(hb:iM ops i j):i<j:=
 hb (· <j) (fun a b hd hb=>by have:=h.dir hd; omega) (fun k hk=>h.dir hk)
theorem jS{i j:Nat}(h:((jN ops.toList []).getD j 0).testBit i=true):iM ops i j:=
 sF ops.toList [] (by simp) (fun k i h=>by simp at h) j i h
theorem bH.apart(h:bH P X ops E S cx){i j:Nat}{x y:Oper}(hi:ops[i]? =some x)(hj:ops[j]? =some y)(hij:i<j):iM ops i j\/ x.apart ops y=true:=by
 have:=h.draw
 simp only[pZ,Bool.and_eq_true,CB]at this
 have hj':=(Array.getElem?_eq_some_iff.1 hj).1
 have h1:=List.all_eq_true.1 this.2 j (List.mem_range.2 hj')
 have h2:=List.all_eq_true.1 h1 i (List.mem_range.2 hij)
 rw[hi,hj]at h2
 rw[Bool.or_eq_true]at h2
 rcases h2 with h|h
 ·exact .inl (jS h)
 ·exact .inr h
theorem xg{i k:Nat}(h:gF ops E i k≠none):∃o,ops[i]? =some o/\o.dst=some k:=by
 unfold gF at h
 cases ho:ops[i]? with
 |none=>rw[ho]at h; simp[uX]at h
 |some o=>
  refine⟨o,rfl,?_⟩
  rw[ho]at h
  simp only[Option.bind_some]at h
  cases hd:o.dst with
  |none=>rw[hd]at h; simp[uX]at h
  |some d=>
   rw[hd]at h
   by_cases e:k=d
   ·rw[e]
   ·simp[uX,e]at h
theorem bH.slot(h:bH P X ops E S cx){L:Nat->Prop}[DecidablePred L](hc:hQ ops L){j:Nat}{o:Oper}(ho:ops[j]? =some o)(hj:¬L j)(hp:∀k,Gb ops k j->L k){s:Nat}(hs:s ∈ o.looksAt ops):
  fl (gF ops E) L ops.size (look S.F) s=look (E j).F s:=by
 have JG:=(Array.getElem?_eq_some_iff.1 ho).1
 rw[<-h.GI j (by omega),<-GH (m:=ops.size) (by omega)]
 refine jr fun i hi hg=> ?_
 obtain⟨x,hx,hd⟩:=xg hg
 rcases Nat.lt_trichotomy i j with hij|hij|hij
 ·rcases h.apart hx ho hij with hb|hb
  ·exact⟨fun _=>hij,fun _=>hb L hc hp⟩
  ·exact ((Oper.apart_spec hb).1 s hd hs).elim
 ·subst hij; exact⟨fun h=>(hj h).elim,fun h=>by omega⟩
 ·rcases h.apart ho hx hij with hb|hb
  ·exact⟨fun hl=>(hj (hb L hc (fun k hk=>hc k i hk hl))).elim,fun h=>by omega⟩
  ·exact ((Oper.apart_spec hb).2.2 s hd hs).elim
theorem bH.J0(h:bH P X ops E S cx){L:Nat->Prop}(hc:hQ ops L){j:Nat}{o:Oper}(ho:ops[j]? =some o)(hj:¬L j){k i:Nat}(hij:i≠j)(h1:gF ops E j k≠none)(h2:gF ops E i k≠none)(hl:L i):i<j:=by
 obtain⟨x,hx,hd⟩:=xg h2
 obtain⟨y,hy,CF⟩:=xg h1
 rcases Nat.lt_trichotomy i j with h3|h3|h3
 ·exact h3
 ·omega
 ·rcases h.apart hy hx h3 with hb|hb
  ·exact (hj (hb L hc (fun k hk=>hc k i hk hl))).elim
  ·exact ((Oper.apart_spec hb).2.1 k CF hd).elim
theorem vD{lo hi:Nat}{R W:List Nat}(h:N3 lo hi R W=true){n:Nat}(hn:n ∈ R):¬ (lo<=n/\n<hi)/\n ∉ W:=by
 have:=List.all_eq_true.1 h n hn
 simp only[Bool.and_eq_true,Bool.not_eq_true',Bool.and_eq_false_iff,List.any_eq_false]at this
 refine⟨?_,fun hw=> ?_⟩
 ·rintro⟨h1,h2⟩
  rcases this.1 with h3|h3
  ·have:=Nat.ble_eq_true_of_le h1; rw[h3]at this; simp at this
  ·have S7:Nat.blt n hi=true:=by rw[Nat.blt_eq]; exact h2
   rw[h3]at S7; simp at S7
 ·exact this.2 n hw (Nat.beq_refl n)
def GJ(E:Nat->Bc)(cx:List gy)(j:Nat):Prop:=lY cx ⟨j,(E j).R,(E j).W,(E j).lo,(E (j+1)).lo,(E j).k⟩=true
def KP(E:Nat->Bc)(i j:Nat):Prop:=((E i).k=3/\(E j).k=4)\/((E i).k=4/\(E j).k=3)
theorem bH.pair(h:bH P X ops E S cx){i j:Nat}{x y:Oper}(hi:ops[i]? =some x)(hj:ops[j]? =some y)(hij:i≠j)(ri:(E i).run=true)(rj:(E j).run=true)(ni:¬GJ E cx i)(nj:¬GJ E cx j):
  iM ops i j\/ iM ops j i\/ KP E i j\/(∀n,(∃p ∈ (E i).ws,p.1=n)->n ∉ (E j).R)/\(∀n,(∃p ∈ (E i).ws,p.1=n)->(∃p ∈ (E j).ws,p.1=n)->False):=by
 have Ri:=h.ok i x hi
 have Rj:=h.ok j y hj
 have hi':=(Array.getElem?_eq_some_iff.1 hi).1
 have hj':=(Array.getElem?_eq_some_iff.1 hj).1
 have li:=Ri.log ri
 have lj:=Rj.log rj
 have key:iM ops i j\/ iM ops j i\/ KP E i j\/((∀n ∈ (E j).R,¬ ((E i).lo<=n/\n< (E (i+1)).lo)/\n ∉ (E i).W)/\(∀n ∈ (E i).R,¬ ((E j).lo<=n/\n< (E (j+1)).lo)/\n ∉ (E j).W)):=by
  rcases li with li|⟨hR,hW,hlo⟩
  ·rcases lj with lj|⟨Sw,hW',aaf⟩
   ·have h1:=List.all_eq_true.1 (List.all_eq_true.1 h.aad _ li) _ lj
    simp only[Bool.or_eq_true,Nat.beq_eq_true_eq]at h1
    rcases h1 with ((((h1|h1)|h1)|h1)|h1)|h1
    ·exact (hij (Nat.eq_of_beq_eq_true h1)).elim
    rotate_left
    ·exact (ni h1).elim
    ·exact (nj h1).elim
    ·simp only[DZ,Bool.and_eq_true]at h1
     exact .inr (.inr (.inl (.inl ⟨Nat.eq_of_beq_eq_true h1.1,Nat.eq_of_beq_eq_true h1.2⟩)))
    ·simp only[DZ,Bool.and_eq_true]at h1
     exact .inr (.inr (.inl (.inr ⟨Nat.eq_of_beq_eq_true h1.2,Nat.eq_of_beq_eq_true h1.1⟩)))
    ·simp only[AS,Bool.or_eq_true,Bool.and_eq_true]at h1
     rcases h1 with (h1|h1)|⟨h1,h2⟩
     ·exact .inr (.inl (jS h1))
     ·exact .inl (jS h1)
     ·exact .inr (.inr (.inr ⟨fun n hn=>vD h1 hn,fun n hn=>vD h2 hn⟩))
   ·refine .inr (.inr (.inr ⟨fun n hn=> ?_,fun n hn=> ?_⟩))
    ·simp only at Sw; rw[Sw]at hn; simp at hn
    ·simp only at hW' aaf; rw[hW']; exact⟨by omega,by simp⟩
  ·refine .inr (.inr (.inr ⟨fun n hn=> ?_,fun n hn=> ?_⟩))
   ·simp only at hW hlo; rw[hW]; exact⟨by omega,by simp⟩
   ·simp only at hR; rw[hR]at hn; simp at hn
 rcases key with h1|h1|h1|⟨k1,k2⟩
 ·exact .inl h1
 ·exact .inr (.inl h1)
 ·exact .inr (.inr (.inl h1))
 refine .inr (.inr (.inr ⟨fun n ⟨p,hp,hn⟩ hr=> ?_,fun n ⟨p,hp,hn⟩ ⟨q,hq,hn'⟩=> ?_⟩))
 ·subst hn
  rcases Ri.wn p hp with hw|hw
  ·exact (k1 _ hr).1 (Ri.nw _ hw)
  ·exact (k1 _ hr).2 hw
 ·subst hn
  have aR:p.1 ∈ (E i).nw\/ p.1 ∈ (E i).R:=by
   rcases (Ri.p5 ri).1 p hp with hv|⟨s',hs',hv⟩|⟨hv,_⟩
   ·exact .inl hv
   ·rcases (Ri.p5 ri).2.1 with h2|⟨h2,_⟩
    ·exact .inr (h2 s' hs' _ hv)
    ·rw[h2]at hp; simp at hp
   ·exact .inr hv
  have inJ:q.1 ∈ (E j).nw\/ q.1 ∈ (E j).R:=by
   rcases (Rj.p5 rj).1 q hq with hv|⟨s',hs',hv⟩|⟨hv,_⟩
   ·exact .inl hv
   ·rcases (Rj.p5 rj).2.1 with h2|⟨h2,_⟩
    ·exact .inr (h2 s' hs' _ hv)
    ·rw[h2]at hq; simp at hq
   ·exact .inr hv
  rcases inJ with hw|hw
  ·rw[hn']at hw
   rcases aR with hv|hv
   ·have a1:=Ri.nw _ hv
    have a2:=Rj.nw _ hw
    rcases Nat.lt_or_gt_of_ne hij with hlt|hlt
    ·have:=h.lo (i:=i+1) (j:=j) (by omega) (by omega); omega
    ·have:=h.lo (i:=j+1) (j:=i) (by omega) (by omega); omega
   ·exact (k2 _ hv).1 (Rj.nw _ hw)
  ·rw[hn']at hw
   rcases Ri.wn p hp with hv|hv
   ·exact (k1 _ hw).1 (Ri.nw _ hv)
   ·exact (k1 _ hw).2 hv
theorem bH.runs(h:bH P X ops E S cx){i:Nat}{k:Nat}(hi:i<ops.size)(hg:gM E i k≠none):∃x,ops[i]? =some x/\(E i).run=true/\∃p ∈ (E i).ws,p.1=k:=by
 have ho:ops[i]? =some ops[i]:=Array.getElem?_eq_getElem hi
 have hp:=CE hg
 refine⟨_,ho,?_,hp⟩
 cases hr:(E i).run with
 |true=>rfl
 |false=>
  obtain⟨_,h2,_⟩:=(h.ok i _ ho).skip hr
  rw[h2]at hp
  simp at hp
theorem bH.Be(h:bH P X ops E S cx){i n:Nat}{x:Oper}(hx:ops[i]? =some x)(hr:(E i).run=true)(hw:∃p ∈ (E i).ws,p.1=n):¬GJ E cx i:=by
 intro ha
 unfold GJ lY at ha
 simp only[Bool.and_eq_true]at ha
 have:=((h.ok i x hx).adr hr (Nat.eq_of_beq_eq_true ha.1)).2
 rw[this]at hw
 simp at hw
theorem rO:∀{ws:List (Nat × bD)}{k:Nat}{v:Option bD},D9 ws k=some v->∃p ∈ ws,p.1=k/\v=some p.2
 |[],k,v,h=>by simp[D9]at h
 |(n,b)::r,k,v,h=>by
  simp only[D9]at h
  cases hw:D9 r k with
  |some x=>
   rw[hw]at h
   obtain⟨p,h1,h2,h3⟩:=rO (ws:=r) hw
   simp only[Option.some.injEq]at h
   exact⟨p,List.mem_cons_of_mem _ h1,h2,by rw[<-h]; exact h3⟩
  |none=>
   rw[hw]at h
   by_cases e:k=n
   ·simp[e]at h
    exact⟨_,List.mem_cons_self,e.symm,h.symm⟩
   ·simp[e]at h
theorem bH.shape(h:bH P X ops E S cx){j n:Nat}(ha:GJ E cx j)(hn:n ∈ (E j).R):∀(m:Nat),m<=ops.size->∀(L:Nat->Prop)[DecidablePred L],lens (fl (gM E) L m (ab S.M)) n=lens (ab S.M) n
 |0,_,L,_=>rfl
 |m+1,hm,L,_=>by
  have ih:=h.shape ha hn m (by omega) L
  simp only[fl]
  split
  ·cases hg:gM E m n with
   |none=>
    have e:ov (gM E m) (fl (gM E) L m (ab S.M)) n=fl (gM E) L m (ab S.M) n:=by simp[ov,hg]
    unfold lens at ih ⊢
    rw[e]; exact ih
   |some v=>
    obtain⟨p,hp,J1,hv⟩:=rO hg
    obtain⟨x,hx,vE,_⟩:=h.runs (i:=m) (k:=n) (by omega) (by rw[hg]; simp)
    have Rm:=h.ok m x hx
    have hall:∀y ∈ cx,n<y.lo/\(y.k=2\/ n ∉ y.W):=fun y hy=>by
     have ha:=ha
     unfold GJ lY at ha
     simp only[Bool.and_eq_true]at ha
     have h1:=List.all_eq_true.1 (List.all_eq_true.1 ha.2 y hy) n hn
     simp only[Bool.and_eq_true,Bool.or_eq_true,Bool.not_eq_true',List.any_eq_false]at h1
     refine⟨by simpa[Nat.blt_eq]using h1.1,h1.2.imp (fun h=>Nat.eq_of_beq_eq_true h) fun h hw=>h n hw (Nat.beq_refl n)⟩
    have hwn:=Rm.wn p hp
    rw[J1]at hwn
    have hk2:(E m).k=2:=by
     rcases Rm.log vE with hl|⟨_,hW,hlo⟩
     ·obtain⟨h1,h2⟩:=hall _ hl
      simp only at h1 h2
      rcases hwn with hw|hw
      ·have:=Rm.nw n hw; omega
      ·exact h2.resolve_right fun h=>h hw
     ·simp only at hW hlo
      rcases hwn with hw|hw
      ·have:=Rm.nw n hw; omega
      ·rw[hW]at hw; simp at hw
    have hs:=Rm.sto vE hk2 p hp
    rw[J1,<-h.sG m (by omega),h.shape ha hn m (by omega) (fun _=>True)]at hs
    have e:ov (gM E m) (fl (gM E) L m (ab S.M)) n=some p.2:=by simp[ov,hg,hv]
    rw[hs]
    rw[aC]
    exact⟨p.2,e,rfl,rfl⟩
  ·exact ih
theorem bH.Nj(h:bH P X ops E S cx){i n:Nat}{x:Oper}(hx:ops[i]? =some x)(hr:(E i).run=true)(h3:(E i).k=3)(hw:∃p ∈ (E i).ws,p.1=n):False:=by
 rw[((h.ok i x hx).lok hr h3).2]at hw
 simp at hw
theorem bH.mem(h:bH P X ops E S cx){L:Nat->Prop}[DecidablePred L](hc:hQ ops L){j:Nat}{o:Oper}(ho:ops[j]? =some o)(hj:¬L j)(hp:∀k,Gb ops k j->L k)(hr:(E j).run=true)(nj:¬GJ E cx j)(n3:(E j).k≠3){n:Nat}(hn:n ∈ (E j).R):
  fl (gM E) L ops.size (ab S.M) n=ab (E j).M n:=by
 have JG:=(Array.getElem?_eq_some_iff.1 ho).1
 rw[<-h.sG j (by omega),<-GH (m:=ops.size) (by omega)]
 refine jr fun i hi hg=> ?_
 obtain⟨x,hx,vE,hk⟩:=h.runs hi hg
 by_cases hij:i=j
 ·subst hij; exact⟨fun h=>(hj h).elim,fun h=>by omega⟩
 rcases h.pair hx ho hij vE hr (h.Be hx vE hk) nj with hb|hb|hb|⟨hb,_⟩
 ·exact⟨fun _=>h.hX hb,fun _=>hb L hc hp⟩
 ·have:=h.hX hb
  exact⟨fun hl=>(hj (hb L hc (fun k hk=>hc k i hk hl))).elim,fun h=>by omega⟩
 ·rcases hb with⟨hb,_⟩|⟨_,hb⟩
  ·exact (h.Nj hx vE hb hk).elim
  ·exact (n3 hb).elim
 ·exact (hb n hk hn).elim
theorem bH.Og(h:bH P X ops E S cx){L:Nat->Prop}(hc:hQ ops L){j:Nat}(JG:j<ops.size)(hj:¬L j){k i:Nat}(hi:i<ops.size)(hij:i≠j)(h1:gM E j k≠none)(h2:gM E i k≠none)(hl:L i):i<j:=by
 obtain⟨x,hx,vE,hk⟩:=h.runs hi h2
 obtain⟨y,hy,Oh,hk'⟩:=h.runs JG h1
 rcases h.pair hx hy hij vE Oh (h.Be hx vE hk) (h.Be hy Oh hk')with hb|hb|hb|⟨_,hb⟩
 ·exact h.hX hb
 ·exact (hj (hb L hc (fun k hk=>hc k i hk hl))).elim
 ·rcases hb with⟨hb,_⟩|⟨_,hb⟩
  ·exact (h.Nj hx vE hb hk).elim
  ·exact (h.Nj hy Oh hb hk').elim
 ·exact (hb k hk hk').elim
theorem bH.view(h:bH P X ops E S cx){L:Nat->Prop}[DecidablePred L](hc:hQ ops L){j:Nat}{o:Oper}(ho:ops[j]? =some o)(hj:¬L j)(hp:∀k,Gb ops k j->L k)(hr:(E j).run=true)(nj:¬GJ E cx j)(h3:(E j).k=3){n:Nat}(hn:n ∈ (E j).R):
  Vw (fl (gM E) L ops.size (ab S.M) n)=Vw (ab (E j).M n):=by
 have JG:=(Array.getElem?_eq_some_iff.1 ho).1
 let T:Nat->Option bD:=fun m=>fl (gM E) (fun _=>True) m (ab S.M) n
 have hT:∀m,m<=ops.size->T m=ab (E m).M n:=fun m hm=>by rw[<-h.sG m hm]
 have tS:∀m,gM E m n=none->T (m+1)=T m:=fun m hm=>by simp[T,fl,ov,hm]
 have lS:∀m,(L m->gM E m n=none)->fl (gM E) L (m+1) (ab S.M) n=fl (gM E) L m (ab S.M) n:=fun m hm=>by
  simp only[fl]
  split
  ·rename_i hl; simp[ov,hm hl]
  ·rfl
 have lT:∀m,L m->gM E m n≠none->fl (gM E) L (m+1) (ab S.M) n=T (m+1):=fun m hl hg=>by
  cases hv:gM E m n with
  |none=>exact (hg hv).elim
  |some v=>simp[T,fl,ov,hv,hl]
 have v4:∀m,m<ops.size->gM E m n≠none->(E m).k=4->Vw (T (m+1))=Vw (T m):=fun m hm hg h4=>by
  obtain⟨x,hx,vE,_⟩:=h.runs hm hg
  cases hv:gM E m n with
  |none=>exact (hg hv).elim
  |some v=>
   obtain⟨p,hp,J1,hpv⟩:=rO hv
   have:=(h.ok m x hx).JZ vE h4 p hp
   rw[J1,<-hT m (by omega)]at this
   rw[this]
   simp[T,fl,ov,hv,hpv]
 have un:∀m,m<ops.size->m≠j->gM E m n≠none->iM ops m j\/ iM ops j m\/(E m).k=4:=fun m hm J2 hg=>by
  obtain⟨x,hx,vE,hk⟩:=h.runs hm hg
  rcases h.pair hx ho J2 vE hr (h.Be hx vE hk) nj with hb|hb|hb|⟨hb,_⟩
  ·exact .inl hb
  ·exact .inr (.inl hb)
  ·rcases hb with⟨hb,_⟩|⟨hb,_⟩
   ·exact (h.Nj hx vE hb hk).elim
   ·exact .inr (.inr hb)
  ·exact (hb n hk hn).elim
 have jn:gM E j n=none:=by
  cases hv:gM E j n with
  |none=>rfl
  |some v=>
   obtain⟨p,hp,J1,_⟩:=rO hv
   exact (h.Nj ho hr h3 ⟨p,hp,J1⟩).elim
 have A:∀m,m<=j->Vw (fl (gM E) L m (ab S.M) n)=Vw (T m):=by
  intro m
  induction m with
  |zero=>intro _; rfl
  |succ m ih=>
   intro hm
   have ih:=ih (by omega)
   cases hv:gM E m n with
   |none=>rw[tS m hv,lS m (fun _=>hv)]; exact ih
   |some v=>
    have hg:gM E m n≠none:=by rw[hv]; simp
    by_cases hl:L m
    ·rw[lT m hl hg]
    ·rcases un m (by omega) (by omega) hg with hb|hb|h4
     ·exact (hl (hb L hc hp)).elim
     ·have:=h.hX hb; omega
     ·rw[v4 m (by omega) hg h4,lS m (fun h=>(hl h).elim)]; exact ih
 have B:∀m,j<m->m<=ops.size->Vw (fl (gM E) L m (ab S.M) n)=Vw (T j):=by
  intro m
  induction m with
  |zero=>intro h0; omega
  |succ m ih=>
   intro hm S8
   by_cases e:m=j
   ·subst e
    rw[lS m (fun h=>(hj h).elim)]; exact A m (Nat.le_refl _)
   ·have ih:=ih (by omega) (by omega)
    by_cases hw:L m/\gM E m n≠none
    ·obtain⟨hl,hg⟩:=hw
     have m4:(E m).k=4:=by
      rcases un m (by omega) e hg with hb|hb|h4
      ·have:=h.hX hb; omega
      ·exact (hj (hb L hc (fun k hk=>hc k m hk hl))).elim
      ·exact h4
     rw[lT m hl hg,v4 m (by omega) hg m4]
     have C:∀q,j<=q->q<=m->Vw (T q)=Vw (T j):=by
      intro q
      induction q with
      |zero=>intro hq _; rw[show j=0 by omega]
      |succ q Y0=>
       intro hq hqm
       by_cases e2:q+1=j
       ·rw[e2]
       ·have Y0:=Y0 (by omega) (by omega)
        cases hv:gM E q n with
        |none=>rw[tS q hv]; exact Y0
        |some v=>
         have S9:gM E q n≠none:=by rw[hv]; simp
         by_cases e3:q=j
         ·rw[e3]at S9; exact (S9 jn).elim
         ·obtain⟨x,hx,vE,hk⟩:=h.runs (i:=q) (by omega) S9
          obtain⟨y,hy,Oh,hk'⟩:=h.runs (i:=m) (by omega) hg
          have hlq:L q:=by
           rcases h.pair hx hy (by omega) vE Oh (h.Be hx vE hk) (h.Be hy Oh hk')with hb|hb|hb|⟨_,hb⟩
           ·exact hb L hc (fun k hk=>hc k m hk hl)
           ·have:=h.hX hb; omega
           ·rcases hb with⟨hb,_⟩|⟨_,hb⟩
            ·exact (h.Nj hx vE hb hk).elim
            ·exact (h.Nj hy Oh hb hk').elim
           ·exact (hb n hk hk').elim
          have q4:(E q).k=4:=by
           rcases un q (by omega) e3 S9 with hb|hb|h4
           ·have:=h.hX hb; omega
           ·exact (hj (hb L hc (fun k hk=>hc k q hk hlq))).elim
           ·exact h4
          rw[v4 q (by omega) S9 q4]; exact Y0
     exact C m (by omega) (Nat.le_refl _)
    ·rw[lS m (fun hl=>Classical.not_not.1 fun hg=>hw ⟨hl,hg⟩)]; exact ih
 rw[B ops.size JG (Nat.le_refl _),hT j (by omega)]
def NL(m:Nat)(E:Nat->Bc)(S:St)(L:Nat->Prop):Nat->Prop:=fun n=>n<S.nx\/∃i,(i<m/\L i)/\n ∈ (E i).nw
structure sH(X:cE)(ops:Array Oper)(E:Nat->Bc)(S:St)(L:Nat->Prop)[DecidablePred L](ρ:Place)(I:Nat->Prop)(a:Act)(w:World):Prop where
 W:db X ρ I (fl (gM E) L ops.size (ab S.M)) (NL ops.size E S L) w
 rep:∀s,aP ρ (lens (fl (gM E) L ops.size (ab S.M))) I w (NL ops.size E S L) (fl (gF ops E) L ops.size (look S.F) s) (a.tmps.getD s undef)
 defers:lZ I w X a.defers
 size:a.tmps.size=X.size
def p'(all ops:Array Oper):Prop:=∀(j:Nat)(o:Oper),ops[j]? =some o->all[j]? =some o
theorem Eb{all:Array Oper}(hall:p' all ops){o:Oper}{a:Act}{F:bh}{r:Bool}(hg:mM ops o F r)(hs:∀s ∈ o.looksAt ops,∃ρ L I w N,aP ρ L I w N (look F s) (a.tmps.getD s undef)):Region.wanted o (yielded all a.tmps)=r:=by
 unfold mM at hg
 cases Ta:o.guard with
 |none=>rw[Ta]at hg; simp only at hg; simp[Region.wanted,Ta,hg]
 |some p=>
  obtain⟨j,want⟩:=p
  rw[Ta]at hg
  obtain⟨s,hd,hv⟩:=hg
  have fq:s ∈ o.looksAt ops:=by
   simp only[Oper.looksAt,Ta,hd,List.mem_append]
   right; simp
  obtain⟨ρ,L,I,w,N,hr⟩:=hs s fq
  have hd:(all[j]?).bind (·.dst)=some s:=by
   cases hj:ops[j]? with
   |none=>rw[hj]at hd; simp at hd
   |some x=>rw[hall j x hj,<-hj]; exact hd
  have hy:=sE (tmps:=a.tmps) hd
  have hw:Region.wanted o (yielded all a.tmps)=(yielded all a.tmps j==some want):=by simp[Region.wanted,Ta]
  have vb:∀b,look F s= .bool b->yielded all a.tmps j=some b:=fun b hb=>by
   rw[hb]at hr
   have hv:=gE hr
   have hg:a.tmps[s]? =some (.bool b):=by
    rw[Array.getD_eq_getD_getElem?]at hv
    cases hh:a.tmps[s]? with
    |none=>rw[hh]at hv; simp[undef]at hv
    |some v=>rw[hh]at hv; simpa using hv
   rw[hy,hg]
  rcases hv with⟨rfl,hv⟩|⟨rfl,hv|hv⟩
  ·rw[hw,vb _ hv]; simp
  ·rw[hw,vb _ hv]; cases want<;>rfl
  ·rw[hv]at hr
   generalize Y1:a.tmps.getD s undef=v at hr
   cases hr with
   |aQ _ us hle _=>
    have GK:us=[]:=List.eq_nil_of_length_eq_zero (by simpa using hle)
    subst GK
    have Oc:yielded all a.tmps j=none:=by
     rw[hy]
     cases ht:a.tmps[s]? with
     |none=>rfl
     |some v=>
      rw[Array.getD_eq_getD_getElem?,ht]at Y1
      simp at Y1
      rw[Y1]
    rw[hw,Oc]; rfl
theorem bH.step{all:Array Oper}(hall:p' all ops)(h:bH P X ops E S cx){L:Nat->Prop}[DecidablePred L](hc:hQ ops L){j:Nat}{o:Oper}(ho:ops[j]? =some o)(hj:¬L j)(hp:∀k,Gb ops k j->L k)
  {ρ:Place} {I:Nat->Prop} {a:Act} {w:World} (D:sH X ops E S L ρ I a w) {b:Frame} {rest:List Nat} {k:List Item} {cs:List Frame}:
  ∃a' w' ρ' I',Steps P (lone (b.atR a (.inRegion all (j::rest)::k)) cs w) (lone (b.atR a' (.inRegion all rest::k)) cs w')/\sH X ops E S (fun i=>i=j\/ L i) ρ' I' a' w':=by
 have JG:=(Array.getElem?_eq_some_iff.1 ho).1
 have R:=h.ok j o ho
 have fq:∀s ∈ o.looksAt ops,aP ρ (lens (fl (gM E) L ops.size (ab S.M))) I w (NL ops.size E S L) (look (E j).F s) (a.tmps.getD s undef):=fun s hs=>by
  rw[<-h.slot hc ho hj hp hs]; exact D.rep s
 have GK:∀s ∈ dC o.op,s ∈ o.looksAt ops:=fun s hs=>by
  simp only[Oper.looksAt,List.mem_append]
  left
  unfold dC at hs
  generalize o.op.operands.toList=l at hs
  induction l with
  |nil=>simp[nH]at hs
  |cons x r ih=>
   cases x with
   |tmp t=>
    simp only[nH,List.mem_cons]at hs
    rcases hs with rfl|hs
    ·simp
    ·simp[ih hs]
   |_=>simpa[nH]using ih (by simpa[nH]using hs)
 have hw:=Eb hall R.guard (a:=a) (fun s hs=>⟨_,_,_,_,_,fq s hs⟩)
 have yM:=h.size j o ho
 have Nk:∀s,fl (gF ops E) (fun i=>i=j\/ L i) ops.size (look S.F) s=if o.dst=some s then (E j).av else fl (gF ops E) L ops.size (look S.F) s:=fun s=>by
  rw[Bb (L:=L) (fun i=>Iff.rfl) hj JG (fun i hi hij h1 h2 hl=>h.J0 hc ho hj hij h1 h2 hl)]
  simp only[gF,ho,Option.bind_some]
  cases hd:o.dst with
  |none=>simp[uX]
  |some d=>
   by_cases e:d=s
   ·subst e; simp[uX]
   ·have e':¬s=d:=fun h=>e h.symm
    simp[uX,e,e']
 have GL:fl (gM E) (fun i=>i=j\/ L i) ops.size (ab S.M)=dO (fl (gM E) L ops.size (ab S.M)) (E j).ws:=by
  funext n
  rw[Bb (L:=L) (fun i=>Iff.rfl) hj JG (fun i hi hij h1 h2 hl=>h.Og hc JG hj hi hij h1 h2 hl),xf]
  rfl
 cases hr:(E j).run with
 |true=>
  rw[hr]at hw
  have hd:=R.p5 hr
  have hy:bZ P X o a (fl (gM E) L ops.size (ab S.M)) (NL ops.size E S L) ρ I w (E j).av (E j).ws:=by
   rcases hd.2.1 with hd2|⟨Bf,hfree⟩
   rotate_left
   ·rw[Bf]
    exact hfree _ _ ρ I a w D.W (fun s hs=>fq s (GK s hs))
   by_cases hA:GJ E cx j
   ·have hA':=hA
    unfold GJ lY at hA'
    simp only[Bool.and_eq_true]at hA'
    obtain⟨hl,Bf⟩:=R.adr hr (Nat.eq_of_beq_eq_true hA'.1)
    rw[Bf]
    exact hl _ _ ρ I a w D.W (fun s hs=>fq s (GK s hs)) (fun s hs n hn=>by
     have hn':=hd2 s hs n hn
     rw[h.shape hA hn' ops.size (Nat.le_refl _) L,<-h.sG j (by omega),h.shape hA hn' j (by omega) (fun _=>True)])
   ·by_cases h3:(E j).k=3
    ·obtain⟨hl,Bf⟩:=R.lok hr h3
     rw[Bf]
     exact hl _ _ ρ I a w D.W (fun s hs=>fq s (GK s hs)) (fun s hs n hn=>h.view hc ho hj hp hr hA h3 (hd2 s hs n hn))
    exact hd.2.2 (fl (gM E) L ops.size (ab S.M)) (NL ops.size E S L) ρ I a w D.W (fun s hs=>fq s (GK s hs)) (fun n hn=>h.mem hc ho hj hp hr hA h3 hn) (fun n hn hN=>by
     have a1:=R.nw n hn
     rcases hN with hN|⟨i,hl,hN⟩
     ·have:=h.lo (i:=0) (j:=j) (by omega) (by omega); have:=h.lo0; omega
     ·have hij:i≠j:=fun e=>hj (e ▸ hl.2)
      have a2:=(h.ok i _ (Array.getElem?_eq_getElem hl.1)).nw n hN
      rcases Nat.lt_or_gt_of_ne hij with hlt|hlt
      ·have:=h.lo (i:=i+1) (j:=j) (by omega) (by omega); omega
      ·have:=h.lo (i:=j+1) (j:=i) (by omega) (by omega); omega)
  obtain⟨v,w1,⟨ρ1,I1,Ev,W1,R1⟩,hst⟩:=xe (b:=b) (rest:=rest) (k:=k) (cs:=cs) (hall _ _ ho) hw hy
  have hN:∀m,gV (NL ops.size E S L) (E j).ws m->NL ops.size E S (fun i=>i=j\/ L i) m:=by
   rintro m (hm|⟨bb,hm⟩)
   ·rcases hm with hm|⟨i,hl,hm⟩
    ·exact .inl hm
    ·exact .inr ⟨i,⟨hl.1,.inr hl.2⟩,hm⟩
   ·have hm0:=hm
    rcases hd.1 _ hm with hm|⟨s,hs,hm⟩|⟨hm,hne⟩
    ·exact .inr ⟨j,⟨JG,.inl rfl⟩,hm⟩
    ·rcases mN (fq s (GK s hs)) m hm with hm|⟨i,hl,hm⟩
     ·exact .inl hm
     ·exact .inr ⟨i,⟨hl.1,.inr hl.2⟩,hm⟩
    ·have hA:¬GJ E cx j:=h.Be ho hr ⟨_,hm0,rfl⟩
     have n3:(E j).k≠3:=fun h3=>h.Nj ho hr h3 ⟨_,hm0,rfl⟩
     have e:=h.mem hc ho hj hp hr hA n3 hm
     cases hb:fl (gM E) L ops.size (ab S.M) m with
     |none=>rw[hb]at e; exact (hne e.symm).elim
     |some b=>
      rcases (D.W.bf m b hb).lt with hm|⟨i,hl,hm⟩
      ·exact .inl hm
      ·exact .inr ⟨i,⟨hl.1,.inr hl.2⟩,hm⟩
  refine⟨_,w1,ρ1,I1,hst,?_,fun s=> ?_,?_,?_⟩
  ·rw[GL]; exact W1.nL hN
  ·rw[GL,Nk,yL D.size yM]
   by_cases e:o.dst=some s
   ·rw[if_pos e,if_pos e]; exact R1.wide hN
   ·rw[if_neg e,if_neg e]; exact ((D.rep s).yr Ev (fun _ h=>h)).wide (fun m hm=>hN m (.inl hm))
  ·cases o.dst<;>exact D.defers.yr Ev
  ·cases hdd:o.dst with
   |none=>exact D.size
   |some x=>simpa[Act.put]using D.size
 |false=>
  rw[hr]at hw
  obtain⟨s1,s2,s3⟩:=R.skip hr
  have Nl:fl (gM E) (fun i=>i=j\/ L i) ops.size (ab S.M)=fl (gM E) L ops.size (ab S.M):=by rw[GL,s2]; rfl
  have hN:∀m,NL ops.size E S L m->NL ops.size E S (fun i=>i=j\/ L i) m:=by
   rintro m (hm|⟨i,hl,hm⟩)
   ·exact .inl hm
   ·exact .inr ⟨i,⟨hl.1,.inr hl.2⟩,hm⟩
  have hst:=stepR_op_skip (P:=P) (b:=b) (a:=a) (k:=k) (cs:=cs) (w:=w) (ops:=all) (i:=j) (rest:=rest) (by simp[hall _ _ ho,hw])
  simp only[hall _ _ ho,Option.bind_some]at hst
  refine⟨_,w,ρ,I,.one hst,?_,fun s=> ?_,?_,?_⟩
  ·rw[Nl]; exact D.W.nL hN
  ·rw[Nl,Nk,yL D.size yM]
   by_cases e:o.dst=some s
   ·rw[if_pos e,if_pos e,s1]; exact .aQ [] [] rfl (fun j hj=>by simp at hj)
   ·rw[if_neg e,if_neg e]; exact (D.rep s).wide hN
  ·cases o.dst<;>exact D.defers
  ·cases hdd:o.dst with
   |none=>exact D.size
   |some x=>simpa[Act.put]using D.size
end
end Go.AM
namespace Go.AM
open Go.RowKit
structure PT(P:Program)(T:TT):Prop where
 tt:dD P T
 mix:P.follows .mixedOrders=true
variable {P:Program} {T:TT} {X:cE}
def Good(ops:Array Oper):(Nat->Prop)->List Nat->Prop
 |L,[]=>∀i,i<ops.size->L i
 |L,i::r=>i<ops.size/\¬L i/\(∀k,Gb ops k i->L k)/\Good ops (fun x=>x=i\/ L x) r
theorem Good.congr{ops:Array Oper}:∀{is:List Nat}{L L':Nat->Prop},(∀i,L i↔L' i)->Good ops L is->Good ops L' is
 |[],L,L',h,g=>fun i hi=>(h i).1 (g i hi)
 |i::r,L,L',h,g=>⟨g.1,fun hl=>g.2.1 ((h i).2 hl),fun k hk=>(h k).1 (g.2.2.1 k hk),Good.congr (fun x=>by rw[h x]) g.2.2.2⟩
def cr(m:Nat)(f:Nat->Bool):Nat:=(List.range m).countP f
theorem CG{f g:Nat->Bool}{i:Nat}:∀{m:Nat},i<m->f i=true->g i=false->(∀k,k≠i->g k=f k)->cr m g+1=cr m f
 |0,h,_,_,_=>by omega
 |m+1,h,hf,hg,he=>by
  simp only[cr,List.range_succ,List.countP_append,List.countP_singleton]
  by_cases e:i=m
  ·subst e
   have h1:List.countP g (List.range i)=List.countP f (List.range i):=List.countP_congr (fun k hk=>by
    rw[he k (by have:=List.mem_range.1 hk; omega)])
   rw[h1,hf,hg]; simp
  ·have ih:=CG (m:=m) (by omega) hf hg he
   simp only[cr]at ih
   rw[he m (fun h=>e h.symm)]
   omega
theorem xh{ops:Array Oper}(CH:∀i j,Gb ops i j->i<j){listed:Array Bool}(hr:(List.range ops.size).filter (fun i=>
  !listed.getD i true&&((ops[i]?).map (·.after.all fun e=> !Region.binds .any e||listed.getD e.on false)).getD false)=[])(hsz:listed.size=ops.size):∀i,i<ops.size->listed.getD i false=true:=by
 intro i
 induction i using Nat.strongRecOn with
 |ind i ih=>
  intro hi
  have h1:=List.filter_eq_nil_iff.1 hr i (List.mem_range.2 hi)
  rw[Array.getElem?_eq_getElem hi]at h1
  simp only[Option.map_some,Option.getD_some,Bool.and_eq_true,not_and]at h1
  cases hl:listed.getD i false with
  |true=>rfl
  |false=>
   have og:listed.getD i true=false:=by
    rw[Array.getD_eq_getD_getElem?,Array.getElem?_eq_getElem (by omega)]at hl ⊢
    simpa using hl
   refine absurd ?_ (h1 (by rw[og]; rfl))
   rw[Array.all_eq_true']
   intro e he
   cases hb:Region.binds .any e with
   |false=>rfl
   |true=>
    have hlt:=CH e.on i ⟨ops[i],e,Array.getElem?_eq_getElem hi,by simpa using he,hb,rfl⟩
    rw[ih e.on hlt (by omega)]
    rfl
theorem yN{ops:Array Oper}(CH:∀i j,Gb ops i j->i<j):∀(fuel t:Nat)(listed:Array Bool),listed.size=ops.size->cr ops.size (fun i=> !listed.getD i true)<=fuel->Good ops (fun i=>listed.getD i false=true) (Region.linearise.go .any ops fuel t listed [])
 |0,t,listed,hsz,hc=>by
  simp only[Region.linearise.go,List.reverse_nil,Good]
  intro i hi
  have h0:cr ops.size (fun i=> !listed.getD i true)=0:=by omega
  have:=List.countP_eq_zero.1 h0 i (List.mem_range.2 hi)
  rw[Array.getD_eq_getD_getElem?,Array.getElem?_eq_getElem (by omega)]at this ⊢
  simpa using this
 |fuel+1,t,listed,hsz,hc=>by
  simp only[Region.linearise.go]
  generalize hrs:(List.range ops.size).filter (fun i=>
   !listed.getD i true&&((ops[i]?).map (·.after.all fun e=> !Region.binds .any e||listed.getD e.on false)).getD false)=rs
  cases hi:rs[t % rs.length]? with
  |none=>
   have hnil:rs=[]:=by
    cases rs with
    |nil=>rfl
    |cons x xs=>
     have hlt:t % (x::xs).length< (x::xs).length:=Nat.mod_lt _ (by simp)
     rw[List.getElem?_eq_getElem hlt]at hi
     simp at hi
   subst hnil
   simp only[List.reverse_nil,Good]
   exact xh CH hrs hsz
  |some i=>
   simp only
   rw[linearise_go_acc,List.reverse_singleton,List.singleton_append]
   have hm:i ∈ rs:=List.mem_of_getElem? hi
   rw[<-hrs,List.mem_filter,List.mem_range]at hm
   obtain⟨him,hb⟩:=hm
   simp only[Bool.and_eq_true,Bool.not_eq_true']at hb
   obtain⟨hl,hb⟩:=hb
   rw[Array.getElem?_eq_getElem him]at hb
   simp only[Option.map_some,Option.getD_some]at hb
   have hlf:listed.getD i false=false:=by
    rw[Array.getD_eq_getD_getElem?,Array.getElem?_eq_getElem (by omega)]at hl ⊢
    simpa using hl
   have JW:∀x (d:Bool),x≠i->(listed.setIfInBounds i true).getD x d=listed.getD x d:=fun x d hx=>by
    rw[Array.getD_eq_getD_getElem?,Array.getElem?_setIfInBounds_ne (by omega),<-Array.getD_eq_getD_getElem?]
   have Nn:∀d:Bool,(listed.setIfInBounds i true).getD i d=true:=fun d=>by
    rw[Array.getD_eq_getD_getElem?,Array.getElem?_setIfInBounds_self_of_lt (by omega)]; rfl
   refine⟨him,by show ¬ (listed.getD i false=true); rw[hlf]; simp,?_,?_⟩
   ·rintro k ⟨o,e,ho,he,Of,rfl⟩
    rw[Array.getElem?_eq_getElem him]at ho
    cases ho
    have:=(Array.all_eq_true'.1 hb) e (by simpa using he)
    rw[Of]at this
    simpa using this
   ·refine Good.congr (fun x=> ?_) (yN CH fuel (t / rs.length) (listed.setIfInBounds i true) (by simpa using hsz) ?_)
    ·by_cases e:x=i
     ·subst e; simp[Nn]
     ·simp[JW x false e,e]
    ·have:=CG (m:=ops.size) (i:=i) (f:=fun i=> !listed.getD i true) (g:=fun x=> !(listed.setIfInBounds i true).getD x true) him (by simp[hl]) (by simp[Nn]) (fun k hk=>by simp[JW k true hk])
     omega
section
variable {ops:Array Oper} {E:Nat->Bc} {S:St} {cx:List gy}
theorem bH.walk{all:Array Oper}(hall:p' all ops)(h:bH P X ops E S cx){tl:List Nat}{b:Frame}{k:List Item}{cs:List Frame}:∀(is:List Nat)(L:Nat->Prop)[DecidablePred L],Good ops L is->hQ ops L->∀{ρ:Place}{I:Nat->Prop}{a:Act}{w:World},sH X ops E S L ρ I a w->
  ∃a' w' ρ' I',Steps P (lone (b.atR a (.inRegion all (is++tl)::k)) cs w) (lone (b.atR a' (.inRegion all tl::k)) cs w')/\sH X ops E S (fun _=>True) ρ' I' a' w'
 |[],L,_,hg,hc,ρ,I,a,w,D=>by
  refine⟨a,w,ρ,I,.refl _ _,?_⟩
  have eF:fl (gF ops E) (fun _=>True) ops.size (look S.F)=fl (gF ops E) L ops.size (look S.F):=by
   funext k; exact jr (fun i hi _=>⟨fun _=>hg i hi,fun _=>trivial⟩)
  have eM:fl (gM E) (fun _=>True) ops.size (ab S.M)=fl (gM E) L ops.size (ab S.M):=by
   funext k; exact jr (fun i hi _=>⟨fun _=>hg i hi,fun _=>trivial⟩)
  have hN:∀m,NL ops.size E S L m->NL ops.size E S (fun _=>True) m:=by
   rintro m (hm|⟨i,hl,hm⟩)
   ·exact .inl hm
   ·exact .inr ⟨i,⟨hl.1,trivial⟩,hm⟩
  exact⟨by rw[eM]; exact D.W.nL hN,fun s=>by rw[eM,eF]; exact (D.rep s).wide hN,D.defers,D.size⟩
 |i::r,L,_,hg,hc,ρ,I,a,w,D=>by
  obtain⟨him,hnl,hp,uL⟩:=hg
  have oi:hQ ops (fun x=>x=i\/ L x):=by
   rintro x y hd (rfl|hl)
   ·exact .inr (hp x hd)
   ·exact .inr (hc x y hd hl)
  obtain⟨a1,w1,ρ1,I1,h1,D1⟩:=h.step hall hc (Array.getElem?_eq_getElem him) hnl hp D (b:=b) (rest:=r++tl) (k:=k) (cs:=cs)
  obtain⟨a2,w2,ρ2,I2,h2,D2⟩:=h.walk hall (tl:=tl) r _ uL oi D1
  exact⟨a2,w2,ρ2,I2,h1.trans h2,D2⟩
end
def J3(all:Array Oper)(m:Nat):Prop:=∀j,m<=j->j<all.size->∀i,i<j->iM all i j
theorem Good.tail{all:Array Oper}{m0:Nat}(hT:J3 all m0):∀(is:List Nat)(m:Nat)(L:Nat->Prop),m0<=m->m<=all.size->hQ all L->(∀i,L i↔i<m)->Good all L is->is=List.range' m (all.size - m)
 |[],m,L,_,hm,_,hL,g=>by
  have:all.size<=m:=by
   rcases Nat.lt_or_ge m all.size with h|h
   ·have:=(hL m).1 (g m h); omega
   ·exact h
  rw[show all.size - m=0 by omega]; rfl
 |i::r,m,L,h0,hm,hc,hL,g=>by
  obtain⟨g1,g2,g3,g4⟩:=g
  have hmi:m<=i:=by
   rcases Nat.lt_or_ge i m with h|h
   ·exact (g2 ((hL i).2 h)).elim
   ·exact h
  have e:i=m:=by
   rcases Nat.lt_or_ge m i with h|h
   ·have:=(hL m).1 (hT i (by omega) g1 m h L hc g3); omega
   ·omega
  subst e
  have oi:hQ all (fun x=>x=i\/ L x):=by
   rintro x y hd (rfl|hl)
   ·exact .inr (g3 x hd)
   ·exact .inr (hc x y hd hl)
  rw[show all.size - i=(all.size - (i+1))+1 by omega,List.range'_succ]
  rw[Good.tail hT r (i+1) _ (by omega) (by omega) oi (fun x=>by rw[hL x]; omega) g4]
theorem Good.split{all ops:Array Oper}(hall:p' all ops)(hT:J3 all ops.size)(hsz:ops.size<=all.size):∀(is:List Nat)(L:Nat->Prop),hQ all L->(∀i,L i->i<ops.size)->Good all L is->∃s1,is=s1++List.range' ops.size (all.size - ops.size)/\Good ops L s1
 |[],L,hc,hL,g=>by
  have:all.size<=ops.size:=by
   rcases Nat.lt_or_ge ops.size all.size with h|h
   ·have:=hL _ (g ops.size h); omega
   ·exact h
  exact⟨[],by rw[show all.size - ops.size=0 by omega]; rfl,fun i hi=>g i (by omega)⟩
 |i::r,L,hc,hL,g=>by
  have g0:=g
  obtain⟨g1,g2,g3,g4⟩:=g
  have oi:hQ all (fun x=>x=i\/ L x):=by
   rintro x y hd (rfl|hl)
   ·exact .inr (g3 x hd)
   ·exact .inr (hc x y hd hl)
  rcases Nat.lt_or_ge i ops.size with hi|hi
  ·obtain⟨s1,h1,h2⟩:=Good.split hall hT hsz r _ oi (fun x hx=>hx.elim (fun e=>e ▸ hi) (hL x)) g4
   refine⟨i::s1,by rw[h1]; rfl,hi,g2,fun k hk=>g3 k ?_,h2⟩
   obtain⟨o,e,ho,he⟩:=hk
   exact⟨o,e,hall _ _ ho,he⟩
  ·have hin:∀x,x<i->L x:=fun x hx=>hT i hi g1 x hx L hc g3
   have e:i=ops.size:=by
    rcases Nat.lt_or_ge ops.size i with h|h
    ·have:=hL _ (hin _ h); omega
    ·omega
   refine⟨[],?_,fun x hx=>hin x (by omega)⟩
   rw[List.nil_append]
   exact Good.tail hT (i::r) ops.size L (Nat.le_refl _) hsz hc (fun x=>⟨hL x,fun h=>hin x (by omega)⟩) g0
theorem vF(hT:PT P T){all ops:Array Oper}(hall:p' all ops)(CI:J3 all ops.size)(hsz:ops.size<=all.size)(hbk:∀i j,Gb all i j->i<j){S:St}{E:Nat->Bc}{cx:List gy}(xj:bH P X ops E S cx)
  {a:Act} {w:World} (hS:jH X S a w) {b:Frame} {k:List Item} {id:Nat} {F:bh} {M:Mem} {nx:Nat} (e1:look F=look (E (max 0 ops.size)).F) (e2:ab M=ab (E (max 0 ops.size)).M) (e3:nx=(E (max 0 ops.size)).lo):
  ∀cs,∃a' w',jH X ⟨F,M,nx⟩ a' w'/\Steps P (lone (b.atR a (.code (.region id all true)::k)) cs w) (lone (b.atR a' (.inRegion all (List.range' ops.size (all.size - ops.size))::k)) cs w'):=by
 intro cs
 obtain⟨ρ,I,W,FO⟩:=hS
 have GM:Good all (fun _=>False) (Region.schedule (P.follows .mixedOrders) all (w.tape w.drawn (.order b.fn id))):=by
  rw[hT.mix]
  simp only[Region.schedule,Bool.true_or,if_true,Region.linearise]
  have:=yN hbk all.size (w.tape w.drawn (.order b.fn id)) (Array.replicate all.size false) (by simp) (by
   have:=List.countP_le_length (l:=List.range all.size) (p:=fun i=> !(Array.replicate all.size false).getD i true)
   simpa[cr]using this)
  refine this.congr (fun i=> ?_)
  by_cases hi:i<all.size<;>simp[Array.getD,hi]
 obtain⟨s1,hs1,GM⟩:=Good.split hall CI hsz _ _ (fun _ _ _ h=>h) (fun _ h=>h.elim) GM
 have D0:sH X ops E S (fun _=>False) ρ I a w.drew:=by
  have eF:fl (gF ops E) (fun _=>False) ops.size (look S.F)=look S.F:=by
   generalize ops.size=m
   induction m with
   |zero=>rfl
   |succ m ih=>simpa[fl]using ih
  have eM:fl (gM E) (fun _=>False) ops.size (ab S.M)=ab S.M:=by
   generalize ops.size=m
   induction m with
   |zero=>rfl
   |succ m ih=>simpa[fl]using ih
  have hN:∀m,m<S.nx->NL ops.size E S (fun _=>False) m:=fun m hm=> .inl hm
  refine⟨by rw[eM]; exact (W.drew).nL hN,fun s=> ?_,FO.defers,FO.size⟩
  rw[eM,eF]
  have E1:=(W.ext (w':=w.drew) rfl rfl rfl (Nat.le_refl _) (fun _ _=>rfl) (fun _ h=>h) W.lt (fun _ _ h=>h)).1
  exact ((FO.rep s).yr E1 (fun _ h=>h)).wide hN
 obtain⟨a',w',ρ',I',hst,D'⟩:=xj.walk hall (tl:=List.range' ops.size (all.size - ops.size)) (b:=b) (k:=k) (cs:=cs) _ _ GM (fun _ _ _ h=>h) D0
 refine⟨a',w',⟨ρ',I',?_,?_⟩,?_⟩
 ·have:=D'.W
  rw[xj.sG ops.size (Nat.le_refl _)]at this
  show db X ρ' I' (ab M) (· <nx) w'
  rw[e2,Nat.zero_max]
  refine this.nL ?_
  rintro m (hm|⟨i,hl,hm⟩)
  ·have:=xj.lo (i:=0) (j:=ops.size) (by omega) (Nat.le_refl _)
   rw[xj.lo0]at this
   rw[Nat.zero_max]at e3
   show m<nx
   omega
  ·have h1:=((xj.ok i _ (Array.getElem?_eq_getElem hl.1)).nw m hm).2
   have h2:=xj.lo (i:=i+1) (j:=ops.size) (by omega) (Nat.le_refl _)
   rw[Nat.zero_max]at e3
   show m<nx
   omega
 ·refine⟨fun s=> ?_,D'.defers,D'.size⟩
  have:=D'.rep s
  rw[xj.sG ops.size (Nat.le_refl _),xj.GI ops.size (Nat.le_refl _)]at this
  show aP ρ' (lens (ab M)) I' w' (· <nx) (look F s) _
  rw[e1,e2,Nat.zero_max]
  refine this.wide ?_
  rintro m (hm|⟨i,hl,hm⟩)
  ·have:=xj.lo (i:=0) (j:=ops.size) (by omega) (Nat.le_refl _)
   rw[xj.lo0]at this
   rw[Nat.zero_max]at e3
   show m<nx
   omega
  ·have h1:=((xj.ok i _ (Array.getElem?_eq_getElem hl.1)).nw m hm).2
   have h2:=xj.lo (i:=i+1) (j:=ops.size) (by omega) (Nat.le_refl _)
   rw[Nat.zero_max]at e3
   show m<nx
   omega
 ·rw[<-hs1]at hst
  exact .head stepR_region_draw hst
theorem GN(hT:PT P T){ops:Array Oper}{S:St}{E:Nat->Bc}{cx:List gy}(xj:bH P X ops E S cx)
  {a:Act} {w:World} (hS:jH X S a w) {b:Frame} {k:List Item} {id:Nat} {F:bh} {M:Mem} {nx:Nat} (e1:look F=look (E (max 0 ops.size)).F) (e2:ab M=ab (E (max 0 ops.size)).M) (e3:nx=(E (max 0 ops.size)).lo):
  ∀cs,∃a' w',jH X ⟨F,M,nx⟩ a' w'/\Steps P (lone (b.atR a (.code (.region id ops true)::k)) cs w) (lone (b.atR a' k) cs w'):=by
 intro cs
 obtain⟨a',w',h1,h2⟩:=vF hT (fun _ _ h=>h) (fun j h1 h2=>by omega) (Nat.le_refl _) (fun i j=>xj.dir) xj hS (b:=b) (k:=k) (id:=id) e1 e2 e3 cs
 rw[show ops.size - ops.size=0 by omega]at h2
 exact⟨a',w',h1,h2.trans (.one stepR_region_end)⟩
end Go.AM
