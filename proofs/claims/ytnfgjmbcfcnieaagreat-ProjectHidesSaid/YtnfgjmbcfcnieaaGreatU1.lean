/- Of the reckoning machine, and what is proved with it: texts joined by program. -/
import Derived.Test.YtnfgjmbcfcnieaaGreatU0
import Derived.Test.YtnfgjmbcfcnieaaGreatK3
import Derived.Shelf.SlSortCmp.InsertionK
import Derived.Maps.Own
import Derived.Lib.SlKeysI
import Derived.Shelf.SlSortCmp.NoneTotal
import Derived.Shelf.SlSortCmp.WholeK
set_option linter.all false
namespace Go.UM
open Go.AM
set_option maxRecDepth 4000
theorem LD {w:Int} (h:w<=8):(256:Int) ^ w.toNat<=18446744073709551616:=by
 have:(256:Nat) ^ w.toNat<=256 ^ 8:=Nat.pow_le_pow_right (by decide) (by omega)
 have h2:((256:Int) ^ w.toNat)=((256 ^ w.toNat:Nat):Int):=by rw[Int.natCast_pow]; rfl
 omega
theorem xY (n:Nat):(1:Int)<=256 ^ n:=Int.pow_pos (by decide)
theorem BV {R:Env} (h:YV R) (w:Int) (hw:w<=8):R.Pc 63 [.int .i64 w] (.int .u64 (256 ^ w.toNat - 1)):=
 h.YW.enter 100 rfl fun X bb hfit hp=>by
  refine sh ?_
  refine gD 100 (fun i:Nat=>i<=w.toNat) (fun i=>⟨[(0,.int .i64 w),(3,.int .u64 (256 ^ i - 1)),(4,.int .i64 i)],[],0⟩) (fun i=>w.toNat - i) (0) ?_ ?_
  ·exact Nat.zero_le _
  ·intro i hi
   dsimp only
   refine sh ?_
   refine cS (fun h1=> ?_) (fun h1=> ?_)
   ·have hp8:(256:Int) ^ (i+1)<=18446744073709551616:=by
     have:=LD (w:=(i+1:Nat)) (by omega)
     simpa using this
    rw[Int.pow_succ]at hp8
    have hp1:=xY i
    refine sh ?_
    refine kI (i+1) ?_ ?_
    ·omega
    ·omega
   ·refine sh ?_
    refine rT ?_
    refine be ?_
    rw[show i=w.toNat by omega]
theorem H8 {R:Env} (h:Wd R) (b:List UInt8) (w:Int) (n:List Int) (hl:b.length+8*n.length<=1073741824) (hn:∀x ∈ n,0<=x/\x<=18446744073709551615):
  R.Mc 55 [.aH 1 (bA b),.int .i64 w,.aH 1 (bp .u64 n)] [] (.aN [.bc 0 (kK b w n).1.length,.int .i64 (kK b w n).2]) [(0,.arr (R.ty 4) 1 (bA (kK b w n).1))] 1:=
 h.o55.bC 100 0 rfl rfl rfl fun X bb hfit hp=>by
  generalize hq:kK b w n=q
  refine sh ?_
  refine cS (fun h1=> ?_) (fun h1=> ?_)
  ·rw[kK,if_pos (.inl h1)]at hq
   subst hq
   refine sh ?_
   exact rM [50]
  ·refine sh ?_
   refine cS (fun h2=> ?_) (fun h2=> ?_)
   ·rw[kK,if_pos (.inr h2)]at hq
    subst hq
    refine sh ?_
    exact rM [50]
   ·refine sh ?_
    refine gD 100 (fun k:Nat=>k<=n.length/\(n.take k).any (fun x=>decide (256 ^ w.toNat<=x))=false) (fun k=>⟨[(1,.int .i64 w),(2,.aH 1 (bp .u64 n)),(8,.bc 0 (b++(n.take k).flatMap (enc w.toNat)).length),(9,.int .i64 k)],[(0,.arr (R.ty 4) 1 (bA (b++(n.take k).flatMap (enc w.toNat))))],1⟩) (fun k=>n.length - k) (0) ?_ ?_
    ·exact⟨Nat.zero_le _,by simp⟩
    ·intro k hk
     dsimp only
     refine sh ?_
     refine cS (fun h3=> ?_) (fun h3=> ?_)
     ·obtain⟨x,hx⟩:∃u_,n[k]? =some u_:=⟨_,List.getElem?_eq_getElem (by first|omega|(simp<;>omega))⟩
      refine sh ?_
      refine aa hx ?_
      have mX:=hx
      have hx:=hn x (List.mem_of_getElem? mX)
      refine sh ?_
      refine ae.pure h.Ju.YW.hb (BV h.Ju w h2) rfl ?_
      refine sh ?_
      refine cS (fun h5=> ?_) (fun h5=> ?_)
      ·rw[zY (by omega) (by omega) (List.mem_of_getElem? mX) (by omega)]at hq
       subst hq
       refine sh ?_
       exact rM [50]
      ·have hnb:¬256 ^ w.toNat<=x:=by omega
       refine sh ?_
       refine aa mX ?_
       refine sh ?_
       refine gD 100 (fun i:Nat=>(i:Int)<=w) (fun i=>⟨[(1,.int .i64 w),(2,.aH 1 (bp .u64 n)),(8,.bc 0 (b++(n.take k).flatMap (enc w.toNat)++enc i x).length),(9,.int .i64 k),(10,.int .u64 (x / 256 ^ i)),(11,.int .i64 i)],[(0,.arr (R.ty 4) 1 (bA (b++(n.take k).flatMap (enc w.toNat)++enc i x)))],1⟩) (fun i=>w.toNat - i) (0) ?_ ?_
       ·show (0:Int)<=w
        omega
       ·intro i hi
        dsimp only
        refine sh ?_
        refine cS (fun h6=> ?_) (fun h6=> ?_)
        ·refine sh ?_
         refine bz ?_
         refine sh ?_
         refine⟨by rw[fS]; exact ug hl h2 h1 h3 h6,?_⟩
         have hxi:0<=x / 256 ^ i:=Int.ediv_nonneg hx.1 (by have:=xY i; omega)
         have hxl:x / 256 ^ i<=x:=Int.ediv_le_self _ hx.1
         refine sh ?_
         rw[Int.tdiv_eq_ediv_of_nonneg hxi]
         refine xL (by simp only[bf]; omega) ?_
         refine sh ?_
         refine nX (i+1) ?_ ?_ ⟨_,hp,rfl⟩ ?_ ?_
         ·omega
         ·omega
         ·refine be ?_
          rw[Int.pow_succ,Int.ediv_ediv_of_nonneg (by have:=xY i; omega)]
         ·refine be ?_
          simp[uh,Lk hxi]
        ·refine sh ?_
         refine nX (k+1) ?_ ?_ ⟨_,hp,rfl⟩ ?_ ?_
         ·refine⟨by omega,?_⟩
          rw[fj mX,hk.2,decide_eq_false hnb]; rfl
         ·omega
         ·refine be ?_
          rw[ar mX,show i=w.toNat by omega]; simp
         ·refine be ?_
          rw[ar mX,show i=w.toNat by omega]; simp
     ·have hkn:n.take k=n:=List.take_of_length_le (by omega)
      rw[hkn]at hk ⊢
      rw[pJ (by omega) (by omega) hk.2]at hq
      subst hq
      refine sh ?_
      exact rM [0]
theorem LF {w:Int} (h1:1<=w) (h2:w<=8):(256 ^ w.toNat - 1:Int) / 2=256 ^ w.toNat / 2 - 1:=by
 obtain h|h|h|h|h|h|h|h:w=1\/ w=2\/ w=3\/ w=4\/ w=5\/ w=6\/ w=7\/ w=8:=by omega
 all_goals (subst h; decide)
theorem LG {w:Int} (h1:1<=w) (h2:w<=8):(256 ^ w.toNat:Int) / 2<=9223372036854775808/\(128:Int)<=256 ^ w.toNat / 2/\(256 ^ w.toNat:Int)=2* (256 ^ w.toNat / 2):=by
 obtain h|h|h|h|h|h|h|h:w=1\/ w=2\/ w=3\/ w=4\/ w=5\/ w=6\/ w=7\/ w=8:=by omega
 all_goals (subst h; decide)
theorem EZ {R:Env} (h:N72 R) (b:List UInt8) (w:Int) (n:List Int) (hl:b.length+8*n.length<=1073741824) (hn:∀x ∈ n,bf .i64 x):
  R.Mc 72 [.aH 1 (bA b),.int .i64 w,.aH 1 (bp .i64 n)] [] (.aN [.bc 0 (ig b w n).1.length,.int .i64 (ig b w n).2]) [(0,.arr (R.ty 4) 1 (bA (ig b w n).1))] 1:=
 h.o72.bC 100 0 rfl rfl rfl fun X bb hfit hp=>by
  generalize hq:ig b w n=q
  refine sh ?_
  refine cS (fun h1=> ?_) (fun h1=> ?_)
  ·rw[ig,if_pos (.inl h1)]at hq
   subst hq
   refine sh ?_
   exact rM [50]
  ·refine sh ?_
   refine cS (fun h2=> ?_) (fun h2=> ?_)
   ·rw[ig,if_pos (.inr h2)]at hq
    subst hq
    refine sh ?_
    exact rM [50]
   ·refine sh ?_
    refine ae.pure h.Ju.YW.hb (BV h.Ju w h2) rfl ?_
    have hh:=LG h1 h2
    refine sh ?_
    rw[Int.tdiv_eq_ediv_of_nonneg (by omega),LF h1 h2]
    refine xL (by simp only[bf]; omega) ?_
    refine sh ?_
    refine gD 100 (fun k:Nat=>k<=n.length/\(n.take k).any (fun x=>decide (x< -(256 ^ w.toNat / 2))||decide (256 ^ w.toNat / 2<=x))=false) (fun k=>⟨[(0,.aH 1 (bA b)),(1,.int .i64 w),(2,.aH 1 (bp .i64 n)),(8,.int .i64 (256 ^ w.toNat / 2 - 1)),(9,.bc 0 ((n.take k).map fun x=>x % 256 ^ w.toNat).length),(10,.int .i64 k)],[(0,.arr (R.ty 6) 1 (bp .u64 ((n.take k).map fun x=>x % 256 ^ w.toNat)))],1⟩) (fun k=>n.length - k) (0) ?_ ?_
    ·exact⟨Nat.zero_le _,by simp⟩
    ·intro k hk
     dsimp only
     refine sh ?_
     refine cS (fun h3=> ?_) (fun h3=> ?_)
     ·obtain⟨x,hx⟩:∃u_,n[k]? =some u_:=⟨_,List.getElem?_eq_getElem (by first|omega|(simp<;>omega))⟩
      refine sh ?_
      refine aa hx ?_
      have mX:=hx
      have hx:=hn x (List.mem_of_getElem? mX)
      simp only[bf]at hx
      refine sh ?_
      refine cS (fun h4=> ?_) (fun h4=> ?_)
      ·rw[qu (by omega) (by omega) (List.mem_of_getElem? mX) (by omega)]at hq
       subst hq
       refine sh ?_
       exact rM [50]
      ·refine sh ?_
       refine aa mX ?_
       refine sh ?_
       refine cS (fun h5=> ?_) (fun h5=> ?_)
       ·rw[qu (by omega) (by omega) (List.mem_of_getElem? mX) (by omega)]at hq
        subst hq
        refine sh ?_
        exact rM [50]
       ·have hok:(n.take (k+1)).any (fun x=>decide (x< -(256 ^ w.toNat / 2))||decide (256 ^ w.toNat / 2<=x))=false:=by
         rw[fj mX,hk.2]
         simp only[Bool.false_or,Bool.or_eq_false_iff,decide_eq_false_iff_not]
         omega
        refine sh ?_
        refine aa mX ?_
        refine sh ?_
        refine bz ?_
        refine sh ?_
        refine aa mX ?_
        refine sh ?_
        refine cS (fun h6=> ?_) (fun h6=> ?_)
        ·refine sh ?_
         refine ae.pure h.Ju.YW.hb (BV h.Ju w h2) rfl ?_
         refine sh ?_
         refine aa mX ?_
         have hv:x % 256 ^ w.toNat=256 ^ w.toNat - 1 - (0 - (x+1)):=by
          rw[<-Int.add_emod_right,Int.emod_eq_of_lt (by omega) (by omega)]
          omega
         refine sh ?_
         refine nX (k+1) ?_ ?_ ⟨_,hp,rfl⟩ ?_ ?_
         ·exact⟨by omega,hok⟩
         ·omega
         ·refine be ?_
          rw[ar mX]; simp
         ·refine be ?_
          rw[ar mX]; simp[bp,hv]
        ·have hv:x % 256 ^ w.toNat=wr .u64 x:=by
          rw[Int.emod_eq_of_lt (by omega) (by omega),CO (k:= .u64) ⟨by omega,by omega⟩]
         refine sh ?_
         refine nX (k+1) ?_ ?_ ⟨_,hp,rfl⟩ ?_ ?_
         ·exact⟨by omega,hok⟩
         ·omega
         ·refine be ?_
          rw[ar mX]; simp
         ·refine be ?_
          rw[ar mX]; simp[bp,hv]
     ·have hkn:n.take k=n:=List.take_of_length_le (by omega)
      rw[hkn]at hk ⊢
      rw[ui (by omega) (by omega) hk.2]at hq
      subst hq
      refine sh ?_
      refine cM true [] (H8 h.M9 b w (n.map fun x=>x % 256 ^ w.toNat) (by simpa using hl) (zZ (b:=b) (by omega) h2)) ?_
      repeat (intro _; first|refine eK ?_|refine eP ?_)
      refine sh ?_
      exact rM [1]
structure eT (B:List UInt8) (r:Rd):Prop where
 m:B.length<=1073741824
 s:r.l=B.drop (B.length - r.l.length)
 made:r.made=true
theorem eT.len {B:List UInt8} {r:Rd} (h:eT B r):r.l.length<=B.length:=by rw[h.s]; simp
theorem eT.take {B:List UInt8} {r:Rd} (h:eT B r) (n:Int):eT B (r.take n).2:=by
 unfold Rd.take
 split
 ·exact h
 ·split
  ·exact⟨h.m,h.s,h.made⟩
  ·split
   ·exact⟨h.m,h.s,h.made⟩
   ·refine⟨h.m,?_,h.made⟩
    have h1:=h.s
    have h2:=h.len
    simp only[List.length_drop]
    conv=>lhs; rw[h1]
    rw[List.drop_drop]
    congr 1
    omega
theorem eT.num {B:List UInt8} {r:Rd} (h:eT B r) (w:Int):eT B (r.num w).2:=h.take _
theorem eT.int {B:List UInt8} {r:Rd} (h:eT B r) (w:Int):eT B (r.int w).2:=h.num w
theorem eT.err {B:List UInt8} {r:Rd} (h:eT B r) (e:Int):eT B {r with e:=e}:=⟨h.m,h.s,h.made⟩
theorem eT.new {B:List UInt8} (h:B.length<=1073741824):eT B ⟨B,0,true⟩:=⟨h,by simp,rfl⟩
end Go.UM
namespace Go.UM
open Go.AM
set_option maxRecDepth 4000
theorem xZ {b:List UInt8} {w:Int} {n:List Int} (h1:1<=w) (h2:w<=8) (h:∀x ∈ n,0<=x/\x<256 ^ w.toNat):kK b w n=(b++n.flatMap (enc w.toNat),0):=
 pJ h1 h2 (by
  rw[List.any_eq_false]
  intro x hx
  have:=h x hx
  simp; omega)
structure Fits {α:Type} (f:Rd->α × Rd) (g:α->List UInt8) (ok:α->Prop):Prop where
 made:∀r:Rd,r.made=true->(f r).2.made=true
 ke:∀r:Rd,ok (f r).1
 back:∀r:Rd,r.made=true->(f r).2.e=0->r.e=0/\r.l=g (f r).1++(f r).2.l
 there:∀ (x:α) (l:List UInt8),ok x->f ⟨g x++l,0,true⟩=(x,⟨l,0,true⟩)
def CZ {α:Type} (f:Rd->α × Rd):Nat->Rd->List α × Rd
 |0,r=>([],r)
 |n+1,r=>((CZ f n r).1++ [(f (CZ f n r).2).1],(f (CZ f n r).2).2)
theorem Fits.seq {α β:Type} {f:Rd->α × Rd} {g:α->List UInt8} {ok:α->Prop} {f':Rd->β × Rd} {g':β->List UInt8} {JX:β->Prop} (h:Fits f g ok) (h':Fits f' g' JX):
  Fits (fun r=>(((f r).1,(f' (f r).2).1),(f' (f r).2).2)) (fun x:α × β=>g x.1++g' x.2) (fun x=>ok x.1/\JX x.2):=by
 refine⟨fun r hm=>h'.made _ (h.made r hm),fun r=>⟨h.ke r,h'.ke _⟩,fun r hm he=> ?_,fun x l hx=> ?_⟩
 ·have h1:=h'.back _ (h.made r hm) he
  have h2:=h.back r hm h1.1
  exact⟨h2.1,by rw[h2.2,h1.2,List.append_assoc]⟩
 ·rw[List.append_assoc,h.there x.1 _ hx.1]
  rw[h'.there x.2 l hx.2]
theorem Fits.as {α β:Type} {f:Rd->α × Rd} {g:α->List UInt8} {ok:α->Prop} (h:Fits f g ok) (to:α->β) (of:β->α) (g':β->List UInt8) (JX:β->Prop)
  (h1:∀x,ok x->g' (to x)=g x) (h2:∀x,ok x->JX (to x)) (h3:∀y,JX y->g' y=g (of y)/\ok (of y)/\to (of y)=y):Fits (fun r=>(to (f r).1,(f r).2)) g' JX:=by
 refine⟨h.made,fun r=>h2 _ (h.ke r),fun r hm he=> ?_,fun y l hy=> ?_⟩
 ·have:=h.back r hm he
  exact⟨this.1,by rw[this.2,h1 _ (h.ke r)]⟩
 ·have h4:=h3 y hy
  rw[h4.1,h.there _ _ h4.2.1,h4.2.2]
end Go.UM
namespace Go.UM
open Go.AM
set_option maxRecDepth 4000
theorem QU (b:List T3) (m:Int):(bJ b).take (min (b.length:Int) m).toNat=bJ (b.take m.toNat):=by rw[EM,tW]
theorem abK (b:List (Int × Int)) (m:Int):(cW b).take (min (b.length:Int) m).toNat=cW (b.take m.toNat):=by rw[EV,tW]
structure Ms.Ok (m:Ms):Prop where
 v:∀p ∈ m.v,bf .i64 p.a/\bf .i64 p.b/\bf .i64 p.c
 uv:∀p ∈ m.uv,bf .i64 p.1/\bf .i64 p.2
 t:∀p ∈ m.t,bf .i64 p.a/\bf .i64 p.b/\bf .i64 p.c
structure Ms.R2 (m:Ms):Prop where
 v:1<=m.v.length/\m.v.length<=64
 t:1<=m.t.length/\m.t.length<=64
 uv:m.uv.length=m.v.length
 pv:∀p ∈ m.v,-4096<=p.a/\p.a<=4096/\ -4096<=p.b/\p.b<=4096/\ -4096<=p.c/\p.c<=4096
 pu:∀x ∈ m.uv,0<=x.1/\x.1<=65535/\0<=x.2/\x.2<=65535
 pt:∀t ∈ m.t,0<=t.a/\t.a<m.v.length/\0<=t.b/\t.b<m.v.length/\0<=t.c/\t.c<m.v.length/\t.a≠t.b/\t.b≠t.c/\t.c≠t.a
theorem jt {m:Ms} (h:jI m=0):m.R2:=by
 unfold jI at h
 split at h
 ·cases h
 ·split at h
  ·cases h
  ·split at h
   ·cases h
   ·split at h
    ·cases h
    ·rename_i h1 h2 h3 h4
     simp only[not_or,Bool.not_eq_true,List.any_eq_false]at h3 h4
     refine⟨by omega,by omega,by omega,fun p hp=> ?_,fun p hp=> ?_,fun p hp=> ?_⟩
     ·have:=h3 p hp; simpa[lD]using this
     ·have:=h4.1 p hp; simpa[rU]using this
     ·have:=h4.2 p hp; simpa[mE]using this
theorem Ms.R2.jE {m:Ms} (h:m.R2):jI m=0:=by
 unfold jI
 have h1:=h.v
 have h2:=h.t
 have h3:=h.uv
 rw[if_neg (by omega),if_neg (by omega),if_neg,if_neg]
 ·simp only[not_or,Bool.not_eq_true,List.any_eq_false]
  exact⟨fun p hp=>by have:=h.pu p hp; simpa[rU]using this,fun p hp=>by have:=h.pt p hp; simpa[mE]using this⟩
 ·simp only[Bool.not_eq_true,List.any_eq_false]
  exact fun p hp=>by have:=h.pv p hp; simpa[lD]using this
def Ms.ju (m:Ms):Ms:=⟨m.v.take 70,m.uv.take 70,m.t.take 70⟩
theorem LH {R:Env} (h:P0 R) (m:Ms):R.Pc 191 [.agg m.row] (.agg m.ju.row):=
 h.VL.enter 100 rfl fun X bb hfit hp=>by
  refine sh ?_
  refine iL (by exact QU _ _) ?_
  refine sh ?_
  refine iL (by exact abK _ _) ?_
  refine sh ?_
  refine iL (by exact QU _ _) ?_
  refine sh ?_
  exact rT
def fk (p:T3):List UInt8:=enc 2 (p.a % 65536)++enc 2 (p.b % 65536)++enc 2 (p.c % 65536)
def jv (x:Int × Int):List UInt8:=enc 2 x.1++enc 2 x.2
def lY (t:T3):List UInt8:=[u8 t.a,u8 t.b,u8 t.c]
def BW (m:Ms):List UInt8:=[u8 m.v.length,u8 m.t.length]++m.v.flatMap fk++m.uv.flatMap jv++m.t.flatMap lY
def uj (m:Ms):List UInt8 × Int:=if jI m≠0 then ([],jI m)else (BW m,0)
theorem cr {α:Type} {l:List α} {k:Nat} {x:α} {f:α->List UInt8} (h:l[k]? =some x):(l.take (k+1)).flatMap f=(l.take k).flatMap f++f x:=by
 rw[ar h]; simp
theorem uk {b:List UInt8} {p:T3} (h: -4096<=p.a/\p.a<=4096/\ -4096<=p.b/\p.b<=4096/\ -4096<=p.c/\p.c<=4096):ig b 2 [p.a,p.b,p.c]=(b++fk p,0):=by
 rw[ui (by decide) (by decide),pJ (by decide) (by decide)]
 ·simp[fk]
 ·simp; omega
 ·simp; omega
theorem LI {b:List UInt8} {x:Int × Int} (h:0<=x.1/\x.1<=65535/\0<=x.2/\x.2<=65535):kK b 2 [x.1,x.2]=(b++jv x,0):=by
 rw[pJ (by decide) (by decide)]
 ·simp[jv]
 ·simp; omega
theorem z7 {l:List T3}:(l.flatMap fk).length=6*l.length:=by
 induction l with
 |nil=>rfl
 |cons x r ih=>simp[fk]at ih ⊢; omega
theorem C0 {l:List (Int × Int)}:(l.flatMap jv).length=4*l.length:=by
 induction l with
 |nil=>rfl
 |cons x r ih=>simp[jv]at ih ⊢; omega
theorem Nl {l:List T3}:(l.flatMap lY).length=3*l.length:=by
 induction l with
 |nil=>rfl
 |cons x r ih=>simp[lY]at ih ⊢; omega
theorem E3 {R:Env} (h:Pm R) (m:Ms):R.Pc 196 [.agg m.row] (.aN [.aH 1 (bA (uj m).1),.int .i64 (uj m).2]):=
 h.U3.enter 100 rfl fun X bb hfit hp=>by
  refine sh ?_
  refine ae.pure h.n193.Pl.hb (zX h.n193 m) rfl ?_
  generalize hq:uj m=q
  refine sh ?_
  refine cS (fun h1=> ?_) (fun h1=> ?_)
  ·rw[uj,if_pos h1]at hq
   subst hq
   refine sh ?_
   exact rT
  ·rw[uj,if_neg (by simpa using h1)]at hq
   subst hq
   have may:=jt h1
   have mv:=may.v
   have mt:=may.t
   have mu:=may.uv
   have w8:((u8 m.v.length).toNat:Int)=m.v.length:=u8_in (by omega)
   have t8:((u8 m.t.length).toNat:Int)=m.t.length:=u8_in (by omega)
   refine sh ?_
   refine ao.inv 100 (fun i:Nat=>i<=m.v.length) (fun i=>⟨[(1,.loc 0 1 0 0),(5,.bc 1 ([u8 m.v.length,u8 m.t.length]++(m.v.take i).flatMap fk).length),(27,.aH 3 (bJ m.v)),(28,.int .i64 m.v.length),(29,.int .i64 i)],[(1,.arr (R.ty 4) 1 (bA ([u8 m.v.length,u8 m.t.length]++(m.v.take i).flatMap fk))),(0,.var (R.ty 25) m.row)],2⟩) (fun i=>m.v.length - i) (0) ?_ ⟨⟨_,hp,rfl⟩,?_,?_⟩ ?_
   ·exact Nat.zero_le _
   ·exact iV
   ·refine be ?_
    simp[bA,w8,t8]
   ·intro i hi
    dsimp only
    refine sh ?_
    refine cS (fun h2=> ?_) (fun h2=> ?_)
    ·obtain⟨y,hy⟩:∃u_,m.v[i]? =some u_:=⟨_,List.getElem?_eq_getElem (by first|omega|(simp<;>omega))⟩
     refine sh ?_
     refine aa hy ?_
     have Gc:=may.pv y (List.mem_of_getElem? hy)
     have c1:=z6 h.RY ([u8 m.v.length,u8 m.t.length]++(m.v.take i).flatMap fk) 2 [y.a,y.b,y.c] (by simp only[List.length_append,z7,List.length_take,List.length_cons,List.length_nil]; omega) (by simp[bf]; omega)
     rw[uk Gc]at c1
     refine sh ?_
     refine cM true [] (c1) ?_
     repeat (intro _; first|refine eK ?_|refine eP ?_)
     refine sh ?_
     refine RV [0,4] (i+1) ?_ ?_ ?_
     ·omega
     ·omega
     ·refine pC ?_ ?_
      rw[cr hy]; simp
      rw[cr hy]; simp
    ·rw[show m.v.take i=m.v from List.take_of_length_le (by omega)]
     have hB:([u8 m.v.length,u8 m.t.length]++m.v.flatMap fk).length<=400:=by
      simp only[List.length_append,z7,List.length_cons,List.length_nil]; omega
     have e:BW m=[u8 m.v.length,u8 m.t.length]++m.v.flatMap fk++m.uv.flatMap jv++m.t.flatMap lY:=rfl
     rw[e]
     generalize [u8 m.v.length,u8 m.t.length]++m.v.flatMap fk=B at hB ⊢
     refine sh ?_
     refine gD 100 (fun i:Nat=>i<=m.uv.length) (fun i=>⟨[(1,.loc 0 1 0 0),(5,.bc 1 (B++(m.uv.take i).flatMap jv).length),(47,.aH 2 (cW m.uv)),(48,.int .i64 m.uv.length),(49,.int .i64 i)],[(1,.arr (R.ty 4) 1 (bA (B++(m.uv.take i).flatMap jv))),(0,.var (R.ty 25) m.row)],2⟩) (fun i=>m.uv.length - i) (0) ?_ ?_
     ·exact Nat.zero_le _
     ·intro i hi
      dsimp only
      refine sh ?_
      refine cS (fun h3=> ?_) (fun h3=> ?_)
      ·obtain⟨x,hx⟩:∃u_,m.uv[i]? =some u_:=⟨_,List.getElem?_eq_getElem (by first|omega|(simp<;>omega))⟩
       refine sh ?_
       refine aa hx ?_
       have bY:=may.pu x (List.mem_of_getElem? hx)
       have c1:=CY h.Jt (B++(m.uv.take i).flatMap jv) 2 [x.1,x.2] (by simp only[List.length_append,C0,List.length_take,List.length_cons,List.length_nil]; omega) (by simp; omega)
       rw[LI bY]at c1
       refine sh ?_
       refine cM true [] (c1) ?_
       repeat (intro _; first|refine eK ?_|refine eP ?_)
       refine sh ?_
       refine RV [0,4] (i+1) ?_ ?_ ?_
       ·omega
       ·omega
       ·refine pC ?_ ?_
        rw[cr hx]; simp
        rw[cr hx]; simp
      ·rw[show m.uv.take i=m.uv from List.take_of_length_le (by omega)]
       have hB2:(B++m.uv.flatMap jv).length<=800:=by
        simp only[List.length_append,C0]; omega
       generalize B++m.uv.flatMap jv=C at hB2 ⊢
       refine sh ?_
       refine gD 100 (fun i:Nat=>i<=m.t.length) (fun i=>⟨[(5,.bc 1 (C++(m.t.take i).flatMap lY).length),(67,.aH 3 (bJ m.t)),(68,.int .i64 m.t.length),(69,.int .i64 i)],[(1,.arr (R.ty 4) 1 (bA (C++(m.t.take i).flatMap lY)))],2⟩) (fun i=>m.t.length - i) (0) ?_ ?_
       ·exact Nat.zero_le _
       ·intro i hi
        dsimp only
        refine sh ?_
        refine cS (fun h4=> ?_) (fun h4=> ?_)
        ·obtain⟨y,hy⟩:∃u_,m.t[i]? =some u_:=⟨_,List.getElem?_eq_getElem (by first|omega|(simp<;>omega))⟩
         refine sh ?_
         refine aa hy ?_
         have Gc:=may.pt y (List.mem_of_getElem? hy)
         refine sh ?_
         refine nD ?_ (by simp only[fS,List.length_append,Nl,List.length_take]; simp; omega)
         refine sh ?_
         refine nX (i+1) ?_ ?_ ⟨_,hp,rfl⟩ ?_ ?_
         ·omega
         ·omega
         ·refine be ?_
          rw[cr hy]; simp[lY]
         ·refine be ?_
          rw[cr hy]; simp[lY,bA]
          refine⟨(u8_in ?_).symm,(u8_in ?_).symm,(u8_in ?_).symm⟩<;>omega
        ·rw[show m.t.take i=m.t from List.take_of_length_le (by omega)]
         refine sh ?_
         exact rT
end Go.UM
namespace Go.UM
open Go.AM
set_option maxRecDepth 4000
theorem x0 {R:Env} (h:K7 R) (p:T3):R.Pc 213 [.agg (t3 p),.int .i64 4096] (.bool (lD p)):=
 h.HF.enter 60 rfl fun X bb hfit hp=>by
  unfold lD
  refine sh ?_
  refine cS (fun h1=> ?_) (fun h1=> ?_)
  ·refine sh ?_
   refine rT ?_
   refine be ?_
   simp; omega
  ·refine sh ?_
   refine cS (fun h2=> ?_) (fun h2=> ?_)
   ·refine sh ?_
    refine rT ?_
    refine be ?_
    simp; omega
   ·refine sh ?_
    refine cS (fun h3=> ?_) (fun h3=> ?_)
    ·refine sh ?_
     refine rT ?_
     refine be ?_
     simp; omega
    ·refine sh ?_
     refine cS (fun h4=> ?_) (fun h4=> ?_)
     ·refine sh ?_
      refine rT ?_
      refine be ?_
      simp; omega
     ·refine sh ?_
      refine cS (fun h5=> ?_) (fun h5=> ?_)
      ·refine sh ?_
       refine rT ?_
       refine be ?_
       simp; omega
      ·refine sh ?_
       refine rT ?_
       refine be ?_
       rw[Bool.eq_iff_iff]; simp only[decide_eq_true_eq,Bool.not_eq_true',decide_eq_false_iff_not]; omega
theorem ul {R:Env} (h:K8 R) (m:Ms):R.Pc 198 [.agg m.row] (.int .i64 (jI m)):=
 h.Qg.enter 100 rfl fun X bb hfit hp=>by
  generalize hq:jI m=q
  refine sh ?_
  refine cS (fun h1=> ?_) (fun h1=> ?_)
  ·rw[jI,if_pos (.inl (by omega))]at hq
   subst hq
   refine sh ?_
   exact rT
  ·refine sh ?_
   refine cS (fun h2=> ?_) (fun h2=> ?_)
   ·rw[jI,if_pos (.inr (by omega))]at hq
    subst hq
    refine sh ?_
    exact rT
   ·have g1:¬ (64<m.v.length\/ 64<m.t.length):=by omega
    refine sh ?_
    refine cS (fun h3=> ?_) (fun h3=> ?_)
    ·rw[jI,if_neg g1,if_pos (.inl (by omega))]at hq
     subst hq
     refine sh ?_
     exact rT
    ·refine sh ?_
     refine cS (fun h4=> ?_) (fun h4=> ?_)
     ·rw[jI,if_neg g1,if_pos (.inr (.inl (by omega)))]at hq
      subst hq
      refine sh ?_
      exact rT
     ·refine sh ?_
      refine cS (fun h5=> ?_) (fun h5=> ?_)
      ·rw[jI,if_neg g1,if_pos (.inr (.inr (by omega)))]at hq
       subst hq
       refine sh ?_
       exact rT
      ·rw[jI,if_neg g1,if_neg (by omega)]at hq
       refine sh ?_
       refine gD 100 (fun k:Nat=>k<=m.v.length/\(m.v.take k).any lD=false) (fun k=>⟨[(1,.loc 0 1 0 0),(3,.int .i64 k)],[(0,.var (R.ty 25) m.row)],1⟩) (fun k=>m.v.length - k) (0) ?_ ?_
       ·exact⟨Nat.zero_le _,by simp⟩
       ·intro k hk
        dsimp only
        refine sh ?_
        refine cS (fun h6=> ?_) (fun h6=> ?_)
        ·obtain⟨x,hx⟩:∃u_,m.v[k]? =some u_:=⟨_,List.getElem?_eq_getElem (by first|omega|(simp<;>omega))⟩
         refine sh ?_
         refine aa hx ?_
         refine sh ?_
         refine ae.pure h.n213.HF.hb (x0 h.n213 x) rfl ?_
         refine sh ?_
         refine cS (fun h7=> ?_) (fun h7=> ?_)
         ·rw[if_pos (ec hx h7)]at hq
          subst hq
          refine sh ?_
          exact rT
         ·refine sh ?_
          refine kI (k+1) ?_ ?_
          ·refine⟨by omega,?_⟩
           rw[dd hx,hk.2,h7]; rfl
          ·omega
        ·have hv:=hk.2
         rw[List.take_of_length_le (by omega)]at hv
         rw[if_neg (by rw[hv]; decide)]at hq
         refine sh ?_
         refine gD 100 (fun k:Nat=>k<=m.uv.length/\(m.uv.take k).any rU=false) (fun k=>⟨[(1,.loc 0 1 0 0),(4,.int .i64 k)],[(0,.var (R.ty 25) m.row)],1⟩) (fun k=>m.uv.length - k) (0) ?_ ?_
         ·exact⟨Nat.zero_le _,by simp⟩
         ·intro k hk
          dsimp only
          refine sh ?_
          refine cS (fun h7=> ?_) (fun h7=> ?_)
          ·obtain⟨x,hx⟩:∃u,m.uv[k]? =some u:=⟨_,List.getElem?_eq_getElem (by omega)⟩
           refine sh ?_
           refine ao.one 100 ?_
           refine sh ?_
           refine af (by decide) ?_
           refine sh ?_
           refine aa hx ?_
           refine sh ?_
           refine cS (fun a1=> ?_) (fun a1=> ?_)
           ·rw[if_pos (.inl (ec hx (by simp[rU]; omega)))]at hq
            subst hq
            refine sh ?_
            exact rT
           ·refine sh ?_
            refine aa hx ?_
            refine sh ?_
            refine cS (fun a2=> ?_) (fun a2=> ?_)
            ·rw[if_pos (.inl (ec hx (by simp[rU]; omega)))]at hq
             subst hq
             refine sh ?_
             exact rT
            ·refine sh ?_
             refine ao.one 100 ?_
             refine sh ?_
             refine af (by decide) ?_
             refine sh ?_
             refine aa hx ?_
             refine sh ?_
             refine cS (fun a3=> ?_) (fun a3=> ?_)
             ·rw[if_pos (.inl (ec hx (by simp[rU]; omega)))]at hq
              subst hq
              refine sh ?_
              exact rT
             ·refine sh ?_
              refine aa hx ?_
              refine sh ?_
              refine cS (fun a4=> ?_) (fun a4=> ?_)
              ·rw[if_pos (.inl (ec hx (by simp[rU]; omega)))]at hq
               subst hq
               refine sh ?_
               exact rT
              ·refine sh ?_
               refine ao.one 100 ?_
               refine sh ?_
               refine aw (by decide) ?_
               refine sh ?_
               refine kI (k+1) ?_ ?_
               ·refine⟨by omega,?_⟩
                rw[dd hx,hk.2]
                simp[rU]; omega
               ·omega
          ·have hu:=hk.2
           rw[List.take_of_length_le (by omega)]at hu
           refine sh ?_
           refine gD 100 (fun k:Nat=>k<=m.t.length/\(m.t.take k).any (mE m.v.length)=false) (fun k=>⟨[(1,.loc 0 1 0 0),(6,.int .i64 k)],[(0,.var (R.ty 25) m.row)],1⟩) (fun k=>m.t.length - k) (0) ?_ ?_
           ·exact⟨Nat.zero_le _,by simp⟩
           ·intro k hk
            dsimp only
            refine sh ?_
            refine cS (fun h8=> ?_) (fun h8=> ?_)
            ·obtain⟨t,ht⟩:∃u,m.t[k]? =some u:=⟨_,List.getElem?_eq_getElem (by omega)⟩
             refine sh ?_
             refine ao.one 100 ?_
             refine sh ?_
             refine af (by decide) ?_
             refine sh ?_
             refine aa ht ?_
             refine sh ?_
             refine cS (fun a1=> ?_) (fun a1=> ?_)
             ·rw[if_pos (.inr (ec ht (by simp[mE]; omega)))]at hq
              subst hq
              refine sh ?_
              exact rT
             ·refine sh ?_
              refine aa ht ?_
              refine sh ?_
              refine cS (fun a2=> ?_) (fun a2=> ?_)
              ·rw[if_pos (.inr (ec ht (by simp[mE]; omega)))]at hq
               subst hq
               refine sh ?_
               exact rT
              ·refine sh ?_
               refine aa ht ?_
               refine sh ?_
               refine aa ht ?_
               refine sh ?_
               refine cS (fun a3=> ?_) (fun a3=> ?_)
               ·rw[if_pos (.inr (ec ht (by simp[mE]; omega)))]at hq
                subst hq
                refine sh ?_
                exact rT
               ·refine sh ?_
                refine ao.one 100 ?_
                refine sh ?_
                refine af (by decide) ?_
                refine sh ?_
                refine aa ht ?_
                refine sh ?_
                refine cS (fun a4=> ?_) (fun a4=> ?_)
                ·rw[if_pos (.inr (ec ht (by simp[mE]; omega)))]at hq
                 subst hq
                 refine sh ?_
                 exact rT
                ·refine sh ?_
                 refine aa ht ?_
                 refine sh ?_
                 refine cS (fun a5=> ?_) (fun a5=> ?_)
                 ·rw[if_pos (.inr (ec ht (by simp[mE]; omega)))]at hq
                  subst hq
                  refine sh ?_
                  exact rT
                 ·refine sh ?_
                  refine aa ht ?_
                  refine sh ?_
                  refine aa ht ?_
                  refine sh ?_
                  refine cS (fun a6=> ?_) (fun a6=> ?_)
                  ·rw[if_pos (.inr (ec ht (by simp[mE]; omega)))]at hq
                   subst hq
                   refine sh ?_
                   exact rT
                  ·refine sh ?_
                   refine ao.one 100 ?_
                   refine sh ?_
                   refine af (by decide) ?_
                   refine sh ?_
                   refine aa ht ?_
                   refine sh ?_
                   refine cS (fun a7=> ?_) (fun a7=> ?_)
                   ·rw[if_pos (.inr (ec ht (by simp[mE]; omega)))]at hq
                    subst hq
                    refine sh ?_
                    exact rT
                   ·refine sh ?_
                    refine aa ht ?_
                    refine sh ?_
                    refine cS (fun a8=> ?_) (fun a8=> ?_)
                    ·rw[if_pos (.inr (ec ht (by simp[mE]; omega)))]at hq
                     subst hq
                     refine sh ?_
                     exact rT
                    ·refine sh ?_
                     refine aa ht ?_
                     refine sh ?_
                     refine aa ht ?_
                     refine sh ?_
                     refine cS (fun a9=> ?_) (fun a9=> ?_)
                     ·rw[if_pos (.inr (ec ht (by simp[mE]; omega)))]at hq
                      subst hq
                      refine sh ?_
                      exact rT
                     ·refine sh ?_
                      refine ao.one 100 ?_
                      refine sh ?_
                      refine aw (by decide) ?_
                      refine sh ?_
                      refine kI (k+1) ?_ ?_
                      ·refine⟨by omega,?_⟩
                       rw[dd ht,hk.2]
                       simp[mE]; omega
                      ·omega
            ·have hw:=hk.2
             rw[List.take_of_length_le (by omega)]at hw
             rw[if_neg (by rw[hu,hw]; decide)]at hq
             subst hq
             refine sh ?_
             exact rT
theorem pK {R:Env} (h:K9 R) (b:List UInt8) (p:T3) (hl:b.length<=1000000) (ok: -4096<=p.a/\p.a<=4096/\ -4096<=p.b/\p.b<=4096/\ -4096<=p.c/\p.c<=4096):
  R.Mc 212 [.aH 1 (bA b),.agg (t3 p)] [] (.bc 0 (b++fk p).length) [(0,.arr (R.ty 4) 1 (bA (b++fk p)))] 1:=
 h.abq.bC 60 0 rfl rfl rfl fun X bb hfit hp=>by
  have c1:=EZ h.n72 b 2 [p.a,p.b,p.c] (by simp; omega) (by simp[bf]; omega)
  rw[uk ok]at c1
  refine sh ?_
  refine cM true [] (c1) ?_
  repeat (intro _; first|refine eK ?_|refine eP ?_)
  refine sh ?_
  exact rM [2]
theorem BX {R:Env} (h:Qh R) (m:Ms):R.Pc 197 [.agg m.row] (.aN [.aH 1 (bA (uj m).1),.int .i64 (uj m).2]):=
 h.Wj.enter 100 rfl fun X bb hfit hp=>by
  refine sh ?_
  refine ae.pure h.n198.Qg.hb (ul h.n198 m) rfl ?_
  generalize hq:uj m=q
  refine sh ?_
  refine cS (fun h1=> ?_) (fun h1=> ?_)
  ·rw[uj,if_pos h1]at hq
   subst hq
   refine sh ?_
   exact rT
  ·rw[uj,if_neg (by simpa using h1)]at hq
   subst hq
   have may:=jt h1
   have mv:=may.v
   have mt:=may.t
   have mu:=may.uv
   have w8:((u8 m.v.length).toNat:Int)=m.v.length:=u8_in (by omega)
   have t8:((u8 m.t.length).toNat:Int)=m.t.length:=u8_in (by omega)
   refine sh ?_
   refine ao.inv 100 (fun i:Nat=>i<=m.v.length) (fun i=>⟨[(1,.loc 0 1 0 0),(5,.bc 1 ([u8 m.v.length,u8 m.t.length]++(m.v.take i).flatMap fk).length),(6,.int .i64 i)],[(1,.arr (R.ty 4) 1 (bA ([u8 m.v.length,u8 m.t.length]++(m.v.take i).flatMap fk))),(0,.var (R.ty 25) m.row)],2⟩) (fun i=>m.v.length - i) (0) ?_ ⟨⟨_,hp,rfl⟩,?_,?_⟩ ?_
   ·exact Nat.zero_le _
   ·exact iV
   ·refine be ?_
    simp[bA,w8,t8]
   ·intro i hi
    dsimp only
    refine sh ?_
    refine cS (fun h2=> ?_) (fun h2=> ?_)
    ·obtain⟨y,hy⟩:∃u_,m.v[i]? =some u_:=⟨_,List.getElem?_eq_getElem (by first|omega|(simp<;>omega))⟩
     refine sh ?_
     refine aa hy ?_
     have Gc:=may.pv y (List.mem_of_getElem? hy)
     refine sh ?_
     refine cM true [] (pK h.n212 ([u8 m.v.length,u8 m.t.length]++(m.v.take i).flatMap fk) y (by simp only[List.length_append,z7,List.length_take,List.length_cons,List.length_nil]; omega) Gc) ?_
     repeat (intro _; first|refine eK ?_|refine eP ?_)
     refine sh ?_
     refine RV [0,2] (i+1) ?_ ?_ ?_
     ·omega
     ·omega
     ·refine pC ?_ ?_
      rw[cr hy]; simp
      rw[cr hy]; simp
    ·rw[show m.v.take i=m.v from List.take_of_length_le (by omega)]
     have hB:([u8 m.v.length,u8 m.t.length]++m.v.flatMap fk).length<=400:=by
      simp only[List.length_append,z7,List.length_cons,List.length_nil]; omega
     have e:BW m=[u8 m.v.length,u8 m.t.length]++m.v.flatMap fk++m.uv.flatMap jv++m.t.flatMap lY:=rfl
     rw[e]
     generalize [u8 m.v.length,u8 m.t.length]++m.v.flatMap fk=B at hB ⊢
     refine sh ?_
     refine gD 100 (fun i:Nat=>i<=m.uv.length) (fun i=>⟨[(1,.loc 0 1 0 0),(5,.bc 1 (B++(m.uv.take i).flatMap jv).length),(7,.int .i64 i)],[(1,.arr (R.ty 4) 1 (bA (B++(m.uv.take i).flatMap jv))),(0,.var (R.ty 25) m.row)],2⟩) (fun i=>m.uv.length - i) (0) ?_ ?_
     ·exact Nat.zero_le _
     ·intro i hi
      dsimp only
      refine sh ?_
      refine cS (fun h3=> ?_) (fun h3=> ?_)
      ·obtain⟨x,hx⟩:∃u,m.uv[i]? =some u:=⟨_,List.getElem?_eq_getElem (by omega)⟩
       have bY:=may.pu x (List.mem_of_getElem? hx)
       have hC:(B++(m.uv.take i).flatMap jv).length<=800:=by
        simp only[List.length_append,C0,List.length_take]; omega
       have hst:B++(m.uv.take (i+1)).flatMap jv=(B++(m.uv.take i).flatMap jv)++jv x:=by rw[cr hx]; simp
       generalize B++(m.uv.take i).flatMap jv=C at hC hst ⊢
       refine sh ?_
       refine ao.one 100 ?_
       refine sh ?_
       refine af (by decide) ?_
       refine sh ?_
       refine aa hx ?_
       refine sh ?_
       rw[Int.tmod_eq_emod_of_nonneg (by omega)]
       refine wI ?_
       refine sh ?_
       refine aa hx ?_
       refine sh ?_
       rw[Int.tdiv_eq_ediv_of_nonneg (by omega)]
       refine wI ?_
       refine sh ?_
       refine ao.one 100 ?_
       refine sh ?_
       refine af (by decide) ?_
       refine sh ?_
       refine aa hx ?_
       refine sh ?_
       rw[Int.tmod_eq_emod_of_nonneg (by omega)]
       refine wI ?_
       refine sh ?_
       refine aa hx ?_
       refine sh ?_
       rw[Int.tdiv_eq_ediv_of_nonneg (by omega)]
       refine wI ?_
       refine sh ?_
       refine ao.one 100 ?_
       refine sh ?_
       refine aw (by decide) ?_
       have f1:∀v:Int,0<=v/\v<=65535->enc 2 v=[u8 (v % 256),u8 (v / 256)]:=fun v hv=>by
        unfold enc
        simp[List.range_succ,BJ]
       refine sh ?_
       refine nX (i+1) ?_ ?_ ⟨_,hp,rfl⟩ ?_ ?_
       ·omega
       ·omega
       ·refine be ?_
        rw[hst]; simp[jv]
       ·refine be ?_
        rw[hst]
        have g1:((u8 (x.1 % 256)).toNat:Int)=x.1 % 256:=u8_in (by omega)
        have g2:((u8 (x.1 / 256)).toNat:Int)=x.1 / 256:=u8_in (by omega)
        have g3:((u8 (x.2 % 256)).toNat:Int)=x.2 % 256:=u8_in (by omega)
        have g4:((u8 (x.2 / 256)).toNat:Int)=x.2 / 256:=u8_in (by omega)
        simp[jv,f1 x.1 (by omega),f1 x.2 (by omega),bA,g1,g2,g3,g4]
      ·rw[show m.uv.take i=m.uv from List.take_of_length_le (by omega)]
       have hB2:(B++m.uv.flatMap jv).length<=800:=by
        simp only[List.length_append,C0]; omega
       generalize B++m.uv.flatMap jv=B2 at hB2 ⊢
       refine sh ?_
       refine gD 100 (fun i:Nat=>i<=m.t.length) (fun i=>⟨[(1,.loc 0 1 0 0),(5,.bc 1 (B2++(m.t.take i).flatMap lY).length),(9,.int .i64 i)],[(1,.arr (R.ty 4) 1 (bA (B2++(m.t.take i).flatMap lY))),(0,.var (R.ty 25) m.row)],2⟩) (fun i=>m.t.length - i) (0) ?_ ?_
       ·exact Nat.zero_le _
       ·intro i hi
        dsimp only
        refine sh ?_
        refine cS (fun h4=> ?_) (fun h4=> ?_)
        ·obtain⟨y,hy⟩:∃u,m.t[i]? =some u:=⟨_,List.getElem?_eq_getElem (by omega)⟩
         have Gc:=may.pt y (List.mem_of_getElem? hy)
         have hC:(B2++(m.t.take i).flatMap lY).length<=1200:=by
          simp only[List.length_append,Nl,List.length_take]; omega
         have hst:B2++(m.t.take (i+1)).flatMap lY=(B2++(m.t.take i).flatMap lY)++lY y:=by rw[cr hy]; simp
         generalize B2++(m.t.take i).flatMap lY=C at hC hst ⊢
         refine sh ?_
         refine ao.one 100 ?_
         refine sh ?_
         refine af (by decide) ?_
         refine sh ?_
         refine aa hy ?_
         refine sh ?_
         refine ao.one 100 ?_
         refine sh ?_
         refine af (by decide) ?_
         refine sh ?_
         refine aa hy ?_
         refine sh ?_
         refine ao.one 100 ?_
         refine sh ?_
         refine af (by decide) ?_
         refine sh ?_
         refine aa hy ?_
         refine sh ?_
         refine ao.one 100 ?_
         refine sh ?_
         refine aw (by decide) ?_
         refine sh ?_
         refine nX (i+1) ?_ ?_ ⟨_,hp,rfl⟩ ?_ ?_
         ·omega
         ·omega
         ·refine be ?_
          rw[hst]; simp[lY]
         ·refine be ?_
          rw[hst]
          have g1:((u8 y.a).toNat:Int)=y.a:=u8_in (by omega)
          have g2:((u8 y.b).toNat:Int)=y.b:=u8_in (by omega)
          have g3:((u8 y.c).toNat:Int)=y.c:=u8_in (by omega)
          simp[lY,bA,g1,g2,g3]
        ·rw[show m.t.take i=m.t from List.take_of_length_le (by omega)]
         refine sh ?_
         exact rT
end Go.UM
namespace Go.UM
open Go.AM
set_option maxRecDepth 4000
structure jD where
 k:Int
 c:T3
 r:Int
def jD.row (m:jD):List AV:=[.int .i64 m.k,.int .i64 m.c.a,.int .i64 m.c.b,.int .i64 m.c.c,.int .i64 m.r]
structure jw where
 k:Int
 c:T3
 p:T3
 u:T3
 v:T3
def jw.row (l:jw):List AV:=[.int .i64 l.k,.int .i64 l.c.a,.int .i64 l.c.b,.int .i64 l.c.c,.int .i64 l.p.a,.int .i64 l.p.b,.int .i64 l.p.c,.int .i64 l.u.a,.int .i64 l.u.b,.int .i64 l.u.c,.int .i64 l.v.a,.int .i64 l.v.b,.int .i64 l.v.c]
def outs (n x:Int):Bool:=decide (x<0\/ n<x)
def jJ (m:jD):Int:=if m.k<0\/ 4<m.k\/ m.r<0\/ 65535<m.r\/ m.c.a<0\/ 65535<m.c.a\/ m.c.b<0\/ 65535<m.c.b\/ m.c.c<0\/ 65535<m.c.c then 5 else 0
def um (R:Env) (n:Int):ah:=[(0,.var (R.ty 10) [.int .i64 n])]
theorem QV {R:Env} (h:Pn R) (n x:Int):R.Mc 322 [.int .i64 x,.loc 0 1 0 0] (um R n) (.bool (outs n x)) (um R n) 1:=
 h.aa4.bC 60 1 rfl rfl rfl fun X bb hfit hp=>by
  unfold outs
  refine sh ?_
  refine cS (fun h1=> ?_) (fun h1=> ?_)
  ·refine sh ?_
   refine rM [0] ?_
   refine be ?_
   simp; omega
  ·refine sh ?_
   refine rM [0] ?_
   refine be ?_
   rw[Bool.eq_iff_iff]; simp only[decide_eq_true_eq]; omega
theorem H9 {R:Env} (h:OK R) (g:Nat) (l:List Int) (p:Int->Bool) (n:Int) (hc:∀x ∈ l,R.Mc g [.int .i64 x,.loc 0 1 0 0] (um R n) (.bool (p x)) (um R n) 1) (hl:l.length<=1073741824):
  R.Mc 324 [.aH 1 (bp .i64 l),R.cl g [.loc 0 1 0 0]] (um R n) (.int .i64 (pH l p)) (um R n) 1:=
 h.aaT.bC 100 1 rfl rfl rfl fun X bb hfit hp=>by
  refine sh ?_
  refine gD 100 (fun i:Nat=>i<=l.length/\(l.take i).any p=false) (fun i=>⟨[(0,.aH 1 (bp .i64 l)),(1,R.cl g [.loc 0 1 0 0]),(7,.int .i64 l.length),(8,.int .i64 i)],um R n,1⟩) (fun i=>l.length - i) (0) ?_ ?_
  ·exact⟨Nat.zero_le _,by simp⟩
  ·intro i hi
   dsimp only
   refine sh ?_
   refine cS (fun h1=> ?_) (fun h1=> ?_)
   ·obtain⟨x,hx⟩:∃u_,l[i]? =some u_:=⟨_,List.getElem?_eq_getElem (by first|omega|(simp<;>omega))⟩
    refine sh ?_
    refine aa hx ?_
    refine sh ?_
    refine cM false [0] (hc x (List.mem_of_getElem? hx)) ?_
    repeat (intro _; first|refine eK ?_|refine eP ?_)
    refine sh ?_
    refine cS (fun h2=> ?_) (fun h2=> ?_)
    ·refine sh ?_
     refine rM [0] ?_
     refine be ?_
     unfold pH
     rw[if_pos (ec hx h2),pI hx h2 hi.2]
    ·refine sh ?_
     refine kI (i+1) ?_ ?_
     ·refine⟨by omega,?_⟩
      rw[dd hx,hi.2,h2]; rfl
     ·omega
   ·refine sh ?_
    refine rM [0] ?_
    refine be ?_
    unfold pH
    have h3:=hi.2
    rw[List.take_of_length_le (by omega)]at h3
    rw[if_neg (by simp[h3])]
theorem E4 {R:Env} (h:OL R) (g:Nat) (l:List Int) (p:Int->Bool) (n:Int) (hc:∀x ∈ l,R.Mc g [.int .i64 x,.loc 0 1 0 0] (um R n) (.bool (p x)) (um R n) 1) (hl:l.length<=1073741824):
  R.Mc 323 [.aH 1 (bp .i64 l),R.cl g [.loc 0 1 0 0]] (um R n) (.bool (l.any p)) (um R n) 1:=
 h.aaU.bC 100 1 rfl rfl rfl fun X bb hfit hp=>by
  refine sh ?_
  refine cM false [0] (H9 h.n324 g l p n hc hl) ?_
  repeat (intro _; first|refine eK ?_|refine eP ?_)
  refine sh ?_
  refine rM [0] ?_
  refine be ?_
  exact sf
theorem mY {R:Env} (h:KK R) (n:Int) (l:List Int) (hl:l.length<=1073741824):R.Pc 307 [.int .i64 n,.aH 1 (bp .i64 l)] (.bool (l.any (outs n))):=
 h.HD.enter 100 rfl fun X bb hfit hp=>by
  refine sh ?_
  refine cM false [0] (E4 h.n323 322 l (outs n) n (fun x _=>QV h.n322 n x) hl) ?_
  repeat (intro _; first|refine eK ?_|refine eP ?_)
  refine sh ?_
  exact rT
theorem QW {R:Env} (h:Po R) (m:jD):R.Pc 290 [.agg m.row] (.int .i64 (jJ m)):=
 h.U7.enter 100 rfl fun X bb hfit hp=>by
  generalize hq:jJ m=q
  refine sh ?_
  refine cM true [] ((mY h.n307 4 [m.k] (by simp)).mc h.n307.HD.hb) ?_
  repeat (intro _; first|refine eK ?_|refine eP ?_)
  refine sh ?_
  refine cS (fun h1=> ?_) (fun h1=> ?_)
  ·simp[outs]at h1
   rw[jJ,if_pos (by omega)]at hq
   subst hq
   refine sh ?_
   exact rT
  ·refine sh ?_
   refine cM true [] ((mY h.n307 65535 [m.c.a,m.c.b,m.c.c,m.r] (by simp)).mc h.n307.HD.hb) ?_
   repeat (intro _; first|refine eK ?_|refine eP ?_)
   refine sh ?_
   refine cS (fun h2=> ?_) (fun h2=> ?_)
   ·simp[outs]at h2
    rw[jJ,if_pos (by omega)]at hq
    subst hq
    refine sh ?_
    exact rT
   ·simp[outs]at h1 h2
    rw[jJ,if_neg (by omega)]at hq
    subst hq
    refine sh ?_
    exact rT
def QX (p:T3):Bool:=p.a==0&&(p.b==0&&p.c==0)
def kL (l:jw):Int:=if l.k<0\/ 2<l.k\/ l.c.a<0\/ 1048576<l.c.a\/ l.c.b<0\/ 1048576<l.c.b\/ l.c.c<0\/ 1048576<l.c.c then 5
 else if lD l.p=true\/ lD l.u=true\/ lD l.v=true then 8
 else if l.k=2/\QX l.p=false\/ l.k≠1/\(QX l.u=false\/ QX l.v=false)then 5 else 0
theorem uo {R:Env} (h:Pp R) (p:T3):R.Pc 308 [.agg (t3 p)] (.bool (lD p)):=
 h.KM.enter 60 rfl fun X bb hfit hp=>by
  unfold lD
  refine sh ?_
  refine cS (fun h1=> ?_) (fun h1=> ?_)
  ·refine sh ?_
   refine rT ?_
   refine be ?_
   simp; omega
  ·refine sh ?_
   refine rT ?_
   refine be ?_
   rw[Bool.eq_iff_iff]; simp only[Bool.not_eq_true',decide_eq_true_eq,decide_eq_false_iff_not]; omega
theorem QY {R:Env} (h:Pq R) (l:jw):R.Pc 292 [.agg l.row] (.int .i64 (kL l)):=
 h.U'.enter 100 rfl fun X bb hfit hp=>by
  generalize hq:kL l=q
  refine sh ?_
  refine ae.let [0] rfl hp rfl ?_
  repeat ((intro _u; clear _u); first|refine eZ ?_|refine eZ ?_ (by simp; omega)|refine Ex.drop ?_)
  refine sh ?_
  refine cM true [] ((mY h.n307 2 [l.k] (by simp)).mc h.n307.HD.hb) ?_
  repeat (intro _; first|refine eK ?_|refine eP ?_)
  refine sh ?_
  refine cS (fun h1=> ?_) (fun h1=> ?_)
  ·simp[outs]at h1
   rw[kL,if_pos (by omega)]at hq
   subst hq
   refine sh ?_
   exact rT
  ·refine sh ?_
   refine ae.pure h.n307.HD.hb (mY h.n307 1048576 [l.c.a,l.c.b,l.c.c] (by simp)) rfl ?_
   refine sh ?_
   refine cS (fun h2=> ?_) (fun h2=> ?_)
   ·simp[outs]at h2
    rw[kL,if_pos (by omega)]at hq
    subst hq
    refine sh ?_
    exact rT
   ·simp[outs]at h1 h2
    rw[kL,if_neg (by omega)]at hq
    refine sh ?_
    refine ae.pure h.n308.KM.hb (uo h.n308 l.p) rfl ?_
    refine sh ?_
    refine cS (fun h3=> ?_) (fun h3=> ?_)
    ·rw[if_pos (.inl h3)]at hq
     subst hq
     refine sh ?_
     exact rT
    ·refine sh ?_
     refine ae.pure h.n308.KM.hb (uo h.n308 l.u) rfl ?_
     refine sh ?_
     refine cS (fun h4=> ?_) (fun h4=> ?_)
     ·rw[if_pos (.inr (.inl h4))]at hq
      subst hq
      refine sh ?_
      exact rT
     ·refine sh ?_
      refine ae.pure h.n308.KM.hb (uo h.n308 l.v) rfl ?_
      refine sh ?_
      refine cS (fun h5=> ?_) (fun h5=> ?_)
      ·rw[if_pos (.inr (.inr h5))]at hq
       subst hq
       refine sh ?_
       exact rT
      ·rw[if_neg (by simp[h3,h4,h5])]at hq
       refine sh ?_
       refine cS (fun h6=> ?_) (fun h6=> ?_)
       ·refine sh ?_
        refine cS (fun h7=> ?_) (fun h7=> ?_)
        ·rw[if_pos (.inl ⟨h6,h7⟩)]at hq
         subst hq
         refine sh ?_
         exact rT
        ·refine sh ?_
         refine cS (fun h8=> ?_) (fun h8=> ?_)
         ·rw[if_pos (.inr ⟨by omega,.inl h8⟩)]at hq
          subst hq
          refine sh ?_
          exact rT
         ·refine sh ?_
          refine cS (fun h9=> ?_) (fun h9=> ?_)
          ·rw[if_pos (.inr ⟨by omega,.inr h9⟩)]at hq
           subst hq
           refine sh ?_
           exact rT
          ·rw[if_neg (by simp[QX,h7,h8,h9])]at hq
           subst hq
           refine sh ?_
           exact rT
       ·refine sh ?_
        refine cS (fun h7=> ?_) (fun h7=> ?_)
        ·refine sh ?_
         refine cS (fun h8=> ?_) (fun h8=> ?_)
         ·rw[if_pos (.inr ⟨by omega,.inl h8⟩)]at hq
          subst hq
          refine sh ?_
          exact rT
         ·refine sh ?_
          refine cS (fun h9=> ?_) (fun h9=> ?_)
          ·rw[if_pos (.inr ⟨by omega,.inr h9⟩)]at hq
           subst hq
           refine sh ?_
           exact rT
          ·rw[if_neg (by simp[QX,h6,h8,h9])]at hq
           subst hq
           refine sh ?_
           exact rT
        ·have h10:l.k=1:=by omega
         rw[if_neg (by simp[h10])]at hq
         subst hq
         refine sh ?_
         exact rT
theorem LJ {R:Env} (h:Qi R) (m:jD):R.Pc 291 [.agg m.row] (.int .i64 (jJ m)):=
 h.Wm.enter 100 rfl fun X bb hfit hp=>by
  generalize hq:jJ m=q
  refine sh ?_
  refine cS (fun h1=> ?_) (fun h1=> ?_)
  ·rw[jJ,if_pos (by omega)]at hq
   subst hq
   refine sh ?_
   exact rT
  ·refine sh ?_
   refine cS (fun h2=> ?_) (fun h2=> ?_)
   ·rw[jJ,if_pos (by omega)]at hq
    subst hq
    refine sh ?_
    exact rT
   ·refine sh ?_
    refine cS (fun h3=> ?_) (fun h3=> ?_)
    ·rw[jJ,if_pos (by omega)]at hq
     subst hq
     refine sh ?_
     exact rT
    ·refine sh ?_
     refine cS (fun h4=> ?_) (fun h4=> ?_)
     ·rw[jJ,if_pos (by omega)]at hq
      subst hq
      refine sh ?_
      exact rT
     ·refine sh ?_
      refine ao.one 100 ?_
      refine sh ?_
      refine af (by decide) ?_
      refine sh ?_
      refine cS (fun a1=> ?_) (fun a1=> ?_)
      ·rw[jJ,if_pos (by omega)]at hq
       subst hq
       refine sh ?_
       exact rT
      ·refine sh ?_
       refine cS (fun a2=> ?_) (fun a2=> ?_)
       ·rw[jJ,if_pos (by omega)]at hq
        subst hq
        refine sh ?_
        exact rT
       ·refine sh ?_
        refine ao.one 100 ?_
        refine sh ?_
        refine af (by decide) ?_
        refine sh ?_
        refine cS (fun b1=> ?_) (fun b1=> ?_)
        ·rw[jJ,if_pos (by omega)]at hq
         subst hq
         refine sh ?_
         exact rT
        ·refine sh ?_
         refine cS (fun b2=> ?_) (fun b2=> ?_)
         ·rw[jJ,if_pos (by omega)]at hq
          subst hq
          refine sh ?_
          exact rT
         ·refine sh ?_
          refine ao.one 100 ?_
          refine sh ?_
          refine af (by decide) ?_
          refine sh ?_
          refine cS (fun c1=> ?_) (fun c1=> ?_)
          ·rw[jJ,if_pos (by omega)]at hq
           subst hq
           refine sh ?_
           exact rT
          ·refine sh ?_
           refine cS (fun c2=> ?_) (fun c2=> ?_)
           ·rw[jJ,if_pos (by omega)]at hq
            subst hq
            refine sh ?_
            exact rT
           ·refine sh ?_
            refine ao.one 100 ?_
            refine sh ?_
            refine aw (by decide) ?_
            rw[jJ,if_neg (by omega)]at hq
            subst hq
            refine sh ?_
            exact rT
theorem LL {R:Env} (h:Qj R) (l:jw):R.Pc 293 [.agg l.row] (.int .i64 (kL l)):=
 h.Wo.enter 100 rfl fun X bb hfit hp=>by
  generalize hq:kL l=q
  refine sh ?_
  refine cS (fun h1=> ?_) (fun h1=> ?_)
  ·rw[kL,if_pos (by omega)]at hq
   subst hq
   refine sh ?_
   exact rT
  ·refine sh ?_
   refine cS (fun h2=> ?_) (fun h2=> ?_)
   ·rw[kL,if_pos (by omega)]at hq
    subst hq
    refine sh ?_
    exact rT
   ·refine sh ?_
    refine ao.one 100 ?_
    refine sh ?_
    refine af (by decide) ?_
    refine sh ?_
    refine cS (fun a1=> ?_) (fun a1=> ?_)
    ·rw[kL,if_pos (by omega)]at hq
     subst hq
     refine sh ?_
     exact rT
    ·refine sh ?_
     refine cS (fun a2=> ?_) (fun a2=> ?_)
     ·rw[kL,if_pos (by omega)]at hq
      subst hq
      refine sh ?_
      exact rT
     ·refine sh ?_
      refine ao.one 100 ?_
      refine sh ?_
      refine af (by decide) ?_
      refine sh ?_
      refine cS (fun b1=> ?_) (fun b1=> ?_)
      ·rw[kL,if_pos (by omega)]at hq
       subst hq
       refine sh ?_
       exact rT
      ·refine sh ?_
       refine cS (fun b2=> ?_) (fun b2=> ?_)
       ·rw[kL,if_pos (by omega)]at hq
        subst hq
        refine sh ?_
        exact rT
       ·refine sh ?_
        refine ao.one 100 ?_
        refine sh ?_
        refine af (by decide) ?_
        refine sh ?_
        refine cS (fun c1=> ?_) (fun c1=> ?_)
        ·rw[kL,if_pos (by omega)]at hq
         subst hq
         refine sh ?_
         exact rT
        ·refine sh ?_
         refine cS (fun c2=> ?_) (fun c2=> ?_)
         ·rw[kL,if_pos (by omega)]at hq
          subst hq
          refine sh ?_
          exact rT
         ·refine sh ?_
          refine ao.one 100 ?_
          refine sh ?_
          refine aw (by decide) ?_
          rw[kL,if_neg (by omega)]at hq
          refine sh ?_
          refine ae.pure h.n213.HF.hb (x0 h.n213 l.p) rfl ?_
          refine sh ?_
          refine cS (fun h3=> ?_) (fun h3=> ?_)
          ·rw[if_pos (.inl h3)]at hq
           subst hq
           refine sh ?_
           exact rT
          ·refine sh ?_
           refine ae.pure h.n213.HF.hb (x0 h.n213 l.u) rfl ?_
           refine sh ?_
           refine cS (fun h4=> ?_) (fun h4=> ?_)
           ·rw[if_pos (.inr (.inl h4))]at hq
            subst hq
            refine sh ?_
            exact rT
           ·refine sh ?_
            refine ae.pure h.n213.HF.hb (x0 h.n213 l.v) rfl ?_
            refine sh ?_
            refine cS (fun h5=> ?_) (fun h5=> ?_)
            ·rw[if_pos (.inr (.inr h5))]at hq
             subst hq
             refine sh ?_
             exact rT
            ·rw[if_neg (by simp[h3,h4,h5])]at hq
             refine sh ?_
             refine cS (fun h6=> ?_) (fun h6=> ?_)
             ·refine sh ?_
              refine cS (fun h7=> ?_) (fun h7=> ?_)
              ·rw[if_pos (.inl ⟨h6,h7⟩)]at hq
               subst hq
               refine sh ?_
               exact rT
              ·refine sh ?_
               refine af (by (simp[h6])) ?_
               refine sh ?_
               refine cS (fun h8=> ?_) (fun h8=> ?_)
               ·rw[if_pos (.inr ⟨by omega,.inl h8⟩)]at hq
                subst hq
                refine sh ?_
                exact rT
               ·refine sh ?_
                refine cS (fun h9=> ?_) (fun h9=> ?_)
                ·rw[if_pos (.inr ⟨by omega,.inr h9⟩)]at hq
                 subst hq
                 refine sh ?_
                 exact rT
                ·rw[if_neg (by simp[QX,h7,h8,h9])]at hq
                 subst hq
                 refine sh ?_
                 exact rT
             ·refine sh ?_
              refine cS (fun h7=> ?_) (fun h7=> ?_)
              refine sh ?_
              refine cS (fun h8=> ?_) (fun h8=> ?_)
              ·rw[if_pos (.inr ⟨by omega,.inl h8⟩)]at hq
               subst hq
               refine sh ?_
               exact rT
              ·refine sh ?_
               refine cS (fun h9=> ?_) (fun h9=> ?_)
               ·rw[if_pos (.inr ⟨by omega,.inr h9⟩)]at hq
                subst hq
                refine sh ?_
                exact rT
               ·rw[if_neg (by simp[QX,h6,h8,h9])]at hq
                subst hq
                refine sh ?_
                exact rT
              ·have h10:l.k=1:=by omega
               rw[if_neg (by simp[h10])]at hq
               subst hq
               refine sh ?_
               exact rT
end Go.UM
namespace Go.UM
open Go.AM
set_option maxRecDepth 4000
def idx (l:List Int) (x:Int):Int:=if x ∈ l then (l.idxOf x:Int)else -1
theorem z8 {x:Int}:∀ {l:List Int} {i:Nat},l[i]? =some x->x ∉ l.take i->l.idxOf x=i
 |[],_,h,_=>by simp at h
 |a::r,0,h,_=>by simp at h; simp[h]
 |a::r,i+1,h,hn=>by
  simp only[List.take_succ_cons,List.mem_cons,not_or]at hn
  rw[List.idxOf_cons]
  have:(a==x)=false:=by simpa using fun e=>hn.1 e.symm
  rw[this,z8 (by simpa using h) hn.2]
  rfl
theorem LM {R:Env} (h:OA R) (l:List Int) (x:Int) (hl:l.length<=1073741824):R.Pc 106 [.aH 1 (bp .i64 l),.int .i64 x] (.int .i64 (idx l x)):=
 h.Tw.enter 100 rfl fun X bb hfit hp=>by
  refine sh ?_
  refine gD 100 (fun i:Nat=>i<=l.length/\x ∉ l.take i) (fun i=>⟨[(0,.aH 1 (bp .i64 l)),(1,.int .i64 x),(7,.int .i64 l.length),(8,.int .i64 i)],[],0⟩) (fun i=>l.length - i) (0) ?_ ?_
  ·exact⟨Nat.zero_le _,by simp⟩
  ·intro i hi
   dsimp only
   refine sh ?_
   refine cS (fun h1=> ?_) (fun h1=> ?_)
   ·obtain⟨y,hy⟩:∃u_,l[i]? =some u_:=⟨_,List.getElem?_eq_getElem (by first|omega|(simp<;>omega))⟩
    refine sh ?_
    refine aa hy ?_
    refine sh ?_
    refine cS (fun h2=> ?_) (fun h2=> ?_)
    ·subst h2
     refine sh ?_
     refine rT ?_
     refine be ?_
     unfold idx
     rw[if_pos (List.mem_of_getElem? hy),z8 hy hi.2]
    ·refine sh ?_
     refine kI (i+1) ?_ ?_
     ·refine⟨by omega,?_⟩
      rw[ar hy]
      simp only[List.mem_append,List.mem_singleton,not_or]
      exact⟨hi.2,h2⟩
     ·omega
   ·refine sh ?_
    refine rT ?_
    refine be ?_
    unfold idx
    rw[if_neg]
    rw[<-List.take_of_length_le (l:=l) (i:=i) (by omega)]
    exact hi.2
theorem BY {R:Env} (h:OB R) (l:List Int) (x:Int) (hl:l.length<=1073741824):R.Pc 100 [.aH 1 (bp .i64 l),.int .i64 x] (.bool (decide (x ∈ l))):=
 h.Ty.enter 100 rfl fun X bb hfit hp=>by
  refine sh ?_
  refine ae.pure h.n106.Tw.hb (LM h.n106 l x hl) rfl ?_
  refine sh ?_
  refine rT ?_
  refine be ?_
  unfold idx
  by_cases hx:x ∈ l
  ·rw[if_pos hx]; simp[hx]
  ·rw[if_neg hx]; simp[hx]
end Go.UM
namespace Go.UM
open Go.AM
set_option maxRecDepth 4000
structure ii where
 side:Int
 t:List T3
def ii.row (x:ii):List AV:=[.int .i64 x.side,.aH 3 (bJ x.t)]
def T3.ke (x:T3):Bool:=decide (0<=x.a)&&decide (0<=x.b)&&decide (0<=x.c)&&decide (x.a<=255)&&decide (x.b<=255)&&decide (x.c<=255)
theorem T3.fm (x:T3):x.ke=true↔(0<=x.a/\x.a<=255)/\(0<=x.b/\x.b<=255)/\0<=x.c/\x.c<=255:=by
 simp only[T3.ke,Bool.and_eq_true,decide_eq_true_eq]
 omega
def kM:List Int:=[1,2,4,8,16]
def fJ (x:ii):Int:=if x.side ∉ kM\/(x.t.length:Int)≠x.side*x.side then 5 else if x.t.all T3.ke=true then 0 else 5
theorem lE {x:ii} (h:x.side ∈ kM):x.side=1\/ x.side=2\/ x.side=4\/ x.side=8\/ x.side=16:=by
 simpa[kM]using h
theorem aU {x:ii} {y:T3} (hy:y ∈ x.t) (h:y.ke=false):fJ x=5:=by
 unfold fJ
 split
 ·rfl
 ·rw[if_neg]
  intro ha
  rw[List.all_eq_true.1 ha y hy]at h
  exact Bool.noConfusion h
theorem dW {α:Type} {n:List α} {k:Nat} {x:α} {p:α->Bool} (h:n[k]? =some x):(n.take (k+1)).all p=((n.take k).all p&&p x):=by
 rw[ar h]; simp
theorem H' {R:Env} (h:YQ R) (x:ii) (hl:x.t.length<=1073741824):R.Pc 84 [.agg x.row] (.int .i64 (fJ x)):=
 h.o84.enter 100 rfl fun X bb hfit hp=>by
  refine sh ?_
  refine cM true [] ((BY h.n100 kM x.side (by decide)).mc h.n100.Ty.hb) ?_
  repeat (intro _; first|refine eK ?_|refine eP ?_)
  generalize hq:fJ x=q
  refine sh ?_
  refine cS (fun h1=> ?_) (fun h1=> ?_)
  ·rw[fJ,if_pos (.inl h1)]at hq
   subst hq
   refine sh ?_
   exact rT
  ·have h2:=lE h1
   have hsq:x.side*x.side<=256/\0<=x.side*x.side:=by
    rcases h2 with h|h|h|h|h<;>rw[h]<;>decide
   refine sh ?_
   refine cS (fun h3=> ?_) (fun h3=> ?_)
   ·rw[fJ,if_pos (.inr h3)]at hq
    subst hq
    refine sh ?_
    exact rT
   ·have hz:¬ (x.side ∉ kM\/(x.t.length:Int)≠x.side*x.side):=by simp[h1,h3]
    refine sh ?_
    refine gD 100 (fun i:Nat=>i<=x.t.length/\(x.t.take i).all T3.ke=true) (fun i=>⟨[(22,.aH 3 (bJ x.t)),(23,.int .i64 x.t.length),(24,.int .i64 i)],[],10⟩) (fun i=>x.t.length - i) (0) ?_ ?_
    ·exact⟨Nat.zero_le _,rfl⟩
    ·intro i hi
     dsimp only
     refine sh ?_
     refine cS (fun h4=> ?_) (fun h4=> ?_)
     ·obtain⟨y,hy⟩:∃u_,x.t[i]? =some u_:=⟨_,List.getElem?_eq_getElem (by first|omega|(simp<;>omega))⟩
      refine sh ?_
      refine aa hy ?_
      have E5:=T3.fm y
      refine sh ?_
      refine cS (fun h5=> ?_) (fun h5=> ?_)
      ·have hb:y.ke=false:=by rw[Bool.eq_false_iff,ne_eq,E5]; omega
       rw[aU (List.mem_of_getElem? hy) hb]at hq
       subst hq
       refine sh ?_
       exact rT
      ·refine sh ?_
       refine cS (fun h6=> ?_) (fun h6=> ?_)
       ·have hb:y.ke=false:=by rw[Bool.eq_false_iff,ne_eq,E5]; omega
        rw[aU (List.mem_of_getElem? hy) hb]at hq
        subst hq
        refine sh ?_
        exact rT
       ·refine sh ?_
        refine kI (i+1) ?_ ?_
        ·refine⟨by omega,?_⟩
         rw[dW hy,hi.2,Bool.true_and,E5]
         omega
        ·omega
     ·rw[fJ,if_neg hz,if_pos]at hq
      ·subst hq
       refine sh ?_
       exact rT
      ·have:=hi.2
       rwa[List.take_of_length_le (by omega)]at this
end Go.UM
namespace Go.UM
open Go.AM
set_option maxRecDepth 4000
structure Aa (t:ii):Prop where
 s:t.side ∈ kM
 l:(t.t.length:Int)=t.side*t.side
 g:t.t.all T3.ke=true
theorem sg {t:ii} (h:fJ t=0):Aa t:=by
 unfold fJ at h
 split at h
 ·exact absurd h (by decide)
 ·rename_i h1
  split at h
  ·rename_i h2
   simp only[not_or,Decidable.not_not]at h1
   exact⟨h1.1,h1.2,h2⟩
  ·exact absurd h (by decide)
theorem Aa.jE {t:ii} (h:Aa t):fJ t=0:=by
 unfold fJ
 rw[if_neg (by simp[h.s,h.l]),if_pos h.g]
def ii.ix (t:ii) (x y:Int):Nat:=(y % t.side*t.side+x % t.side).toNat
def ii.at (t:ii) (x y:Int):T3:=t.t.getD (t.ix x y) ⟨0,0,0⟩
theorem Aa.ix {t:ii} (h:Aa t) (x y:Int):0<=y % t.side/\y % t.side<t.side/\0<=x % t.side/\x % t.side<t.side/\t.side<=16/\1<=t.side/\0<=y % t.side*t.side/\y % t.side*t.side+x % t.side<t.side*t.side/\t.side*t.side<=256:=by
 have hs:=lE h.s
 have h1:1<=t.side/\t.side<=16:=by omega
 have h2:=Int.emod_nonneg y (show t.side≠0 by omega)
 have h3:=Int.emod_lt_of_pos y (show 0<t.side by omega)
 have h4:=Int.emod_nonneg x (show t.side≠0 by omega)
 have h5:=Int.emod_lt_of_pos x (show 0<t.side by omega)
 have h6:y % t.side*t.side<=(t.side - 1)*t.side:=Int.mul_le_mul_of_nonneg_right (by omega) (by omega)
 have h7:0<=y % t.side*t.side:=Int.mul_nonneg h2 (by omega)
 have h8:t.side*t.side<=16*16:=Int.mul_le_mul h1.2 h1.2 (by omega) (by decide)
 rw[Int.sub_mul]at h6
 exact⟨h2,h3,h4,h5,h1.2,h1.1,h7,by omega,by omega⟩
def avg (a b c d:T3):T3:=⟨(a.a+b.a+c.a+d.a+2) / 4,(a.b+b.b+c.b+d.b+2) / 4,(a.c+b.c+c.c+d.c+2) / 4⟩
def ii.next (t:ii) (s i:Int):T3:=avg (t.at (2* (i % s)) (2* (i / s))) (t.at (2* (i % s)+1) (2* (i / s))) (t.at (2* (i % s)) (2* (i / s)+1)) (t.at (2* (i % s)+1) (2* (i / s)+1))
def cG (l:List T3):List UInt8:=l.flatMap fun x=>[u8 x.a,u8 x.b,u8 x.c]
def mF (t:ii):List UInt8 × Int:=if fJ t≠0 then ([],fJ t)else (u8 t.side::cG t.t,0)
theorem uq:∀l:List T3,(cG l).length=3*l.length
 |[]=>rfl
 |x::r=>by
  have:=uq r
  simp only[cG,List.flatMap_cons,List.length_append,List.length_cons,List.length_nil]at this ⊢
  omega
theorem mZ {l:List T3} {k:Nat} {x:T3} (h:l[k]? =some x):cG (l.take (k+1))=cG (l.take k)++ [u8 x.a,u8 x.b,u8 x.c]:=by
 rw[ar h]; simp[cG]
theorem E6 {R:Env} (h:N82 R) (t:ii) (hl:t.t.length<=1073741824):R.Pc 82 [.agg t.row] (.aN [.aH 1 (bA (mF t).1),.int .i64 (mF t).2]):=
 h.o82.enter 200 rfl fun X bb hfit hp=>by
  refine sh ?_
  refine ae.pure h.M8.o84.hb (H' h.M8 t hl) rfl ?_
  generalize hq:mF t=q
  refine sh ?_
  refine cS (fun h1=> ?_) (fun h1=> ?_)
  ·rw[mF,if_pos h1]at hq
   subst hq
   refine sh ?_
   exact rT
  ·have ok:=sg h1
   rw[mF,if_neg (by simpa using h1)]at hq
   subst hq
   have hs:=lE ok.s
   have FL:t.t.length<=256:=by
    have:=ok.l
    rcases hs with h|h|h|h|h<;>rw[h]at this<;>omega
   refine sh ?_
   refine ao.inv 200 (fun i:Nat=>i<=t.t.length) (fun i=>⟨[(5,.bc 1 (u8 t.side::cG (t.t.take i)).length),(18,.aH 3 (bJ t.t)),(19,.int .i64 t.t.length),(20,.int .i64 i)],[(1,.arr (R.ty 4) 1 (bA (u8 t.side::cG (t.t.take i))))],2⟩) (fun i=>t.t.length - i) (0) ?_ ⟨⟨_,hp,rfl⟩,?_,?_⟩ ?_
   ·exact Nat.zero_le _
   ·exact iV
   ·refine be ?_
    simp[bA,cG,u8_in (n:=t.side) (by omega)]
   ·intro i hi
    dsimp only
    refine sh ?_
    refine cS (fun h2=> ?_) (fun h2=> ?_)
    ·obtain⟨y,hy⟩:∃u_,t.t[i]? =some u_:=⟨_,List.getElem?_eq_getElem (by first|omega|(simp<;>omega))⟩
     refine sh ?_
     refine aa hy ?_
     refine sh ?_
     refine bz ?_
     refine sh ?_
     refine bz ?_
     refine sh ?_
     refine bz ?_
     refine sh ?_
     refine nD ?_ (by have:=uq (t.t.take i); simp only[List.length_take]at this; simp; omega)
     refine sh ?_
     refine nX (i+1) ?_ ?_ ⟨_,hp,rfl⟩ ?_ ?_
     ·omega
     ·omega
     ·refine be ?_
      rw[mZ hy]; simp
     ·refine be ?_
      rw[mZ hy]; simp[bA,CP]
    ·rw[List.take_of_length_le (by omega)]
     refine sh ?_
     exact rT
end Go.UM
namespace Go.UM
open Go.AM
set_option maxRecDepth 4000
theorem T3.oa {y:T3} (h:y.a<0\/ 255<y.a):y.ke=false:=by rw[Bool.eq_false_iff,ne_eq,T3.fm]; omega
theorem T3.oc {y:T3} (h:y.b<0\/ 255<y.b):y.ke=false:=by rw[Bool.eq_false_iff,ne_eq,T3.fm]; omega
theorem T3.od {y:T3} (h:y.c<0\/ 255<y.c):y.ke=false:=by rw[Bool.eq_false_iff,ne_eq,T3.fm]; omega
theorem C1 {R:Env} (h:YX R) (x:ii) (hl:x.t.length<=1073741824):R.Pc 85 [.agg x.row] (.int .i64 (fJ x)):=
 h.o85.enter 200 rfl fun X bb hfit hp=>by
  generalize hq:fJ x=q
  by_cases hin:x.side ∈ kM
  ·have h2:=lE hin
   have hsq:x.side*x.side<=256/\0<=x.side*x.side:=by
    rcases h2 with h|h|h|h|h<;>rw[h]<;>decide
   refine sh ?_
   refine cS (fun h1=> ?_) (fun h1=> ?_)
   ·refine sh ?_
    refine cS (fun h3=> ?_) (fun h3=> ?_)
    ·refine sh ?_
     refine cS (fun h4=> ?_) (fun h4=> ?_)
     ·refine sh ?_
      refine cS (fun h5=> ?_) (fun h5=> ?_)
      ·refine sh ?_
       refine aw (by (simp; omega)) ?_
       refine sh ?_
       refine cS (fun h6=> ?_) (fun h6=> ?_)
       ·rw[fJ,if_pos (.inr h6)]at hq
        subst hq
        refine sh ?_
        exact rT
       ·refine sh ?_
        refine gD 200 (fun i:Nat=>i<=x.t.length/\(x.t.take i).all T3.ke=true) (fun i=>⟨[(1,.loc 0 1 0 0),(3,.int .i64 i)],[(0,.var (R.ty 12) x.row)],1⟩) (fun i=>x.t.length - i) (0) ?_ ?_
        ·exact⟨Nat.zero_le _,rfl⟩
        ·intro i hi
         dsimp only
         refine sh ?_
         refine cS (fun h7=> ?_) (fun h7=> ?_)
         ·obtain⟨y,hy⟩:∃u,x.t[i]? =some u:=⟨_,List.getElem?_eq_getElem (by omega)⟩
          have lO:=List.mem_of_getElem? hy
          have E5:=T3.fm y
          refine sh ?_
          refine ao.one 100 ?_
          refine sh ?_
          refine af (by decide) ?_
          refine sh ?_
          refine aa hy ?_
          refine sh ?_
          refine cS (fun g1=> ?_) (fun g1=> ?_)
          ·rw[aU lO (T3.oa (.inl g1))]at hq
           subst hq
           refine sh ?_
           exact rT
          ·refine sh ?_
           refine aa hy ?_
           refine sh ?_
           refine cS (fun g2=> ?_) (fun g2=> ?_)
           ·rw[aU lO (T3.oa (.inr g2))]at hq
            subst hq
            refine sh ?_
            exact rT
           ·refine sh ?_
            refine ao.one 100 ?_
            refine sh ?_
            refine af (by decide) ?_
            refine sh ?_
            refine aa hy ?_
            refine sh ?_
            refine cS (fun g3=> ?_) (fun g3=> ?_)
            ·rw[aU lO (T3.oc (.inl g3))]at hq
             subst hq
             refine sh ?_
             exact rT
            ·refine sh ?_
             refine aa hy ?_
             refine sh ?_
             refine cS (fun g4=> ?_) (fun g4=> ?_)
             ·rw[aU lO (T3.oc (.inr g4))]at hq
              subst hq
              refine sh ?_
              exact rT
             ·refine sh ?_
              refine ao.one 100 ?_
              refine sh ?_
              refine af (by decide) ?_
              refine sh ?_
              refine aa hy ?_
              refine sh ?_
              refine cS (fun g5=> ?_) (fun g5=> ?_)
              ·rw[aU lO (T3.od (.inl g5))]at hq
               subst hq
               refine sh ?_
               exact rT
              ·refine sh ?_
               refine aa hy ?_
               refine sh ?_
               refine cS (fun g6=> ?_) (fun g6=> ?_)
               ·rw[aU lO (T3.od (.inr g6))]at hq
                subst hq
                refine sh ?_
                exact rT
               ·refine sh ?_
                refine ao.one 100 ?_
                refine sh ?_
                refine aw (by decide) ?_
                refine sh ?_
                refine kI (i+1) ?_ ?_
                ·refine⟨by omega,?_⟩
                 rw[dW hy,hi.2,Bool.true_and,E5]
                 omega
                ·omega
         ·have hz:¬ (x.side ∉ kM\/(x.t.length:Int)≠x.side*x.side):=by simp[hin,h6]
          rw[fJ,if_neg hz,if_pos]at hq
          ·subst hq
           refine sh ?_
           exact rT
          ·have:=hi.2
           rwa[List.take_of_length_le (by omega)]at this
      ·refine sh ?_
       refine cS (fun h6=> ?_) (fun h6=> ?_)
       ·rw[fJ,if_pos (.inr h6)]at hq
        subst hq
        refine sh ?_
        exact rT
       ·refine sh ?_
        refine gD 200 (fun i:Nat=>i<=x.t.length/\(x.t.take i).all T3.ke=true) (fun i=>⟨[(1,.loc 0 1 0 0),(3,.int .i64 i)],[(0,.var (R.ty 12) x.row)],1⟩) (fun i=>x.t.length - i) (0) ?_ ?_
        ·exact⟨Nat.zero_le _,rfl⟩
        ·intro i hi
         dsimp only
         refine sh ?_
         refine cS (fun h7=> ?_) (fun h7=> ?_)
         ·obtain⟨y,hy⟩:∃u,x.t[i]? =some u:=⟨_,List.getElem?_eq_getElem (by omega)⟩
          have lO:=List.mem_of_getElem? hy
          have E5:=T3.fm y
          refine sh ?_
          refine ao.one 100 ?_
          refine sh ?_
          refine af (by decide) ?_
          refine sh ?_
          refine aa hy ?_
          refine sh ?_
          refine cS (fun g1=> ?_) (fun g1=> ?_)
          ·rw[aU lO (T3.oa (.inl g1))]at hq
           subst hq
           refine sh ?_
           exact rT
          ·refine sh ?_
           refine aa hy ?_
           refine sh ?_
           refine cS (fun g2=> ?_) (fun g2=> ?_)
           ·rw[aU lO (T3.oa (.inr g2))]at hq
            subst hq
            refine sh ?_
            exact rT
           ·refine sh ?_
            refine ao.one 100 ?_
            refine sh ?_
            refine af (by decide) ?_
            refine sh ?_
            refine aa hy ?_
            refine sh ?_
            refine cS (fun g3=> ?_) (fun g3=> ?_)
            ·rw[aU lO (T3.oc (.inl g3))]at hq
             subst hq
             refine sh ?_
             exact rT
            ·refine sh ?_
             refine aa hy ?_
             refine sh ?_
             refine cS (fun g4=> ?_) (fun g4=> ?_)
             ·rw[aU lO (T3.oc (.inr g4))]at hq
              subst hq
              refine sh ?_
              exact rT
             ·refine sh ?_
              refine ao.one 100 ?_
              refine sh ?_
              refine af (by decide) ?_
              refine sh ?_
              refine aa hy ?_
              refine sh ?_
              refine cS (fun g5=> ?_) (fun g5=> ?_)
              ·rw[aU lO (T3.od (.inl g5))]at hq
               subst hq
               refine sh ?_
               exact rT
              ·refine sh ?_
               refine aa hy ?_
               refine sh ?_
               refine cS (fun g6=> ?_) (fun g6=> ?_)
               ·rw[aU lO (T3.od (.inr g6))]at hq
                subst hq
                refine sh ?_
                exact rT
               ·refine sh ?_
                refine ao.one 100 ?_
                refine sh ?_
                refine aw (by decide) ?_
                refine sh ?_
                refine kI (i+1) ?_ ?_
                ·refine⟨by omega,?_⟩
                 rw[dW hy,hi.2,Bool.true_and,E5]
                 omega
                ·omega
         ·have hz:¬ (x.side ∉ kM\/(x.t.length:Int)≠x.side*x.side):=by simp[hin,h6]
          rw[fJ,if_neg hz,if_pos]at hq
          ·subst hq
           refine sh ?_
           exact rT
          ·have:=hi.2
           rwa[List.take_of_length_le (by omega)]at this
     ·refine sh ?_
      refine cS (fun h6=> ?_) (fun h6=> ?_)
      ·rw[fJ,if_pos (.inr h6)]at hq
       subst hq
       refine sh ?_
       exact rT
      ·refine sh ?_
       refine gD 200 (fun i:Nat=>i<=x.t.length/\(x.t.take i).all T3.ke=true) (fun i=>⟨[(1,.loc 0 1 0 0),(3,.int .i64 i)],[(0,.var (R.ty 12) x.row)],1⟩) (fun i=>x.t.length - i) (0) ?_ ?_
       ·exact⟨Nat.zero_le _,rfl⟩
       ·intro i hi
        dsimp only
        refine sh ?_
        refine cS (fun h7=> ?_) (fun h7=> ?_)
        ·obtain⟨y,hy⟩:∃u,x.t[i]? =some u:=⟨_,List.getElem?_eq_getElem (by omega)⟩
         have lO:=List.mem_of_getElem? hy
         have E5:=T3.fm y
         refine sh ?_
         refine ao.one 100 ?_
         refine sh ?_
         refine af (by decide) ?_
         refine sh ?_
         refine aa hy ?_
         refine sh ?_
         refine cS (fun g1=> ?_) (fun g1=> ?_)
         ·rw[aU lO (T3.oa (.inl g1))]at hq
          subst hq
          refine sh ?_
          exact rT
         ·refine sh ?_
          refine aa hy ?_
          refine sh ?_
          refine cS (fun g2=> ?_) (fun g2=> ?_)
          ·rw[aU lO (T3.oa (.inr g2))]at hq
           subst hq
           refine sh ?_
           exact rT
          ·refine sh ?_
           refine ao.one 100 ?_
           refine sh ?_
           refine af (by decide) ?_
           refine sh ?_
           refine aa hy ?_
           refine sh ?_
           refine cS (fun g3=> ?_) (fun g3=> ?_)
           ·rw[aU lO (T3.oc (.inl g3))]at hq
            subst hq
            refine sh ?_
            exact rT
           ·refine sh ?_
            refine aa hy ?_
            refine sh ?_
            refine cS (fun g4=> ?_) (fun g4=> ?_)
            ·rw[aU lO (T3.oc (.inr g4))]at hq
             subst hq
             refine sh ?_
             exact rT
            ·refine sh ?_
             refine ao.one 100 ?_
             refine sh ?_
             refine af (by decide) ?_
             refine sh ?_
             refine aa hy ?_
             refine sh ?_
             refine cS (fun g5=> ?_) (fun g5=> ?_)
             ·rw[aU lO (T3.od (.inl g5))]at hq
              subst hq
              refine sh ?_
              exact rT
             ·refine sh ?_
              refine aa hy ?_
              refine sh ?_
              refine cS (fun g6=> ?_) (fun g6=> ?_)
              ·rw[aU lO (T3.od (.inr g6))]at hq
               subst hq
               refine sh ?_
               exact rT
              ·refine sh ?_
               refine ao.one 100 ?_
               refine sh ?_
               refine aw (by decide) ?_
               refine sh ?_
               refine kI (i+1) ?_ ?_
               ·refine⟨by omega,?_⟩
                rw[dW hy,hi.2,Bool.true_and,E5]
                omega
               ·omega
        ·have hz:¬ (x.side ∉ kM\/(x.t.length:Int)≠x.side*x.side):=by simp[hin,h6]
         rw[fJ,if_neg hz,if_pos]at hq
         ·subst hq
          refine sh ?_
          exact rT
         ·have:=hi.2
          rwa[List.take_of_length_le (by omega)]at this
    ·refine sh ?_
     refine cS (fun h6=> ?_) (fun h6=> ?_)
     ·rw[fJ,if_pos (.inr h6)]at hq
      subst hq
      refine sh ?_
      exact rT
     ·refine sh ?_
      refine gD 200 (fun i:Nat=>i<=x.t.length/\(x.t.take i).all T3.ke=true) (fun i=>⟨[(1,.loc 0 1 0 0),(3,.int .i64 i)],[(0,.var (R.ty 12) x.row)],1⟩) (fun i=>x.t.length - i) (0) ?_ ?_
      ·exact⟨Nat.zero_le _,rfl⟩
      ·intro i hi
       dsimp only
       refine sh ?_
       refine cS (fun h7=> ?_) (fun h7=> ?_)
       ·obtain⟨y,hy⟩:∃u,x.t[i]? =some u:=⟨_,List.getElem?_eq_getElem (by omega)⟩
        have lO:=List.mem_of_getElem? hy
        have E5:=T3.fm y
        refine sh ?_
        refine ao.one 100 ?_
        refine sh ?_
        refine af (by decide) ?_
        refine sh ?_
        refine aa hy ?_
        refine sh ?_
        refine cS (fun g1=> ?_) (fun g1=> ?_)
        ·rw[aU lO (T3.oa (.inl g1))]at hq
         subst hq
         refine sh ?_
         exact rT
        ·refine sh ?_
         refine aa hy ?_
         refine sh ?_
         refine cS (fun g2=> ?_) (fun g2=> ?_)
         ·rw[aU lO (T3.oa (.inr g2))]at hq
          subst hq
          refine sh ?_
          exact rT
         ·refine sh ?_
          refine ao.one 100 ?_
          refine sh ?_
          refine af (by decide) ?_
          refine sh ?_
          refine aa hy ?_
          refine sh ?_
          refine cS (fun g3=> ?_) (fun g3=> ?_)
          ·rw[aU lO (T3.oc (.inl g3))]at hq
           subst hq
           refine sh ?_
           exact rT
          ·refine sh ?_
           refine aa hy ?_
           refine sh ?_
           refine cS (fun g4=> ?_) (fun g4=> ?_)
           ·rw[aU lO (T3.oc (.inr g4))]at hq
            subst hq
            refine sh ?_
            exact rT
           ·refine sh ?_
            refine ao.one 100 ?_
            refine sh ?_
            refine af (by decide) ?_
            refine sh ?_
            refine aa hy ?_
            refine sh ?_
            refine cS (fun g5=> ?_) (fun g5=> ?_)
            ·rw[aU lO (T3.od (.inl g5))]at hq
             subst hq
             refine sh ?_
             exact rT
            ·refine sh ?_
             refine aa hy ?_
             refine sh ?_
             refine cS (fun g6=> ?_) (fun g6=> ?_)
             ·rw[aU lO (T3.od (.inr g6))]at hq
              subst hq
              refine sh ?_
              exact rT
             ·refine sh ?_
              refine ao.one 100 ?_
              refine sh ?_
              refine aw (by decide) ?_
              refine sh ?_
              refine kI (i+1) ?_ ?_
              ·refine⟨by omega,?_⟩
               rw[dW hy,hi.2,Bool.true_and,E5]
               omega
              ·omega
       ·have hz:¬ (x.side ∉ kM\/(x.t.length:Int)≠x.side*x.side):=by simp[hin,h6]
        rw[fJ,if_neg hz,if_pos]at hq
        ·subst hq
         refine sh ?_
         exact rT
        ·have:=hi.2
         rwa[List.take_of_length_le (by omega)]at this
   ·refine sh ?_
    refine cS (fun h6=> ?_) (fun h6=> ?_)
    ·rw[fJ,if_pos (.inr h6)]at hq
     subst hq
     refine sh ?_
     exact rT
    ·refine sh ?_
     refine gD 200 (fun i:Nat=>i<=x.t.length/\(x.t.take i).all T3.ke=true) (fun i=>⟨[(1,.loc 0 1 0 0),(3,.int .i64 i)],[(0,.var (R.ty 12) x.row)],1⟩) (fun i=>x.t.length - i) (0) ?_ ?_
     ·exact⟨Nat.zero_le _,rfl⟩
     ·intro i hi
      dsimp only
      refine sh ?_
      refine cS (fun h7=> ?_) (fun h7=> ?_)
      ·obtain⟨y,hy⟩:∃u,x.t[i]? =some u:=⟨_,List.getElem?_eq_getElem (by omega)⟩
       have lO:=List.mem_of_getElem? hy
       have E5:=T3.fm y
       refine sh ?_
       refine ao.one 100 ?_
       refine sh ?_
       refine af (by decide) ?_
       refine sh ?_
       refine aa hy ?_
       refine sh ?_
       refine cS (fun g1=> ?_) (fun g1=> ?_)
       ·rw[aU lO (T3.oa (.inl g1))]at hq
        subst hq
        refine sh ?_
        exact rT
       ·refine sh ?_
        refine aa hy ?_
        refine sh ?_
        refine cS (fun g2=> ?_) (fun g2=> ?_)
        ·rw[aU lO (T3.oa (.inr g2))]at hq
         subst hq
         refine sh ?_
         exact rT
        ·refine sh ?_
         refine ao.one 100 ?_
         refine sh ?_
         refine af (by decide) ?_
         refine sh ?_
         refine aa hy ?_
         refine sh ?_
         refine cS (fun g3=> ?_) (fun g3=> ?_)
         ·rw[aU lO (T3.oc (.inl g3))]at hq
          subst hq
          refine sh ?_
          exact rT
         ·refine sh ?_
          refine aa hy ?_
          refine sh ?_
          refine cS (fun g4=> ?_) (fun g4=> ?_)
          ·rw[aU lO (T3.oc (.inr g4))]at hq
           subst hq
           refine sh ?_
           exact rT
          ·refine sh ?_
           refine ao.one 100 ?_
           refine sh ?_
           refine af (by decide) ?_
           refine sh ?_
           refine aa hy ?_
           refine sh ?_
           refine cS (fun g5=> ?_) (fun g5=> ?_)
           ·rw[aU lO (T3.od (.inl g5))]at hq
            subst hq
            refine sh ?_
            exact rT
           ·refine sh ?_
            refine aa hy ?_
            refine sh ?_
            refine cS (fun g6=> ?_) (fun g6=> ?_)
            ·rw[aU lO (T3.od (.inr g6))]at hq
             subst hq
             refine sh ?_
             exact rT
            ·refine sh ?_
             refine ao.one 100 ?_
             refine sh ?_
             refine aw (by decide) ?_
             refine sh ?_
             refine kI (i+1) ?_ ?_
             ·refine⟨by omega,?_⟩
              rw[dW hy,hi.2,Bool.true_and,E5]
              omega
             ·omega
      ·have hz:¬ (x.side ∉ kM\/(x.t.length:Int)≠x.side*x.side):=by simp[hin,h6]
       rw[fJ,if_neg hz,if_pos]at hq
       ·subst hq
        refine sh ?_
        exact rT
       ·have:=hi.2
        rwa[List.take_of_length_le (by omega)]at this
  ·have hout:¬x.side=1/\¬x.side=2/\¬x.side=4/\¬x.side=8/\¬x.side=16:=by simpa[kM]using hin
   refine sh ?_
   refine af (by simpa using hout.1) ?_
   refine sh ?_
   refine af (by simpa using hout.2.1) ?_
   refine sh ?_
   refine af (by simpa using hout.2.2.1) ?_
   refine sh ?_
   refine af (by simpa using hout.2.2.2.1) ?_
   refine sh ?_
   refine af (by simpa using hout.2.2.2.2) ?_
   rw[fJ,if_pos (.inl hin)]at hq
   subst hq
   refine sh ?_
   exact rT
theorem BZ {R:Env} (h:N83 R) (t:ii) (hl:t.t.length<=1073741824):R.Pc 83 [.agg t.row] (.aN [.aH 1 (bA (mF t).1),.int .i64 (mF t).2]):=
 h.o83.enter 200 rfl fun X bb hfit hp=>by
  refine sh ?_
  refine ae.pure h.Na.o85.hb (C1 h.Na t hl) rfl ?_
  generalize hq:mF t=q
  refine sh ?_
  refine cS (fun h1=> ?_) (fun h1=> ?_)
  ·rw[mF,if_pos h1]at hq
   subst hq
   refine sh ?_
   exact rT
  ·have ok:=sg h1
   rw[mF,if_neg (by simpa using h1)]at hq
   subst hq
   have hs:=lE ok.s
   have FL:t.t.length<=256:=by
    have:=ok.l
    rcases hs with h|h|h|h|h<;>rw[h]at this<;>omega
   refine sh ?_
   refine ao.inv 200 (fun i:Nat=>i<=t.t.length) (fun i=>⟨[(1,.loc 0 1 0 0),(5,.bc 1 (u8 t.side::cG (t.t.take i)).length),(6,.int .i64 i)],[(1,.arr (R.ty 4) 1 (bA (u8 t.side::cG (t.t.take i)))),(0,.var (R.ty 12) t.row)],2⟩) (fun i=>t.t.length - i) (0) ?_ ⟨⟨_,hp,rfl⟩,?_,?_⟩ ?_
   ·exact Nat.zero_le _
   ·exact iV
   ·refine be ?_
    simp[bA,cG,u8_in (n:=t.side) (by omega)]
   ·intro i hi
    dsimp only
    refine sh ?_
    refine cS (fun h2=> ?_) (fun h2=> ?_)
    ·obtain⟨y,hy⟩:∃u,t.t[i]? =some u:=⟨_,List.getElem?_eq_getElem (by omega)⟩
     have hlen:=uq (t.t.take i)
     simp only[List.length_take]at hlen
     refine sh ?_
     refine ao.one 100 ?_
     refine sh ?_
     refine af (by decide) ?_
     refine sh ?_
     refine aa hy ?_
     refine sh ?_
     refine bz ?_
     refine sh ?_
     refine ao.one 100 ?_
     refine sh ?_
     refine af (by decide) ?_
     refine sh ?_
     refine aa hy ?_
     refine sh ?_
     refine bz ?_
     refine sh ?_
     refine ao.one 100 ?_
     refine sh ?_
     refine af (by decide) ?_
     refine sh ?_
     refine aa hy ?_
     refine sh ?_
     refine bz ?_
     refine sh ?_
     refine ao.one 100 ?_
     refine sh ?_
     refine aw (by decide) ?_
     refine sh ?_
     refine nX (i+1) ?_ ?_ ⟨_,hp,rfl⟩ ?_ ?_
     ·omega
     ·omega
     ·refine be ?_
      rw[mZ hy]; simp
     ·refine be ?_
      rw[mZ hy]; simp[bA,CP]
    ·rw[List.take_of_length_le (by omega)]
     refine sh ?_
     exact rT
end Go.UM
namespace Go.UM
open Go.AM
set_option maxRecDepth 4000
structure As where
 k:Int
 m:Ms
 x:ii
 mt:jD
 li:jw
def As.row (a:As):List AV:=[.int .i64 a.k,.aH 3 (bJ a.m.v),.aH 2 (cW a.m.uv),.aH 3 (bJ a.m.t),.int .i64 a.x.side,.aH 3 (bJ a.x.t),
 .int .i64 a.mt.k,.int .i64 a.mt.c.a,.int .i64 a.mt.c.b,.int .i64 a.mt.c.c,.int .i64 a.mt.r,
 .int .i64 a.li.k,.int .i64 a.li.c.a,.int .i64 a.li.c.b,.int .i64 a.li.c.c,.int .i64 a.li.p.a,.int .i64 a.li.p.b,.int .i64 a.li.p.c,.int .i64 a.li.u.a,.int .i64 a.li.u.b,.int .i64 a.li.u.c,.int .i64 a.li.v.a,.int .i64 a.li.v.b,.int .i64 a.li.v.c]
def abM (m:jD):List UInt8:=[u8 m.k]++enc 2 m.c.a++enc 2 m.c.b++enc 2 m.c.c++enc 2 m.r
def abN (l:jw):List UInt8:=[u8 l.k]++(enc 4 l.c.a++enc 4 l.c.b++enc 4 l.c.c)++fk l.p++fk l.u++fk l.v
def own (a:As):Int:=if a.k=1 then jI a.m else if a.k=2 then fJ a.x else if a.k=3 then jJ a.mt else if a.k=4 then kL a.li else 12
def gy (a:As):List UInt8:=if a.k=1 then (uj a.m).1 else if a.k=2 then (mF a.x).1 else if a.k=3 then abM a.mt else abN a.li
theorem si {p:T3} (h:lD p=false): -4096<=p.a/\p.a<=4096/\ -4096<=p.b/\p.b<=4096/\ -4096<=p.c/\p.c<=4096:=by simpa[lD]using h
structure jw.R2 (l:jw):Prop where
 k:0<=l.k/\l.k<=2
 c:0<=l.c.a/\l.c.a<=1048576/\0<=l.c.b/\l.c.b<=1048576/\0<=l.c.c/\l.c.c<=1048576
 p: -4096<=l.p.a/\l.p.a<=4096/\ -4096<=l.p.b/\l.p.b<=4096/\ -4096<=l.p.c/\l.p.c<=4096
 u: -4096<=l.u.a/\l.u.a<=4096/\ -4096<=l.u.b/\l.u.b<=4096/\ -4096<=l.u.c/\l.u.c<=4096
 v: -4096<=l.v.a/\l.v.a<=4096/\ -4096<=l.v.b/\l.v.b<=4096/\ -4096<=l.v.c/\l.v.c<=4096
theorem ur {l:jw} (h:kL l=0):l.R2:=by
 unfold kL at h
 split at h
 ·cases h
 ·split at h
  ·cases h
  ·rename_i h1 h2
   simp only[not_or,Bool.not_eq_true]at h2
   exact⟨by omega,by omega,si h2.1,si h2.2.1,si h2.2.2⟩
theorem ut {m:jD} (h:jJ m=0):0<=m.k/\m.k<=4/\0<=m.r/\m.r<=65535/\0<=m.c.a/\m.c.a<=65535/\0<=m.c.b/\m.c.b<=65535/\0<=m.c.c/\m.c.c<=65535:=by
 unfold jJ at h
 split at h
 ·cases h
 ·omega
theorem QZ {R:Env} (h:Pg R) (b:List UInt8) (x:Int) (hl:b.length<=1000) (hx:0<=x/\x<=65535):
  R.Mc 54 [.aH 1 (bA b),.int .i64 2,.aH 1 (bp .u64 [x])] [] (.aN [.bc 0 (b++enc 2 x).length,.int .i64 0]) [(0,.arr (R.ty 4) 1 (bA (b++enc 2 x)))] 1:=by
 have c:=CY h b 2 [x] (by simp; omega) (by simp; omega)
 rw[xZ (by decide) (by decide) (by simp; omega)]at c
 simpa using c
theorem Q0 {R:Env} (h:Pg R) (b:List UInt8) (x y z:Int) (hl:b.length<=1000) (hx:0<=x/\x<=1048576/\0<=y/\y<=1048576/\0<=z/\z<=1048576):
  R.Mc 54 [.aH 1 (bA b),.int .i64 4,.aH 1 (bp .u64 [x,y,z])] [] (.aN [.bc 0 (b++(enc 4 x++enc 4 y++enc 4 z)).length,.int .i64 0]) [(0,.arr (R.ty 4) 1 (bA (b++(enc 4 x++enc 4 y++enc 4 z))))] 1:=by
 have c:=CY h b 4 [x,y,z] (by simp; omega) (by simp; omega)
 rw[xZ (by decide) (by decide) (by simp; omega)]at c
 simpa using c
theorem Q1 {R:Env} (h:UV R) (b:List UInt8) (p:T3) (hl:b.length<=1000) (ok: -4096<=p.a/\p.a<=4096/\ -4096<=p.b/\p.b<=4096/\ -4096<=p.c/\p.c<=4096):
  R.Mc 71 [.aH 1 (bA b),.int .i64 2,.aH 1 (bp .i64 [p.a,p.b,p.c])] [] (.aN [.bc 0 (b++fk p).length,.int .i64 0]) [(0,.arr (R.ty 4) 1 (bA (b++fk p)))] 1:=by
 have c:=z6 h b 2 [p.a,p.b,p.c] (by simp; omega) (by simp[bf]; omega)
 rwa[uk ok]at c
def jD.four (m:jD):List Int:=[m.c.a,m.c.b,m.c.c,m.r]
def jw.three (l:jw):List T3:=[l.p,l.u,l.v]
@[simp] theorem Nn (m:jD):m.four.length=4:=rfl
@[simp] theorem LN (l:jw):l.three.length=3:=rfl
theorem B0:∀l:List Int,(l.flatMap (enc 2)).length=2*l.length
 |[]=>rfl
 |x::r=>by have:=B0 r; simp at this ⊢; omega
@[simp] theorem No (p:T3):(fk p).length=6:=by simp[fk]
theorem Ia {R:Env} (h:Py R) (a:As) (hl:a.x.t.length<=1073741824) (ok:own a=0):R.Pc 311 [.agg a.row] (.aH 1 (bA (gy a))):=
 h.Vm.enter 200 rfl fun X bb hfit hp=>by
  generalize hq:gy a=q
  unfold own at ok
  refine sh ?_
  refine cS (fun h1=> ?_) (fun h1=> ?_)
  ·rw[gy,if_pos h1]at hq
   subst hq
   refine sh ?_
   refine ae.pure h.n196.U3.hb (E3 h.n196 a.m) rfl ?_
   refine sh ?_
   exact rT
  ·rw[if_neg h1]at ok
   refine sh ?_
   refine cS (fun h2=> ?_) (fun h2=> ?_)
   ·rw[gy,if_neg h1,if_pos h2]at hq
    subst hq
    refine sh ?_
    refine ae.pure h.YR.o82.hb (E6 h.YR a.x hl) rfl ?_
    refine sh ?_
    exact rT
   ·rw[if_neg h2]at ok
    refine sh ?_
    refine cS (fun h3=> ?_) (fun h3=> ?_)
    ·rw[gy,if_neg h1,if_neg h2,if_pos h3]at hq
     subst hq
     rw[if_pos h3]at ok
     have may:=ut ok
     have w8:((u8 a.mt.k).toNat:Int)=a.mt.k:=u8_in (by omega)
     refine sh ?_
     refine ao.inv 100 (fun i:Nat=>i<=4) (fun i=>⟨[(8,.bc 2 ([u8 a.mt.k]++(a.mt.four.take i).flatMap (enc 2)).length),(55,.aH 1 (bp .i64 a.mt.four)),(56,.int .i64 4),(57,.int .i64 i)],[(2,.arr (R.ty 4) 1 (bA ([u8 a.mt.k]++(a.mt.four.take i).flatMap (enc 2))))],3⟩) (fun i=>4 - i) (0) ?_ ⟨⟨_,hp,rfl⟩,?_,?_⟩ ?_
     ·exact Nat.zero_le _
     ·exact iV
     ·refine be ?_
      simp[bA,w8]
     ·intro i hi
      dsimp only
      refine sh ?_
      refine cS (fun h4=> ?_) (fun h4=> ?_)
      ·obtain⟨x,hx⟩:∃u_,a.mt.four[i]? =some u_:=⟨_,List.getElem?_eq_getElem (by first|omega|(simp<;>omega))⟩
       refine sh ?_
       refine aa hx ?_
       have bY:0<=x/\x<=65535:=by
        have:=List.mem_of_getElem? hx
        simp only[jD.four,List.mem_cons,List.not_mem_nil,or_false]at this
        rcases this with e|e|e|e<;>subst e<;>omega
       refine sh ?_
       refine cM true [] (QZ h.Jt ([u8 a.mt.k]++(a.mt.four.take i).flatMap (enc 2)) x (by simp only[List.length_append,B0,List.length_take]; simp; omega) bY) ?_
       repeat (intro _; first|refine eK ?_|refine eP ?_)
       refine sh ?_
       refine RV [0,1,4] (i+1) ?_ ?_ ?_
       ·omega
       ·omega
       ·refine pC ?_ ?_
        rw[cr hx]; simp
        rw[cr hx]; simp
      ·rw[show a.mt.four.take i=a.mt.four from List.take_of_length_le (by simp; omega)]
       refine sh ?_
       exact rT
    ·rw[gy,if_neg h1,if_neg h2,if_neg h3]at hq
     subst hq
     have h4:a.k=4:=by
      by_cases h4:a.k=4
      ·exact h4
      ·rw[if_neg h3,if_neg h4]at ok; cases ok
     rw[if_neg h3,if_pos h4]at ok
     have may:=ur ok
     have mk:=may.k
     have mc:=may.c
     have w8:((u8 a.li.k).toNat:Int)=a.li.k:=u8_in (by omega)
     have c1:=Q0 h.Jt [u8 a.li.k] a.li.c.a a.li.c.b a.li.c.c (by simp) mc
     rw[show bA [u8 a.li.k]=[[.int .u8 a.li.k]] by simp[bA,w8]]at c1
     refine sh ?_
     refine cM true [] (c1) ?_
     repeat (intro _; first|refine eK ?_|refine eP ?_)
     refine sh ?_
     refine gD 100 (fun i:Nat=>i<=3) (fun i=>⟨[(12,.bc 4 ([u8 a.li.k]++(enc 4 a.li.c.a++enc 4 a.li.c.b++enc 4 a.li.c.c)++(a.li.three.take i).flatMap fk).length),(100,.aH 3 (bJ a.li.three)),(101,.int .i64 3),(102,.int .i64 i)],[(4,.arr (R.ty 4) 1 (bA ([u8 a.li.k]++(enc 4 a.li.c.a++enc 4 a.li.c.b++enc 4 a.li.c.c)++(a.li.three.take i).flatMap fk)))],5⟩) (fun i=>3 - i) (0) ?_ ?_
     ·exact Nat.zero_le _
     ·intro i hi
      dsimp only
      refine sh ?_
      refine cS (fun h5=> ?_) (fun h5=> ?_)
      ·obtain⟨x,hx⟩:∃u_,a.li.three[i]? =some u_:=⟨_,List.getElem?_eq_getElem (by first|omega|(simp<;>omega))⟩
       refine sh ?_
       refine aa hx ?_
       have bY: -4096<=x.a/\x.a<=4096/\ -4096<=x.b/\x.b<=4096/\ -4096<=x.c/\x.c<=4096:=by
        have:=List.mem_of_getElem? hx
        simp only[jw.three,List.mem_cons,List.not_mem_nil,or_false]at this
        rcases this with e|e|e<;>subst e
        ·exact may.p
        ·exact may.u
        ·exact may.v
       refine sh ?_
       refine cM true [] (Q1 h.RY ([u8 a.li.k]++(enc 4 a.li.c.a++enc 4 a.li.c.b++enc 4 a.li.c.c)++(a.li.three.take i).flatMap fk) x (by simp only[List.length_append,z7,List.length_take]; simp; omega) bY) ?_
       repeat (intro _; first|refine eK ?_|refine eP ?_)
       refine sh ?_
       refine RV [0,1,2,3,7] (i+1) ?_ ?_ ?_
       ·omega
       ·omega
       ·refine pC ?_ ?_
        rw[cr hx]; simp
        rw[cr hx]; simp
      ·rw[show a.li.three.take i=a.li.three from List.take_of_length_le (by simp; omega)]
       refine sh ?_
       exact rT
theorem ya {R:Env} (h:Wd R) (b:List UInt8) (x:Int) (hl:b.length<=1000) (hx:0<=x/\x<=1048576):
  R.Mc 55 [.aH 1 (bA b),.int .i64 4,.aH 1 (bp .u64 [x])] [] (.aN [.bc 0 (b++enc 4 x).length,.int .i64 0]) [(0,.arr (R.ty 4) 1 (bA (b++enc 4 x)))] 1:=by
 have c:=H8 h b 4 [x] (by simp; omega) (by simp; omega)
 rw[xZ (by decide) (by decide) (by simp; omega)]at c
 simpa using c
theorem C2 {v:Int} (hv:0<=v/\v<=65535):enc 2 v=[u8 (v % 256),u8 (v / 256)]:=by
 unfold enc
 simp[List.range_succ,BJ]
theorem sj {R:Env} (h:Qm R) (a:As) (hl:a.x.t.length<=1073741824) (ok:own a=0):R.Pc 314 [.agg a.row] (.aH 1 (bA (gy a))):=
 h.HG.enter 200 rfl fun X bb hfit hp=>by
  generalize hq:gy a=q
  unfold own at ok
  refine sh ?_
  refine cS (fun h1=> ?_) (fun h1=> ?_)
  ·rw[gy,if_pos h1]at hq
   subst hq
   refine sh ?_
   refine ae.pure h.n197.Wj.hb (BX h.n197 a.m) rfl ?_
   refine sh ?_
   exact rT
  ·rw[if_neg h1]at ok
   refine sh ?_
   refine cS (fun h2=> ?_) (fun h2=> ?_)
   ·rw[gy,if_neg h1,if_pos h2]at hq
    subst hq
    refine sh ?_
    refine ae.pure h.YY.o83.hb (BZ h.YY a.x hl) rfl ?_
    refine sh ?_
    exact rT
   ·rw[if_neg h2]at ok
    refine sh ?_
    refine cS (fun h3=> ?_) (fun h3=> ?_)
    ·rw[gy,if_neg h1,if_neg h2,if_pos h3]at hq
     subst hq
     rw[if_pos h3]at ok
     have may:=ut ok
     have w8:((u8 a.mt.k).toNat:Int)=a.mt.k:=u8_in (by omega)
     refine sh ?_
     refine ao.inv 100 (fun i:Nat=>i<=4) (fun i=>⟨[(8,.bc 2 ([u8 a.mt.k]++(a.mt.four.take i).flatMap (enc 2)).length),(9,.aH 1 (bp .i64 a.mt.four)),(10,.int .i64 i)],[(2,.arr (R.ty 4) 1 (bA ([u8 a.mt.k]++(a.mt.four.take i).flatMap (enc 2))))],3⟩) (fun i=>4 - i) (0) ?_ ⟨⟨_,hp,rfl⟩,?_,?_⟩ ?_
     ·exact Nat.zero_le _
     ·exact iV
     ·refine be ?_
      simp[bA,w8]
     ·intro i hi
      dsimp only
      refine sh ?_
      refine cS (fun h4=> ?_) (fun h4=> ?_)
      ·obtain⟨x,hx⟩:∃u,a.mt.four[i]? =some u:=⟨_,List.getElem?_eq_getElem (by simp; omega)⟩
       have bY:0<=x/\x<=65535:=by
        have:=List.mem_of_getElem? hx
        simp only[jD.four,List.mem_cons,List.not_mem_nil,or_false]at this
        rcases this with e|e|e|e<;>subst e<;>omega
       refine sh ?_
       refine aa hx ?_
       refine sh ?_
       rw[Int.tmod_eq_emod_of_nonneg (by omega)]
       refine wI ?_
       refine sh ?_
       refine aa hx ?_
       refine sh ?_
       rw[Int.tdiv_eq_ediv_of_nonneg (by omega)]
       refine wI ?_
       refine sh ?_
       refine nD ?_ (by simp only[fS,List.length_append,B0,List.length_take]; simp; omega)
       refine sh ?_
       refine nX (i+1) ?_ ?_ ⟨_,hp,rfl⟩ ?_ ?_
       ·omega
       ·omega
       ·refine be ?_
        rw[cr hx,C2 bY]; simp
       ·refine be ?_
        rw[cr hx,C2 bY]; simp[bA]
        refine⟨(u8_in ?_).symm,(u8_in ?_).symm⟩<;>omega
      ·rw[show a.mt.four.take i=a.mt.four from List.take_of_length_le (by simp; omega)]
       refine sh ?_
       exact rT
    ·rw[gy,if_neg h1,if_neg h2,if_neg h3]at hq
     subst hq
     have h4:a.k=4:=by
      by_cases h4:a.k=4
      ·exact h4
      ·rw[if_neg h3,if_neg h4]at ok; cases ok
     rw[if_neg h3,if_pos h4]at ok
     have may:=ur ok
     have mk:=may.k
     have mc:=may.c
     have w8:((u8 a.li.k).toNat:Int)=a.li.k:=u8_in (by omega)
     have c1:=ya h.M9 [u8 a.li.k] a.li.c.a (by simp) (by omega)
     rw[show bA [u8 a.li.k]=[[.int .u8 a.li.k]] by simp[bA,w8]]at c1
     refine sh ?_
     refine ao.one 100 ?_
     refine sh ?_
     refine af (by decide) ?_
     refine sh ?_
     refine cM true [] (c1) ?_
     repeat (intro _; first|refine eK ?_|refine eP ?_)
     refine sh ?_
     refine ao.one 100 ?_
     refine sh ?_
     refine af (by decide) ?_
     refine sh ?_
     refine cM true [] (ya h.M9 ([u8 a.li.k]++enc 4 a.li.c.a) a.li.c.b (by simp) (by omega)) ?_
     repeat (intro _; first|refine eK ?_|refine eP ?_)
     refine sh ?_
     refine ao.one 100 ?_
     refine sh ?_
     refine af (by decide) ?_
     refine sh ?_
     refine cM true [] (ya h.M9 ([u8 a.li.k]++enc 4 a.li.c.a++enc 4 a.li.c.b) a.li.c.c (by simp) (by omega)) ?_
     repeat (intro _; first|refine eK ?_|refine eP ?_)
     refine sh ?_
     refine ao.one 100 ?_
     refine sh ?_
     refine aw (by decide) ?_
     refine sh ?_
     refine cM true [] (pK h.n212 ([u8 a.li.k]++enc 4 a.li.c.a++enc 4 a.li.c.b++enc 4 a.li.c.c) a.li.p (by simp) may.p) ?_
     repeat (intro _; first|refine eK ?_|refine eP ?_)
     refine sh ?_
     refine cM true [] (pK h.n212 ([u8 a.li.k]++enc 4 a.li.c.a++enc 4 a.li.c.b++enc 4 a.li.c.c++fk a.li.p) a.li.u (by simp) may.u) ?_
     repeat (intro _; first|refine eK ?_|refine eP ?_)
     refine sh ?_
     refine cM true [] (pK h.n212 ([u8 a.li.k]++enc 4 a.li.c.a++enc 4 a.li.c.b++enc 4 a.li.c.c++fk a.li.p++fk a.li.u) a.li.v (by simp) may.v) ?_
     repeat (intro _; first|refine eK ?_|refine eP ?_)
     refine sh ?_
     exact rT
end Go.UM
namespace Go.UM
open Go.AM
structure Mf where
 (id kind label m0 m1 m2 m3 m4 m5 m6 m7 first last size chunks:Int)
def Mf.row (m:Mf):List AV:=[.int .u64 m.id,.int .i64 m.kind,.int .u32 m.label,.int .u8 m.m0,.int .u8 m.m1,.int .u8 m.m2,.int .u8 m.m3,.int .u8 m.m4,.int .u8 m.m5,.int .u8 m.m6,.int .u8 m.m7,
 .int .u32 m.first,.int .u32 m.last,.int .i64 m.size,.int .i64 m.chunks]
def Mf.kf (m:Mf):Nat->Int
 |0=>m.m0|1=>m.m1|2=>m.m2|3=>m.m3|4=>m.m4|5=>m.m5|6=>m.m6|7=>m.m7|_=>0
structure Mf.Ok (m:Mf):Prop where
 id:bf .u64 m.id
 kind:bf .i64 m.kind
 label:bf .u32 m.label
 kf:∀i,0<=m.kf i/\m.kf i<=255
 first:bf .u32 m.first
 last:bf .u32 m.last
 size:bf .i64 m.size
 chunks:bf .i64 m.chunks
end Go.UM
namespace Go.UM
open Go.AM
set_option maxRecDepth 4000
structure Rw where
 h:Int
 f:Mf
 a:As
def Rw.row (r:Rw):List AV:=[.int .i64 r.h,.int .u64 r.f.id,.int .i64 r.f.kind,.int .u32 r.f.label,.int .u8 r.f.m0,.int .u8 r.f.m1,.int .u8 r.f.m2,.int .u8 r.f.m3,.int .u8 r.f.m4,.int .u8 r.f.m5,.int .u8 r.f.m6,.int .u8 r.f.m7,
 .int .u32 r.f.first,.int .u32 r.f.last,.int .i64 r.f.size,.int .i64 r.f.chunks,.int .i64 r.a.k,.aH 3 (bJ r.a.m.v),.aH 2 (cW r.a.m.uv),.aH 3 (bJ r.a.m.t),.int .i64 r.a.x.side,.aH 3 (bJ r.a.x.t),
 .int .i64 r.a.mt.k,.int .i64 r.a.mt.c.a,.int .i64 r.a.mt.c.b,.int .i64 r.a.mt.c.c,.int .i64 r.a.mt.r,
 .int .i64 r.a.li.k,.int .i64 r.a.li.c.a,.int .i64 r.a.li.c.b,.int .i64 r.a.li.c.c,.int .i64 r.a.li.p.a,.int .i64 r.a.li.p.b,.int .i64 r.a.li.p.c,.int .i64 r.a.li.u.a,.int .i64 r.a.li.u.b,.int .i64 r.a.li.u.c,.int .i64 r.a.li.v.a,.int .i64 r.a.li.v.b,.int .i64 r.a.li.v.c]
def iM (l:List Rw):List (List AV):=l.map Rw.row
@[simp] theorem oD (l:List Rw):(iM l).length=l.length:=by simp[iM]
@[simp] theorem Q2 (a b:List Rw):iM (a++b)=iM a++iM b:=by simp[iM]
@[simp] theorem Y2 (l:List Rw):mW (iM l):=by simp[iM,Rw.row]
instance {l:List Rw}:iG (iM l) l.length:=⟨oD l⟩
end Go.UM
namespace Go.UM
open Go.AM
set_option maxRecDepth 4000
deriving instance DecidableEq for T3
deriving instance DecidableEq for jD
deriving instance DecidableEq for jw
theorem T3.eq_iff {x y:T3}:(x.a==y.a&&(x.b==y.b&&x.c==y.c))=true↔x=y:=by
 cases x; cases y; simp
theorem T3.ne_iff {x y:T3}:(x.a==y.a&&(x.b==y.b&&x.c==y.c))=false↔x≠y:=by
 rw[<-Bool.not_eq_true,T3.eq_iff]
theorem P2.eq_iff {x y:Int × Int}:(x.1==y.1&&x.2==y.2)=true↔x=y:=by
 cases x; cases y; simp
theorem P2.ne_iff {x y:Int × Int}:(x.1==y.1&&x.2==y.2)=false↔x≠y:=by
 rw[<-Bool.not_eq_true,P2.eq_iff]
theorem C3 {α:Type} {l l':List α} {i:Nat} {x y:α} (h:l[i]? =some x) (h':l'[i]? =some y) (hn:x≠y):l≠l':=by
 intro e; subst e; rw[h]at h'; exact hn (Option.some.inj h')
theorem iN {α:Type} {l l':List α} {i:Nat} {x:α} (h:l[i]? =some x) (h':l'[i]? =some x) (e:l.take i=l'.take i):l.take (i+1)=l'.take (i+1):=by
 rw[ar h,ar h',e]
theorem lF {α:Type} {l l':List α} {i:Nat} (h:l.take i=l'.take i) (hi:l.length<=i) (e:l.length=l'.length):l=l':=by
 rwa[List.take_of_length_le hi,List.take_of_length_le (by omega)]at h
theorem Ib {R:Env} (h:Pr R) (l l':List T3) (hl:l.length<=1073741824):R.Pc 315 [.aH 3 (bJ l),.aH 3 (bJ l')] (.bool (decide (l=l'))):=
 h.Vb.enter 100 rfl fun X bb hfit hp=>by
  refine sh ?_
  refine cS (fun h1=> ?_) (fun h1=> ?_)
  ·refine sh ?_
   refine rT ?_
   refine be ?_
   refine (decide_eq_false ?_).symm
   exact fun e=>h1 (by simp[e])
  ·refine sh ?_
   refine gD 100 (fun i:Nat=>i<=l.length/\l.take i=l'.take i) (fun i=>⟨[(0,.aH 3 (bJ l)),(1,.aH 3 (bJ l')),(12,.int .i64 l.length),(13,.int .i64 i)],[],0⟩) (fun i=>l.length - i) (0) ?_ ?_
   ·exact⟨Nat.zero_le _,rfl⟩
   ·intro i hi
    dsimp only
    refine sh ?_
    refine cS (fun h2=> ?_) (fun h2=> ?_)
    ·obtain⟨x,hx⟩:∃u,l[i]? =some u:=⟨_,List.getElem?_eq_getElem (by omega)⟩
     obtain⟨y,hy⟩:∃u,l'[i]? =some u:=⟨_,List.getElem?_eq_getElem (by omega)⟩
     refine sh ?_
     refine aa hx ?_
     refine sh ?_
     refine aa hy ?_
     refine sh ?_
     refine cS (fun h3=> ?_) (fun h3=> ?_)
     ·refine sh ?_
      refine rT ?_
      refine be ?_
      refine (decide_eq_false ?_).symm
      exact C3 hx hy (T3.ne_iff.1 h3)
     ·have e:=T3.eq_iff.1 h3
      subst e
      refine sh ?_
      refine kI (i+1) ?_ ?_
      ·exact⟨by omega,iN hx hy hi.2⟩
      ·omega
    ·refine sh ?_
     refine rT ?_
     refine be ?_
     refine (decide_eq_true ?_).symm
     exact lF hi.2 (by omega) (by omega)
theorem Ab {R:Env} (h:Pt R) (l l':List T3) (hl:l.length<=1073741824):R.Pc 317 [.aH 3 (bJ l),.aH 3 (bJ l')] (.bool (decide (l=l'))):=
 h.Pu.enter 100 rfl fun X bb hfit hp=>by
  refine sh ?_
  refine cS (fun h1=> ?_) (fun h1=> ?_)
  ·refine sh ?_
   refine rT ?_
   refine be ?_
   refine (decide_eq_false ?_).symm
   exact fun e=>h1 (by simp[e])
  ·refine sh ?_
   refine gD 100 (fun i:Nat=>i<=l.length/\l.take i=l'.take i) (fun i=>⟨[(0,.aH 3 (bJ l)),(1,.aH 3 (bJ l')),(12,.int .i64 l.length),(13,.int .i64 i)],[],0⟩) (fun i=>l.length - i) (0) ?_ ?_
   ·exact⟨Nat.zero_le _,rfl⟩
   ·intro i hi
    dsimp only
    refine sh ?_
    refine cS (fun h2=> ?_) (fun h2=> ?_)
    ·obtain⟨x,hx⟩:∃u,l[i]? =some u:=⟨_,List.getElem?_eq_getElem (by omega)⟩
     obtain⟨y,hy⟩:∃u,l'[i]? =some u:=⟨_,List.getElem?_eq_getElem (by omega)⟩
     refine sh ?_
     refine aa hx ?_
     refine sh ?_
     refine aa hy ?_
     refine sh ?_
     refine cS (fun h3=> ?_) (fun h3=> ?_)
     ·refine sh ?_
      refine rT ?_
      refine be ?_
      refine (decide_eq_false ?_).symm
      exact C3 hx hy (T3.ne_iff.1 h3)
     ·have e:=T3.eq_iff.1 h3
      subst e
      refine sh ?_
      refine kI (i+1) ?_ ?_
      ·exact⟨by omega,iN hx hy hi.2⟩
      ·omega
    ·refine sh ?_
     refine rT ?_
     refine be ?_
     refine (decide_eq_true ?_).symm
     exact lF hi.2 (by omega) (by omega)
theorem Ic {R:Env} (h:Ps R) (l l':List (Int × Int)) (hl:l.length<=1073741824):R.Pc 316 [.aH 2 (cW l),.aH 2 (cW l')] (.bool (decide (l=l'))):=
 h.Vd.enter 100 rfl fun X bb hfit hp=>by
  refine sh ?_
  refine cS (fun h1=> ?_) (fun h1=> ?_)
  ·refine sh ?_
   refine rT ?_
   refine be ?_
   refine (decide_eq_false ?_).symm
   exact fun e=>h1 (by simp[e])
  ·refine sh ?_
   refine gD 100 (fun i:Nat=>i<=l.length/\l.take i=l'.take i) (fun i=>⟨[(0,.aH 2 (cW l)),(1,.aH 2 (cW l')),(12,.int .i64 l.length),(13,.int .i64 i)],[],0⟩) (fun i=>l.length - i) (0) ?_ ?_
   ·exact⟨Nat.zero_le _,rfl⟩
   ·intro i hi
    dsimp only
    refine sh ?_
    refine cS (fun h2=> ?_) (fun h2=> ?_)
    ·obtain⟨x,hx⟩:∃u,l[i]? =some u:=⟨_,List.getElem?_eq_getElem (by omega)⟩
     obtain⟨y,hy⟩:∃u,l'[i]? =some u:=⟨_,List.getElem?_eq_getElem (by omega)⟩
     refine sh ?_
     refine aa hx ?_
     refine sh ?_
     refine aa hy ?_
     refine sh ?_
     refine cS (fun h3=> ?_) (fun h3=> ?_)
     ·refine sh ?_
      refine rT ?_
      refine be ?_
      refine (decide_eq_false ?_).symm
      exact C3 hx hy (P2.ne_iff.1 h3)
     ·have e:=P2.eq_iff.1 h3
      subst e
      refine sh ?_
      refine kI (i+1) ?_ ?_
      ·exact⟨by omega,iN hx hy hi.2⟩
      ·omega
    ·refine sh ?_
     refine rT ?_
     refine be ?_
     refine (decide_eq_true ?_).symm
     exact lF hi.2 (by omega) (by omega)
theorem jD.eq_iff {x y:jD}:(x.k==y.k&&(x.c.a==y.c.a&&(x.c.b==y.c.b&&(x.c.c==y.c.c&&x.r==y.r))))=true↔x=y:=by
 obtain⟨_,⟨_,_,_⟩,_⟩:=x; obtain⟨_,⟨_,_,_⟩,_⟩:=y; simp[and_assoc]
theorem jD.ne_iff {x y:jD}:(x.k==y.k&&(x.c.a==y.c.a&&(x.c.b==y.c.b&&(x.c.c==y.c.c&&x.r==y.r))))=false↔x≠y:=by
 rw[<-Bool.not_eq_true,jD.eq_iff]
theorem jw.eq_iff {x y:jw}:(x.k==y.k&&(x.c.a==y.c.a&&(x.c.b==y.c.b&&(x.c.c==y.c.c&&(x.p.a==y.p.a&&(x.p.b==y.p.b&&(x.p.c==y.p.c&&(x.u.a==y.u.a&&(x.u.b==y.u.b&&(x.u.c==y.u.c&&(x.v.a==y.v.a&&(x.v.b==y.v.b&&x.v.c==y.v.c))))))))))))=true↔x=y:=by
 obtain⟨_,⟨_,_,_⟩,⟨_,_,_⟩,⟨_,_,_⟩,⟨_,_,_⟩⟩:=x; obtain⟨_,⟨_,_,_⟩,⟨_,_,_⟩,⟨_,_,_⟩,⟨_,_,_⟩⟩:=y; simp[and_assoc]
theorem jw.ne_iff {x y:jw}:(x.k==y.k&&(x.c.a==y.c.a&&(x.c.b==y.c.b&&(x.c.c==y.c.c&&(x.p.a==y.p.a&&(x.p.b==y.p.b&&(x.p.c==y.p.c&&(x.u.a==y.u.a&&(x.u.b==y.u.b&&(x.u.c==y.u.c&&(x.v.a==y.v.a&&(x.v.b==y.v.b&&x.v.c==y.v.c))))))))))))=false↔x≠y:=by
 rw[<-Bool.not_eq_true,jw.eq_iff]
structure As.B3 (a:As):Prop where
 v:a.m.v.length<=1000
 uv:a.m.uv.length<=1000
 t:a.m.t.length<=1000
 x:a.x.t.length<=1000
def du (a b:As):Bool:=decide (a.k=b.k/\a.mt=b.mt/\a.li=b.li/\a.x.side=b.x.side/\a.m.v=b.m.v/\a.m.uv=b.m.uv/\a.m.t=b.m.t/\a.x.t=b.x.t)
theorem Q3 {R:Env} (h:Pv R) (a b:As) (f:a.B3):R.Pc 298 [.agg a.row,.agg b.row] (.bool (du a b)):=
 h.Vg.enter 100 rfl fun X bb hfit hp=>by
  refine sh ?_
  refine cS (fun h1=> ?_) (fun h1=> ?_)
  ·refine sh ?_
   refine rT ?_
   refine be ?_
   exact (decide_eq_false fun e=>h1 e.1).symm
  ·refine sh ?_
   refine cS (fun h2=> ?_) (fun h2=> ?_)
   ·refine sh ?_
    refine rT ?_
    refine be ?_
    exact (decide_eq_false fun e=>jD.ne_iff.1 h2 e.2.1).symm
   ·refine sh ?_
    refine cS (fun h3=> ?_) (fun h3=> ?_)
    ·refine sh ?_
     refine rT ?_
     refine be ?_
     exact (decide_eq_false fun e=>jw.ne_iff.1 h3 e.2.2.1).symm
    ·refine sh ?_
     refine cS (fun h4=> ?_) (fun h4=> ?_)
     ·refine sh ?_
      refine rT ?_
      refine be ?_
      exact (decide_eq_false fun e=>h4 e.2.2.2.1).symm
     ·refine sh ?_
      refine ae.pure h.n315.Vb.hb (Ib h.n315 a.m.v b.m.v (by have:=f.v; omega)) rfl ?_
      refine sh ?_
      refine cS (fun h5=> ?_) (fun h5=> ?_)
      ·refine sh ?_
       refine ae.pure h.n316.Vd.hb (Ic h.n316 a.m.uv b.m.uv (by have:=f.uv; omega)) rfl ?_
       refine sh ?_
       refine cS (fun h6=> ?_) (fun h6=> ?_)
       ·refine sh ?_
        refine ae.pure h.n317.Pu.hb (Ab h.n317 a.m.t b.m.t (by have:=f.t; omega)) rfl ?_
        refine sh ?_
        refine cS (fun h7=> ?_) (fun h7=> ?_)
        ·refine sh ?_
         refine ae.pure h.n317.Pu.hb (Ab h.n317 a.x.t b.x.t (by have:=f.x; omega)) rfl ?_
         refine sh ?_
         refine rT ?_
         refine be ?_
         simp[du,h1,jD.eq_iff.1 h2,jw.eq_iff.1 h3,h4,h5,h6,h7]
        ·refine sh ?_
         refine rT ?_
         refine be ?_
         exact (decide_eq_false fun e=>h7 e.2.2.2.2.2.2.1).symm
       ·refine sh ?_
        refine rT ?_
        refine be ?_
        exact (decide_eq_false fun e=>h6 e.2.2.2.2.2.1).symm
      ·refine sh ?_
       refine rT ?_
       refine be ?_
       exact (decide_eq_false fun e=>h5 e.2.2.2.2.1).symm
theorem E7 {R:Env} (h:N89 R) (t u:ii) (hl:t.t.length<=1000):R.Pc 89 [.agg t.row,.agg u.row] (.bool (decide (t.side=u.side/\t.t=u.t))):=
 h.o89.enter 200 rfl fun X bb hfit hp=>by
  refine sh ?_
  refine cS (fun h1=> ?_) (fun h1=> ?_)
  ·refine sh ?_
   refine rT ?_
   refine be ?_
   exact (decide_eq_false fun e=>h1 e.1).symm
  ·refine sh ?_
   refine cS (fun h2=> ?_) (fun h2=> ?_)
   ·refine sh ?_
    refine rT ?_
    refine be ?_
    exact (decide_eq_false fun e=>h2 (by rw[e.2])).symm
   ·refine sh ?_
    refine gD 100 (fun i:Nat=>i<=t.t.length/\t.t.take i=u.t.take i) (fun i=>⟨[(2,.loc 0 1 0 0),(3,.loc 1 1 0 0),(5,.int .i64 i)],[(0,.var (R.ty 12) t.row),(1,.var (R.ty 12) u.row)],2⟩) (fun i=>t.t.length - i) (0) ?_ ?_
    ·exact⟨Nat.zero_le _,rfl⟩
    ·intro i hi
     dsimp only
     refine sh ?_
     refine cS (fun g1=> ?_) (fun g1=> ?_)
     ·obtain⟨x,hx⟩:∃v,t.t[i]? =some v:=⟨_,List.getElem?_eq_getElem (by omega)⟩
      obtain⟨y,hy⟩:∃v,u.t[i]? =some v:=⟨_,List.getElem?_eq_getElem (by omega)⟩
      refine sh ?_
      refine aa hx ?_
      refine sh ?_
      refine aa hy ?_
      refine sh ?_
      refine cS (fun g2=> ?_) (fun g2=> ?_)
      ·refine sh ?_
       refine rT ?_
       refine be ?_
       exact (decide_eq_false fun e=>C3 hx hy (T3.ne_iff.1 g2) e.2).symm
      ·have e:=T3.eq_iff.1 g2
       subst e
       refine sh ?_
       refine kI (i+1) ?_ ?_
       ·exact⟨by omega,iN hx hy hi.2⟩
       ·omega
     ·have et:=lF hi.2 (by omega) (by omega)
      refine sh ?_
      refine rT ?_
      refine be ?_
      exact (decide_eq_true ⟨h1,et⟩).symm
end Go.UM
namespace Go.UM
open Go.AM
set_option maxRecDepth 4000
def cap (k:Int):Int:=if k=1 then 2048 else if k=2 then 1024 else if k=3\/ k=4 then 64 else 0
theorem Xl {R:Env} (h:N37 R) (k:Int):R.Pc 37 [.int .i64 k] (.int .i64 (cap k)):=
 h.o37.enter 60 rfl fun X b hfit hp=>by
  refine sh ?_
  refine cS (fun h1=> ?_) (fun h1=> ?_)
  ·refine sh ?_
   refine rT ?_
   refine be ?_
   simp[cap]; omega
  ·refine sh ?_
   refine cS (fun h2=> ?_) (fun h2=> ?_)
   ·refine sh ?_
    refine rT ?_
    refine be ?_
    simp[cap]; omega
   ·refine st ?_
    obtain h3|h3|h3|h3|h3:k=0\/ k=1\/ k=2\/ k=3\/ k=4:=by omega
    all_goals subst h3
    ·refine sh ?_
     exact rT
    ·refine sh ?_
     exact rT
    ·refine sh ?_
     exact rT
    ·refine sh ?_
     exact rT
    ·refine sh ?_
     exact rT
theorem yb {R:Env} (h:N38 R) (k:Int):R.Pc 38 [.int .i64 k] (.int .i64 (cap k)):=
 h.We.enter 60 rfl fun X b hfit hp=>by
  refine sh ?_
  refine cS (fun h1=> ?_) (fun h1=> ?_)
  ·refine sh ?_
   refine rT ?_
   refine be ?_
   simp[cap,h1]
  ·refine sh ?_
   refine cS (fun h2=> ?_) (fun h2=> ?_)
   ·refine sh ?_
    refine rT ?_
    refine be ?_
    simp[cap,h1,h2]
   ·refine sh ?_
    refine cS (fun h3=> ?_) (fun h3=> ?_)
    ·refine sh ?_
     refine rT ?_
     refine be ?_
     simp[cap,h3]
    ·refine sh ?_
     refine cS (fun h4=> ?_) (fun h4=> ?_)
     ·refine sh ?_
      refine rT ?_
      refine be ?_
      simp[cap,h4]
     ·refine sh ?_
      refine rT ?_
      refine be ?_
      simp[cap,h1,h2,h3,h4]
end Go.UM
namespace Go.UM
open Go.AM
set_option maxRecDepth 4000
def qv:Ms:=⟨[],[],[]⟩
def Y3:ii:=⟨0,[]⟩
def qw:jD:=⟨0,z3,0⟩
def mG:jw:=⟨0,z3,z3,z3,z3⟩
def As.zero (k:Int):As:=⟨k,qv,Y3,qw,mG⟩
def As.bare (a:As):As:=if a.k=1 then {a with m:=qv} else if a.k=2 then {a with x:=Y3} else if a.k=3 then {a with mt:=qw} else if a.k=4 then {a with li:=mG} else a
def dv (a:As):Int:=if own a≠0 then own a else if du a.bare (As.zero a.k)=false then 5 else if cap a.k< (gy a).length then 9 else 0
theorem Xm {R:Env} (h:Pw R) (a:As) (fx:a.x.t.length<=1000):R.Pc 309 [.agg a.row] (.int .i64 (own a)):=
 h.Vi.enter 100 rfl fun X bb hfit hp=>by
  unfold own
  refine sh ?_
  refine cS (fun h1=> ?_) (fun h1=> ?_)
  ·rw[if_pos h1]
   refine sh ?_
   refine ae.pure h.n193.Pl.hb (zX h.n193 a.m) rfl ?_
   refine sh ?_
   exact rT
  ·rw[if_neg h1]
   refine sh ?_
   refine cS (fun h2=> ?_) (fun h2=> ?_)
   ·rw[if_pos h2]
    refine sh ?_
    refine ae.pure h.M8.o84.hb (H' h.M8 a.x (by omega)) rfl ?_
    refine sh ?_
    exact rT
   ·rw[if_neg h2]
    refine sh ?_
    refine cS (fun h3=> ?_) (fun h3=> ?_)
    ·rw[if_pos h3]
     refine sh ?_
     refine ae.pure h.n290.U7.hb (QW h.n290 a.mt) rfl ?_
     refine sh ?_
     exact rT
    ·rw[if_neg h3]
     refine sh ?_
     refine cS (fun h4=> ?_) (fun h4=> ?_)
     ·rw[if_pos h4]
      refine sh ?_
      refine ae.pure h.n292.U'.hb (QY h.n292 a.li) rfl ?_
      refine sh ?_
      exact rT
     ·rw[if_neg h4]
      refine sh ?_
      exact rT
theorem Q4 {R:Env} (h:Px R) (a:As):R.Pc 310 [.agg a.row] (.agg a.bare.row):=
 h.Vk.enter 100 rfl fun X bb hfit hp=>by
  unfold As.bare
  refine sh ?_
  refine cS (fun h1=> ?_) (fun h1=> ?_)
  ·rw[if_pos h1]
   refine sh ?_
   exact rT
  ·rw[if_neg h1]
   refine sh ?_
   refine cS (fun h2=> ?_) (fun h2=> ?_)
   ·rw[if_pos h2]
    refine sh ?_
    exact rT
   ·rw[if_neg h2]
    refine sh ?_
    refine cS (fun h3=> ?_) (fun h3=> ?_)
    ·rw[if_pos h3]
     refine sh ?_
     exact rT
    ·rw[if_neg h3]
     refine sh ?_
     refine cS (fun h4=> ?_) (fun h4=> ?_)
     ·rw[if_pos h4]
      refine sh ?_
      exact rT
     ·rw[if_neg h4]
      refine sh ?_
      exact rT
theorem As.B3.bare {a:As} (f:a.B3):a.bare.B3:=by
 unfold As.bare
 obtain⟨f1,f2,f3,f4⟩:=f
 split
 ·exact⟨by simp[qv],by simp[qv],by simp[qv],f4⟩
 ·split
  ·exact⟨f1,f2,f3,by simp[Y3]⟩
  ·split
   ·exact⟨f1,f2,f3,f4⟩
   ·split<;>exact⟨f1,f2,f3,f4⟩
theorem E8 {R:Env} (h:PA R) (a:As) (fx:a.x.t.length<=1000) (f:a.bare.B3):R.Pc 294 [.agg a.row] (.int .i64 (dv a)):=
 h.Vo.enter 100 rfl fun X bb hfit hp=>by
  refine sh ?_
  refine ae.pure h.n309.Vi.hb (Xm h.n309 a fx) rfl ?_
  generalize hq:dv a=q
  refine sh ?_
  refine cS (fun h1=> ?_) (fun h1=> ?_)
  ·rw[dv,if_pos h1]at hq
   subst hq
   refine sh ?_
   exact rT
  ·rw[dv,if_neg (by simpa using h1)]at hq
   have ok:=h1
   refine sh ?_
   refine cM false [] ((Q4 h.n310 a).mc h.n310.Vk.hb) ?_
   repeat (intro _; first|refine eK ?_|refine eP ?_)
   refine sh ?_
   refine cM false [] ((Q3 h.n298 a.bare (As.zero a.k) f).mc h.n298.Vg.hb) ?_
   repeat (intro _; first|refine eK ?_|refine eP ?_)
   refine sh ?_
   refine cS (fun h2=> ?_) (fun h2=> ?_)
   ·rw[if_pos (by simpa using h2)]at hq
    subst hq
    refine sh ?_
    exact rT
   ·rw[if_neg (by simpa using h2)]at hq
    refine sh ?_
    refine ae.pure h.n311.Vm.hb (Ia h.n311 a (by omega) ok) rfl ?_
    refine sh ?_
    refine ae.pure h.n37.o37.hb (Xl h.n37 a.k) rfl ?_
    refine sh ?_
    refine cS (fun h3=> ?_) (fun h3=> ?_)
    ·rw[if_pos h3]at hq
     subst hq
     refine sh ?_
     exact rT
    ·rw[if_neg (by omega)]at hq
     subst hq
     refine sh ?_
     exact rT
def uu (m:Ms):Bool:=decide (0<m.v.length+m.uv.length+m.t.length)
def Ad (x:ii):Bool:=decide (x.side≠0\/ 0<x.t.length)
theorem yc {R:Env} (h:Ql R) (m:Ms) (h1:m.v.length<=1000) (h2:m.uv.length<=1000) (h3:m.t.length<=1000):R.Pc 313 [.agg m.row] (.bool (uu m)):=
 h.Lb.enter 60 rfl fun X bb hfit hp=>by
  refine sh ?_
  refine rT ?_
  refine be ?_
  rw[Bool.eq_iff_iff]; simp only[uu,decide_eq_true_eq]; omega
theorem B4 {R:Env} (h:Qk R) (x:ii):R.Pc 312 [.agg x.row] (.bool (Ad x)):=
 h.La.enter 60 rfl fun X bb hfit hp=>by
  refine sh ?_
  refine cS (fun h1=> ?_) (fun h1=> ?_)
  ·refine sh ?_
   refine rT ?_
   refine be ?_
   simp[Ad,h1]
  ·refine sh ?_
   refine rT ?_
   refine be ?_
   simp[Ad,h1]
theorem uw {m:Ms}:uu m=false↔m.v=[]/\m.uv=[]/\m.t=[]:=by
 simp only[uu,decide_eq_false_iff_not,<-List.length_eq_zero_iff]; omega
theorem yd {x:ii}:Ad x=false↔x.side=0/\x.t=[]:=by
 simp only[Ad,decide_eq_false_iff_not,<-List.length_eq_zero_iff]; omega
theorem C4 {a:As} (h:a.k=1):du a.bare (As.zero a.k)=decide (Ad a.x=false/\a.mt=qw/\a.li=mG):=by
 rw[du,As.bare,if_pos h,Bool.eq_iff_iff,decide_eq_true_eq,decide_eq_true_eq,yd]
 exact⟨fun⟨_,e2,e3,e4,_,_,_,e8⟩=>⟨⟨e4,e8⟩,e2,e3⟩,fun⟨⟨e4,e8⟩,e2,e3⟩=>⟨rfl,e2,e3,e4,rfl,rfl,rfl,e8⟩⟩
theorem C5 {a:As} (h:a.k=2):du a.bare (As.zero a.k)=decide (uu a.m=false/\a.mt=qw/\a.li=mG):=by
 rw[du,As.bare,if_neg (by omega),if_pos h,Bool.eq_iff_iff,decide_eq_true_eq,decide_eq_true_eq,uw]
 exact⟨fun⟨_,e2,e3,_,e5,e6,e7,_⟩=>⟨⟨e5,e6,e7⟩,e2,e3⟩,fun⟨⟨e5,e6,e7⟩,e2,e3⟩=>⟨rfl,e2,e3,rfl,e5,e6,e7,rfl⟩⟩
theorem C6 {a:As} (h:a.k=3):du a.bare (As.zero a.k)=decide (uu a.m=false/\Ad a.x=false/\a.li=mG):=by
 rw[du,As.bare,if_neg (by omega),if_neg (by omega),if_pos h,Bool.eq_iff_iff,decide_eq_true_eq,decide_eq_true_eq,uw,yd]
 exact⟨fun⟨_,_,e3,e4,e5,e6,e7,e8⟩=>⟨⟨e5,e6,e7⟩,⟨e4,e8⟩,e3⟩,fun⟨⟨e5,e6,e7⟩,⟨e4,e8⟩,e3⟩=>⟨rfl,rfl,e3,e4,e5,e6,e7,e8⟩⟩
theorem C7 {a:As} (h:a.k=4):du a.bare (As.zero a.k)=decide (uu a.m=false/\Ad a.x=false/\a.mt=qw):=by
 rw[du,As.bare,if_neg (by omega),if_neg (by omega),if_neg (by omega),if_pos h,Bool.eq_iff_iff,decide_eq_true_eq,decide_eq_true_eq,uw,yd]
 exact⟨fun⟨_,e2,_,e4,e5,e6,e7,e8⟩=>⟨⟨e5,e6,e7⟩,⟨e4,e8⟩,e2⟩,fun⟨⟨e5,e6,e7⟩,⟨e4,e8⟩,e2⟩=>⟨rfl,e2,rfl,e4,e5,e6,e7,e8⟩⟩
theorem Ie {R:Env} (h:Qn R) (a:As) (f:a.B3):R.Pc 295 [.agg a.row] (.int .i64 (dv a)):=
 h.Wt.enter 100 rfl fun X bb hfit hp=>by
  generalize hq:dv a=q
  refine sh ?_
  refine cS (fun h1=> ?_) (fun h1=> ?_)
  ·have ow:own a=jI a.m:=by simp[own,h1]
   refine sh ?_
   refine ae.pure h.n198.Qg.hb (ul h.n198 a.m) rfl ?_
   refine sh ?_
   refine ae.pure h.n312.La.hb (B4 h.n312 a.x) rfl ?_
   refine sh ?_
   refine cS (fun t1=> ?_) (fun t1=> ?_)
   ·have hz:du a.bare (As.zero a.k)=false:=by simp[C4 h1,t1]
    refine sh ?_
    refine cS (fun c1=> ?_) (fun c1=> ?_)
    ·rw[dv,ow,if_pos c1]at hq
     subst hq
     refine sh ?_
     exact rT
    ·rw[dv,ow,if_neg (by simpa using c1),if_pos hz]at hq
     subst hq
     refine sh ?_
     exact rT
   ·refine sh ?_
    refine cS (fun t2=> ?_) (fun t2=> ?_)
    ·have hz:du a.bare (As.zero a.k)=false:=by simp[C4 h1,jD.ne_iff (y:=qw) |>.1 t2]
     refine sh ?_
     refine cS (fun c1=> ?_) (fun c1=> ?_)
     ·rw[dv,ow,if_pos c1]at hq
      subst hq
      refine sh ?_
      exact rT
     ·rw[dv,ow,if_neg (by simpa using c1),if_pos hz]at hq
      subst hq
      refine sh ?_
      exact rT
    ·have z1:= @jw.ne_iff a.li mG
     have z2:= @jw.eq_iff a.li mG
     have hz:a.li≠mG->du a.bare (As.zero a.k)=false:=fun c=>by simp[C4 h1,c]
     have hn:a.li=mG->du a.bare (As.zero a.k)=true:=fun c=>by simp[C4 h1,t1,jD.eq_iff (y:=qw) |>.1 t2,c]
     refine sh ?_
     refine cS (fun c1=> ?_) (fun c1=> ?_)
     ·rw[dv,ow,if_pos c1]at hq
      subst hq
      refine sh ?_
      exact rT
     ·have ok:own a=0:=ow.trans c1
      rw[dv,ow,if_neg (by simpa using c1)]at hq
      refine sh ?_
      refine cS (fun c2=> ?_) (fun c2=> ?_)
      ·rw[if_pos (hz (z1.1 c2))]at hq
       subst hq
       refine sh ?_
       exact rT
      ·rw[if_neg (by simpa using hn (z2.1 c2))]at hq
       refine sh ?_
       refine ae.pure h.n314.HG.hb (sj h.n314 a (by have:=f.x; omega) ok) rfl ?_
       refine sh ?_
       refine ae.pure h.n38.We.hb (yb h.n38 a.k) rfl ?_
       refine sh ?_
       refine cS (fun c3=> ?_) (fun c3=> ?_)
       ·rw[if_pos c3]at hq
        subst hq
        refine sh ?_
        exact rT
       ·rw[if_neg (by omega)]at hq
        subst hq
        refine sh ?_
        exact rT
  ·refine sh ?_
   refine cS (fun h2=> ?_) (fun h2=> ?_)
   ·have ow:own a=fJ a.x:=by simp[own,h2]
    refine sh ?_
    refine ae.pure h.Na.o85.hb (C1 h.Na a.x (by have:=f.x; omega)) rfl ?_
    refine sh ?_
    refine ae.pure h.n313.Lb.hb (yc h.n313 a.m f.v f.uv f.t) rfl ?_
    refine sh ?_
    refine cS (fun t1=> ?_) (fun t1=> ?_)
    ·have hz:du a.bare (As.zero a.k)=false:=by simp[C5 h2,t1]
     refine sh ?_
     refine cS (fun c1=> ?_) (fun c1=> ?_)
     ·rw[dv,ow,if_pos c1]at hq
      subst hq
      refine sh ?_
      exact rT
     ·rw[dv,ow,if_neg (by simpa using c1),if_pos hz]at hq
      subst hq
      refine sh ?_
      exact rT
    ·refine sh ?_
     refine cS (fun t2=> ?_) (fun t2=> ?_)
     ·have hz:du a.bare (As.zero a.k)=false:=by simp[C5 h2,jD.ne_iff (y:=qw) |>.1 t2]
      refine sh ?_
      refine cS (fun c1=> ?_) (fun c1=> ?_)
      ·rw[dv,ow,if_pos c1]at hq
       subst hq
       refine sh ?_
       exact rT
      ·rw[dv,ow,if_neg (by simpa using c1),if_pos hz]at hq
       subst hq
       refine sh ?_
       exact rT
     ·have z1:= @jw.ne_iff a.li mG
      have z2:= @jw.eq_iff a.li mG
      have hz:a.li≠mG->du a.bare (As.zero a.k)=false:=fun c=>by simp[C5 h2,c]
      have hn:a.li=mG->du a.bare (As.zero a.k)=true:=fun c=>by simp[C5 h2,t1,jD.eq_iff (y:=qw) |>.1 t2,c]
      refine sh ?_
      refine cS (fun c1=> ?_) (fun c1=> ?_)
      ·rw[dv,ow,if_pos c1]at hq
       subst hq
       refine sh ?_
       exact rT
      ·have ok:own a=0:=ow.trans c1
       rw[dv,ow,if_neg (by simpa using c1)]at hq
       refine sh ?_
       refine cS (fun c2=> ?_) (fun c2=> ?_)
       ·rw[if_pos (hz (z1.1 c2))]at hq
        subst hq
        refine sh ?_
        exact rT
       ·rw[if_neg (by simpa using hn (z2.1 c2))]at hq
        refine sh ?_
        refine ae.pure h.n314.HG.hb (sj h.n314 a (by have:=f.x; omega) ok) rfl ?_
        refine sh ?_
        refine ae.pure h.n38.We.hb (yb h.n38 a.k) rfl ?_
        refine sh ?_
        refine cS (fun c3=> ?_) (fun c3=> ?_)
        ·rw[if_pos c3]at hq
         subst hq
         refine sh ?_
         exact rT
        ·rw[if_neg (by omega)]at hq
         subst hq
         refine sh ?_
         exact rT
   ·refine sh ?_
    refine cS (fun h3=> ?_) (fun h3=> ?_)
    ·have ow:own a=jJ a.mt:=by simp[own,h3]
     refine sh ?_
     refine ae.pure h.n291.Wm.hb (LJ h.n291 a.mt) rfl ?_
     refine sh ?_
     refine ae.pure h.n313.Lb.hb (yc h.n313 a.m f.v f.uv f.t) rfl ?_
     refine sh ?_
     refine cS (fun t1=> ?_) (fun t1=> ?_)
     ·have hz:du a.bare (As.zero a.k)=false:=by simp[C6 h3,t1]
      refine sh ?_
      refine cS (fun c1=> ?_) (fun c1=> ?_)
      ·rw[dv,ow,if_pos c1]at hq
       subst hq
       refine sh ?_
       exact rT
      ·rw[dv,ow,if_neg (by simpa using c1),if_pos hz]at hq
       subst hq
       refine sh ?_
       exact rT
     ·refine sh ?_
      refine ae.pure h.n312.La.hb (B4 h.n312 a.x) rfl ?_
      refine sh ?_
      refine cS (fun t2=> ?_) (fun t2=> ?_)
      ·have hz:du a.bare (As.zero a.k)=false:=by simp[C6 h3,t2]
       refine sh ?_
       refine cS (fun c1=> ?_) (fun c1=> ?_)
       ·rw[dv,ow,if_pos c1]at hq
        subst hq
        refine sh ?_
        exact rT
       ·rw[dv,ow,if_neg (by simpa using c1),if_pos hz]at hq
        subst hq
        refine sh ?_
        exact rT
      ·have z1:= @jw.ne_iff a.li mG
       have z2:= @jw.eq_iff a.li mG
       have hz:a.li≠mG->du a.bare (As.zero a.k)=false:=fun c=>by simp[C6 h3,c]
       have hn:a.li=mG->du a.bare (As.zero a.k)=true:=fun c=>by simp[C6 h3,t1,t2,c]
       refine sh ?_
       refine cS (fun c1=> ?_) (fun c1=> ?_)
       ·rw[dv,ow,if_pos c1]at hq
        subst hq
        refine sh ?_
        exact rT
       ·have ok:own a=0:=ow.trans c1
        rw[dv,ow,if_neg (by simpa using c1)]at hq
        refine sh ?_
        refine cS (fun c2=> ?_) (fun c2=> ?_)
        ·rw[if_pos (hz (z1.1 c2))]at hq
         subst hq
         refine sh ?_
         exact rT
        ·rw[if_neg (by simpa using hn (z2.1 c2))]at hq
         refine sh ?_
         refine ae.pure h.n314.HG.hb (sj h.n314 a (by have:=f.x; omega) ok) rfl ?_
         refine sh ?_
         refine ae.pure h.n38.We.hb (yb h.n38 a.k) rfl ?_
         refine sh ?_
         refine cS (fun c3=> ?_) (fun c3=> ?_)
         ·rw[if_pos c3]at hq
          subst hq
          refine sh ?_
          exact rT
         ·rw[if_neg (by omega)]at hq
          subst hq
          refine sh ?_
          exact rT
    ·refine sh ?_
     refine cS (fun h4=> ?_) (fun h4=> ?_)
     ·have ow:own a=kL a.li:=by simp[own,h4]
      refine sh ?_
      refine ae.pure h.n293.Wo.hb (LL h.n293 a.li) rfl ?_
      refine sh ?_
      refine ae.pure h.n313.Lb.hb (yc h.n313 a.m f.v f.uv f.t) rfl ?_
      refine sh ?_
      refine cS (fun t1=> ?_) (fun t1=> ?_)
      ·have hz:du a.bare (As.zero a.k)=false:=by simp[C7 h4,t1]
       refine sh ?_
       refine cS (fun c1=> ?_) (fun c1=> ?_)
       ·rw[dv,ow,if_pos c1]at hq
        subst hq
        refine sh ?_
        exact rT
       ·rw[dv,ow,if_neg (by simpa using c1),if_pos hz]at hq
        subst hq
        refine sh ?_
        exact rT
      ·refine sh ?_
       refine ae.pure h.n312.La.hb (B4 h.n312 a.x) rfl ?_
       refine sh ?_
       refine cS (fun t2=> ?_) (fun t2=> ?_)
       ·have hz:du a.bare (As.zero a.k)=false:=by simp[C7 h4,t2]
        refine sh ?_
        refine cS (fun c1=> ?_) (fun c1=> ?_)
        ·rw[dv,ow,if_pos c1]at hq
         subst hq
         refine sh ?_
         exact rT
        ·rw[dv,ow,if_neg (by simpa using c1),if_pos hz]at hq
         subst hq
         refine sh ?_
         exact rT
       ·have z1:= @jD.ne_iff a.mt qw
        have z2:= @jD.eq_iff a.mt qw
        have hz:a.mt≠qw->du a.bare (As.zero a.k)=false:=fun c=>by simp[C7 h4,c]
        have hn:a.mt=qw->du a.bare (As.zero a.k)=true:=fun c=>by simp[C7 h4,t1,t2,c]
        refine sh ?_
        refine cS (fun c1=> ?_) (fun c1=> ?_)
        ·rw[dv,ow,if_pos c1]at hq
         subst hq
         refine sh ?_
         exact rT
        ·have ok:own a=0:=ow.trans c1
         rw[dv,ow,if_neg (by simpa using c1)]at hq
         refine sh ?_
         refine cS (fun c2=> ?_) (fun c2=> ?_)
         ·rw[if_pos (hz (z1.1 c2))]at hq
          subst hq
          refine sh ?_
          exact rT
         ·rw[if_neg (by simpa using hn (z2.1 c2))]at hq
          refine sh ?_
          refine ae.pure h.n314.HG.hb (sj h.n314 a (by have:=f.x; omega) ok) rfl ?_
          refine sh ?_
          refine ae.pure h.n38.We.hb (yb h.n38 a.k) rfl ?_
          refine sh ?_
          refine cS (fun c3=> ?_) (fun c3=> ?_)
          ·rw[if_pos c3]at hq
           subst hq
           refine sh ?_
           exact rT
          ·rw[if_neg (by omega)]at hq
           subst hq
           refine sh ?_
           exact rT
     ·rw[dv,own,if_neg h1,if_neg h2,if_neg h3,if_neg h4,if_pos (by decide)]at hq
      subst hq
      refine sh ?_
      refine af (by decide) ?_
      refine sh ?_
      exact rT
end Go.UM
namespace Go.UM
open Go.AM
set_option maxRecDepth 4000
structure Tb where
 rows:List Rw
 ins:List In
def vt (r:Rw):List AV:= .int .i64 r.h::r.row
def iq (l:List Rw):List (List AV):=l.map vt
@[simp] theorem Q5 (l:List Rw):(iq l).length=l.length:=by simp[iq]
@[simp] theorem Q6 (a b:List Rw):iq (a++b)=iq a++iq b:=by simp[iq]
@[simp] theorem Y4 (l:List Rw):mW (iq l):=by simp[iq,vt,Rw.row]
def aO (l:List Rw) (h:Int):Option Rw:=l.find? fun r=>r.h==h
def ba (x y:In):Bool:=x.aQ==y.aQ&&(x.df==y.df&&(x.cb==y.cb&&x.n==y.n))
def dB (l:List In) (x:In):Option In:=l.find? fun y=>ba x y
theorem If {h:Int} {l:List Rw}:∀e ∈ iq l,dR [.i] [.int .i64 h] e=true:=by
 intro e he
 obtain⟨r,_,rfl⟩:=List.mem_map.1 he
 rfl
theorem Ae (h:Int):∀l:List Rw,∃i:Nat,bL [.int .i64 h] (iq l)=(aO l h).map fun r=>(i,r.row)
 |[]=>⟨0,rfl⟩
 |r::l=>by
  obtain⟨i,hi⟩:=Ae h l
  have e:kX [.int .i64 h] (vt r)=(r.h==h):=by
   show ((h==r.h)&&true)=_
   rw[Bool.and_true]; exact Bool.beq_comm
  by_cases hh:(r.h==h)=true
  ·refine⟨0,?_⟩
   show (if kX [.int .i64 h] (vt r)then some (0,(vt r).drop 1)else _)=_
   rw[e,if_pos hh]; simp only[aO,List.find?_cons,hh]; rfl
  ·refine⟨i+1,?_⟩
   show (if kX [.int .i64 h] (vt r)then some (0,(vt r).drop 1)else (bL [.int .i64 h] (iq l)).map fun q=>(q.1+1,q.2))=_
   rw[e,if_neg hh,hi]; simp only[aO,List.find?_cons,hh]
   cases List.find? (fun r=>r.h==h) l<;>rfl
theorem oE {h:Int} {l:List Rw} {K:Option (Nat × List AV)->Prop} (k:∀i:Nat,K ((aO l h).map fun r=>(i,r.row))):Jn [.i] [.int .i64 h] (iq l) K:=by
 obtain⟨i,hi⟩:=Ae h l
 exact⟨If,by rw[hi]; exact k i⟩
theorem Ig {x:In} {l:List In}:∀e ∈ cE l,dR [.i,.i,.i,.i] [.int .i64 x.aQ,.int .i64 x.df,.int .i64 x.cb,.int .i64 x.n] e=true:=by
 intro e he
 obtain⟨r,_,rfl⟩:=List.mem_map.1 he
 rfl
theorem C8 (x:In):∀l:List In,∃i:Nat,bL [.int .i64 x.aQ,.int .i64 x.df,.int .i64 x.cb,.int .i64 x.n] (cE l)=(dB l x).map fun r=>(i,r.t.row)
 |[]=>⟨0,rfl⟩
 |r::l=>by
  obtain⟨i,hi⟩:=C8 x l
  have e:kX [.int .i64 x.aQ,.int .i64 x.df,.int .i64 x.cb,.int .i64 x.n] r.row=ba x r:=by
   show (x.aQ==r.aQ&&(x.df==r.df&&(x.cb==r.cb&&(x.n==r.n&&true))))=_
   rw[Bool.and_true]; rfl
  by_cases hh:ba x r=true
  ·refine⟨0,?_⟩
   show (if kX [.int .i64 x.aQ,.int .i64 x.df,.int .i64 x.cb,.int .i64 x.n] r.row then some (0,r.row.drop 4)else _)=_
   rw[e,if_pos hh]; simp only[dB,List.find?_cons,hh]; rfl
  ·refine⟨i+1,?_⟩
   show (if kX [.int .i64 x.aQ,.int .i64 x.df,.int .i64 x.cb,.int .i64 x.n] r.row then some (0,r.row.drop 4)else (bL _ (cE l)).map fun q=>(q.1+1,q.2))=_
   rw[e,if_neg hh,hi]; simp only[dB,List.find?_cons,hh]
   cases List.find? (fun y=>ba x y) l<;>rfl
theorem Q7 {x:In} {l:List In} {K:Option (Nat × List AV)->Prop} (k:∀i:Nat,K ((dB l x).map fun r=>(i,r.t.row))):Jn [.i,.i,.i,.i] [.int .i64 x.aQ,.int .i64 x.df,.int .i64 x.cb,.int .i64 x.n] (cE l) K:=by
 obtain⟨i,hi⟩:=C8 x l
 exact⟨Ig,by rw[hi]; exact k i⟩
abbrev ek (R:Env) (d1 d2:Bool) (t:Tb):ah:=[(0,.map 1 false true d1 41 (iq t.rows)),(1,.map 4 true true d2 16 (cE t.ins)),(2,.var (R.ty 47) [.omap 0,.omap 1])]
theorem Ih {R:Env} (h:KN R):R.Mc 345 [] [] (.loc 2 1 0 0) (ek R true true ⟨[],[]⟩) 3:=
 h.aa'.bC 60 0 rfl rfl rfl fun X bb hfit hp=>by
  refine sh ?_
  exact rM [0,1,2]
theorem lG {R:Env} (h:xP R) (d1 d2:Bool) (t:Tb):R.Mc 355 [.loc 2 1 0 0] (ek R d1 d2 t) (.bool false) (ek R d1 d2 t) 3:=
 h.aba.bC 60 3 rfl rfl rfl fun X bb hfit hp=>by
  unfold ek
  refine sh ?_
  exact rM [0,1,2]
theorem E9 {R:Env} (h:HE R) (x:In):R.Pc 358 [.agg x.row] (.agg [.int .i64 x.aQ,.int .i64 x.df,.int .i64 x.cb,.int .i64 x.n]):=
 h.BF.enter 60 rfl fun X bb hfit hp=>by
  refine sh ?_
  exact rT
def bF (l:List Rw) (x:In):Int:=
 match aO l x.aQ with
 |none=>11
 |some a=>match aO l x.df with
  |none=>11
  |some b=>if x.cb=0 then (if a.f.kind≠1\/ b.f.kind≠3 then 12 else 0)else match aO l x.cb with
   |none=>11
   |some c=>if a.f.kind≠1\/ b.f.kind≠3\/ c.f.kind≠2 then 12 else 0
def pL (x:In):List (List AV):=[[.int .i64 x.aQ,.int .i64 1],[.int .i64 x.df,.int .i64 3],[.int .i64 x.cb,.int .i64 2]]
theorem Q8 {x:In} {i:Nat} {r:List AV} {K:List AV->Prop} (h:(pL x)[i]? =some r) (k:K r):GK [[.int .i64 x.aQ,.int .i64 1],[.int .i64 x.df,.int .i64 3],[.int .i64 x.cb,.int .i64 2]] 3 i K:=
 tO (f:=fun x:List AV=>x) (l:=pL x) rfl h k
set_option maxHeartbeats 4000000 in
theorem LO {R:Env} (h:PB R) (d1 d2:Bool) (t:Tb) (x:In):R.Mc 357 [.loc 2 1 0 0,.agg x.row] (ek R d1 d2 t) (.int .i64 (bF t.rows x)) (ek R d1 d2 t) 3:=
 h.abc.bC 100 3 rfl rfl rfl fun X bb hfit hp=>by
  unfold ek
  have hq:∃q,bF t.rows x=q:=⟨_,rfl⟩
  obtain⟨q,hq⟩:=hq
  rw[hq]
  unfold bF at hq
  refine sh ?_
  refine ao.one 100 ?_
  refine sh ?_
  refine af (by rfl) ?_
  refine sh ?_
  refine Q8 (i:=0) rfl ?_
  refine sh ?_
  refine oE fun i=> ?_
  cases ha:aO t.rows x.aQ with
  |none=>
   rw[ha]at hq
   refine sh ?_
   refine aw (by decide) ?_
   subst hq
   refine sh ?_
   exact rM [0,1,2]
  |some a=>
   rw[ha]at hq
   dsimp only[Option.map_some]at hq ⊢
   refine sh ?_
   refine aw (by decide) ?_
   refine sh ?_
   refine cS (fun k1=> ?_) (fun k1=> ?_)
   ·refine sh ?_
    refine ao.one 100 ?_
    refine sh ?_
    refine af (by rfl) ?_
    refine sh ?_
    refine Q8 (i:=1) rfl ?_
    refine sh ?_
    refine oE fun i=> ?_
    cases hb:aO t.rows x.df with
    |none=>
     rw[hb]at hq
     refine sh ?_
     refine aw (by decide) ?_
     subst hq
     refine sh ?_
     exact rM [0,1,2]
    |some b=>
     rw[hb]at hq
     dsimp only[Option.map_some]at hq ⊢
     refine sh ?_
     refine aw (by decide) ?_
     refine sh ?_
     refine cS (fun k2=> ?_) (fun k2=> ?_)
     ·refine sh ?_
      refine ao.one 100 ?_
      refine sh ?_
      refine af (by rfl) ?_
      refine sh ?_
      refine Q8 (i:=2) rfl ?_
      refine sh ?_
      refine oE fun i=> ?_
      by_cases hx:x.cb=0
      ·rw[if_pos hx]at hq
       cases aO t.rows x.cb<;>dsimp only[Option.map_some,Option.map_none]
       ·refine sh ?_
        refine af (by decide) ?_
        refine sh ?_
        refine af (by simp; exact hx) ?_
        first|rw[if_pos (by omega)]at hq|rw[if_neg (by omega)]at hq
        refine sh ?_
        refine ao.one 100 ?_
        refine sh ?_
        refine aw (by rfl) ?_
        subst hq
        refine sh ?_
        exact rM [0,1,2]
       ·refine sh ?_
        refine af (by decide) ?_
        refine sh ?_
        refine af (by simp; exact hx) ?_
        first|rw[if_pos (by omega)]at hq|rw[if_neg (by omega)]at hq
        refine sh ?_
        refine ao.one 100 ?_
        refine sh ?_
        refine aw (by rfl) ?_
        subst hq
        refine sh ?_
        exact rM [0,1,2]
      ·rw[if_neg hx]at hq
       cases hc:aO t.rows x.cb with
       |none=>
        rw[hc]at hq
        refine sh ?_
        refine af (by decide) ?_
        refine sh ?_
        refine aw (by simp; exact hx) ?_
        subst hq
        refine sh ?_
        exact rM [0,1,2]
       |some c=>
        rw[hc]at hq
        dsimp only[Option.map_some]at hq ⊢
        refine sh ?_
        refine af (by decide) ?_
        refine sh ?_
        refine aw (by simp; exact hx) ?_
        refine sh ?_
        refine cS (fun k3=> ?_) (fun k3=> ?_)
        ·first|rw[if_pos (by omega)]at hq|rw[if_neg (by omega)]at hq
         refine sh ?_
         refine ao.one 100 ?_
         refine sh ?_
         refine aw (by rfl) ?_
         subst hq
         refine sh ?_
         exact rM [0,1,2]
        ·first|rw[if_pos (by omega)]at hq|rw[if_neg (by omega)]at hq
         refine sh ?_
         refine ao.one 100 ?_
         refine sh ?_
         refine aw (by rfl) ?_
         subst hq
         refine sh ?_
         exact rM [0,1,2]
     ·refine sh ?_
      refine ao.one 100 ?_
      refine sh ?_
      refine af (by rfl) ?_
      refine sh ?_
      refine Q8 (i:=2) rfl ?_
      refine sh ?_
      refine oE fun i=> ?_
      by_cases hx:x.cb=0
      ·rw[if_pos hx]at hq
       cases aO t.rows x.cb<;>dsimp only[Option.map_some,Option.map_none]
       ·refine sh ?_
        refine af (by decide) ?_
        refine sh ?_
        refine af (by simp; exact hx) ?_
        first|rw[if_pos (by omega)]at hq|rw[if_neg (by omega)]at hq
        refine sh ?_
        refine ao.one 100 ?_
        refine sh ?_
        refine aw (by rfl) ?_
        subst hq
        refine sh ?_
        exact rM [0,1,2]
       ·refine sh ?_
        refine af (by decide) ?_
        refine sh ?_
        refine af (by simp; exact hx) ?_
        first|rw[if_pos (by omega)]at hq|rw[if_neg (by omega)]at hq
        refine sh ?_
        refine ao.one 100 ?_
        refine sh ?_
        refine aw (by rfl) ?_
        subst hq
        refine sh ?_
        exact rM [0,1,2]
      ·rw[if_neg hx]at hq
       cases hc:aO t.rows x.cb with
       |none=>
        rw[hc]at hq
        refine sh ?_
        refine af (by decide) ?_
        refine sh ?_
        refine aw (by simp; exact hx) ?_
        subst hq
        refine sh ?_
        exact rM [0,1,2]
       |some c=>
        rw[hc]at hq
        dsimp only[Option.map_some]at hq ⊢
        refine sh ?_
        refine af (by decide) ?_
        refine sh ?_
        refine aw (by simp; exact hx) ?_
        refine sh ?_
        refine cS (fun k3=> ?_) (fun k3=> ?_)
        ·first|rw[if_pos (by omega)]at hq|rw[if_neg (by omega)]at hq
         refine sh ?_
         refine ao.one 100 ?_
         refine sh ?_
         refine aw (by rfl) ?_
         subst hq
         refine sh ?_
         exact rM [0,1,2]
        ·first|rw[if_pos (by omega)]at hq|rw[if_neg (by omega)]at hq
         refine sh ?_
         refine ao.one 100 ?_
         refine sh ?_
         refine aw (by rfl) ?_
         subst hq
         refine sh ?_
         exact rM [0,1,2]
   ·refine sh ?_
    refine ao.one 100 ?_
    refine sh ?_
    refine af (by rfl) ?_
    refine sh ?_
    refine Q8 (i:=1) rfl ?_
    refine sh ?_
    refine oE fun i=> ?_
    cases hb:aO t.rows x.df with
    |none=>
     rw[hb]at hq
     refine sh ?_
     refine aw (by decide) ?_
     subst hq
     refine sh ?_
     exact rM [0,1,2]
    |some b=>
     rw[hb]at hq
     dsimp only[Option.map_some]at hq ⊢
     refine sh ?_
     refine aw (by decide) ?_
     refine sh ?_
     refine cS (fun k2=> ?_) (fun k2=> ?_)
     ·refine sh ?_
      refine ao.one 100 ?_
      refine sh ?_
      refine af (by rfl) ?_
      refine sh ?_
      refine Q8 (i:=2) rfl ?_
      refine sh ?_
      refine oE fun i=> ?_
      by_cases hx:x.cb=0
      ·rw[if_pos hx]at hq
       cases aO t.rows x.cb<;>dsimp only[Option.map_some,Option.map_none]
       ·refine sh ?_
        refine af (by decide) ?_
        refine sh ?_
        refine af (by simp; exact hx) ?_
        first|rw[if_pos (by omega)]at hq|rw[if_neg (by omega)]at hq
        refine sh ?_
        refine ao.one 100 ?_
        refine sh ?_
        refine aw (by rfl) ?_
        subst hq
        refine sh ?_
        exact rM [0,1,2]
       ·refine sh ?_
        refine af (by decide) ?_
        refine sh ?_
        refine af (by simp; exact hx) ?_
        first|rw[if_pos (by omega)]at hq|rw[if_neg (by omega)]at hq
        refine sh ?_
        refine ao.one 100 ?_
        refine sh ?_
        refine aw (by rfl) ?_
        subst hq
        refine sh ?_
        exact rM [0,1,2]
      ·rw[if_neg hx]at hq
       cases hc:aO t.rows x.cb with
       |none=>
        rw[hc]at hq
        refine sh ?_
        refine af (by decide) ?_
        refine sh ?_
        refine aw (by simp; exact hx) ?_
        subst hq
        refine sh ?_
        exact rM [0,1,2]
       |some c=>
        rw[hc]at hq
        dsimp only[Option.map_some]at hq ⊢
        refine sh ?_
        refine af (by decide) ?_
        refine sh ?_
        refine aw (by simp; exact hx) ?_
        refine sh ?_
        refine cS (fun k3=> ?_) (fun k3=> ?_)
        ·first|rw[if_pos (by omega)]at hq|rw[if_neg (by omega)]at hq
         refine sh ?_
         refine ao.one 100 ?_
         refine sh ?_
         refine aw (by rfl) ?_
         subst hq
         refine sh ?_
         exact rM [0,1,2]
        ·first|rw[if_pos (by omega)]at hq|rw[if_neg (by omega)]at hq
         refine sh ?_
         refine ao.one 100 ?_
         refine sh ?_
         refine aw (by rfl) ?_
         subst hq
         refine sh ?_
         exact rM [0,1,2]
     ·refine sh ?_
      refine ao.one 100 ?_
      refine sh ?_
      refine af (by rfl) ?_
      refine sh ?_
      refine Q8 (i:=2) rfl ?_
      refine sh ?_
      refine oE fun i=> ?_
      by_cases hx:x.cb=0
      ·rw[if_pos hx]at hq
       cases aO t.rows x.cb<;>dsimp only[Option.map_some,Option.map_none]
       ·refine sh ?_
        refine af (by decide) ?_
        refine sh ?_
        refine af (by simp; exact hx) ?_
        first|rw[if_pos (by omega)]at hq|rw[if_neg (by omega)]at hq
        refine sh ?_
        refine ao.one 100 ?_
        refine sh ?_
        refine aw (by rfl) ?_
        subst hq
        refine sh ?_
        exact rM [0,1,2]
       ·refine sh ?_
        refine af (by decide) ?_
        refine sh ?_
        refine af (by simp; exact hx) ?_
        first|rw[if_pos (by omega)]at hq|rw[if_neg (by omega)]at hq
        refine sh ?_
        refine ao.one 100 ?_
        refine sh ?_
        refine aw (by rfl) ?_
        subst hq
        refine sh ?_
        exact rM [0,1,2]
      ·rw[if_neg hx]at hq
       cases hc:aO t.rows x.cb with
       |none=>
        rw[hc]at hq
        refine sh ?_
        refine af (by decide) ?_
        refine sh ?_
        refine aw (by simp; exact hx) ?_
        subst hq
        refine sh ?_
        exact rM [0,1,2]
       |some c=>
        rw[hc]at hq
        dsimp only[Option.map_some]at hq ⊢
        refine sh ?_
        refine af (by decide) ?_
        refine sh ?_
        refine aw (by simp; exact hx) ?_
        refine sh ?_
        refine cS (fun k3=> ?_) (fun k3=> ?_)
        ·first|rw[if_pos (by omega)]at hq|rw[if_neg (by omega)]at hq
         refine sh ?_
         refine ao.one 100 ?_
         refine sh ?_
         refine aw (by rfl) ?_
         subst hq
         refine sh ?_
         exact rM [0,1,2]
        ·first|rw[if_pos (by omega)]at hq|rw[if_neg (by omega)]at hq
         refine sh ?_
         refine ao.one 100 ?_
         refine sh ?_
         refine aw (by rfl) ?_
         subst hq
         refine sh ?_
         exact rM [0,1,2]
end Go.UM
namespace Go.UM
open Go.AM
set_option maxRecDepth 4000
def f3 (r:Rd):T3 × Rd:=(⟨(r.int 2).1,((r.int 2).2.int 2).1,(((r.int 2).2.int 2).2.int 2).1⟩,(((r.int 2).2.int 2).2.int 2).2)
def f2 (r:Rd):(Int × Int) × Rd:=(((r.num 2).1,((r.num 2).2.num 2).1),((r.num 2).2.num 2).2)
def ft (r:Rd):T3 × Rd:=(⟨(r.num 1).1,((r.num 1).2.num 1).1,(((r.num 1).2.num 1).2.num 1).1⟩,(((r.num 1).2.num 1).2.num 1).2)
theorem eT.f3 {B:List UInt8} {r:Rd} (h:eT B r):eT B (f3 r).2:=((h.int 2).int 2).int 2
theorem eT.f2 {B:List UInt8} {r:Rd} (h:eT B r):eT B (f2 r).2:=(h.num 2).num 2
theorem eT.ft {B:List UInt8} {r:Rd} (h:eT B r):eT B (ft r).2:=((h.num 1).num 1).num 1
theorem eT.CZ {B:List UInt8} {α:Type} {f:Rd->α × Rd} (hf:∀r,eT B r->eT B (f r).2) (n:Nat):∀ {r:Rd},eT B r->eT B (CZ f n r).2:=by
 induction n with
 |zero=>exact fun h=>h
 |succ n ih=>exact fun h=>hf _ (ih h)
def zMs:Ms:=⟨[],[],[]⟩
def mq (nv nt:Nat) (r:Rd):Ms × Rd:=(⟨(CZ f3 nv r).1,(CZ f2 nv (CZ f3 nv r).2).1,(CZ ft nt (CZ f2 nv (CZ f3 nv r).2).2).1⟩,(CZ ft nt (CZ f2 nv (CZ f3 nv r).2).2).2)
def abO (q:Ms × Rd):Ms × Int:=if q.2.fin≠0 then (zMs,q.2.fin)else if jI q.1≠0 then (zMs,jI q.1)else (q.1,0)
def Np (b:List UInt8):Ms × Int:=abO (mq ((⟨b,0,true⟩:Rd).num 1).1 (((⟨b,0,true⟩:Rd).num 1).2.num 1).1 (((⟨b,0,true⟩:Rd).num 1).2.num 1).2)
end Go.UM
namespace Go.UM
open Go.AM
set_option maxRecDepth 4000
def Y5:List UInt8->List T3
 |a::b::c::r=>⟨a.toNat,b.toNat,c.toNat⟩::Y5 r
 |_=>[]
def LP:ii:=⟨0,[]⟩
def Xo (b:List UInt8):ii × Int:=match b with
 |[]=>(LP,4)
 |s::rest=>if rest.length<3* (s.toNat*s.toNat)then (LP,4)else if 3* (s.toNat*s.toNat)<rest.length then (LP,5)else
  if fJ ⟨s.toNat,Y5 rest⟩≠0 then (LP,fJ ⟨s.toNat,Y5 rest⟩)else (⟨s.toNat,Y5 rest⟩,0)
end Go.UM
namespace Go.UM
open Go.AM
set_option maxRecDepth 4000
def fw (w:Int) (r:Rd):T3 × Rd:=(⟨(r.num w).1,((r.num w).2.num w).1,(((r.num w).2.num w).2.num w).1⟩,(((r.num w).2.num w).2.num w).2)
theorem eT.fw {B:List UInt8} {r:Rd} (h:eT B r) (w:Int):eT B (fw w r).2:=((h.num w).num w).num w
def Xp (r:Rd):jD × Rd:=(⟨(r.num 1).1,(fw 2 (r.num 1).2).1,((fw 2 (r.num 1).2).2.num 2).1⟩,((fw 2 (r.num 1).2).2.num 2).2)
def Xq (r:Rd):jw × Rd:=(⟨(r.num 1).1,(fw 4 (r.num 1).2).1,(f3 (fw 4 (r.num 1).2).2).1,(f3 (f3 (fw 4 (r.num 1).2).2).2).1,(f3 (f3 (f3 (fw 4 (r.num 1).2).2).2).2).1⟩,(f3 (f3 (f3 (fw 4 (r.num 1).2).2).2).2).2)
def apart (k:Int) (b:List UInt8):As × Int:=
 if k=1 then ({As.zero k with m:=(Np b).1},(Np b).2)
 else if k=2 then ({As.zero k with x:=(Xo b).1},(Xo b).2)
 else if k=3 then ({As.zero k with mt:=(Xp ⟨b,0,true⟩).1},(Xp ⟨b,0,true⟩).2.fin)
 else if k=4 then ({As.zero k with li:=(Xq ⟨b,0,true⟩).1},(Xq ⟨b,0,true⟩).2.fin)
 else (As.zero k,0)
theorem Ii {x:ii} (h:fJ x=0):x.t.length<=256:=by
 have ok:=sg h
 have hs:=lE ok.s
 have:=ok.l
 rcases hs with h|h|h|h|h<;>rw[h]at this<;>omega
end Go.UM
namespace Go.UM
open Go.AM
set_option maxRecDepth 4000
end Go.UM
namespace Go.UM
open Go.AM
set_option maxRecDepth 4000
theorem Ij {a b:As} (h:du a b=true):a=b:=by
 simp only[du,decide_eq_true_eq]at h
 obtain⟨ak,⟨_,_,_⟩,⟨_,_⟩,am,al⟩:=a
 obtain⟨bk,⟨_,_,_⟩,⟨_,_⟩,bm,bl⟩:=b
 dsimp only at h
 obtain⟨rfl,rfl,rfl,rfl,rfl,rfl,rfl,rfl⟩:=h
 rfl
theorem dG {a:As} (h:dv a=0):own a=0/\a.bare=As.zero a.k/\(gy a).length<=cap a.k:=by
 unfold dv at h
 split at h
 ·rename_i h1; exact absurd h h1
 ·rename_i h1
  split at h
  ·cases h
  ·rename_i h2
   split at h
   ·cases h
   ·rename_i h3
    exact⟨by simpa using h1,Ij (by simpa using h2),by omega⟩
end Go.UM
namespace Go.UM
open Go.AM
set_option maxRecDepth 4000
theorem Fa {R:Env} (h:Kr R) (l:List T3) (hl:l.length<=1073741824):R.Mc 361 [.aH 3 (bJ l)] [] (.bc 0 l.length) [(0,.arr (R.ty 26) 3 (bJ l))] 1:=
 h.TR.bC 60 0 rfl rfl rfl fun X b hfit hp=>by
  refine sh ?_
  refine GL.mk (fun hn=> ?_) ?_
  ·have:l=[]:=by simpa[bJ]using hn
   subst this
   refine sh ?_
   exact rM [50]
  ·refine sh ?_
   exact rM [0]
theorem Fb {R:Env} (h:Ks R) (l:List (Int × Int)) (hl:l.length<=1073741824):R.Mc 362 [.aH 2 (cW l)] [] (.bc 0 l.length) [(0,.arr (R.ty 18) 2 (cW l))] 1:=
 h.TU.bC 60 0 rfl rfl rfl fun X b hfit hp=>by
  refine sh ?_
  refine GL.mk (fun hn=> ?_) ?_
  ·have:l=[]:=by simpa[cW]using hn
   subst this
   refine sh ?_
   exact rM [50]
  ·refine sh ?_
   exact rM [0]
theorem Fc {R:Env} (h:Ko R) (l:List T3) (hl:l.length<=1073741824):R.Mc 101 [.aH 3 (bJ l)] [] (.bc 0 l.length) [(0,.arr (R.ty 13) 3 (bJ l))] 1:=
 h.OC.bC 60 0 rfl rfl rfl fun X b hfit hp=>by
  refine sh ?_
  refine GL.mk (fun hn=> ?_) ?_
  ·have:l=[]:=by simpa[bJ]using hn
   subst this
   refine sh ?_
   exact rM [50]
  ·refine sh ?_
   exact rM [0]
theorem B5 {R:Env} (h:Kr R) (l:List T3) (hl:l.length<=1073741824):R.Pc 361 [.aH 3 (bJ l)] (.aH 3 (bJ l)):=(Fa h l hl).pc fZ
theorem B6 {R:Env} (h:Ks R) (l:List (Int × Int)) (hl:l.length<=1073741824):R.Pc 362 [.aH 2 (cW l)] (.aH 2 (cW l)):=(Fb h l hl).pc fZ
theorem ux {R:Env} (h:Ko R) (l:List T3) (hl:l.length<=1073741824):R.Pc 101 [.aH 3 (bJ l)] (.aH 3 (bJ l)):=(Fc h l hl).pc fZ
theorem qx {R:Env} (h:KO R) (a:As) (f:a.B3):R.Pc 356 [.agg a.row] (.agg a.row):=
 h.KQ.enter 100 rfl fun X bb hfit hp=>by
  obtain⟨f1,f2,f3,f4⟩:=f
  refine sh ?_
  refine ae.pure h.KR.TR.hb (B5 h.KR a.m.v (by omega)) rfl ?_
  refine sh ?_
  refine ae.pure h.KT.TU.hb (B6 h.KT a.m.uv (by omega)) rfl ?_
  refine sh ?_
  refine ae.pure h.n101.OC.hb (ux h.n101 a.m.t (by omega)) rfl ?_
  refine sh ?_
  refine ae.pure h.n101.OC.hb (ux h.n101 a.x.t (by omega)) rfl ?_
  refine sh ?_
  exact rT
theorem uy {m:Ms} (h:jI m=0):m.v.length<=64/\m.t.length<=64/\m.uv.length=m.v.length/\m.v.any lD=false:=by
 unfold jI at h
 split at h
 ·cases h
 ·split at h
  ·cases h
  ·split at h
   ·cases h
   ·rename_i h1 h2 h3
    exact⟨by omega,by omega,by omega,by simpa using h3⟩
theorem uz {a:As} (h:dv a=0) (hx:a.x.t.length<=1000):a.B3:=by
 obtain⟨ow,hb,_⟩:=dG h
 by_cases k:a.k=1
 ·rw[own,if_pos k]at ow
  obtain⟨h1,h2,h3,_⟩:=uy ow
  exact⟨by omega,by omega,by omega,hx⟩
 ·have e:a.m=qv:=by
   have e1:a.bare.m=(As.zero a.k).m:=by rw[hb]
   have e2:a.bare.m=a.m:=by unfold As.bare; rw[if_neg k]; repeat' split
                            all_goals rfl
   rw[<-e2,e1]; rfl
  exact⟨by rw[e]; simp[qv],by rw[e]; simp[qv],by rw[e]; simp[qv],hx⟩
def gz (t:Tb) (hd:Int) (f:Mf) (a:As):Tb × Int:=
 if hd<1\/ 65536<hd then (t,2)else if (aO t.rows hd).isSome=true then (t,10)else if dv a≠0 then (t,dv a)else if f.kind≠a.k then (t,12)else (⟨t.rows++ [⟨hd,f,a⟩],t.ins⟩,0)
set_option maxHeartbeats 4000000 in
theorem B7 {R:Env} (h:KU R) (d1 d2:Bool) (t:Tb) (hd:Int) (f:Mf) (a:As) (fx:a.x.t.length<=1000) (fb:a.bare.B3) (hn:t.rows.length<=1000000):
  R.Mc 346 [.loc 2 1 0 0,.int .i64 hd,.agg f.row,.agg a.row] (ek R d1 d2 t) (.int .i64 (gz t hd f a).2) (ek R d1 d2 (gz t hd f a).1) 3:=
 h.abb.bC 100 3 rfl rfl rfl fun X bb hfit hp=>by
  generalize hq:gz t hd f a=q
  unfold gz at hq
  unfold ek
  refine sh ?_
  refine cM false [0,1,2] (lG h.j9 d1 d2 t) ?_
  repeat (intro _; first|refine eK ?_|refine eP ?_)
  refine sh ?_
  refine cS (fun h1=> ?_) (fun h1=> ?_)
  ·rw[if_pos (by omega)]at hq
   subst hq
   refine sh ?_
   exact rM [0,1,2]
  ·refine sh ?_
   refine cS (fun h2=> ?_) (fun h2=> ?_)
   ·rw[if_pos (by omega)]at hq
    subst hq
    refine sh ?_
    exact rM [0,1,2]
   ·rw[if_neg (by omega)]at hq
    refine sh ?_
    refine oE fun i=> ?_
    cases hr:aO t.rows hd with
    |some r=>
     rw[hr,if_pos (show (some r).isSome=true from rfl)]at hq
     dsimp only[Option.map_some]
     subst hq
     refine sh ?_
     exact rM [0,1,2]
    |none=>
     rw[hr,if_neg (by simp)]at hq
     dsimp only[Option.map_none]
     refine sh ?_
     refine ae.pure h.n294.Vo.hb (E8 h.n294 a fx fb) rfl ?_
     refine sh ?_
     refine cS (fun h3=> ?_) (fun h3=> ?_)
     ·rw[if_pos h3]at hq
      subst hq
      refine sh ?_
      exact rM [0,1,2]
     ·rw[if_neg (by simpa using h3)]at hq
      refine sh ?_
      refine cS (fun h4=> ?_) (fun h4=> ?_)
      ·rw[if_pos h4]at hq
       subst hq
       refine sh ?_
       exact rM [0,1,2]
      ·rw[if_neg (by simpa using h4)]at hq
       refine sh ?_
       refine ae.pure h.vk.KQ.hb (qx h.vk a (uz h3 fx)) rfl ?_
       refine sh ?_
       refine oE fun i=> ?_
       rw[hr]
       dsimp only[Option.map_none]
       subst hq
       refine sh ?_
       refine rM [0,1,2] ?_
       refine be ?_
       all_goals (simp[iq,vt,Rw.row])
def uA (x:Af) (l:List T3):Int:=((l.map fun v=>(bW x v).2).find? fun e=>e != 0).getD 0
def ij (t:Tb) (x:In):Tb × Int:=
 if x.n<0\/ 65536<x.n then (t,2)else if bF t.rows x≠0 then (t,bF t.rows x)else if (dB t.ins x).isSome=true then (t,10)
 else match aO t.rows x.aQ with
  |none=>(t,11)
  |some r=>if uA x.t r.a.m.v≠0 then (t,uA x.t r.a.m.v)else (⟨t.rows,t.ins++ [x]⟩,0)
theorem j3 {x:Af} {l:List T3} {k:Nat} {v:T3} (h:l[k]? =some v) (h1:∀ (j:Nat) (u:T3),j<k->l[j]? =some u->(bW x u).2=0) (h2:(bW x v).2≠0):uA x l=(bW x v).2:=by
 unfold uA
 induction l generalizing k with
 |nil=>simp at h
 |cons a r ih=>
  cases k with
  |zero=>
   simp at h; subst h
   simp[List.find?_cons,h2]
  |succ k=>
   have e:=h1 0 a (by omega) rfl
   simp only[List.map_cons,List.find?_cons,e,bne_self_eq_false]
   exact ih (k:=k) (by simpa using h) (fun j u hj hu=>h1 (j+1) u (by omega) (by simpa using hu))
theorem na {x:Af} {l:List T3} (h:∀ (j:Nat) (u:T3),j<l.length->l[j]? =some u->(bW x u).2=0):uA x l=0:=by
 unfold uA
 induction l with
 |nil=>rfl
 |cons a r ih=>
  have e:=h 0 a (by simp) rfl
  simp only[List.map_cons,List.find?_cons,e,bne_self_eq_false]
  exact ih fun j u hj hu=>h (j+1) u (by simpa using hj) (by simpa using hu)
theorem Ag {l:List Rw} {x:In} (h:bF l x=0):∃r,aO l x.aQ=some r/\r.f.kind=1:=by
 unfold bF at h
 cases hr:aO l x.aQ with
 |none=>rw[hr]at h; cases h
 |some r=>
  rw[hr]at h
  refine⟨r,rfl,?_⟩
  dsimp only at h
  cases hb:aO l x.df with
  |none=>rw[hb]at h; cases h
  |some b=>
   rw[hb]at h
   dsimp only at h
   by_cases hx:x.cb=0
   ·rw[if_pos hx]at h
    by_cases k:r.f.kind=1
    ·exact k
    ·rw[if_pos (.inl k)]at h; cases h
   ·rw[if_neg hx]at h
    cases hc:aO l x.cb with
    |none=>rw[hc]at h; cases h
    |some c=>
     rw[hc]at h
     dsimp only at h
     by_cases k:r.f.kind=1
     ·exact k
     ·rw[if_pos (.inl k)]at h; cases h
structure fK (r:Rw):Prop where
 h:1<=r.h/\r.h<=65536
 a:dv r.a=0
 k:r.f.kind=r.a.k
 x:r.a.x.t.length<=1000
theorem bZ {l:List Rw} {h:Int} {r:Rw} (e:aO l h=some r):r ∈ l/\r.h=h:=⟨List.mem_of_find?_eq_some e,by simpa using List.find?_some e⟩
theorem fK.C9 {r:Rw} (o:fK r) (h:r.f.kind=1):r.a.m.v.length<=64/\∀v ∈ r.a.m.v,lD v=false:=by
 have k1:r.a.k=1:=o.k.symm.trans h
 have ow:=(dG o.a).1
 rw[own,if_pos k1]at ow
 obtain⟨h1,_,_,h4⟩:=uy ow
 exact⟨h1,fun v hv=>by
  have:=List.any_eq_false.1 h4 v hv
  simpa using this⟩
theorem ye {v:T3} (h:lD v=false):v.I:=by
 have:=si h
 exact⟨by simp only[bf]; omega,by simp only[bf]; omega,by simp only[bf]; omega⟩
set_option maxHeartbeats 4000000 in
theorem Ik {R:Env} (h:KV R) (d1 d2:Bool) (t:Tb) (x:In) (ok:∀r ∈ t.rows,fK r) (hx:x.t.I) (hn:t.ins.length<=1000000):
  R.Mc 347 [.loc 2 1 0 0,.agg x.row] (ek R d1 d2 t) (.int .i64 (ij t x).2) (ek R d1 d2 (ij t x).1) 3:=
 h.abd.bC 100 3 rfl rfl rfl fun X bb hfit hp=>by
  generalize hq:ij t x=q
  unfold ij at hq
  unfold ek
  refine sh ?_
  refine cM false [0,1,2] (lG h.j9 d1 d2 t) ?_
  repeat (intro _; first|refine eK ?_|refine eP ?_)
  refine sh ?_
  refine cS (fun h1=> ?_) (fun h1=> ?_)
  ·rw[if_pos (by omega)]at hq
   subst hq
   refine sh ?_
   exact rM [0,1,2]
  ·refine sh ?_
   refine cS (fun h2=> ?_) (fun h2=> ?_)
   ·rw[if_pos (by omega)]at hq
    subst hq
    refine sh ?_
    exact rM [0,1,2]
   ·rw[if_neg (by omega)]at hq
    refine sh ?_
    refine cM false [0,1,2] (LO h.PC d1 d2 t x) ?_
    repeat (intro _; first|refine eK ?_|refine eP ?_)
    refine sh ?_
    refine cS (fun h3=> ?_) (fun h3=> ?_)
    ·rw[if_pos h3]at hq
     subst hq
     refine sh ?_
     exact rM [0,1,2]
    ·rw[if_neg (by simpa using h3)]at hq
     obtain⟨r,hr,hk⟩:=Ag h3
     have hvs:=(ok r (bZ hr).1).C9 hk
     refine sh ?_
     refine ae.pure h.lX.BF.hb (E9 h.lX x) rfl ?_
     refine sh ?_
     refine Q7 fun i=> ?_
     cases hi:dB t.ins x with
     |some y=>
      rw[hi,if_pos (show (some y).isSome=true from rfl)]at hq
      dsimp only[Option.map_some]
      subst hq
      refine sh ?_
      exact rM [0,1,2]
     |none=>
      rw[hi,if_neg (by simp),hr]at hq
      dsimp only at hq
      dsimp only[Option.map_none]
      refine sh ?_
      refine oE fun i=> ?_
      rw[hr]
      dsimp only[Option.map_some]
      refine sh ?_
      refine gD 100 (fun k:Nat=>k<=r.a.m.v.length/\∀ (j:Nat) (u:T3),j<k->r.a.m.v[j]? =some u->(bW x.t u).2=0) (fun k=>⟨[(0,.loc 2 1 0 0),(3,.loc 3 1 0 0),(50,.aH 3 (bJ r.a.m.v)),(51,.int .i64 r.a.m.v.length),(52,.int .i64 k)],[(3,.var (R.ty 44) x.row),(0,.map 1 false true d1 41 (iq t.rows)),(1,.map 4 true true d2 16 (cE t.ins)),(2,.var (R.ty 47) [.omap 0,.omap 1])],4⟩) (fun k=>r.a.m.v.length - k) (0) ?_ ?_
      ·exact⟨Nat.zero_le _,fun j u hj=>absurd hj (Nat.not_lt_zero j)⟩
      ·intro k hk
       dsimp only
       have hlen:=hvs.1
       refine sh ?_
       refine cS (fun h4=> ?_) (fun h4=> ?_)
       ·obtain⟨v,hv⟩:∃u_,r.a.m.v[k]? =some u_:=⟨_,List.getElem?_eq_getElem (by first|omega|(simp<;>omega))⟩
        refine sh ?_
        refine aa hv ?_
        refine sh ?_
        refine ae.pure h.n241.tU.hb (fh h.n241 hx (ye (hvs.2 v (List.mem_of_getElem? hv)))) rfl ?_
        refine sh ?_
        refine cS (fun h5=> ?_) (fun h5=> ?_)
        ·rw[if_pos (by rw[j3 hv hk.2 h5]; exact h5),j3 hv hk.2 h5]at hq
         subst hq
         refine sh ?_
         exact rM [0,1,2]
        ·refine sh ?_
         refine kI (k+1) ?_ ?_
         ·refine⟨by omega,fun j u hj hu=> ?_⟩
          by_cases e:j=k
          ·subst e
           rw[hv]at hu
           cases hu
           exact h5
          ·exact hk.2 j u (by omega) hu
         ·omega
       ·rw[na (fun j u hj=>hk.2 j u (by omega)),if_neg (by simp)]at hq
        refine sh ?_
        refine ae.pure h.lX.BF.hb (E9 h.lX x) rfl ?_
        refine sh ?_
        refine Q7 fun i=> ?_
        rw[hi]
        dsimp only[Option.map_none]
        subst hq
        refine sh ?_
        refine rM [0,1,2] ?_
        refine be ?_
        all_goals (simp[cE,In.row])
end Go.UM
namespace Go.UM
open Go.AM
set_option maxRecDepth 4000
theorem C' (x r:In):kX [.int .i64 x.aQ,.int .i64 x.df,.int .i64 x.cb,.int .i64 x.n] r.row=ba x r:=by
 show (x.aQ==r.aQ&&(x.df==r.df&&(x.cb==r.cb&&(x.n==r.n&&true))))=_
 rw[Bool.and_true]; rfl
theorem Ah (x:In):∀l:List In,∃i:Nat,bL [.int .i64 x.aQ,.int .i64 x.df,.int .i64 x.cb,.int .i64 x.n] (cE l)=(dB l x).map (fun r=>(i,r.t.row))/\((dB l x).isSome=true->(cE l).eraseIdx i=cE (l.eraseP (ba x)))
 |[]=>⟨0,rfl,fun h=>by simp[dB]at h⟩
 |r::l=>by
  obtain⟨i,hi,he⟩:=Ah x l
  by_cases hh:ba x r=true
  ·refine⟨0,?_,fun _=> ?_⟩
   ·show (if kX [.int .i64 x.aQ,.int .i64 x.df,.int .i64 x.cb,.int .i64 x.n] r.row then some (0,r.row.drop 4)else _)=_
    rw[C',if_pos hh]; simp only[dB,List.find?_cons,hh]; rfl
   ·rw[List.eraseP_cons_of_pos hh]; rfl
  ·refine⟨i+1,?_,fun h=> ?_⟩
   ·show (if kX [.int .i64 x.aQ,.int .i64 x.df,.int .i64 x.cb,.int .i64 x.n] r.row then some (0,r.row.drop 4)else (bL _ (cE l)).map fun q=>(q.1+1,q.2))=_
    rw[C',if_neg hh,hi]; simp only[dB,List.find?_cons,hh]
    cases List.find? (fun y=>ba x y) l<;>rfl
   ·rw[List.eraseP_cons_of_neg hh]
    have h':(dB l x).isSome=true:=by simpa[dB,List.find?_cons,hh]using h
    show r.row::(cE l).eraseIdx i=r.row::cE (l.eraseP (ba x))
    rw[he h']
theorem abP {x:In} {l:List In} {K:Option (Nat × List AV)->Prop} (k:∀i:Nat,((dB l x).isSome=true->(cE l).eraseIdx i=cE (l.eraseP (ba x)))->K ((dB l x).map fun r=>(i,r.t.row))):Jn [.i,.i,.i,.i] [.int .i64 x.aQ,.int .i64 x.df,.int .i64 x.cb,.int .i64 x.n] (cE l) K:=by
 obtain⟨i,hi,he⟩:=Ah x l
 exact⟨Ig,by rw[hi]; exact k i he⟩
def jx (t:Tb) (x:In):Tb × Int:=if (dB t.ins x).isSome=true then (⟨t.rows,t.ins.eraseP (ba x)⟩,0)else (t,11)
theorem LQ {R:Env} (h:PK R) (d1 d2:Bool) (t:Tb) (x:In):R.Mc 427 [.loc 2 1 0 0,.agg x.row] (ek R d1 d2 t) (.int .i64 (jx t x).2) (ek R d1 false (jx t x).1) 3:=
 h.abh.bC 100 3 rfl rfl rfl fun X bb hfit hp=>by
  generalize hq:jx t x=q
  unfold jx at hq
  unfold ek
  refine sh ?_
  refine cM false [0,1,2] (lG h.j9 d1 d2 t) ?_
  repeat (intro _; first|refine eK ?_|refine eP ?_)
  refine sh ?_
  refine ae.pure h.lX.BF.hb (E9 h.lX x) rfl ?_
  refine sh ?_
  refine Q7 fun i=> ?_
  cases hr:dB t.ins x with
  |none=>
   rw[hr,if_neg (by simp)]at hq
   dsimp only[Option.map_none]
   subst hq
   refine sh ?_
   exact rM [0,1,2]
  |some y=>
   rw[hr,if_pos (show (some y).isSome=true from rfl)]at hq
   dsimp only[Option.map_some]
   refine sh ?_
   refine ae.pure h.lX.BF.hb (E9 h.lX x) rfl ?_
   refine sh ?_
   refine abP fun i he=> ?_
   rw[hr]at he ⊢
   dsimp only[Option.map_some]
   subst hq
   refine sh ?_
   refine rM [0,1,2] ?_
   refine be ?_
   all_goals (exact he rfl)
theorem Fe {q:Nat × List AV} {es es':List (List AV)} {dn:Dn} {K:List (List AV)->Dn->Prop} (h:es.eraseIdx q.1=es') (k:K es' (dn.dl q.1)):JU (some q) es dn K:=by subst h; exact k
def fD (hd:Int) (x:In):Bool:=(x.aQ==hd||x.df==hd)||x.cb==hd
theorem Q9 {R:Env} (h:KZ R) (hd:Int) (x:In):R.Mc 437 [.agg [.int .i64 x.aQ,.int .i64 x.df,.int .i64 x.cb,.int .i64 x.n],.agg x.t.row,.loc 0 1 0 0] [(0,.var (R.ty 10) [.int .i64 hd])] (.bool (fD hd x)) [(0,.var (R.ty 10) [.int .i64 hd])] 1:=
 h.abi.bC 100 1 rfl rfl rfl fun X bb hfit hp=>by
  generalize hq:fD hd x=q
  unfold fD at hq
  refine sh ?_
  refine cS (fun h1=> ?_) (fun h1=> ?_)
  ·rw[beq_iff_eq.2 h1,Bool.true_or,Bool.true_or]at hq
   subst hq
   refine sh ?_
   exact rM [0]
  ·rw[beq_eq_false_iff_ne.2 h1,Bool.false_or]at hq
   refine sh ?_
   refine cS (fun h2=> ?_) (fun h2=> ?_)
   ·rw[beq_iff_eq.2 h2,Bool.true_or]at hq
    subst hq
    refine sh ?_
    exact rM [0]
   ·rw[beq_eq_false_iff_ne.2 h2,Bool.false_or]at hq
    subst hq
    refine sh ?_
    exact rM [0]
theorem wH:∀ {l:List In} {i:Nat} {x:In},l.Pairwise (fun a b=>ba a b=false)->l[i]? =some x->bL [.int .i64 x.aQ,.int .i64 x.df,.int .i64 x.cb,.int .i64 x.n] (cE l)=some (i,x.t.row)
 |[],i,x,_,h=>by simp at h
 |r::l,0,x,_,h=>by
  simp at h; subst h
  show (if kX [.int .i64 r.aQ,.int .i64 r.df,.int .i64 r.cb,.int .i64 r.n] r.row then some (0,r.row.drop 4)else _)=_
  rw[C',if_pos (by simp[ba])]; rfl
 |r::l,i+1,x,hd,h=>by
  obtain⟨h1,h2⟩:=List.pairwise_cons.1 hd
  have hx:l[i]? =some x:=by simpa using h
  have hn:ba x r=false:=by
   have:=h1 x (List.mem_of_getElem? hx)
   unfold ba at this ⊢
   rw[<-this]
   congr 1; exact Bool.beq_comm
   congr 1; exact Bool.beq_comm
   congr 1; exact Bool.beq_comm
   exact Bool.beq_comm
  show (if kX [.int .i64 x.aQ,.int .i64 x.df,.int .i64 x.cb,.int .i64 x.n] r.row then some (0,r.row.drop 4)else (bL _ (cE l)).map fun q=>(q.1+1,q.2))=_
  rw[C',if_neg (by rw[hn]; simp),wH h2 hx]; rfl
theorem Xr {x:In} {l:List In} {i:Nat} {K:Option (Nat × List AV)->Prop} (hd:l.Pairwise (fun a b=>ba a b=false)) (hx:l[i]? =some x) (k:K (some (i,x.t.row))):Jn [.i,.i,.i,.i] [.int .i64 x.aQ,.int .i64 x.df,.int .i64 x.cb,.int .i64 x.n] (cE l) K:=
 ⟨Ig,by rw[wH hd hx]; exact k⟩
def nF (l:List Bool):Nat:=l.countP fun b=> !b
theorem yf {l:List Bool} {i:Nat} (h:l[i]? =some false):nF (l.set i true)+1=nF l:=by
 unfold nF
 induction l generalizing i with
 |nil=>simp at h
 |cons a r ih=>
  cases i with
  |zero=>simp at h; subst h; simp
  |succ i=>
   have:=ih (i:=i) (by simpa using h)
   simp only[List.set_cons_succ,List.countP_cons]; omega
theorem Il {l:List Bool} {i:Nat} (h:l[i]? =some true):nF (l.eraseIdx i)=nF l:=by
 unfold nF
 induction l generalizing i with
 |nil=>simp at h
 |cons a r ih=>
  cases i with
  |zero=>simp at h; subst h; simp
  |succ i=>
   have:=ih (i:=i) (by simpa using h)
   simp only[List.eraseIdx_cons_succ,List.countP_cons]; omega
structure FT (p:In->Bool) (l0 l:List In) (sn:List Bool):Prop where
 len:sn.length=l.length
 fl:l.filter (fun x=> !p x)=l0.filter (fun x=> !p x)
 nd:l.Pairwise (fun a b=>ba a b=false)
 sn:∀ (i:Nat) (x:In),l[i]? =some x->sn[i]? =some true->p x=false
theorem FT.init {p:In->Bool} {l0:List In} (hd:l0.Pairwise (fun a b=>ba a b=false)):FT p l0 l0 ((cE l0).map fun _=>false):=
 ⟨by simp,rfl,hd,fun i x _ h=>by simp[List.getElem?_map]at h⟩
theorem FT.sV {p:In->Bool} {l0 l:List In} {sn:List Bool} {i:Nat} {x:In} (h:FT p l0 l sn) (hx:l[i]? =some x) (hp:p x=false):FT p l0 l (sn.set i true):=by
 refine⟨by rw[List.length_set]; exact h.len,h.fl,h.nd,fun j y hy hs=> ?_⟩
 by_cases e:i=j
 ·subst e; rw[hx]at hy; cases hy; exact hp
 ·exact h.sn j y hy (by rw[List.getElem?_set_ne e]at hs; exact hs)
theorem FT.drop {p:In->Bool} {l0 l:List In} {sn:List Bool} {i:Nat} {x:In} (h:FT p l0 l sn) (hx:l[i]? =some x) (hp:p x=true):FT p l0 (l.eraseIdx i) ((sn.set i true).eraseIdx i):=by
 have hi:i<l.length:=(List.getElem?_eq_some_iff.1 hx).1
 refine⟨?_,?_,h.nd.sublist (List.eraseIdx_sublist _ _),fun j y hy hs=> ?_⟩
 ·rw[List.length_eraseIdx,List.length_eraseIdx,List.length_set,h.len]
 ·rw[<-h.fl]
  have e1:l=l.take i++x::l.drop (i+1):=by
   rw[<-(List.getElem?_eq_some_iff.1 hx).2,List.getElem_cons_drop,List.take_append_drop]
  have e2:l.eraseIdx i=l.take i++l.drop (i+1):=List.eraseIdx_eq_take_drop_succ ..
  rw[e2]
  conv=>rhs; rw[e1]
  simp[List.filter_append,List.filter_cons,hp]
 ·rw[List.getElem?_eraseIdx]at hy hs
  split at hy
  ·rename_i hlt
   rw[if_pos hlt,List.getElem?_set_ne (by omega)]at hs
   exact h.sn j y hy hs
  ·rename_i hlt
   rw[if_neg hlt,List.getElem?_set_ne (by omega)]at hs
   exact h.sn (j+1) y hy hs
theorem FT.done {p:In->Bool} {l0 l:List In} {sn:List Bool} (h:FT p l0 l sn) (ha:∀q ∈ sn,q=true):l=l0.filter (fun x=> !p x):=by
 rw[<-h.fl,List.filter_eq_self.2]
 intro x hx
 obtain⟨i,hi,rfl⟩:=List.getElem_of_mem hx
 have hi':i<sn.length:=by rw[h.len]; exact hi
 rw[h.sn i l[i] (List.getElem?_eq_getElem hi) (by rw[List.getElem?_eq_getElem hi',ha _ (List.getElem_mem hi')])]; rfl
theorem B8 {l:List In} {i:Nat} {row:List AV} (h:(cE l)[i]? =some row):∃x,l[i]? =some x/\row=x.row:=by
 unfold cE at h
 rw[List.getElem?_map]at h
 obtain⟨x,h1,h2⟩:=Option.map_eq_some_iff.1 h
 exact⟨x,h1,h2.symm⟩
theorem wJ (l:List In) (i:Nat):(cE l).eraseIdx i=cE (l.eraseIdx i):=(Go.ChangeMaps.map_eraseIdx _ _ _).symm
theorem Ff {R:Env} (h:OR R) (k:KZ R) (d2:Bool) (l:List In) (nd:l.Pairwise (fun a b=>ba a b=false)) (hd:Int):R.Mc 438 [.omap 0,.bR (.fn (R.ft 437)) [.loc 1 1 0 0]] [(0,.map 4 true true d2 16 (cE l)),(1,.var (R.ty 10) [.int .i64 hd])] (.aN []) [(0,.map 4 true true false 16 (cE (l.filter fun x=> !fD hd x))),(1,.var (R.ty 10) [.int .i64 hd])] 2:=
 h.aaX.bC 100 2 rfl rfl rfl fun X bb hfit hp=>by
  refine sh ?_
  refine⟨fun r=> ?_⟩
  refine sh ?_
  refine gD 100 (fun s:List In × List Bool × Option Nat=>FT (fD hd) l s.1 s.2.1) (fun s=>⟨[(0,.omap 0),(1,.bR (.fn (R.ft 437)) [.loc 1 1 0 0]),(7,.nJ 0 r)],[(0,.map 4 true true (.it r s.2.1 s.2.2) 16 (cE s.1)),(1,.var (R.ty 10) [.int .i64 hd])],2⟩) (fun s=>nF s.2.1) ((l,(cE l).map fun _=>false,none)) ?_ ?_
  ·exact FT.init nd
  ·rintro⟨l',sn,la⟩ hs
   dsimp only at hs ⊢
   refine sh ?_
   refine⟨rfl,fun h1 h2=> ?_,fun i row h1 h2 h3=> ?_⟩
   ·have e:=hs.done h1
    subst e
    refine sh ?_
    exact rM [0,1]
   ·obtain⟨x,hx,rfl⟩:=B8 h1
    refine sh ?_
    refine⟨⟨rfl,i,x.row,rfl,h1,?_⟩⟩
    refine sh ?_
    refine cM false [1] (Q9 k hd x) ?_
    repeat (intro _; first|refine eK ?_|refine eP ?_)
    refine sh ?_
    refine cS (fun h4=> ?_) (fun h4=> ?_)
    ·refine sh ?_
     refine Xr hs.nd hx ?_
     refine sh ?_
     refine nX ((l'.eraseIdx i,(sn.set i true).eraseIdx i,none)) ?_ ?_ ⟨_,hp,rfl⟩ ?_ ?_
     ·exact hs.drop hx h4
     ·have e1:=yf h2
      have e2:=Il (l:=sn.set i true) (i:=i) (by rw[List.getElem?_set_self (List.getElem?_eq_some_iff.1 h2).1])
      show nF ((sn.set i true).eraseIdx i)<nF sn
      omega
     ·exact iV
     ·refine pC ?_ ?_
      all_goals first|exact wJ l' i|(right; show mW ((cE l').eraseIdx i); rw[wJ]; simp)
    ·refine sh ?_
     refine kI ((l',sn.set i true,some i)) ?_ ?_
     ·exact hs.sV hx h4
     ·have e1:=yf h2
      show nF (sn.set i true)<nF sn
      omega
theorem wK (h:Int):∀l:List Rw,∃i:Nat,bL [.int .i64 h] (iq l)=(aO l h).map (fun r=>(i,r.row))/\((aO l h).isSome=true->(iq l).eraseIdx i=iq (l.eraseP fun r=>r.h==h))
 |[]=>⟨0,rfl,fun h=>by simp[aO]at h⟩
 |r::l=>by
  obtain⟨i,hi,he⟩:=wK h l
  have e:kX [.int .i64 h] (vt r)=(r.h==h):=by
   show ((h==r.h)&&true)=_
   rw[Bool.and_true]; exact Bool.beq_comm
  by_cases hh:(r.h==h)=true
  ·refine⟨0,?_,fun _=> ?_⟩
   ·show (if kX [.int .i64 h] (vt r)then some (0,(vt r).drop 1)else _)=_
    rw[e,if_pos hh]; simp only[aO,List.find?_cons,hh]; rfl
   ·rw[List.eraseP_cons_of_pos (p:=fun r:Rw=>r.h==h) hh]; rfl
  ·refine⟨i+1,?_,fun k=> ?_⟩
   ·show (if kX [.int .i64 h] (vt r)then some (0,(vt r).drop 1)else (bL [.int .i64 h] (iq l)).map fun q=>(q.1+1,q.2))=_
    rw[e,if_neg hh,hi]; simp only[aO,List.find?_cons,hh]
    cases List.find? (fun r=>r.h==h) l<;>rfl
   ·rw[List.eraseP_cons_of_neg (p:=fun r:Rw=>r.h==h) hh]
    have k':(aO l h).isSome=true:=by simpa[aO,List.find?_cons,hh]using k
    show vt r::(iq l).eraseIdx i=vt r::iq (l.eraseP fun r=>r.h==h)
    rw[he k']
theorem Xs {h:Int} {l:List Rw} {K:Option (Nat × List AV)->Prop} (k:∀i:Nat,((aO l h).isSome=true->(iq l).eraseIdx i=iq (l.eraseP fun r=>r.h==h))->K ((aO l h).map fun r=>(i,r.row))):Jn [.i] [.int .i64 h] (iq l) K:=by
 obtain⟨i,hi,he⟩:=wK h l
 exact⟨If,by rw[hi]; exact k i he⟩
def dE (t:Tb) (hd:Int):Tb × Int:=if (aO t.rows hd).isSome=true then (⟨t.rows.eraseP fun r=>r.h==hd,t.ins.filter fun x=> !fD hd x⟩,0)else (t,11)
theorem Fg {R:Env} (h:PL R) (d1 d2:Bool) (t:Tb) (nd:t.ins.Pairwise (fun a b=>ba a b=false)) (hd:Int):R.Mc 428 [.loc 2 1 0 0,.int .i64 hd] (ek R d1 d2 t) (.int .i64 (dE t hd).2) (ek R false false (dE t hd).1) 3:=
 h.abj.bC 100 3 rfl rfl rfl fun X bb hfit hp=>by
  generalize hq:dE t hd=q
  unfold dE at hq
  unfold ek
  refine sh ?_
  refine cM false [0,1,2] (lG h.j9 d1 d2 t) ?_
  repeat (intro _; first|refine eK ?_|refine eP ?_)
  refine sh ?_
  refine oE fun i=> ?_
  cases hr:aO t.rows hd with
  |none=>
   rw[hr,if_neg (by simp)]at hq
   dsimp only[Option.map_none]
   subst hq
   refine sh ?_
   exact rM [0,1,2]
  |some y=>
   rw[hr,if_pos (show (some y).isSome=true from rfl)]at hq
   dsimp only[Option.map_some]
   refine sh ?_
   refine Xs fun i he=> ?_
   rw[hr]at he ⊢
   dsimp only[Option.map_some]
   refine Fe (he rfl) ?_
   refine sh ?_
   refine cM false [1,3] (Ff h.PN h.PM d2 t.ins nd hd) ?_
   repeat (intro _; first|refine eK ?_|refine eP ?_)
   subst hq
   refine sh ?_
   exact rM [0,1,2]
end Go.UM
namespace Go.UM
open Go.AM Go.Shelf Go.RowKit Go.Lib Go.Sort Go.Proofs
section
variable {α:Type} [Inhabited α]
def rz (aP:α->List Int) (x:α):List Value:=(aP x).map (Value.int .i64)
def eU (aP:α->List Int) (x:α):List AV:=(aP x).map (AV.int .i64)
structure nc (P:Program) (f g k:Nat) (aP:α->List Int) (cf:α->α->Int) (gG:List α->List α):Prop where
 nil:∀ (p:Option Addr) (cap:Nat) (fv:Value) (w:World),Calls P f #[.slice p 0 cap,fv] w fun e w'=>e= .returned (.tuple #[])/\w'=w
 row:∀ (aT cap:Nat) (l:List α) (w:World),CmpLays P g #[] (rz aP) k cf aT 0 l.length w->HoldsK (rz aP) k w aT 0 l.toArray->aT<w.heap.size->l.length<4611686018427387904->
  Calls P f #[.slice (some ⟨aT,0,none⟩) l.length cap,.func (.func g) #[] #[]] w fun e w'=>e= .returned (.tuple #[])/\∃n os,w'=sortWorldK (rz aP) k w aT 0 n (gG l).toArray os
theorem Im {ρ:AM.Place} {L:aZ} {I:Nat->Prop} {w:World} {N:Nat->Prop} {n:Int} {v:Value} (h:aL ρ L I w N (.int .i64 n) v):v= .int .i64 n:=by cases h; rfl
omit [Inhabited α] in
theorem Da {ρ:AM.Place} {L:aZ} {I:Nat->Prop} {w:World} {N:Nat->Prop} (aP:α->List Int) (x:α):aL ρ L I w N (.agg (eU aP x)) (.agg (rz aP x).toArray):=by
 refine .agg _ _ (by simp[eU,rz]) (fun u hu=> ?_) fun j hj=> ?_
 ·obtain⟨n,_,rfl⟩:=List.mem_map.1 hu; rfl
 ·have hj':j< (aP x).length:=by simpa[eU]using hj
  simp only[eU,rz,List.getD_eq_getElem?_getD,List.getElem?_map,List.getElem?_eq_getElem hj',Option.map_some,Option.getD_some]
  exact .int _ _
theorem LR {w w1:World} (h:Blw w w1):∃q os,w1=grow (w.drewN q) os:=by
 refine⟨w1.drawn - w.drawn,w1.heap.extract w.heap.size w1.heap.size,?_⟩
 obtain⟨heap,tape,drawn,os,output⟩:=w
 obtain⟨Io,agc,B9,os1,Y6⟩:=w1
 obtain⟨⟨h1,h2,h3,h4,h5⟩,h6⟩:=h
 simp only at h1 h2 h3 h4 h5 h6
 subst h1; subst h2; subst h3
 have e1:Io=heap++Io.extract heap.size Io.size:=by
  apply Array.ext_getElem?
  intro i
  by_cases hi:i<heap.size
  ·rw[Array.getElem?_append_left hi]; exact h5 i hi
  ·rw[Array.getElem?_append_right (by omega),Array.getElem?_extract]
   have e:heap.size+ (i - heap.size)=i:=by omega
   rw[e]
   split
   ·rfl
   ·rw[Array.getElem?_eq_none (by omega)]
 have h6:drawn<=B9:=h6
 have e2:B9=drawn+ (B9 - drawn):=by omega
 simp only[grow,World.drewN]
 rw[<-e1,<-e2]
theorem Ip {P:Program} {g k:Nat} {aP:α->List Int} {cf:α->α->Int} (h:∀x y,A6 P g [.agg (eU aP x),.agg (eU aP y)] (.int .i64 (cf x y))) (aT size:Nat) (w:World):CmpLays P g #[] (rz aP) k cf aT 0 size w:=by
 intro m os dk hdk x y
 refine (h x y cJ (sortWorldK (rz aP) k w aT 0 m dk os) [.agg (rz aP x).toArray,.agg (rz aP y).toArray] (fun _ h=>h.elim) ⟨rfl,fun j hj=> ?_⟩).mono ?_
 ·match j,hj with
  |0,_=>exact Da aP x
  |1,_=>exact Da aP y
 ·rintro e w' ⟨v,I1,rfl,hb,_,_,_,hr⟩
  rw[Im hr]
  obtain⟨q,os',e⟩:=LR hb
  exact⟨rfl,q,os',e⟩
omit [Inhabited α] in
theorem pM {aP:α->List Int} {k:Nat} (hk:∀x,(aP x).length=k) (x:α) {j:Nat} (hj:j<k):(rz aP x)[j]! = .int .i64 ((aP x)[j]'(by rw[hk]; exact hj))/\(eU aP x).getD j .bad= .int .i64 ((aP x)[j]'(by rw[hk]; exact hj)):=by
 have hj':j< (aP x).length:=by rw[hk]; exact hj
 constructor
 ·rw[getElem!_pos _ j (by simpa[rz]using hj')]; simp[rz]
 ·simp[eU,List.getD_eq_getElem?_getD,hj']
theorem yg {aP:α->List Int} {k:Nat} (l:List α) {i j:Nat} (hi:i<l.length) (hj:j<k):(flatK (rz aP) k l.toArray)[i*k+j]! =(rz aP l[i])[j]! :=by
 have hlt:i*k+j<l.length*k:=by
  have:(i+1)*k<=l.length*k:=Nat.mul_le_mul_right _ hi
  rw[Nat.add_mul,Nat.one_mul]at this; omega
 rw[get_flatK _ _ _ _ (by simpa using hlt)]
 have e1:(i*k+j) / k=i:=by rw[Nat.add_comm,Nat.add_mul_div_right _ _ (by omega),Nat.div_eq_of_lt hj,Nat.zero_add]
 have e2:(i*k+j) % k=j:=by rw[Nat.add_comm,Nat.add_mul_mod_self_right,Nat.mod_eq_of_lt hj]
 rw[e1,e2,getElem!_pos l.toArray i (by simpa using hi)]
 simp
omit [Inhabited α] in
theorem Ai {aP:α->List Int} (l:List α) {i:Nat} (hi:i<l.length):(l.map (eU aP)).getD i []=eU aP l[i]:=by
 simp[List.getD_eq_getElem?_getD,hi]
structure Aj (P:Program) (f k:Nat) (aP:α->List Int) (gG:List α->List α) (ea:List AV) (ev:List Value):Prop where
 ex:∀ (ρ:AM.Place) (L:aZ) (I:Nat->Prop) (w:World) (N:Nat->Prop) (vs:List Value),dw ρ L I w N ea vs->vs=ev
 nil:∀ (p:Option Addr) (cap:Nat) (w:World),Calls P f (.slice p 0 cap::ev).toArray w fun e w'=>e= .returned (.tuple #[])/\w'=w
 row:∀ (aT cap:Nat) (l:List α) (w:World),HoldsK (rz aP) k w aT 0 l.toArray->aT<w.heap.size->l.length<4611686018427387904->
  Calls P f (.slice (some ⟨aT,0,none⟩) l.length cap::ev).toArray w fun e w'=>e= .returned (.tuple #[])/\∃n os,w'=sortWorldK (rz aP) k w aT 0 n (gG l).toArray os
theorem nc.e {P:Program} {f g k:Nat} {aP:α->List Int} {cf:α->α->Int} {gG:List α->List α} (S:nc P f g k aP cf gG) (hcmp:∀x y,A6 P g [.agg (eU aP x),.agg (eU aP y)] (.int .i64 (cf x y))):
  Aj P f k aP gG [.bR (.fn g) []] [.func (.func g) #[] #[]]:=by
 refine⟨fun ρ L I w N vs h=> ?_,fun p cap w=>S.nil p cap _ w,fun aT cap l w hH hb hl=>S.row aT cap l w (Ip hcmp aT l.length w) hH hb hl⟩
 obtain⟨hl,hr⟩:=h
 match vs,hl with
 |[v],_=>
  have r1:aL ρ L I w N (.bR (.fn g) []) v:=hr 0 (by simp)
  cases r1 with
  |bR _ _ us hu _=>
   obtain rfl:=List.eq_nil_of_length_eq_zero hu
   rfl
theorem Iq {R:Env} {f k ty:Nat} {aP:α->List Int} {gG:List α->List α} {ea:List AV} {ex:List Value} (hb:cx R.P (R.ft f)) (S:Aj R.P (R.ft f) k aP gG ea ex) (hk:∀x,(aP x).length=k) (RH:0<k)
  (hlen:∀l,(gG l).length=l.length) (l:List α) (hl:l.length<4611686018427387904):
  R.Mc f (.bc 0 l.length::ea) [(0,.arr ty k (l.map (eU aP)))] (.aN []) [(0,.arr ty k ((gG l).map (eU aP)))] 1:=by
 refine⟨hb,fun w I ρ vs hW hr=> ?_,rfl⟩
 have W:=hW 0
 obtain⟨hvl,hr⟩:=hr
 obtain⟨v0,r,rfl⟩:∃v0 r,vs=v0::r:=by
  match vs,hvl with
  |a::r,_=>exact⟨a,r,rfl⟩
 have r0:aL ρ (lens (ab (ay [(0,.arr ty k (l.map (eU aP)))]))) I w (· <1) (.bc 0 l.length) v0:=hr 0 (by simp)
 obtain rfl:=S.ex _ _ _ _ _ r ⟨by simpa using hvl,fun j hj=>by have:=hr (j+1) (by simpa using hj); simpa using this⟩
 have hM:ab (ay [(0,bI.arr ty k (l.map (eU aP)))]) 0=some ⟨ty,k,l.map (eU aP),none⟩:=rfl
 have B:=W.aT 0 _ hM
 have done:∀ (w1:World),l=[]->w1=w->∃v,Ending.returned (.tuple #[])= .returned v/\∃ρ1 I1 s,c9 ⟨w,1,I,s,ρ,lens (ab (ay [(0,.arr ty k (l.map (eU aP)))]))⟩ ρ1 I1 (ab (ay [(0,.arr ty k ((gG l).map (eU aP)))])) (· <1) w1/\aL ρ1 (lens (ab (ay [(0,.arr ty k ((gG l).map (eU aP)))]))) I1 w1 (· <1) (.aN []) v:=by
  rintro w1 rfl rfl
  have:gG []=[]:=List.eq_nil_of_length_eq_zero (by rw[hlen]; rfl)
  rw[this]
  exact⟨_,rfl,ρ,I,0,W,.aN [] [] rfl (fun j hj=>by simp at hj)⟩
 cases r0 with
 |bc _ _ _ hn h1 h=>
  rcases (h l.length k (by rw[aA]; exact⟨_,hM,by simp[bg.ln],rfl⟩)).2 rfl with⟨hv,q,rfl⟩|⟨gb,cap,hρ,rfl⟩
  ·have he:l=[]:=by have:=B.eD hv; simpa using this
   refine (S.nil q 0 w).mono ?_
   rintro e w' ⟨rfl,h⟩
   exact done w' he h
  ·by_cases he:l=[]
   ·have e0:l.length=0:=by rw[he]; rfl
    rw[e0]
    refine (S.nil (some ⟨gb,0,none⟩) cap w).mono ?_
    rintro e w' ⟨rfl,h⟩
    exact done w' he h
   ·obtain⟨cs,fr,qy,og,rD,hown,hlc,nO,hcs,hcell⟩:=B.real gb cap hρ
    have qy:w.heap[gb]? =some (.cells cs ty fr):=qy
    have hlc:l.length<=cap:=by simpa using hlc
    have hcs:cs.size=cap*k:=hcs
    have hlt:=(Array.getElem?_eq_some_iff.1 qy).1
    have hH:HoldsK (rz aP) k w gb 0 l.toArray:=by
     intro t ht
     have ht':t<l.length*k:=by simpa using ht
     have hi:t / k<l.length:=by rw[Nat.div_lt_iff_lt_mul RH]; exact ht'
     have hj:t % k<k:=Nat.mod_lt _ RH
     have et:t / k*k+t % k=t:=by rw[Nat.mul_comm]; exact Nat.div_add_mod t k
     obtain⟨u,hu,_,Fh⟩:=hcell (t / k) (t % k) (by simpa using hi) hj
     rw[show ((⟨ty,k,l.map (eU aP),none⟩:bg).es.getD (t / k) [])=eU aP l[t / k]from Ai l hi,(pM hk l[t / k] hj).2]at Fh
     have Cn:=Im Fh
     have ef:=yg (aP:=aP) (k:=k) l hi hj
     rw[et]at ef
     have hu:cs[t]? =some u:=by rw[<-et]; exact hu
     refine⟨?_,?_⟩
     ·rw[ef,(pM hk l[t / k] hj).1,Nat.zero_add]
      simp only[World.cell?,qy,Option.isSome_none,Bool.false_eq_true,if_false,id]
      rw[hu,Cn]
     ·have hf:=og t (Array.getElem?_eq_some_iff.1 hu).1
      simp only[World.frozen?,qy,Nat.zero_add]
      simp
      omega
    refine (S.row gb cap l w hH hlt hl).mono ?_
    rintro e w' ⟨rfl,n,os,Xt⟩
    have hheap:w'.heap=(w.heap.modify gb (onCells (putCells id 0 (flatK (rz aP) k (gG l).toArray))))++os:=by rw[Xt]; rfl
    have hat:∀q,q<w.heap.size->w'.heap[q]? =(w.heap.modify gb (onCells (putCells id 0 (flatK (rz aP) k (gG l).toArray))))[q]? :=fun q hq=>by
     rw[hheap,Array.getElem?_append_left (by simpa using hq)]
    have uP:w'.heap[gb]? =some (.cells (putCells id 0 (flatK (rz aP) k (gG l).toArray) cs) ty fr):=by
     rw[hat gb hlt,Array.getElem?_modify,if_pos rfl,qy]; rfl
    have hput:∀t,t<l.length*k->(putCells id 0 (flatK (rz aP) k (gG l).toArray) cs)[t]? =some (flatK (rz aP) k (gG l).toArray)[t]! :=fun t ht=>by
     have:t<cs.size:=by
      rw[hcs]; exact Nat.lt_of_lt_of_le ht (Nat.mul_le_mul_right _ hlc)
     unfold putCells
     rw[Array.getElem?_mapIdx,Array.getElem?_eq_getElem this,Option.map_some,if_pos (by simp[hlen]; exact ht)]
     simp
    obtain⟨E,W1⟩:=W.put (w':=w') 0 ⟨ty,k,(gG l).map (eU aP),none⟩ gb cap (putCells id 0 (flatK (rz aP) k (gG l).toArray) cs) fr (by rw[Xt]; rfl) (by rw[Xt]; rfl) (by rw[Xt]; rfl) (by rw[hheap]; simp)
     (fun q hq hne=>by rw[hat q hq,Array.getElem?_modify,if_neg (fun e=>hne e.symm)]) uP (fun o ho=>og o (by simpa[putCells]using ho)) (.inr ⟨cap,hρ,_,hM⟩)
     (fun b0 h0=>by rw[hM]at h0; cases h0; exact⟨rfl,by simp[bg.ln,hlen],fun _=>hρ⟩) (fun _=>⟨_,hM⟩)
     (fun e he=>by obtain⟨x,_,rfl⟩:=List.mem_map.1 he; simp[eU,hk]) (by simpa[hlen]using hlc) nO (by simpa[putCells]using hcs)
     (fun i j hi hj=>by
       have hi':i< (gG l).length:=by simpa using hi
       have hj:j<k:=hj
       have abQ:i*k+j<l.length*k:=by
        have:(i+1)*k<=l.length*k:=Nat.mul_le_mul_right _ (by rw[hlen]at hi'; exact hi')
        rw[Nat.add_mul,Nat.one_mul]at this; omega
       refine⟨_,hput _ abQ,?_,?_⟩
       ·rw[yg _ hi' hj,(pM hk _ hj).1]; rfl
       ·rw[yg _ hi' hj,(pM hk _ hj).1,show ((⟨ty,k,(gG l).map (eU aP),none⟩:bg).es.getD i [])=eU aP (gG l)[i]from Ai _ hi',(pM hk _ hj).2]
        exact .int _ _)
     (fun _ _ _ _ _ _ h=>by cases h) (by rw[Xt]; show w.drawn<=w.drawn+n; omega)
    have e1:cX (ab (ay [(0,bI.arr ty k (l.map (eU aP)))])) 0 ⟨ty,k,(gG l).map (eU aP),none⟩=ab (ay [(0,.arr ty k ((gG l).map (eU aP)))]):=by
     funext m
     by_cases hm:m=0
     ·subst hm; rfl
     ·have:(m==0)=false:=by simpa using hm
      simp[cX,hm,ay,ab,this]
    rw[e1]at W1
    exact⟨_,rfl,_,I,0,W1.nP (fun m hm=>by rcases hm with rfl|hm; exact Nat.zero_lt_one; exact hm),.aN [] [] rfl (fun j hj=>by simp at hj)⟩
theorem LS {R:Env} {f g k ty:Nat} {aP:α->List Int} {cf:α->α->Int} {gG:List α->List α} (hb:cx R.P (R.ft f)) (S:nc R.P (R.ft f) (R.ft g) k aP cf gG) (hk:∀x,(aP x).length=k) (RH:0<k)
 (hcmp:∀x y,R.Pc g [.agg (eU aP x),.agg (eU aP y)] (.int .i64 (cf x y))) (hlen:∀l,(gG l).length=l.length) (l:List α) (hl:l.length<4611686018427387904):
 R.Mc f [.bc 0 l.length,.bR (.fn (R.ft g)) []] [(0,.arr ty k (l.map (eU aP)))] (.aN []) [(0,.arr ty k ((gG l).map (eU aP)))] 1:=Iq hb (S.e hcmp) hk RH hlen l hl
theorem Ir {R:Env} {f g k:Nat} {aP:α->List Int} {cf:α->α->Int} {gG:List α->List α} (S:nc R.P (R.ft f) (R.ft g) k aP cf gG):R.Pc f [.ai,.bR (.fn (R.ft g)) []] (.aN []):=by
 intro I w vs hI hr
 obtain⟨hvl,hr⟩:=hr
 obtain⟨v0,v1,rfl⟩:∃v0 v1,vs=[v0,v1]:=by
  match vs,hvl with
  |[a,b],_=>exact⟨a,b,rfl⟩
 have r0:aL cZ gp I w cJ .ai v0:=hr 0 (by simp)
 cases r0
 refine (S.nil Option.none 0 v1 w).mono ?_
 rintro e w' ⟨rfl,rfl⟩
 exact⟨_,I,rfl,⟨Below.refl _ _,Nat.le_refl _⟩,fun _ h=>h,hI,fun _ _ h=>h,.aN [] [] rfl (fun j hj=>by simp at hj)⟩
end
end Go.UM
namespace Go.UM
open Go.AM
set_option maxRecDepth 4000
def oF (x y:Int):Int:=if x<y then -1 else if y<x then 1 else 0
theorem Nq {R:Env} (h:ON R) (x:Int):R.Pc 468 [.int .i64 x] (.bool false):=
 h.OO.enter 60 rfl fun X bb hfit hp=>by
  refine sh ?_
  exact rT
theorem Db {R:Env} (h:OP R) (x y:Int):R.Pc 451 [.int .i64 x,.int .i64 y] (.int .i64 (oF x y)):=
 h.HB.enter 100 rfl fun X bb hfit hp=>by
  generalize hq:oF x y=q
  unfold oF at hq
  refine sh ?_
  refine ae.pure h.EG.OO.hb (Nq h.EG x) rfl ?_
  refine sh ?_
  refine ae.pure h.EG.OO.hb (Nq h.EG y) rfl ?_
  refine sh ?_
  refine cS (fun h1=> ?_) (fun h1=> ?_)
  ·rw[if_pos h1]at hq
   subst hq
   refine sh ?_
   exact rT
  ·rw[if_neg (by omega)]at hq
   refine sh ?_
   refine cS (fun h2=> ?_) (fun h2=> ?_)
   ·rw[if_pos h2]at hq
    subst hq
    refine sh ?_
    exact rT
   ·rw[if_neg (by omega)]at hq
    subst hq
    refine sh ?_
    exact rT
def Fi:List Int->Int
 |[]=>0
 |x::r=>if x=0 then Fi r else x
theorem abR {R:Env} (h:OQ R) (l:List Int) (hl:l.length<=1073741824):R.Pc 452 [.aH 1 (bp .i64 l)] (.int .i64 (Fi l)):=
 h.T7.enter 100 rfl fun X bb hfit hp=>by
  refine sh ?_
  refine gD 100 (fun i:Nat=>i<=l.length/\Fi (l.drop i)=Fi l) (fun i=>⟨[(3,.int .i64 0),(6,.aH 1 (bp .i64 l)),(7,.int .i64 l.length),(8,.int .i64 i)],[],0⟩) (fun i=>l.length - i) (0) ?_ ?_
  ·exact⟨Nat.zero_le _,by simp⟩
  ·intro i hi
   dsimp only
   refine sh ?_
   refine cS (fun h1=> ?_) (fun h1=> ?_)
   ·obtain⟨x,hx⟩:∃u_,l[i]? =some u_:=⟨_,List.getElem?_eq_getElem (by first|omega|(simp<;>omega))⟩
    refine sh ?_
    refine aa hx ?_
    have hd:Fi l=Fi (x::l.drop (i+1)):=by
     rw[<-hi.2]
     congr 1
     have:=(List.getElem?_eq_some_iff.1 hx)
     rw[<-this.2,List.getElem_cons_drop]
    refine sh ?_
    refine cS (fun h2=> ?_) (fun h2=> ?_)
    ·refine sh ?_
     refine rT ?_
     refine be ?_
     rw[hd,Fi,if_neg h2]
    ·refine sh ?_
     refine kI (i+1) ?_ ?_
     ·exact⟨by omega,by rw[hd,Fi,if_pos (by omega)]⟩
     ·omega
   ·refine sh ?_
    refine rT ?_
    refine be ?_
    rw[<-hi.2,List.drop_eq_nil_of_le (by omega)]; rfl
def lH (x y:In):Int:=Fi [oF x.aQ y.aQ,oF x.df y.df,oF x.cb y.cb,oF x.n y.n]
theorem LU {R:Env} (h:PG R) (x y:In):R.Pc 450 [.agg [.int .i64 x.aQ,.int .i64 x.df,.int .i64 x.cb,.int .i64 x.n],.agg [.int .i64 y.aQ,.int .i64 y.df,.int .i64 y.cb,.int .i64 y.n]] (.int .i64 (lH x y)):=
 h.VA.enter 100 rfl fun X bb hfit hp=>by
  refine sh ?_
  refine ae.pure h.vm.HB.hb (Db h.vm x.aQ y.aQ) rfl ?_
  refine sh ?_
  refine ae.pure h.vm.HB.hb (Db h.vm x.df y.df) rfl ?_
  refine sh ?_
  refine ae.pure h.vm.HB.hb (Db h.vm x.cb y.cb) rfl ?_
  refine sh ?_
  refine ae.pure h.vm.HB.hb (Db h.vm x.n y.n) rfl ?_
  refine sh ?_
  refine cM true [] ((abR h.KW [oF x.aQ y.aQ,oF x.df y.df,oF x.cb y.cb,oF x.n y.n] (by simp)).mc h.KW.T7.hb) ?_
  repeat (intro _; first|refine eK ?_|refine eP ?_)
  refine sh ?_
  exact rT
theorem Ra {R:Env} (h:PH R) (x y:In):R.Pc 436 [.agg x.row,.agg y.row] (.int .i64 (lH x y)):=
 h.abf.enter 100 rfl fun X bb hfit hp=>by
  refine sh ?_
  refine ae.pure h.lX.BF.hb (E9 h.lX x) rfl ?_
  refine sh ?_
  refine ae.pure h.lX.BF.hb (E9 h.lX y) rfl ?_
  refine sh ?_
  refine ae.pure h.KX.VA.hb (LU h.KX x y) rfl ?_
  refine sh ?_
  exact rT
def inN (x:In):List Int:=[x.aQ,x.df,x.cb,x.n,x.t.m0,x.t.m1,x.t.m2,x.t.m3,x.t.m4,x.t.m5,x.t.m6,x.t.m7,x.t.m8,x.t.t.a,x.t.t.b,x.t.t.c]
def yy:List In->List Bool->List In
 |x::l,b::sn=>if b=true then x::yy l sn else yy l sn
 |_,_=>[]
theorem Ak:∀l:List In,yy l ((cE l).map fun _=>false)=[]
 |[]=>rfl
 |x::l=>by
  show (if false=true then x::yy l ((cE l).map fun _=>false)else yy l ((cE l).map fun _=>false))=[]
  rw[if_neg (by simp)]; exact Ak l
theorem Dc:∀ {l:List In} {sn:List Bool},sn.length=l.length->(∀q ∈ sn,q=true)->yy l sn=l
 |[],[],_,_=>rfl
 |x::l,b::sn,h,ha=>by
  rw[yy,if_pos (ha b (by simp)),Dc (by simpa using h) fun q hq=>ha q (by simp[hq])]
 |[],_::_,h,_=>by simp at h
 |_::_,[],h,_=>by simp at h
theorem Dd:∀ (l:List In) (sn:List Bool),(yy l sn).length<=l.length
 |x::l,b::sn=>by
  have:=Dd l sn
  rw[yy]; split<;>simp only[List.length_cons]<;>omega
 |[],_=>by simp[yy]
 |_::_,[]=>by simp[yy]
theorem yi:∀ {l:List In} {sn:List Bool} {i:Nat} {x:In},l[i]? =some x->sn[i]? =some false->(x::yy l sn).Perm (yy l (sn.set i true))
 |[],_,i,x,h,_=>by simp at h
 |_::_,[],i,x,_,h=>by simp at h
 |y::l,b::sn,0,x,h,hs=>by
  simp at h hs; subst h; subst hs
  rw[List.set_cons_zero,yy,yy,if_neg (by simp),if_pos rfl]
 |y::l,b::sn,i+1,x,h,hs=>by
  have ih:=yi (l:=l) (sn:=sn) (i:=i) (x:=x) (by simpa using h) (by simpa using hs)
  rw[List.set_cons_succ,yy,yy]
  by_cases hb:b=true
  ·rw[if_pos hb,if_pos hb]
   exact (List.Perm.swap y x _).trans (ih.cons y)
  ·rw[if_neg hb,if_neg hb]; exact ih
theorem Df {a b:Int} {r:List Int}:Fi (oF a b::r)<0↔a<b\/(a=b/\Fi r<0):=by
 show (if oF a b=0 then Fi r else oF a b)<0↔_
 unfold oF
 by_cases h1:a<b
 ·rw[if_pos h1,if_neg (by omega)]; omega
 ·rw[if_neg h1]
  by_cases h2:b<a
  ·rw[if_pos h2,if_neg (by omega)]; omega
  ·rw[if_neg h2,if_pos rfl]; omega
theorem dS {x y:In}:lH x y<0↔x.aQ<y.aQ\/ x.aQ=y.aQ/\(x.df<y.df\/ x.df=y.df/\(x.cb<y.cb\/ x.cb=y.cb/\x.n<y.n)):=by
 unfold lH
 rw[Df,Df,Df,Df]
 simp[Fi]
theorem dX {x y:In}:ba x y=true↔x.aQ=y.aQ/\x.df=y.df/\x.cb=y.cb/\x.n=y.n:=by simp[ba]
def leI (x y:In):Bool:=decide (¬lH y x<0)
theorem lI {x y:In}:leI x y=true↔¬lH y x<0:=by simp[leI]
theorem nf (x y:In):(leI x y||leI y x)=true:=by
 rw[Bool.or_eq_true,lI,lI,dS,dS]; omega
theorem kN (x y z:In) (h1:leI x y=true) (h2:leI y z=true):leI x z=true:=by
 rw[lI,dS]at h1 h2 ⊢; omega
theorem Al {x y:In} (h1:leI x y=true) (h2:leI y x=true):ba x y=true:=by
 rw[lI,dS]at h1 h2
 rw[dX]; omega
def cw (l:List In):List In:=l.mergeSort leI
structure LV (gG:List In->List In):Prop where
 perm:∀l,(gG l).Perm l
 ord:∀l,(gG l).Pairwise fun x y=>leI x y=true
theorem LV.eq {gG:List In->List In} (S:LV gG) {out l:List In} (nd:l.Pairwise fun a b=>ba a b=false) (h:out.Perm l):gG out=cw l:=by
 refine List.Perm.eq_of_pairwise (le:=fun x y=>leI x y=true) ?_ (S.ord out) (List.pairwise_mergeSort kN nf l) ((S.perm out).trans (h.trans (List.mergeSort_perm l leI).symm))
 intro a b ha hb h1 h2
 have Xu:a ∈ l:=h.mem_iff.1 ((S.perm out).mem_iff.1 ha)
 have hb':b ∈ l:=(List.mergeSort_perm l leI).mem_iff.1 hb
 have hs:=Al h1 h2
 have hs':ba b a=true:=Al h2 h1
 obtain⟨i,hi,rfl⟩:=List.getElem_of_mem Xu
 obtain⟨j,hj,rfl⟩:=List.getElem_of_mem hb'
 rw[List.pairwise_iff_getElem]at nd
 rcases Nat.lt_trichotomy i j with h|h|h
 ·rw[nd i j hi hj h]at hs; cases hs
 ·subst h; rfl
 ·rw[nd j i hj hi h]at hs'; cases hs'
instance:Inhabited In:=⟨⟨0,0,0,0,⟨0,0,0,0,0,0,0,0,0,⟨0,0,0⟩⟩⟩⟩
abbrev Am (R:Env) (gG:List In->List In):Prop:=nc R.P (R.ft 435) (R.ft 436) 16 inN lH gG
set_option maxHeartbeats 2000000 in
theorem Is {R:Env} (h:PI R) (gG:List In->List In) (S:Am R gG) (hs:LV gG) (d1 d2:Bool) (t:Tb) (nd:t.ins.Pairwise fun a b=>ba a b=false) (hn:t.ins.length<=1000000):
  R.Mc 419 [.loc 2 1 0 0] (ek R d1 d2 t) (.bc 3 (cw t.ins).length) (ek R d1 false t++ [(3,.arr (R.ty 44) 16 (cE (cw t.ins)))]) 4:=
 h.abg.bC 100 3 rfl rfl rfl fun X bb hfit hp=>by
  unfold ek
  refine sh ?_
  refine cM false [0,1,2] (lG h.j9 d1 d2 t) ?_
  repeat (intro _; first|refine eK ?_|refine eP ?_)
  refine sh ?_
  refine⟨fun r=> ?_⟩
  refine sh ?_
  refine gD 100 (Sum.elim (fun s:List Bool=>s=(cE t.ins).map fun _=>false) (fun s:List Bool × Option Nat × List In=>s.1.length=t.ins.length/\s.2.2.Perm (yy t.ins s.1))) (Sum.elim (fun s=>⟨[(3,.ai),(12,.nJ 1 r)],[(0,.map 1 false true d1 41 (iq t.rows)),(1,.map 4 true true (.it r s none) 16 (cE t.ins)),(2,.var (R.ty 47) [.omap 0,.omap 1])],3⟩) (fun s=>⟨[(3,.bc 3 s.2.2.length),(12,.nJ 1 r)],[(0,.map 1 false true d1 41 (iq t.rows)),(1,.map 4 true true (.it r s.1 s.2.1) 16 (cE t.ins)),(2,.var (R.ty 47) [.omap 0,.omap 1]),(3,.arr (R.ty 44) 16 (cE s.2.2))],4⟩)) (Sum.elim (fun s=>nF s) (fun s=>nF s.1)) (.inl ((cE t.ins).map fun _=>false)) ?_ ?_
  ·rfl
  ·rintro (sn|⟨sn,la,out⟩) hv
   ·dsimp only[Sum.elim_inl]at hv ⊢
    refine sh ?_
    refine⟨rfl,fun h1 h2=> ?_,fun i row h1 h2 h3=> ?_⟩
    ·have e:t.ins=[]:=by
      subst hv
      cases hl:t.ins with
      |nil=>rfl
      |cons x l=>rw[hl]at h1; have:=h1 false (by simp[cE]); cases this
     have hr:=e
     refine sh ?_
     refine ae.pure h.KY.T1.hb (Ir S) rfl ?_
     rw[e,show cw []=[]from by simp[cw]]
     refine sh ?_
     exact rM [0,1,2,50]
    ·obtain⟨x,hx,rfl⟩:=B8 h1
     refine sh ?_
     refine⟨⟨rfl,i,x.row,rfl,h1,?_⟩⟩
     refine sh ?_
     refine nR [0,1,2,6] (.inr (sn.set i true,some i,[x])) ?_ ?_
     ·refine⟨by rw[List.length_set]; simpa using h3,?_⟩
      have:=yi hx h2
      rw[hv,Ak]at this
      rw[hv]; exact this
     ·have:=yf h2
      show nF (sn.set i true)<nF sn
      omega
   ·dsimp only[Sum.elim_inr]at hv ⊢
    refine sh ?_
    refine⟨rfl,fun h1 h2=> ?_,fun i row h1 h2 h3=> ?_⟩
    ·have e:out.Perm t.ins:=by have:=hv.2; rwa[Dc hv.1 h1]at this
     have e2:=hs.eq nd e
     have el:out.length=(cw t.ins).length:=by rw[<-e2,(hs.perm out).length_eq]
     have c:R.Mc 435 [.bc 0 out.length,.bR (.fn (R.ft 436)) []] [(0,.arr (R.ty 44) 16 (cE out))] (.aN []) [(0,.arr (R.ty 44) 16 (cE (cw t.ins)))] 1:=by
      rw[<-e2]
      exact LS (ty:=R.ty 44) h.KY.T1.hb S (fun _=>rfl) (by omega) (fun x y=>Ra h.PJ x y) (fun l=>(hs.perm l).length_eq) out (by rw[e.length_eq]; omega)
     refine sh ?_
     refine cM false [3] (c) ?_
     repeat (intro _; first|refine eK ?_|refine eP ?_)
     refine sh ?_
     exact rM [0,1,2,3]
    ·obtain⟨x,hx,rfl⟩:=B8 h1
     have hb:out.length<=1000000:=by
      have:=hv.2.length_eq
      have:=Dd t.ins sn
      omega
     refine sh ?_
     refine⟨⟨rfl,i,x.row,rfl,h1,?_⟩⟩
     refine sh ?_
     refine nX (.inr (sn.set i true,some i,out++ [x])) ?_ ?_ ⟨_,hp,rfl⟩ ?_ ?_
     ·refine⟨by rw[List.length_set]; exact hv.1,?_⟩
      exact (List.perm_append_singleton x out).trans ((hv.2.cons x).trans (yi hx h2))
     ·have:=yf h2
      show nF (sn.set i true)<nF sn
      omega
     ·exact iV
     ·refine be ?_
      all_goals first|exact (BU out [x]).symm|(right; simp[In.row])
end Go.UM
namespace Go.UM
open Go.AM
set_option maxRecDepth 4000
structure Ac where
 k:Int
 h:Int
 f:Mf
 a:As
 i:In
def Ac.row (c:Ac):List AV:=[.int .i64 c.k,.int .i64 c.h,.int .u64 c.f.id,.int .i64 c.f.kind,.int .u32 c.f.label,.int .u8 c.f.m0,.int .u8 c.f.m1,.int .u8 c.f.m2,.int .u8 c.f.m3,.int .u8 c.f.m4,.int .u8 c.f.m5,.int .u8 c.f.m6,.int .u8 c.f.m7,
 .int .u32 c.f.first,.int .u32 c.f.last,.int .i64 c.f.size,.int .i64 c.f.chunks,.int .i64 c.a.k,.aH 3 (bJ c.a.m.v),.aH 2 (cW c.a.m.uv),.aH 3 (bJ c.a.m.t),.int .i64 c.a.x.side,.aH 3 (bJ c.a.x.t),
 .int .i64 c.a.mt.k,.int .i64 c.a.mt.c.a,.int .i64 c.a.mt.c.b,.int .i64 c.a.mt.c.c,.int .i64 c.a.mt.r,
 .int .i64 c.a.li.k,.int .i64 c.a.li.c.a,.int .i64 c.a.li.c.b,.int .i64 c.a.li.c.c,.int .i64 c.a.li.p.a,.int .i64 c.a.li.p.b,.int .i64 c.a.li.p.c,.int .i64 c.a.li.u.a,.int .i64 c.a.li.u.b,.int .i64 c.a.li.u.c,.int .i64 c.a.li.v.a,.int .i64 c.a.li.v.b,.int .i64 c.a.li.v.c,
 .int .i64 c.i.aQ,.int .i64 c.i.df,.int .i64 c.i.cb,.int .i64 c.i.n,.int .i64 c.i.t.m0,.int .i64 c.i.t.m1,.int .i64 c.i.t.m2,.int .i64 c.i.t.m3,.int .i64 c.i.t.m4,.int .i64 c.i.t.m5,.int .i64 c.i.t.m6,.int .i64 c.i.t.m7,.int .i64 c.i.t.m8,.int .i64 c.i.t.t.a,.int .i64 c.i.t.t.b,.int .i64 c.i.t.t.c]
def As.ju (a:As):As:=⟨a.k,a.m.ju,⟨a.x.side,a.x.t.take 260⟩,a.mt,a.li⟩
def Ac.ju (c:Ac):Ac:=⟨c.k,c.h,c.f,c.a.ju,c.i⟩
theorem LW {R:Env} (h:Qs R) (c:Ac):R.Pc 420 [.agg c.row] (.agg c.ju.row):=
 h.WD.enter 100 rfl fun X bb hfit hp=>by
  refine sh ?_
  refine ae.pure h.n191.VL.hb (LH h.n191 c.a.m) rfl ?_
  refine sh ?_
  refine iL (by exact QU _ _) ?_
  refine sh ?_
  exact rT
def rV (t:Tb) (c:Ac):Tb × Int:=if c.k=0 then gz t c.h c.f c.a else if c.k=1 then dE t c.h else if c.k=2 then ij t c.i else jx t c.i
structure iD (t:Tb) (n:Nat):Prop where
 row:∀r ∈ t.rows,fK r
 nd:t.ins.Pairwise fun a b=>ba a b=false
 rd:t.rows.Pairwise fun a b=>a.h≠b.h
 rl:t.rows.length<=n
 il:t.ins.length<=n
theorem Xv {R:Env} (h:Qt R) (d1 d2:Bool) (t:Tb) (c:Ac) {n:Nat} (ok:iD t n) (hn:n<=1000000) (fx:c.a.x.t.length<=1000) (fb:c.a.bare.B3) (hx:c.i.t.I):
  R.Mc 421 [.loc 2 1 0 0,.agg c.row] (ek R d1 d2 t) (.int .i64 (rV t c).2) (ek R false false (rV t c).1) 3:=
 h.abC.bC 100 3 rfl rfl rfl fun X bb hfit hp=>by
  have h1:=ok.rl
  have h2:=ok.il
  generalize hq:rV t c=q
  unfold rV at hq
  unfold ek
  refine sh ?_
  refine cS (fun k0=> ?_) (fun k0=> ?_)
  ·rw[if_pos k0]at hq
   subst hq
   refine sh ?_
   refine cM false [0,1,2] (B7 h.n346 d1 d2 t c.h c.f c.a fx fb (by omega)) ?_
   repeat (intro _; first|refine eK ?_|refine eP ?_)
   refine sh ?_
   exact rM [0,1,2]
  ·rw[if_neg k0]at hq
   refine sh ?_
   refine cS (fun k1=> ?_) (fun k1=> ?_)
   ·rw[if_pos k1]at hq
    subst hq
    refine sh ?_
    refine cM false [0,1,2] (Fg h.Qv d1 d2 t ok.nd c.h) ?_
    repeat (intro _; first|refine eK ?_|refine eP ?_)
    refine sh ?_
    exact rM [0,1,2]
   ·rw[if_neg k1]at hq
    refine sh ?_
    refine cS (fun k2=> ?_) (fun k2=> ?_)
    ·rw[if_pos k2]at hq
     subst hq
     refine sh ?_
     refine cM false [0,1,2] (Ik h.EK d1 d2 t c.i ok.row hx (by omega)) ?_
     repeat (intro _; first|refine eK ?_|refine eP ?_)
     refine sh ?_
     exact rM [0,1,2]
    ·rw[if_neg k2]at hq
     subst hq
     refine sh ?_
     refine cM false [0,1,2] (LQ h.Qu d1 d2 t c.i) ?_
     repeat (intro _; first|refine eK ?_|refine eP ?_)
     refine sh ?_
     exact rM [0,1,2]
end Go.UM
namespace Go.UM
open Go.AM
set_option maxRecDepth 4000
instance {l:List Rw}:iG (iM l) l.length:=⟨oD l⟩
theorem Iu {t:Tb} {x:In} (h:(ij t x).2≠0):(ij t x).1=t:=by
 unfold ij at h ⊢
 split
 ·rfl
 ·rename_i k1
  rw[if_neg k1]at h
  split
  ·rfl
  ·rename_i k2
   rw[if_neg k2]at h
   split
   ·rfl
   ·rename_i k3
    rw[if_neg k3]at h
    cases hr:aO t.rows x.aQ with
    |none=>rfl
    |some r=>
     rw[hr]at h
     dsimp only at h ⊢
     split
     ·rfl
     ·rename_i k4
      rw[if_neg k4]at h
      exact absurd rfl h
theorem iD.mono {t:Tb} {n m:Nat} (h:iD t n) (k:n<=m):iD t m:=⟨h.row,h.nd,h.rd,Nat.le_trans h.rl k,Nat.le_trans h.il k⟩
theorem An:iD ⟨[],[]⟩ 0:=⟨fun r h=>by simp at h,.nil,.nil,Nat.le_refl _,Nat.le_refl _⟩
theorem oG (x y:In):ba x y=ba y x:=by
 rw[Bool.eq_iff_iff,dX,dX]; omega
theorem uB {t:Tb} {n:Nat} (ok:iD t n) {hd:Int} {f:Mf} {a:As} (fx:a.x.t.length<=1000):iD (gz t hd f a).1 (n+1):=by
 have old:=ok.mono (Nat.le_succ n)
 unfold gz
 split
 ·exact old
 ·rename_i k1
  split
  ·exact old
  ·rename_i k2
   split
   ·exact old
   ·rename_i k3
    split
    ·exact old
    ·rename_i k4
     have hn:∀r ∈ t.rows,r.h≠hd:=fun r hr e=>by
      apply k2
      unfold aO
      rw[List.find?_isSome]
      exact⟨r,hr,by simpa using e⟩
     refine⟨fun r hr=> ?_,ok.nd,?_,?_,old.il⟩
     ·rcases List.mem_append.1 hr with h|h
      ·exact ok.row r h
      ·simp only[List.mem_singleton]at h
       subst h
       exact⟨⟨by show 1<=hd; omega,by show hd<=65536; omega⟩,Classical.byContradiction k3,Classical.byContradiction k4,fx⟩
     ·rw[List.pairwise_append]
      exact⟨ok.rd,by simp,fun r hr q hq=>by simp only[List.mem_singleton]at hq; subst hq; exact hn r hr⟩
     ·simp only[List.length_append,List.length_singleton]
      have:=ok.rl; omega
theorem B' {t:Tb} {n:Nat} (ok:iD t n) {hd:Int}:iD (dE t hd).1 n:=by
 unfold dE
 split
 ·exact⟨fun r hr=>ok.row r (List.eraseP_sublist.subset hr),ok.nd.sublist List.filter_sublist,ok.rd.sublist List.eraseP_sublist,Nat.le_trans List.eraseP_sublist.length_le ok.rl,Nat.le_trans List.filter_sublist.length_le ok.il⟩
 ·exact ok
theorem Iv {t:Tb} {n:Nat} (ok:iD t n) {x:In}:iD (jx t x).1 n:=by
 unfold jx
 split
 ·exact⟨ok.row,ok.nd.sublist List.eraseP_sublist,ok.rd,ok.rl,Nat.le_trans List.eraseP_sublist.length_le ok.il⟩
 ·exact ok
theorem Dg {t:Tb} {n:Nat} (ok:iD t n) {x:In}:iD (ij t x).1 (n+1):=by
 have old:=ok.mono (Nat.le_succ n)
 unfold ij
 split
 ·exact old
 ·split
  ·exact old
  ·split
   ·exact old
   ·rename_i k3
    cases hr:aO t.rows x.aQ with
    |none=>exact old
    |some r=>
     dsimp only
     split
     ·exact old
     ·refine⟨ok.row,?_,ok.rd,old.rl,?_⟩
      ·rw[List.pairwise_append]
       refine⟨ok.nd,by simp,fun y hy q hq=> ?_⟩
       simp only[List.mem_singleton]at hq
       subst hq
       rw[oG]
       cases hs:ba q y with
       |false=>rfl
       |true=>
        exfalso
        apply k3
        unfold dB
        rw[List.find?_isSome]
        exact⟨y,hy,hs⟩
      ·simp only[List.length_append,List.length_singleton]
       have:=ok.il; omega
theorem Iw {t:Tb} {n:Nat} (ok:iD t n) {c:Ac} (fx:c.a.x.t.length<=1000):iD (rV t c).1 (n+1):=by
 unfold rV
 split
 ·exact uB ok fx
 ·split
  ·exact (B' ok).mono (Nat.le_succ n)
  ·split
   ·exact Dg ok
   ·exact (Iv ok).mono (Nat.le_succ n)
end Go.UM
namespace Go.UM
open Go.AM
set_option maxRecDepth 4000
def kp (x y:Rw):Bool:=decide (x.h<=y.h)
def aV (l:List Rw):List Rw:=l.mergeSort kp
@[simp] theorem gA (l:List Rw):(aV l).length=l.length:=by simp[aV]
theorem dH {l:List Rw} {r:Rw}:r ∈ aV l↔r ∈ l:=(List.mergeSort_perm l kp).mem_iff
theorem ez {l:List Rw} (rd:l.Pairwise fun a b=>a.h≠b.h) {r:Rw} (hr:r ∈ l):aO l r.h=some r:=by
 induction l with
 |nil=>simp at hr
 |cons a l ih=>
  obtain⟨h1,h2⟩:=List.pairwise_cons.1 rd
  unfold aO
  rw[List.find?_cons]
  rcases List.mem_cons.1 hr with rfl|h
  ·simp
  ·have:(a.h==r.h)=false:=by simpa using h1 r h
   rw[this]
   exact ih h2 h
def ed (l:List Rw):List Int:=(aV l).map (·.h)
abbrev wL (R:Env):Prop:=∀ (d1:Bool) (l:List Rw),l.Pairwise (fun a b=>a.h≠b.h)->(∀r ∈ l,fK r)->l.length<=1000000->
 R.Mz true 434 [.bR (.fn (R.ft 447)) [.loc 0 1 0 0]] [(0,.var (R.ty 57) [.omap 1]),(1,.map 1 false true d1 41 (iq l))] (.bc 2 (ed l).length) [(0,.var (R.ty 57) [.omap 1]),(1,.map 1 false true d1 41 (iq l)),(2,.arr (R.ty 10) 1 (bp .i64 (ed l)))] 3
theorem Rb {R:Env} (h:OM R) (d1:Bool) (l:List Rw):R.Mc 433 [.omap 0] [(0,.map 1 false true d1 41 (iq l))] (.bR (.fn (R.ft 447)) [.loc 1 1 0 0]) [(0,.map 1 false true d1 41 (iq l)),(1,.var (R.ty 57) [.omap 0])] 2:=
 h.aaV.bC 60 1 rfl rfl rfl fun X bb hfit hp=>by
  refine sh ?_
  exact rM [0,1]
theorem Ix {l:List Rw} {i:Nat} {k:Int} (h:(ed l)[i]? =some k):∃r,(aV l)[i]? =some r/\r.h=k:=by
 unfold ed at h
 rw[List.getElem?_map]at h
 exact Option.map_eq_some_iff.1 h
theorem Iy {l:List Rw} {i:Nat} {r:Rw} (h:l[i]? =some r):iM (l.take i)++ [r.row]=iM (l.take (i+1)):=by
 rw[List.take_add_one,h]; simp[iM]
set_option maxHeartbeats 4000000 in
theorem LX {R:Env} (h:PD R) (K:wL R) (d1 d2:Bool) (t:Tb) {n:Nat} (ok:iD t n) (hn:n<=1000000):
  R.Mz true 418 [.loc 2 1 0 0] (ek R d1 d2 t) (.bc 3 (aV t.rows).length) (ek R d1 d2 t++ [(3,.arr (R.ty 45) 40 (iM (aV t.rows)))]) 4:=
 h.abe.CN 100 3 rfl rfl rfl fun X bb hfit hp hz=>by
  have hl:=ok.rl
  have hk:(ed t.rows).length=t.rows.length:=by simp[ed]
  unfold ek
  refine sh ?_
  refine cM false [0,1,2] (lG h.j9 d1 d2 t) ?_
  repeat (intro _; first|refine eK ?_|refine eP ?_)
  refine sh ?_
  refine cM false [0] (Rb h.PE d1 t.rows) ?_
  repeat (intro _; first|refine eK ?_|refine eP ?_)
  refine sh ?_
  refine cM false [3,0] (K d1 t.rows ok.rd ok.row (by omega)) ?_
  repeat (intro _; first|refine eK ?_|refine eP ?_)
  refine sh ?_
  refine gD 100 (Sum.elim (fun _:Unit=>True) (fun i:Nat=>1<=i/\i<=t.rows.length)) (Sum.elim (fun _=>⟨[(0,.loc 2 1 0 0),(3,.ai),(14,.bc 4 (ed t.rows).length),(15,.int .i64 (ed t.rows).length),(16,.int .i64 0)],[(0,.map 1 false true d1 41 (iq t.rows)),(1,.map 4 true true d2 16 (cE t.ins)),(2,.var (R.ty 47) [.omap 0,.omap 1]),(3,.var (R.ty 57) [.omap 0]),(4,.arr (R.ty 10) 1 (bp .i64 (ed t.rows)))],5⟩) (fun i=>⟨[(0,.loc 2 1 0 0),(3,.bc 5 ((aV t.rows).take i).length),(14,.bc 4 (ed t.rows).length),(15,.int .i64 (ed t.rows).length),(16,.int .i64 i)],[(0,.map 1 false true d1 41 (iq t.rows)),(1,.map 4 true true d2 16 (cE t.ins)),(2,.var (R.ty 47) [.omap 0,.omap 1]),(3,.var (R.ty 57) [.omap 0]),(4,.arr (R.ty 10) 1 (bp .i64 (ed t.rows))),(5,.arr (R.ty 45) 40 (iM ((aV t.rows).take i)))],6⟩)) (Sum.elim (fun _=>t.rows.length+1) (fun i=>t.rows.length - i)) (.inl ()) ?_ ?_
  ·trivial
  ·rintro (_|i) hv
   ·dsimp only[Sum.elim_inl]at hv ⊢
    refine sh ?_
    refine cS (fun h1=> ?_) (fun h1=> ?_)
    ·obtain⟨k,hkk⟩:∃u_,(ed t.rows)[0]? =some u_:=⟨_,List.getElem?_eq_getElem (by omega)⟩
     refine sh ?_
     refine tO (by simp) hkk ?_
     obtain⟨r,hr,rfl⟩:=Ix hkk
     have hm:=dH.1 (List.mem_of_getElem? hr)
     refine sh ?_
     refine oE fun j=> ?_
     rw[ez ok.rd hm]
     dsimp only[Option.map_some]
     refine sh ?_
     refine ae.pure h.vk.KQ.hb (qx h.vk r.a (uz (ok.row r hm).a (ok.row r hm).x)) rfl ?_
     have e1:(aV t.rows).take 1=[r]:=by
      cases hq:aV t.rows with
      |nil=>rw[hq]at hr; simp at hr
      |cons a q=>rw[hq]at hr; simp at hr; rw[hr]; rfl
     refine sh ?_
     refine RV [0,1,2,3,4,7] (.inr 1) ?_ ?_ ?_
     ·exact⟨by omega,by omega⟩
     ·dsimp only[Sum.elim_inr]; omega
     ·refine pC ?_ ?_
      all_goals first|(rw[e1]; rfl)|(rw[e1]; simp[Rw.row,iM])
    ·have e:t.rows=[]:=List.eq_nil_of_length_eq_zero (by omega)
     rw[e,show aV []=[]from by simp[aV]]
     refine sh ?_
     exact rM [0,1,2,50]
   ·dsimp only[Sum.elim_inr]at hv ⊢
    have ht:((aV t.rows).take i).length=i:=by rw[List.length_take,gA]; omega
    refine sh ?_
    refine cS (fun h1=> ?_) (fun h1=> ?_)
    ·obtain⟨k,hkk⟩:∃u_,(ed t.rows)[i]? =some u_:=⟨_,List.getElem?_eq_getElem (by omega)⟩
     refine sh ?_
     refine tO (by simp) hkk ?_
     obtain⟨r,hr,rfl⟩:=Ix hkk
     have hm:=dH.1 (List.mem_of_getElem? hr)
     refine sh ?_
     refine oE fun j=> ?_
     rw[ez ok.rd hm]
     dsimp only[Option.map_some]
     refine sh ?_
     refine ae.pure h.vk.KQ.hb (qx h.vk r.a (uz (ok.row r hm).a (ok.row r hm).x)) rfl ?_
     refine sh ?_
     refine nX (.inr (i+1)) ?_ ?_ ⟨_,hp,rfl⟩ ?_ ?_
     ·exact⟨by omega,by omega⟩
     ·dsimp only[Sum.elim_inr]; omega
     ·refine be ?_
      all_goals (simp only[List.length_append,oD,List.length_take,gA,List.length_singleton]; omega)
     ·refine be ?_
      all_goals first|exact Iy hr|(right; simp[Rw.row])
    ·have e:(aV t.rows).take i=aV t.rows:=List.take_of_length_le (by rw[gA]; omega)
     rw[e]
     refine sh ?_
     exact rM [0,1,2,5]
end Go.UM
namespace Go.UM
open Go.AM Go.RowKit Go.Proofs
def Dh (P:Program) (f g kt et:Nat):Prop:=
 ∀ (b nn Bm:Nat) (D0:DataW Unit) (Q:Value->Option (DataW Unit × List MemPlace)) (w:World),Bm<w.heap.size->w.cell? ⟨Bm,0,none⟩=some (.map (some b))->w.ownsMap P kt Q b nn D0->Maps.size D0<=maxLen->Maps.size D0*8<=140737488355328->
   Calls P f #[.func (.func g) #[] #[.pointer (some ⟨Bm,0,none⟩)]] w fun e w'=>∃ (v:Value) (ss:List Int),e= .returned v/\ss.Perm (intKeys D0)/\
    w'.ownsRow w.heap.size et 1 v ss.length ((ss.mergeSort (fun x y=>decide (x<=y))).map encZ)/\(v= .slice none 0 0↔ss=[])/\Go.RowKit.Below w.heap.size w w'
theorem Fj {l:List Rw} {ss:List Int} (h:ss.Perm (l.map (·.h))):ss.mergeSort (fun x y=>decide (x<=y))=ed l:=by
 have tr:∀a b c:Int,decide (a<=b)=true->decide (b<=c)=true->decide (a<=c)=true:=fun a b c h1 h2=>by simp only[decide_eq_true_eq]at *; omega
 have to:∀a b:Int,(decide (a<=b)||decide (b<=a))=true:=fun a b=>by simp only[Bool.or_eq_true,decide_eq_true_eq]; omega
 have tr':∀x y z:Rw,kp x y=true->kp y z=true->kp x z=true:=fun x y z h1 h2=>by simp only[kp,decide_eq_true_eq]at h1 h2 ⊢; omega
 have to':∀x y:Rw,(kp x y||kp y x)=true:=fun x y=>by simp only[kp,Bool.or_eq_true,decide_eq_true_eq]; omega
 refine List.Perm.eq_of_pairwise (le:=fun a b=>decide (a<=b)=true) (fun a b _ _ h1 h2=>by simp only[decide_eq_true_eq]at h1 h2; omega) (List.pairwise_mergeSort tr to ss) ?_ ((List.mergeSort_perm ss _).trans (h.trans ((List.mergeSort_perm l kp).map (·.h)).symm))
 unfold ed
 rw[List.pairwise_map]
 exact List.pairwise_mergeSort tr' to' l
def qN:Value->Option (DataW Unit × List MemPlace):=fun _=>some (.nil,[])
theorem bG {ρ:AM.Place} {L:aZ} {I:Nat->Prop} {w:World} {N:Nat->Prop} {n:Int} {v:Value} (h:aL ρ L I w N (.int .i64 n) v):v= .int .i64 n:=by cases h; rfl
theorem Iz {P:Program} {kt:Nat} (RW:P.underlying kt=some (.int .i64)) {l:List Rw} (rd:l.Pairwise fun a b=>a.h≠b.h) (ok:∀r ∈ l,fK r) (hl:l.length<=1000000) {en:Array MapEntry} {ck gm:Nat} {w:World} (hg:w.heap[gm]? =some (.map en ck)) (hs:en.size=l.length)
  (hb:∀ (i j:Nat) (e f:MapEntry),en[i]? =some e->en[j]? =some f->i<j->e.born<f.born) (Yo:∀ (i:Nat) (e:MapEntry),en[i]? =some e->e.born<ck)
  (hk:∀ (i:Nat) (e:MapEntry) (r:Rw),en[i]? =some e->l[i]? =some r->e.key= .int .i64 r.h):
  ∃D0:DataW Unit,w.ownsMap P kt qN gm l.length D0/\Maps.size D0=l.length/\(intKeys D0).Perm (l.map (·.h)):=by
 have hrd:∀ (i:Nat) (e:MapEntry) (r:Rw),en[i]? =some e->l[i]? =some r->WideElems.rd P kt qN e=some (.int .i64 r.h,.nil):=by
  intro i e r he hr
  have hh:=(ok r (List.mem_of_getElem? hr)).h
  have hw:(Lit.int .i64 r.h).wf=true:=by simp[Lit.wf,IntKind.min,IntKind.max,IntKind.bits,IntKind.signed]; omega
  unfold WideElems.rd
  rw[hk i e r he hr]
  simp[keyOf,RW,mapKey,hw,qN]
 have each:∀ (i:Nat) (e:MapEntry),en[i]? =some e->∃r,l[i]? =some r:=fun i e he=>by
  have:=(Array.getElem?_eq_some_iff.1 he).1
  exact⟨l[i]'(by omega),List.getElem?_eq_getElem (by omega)⟩
 have Rc:en.toList.map (WideElems.rg P kt qN)=l.map fun r=>((.int .i64 r.h,.nil):Lit × DataW Unit):=by
  apply List.ext_getElem?
  intro i
  rw[List.getElem?_map,List.getElem?_map]
  cases he:en.toList[i]? with
  |none=>
   have:l[i]? =none:=by
    rw[List.getElem?_eq_none_iff]at he ⊢
    simp at he; omega
   rw[this]; rfl
  |some e=>
   have he':en[i]? =some e:=by simpa using he
   obtain⟨r,hr⟩:=each i e he'
   rw[hr]
   simp only[Option.map_some]
   unfold WideElems.rg
   rw[hrd i e r he' hr]; rfl
 refine⟨_,⟨en,ck,hg,⟨?_,⟨?_,?_,?_⟩,?_⟩,Nat.le_of_eq hs,rfl⟩,?_,?_⟩
 ·rw[hs]; have:(1000000:Nat)<=maxLen:=by decide
  omega
 ·intro x hx
  obtain⟨i,hi,rfl⟩:=List.getElem_of_mem hx
  exact Yo i _ (by rw[Array.getElem_toList]; exact Array.getElem?_eq_getElem (by simpa using hi))
 ·show List.Pairwise (· ≠ ·) _
  rw[List.pairwise_map,List.pairwise_iff_getElem]
  intro i j hi hj hij
  have:=hb i j _ _ (Array.getElem?_eq_getElem (by simpa using hi)) (Array.getElem?_eq_getElem (by simpa using hj)) hij
  simp only[Array.getElem_toList]
  omega
 ·show List.Pairwise (· ≠ ·) _
  rw[List.pairwise_map,List.pairwise_iff_getElem]
  intro i j hi hj hij
  have hi':i<en.size:=by simpa using hi
  have hj':j<en.size:=by simpa using hj
  simp only[Array.getElem_toList]
  rw[hk i _ l[i] (Array.getElem?_eq_getElem hi') (List.getElem?_eq_getElem (by omega)),hk j _ l[j] (Array.getElem?_eq_getElem hj') (List.getElem?_eq_getElem (by omega))]
  intro e
  exact List.pairwise_iff_getElem.1 rd i j (by omega) (by omega) hij (by simpa using e)
 ·intro x hx
  obtain⟨i,hi,rfl⟩:=List.getElem_of_mem hx
  have hi':i<en.size:=by simpa using hi
  exact⟨_,hrd i _ l[i] (by rw[Array.getElem_toList]; exact Array.getElem?_eq_getElem hi') (List.getElem?_eq_getElem (by omega))⟩
 ·rw[Maps.size_eq,length_sorted,List.length_map]; simpa using hs
 ·rw[Rc]
  have:=(Go.WideShapes.sorted_perm (l.map fun r=>((.int .i64 r.h,.nil):Lit × DataW Unit))).map fun p=>intOf p.1
  rw[List.map_map]at this
  exact this
set_option maxHeartbeats 1000000 in
theorem IA {R:Env} {kt:Nat} (hb:cx R.P (R.ft 434)) (RW:R.P.underlying kt=some (.int .i64)) (KL:Dh R.P (R.ft 434) (R.ft 447) kt (R.ty 10)):wL R:=by
 intro d1 l rd ok hl
 refine⟨hb,fun w I ρ vs hW hr=> ?_,rfl⟩
 have W:=hW 0
 obtain⟨hvl,hr⟩:=hr
 obtain⟨v0,rfl⟩:∃v0,vs=[v0]:=by
  match vs,hvl with
  |[a],_=>exact⟨a,rfl⟩
 have r0:=hr 0 (by simp)
 have r0:aL ρ _ I w (· <2) (.bR (.fn (R.ft 447)) [.loc 0 1 0 0]) v0:=r0
 have Xw:ab (ay [(0,bI.var (R.ty 57) [.omap 1]),(1,.map 1 false true d1 41 (iq l))]) 0=some ⟨R.ty 57,1,[[.omap 1]],none⟩:=rfl
 have hM1:ab (ay [(0,bI.var (R.ty 57) [.omap 1]),(1,.map 1 false true d1 41 (iq l))]) 1=some ⟨0,41,iq l,some (1,false,true,d1)⟩:=rfl
 cases r0 with
 |bR _ _ us Zz ZA=>
  obtain⟨u0,rfl⟩:∃u0,us=[u0]:=by
   match us,Zz with
   |[a],_=>exact⟨a,rfl⟩
  have q0:=ZA 0 (by simp)
  have q0:aL ρ _ I w (· <2) (.loc 0 1 0 0) u0:=q0
  obtain⟨_,g,cap,tD,rfl⟩:=gj (sz:=1) q0 (by rw[aA]; exact⟨_,Xw,rfl,rfl⟩)
  obtain⟨cs,fr,qy,_,_,_,_,_,_,hcell⟩:=(W.aT 0 _ Xw).real g cap tD
  have qy:w.heap[g]? =some (.cells cs (R.ty 57) fr):=qy
  obtain⟨u,hu,_,Fh⟩:=hcell 0 0 (by simp) (by simp)
  have Fh:aL ρ _ I w (· <2) (.omap 1) u:=Fh
  have hu:cs[0]? =some u:=by simpa using hu
  obtain⟨gm,cm,GY,rfl⟩:∃gm cm,ρ 1=some (gm,cm)/\u= .map (some gm):=by
   cases Fh with
   |omap _ _ _ _ h=>exact h 41 (by rw[aA]; exact⟨_,hM1,rfl,rfl⟩)
  have B1:=W.aT 1 _ hM1
  obtain⟨cs1,fr1,Rc,_,_,_,_,_,_,Re⟩:=B1.real gm cm GY
  obtain⟨en,ck,hg,hs,MC⟩:=Rc
  have hs:en.size=l.length:=by simpa using hs
  have hkey:∀ (i:Nat) (e:MapEntry) (r:Rw),en[i]? =some e->l[i]? =some r->e.key= .int .i64 r.h:=by
   intro i e r he hr
   obtain⟨k1,k2,k3,k4⟩:=MC.key i e he
   have hi:=(List.getElem?_eq_some_iff.1 hr).1
   obtain⟨u,hu,_,Fh⟩:=Re i 0 (by simpa using hi) (by simp)
   have hrow:(iq l).getD i []=vt r:=by
    unfold iq
    rw[List.getD_eq_getElem?_getD,List.getElem?_map,hr]; rfl
   have Fh:aL ρ _ I w (· <2) (((iq l).getD i []).getD 0 .bad) u:=Fh
   rw[hrow]at Fh
   have Fh:=bG Fh
   have hf:aJ e.key=[e.key]:=by
    cases hk:e.key<;>first|rfl|(rw[hk]at k3; simp[ga]at k3)
   have:=MC.cell i e 0 e.key he (by rw[hf]; rfl)
   rw[this]at hu
   cases hu
   exact Fh
  obtain⟨D0,hown,hsz,Xx⟩:=Iz RW rd ok hl hg hs MC.born MC.clock hkey
  have hlt:=(Array.getElem?_eq_some_iff.1 qy).1
  have hc:w.cell? ⟨g,0,none⟩=some (.map (some gm)):=by
   simp only[World.cell?,qy,Option.isSome_none,Bool.false_eq_true,if_false]
   exact hu
  have FP:(1000000:Nat)<=maxLen:=by decide
  have yH:=KL gm l.length g D0 qN w hlt hc hown (by omega) (by omega)
  refine yH.mono ?_
  rintro e w' ⟨v,ss,rfl,hp,⟨_,hrow⟩,hnil,tw⟩
  have hp:=hp.trans Xx
  have hkl:=Fj hp
  have hlen:(ed l).length=ss.length:=by rw[<-hkl,List.length_mergeSort]
  refine⟨v,rfl,?_⟩
  obtain⟨E0,W0⟩:=W.ext' (w':= {w with drawn:=w'.drawn}) (I':=I) rfl rfl rfl (Nat.le_refl _) (fun _ _=>rfl) (fun _ h=>h) W.lt (fun _ _ h=>h) (Nat.zero_le _)
  rcases hrow with⟨rfl,h0⟩|⟨gb,cp,cur,rfl,hge,hgb,hle,nO,hcs,Yp⟩
  ·have e0:ed l=[]:=List.eq_nil_of_length_eq_zero (by omega)
   obtain⟨E1,W1⟩:=W.ext' (w':=w') (I':=I) tw.os tw.tape tw.output tw.size tw.block (fun _ h=>h) (fun g hg=>Nat.lt_of_lt_of_le (W.lt g hg) tw.size) (fun _ _ h=>h) (Nat.zero_le _)
   obtain⟨E2,W2⟩:=W1.eD (n:=2) (Nat.lt_irrefl 2) (R.ty 10) 1
   have e1:cX (ab (ay [(0,bI.var (R.ty 57) [.omap 1]),(1,.map 1 false true d1 41 (iq l))])) 2 ⟨R.ty 10,1,[],none⟩=ab (ay [(0,.var (R.ty 57) [.omap 1]),(1,.map 1 false true d1 41 (iq l)),(2,.arr (R.ty 10) 1 (bp .i64 (ed l)))]):=by
    rw[e0]
    funext m
    by_cases hm:m=2
    ·subst hm; rfl
    ·have:(m==2)=false:=by simpa using hm
     simp[cX,hm,ay,ab,this]
   rw[e1]at W2
   refine⟨_,I,0,W2.nP (fun m hm=>by rcases hm with rfl|hm; exact Nat.lt_succ_self 2; exact Nat.lt_succ_of_lt hm),?_⟩
   rw[show (ed l).length=0 from by rw[e0]; rfl]
   refine .bc 2 0 _ (Nat.lt_succ_self 2) rfl fun k sz hk=>⟨Nat.zero_le _,fun _=> .inl ⟨if_pos rfl,_,rfl⟩⟩
  ·have hgb:w'.heap[gb]? =some (.cells cur (R.ty 10) (0,0)):=hgb
   have eQ:(bp .i64 (ed l)).length=ss.length:=by simp[bp,hlen]
   obtain⟨E1,W1⟩:=W0.put (w':=w') 2 ⟨R.ty 10,1,bp .i64 (ed l),none⟩ gb cp cur (0,0) tw.os tw.tape tw.output tw.size (fun k hk _=>tw.block k hk) hgb (fun o _ h=>by omega) (.inl hge)
    (fun b0 h0=>by have h0:(Option.none:Option bg)=some b0:=h0; cases h0) (fun h=>absurd h (Nat.lt_irrefl 2)) (fun e he=>by obtain⟨x,_,rfl⟩:=List.mem_map.1 he; rfl) (by show (bp .i64 (ed l)).length<=cp; omega) nO hcs
    (fun i j hi hj=>by
      have hi:i< (bp .i64 (ed l)).length:=hi
      have hj:j<1:=hj
      have e0:j=0:=by omega
      subst e0
      have hi':i< (ed l).length:=by omega
      have hat:(cur.toList.take (ss.length*1))[i]? =some (encZ (ed l)[i]):=by rw[Yp,hkl,List.getElem?_map,List.getElem?_eq_getElem hi']; rfl
      rw[List.getElem?_take_of_lt (by omega)]at hat
      refine⟨encZ (ed l)[i],by simpa using hat,rfl,?_⟩
      rw[show (((⟨R.ty 10,1,bp .i64 (ed l),none⟩:bg).es.getD i []).getD 0 .bad)= .int .i64 (ed l)[i]from by
       have e2:(bp .i64 (ed l))[i]? =some [.int .i64 (ed l)[i]]:=by unfold bp; rw[List.getElem?_map,List.getElem?_eq_getElem hi']; rfl
       show ((bp .i64 (ed l)).getD i []).getD 0 .bad=_
       rw[List.getD_eq_getElem?_getD (l:=bp .i64 (ed l)),e2]; rfl]
      exact .int _ _)
   have e1:cX (ab (ay [(0,bI.var (R.ty 57) [.omap 1]),(1,.map 1 false true d1 41 (iq l))])) 2 ⟨R.ty 10,1,bp .i64 (ed l),none⟩=ab (ay [(0,.var (R.ty 57) [.omap 1]),(1,.map 1 false true d1 41 (iq l)),(2,.arr (R.ty 10) 1 (bp .i64 (ed l)))]):=by
    funext m
    by_cases hm:m=2
    ·subst hm; rfl
    ·have:(m==2)=false:=by simpa using hm
     simp[cX,hm,ay,ab,this]
   rw[e1]at W1
   refine⟨_,I,0,W1.nP (fun m hm=>by rcases hm with rfl|hm; exact Nat.lt_succ_self 2; exact Nat.lt_succ_of_lt hm),?_⟩
   rw[hlen]
   refine .bc 2 ss.length _ (Nat.lt_succ_self 2) rfl fun k sz hk=> ?_
   obtain⟨b,hb,h1,_⟩:=aA.1 hk
   have hb:some (⟨R.ty 10,1,bp .i64 (ed l),Option.none⟩:bg)=some b:=hb
   cases hb
   have h1:(bp .i64 (ed l)).length=k:=h1
   exact⟨by omega,fun _=> .inr ⟨gb,cp,by simp[iI],rfl⟩⟩
end Go.UM
namespace Go.UM
open Go.AM Go.Shelf Go.RowKit Go.Lib Go.Sort Go.Proofs
section
variable {α:Type} [Inhabited α]
def yj (cf:α->α->Int) (l:List α):List α:=(pdq (ltOf cf) l.toArray 0 l.toArray.size (Lib.bitLen l.toArray.size) true true).toList
theorem Ca {P:Program} {ρ:Ren} (L:SlLaysF0.n6 P ρ) {k:Nat} (aE:∀w,(isAgg (ρ.t 24)).run P w= .ok true w) (zE:∀w,(Go.sizeOf (ρ.t 24)).run P w= .ok k w) {aP:α->List Int} (hk:∀x,(aP x).length=k)
  {cf:α->α->Int} (hO:SWO (ltOf cf)) {g:Nat} (eg:∀args w,(callFunc g args).run P w= .ok (.enter g args) w):nc P (ρ.f 6) g k aP cf (yj cf):=by
 refine⟨fun p cap fv w=>AnyF.slices_SortFunc_none L p cap fv w,fun aT cap l w hc hH hb hl=> ?_⟩
 have h:=AnyQ.slices_SortFunc_eq L k aE zE (rz aP) (fun x=>by simp[rz,hk]) (fun x v hv=>by obtain⟨n,_,rfl⟩:=List.mem_map.1 hv; rfl) cf hO g #[] aT 0 cap l.toArray w eg (by simpa using hc) hH hb (by simpa using hl)
 have e:(yj cf l).toArray=pdq (ltOf cf) l.toArray 0 l.toArray.size (Lib.bitLen l.toArray.size) true true:=by simp[yj]
 rw[e]
 rwa[List.size_toArray]at h ⊢
theorem Fk (cf:α->α->Int) (hO:SWO (ltOf cf)) (l:List α):(yj cf l).Perm l:=by
 have h:=(pdq_sorts (ltOf cf) hO l.toArray 0 l.toArray.size (Lib.bitLen l.toArray.size) true true (Nat.zero_le _) (Nat.le_refl _) (Or.inl rfl)).1
 obtain⟨h1,_,h3⟩:=h
 unfold yj
 generalize pdq (ltOf cf) l.toArray 0 l.toArray.size (Lib.bitLen l.toArray.size) true true=d at h1 h3 ⊢
 rw[<-h1]at h3
 have e1:d.extract 0 d.size=d:=by simp
 rw[e1]at h3
 rw[h1]at h3
 simpa using h3
theorem IB (cf:α->α->Int) (hO:SWO (ltOf cf)) (l:List α):(yj cf l).Pairwise fun x y=>ltOf cf y x=false:=by
 have h:=pdq_sorts (ltOf cf) hO l.toArray 0 l.toArray.size (Lib.bitLen l.toArray.size) true true (Nat.zero_le _) (Nat.le_refl _) (Or.inl rfl)
 obtain⟨⟨h1,_,_⟩,h2⟩:=h
 unfold yj
 generalize pdq (ltOf cf) l.toArray 0 l.toArray.size (Lib.bitLen l.toArray.size) true true=d at h1 h2 ⊢
 rw[List.pairwise_iff_getElem]
 intro i j hi hj hij
 have hj':j<d.size:=by simpa using hj
 have:=h2 i j (Nat.zero_le _) hij (by omega)
 rw[getElem!_pos d j hj',getElem!_pos d i (by omega)]at this
 simpa using this
end
theorem uC:SWO (ltOf lH) where
 irrefl x:=by simp only[ltOf,decide_eq_false_iff_not,dS]; omega
 trans x y z h1 h2:=by simp only[ltOf,decide_eq_true_eq,dS]at *; omega
 ntrans x y z h1 h2:=by simp only[ltOf,decide_eq_false_iff_not,dS]at *; omega
theorem IC:LV (yj lH):=⟨fun l=>Fk lH uC l,fun l=>(IB lH uC l).imp fun {a b} h=>by
 simp only[ltOf,decide_eq_false_iff_not]at h
 exact lI.2 h⟩
end Go.UM
