/- Of the reckoning machine, and what is proved with it: texts joined by program. -/
import Derived.Test.YtnfgjmbcfcnieaaGreatU0
import Derived.Test.YtnfgjmbcfcnieaaGreatK3
import Derived.Shelf.SlSortCmp.InsertionK
set_option linter.all false
namespace Go.UM
open Go.AM
set_option maxRecDepth 4000
theorem Ix{R:Env}(h:N62 R)(l:List UInt8)(hl:l.length<=1073741824):
  R.Mc 62 [.aD 1 (aT l)] [] (.aV 0 l.length) [(0,.arr (R.ty 4) 1 (aT l))] 1:=
 h.o62.aY 60 0 rfl rfl rfl fun X b hfit hp=>by
  refine sh ?_
  refine G8.mk (fun hn=> ?_) ?_
  ·have:l=[]:=by simpa[aT]using hn
   subst this
   refine sh ?_
   exact rM [50]
  ·refine sh ?_
   exact rM [0]
def enc(w:Nat)(x:Int):List UInt8:=(List.range w).map fun i=>u8 (x / 256 ^ i)
def kN(b:List UInt8)(w:Int)(n:List Int):List UInt8 × Int:=
 if w<1\/ 8<w then ([],2)else if n.any (fun x=>decide (256 ^ w.toNat<=x))=true then ([],3)else (b++n.flatMap (enc w.toNat),0)
theorem rb(w:Nat):∀l:List Int,(l.flatMap (enc w)).length=w*l.length
 |[]=>by simp
 |x::r=>by simp[rb w r,enc,Nat.mul_add]; omega
theorem tT{b:List UInt8}{n:List Int}{w:Int}{k:Nat}{i:Nat}{x:Int}(hl:b.length+8*n.length<=1073741824)(hw:w<=8)(y0:1<=w)(hk:(k:Int)<n.length)(hi:(i:Int)<w):(b++(n.take k).flatMap (enc w.toNat)++enc i x).length+1<=1073741824:=by
 have h1:w.toNat* (n.take k).length<=8*k:=Nat.mul_le_mul (by omega) (by simp; omega)
 simp only[List.length_append,rb]
 have:(enc i x).length=i:=by simp[enc]
 omega
theorem tU(i:Nat)(x:Int):enc (i+1) x=enc i x++ [u8 (x / 256 ^ i)]:=by simp[enc,List.range_succ]
@[simp] theorem X7(x:Int):enc 0 x=[]:=rfl
@[simp] theorem RE(w:Nat)(x:Int):(enc w x).length=w:=by simp[enc]
theorem xT{x:Int}{i:Nat}(hx:0<=x)(hi:i<8):fS .u64 x (8* (i:Int))=x / 256 ^ i:=by
 rw[Rr hx]
 have h:(8* (i:Int)).toNat=8*i:=by omega
 rw[h,show min (8*i) (IntKind.bits .u64)=8*i by simp[IntKind.bits]; omega,Int.pow_mul]
 rfl
theorem Df{x w:Int}(hx:0<=x)(h1:1<=w)(h8:w<8):0<fS .u64 x (8*w)↔256 ^ w.toNat<=x:=by
 obtain⟨i,rfl⟩:∃i:Nat,w=i:=⟨w.toNat,by omega⟩
 rw[xT hx (by omega),Int.toNat_natCast]
 have hp:(0:Int)<256 ^ i:=Int.pow_pos (by decide)
 constructor
 ·intro h
  have:=(Int.le_ediv_iff_mul_le hp).1 (show 1<=x / 256 ^ i from h)
  rwa[Int.one_mul]at this
 ·intro h
  show 1<=x / 256 ^ i
  exact (Int.le_ediv_iff_mul_le hp).2 (by rw[Int.one_mul]; exact h)
theorem fL{n:List Int}{k:Nat}{x:Int}{p:Int->Bool}(h:n[k]? =some x):(n.take (k+1)).any p=((n.take k).any p||p x):=by
 rw[ao h]; simp
theorem z6{b:List UInt8}{w:Int}{n:List Int}{x:Int}(h1:1<=w)(h2:w<=8)(hx:x ∈ n)(h:256 ^ w.toNat<=x):kN b w n=([],3):=by
 unfold kN
 rw[if_neg (by omega),if_pos]
 simp only[List.any_eq_true,decide_eq_true_eq]
 exact⟨x,hx,h⟩
theorem pH{b:List UInt8}{w:Int}{n:List Int}(h1:1<=w)(h2:w<=8)(h:n.any (fun x=>decide (256 ^ w.toNat<=x))=false):kN b w n=(b++n.flatMap (enc w.toNat),0):=by
 unfold kN
 rw[if_neg (by omega),if_neg (by rw[h]; decide)]
theorem Dg{R:Env}(h:PH R)(b:List UInt8)(w:Int)(n:List Int)(hl:b.length+8*n.length<=1073741824)(hn:∀x ∈ n,0<=x/\x<=18446744073709551615):
  R.Mc 54 [.aD 1 (aT b),.int .i64 w,.aD 1 (bp .u64 n)] [] (.aQ [.aV 0 (kN b w n).1.length,.int .i64 (kN b w n).2]) [(0,.arr (R.ty 4) 1 (aT (kN b w n).1))] 1:=
 h.o54.aY 100 0 rfl rfl rfl fun X bb hfit hp=>by
  generalize hq:kN b w n=q
  refine sh ?_
  refine cS (fun h1=> ?_) (fun h1=> ?_)
  ·rw[kN,if_pos (.inl h1)]at hq
   subst hq
   refine sh ?_
   exact rM [50]
  ·refine sh ?_
   refine cS (fun h2=> ?_) (fun h2=> ?_)
   ·rw[kN,if_pos (.inr h2)]at hq
    subst hq
    refine sh ?_
    exact rM [50]
   ·refine sh ?_
    refine cM false [] (Ix h.n62 b (by omega)) ?_
    repeat (intro _; first|refine eK ?_|refine eP ?_)
    refine sh ?_
    refine eH 100 (fun k:Nat=>k<=n.length/\(n.take k).any (fun x=>decide (256 ^ w.toNat<=x))=false) (fun k=>⟨[(1,.int .i64 w),(8,.aV 0 (b++(n.take k).flatMap (enc w.toNat)).length),(20,.aD 1 (bp .u64 n)),(21,.int .i64 n.length),(22,.int .i64 k)],[(0,.arr (R.ty 4) 1 (aT (b++(n.take k).flatMap (enc w.toNat))))],1⟩) (fun k=>n.length - k) (0) ?_ ?_
    ·exact⟨Nat.zero_le _,by simp⟩
    ·intro k hk
     dsimp only
     refine sh ?_
     refine cS (fun h3=> ?_) (fun h3=> ?_)
     ·obtain⟨x,hx⟩:∃u_,n[k]? =some u_:=⟨_,List.getElem?_eq_getElem (by first|omega|(simp<;>omega))⟩
      refine sh ?_
      refine aa hx ?_
      have mR:=hx
      have hx:=hn x (List.mem_of_getElem? mR)
      refine sh ?_
      refine cS (fun h4=> ?_) (fun h4=> ?_)
      ·refine sh ?_
       refine cS (fun h5=> ?_) (fun h5=> ?_)
       ·rw[z6 (by omega) (by omega) (List.mem_of_getElem? mR) ((Df hx.1 (by omega) h4).1 h5)]at hq
        subst hq
        refine sh ?_
        exact rM [50]
       ·have hnb:¬256 ^ w.toNat<=x:=fun hb=>absurd ((Df hx.1 (by omega) h4).2 hb) (by omega)
        refine sh ?_
        refine eH 100 (fun i:Nat=>(i:Int)<=w) (fun i=>⟨[(1,.int .i64 w),(8,.aV 0 (b++(n.take k).flatMap (enc w.toNat)++enc i x).length),(10,.int .u64 x),(20,.aD 1 (bp .u64 n)),(21,.int .i64 n.length),(22,.int .i64 k),(35,.int .i64 w),(36,.int .i64 i)],[(0,.arr (R.ty 4) 1 (aT (b++(n.take k).flatMap (enc w.toNat)++enc i x)))],1⟩) (fun i=>w.toNat - i) (0) ?_ ?_
        ·show (0:Int)<=w
         omega
        ·intro i hi
         dsimp only
         refine sh ?_
         refine cS (fun h6=> ?_) (fun h6=> ?_)
         ·refine sh ?_
          rw[xT hx.1 (by omega)]
          refine bC ?_
          refine sh ?_
          refine⟨by rw[gj]; exact tT hl h2 h1 h3 h6,?_⟩
          refine sh ?_
          refine nX (i+1) ?_ ?_ ⟨_,hp,rfl⟩ ?_ ?_
          ·omega
          ·omega
          ·exact fu
          ·refine bj ?_
           simp[tU]
         ·refine sh ?_
          refine nX (k+1) ?_ ?_ ⟨_,hp,rfl⟩ ?_ ?_
          ·refine⟨by omega,?_⟩
           rw[fL mR,hk.2,decide_eq_false hnb]; rfl
          ·omega
          ·refine bj ?_
           rw[ao mR,show i=w.toNat by omega]; simp
          ·refine bj ?_
           rw[ao mR,show i=w.toNat by omega]; simp
      ·have hnb:¬256 ^ w.toNat<=x:=by rw[show w.toNat=8 by omega]; omega
       refine sh ?_
       refine eH 100 (fun i:Nat=>(i:Int)<=w) (fun i=>⟨[(1,.int .i64 w),(8,.aV 0 (b++(n.take k).flatMap (enc w.toNat)++enc i x).length),(10,.int .u64 x),(20,.aD 1 (bp .u64 n)),(21,.int .i64 n.length),(22,.int .i64 k),(35,.int .i64 w),(36,.int .i64 i)],[(0,.arr (R.ty 4) 1 (aT (b++(n.take k).flatMap (enc w.toNat)++enc i x)))],1⟩) (fun i=>w.toNat - i) (0) ?_ ?_
       ·show (0:Int)<=w
        omega
       ·intro i hi
        dsimp only
        refine sh ?_
        refine cS (fun h6=> ?_) (fun h6=> ?_)
        ·refine sh ?_
         rw[xT hx.1 (by omega)]
         refine bC ?_
         refine sh ?_
         refine⟨by rw[gj]; exact tT hl h2 h1 h3 h6,?_⟩
         refine sh ?_
         refine nX (i+1) ?_ ?_ ⟨_,hp,rfl⟩ ?_ ?_
         ·omega
         ·omega
         ·exact fu
         ·refine bj ?_
          simp[tU]
        ·refine sh ?_
         refine nX (k+1) ?_ ?_ ⟨_,hp,rfl⟩ ?_ ?_
         ·refine⟨by omega,?_⟩
          rw[fL mR,hk.2,decide_eq_false hnb]; rfl
         ·omega
         ·refine bj ?_
          rw[ao mR,show i=w.toNat by omega]; simp
         ·refine bj ?_
          rw[ao mR,show i=w.toNat by omega]; simp
     ·have hkn:n.take k=n:=List.take_of_length_le (by omega)
      rw[hkn]at hk ⊢
      rw[pH (by omega) (by omega) hk.2]at hq
      subst hq
      refine sh ?_
      exact rM [0]
end Go.UM
namespace Go.UM
open Go.AM
set_option maxRecDepth 4000
def gX(b:List UInt8)(w:Int)(n:List Int):List UInt8 × Int:=
 if w<1\/ 8<w then ([],2)else if n.any (fun x=>decide (x< -(256 ^ w.toNat / 2))||decide (256 ^ w.toNat / 2<=x))=true then ([],3)else kN b w (n.map fun x=>x % 256 ^ w.toNat)
theorem qm{b:List UInt8}{w:Int}{n:List Int}{x:Int}(h1:1<=w)(h2:w<=8)(hx:x ∈ n)(h:x< -(256 ^ w.toNat / 2)\/ 256 ^ w.toNat / 2<=x):gX b w n=([],3):=by
 unfold gX
 rw[if_neg (by omega),if_pos]
 simp only[List.any_eq_true,Bool.or_eq_true,decide_eq_true_eq]
 exact⟨x,hx,h⟩
theorem pI{b:List UInt8}{w:Int}{n:List Int}(h1:1<=w)(h2:w<=8)(h:n.any (fun x=>decide (x< -(256 ^ w.toNat / 2))||decide (256 ^ w.toNat / 2<=x))=false):gX b w n=kN b w (n.map fun x=>x % 256 ^ w.toNat):=by
 unfold gX
 rw[if_neg (by omega),if_neg (by rw[h]; decide)]
theorem Me{w x:Int}(h1:1<=w)(h2:w<=8)(hx:aR .i64 x):(fS .i64 (pV .i64 x (64 - 8*w)) (64 - 8*w)=x)↔¬ (x< -(256 ^ w.toNat / 2)\/ 256 ^ w.toNat / 2<=x):=by
 simp only[aR]at hx
 obtain h|h|h|h|h|h|h|h:w=1\/ w=2\/ w=3\/ w=4\/ w=5\/ w=6\/ w=7\/ w=8:=by omega
 all_goals subst h
 all_goals (simp only[fS,pV,IntKind.wrap,IntKind.bits,IntKind.signed]; simp[Int.fdiv_eq_ediv]; omega)
theorem Mg{w x:Int}(h1:1<=w)(h2:w<=8)(hx:aR .i64 x):fS .u64 (pV .u64 (wr .u64 x) (64 - 8*w)) (64 - 8*w)=x % 256 ^ w.toNat:=by
 simp only[aR]at hx
 obtain h|h|h|h|h|h|h|h:w=1\/ w=2\/ w=3\/ w=4\/ w=5\/ w=6\/ w=7\/ w=8:=by omega
 all_goals subst h
 all_goals (simp only[wr,fS,pV,IntKind.wrap,IntKind.bits,IntKind.signed]; simp[Int.fdiv_eq_ediv]<;>omega)
theorem z7{b:List UInt8}{w:Int}{n:List Int}(h1:1<=w)(h2:w<=8):∀x ∈ n.map (fun x=>x % 256 ^ w.toNat),0<=x/\x<=18446744073709551615:=by
 intro x hx
 obtain⟨y,_,rfl⟩:=List.mem_map.1 hx
 obtain h|h|h|h|h|h|h|h:w=1\/ w=2\/ w=3\/ w=4\/ w=5\/ w=6\/ w=7\/ w=8:=by omega
 all_goals (subst h; simp<;>omega)
theorem tV{R:Env}(h:PI R)(b:List UInt8)(w:Int)(n:List Int)(hl:b.length+8*n.length<=1073741824)(hn:∀x ∈ n,aR .i64 x):
  R.Mc 71 [.aD 1 (aT b),.int .i64 w,.aD 1 (bp .i64 n)] [] (.aQ [.aV 0 (gX b w n).1.length,.int .i64 (gX b w n).2]) [(0,.arr (R.ty 4) 1 (aT (gX b w n).1))] 1:=
 h.o71.aY 100 0 rfl rfl rfl fun X bb hfit hp=>by
  generalize hq:gX b w n=q
  refine sh ?_
  refine cS (fun h1=> ?_) (fun h1=> ?_)
  ·rw[gX,if_pos (.inl h1)]at hq
   subst hq
   refine sh ?_
   exact rM [50]
  ·refine sh ?_
   refine cS (fun h2=> ?_) (fun h2=> ?_)
   ·rw[gX,if_pos (.inr h2)]at hq
    subst hq
    refine sh ?_
    exact rM [50]
   ·refine sh ?_
    refine eH 100 (fun k:Nat=>k<=n.length/\(n.take k).any (fun x=>decide (x< -(256 ^ w.toNat / 2))||decide (256 ^ w.toNat / 2<=x))=false) (fun k=>⟨[(0,.aD 1 (aT b)),(1,.int .i64 w),(8,.aV 0 ((n.take k).map fun x=>x % 256 ^ w.toNat).length),(18,.aD 1 (bp .i64 n)),(19,.int .i64 n.length),(20,.int .i64 k)],[(0,.arr (R.ty 6) 1 (bp .u64 ((n.take k).map fun x=>x % 256 ^ w.toNat)))],1⟩) (fun k=>n.length - k) (0) ?_ ?_
    ·exact⟨Nat.zero_le _,by simp⟩
    ·intro k hk
     dsimp only
     refine sh ?_
     refine cS (fun h3=> ?_) (fun h3=> ?_)
     ·obtain⟨x,hx⟩:∃u_,n[k]? =some u_:=⟨_,List.getElem?_eq_getElem (by first|omega|(simp<;>omega))⟩
      refine sh ?_
      refine aa hx ?_
      have mR:=hx
      have hx:=hn x (List.mem_of_getElem? mR)
      have hsx:=Me (by omega) h2 hx
      refine sh ?_
      refine cS (fun h4=> ?_) (fun h4=> ?_)
      ·rw[qm (by omega) (by omega) (List.mem_of_getElem? mR) (Decidable.not_not.1 fun hb=>h4 (hsx.2 hb))]at hq
       subst hq
       refine sh ?_
       exact rM [50]
      ·refine sh ?_
       refine bC ?_
       refine sh ?_
       rw[Mg (by omega) h2 hx]
       refine nX (k+1) ?_ ?_ ⟨_,hp,rfl⟩ ?_ ?_
       ·refine⟨by omega,?_⟩
        rw[fL mR,hk.2]
        have:=hsx.1 h4
        simp only[Bool.false_or,Bool.or_eq_false_iff,decide_eq_false_iff_not]
        omega
       ·omega
       ·refine bj ?_
        rw[ao mR]; simp
       ·refine bj ?_
        rw[ao mR]; simp[bp]
     ·have hkn:n.take k=n:=List.take_of_length_le (by omega)
      rw[hkn]at hk ⊢
      rw[pI (by omega) (by omega) hk.2]at hq
      subst hq
      refine sh ?_
      refine cM true [] (Dg h.JP b w (n.map fun x=>x % 256 ^ w.toNat) (by simpa using hl) (z7 (b:=b) (by omega) h2)) ?_
      repeat (intro _; first|refine eK ?_|refine eP ?_)
      refine sh ?_
      exact rM [1]
structure Rd where
 l:List UInt8
 e:Int
 made:Bool
def Rd.row(r:Rd):List AV:=[.aD 1 (aT r.l),.int .i64 r.e,.bool r.made]
def Rd.off(r:Rd):Bool:= !r.made||decide (r.e≠0)
def Rd.take(r:Rd)(n:Int):List UInt8 × Rd:=
 if r.made=false\/ r.e≠0 then ([],r)else if n<0 then ([],{r with e:=2})else if (r.l.length:Int)<n then ([],{r with e:=4})else (r.l.take n.toNat,{r with l:=r.l.drop n.toNat})
def Rd.num(r:Rd)(w:Int):Nat × Rd:=let t:=r.take (if w<1\/ 8<w then -1 else w); (le t.1,t.2)
def sx(w:Int)(n:Nat):Int:=if 2*n<256 ^ w.toNat then n else n - 256 ^ w.toNat
def Rd.int(r:Rd)(w:Int):Int × Rd:=(if w<1\/ 8<w then 0 else sx w (r.num w).1,(r.num w).2)
end Go.UM
namespace Go.UM
open Go.AM
set_option maxRecDepth 4000
theorem Mh{w:Int}(h:w<=8):(256:Int) ^ w.toNat<=18446744073709551616:=by
 have:(256:Nat) ^ w.toNat<=256 ^ 8:=Nat.pow_le_pow_right (by decide) (by omega)
 have h2:((256:Int) ^ w.toNat)=((256 ^ w.toNat:Nat):Int):=by rw[Int.natCast_pow]; rfl
 omega
theorem xU(n:Nat):(1:Int)<=256 ^ n:=Int.pow_pos (by decide)
theorem B'{R:Env}(h:ZA R)(w:Int)(hw:w<=8):R.Pc 63 [.int .i64 w] (.int .u64 (256 ^ w.toNat - 1)):=
 h.ZB.enter 100 rfl fun X bb hfit hp=>by
  refine sh ?_
  refine eH 100 (fun i:Nat=>i<=w.toNat) (fun i=>⟨[(0,.int .i64 w),(3,.int .u64 (256 ^ i - 1)),(4,.int .i64 i)],[],0⟩) (fun i=>w.toNat - i) (0) ?_ ?_
  ·exact Nat.zero_le _
  ·intro i hi
   dsimp only
   refine sh ?_
   refine cS (fun h1=> ?_) (fun h1=> ?_)
   ·have hp8:(256:Int) ^ (i+1)<=18446744073709551616:=by
     have:=Mh (w:=(i+1:Nat)) (by omega)
     simpa using this
    rw[Int.pow_succ]at hp8
    have hp1:=xU i
    refine sh ?_
    refine lO (i+1) ?_ ?_
    ·omega
    ·omega
   ·refine sh ?_
    refine rT ?_
    refine bj ?_
    rw[show i=w.toNat by omega]
theorem Iy{R:Env}(h:WZ R)(b:List UInt8)(w:Int)(n:List Int)(hl:b.length+8*n.length<=1073741824)(hn:∀x ∈ n,0<=x/\x<=18446744073709551615):
  R.Mc 55 [.aD 1 (aT b),.int .i64 w,.aD 1 (bp .u64 n)] [] (.aQ [.aV 0 (kN b w n).1.length,.int .i64 (kN b w n).2]) [(0,.arr (R.ty 4) 1 (aT (kN b w n).1))] 1:=
 h.o55.aY 100 0 rfl rfl rfl fun X bb hfit hp=>by
  generalize hq:kN b w n=q
  refine sh ?_
  refine cS (fun h1=> ?_) (fun h1=> ?_)
  ·rw[kN,if_pos (.inl h1)]at hq
   subst hq
   refine sh ?_
   exact rM [50]
  ·refine sh ?_
   refine cS (fun h2=> ?_) (fun h2=> ?_)
   ·rw[kN,if_pos (.inr h2)]at hq
    subst hq
    refine sh ?_
    exact rM [50]
   ·refine sh ?_
    refine eH 100 (fun k:Nat=>k<=n.length/\(n.take k).any (fun x=>decide (256 ^ w.toNat<=x))=false) (fun k=>⟨[(1,.int .i64 w),(2,.aD 1 (bp .u64 n)),(8,.aV 0 (b++(n.take k).flatMap (enc w.toNat)).length),(9,.int .i64 k)],[(0,.arr (R.ty 4) 1 (aT (b++(n.take k).flatMap (enc w.toNat))))],1⟩) (fun k=>n.length - k) (0) ?_ ?_
    ·exact⟨Nat.zero_le _,by simp⟩
    ·intro k hk
     dsimp only
     refine sh ?_
     refine cS (fun h3=> ?_) (fun h3=> ?_)
     ·obtain⟨x,hx⟩:∃u_,n[k]? =some u_:=⟨_,List.getElem?_eq_getElem (by first|omega|(simp<;>omega))⟩
      refine sh ?_
      refine aa hx ?_
      have mR:=hx
      have hx:=hn x (List.mem_of_getElem? mR)
      refine sh ?_
      refine ae.pure h.JR.ZB.hb (B' h.JR w h2) rfl ?_
      refine sh ?_
      refine cS (fun h5=> ?_) (fun h5=> ?_)
      ·rw[z6 (by omega) (by omega) (List.mem_of_getElem? mR) (by omega)]at hq
       subst hq
       refine sh ?_
       exact rM [50]
      ·have hnb:¬256 ^ w.toNat<=x:=by omega
       refine sh ?_
       refine aa mR ?_
       refine sh ?_
       refine eH 100 (fun i:Nat=>(i:Int)<=w) (fun i=>⟨[(1,.int .i64 w),(2,.aD 1 (bp .u64 n)),(8,.aV 0 (b++(n.take k).flatMap (enc w.toNat)++enc i x).length),(9,.int .i64 k),(10,.int .u64 (x / 256 ^ i)),(11,.int .i64 i)],[(0,.arr (R.ty 4) 1 (aT (b++(n.take k).flatMap (enc w.toNat)++enc i x)))],1⟩) (fun i=>w.toNat - i) (0) ?_ ?_
       ·show (0:Int)<=w
        omega
       ·intro i hi
        dsimp only
        refine sh ?_
        refine cS (fun h6=> ?_) (fun h6=> ?_)
        ·refine sh ?_
         refine bC ?_
         refine sh ?_
         refine⟨by rw[gj]; exact tT hl h2 h1 h3 h6,?_⟩
         have hxi:0<=x / 256 ^ i:=Int.ediv_nonneg hx.1 (by have:=xU i; omega)
         have hxl:x / 256 ^ i<=x:=Int.ediv_le_self _ hx.1
         refine sh ?_
         rw[Int.tdiv_eq_ediv_of_nonneg hxi]
         refine xI (by simp only[aR]; omega) ?_
         refine sh ?_
         refine nX (i+1) ?_ ?_ ⟨_,hp,rfl⟩ ?_ ?_
         ·omega
         ·omega
         ·refine bj ?_
          rw[Int.pow_succ,Int.ediv_ediv_of_nonneg (by have:=xU i; omega)]
         ·refine bj ?_
          simp[tU,LS hxi]
        ·refine sh ?_
         refine nX (k+1) ?_ ?_ ⟨_,hp,rfl⟩ ?_ ?_
         ·refine⟨by omega,?_⟩
          rw[fL mR,hk.2,decide_eq_false hnb]; rfl
         ·omega
         ·refine bj ?_
          rw[ao mR,show i=w.toNat by omega]; simp
         ·refine bj ?_
          rw[ao mR,show i=w.toNat by omega]; simp
     ·have hkn:n.take k=n:=List.take_of_length_le (by omega)
      rw[hkn]at hk ⊢
      rw[pH (by omega) (by omega) hk.2]at hq
      subst hq
      refine sh ?_
      exact rM [0]
theorem Mi{w:Int}(h1:1<=w)(h2:w<=8):(256 ^ w.toNat - 1:Int) / 2=256 ^ w.toNat / 2 - 1:=by
 obtain h|h|h|h|h|h|h|h:w=1\/ w=2\/ w=3\/ w=4\/ w=5\/ w=6\/ w=7\/ w=8:=by omega
 all_goals (subst h; decide)
theorem Mj{w:Int}(h1:1<=w)(h2:w<=8):(256 ^ w.toNat:Int) / 2<=9223372036854775808/\(128:Int)<=256 ^ w.toNat / 2/\(256 ^ w.toNat:Int)=2* (256 ^ w.toNat / 2):=by
 obtain h|h|h|h|h|h|h|h:w=1\/ w=2\/ w=3\/ w=4\/ w=5\/ w=6\/ w=7\/ w=8:=by omega
 all_goals (subst h; decide)
theorem wF{R:Env}(h:W4 R)(b:List UInt8)(w:Int)(n:List Int)(hl:b.length+8*n.length<=1073741824)(hn:∀x ∈ n,aR .i64 x):
  R.Mc 72 [.aD 1 (aT b),.int .i64 w,.aD 1 (bp .i64 n)] [] (.aQ [.aV 0 (gX b w n).1.length,.int .i64 (gX b w n).2]) [(0,.arr (R.ty 4) 1 (aT (gX b w n).1))] 1:=
 h.o72.aY 100 0 rfl rfl rfl fun X bb hfit hp=>by
  generalize hq:gX b w n=q
  refine sh ?_
  refine cS (fun h1=> ?_) (fun h1=> ?_)
  ·rw[gX,if_pos (.inl h1)]at hq
   subst hq
   refine sh ?_
   exact rM [50]
  ·refine sh ?_
   refine cS (fun h2=> ?_) (fun h2=> ?_)
   ·rw[gX,if_pos (.inr h2)]at hq
    subst hq
    refine sh ?_
    exact rM [50]
   ·refine sh ?_
    refine ae.pure h.JR.ZB.hb (B' h.JR w h2) rfl ?_
    have hh:=Mj h1 h2
    refine sh ?_
    rw[Int.tdiv_eq_ediv_of_nonneg (by omega),Mi h1 h2]
    refine xI (by simp only[aR]; omega) ?_
    refine sh ?_
    refine eH 100 (fun k:Nat=>k<=n.length/\(n.take k).any (fun x=>decide (x< -(256 ^ w.toNat / 2))||decide (256 ^ w.toNat / 2<=x))=false) (fun k=>⟨[(0,.aD 1 (aT b)),(1,.int .i64 w),(2,.aD 1 (bp .i64 n)),(8,.int .i64 (256 ^ w.toNat / 2 - 1)),(9,.aV 0 ((n.take k).map fun x=>x % 256 ^ w.toNat).length),(10,.int .i64 k)],[(0,.arr (R.ty 6) 1 (bp .u64 ((n.take k).map fun x=>x % 256 ^ w.toNat)))],1⟩) (fun k=>n.length - k) (0) ?_ ?_
    ·exact⟨Nat.zero_le _,by simp⟩
    ·intro k hk
     dsimp only
     refine sh ?_
     refine cS (fun h3=> ?_) (fun h3=> ?_)
     ·obtain⟨x,hx⟩:∃u_,n[k]? =some u_:=⟨_,List.getElem?_eq_getElem (by first|omega|(simp<;>omega))⟩
      refine sh ?_
      refine aa hx ?_
      have mR:=hx
      have hx:=hn x (List.mem_of_getElem? mR)
      simp only[aR]at hx
      refine sh ?_
      refine cS (fun h4=> ?_) (fun h4=> ?_)
      ·rw[qm (by omega) (by omega) (List.mem_of_getElem? mR) (by omega)]at hq
       subst hq
       refine sh ?_
       exact rM [50]
      ·refine sh ?_
       refine aa mR ?_
       refine sh ?_
       refine cS (fun h5=> ?_) (fun h5=> ?_)
       ·rw[qm (by omega) (by omega) (List.mem_of_getElem? mR) (by omega)]at hq
        subst hq
        refine sh ?_
        exact rM [50]
       ·have hok:(n.take (k+1)).any (fun x=>decide (x< -(256 ^ w.toNat / 2))||decide (256 ^ w.toNat / 2<=x))=false:=by
         rw[fL mR,hk.2]
         simp only[Bool.false_or,Bool.or_eq_false_iff,decide_eq_false_iff_not]
         omega
        refine sh ?_
        refine aa mR ?_
        refine sh ?_
        refine bC ?_
        refine sh ?_
        refine aa mR ?_
        refine sh ?_
        refine cS (fun h6=> ?_) (fun h6=> ?_)
        ·refine sh ?_
         refine ae.pure h.JR.ZB.hb (B' h.JR w h2) rfl ?_
         refine sh ?_
         refine aa mR ?_
         have hv:x % 256 ^ w.toNat=256 ^ w.toNat - 1 - (0 - (x+1)):=by
          rw[<-Int.add_emod_right,Int.emod_eq_of_lt (by omega) (by omega)]
          omega
         refine sh ?_
         refine nX (k+1) ?_ ?_ ⟨_,hp,rfl⟩ ?_ ?_
         ·exact⟨by omega,hok⟩
         ·omega
         ·refine bj ?_
          rw[ao mR]; simp
         ·refine bj ?_
          rw[ao mR]; simp[bp,hv]
        ·have hv:x % 256 ^ w.toNat=wr .u64 x:=by
          rw[Int.emod_eq_of_lt (by omega) (by omega),C6 (k:= .u64) ⟨by omega,by omega⟩]
         refine sh ?_
         refine nX (k+1) ?_ ?_ ⟨_,hp,rfl⟩ ?_ ?_
         ·exact⟨by omega,hok⟩
         ·omega
         ·refine bj ?_
          rw[ao mR]; simp
         ·refine bj ?_
          rw[ao mR]; simp[bp,hv]
     ·have hkn:n.take k=n:=List.take_of_length_le (by omega)
      rw[hkn]at hk ⊢
      rw[pI (by omega) (by omega) hk.2]at hq
      subst hq
      refine sh ?_
      refine cM true [] (Iy h.NJ b w (n.map fun x=>x % 256 ^ w.toNat) (by simpa using hl) (z7 (b:=b) (by omega) h2)) ?_
      repeat (intro _; first|refine eK ?_|refine eP ?_)
      refine sh ?_
      exact rM [1]
structure tW(B:List UInt8)(r:Rd):Prop where
 m:B.length<=1073741824
 s:r.l=B.drop (B.length - r.l.length)
 made:r.made=true
theorem tW.len{B:List UInt8}{r:Rd}(h:tW B r):r.l.length<=B.length:=by rw[h.s]; simp
theorem tW.take{B:List UInt8}{r:Rd}(h:tW B r)(n:Int):tW B (r.take n).2:=by
 unfold Rd.take
 split
 ·exact h
 ·split
  ·exact⟨h.m,h.s,h.made⟩
  ·split
   ·exact⟨h.m,h.s,h.made⟩
   ·refine⟨h.m,?_,h.made⟩
    have h1:=h.s
    have h2:=h.len
    simp only[List.length_drop]
    conv=>lhs; rw[h1]
    rw[List.drop_drop]
    congr 1
    omega
theorem tW.num{B:List UInt8}{r:Rd}(h:tW B r)(w:Int):tW B (r.num w).2:=h.take _
theorem tW.int{B:List UInt8}{r:Rd}(h:tW B r)(w:Int):tW B (r.int w).2:=h.num w
end Go.UM
namespace Go.UM
open Go.AM
set_option maxRecDepth 4000
theorem rX{b:List UInt8}{w:Int}{n:List Int}(h1:1<=w)(h2:w<=8)(h:∀x ∈ n,0<=x/\x<256 ^ w.toNat):kN b w n=(b++n.flatMap (enc w.toNat),0):=
 pH h1 h2 (by
  rw[List.any_eq_false]
  intro x hx
  have:=h x hx
  simp; omega)
end Go.UM
namespace Go.UM
open Go.AM
set_option maxRecDepth 4000
theorem RF(b:List T3)(m:Int):(bW b).take (min (b.length:Int) m).toNat=bW (b.take m.toNat):=by rw[Fh,zU]
theorem acf(b:List (Int × Int))(m:Int):(dH b).take (min (b.length:Int) m).toNat=dH (b.take m.toNat):=by rw[Ft,zU]
structure Ms.ZG(m:Ms):Prop where
 v:1<=m.v.length/\m.v.length<=64
 t:1<=m.t.length/\m.t.length<=64
 uv:m.uv.length=m.v.length
 pv:∀p ∈ m.v,-4096<=p.a/\p.a<=4096/\ -4096<=p.b/\p.b<=4096/\ -4096<=p.c/\p.c<=4096
 pu:∀x ∈ m.uv,0<=x.1/\x.1<=65535/\0<=x.2/\x.2<=65535
 pt:∀t ∈ m.t,0<=t.a/\t.a<m.v.length/\0<=t.b/\t.b<m.v.length/\0<=t.c/\t.c<m.v.length/\t.a≠t.b/\t.b≠t.c/\t.c≠t.a
theorem iD{m:Ms}(h:lW m=0):m.ZG:=by
 unfold lW at h
 split at h
 ·cases h
 ·split at h
  ·cases h
  ·split at h
   ·cases h
   ·split at h
    ·cases h
    ·rename_i h1 h2 h3 h4
     simp only[not_or,Bool.not_eq_true,List.any_eq_false]at h3 h4
     refine⟨by omega,by omega,by omega,fun p hp=> ?_,fun p hp=> ?_,fun p hp=> ?_⟩
     ·have:=h3 p hp; simpa[lV]using this
     ·have:=h4.1 p hp; simpa[tR]using this
     ·have:=h4.2 p hp; simpa[nu]using this
def Ms.lB(m:Ms):Ms:=⟨m.v.take 70,m.uv.take 70,m.t.take 70⟩
theorem Mk{R:Env}(h:Qv R)(m:Ms):R.Pc 191 [.agg m.row] (.agg m.lB.row):=
 h.Ww.enter 100 rfl fun X bb hfit hp=>by
  refine sh ?_
  refine jZ (by exact RF _ _) ?_
  refine sh ?_
  refine jZ (by exact acf _ _) ?_
  refine sh ?_
  refine jZ (by exact RF _ _) ?_
  refine sh ?_
  exact rT
def fM(p:T3):List UInt8:=enc 2 (p.a % 65536)++enc 2 (p.b % 65536)++enc 2 (p.c % 65536)
def jD(x:Int × Int):List UInt8:=enc 2 x.1++enc 2 x.2
def lX(t:T3):List UInt8:=[u8 t.a,u8 t.b,u8 t.c]
def Ca(m:Ms):List UInt8:=[u8 m.v.length,u8 m.t.length]++m.v.flatMap fM++m.uv.flatMap jD++m.t.flatMap lX
def tX(m:Ms):List UInt8 × Int:=if lW m≠0 then ([],lW m)else (Ca m,0)
theorem cD{α:Type}{l:List α}{k:Nat}{x:α}{f:α->List UInt8}(h:l[k]? =some x):(l.take (k+1)).flatMap f=(l.take k).flatMap f++f x:=by
 rw[ao h]; simp
theorem tY{b:List UInt8}{p:T3}(h: -4096<=p.a/\p.a<=4096/\ -4096<=p.b/\p.b<=4096/\ -4096<=p.c/\p.c<=4096):gX b 2 [p.a,p.b,p.c]=(b++fM p,0):=by
 rw[pI (by decide) (by decide),pH (by decide) (by decide)]
 ·simp[fM]
 ·simp; omega
 ·simp; omega
theorem Mn{b:List UInt8}{x:Int × Int}(h:0<=x.1/\x.1<=65535/\0<=x.2/\x.2<=65535):kN b 2 [x.1,x.2]=(b++jD x,0):=by
 rw[pH (by decide) (by decide)]
 ·simp[jD]
 ·simp; omega
theorem z8{l:List T3}:(l.flatMap fM).length=6*l.length:=by
 induction l with
 |nil=>rfl
 |cons x r ih=>simp[fM]at ih ⊢; omega
theorem Dh{l:List (Int × Int)}:(l.flatMap jD).length=4*l.length:=by
 induction l with
 |nil=>rfl
 |cons x r ih=>simp[jD]at ih ⊢; omega
theorem NR{l:List T3}:(l.flatMap lX).length=3*l.length:=by
 induction l with
 |nil=>rfl
 |cons x r ih=>simp[lX]at ih ⊢; omega
theorem Fx{R:Env}(h:PN R)(m:Ms):R.Pc 196 [.agg m.row] (.aQ [.aD 1 (aT (tX m).1),.int .i64 (tX m).2]):=
 h.VG.enter 100 rfl fun X bb hfit hp=>by
  refine sh ?_
  refine ae.pure h.n193.PM.hb (zZ h.n193 m) rfl ?_
  generalize hq:tX m=q
  refine sh ?_
  refine cS (fun h1=> ?_) (fun h1=> ?_)
  ·rw[tX,if_pos h1]at hq
   subst hq
   refine sh ?_
   exact rT
  ·rw[tX,if_neg (by simpa using h1)]at hq
   subst hq
   have may:=iD h1
   have mv:=may.v
   have mt:=may.t
   have mu:=may.uv
   have w8:((u8 m.v.length).toNat:Int)=m.v.length:=u8_in (by omega)
   have t8:((u8 m.t.length).toNat:Int)=m.t.length:=u8_in (by omega)
   refine sh ?_
   refine aj.inv 100 (fun i:Nat=>i<=m.v.length) (fun i=>⟨[(1,.loc 0 1 0 0),(5,.aV 1 ([u8 m.v.length,u8 m.t.length]++(m.v.take i).flatMap fM).length),(27,.aD 3 (bW m.v)),(28,.int .i64 m.v.length),(29,.int .i64 i)],[(1,.arr (R.ty 4) 1 (aT ([u8 m.v.length,u8 m.t.length]++(m.v.take i).flatMap fM))),(0,.var (R.ty 25) m.row)],2⟩) (fun i=>m.v.length - i) (0) ?_ ⟨⟨_,hp,rfl⟩,?_,?_⟩ ?_
   ·exact Nat.zero_le _
   ·exact fu
   ·refine bj ?_
    simp[aT,w8,t8]
   ·intro i hi
    dsimp only
    refine sh ?_
    refine cS (fun h2=> ?_) (fun h2=> ?_)
    ·obtain⟨y,hy⟩:∃u_,m.v[i]? =some u_:=⟨_,List.getElem?_eq_getElem (by first|omega|(simp<;>omega))⟩
     refine sh ?_
     refine aa hy ?_
     have JX:=may.pv y (List.mem_of_getElem? hy)
     have c1:=tV h.JQ ([u8 m.v.length,u8 m.t.length]++(m.v.take i).flatMap fM) 2 [y.a,y.b,y.c] (by simp only[List.length_append,z8,List.length_take,List.length_cons,List.length_nil]; omega) (by simp[aR]; omega)
     rw[tY JX]at c1
     refine sh ?_
     refine cM true [] (c1) ?_
     repeat (intro _; first|refine eK ?_|refine eP ?_)
     refine sh ?_
     refine uP [0,4] (i+1) ?_ ?_ ?_
     ·omega
     ·omega
     ·refine iH ?_ ?_
      rw[cD hy]; simp
      rw[cD hy]; simp
    ·rw[show m.v.take i=m.v from List.take_of_length_le (by omega)]
     have hB:([u8 m.v.length,u8 m.t.length]++m.v.flatMap fM).length<=400:=by
      simp only[List.length_append,z8,List.length_cons,List.length_nil]; omega
     have e:Ca m=[u8 m.v.length,u8 m.t.length]++m.v.flatMap fM++m.uv.flatMap jD++m.t.flatMap lX:=rfl
     rw[e]
     generalize [u8 m.v.length,u8 m.t.length]++m.v.flatMap fM=B at hB ⊢
     refine sh ?_
     refine eH 100 (fun i:Nat=>i<=m.uv.length) (fun i=>⟨[(1,.loc 0 1 0 0),(5,.aV 1 (B++(m.uv.take i).flatMap jD).length),(47,.aD 2 (dH m.uv)),(48,.int .i64 m.uv.length),(49,.int .i64 i)],[(1,.arr (R.ty 4) 1 (aT (B++(m.uv.take i).flatMap jD))),(0,.var (R.ty 25) m.row)],2⟩) (fun i=>m.uv.length - i) (0) ?_ ?_
     ·exact Nat.zero_le _
     ·intro i hi
      dsimp only
      refine sh ?_
      refine cS (fun h3=> ?_) (fun h3=> ?_)
      ·obtain⟨x,hx⟩:∃u_,m.uv[i]? =some u_:=⟨_,List.getElem?_eq_getElem (by first|omega|(simp<;>omega))⟩
       refine sh ?_
       refine aa hx ?_
       have ct:=may.pu x (List.mem_of_getElem? hx)
       have c1:=Dg h.JP (B++(m.uv.take i).flatMap jD) 2 [x.1,x.2] (by simp only[List.length_append,Dh,List.length_take,List.length_cons,List.length_nil]; omega) (by simp; omega)
       rw[Mn ct]at c1
       refine sh ?_
       refine cM true [] (c1) ?_
       repeat (intro _; first|refine eK ?_|refine eP ?_)
       refine sh ?_
       refine uP [0,4] (i+1) ?_ ?_ ?_
       ·omega
       ·omega
       ·refine iH ?_ ?_
        rw[cD hx]; simp
        rw[cD hx]; simp
      ·rw[show m.uv.take i=m.uv from List.take_of_length_le (by omega)]
       have hB2:(B++m.uv.flatMap jD).length<=800:=by
        simp only[List.length_append,Dh]; omega
       generalize B++m.uv.flatMap jD=C at hB2 ⊢
       refine sh ?_
       refine eH 100 (fun i:Nat=>i<=m.t.length) (fun i=>⟨[(5,.aV 1 (C++(m.t.take i).flatMap lX).length),(67,.aD 3 (bW m.t)),(68,.int .i64 m.t.length),(69,.int .i64 i)],[(1,.arr (R.ty 4) 1 (aT (C++(m.t.take i).flatMap lX)))],2⟩) (fun i=>m.t.length - i) (0) ?_ ?_
       ·exact Nat.zero_le _
       ·intro i hi
        dsimp only
        refine sh ?_
        refine cS (fun h4=> ?_) (fun h4=> ?_)
        ·obtain⟨y,hy⟩:∃u_,m.t[i]? =some u_:=⟨_,List.getElem?_eq_getElem (by first|omega|(simp<;>omega))⟩
         refine sh ?_
         refine aa hy ?_
         have JX:=may.pt y (List.mem_of_getElem? hy)
         refine sh ?_
         refine nD ?_ (by simp only[gj,List.length_append,NR,List.length_take]; simp; omega)
         refine sh ?_
         refine nX (i+1) ?_ ?_ ⟨_,hp,rfl⟩ ?_ ?_
         ·omega
         ·omega
         ·refine bj ?_
          rw[cD hy]; simp[lX]
         ·refine bj ?_
          rw[cD hy]; simp[lX,aT]
          refine⟨(u8_in ?_).symm,(u8_in ?_).symm,(u8_in ?_).symm⟩<;>omega
        ·rw[show m.t.take i=m.t from List.take_of_length_le (by omega)]
         refine sh ?_
         exact rT
end Go.UM
namespace Go.UM
open Go.AM
set_option maxRecDepth 4000
theorem xV{R:Env}(h:Lz R)(p:T3):R.Pc 213 [.agg (t3 p),.int .i64 4096] (.bool (lV p)):=
 h.H3.enter 60 rfl fun X bb hfit hp=>by
  unfold lV
  refine sh ?_
  refine cS (fun h1=> ?_) (fun h1=> ?_)
  ·refine sh ?_
   refine rT ?_
   refine bj ?_
   simp; omega
  ·refine sh ?_
   refine cS (fun h2=> ?_) (fun h2=> ?_)
   ·refine sh ?_
    refine rT ?_
    refine bj ?_
    simp; omega
   ·refine sh ?_
    refine cS (fun h3=> ?_) (fun h3=> ?_)
    ·refine sh ?_
     refine rT ?_
     refine bj ?_
     simp; omega
    ·refine sh ?_
     refine cS (fun h4=> ?_) (fun h4=> ?_)
     ·refine sh ?_
      refine rT ?_
      refine bj ?_
      simp; omega
     ·refine sh ?_
      refine cS (fun h5=> ?_) (fun h5=> ?_)
      ·refine sh ?_
       refine rT ?_
       refine bj ?_
       simp; omega
      ·refine sh ?_
       refine rT ?_
       refine bj ?_
       rw[Bool.eq_iff_iff]; simp only[decide_eq_true_eq,Bool.not_eq_true',decide_eq_false_iff_not]; omega
theorem tZ{R:Env}(h:LA R)(m:Ms):R.Pc 198 [.agg m.row] (.int .i64 (lW m)):=
 h.QK.enter 100 rfl fun X bb hfit hp=>by
  generalize hq:lW m=q
  refine sh ?_
  refine cS (fun h1=> ?_) (fun h1=> ?_)
  ·rw[lW,if_pos (.inl (by omega))]at hq
   subst hq
   refine sh ?_
   exact rT
  ·refine sh ?_
   refine cS (fun h2=> ?_) (fun h2=> ?_)
   ·rw[lW,if_pos (.inr (by omega))]at hq
    subst hq
    refine sh ?_
    exact rT
   ·have g1:¬ (64<m.v.length\/ 64<m.t.length):=by omega
    refine sh ?_
    refine cS (fun h3=> ?_) (fun h3=> ?_)
    ·rw[lW,if_neg g1,if_pos (.inl (by omega))]at hq
     subst hq
     refine sh ?_
     exact rT
    ·refine sh ?_
     refine cS (fun h4=> ?_) (fun h4=> ?_)
     ·rw[lW,if_neg g1,if_pos (.inr (.inl (by omega)))]at hq
      subst hq
      refine sh ?_
      exact rT
     ·refine sh ?_
      refine cS (fun h5=> ?_) (fun h5=> ?_)
      ·rw[lW,if_neg g1,if_pos (.inr (.inr (by omega)))]at hq
       subst hq
       refine sh ?_
       exact rT
      ·rw[lW,if_neg g1,if_neg (by omega)]at hq
       refine sh ?_
       refine eH 100 (fun k:Nat=>k<=m.v.length/\(m.v.take k).any lV=false) (fun k=>⟨[(1,.loc 0 1 0 0),(3,.int .i64 k)],[(0,.var (R.ty 25) m.row)],1⟩) (fun k=>m.v.length - k) (0) ?_ ?_
       ·exact⟨Nat.zero_le _,by simp⟩
       ·intro k hk
        dsimp only
        refine sh ?_
        refine cS (fun h6=> ?_) (fun h6=> ?_)
        ·obtain⟨x,hx⟩:∃u_,m.v[k]? =some u_:=⟨_,List.getElem?_eq_getElem (by first|omega|(simp<;>omega))⟩
         refine sh ?_
         refine aa hx ?_
         refine sh ?_
         refine ae.pure h.n213.H3.hb (xV h.n213 x) rfl ?_
         refine sh ?_
         refine cS (fun h7=> ?_) (fun h7=> ?_)
         ·rw[if_pos (eB hx h7)]at hq
          subst hq
          refine sh ?_
          exact rT
         ·refine sh ?_
          refine lO (k+1) ?_ ?_
          ·refine⟨by omega,?_⟩
           rw[dt hx,hk.2,h7]; rfl
          ·omega
        ·have hv:=hk.2
         rw[List.take_of_length_le (by omega)]at hv
         rw[if_neg (by rw[hv]; decide)]at hq
         refine sh ?_
         refine eH 100 (fun k:Nat=>k<=m.uv.length/\(m.uv.take k).any tR=false) (fun k=>⟨[(1,.loc 0 1 0 0),(4,.int .i64 k)],[(0,.var (R.ty 25) m.row)],1⟩) (fun k=>m.uv.length - k) (0) ?_ ?_
         ·exact⟨Nat.zero_le _,by simp⟩
         ·intro k hk
          dsimp only
          refine sh ?_
          refine cS (fun h7=> ?_) (fun h7=> ?_)
          ·obtain⟨x,hx⟩:∃u,m.uv[k]? =some u:=⟨_,List.getElem?_eq_getElem (by omega)⟩
           refine sh ?_
           refine aj.one 100 ?_
           refine sh ?_
           refine af (by decide) ?_
           refine sh ?_
           refine aa hx ?_
           refine sh ?_
           refine cS (fun a1=> ?_) (fun a1=> ?_)
           ·rw[if_pos (.inl (eB hx (by simp[tR]; omega)))]at hq
            subst hq
            refine sh ?_
            exact rT
           ·refine sh ?_
            refine aa hx ?_
            refine sh ?_
            refine cS (fun a2=> ?_) (fun a2=> ?_)
            ·rw[if_pos (.inl (eB hx (by simp[tR]; omega)))]at hq
             subst hq
             refine sh ?_
             exact rT
            ·refine sh ?_
             refine aj.one 100 ?_
             refine sh ?_
             refine af (by decide) ?_
             refine sh ?_
             refine aa hx ?_
             refine sh ?_
             refine cS (fun a3=> ?_) (fun a3=> ?_)
             ·rw[if_pos (.inl (eB hx (by simp[tR]; omega)))]at hq
              subst hq
              refine sh ?_
              exact rT
             ·refine sh ?_
              refine aa hx ?_
              refine sh ?_
              refine cS (fun a4=> ?_) (fun a4=> ?_)
              ·rw[if_pos (.inl (eB hx (by simp[tR]; omega)))]at hq
               subst hq
               refine sh ?_
               exact rT
              ·refine sh ?_
               refine aj.one 100 ?_
               refine sh ?_
               refine ay (by decide) ?_
               refine sh ?_
               refine lO (k+1) ?_ ?_
               ·refine⟨by omega,?_⟩
                rw[dt hx,hk.2]
                simp[tR]; omega
               ·omega
          ·have hu:=hk.2
           rw[List.take_of_length_le (by omega)]at hu
           refine sh ?_
           refine eH 100 (fun k:Nat=>k<=m.t.length/\(m.t.take k).any (nu m.v.length)=false) (fun k=>⟨[(1,.loc 0 1 0 0),(6,.int .i64 k)],[(0,.var (R.ty 25) m.row)],1⟩) (fun k=>m.t.length - k) (0) ?_ ?_
           ·exact⟨Nat.zero_le _,by simp⟩
           ·intro k hk
            dsimp only
            refine sh ?_
            refine cS (fun h8=> ?_) (fun h8=> ?_)
            ·obtain⟨t,ht⟩:∃u,m.t[k]? =some u:=⟨_,List.getElem?_eq_getElem (by omega)⟩
             refine sh ?_
             refine aj.one 100 ?_
             refine sh ?_
             refine af (by decide) ?_
             refine sh ?_
             refine aa ht ?_
             refine sh ?_
             refine cS (fun a1=> ?_) (fun a1=> ?_)
             ·rw[if_pos (.inr (eB ht (by simp[nu]; omega)))]at hq
              subst hq
              refine sh ?_
              exact rT
             ·refine sh ?_
              refine aa ht ?_
              refine sh ?_
              refine cS (fun a2=> ?_) (fun a2=> ?_)
              ·rw[if_pos (.inr (eB ht (by simp[nu]; omega)))]at hq
               subst hq
               refine sh ?_
               exact rT
              ·refine sh ?_
               refine aa ht ?_
               refine sh ?_
               refine aa ht ?_
               refine sh ?_
               refine cS (fun a3=> ?_) (fun a3=> ?_)
               ·rw[if_pos (.inr (eB ht (by simp[nu]; omega)))]at hq
                subst hq
                refine sh ?_
                exact rT
               ·refine sh ?_
                refine aj.one 100 ?_
                refine sh ?_
                refine af (by decide) ?_
                refine sh ?_
                refine aa ht ?_
                refine sh ?_
                refine cS (fun a4=> ?_) (fun a4=> ?_)
                ·rw[if_pos (.inr (eB ht (by simp[nu]; omega)))]at hq
                 subst hq
                 refine sh ?_
                 exact rT
                ·refine sh ?_
                 refine aa ht ?_
                 refine sh ?_
                 refine cS (fun a5=> ?_) (fun a5=> ?_)
                 ·rw[if_pos (.inr (eB ht (by simp[nu]; omega)))]at hq
                  subst hq
                  refine sh ?_
                  exact rT
                 ·refine sh ?_
                  refine aa ht ?_
                  refine sh ?_
                  refine aa ht ?_
                  refine sh ?_
                  refine cS (fun a6=> ?_) (fun a6=> ?_)
                  ·rw[if_pos (.inr (eB ht (by simp[nu]; omega)))]at hq
                   subst hq
                   refine sh ?_
                   exact rT
                  ·refine sh ?_
                   refine aj.one 100 ?_
                   refine sh ?_
                   refine af (by decide) ?_
                   refine sh ?_
                   refine aa ht ?_
                   refine sh ?_
                   refine cS (fun a7=> ?_) (fun a7=> ?_)
                   ·rw[if_pos (.inr (eB ht (by simp[nu]; omega)))]at hq
                    subst hq
                    refine sh ?_
                    exact rT
                   ·refine sh ?_
                    refine aa ht ?_
                    refine sh ?_
                    refine cS (fun a8=> ?_) (fun a8=> ?_)
                    ·rw[if_pos (.inr (eB ht (by simp[nu]; omega)))]at hq
                     subst hq
                     refine sh ?_
                     exact rT
                    ·refine sh ?_
                     refine aa ht ?_
                     refine sh ?_
                     refine aa ht ?_
                     refine sh ?_
                     refine cS (fun a9=> ?_) (fun a9=> ?_)
                     ·rw[if_pos (.inr (eB ht (by simp[nu]; omega)))]at hq
                      subst hq
                      refine sh ?_
                      exact rT
                     ·refine sh ?_
                      refine aj.one 100 ?_
                      refine sh ?_
                      refine ay (by decide) ?_
                      refine sh ?_
                      refine lO (k+1) ?_ ?_
                      ·refine⟨by omega,?_⟩
                       rw[dt ht,hk.2]
                       simp[nu]; omega
                      ·omega
            ·have hw:=hk.2
             rw[List.take_of_length_le (by omega)]at hw
             rw[if_neg (by rw[hu,hw]; decide)]at hq
             subst hq
             refine sh ?_
             exact rT
theorem pJ{R:Env}(h:LB R)(b:List UInt8)(p:T3)(hl:b.length<=1000000)(ok: -4096<=p.a/\p.a<=4096/\ -4096<=p.b/\p.b<=4096/\ -4096<=p.c/\p.c<=4096):
  R.Mc 212 [.aD 1 (aT b),.agg (t3 p)] [] (.aV 0 (b++fM p).length) [(0,.arr (R.ty 4) 1 (aT (b++fM p)))] 1:=
 h.abY.aY 60 0 rfl rfl rfl fun X bb hfit hp=>by
  have c1:=wF h.QL b 2 [p.a,p.b,p.c] (by simp; omega) (by simp[aR]; omega)
  rw[tY ok]at c1
  refine sh ?_
  refine cM true [] (c1) ?_
  repeat (intro _; first|refine eK ?_|refine eP ?_)
  refine sh ?_
  exact rM [2]
theorem Cb{R:Env}(h:QM R)(m:Ms):R.Pc 197 [.agg m.row] (.aQ [.aD 1 (aT (tX m).1),.int .i64 (tX m).2]):=
 h.Xa.enter 100 rfl fun X bb hfit hp=>by
  refine sh ?_
  refine ae.pure h.n198.QK.hb (tZ h.n198 m) rfl ?_
  generalize hq:tX m=q
  refine sh ?_
  refine cS (fun h1=> ?_) (fun h1=> ?_)
  ·rw[tX,if_pos h1]at hq
   subst hq
   refine sh ?_
   exact rT
  ·rw[tX,if_neg (by simpa using h1)]at hq
   subst hq
   have may:=iD h1
   have mv:=may.v
   have mt:=may.t
   have mu:=may.uv
   have w8:((u8 m.v.length).toNat:Int)=m.v.length:=u8_in (by omega)
   have t8:((u8 m.t.length).toNat:Int)=m.t.length:=u8_in (by omega)
   refine sh ?_
   refine aj.inv 100 (fun i:Nat=>i<=m.v.length) (fun i=>⟨[(1,.loc 0 1 0 0),(5,.aV 1 ([u8 m.v.length,u8 m.t.length]++(m.v.take i).flatMap fM).length),(6,.int .i64 i)],[(1,.arr (R.ty 4) 1 (aT ([u8 m.v.length,u8 m.t.length]++(m.v.take i).flatMap fM))),(0,.var (R.ty 25) m.row)],2⟩) (fun i=>m.v.length - i) (0) ?_ ⟨⟨_,hp,rfl⟩,?_,?_⟩ ?_
   ·exact Nat.zero_le _
   ·exact fu
   ·refine bj ?_
    simp[aT,w8,t8]
   ·intro i hi
    dsimp only
    refine sh ?_
    refine cS (fun h2=> ?_) (fun h2=> ?_)
    ·obtain⟨y,hy⟩:∃u_,m.v[i]? =some u_:=⟨_,List.getElem?_eq_getElem (by first|omega|(simp<;>omega))⟩
     refine sh ?_
     refine aa hy ?_
     have JX:=may.pv y (List.mem_of_getElem? hy)
     refine sh ?_
     refine cM true [] (pJ h.n212 ([u8 m.v.length,u8 m.t.length]++(m.v.take i).flatMap fM) y (by simp only[List.length_append,z8,List.length_take,List.length_cons,List.length_nil]; omega) JX) ?_
     repeat (intro _; first|refine eK ?_|refine eP ?_)
     refine sh ?_
     refine uP [0,2] (i+1) ?_ ?_ ?_
     ·omega
     ·omega
     ·refine iH ?_ ?_
      rw[cD hy]; simp
      rw[cD hy]; simp
    ·rw[show m.v.take i=m.v from List.take_of_length_le (by omega)]
     have hB:([u8 m.v.length,u8 m.t.length]++m.v.flatMap fM).length<=400:=by
      simp only[List.length_append,z8,List.length_cons,List.length_nil]; omega
     have e:Ca m=[u8 m.v.length,u8 m.t.length]++m.v.flatMap fM++m.uv.flatMap jD++m.t.flatMap lX:=rfl
     rw[e]
     generalize [u8 m.v.length,u8 m.t.length]++m.v.flatMap fM=B at hB ⊢
     refine sh ?_
     refine eH 100 (fun i:Nat=>i<=m.uv.length) (fun i=>⟨[(1,.loc 0 1 0 0),(5,.aV 1 (B++(m.uv.take i).flatMap jD).length),(7,.int .i64 i)],[(1,.arr (R.ty 4) 1 (aT (B++(m.uv.take i).flatMap jD))),(0,.var (R.ty 25) m.row)],2⟩) (fun i=>m.uv.length - i) (0) ?_ ?_
     ·exact Nat.zero_le _
     ·intro i hi
      dsimp only
      refine sh ?_
      refine cS (fun h3=> ?_) (fun h3=> ?_)
      ·obtain⟨x,hx⟩:∃u,m.uv[i]? =some u:=⟨_,List.getElem?_eq_getElem (by omega)⟩
       have ct:=may.pu x (List.mem_of_getElem? hx)
       have hC:(B++(m.uv.take i).flatMap jD).length<=800:=by
        simp only[List.length_append,Dh,List.length_take]; omega
       have hst:B++(m.uv.take (i+1)).flatMap jD=(B++(m.uv.take i).flatMap jD)++jD x:=by rw[cD hx]; simp
       generalize B++(m.uv.take i).flatMap jD=C at hC hst ⊢
       refine sh ?_
       refine aj.one 100 ?_
       refine sh ?_
       refine af (by decide) ?_
       refine sh ?_
       refine aa hx ?_
       refine sh ?_
       rw[Int.tmod_eq_emod_of_nonneg (by omega)]
       refine wI ?_
       refine sh ?_
       refine aa hx ?_
       refine sh ?_
       rw[Int.tdiv_eq_ediv_of_nonneg (by omega)]
       refine wI ?_
       refine sh ?_
       refine aj.one 100 ?_
       refine sh ?_
       refine af (by decide) ?_
       refine sh ?_
       refine aa hx ?_
       refine sh ?_
       rw[Int.tmod_eq_emod_of_nonneg (by omega)]
       refine wI ?_
       refine sh ?_
       refine aa hx ?_
       refine sh ?_
       rw[Int.tdiv_eq_ediv_of_nonneg (by omega)]
       refine wI ?_
       refine sh ?_
       refine aj.one 100 ?_
       refine sh ?_
       refine ay (by decide) ?_
       have f1:∀v:Int,0<=v/\v<=65535->enc 2 v=[u8 (v % 256),u8 (v / 256)]:=fun v hv=>by
        unfold enc
        simp[List.range_succ,BX]
       refine sh ?_
       refine nX (i+1) ?_ ?_ ⟨_,hp,rfl⟩ ?_ ?_
       ·omega
       ·omega
       ·refine bj ?_
        rw[hst]; simp[jD]
       ·refine bj ?_
        rw[hst]
        have g1:((u8 (x.1 % 256)).toNat:Int)=x.1 % 256:=u8_in (by omega)
        have g2:((u8 (x.1 / 256)).toNat:Int)=x.1 / 256:=u8_in (by omega)
        have g3:((u8 (x.2 % 256)).toNat:Int)=x.2 % 256:=u8_in (by omega)
        have g4:((u8 (x.2 / 256)).toNat:Int)=x.2 / 256:=u8_in (by omega)
        simp[jD,f1 x.1 (by omega),f1 x.2 (by omega),aT,g1,g2,g3,g4]
      ·rw[show m.uv.take i=m.uv from List.take_of_length_le (by omega)]
       have hB2:(B++m.uv.flatMap jD).length<=800:=by
        simp only[List.length_append,Dh]; omega
       generalize B++m.uv.flatMap jD=B2 at hB2 ⊢
       refine sh ?_
       refine eH 100 (fun i:Nat=>i<=m.t.length) (fun i=>⟨[(1,.loc 0 1 0 0),(5,.aV 1 (B2++(m.t.take i).flatMap lX).length),(9,.int .i64 i)],[(1,.arr (R.ty 4) 1 (aT (B2++(m.t.take i).flatMap lX))),(0,.var (R.ty 25) m.row)],2⟩) (fun i=>m.t.length - i) (0) ?_ ?_
       ·exact Nat.zero_le _
       ·intro i hi
        dsimp only
        refine sh ?_
        refine cS (fun h4=> ?_) (fun h4=> ?_)
        ·obtain⟨y,hy⟩:∃u,m.t[i]? =some u:=⟨_,List.getElem?_eq_getElem (by omega)⟩
         have JX:=may.pt y (List.mem_of_getElem? hy)
         have hC:(B2++(m.t.take i).flatMap lX).length<=1200:=by
          simp only[List.length_append,NR,List.length_take]; omega
         have hst:B2++(m.t.take (i+1)).flatMap lX=(B2++(m.t.take i).flatMap lX)++lX y:=by rw[cD hy]; simp
         generalize B2++(m.t.take i).flatMap lX=C at hC hst ⊢
         refine sh ?_
         refine aj.one 100 ?_
         refine sh ?_
         refine af (by decide) ?_
         refine sh ?_
         refine aa hy ?_
         refine sh ?_
         refine aj.one 100 ?_
         refine sh ?_
         refine af (by decide) ?_
         refine sh ?_
         refine aa hy ?_
         refine sh ?_
         refine aj.one 100 ?_
         refine sh ?_
         refine af (by decide) ?_
         refine sh ?_
         refine aa hy ?_
         refine sh ?_
         refine aj.one 100 ?_
         refine sh ?_
         refine ay (by decide) ?_
         refine sh ?_
         refine nX (i+1) ?_ ?_ ⟨_,hp,rfl⟩ ?_ ?_
         ·omega
         ·omega
         ·refine bj ?_
          rw[hst]; simp[lX]
         ·refine bj ?_
          rw[hst]
          have g1:((u8 y.a).toNat:Int)=y.a:=u8_in (by omega)
          have g2:((u8 y.b).toNat:Int)=y.b:=u8_in (by omega)
          have g3:((u8 y.c).toNat:Int)=y.c:=u8_in (by omega)
          simp[lX,aT,g1,g2,g3]
        ·rw[show m.t.take i=m.t from List.take_of_length_le (by omega)]
         refine sh ?_
         exact rT
end Go.UM
namespace Go.UM
open Go.AM
set_option maxRecDepth 4000
structure fk where
 k:Int
 c:T3
 r:Int
def fk.row(m:fk):List AV:=[.int .i64 m.k,.int .i64 m.c.a,.int .i64 m.c.b,.int .i64 m.c.c,.int .i64 m.r]
structure eV where
 k:Int
 c:T3
 p:T3
 u:T3
 v:T3
def eV.row(l:eV):List AV:=[.int .i64 l.k,.int .i64 l.c.a,.int .i64 l.c.b,.int .i64 l.c.c,.int .i64 l.p.a,.int .i64 l.p.b,.int .i64 l.p.c,.int .i64 l.u.a,.int .i64 l.u.b,.int .i64 l.u.c,.int .i64 l.v.a,.int .i64 l.v.b,.int .i64 l.v.c]
def outs(n x:Int):Bool:=decide (x<0\/ n<x)
def jL(m:fk):Int:=if m.k<0\/ 4<m.k\/ m.r<0\/ 65535<m.r\/ m.c.a<0\/ 65535<m.c.a\/ m.c.b<0\/ 65535<m.c.b\/ m.c.c<0\/ 65535<m.c.c then 5 else 0
def ud(R:Env)(n:Int):ah:=[(0,.var (R.ty 10) [.int .i64 n])]
theorem RG{R:Env}(h:PO R)(n x:Int):R.Mc 322 [.int .i64 x,.loc 0 1 0 0] (ud R n) (.bool (outs n x)) (ud R n) 1:=
 h.abE.aY 60 1 rfl rfl rfl fun X bb hfit hp=>by
  unfold outs
  refine sh ?_
  refine cS (fun h1=> ?_) (fun h1=> ?_)
  ·refine sh ?_
   refine rM [0] ?_
   refine bj ?_
   simp; omega
  ·refine sh ?_
   refine rM [0] ?_
   refine bj ?_
   rw[Bool.eq_iff_iff]; simp only[decide_eq_true_eq]; omega
theorem Iz{R:Env}(h:O9 R)(g:Nat)(l:List Int)(p:Int->Bool)(n:Int)(hc:∀x ∈ l,R.Mc g [.int .i64 x,.loc 0 1 0 0] (ud R n) (.bool (p x)) (ud R n) 1)(hl:l.length<=1073741824):
  R.Mc 324 [.aD 1 (bp .i64 l),R.cl g [.loc 0 1 0 0]] (ud R n) (.int .i64 (pF l p)) (ud R n) 1:=
 h.abt.aY 100 1 rfl rfl rfl fun X bb hfit hp=>by
  refine sh ?_
  refine eH 100 (fun i:Nat=>i<=l.length/\(l.take i).any p=false) (fun i=>⟨[(0,.aD 1 (bp .i64 l)),(1,R.cl g [.loc 0 1 0 0]),(7,.int .i64 l.length),(8,.int .i64 i)],ud R n,1⟩) (fun i=>l.length - i) (0) ?_ ?_
  ·exact⟨Nat.zero_le _,by simp⟩
  ·intro i hi
   dsimp only
   refine sh ?_
   refine cS (fun h1=> ?_) (fun h1=> ?_)
   ·obtain⟨x,hx⟩:∃u_,l[i]? =some u_:=⟨_,List.getElem?_eq_getElem (by first|omega|(simp<;>omega))⟩
    refine sh ?_
    refine aa hx ?_
    refine sh ?_
    refine cM false [0] (hc x (List.mem_of_getElem? hx)) ?_
    repeat (intro _; first|refine eK ?_|refine eP ?_)
    refine sh ?_
    refine cS (fun h2=> ?_) (fun h2=> ?_)
    ·refine sh ?_
     refine rM [0] ?_
     refine bj ?_
     unfold pF
     rw[if_pos (eB hx h2),pG hx h2 hi.2]
    ·refine sh ?_
     refine lO (i+1) ?_ ?_
     ·refine⟨by omega,?_⟩
      rw[dt hx,hi.2,h2]; rfl
     ·omega
   ·refine sh ?_
    refine rM [0] ?_
    refine bj ?_
    unfold pF
    have h3:=hi.2
    rw[List.take_of_length_le (by omega)]at h3
    rw[if_neg (by simp[h3])]
theorem Fy{R:Env}(h:O' R)(g:Nat)(l:List Int)(p:Int->Bool)(n:Int)(hc:∀x ∈ l,R.Mc g [.int .i64 x,.loc 0 1 0 0] (ud R n) (.bool (p x)) (ud R n) 1)(hl:l.length<=1073741824):
  R.Mc 323 [.aD 1 (bp .i64 l),R.cl g [.loc 0 1 0 0]] (ud R n) (.bool (l.any p)) (ud R n) 1:=
 h.abu.aY 100 1 rfl rfl rfl fun X bb hfit hp=>by
  refine sh ?_
  refine cM false [0] (Iz h.n324 g l p n hc hl) ?_
  repeat (intro _; first|refine eK ?_|refine eP ?_)
  refine sh ?_
  refine rM [0] ?_
  refine bj ?_
  exact rW
theorem mS{R:Env}(h:Lc R)(n:Int)(l:List Int)(hl:l.length<=1073741824):R.Pc 307 [.int .i64 n,.aD 1 (bp .i64 l)] (.bool (l.any (outs n))):=
 h.HZ.enter 100 rfl fun X bb hfit hp=>by
  refine sh ?_
  refine cM false [0] (Fy h.n323 322 l (outs n) n (fun x _=>RG h.n322 n x) hl) ?_
  repeat (intro _; first|refine eK ?_|refine eP ?_)
  refine sh ?_
  exact rT
theorem RH{R:Env}(h:PP R)(m:fk):R.Pc 290 [.agg m.row] (.int .i64 (jL m)):=
 h.VK.enter 100 rfl fun X bb hfit hp=>by
  generalize hq:jL m=q
  refine sh ?_
  refine cM true [] ((mS h.n307 4 [m.k] (by simp)).mc h.n307.HZ.hb) ?_
  repeat (intro _; first|refine eK ?_|refine eP ?_)
  refine sh ?_
  refine cS (fun h1=> ?_) (fun h1=> ?_)
  ·simp[outs]at h1
   rw[jL,if_pos (by omega)]at hq
   subst hq
   refine sh ?_
   exact rT
  ·refine sh ?_
   refine cM true [] ((mS h.n307 65535 [m.c.a,m.c.b,m.c.c,m.r] (by simp)).mc h.n307.HZ.hb) ?_
   repeat (intro _; first|refine eK ?_|refine eP ?_)
   refine sh ?_
   refine cS (fun h2=> ?_) (fun h2=> ?_)
   ·simp[outs]at h2
    rw[jL,if_pos (by omega)]at hq
    subst hq
    refine sh ?_
    exact rT
   ·simp[outs]at h1 h2
    rw[jL,if_neg (by omega)]at hq
    subst hq
    refine sh ?_
    exact rT
def RI(p:T3):Bool:=p.a==0&&(p.b==0&&p.c==0)
def kO(l:eV):Int:=if l.k<0\/ 2<l.k\/ l.c.a<0\/ 1048576<l.c.a\/ l.c.b<0\/ 1048576<l.c.b\/ l.c.c<0\/ 1048576<l.c.c then 5
 else if lV l.p=true\/ lV l.u=true\/ lV l.v=true then 8
 else if l.k=2/\RI l.p=false\/ l.k≠1/\(RI l.u=false\/ RI l.v=false)then 5 else 0
theorem ue{R:Env}(h:PQ R)(p:T3):R.Pc 308 [.agg (t3 p)] (.bool (lV p)):=
 h.Ld.enter 60 rfl fun X bb hfit hp=>by
  unfold lV
  refine sh ?_
  refine cS (fun h1=> ?_) (fun h1=> ?_)
  ·refine sh ?_
   refine rT ?_
   refine bj ?_
   simp; omega
  ·refine sh ?_
   refine rT ?_
   refine bj ?_
   rw[Bool.eq_iff_iff]; simp only[Bool.not_eq_true',decide_eq_true_eq,decide_eq_false_iff_not]; omega
theorem RJ{R:Env}(h:PR R)(l:eV):R.Pc 292 [.agg l.row] (.int .i64 (kO l)):=
 h.VN.enter 100 rfl fun X bb hfit hp=>by
  generalize hq:kO l=q
  refine sh ?_
  refine ae.let [0] rfl hp rfl ?_
  repeat ((intro _u; clear _u); first|refine eZ ?_|refine eZ ?_ (by simp; omega)|refine HF.drop ?_)
  refine sh ?_
  refine cM true [] ((mS h.n307 2 [l.k] (by simp)).mc h.n307.HZ.hb) ?_
  repeat (intro _; first|refine eK ?_|refine eP ?_)
  refine sh ?_
  refine cS (fun h1=> ?_) (fun h1=> ?_)
  ·simp[outs]at h1
   rw[kO,if_pos (by omega)]at hq
   subst hq
   refine sh ?_
   exact rT
  ·refine sh ?_
   refine ae.pure h.n307.HZ.hb (mS h.n307 1048576 [l.c.a,l.c.b,l.c.c] (by simp)) rfl ?_
   refine sh ?_
   refine cS (fun h2=> ?_) (fun h2=> ?_)
   ·simp[outs]at h2
    rw[kO,if_pos (by omega)]at hq
    subst hq
    refine sh ?_
    exact rT
   ·simp[outs]at h1 h2
    rw[kO,if_neg (by omega)]at hq
    refine sh ?_
    refine ae.pure h.n308.Ld.hb (ue h.n308 l.p) rfl ?_
    refine sh ?_
    refine cS (fun h3=> ?_) (fun h3=> ?_)
    ·rw[if_pos (.inl h3)]at hq
     subst hq
     refine sh ?_
     exact rT
    ·refine sh ?_
     refine ae.pure h.n308.Ld.hb (ue h.n308 l.u) rfl ?_
     refine sh ?_
     refine cS (fun h4=> ?_) (fun h4=> ?_)
     ·rw[if_pos (.inr (.inl h4))]at hq
      subst hq
      refine sh ?_
      exact rT
     ·refine sh ?_
      refine ae.pure h.n308.Ld.hb (ue h.n308 l.v) rfl ?_
      refine sh ?_
      refine cS (fun h5=> ?_) (fun h5=> ?_)
      ·rw[if_pos (.inr (.inr h5))]at hq
       subst hq
       refine sh ?_
       exact rT
      ·rw[if_neg (by simp[h3,h4,h5])]at hq
       refine sh ?_
       refine cS (fun h6=> ?_) (fun h6=> ?_)
       ·refine sh ?_
        refine cS (fun h7=> ?_) (fun h7=> ?_)
        ·rw[if_pos (.inl ⟨h6,h7⟩)]at hq
         subst hq
         refine sh ?_
         exact rT
        ·refine sh ?_
         refine cS (fun h8=> ?_) (fun h8=> ?_)
         ·rw[if_pos (.inr ⟨by omega,.inl h8⟩)]at hq
          subst hq
          refine sh ?_
          exact rT
         ·refine sh ?_
          refine cS (fun h9=> ?_) (fun h9=> ?_)
          ·rw[if_pos (.inr ⟨by omega,.inr h9⟩)]at hq
           subst hq
           refine sh ?_
           exact rT
          ·rw[if_neg (by simp[RI,h7,h8,h9])]at hq
           subst hq
           refine sh ?_
           exact rT
       ·refine sh ?_
        refine cS (fun h7=> ?_) (fun h7=> ?_)
        ·refine sh ?_
         refine cS (fun h8=> ?_) (fun h8=> ?_)
         ·rw[if_pos (.inr ⟨by omega,.inl h8⟩)]at hq
          subst hq
          refine sh ?_
          exact rT
         ·refine sh ?_
          refine cS (fun h9=> ?_) (fun h9=> ?_)
          ·rw[if_pos (.inr ⟨by omega,.inr h9⟩)]at hq
           subst hq
           refine sh ?_
           exact rT
          ·rw[if_neg (by simp[RI,h6,h8,h9])]at hq
           subst hq
           refine sh ?_
           exact rT
        ·have h10:l.k=1:=by omega
         rw[if_neg (by simp[h10])]at hq
         subst hq
         refine sh ?_
         exact rT
theorem Mo{R:Env}(h:QN R)(m:fk):R.Pc 291 [.agg m.row] (.int .i64 (jL m)):=
 h.Xc.enter 100 rfl fun X bb hfit hp=>by
  generalize hq:jL m=q
  refine sh ?_
  refine cS (fun h1=> ?_) (fun h1=> ?_)
  ·rw[jL,if_pos (by omega)]at hq
   subst hq
   refine sh ?_
   exact rT
  ·refine sh ?_
   refine cS (fun h2=> ?_) (fun h2=> ?_)
   ·rw[jL,if_pos (by omega)]at hq
    subst hq
    refine sh ?_
    exact rT
   ·refine sh ?_
    refine cS (fun h3=> ?_) (fun h3=> ?_)
    ·rw[jL,if_pos (by omega)]at hq
     subst hq
     refine sh ?_
     exact rT
    ·refine sh ?_
     refine cS (fun h4=> ?_) (fun h4=> ?_)
     ·rw[jL,if_pos (by omega)]at hq
      subst hq
      refine sh ?_
      exact rT
     ·refine sh ?_
      refine aj.one 100 ?_
      refine sh ?_
      refine af (by decide) ?_
      refine sh ?_
      refine cS (fun a1=> ?_) (fun a1=> ?_)
      ·rw[jL,if_pos (by omega)]at hq
       subst hq
       refine sh ?_
       exact rT
      ·refine sh ?_
       refine cS (fun a2=> ?_) (fun a2=> ?_)
       ·rw[jL,if_pos (by omega)]at hq
        subst hq
        refine sh ?_
        exact rT
       ·refine sh ?_
        refine aj.one 100 ?_
        refine sh ?_
        refine af (by decide) ?_
        refine sh ?_
        refine cS (fun b1=> ?_) (fun b1=> ?_)
        ·rw[jL,if_pos (by omega)]at hq
         subst hq
         refine sh ?_
         exact rT
        ·refine sh ?_
         refine cS (fun b2=> ?_) (fun b2=> ?_)
         ·rw[jL,if_pos (by omega)]at hq
          subst hq
          refine sh ?_
          exact rT
         ·refine sh ?_
          refine aj.one 100 ?_
          refine sh ?_
          refine af (by decide) ?_
          refine sh ?_
          refine cS (fun c1=> ?_) (fun c1=> ?_)
          ·rw[jL,if_pos (by omega)]at hq
           subst hq
           refine sh ?_
           exact rT
          ·refine sh ?_
           refine cS (fun c2=> ?_) (fun c2=> ?_)
           ·rw[jL,if_pos (by omega)]at hq
            subst hq
            refine sh ?_
            exact rT
           ·refine sh ?_
            refine aj.one 100 ?_
            refine sh ?_
            refine ay (by decide) ?_
            rw[jL,if_neg (by omega)]at hq
            subst hq
            refine sh ?_
            exact rT
theorem Mp{R:Env}(h:QO R)(l:eV):R.Pc 293 [.agg l.row] (.int .i64 (kO l)):=
 h.Xe.enter 100 rfl fun X bb hfit hp=>by
  generalize hq:kO l=q
  refine sh ?_
  refine cS (fun h1=> ?_) (fun h1=> ?_)
  ·rw[kO,if_pos (by omega)]at hq
   subst hq
   refine sh ?_
   exact rT
  ·refine sh ?_
   refine cS (fun h2=> ?_) (fun h2=> ?_)
   ·rw[kO,if_pos (by omega)]at hq
    subst hq
    refine sh ?_
    exact rT
   ·refine sh ?_
    refine aj.one 100 ?_
    refine sh ?_
    refine af (by decide) ?_
    refine sh ?_
    refine cS (fun a1=> ?_) (fun a1=> ?_)
    ·rw[kO,if_pos (by omega)]at hq
     subst hq
     refine sh ?_
     exact rT
    ·refine sh ?_
     refine cS (fun a2=> ?_) (fun a2=> ?_)
     ·rw[kO,if_pos (by omega)]at hq
      subst hq
      refine sh ?_
      exact rT
     ·refine sh ?_
      refine aj.one 100 ?_
      refine sh ?_
      refine af (by decide) ?_
      refine sh ?_
      refine cS (fun b1=> ?_) (fun b1=> ?_)
      ·rw[kO,if_pos (by omega)]at hq
       subst hq
       refine sh ?_
       exact rT
      ·refine sh ?_
       refine cS (fun b2=> ?_) (fun b2=> ?_)
       ·rw[kO,if_pos (by omega)]at hq
        subst hq
        refine sh ?_
        exact rT
       ·refine sh ?_
        refine aj.one 100 ?_
        refine sh ?_
        refine af (by decide) ?_
        refine sh ?_
        refine cS (fun c1=> ?_) (fun c1=> ?_)
        ·rw[kO,if_pos (by omega)]at hq
         subst hq
         refine sh ?_
         exact rT
        ·refine sh ?_
         refine cS (fun c2=> ?_) (fun c2=> ?_)
         ·rw[kO,if_pos (by omega)]at hq
          subst hq
          refine sh ?_
          exact rT
         ·refine sh ?_
          refine aj.one 100 ?_
          refine sh ?_
          refine ay (by decide) ?_
          rw[kO,if_neg (by omega)]at hq
          refine sh ?_
          refine ae.pure h.n213.H3.hb (xV h.n213 l.p) rfl ?_
          refine sh ?_
          refine cS (fun h3=> ?_) (fun h3=> ?_)
          ·rw[if_pos (.inl h3)]at hq
           subst hq
           refine sh ?_
           exact rT
          ·refine sh ?_
           refine ae.pure h.n213.H3.hb (xV h.n213 l.u) rfl ?_
           refine sh ?_
           refine cS (fun h4=> ?_) (fun h4=> ?_)
           ·rw[if_pos (.inr (.inl h4))]at hq
            subst hq
            refine sh ?_
            exact rT
           ·refine sh ?_
            refine ae.pure h.n213.H3.hb (xV h.n213 l.v) rfl ?_
            refine sh ?_
            refine cS (fun h5=> ?_) (fun h5=> ?_)
            ·rw[if_pos (.inr (.inr h5))]at hq
             subst hq
             refine sh ?_
             exact rT
            ·rw[if_neg (by simp[h3,h4,h5])]at hq
             refine sh ?_
             refine cS (fun h6=> ?_) (fun h6=> ?_)
             ·refine sh ?_
              refine cS (fun h7=> ?_) (fun h7=> ?_)
              ·rw[if_pos (.inl ⟨h6,h7⟩)]at hq
               subst hq
               refine sh ?_
               exact rT
              ·refine sh ?_
               refine af (by (simp[h6])) ?_
               refine sh ?_
               refine cS (fun h8=> ?_) (fun h8=> ?_)
               ·rw[if_pos (.inr ⟨by omega,.inl h8⟩)]at hq
                subst hq
                refine sh ?_
                exact rT
               ·refine sh ?_
                refine cS (fun h9=> ?_) (fun h9=> ?_)
                ·rw[if_pos (.inr ⟨by omega,.inr h9⟩)]at hq
                 subst hq
                 refine sh ?_
                 exact rT
                ·rw[if_neg (by simp[RI,h7,h8,h9])]at hq
                 subst hq
                 refine sh ?_
                 exact rT
             ·refine sh ?_
              refine cS (fun h7=> ?_) (fun h7=> ?_)
              refine sh ?_
              refine cS (fun h8=> ?_) (fun h8=> ?_)
              ·rw[if_pos (.inr ⟨by omega,.inl h8⟩)]at hq
               subst hq
               refine sh ?_
               exact rT
              ·refine sh ?_
               refine cS (fun h9=> ?_) (fun h9=> ?_)
               ·rw[if_pos (.inr ⟨by omega,.inr h9⟩)]at hq
                subst hq
                refine sh ?_
                exact rT
               ·rw[if_neg (by simp[RI,h6,h8,h9])]at hq
                subst hq
                refine sh ?_
                exact rT
              ·have h10:l.k=1:=by omega
               rw[if_neg (by simp[h10])]at hq
               subst hq
               refine sh ?_
               exact rT
end Go.UM
namespace Go.UM
open Go.AM
set_option maxRecDepth 4000
def idx(l:List Int)(x:Int):Int:=if x ∈ l then (l.idxOf x:Int)else -1
theorem Aa{x:Int}:∀{l:List Int}{i:Nat},l[i]? =some x->x ∉ l.take i->l.idxOf x=i
 |[],_,h,_=>by simp at h
 |a::r,0,h,_=>by simp at h; simp[h]
 |a::r,i+1,h,hn=>by
  simp only[List.take_succ_cons,List.mem_cons,not_or]at hn
  rw[List.idxOf_cons]
  have:(a==x)=false:=by simpa using fun e=>hn.1 e.symm
  rw[this,Aa (by simpa using h) hn.2]
  rfl
theorem Mq{R:Env}(h:OZ R)(l:List Int)(x:Int)(hl:l.length<=1073741824):R.Pc 106 [.aD 1 (bp .i64 l),.int .i64 x] (.int .i64 (idx l x)):=
 h.Ud.enter 100 rfl fun X bb hfit hp=>by
  refine sh ?_
  refine eH 100 (fun i:Nat=>i<=l.length/\x ∉ l.take i) (fun i=>⟨[(0,.aD 1 (bp .i64 l)),(1,.int .i64 x),(7,.int .i64 l.length),(8,.int .i64 i)],[],0⟩) (fun i=>l.length - i) (0) ?_ ?_
  ·exact⟨Nat.zero_le _,by simp⟩
  ·intro i hi
   dsimp only
   refine sh ?_
   refine cS (fun h1=> ?_) (fun h1=> ?_)
   ·obtain⟨y,hy⟩:∃u_,l[i]? =some u_:=⟨_,List.getElem?_eq_getElem (by first|omega|(simp<;>omega))⟩
    refine sh ?_
    refine aa hy ?_
    refine sh ?_
    refine cS (fun h2=> ?_) (fun h2=> ?_)
    ·subst h2
     refine sh ?_
     refine rT ?_
     refine bj ?_
     unfold idx
     rw[if_pos (List.mem_of_getElem? hy),Aa hy hi.2]
    ·refine sh ?_
     refine lO (i+1) ?_ ?_
     ·refine⟨by omega,?_⟩
      rw[ao hy]
      simp only[List.mem_append,List.mem_singleton,not_or]
      exact⟨hi.2,h2⟩
     ·omega
   ·refine sh ?_
    refine rT ?_
    refine bj ?_
    unfold idx
    rw[if_neg]
    rw[<-List.take_of_length_le (l:=l) (i:=i) (by omega)]
    exact hi.2
theorem Cc{R:Env}(h:O0 R)(l:List Int)(x:Int)(hl:l.length<=1073741824):R.Pc 100 [.aD 1 (bp .i64 l),.int .i64 x] (.bool (decide (x ∈ l))):=
 h.Uf.enter 100 rfl fun X bb hfit hp=>by
  refine sh ?_
  refine ae.pure h.n106.Ud.hb (Mq h.n106 l x hl) rfl ?_
  refine sh ?_
  refine rT ?_
  refine bj ?_
  unfold idx
  by_cases hx:x ∈ l
  ·rw[if_pos hx]; simp[hx]
  ·rw[if_neg hx]; simp[hx]
end Go.UM
namespace Go.UM
open Go.AM
set_option maxRecDepth 4000
structure dN where
 side:Int
 t:List T3
def dN.row(x:dN):List AV:=[.int .i64 x.side,.aD 3 (bW x.t)]
def T3.nv(x:T3):Bool:=decide (0<=x.a)&&decide (0<=x.b)&&decide (0<=x.c)&&decide (x.a<=255)&&decide (x.b<=255)&&decide (x.c<=255)
theorem T3.fN(x:T3):x.nv=true↔(0<=x.a/\x.a<=255)/\(0<=x.b/\x.b<=255)/\0<=x.c/\x.c<=255:=by
 simp only[T3.nv,Bool.and_eq_true,decide_eq_true_eq]
 omega
def kP:List Int:=[1,2,4,8,16]
def ik(x:dN):Int:=if x.side ∉ kP\/(x.t.length:Int)≠x.side*x.side then 5 else if x.t.all T3.nv=true then 0 else 5
theorem mT{x:dN}(h:x.side ∈ kP):x.side=1\/ x.side=2\/ x.side=4\/ x.side=8\/ x.side=16:=by
 simpa[kP]using h
theorem bg{x:dN}{y:T3}(hy:y ∈ x.t)(h:y.nv=false):ik x=5:=by
 unfold ik
 split
 ·rfl
 ·rw[if_neg]
  intro ha
  rw[List.all_eq_true.1 ha y hy]at h
  exact Bool.noConfusion h
theorem ek{α:Type}{n:List α}{k:Nat}{x:α}{p:α->Bool}(h:n[k]? =some x):(n.take (k+1)).all p=((n.take k).all p&&p x):=by
 rw[ao h]; simp
theorem IA{R:Env}(h:Zv R)(x:dN)(hl:x.t.length<=1073741824):R.Pc 84 [.agg x.row] (.int .i64 (ik x)):=
 h.o84.enter 100 rfl fun X bb hfit hp=>by
  refine sh ?_
  refine cM true [] ((Cc h.n100 kP x.side (by decide)).mc h.n100.Uf.hb) ?_
  repeat (intro _; first|refine eK ?_|refine eP ?_)
  generalize hq:ik x=q
  refine sh ?_
  refine cS (fun h1=> ?_) (fun h1=> ?_)
  ·rw[ik,if_pos (.inl h1)]at hq
   subst hq
   refine sh ?_
   exact rT
  ·have h2:=mT h1
   have hsq:x.side*x.side<=256/\0<=x.side*x.side:=by
    rcases h2 with h|h|h|h|h<;>rw[h]<;>decide
   refine sh ?_
   refine cS (fun h3=> ?_) (fun h3=> ?_)
   ·rw[ik,if_pos (.inr h3)]at hq
    subst hq
    refine sh ?_
    exact rT
   ·have hz:¬ (x.side ∉ kP\/(x.t.length:Int)≠x.side*x.side):=by simp[h1,h3]
    refine sh ?_
    refine eH 100 (fun i:Nat=>i<=x.t.length/\(x.t.take i).all T3.nv=true) (fun i=>⟨[(22,.aD 3 (bW x.t)),(23,.int .i64 x.t.length),(24,.int .i64 i)],[],10⟩) (fun i=>x.t.length - i) (0) ?_ ?_
    ·exact⟨Nat.zero_le _,rfl⟩
    ·intro i hi
     dsimp only
     refine sh ?_
     refine cS (fun h4=> ?_) (fun h4=> ?_)
     ·obtain⟨y,hy⟩:∃u_,x.t[i]? =some u_:=⟨_,List.getElem?_eq_getElem (by first|omega|(simp<;>omega))⟩
      refine sh ?_
      refine aa hy ?_
      have FA:=T3.fN y
      refine sh ?_
      refine cS (fun h5=> ?_) (fun h5=> ?_)
      ·have hb:y.nv=false:=by rw[Bool.eq_false_iff,ne_eq,FA]; omega
       rw[bg (List.mem_of_getElem? hy) hb]at hq
       subst hq
       refine sh ?_
       exact rT
      ·refine sh ?_
       refine cS (fun h6=> ?_) (fun h6=> ?_)
       ·have hb:y.nv=false:=by rw[Bool.eq_false_iff,ne_eq,FA]; omega
        rw[bg (List.mem_of_getElem? hy) hb]at hq
        subst hq
        refine sh ?_
        exact rT
       ·refine sh ?_
        refine lO (i+1) ?_ ?_
        ·refine⟨by omega,?_⟩
         rw[ek hy,hi.2,Bool.true_and,FA]
         omega
        ·omega
     ·rw[ik,if_neg hz,if_pos]at hq
      ·subst hq
       refine sh ?_
       exact rT
      ·have:=hi.2
       rwa[List.take_of_length_le (by omega)]at this
end Go.UM
namespace Go.UM
open Go.AM
set_option maxRecDepth 4000
structure X8(t:dN):Prop where
 s:t.side ∈ kP
 l:(t.t.length:Int)=t.side*t.side
 g:t.t.all T3.nv=true
theorem rY{t:dN}(h:ik t=0):X8 t:=by
 unfold ik at h
 split at h
 ·exact absurd h (by decide)
 ·rename_i h1
  split at h
  ·rename_i h2
   simp only[not_or,Decidable.not_not]at h1
   exact⟨h1.1,h1.2,h2⟩
  ·exact absurd h (by decide)
def aW(l:List T3):List UInt8:=l.flatMap fun x=>[u8 x.a,u8 x.b,u8 x.c]
def mC(t:dN):List UInt8 × Int:=if ik t≠0 then ([],ik t)else (u8 t.side::aW t.t,0)
theorem uf:∀l:List T3,(aW l).length=3*l.length
 |[]=>rfl
 |x::r=>by
  have:=uf r
  simp only[aW,List.flatMap_cons,List.length_append,List.length_cons,List.length_nil]at this ⊢
  omega
theorem mU{l:List T3}{k:Nat}{x:T3}(h:l[k]? =some x):aW (l.take (k+1))=aW (l.take k)++ [u8 x.a,u8 x.b,u8 x.c]:=by
 rw[ao h]; simp[aW]
theorem FB{R:Env}(h:N82 R)(t:dN)(hl:t.t.length<=1073741824):R.Pc 82 [.agg t.row] (.aQ [.aD 1 (aT (mC t).1),.int .i64 (mC t).2]):=
 h.o82.enter 200 rfl fun X bb hfit hp=>by
  refine sh ?_
  refine ae.pure h.NI.o84.hb (IA h.NI t hl) rfl ?_
  generalize hq:mC t=q
  refine sh ?_
  refine cS (fun h1=> ?_) (fun h1=> ?_)
  ·rw[mC,if_pos h1]at hq
   subst hq
   refine sh ?_
   exact rT
  ·have ok:=rY h1
   rw[mC,if_neg (by simpa using h1)]at hq
   subst hq
   have hs:=mT ok.s
   have CI:t.t.length<=256:=by
    have:=ok.l
    rcases hs with h|h|h|h|h<;>rw[h]at this<;>omega
   refine sh ?_
   refine aj.inv 200 (fun i:Nat=>i<=t.t.length) (fun i=>⟨[(5,.aV 1 (u8 t.side::aW (t.t.take i)).length),(18,.aD 3 (bW t.t)),(19,.int .i64 t.t.length),(20,.int .i64 i)],[(1,.arr (R.ty 4) 1 (aT (u8 t.side::aW (t.t.take i))))],2⟩) (fun i=>t.t.length - i) (0) ?_ ⟨⟨_,hp,rfl⟩,?_,?_⟩ ?_
   ·exact Nat.zero_le _
   ·exact fu
   ·refine bj ?_
    simp[aT,aW,u8_in (n:=t.side) (by omega)]
   ·intro i hi
    dsimp only
    refine sh ?_
    refine cS (fun h2=> ?_) (fun h2=> ?_)
    ·obtain⟨y,hy⟩:∃u_,t.t[i]? =some u_:=⟨_,List.getElem?_eq_getElem (by first|omega|(simp<;>omega))⟩
     refine sh ?_
     refine aa hy ?_
     refine sh ?_
     refine bC ?_
     refine sh ?_
     refine bC ?_
     refine sh ?_
     refine bC ?_
     refine sh ?_
     refine nD ?_ (by have:=uf (t.t.take i); simp only[List.length_take]at this; simp; omega)
     refine sh ?_
     refine nX (i+1) ?_ ?_ ⟨_,hp,rfl⟩ ?_ ?_
     ·omega
     ·omega
     ·refine bj ?_
      rw[mU hy]; simp
     ·refine bj ?_
      rw[mU hy]; simp[aT,C7]
    ·rw[List.take_of_length_le (by omega)]
     refine sh ?_
     exact rT
end Go.UM
namespace Go.UM
open Go.AM
set_option maxRecDepth 4000
theorem T3.nY{y:T3}(h:y.a<0\/ 255<y.a):y.nv=false:=by rw[Bool.eq_false_iff,ne_eq,T3.fN]; omega
theorem T3.nZ{y:T3}(h:y.b<0\/ 255<y.b):y.nv=false:=by rw[Bool.eq_false_iff,ne_eq,T3.fN]; omega
theorem T3.oa{y:T3}(h:y.c<0\/ 255<y.c):y.nv=false:=by rw[Bool.eq_false_iff,ne_eq,T3.fN]; omega
theorem Di{R:Env}(h:ZC R)(x:dN)(hl:x.t.length<=1073741824):R.Pc 85 [.agg x.row] (.int .i64 (ik x)):=
 h.o85.enter 200 rfl fun X bb hfit hp=>by
  generalize hq:ik x=q
  by_cases hin:x.side ∈ kP
  ·have h2:=mT hin
   have hsq:x.side*x.side<=256/\0<=x.side*x.side:=by
    rcases h2 with h|h|h|h|h<;>rw[h]<;>decide
   refine sh ?_
   refine cS (fun h1=> ?_) (fun h1=> ?_)
   ·refine sh ?_
    refine cS (fun h3=> ?_) (fun h3=> ?_)
    ·refine sh ?_
     refine cS (fun h4=> ?_) (fun h4=> ?_)
     ·refine sh ?_
      refine cS (fun h5=> ?_) (fun h5=> ?_)
      ·refine sh ?_
       refine ay (by (simp; omega)) ?_
       refine sh ?_
       refine cS (fun h6=> ?_) (fun h6=> ?_)
       ·rw[ik,if_pos (.inr h6)]at hq
        subst hq
        refine sh ?_
        exact rT
       ·refine sh ?_
        refine eH 200 (fun i:Nat=>i<=x.t.length/\(x.t.take i).all T3.nv=true) (fun i=>⟨[(1,.loc 0 1 0 0),(3,.int .i64 i)],[(0,.var (R.ty 12) x.row)],1⟩) (fun i=>x.t.length - i) (0) ?_ ?_
        ·exact⟨Nat.zero_le _,rfl⟩
        ·intro i hi
         dsimp only
         refine sh ?_
         refine cS (fun h7=> ?_) (fun h7=> ?_)
         ·obtain⟨y,hy⟩:∃u,x.t[i]? =some u:=⟨_,List.getElem?_eq_getElem (by omega)⟩
          have kz:=List.mem_of_getElem? hy
          have FA:=T3.fN y
          refine sh ?_
          refine aj.one 100 ?_
          refine sh ?_
          refine af (by decide) ?_
          refine sh ?_
          refine aa hy ?_
          refine sh ?_
          refine cS (fun g1=> ?_) (fun g1=> ?_)
          ·rw[bg kz (T3.nY (.inl g1))]at hq
           subst hq
           refine sh ?_
           exact rT
          ·refine sh ?_
           refine aa hy ?_
           refine sh ?_
           refine cS (fun g2=> ?_) (fun g2=> ?_)
           ·rw[bg kz (T3.nY (.inr g2))]at hq
            subst hq
            refine sh ?_
            exact rT
           ·refine sh ?_
            refine aj.one 100 ?_
            refine sh ?_
            refine af (by decide) ?_
            refine sh ?_
            refine aa hy ?_
            refine sh ?_
            refine cS (fun g3=> ?_) (fun g3=> ?_)
            ·rw[bg kz (T3.nZ (.inl g3))]at hq
             subst hq
             refine sh ?_
             exact rT
            ·refine sh ?_
             refine aa hy ?_
             refine sh ?_
             refine cS (fun g4=> ?_) (fun g4=> ?_)
             ·rw[bg kz (T3.nZ (.inr g4))]at hq
              subst hq
              refine sh ?_
              exact rT
             ·refine sh ?_
              refine aj.one 100 ?_
              refine sh ?_
              refine af (by decide) ?_
              refine sh ?_
              refine aa hy ?_
              refine sh ?_
              refine cS (fun g5=> ?_) (fun g5=> ?_)
              ·rw[bg kz (T3.oa (.inl g5))]at hq
               subst hq
               refine sh ?_
               exact rT
              ·refine sh ?_
               refine aa hy ?_
               refine sh ?_
               refine cS (fun g6=> ?_) (fun g6=> ?_)
               ·rw[bg kz (T3.oa (.inr g6))]at hq
                subst hq
                refine sh ?_
                exact rT
               ·refine sh ?_
                refine aj.one 100 ?_
                refine sh ?_
                refine ay (by decide) ?_
                refine sh ?_
                refine lO (i+1) ?_ ?_
                ·refine⟨by omega,?_⟩
                 rw[ek hy,hi.2,Bool.true_and,FA]
                 omega
                ·omega
         ·have hz:¬ (x.side ∉ kP\/(x.t.length:Int)≠x.side*x.side):=by simp[hin,h6]
          rw[ik,if_neg hz,if_pos]at hq
          ·subst hq
           refine sh ?_
           exact rT
          ·have:=hi.2
           rwa[List.take_of_length_le (by omega)]at this
      ·refine sh ?_
       refine cS (fun h6=> ?_) (fun h6=> ?_)
       ·rw[ik,if_pos (.inr h6)]at hq
        subst hq
        refine sh ?_
        exact rT
       ·refine sh ?_
        refine eH 200 (fun i:Nat=>i<=x.t.length/\(x.t.take i).all T3.nv=true) (fun i=>⟨[(1,.loc 0 1 0 0),(3,.int .i64 i)],[(0,.var (R.ty 12) x.row)],1⟩) (fun i=>x.t.length - i) (0) ?_ ?_
        ·exact⟨Nat.zero_le _,rfl⟩
        ·intro i hi
         dsimp only
         refine sh ?_
         refine cS (fun h7=> ?_) (fun h7=> ?_)
         ·obtain⟨y,hy⟩:∃u,x.t[i]? =some u:=⟨_,List.getElem?_eq_getElem (by omega)⟩
          have kz:=List.mem_of_getElem? hy
          have FA:=T3.fN y
          refine sh ?_
          refine aj.one 100 ?_
          refine sh ?_
          refine af (by decide) ?_
          refine sh ?_
          refine aa hy ?_
          refine sh ?_
          refine cS (fun g1=> ?_) (fun g1=> ?_)
          ·rw[bg kz (T3.nY (.inl g1))]at hq
           subst hq
           refine sh ?_
           exact rT
          ·refine sh ?_
           refine aa hy ?_
           refine sh ?_
           refine cS (fun g2=> ?_) (fun g2=> ?_)
           ·rw[bg kz (T3.nY (.inr g2))]at hq
            subst hq
            refine sh ?_
            exact rT
           ·refine sh ?_
            refine aj.one 100 ?_
            refine sh ?_
            refine af (by decide) ?_
            refine sh ?_
            refine aa hy ?_
            refine sh ?_
            refine cS (fun g3=> ?_) (fun g3=> ?_)
            ·rw[bg kz (T3.nZ (.inl g3))]at hq
             subst hq
             refine sh ?_
             exact rT
            ·refine sh ?_
             refine aa hy ?_
             refine sh ?_
             refine cS (fun g4=> ?_) (fun g4=> ?_)
             ·rw[bg kz (T3.nZ (.inr g4))]at hq
              subst hq
              refine sh ?_
              exact rT
             ·refine sh ?_
              refine aj.one 100 ?_
              refine sh ?_
              refine af (by decide) ?_
              refine sh ?_
              refine aa hy ?_
              refine sh ?_
              refine cS (fun g5=> ?_) (fun g5=> ?_)
              ·rw[bg kz (T3.oa (.inl g5))]at hq
               subst hq
               refine sh ?_
               exact rT
              ·refine sh ?_
               refine aa hy ?_
               refine sh ?_
               refine cS (fun g6=> ?_) (fun g6=> ?_)
               ·rw[bg kz (T3.oa (.inr g6))]at hq
                subst hq
                refine sh ?_
                exact rT
               ·refine sh ?_
                refine aj.one 100 ?_
                refine sh ?_
                refine ay (by decide) ?_
                refine sh ?_
                refine lO (i+1) ?_ ?_
                ·refine⟨by omega,?_⟩
                 rw[ek hy,hi.2,Bool.true_and,FA]
                 omega
                ·omega
         ·have hz:¬ (x.side ∉ kP\/(x.t.length:Int)≠x.side*x.side):=by simp[hin,h6]
          rw[ik,if_neg hz,if_pos]at hq
          ·subst hq
           refine sh ?_
           exact rT
          ·have:=hi.2
           rwa[List.take_of_length_le (by omega)]at this
     ·refine sh ?_
      refine cS (fun h6=> ?_) (fun h6=> ?_)
      ·rw[ik,if_pos (.inr h6)]at hq
       subst hq
       refine sh ?_
       exact rT
      ·refine sh ?_
       refine eH 200 (fun i:Nat=>i<=x.t.length/\(x.t.take i).all T3.nv=true) (fun i=>⟨[(1,.loc 0 1 0 0),(3,.int .i64 i)],[(0,.var (R.ty 12) x.row)],1⟩) (fun i=>x.t.length - i) (0) ?_ ?_
       ·exact⟨Nat.zero_le _,rfl⟩
       ·intro i hi
        dsimp only
        refine sh ?_
        refine cS (fun h7=> ?_) (fun h7=> ?_)
        ·obtain⟨y,hy⟩:∃u,x.t[i]? =some u:=⟨_,List.getElem?_eq_getElem (by omega)⟩
         have kz:=List.mem_of_getElem? hy
         have FA:=T3.fN y
         refine sh ?_
         refine aj.one 100 ?_
         refine sh ?_
         refine af (by decide) ?_
         refine sh ?_
         refine aa hy ?_
         refine sh ?_
         refine cS (fun g1=> ?_) (fun g1=> ?_)
         ·rw[bg kz (T3.nY (.inl g1))]at hq
          subst hq
          refine sh ?_
          exact rT
         ·refine sh ?_
          refine aa hy ?_
          refine sh ?_
          refine cS (fun g2=> ?_) (fun g2=> ?_)
          ·rw[bg kz (T3.nY (.inr g2))]at hq
           subst hq
           refine sh ?_
           exact rT
          ·refine sh ?_
           refine aj.one 100 ?_
           refine sh ?_
           refine af (by decide) ?_
           refine sh ?_
           refine aa hy ?_
           refine sh ?_
           refine cS (fun g3=> ?_) (fun g3=> ?_)
           ·rw[bg kz (T3.nZ (.inl g3))]at hq
            subst hq
            refine sh ?_
            exact rT
           ·refine sh ?_
            refine aa hy ?_
            refine sh ?_
            refine cS (fun g4=> ?_) (fun g4=> ?_)
            ·rw[bg kz (T3.nZ (.inr g4))]at hq
             subst hq
             refine sh ?_
             exact rT
            ·refine sh ?_
             refine aj.one 100 ?_
             refine sh ?_
             refine af (by decide) ?_
             refine sh ?_
             refine aa hy ?_
             refine sh ?_
             refine cS (fun g5=> ?_) (fun g5=> ?_)
             ·rw[bg kz (T3.oa (.inl g5))]at hq
              subst hq
              refine sh ?_
              exact rT
             ·refine sh ?_
              refine aa hy ?_
              refine sh ?_
              refine cS (fun g6=> ?_) (fun g6=> ?_)
              ·rw[bg kz (T3.oa (.inr g6))]at hq
               subst hq
               refine sh ?_
               exact rT
              ·refine sh ?_
               refine aj.one 100 ?_
               refine sh ?_
               refine ay (by decide) ?_
               refine sh ?_
               refine lO (i+1) ?_ ?_
               ·refine⟨by omega,?_⟩
                rw[ek hy,hi.2,Bool.true_and,FA]
                omega
               ·omega
        ·have hz:¬ (x.side ∉ kP\/(x.t.length:Int)≠x.side*x.side):=by simp[hin,h6]
         rw[ik,if_neg hz,if_pos]at hq
         ·subst hq
          refine sh ?_
          exact rT
         ·have:=hi.2
          rwa[List.take_of_length_le (by omega)]at this
    ·refine sh ?_
     refine cS (fun h6=> ?_) (fun h6=> ?_)
     ·rw[ik,if_pos (.inr h6)]at hq
      subst hq
      refine sh ?_
      exact rT
     ·refine sh ?_
      refine eH 200 (fun i:Nat=>i<=x.t.length/\(x.t.take i).all T3.nv=true) (fun i=>⟨[(1,.loc 0 1 0 0),(3,.int .i64 i)],[(0,.var (R.ty 12) x.row)],1⟩) (fun i=>x.t.length - i) (0) ?_ ?_
      ·exact⟨Nat.zero_le _,rfl⟩
      ·intro i hi
       dsimp only
       refine sh ?_
       refine cS (fun h7=> ?_) (fun h7=> ?_)
       ·obtain⟨y,hy⟩:∃u,x.t[i]? =some u:=⟨_,List.getElem?_eq_getElem (by omega)⟩
        have kz:=List.mem_of_getElem? hy
        have FA:=T3.fN y
        refine sh ?_
        refine aj.one 100 ?_
        refine sh ?_
        refine af (by decide) ?_
        refine sh ?_
        refine aa hy ?_
        refine sh ?_
        refine cS (fun g1=> ?_) (fun g1=> ?_)
        ·rw[bg kz (T3.nY (.inl g1))]at hq
         subst hq
         refine sh ?_
         exact rT
        ·refine sh ?_
         refine aa hy ?_
         refine sh ?_
         refine cS (fun g2=> ?_) (fun g2=> ?_)
         ·rw[bg kz (T3.nY (.inr g2))]at hq
          subst hq
          refine sh ?_
          exact rT
         ·refine sh ?_
          refine aj.one 100 ?_
          refine sh ?_
          refine af (by decide) ?_
          refine sh ?_
          refine aa hy ?_
          refine sh ?_
          refine cS (fun g3=> ?_) (fun g3=> ?_)
          ·rw[bg kz (T3.nZ (.inl g3))]at hq
           subst hq
           refine sh ?_
           exact rT
          ·refine sh ?_
           refine aa hy ?_
           refine sh ?_
           refine cS (fun g4=> ?_) (fun g4=> ?_)
           ·rw[bg kz (T3.nZ (.inr g4))]at hq
            subst hq
            refine sh ?_
            exact rT
           ·refine sh ?_
            refine aj.one 100 ?_
            refine sh ?_
            refine af (by decide) ?_
            refine sh ?_
            refine aa hy ?_
            refine sh ?_
            refine cS (fun g5=> ?_) (fun g5=> ?_)
            ·rw[bg kz (T3.oa (.inl g5))]at hq
             subst hq
             refine sh ?_
             exact rT
            ·refine sh ?_
             refine aa hy ?_
             refine sh ?_
             refine cS (fun g6=> ?_) (fun g6=> ?_)
             ·rw[bg kz (T3.oa (.inr g6))]at hq
              subst hq
              refine sh ?_
              exact rT
             ·refine sh ?_
              refine aj.one 100 ?_
              refine sh ?_
              refine ay (by decide) ?_
              refine sh ?_
              refine lO (i+1) ?_ ?_
              ·refine⟨by omega,?_⟩
               rw[ek hy,hi.2,Bool.true_and,FA]
               omega
              ·omega
       ·have hz:¬ (x.side ∉ kP\/(x.t.length:Int)≠x.side*x.side):=by simp[hin,h6]
        rw[ik,if_neg hz,if_pos]at hq
        ·subst hq
         refine sh ?_
         exact rT
        ·have:=hi.2
         rwa[List.take_of_length_le (by omega)]at this
   ·refine sh ?_
    refine cS (fun h6=> ?_) (fun h6=> ?_)
    ·rw[ik,if_pos (.inr h6)]at hq
     subst hq
     refine sh ?_
     exact rT
    ·refine sh ?_
     refine eH 200 (fun i:Nat=>i<=x.t.length/\(x.t.take i).all T3.nv=true) (fun i=>⟨[(1,.loc 0 1 0 0),(3,.int .i64 i)],[(0,.var (R.ty 12) x.row)],1⟩) (fun i=>x.t.length - i) (0) ?_ ?_
     ·exact⟨Nat.zero_le _,rfl⟩
     ·intro i hi
      dsimp only
      refine sh ?_
      refine cS (fun h7=> ?_) (fun h7=> ?_)
      ·obtain⟨y,hy⟩:∃u,x.t[i]? =some u:=⟨_,List.getElem?_eq_getElem (by omega)⟩
       have kz:=List.mem_of_getElem? hy
       have FA:=T3.fN y
       refine sh ?_
       refine aj.one 100 ?_
       refine sh ?_
       refine af (by decide) ?_
       refine sh ?_
       refine aa hy ?_
       refine sh ?_
       refine cS (fun g1=> ?_) (fun g1=> ?_)
       ·rw[bg kz (T3.nY (.inl g1))]at hq
        subst hq
        refine sh ?_
        exact rT
       ·refine sh ?_
        refine aa hy ?_
        refine sh ?_
        refine cS (fun g2=> ?_) (fun g2=> ?_)
        ·rw[bg kz (T3.nY (.inr g2))]at hq
         subst hq
         refine sh ?_
         exact rT
        ·refine sh ?_
         refine aj.one 100 ?_
         refine sh ?_
         refine af (by decide) ?_
         refine sh ?_
         refine aa hy ?_
         refine sh ?_
         refine cS (fun g3=> ?_) (fun g3=> ?_)
         ·rw[bg kz (T3.nZ (.inl g3))]at hq
          subst hq
          refine sh ?_
          exact rT
         ·refine sh ?_
          refine aa hy ?_
          refine sh ?_
          refine cS (fun g4=> ?_) (fun g4=> ?_)
          ·rw[bg kz (T3.nZ (.inr g4))]at hq
           subst hq
           refine sh ?_
           exact rT
          ·refine sh ?_
           refine aj.one 100 ?_
           refine sh ?_
           refine af (by decide) ?_
           refine sh ?_
           refine aa hy ?_
           refine sh ?_
           refine cS (fun g5=> ?_) (fun g5=> ?_)
           ·rw[bg kz (T3.oa (.inl g5))]at hq
            subst hq
            refine sh ?_
            exact rT
           ·refine sh ?_
            refine aa hy ?_
            refine sh ?_
            refine cS (fun g6=> ?_) (fun g6=> ?_)
            ·rw[bg kz (T3.oa (.inr g6))]at hq
             subst hq
             refine sh ?_
             exact rT
            ·refine sh ?_
             refine aj.one 100 ?_
             refine sh ?_
             refine ay (by decide) ?_
             refine sh ?_
             refine lO (i+1) ?_ ?_
             ·refine⟨by omega,?_⟩
              rw[ek hy,hi.2,Bool.true_and,FA]
              omega
             ·omega
      ·have hz:¬ (x.side ∉ kP\/(x.t.length:Int)≠x.side*x.side):=by simp[hin,h6]
       rw[ik,if_neg hz,if_pos]at hq
       ·subst hq
        refine sh ?_
        exact rT
       ·have:=hi.2
        rwa[List.take_of_length_le (by omega)]at this
  ·have hout:¬x.side=1/\¬x.side=2/\¬x.side=4/\¬x.side=8/\¬x.side=16:=by simpa[kP]using hin
   refine sh ?_
   refine af (by simpa using hout.1) ?_
   refine sh ?_
   refine af (by simpa using hout.2.1) ?_
   refine sh ?_
   refine af (by simpa using hout.2.2.1) ?_
   refine sh ?_
   refine af (by simpa using hout.2.2.2.1) ?_
   refine sh ?_
   refine af (by simpa using hout.2.2.2.2) ?_
   rw[ik,if_pos (.inl hin)]at hq
   subst hq
   refine sh ?_
   exact rT
theorem Cd{R:Env}(h:N83 R)(t:dN)(hl:t.t.length<=1073741824):R.Pc 83 [.agg t.row] (.aQ [.aD 1 (aT (mC t).1),.int .i64 (mC t).2]):=
 h.o83.enter 200 rfl fun X bb hfit hp=>by
  refine sh ?_
  refine ae.pure h.NK.o85.hb (Di h.NK t hl) rfl ?_
  generalize hq:mC t=q
  refine sh ?_
  refine cS (fun h1=> ?_) (fun h1=> ?_)
  ·rw[mC,if_pos h1]at hq
   subst hq
   refine sh ?_
   exact rT
  ·have ok:=rY h1
   rw[mC,if_neg (by simpa using h1)]at hq
   subst hq
   have hs:=mT ok.s
   have CI:t.t.length<=256:=by
    have:=ok.l
    rcases hs with h|h|h|h|h<;>rw[h]at this<;>omega
   refine sh ?_
   refine aj.inv 200 (fun i:Nat=>i<=t.t.length) (fun i=>⟨[(1,.loc 0 1 0 0),(5,.aV 1 (u8 t.side::aW (t.t.take i)).length),(6,.int .i64 i)],[(1,.arr (R.ty 4) 1 (aT (u8 t.side::aW (t.t.take i)))),(0,.var (R.ty 12) t.row)],2⟩) (fun i=>t.t.length - i) (0) ?_ ⟨⟨_,hp,rfl⟩,?_,?_⟩ ?_
   ·exact Nat.zero_le _
   ·exact fu
   ·refine bj ?_
    simp[aT,aW,u8_in (n:=t.side) (by omega)]
   ·intro i hi
    dsimp only
    refine sh ?_
    refine cS (fun h2=> ?_) (fun h2=> ?_)
    ·obtain⟨y,hy⟩:∃u,t.t[i]? =some u:=⟨_,List.getElem?_eq_getElem (by omega)⟩
     have hlen:=uf (t.t.take i)
     simp only[List.length_take]at hlen
     refine sh ?_
     refine aj.one 100 ?_
     refine sh ?_
     refine af (by decide) ?_
     refine sh ?_
     refine aa hy ?_
     refine sh ?_
     refine bC ?_
     refine sh ?_
     refine aj.one 100 ?_
     refine sh ?_
     refine af (by decide) ?_
     refine sh ?_
     refine aa hy ?_
     refine sh ?_
     refine bC ?_
     refine sh ?_
     refine aj.one 100 ?_
     refine sh ?_
     refine af (by decide) ?_
     refine sh ?_
     refine aa hy ?_
     refine sh ?_
     refine bC ?_
     refine sh ?_
     refine aj.one 100 ?_
     refine sh ?_
     refine ay (by decide) ?_
     refine sh ?_
     refine nX (i+1) ?_ ?_ ⟨_,hp,rfl⟩ ?_ ?_
     ·omega
     ·omega
     ·refine bj ?_
      rw[mU hy]; simp
     ·refine bj ?_
      rw[mU hy]; simp[aT,C7]
    ·rw[List.take_of_length_le (by omega)]
     refine sh ?_
     exact rT
end Go.UM
namespace Go.UM
open Go.AM
set_option maxRecDepth 4000
structure As where
 k:Int
 m:Ms
 x:dN
 mt:fk
 li:eV
def As.row(a:As):List AV:=[.int .i64 a.k,.aD 3 (bW a.m.v),.aD 2 (dH a.m.uv),.aD 3 (bW a.m.t),.int .i64 a.x.side,.aD 3 (bW a.x.t),
 .int .i64 a.mt.k,.int .i64 a.mt.c.a,.int .i64 a.mt.c.b,.int .i64 a.mt.c.c,.int .i64 a.mt.r,
 .int .i64 a.li.k,.int .i64 a.li.c.a,.int .i64 a.li.c.b,.int .i64 a.li.c.c,.int .i64 a.li.p.a,.int .i64 a.li.p.b,.int .i64 a.li.p.c,.int .i64 a.li.u.a,.int .i64 a.li.u.b,.int .i64 a.li.u.c,.int .i64 a.li.v.a,.int .i64 a.li.v.b,.int .i64 a.li.v.c]
def ach(m:fk):List UInt8:=[u8 m.k]++enc 2 m.c.a++enc 2 m.c.b++enc 2 m.c.c++enc 2 m.r
def aci(l:eV):List UInt8:=[u8 l.k]++(enc 4 l.c.a++enc 4 l.c.b++enc 4 l.c.c)++fM l.p++fM l.u++fM l.v
def own(a:As):Int:=if a.k=1 then lW a.m else if a.k=2 then ik a.x else if a.k=3 then jL a.mt else if a.k=4 then kO a.li else 12
def gN(a:As):List UInt8:=if a.k=1 then (tX a.m).1 else if a.k=2 then (mC a.x).1 else if a.k=3 then ach a.mt else aci a.li
theorem rZ{p:T3}(h:lV p=false): -4096<=p.a/\p.a<=4096/\ -4096<=p.b/\p.b<=4096/\ -4096<=p.c/\p.c<=4096:=by simpa[lV]using h
structure eV.ZG(l:eV):Prop where
 k:0<=l.k/\l.k<=2
 c:0<=l.c.a/\l.c.a<=1048576/\0<=l.c.b/\l.c.b<=1048576/\0<=l.c.c/\l.c.c<=1048576
 p: -4096<=l.p.a/\l.p.a<=4096/\ -4096<=l.p.b/\l.p.b<=4096/\ -4096<=l.p.c/\l.p.c<=4096
 u: -4096<=l.u.a/\l.u.a<=4096/\ -4096<=l.u.b/\l.u.b<=4096/\ -4096<=l.u.c/\l.u.c<=4096
 v: -4096<=l.v.a/\l.v.a<=4096/\ -4096<=l.v.b/\l.v.b<=4096/\ -4096<=l.v.c/\l.v.c<=4096
theorem ug{l:eV}(h:kO l=0):l.ZG:=by
 unfold kO at h
 split at h
 ·cases h
 ·split at h
  ·cases h
  ·rename_i h1 h2
   simp only[not_or,Bool.not_eq_true]at h2
   exact⟨by omega,by omega,rZ h2.1,rZ h2.2.1,rZ h2.2.2⟩
theorem uh{m:fk}(h:jL m=0):0<=m.k/\m.k<=4/\0<=m.r/\m.r<=65535/\0<=m.c.a/\m.c.a<=65535/\0<=m.c.b/\m.c.b<=65535/\0<=m.c.c/\m.c.c<=65535:=by
 unfold jL at h
 split at h
 ·cases h
 ·omega
theorem RK{R:Env}(h:PH R)(b:List UInt8)(x:Int)(hl:b.length<=1000)(hx:0<=x/\x<=65535):
  R.Mc 54 [.aD 1 (aT b),.int .i64 2,.aD 1 (bp .u64 [x])] [] (.aQ [.aV 0 (b++enc 2 x).length,.int .i64 0]) [(0,.arr (R.ty 4) 1 (aT (b++enc 2 x)))] 1:=by
 have c:=Dg h b 2 [x] (by simp; omega) (by simp; omega)
 rw[rX (by decide) (by decide) (by simp; omega)]at c
 simpa using c
theorem RL{R:Env}(h:PH R)(b:List UInt8)(x y z:Int)(hl:b.length<=1000)(hx:0<=x/\x<=1048576/\0<=y/\y<=1048576/\0<=z/\z<=1048576):
  R.Mc 54 [.aD 1 (aT b),.int .i64 4,.aD 1 (bp .u64 [x,y,z])] [] (.aQ [.aV 0 (b++(enc 4 x++enc 4 y++enc 4 z)).length,.int .i64 0]) [(0,.arr (R.ty 4) 1 (aT (b++(enc 4 x++enc 4 y++enc 4 z))))] 1:=by
 have c:=Dg h b 4 [x,y,z] (by simp; omega) (by simp; omega)
 rw[rX (by decide) (by decide) (by simp; omega)]at c
 simpa using c
theorem RM{R:Env}(h:PI R)(b:List UInt8)(p:T3)(hl:b.length<=1000)(ok: -4096<=p.a/\p.a<=4096/\ -4096<=p.b/\p.b<=4096/\ -4096<=p.c/\p.c<=4096):
  R.Mc 71 [.aD 1 (aT b),.int .i64 2,.aD 1 (bp .i64 [p.a,p.b,p.c])] [] (.aQ [.aV 0 (b++fM p).length,.int .i64 0]) [(0,.arr (R.ty 4) 1 (aT (b++fM p)))] 1:=by
 have c:=tV h b 2 [p.a,p.b,p.c] (by simp; omega) (by simp[aR]; omega)
 rwa[tY ok]at c
def fk.four(m:fk):List Int:=[m.c.a,m.c.b,m.c.c,m.r]
def eV.three(l:eV):List T3:=[l.p,l.u,l.v]
@[simp] theorem NS(m:fk):m.four.length=4:=rfl
@[simp] theorem Mr(l:eV):l.three.length=3:=rfl
theorem Ce:∀l:List Int,(l.flatMap (enc 2)).length=2*l.length
 |[]=>rfl
 |x::r=>by have:=Ce r; simp at this ⊢; omega
@[simp] theorem NT(p:T3):(fM p).length=6:=by simp[fM]
theorem IB{R:Env}(h:P1 R)(a:As)(hl:a.x.t.length<=1073741824)(ok:own a=0):R.Pc 311 [.agg a.row] (.aD 1 (aT (gN a))):=
 h.V0.enter 200 rfl fun X bb hfit hp=>by
  generalize hq:gN a=q
  unfold own at ok
  refine sh ?_
  refine cS (fun h1=> ?_) (fun h1=> ?_)
  ·rw[gN,if_pos h1]at hq
   subst hq
   refine sh ?_
   refine ae.pure h.n196.VG.hb (Fx h.n196 a.m) rfl ?_
   refine sh ?_
   exact rT
  ·rw[if_neg h1]at ok
   refine sh ?_
   refine cS (fun h2=> ?_) (fun h2=> ?_)
   ·rw[gN,if_neg h1,if_pos h2]at hq
    subst hq
    refine sh ?_
    refine ae.pure h.Zw.o82.hb (FB h.Zw a.x hl) rfl ?_
    refine sh ?_
    exact rT
   ·rw[if_neg h2]at ok
    refine sh ?_
    refine cS (fun h3=> ?_) (fun h3=> ?_)
    ·rw[gN,if_neg h1,if_neg h2,if_pos h3]at hq
     subst hq
     rw[if_pos h3]at ok
     have may:=uh ok
     have w8:((u8 a.mt.k).toNat:Int)=a.mt.k:=u8_in (by omega)
     refine sh ?_
     refine aj.inv 100 (fun i:Nat=>i<=4) (fun i=>⟨[(8,.aV 2 ([u8 a.mt.k]++(a.mt.four.take i).flatMap (enc 2)).length),(55,.aD 1 (bp .i64 a.mt.four)),(56,.int .i64 4),(57,.int .i64 i)],[(2,.arr (R.ty 4) 1 (aT ([u8 a.mt.k]++(a.mt.four.take i).flatMap (enc 2))))],3⟩) (fun i=>4 - i) (0) ?_ ⟨⟨_,hp,rfl⟩,?_,?_⟩ ?_
     ·exact Nat.zero_le _
     ·exact fu
     ·refine bj ?_
      simp[aT,w8]
     ·intro i hi
      dsimp only
      refine sh ?_
      refine cS (fun h4=> ?_) (fun h4=> ?_)
      ·obtain⟨x,hx⟩:∃u_,a.mt.four[i]? =some u_:=⟨_,List.getElem?_eq_getElem (by first|omega|(simp<;>omega))⟩
       refine sh ?_
       refine aa hx ?_
       have ct:0<=x/\x<=65535:=by
        have:=List.mem_of_getElem? hx
        simp only[fk.four,List.mem_cons,List.not_mem_nil,or_false]at this
        rcases this with e|e|e|e<;>subst e<;>omega
       refine sh ?_
       refine cM true [] (RK h.JP ([u8 a.mt.k]++(a.mt.four.take i).flatMap (enc 2)) x (by simp only[List.length_append,Ce,List.length_take]; simp; omega) ct) ?_
       repeat (intro _; first|refine eK ?_|refine eP ?_)
       refine sh ?_
       refine uP [0,1,4] (i+1) ?_ ?_ ?_
       ·omega
       ·omega
       ·refine iH ?_ ?_
        rw[cD hx]; simp
        rw[cD hx]; simp
      ·rw[show a.mt.four.take i=a.mt.four from List.take_of_length_le (by simp; omega)]
       refine sh ?_
       exact rT
    ·rw[gN,if_neg h1,if_neg h2,if_neg h3]at hq
     subst hq
     have h4:a.k=4:=by
      by_cases h4:a.k=4
      ·exact h4
      ·rw[if_neg h3,if_neg h4]at ok; cases ok
     rw[if_neg h3,if_pos h4]at ok
     have may:=ug ok
     have mk:=may.k
     have mc:=may.c
     have w8:((u8 a.li.k).toNat:Int)=a.li.k:=u8_in (by omega)
     have c1:=RL h.JP [u8 a.li.k] a.li.c.a a.li.c.b a.li.c.c (by simp) mc
     rw[show aT [u8 a.li.k]=[[.int .u8 a.li.k]] by simp[aT,w8]]at c1
     refine sh ?_
     refine cM true [] (c1) ?_
     repeat (intro _; first|refine eK ?_|refine eP ?_)
     refine sh ?_
     refine eH 100 (fun i:Nat=>i<=3) (fun i=>⟨[(12,.aV 4 ([u8 a.li.k]++(enc 4 a.li.c.a++enc 4 a.li.c.b++enc 4 a.li.c.c)++(a.li.three.take i).flatMap fM).length),(100,.aD 3 (bW a.li.three)),(101,.int .i64 3),(102,.int .i64 i)],[(4,.arr (R.ty 4) 1 (aT ([u8 a.li.k]++(enc 4 a.li.c.a++enc 4 a.li.c.b++enc 4 a.li.c.c)++(a.li.three.take i).flatMap fM)))],5⟩) (fun i=>3 - i) (0) ?_ ?_
     ·exact Nat.zero_le _
     ·intro i hi
      dsimp only
      refine sh ?_
      refine cS (fun h5=> ?_) (fun h5=> ?_)
      ·obtain⟨x,hx⟩:∃u_,a.li.three[i]? =some u_:=⟨_,List.getElem?_eq_getElem (by first|omega|(simp<;>omega))⟩
       refine sh ?_
       refine aa hx ?_
       have ct: -4096<=x.a/\x.a<=4096/\ -4096<=x.b/\x.b<=4096/\ -4096<=x.c/\x.c<=4096:=by
        have:=List.mem_of_getElem? hx
        simp only[eV.three,List.mem_cons,List.not_mem_nil,or_false]at this
        rcases this with e|e|e<;>subst e
        ·exact may.p
        ·exact may.u
        ·exact may.v
       refine sh ?_
       refine cM true [] (RM h.JQ ([u8 a.li.k]++(enc 4 a.li.c.a++enc 4 a.li.c.b++enc 4 a.li.c.c)++(a.li.three.take i).flatMap fM) x (by simp only[List.length_append,z8,List.length_take]; simp; omega) ct) ?_
       repeat (intro _; first|refine eK ?_|refine eP ?_)
       refine sh ?_
       refine uP [0,1,2,3,7] (i+1) ?_ ?_ ?_
       ·omega
       ·omega
       ·refine iH ?_ ?_
        rw[cD hx]; simp
        rw[cD hx]; simp
      ·rw[show a.li.three.take i=a.li.three from List.take_of_length_le (by simp; omega)]
       refine sh ?_
       exact rT
theorem xW{R:Env}(h:WZ R)(b:List UInt8)(x:Int)(hl:b.length<=1000)(hx:0<=x/\x<=1048576):
  R.Mc 55 [.aD 1 (aT b),.int .i64 4,.aD 1 (bp .u64 [x])] [] (.aQ [.aV 0 (b++enc 4 x).length,.int .i64 0]) [(0,.arr (R.ty 4) 1 (aT (b++enc 4 x)))] 1:=by
 have c:=Iy h b 4 [x] (by simp; omega) (by simp; omega)
 rw[rX (by decide) (by decide) (by simp; omega)]at c
 simpa using c
theorem Dj{v:Int}(hv:0<=v/\v<=65535):enc 2 v=[u8 (v % 256),u8 (v / 256)]:=by
 unfold enc
 simp[List.range_succ,BX]
theorem r4{R:Env}(h:QR R)(a:As)(hl:a.x.t.length<=1073741824)(ok:own a=0):R.Pc 314 [.agg a.row] (.aD 1 (aT (gN a))):=
 h.H4.enter 200 rfl fun X bb hfit hp=>by
  generalize hq:gN a=q
  unfold own at ok
  refine sh ?_
  refine cS (fun h1=> ?_) (fun h1=> ?_)
  ·rw[gN,if_pos h1]at hq
   subst hq
   refine sh ?_
   refine ae.pure h.n197.Xa.hb (Cb h.n197 a.m) rfl ?_
   refine sh ?_
   exact rT
  ·rw[if_neg h1]at ok
   refine sh ?_
   refine cS (fun h2=> ?_) (fun h2=> ?_)
   ·rw[gN,if_neg h1,if_pos h2]at hq
    subst hq
    refine sh ?_
    refine ae.pure h.ZD.o83.hb (Cd h.ZD a.x hl) rfl ?_
    refine sh ?_
    exact rT
   ·rw[if_neg h2]at ok
    refine sh ?_
    refine cS (fun h3=> ?_) (fun h3=> ?_)
    ·rw[gN,if_neg h1,if_neg h2,if_pos h3]at hq
     subst hq
     rw[if_pos h3]at ok
     have may:=uh ok
     have w8:((u8 a.mt.k).toNat:Int)=a.mt.k:=u8_in (by omega)
     refine sh ?_
     refine aj.inv 100 (fun i:Nat=>i<=4) (fun i=>⟨[(8,.aV 2 ([u8 a.mt.k]++(a.mt.four.take i).flatMap (enc 2)).length),(9,.aD 1 (bp .i64 a.mt.four)),(10,.int .i64 i)],[(2,.arr (R.ty 4) 1 (aT ([u8 a.mt.k]++(a.mt.four.take i).flatMap (enc 2))))],3⟩) (fun i=>4 - i) (0) ?_ ⟨⟨_,hp,rfl⟩,?_,?_⟩ ?_
     ·exact Nat.zero_le _
     ·exact fu
     ·refine bj ?_
      simp[aT,w8]
     ·intro i hi
      dsimp only
      refine sh ?_
      refine cS (fun h4=> ?_) (fun h4=> ?_)
      ·obtain⟨x,hx⟩:∃u,a.mt.four[i]? =some u:=⟨_,List.getElem?_eq_getElem (by simp; omega)⟩
       have ct:0<=x/\x<=65535:=by
        have:=List.mem_of_getElem? hx
        simp only[fk.four,List.mem_cons,List.not_mem_nil,or_false]at this
        rcases this with e|e|e|e<;>subst e<;>omega
       refine sh ?_
       refine aa hx ?_
       refine sh ?_
       rw[Int.tmod_eq_emod_of_nonneg (by omega)]
       refine wI ?_
       refine sh ?_
       refine aa hx ?_
       refine sh ?_
       rw[Int.tdiv_eq_ediv_of_nonneg (by omega)]
       refine wI ?_
       refine sh ?_
       refine nD ?_ (by simp only[gj,List.length_append,Ce,List.length_take]; simp; omega)
       refine sh ?_
       refine nX (i+1) ?_ ?_ ⟨_,hp,rfl⟩ ?_ ?_
       ·omega
       ·omega
       ·refine bj ?_
        rw[cD hx,Dj ct]; simp
       ·refine bj ?_
        rw[cD hx,Dj ct]; simp[aT]
        refine⟨(u8_in ?_).symm,(u8_in ?_).symm⟩<;>omega
      ·rw[show a.mt.four.take i=a.mt.four from List.take_of_length_le (by simp; omega)]
       refine sh ?_
       exact rT
    ·rw[gN,if_neg h1,if_neg h2,if_neg h3]at hq
     subst hq
     have h4:a.k=4:=by
      by_cases h4:a.k=4
      ·exact h4
      ·rw[if_neg h3,if_neg h4]at ok; cases ok
     rw[if_neg h3,if_pos h4]at ok
     have may:=ug ok
     have mk:=may.k
     have mc:=may.c
     have w8:((u8 a.li.k).toNat:Int)=a.li.k:=u8_in (by omega)
     have c1:=xW h.NJ [u8 a.li.k] a.li.c.a (by simp) (by omega)
     rw[show aT [u8 a.li.k]=[[.int .u8 a.li.k]] by simp[aT,w8]]at c1
     refine sh ?_
     refine aj.one 100 ?_
     refine sh ?_
     refine af (by decide) ?_
     refine sh ?_
     refine cM true [] (c1) ?_
     repeat (intro _; first|refine eK ?_|refine eP ?_)
     refine sh ?_
     refine aj.one 100 ?_
     refine sh ?_
     refine af (by decide) ?_
     refine sh ?_
     refine cM true [] (xW h.NJ ([u8 a.li.k]++enc 4 a.li.c.a) a.li.c.b (by simp) (by omega)) ?_
     repeat (intro _; first|refine eK ?_|refine eP ?_)
     refine sh ?_
     refine aj.one 100 ?_
     refine sh ?_
     refine af (by decide) ?_
     refine sh ?_
     refine cM true [] (xW h.NJ ([u8 a.li.k]++enc 4 a.li.c.a++enc 4 a.li.c.b) a.li.c.c (by simp) (by omega)) ?_
     repeat (intro _; first|refine eK ?_|refine eP ?_)
     refine sh ?_
     refine aj.one 100 ?_
     refine sh ?_
     refine ay (by decide) ?_
     refine sh ?_
     refine cM true [] (pJ h.n212 ([u8 a.li.k]++enc 4 a.li.c.a++enc 4 a.li.c.b++enc 4 a.li.c.c) a.li.p (by simp) may.p) ?_
     repeat (intro _; first|refine eK ?_|refine eP ?_)
     refine sh ?_
     refine cM true [] (pJ h.n212 ([u8 a.li.k]++enc 4 a.li.c.a++enc 4 a.li.c.b++enc 4 a.li.c.c++fM a.li.p) a.li.u (by simp) may.u) ?_
     repeat (intro _; first|refine eK ?_|refine eP ?_)
     refine sh ?_
     refine cM true [] (pJ h.n212 ([u8 a.li.k]++enc 4 a.li.c.a++enc 4 a.li.c.b++enc 4 a.li.c.c++fM a.li.p++fM a.li.u) a.li.v (by simp) may.v) ?_
     repeat (intro _; first|refine eK ?_|refine eP ?_)
     refine sh ?_
     exact rT
end Go.UM
namespace Go.UM
open Go.AM
structure Mf where
 (id kind label m0 m1 m2 m3 m4 m5 m6 m7 first last size chunks:Int)
def Mf.row(m:Mf):List AV:=[.int .u64 m.id,.int .i64 m.kind,.int .u32 m.label,.int .u8 m.m0,.int .u8 m.m1,.int .u8 m.m2,.int .u8 m.m3,.int .u8 m.m4,.int .u8 m.m5,.int .u8 m.m6,.int .u8 m.m7,
 .int .u32 m.first,.int .u32 m.last,.int .i64 m.size,.int .i64 m.chunks]
def Mf.gv(m:Mf):Nat->Int
 |0=>m.m0|1=>m.m1|2=>m.m2|3=>m.m3|4=>m.m4|5=>m.m5|6=>m.m6|7=>m.m7|_=>0
structure Mf.Ok(m:Mf):Prop where
 id:aR .u64 m.id
 kind:aR .i64 m.kind
 label:aR .u32 m.label
 gv:∀i,0<=m.gv i/\m.gv i<=255
 first:aR .u32 m.first
 last:aR .u32 m.last
 size:aR .i64 m.size
 chunks:aR .i64 m.chunks
end Go.UM
namespace Go.UM
open Go.AM
set_option maxRecDepth 4000
structure Rw where
 h:Int
 f:Mf
 a:As
def Rw.row(r:Rw):List AV:=[.int .i64 r.h,.int .u64 r.f.id,.int .i64 r.f.kind,.int .u32 r.f.label,.int .u8 r.f.m0,.int .u8 r.f.m1,.int .u8 r.f.m2,.int .u8 r.f.m3,.int .u8 r.f.m4,.int .u8 r.f.m5,.int .u8 r.f.m6,.int .u8 r.f.m7,
 .int .u32 r.f.first,.int .u32 r.f.last,.int .i64 r.f.size,.int .i64 r.f.chunks,.int .i64 r.a.k,.aD 3 (bW r.a.m.v),.aD 2 (dH r.a.m.uv),.aD 3 (bW r.a.m.t),.int .i64 r.a.x.side,.aD 3 (bW r.a.x.t),
 .int .i64 r.a.mt.k,.int .i64 r.a.mt.c.a,.int .i64 r.a.mt.c.b,.int .i64 r.a.mt.c.c,.int .i64 r.a.mt.r,
 .int .i64 r.a.li.k,.int .i64 r.a.li.c.a,.int .i64 r.a.li.c.b,.int .i64 r.a.li.c.c,.int .i64 r.a.li.p.a,.int .i64 r.a.li.p.b,.int .i64 r.a.li.p.c,.int .i64 r.a.li.u.a,.int .i64 r.a.li.u.b,.int .i64 r.a.li.u.c,.int .i64 r.a.li.v.a,.int .i64 r.a.li.v.b,.int .i64 r.a.li.v.c]
def gT(l:List Rw):List (List AV):=l.map Rw.row
@[simp] theorem oy(l:List Rw):(gT l).length=l.length:=by simp[gT]
@[simp] theorem ZH(l:List Rw):ox (gT l):=by simp[gT,Rw.row]
instance {l:List Rw}:iU (gT l) l.length:=⟨oy l⟩
end Go.UM
namespace Go.UM
open Go.AM
set_option maxRecDepth 4000
deriving instance DecidableEq for T3
deriving instance DecidableEq for fk
deriving instance DecidableEq for eV
theorem T3.eq_iff{x y:T3}:(x.a==y.a&&(x.b==y.b&&x.c==y.c))=true↔x=y:=by
 cases x; cases y; simp
theorem T3.ne_iff{x y:T3}:(x.a==y.a&&(x.b==y.b&&x.c==y.c))=false↔x≠y:=by
 rw[<-Bool.not_eq_true,T3.eq_iff]
theorem P2.eq_iff{x y:Int × Int}:(x.1==y.1&&x.2==y.2)=true↔x=y:=by
 cases x; cases y; simp
theorem P2.ne_iff{x y:Int × Int}:(x.1==y.1&&x.2==y.2)=false↔x≠y:=by
 rw[<-Bool.not_eq_true,P2.eq_iff]
theorem Dk{α:Type}{l l':List α}{i:Nat}{x y:α}(h:l[i]? =some x)(h':l'[i]? =some y)(hn:x≠y):l≠l':=by
 intro e; subst e; rw[h]at h'; exact hn (Option.some.inj h')
theorem jb{α:Type}{l l':List α}{i:Nat}{x:α}(h:l[i]? =some x)(h':l'[i]? =some x)(e:l.take i=l'.take i):l.take (i+1)=l'.take (i+1):=by
 rw[ao h,ao h',e]
theorem lC{α:Type}{l l':List α}{i:Nat}(h:l.take i=l'.take i)(hi:l.length<=i)(e:l.length=l'.length):l=l':=by
 rwa[List.take_of_length_le hi,List.take_of_length_le (by omega)]at h
theorem IC{R:Env}(h:PU R)(l l':List T3)(hl:l.length<=1073741824):R.Pc 315 [.aD 3 (bW l),.aD 3 (bW l')] (.bool (decide (l=l'))):=
 h.VP.enter 100 rfl fun X bb hfit hp=>by
  refine sh ?_
  refine cS (fun h1=> ?_) (fun h1=> ?_)
  ·refine sh ?_
   refine rT ?_
   refine bj ?_
   refine (decide_eq_false ?_).symm
   exact fun e=>h1 (by simp[e])
  ·refine sh ?_
   refine eH 100 (fun i:Nat=>i<=l.length/\l.take i=l'.take i) (fun i=>⟨[(0,.aD 3 (bW l)),(1,.aD 3 (bW l')),(12,.int .i64 l.length),(13,.int .i64 i)],[],0⟩) (fun i=>l.length - i) (0) ?_ ?_
   ·exact⟨Nat.zero_le _,rfl⟩
   ·intro i hi
    dsimp only
    refine sh ?_
    refine cS (fun h2=> ?_) (fun h2=> ?_)
    ·obtain⟨x,hx⟩:∃u,l[i]? =some u:=⟨_,List.getElem?_eq_getElem (by omega)⟩
     obtain⟨y,hy⟩:∃u,l'[i]? =some u:=⟨_,List.getElem?_eq_getElem (by omega)⟩
     refine sh ?_
     refine aa hx ?_
     refine sh ?_
     refine aa hy ?_
     refine sh ?_
     refine cS (fun h3=> ?_) (fun h3=> ?_)
     ·refine sh ?_
      refine rT ?_
      refine bj ?_
      refine (decide_eq_false ?_).symm
      exact Dk hx hy (T3.ne_iff.1 h3)
     ·have e:=T3.eq_iff.1 h3
      subst e
      refine sh ?_
      refine lO (i+1) ?_ ?_
      ·exact⟨by omega,jb hx hy hi.2⟩
      ·omega
    ·refine sh ?_
     refine rT ?_
     refine bj ?_
     refine (decide_eq_true ?_).symm
     exact lC hi.2 (by omega) (by omega)
theorem Ab{R:Env}(h:PW R)(l l':List T3)(hl:l.length<=1073741824):R.Pc 317 [.aD 3 (bW l),.aD 3 (bW l')] (.bool (decide (l=l'))):=
 h.PX.enter 100 rfl fun X bb hfit hp=>by
  refine sh ?_
  refine cS (fun h1=> ?_) (fun h1=> ?_)
  ·refine sh ?_
   refine rT ?_
   refine bj ?_
   refine (decide_eq_false ?_).symm
   exact fun e=>h1 (by simp[e])
  ·refine sh ?_
   refine eH 100 (fun i:Nat=>i<=l.length/\l.take i=l'.take i) (fun i=>⟨[(0,.aD 3 (bW l)),(1,.aD 3 (bW l')),(12,.int .i64 l.length),(13,.int .i64 i)],[],0⟩) (fun i=>l.length - i) (0) ?_ ?_
   ·exact⟨Nat.zero_le _,rfl⟩
   ·intro i hi
    dsimp only
    refine sh ?_
    refine cS (fun h2=> ?_) (fun h2=> ?_)
    ·obtain⟨x,hx⟩:∃u,l[i]? =some u:=⟨_,List.getElem?_eq_getElem (by omega)⟩
     obtain⟨y,hy⟩:∃u,l'[i]? =some u:=⟨_,List.getElem?_eq_getElem (by omega)⟩
     refine sh ?_
     refine aa hx ?_
     refine sh ?_
     refine aa hy ?_
     refine sh ?_
     refine cS (fun h3=> ?_) (fun h3=> ?_)
     ·refine sh ?_
      refine rT ?_
      refine bj ?_
      refine (decide_eq_false ?_).symm
      exact Dk hx hy (T3.ne_iff.1 h3)
     ·have e:=T3.eq_iff.1 h3
      subst e
      refine sh ?_
      refine lO (i+1) ?_ ?_
      ·exact⟨by omega,jb hx hy hi.2⟩
      ·omega
    ·refine sh ?_
     refine rT ?_
     refine bj ?_
     refine (decide_eq_true ?_).symm
     exact lC hi.2 (by omega) (by omega)
theorem ID{R:Env}(h:PV R)(l l':List (Int × Int))(hl:l.length<=1073741824):R.Pc 316 [.aD 2 (dH l),.aD 2 (dH l')] (.bool (decide (l=l'))):=
 h.VR.enter 100 rfl fun X bb hfit hp=>by
  refine sh ?_
  refine cS (fun h1=> ?_) (fun h1=> ?_)
  ·refine sh ?_
   refine rT ?_
   refine bj ?_
   refine (decide_eq_false ?_).symm
   exact fun e=>h1 (by simp[e])
  ·refine sh ?_
   refine eH 100 (fun i:Nat=>i<=l.length/\l.take i=l'.take i) (fun i=>⟨[(0,.aD 2 (dH l)),(1,.aD 2 (dH l')),(12,.int .i64 l.length),(13,.int .i64 i)],[],0⟩) (fun i=>l.length - i) (0) ?_ ?_
   ·exact⟨Nat.zero_le _,rfl⟩
   ·intro i hi
    dsimp only
    refine sh ?_
    refine cS (fun h2=> ?_) (fun h2=> ?_)
    ·obtain⟨x,hx⟩:∃u,l[i]? =some u:=⟨_,List.getElem?_eq_getElem (by omega)⟩
     obtain⟨y,hy⟩:∃u,l'[i]? =some u:=⟨_,List.getElem?_eq_getElem (by omega)⟩
     refine sh ?_
     refine aa hx ?_
     refine sh ?_
     refine aa hy ?_
     refine sh ?_
     refine cS (fun h3=> ?_) (fun h3=> ?_)
     ·refine sh ?_
      refine rT ?_
      refine bj ?_
      refine (decide_eq_false ?_).symm
      exact Dk hx hy (P2.ne_iff.1 h3)
     ·have e:=P2.eq_iff.1 h3
      subst e
      refine sh ?_
      refine lO (i+1) ?_ ?_
      ·exact⟨by omega,jb hx hy hi.2⟩
      ·omega
    ·refine sh ?_
     refine rT ?_
     refine bj ?_
     refine (decide_eq_true ?_).symm
     exact lC hi.2 (by omega) (by omega)
theorem fk.eq_iff{x y:fk}:(x.k==y.k&&(x.c.a==y.c.a&&(x.c.b==y.c.b&&(x.c.c==y.c.c&&x.r==y.r))))=true↔x=y:=by
 obtain⟨_,⟨_,_,_⟩,_⟩:=x; obtain⟨_,⟨_,_,_⟩,_⟩:=y; simp[and_assoc]
theorem fk.ne_iff{x y:fk}:(x.k==y.k&&(x.c.a==y.c.a&&(x.c.b==y.c.b&&(x.c.c==y.c.c&&x.r==y.r))))=false↔x≠y:=by
 rw[<-Bool.not_eq_true,fk.eq_iff]
theorem eV.eq_iff{x y:eV}:(x.k==y.k&&(x.c.a==y.c.a&&(x.c.b==y.c.b&&(x.c.c==y.c.c&&(x.p.a==y.p.a&&(x.p.b==y.p.b&&(x.p.c==y.p.c&&(x.u.a==y.u.a&&(x.u.b==y.u.b&&(x.u.c==y.u.c&&(x.v.a==y.v.a&&(x.v.b==y.v.b&&x.v.c==y.v.c))))))))))))=true↔x=y:=by
 obtain⟨_,⟨_,_,_⟩,⟨_,_,_⟩,⟨_,_,_⟩,⟨_,_,_⟩⟩:=x; obtain⟨_,⟨_,_,_⟩,⟨_,_,_⟩,⟨_,_,_⟩,⟨_,_,_⟩⟩:=y; simp[and_assoc]
theorem eV.ne_iff{x y:eV}:(x.k==y.k&&(x.c.a==y.c.a&&(x.c.b==y.c.b&&(x.c.c==y.c.c&&(x.p.a==y.p.a&&(x.p.b==y.p.b&&(x.p.c==y.p.c&&(x.u.a==y.u.a&&(x.u.b==y.u.b&&(x.u.c==y.u.c&&(x.v.a==y.v.a&&(x.v.b==y.v.b&&x.v.c==y.v.c))))))))))))=false↔x≠y:=by
 rw[<-Bool.not_eq_true,eV.eq_iff]
structure As.Gh(a:As):Prop where
 v:a.m.v.length<=1000
 uv:a.m.uv.length<=1000
 t:a.m.t.length<=1000
 x:a.x.t.length<=1000
def dJ(a b:As):Bool:=decide (a.k=b.k/\a.mt=b.mt/\a.li=b.li/\a.x.side=b.x.side/\a.m.v=b.m.v/\a.m.uv=b.m.uv/\a.m.t=b.m.t/\a.x.t=b.x.t)
theorem RN{R:Env}(h:PY R)(a b:As)(f:a.Gh):R.Pc 298 [.agg a.row,.agg b.row] (.bool (dJ a b)):=
 h.VU.enter 100 rfl fun X bb hfit hp=>by
  refine sh ?_
  refine cS (fun h1=> ?_) (fun h1=> ?_)
  ·refine sh ?_
   refine rT ?_
   refine bj ?_
   exact (decide_eq_false fun e=>h1 e.1).symm
  ·refine sh ?_
   refine cS (fun h2=> ?_) (fun h2=> ?_)
   ·refine sh ?_
    refine rT ?_
    refine bj ?_
    exact (decide_eq_false fun e=>fk.ne_iff.1 h2 e.2.1).symm
   ·refine sh ?_
    refine cS (fun h3=> ?_) (fun h3=> ?_)
    ·refine sh ?_
     refine rT ?_
     refine bj ?_
     exact (decide_eq_false fun e=>eV.ne_iff.1 h3 e.2.2.1).symm
    ·refine sh ?_
     refine cS (fun h4=> ?_) (fun h4=> ?_)
     ·refine sh ?_
      refine rT ?_
      refine bj ?_
      exact (decide_eq_false fun e=>h4 e.2.2.2.1).symm
     ·refine sh ?_
      refine ae.pure h.n315.VP.hb (IC h.n315 a.m.v b.m.v (by have:=f.v; omega)) rfl ?_
      refine sh ?_
      refine cS (fun h5=> ?_) (fun h5=> ?_)
      ·refine sh ?_
       refine ae.pure h.n316.VR.hb (ID h.n316 a.m.uv b.m.uv (by have:=f.uv; omega)) rfl ?_
       refine sh ?_
       refine cS (fun h6=> ?_) (fun h6=> ?_)
       ·refine sh ?_
        refine ae.pure h.n317.PX.hb (Ab h.n317 a.m.t b.m.t (by have:=f.t; omega)) rfl ?_
        refine sh ?_
        refine cS (fun h7=> ?_) (fun h7=> ?_)
        ·refine sh ?_
         refine ae.pure h.n317.PX.hb (Ab h.n317 a.x.t b.x.t (by have:=f.x; omega)) rfl ?_
         refine sh ?_
         refine rT ?_
         refine bj ?_
         simp[dJ,h1,fk.eq_iff.1 h2,eV.eq_iff.1 h3,h4,h5,h6,h7]
        ·refine sh ?_
         refine rT ?_
         refine bj ?_
         exact (decide_eq_false fun e=>h7 e.2.2.2.2.2.2.1).symm
       ·refine sh ?_
        refine rT ?_
        refine bj ?_
        exact (decide_eq_false fun e=>h6 e.2.2.2.2.2.1).symm
      ·refine sh ?_
       refine rT ?_
       refine bj ?_
       exact (decide_eq_false fun e=>h5 e.2.2.2.2.1).symm
theorem FC{R:Env}(h:N89 R)(t u:dN)(hl:t.t.length<=1000):R.Pc 89 [.agg t.row,.agg u.row] (.bool (decide (t.side=u.side/\t.t=u.t))):=
 h.o89.enter 200 rfl fun X bb hfit hp=>by
  refine sh ?_
  refine cS (fun h1=> ?_) (fun h1=> ?_)
  ·refine sh ?_
   refine rT ?_
   refine bj ?_
   exact (decide_eq_false fun e=>h1 e.1).symm
  ·refine sh ?_
   refine cS (fun h2=> ?_) (fun h2=> ?_)
   ·refine sh ?_
    refine rT ?_
    refine bj ?_
    exact (decide_eq_false fun e=>h2 (by rw[e.2])).symm
   ·refine sh ?_
    refine eH 100 (fun i:Nat=>i<=t.t.length/\t.t.take i=u.t.take i) (fun i=>⟨[(2,.loc 0 1 0 0),(3,.loc 1 1 0 0),(5,.int .i64 i)],[(0,.var (R.ty 12) t.row),(1,.var (R.ty 12) u.row)],2⟩) (fun i=>t.t.length - i) (0) ?_ ?_
    ·exact⟨Nat.zero_le _,rfl⟩
    ·intro i hi
     dsimp only
     refine sh ?_
     refine cS (fun g1=> ?_) (fun g1=> ?_)
     ·obtain⟨x,hx⟩:∃v,t.t[i]? =some v:=⟨_,List.getElem?_eq_getElem (by omega)⟩
      obtain⟨y,hy⟩:∃v,u.t[i]? =some v:=⟨_,List.getElem?_eq_getElem (by omega)⟩
      refine sh ?_
      refine aa hx ?_
      refine sh ?_
      refine aa hy ?_
      refine sh ?_
      refine cS (fun g2=> ?_) (fun g2=> ?_)
      ·refine sh ?_
       refine rT ?_
       refine bj ?_
       exact (decide_eq_false fun e=>Dk hx hy (T3.ne_iff.1 g2) e.2).symm
      ·have e:=T3.eq_iff.1 g2
       subst e
       refine sh ?_
       refine lO (i+1) ?_ ?_
       ·exact⟨by omega,jb hx hy hi.2⟩
       ·omega
     ·have et:=lC hi.2 (by omega) (by omega)
      refine sh ?_
      refine rT ?_
      refine bj ?_
      exact (decide_eq_true ⟨h1,et⟩).symm
end Go.UM
namespace Go.UM
open Go.AM
set_option maxRecDepth 4000
def cap(k:Int):Int:=if k=1 then 2048 else if k=2 then 1024 else if k=3\/ k=4 then 64 else 0
theorem X9{R:Env}(h:N37 R)(k:Int):R.Pc 37 [.int .i64 k] (.int .i64 (cap k)):=
 h.o37.enter 60 rfl fun X b hfit hp=>by
  refine sh ?_
  refine cS (fun h1=> ?_) (fun h1=> ?_)
  ·refine sh ?_
   refine rT ?_
   refine bj ?_
   simp[cap]; omega
  ·refine sh ?_
   refine cS (fun h2=> ?_) (fun h2=> ?_)
   ·refine sh ?_
    refine rT ?_
    refine bj ?_
    simp[cap]; omega
   ·refine st ?_
    obtain h3|h3|h3|h3|h3:k=0\/ k=1\/ k=2\/ k=3\/ k=4:=by omega
    all_goals subst h3
    ·refine sh ?_
     exact rT
    ·refine sh ?_
     exact rT
    ·refine sh ?_
     exact rT
    ·refine sh ?_
     exact rT
    ·refine sh ?_
     exact rT
theorem xX{R:Env}(h:N38 R)(k:Int):R.Pc 38 [.int .i64 k] (.int .i64 (cap k)):=
 h.W5.enter 60 rfl fun X b hfit hp=>by
  refine sh ?_
  refine cS (fun h1=> ?_) (fun h1=> ?_)
  ·refine sh ?_
   refine rT ?_
   refine bj ?_
   simp[cap,h1]
  ·refine sh ?_
   refine cS (fun h2=> ?_) (fun h2=> ?_)
   ·refine sh ?_
    refine rT ?_
    refine bj ?_
    simp[cap,h1,h2]
   ·refine sh ?_
    refine cS (fun h3=> ?_) (fun h3=> ?_)
    ·refine sh ?_
     refine rT ?_
     refine bj ?_
     simp[cap,h3]
    ·refine sh ?_
     refine cS (fun h4=> ?_) (fun h4=> ?_)
     ·refine sh ?_
      refine rT ?_
      refine bj ?_
      simp[cap,h4]
     ·refine sh ?_
      refine rT ?_
      refine bj ?_
      simp[cap,h1,h2,h3,h4]
end Go.UM
namespace Go.UM
open Go.AM
set_option maxRecDepth 4000
def vn:Ms:=⟨[],[],[]⟩
def zTx:dN:=⟨0,[]⟩
def qn:fk:=⟨0,z3,0⟩
def mD:eV:=⟨0,z3,z3,z3,z3⟩
def As.zero(k:Int):As:=⟨k,vn,zTx,qn,mD⟩
def As.bare(a:As):As:=if a.k=1 then {a with m:=vn} else if a.k=2 then {a with x:=zTx} else if a.k=3 then {a with mt:=qn} else if a.k=4 then {a with li:=mD} else a
def dK(a:As):Int:=if own a≠0 then own a else if dJ a.bare (As.zero a.k)=false then 5 else if cap a.k< (gN a).length then 9 else 0
theorem X'{R:Env}(h:PZ R)(a:As)(fx:a.x.t.length<=1000):R.Pc 309 [.agg a.row] (.int .i64 (own a)):=
 h.VW.enter 100 rfl fun X bb hfit hp=>by
  unfold own
  refine sh ?_
  refine cS (fun h1=> ?_) (fun h1=> ?_)
  ·rw[if_pos h1]
   refine sh ?_
   refine ae.pure h.n193.PM.hb (zZ h.n193 a.m) rfl ?_
   refine sh ?_
   exact rT
  ·rw[if_neg h1]
   refine sh ?_
   refine cS (fun h2=> ?_) (fun h2=> ?_)
   ·rw[if_pos h2]
    refine sh ?_
    refine ae.pure h.NI.o84.hb (IA h.NI a.x (by omega)) rfl ?_
    refine sh ?_
    exact rT
   ·rw[if_neg h2]
    refine sh ?_
    refine cS (fun h3=> ?_) (fun h3=> ?_)
    ·rw[if_pos h3]
     refine sh ?_
     refine ae.pure h.n290.VK.hb (RH h.n290 a.mt) rfl ?_
     refine sh ?_
     exact rT
    ·rw[if_neg h3]
     refine sh ?_
     refine cS (fun h4=> ?_) (fun h4=> ?_)
     ·rw[if_pos h4]
      refine sh ?_
      refine ae.pure h.n292.VN.hb (RJ h.n292 a.li) rfl ?_
      refine sh ?_
      exact rT
     ·rw[if_neg h4]
      refine sh ?_
      exact rT
theorem RO{R:Env}(h:P0 R)(a:As):R.Pc 310 [.agg a.row] (.agg a.bare.row):=
 h.VY.enter 100 rfl fun X bb hfit hp=>by
  unfold As.bare
  refine sh ?_
  refine cS (fun h1=> ?_) (fun h1=> ?_)
  ·rw[if_pos h1]
   refine sh ?_
   exact rT
  ·rw[if_neg h1]
   refine sh ?_
   refine cS (fun h2=> ?_) (fun h2=> ?_)
   ·rw[if_pos h2]
    refine sh ?_
    exact rT
   ·rw[if_neg h2]
    refine sh ?_
    refine cS (fun h3=> ?_) (fun h3=> ?_)
    ·rw[if_pos h3]
     refine sh ?_
     exact rT
    ·rw[if_neg h3]
     refine sh ?_
     refine cS (fun h4=> ?_) (fun h4=> ?_)
     ·rw[if_pos h4]
      refine sh ?_
      exact rT
     ·rw[if_neg h4]
      refine sh ?_
      exact rT
theorem FD{R:Env}(h:P3 R)(a:As)(fx:a.x.t.length<=1000)(f:a.bare.Gh):R.Pc 294 [.agg a.row] (.int .i64 (dK a)):=
 h.V2.enter 100 rfl fun X bb hfit hp=>by
  refine sh ?_
  refine ae.pure h.n309.VW.hb (X' h.n309 a fx) rfl ?_
  generalize hq:dK a=q
  refine sh ?_
  refine cS (fun h1=> ?_) (fun h1=> ?_)
  ·rw[dK,if_pos h1]at hq
   subst hq
   refine sh ?_
   exact rT
  ·rw[dK,if_neg (by simpa using h1)]at hq
   have ok:=h1
   refine sh ?_
   refine cM false [] ((RO h.n310 a).mc h.n310.VY.hb) ?_
   repeat (intro _; first|refine eK ?_|refine eP ?_)
   refine sh ?_
   refine cM false [] ((RN h.n298 a.bare (As.zero a.k) f).mc h.n298.VU.hb) ?_
   repeat (intro _; first|refine eK ?_|refine eP ?_)
   refine sh ?_
   refine cS (fun h2=> ?_) (fun h2=> ?_)
   ·rw[if_pos (by simpa using h2)]at hq
    subst hq
    refine sh ?_
    exact rT
   ·rw[if_neg (by simpa using h2)]at hq
    refine sh ?_
    refine ae.pure h.n311.V0.hb (IB h.n311 a (by omega) ok) rfl ?_
    refine sh ?_
    refine ae.pure h.n37.o37.hb (X9 h.n37 a.k) rfl ?_
    refine sh ?_
    refine cS (fun h3=> ?_) (fun h3=> ?_)
    ·rw[if_pos h3]at hq
     subst hq
     refine sh ?_
     exact rT
    ·rw[if_neg (by omega)]at hq
     subst hq
     refine sh ?_
     exact rT
def ui(m:Ms):Bool:=decide (0<m.v.length+m.uv.length+m.t.length)
def Ad(x:dN):Bool:=decide (x.side≠0\/ 0<x.t.length)
theorem xY{R:Env}(h:QQ R)(m:Ms)(h1:m.v.length<=1000)(h2:m.uv.length<=1000)(h3:m.t.length<=1000):R.Pc 313 [.agg m.row] (.bool (ui m)):=
 h.LD.enter 60 rfl fun X bb hfit hp=>by
  refine sh ?_
  refine rT ?_
  refine bj ?_
  rw[Bool.eq_iff_iff]; simp only[ui,decide_eq_true_eq]; omega
theorem Cf{R:Env}(h:QP R)(x:dN):R.Pc 312 [.agg x.row] (.bool (Ad x)):=
 h.LC.enter 60 rfl fun X bb hfit hp=>by
  refine sh ?_
  refine cS (fun h1=> ?_) (fun h1=> ?_)
  ·refine sh ?_
   refine rT ?_
   refine bj ?_
   simp[Ad,h1]
  ·refine sh ?_
   refine rT ?_
   refine bj ?_
   simp[Ad,h1]
theorem uj{m:Ms}:ui m=false↔m.v=[]/\m.uv=[]/\m.t=[]:=by
 simp only[ui,decide_eq_false_iff_not,<-List.length_eq_zero_iff]; omega
theorem xZ{x:dN}:Ad x=false↔x.side=0/\x.t=[]:=by
 simp only[Ad,decide_eq_false_iff_not,<-List.length_eq_zero_iff]; omega
theorem Dl{a:As}(h:a.k=1):dJ a.bare (As.zero a.k)=decide (Ad a.x=false/\a.mt=qn/\a.li=mD):=by
 rw[dJ,As.bare,if_pos h,Bool.eq_iff_iff,decide_eq_true_eq,decide_eq_true_eq,xZ]
 exact⟨fun⟨_,e2,e3,e4,_,_,_,e8⟩=>⟨⟨e4,e8⟩,e2,e3⟩,fun⟨⟨e4,e8⟩,e2,e3⟩=>⟨rfl,e2,e3,e4,rfl,rfl,rfl,e8⟩⟩
theorem Dm{a:As}(h:a.k=2):dJ a.bare (As.zero a.k)=decide (ui a.m=false/\a.mt=qn/\a.li=mD):=by
 rw[dJ,As.bare,if_neg (by omega),if_pos h,Bool.eq_iff_iff,decide_eq_true_eq,decide_eq_true_eq,uj]
 exact⟨fun⟨_,e2,e3,_,e5,e6,e7,_⟩=>⟨⟨e5,e6,e7⟩,e2,e3⟩,fun⟨⟨e5,e6,e7⟩,e2,e3⟩=>⟨rfl,e2,e3,rfl,e5,e6,e7,rfl⟩⟩
theorem Do{a:As}(h:a.k=3):dJ a.bare (As.zero a.k)=decide (ui a.m=false/\Ad a.x=false/\a.li=mD):=by
 rw[dJ,As.bare,if_neg (by omega),if_neg (by omega),if_pos h,Bool.eq_iff_iff,decide_eq_true_eq,decide_eq_true_eq,uj,xZ]
 exact⟨fun⟨_,_,e3,e4,e5,e6,e7,e8⟩=>⟨⟨e5,e6,e7⟩,⟨e4,e8⟩,e3⟩,fun⟨⟨e5,e6,e7⟩,⟨e4,e8⟩,e3⟩=>⟨rfl,rfl,e3,e4,e5,e6,e7,e8⟩⟩
theorem Dp{a:As}(h:a.k=4):dJ a.bare (As.zero a.k)=decide (ui a.m=false/\Ad a.x=false/\a.mt=qn):=by
 rw[dJ,As.bare,if_neg (by omega),if_neg (by omega),if_neg (by omega),if_pos h,Bool.eq_iff_iff,decide_eq_true_eq,decide_eq_true_eq,uj,xZ]
 exact⟨fun⟨_,e2,_,e4,e5,e6,e7,e8⟩=>⟨⟨e5,e6,e7⟩,⟨e4,e8⟩,e2⟩,fun⟨⟨e5,e6,e7⟩,⟨e4,e8⟩,e2⟩=>⟨rfl,e2,rfl,e4,e5,e6,e7,e8⟩⟩
theorem IE{R:Env}(h:QS R)(a:As)(f:a.Gh):R.Pc 295 [.agg a.row] (.int .i64 (dK a)):=
 h.Xj.enter 100 rfl fun X bb hfit hp=>by
  generalize hq:dK a=q
  refine sh ?_
  refine cS (fun h1=> ?_) (fun h1=> ?_)
  ·have ow:own a=lW a.m:=by simp[own,h1]
   refine sh ?_
   refine ae.pure h.n198.QK.hb (tZ h.n198 a.m) rfl ?_
   refine sh ?_
   refine ae.pure h.n312.LC.hb (Cf h.n312 a.x) rfl ?_
   refine sh ?_
   refine cS (fun t1=> ?_) (fun t1=> ?_)
   ·have hz:dJ a.bare (As.zero a.k)=false:=by simp[Dl h1,t1]
    refine sh ?_
    refine cS (fun c1=> ?_) (fun c1=> ?_)
    ·rw[dK,ow,if_pos c1]at hq
     subst hq
     refine sh ?_
     exact rT
    ·rw[dK,ow,if_neg (by simpa using c1),if_pos hz]at hq
     subst hq
     refine sh ?_
     exact rT
   ·refine sh ?_
    refine cS (fun t2=> ?_) (fun t2=> ?_)
    ·have hz:dJ a.bare (As.zero a.k)=false:=by simp[Dl h1,fk.ne_iff (y:=qn) |>.1 t2]
     refine sh ?_
     refine cS (fun c1=> ?_) (fun c1=> ?_)
     ·rw[dK,ow,if_pos c1]at hq
      subst hq
      refine sh ?_
      exact rT
     ·rw[dK,ow,if_neg (by simpa using c1),if_pos hz]at hq
      subst hq
      refine sh ?_
      exact rT
    ·have z1:= @eV.ne_iff a.li mD
     have z2:= @eV.eq_iff a.li mD
     have hz:a.li≠mD->dJ a.bare (As.zero a.k)=false:=fun c=>by simp[Dl h1,c]
     have hn:a.li=mD->dJ a.bare (As.zero a.k)=true:=fun c=>by simp[Dl h1,t1,fk.eq_iff (y:=qn) |>.1 t2,c]
     refine sh ?_
     refine cS (fun c1=> ?_) (fun c1=> ?_)
     ·rw[dK,ow,if_pos c1]at hq
      subst hq
      refine sh ?_
      exact rT
     ·have ok:own a=0:=ow.trans c1
      rw[dK,ow,if_neg (by simpa using c1)]at hq
      refine sh ?_
      refine cS (fun c2=> ?_) (fun c2=> ?_)
      ·rw[if_pos (hz (z1.1 c2))]at hq
       subst hq
       refine sh ?_
       exact rT
      ·rw[if_neg (by simpa using hn (z2.1 c2))]at hq
       refine sh ?_
       refine ae.pure h.n314.H4.hb (r4 h.n314 a (by have:=f.x; omega) ok) rfl ?_
       refine sh ?_
       refine ae.pure h.n38.W5.hb (xX h.n38 a.k) rfl ?_
       refine sh ?_
       refine cS (fun c3=> ?_) (fun c3=> ?_)
       ·rw[if_pos c3]at hq
        subst hq
        refine sh ?_
        exact rT
       ·rw[if_neg (by omega)]at hq
        subst hq
        refine sh ?_
        exact rT
  ·refine sh ?_
   refine cS (fun h2=> ?_) (fun h2=> ?_)
   ·have ow:own a=ik a.x:=by simp[own,h2]
    refine sh ?_
    refine ae.pure h.NK.o85.hb (Di h.NK a.x (by have:=f.x; omega)) rfl ?_
    refine sh ?_
    refine ae.pure h.n313.LD.hb (xY h.n313 a.m f.v f.uv f.t) rfl ?_
    refine sh ?_
    refine cS (fun t1=> ?_) (fun t1=> ?_)
    ·have hz:dJ a.bare (As.zero a.k)=false:=by simp[Dm h2,t1]
     refine sh ?_
     refine cS (fun c1=> ?_) (fun c1=> ?_)
     ·rw[dK,ow,if_pos c1]at hq
      subst hq
      refine sh ?_
      exact rT
     ·rw[dK,ow,if_neg (by simpa using c1),if_pos hz]at hq
      subst hq
      refine sh ?_
      exact rT
    ·refine sh ?_
     refine cS (fun t2=> ?_) (fun t2=> ?_)
     ·have hz:dJ a.bare (As.zero a.k)=false:=by simp[Dm h2,fk.ne_iff (y:=qn) |>.1 t2]
      refine sh ?_
      refine cS (fun c1=> ?_) (fun c1=> ?_)
      ·rw[dK,ow,if_pos c1]at hq
       subst hq
       refine sh ?_
       exact rT
      ·rw[dK,ow,if_neg (by simpa using c1),if_pos hz]at hq
       subst hq
       refine sh ?_
       exact rT
     ·have z1:= @eV.ne_iff a.li mD
      have z2:= @eV.eq_iff a.li mD
      have hz:a.li≠mD->dJ a.bare (As.zero a.k)=false:=fun c=>by simp[Dm h2,c]
      have hn:a.li=mD->dJ a.bare (As.zero a.k)=true:=fun c=>by simp[Dm h2,t1,fk.eq_iff (y:=qn) |>.1 t2,c]
      refine sh ?_
      refine cS (fun c1=> ?_) (fun c1=> ?_)
      ·rw[dK,ow,if_pos c1]at hq
       subst hq
       refine sh ?_
       exact rT
      ·have ok:own a=0:=ow.trans c1
       rw[dK,ow,if_neg (by simpa using c1)]at hq
       refine sh ?_
       refine cS (fun c2=> ?_) (fun c2=> ?_)
       ·rw[if_pos (hz (z1.1 c2))]at hq
        subst hq
        refine sh ?_
        exact rT
       ·rw[if_neg (by simpa using hn (z2.1 c2))]at hq
        refine sh ?_
        refine ae.pure h.n314.H4.hb (r4 h.n314 a (by have:=f.x; omega) ok) rfl ?_
        refine sh ?_
        refine ae.pure h.n38.W5.hb (xX h.n38 a.k) rfl ?_
        refine sh ?_
        refine cS (fun c3=> ?_) (fun c3=> ?_)
        ·rw[if_pos c3]at hq
         subst hq
         refine sh ?_
         exact rT
        ·rw[if_neg (by omega)]at hq
         subst hq
         refine sh ?_
         exact rT
   ·refine sh ?_
    refine cS (fun h3=> ?_) (fun h3=> ?_)
    ·have ow:own a=jL a.mt:=by simp[own,h3]
     refine sh ?_
     refine ae.pure h.n291.Xc.hb (Mo h.n291 a.mt) rfl ?_
     refine sh ?_
     refine ae.pure h.n313.LD.hb (xY h.n313 a.m f.v f.uv f.t) rfl ?_
     refine sh ?_
     refine cS (fun t1=> ?_) (fun t1=> ?_)
     ·have hz:dJ a.bare (As.zero a.k)=false:=by simp[Do h3,t1]
      refine sh ?_
      refine cS (fun c1=> ?_) (fun c1=> ?_)
      ·rw[dK,ow,if_pos c1]at hq
       subst hq
       refine sh ?_
       exact rT
      ·rw[dK,ow,if_neg (by simpa using c1),if_pos hz]at hq
       subst hq
       refine sh ?_
       exact rT
     ·refine sh ?_
      refine ae.pure h.n312.LC.hb (Cf h.n312 a.x) rfl ?_
      refine sh ?_
      refine cS (fun t2=> ?_) (fun t2=> ?_)
      ·have hz:dJ a.bare (As.zero a.k)=false:=by simp[Do h3,t2]
       refine sh ?_
       refine cS (fun c1=> ?_) (fun c1=> ?_)
       ·rw[dK,ow,if_pos c1]at hq
        subst hq
        refine sh ?_
        exact rT
       ·rw[dK,ow,if_neg (by simpa using c1),if_pos hz]at hq
        subst hq
        refine sh ?_
        exact rT
      ·have z1:= @eV.ne_iff a.li mD
       have z2:= @eV.eq_iff a.li mD
       have hz:a.li≠mD->dJ a.bare (As.zero a.k)=false:=fun c=>by simp[Do h3,c]
       have hn:a.li=mD->dJ a.bare (As.zero a.k)=true:=fun c=>by simp[Do h3,t1,t2,c]
       refine sh ?_
       refine cS (fun c1=> ?_) (fun c1=> ?_)
       ·rw[dK,ow,if_pos c1]at hq
        subst hq
        refine sh ?_
        exact rT
       ·have ok:own a=0:=ow.trans c1
        rw[dK,ow,if_neg (by simpa using c1)]at hq
        refine sh ?_
        refine cS (fun c2=> ?_) (fun c2=> ?_)
        ·rw[if_pos (hz (z1.1 c2))]at hq
         subst hq
         refine sh ?_
         exact rT
        ·rw[if_neg (by simpa using hn (z2.1 c2))]at hq
         refine sh ?_
         refine ae.pure h.n314.H4.hb (r4 h.n314 a (by have:=f.x; omega) ok) rfl ?_
         refine sh ?_
         refine ae.pure h.n38.W5.hb (xX h.n38 a.k) rfl ?_
         refine sh ?_
         refine cS (fun c3=> ?_) (fun c3=> ?_)
         ·rw[if_pos c3]at hq
          subst hq
          refine sh ?_
          exact rT
         ·rw[if_neg (by omega)]at hq
          subst hq
          refine sh ?_
          exact rT
    ·refine sh ?_
     refine cS (fun h4=> ?_) (fun h4=> ?_)
     ·have ow:own a=kO a.li:=by simp[own,h4]
      refine sh ?_
      refine ae.pure h.n293.Xe.hb (Mp h.n293 a.li) rfl ?_
      refine sh ?_
      refine ae.pure h.n313.LD.hb (xY h.n313 a.m f.v f.uv f.t) rfl ?_
      refine sh ?_
      refine cS (fun t1=> ?_) (fun t1=> ?_)
      ·have hz:dJ a.bare (As.zero a.k)=false:=by simp[Dp h4,t1]
       refine sh ?_
       refine cS (fun c1=> ?_) (fun c1=> ?_)
       ·rw[dK,ow,if_pos c1]at hq
        subst hq
        refine sh ?_
        exact rT
       ·rw[dK,ow,if_neg (by simpa using c1),if_pos hz]at hq
        subst hq
        refine sh ?_
        exact rT
      ·refine sh ?_
       refine ae.pure h.n312.LC.hb (Cf h.n312 a.x) rfl ?_
       refine sh ?_
       refine cS (fun t2=> ?_) (fun t2=> ?_)
       ·have hz:dJ a.bare (As.zero a.k)=false:=by simp[Dp h4,t2]
        refine sh ?_
        refine cS (fun c1=> ?_) (fun c1=> ?_)
        ·rw[dK,ow,if_pos c1]at hq
         subst hq
         refine sh ?_
         exact rT
        ·rw[dK,ow,if_neg (by simpa using c1),if_pos hz]at hq
         subst hq
         refine sh ?_
         exact rT
       ·have z1:= @fk.ne_iff a.mt qn
        have z2:= @fk.eq_iff a.mt qn
        have hz:a.mt≠qn->dJ a.bare (As.zero a.k)=false:=fun c=>by simp[Dp h4,c]
        have hn:a.mt=qn->dJ a.bare (As.zero a.k)=true:=fun c=>by simp[Dp h4,t1,t2,c]
        refine sh ?_
        refine cS (fun c1=> ?_) (fun c1=> ?_)
        ·rw[dK,ow,if_pos c1]at hq
         subst hq
         refine sh ?_
         exact rT
        ·have ok:own a=0:=ow.trans c1
         rw[dK,ow,if_neg (by simpa using c1)]at hq
         refine sh ?_
         refine cS (fun c2=> ?_) (fun c2=> ?_)
         ·rw[if_pos (hz (z1.1 c2))]at hq
          subst hq
          refine sh ?_
          exact rT
         ·rw[if_neg (by simpa using hn (z2.1 c2))]at hq
          refine sh ?_
          refine ae.pure h.n314.H4.hb (r4 h.n314 a (by have:=f.x; omega) ok) rfl ?_
          refine sh ?_
          refine ae.pure h.n38.W5.hb (xX h.n38 a.k) rfl ?_
          refine sh ?_
          refine cS (fun c3=> ?_) (fun c3=> ?_)
          ·rw[if_pos c3]at hq
           subst hq
           refine sh ?_
           exact rT
          ·rw[if_neg (by omega)]at hq
           subst hq
           refine sh ?_
           exact rT
     ·rw[dK,own,if_neg h1,if_neg h2,if_neg h3,if_neg h4,if_pos (by decide)]at hq
      subst hq
      refine sh ?_
      refine af (by decide) ?_
      refine sh ?_
      exact rT
end Go.UM
namespace Go.UM
open Go.AM
set_option maxRecDepth 4000
structure Tb where
 rows:List Rw
 ins:List In
def vp(r:Rw):List AV:= .int .i64 r.h::r.row
def iI(l:List Rw):List (List AV):=l.map vp
@[simp] theorem RP(l:List Rw):(iI l).length=l.length:=by simp[iI]
@[simp] theorem RQ(a b:List Rw):iI (a++b)=iI a++iI b:=by simp[iI]
@[simp] theorem ZI(l:List Rw):ox (iI l):=by simp[iI,vp,Rw.row]
def be(l:List Rw)(h:Int):Option Rw:=l.find? fun r=>r.h==h
def bt(x y:In):Bool:=x.bc==y.bc&&(x.dp==y.dp&&(x.cw==y.cw&&x.n==y.n))
def eG(l:List In)(x:In):Option In:=l.find? fun y=>bt x y
theorem IF{h:Int}{l:List Rw}:∀e ∈ iI l,dZ [.i] [.int .i64 h] e=true:=by
 intro e he
 obtain⟨r,_,rfl⟩:=List.mem_map.1 he
 rfl
theorem Ae(h:Int):∀l:List Rw,∃i:Nat,bR [.int .i64 h] (iI l)=(be l h).map fun r=>(i,r.row)
 |[]=>⟨0,rfl⟩
 |r::l=>by
  obtain⟨i,hi⟩:=Ae h l
  have e:kU [.int .i64 h] (vp r)=(r.h==h):=by
   show ((h==r.h)&&true)=_
   rw[Bool.and_true]; exact Bool.beq_comm
  by_cases hh:(r.h==h)=true
  ·refine⟨0,?_⟩
   show (if kU [.int .i64 h] (vp r)then some (0,(vp r).drop 1)else _)=_
   rw[e,if_pos hh]; simp only[be,List.find?_cons,hh]; rfl
  ·refine⟨i+1,?_⟩
   show (if kU [.int .i64 h] (vp r)then some (0,(vp r).drop 1)else (bR [.int .i64 h] (iI l)).map fun q=>(q.1+1,q.2))=_
   rw[e,if_neg hh,hi]; simp only[be,List.find?_cons,hh]
   cases List.find? (fun r=>r.h==h) l<;>rfl
theorem oz{h:Int}{l:List Rw}{K:Option (Nat × List AV)->Prop}(k:∀i:Nat,K ((be l h).map fun r=>(i,r.row))):JK [.i] [.int .i64 h] (iI l) K:=by
 obtain⟨i,hi⟩:=Ae h l
 exact⟨IF,by rw[hi]; exact k i⟩
theorem IG{x:In}{l:List In}:∀e ∈ cN l,dZ [.i,.i,.i,.i] [.int .i64 x.bc,.int .i64 x.dp,.int .i64 x.cw,.int .i64 x.n] e=true:=by
 intro e he
 obtain⟨r,_,rfl⟩:=List.mem_map.1 he
 rfl
theorem Dq(x:In):∀l:List In,∃i:Nat,bR [.int .i64 x.bc,.int .i64 x.dp,.int .i64 x.cw,.int .i64 x.n] (cN l)=(eG l x).map fun r=>(i,r.t.row)
 |[]=>⟨0,rfl⟩
 |r::l=>by
  obtain⟨i,hi⟩:=Dq x l
  have e:kU [.int .i64 x.bc,.int .i64 x.dp,.int .i64 x.cw,.int .i64 x.n] r.row=bt x r:=by
   show (x.bc==r.bc&&(x.dp==r.dp&&(x.cw==r.cw&&(x.n==r.n&&true))))=_
   rw[Bool.and_true]; rfl
  by_cases hh:bt x r=true
  ·refine⟨0,?_⟩
   show (if kU [.int .i64 x.bc,.int .i64 x.dp,.int .i64 x.cw,.int .i64 x.n] r.row then some (0,r.row.drop 4)else _)=_
   rw[e,if_pos hh]; simp only[eG,List.find?_cons,hh]; rfl
  ·refine⟨i+1,?_⟩
   show (if kU [.int .i64 x.bc,.int .i64 x.dp,.int .i64 x.cw,.int .i64 x.n] r.row then some (0,r.row.drop 4)else (bR _ (cN l)).map fun q=>(q.1+1,q.2))=_
   rw[e,if_neg hh,hi]; simp only[eG,List.find?_cons,hh]
   cases List.find? (fun y=>bt x y) l<;>rfl
theorem RR{x:In}{l:List In}{K:Option (Nat × List AV)->Prop}(k:∀i:Nat,K ((eG l x).map fun r=>(i,r.t.row))):JK [.i,.i,.i,.i] [.int .i64 x.bc,.int .i64 x.dp,.int .i64 x.cw,.int .i64 x.n] (cN l) K:=by
 obtain⟨i,hi⟩:=Dq x l
 exact⟨IG,by rw[hi]; exact k i⟩
abbrev eb(R:Env)(d1 d2:Bool)(t:Tb):ah:=[(0,.map 1 false true d1 41 (iI t.rows)),(1,.map 4 true true d2 16 (cN t.ins)),(2,.var (R.ty 47) [.omap 0,.omap 1])]
theorem IH{R:Env}(h:Le R):R.Mc 345 [] [] (.loc 2 1 0 0) (eb R true true ⟨[],[]⟩) 3:=
 h.abK.aY 60 0 rfl rfl rfl fun X bb hfit hp=>by
  refine sh ?_
  exact rM [0,1,2]
theorem lD{R:Env}(h:tH R)(d1 d2:Bool)(t:Tb):R.Mc 355 [.loc 2 1 0 0] (eb R d1 d2 t) (.bool false) (eb R d1 d2 t) 3:=
 h.Lf.aY 60 3 rfl rfl rfl fun X bb hfit hp=>by
  unfold eb
  refine sh ?_
  exact rM [0,1,2]
theorem FE{R:Env}(h:H0 R)(x:In):R.Pc 358 [.agg x.row] (.agg [.int .i64 x.bc,.int .i64 x.dp,.int .i64 x.cw,.int .i64 x.n]):=
 h.BT.enter 60 rfl fun X bb hfit hp=>by
  refine sh ?_
  exact rT
def ca(l:List Rw)(x:In):Int:=
 match be l x.bc with
 |none=>11
 |some a=>match be l x.dp with
  |none=>11
  |some b=>if x.cw=0 then (if a.f.kind≠1\/ b.f.kind≠3 then 12 else 0)else match be l x.cw with
   |none=>11
   |some c=>if a.f.kind≠1\/ b.f.kind≠3\/ c.f.kind≠2 then 12 else 0
def pL(x:In):List (List AV):=[[.int .i64 x.bc,.int .i64 1],[.int .i64 x.dp,.int .i64 3],[.int .i64 x.cw,.int .i64 2]]
theorem RS{x:In}{i:Nat}{r:List AV}{K:List AV->Prop}(h:(pL x)[i]? =some r)(k:K r):G7 [[.int .i64 x.bc,.int .i64 1],[.int .i64 x.dp,.int .i64 3],[.int .i64 x.cw,.int .i64 2]] 3 i K:=
 tB (f:=fun x:List AV=>x) (l:=pL x) rfl h k
set_option maxHeartbeats 4000000 in
theorem Mu{R:Env}(h:P4 R)(d1 d2:Bool)(t:Tb)(x:In):R.Mc 357 [.loc 2 1 0 0,.agg x.row] (eb R d1 d2 t) (.int .i64 (ca t.rows x)) (eb R d1 d2 t) 3:=
 h.abM.aY 100 3 rfl rfl rfl fun X bb hfit hp=>by
  unfold eb
  have hq:∃q,ca t.rows x=q:=⟨_,rfl⟩
  obtain⟨q,hq⟩:=hq
  rw[hq]
  unfold ca at hq
  refine sh ?_
  refine aj.one 100 ?_
  refine sh ?_
  refine af (by rfl) ?_
  refine sh ?_
  refine RS (i:=0) rfl ?_
  refine sh ?_
  refine oz fun i=> ?_
  cases ha:be t.rows x.bc with
  |none=>
   rw[ha]at hq
   refine sh ?_
   refine ay (by decide) ?_
   subst hq
   refine sh ?_
   exact rM [0,1,2]
  |some a=>
   rw[ha]at hq
   dsimp only[Option.map_some]at hq ⊢
   refine sh ?_
   refine ay (by decide) ?_
   refine sh ?_
   refine cS (fun k1=> ?_) (fun k1=> ?_)
   ·refine sh ?_
    refine aj.one 100 ?_
    refine sh ?_
    refine af (by rfl) ?_
    refine sh ?_
    refine RS (i:=1) rfl ?_
    refine sh ?_
    refine oz fun i=> ?_
    cases hb:be t.rows x.dp with
    |none=>
     rw[hb]at hq
     refine sh ?_
     refine ay (by decide) ?_
     subst hq
     refine sh ?_
     exact rM [0,1,2]
    |some b=>
     rw[hb]at hq
     dsimp only[Option.map_some]at hq ⊢
     refine sh ?_
     refine ay (by decide) ?_
     refine sh ?_
     refine cS (fun k2=> ?_) (fun k2=> ?_)
     ·refine sh ?_
      refine aj.one 100 ?_
      refine sh ?_
      refine af (by rfl) ?_
      refine sh ?_
      refine RS (i:=2) rfl ?_
      refine sh ?_
      refine oz fun i=> ?_
      by_cases hx:x.cw=0
      ·rw[if_pos hx]at hq
       cases be t.rows x.cw<;>dsimp only[Option.map_some,Option.map_none]
       ·refine sh ?_
        refine af (by decide) ?_
        refine sh ?_
        refine af (by simp; exact hx) ?_
        first|rw[if_pos (by omega)]at hq|rw[if_neg (by omega)]at hq
        refine sh ?_
        refine aj.one 100 ?_
        refine sh ?_
        refine ay (by rfl) ?_
        subst hq
        refine sh ?_
        exact rM [0,1,2]
       ·refine sh ?_
        refine af (by decide) ?_
        refine sh ?_
        refine af (by simp; exact hx) ?_
        first|rw[if_pos (by omega)]at hq|rw[if_neg (by omega)]at hq
        refine sh ?_
        refine aj.one 100 ?_
        refine sh ?_
        refine ay (by rfl) ?_
        subst hq
        refine sh ?_
        exact rM [0,1,2]
      ·rw[if_neg hx]at hq
       cases hc:be t.rows x.cw with
       |none=>
        rw[hc]at hq
        refine sh ?_
        refine af (by decide) ?_
        refine sh ?_
        refine ay (by simp; exact hx) ?_
        subst hq
        refine sh ?_
        exact rM [0,1,2]
       |some c=>
        rw[hc]at hq
        dsimp only[Option.map_some]at hq ⊢
        refine sh ?_
        refine af (by decide) ?_
        refine sh ?_
        refine ay (by simp; exact hx) ?_
        refine sh ?_
        refine cS (fun k3=> ?_) (fun k3=> ?_)
        ·first|rw[if_pos (by omega)]at hq|rw[if_neg (by omega)]at hq
         refine sh ?_
         refine aj.one 100 ?_
         refine sh ?_
         refine ay (by rfl) ?_
         subst hq
         refine sh ?_
         exact rM [0,1,2]
        ·first|rw[if_pos (by omega)]at hq|rw[if_neg (by omega)]at hq
         refine sh ?_
         refine aj.one 100 ?_
         refine sh ?_
         refine ay (by rfl) ?_
         subst hq
         refine sh ?_
         exact rM [0,1,2]
     ·refine sh ?_
      refine aj.one 100 ?_
      refine sh ?_
      refine af (by rfl) ?_
      refine sh ?_
      refine RS (i:=2) rfl ?_
      refine sh ?_
      refine oz fun i=> ?_
      by_cases hx:x.cw=0
      ·rw[if_pos hx]at hq
       cases be t.rows x.cw<;>dsimp only[Option.map_some,Option.map_none]
       ·refine sh ?_
        refine af (by decide) ?_
        refine sh ?_
        refine af (by simp; exact hx) ?_
        first|rw[if_pos (by omega)]at hq|rw[if_neg (by omega)]at hq
        refine sh ?_
        refine aj.one 100 ?_
        refine sh ?_
        refine ay (by rfl) ?_
        subst hq
        refine sh ?_
        exact rM [0,1,2]
       ·refine sh ?_
        refine af (by decide) ?_
        refine sh ?_
        refine af (by simp; exact hx) ?_
        first|rw[if_pos (by omega)]at hq|rw[if_neg (by omega)]at hq
        refine sh ?_
        refine aj.one 100 ?_
        refine sh ?_
        refine ay (by rfl) ?_
        subst hq
        refine sh ?_
        exact rM [0,1,2]
      ·rw[if_neg hx]at hq
       cases hc:be t.rows x.cw with
       |none=>
        rw[hc]at hq
        refine sh ?_
        refine af (by decide) ?_
        refine sh ?_
        refine ay (by simp; exact hx) ?_
        subst hq
        refine sh ?_
        exact rM [0,1,2]
       |some c=>
        rw[hc]at hq
        dsimp only[Option.map_some]at hq ⊢
        refine sh ?_
        refine af (by decide) ?_
        refine sh ?_
        refine ay (by simp; exact hx) ?_
        refine sh ?_
        refine cS (fun k3=> ?_) (fun k3=> ?_)
        ·first|rw[if_pos (by omega)]at hq|rw[if_neg (by omega)]at hq
         refine sh ?_
         refine aj.one 100 ?_
         refine sh ?_
         refine ay (by rfl) ?_
         subst hq
         refine sh ?_
         exact rM [0,1,2]
        ·first|rw[if_pos (by omega)]at hq|rw[if_neg (by omega)]at hq
         refine sh ?_
         refine aj.one 100 ?_
         refine sh ?_
         refine ay (by rfl) ?_
         subst hq
         refine sh ?_
         exact rM [0,1,2]
   ·refine sh ?_
    refine aj.one 100 ?_
    refine sh ?_
    refine af (by rfl) ?_
    refine sh ?_
    refine RS (i:=1) rfl ?_
    refine sh ?_
    refine oz fun i=> ?_
    cases hb:be t.rows x.dp with
    |none=>
     rw[hb]at hq
     refine sh ?_
     refine ay (by decide) ?_
     subst hq
     refine sh ?_
     exact rM [0,1,2]
    |some b=>
     rw[hb]at hq
     dsimp only[Option.map_some]at hq ⊢
     refine sh ?_
     refine ay (by decide) ?_
     refine sh ?_
     refine cS (fun k2=> ?_) (fun k2=> ?_)
     ·refine sh ?_
      refine aj.one 100 ?_
      refine sh ?_
      refine af (by rfl) ?_
      refine sh ?_
      refine RS (i:=2) rfl ?_
      refine sh ?_
      refine oz fun i=> ?_
      by_cases hx:x.cw=0
      ·rw[if_pos hx]at hq
       cases be t.rows x.cw<;>dsimp only[Option.map_some,Option.map_none]
       ·refine sh ?_
        refine af (by decide) ?_
        refine sh ?_
        refine af (by simp; exact hx) ?_
        first|rw[if_pos (by omega)]at hq|rw[if_neg (by omega)]at hq
        refine sh ?_
        refine aj.one 100 ?_
        refine sh ?_
        refine ay (by rfl) ?_
        subst hq
        refine sh ?_
        exact rM [0,1,2]
       ·refine sh ?_
        refine af (by decide) ?_
        refine sh ?_
        refine af (by simp; exact hx) ?_
        first|rw[if_pos (by omega)]at hq|rw[if_neg (by omega)]at hq
        refine sh ?_
        refine aj.one 100 ?_
        refine sh ?_
        refine ay (by rfl) ?_
        subst hq
        refine sh ?_
        exact rM [0,1,2]
      ·rw[if_neg hx]at hq
       cases hc:be t.rows x.cw with
       |none=>
        rw[hc]at hq
        refine sh ?_
        refine af (by decide) ?_
        refine sh ?_
        refine ay (by simp; exact hx) ?_
        subst hq
        refine sh ?_
        exact rM [0,1,2]
       |some c=>
        rw[hc]at hq
        dsimp only[Option.map_some]at hq ⊢
        refine sh ?_
        refine af (by decide) ?_
        refine sh ?_
        refine ay (by simp; exact hx) ?_
        refine sh ?_
        refine cS (fun k3=> ?_) (fun k3=> ?_)
        ·first|rw[if_pos (by omega)]at hq|rw[if_neg (by omega)]at hq
         refine sh ?_
         refine aj.one 100 ?_
         refine sh ?_
         refine ay (by rfl) ?_
         subst hq
         refine sh ?_
         exact rM [0,1,2]
        ·first|rw[if_pos (by omega)]at hq|rw[if_neg (by omega)]at hq
         refine sh ?_
         refine aj.one 100 ?_
         refine sh ?_
         refine ay (by rfl) ?_
         subst hq
         refine sh ?_
         exact rM [0,1,2]
     ·refine sh ?_
      refine aj.one 100 ?_
      refine sh ?_
      refine af (by rfl) ?_
      refine sh ?_
      refine RS (i:=2) rfl ?_
      refine sh ?_
      refine oz fun i=> ?_
      by_cases hx:x.cw=0
      ·rw[if_pos hx]at hq
       cases be t.rows x.cw<;>dsimp only[Option.map_some,Option.map_none]
       ·refine sh ?_
        refine af (by decide) ?_
        refine sh ?_
        refine af (by simp; exact hx) ?_
        first|rw[if_pos (by omega)]at hq|rw[if_neg (by omega)]at hq
        refine sh ?_
        refine aj.one 100 ?_
        refine sh ?_
        refine ay (by rfl) ?_
        subst hq
        refine sh ?_
        exact rM [0,1,2]
       ·refine sh ?_
        refine af (by decide) ?_
        refine sh ?_
        refine af (by simp; exact hx) ?_
        first|rw[if_pos (by omega)]at hq|rw[if_neg (by omega)]at hq
        refine sh ?_
        refine aj.one 100 ?_
        refine sh ?_
        refine ay (by rfl) ?_
        subst hq
        refine sh ?_
        exact rM [0,1,2]
      ·rw[if_neg hx]at hq
       cases hc:be t.rows x.cw with
       |none=>
        rw[hc]at hq
        refine sh ?_
        refine af (by decide) ?_
        refine sh ?_
        refine ay (by simp; exact hx) ?_
        subst hq
        refine sh ?_
        exact rM [0,1,2]
       |some c=>
        rw[hc]at hq
        dsimp only[Option.map_some]at hq ⊢
        refine sh ?_
        refine af (by decide) ?_
        refine sh ?_
        refine ay (by simp; exact hx) ?_
        refine sh ?_
        refine cS (fun k3=> ?_) (fun k3=> ?_)
        ·first|rw[if_pos (by omega)]at hq|rw[if_neg (by omega)]at hq
         refine sh ?_
         refine aj.one 100 ?_
         refine sh ?_
         refine ay (by rfl) ?_
         subst hq
         refine sh ?_
         exact rM [0,1,2]
        ·first|rw[if_pos (by omega)]at hq|rw[if_neg (by omega)]at hq
         refine sh ?_
         refine aj.one 100 ?_
         refine sh ?_
         refine ay (by rfl) ?_
         subst hq
         refine sh ?_
         exact rM [0,1,2]
end Go.UM
namespace Go.UM
open Go.AM
set_option maxRecDepth 4000
end Go.UM
namespace Go.UM
open Go.AM
set_option maxRecDepth 4000
end Go.UM
namespace Go.UM
open Go.AM
set_option maxRecDepth 4000
theorem II{x:dN}(h:ik x=0):x.t.length<=256:=by
 have ok:=rY h
 have hs:=mT ok.s
 have:=ok.l
 rcases hs with h|h|h|h|h<;>rw[h]at this<;>omega
end Go.UM
namespace Go.UM
open Go.AM
set_option maxRecDepth 4000
end Go.UM
namespace Go.UM
open Go.AM
set_option maxRecDepth 4000
theorem IJ{a b:As}(h:dJ a b=true):a=b:=by
 simp only[dJ,decide_eq_true_eq]at h
 obtain⟨ak,⟨_,_,_⟩,⟨_,_⟩,am,al⟩:=a
 obtain⟨bk,⟨_,_,_⟩,⟨_,_⟩,bm,bl⟩:=b
 dsimp only at h
 obtain⟨rfl,rfl,rfl,rfl,rfl,rfl,rfl,rfl⟩:=h
 rfl
theorem dA{a:As}(h:dK a=0):own a=0/\a.bare=As.zero a.k/\(gN a).length<=cap a.k:=by
 unfold dK at h
 split at h
 ·rename_i h1; exact absurd h h1
 ·rename_i h1
  split at h
  ·cases h
  ·rename_i h2
   split at h
   ·cases h
   ·rename_i h3
    exact⟨by simpa using h1,IJ (by simpa using h2),by omega⟩
end Go.UM
namespace Go.UM
open Go.AM
set_option maxRecDepth 4000
theorem FF{R:Env}(h:KU R)(l:List T3)(hl:l.length<=1073741824):R.Mc 361 [.aD 3 (bW l)] [] (.aV 0 l.length) [(0,.arr (R.ty 26) 3 (bW l))] 1:=
 h.Ux.aY 60 0 rfl rfl rfl fun X b hfit hp=>by
  refine sh ?_
  refine G8.mk (fun hn=> ?_) ?_
  ·have:l=[]:=by simpa[bW]using hn
   subst this
   refine sh ?_
   exact rM [50]
  ·refine sh ?_
   exact rM [0]
theorem FG{R:Env}(h:KV R)(l:List (Int × Int))(hl:l.length<=1073741824):R.Mc 362 [.aD 2 (dH l)] [] (.aV 0 l.length) [(0,.arr (R.ty 18) 2 (dH l))] 1:=
 h.Uz.aY 60 0 rfl rfl rfl fun X b hfit hp=>by
  refine sh ?_
  refine G8.mk (fun hn=> ?_) ?_
  ·have:l=[]:=by simpa[dH]using hn
   subst this
   refine sh ?_
   exact rM [50]
  ·refine sh ?_
   exact rM [0]
theorem FH{R:Env}(h:KR R)(l:List T3)(hl:l.length<=1073741824):R.Mc 101 [.aD 3 (bW l)] [] (.aV 0 l.length) [(0,.arr (R.ty 13) 3 (bW l))] 1:=
 h.O1.aY 60 0 rfl rfl rfl fun X b hfit hp=>by
  refine sh ?_
  refine G8.mk (fun hn=> ?_) ?_
  ·have:l=[]:=by simpa[bW]using hn
   subst this
   refine sh ?_
   exact rM [50]
  ·refine sh ?_
   exact rM [0]
theorem Cg{R:Env}(h:KU R)(l:List T3)(hl:l.length<=1073741824):R.Pc 361 [.aD 3 (bW l)] (.aD 3 (bW l)):=(FF h l hl).pc fZ
theorem Ch{R:Env}(h:KV R)(l:List (Int × Int))(hl:l.length<=1073741824):R.Pc 362 [.aD 2 (dH l)] (.aD 2 (dH l)):=(FG h l hl).pc fZ
theorem uk{R:Env}(h:KR R)(l:List T3)(hl:l.length<=1073741824):R.Pc 101 [.aD 3 (bW l)] (.aD 3 (bW l)):=(FH h l hl).pc fZ
theorem qo{R:Env}(h:Lg R)(a:As)(f:a.Gh):R.Pc 356 [.agg a.row] (.agg a.row):=
 h.Lh.enter 100 rfl fun X bb hfit hp=>by
  obtain⟨f1,f2,f3,f4⟩:=f
  refine sh ?_
  refine ae.pure h.Li.Ux.hb (Cg h.Li a.m.v (by omega)) rfl ?_
  refine sh ?_
  refine ae.pure h.Lj.Uz.hb (Ch h.Lj a.m.uv (by omega)) rfl ?_
  refine sh ?_
  refine ae.pure h.n101.O1.hb (uk h.n101 a.m.t (by omega)) rfl ?_
  refine sh ?_
  refine ae.pure h.n101.O1.hb (uk h.n101 a.x.t (by omega)) rfl ?_
  refine sh ?_
  exact rT
theorem ul{m:Ms}(h:lW m=0):m.v.length<=64/\m.t.length<=64/\m.uv.length=m.v.length/\m.v.any lV=false:=by
 unfold lW at h
 split at h
 ·cases h
 ·split at h
  ·cases h
  ·split at h
   ·cases h
   ·rename_i h1 h2 h3
    exact⟨by omega,by omega,by omega,by simpa using h3⟩
theorem um{a:As}(h:dK a=0)(hx:a.x.t.length<=1000):a.Gh:=by
 obtain⟨ow,hb,_⟩:=dA h
 by_cases k:a.k=1
 ·rw[own,if_pos k]at ow
  obtain⟨h1,h2,h3,_⟩:=ul ow
  exact⟨by omega,by omega,by omega,hx⟩
 ·have e:a.m=vn:=by
   have e1:a.bare.m=(As.zero a.k).m:=by rw[hb]
   have e2:a.bare.m=a.m:=by unfold As.bare; rw[if_neg k]; repeat' split
                            all_goals rfl
   rw[<-e2,e1]; rfl
  exact⟨by rw[e]; simp[vn],by rw[e]; simp[vn],by rw[e]; simp[vn],hx⟩
def gY(t:Tb)(hd:Int)(f:Mf)(a:As):Tb × Int:=
 if hd<1\/ 65536<hd then (t,2)else if (be t.rows hd).isSome=true then (t,10)else if dK a≠0 then (t,dK a)else if f.kind≠a.k then (t,12)else (⟨t.rows++ [⟨hd,f,a⟩],t.ins⟩,0)
set_option maxHeartbeats 4000000 in
theorem Ci{R:Env}(h:Lk R)(d1 d2:Bool)(t:Tb)(hd:Int)(f:Mf)(a:As)(fx:a.x.t.length<=1000)(fb:a.bare.Gh)(hn:t.rows.length<=1000000):
  R.Mc 346 [.loc 2 1 0 0,.int .i64 hd,.agg f.row,.agg a.row] (eb R d1 d2 t) (.int .i64 (gY t hd f a).2) (eb R d1 d2 (gY t hd f a).1) 3:=
 h.abL.aY 100 3 rfl rfl rfl fun X bb hfit hp=>by
  generalize hq:gY t hd f a=q
  unfold gY at hq
  unfold eb
  refine sh ?_
  refine cM false [0,1,2] (lD h.ja d1 d2 t) ?_
  repeat (intro _; first|refine eK ?_|refine eP ?_)
  refine sh ?_
  refine cS (fun h1=> ?_) (fun h1=> ?_)
  ·rw[if_pos (by omega)]at hq
   subst hq
   refine sh ?_
   exact rM [0,1,2]
  ·refine sh ?_
   refine cS (fun h2=> ?_) (fun h2=> ?_)
   ·rw[if_pos (by omega)]at hq
    subst hq
    refine sh ?_
    exact rM [0,1,2]
   ·rw[if_neg (by omega)]at hq
    refine sh ?_
    refine oz fun i=> ?_
    cases hr:be t.rows hd with
    |some r=>
     rw[hr,if_pos (show (some r).isSome=true from rfl)]at hq
     dsimp only[Option.map_some]
     subst hq
     refine sh ?_
     exact rM [0,1,2]
    |none=>
     rw[hr,if_neg (by simp)]at hq
     dsimp only[Option.map_none]
     refine sh ?_
     refine ae.pure h.n294.V2.hb (FD h.n294 a fx fb) rfl ?_
     refine sh ?_
     refine cS (fun h3=> ?_) (fun h3=> ?_)
     ·rw[if_pos h3]at hq
      subst hq
      refine sh ?_
      exact rM [0,1,2]
     ·rw[if_neg (by simpa using h3)]at hq
      refine sh ?_
      refine cS (fun h4=> ?_) (fun h4=> ?_)
      ·rw[if_pos h4]at hq
       subst hq
       refine sh ?_
       exact rM [0,1,2]
      ·rw[if_neg (by simpa using h4)]at hq
       refine sh ?_
       refine ae.pure h.vf.Lh.hb (qo h.vf a (um h3 fx)) rfl ?_
       refine sh ?_
       refine oz fun i=> ?_
       rw[hr]
       dsimp only[Option.map_none]
       subst hq
       refine sh ?_
       refine rM [0,1,2] ?_
       refine bj ?_
       all_goals (simp[iI,vp,Rw.row])
def uo(x:Af)(l:List T3):Int:=((l.map fun v=>(bK x v).2).find? fun e=>e != 0).getD 0
def kp(t:Tb)(x:In):Tb × Int:=
 if x.n<0\/ 65536<x.n then (t,2)else if ca t.rows x≠0 then (t,ca t.rows x)else if (eG t.ins x).isSome=true then (t,10)
 else match be t.rows x.bc with
  |none=>(t,11)
  |some r=>if uo x.t r.a.m.v≠0 then (t,uo x.t r.a.m.v)else (⟨t.rows,t.ins++ [x]⟩,0)
theorem j7{x:Af}{l:List T3}{k:Nat}{v:T3}(h:l[k]? =some v)(h1:∀(j:Nat)(u:T3),j<k->l[j]? =some u->(bK x u).2=0)(h2:(bK x v).2≠0):uo x l=(bK x v).2:=by
 unfold uo
 induction l generalizing k with
 |nil=>simp at h
 |cons a r ih=>
  cases k with
  |zero=>
   simp at h; subst h
   simp[List.find?_cons,h2]
  |succ k=>
   have e:=h1 0 a (by omega) rfl
   simp only[List.map_cons,List.find?_cons,e,bne_self_eq_false]
   exact ih (k:=k) (by simpa using h) (fun j u hj hu=>h1 (j+1) u (by omega) (by simpa using hu))
theorem mV{x:Af}{l:List T3}(h:∀(j:Nat)(u:T3),j<l.length->l[j]? =some u->(bK x u).2=0):uo x l=0:=by
 unfold uo
 induction l with
 |nil=>rfl
 |cons a r ih=>
  have e:=h 0 a (by simp) rfl
  simp only[List.map_cons,List.find?_cons,e,bne_self_eq_false]
  exact ih fun j u hj hu=>h (j+1) u (by simpa using hj) (by simpa using hu)
theorem Ag{l:List Rw}{x:In}(h:ca l x=0):∃r,be l x.bc=some r/\r.f.kind=1:=by
 unfold ca at h
 cases hr:be l x.bc with
 |none=>rw[hr]at h; cases h
 |some r=>
  rw[hr]at h
  refine⟨r,rfl,?_⟩
  dsimp only at h
  cases hb:be l x.dp with
  |none=>rw[hb]at h; cases h
  |some b=>
   rw[hb]at h
   dsimp only at h
   by_cases hx:x.cw=0
   ·rw[if_pos hx]at h
    by_cases k:r.f.kind=1
    ·exact k
    ·rw[if_pos (.inl k)]at h; cases h
   ·rw[if_neg hx]at h
    cases hc:be l x.cw with
    |none=>rw[hc]at h; cases h
    |some c=>
     rw[hc]at h
     dsimp only at h
     by_cases k:r.f.kind=1
     ·exact k
     ·rw[if_pos (.inl k)]at h; cases h
structure fA(r:Rw):Prop where
 h:1<=r.h/\r.h<=65536
 a:dK r.a=0
 k:r.f.kind=r.a.k
 x:r.a.x.t.length<=1000
theorem cJ{l:List Rw}{h:Int}{r:Rw}(e:be l h=some r):r ∈ l/\r.h=h:=⟨List.mem_of_find?_eq_some e,by simpa using List.find?_some e⟩
theorem fA.Dr{r:Rw}(o:fA r)(h:r.f.kind=1):r.a.m.v.length<=64/\∀v ∈ r.a.m.v,lV v=false:=by
 have k1:r.a.k=1:=o.k.symm.trans h
 have ow:=(dA o.a).1
 rw[own,if_pos k1]at ow
 obtain⟨h1,_,_,h4⟩:=ul ow
 exact⟨h1,fun v hv=>by
  have:=List.any_eq_false.1 h4 v hv
  simpa using this⟩
theorem x0{v:T3}(h:lV v=false):v.I:=by
 have:=rZ h
 exact⟨by simp only[aR]; omega,by simp only[aR]; omega,by simp only[aR]; omega⟩
set_option maxHeartbeats 4000000 in
theorem IK{R:Env}(h:Ll R)(d1 d2:Bool)(t:Tb)(x:In)(ok:∀r ∈ t.rows,fA r)(hx:x.t.I)(hn:t.ins.length<=1000000):
  R.Mc 347 [.loc 2 1 0 0,.agg x.row] (eb R d1 d2 t) (.int .i64 (kp t x).2) (eb R d1 d2 (kp t x).1) 3:=
 h.abN.aY 100 3 rfl rfl rfl fun X bb hfit hp=>by
  generalize hq:kp t x=q
  unfold kp at hq
  unfold eb
  refine sh ?_
  refine cM false [0,1,2] (lD h.ja d1 d2 t) ?_
  repeat (intro _; first|refine eK ?_|refine eP ?_)
  refine sh ?_
  refine cS (fun h1=> ?_) (fun h1=> ?_)
  ·rw[if_pos (by omega)]at hq
   subst hq
   refine sh ?_
   exact rM [0,1,2]
  ·refine sh ?_
   refine cS (fun h2=> ?_) (fun h2=> ?_)
   ·rw[if_pos (by omega)]at hq
    subst hq
    refine sh ?_
    exact rM [0,1,2]
   ·rw[if_neg (by omega)]at hq
    refine sh ?_
    refine cM false [0,1,2] (Mu h.P5 d1 d2 t x) ?_
    repeat (intro _; first|refine eK ?_|refine eP ?_)
    refine sh ?_
    refine cS (fun h3=> ?_) (fun h3=> ?_)
    ·rw[if_pos h3]at hq
     subst hq
     refine sh ?_
     exact rM [0,1,2]
    ·rw[if_neg (by simpa using h3)]at hq
     obtain⟨r,hr,hk⟩:=Ag h3
     have hvs:=(ok r (cJ hr).1).Dr hk
     refine sh ?_
     refine ae.pure h.lU.BT.hb (FE h.lU x) rfl ?_
     refine sh ?_
     refine RR fun i=> ?_
     cases hi:eG t.ins x with
     |some y=>
      rw[hi,if_pos (show (some y).isSome=true from rfl)]at hq
      dsimp only[Option.map_some]
      subst hq
      refine sh ?_
      exact rM [0,1,2]
     |none=>
      rw[hi,if_neg (by simp),hr]at hq
      dsimp only at hq
      dsimp only[Option.map_none]
      refine sh ?_
      refine oz fun i=> ?_
      rw[hr]
      dsimp only[Option.map_some]
      refine sh ?_
      refine eH 100 (fun k:Nat=>k<=r.a.m.v.length/\∀(j:Nat)(u:T3),j<k->r.a.m.v[j]? =some u->(bK x.t u).2=0) (fun k=>⟨[(0,.loc 2 1 0 0),(3,.loc 3 1 0 0),(50,.aD 3 (bW r.a.m.v)),(51,.int .i64 r.a.m.v.length),(52,.int .i64 k)],[(3,.var (R.ty 44) x.row),(0,.map 1 false true d1 41 (iI t.rows)),(1,.map 4 true true d2 16 (cN t.ins)),(2,.var (R.ty 47) [.omap 0,.omap 1])],4⟩) (fun k=>r.a.m.v.length - k) (0) ?_ ?_
      ·exact⟨Nat.zero_le _,fun j u hj=>absurd hj (Nat.not_lt_zero j)⟩
      ·intro k hk
       dsimp only
       have hlen:=hvs.1
       refine sh ?_
       refine cS (fun h4=> ?_) (fun h4=> ?_)
       ·obtain⟨v,hv⟩:∃u_,r.a.m.v[k]? =some u_:=⟨_,List.getElem?_eq_getElem (by first|omega|(simp<;>omega))⟩
        refine sh ?_
        refine aa hv ?_
        refine sh ?_
        refine ae.pure h.n241.tG.hb (fK h.n241 hx (x0 (hvs.2 v (List.mem_of_getElem? hv)))) rfl ?_
        refine sh ?_
        refine cS (fun h5=> ?_) (fun h5=> ?_)
        ·rw[if_pos (by rw[j7 hv hk.2 h5]; exact h5),j7 hv hk.2 h5]at hq
         subst hq
         refine sh ?_
         exact rM [0,1,2]
        ·refine sh ?_
         refine lO (k+1) ?_ ?_
         ·refine⟨by omega,fun j u hj hu=> ?_⟩
          by_cases e:j=k
          ·subst e
           rw[hv]at hu
           cases hu
           exact h5
          ·exact hk.2 j u (by omega) hu
         ·omega
       ·rw[mV (fun j u hj=>hk.2 j u (by omega)),if_neg (by simp)]at hq
        refine sh ?_
        refine ae.pure h.lU.BT.hb (FE h.lU x) rfl ?_
        refine sh ?_
        refine RR fun i=> ?_
        rw[hi]
        dsimp only[Option.map_none]
        subst hq
        refine sh ?_
        refine rM [0,1,2] ?_
        refine bj ?_
        all_goals (simp[cN,In.row])
end Go.UM
namespace Go.UM
open Go.AM
set_option maxRecDepth 4000
theorem Dt(x r:In):kU [.int .i64 x.bc,.int .i64 x.dp,.int .i64 x.cw,.int .i64 x.n] r.row=bt x r:=by
 show (x.bc==r.bc&&(x.dp==r.dp&&(x.cw==r.cw&&(x.n==r.n&&true))))=_
 rw[Bool.and_true]; rfl
theorem Ah(x:In):∀l:List In,∃i:Nat,bR [.int .i64 x.bc,.int .i64 x.dp,.int .i64 x.cw,.int .i64 x.n] (cN l)=(eG l x).map (fun r=>(i,r.t.row))/\((eG l x).isSome=true->(cN l).eraseIdx i=cN (l.eraseP (bt x)))
 |[]=>⟨0,rfl,fun h=>by simp[eG]at h⟩
 |r::l=>by
  obtain⟨i,hi,he⟩:=Ah x l
  by_cases hh:bt x r=true
  ·refine⟨0,?_,fun _=> ?_⟩
   ·show (if kU [.int .i64 x.bc,.int .i64 x.dp,.int .i64 x.cw,.int .i64 x.n] r.row then some (0,r.row.drop 4)else _)=_
    rw[Dt,if_pos hh]; simp only[eG,List.find?_cons,hh]; rfl
   ·rw[List.eraseP_cons_of_pos hh]; rfl
  ·refine⟨i+1,?_,fun h=> ?_⟩
   ·show (if kU [.int .i64 x.bc,.int .i64 x.dp,.int .i64 x.cw,.int .i64 x.n] r.row then some (0,r.row.drop 4)else (bR _ (cN l)).map fun q=>(q.1+1,q.2))=_
    rw[Dt,if_neg hh,hi]; simp only[eG,List.find?_cons,hh]
    cases List.find? (fun y=>bt x y) l<;>rfl
   ·rw[List.eraseP_cons_of_neg hh]
    have h':(eG l x).isSome=true:=by simpa[eG,List.find?_cons,hh]using h
    show r.row::(cN l).eraseIdx i=r.row::cN (l.eraseP (bt x))
    rw[he h']
theorem ack{x:In}{l:List In}{K:Option (Nat × List AV)->Prop}(k:∀i:Nat,((eG l x).isSome=true->(cN l).eraseIdx i=cN (l.eraseP (bt x)))->K ((eG l x).map fun r=>(i,r.t.row))):JK [.i,.i,.i,.i] [.int .i64 x.bc,.int .i64 x.dp,.int .i64 x.cw,.int .i64 x.n] (cN l) K:=by
 obtain⟨i,hi,he⟩:=Ah x l
 exact⟨IG,by rw[hi]; exact k i he⟩
def mE(t:Tb)(x:In):Tb × Int:=if (eG t.ins x).isSome=true then (⟨t.rows,t.ins.eraseP (bt x)⟩,0)else (t,11)
theorem Mv{R:Env}(h:Qc R)(d1 d2:Bool)(t:Tb)(x:In):R.Mc 427 [.loc 2 1 0 0,.agg x.row] (eb R d1 d2 t) (.int .i64 (mE t x).2) (eb R d1 false (mE t x).1) 3:=
 h.abR.aY 100 3 rfl rfl rfl fun X bb hfit hp=>by
  generalize hq:mE t x=q
  unfold mE at hq
  unfold eb
  refine sh ?_
  refine cM false [0,1,2] (lD h.ja d1 d2 t) ?_
  repeat (intro _; first|refine eK ?_|refine eP ?_)
  refine sh ?_
  refine ae.pure h.lU.BT.hb (FE h.lU x) rfl ?_
  refine sh ?_
  refine RR fun i=> ?_
  cases hr:eG t.ins x with
  |none=>
   rw[hr,if_neg (by simp)]at hq
   dsimp only[Option.map_none]
   subst hq
   refine sh ?_
   exact rM [0,1,2]
  |some y=>
   rw[hr,if_pos (show (some y).isSome=true from rfl)]at hq
   dsimp only[Option.map_some]
   refine sh ?_
   refine ae.pure h.lU.BT.hb (FE h.lU x) rfl ?_
   refine sh ?_
   refine ack fun i he=> ?_
   rw[hr]at he ⊢
   dsimp only[Option.map_some]
   subst hq
   refine sh ?_
   refine rM [0,1,2] ?_
   refine bj ?_
   all_goals (exact he rfl)
theorem FI{q:Nat × List AV}{es es':List (List AV)}{dn:Dn}{K:List (List AV)->Dn->Prop}(h:es.eraseIdx q.1=es')(k:K es' (dn.dl q.1)):Ki (some q) es dn K:=by subst h; exact k
def gu(hd:Int)(x:In):Bool:=(x.bc==hd||x.dp==hd)||x.cw==hd
theorem RU{R:Env}(h:Lp R)(hd:Int)(x:In):R.Mc 437 [.agg [.int .i64 x.bc,.int .i64 x.dp,.int .i64 x.cw,.int .i64 x.n],.agg x.t.row,.loc 0 1 0 0] [(0,.var (R.ty 10) [.int .i64 hd])] (.bool (gu hd x)) [(0,.var (R.ty 10) [.int .i64 hd])] 1:=
 h.abS.aY 100 1 rfl rfl rfl fun X bb hfit hp=>by
  generalize hq:gu hd x=q
  unfold gu at hq
  refine sh ?_
  refine cS (fun h1=> ?_) (fun h1=> ?_)
  ·rw[beq_iff_eq.2 h1,Bool.true_or,Bool.true_or]at hq
   subst hq
   refine sh ?_
   exact rM [0]
  ·rw[beq_eq_false_iff_ne.2 h1,Bool.false_or]at hq
   refine sh ?_
   refine cS (fun h2=> ?_) (fun h2=> ?_)
   ·rw[beq_iff_eq.2 h2,Bool.true_or]at hq
    subst hq
    refine sh ?_
    exact rM [0]
   ·rw[beq_eq_false_iff_ne.2 h2,Bool.false_or]at hq
    subst hq
    refine sh ?_
    exact rM [0]
theorem wG:∀{l:List In}{i:Nat}{x:In},l.Pairwise (fun a b=>bt a b=false)->l[i]? =some x->bR [.int .i64 x.bc,.int .i64 x.dp,.int .i64 x.cw,.int .i64 x.n] (cN l)=some (i,x.t.row)
 |[],i,x,_,h=>by simp at h
 |r::l,0,x,_,h=>by
  simp at h; subst h
  show (if kU [.int .i64 r.bc,.int .i64 r.dp,.int .i64 r.cw,.int .i64 r.n] r.row then some (0,r.row.drop 4)else _)=_
  rw[Dt,if_pos (by simp[bt])]; rfl
 |r::l,i+1,x,hd,h=>by
  obtain⟨h1,h2⟩:=List.pairwise_cons.1 hd
  have hx:l[i]? =some x:=by simpa using h
  have hn:bt x r=false:=by
   have:=h1 x (List.mem_of_getElem? hx)
   unfold bt at this ⊢
   rw[<-this]
   congr 1; exact Bool.beq_comm
   congr 1; exact Bool.beq_comm
   congr 1; exact Bool.beq_comm
   exact Bool.beq_comm
  show (if kU [.int .i64 x.bc,.int .i64 x.dp,.int .i64 x.cw,.int .i64 x.n] r.row then some (0,r.row.drop 4)else (bR _ (cN l)).map fun q=>(q.1+1,q.2))=_
  rw[Dt,if_neg (by rw[hn]; simp),wG h2 hx]; rfl
theorem Ya{x:In}{l:List In}{i:Nat}{K:Option (Nat × List AV)->Prop}(hd:l.Pairwise (fun a b=>bt a b=false))(hx:l[i]? =some x)(k:K (some (i,x.t.row))):JK [.i,.i,.i,.i] [.int .i64 x.bc,.int .i64 x.dp,.int .i64 x.cw,.int .i64 x.n] (cN l) K:=
 ⟨IG,by rw[wG hd hx]; exact k⟩
def nF(l:List Bool):Nat:=l.countP fun b=> !b
theorem ya{l:List Bool}{i:Nat}(h:l[i]? =some false):nF (l.set i true)+1=nF l:=by
 unfold nF
 induction l generalizing i with
 |nil=>simp at h
 |cons a r ih=>
  cases i with
  |zero=>simp at h; subst h; simp
  |succ i=>
   have:=ih (i:=i) (by simpa using h)
   simp only[List.set_cons_succ,List.countP_cons]; omega
theorem IL{l:List Bool}{i:Nat}(h:l[i]? =some true):nF (l.eraseIdx i)=nF l:=by
 unfold nF
 induction l generalizing i with
 |nil=>simp at h
 |cons a r ih=>
  cases i with
  |zero=>simp at h; subst h; simp
  |succ i=>
   have:=ih (i:=i) (by simpa using h)
   simp only[List.eraseIdx_cons_succ,List.countP_cons]; omega
structure Gi(p:In->Bool)(l0 l:List In)(sn:List Bool):Prop where
 len:sn.length=l.length
 fl:l.filter (fun x=> !p x)=l0.filter (fun x=> !p x)
 nd:l.Pairwise (fun a b=>bt a b=false)
 sn:∀(i:Nat)(x:In),l[i]? =some x->sn[i]? =some true->p x=false
theorem Gi.init{p:In->Bool}{l0:List In}(hd:l0.Pairwise (fun a b=>bt a b=false)):Gi p l0 l0 ((cN l0).map fun _=>false):=
 ⟨by simp,rfl,hd,fun i x _ h=>by simp[List.getElem?_map]at h⟩
theorem Gi.sN{p:In->Bool}{l0 l:List In}{sn:List Bool}{i:Nat}{x:In}(h:Gi p l0 l sn)(hx:l[i]? =some x)(hp:p x=false):Gi p l0 l (sn.set i true):=by
 refine⟨by rw[List.length_set]; exact h.len,h.fl,h.nd,fun j y hy hs=> ?_⟩
 by_cases e:i=j
 ·subst e; rw[hx]at hy; cases hy; exact hp
 ·exact h.sn j y hy (by rw[List.getElem?_set_ne e]at hs; exact hs)
theorem Gi.drop{p:In->Bool}{l0 l:List In}{sn:List Bool}{i:Nat}{x:In}(h:Gi p l0 l sn)(hx:l[i]? =some x)(hp:p x=true):Gi p l0 (l.eraseIdx i) ((sn.set i true).eraseIdx i):=by
 have hi:i<l.length:=(List.getElem?_eq_some_iff.1 hx).1
 refine⟨?_,?_,h.nd.sublist (List.eraseIdx_sublist _ _),fun j y hy hs=> ?_⟩
 ·rw[List.length_eraseIdx,List.length_eraseIdx,List.length_set,h.len]
 ·rw[<-h.fl]
  have e1:l=l.take i++x::l.drop (i+1):=by
   rw[<-(List.getElem?_eq_some_iff.1 hx).2,List.getElem_cons_drop,List.take_append_drop]
  have e2:l.eraseIdx i=l.take i++l.drop (i+1):=List.eraseIdx_eq_take_drop_succ ..
  rw[e2]
  conv=>rhs; rw[e1]
  simp[List.filter_append,List.filter_cons,hp]
 ·rw[List.getElem?_eraseIdx]at hy hs
  split at hy
  ·rename_i hlt
   rw[if_pos hlt,List.getElem?_set_ne (by omega)]at hs
   exact h.sn j y hy hs
  ·rename_i hlt
   rw[if_neg hlt,List.getElem?_set_ne (by omega)]at hs
   exact h.sn (j+1) y hy hs
theorem Gi.done{p:In->Bool}{l0 l:List In}{sn:List Bool}(h:Gi p l0 l sn)(ha:∀q ∈ sn,q=true):l=l0.filter (fun x=> !p x):=by
 rw[<-h.fl,List.filter_eq_self.2]
 intro x hx
 obtain⟨i,hi,rfl⟩:=List.getElem_of_mem hx
 have hi':i<sn.length:=by rw[h.len]; exact hi
 rw[h.sn i l[i] (List.getElem?_eq_getElem hi) (by rw[List.getElem?_eq_getElem hi',ha _ (List.getElem_mem hi')])]; rfl
theorem Cj{l:List In}{i:Nat}{row:List AV}(h:(cN l)[i]? =some row):∃x,l[i]? =some x/\row=x.row:=by
 unfold cN at h
 rw[List.getElem?_map]at h
 obtain⟨x,h1,h2⟩:=Option.map_eq_some_iff.1 h
 exact⟨x,h1,h2.symm⟩
theorem wH(l:List In)(i:Nat):(cN l).eraseIdx i=cN (l.eraseIdx i):=(Go.ChangeMaps.map_eraseIdx _ _ _).symm
theorem FJ{R:Env}(h:Pg R)(k:Lp R)(d2:Bool)(l:List In)(nd:l.Pairwise (fun a b=>bt a b=false))(hd:Int):R.Mc 438 [.omap 0,.ce (.fn (R.ft 437)) [.loc 1 1 0 0]] [(0,.map 4 true true d2 16 (cN l)),(1,.var (R.ty 10) [.int .i64 hd])] (.aQ []) [(0,.map 4 true true false 16 (cN (l.filter fun x=> !gu hd x))),(1,.var (R.ty 10) [.int .i64 hd])] 2:=
 h.abx.aY 100 2 rfl rfl rfl fun X bb hfit hp=>by
  refine sh ?_
  refine⟨fun r=> ?_⟩
  refine sh ?_
  refine eH 100 (fun s:List In × List Bool × Option Nat=>Gi (gu hd) l s.1 s.2.1) (fun s=>⟨[(0,.omap 0),(1,.ce (.fn (R.ft 437)) [.loc 1 1 0 0]),(7,.nE 0 r)],[(0,.map 4 true true (.it r s.2.1 s.2.2) 16 (cN s.1)),(1,.var (R.ty 10) [.int .i64 hd])],2⟩) (fun s=>nF s.2.1) ((l,(cN l).map fun _=>false,none)) ?_ ?_
  ·exact Gi.init nd
  ·rintro⟨l',sn,la⟩ hs
   dsimp only at hs ⊢
   refine sh ?_
   refine⟨rfl,fun h1 h2=> ?_,fun i row h1 h2 h3=> ?_⟩
   ·have e:=hs.done h1
    subst e
    refine sh ?_
    exact rM [0,1]
   ·obtain⟨x,hx,rfl⟩:=Cj h1
    refine sh ?_
    refine⟨⟨rfl,i,x.row,rfl,h1,?_⟩⟩
    refine sh ?_
    refine cM false [1] (RU k hd x) ?_
    repeat (intro _; first|refine eK ?_|refine eP ?_)
    refine sh ?_
    refine cS (fun h4=> ?_) (fun h4=> ?_)
    ·refine sh ?_
     refine Ya hs.nd hx ?_
     refine sh ?_
     refine nX ((l'.eraseIdx i,(sn.set i true).eraseIdx i,none)) ?_ ?_ ⟨_,hp,rfl⟩ ?_ ?_
     ·exact hs.drop hx h4
     ·have e1:=ya h2
      have e2:=IL (l:=sn.set i true) (i:=i) (by rw[List.getElem?_set_self (List.getElem?_eq_some_iff.1 h2).1])
      show nF ((sn.set i true).eraseIdx i)<nF sn
      omega
     ·exact fu
     ·refine iH ?_ ?_
      all_goals first|exact wH l' i|(right; show ox ((cN l').eraseIdx i); rw[wH]; simp)
    ·refine sh ?_
     refine lO ((l',sn.set i true,some i)) ?_ ?_
     ·exact hs.sN hx h4
     ·have e1:=ya h2
      show nF (sn.set i true)<nF sn
      omega
theorem wJ(h:Int):∀l:List Rw,∃i:Nat,bR [.int .i64 h] (iI l)=(be l h).map (fun r=>(i,r.row))/\((be l h).isSome=true->(iI l).eraseIdx i=iI (l.eraseP fun r=>r.h==h))
 |[]=>⟨0,rfl,fun h=>by simp[be]at h⟩
 |r::l=>by
  obtain⟨i,hi,he⟩:=wJ h l
  have e:kU [.int .i64 h] (vp r)=(r.h==h):=by
   show ((h==r.h)&&true)=_
   rw[Bool.and_true]; exact Bool.beq_comm
  by_cases hh:(r.h==h)=true
  ·refine⟨0,?_,fun _=> ?_⟩
   ·show (if kU [.int .i64 h] (vp r)then some (0,(vp r).drop 1)else _)=_
    rw[e,if_pos hh]; simp only[be,List.find?_cons,hh]; rfl
   ·rw[List.eraseP_cons_of_pos (p:=fun r:Rw=>r.h==h) hh]; rfl
  ·refine⟨i+1,?_,fun k=> ?_⟩
   ·show (if kU [.int .i64 h] (vp r)then some (0,(vp r).drop 1)else (bR [.int .i64 h] (iI l)).map fun q=>(q.1+1,q.2))=_
    rw[e,if_neg hh,hi]; simp only[be,List.find?_cons,hh]
    cases List.find? (fun r=>r.h==h) l<;>rfl
   ·rw[List.eraseP_cons_of_neg (p:=fun r:Rw=>r.h==h) hh]
    have k':(be l h).isSome=true:=by simpa[be,List.find?_cons,hh]using k
    show vp r::(iI l).eraseIdx i=vp r::iI (l.eraseP fun r=>r.h==h)
    rw[he k']
theorem Yb{h:Int}{l:List Rw}{K:Option (Nat × List AV)->Prop}(k:∀i:Nat,((be l h).isSome=true->(iI l).eraseIdx i=iI (l.eraseP fun r=>r.h==h))->K ((be l h).map fun r=>(i,r.row))):JK [.i] [.int .i64 h] (iI l) K:=by
 obtain⟨i,hi,he⟩:=wJ h l
 exact⟨IF,by rw[hi]; exact k i he⟩
def fR(t:Tb)(hd:Int):Tb × Int:=if (be t.rows hd).isSome=true then (⟨t.rows.eraseP fun r=>r.h==hd,t.ins.filter fun x=> !gu hd x⟩,0)else (t,11)
theorem FK{R:Env}(h:Qd R)(d1 d2:Bool)(t:Tb)(nd:t.ins.Pairwise (fun a b=>bt a b=false))(hd:Int):R.Mc 428 [.loc 2 1 0 0,.int .i64 hd] (eb R d1 d2 t) (.int .i64 (fR t hd).2) (eb R false false (fR t hd).1) 3:=
 h.abT.aY 100 3 rfl rfl rfl fun X bb hfit hp=>by
  generalize hq:fR t hd=q
  unfold fR at hq
  unfold eb
  refine sh ?_
  refine cM false [0,1,2] (lD h.ja d1 d2 t) ?_
  repeat (intro _; first|refine eK ?_|refine eP ?_)
  refine sh ?_
  refine oz fun i=> ?_
  cases hr:be t.rows hd with
  |none=>
   rw[hr,if_neg (by simp)]at hq
   dsimp only[Option.map_none]
   subst hq
   refine sh ?_
   exact rM [0,1,2]
  |some y=>
   rw[hr,if_pos (show (some y).isSome=true from rfl)]at hq
   dsimp only[Option.map_some]
   refine sh ?_
   refine Yb fun i he=> ?_
   rw[hr]at he ⊢
   dsimp only[Option.map_some]
   refine FI (he rfl) ?_
   refine sh ?_
   refine cM false [1,3] (FJ h.Qf h.Qe d2 t.ins nd hd) ?_
   repeat (intro _; first|refine eK ?_|refine eP ?_)
   subst hq
   refine sh ?_
   exact rM [0,1,2]
end Go.UM
namespace Go.UM
open Go.AM Go.Shelf Go.RowKit Go.Lib Go.Sort Go.Proofs
section
variable {α:Type} [Inhabited α]
def rc(ap:α->List Int)(x:α):List Value:=(ap x).map (Value.int .i64)
def fB(ap:α->List Int)(x:α):List AV:=(ap x).map (AV.int .i64)
structure mW(P:Program)(f g k:Nat)(ap:α->List Int)(cf:α->α->Int)(gU:List α->List α):Prop where
 nil:∀(p:Option Addr)(cap:Nat)(fv:Value)(w:World),Calls P f #[.slice p 0 cap,fv] w fun e w'=>e= .returned (.tuple #[])/\w'=w
 row:∀(bf cap:Nat)(l:List α)(w:World),CmpLays P g #[] (rc ap) k cf bf 0 l.length w->HoldsK (rc ap) k w bf 0 l.toArray->bf<w.heap.size->l.length<4611686018427387904->
  Calls P f #[.slice (some ⟨bf,0,none⟩) l.length cap,.func (.func g) #[] #[]] w fun e w'=>e= .returned (.tuple #[])/\∃n os,w'=sortWorldK (rc ap) k w bf 0 n (gU l).toArray os
theorem IM{ρ:AM.Place}{L:bi}{I:Nat->Prop}{w:World}{N:Nat->Prop}{n:Int}{v:Value}(h:aP ρ L I w N (.int .i64 n) v):v= .int .i64 n:=by cases h; rfl
omit [Inhabited α] in
theorem Du{ρ:AM.Place}{L:bi}{I:Nat->Prop}{w:World}{N:Nat->Prop}(ap:α->List Int)(x:α):aP ρ L I w N (.agg (fB ap x)) (.agg (rc ap x).toArray):=by
 refine .agg _ _ (by simp[fB,rc]) (fun u hu=> ?_) fun j hj=> ?_
 ·obtain⟨n,_,rfl⟩:=List.mem_map.1 hu; rfl
 ·have hj':j< (ap x).length:=by simpa[fB]using hj
  simp only[fB,rc,List.getD_eq_getElem?_getD,List.getElem?_map,List.getElem?_eq_getElem hj',Option.map_some,Option.getD_some]
  exact .int _ _
theorem Mw{w w1:World}(h:Blw w w1):∃q os,w1=grow (w.drewN q) os:=by
 refine⟨w1.drawn - w.drawn,w1.heap.extract w.heap.size w1.heap.size,?_⟩
 obtain⟨heap,tape,drawn,os,output⟩:=w
 obtain⟨IN,ag1,Ck,os1,ZJ⟩:=w1
 obtain⟨⟨h1,h2,h3,h4,h5⟩,h6⟩:=h
 simp only at h1 h2 h3 h4 h5 h6
 subst h1; subst h2; subst h3
 have e1:IN=heap++IN.extract heap.size IN.size:=by
  apply Array.ext_getElem?
  intro i
  by_cases hi:i<heap.size
  ·rw[Array.getElem?_append_left hi]; exact h5 i hi
  ·rw[Array.getElem?_append_right (by omega),Array.getElem?_extract]
   have e:heap.size+ (i - heap.size)=i:=by omega
   rw[e]
   split
   ·rfl
   ·rw[Array.getElem?_eq_none (by omega)]
 have h6:drawn<=Ck:=h6
 have e2:Ck=drawn+ (Ck - drawn):=by omega
 simp only[grow,World.drewN]
 rw[<-e1,<-e2]
theorem IP{P:Program}{g k:Nat}{ap:α->List Int}{cf:α->α->Int}(h:∀x y,Bg P g [.agg (fB ap x),.agg (fB ap y)] (.int .i64 (cf x y)))(bf size:Nat)(w:World):CmpLays P g #[] (rc ap) k cf bf 0 size w:=by
 intro m os dk hdk x y
 refine (h x y cW (sortWorldK (rc ap) k w bf 0 m dk os) [.agg (rc ap x).toArray,.agg (rc ap y).toArray] (fun _ h=>h.elim) ⟨rfl,fun j hj=> ?_⟩).mono ?_
 ·match j,hj with
  |0,_=>exact Du ap x
  |1,_=>exact Du ap y
 ·rintro e w' ⟨v,I1,rfl,hb,_,_,_,hr⟩
  rw[IM hr]
  obtain⟨q,os',e⟩:=Mw hb
  exact⟨rfl,q,os',e⟩
omit [Inhabited α] in
theorem pK{ap:α->List Int}{k:Nat}(hk:∀x,(ap x).length=k)(x:α){j:Nat}(hj:j<k):(rc ap x)[j]! = .int .i64 ((ap x)[j]'(by rw[hk]; exact hj))/\(fB ap x).getD j .bad= .int .i64 ((ap x)[j]'(by rw[hk]; exact hj)):=by
 have hj':j< (ap x).length:=by rw[hk]; exact hj
 constructor
 ·rw[getElem!_pos _ j (by simpa[rc]using hj')]; simp[rc]
 ·simp[fB,List.getD_eq_getElem?_getD,hj']
theorem yb{ap:α->List Int}{k:Nat}(l:List α){i j:Nat}(hi:i<l.length)(hj:j<k):(flatK (rc ap) k l.toArray)[i*k+j]! =(rc ap l[i])[j]! :=by
 have hlt:i*k+j<l.length*k:=by
  have:(i+1)*k<=l.length*k:=Nat.mul_le_mul_right _ hi
  rw[Nat.add_mul,Nat.one_mul]at this; omega
 rw[get_flatK _ _ _ _ (by simpa using hlt)]
 have e1:(i*k+j) / k=i:=by rw[Nat.add_comm,Nat.add_mul_div_right _ _ (by omega),Nat.div_eq_of_lt hj,Nat.zero_add]
 have e2:(i*k+j) % k=j:=by rw[Nat.add_comm,Nat.add_mul_mod_self_right,Nat.mod_eq_of_lt hj]
 rw[e1,e2,getElem!_pos l.toArray i (by simpa using hi)]
 simp
omit [Inhabited α] in
theorem Ai{ap:α->List Int}(l:List α){i:Nat}(hi:i<l.length):(l.map (fB ap)).getD i []=fB ap l[i]:=by
 simp[List.getD_eq_getElem?_getD,hi]
structure Aj(P:Program)(f k:Nat)(ap:α->List Int)(gU:List α->List α)(ea:List AV)(ev:List Value):Prop where
 ex:∀(ρ:AM.Place)(L:bi)(I:Nat->Prop)(w:World)(N:Nat->Prop)(vs:List Value),dB ρ L I w N ea vs->vs=ev
 nil:∀(p:Option Addr)(cap:Nat)(w:World),Calls P f (.slice p 0 cap::ev).toArray w fun e w'=>e= .returned (.tuple #[])/\w'=w
 row:∀(bf cap:Nat)(l:List α)(w:World),HoldsK (rc ap) k w bf 0 l.toArray->bf<w.heap.size->l.length<4611686018427387904->
  Calls P f (.slice (some ⟨bf,0,none⟩) l.length cap::ev).toArray w fun e w'=>e= .returned (.tuple #[])/\∃n os,w'=sortWorldK (rc ap) k w bf 0 n (gU l).toArray os
theorem mW.e{P:Program}{f g k:Nat}{ap:α->List Int}{cf:α->α->Int}{gU:List α->List α}(S:mW P f g k ap cf gU)(hcmp:∀x y,Bg P g [.agg (fB ap x),.agg (fB ap y)] (.int .i64 (cf x y))):
  Aj P f k ap gU [.ce (.fn g) []] [.func (.func g) #[] #[]]:=by
 refine⟨fun ρ L I w N vs h=> ?_,fun p cap w=>S.nil p cap _ w,fun bf cap l w hH hb hl=>S.row bf cap l w (IP hcmp bf l.length w) hH hb hl⟩
 obtain⟨hl,hr⟩:=h
 match vs,hl with
 |[v],_=>
  have r1:aP ρ L I w N (.ce (.fn g) []) v:=hr 0 (by simp)
  cases r1 with
  |ce _ _ us hu _=>
   obtain rfl:=List.eq_nil_of_length_eq_zero hu
   rfl
theorem IQ{R:Env}{f k ty:Nat}{ap:α->List Int}{gU:List α->List α}{ea:List AV}{ex:List Value}(hb:cZ R.P (R.ft f))(S:Aj R.P (R.ft f) k ap gU ea ex)(hk:∀x,(ap x).length=k)(Ss:0<k)
  (hlen:∀l,(gU l).length=l.length) (l:List α) (hl:l.length<4611686018427387904):
  R.Mc f (.aV 0 l.length::ea) [(0,.arr ty k (l.map (fB ap)))] (.aQ []) [(0,.arr ty k ((gU l).map (fB ap)))] 1:=by
 refine⟨hb,fun w I ρ vs hW hr=> ?_,rfl⟩
 have W:=hW 0
 obtain⟨hvl,hr⟩:=hr
 obtain⟨v0,r,rfl⟩:∃v0 r,vs=v0::r:=by
  match vs,hvl with
  |a::r,_=>exact⟨a,r,rfl⟩
 have r0:aP ρ (lens (ab (az [(0,.arr ty k (l.map (fB ap)))]))) I w (· <1) (.aV 0 l.length) v0:=hr 0 (by simp)
 obtain rfl:=S.ex _ _ _ _ _ r ⟨by simpa using hvl,fun j hj=>by have:=hr (j+1) (by simpa using hj); simpa using this⟩
 have hM:ab (az [(0,bP.arr ty k (l.map (fB ap)))]) 0=some ⟨ty,k,l.map (fB ap),none⟩:=rfl
 have B:=W.bf 0 _ hM
 have done:∀(w1:World),l=[]->w1=w->∃v,Ending.returned (.tuple #[])= .returned v/\∃ρ1 I1 s,db ⟨w,1,I,s,ρ,lens (ab (az [(0,.arr ty k (l.map (fB ap)))]))⟩ ρ1 I1 (ab (az [(0,.arr ty k ((gU l).map (fB ap)))])) (· <1) w1/\aP ρ1 (lens (ab (az [(0,.arr ty k ((gU l).map (fB ap)))]))) I1 w1 (· <1) (.aQ []) v:=by
  rintro w1 rfl rfl
  have:gU []=[]:=List.eq_nil_of_length_eq_zero (by rw[hlen]; rfl)
  rw[this]
  exact⟨_,rfl,ρ,I,0,W,.aQ [] [] rfl (fun j hj=>by simp at hj)⟩
 cases r0 with
 |aV _ _ _ hn h1 h=>
  rcases (h l.length k (by rw[aC]; exact⟨_,hM,by simp[bD.ln],rfl⟩)).2 rfl with⟨hv,q,rfl⟩|⟨gb,cap,hρ,rfl⟩
  ·have he:l=[]:=by have:=B.eW hv; simpa using this
   refine (S.nil q 0 w).mono ?_
   rintro e w' ⟨rfl,h⟩
   exact done w' he h
  ·by_cases he:l=[]
   ·have e0:l.length=0:=by rw[he]; rfl
    rw[e0]
    refine (S.nil (some ⟨gb,0,none⟩) cap w).mono ?_
    rintro e w' ⟨rfl,h⟩
    exact done w' he h
   ·obtain⟨cs,fr,qp,oc,rq,hown,hlc,nK,hcs,hcell⟩:=B.real gb cap hρ
    have qp:w.heap[gb]? =some (.cells cs ty fr):=qp
    have hlc:l.length<=cap:=by simpa using hlc
    have hcs:cs.size=cap*k:=hcs
    have hlt:=(Array.getElem?_eq_some_iff.1 qp).1
    have hH:HoldsK (rc ap) k w gb 0 l.toArray:=by
     intro t ht
     have ht':t<l.length*k:=by simpa using ht
     have hi:t / k<l.length:=by rw[Nat.div_lt_iff_lt_mul Ss]; exact ht'
     have hj:t % k<k:=Nat.mod_lt _ Ss
     have et:t / k*k+t % k=t:=by rw[Nat.mul_comm]; exact Nat.div_add_mod t k
     obtain⟨u,hu,_,FL⟩:=hcell (t / k) (t % k) (by simpa using hi) hj
     rw[show ((⟨ty,k,l.map (fB ap),none⟩:bD).es.getD (t / k) [])=fB ap l[t / k]from Ai l hi,(pK hk l[t / k] hj).2]at FL
     have CD:=IM FL
     have ef:=yb (ap:=ap) (k:=k) l hi hj
     rw[et]at ef
     have hu:cs[t]? =some u:=by rw[<-et]; exact hu
     refine⟨?_,?_⟩
     ·rw[ef,(pK hk l[t / k] hj).1,Nat.zero_add]
      simp only[World.cell?,qp,Option.isSome_none,Bool.false_eq_true,if_false,id]
      rw[hu,CD]
     ·have hf:=oc t (Array.getElem?_eq_some_iff.1 hu).1
      simp only[World.frozen?,qp,Nat.zero_add]
      simp
      omega
    refine (S.row gb cap l w hH hlt hl).mono ?_
    rintro e w' ⟨rfl,n,os,Yc⟩
    have hheap:w'.heap=(w.heap.modify gb (onCells (putCells id 0 (flatK (rc ap) k (gU l).toArray))))++os:=by rw[Yc]; rfl
    have hat:∀q,q<w.heap.size->w'.heap[q]? =(w.heap.modify gb (onCells (putCells id 0 (flatK (rc ap) k (gU l).toArray))))[q]? :=fun q hq=>by
     rw[hheap,Array.getElem?_append_left (by simpa using hq)]
    have uL:w'.heap[gb]? =some (.cells (putCells id 0 (flatK (rc ap) k (gU l).toArray) cs) ty fr):=by
     rw[hat gb hlt,Array.getElem?_modify,if_pos rfl,qp]; rfl
    have hput:∀t,t<l.length*k->(putCells id 0 (flatK (rc ap) k (gU l).toArray) cs)[t]? =some (flatK (rc ap) k (gU l).toArray)[t]! :=fun t ht=>by
     have:t<cs.size:=by
      rw[hcs]; exact Nat.lt_of_lt_of_le ht (Nat.mul_le_mul_right _ hlc)
     unfold putCells
     rw[Array.getElem?_mapIdx,Array.getElem?_eq_getElem this,Option.map_some,if_pos (by simp[hlen]; exact ht)]
     simp
    obtain⟨E,W1⟩:=W.put (w':=w') 0 ⟨ty,k,(gU l).map (fB ap),none⟩ gb cap (putCells id 0 (flatK (rc ap) k (gU l).toArray) cs) fr (by rw[Yc]; rfl) (by rw[Yc]; rfl) (by rw[Yc]; rfl) (by rw[hheap]; simp)
     (fun q hq hne=>by rw[hat q hq,Array.getElem?_modify,if_neg (fun e=>hne e.symm)]) uL (fun o ho=>oc o (by simpa[putCells]using ho)) (.inr ⟨cap,hρ,_,hM⟩)
     (fun b0 h0=>by rw[hM]at h0; cases h0; exact⟨rfl,by simp[bD.ln,hlen],fun _=>hρ⟩) (fun _=>⟨_,hM⟩)
     (fun e he=>by obtain⟨x,_,rfl⟩:=List.mem_map.1 he; simp[fB,hk]) (by simpa[hlen]using hlc) nK (by simpa[putCells]using hcs)
     (fun i j hi hj=>by
       have hi':i< (gU l).length:=by simpa using hi
       have hj:j<k:=hj
       have acl:i*k+j<l.length*k:=by
        have:(i+1)*k<=l.length*k:=Nat.mul_le_mul_right _ (by rw[hlen]at hi'; exact hi')
        rw[Nat.add_mul,Nat.one_mul]at this; omega
       refine⟨_,hput _ acl,?_,?_⟩
       ·rw[yb _ hi' hj,(pK hk _ hj).1]; rfl
       ·rw[yb _ hi' hj,(pK hk _ hj).1,show ((⟨ty,k,(gU l).map (fB ap),none⟩:bD).es.getD i [])=fB ap (gU l)[i]from Ai _ hi',(pK hk _ hj).2]
        exact .int _ _)
     (fun _ _ _ _ _ _ h=>by cases h) (by rw[Yc]; show w.drawn<=w.drawn+n; omega)
    have e1:dc (ab (az [(0,bP.arr ty k (l.map (fB ap)))])) 0 ⟨ty,k,(gU l).map (fB ap),none⟩=ab (az [(0,.arr ty k ((gU l).map (fB ap)))]):=by
     funext m
     by_cases hm:m=0
     ·subst hm; rfl
     ·have:(m==0)=false:=by simpa using hm
      simp[dc,hm,az,ab,this]
    rw[e1]at W1
    exact⟨_,rfl,_,I,0,W1.nL (fun m hm=>by rcases hm with rfl|hm; exact Nat.zero_lt_one; exact hm),.aQ [] [] rfl (fun j hj=>by simp at hj)⟩
theorem Mx{R:Env}{f g k ty:Nat}{ap:α->List Int}{cf:α->α->Int}{gU:List α->List α}(hb:cZ R.P (R.ft f))(S:mW R.P (R.ft f) (R.ft g) k ap cf gU)(hk:∀x,(ap x).length=k)(Ss:0<k)
 (hcmp:∀x y,R.Pc g [.agg (fB ap x),.agg (fB ap y)] (.int .i64 (cf x y))) (hlen:∀l,(gU l).length=l.length) (l:List α) (hl:l.length<4611686018427387904):
 R.Mc f [.aV 0 l.length,.ce (.fn (R.ft g)) []] [(0,.arr ty k (l.map (fB ap)))] (.aQ []) [(0,.arr ty k ((gU l).map (fB ap)))] 1:=IQ hb (S.e hcmp) hk Ss hlen l hl
theorem IR{R:Env}{f g k:Nat}{ap:α->List Int}{cf:α->α->Int}{gU:List α->List α}(S:mW R.P (R.ft f) (R.ft g) k ap cf gU):R.Pc f [.ai,.ce (.fn (R.ft g)) []] (.aQ []):=by
 intro I w vs hI hr
 obtain⟨hvl,hr⟩:=hr
 obtain⟨v0,v1,rfl⟩:∃v0 v1,vs=[v0,v1]:=by
  match vs,hvl with
  |[a,b],_=>exact⟨a,b,rfl⟩
 have r0:aP de gG I w cW .ai v0:=hr 0 (by simp)
 cases r0
 refine (S.nil Option.none 0 v1 w).mono ?_
 rintro e w' ⟨rfl,rfl⟩
 exact⟨_,I,rfl,⟨Below.refl _ _,Nat.le_refl _⟩,fun _ h=>h,hI,fun _ _ h=>h,.aQ [] [] rfl (fun j hj=>by simp at hj)⟩
end
end Go.UM
namespace Go.UM
open Go.AM
set_option maxRecDepth 4000
def oA(x y:Int):Int:=if x<y then -1 else if y<x then 1 else 0
theorem NU{R:Env}(h:Pb R)(x:Int):R.Pc 468 [.int .i64 x] (.bool false):=
 h.Pd.enter 60 rfl fun X bb hfit hp=>by
  refine sh ?_
  exact rT
theorem Dv{R:Env}(h:Pe R)(x y:Int):R.Pc 451 [.int .i64 x,.int .i64 y] (.int .i64 (oA x y)):=
 h.HX.enter 100 rfl fun X bb hfit hp=>by
  generalize hq:oA x y=q
  unfold oA at hq
  refine sh ?_
  refine ae.pure h.E4.Pd.hb (NU h.E4 x) rfl ?_
  refine sh ?_
  refine ae.pure h.E4.Pd.hb (NU h.E4 y) rfl ?_
  refine sh ?_
  refine cS (fun h1=> ?_) (fun h1=> ?_)
  ·rw[if_pos h1]at hq
   subst hq
   refine sh ?_
   exact rT
  ·rw[if_neg (by omega)]at hq
   refine sh ?_
   refine cS (fun h2=> ?_) (fun h2=> ?_)
   ·rw[if_pos h2]at hq
    subst hq
    refine sh ?_
    exact rT
   ·rw[if_neg (by omega)]at hq
    subst hq
    refine sh ?_
    exact rT
def FM:List Int->Int
 |[]=>0
 |x::r=>if x=0 then FM r else x
theorem acm{R:Env}(h:Pf R)(l:List Int)(hl:l.length<=1073741824):R.Pc 452 [.aD 1 (bp .i64 l)] (.int .i64 (FM l)):=
 h.UK.enter 100 rfl fun X bb hfit hp=>by
  refine sh ?_
  refine eH 100 (fun i:Nat=>i<=l.length/\FM (l.drop i)=FM l) (fun i=>⟨[(3,.int .i64 0),(6,.aD 1 (bp .i64 l)),(7,.int .i64 l.length),(8,.int .i64 i)],[],0⟩) (fun i=>l.length - i) (0) ?_ ?_
  ·exact⟨Nat.zero_le _,by simp⟩
  ·intro i hi
   dsimp only
   refine sh ?_
   refine cS (fun h1=> ?_) (fun h1=> ?_)
   ·obtain⟨x,hx⟩:∃u_,l[i]? =some u_:=⟨_,List.getElem?_eq_getElem (by first|omega|(simp<;>omega))⟩
    refine sh ?_
    refine aa hx ?_
    have hd:FM l=FM (x::l.drop (i+1)):=by
     rw[<-hi.2]
     congr 1
     have:=(List.getElem?_eq_some_iff.1 hx)
     rw[<-this.2,List.getElem_cons_drop]
    refine sh ?_
    refine cS (fun h2=> ?_) (fun h2=> ?_)
    ·refine sh ?_
     refine rT ?_
     refine bj ?_
     rw[hd,FM,if_neg h2]
    ·refine sh ?_
     refine lO (i+1) ?_ ?_
     ·exact⟨by omega,by rw[hd,FM,if_pos (by omega)]⟩
     ·omega
   ·refine sh ?_
    refine rT ?_
    refine bj ?_
    rw[<-hi.2,List.drop_eq_nil_of_le (by omega)]; rfl
def lE(x y:In):Int:=FM [oA x.bc y.bc,oA x.dp y.dp,oA x.cw y.cw,oA x.n y.n]
theorem My{R:Env}(h:P9 R)(x y:In):R.Pc 450 [.agg [.int .i64 x.bc,.int .i64 x.dp,.int .i64 x.cw,.int .i64 x.n],.agg [.int .i64 y.bc,.int .i64 y.dp,.int .i64 y.cw,.int .i64 y.n]] (.int .i64 (lE x y)):=
 h.Wc.enter 100 rfl fun X bb hfit hp=>by
  refine sh ?_
  refine ae.pure h.vg.HX.hb (Dv h.vg x.bc y.bc) rfl ?_
  refine sh ?_
  refine ae.pure h.vg.HX.hb (Dv h.vg x.dp y.dp) rfl ?_
  refine sh ?_
  refine ae.pure h.vg.HX.hb (Dv h.vg x.cw y.cw) rfl ?_
  refine sh ?_
  refine ae.pure h.vg.HX.hb (Dv h.vg x.n y.n) rfl ?_
  refine sh ?_
  refine cM true [] ((acm h.Lm [oA x.bc y.bc,oA x.dp y.dp,oA x.cw y.cw,oA x.n y.n] (by simp)).mc h.Lm.UK.hb) ?_
  repeat (intro _; first|refine eK ?_|refine eP ?_)
  refine sh ?_
  exact rT
theorem RV{R:Env}(h:P' R)(x y:In):R.Pc 436 [.agg x.row,.agg y.row] (.int .i64 (lE x y)):=
 h.abP.enter 100 rfl fun X bb hfit hp=>by
  refine sh ?_
  refine ae.pure h.lU.BT.hb (FE h.lU x) rfl ?_
  refine sh ?_
  refine ae.pure h.lU.BT.hb (FE h.lU y) rfl ?_
  refine sh ?_
  refine ae.pure h.Ln.Wc.hb (My h.Ln x y) rfl ?_
  refine sh ?_
  exact rT
def inN(x:In):List Int:=[x.bc,x.dp,x.cw,x.n,x.t.m0,x.t.m1,x.t.m2,x.t.m3,x.t.m4,x.t.m5,x.t.m6,x.t.m7,x.t.m8,x.t.t.a,x.t.t.b,x.t.t.c]
def yw:List In->List Bool->List In
 |x::l,b::sn=>if b=true then x::yw l sn else yw l sn
 |_,_=>[]
theorem Ak:∀l:List In,yw l ((cN l).map fun _=>false)=[]
 |[]=>rfl
 |x::l=>by
  show (if false=true then x::yw l ((cN l).map fun _=>false)else yw l ((cN l).map fun _=>false))=[]
  rw[if_neg (by simp)]; exact Ak l
theorem Dw:∀{l:List In}{sn:List Bool},sn.length=l.length->(∀q ∈ sn,q=true)->yw l sn=l
 |[],[],_,_=>rfl
 |x::l,b::sn,h,ha=>by
  rw[yw,if_pos (ha b (by simp)),Dw (by simpa using h) fun q hq=>ha q (by simp[hq])]
 |[],_::_,h,_=>by simp at h
 |_::_,[],h,_=>by simp at h
theorem Dx:∀(l:List In)(sn:List Bool),(yw l sn).length<=l.length
 |x::l,b::sn=>by
  have:=Dx l sn
  rw[yw]; split<;>simp only[List.length_cons]<;>omega
 |[],_=>by simp[yw]
 |_::_,[]=>by simp[yw]
theorem yc:∀{l:List In}{sn:List Bool}{i:Nat}{x:In},l[i]? =some x->sn[i]? =some false->(x::yw l sn).Perm (yw l (sn.set i true))
 |[],_,i,x,h,_=>by simp at h
 |_::_,[],i,x,_,h=>by simp at h
 |y::l,b::sn,0,x,h,hs=>by
  simp at h hs; subst h; subst hs
  rw[List.set_cons_zero,yw,yw,if_neg (by simp),if_pos rfl]
 |y::l,b::sn,i+1,x,h,hs=>by
  have ih:=yc (l:=l) (sn:=sn) (i:=i) (x:=x) (by simpa using h) (by simpa using hs)
  rw[List.set_cons_succ,yw,yw]
  by_cases hb:b=true
  ·rw[if_pos hb,if_pos hb]
   exact (List.Perm.swap y x _).trans (ih.cons y)
  ·rw[if_neg hb,if_neg hb]; exact ih
theorem Dy{a b:Int}{r:List Int}:FM (oA a b::r)<0↔a<b\/(a=b/\FM r<0):=by
 show (if oA a b=0 then FM r else oA a b)<0↔_
 unfold oA
 by_cases h1:a<b
 ·rw[if_pos h1,if_neg (by omega)]; omega
 ·rw[if_neg h1]
  by_cases h2:b<a
  ·rw[if_pos h2,if_neg (by omega)]; omega
  ·rw[if_neg h2,if_pos rfl]; omega
theorem ec{x y:In}:lE x y<0↔x.bc<y.bc\/ x.bc=y.bc/\(x.dp<y.dp\/ x.dp=y.dp/\(x.cw<y.cw\/ x.cw=y.cw/\x.n<y.n)):=by
 unfold lE
 rw[Dy,Dy,Dy,Dy]
 simp[FM]
theorem fm{x y:In}:bt x y=true↔x.bc=y.bc/\x.dp=y.dp/\x.cw=y.cw/\x.n=y.n:=by simp[bt]
def leI(x y:In):Bool:=decide (¬lE y x<0)
theorem lF{x y:In}:leI x y=true↔¬lE y x<0:=by simp[leI]
theorem mX(x y:In):(leI x y||leI y x)=true:=by
 rw[Bool.or_eq_true,lF,lF,ec,ec]; omega
theorem kQ(x y z:In)(h1:leI x y=true)(h2:leI y z=true):leI x z=true:=by
 rw[lF,ec]at h1 h2 ⊢; omega
theorem Al{x y:In}(h1:leI x y=true)(h2:leI y x=true):bt x y=true:=by
 rw[lF,ec]at h1 h2
 rw[fm]; omega
def cQ(l:List In):List In:=l.mergeSort leI
structure MA(gU:List In->List In):Prop where
 perm:∀l,(gU l).Perm l
 ord:∀l,(gU l).Pairwise fun x y=>leI x y=true
theorem MA.eq{gU:List In->List In}(S:MA gU){out l:List In}(nd:l.Pairwise fun a b=>bt a b=false)(h:out.Perm l):gU out=cQ l:=by
 refine List.Perm.eq_of_pairwise (le:=fun x y=>leI x y=true) ?_ (S.ord out) (List.pairwise_mergeSort kQ mX l) ((S.perm out).trans (h.trans (List.mergeSort_perm l leI).symm))
 intro a b ha hb h1 h2
 have Yd:a ∈ l:=h.mem_iff.1 ((S.perm out).mem_iff.1 ha)
 have hb':b ∈ l:=(List.mergeSort_perm l leI).mem_iff.1 hb
 have hs:=Al h1 h2
 have hs':bt b a=true:=Al h2 h1
 obtain⟨i,hi,rfl⟩:=List.getElem_of_mem Yd
 obtain⟨j,hj,rfl⟩:=List.getElem_of_mem hb'
 rw[List.pairwise_iff_getElem]at nd
 rcases Nat.lt_trichotomy i j with h|h|h
 ·rw[nd i j hi hj h]at hs; cases hs
 ·subst h; rfl
 ·rw[nd j i hj hi h]at hs'; cases hs'
instance:Inhabited In:=⟨⟨0,0,0,0,⟨0,0,0,0,0,0,0,0,0,⟨0,0,0⟩⟩⟩⟩
abbrev Am(R:Env)(gU:List In->List In):Prop:=mW R.P (R.ft 435) (R.ft 436) 16 inN lE gU
set_option maxHeartbeats 2000000 in
theorem IS{R:Env}(h:Qa R)(gU:List In->List In)(S:Am R gU)(hs:MA gU)(d1 d2:Bool)(t:Tb)(nd:t.ins.Pairwise fun a b=>bt a b=false)(hn:t.ins.length<=1000000):
  R.Mc 419 [.loc 2 1 0 0] (eb R d1 d2 t) (.aV 3 (cQ t.ins).length) (eb R d1 false t++ [(3,.arr (R.ty 44) 16 (cN (cQ t.ins)))]) 4:=
 h.abQ.aY 100 3 rfl rfl rfl fun X bb hfit hp=>by
  unfold eb
  refine sh ?_
  refine cM false [0,1,2] (lD h.ja d1 d2 t) ?_
  repeat (intro _; first|refine eK ?_|refine eP ?_)
  refine sh ?_
  refine⟨fun r=> ?_⟩
  refine sh ?_
  refine eH 100 (Sum.elim (fun s:List Bool=>s=(cN t.ins).map fun _=>false) (fun s:List Bool × Option Nat × List In=>s.1.length=t.ins.length/\s.2.2.Perm (yw t.ins s.1))) (Sum.elim (fun s=>⟨[(3,.ai),(12,.nE 1 r)],[(0,.map 1 false true d1 41 (iI t.rows)),(1,.map 4 true true (.it r s none) 16 (cN t.ins)),(2,.var (R.ty 47) [.omap 0,.omap 1])],3⟩) (fun s=>⟨[(3,.aV 3 s.2.2.length),(12,.nE 1 r)],[(0,.map 1 false true d1 41 (iI t.rows)),(1,.map 4 true true (.it r s.1 s.2.1) 16 (cN t.ins)),(2,.var (R.ty 47) [.omap 0,.omap 1]),(3,.arr (R.ty 44) 16 (cN s.2.2))],4⟩)) (Sum.elim (fun s=>nF s) (fun s=>nF s.1)) (.inl ((cN t.ins).map fun _=>false)) ?_ ?_
  ·rfl
  ·rintro (sn|⟨sn,la,out⟩) hv
   ·dsimp only[Sum.elim_inl]at hv ⊢
    refine sh ?_
    refine⟨rfl,fun h1 h2=> ?_,fun i row h1 h2 h3=> ?_⟩
    ·have e:t.ins=[]:=by
      subst hv
      cases hl:t.ins with
      |nil=>rfl
      |cons x l=>rw[hl]at h1; have:=h1 false (by simp[cN]); cases this
     have hr:=e
     refine sh ?_
     refine ae.pure h.Lo.UG.hb (IR S) rfl ?_
     rw[e,show cQ []=[]from by simp[cQ]]
     refine sh ?_
     exact rM [0,1,2,50]
    ·obtain⟨x,hx,rfl⟩:=Cj h1
     refine sh ?_
     refine⟨⟨rfl,i,x.row,rfl,h1,?_⟩⟩
     refine sh ?_
     refine nR [0,1,2,6] (.inr (sn.set i true,some i,[x])) ?_ ?_
     ·refine⟨by rw[List.length_set]; simpa using h3,?_⟩
      have:=yc hx h2
      rw[hv,Ak]at this
      rw[hv]; exact this
     ·have:=ya h2
      show nF (sn.set i true)<nF sn
      omega
   ·dsimp only[Sum.elim_inr]at hv ⊢
    refine sh ?_
    refine⟨rfl,fun h1 h2=> ?_,fun i row h1 h2 h3=> ?_⟩
    ·have e:out.Perm t.ins:=by have:=hv.2; rwa[Dw hv.1 h1]at this
     have e2:=hs.eq nd e
     have el:out.length=(cQ t.ins).length:=by rw[<-e2,(hs.perm out).length_eq]
     have c:R.Mc 435 [.aV 0 out.length,.ce (.fn (R.ft 436)) []] [(0,.arr (R.ty 44) 16 (cN out))] (.aQ []) [(0,.arr (R.ty 44) 16 (cN (cQ t.ins)))] 1:=by
      rw[<-e2]
      exact Mx (ty:=R.ty 44) h.Lo.UG.hb S (fun _=>rfl) (by omega) (fun x y=>RV h.Qb x y) (fun l=>(hs.perm l).length_eq) out (by rw[e.length_eq]; omega)
     refine sh ?_
     refine cM false [3] (c) ?_
     repeat (intro _; first|refine eK ?_|refine eP ?_)
     refine sh ?_
     exact rM [0,1,2,3]
    ·obtain⟨x,hx,rfl⟩:=Cj h1
     have hb:out.length<=1000000:=by
      have:=hv.2.length_eq
      have:=Dx t.ins sn
      omega
     refine sh ?_
     refine⟨⟨rfl,i,x.row,rfl,h1,?_⟩⟩
     refine sh ?_
     refine nX (.inr (sn.set i true,some i,out++ [x])) ?_ ?_ ⟨_,hp,rfl⟩ ?_ ?_
     ·refine⟨by rw[List.length_set]; exact hv.1,?_⟩
      exact (List.perm_append_singleton x out).trans ((hv.2.cons x).trans (yc hx h2))
     ·have:=ya h2
      show nF (sn.set i true)<nF sn
      omega
     ·exact fu
     ·refine bj ?_
      all_goals first|exact (B9 out [x]).symm|(right; simp[In.row])
end Go.UM
namespace Go.UM
open Go.AM
set_option maxRecDepth 4000
structure Ac where
 k:Int
 h:Int
 f:Mf
 a:As
 i:In
def Ac.row(c:Ac):List AV:=[.int .i64 c.k,.int .i64 c.h,.int .u64 c.f.id,.int .i64 c.f.kind,.int .u32 c.f.label,.int .u8 c.f.m0,.int .u8 c.f.m1,.int .u8 c.f.m2,.int .u8 c.f.m3,.int .u8 c.f.m4,.int .u8 c.f.m5,.int .u8 c.f.m6,.int .u8 c.f.m7,
 .int .u32 c.f.first,.int .u32 c.f.last,.int .i64 c.f.size,.int .i64 c.f.chunks,.int .i64 c.a.k,.aD 3 (bW c.a.m.v),.aD 2 (dH c.a.m.uv),.aD 3 (bW c.a.m.t),.int .i64 c.a.x.side,.aD 3 (bW c.a.x.t),
 .int .i64 c.a.mt.k,.int .i64 c.a.mt.c.a,.int .i64 c.a.mt.c.b,.int .i64 c.a.mt.c.c,.int .i64 c.a.mt.r,
 .int .i64 c.a.li.k,.int .i64 c.a.li.c.a,.int .i64 c.a.li.c.b,.int .i64 c.a.li.c.c,.int .i64 c.a.li.p.a,.int .i64 c.a.li.p.b,.int .i64 c.a.li.p.c,.int .i64 c.a.li.u.a,.int .i64 c.a.li.u.b,.int .i64 c.a.li.u.c,.int .i64 c.a.li.v.a,.int .i64 c.a.li.v.b,.int .i64 c.a.li.v.c,
 .int .i64 c.i.bc,.int .i64 c.i.dp,.int .i64 c.i.cw,.int .i64 c.i.n,.int .i64 c.i.t.m0,.int .i64 c.i.t.m1,.int .i64 c.i.t.m2,.int .i64 c.i.t.m3,.int .i64 c.i.t.m4,.int .i64 c.i.t.m5,.int .i64 c.i.t.m6,.int .i64 c.i.t.m7,.int .i64 c.i.t.m8,.int .i64 c.i.t.t.a,.int .i64 c.i.t.t.b,.int .i64 c.i.t.t.c]
def As.lB(a:As):As:=⟨a.k,a.m.lB,⟨a.x.side,a.x.t.take 260⟩,a.mt,a.li⟩
def Ac.lB(c:Ac):Ac:=⟨c.k,c.h,c.f,c.a.lB,c.i⟩
theorem MB{R:Env}(h:QX R)(c:Ac):R.Pc 420 [.agg c.row] (.agg c.lB.row):=
 h.Xt.enter 100 rfl fun X bb hfit hp=>by
  refine sh ?_
  refine ae.pure h.n191.Ww.hb (Mk h.n191 c.a.m) rfl ?_
  refine sh ?_
  refine jZ (by exact RF _ _) ?_
  refine sh ?_
  exact rT
def Cl(t:Tb)(c:Ac):Tb × Int:=if c.k=0 then gY t c.h c.f c.a else if c.k=1 then fR t c.h else if c.k=2 then kp t c.i else mE t c.i
structure jE(t:Tb)(n:Nat):Prop where
 row:∀r ∈ t.rows,fA r
 nd:t.ins.Pairwise fun a b=>bt a b=false
 rd:t.rows.Pairwise fun a b=>a.h≠b.h
 rl:t.rows.length<=n
 il:t.ins.length<=n
theorem Ye{R:Env}(h:QY R)(d1 d2:Bool)(t:Tb)(c:Ac){n:Nat}(ok:jE t n)(hn:n<=1000000)(fx:c.a.x.t.length<=1000)(fb:c.a.bare.Gh)(hx:c.i.t.I):
  R.Mc 421 [.loc 2 1 0 0,.agg c.row] (eb R d1 d2 t) (.int .i64 (Cl t c).2) (eb R false false (Cl t c).1) 3:=
 h.ab8.aY 100 3 rfl rfl rfl fun X bb hfit hp=>by
  have h1:=ok.rl
  have h2:=ok.il
  generalize hq:Cl t c=q
  unfold Cl at hq
  unfold eb
  refine sh ?_
  refine cS (fun k0=> ?_) (fun k0=> ?_)
  ·rw[if_pos k0]at hq
   subst hq
   refine sh ?_
   refine cM false [0,1,2] (Ci h.n346 d1 d2 t c.h c.f c.a fx fb (by omega)) ?_
   repeat (intro _; first|refine eK ?_|refine eP ?_)
   refine sh ?_
   exact rM [0,1,2]
  ·rw[if_neg k0]at hq
   refine sh ?_
   refine cS (fun k1=> ?_) (fun k1=> ?_)
   ·rw[if_pos k1]at hq
    subst hq
    refine sh ?_
    refine cM false [0,1,2] (FK h.Q0 d1 d2 t ok.nd c.h) ?_
    repeat (intro _; first|refine eK ?_|refine eP ?_)
    refine sh ?_
    exact rM [0,1,2]
   ·rw[if_neg k1]at hq
    refine sh ?_
    refine cS (fun k2=> ?_) (fun k2=> ?_)
    ·rw[if_pos k2]at hq
     subst hq
     refine sh ?_
     refine cM false [0,1,2] (IK h.E9 d1 d2 t c.i ok.row hx (by omega)) ?_
     repeat (intro _; first|refine eK ?_|refine eP ?_)
     refine sh ?_
     exact rM [0,1,2]
    ·rw[if_neg k2]at hq
     subst hq
     refine sh ?_
     refine cM false [0,1,2] (Mv h.QZ d1 d2 t c.i) ?_
     repeat (intro _; first|refine eK ?_|refine eP ?_)
     refine sh ?_
     exact rM [0,1,2]
end Go.UM
namespace Go.UM
open Go.AM
set_option maxRecDepth 4000
instance {l:List Rw}:iU (gT l) l.length:=⟨oy l⟩
theorem IT{t:Tb}{x:In}(h:(kp t x).2≠0):(kp t x).1=t:=by
 unfold kp at h ⊢
 split
 ·rfl
 ·rename_i k1
  rw[if_neg k1]at h
  split
  ·rfl
  ·rename_i k2
   rw[if_neg k2]at h
   split
   ·rfl
   ·rename_i k3
    rw[if_neg k3]at h
    cases hr:be t.rows x.bc with
    |none=>rfl
    |some r=>
     rw[hr]at h
     dsimp only at h ⊢
     split
     ·rfl
     ·rename_i k4
      rw[if_neg k4]at h
      exact absurd rfl h
theorem jE.mono{t:Tb}{n m:Nat}(h:jE t n)(k:n<=m):jE t m:=⟨h.row,h.nd,h.rd,Nat.le_trans h.rl k,Nat.le_trans h.il k⟩
theorem An:jE ⟨[],[]⟩ 0:=⟨fun r h=>by simp at h,.nil,.nil,Nat.le_refl _,Nat.le_refl _⟩
theorem oB(x y:In):bt x y=bt y x:=by
 rw[Bool.eq_iff_iff,fm,fm]; omega
theorem uq{t:Tb}{n:Nat}(ok:jE t n){hd:Int}{f:Mf}{a:As}(fx:a.x.t.length<=1000):jE (gY t hd f a).1 (n+1):=by
 have old:=ok.mono (Nat.le_succ n)
 unfold gY
 split
 ·exact old
 ·rename_i k1
  split
  ·exact old
  ·rename_i k2
   split
   ·exact old
   ·rename_i k3
    split
    ·exact old
    ·rename_i k4
     have hn:∀r ∈ t.rows,r.h≠hd:=fun r hr e=>by
      apply k2
      unfold be
      rw[List.find?_isSome]
      exact⟨r,hr,by simpa using e⟩
     refine⟨fun r hr=> ?_,ok.nd,?_,?_,old.il⟩
     ·rcases List.mem_append.1 hr with h|h
      ·exact ok.row r h
      ·simp only[List.mem_singleton]at h
       subst h
       exact⟨⟨by show 1<=hd; omega,by show hd<=65536; omega⟩,Classical.byContradiction k3,Classical.byContradiction k4,fx⟩
     ·rw[List.pairwise_append]
      exact⟨ok.rd,by simp,fun r hr q hq=>by simp only[List.mem_singleton]at hq; subst hq; exact hn r hr⟩
     ·simp only[List.length_append,List.length_singleton]
      have:=ok.rl; omega
theorem Cm{t:Tb}{n:Nat}(ok:jE t n){hd:Int}:jE (fR t hd).1 n:=by
 unfold fR
 split
 ·exact⟨fun r hr=>ok.row r (List.eraseP_sublist.subset hr),ok.nd.sublist List.filter_sublist,ok.rd.sublist List.eraseP_sublist,Nat.le_trans List.eraseP_sublist.length_le ok.rl,Nat.le_trans List.filter_sublist.length_le ok.il⟩
 ·exact ok
theorem IU{t:Tb}{n:Nat}(ok:jE t n){x:In}:jE (mE t x).1 n:=by
 unfold mE
 split
 ·exact⟨ok.row,ok.nd.sublist List.eraseP_sublist,ok.rd,ok.rl,Nat.le_trans List.eraseP_sublist.length_le ok.il⟩
 ·exact ok
theorem Dz{t:Tb}{n:Nat}(ok:jE t n){x:In}:jE (kp t x).1 (n+1):=by
 have old:=ok.mono (Nat.le_succ n)
 unfold kp
 split
 ·exact old
 ·split
  ·exact old
  ·split
   ·exact old
   ·rename_i k3
    cases hr:be t.rows x.bc with
    |none=>exact old
    |some r=>
     dsimp only
     split
     ·exact old
     ·refine⟨ok.row,?_,ok.rd,old.rl,?_⟩
      ·rw[List.pairwise_append]
       refine⟨ok.nd,by simp,fun y hy q hq=> ?_⟩
       simp only[List.mem_singleton]at hq
       subst hq
       rw[oB]
       cases hs:bt q y with
       |false=>rfl
       |true=>
        exfalso
        apply k3
        unfold eG
        rw[List.find?_isSome]
        exact⟨y,hy,hs⟩
      ·simp only[List.length_append,List.length_singleton]
       have:=ok.il; omega
theorem IV{t:Tb}{n:Nat}(ok:jE t n){c:Ac}(fx:c.a.x.t.length<=1000):jE (Cl t c).1 (n+1):=by
 unfold Cl
 split
 ·exact uq ok fx
 ·split
  ·exact (Cm ok).mono (Nat.le_succ n)
  ·split
   ·exact Dz ok
   ·exact (IU ok).mono (Nat.le_succ n)
end Go.UM
namespace Go.UM
open Go.AM
set_option maxRecDepth 4000
def kB(x y:Rw):Bool:=decide (x.h<=y.h)
def bv(l:List Rw):List Rw:=l.mergeSort kB
@[simp] theorem gO(l:List Rw):(bv l).length=l.length:=by simp[bv]
theorem eo{l:List Rw}{r:Rw}:r ∈ bv l↔r ∈ l:=(List.mergeSort_perm l kB).mem_iff
theorem dV{l:List Rw}(rd:l.Pairwise fun a b=>a.h≠b.h){r:Rw}(hr:r ∈ l):be l r.h=some r:=by
 induction l with
 |nil=>simp at hr
 |cons a l ih=>
  obtain⟨h1,h2⟩:=List.pairwise_cons.1 rd
  unfold be
  rw[List.find?_cons]
  rcases List.mem_cons.1 hr with rfl|h
  ·simp
  ·have:(a.h==r.h)=false:=by simpa using h1 r h
   rw[this]
   exact ih h2 h
def eC(l:List Rw):List Int:=(bv l).map (·.h)
abbrev wK(R:Env):Prop:=∀(d1:Bool)(l:List Rw),l.Pairwise (fun a b=>a.h≠b.h)->(∀r ∈ l,fA r)->l.length<=1000000->
 R.Mz true 434 [.ce (.fn (R.ft 447)) [.loc 0 1 0 0]] [(0,.var (R.ty 57) [.omap 1]),(1,.map 1 false true d1 41 (iI l))] (.aV 2 (eC l).length) [(0,.var (R.ty 57) [.omap 1]),(1,.map 1 false true d1 41 (iI l)),(2,.arr (R.ty 10) 1 (bp .i64 (eC l)))] 3
theorem RW{R:Env}(h:Pa R)(d1:Bool)(l:List Rw):R.Mc 433 [.omap 0] [(0,.map 1 false true d1 41 (iI l))] (.ce (.fn (R.ft 447)) [.loc 1 1 0 0]) [(0,.map 1 false true d1 41 (iI l)),(1,.var (R.ty 57) [.omap 0])] 2:=
 h.abv.aY 60 1 rfl rfl rfl fun X bb hfit hp=>by
  refine sh ?_
  exact rM [0,1]
theorem IW{l:List Rw}{i:Nat}{k:Int}(h:(eC l)[i]? =some k):∃r,(bv l)[i]? =some r/\r.h=k:=by
 unfold eC at h
 rw[List.getElem?_map]at h
 exact Option.map_eq_some_iff.1 h
theorem IX{l:List Rw}{i:Nat}{r:Rw}(h:l[i]? =some r):gT (l.take i)++ [r.row]=gT (l.take (i+1)):=by
 rw[List.take_add_one,h]; simp[gT]
set_option maxHeartbeats 4000000 in
theorem MD{R:Env}(h:P6 R)(K:wK R)(d1 d2:Bool)(t:Tb){n:Nat}(ok:jE t n)(hn:n<=1000000):
  R.Mz true 418 [.loc 2 1 0 0] (eb R d1 d2 t) (.aV 3 (bv t.rows).length) (eb R d1 d2 t++ [(3,.arr (R.ty 45) 40 (gT (bv t.rows)))]) 4:=
 h.abO.C5 100 3 rfl rfl rfl fun X bb hfit hp hz=>by
  have hl:=ok.rl
  have hk:(eC t.rows).length=t.rows.length:=by simp[eC]
  unfold eb
  refine sh ?_
  refine cM false [0,1,2] (lD h.ja d1 d2 t) ?_
  repeat (intro _; first|refine eK ?_|refine eP ?_)
  refine sh ?_
  refine cM false [0] (RW h.P7 d1 t.rows) ?_
  repeat (intro _; first|refine eK ?_|refine eP ?_)
  refine sh ?_
  refine cM false [3,0] (K d1 t.rows ok.rd ok.row (by omega)) ?_
  repeat (intro _; first|refine eK ?_|refine eP ?_)
  refine sh ?_
  refine eH 100 (Sum.elim (fun _:Unit=>True) (fun i:Nat=>1<=i/\i<=t.rows.length)) (Sum.elim (fun _=>⟨[(0,.loc 2 1 0 0),(3,.ai),(14,.aV 4 (eC t.rows).length),(15,.int .i64 (eC t.rows).length),(16,.int .i64 0)],[(0,.map 1 false true d1 41 (iI t.rows)),(1,.map 4 true true d2 16 (cN t.ins)),(2,.var (R.ty 47) [.omap 0,.omap 1]),(3,.var (R.ty 57) [.omap 0]),(4,.arr (R.ty 10) 1 (bp .i64 (eC t.rows)))],5⟩) (fun i=>⟨[(0,.loc 2 1 0 0),(3,.aV 5 ((bv t.rows).take i).length),(14,.aV 4 (eC t.rows).length),(15,.int .i64 (eC t.rows).length),(16,.int .i64 i)],[(0,.map 1 false true d1 41 (iI t.rows)),(1,.map 4 true true d2 16 (cN t.ins)),(2,.var (R.ty 47) [.omap 0,.omap 1]),(3,.var (R.ty 57) [.omap 0]),(4,.arr (R.ty 10) 1 (bp .i64 (eC t.rows))),(5,.arr (R.ty 45) 40 (gT ((bv t.rows).take i)))],6⟩)) (Sum.elim (fun _=>t.rows.length+1) (fun i=>t.rows.length - i)) (.inl ()) ?_ ?_
  ·trivial
  ·rintro (_|i) hv
   ·dsimp only[Sum.elim_inl]at hv ⊢
    refine sh ?_
    refine cS (fun h1=> ?_) (fun h1=> ?_)
    ·obtain⟨k,hkk⟩:∃u_,(eC t.rows)[0]? =some u_:=⟨_,List.getElem?_eq_getElem (by omega)⟩
     refine sh ?_
     refine tB (by simp) hkk ?_
     obtain⟨r,hr,rfl⟩:=IW hkk
     have hm:=eo.1 (List.mem_of_getElem? hr)
     refine sh ?_
     refine oz fun j=> ?_
     rw[dV ok.rd hm]
     dsimp only[Option.map_some]
     refine sh ?_
     refine ae.pure h.vf.Lh.hb (qo h.vf r.a (um (ok.row r hm).a (ok.row r hm).x)) rfl ?_
     have e1:(bv t.rows).take 1=[r]:=by
      cases hq:bv t.rows with
      |nil=>rw[hq]at hr; simp at hr
      |cons a q=>rw[hq]at hr; simp at hr; rw[hr]; rfl
     refine sh ?_
     refine uP [0,1,2,3,4,7] (.inr 1) ?_ ?_ ?_
     ·exact⟨by omega,by omega⟩
     ·dsimp only[Sum.elim_inr]; omega
     ·refine iH ?_ ?_
      all_goals first|(rw[e1]; rfl)|(rw[e1]; simp[Rw.row,gT])
    ·have e:t.rows=[]:=List.eq_nil_of_length_eq_zero (by omega)
     rw[e,show bv []=[]from by simp[bv]]
     refine sh ?_
     exact rM [0,1,2,50]
   ·dsimp only[Sum.elim_inr]at hv ⊢
    have ht:((bv t.rows).take i).length=i:=by rw[List.length_take,gO]; omega
    refine sh ?_
    refine cS (fun h1=> ?_) (fun h1=> ?_)
    ·obtain⟨k,hkk⟩:∃u_,(eC t.rows)[i]? =some u_:=⟨_,List.getElem?_eq_getElem (by omega)⟩
     refine sh ?_
     refine tB (by simp) hkk ?_
     obtain⟨r,hr,rfl⟩:=IW hkk
     have hm:=eo.1 (List.mem_of_getElem? hr)
     refine sh ?_
     refine oz fun j=> ?_
     rw[dV ok.rd hm]
     dsimp only[Option.map_some]
     refine sh ?_
     refine ae.pure h.vf.Lh.hb (qo h.vf r.a (um (ok.row r hm).a (ok.row r hm).x)) rfl ?_
     refine sh ?_
     refine nX (.inr (i+1)) ?_ ?_ ⟨_,hp,rfl⟩ ?_ ?_
     ·exact⟨by omega,by omega⟩
     ·dsimp only[Sum.elim_inr]; omega
     ·refine bj ?_
      all_goals (simp only[List.length_append,oy,List.length_take,gO,List.length_singleton]; omega)
     ·refine bj ?_
      all_goals first|exact IX hr|(right; simp[Rw.row])
    ·have e:(bv t.rows).take i=bv t.rows:=List.take_of_length_le (by rw[gO]; omega)
     rw[e]
     refine sh ?_
     exact rM [0,1,2,5]
end Go.UM
