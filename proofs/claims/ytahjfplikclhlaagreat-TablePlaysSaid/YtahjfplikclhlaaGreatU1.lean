/- Of the reckoning machine, and what is proved with it: texts joined by program. -/
import Derived.Test.YtahjfplikclhlaaGreatU0
import Derived.Test.YtahjfplikclhlaaGreatK3
set_option linter.all false
namespace Go.UM
open Go.AM
set_option maxRecDepth 4000
theorem Fa {R:Env} (h:V8 R) (l:List UInt8) (hl:l.length≤1073741824):
  R.Mc 62 [.aH 1 (bn l)] [] (.ba 0 l.length) [(0,.arr (R.ty 4) 1 (bn l))] 1:=
 h.o62.aV 60 0 rfl rfl rfl fun X b hfit hp=>by
  refine sh ?_
  refine Dz.mk (fun hn=> ?_) ?_
  ·have:l=[]:=by simpa[bn]using hn
   subst this
   refine sh ?_
   exact rM [50]
  ·refine sh ?_
   exact rM [0]
def bX (w:Nat) (x:Int):List UInt8:=(List.range w).map fun i=>u8 (x / 256 ^ i)
def jz (b:List UInt8) (w:Int) (n:List Int):List UInt8 × Int:=
 if w<1∨8<w then ([],2)else if n.any (fun x=>decide (256 ^ w.toNat≤x))=true then ([],3)else (b++n.flatMap (bX w.toNat),0)
theorem pA (w:Nat):∀l:List Int,(l.flatMap (bX w)).length=w*l.length
 |[]=>by simp
 |x::r=>by simp[pA w r,bX,Nat.mul_add]; omega
theorem rS {b:List UInt8} {n:List Int} {w:Int} {k:Nat} {i:Nat} {x:Int} (hl:b.length+8*n.length≤1073741824) (hw:w≤8) (oq:1≤w) (hk:(k:Int)<n.length) (hi:(i:Int)<w):(b++(n.take k).flatMap (bX w.toNat)++bX i x).length+1≤1073741824:=by
 have h1:w.toNat* (n.take k).length≤8*k:=Nat.mul_le_mul (by omega) (by simp; omega)
 simp only[List.length_append,pA]
 have:(bX i x).length=i:=by simp[bX]
 omega
theorem rU (i:Nat) (x:Int):bX (i+1) x=bX i x++ [u8 (x / 256 ^ i)]:=by simp[bX,List.range_succ]
@[simp] theorem S7 (x:Int):bX 0 x=[]:=rfl
@[simp] theorem MI (w:Nat) (x:Int):(bX w x).length=w:=by simp[bX]
theorem vw {x:Int} {i:Nat} (hx:0≤x) (hi:i<8):eo .u64 x (8* (i:Int))=x / 256 ^ i:=by
 rw[Mv hx]
 have h:(8* (i:Int)).toNat=8*i:=by omega
 rw[h,show min (8*i) (IntKind.bits .u64)=8*i by simp[IntKind.bits]; omega,Int.pow_mul]
 rfl
theorem Aq {x w:Int} (hx:0≤x) (h1:1≤w) (h8:w<8):0<eo .u64 x (8*w)↔256 ^ w.toNat≤x:=by
 obtain⟨i,rfl⟩:∃i:Nat,w=i:=⟨w.toNat,by omega⟩
 rw[vw hx (by omega),Int.toNat_natCast]
 have hp:(0:Int)<256 ^ i:=Int.pow_pos (by decide)
 constructor
 ·intro h
  have:=(Int.le_ediv_iff_mul_le hp).1 (show 1≤x / 256 ^ i from h)
  rwa[Int.one_mul]at this
 ·intro h
  show 1≤x / 256 ^ i
  exact (Int.le_ediv_iff_mul_le hp).2 (by rw[Int.one_mul]; exact h)
theorem ee {n:List Int} {k:Nat} {x:Int} {p:Int→Bool} (h:n[k]? =some x):(n.take (k+1)).any p=((n.take k).any p||p x):=by
 rw[az h]; simp
theorem xo {b:List UInt8} {w:Int} {n:List Int} {x:Int} (h1:1≤w) (h2:w≤8) (hx:x ∈ n) (h:256 ^ w.toNat≤x):jz b w n=([],3):=by
 unfold jz
 rw[if_neg (by omega),if_pos]
 simp only[List.any_eq_true,decide_eq_true_eq]
 exact⟨x,hx,h⟩
theorem nJ {b:List UInt8} {w:Int} {n:List Int} (h1:1≤w) (h2:w≤8) (h:n.any (fun x=>decide (256 ^ w.toNat≤x))=false):jz b w n=(b++n.flatMap (bX w.toNat),0):=by
 unfold jz
 rw[if_neg (by omega),if_neg (by rw[h]; decide)]
theorem Ar {R:Env} (h:K9 R) (b:List UInt8) (w:Int) (n:List Int) (hl:b.length+8*n.length≤1073741824) (hn:∀x ∈ n,0≤x∧x≤18446744073709551615):
  R.Mc 54 [.aH 1 (bn b),.int .i64 w,.aH 1 (bI .u64 n)] [] (.aO [.ba 0 (jz b w n).1.length,.int .i64 (jz b w n).2]) [(0,.arr (R.ty 4) 1 (bn (jz b w n).1))] 1:=
 h.o54.aV 100 0 rfl rfl rfl fun X bb hfit hp=>by
  generalize hq:jz b w n=q
  refine sh ?_
  refine cS (fun h1=> ?_) (fun h1=> ?_)
  ·rw[jz,if_pos (.inl h1)]at hq
   subst hq
   refine sh ?_
   exact rM [50]
  ·refine sh ?_
   refine cS (fun h2=> ?_) (fun h2=> ?_)
   ·rw[jz,if_pos (.inr h2)]at hq
    subst hq
    refine sh ?_
    exact rM [50]
   ·refine sh ?_
    refine cM false [] (Fa h.n62 b (by omega)) ?_
    repeat (intro _; first|refine eK ?_|refine eP ?_)
    refine sh ?_
    refine gk 100 (fun k:Nat=>k≤n.length∧(n.take k).any (fun x=>decide (256 ^ w.toNat≤x))=false) (fun k=>⟨[(1,.int .i64 w),(8,.ba 0 (b++(n.take k).flatMap (bX w.toNat)).length),(20,.aH 1 (bI .u64 n)),(21,.int .i64 n.length),(22,.int .i64 k)],[(0,.arr (R.ty 4) 1 (bn (b++(n.take k).flatMap (bX w.toNat))))],1⟩) (fun k=>n.length - k) (0) ?_ ?_
    ·exact⟨Nat.zero_le _,by simp⟩
    ·intro k hk
     dsimp only
     refine sh ?_
     refine cS (fun h3=> ?_) (fun h3=> ?_)
     ·obtain⟨x,hx⟩:∃u_,n[k]? =some u_:=⟨_,List.getElem?_eq_getElem (by first|omega|(simp<;>omega))⟩
      refine sh ?_
      refine ab hx ?_
      have lv:=hx
      have hx:=hn x (List.mem_of_getElem? lv)
      refine sh ?_
      refine cS (fun h4=> ?_) (fun h4=> ?_)
      ·refine sh ?_
       refine cS (fun h5=> ?_) (fun h5=> ?_)
       ·rw[xo (by omega) (by omega) (List.mem_of_getElem? lv) ((Aq hx.1 (by omega) h4).1 h5)]at hq
        subst hq
        refine sh ?_
        exact rM [50]
       ·have hnb:¬256 ^ w.toNat≤x:=fun hb=>absurd ((Aq hx.1 (by omega) h4).2 hb) (by omega)
        refine sh ?_
        refine gk 100 (fun i:Nat=>(i:Int)≤w) (fun i=>⟨[(1,.int .i64 w),(8,.ba 0 (b++(n.take k).flatMap (bX w.toNat)++bX i x).length),(10,.int .u64 x),(20,.aH 1 (bI .u64 n)),(21,.int .i64 n.length),(22,.int .i64 k),(35,.int .i64 w),(36,.int .i64 i)],[(0,.arr (R.ty 4) 1 (bn (b++(n.take k).flatMap (bX w.toNat)++bX i x)))],1⟩) (fun i=>w.toNat - i) (0) ?_ ?_
        ·show (0:Int)≤w
         omega
        ·intro i hi
         dsimp only
         refine sh ?_
         refine cS (fun h6=> ?_) (fun h6=> ?_)
         ·refine sh ?_
          rw[vw hx.1 (by omega)]
          refine bj ?_
          refine sh ?_
          refine⟨by rw[eT]; exact rS hl h2 h1 h3 h6,?_⟩
          refine sh ?_
          refine nX (i+1) ?_ ?_ ⟨_,hp,rfl⟩ ?_ ?_
          ·omega
          ·omega
          ·all_goals repeat' (first|exact True.intro|refine And.intro ?_ ?_|(intro _u; clear _u)|(with_reducible first|exact ai.fg|refine eM ?_ ?_|refine eF ?_ ?_ ?_|refine eN ?_|refine eL ?_ ?_ ?_|refine eA ?_ ?_|refine aj.mk ⟨_,hp,rfl⟩ ?_ ?_)|refine aj.mk ⟨_,hp,rfl⟩ ?_ ?_)
           all_goals try first|with_reducible rfl|omega|exact .inl (by decide)|(simp; done)|rfl
          ·all_goals repeat' (first|exact True.intro|refine And.intro ?_ ?_|(intro _u; clear _u)|(with_reducible first|exact ai.fg|refine eM ?_ ?_|refine eF ?_ ?_ ?_|refine eN ?_|refine eL ?_ ?_ ?_|refine eA ?_ ?_|refine aj.mk ⟨_,hp,rfl⟩ ?_ ?_)|refine aj.mk ⟨_,hp,rfl⟩ ?_ ?_)
           all_goals try first|with_reducible rfl|omega|exact .inl (by decide)|(simp; done)|rfl
           simp[rU]
         ·refine sh ?_
          refine nX (k+1) ?_ ?_ ⟨_,hp,rfl⟩ ?_ ?_
          ·refine⟨by omega,?_⟩
           rw[ee lv,hk.2,decide_eq_false hnb]; rfl
          ·omega
          ·all_goals repeat' (first|exact True.intro|refine And.intro ?_ ?_|(intro _u; clear _u)|(with_reducible first|exact ai.fg|refine eM ?_ ?_|refine eF ?_ ?_ ?_|refine eN ?_|refine eL ?_ ?_ ?_|refine eA ?_ ?_|refine aj.mk ⟨_,hp,rfl⟩ ?_ ?_)|refine aj.mk ⟨_,hp,rfl⟩ ?_ ?_)
           all_goals try first|with_reducible rfl|omega|exact .inl (by decide)|(simp; done)|rfl
           rw[az lv,show i=w.toNat by omega]; simp
          ·all_goals repeat' (first|exact True.intro|refine And.intro ?_ ?_|(intro _u; clear _u)|(with_reducible first|exact ai.fg|refine eM ?_ ?_|refine eF ?_ ?_ ?_|refine eN ?_|refine eL ?_ ?_ ?_|refine eA ?_ ?_|refine aj.mk ⟨_,hp,rfl⟩ ?_ ?_)|refine aj.mk ⟨_,hp,rfl⟩ ?_ ?_)
           all_goals try first|with_reducible rfl|omega|exact .inl (by decide)|(simp; done)|rfl
           rw[az lv,show i=w.toNat by omega]; simp
      ·have hnb:¬256 ^ w.toNat≤x:=by rw[show w.toNat=8 by omega]; omega
       refine sh ?_
       refine gk 100 (fun i:Nat=>(i:Int)≤w) (fun i=>⟨[(1,.int .i64 w),(8,.ba 0 (b++(n.take k).flatMap (bX w.toNat)++bX i x).length),(10,.int .u64 x),(20,.aH 1 (bI .u64 n)),(21,.int .i64 n.length),(22,.int .i64 k),(35,.int .i64 w),(36,.int .i64 i)],[(0,.arr (R.ty 4) 1 (bn (b++(n.take k).flatMap (bX w.toNat)++bX i x)))],1⟩) (fun i=>w.toNat - i) (0) ?_ ?_
       ·show (0:Int)≤w
        omega
       ·intro i hi
        dsimp only
        refine sh ?_
        refine cS (fun h6=> ?_) (fun h6=> ?_)
        ·refine sh ?_
         rw[vw hx.1 (by omega)]
         refine bj ?_
         refine sh ?_
         refine⟨by rw[eT]; exact rS hl h2 h1 h3 h6,?_⟩
         refine sh ?_
         refine nX (i+1) ?_ ?_ ⟨_,hp,rfl⟩ ?_ ?_
         ·omega
         ·omega
         ·all_goals repeat' (first|exact True.intro|refine And.intro ?_ ?_|(intro _u; clear _u)|(with_reducible first|exact ai.fg|refine eM ?_ ?_|refine eF ?_ ?_ ?_|refine eN ?_|refine eL ?_ ?_ ?_|refine eA ?_ ?_|refine aj.mk ⟨_,hp,rfl⟩ ?_ ?_)|refine aj.mk ⟨_,hp,rfl⟩ ?_ ?_)
          all_goals try first|with_reducible rfl|omega|exact .inl (by decide)|(simp; done)|rfl
         ·all_goals repeat' (first|exact True.intro|refine And.intro ?_ ?_|(intro _u; clear _u)|(with_reducible first|exact ai.fg|refine eM ?_ ?_|refine eF ?_ ?_ ?_|refine eN ?_|refine eL ?_ ?_ ?_|refine eA ?_ ?_|refine aj.mk ⟨_,hp,rfl⟩ ?_ ?_)|refine aj.mk ⟨_,hp,rfl⟩ ?_ ?_)
          all_goals try first|with_reducible rfl|omega|exact .inl (by decide)|(simp; done)|rfl
          simp[rU]
        ·refine sh ?_
         refine nX (k+1) ?_ ?_ ⟨_,hp,rfl⟩ ?_ ?_
         ·refine⟨by omega,?_⟩
          rw[ee lv,hk.2,decide_eq_false hnb]; rfl
         ·omega
         ·all_goals repeat' (first|exact True.intro|refine And.intro ?_ ?_|(intro _u; clear _u)|(with_reducible first|exact ai.fg|refine eM ?_ ?_|refine eF ?_ ?_ ?_|refine eN ?_|refine eL ?_ ?_ ?_|refine eA ?_ ?_|refine aj.mk ⟨_,hp,rfl⟩ ?_ ?_)|refine aj.mk ⟨_,hp,rfl⟩ ?_ ?_)
          all_goals try first|with_reducible rfl|omega|exact .inl (by decide)|(simp; done)|rfl
          rw[az lv,show i=w.toNat by omega]; simp
         ·all_goals repeat' (first|exact True.intro|refine And.intro ?_ ?_|(intro _u; clear _u)|(with_reducible first|exact ai.fg|refine eM ?_ ?_|refine eF ?_ ?_ ?_|refine eN ?_|refine eL ?_ ?_ ?_|refine eA ?_ ?_|refine aj.mk ⟨_,hp,rfl⟩ ?_ ?_)|refine aj.mk ⟨_,hp,rfl⟩ ?_ ?_)
          all_goals try first|with_reducible rfl|omega|exact .inl (by decide)|(simp; done)|rfl
          rw[az lv,show i=w.toNat by omega]; simp
     ·have hkn:n.take k=n:=List.take_of_length_le (by omega)
      rw[hkn]at hk ⊢
      rw[nJ (by omega) (by omega) hk.2]at hq
      subst hq
      refine sh ?_
      exact rM [0]
end Go.UM
namespace Go.UM
open Go.AM
set_option maxRecDepth 4000
def gl (b:List UInt8) (w:Int) (n:List Int):List UInt8 × Int:=
 if w<1∨8<w then ([],2)else if n.any (fun x=>decide (x< -(256 ^ w.toNat / 2))||decide (256 ^ w.toNat / 2≤x))=true then ([],3)else jz b w (n.map fun x=>x % 256 ^ w.toNat)
theorem oF {b:List UInt8} {w:Int} {n:List Int} {x:Int} (h1:1≤w) (h2:w≤8) (hx:x ∈ n) (h:x< -(256 ^ w.toNat / 2)∨256 ^ w.toNat / 2≤x):gl b w n=([],3):=by
 unfold gl
 rw[if_neg (by omega),if_pos]
 simp only[List.any_eq_true,Bool.or_eq_true,decide_eq_true_eq]
 exact⟨x,hx,h⟩
theorem rV {b:List UInt8} {w:Int} {n:List Int} (h1:1≤w) (h2:w≤8) (h:n.any (fun x=>decide (x< -(256 ^ w.toNat / 2))||decide (256 ^ w.toNat / 2≤x))=false):gl b w n=jz b w (n.map fun x=>x % 256 ^ w.toNat):=by
 unfold gl
 rw[if_neg (by omega),if_neg (by rw[h]; decide)]
theorem H4 {w x:Int} (h1:1≤w) (h2:w≤8) (hx:hJ .i64 x):(eo .i64 (nZ .i64 x (64 - 8*w)) (64 - 8*w)=x)↔¬ (x< -(256 ^ w.toNat / 2)∨256 ^ w.toNat / 2≤x):=by
 simp only[hJ]at hx
 obtain h|h|h|h|h|h|h|h:w=1∨w=2∨w=3∨w=4∨w=5∨w=6∨w=7∨w=8:=by omega
 all_goals subst h
 all_goals (simp only[eo,nZ,IntKind.wrap,IntKind.bits,IntKind.signed]; simp[Int.fdiv_eq_ediv]; omega)
theorem H5 {w x:Int} (h1:1≤w) (h2:w≤8) (hx:hJ .i64 x):eo .u64 (nZ .u64 (wr .u64 x) (64 - 8*w)) (64 - 8*w)=x % 256 ^ w.toNat:=by
 simp only[hJ]at hx
 obtain h|h|h|h|h|h|h|h:w=1∨w=2∨w=3∨w=4∨w=5∨w=6∨w=7∨w=8:=by omega
 all_goals subst h
 all_goals (simp only[wr,eo,nZ,IntKind.wrap,IntKind.bits,IntKind.signed]; simp[Int.fdiv_eq_ediv]<;>omega)
theorem xp {b:List UInt8} {w:Int} {n:List Int} (h1:1≤w) (h2:w≤8):∀x ∈ n.map (fun x=>x % 256 ^ w.toNat),0≤x∧x≤18446744073709551615:=by
 intro x hx
 obtain⟨y,_,rfl⟩:=List.mem_map.1 hx
 obtain h|h|h|h|h|h|h|h:w=1∨w=2∨w=3∨w=4∨w=5∨w=6∨w=7∨w=8:=by omega
 all_goals (subst h; simp<;>omega)
theorem xq {R:Env} (h:Qs R) (b:List UInt8) (w:Int) (n:List Int) (hl:b.length+8*n.length≤1073741824) (hn:∀x ∈ n,hJ .i64 x):
  R.Mc 71 [.aH 1 (bn b),.int .i64 w,.aH 1 (bI .i64 n)] [] (.aO [.ba 0 (gl b w n).1.length,.int .i64 (gl b w n).2]) [(0,.arr (R.ty 4) 1 (bn (gl b w n).1))] 1:=
 h.o71.aV 100 0 rfl rfl rfl fun X bb hfit hp=>by
  generalize hq:gl b w n=q
  refine sh ?_
  refine cS (fun h1=> ?_) (fun h1=> ?_)
  ·rw[gl,if_pos (.inl h1)]at hq
   subst hq
   refine sh ?_
   exact rM [50]
  ·refine sh ?_
   refine cS (fun h2=> ?_) (fun h2=> ?_)
   ·rw[gl,if_pos (.inr h2)]at hq
    subst hq
    refine sh ?_
    exact rM [50]
   ·refine sh ?_
    refine gk 100 (fun k:Nat=>k≤n.length∧(n.take k).any (fun x=>decide (x< -(256 ^ w.toNat / 2))||decide (256 ^ w.toNat / 2≤x))=false) (fun k=>⟨[(0,.aH 1 (bn b)),(1,.int .i64 w),(8,.ba 0 ((n.take k).map fun x=>x % 256 ^ w.toNat).length),(18,.aH 1 (bI .i64 n)),(19,.int .i64 n.length),(20,.int .i64 k)],[(0,.arr (R.ty 6) 1 (bI .u64 ((n.take k).map fun x=>x % 256 ^ w.toNat)))],1⟩) (fun k=>n.length - k) (0) ?_ ?_
    ·exact⟨Nat.zero_le _,by simp⟩
    ·intro k hk
     dsimp only
     refine sh ?_
     refine cS (fun h3=> ?_) (fun h3=> ?_)
     ·obtain⟨x,hx⟩:∃u_,n[k]? =some u_:=⟨_,List.getElem?_eq_getElem (by first|omega|(simp<;>omega))⟩
      refine sh ?_
      refine ab hx ?_
      have lv:=hx
      have hx:=hn x (List.mem_of_getElem? lv)
      have hsx:=H4 (by omega) h2 hx
      refine sh ?_
      refine cS (fun h4=> ?_) (fun h4=> ?_)
      ·rw[oF (by omega) (by omega) (List.mem_of_getElem? lv) (Decidable.not_not.1 fun hb=>h4 (hsx.2 hb))]at hq
       subst hq
       refine sh ?_
       exact rM [50]
      ·refine sh ?_
       refine bj ?_
       refine sh ?_
       rw[H5 (by omega) h2 hx]
       refine nX (k+1) ?_ ?_ ⟨_,hp,rfl⟩ ?_ ?_
       ·refine⟨by omega,?_⟩
        rw[ee lv,hk.2]
        have:=hsx.1 h4
        simp only[Bool.false_or,Bool.or_eq_false_iff,decide_eq_false_iff_not]
        omega
       ·omega
       ·all_goals repeat' (first|exact True.intro|refine And.intro ?_ ?_|(intro _u; clear _u)|(with_reducible first|exact ai.fg|refine eM ?_ ?_|refine eF ?_ ?_ ?_|refine eN ?_|refine eL ?_ ?_ ?_|refine eA ?_ ?_|refine aj.mk ⟨_,hp,rfl⟩ ?_ ?_)|refine aj.mk ⟨_,hp,rfl⟩ ?_ ?_)
        all_goals try first|with_reducible rfl|omega|exact .inl (by decide)|(simp; done)|rfl
        rw[az lv]; simp
       ·all_goals repeat' (first|exact True.intro|refine And.intro ?_ ?_|(intro _u; clear _u)|(with_reducible first|exact ai.fg|refine eM ?_ ?_|refine eF ?_ ?_ ?_|refine eN ?_|refine eL ?_ ?_ ?_|refine eA ?_ ?_|refine aj.mk ⟨_,hp,rfl⟩ ?_ ?_)|refine aj.mk ⟨_,hp,rfl⟩ ?_ ?_)
        all_goals try first|with_reducible rfl|omega|exact .inl (by decide)|(simp; done)|rfl
        rw[az lv]; simp[bI]
     ·have hkn:n.take k=n:=List.take_of_length_le (by omega)
      rw[hkn]at hk ⊢
      rw[rV (by omega) (by omega) hk.2]at hq
      subst hq
      refine sh ?_
      refine cM true [] (Ar h.FW b w (n.map fun x=>x % 256 ^ w.toNat) (by simpa using hl) (xp (b:=b) (by omega) h2)) ?_
      repeat (intro _; first|refine eK ?_|refine eP ?_)
      refine sh ?_
      exact rM [1]
structure Rd where
 l:List UInt8
 e:Int
 made:Bool
def Rd.row (r:Rd):List AV:=[.aH 1 (bn r.l),.int .i64 r.e,.bool r.made]
def Rd.off (r:Rd):Bool:= !r.made||decide (r.e≠0)
def Rd.take (r:Rd) (n:Int):List UInt8 × Rd:=
 if r.made=false∨r.e≠0 then ([],r)else if n<0 then ([],{r with e:=2})else if (r.l.length:Int)<n then ([],{r with e:=4})else (r.l.take n.toNat,{r with l:=r.l.drop n.toNat})
def Rd.num (r:Rd) (w:Int):Nat × Rd:=let t:=r.take (if w<1∨8<w then -1 else w); (le t.1,t.2)
def sx (w:Int) (n:Nat):Int:=if 2*n<256 ^ w.toNat then n else n - 256 ^ w.toNat
def Rd.int (r:Rd) (w:Int):Int × Rd:=(if w<1∨8<w then 0 else sx w (r.num w).1,(r.num w).2)
def Rd.err (r:Rd):Int:=if r.made=false then 1 else r.e
def Rd.fin (r:Rd):Int:=if r.err≠0 then r.err else if 0<r.l.length then 5 else 0
end Go.UM
namespace Go.UM
open Go.AM
set_option maxRecDepth 4000
theorem H6 {w:Int} (h:w≤8):(256:Int) ^ w.toNat≤18446744073709551616:=by
 have:(256:Nat) ^ w.toNat≤256 ^ 8:=Nat.pow_le_pow_right (by decide) (by omega)
 have h2:((256:Int) ^ w.toNat)=((256 ^ w.toNat:Nat):Int):=by rw[Int.natCast_pow]; rfl
 omega
theorem vx (n:Nat):(1:Int)≤256 ^ n:=Int.pow_pos (by decide)
theorem zj {R:Env} (h:Uo R) (w:Int) (hw:w≤8):R.Pc 63 [.int .i64 w] (.int .u64 (256 ^ w.toNat - 1)):=
 h.Up.enter 100 rfl fun X bb hfit hp=>by
  refine sh ?_
  refine gk 100 (fun i:Nat=>i≤w.toNat) (fun i=>⟨[(0,.int .i64 w),(3,.int .u64 (256 ^ i - 1)),(4,.int .i64 i)],[],0⟩) (fun i=>w.toNat - i) (0) ?_ ?_
  ·exact Nat.zero_le _
  ·intro i hi
   dsimp only
   refine sh ?_
   refine cS (fun h1=> ?_) (fun h1=> ?_)
   ·have hp8:(256:Int) ^ (i+1)≤18446744073709551616:=by
     have:=H6 (w:=(i+1:Nat)) (by omega)
     simpa using this
    rw[Int.pow_succ]at hp8
    have hp1:=vx i
    refine sh ?_
    refine kq (i+1) ?_ ?_
    ·omega
    ·omega
   ·refine sh ?_
    refine rT ?_
    all_goals repeat' (first|exact True.intro|refine And.intro ?_ ?_|(intro _u; clear _u)|(with_reducible first|exact ai.fg|refine eM ?_ ?_|refine eF ?_ ?_ ?_|refine eN ?_|refine eL ?_ ?_ ?_|refine eA ?_ ?_|refine aj.mk ⟨_,hp,rfl⟩ ?_ ?_)|refine aj.mk ⟨_,hp,rfl⟩ ?_ ?_)
    all_goals try first|with_reducible rfl|omega|exact .inl (by decide)|(simp; done)|rfl
    rw[show i=w.toNat by omega]
theorem Fb {R:Env} (h:RV R) (b:List UInt8) (w:Int) (n:List Int) (hl:b.length+8*n.length≤1073741824) (hn:∀x ∈ n,0≤x∧x≤18446744073709551615):
  R.Mc 55 [.aH 1 (bn b),.int .i64 w,.aH 1 (bI .u64 n)] [] (.aO [.ba 0 (jz b w n).1.length,.int .i64 (jz b w n).2]) [(0,.arr (R.ty 4) 1 (bn (jz b w n).1))] 1:=
 h.o55.aV 100 0 rfl rfl rfl fun X bb hfit hp=>by
  generalize hq:jz b w n=q
  refine sh ?_
  refine cS (fun h1=> ?_) (fun h1=> ?_)
  ·rw[jz,if_pos (.inl h1)]at hq
   subst hq
   refine sh ?_
   exact rM [50]
  ·refine sh ?_
   refine cS (fun h2=> ?_) (fun h2=> ?_)
   ·rw[jz,if_pos (.inr h2)]at hq
    subst hq
    refine sh ?_
    exact rM [50]
   ·refine sh ?_
    refine gk 100 (fun k:Nat=>k≤n.length∧(n.take k).any (fun x=>decide (256 ^ w.toNat≤x))=false) (fun k=>⟨[(1,.int .i64 w),(2,.aH 1 (bI .u64 n)),(8,.ba 0 (b++(n.take k).flatMap (bX w.toNat)).length),(9,.int .i64 k)],[(0,.arr (R.ty 4) 1 (bn (b++(n.take k).flatMap (bX w.toNat))))],1⟩) (fun k=>n.length - k) (0) ?_ ?_
    ·exact⟨Nat.zero_le _,by simp⟩
    ·intro k hk
     dsimp only
     refine sh ?_
     refine cS (fun h3=> ?_) (fun h3=> ?_)
     ·obtain⟨x,hx⟩:∃u_,n[k]? =some u_:=⟨_,List.getElem?_eq_getElem (by first|omega|(simp<;>omega))⟩
      refine sh ?_
      refine ab hx ?_
      have lv:=hx
      have hx:=hn x (List.mem_of_getElem? lv)
      refine sh ?_
      refine ae.pure h.FX.Up.hb (zj h.FX w h2) rfl ?_
      refine sh ?_
      refine cS (fun h5=> ?_) (fun h5=> ?_)
      ·rw[xo (by omega) (by omega) (List.mem_of_getElem? lv) (by omega)]at hq
       subst hq
       refine sh ?_
       exact rM [50]
      ·have hnb:¬256 ^ w.toNat≤x:=by omega
       refine sh ?_
       refine ab lv ?_
       refine sh ?_
       refine gk 100 (fun i:Nat=>(i:Int)≤w) (fun i=>⟨[(1,.int .i64 w),(2,.aH 1 (bI .u64 n)),(8,.ba 0 (b++(n.take k).flatMap (bX w.toNat)++bX i x).length),(9,.int .i64 k),(10,.int .u64 (x / 256 ^ i)),(11,.int .i64 i)],[(0,.arr (R.ty 4) 1 (bn (b++(n.take k).flatMap (bX w.toNat)++bX i x)))],1⟩) (fun i=>w.toNat - i) (0) ?_ ?_
       ·show (0:Int)≤w
        omega
       ·intro i hi
        dsimp only
        refine sh ?_
        refine cS (fun h6=> ?_) (fun h6=> ?_)
        ·refine sh ?_
         refine bj ?_
         refine sh ?_
         refine⟨by rw[eT]; exact rS hl h2 h1 h3 h6,?_⟩
         have hxi:0≤x / 256 ^ i:=Int.ediv_nonneg hx.1 (by have:=vx i; omega)
         have hxl:x / 256 ^ i≤x:=Int.ediv_le_self _ hx.1
         refine sh ?_
         rw[Int.tdiv_eq_ediv_of_nonneg hxi]
         refine vj (by simp only[hJ]; omega) ?_
         refine sh ?_
         refine nX (i+1) ?_ ?_ ⟨_,hp,rfl⟩ ?_ ?_
         ·omega
         ·omega
         ·all_goals repeat' (first|exact True.intro|refine And.intro ?_ ?_|(intro _u; clear _u)|(with_reducible first|exact ai.fg|refine eM ?_ ?_|refine eF ?_ ?_ ?_|refine eN ?_|refine eL ?_ ?_ ?_|refine eA ?_ ?_|refine aj.mk ⟨_,hp,rfl⟩ ?_ ?_)|refine aj.mk ⟨_,hp,rfl⟩ ?_ ?_)
          all_goals try first|with_reducible rfl|omega|exact .inl (by decide)|(simp; done)|rfl
          rw[Int.pow_succ,Int.ediv_ediv_of_nonneg (by have:=vx i; omega)]
         ·all_goals repeat' (first|exact True.intro|refine And.intro ?_ ?_|(intro _u; clear _u)|(with_reducible first|exact ai.fg|refine eM ?_ ?_|refine eF ?_ ?_ ?_|refine eN ?_|refine eL ?_ ?_ ?_|refine eA ?_ ?_|refine aj.mk ⟨_,hp,rfl⟩ ?_ ?_)|refine aj.mk ⟨_,hp,rfl⟩ ?_ ?_)
          all_goals try first|with_reducible rfl|omega|exact .inl (by decide)|(simp; done)|rfl
          simp[rU,HQ hxi]
        ·refine sh ?_
         refine nX (k+1) ?_ ?_ ⟨_,hp,rfl⟩ ?_ ?_
         ·refine⟨by omega,?_⟩
          rw[ee lv,hk.2,decide_eq_false hnb]; rfl
         ·omega
         ·all_goals repeat' (first|exact True.intro|refine And.intro ?_ ?_|(intro _u; clear _u)|(with_reducible first|exact ai.fg|refine eM ?_ ?_|refine eF ?_ ?_ ?_|refine eN ?_|refine eL ?_ ?_ ?_|refine eA ?_ ?_|refine aj.mk ⟨_,hp,rfl⟩ ?_ ?_)|refine aj.mk ⟨_,hp,rfl⟩ ?_ ?_)
          all_goals try first|with_reducible rfl|omega|exact .inl (by decide)|(simp; done)|rfl
          rw[az lv,show i=w.toNat by omega]; simp
         ·all_goals repeat' (first|exact True.intro|refine And.intro ?_ ?_|(intro _u; clear _u)|(with_reducible first|exact ai.fg|refine eM ?_ ?_|refine eF ?_ ?_ ?_|refine eN ?_|refine eL ?_ ?_ ?_|refine eA ?_ ?_|refine aj.mk ⟨_,hp,rfl⟩ ?_ ?_)|refine aj.mk ⟨_,hp,rfl⟩ ?_ ?_)
          all_goals try first|with_reducible rfl|omega|exact .inl (by decide)|(simp; done)|rfl
          rw[az lv,show i=w.toNat by omega]; simp
     ·have hkn:n.take k=n:=List.take_of_length_le (by omega)
      rw[hkn]at hk ⊢
      rw[nJ (by omega) (by omega) hk.2]at hq
      subst hq
      refine sh ?_
      exact rM [0]
theorem H7 {w:Int} (h1:1≤w) (h2:w≤8):(256 ^ w.toNat - 1:Int) / 2=256 ^ w.toNat / 2 - 1:=by
 obtain h|h|h|h|h|h|h|h:w=1∨w=2∨w=3∨w=4∨w=5∨w=6∨w=7∨w=8:=by omega
 all_goals (subst h; decide)
theorem H8 {w:Int} (h1:1≤w) (h2:w≤8):(256 ^ w.toNat:Int) / 2≤9223372036854775808∧(128:Int)≤256 ^ w.toNat / 2∧(256 ^ w.toNat:Int)=2* (256 ^ w.toNat / 2):=by
 obtain h|h|h|h|h|h|h|h:w=1∨w=2∨w=3∨w=4∨w=5∨w=6∨w=7∨w=8:=by omega
 all_goals (subst h; decide)
theorem Cc {R:Env} (h:Ws R) (b:List UInt8) (w:Int) (n:List Int) (hl:b.length+8*n.length≤1073741824) (hn:∀x ∈ n,hJ .i64 x):
  R.Mc 72 [.aH 1 (bn b),.int .i64 w,.aH 1 (bI .i64 n)] [] (.aO [.ba 0 (gl b w n).1.length,.int .i64 (gl b w n).2]) [(0,.arr (R.ty 4) 1 (bn (gl b w n).1))] 1:=
 h.o72.aV 100 0 rfl rfl rfl fun X bb hfit hp=>by
  generalize hq:gl b w n=q
  refine sh ?_
  refine cS (fun h1=> ?_) (fun h1=> ?_)
  ·rw[gl,if_pos (.inl h1)]at hq
   subst hq
   refine sh ?_
   exact rM [50]
  ·refine sh ?_
   refine cS (fun h2=> ?_) (fun h2=> ?_)
   ·rw[gl,if_pos (.inr h2)]at hq
    subst hq
    refine sh ?_
    exact rM [50]
   ·refine sh ?_
    refine ae.pure h.FX.Up.hb (zj h.FX w h2) rfl ?_
    have hh:=H8 h1 h2
    refine sh ?_
    rw[Int.tdiv_eq_ediv_of_nonneg (by omega),H7 h1 h2]
    refine vj (by simp only[hJ]; omega) ?_
    refine sh ?_
    refine gk 100 (fun k:Nat=>k≤n.length∧(n.take k).any (fun x=>decide (x< -(256 ^ w.toNat / 2))||decide (256 ^ w.toNat / 2≤x))=false) (fun k=>⟨[(0,.aH 1 (bn b)),(1,.int .i64 w),(2,.aH 1 (bI .i64 n)),(8,.int .i64 (256 ^ w.toNat / 2 - 1)),(9,.ba 0 ((n.take k).map fun x=>x % 256 ^ w.toNat).length),(10,.int .i64 k)],[(0,.arr (R.ty 6) 1 (bI .u64 ((n.take k).map fun x=>x % 256 ^ w.toNat)))],1⟩) (fun k=>n.length - k) (0) ?_ ?_
    ·exact⟨Nat.zero_le _,by simp⟩
    ·intro k hk
     dsimp only
     refine sh ?_
     refine cS (fun h3=> ?_) (fun h3=> ?_)
     ·obtain⟨x,hx⟩:∃u_,n[k]? =some u_:=⟨_,List.getElem?_eq_getElem (by first|omega|(simp<;>omega))⟩
      refine sh ?_
      refine ab hx ?_
      have lv:=hx
      have hx:=hn x (List.mem_of_getElem? lv)
      simp only[hJ]at hx
      refine sh ?_
      refine cS (fun h4=> ?_) (fun h4=> ?_)
      ·rw[oF (by omega) (by omega) (List.mem_of_getElem? lv) (by omega)]at hq
       subst hq
       refine sh ?_
       exact rM [50]
      ·refine sh ?_
       refine ab lv ?_
       refine sh ?_
       refine cS (fun h5=> ?_) (fun h5=> ?_)
       ·rw[oF (by omega) (by omega) (List.mem_of_getElem? lv) (by omega)]at hq
        subst hq
        refine sh ?_
        exact rM [50]
       ·have hok:(n.take (k+1)).any (fun x=>decide (x< -(256 ^ w.toNat / 2))||decide (256 ^ w.toNat / 2≤x))=false:=by
         rw[ee lv,hk.2]
         simp only[Bool.false_or,Bool.or_eq_false_iff,decide_eq_false_iff_not]
         omega
        refine sh ?_
        refine ab lv ?_
        refine sh ?_
        refine bj ?_
        refine sh ?_
        refine ab lv ?_
        refine sh ?_
        refine cS (fun h6=> ?_) (fun h6=> ?_)
        ·refine sh ?_
         refine ae.pure h.FX.Up.hb (zj h.FX w h2) rfl ?_
         refine sh ?_
         refine ab lv ?_
         have hv:x % 256 ^ w.toNat=256 ^ w.toNat - 1 - (0 - (x+1)):=by
          rw[←Int.add_emod_right,Int.emod_eq_of_lt (by omega) (by omega)]
          omega
         refine sh ?_
         refine nX (k+1) ?_ ?_ ⟨_,hp,rfl⟩ ?_ ?_
         ·exact⟨by omega,hok⟩
         ·omega
         ·all_goals repeat' (first|exact True.intro|refine And.intro ?_ ?_|(intro _u; clear _u)|(with_reducible first|exact ai.fg|refine eM ?_ ?_|refine eF ?_ ?_ ?_|refine eN ?_|refine eL ?_ ?_ ?_|refine eA ?_ ?_|refine aj.mk ⟨_,hp,rfl⟩ ?_ ?_)|refine aj.mk ⟨_,hp,rfl⟩ ?_ ?_)
          all_goals try first|with_reducible rfl|omega|exact .inl (by decide)|(simp; done)|rfl
          rw[az lv]; simp
         ·all_goals repeat' (first|exact True.intro|refine And.intro ?_ ?_|(intro _u; clear _u)|(with_reducible first|exact ai.fg|refine eM ?_ ?_|refine eF ?_ ?_ ?_|refine eN ?_|refine eL ?_ ?_ ?_|refine eA ?_ ?_|refine aj.mk ⟨_,hp,rfl⟩ ?_ ?_)|refine aj.mk ⟨_,hp,rfl⟩ ?_ ?_)
          all_goals try first|with_reducible rfl|omega|exact .inl (by decide)|(simp; done)|rfl
          rw[az lv]; simp[bI,hv]
        ·have hv:x % 256 ^ w.toNat=wr .u64 x:=by
          rw[Int.emod_eq_of_lt (by omega) (by omega),Ah (k:= .u64) ⟨by omega,by omega⟩]
         refine sh ?_
         refine nX (k+1) ?_ ?_ ⟨_,hp,rfl⟩ ?_ ?_
         ·exact⟨by omega,hok⟩
         ·omega
         ·all_goals repeat' (first|exact True.intro|refine And.intro ?_ ?_|(intro _u; clear _u)|(with_reducible first|exact ai.fg|refine eM ?_ ?_|refine eF ?_ ?_ ?_|refine eN ?_|refine eL ?_ ?_ ?_|refine eA ?_ ?_|refine aj.mk ⟨_,hp,rfl⟩ ?_ ?_)|refine aj.mk ⟨_,hp,rfl⟩ ?_ ?_)
          all_goals try first|with_reducible rfl|omega|exact .inl (by decide)|(simp; done)|rfl
          rw[az lv]; simp
         ·all_goals repeat' (first|exact True.intro|refine And.intro ?_ ?_|(intro _u; clear _u)|(with_reducible first|exact ai.fg|refine eM ?_ ?_|refine eF ?_ ?_ ?_|refine eN ?_|refine eL ?_ ?_ ?_|refine eA ?_ ?_|refine aj.mk ⟨_,hp,rfl⟩ ?_ ?_)|refine aj.mk ⟨_,hp,rfl⟩ ?_ ?_)
          all_goals try first|with_reducible rfl|omega|exact .inl (by decide)|(simp; done)|rfl
          rw[az lv]; simp[bI,hv]
     ·have hkn:n.take k=n:=List.take_of_length_le (by omega)
      rw[hkn]at hk ⊢
      rw[rV (by omega) (by omega) hk.2]at hq
      subst hq
      refine sh ?_
      refine cM true [] (Fb h.Jd b w (n.map fun x=>x % 256 ^ w.toNat) (by simpa using hl) (xp (b:=b) (by omega) h2)) ?_
      repeat (intro _; first|refine eK ?_|refine eP ?_)
      refine sh ?_
      exact rM [1]
structure dU (B:List UInt8) (r:Rd):Prop where
 m:B.length≤1073741824
 s:r.l=B.drop (B.length - r.l.length)
 made:r.made=true
theorem dU.len {B:List UInt8} {r:Rd} (h:dU B r):r.l.length≤B.length:=by rw[h.s]; simp
theorem dU.take {B:List UInt8} {r:Rd} (h:dU B r) (n:Int):dU B (r.take n).2:=by
 unfold Rd.take
 split
 ·exact h
 ·split
  ·exact⟨h.m,h.s,h.made⟩
  ·split
   ·exact⟨h.m,h.s,h.made⟩
   ·refine⟨h.m,?_,h.made⟩
    have h1:=h.s
    have h2:=h.len
    simp only[List.length_drop]
    conv=>lhs; rw[h1]
    rw[List.drop_drop]
    congr 1
    omega
theorem dU.num {B:List UInt8} {r:Rd} (h:dU B r) (w:Int):dU B (r.num w).2:=h.take _
theorem dU.int {B:List UInt8} {r:Rd} (h:dU B r) (w:Int):dU B (r.int w).2:=h.num w
theorem dU.err {B:List UInt8} {r:Rd} (h:dU B r) (e:Int):dU B {r with e:=e}:=⟨h.m,h.s,h.made⟩
theorem dU.new {B:List UInt8} (h:B.length≤1073741824):dU B ⟨B,0,true⟩:=⟨h,by simp,rfl⟩
end Go.UM
namespace Go.UM
open Go.AM
set_option maxRecDepth 4000
theorem vy {b:List UInt8} {w:Int} {n:List Int} (h1:1≤w) (h2:w≤8) (h:∀x ∈ n,0≤x∧x<256 ^ w.toNat):jz b w n=(b++n.flatMap (bX w.toNat),0):=
 nJ h1 h2 (by
  rw[List.any_eq_false]
  intro x hx
  have:=h x hx
  simp; omega)
structure Fits {α:Type} (f:Rd→α × Rd) (g:α→List UInt8) (ok:α→Prop):Prop where
 made:∀r:Rd,r.made=true→(f r).2.made=true
 jd:∀r:Rd,ok (f r).1
 back:∀r:Rd,r.made=true→(f r).2.e=0→r.e=0∧r.l=g (f r).1++(f r).2.l
 there:∀ (x:α) (l:List UInt8),ok x→f ⟨g x++l,0,true⟩=(x,⟨l,0,true⟩)
def Au {α:Type} (f:Rd→α × Rd):Nat→Rd→List α × Rd
 |0,r=>([],r)
 |n+1,r=>((Au f n r).1++ [(f (Au f n r).2).1],(f (Au f n r).2).2)
theorem Fits.seq {α β:Type} {f:Rd→α × Rd} {g:α→List UInt8} {ok:α→Prop} {f':Rd→β × Rd} {g':β→List UInt8} {GA:β→Prop} (h:Fits f g ok) (h':Fits f' g' GA):
  Fits (fun r=>(((f r).1,(f' (f r).2).1),(f' (f r).2).2)) (fun x:α × β=>g x.1++g' x.2) (fun x=>ok x.1∧GA x.2):=by
 refine⟨fun r hm=>h'.made _ (h.made r hm),fun r=>⟨h.jd r,h'.jd _⟩,fun r hm he=> ?_,fun x l hx=> ?_⟩
 ·have h1:=h'.back _ (h.made r hm) he
  have h2:=h.back r hm h1.1
  exact⟨h2.1,by rw[h2.2,h1.2,List.append_assoc]⟩
 ·rw[List.append_assoc,h.there x.1 _ hx.1]
  rw[h'.there x.2 l hx.2]
theorem Fits.as {α β:Type} {f:Rd→α × Rd} {g:α→List UInt8} {ok:α→Prop} (h:Fits f g ok) (to:α→β) (of:β→α) (g':β→List UInt8) (GA:β→Prop)
  (h1:∀x,ok x→g' (to x)=g x) (h2:∀x,ok x→GA (to x)) (h3:∀y,GA y→g' y=g (of y)∧ok (of y)∧to (of y)=y):Fits (fun r=>(to (f r).1,(f r).2)) g' GA:=by
 refine⟨h.made,fun r=>h2 _ (h.jd r),fun r hm he=> ?_,fun y l hy=> ?_⟩
 ·have:=h.back r hm he
  exact⟨this.1,by rw[this.2,h1 _ (h.jd r)]⟩
 ·have h4:=h3 y hy
  rw[h4.1,h.there _ _ h4.2.1,h4.2.2]
end Go.UM
namespace Go.UM
open Go.AM
set_option maxRecDepth 4000
theorem MJ (b:List T3) (m:Int):(bD b).take (min (b.length:Int) m).toNat=bD (b.take m.toNat):=by rw[BZ,xi]
theorem WM (b:List (Int × Int)) (m:Int):(dL b).take (min (b.length:Int) m).toNat=dL (b.take m.toNat):=by rw[B9,xi]
structure Ms.Ok (m:Ms):Prop where
 v:∀p ∈ m.v,hJ .i64 p.a∧hJ .i64 p.b∧hJ .i64 p.c
 uv:∀p ∈ m.uv,hJ .i64 p.1∧hJ .i64 p.2
 t:∀p ∈ m.t,hJ .i64 p.a∧hJ .i64 p.b∧hJ .i64 p.c
structure Ms.S8 (m:Ms):Prop where
 v:1≤m.v.length∧m.v.length≤64
 t:1≤m.t.length∧m.t.length≤64
 uv:m.uv.length=m.v.length
 pv:∀p ∈ m.v,-4096≤p.a∧p.a≤4096∧ -4096≤p.b∧p.b≤4096∧ -4096≤p.c∧p.c≤4096
 pu:∀x ∈ m.uv,0≤x.1∧x.1≤65535∧0≤x.2∧x.2≤65535
 pt:∀t ∈ m.t,0≤t.a∧t.a<m.v.length∧0≤t.b∧t.b<m.v.length∧0≤t.c∧t.c<m.v.length∧t.a≠t.b∧t.b≠t.c∧t.c≠t.a
theorem xr {m:Ms} (h:iB m=0):m.S8:=by
 unfold iB at h
 split at h
 ·cases h
 ·split at h
  ·cases h
  ·split at h
   ·cases h
   ·split at h
    ·cases h
    ·rename_i h1 h2 h3 h4
     simp only[not_or,Bool.not_eq_true,List.any_eq_false]at h3 h4
     refine⟨by omega,by omega,by omega,fun p hp=> ?_,fun p hp=> ?_,fun p hp=> ?_⟩
     ·have:=h3 p hp; simpa[j3]using this
     ·have:=h4.1 p hp; simpa[pW]using this
     ·have:=h4.2 p hp; simpa[kV]using this
theorem Ms.S8.iy {m:Ms} (h:m.S8):iB m=0:=by
 unfold iB
 have h1:=h.v
 have h2:=h.t
 have h3:=h.uv
 rw[if_neg (by omega),if_neg (by omega),if_neg,if_neg]
 ·simp only[not_or,Bool.not_eq_true,List.any_eq_false]
  exact⟨fun p hp=>by have:=h.pu p hp; simpa[pW]using this,fun p hp=>by have:=h.pt p hp; simpa[kV]using this⟩
 ·simp only[Bool.not_eq_true,List.any_eq_false]
  exact fun p hp=>by have:=h.pv p hp; simpa[j3]using this
def Ms.ku (m:Ms):Ms:=⟨m.v.take 70,m.uv.take 70,m.t.take 70⟩
theorem H9 {R:Env} (h:LD R) (m:Ms):R.Pc 191 [.agg m.row] (.agg m.ku.row):=
 h.Rq.enter 100 rfl fun X bb hfit hp=>by
  refine sh ?_
  refine iS (by exact MJ _ _) ?_
  refine sh ?_
  refine iS (by exact WM _ _) ?_
  refine sh ?_
  refine iS (by exact MJ _ _) ?_
  refine sh ?_
  exact rT
def eh (p:T3):List UInt8:=bX 2 (p.a % 65536)++bX 2 (p.b % 65536)++bX 2 (p.c % 65536)
def iv (x:Int × Int):List UInt8:=bX 2 x.1++bX 2 x.2
def kw (t:T3):List UInt8:=[u8 t.a,u8 t.b,u8 t.c]
def zk (m:Ms):List UInt8:=[u8 m.v.length,u8 m.t.length]++m.v.flatMap eh++m.uv.flatMap iv++m.t.flatMap kw
def rW (m:Ms):List UInt8 × Int:=if iB m≠0 then ([],iB m)else (zk m,0)
theorem bW {α:Type} {l:List α} {k:Nat} {x:α} {f:α→List UInt8} (h:l[k]? =some x):(l.take (k+1)).flatMap f=(l.take k).flatMap f++f x:=by
 rw[az h]; simp
theorem rX {b:List UInt8} {p:T3} (h: -4096≤p.a∧p.a≤4096∧ -4096≤p.b∧p.b≤4096∧ -4096≤p.c∧p.c≤4096):gl b 2 [p.a,p.b,p.c]=(b++eh p,0):=by
 rw[rV (by decide) (by decide),nJ (by decide) (by decide)]
 ·simp[eh]
 ·simp; omega
 ·simp; omega
theorem H' {b:List UInt8} {x:Int × Int} (h:0≤x.1∧x.1≤65535∧0≤x.2∧x.2≤65535):jz b 2 [x.1,x.2]=(b++iv x,0):=by
 rw[nJ (by decide) (by decide)]
 ·simp[iv]
 ·simp; omega
theorem xu {l:List T3}:(l.flatMap eh).length=6*l.length:=by
 induction l with
 |nil=>rfl
 |cons x r ih=>simp[eh]at ih ⊢; omega
theorem Av {l:List (Int × Int)}:(l.flatMap iv).length=4*l.length:=by
 induction l with
 |nil=>rfl
 |cons x r ih=>simp[iv]at ih ⊢; omega
theorem Jm {l:List T3}:(l.flatMap kw).length=3*l.length:=by
 induction l with
 |nil=>rfl
 |cons x r ih=>simp[kw]at ih ⊢; omega
theorem Cd {R:Env} (h:Le R) (m:Ms):R.Pc 196 [.agg m.row] (.aO [.aH 1 (bn (rW m).1),.int .i64 (rW m).2]):=
 h.QA.enter 100 rfl fun X bb hfit hp=>by
  refine sh ?_
  refine ae.pure h.n193.Ld.hb (xn h.n193 m) rfl ?_
  generalize hq:rW m=q
  refine sh ?_
  refine cS (fun h1=> ?_) (fun h1=> ?_)
  ·rw[rW,if_pos h1]at hq
   subst hq
   refine sh ?_
   exact rT
  ·rw[rW,if_neg (by simpa using h1)]at hq
   subst hq
   have may:=xr h1
   have mv:=may.v
   have mt:=may.t
   have mu:=may.uv
   have w8:((u8 m.v.length).toNat:Int)=m.v.length:=u8_in (by omega)
   have t8:((u8 m.t.length).toNat:Int)=m.t.length:=u8_in (by omega)
   refine sh ?_
   refine au.inv 100 (fun i:Nat=>i≤m.v.length) (fun i=>⟨[(1,.loc 0 1 0 0),(5,.ba 1 ([u8 m.v.length,u8 m.t.length]++(m.v.take i).flatMap eh).length),(27,.aH 3 (bD m.v)),(28,.int .i64 m.v.length),(29,.int .i64 i)],[(1,.arr (R.ty 4) 1 (bn ([u8 m.v.length,u8 m.t.length]++(m.v.take i).flatMap eh))),(0,.var (R.ty 25) m.row)],2⟩) (fun i=>m.v.length - i) (0) ?_ ⟨⟨_,hp,rfl⟩,?_,?_⟩ ?_
   ·exact Nat.zero_le _
   ·all_goals repeat' (first|exact True.intro|refine And.intro ?_ ?_|(intro _u; clear _u)|(with_reducible first|exact ai.fg|refine eM ?_ ?_|refine eF ?_ ?_ ?_|refine eN ?_|refine eL ?_ ?_ ?_|refine eA ?_ ?_|refine aj.mk ⟨_,hp,rfl⟩ ?_ ?_)|refine aj.mk ⟨_,hp,rfl⟩ ?_ ?_)
    all_goals try first|with_reducible rfl|omega|exact .inl (by decide)|(simp; done)|rfl
   ·all_goals repeat' (first|exact True.intro|refine And.intro ?_ ?_|(intro _u; clear _u)|(with_reducible first|exact ai.fg|refine eM ?_ ?_|refine eF ?_ ?_ ?_|refine eN ?_|refine eL ?_ ?_ ?_|refine eA ?_ ?_|refine aj.mk ⟨_,hp,rfl⟩ ?_ ?_)|refine aj.mk ⟨_,hp,rfl⟩ ?_ ?_)
    all_goals try first|with_reducible rfl|omega|exact .inl (by decide)|(simp; done)|rfl
    simp[bn,w8,t8]
   ·intro i hi
    dsimp only
    refine sh ?_
    refine cS (fun h2=> ?_) (fun h2=> ?_)
    ·obtain⟨y,hy⟩:∃u_,m.v[i]? =some u_:=⟨_,List.getElem?_eq_getElem (by first|omega|(simp<;>omega))⟩
     refine sh ?_
     refine ab hy ?_
     have F7:=may.pv y (List.mem_of_getElem? hy)
     have c1:=xq h.NG ([u8 m.v.length,u8 m.t.length]++(m.v.take i).flatMap eh) 2 [y.a,y.b,y.c] (by simp only[List.length_append,xu,List.length_take,List.length_cons,List.length_nil]; omega) (by simp[hJ]; omega)
     rw[rX F7]at c1
     refine sh ?_
     refine cM true [] (c1) ?_
     repeat (intro _; first|refine eK ?_|refine eP ?_)
     refine sh ?_
     refine NE [0,4] (i+1) ?_ ?_ ?_
     ·omega
     ·omega
     ·all_goals repeat' (first|exact True.intro|refine And.intro ?_ ?_|(intro _u; clear _u)|(with_reducible first|exact ai.fg|refine eM ?_ ?_|refine eF ?_ ?_ ?_|refine eN ?_|refine eL ?_ ?_ ?_|refine eA ?_ ?_|refine aj.mk ⟨_,hp,rfl⟩ ?_ ?_)|refine aj.mk ⟨_,hp,rfl⟩ ?_ ?_)
      all_goals try first|with_reducible rfl|omega|exact .inl (by decide)|(simp; done)|rfl
      rw[bW hy]; simp
      rw[bW hy]; simp
    ·rw[show m.v.take i=m.v from List.take_of_length_le (by omega)]
     have hB:([u8 m.v.length,u8 m.t.length]++m.v.flatMap eh).length≤400:=by
      simp only[List.length_append,xu,List.length_cons,List.length_nil]; omega
     have e:zk m=[u8 m.v.length,u8 m.t.length]++m.v.flatMap eh++m.uv.flatMap iv++m.t.flatMap kw:=rfl
     rw[e]
     generalize [u8 m.v.length,u8 m.t.length]++m.v.flatMap eh=B at hB ⊢
     refine sh ?_
     refine gk 100 (fun i:Nat=>i≤m.uv.length) (fun i=>⟨[(1,.loc 0 1 0 0),(5,.ba 1 (B++(m.uv.take i).flatMap iv).length),(47,.aH 2 (dL m.uv)),(48,.int .i64 m.uv.length),(49,.int .i64 i)],[(1,.arr (R.ty 4) 1 (bn (B++(m.uv.take i).flatMap iv))),(0,.var (R.ty 25) m.row)],2⟩) (fun i=>m.uv.length - i) (0) ?_ ?_
     ·exact Nat.zero_le _
     ·intro i hi
      dsimp only
      refine sh ?_
      refine cS (fun h3=> ?_) (fun h3=> ?_)
      ·obtain⟨x,hx⟩:∃u_,m.uv[i]? =some u_:=⟨_,List.getElem?_eq_getElem (by first|omega|(simp<;>omega))⟩
       refine sh ?_
       refine ab hx ?_
       have bQ:=may.pu x (List.mem_of_getElem? hx)
       have c1:=Ar h.FW (B++(m.uv.take i).flatMap iv) 2 [x.1,x.2] (by simp only[List.length_append,Av,List.length_take,List.length_cons,List.length_nil]; omega) (by simp; omega)
       rw[H' bQ]at c1
       refine sh ?_
       refine cM true [] (c1) ?_
       repeat (intro _; first|refine eK ?_|refine eP ?_)
       refine sh ?_
       refine NE [0,4] (i+1) ?_ ?_ ?_
       ·omega
       ·omega
       ·all_goals repeat' (first|exact True.intro|refine And.intro ?_ ?_|(intro _u; clear _u)|(with_reducible first|exact ai.fg|refine eM ?_ ?_|refine eF ?_ ?_ ?_|refine eN ?_|refine eL ?_ ?_ ?_|refine eA ?_ ?_|refine aj.mk ⟨_,hp,rfl⟩ ?_ ?_)|refine aj.mk ⟨_,hp,rfl⟩ ?_ ?_)
        all_goals try first|with_reducible rfl|omega|exact .inl (by decide)|(simp; done)|rfl
        rw[bW hx]; simp
        rw[bW hx]; simp
      ·rw[show m.uv.take i=m.uv from List.take_of_length_le (by omega)]
       have WN:(B++m.uv.flatMap iv).length≤800:=by
        simp only[List.length_append,Av]; omega
       generalize B++m.uv.flatMap iv=C at WN ⊢
       refine sh ?_
       refine gk 100 (fun i:Nat=>i≤m.t.length) (fun i=>⟨[(5,.ba 1 (C++(m.t.take i).flatMap kw).length),(67,.aH 3 (bD m.t)),(68,.int .i64 m.t.length),(69,.int .i64 i)],[(1,.arr (R.ty 4) 1 (bn (C++(m.t.take i).flatMap kw)))],2⟩) (fun i=>m.t.length - i) (0) ?_ ?_
       ·exact Nat.zero_le _
       ·intro i hi
        dsimp only
        refine sh ?_
        refine cS (fun h4=> ?_) (fun h4=> ?_)
        ·obtain⟨y,hy⟩:∃u_,m.t[i]? =some u_:=⟨_,List.getElem?_eq_getElem (by first|omega|(simp<;>omega))⟩
         refine sh ?_
         refine ab hy ?_
         have F7:=may.pt y (List.mem_of_getElem? hy)
         refine sh ?_
         refine nD ?_ (by simp only[eT,List.length_append,Jm,List.length_take]; simp; omega)
         refine sh ?_
         refine nX (i+1) ?_ ?_ ⟨_,hp,rfl⟩ ?_ ?_
         ·omega
         ·omega
         ·all_goals repeat' (first|exact True.intro|refine And.intro ?_ ?_|(intro _u; clear _u)|(with_reducible first|exact ai.fg|refine eM ?_ ?_|refine eF ?_ ?_ ?_|refine eN ?_|refine eL ?_ ?_ ?_|refine eA ?_ ?_|refine aj.mk ⟨_,hp,rfl⟩ ?_ ?_)|refine aj.mk ⟨_,hp,rfl⟩ ?_ ?_)
          all_goals try first|with_reducible rfl|omega|exact .inl (by decide)|(simp; done)|rfl
          rw[bW hy]; simp[kw]
         ·all_goals repeat' (first|exact True.intro|refine And.intro ?_ ?_|(intro _u; clear _u)|(with_reducible first|exact ai.fg|refine eM ?_ ?_|refine eF ?_ ?_ ?_|refine eN ?_|refine eL ?_ ?_ ?_|refine eA ?_ ?_|refine aj.mk ⟨_,hp,rfl⟩ ?_ ?_)|refine aj.mk ⟨_,hp,rfl⟩ ?_ ?_)
          all_goals try first|with_reducible rfl|omega|exact .inl (by decide)|(simp; done)|rfl
          rw[bW hy]; simp[kw,bn]
          refine⟨(u8_in ?_).symm,(u8_in ?_).symm,(u8_in ?_).symm⟩<;>omega
        ·rw[show m.t.take i=m.t from List.take_of_length_le (by omega)]
         refine sh ?_
         exact rT
end Go.UM
namespace Go.UM
open Go.AM
set_option maxRecDepth 4000
theorem vz {R:Env} (h:HE R) (p:T3):R.Pc 213 [.agg (t3 p),.int .i64 4096] (.bool (j3 p)):=
 h.EC.enter 60 rfl fun X bb hfit hp=>by
  unfold j3
  refine sh ?_
  refine cS (fun h1=> ?_) (fun h1=> ?_)
  ·refine sh ?_
   refine rT ?_
   all_goals repeat' (first|exact True.intro|refine And.intro ?_ ?_|(intro _u; clear _u)|(with_reducible first|exact ai.fg|refine eM ?_ ?_|refine eF ?_ ?_ ?_|refine eN ?_|refine eL ?_ ?_ ?_|refine eA ?_ ?_|refine aj.mk ⟨_,hp,rfl⟩ ?_ ?_)|refine aj.mk ⟨_,hp,rfl⟩ ?_ ?_)
   all_goals try first|with_reducible rfl|omega|exact .inl (by decide)|(simp; done)|rfl
   simp; omega
  ·refine sh ?_
   refine cS (fun h2=> ?_) (fun h2=> ?_)
   ·refine sh ?_
    refine rT ?_
    all_goals repeat' (first|exact True.intro|refine And.intro ?_ ?_|(intro _u; clear _u)|(with_reducible first|exact ai.fg|refine eM ?_ ?_|refine eF ?_ ?_ ?_|refine eN ?_|refine eL ?_ ?_ ?_|refine eA ?_ ?_|refine aj.mk ⟨_,hp,rfl⟩ ?_ ?_)|refine aj.mk ⟨_,hp,rfl⟩ ?_ ?_)
    all_goals try first|with_reducible rfl|omega|exact .inl (by decide)|(simp; done)|rfl
    simp; omega
   ·refine sh ?_
    refine cS (fun h3=> ?_) (fun h3=> ?_)
    ·refine sh ?_
     refine rT ?_
     all_goals repeat' (first|exact True.intro|refine And.intro ?_ ?_|(intro _u; clear _u)|(with_reducible first|exact ai.fg|refine eM ?_ ?_|refine eF ?_ ?_ ?_|refine eN ?_|refine eL ?_ ?_ ?_|refine eA ?_ ?_|refine aj.mk ⟨_,hp,rfl⟩ ?_ ?_)|refine aj.mk ⟨_,hp,rfl⟩ ?_ ?_)
     all_goals try first|with_reducible rfl|omega|exact .inl (by decide)|(simp; done)|rfl
     simp; omega
    ·refine sh ?_
     refine cS (fun h4=> ?_) (fun h4=> ?_)
     ·refine sh ?_
      refine rT ?_
      all_goals repeat' (first|exact True.intro|refine And.intro ?_ ?_|(intro _u; clear _u)|(with_reducible first|exact ai.fg|refine eM ?_ ?_|refine eF ?_ ?_ ?_|refine eN ?_|refine eL ?_ ?_ ?_|refine eA ?_ ?_|refine aj.mk ⟨_,hp,rfl⟩ ?_ ?_)|refine aj.mk ⟨_,hp,rfl⟩ ?_ ?_)
      all_goals try first|with_reducible rfl|omega|exact .inl (by decide)|(simp; done)|rfl
      simp; omega
     ·refine sh ?_
      refine cS (fun h5=> ?_) (fun h5=> ?_)
      ·refine sh ?_
       refine rT ?_
       all_goals repeat' (first|exact True.intro|refine And.intro ?_ ?_|(intro _u; clear _u)|(with_reducible first|exact ai.fg|refine eM ?_ ?_|refine eF ?_ ?_ ?_|refine eN ?_|refine eL ?_ ?_ ?_|refine eA ?_ ?_|refine aj.mk ⟨_,hp,rfl⟩ ?_ ?_)|refine aj.mk ⟨_,hp,rfl⟩ ?_ ?_)
       all_goals try first|with_reducible rfl|omega|exact .inl (by decide)|(simp; done)|rfl
       simp; omega
      ·refine sh ?_
       refine rT ?_
       all_goals repeat' (first|exact True.intro|refine And.intro ?_ ?_|(intro _u; clear _u)|(with_reducible first|exact ai.fg|refine eM ?_ ?_|refine eF ?_ ?_ ?_|refine eN ?_|refine eL ?_ ?_ ?_|refine eA ?_ ?_|refine aj.mk ⟨_,hp,rfl⟩ ?_ ?_)|refine aj.mk ⟨_,hp,rfl⟩ ?_ ?_)
       all_goals try first|with_reducible rfl|omega|exact .inl (by decide)|(simp; done)|rfl
       rw[Bool.eq_iff_iff]; simp only[decide_eq_true_eq,Bool.not_eq_true',decide_eq_false_iff_not]; omega
theorem rY {R:Env} (h:HF R) (m:Ms):R.Pc 198 [.agg m.row] (.int .i64 (iB m)):=
 h.LW.enter 100 rfl fun X bb hfit hp=>by
  generalize hq:iB m=q
  refine sh ?_
  refine cS (fun h1=> ?_) (fun h1=> ?_)
  ·rw[iB,if_pos (.inl (by omega))]at hq
   subst hq
   refine sh ?_
   exact rT
  ·refine sh ?_
   refine cS (fun h2=> ?_) (fun h2=> ?_)
   ·rw[iB,if_pos (.inr (by omega))]at hq
    subst hq
    refine sh ?_
    exact rT
   ·have g1:¬ (64<m.v.length∨64<m.t.length):=by omega
    refine sh ?_
    refine cS (fun h3=> ?_) (fun h3=> ?_)
    ·rw[iB,if_neg g1,if_pos (.inl (by omega))]at hq
     subst hq
     refine sh ?_
     exact rT
    ·refine sh ?_
     refine cS (fun h4=> ?_) (fun h4=> ?_)
     ·rw[iB,if_neg g1,if_pos (.inr (.inl (by omega)))]at hq
      subst hq
      refine sh ?_
      exact rT
     ·refine sh ?_
      refine cS (fun h5=> ?_) (fun h5=> ?_)
      ·rw[iB,if_neg g1,if_pos (.inr (.inr (by omega)))]at hq
       subst hq
       refine sh ?_
       exact rT
      ·rw[iB,if_neg g1,if_neg (by omega)]at hq
       refine sh ?_
       refine gk 100 (fun k:Nat=>k≤m.v.length∧(m.v.take k).any j3=false) (fun k=>⟨[(1,.loc 0 1 0 0),(3,.int .i64 k)],[(0,.var (R.ty 25) m.row)],1⟩) (fun k=>m.v.length - k) (0) ?_ ?_
       ·exact⟨Nat.zero_le _,by simp⟩
       ·intro k hk
        dsimp only
        refine sh ?_
        refine cS (fun h6=> ?_) (fun h6=> ?_)
        ·obtain⟨x,hx⟩:∃u_,m.v[k]? =some u_:=⟨_,List.getElem?_eq_getElem (by first|omega|(simp<;>omega))⟩
         refine sh ?_
         refine ab hx ?_
         refine sh ?_
         refine ae.pure h.n213.EC.hb (vz h.n213 x) rfl ?_
         refine sh ?_
         refine cS (fun h7=> ?_) (fun h7=> ?_)
         ·rw[if_pos (dC hx h7)]at hq
          subst hq
          refine sh ?_
          exact rT
         ·refine sh ?_
          refine kq (k+1) ?_ ?_
          ·refine⟨by omega,?_⟩
           rw[cI hx,hk.2,h7]; rfl
          ·omega
        ·have hv:=hk.2
         rw[List.take_of_length_le (by omega)]at hv
         rw[if_neg (by rw[hv]; decide)]at hq
         refine sh ?_
         refine gk 100 (fun k:Nat=>k≤m.uv.length∧(m.uv.take k).any pW=false) (fun k=>⟨[(1,.loc 0 1 0 0),(4,.int .i64 k)],[(0,.var (R.ty 25) m.row)],1⟩) (fun k=>m.uv.length - k) (0) ?_ ?_
         ·exact⟨Nat.zero_le _,by simp⟩
         ·intro k hk
          dsimp only
          refine sh ?_
          refine cS (fun h7=> ?_) (fun h7=> ?_)
          ·obtain⟨x,hx⟩:∃u,m.uv[k]? =some u:=⟨_,List.getElem?_eq_getElem (by omega)⟩
           refine sh ?_
           refine au.one 100 ?_
           refine sh ?_
           refine ah (by decide) ?_
           refine sh ?_
           refine ab hx ?_
           refine sh ?_
           refine cS (fun a1=> ?_) (fun a1=> ?_)
           ·rw[if_pos (.inl (dC hx (by simp[pW]; omega)))]at hq
            subst hq
            refine sh ?_
            exact rT
           ·refine sh ?_
            refine ab hx ?_
            refine sh ?_
            refine cS (fun a2=> ?_) (fun a2=> ?_)
            ·rw[if_pos (.inl (dC hx (by simp[pW]; omega)))]at hq
             subst hq
             refine sh ?_
             exact rT
            ·refine sh ?_
             refine au.one 100 ?_
             refine sh ?_
             refine ah (by decide) ?_
             refine sh ?_
             refine ab hx ?_
             refine sh ?_
             refine cS (fun a3=> ?_) (fun a3=> ?_)
             ·rw[if_pos (.inl (dC hx (by simp[pW]; omega)))]at hq
              subst hq
              refine sh ?_
              exact rT
             ·refine sh ?_
              refine ab hx ?_
              refine sh ?_
              refine cS (fun a4=> ?_) (fun a4=> ?_)
              ·rw[if_pos (.inl (dC hx (by simp[pW]; omega)))]at hq
               subst hq
               refine sh ?_
               exact rT
              ·refine sh ?_
               refine au.one 100 ?_
               refine sh ?_
               refine aq (by decide) ?_
               refine sh ?_
               refine kq (k+1) ?_ ?_
               ·refine⟨by omega,?_⟩
                rw[cI hx,hk.2]
                simp[pW]; omega
               ·omega
          ·have hu:=hk.2
           rw[List.take_of_length_le (by omega)]at hu
           refine sh ?_
           refine gk 100 (fun k:Nat=>k≤m.t.length∧(m.t.take k).any (kV m.v.length)=false) (fun k=>⟨[(1,.loc 0 1 0 0),(6,.int .i64 k)],[(0,.var (R.ty 25) m.row)],1⟩) (fun k=>m.t.length - k) (0) ?_ ?_
           ·exact⟨Nat.zero_le _,by simp⟩
           ·intro k hk
            dsimp only
            refine sh ?_
            refine cS (fun h8=> ?_) (fun h8=> ?_)
            ·obtain⟨t,ht⟩:∃u,m.t[k]? =some u:=⟨_,List.getElem?_eq_getElem (by omega)⟩
             refine sh ?_
             refine au.one 100 ?_
             refine sh ?_
             refine ah (by decide) ?_
             refine sh ?_
             refine ab ht ?_
             refine sh ?_
             refine cS (fun a1=> ?_) (fun a1=> ?_)
             ·rw[if_pos (.inr (dC ht (by simp[kV]; omega)))]at hq
              subst hq
              refine sh ?_
              exact rT
             ·refine sh ?_
              refine ab ht ?_
              refine sh ?_
              refine cS (fun a2=> ?_) (fun a2=> ?_)
              ·rw[if_pos (.inr (dC ht (by simp[kV]; omega)))]at hq
               subst hq
               refine sh ?_
               exact rT
              ·refine sh ?_
               refine ab ht ?_
               refine sh ?_
               refine ab ht ?_
               refine sh ?_
               refine cS (fun a3=> ?_) (fun a3=> ?_)
               ·rw[if_pos (.inr (dC ht (by simp[kV]; omega)))]at hq
                subst hq
                refine sh ?_
                exact rT
               ·refine sh ?_
                refine au.one 100 ?_
                refine sh ?_
                refine ah (by decide) ?_
                refine sh ?_
                refine ab ht ?_
                refine sh ?_
                refine cS (fun a4=> ?_) (fun a4=> ?_)
                ·rw[if_pos (.inr (dC ht (by simp[kV]; omega)))]at hq
                 subst hq
                 refine sh ?_
                 exact rT
                ·refine sh ?_
                 refine ab ht ?_
                 refine sh ?_
                 refine cS (fun a5=> ?_) (fun a5=> ?_)
                 ·rw[if_pos (.inr (dC ht (by simp[kV]; omega)))]at hq
                  subst hq
                  refine sh ?_
                  exact rT
                 ·refine sh ?_
                  refine ab ht ?_
                  refine sh ?_
                  refine ab ht ?_
                  refine sh ?_
                  refine cS (fun a6=> ?_) (fun a6=> ?_)
                  ·rw[if_pos (.inr (dC ht (by simp[kV]; omega)))]at hq
                   subst hq
                   refine sh ?_
                   exact rT
                  ·refine sh ?_
                   refine au.one 100 ?_
                   refine sh ?_
                   refine ah (by decide) ?_
                   refine sh ?_
                   refine ab ht ?_
                   refine sh ?_
                   refine cS (fun a7=> ?_) (fun a7=> ?_)
                   ·rw[if_pos (.inr (dC ht (by simp[kV]; omega)))]at hq
                    subst hq
                    refine sh ?_
                    exact rT
                   ·refine sh ?_
                    refine ab ht ?_
                    refine sh ?_
                    refine cS (fun a8=> ?_) (fun a8=> ?_)
                    ·rw[if_pos (.inr (dC ht (by simp[kV]; omega)))]at hq
                     subst hq
                     refine sh ?_
                     exact rT
                    ·refine sh ?_
                     refine ab ht ?_
                     refine sh ?_
                     refine ab ht ?_
                     refine sh ?_
                     refine cS (fun a9=> ?_) (fun a9=> ?_)
                     ·rw[if_pos (.inr (dC ht (by simp[kV]; omega)))]at hq
                      subst hq
                      refine sh ?_
                      exact rT
                     ·refine sh ?_
                      refine au.one 100 ?_
                      refine sh ?_
                      refine aq (by decide) ?_
                      refine sh ?_
                      refine kq (k+1) ?_ ?_
                      ·refine⟨by omega,?_⟩
                       rw[cI ht,hk.2]
                       simp[kV]; omega
                      ·omega
            ·have hw:=hk.2
             rw[List.take_of_length_le (by omega)]at hw
             rw[if_neg (by rw[hu,hw]; decide)]at hq
             subst hq
             refine sh ?_
             exact rT
theorem nK {R:Env} (h:HG R) (b:List UInt8) (p:T3) (hl:b.length≤1000000) (ok: -4096≤p.a∧p.a≤4096∧ -4096≤p.b∧p.b≤4096∧ -4096≤p.c∧p.c≤4096):
  R.Mc 212 [.aH 1 (bn b),.agg (t3 p)] [] (.ba 0 (b++eh p).length) [(0,.arr (R.ty 4) 1 (bn (b++eh p)))] 1:=
 h.Wu.aV 60 0 rfl rfl rfl fun X bb hfit hp=>by
  have c1:=Cc h.Wv b 2 [p.a,p.b,p.c] (by simp; omega) (by simp[hJ]; omega)
  rw[rX ok]at c1
  refine sh ?_
  refine cM true [] (c1) ?_
  repeat (intro _; first|refine eK ?_|refine eP ?_)
  refine sh ?_
  exact rM [2]
theorem zl {R:Env} (h:LX R) (m:Ms):R.Pc 197 [.agg m.row] (.aO [.aH 1 (bn (rW m).1),.int .i64 (rW m).2]):=
 h.R3.enter 100 rfl fun X bb hfit hp=>by
  refine sh ?_
  refine ae.pure h.n198.LW.hb (rY h.n198 m) rfl ?_
  generalize hq:rW m=q
  refine sh ?_
  refine cS (fun h1=> ?_) (fun h1=> ?_)
  ·rw[rW,if_pos h1]at hq
   subst hq
   refine sh ?_
   exact rT
  ·rw[rW,if_neg (by simpa using h1)]at hq
   subst hq
   have may:=xr h1
   have mv:=may.v
   have mt:=may.t
   have mu:=may.uv
   have w8:((u8 m.v.length).toNat:Int)=m.v.length:=u8_in (by omega)
   have t8:((u8 m.t.length).toNat:Int)=m.t.length:=u8_in (by omega)
   refine sh ?_
   refine au.inv 100 (fun i:Nat=>i≤m.v.length) (fun i=>⟨[(1,.loc 0 1 0 0),(5,.ba 1 ([u8 m.v.length,u8 m.t.length]++(m.v.take i).flatMap eh).length),(6,.int .i64 i)],[(1,.arr (R.ty 4) 1 (bn ([u8 m.v.length,u8 m.t.length]++(m.v.take i).flatMap eh))),(0,.var (R.ty 25) m.row)],2⟩) (fun i=>m.v.length - i) (0) ?_ ⟨⟨_,hp,rfl⟩,?_,?_⟩ ?_
   ·exact Nat.zero_le _
   ·all_goals repeat' (first|exact True.intro|refine And.intro ?_ ?_|(intro _u; clear _u)|(with_reducible first|exact ai.fg|refine eM ?_ ?_|refine eF ?_ ?_ ?_|refine eN ?_|refine eL ?_ ?_ ?_|refine eA ?_ ?_|refine aj.mk ⟨_,hp,rfl⟩ ?_ ?_)|refine aj.mk ⟨_,hp,rfl⟩ ?_ ?_)
    all_goals try first|with_reducible rfl|omega|exact .inl (by decide)|(simp; done)|rfl
   ·all_goals repeat' (first|exact True.intro|refine And.intro ?_ ?_|(intro _u; clear _u)|(with_reducible first|exact ai.fg|refine eM ?_ ?_|refine eF ?_ ?_ ?_|refine eN ?_|refine eL ?_ ?_ ?_|refine eA ?_ ?_|refine aj.mk ⟨_,hp,rfl⟩ ?_ ?_)|refine aj.mk ⟨_,hp,rfl⟩ ?_ ?_)
    all_goals try first|with_reducible rfl|omega|exact .inl (by decide)|(simp; done)|rfl
    simp[bn,w8,t8]
   ·intro i hi
    dsimp only
    refine sh ?_
    refine cS (fun h2=> ?_) (fun h2=> ?_)
    ·obtain⟨y,hy⟩:∃u_,m.v[i]? =some u_:=⟨_,List.getElem?_eq_getElem (by first|omega|(simp<;>omega))⟩
     refine sh ?_
     refine ab hy ?_
     have F7:=may.pv y (List.mem_of_getElem? hy)
     refine sh ?_
     refine cM true [] (nK h.n212 ([u8 m.v.length,u8 m.t.length]++(m.v.take i).flatMap eh) y (by simp only[List.length_append,xu,List.length_take,List.length_cons,List.length_nil]; omega) F7) ?_
     repeat (intro _; first|refine eK ?_|refine eP ?_)
     refine sh ?_
     refine NE [0,2] (i+1) ?_ ?_ ?_
     ·omega
     ·omega
     ·all_goals repeat' (first|exact True.intro|refine And.intro ?_ ?_|(intro _u; clear _u)|(with_reducible first|exact ai.fg|refine eM ?_ ?_|refine eF ?_ ?_ ?_|refine eN ?_|refine eL ?_ ?_ ?_|refine eA ?_ ?_|refine aj.mk ⟨_,hp,rfl⟩ ?_ ?_)|refine aj.mk ⟨_,hp,rfl⟩ ?_ ?_)
      all_goals try first|with_reducible rfl|omega|exact .inl (by decide)|(simp; done)|rfl
      rw[bW hy]; simp
      rw[bW hy]; simp
    ·rw[show m.v.take i=m.v from List.take_of_length_le (by omega)]
     have hB:([u8 m.v.length,u8 m.t.length]++m.v.flatMap eh).length≤400:=by
      simp only[List.length_append,xu,List.length_cons,List.length_nil]; omega
     have e:zk m=[u8 m.v.length,u8 m.t.length]++m.v.flatMap eh++m.uv.flatMap iv++m.t.flatMap kw:=rfl
     rw[e]
     generalize [u8 m.v.length,u8 m.t.length]++m.v.flatMap eh=B at hB ⊢
     refine sh ?_
     refine gk 100 (fun i:Nat=>i≤m.uv.length) (fun i=>⟨[(1,.loc 0 1 0 0),(5,.ba 1 (B++(m.uv.take i).flatMap iv).length),(7,.int .i64 i)],[(1,.arr (R.ty 4) 1 (bn (B++(m.uv.take i).flatMap iv))),(0,.var (R.ty 25) m.row)],2⟩) (fun i=>m.uv.length - i) (0) ?_ ?_
     ·exact Nat.zero_le _
     ·intro i hi
      dsimp only
      refine sh ?_
      refine cS (fun h3=> ?_) (fun h3=> ?_)
      ·obtain⟨x,hx⟩:∃u,m.uv[i]? =some u:=⟨_,List.getElem?_eq_getElem (by omega)⟩
       have bQ:=may.pu x (List.mem_of_getElem? hx)
       have hC:(B++(m.uv.take i).flatMap iv).length≤800:=by
        simp only[List.length_append,Av,List.length_take]; omega
       have hst:B++(m.uv.take (i+1)).flatMap iv=(B++(m.uv.take i).flatMap iv)++iv x:=by rw[bW hx]; simp
       generalize B++(m.uv.take i).flatMap iv=C at hC hst ⊢
       refine sh ?_
       refine au.one 100 ?_
       refine sh ?_
       refine ah (by decide) ?_
       refine sh ?_
       refine ab hx ?_
       refine sh ?_
       rw[Int.tmod_eq_emod_of_nonneg (by omega)]
       refine wI ?_
       refine sh ?_
       refine ab hx ?_
       refine sh ?_
       rw[Int.tdiv_eq_ediv_of_nonneg (by omega)]
       refine wI ?_
       refine sh ?_
       refine au.one 100 ?_
       refine sh ?_
       refine ah (by decide) ?_
       refine sh ?_
       refine ab hx ?_
       refine sh ?_
       rw[Int.tmod_eq_emod_of_nonneg (by omega)]
       refine wI ?_
       refine sh ?_
       refine ab hx ?_
       refine sh ?_
       rw[Int.tdiv_eq_ediv_of_nonneg (by omega)]
       refine wI ?_
       refine sh ?_
       refine au.one 100 ?_
       refine sh ?_
       refine aq (by decide) ?_
       have f1:∀v:Int,0≤v∧v≤65535→bX 2 v=[u8 (v % 256),u8 (v / 256)]:=fun v hv=>by
        unfold bX
        simp[List.range_succ,y6]
       refine sh ?_
       refine nX (i+1) ?_ ?_ ⟨_,hp,rfl⟩ ?_ ?_
       ·omega
       ·omega
       ·all_goals repeat' (first|exact True.intro|refine And.intro ?_ ?_|(intro _u; clear _u)|(with_reducible first|exact ai.fg|refine eM ?_ ?_|refine eF ?_ ?_ ?_|refine eN ?_|refine eL ?_ ?_ ?_|refine eA ?_ ?_|refine aj.mk ⟨_,hp,rfl⟩ ?_ ?_)|refine aj.mk ⟨_,hp,rfl⟩ ?_ ?_)
        all_goals try first|with_reducible rfl|omega|exact .inl (by decide)|(simp; done)|rfl
        rw[hst]; simp[iv]
       ·all_goals repeat' (first|exact True.intro|refine And.intro ?_ ?_|(intro _u; clear _u)|(with_reducible first|exact ai.fg|refine eM ?_ ?_|refine eF ?_ ?_ ?_|refine eN ?_|refine eL ?_ ?_ ?_|refine eA ?_ ?_|refine aj.mk ⟨_,hp,rfl⟩ ?_ ?_)|refine aj.mk ⟨_,hp,rfl⟩ ?_ ?_)
        all_goals try first|with_reducible rfl|omega|exact .inl (by decide)|(simp; done)|rfl
        rw[hst]
        have g1:((u8 (x.1 % 256)).toNat:Int)=x.1 % 256:=u8_in (by omega)
        have g2:((u8 (x.1 / 256)).toNat:Int)=x.1 / 256:=u8_in (by omega)
        have g3:((u8 (x.2 % 256)).toNat:Int)=x.2 % 256:=u8_in (by omega)
        have g4:((u8 (x.2 / 256)).toNat:Int)=x.2 / 256:=u8_in (by omega)
        simp[iv,f1 x.1 (by omega),f1 x.2 (by omega),bn,g1,g2,g3,g4]
      ·rw[show m.uv.take i=m.uv from List.take_of_length_le (by omega)]
       have WN:(B++m.uv.flatMap iv).length≤800:=by
        simp only[List.length_append,Av]; omega
       generalize B++m.uv.flatMap iv=B2 at WN ⊢
       refine sh ?_
       refine gk 100 (fun i:Nat=>i≤m.t.length) (fun i=>⟨[(1,.loc 0 1 0 0),(5,.ba 1 (B2++(m.t.take i).flatMap kw).length),(9,.int .i64 i)],[(1,.arr (R.ty 4) 1 (bn (B2++(m.t.take i).flatMap kw))),(0,.var (R.ty 25) m.row)],2⟩) (fun i=>m.t.length - i) (0) ?_ ?_
       ·exact Nat.zero_le _
       ·intro i hi
        dsimp only
        refine sh ?_
        refine cS (fun h4=> ?_) (fun h4=> ?_)
        ·obtain⟨y,hy⟩:∃u,m.t[i]? =some u:=⟨_,List.getElem?_eq_getElem (by omega)⟩
         have F7:=may.pt y (List.mem_of_getElem? hy)
         have hC:(B2++(m.t.take i).flatMap kw).length≤1200:=by
          simp only[List.length_append,Jm,List.length_take]; omega
         have hst:B2++(m.t.take (i+1)).flatMap kw=(B2++(m.t.take i).flatMap kw)++kw y:=by rw[bW hy]; simp
         generalize B2++(m.t.take i).flatMap kw=C at hC hst ⊢
         refine sh ?_
         refine au.one 100 ?_
         refine sh ?_
         refine ah (by decide) ?_
         refine sh ?_
         refine ab hy ?_
         refine sh ?_
         refine au.one 100 ?_
         refine sh ?_
         refine ah (by decide) ?_
         refine sh ?_
         refine ab hy ?_
         refine sh ?_
         refine au.one 100 ?_
         refine sh ?_
         refine ah (by decide) ?_
         refine sh ?_
         refine ab hy ?_
         refine sh ?_
         refine au.one 100 ?_
         refine sh ?_
         refine aq (by decide) ?_
         refine sh ?_
         refine nX (i+1) ?_ ?_ ⟨_,hp,rfl⟩ ?_ ?_
         ·omega
         ·omega
         ·all_goals repeat' (first|exact True.intro|refine And.intro ?_ ?_|(intro _u; clear _u)|(with_reducible first|exact ai.fg|refine eM ?_ ?_|refine eF ?_ ?_ ?_|refine eN ?_|refine eL ?_ ?_ ?_|refine eA ?_ ?_|refine aj.mk ⟨_,hp,rfl⟩ ?_ ?_)|refine aj.mk ⟨_,hp,rfl⟩ ?_ ?_)
          all_goals try first|with_reducible rfl|omega|exact .inl (by decide)|(simp; done)|rfl
          rw[hst]; simp[kw]
         ·all_goals repeat' (first|exact True.intro|refine And.intro ?_ ?_|(intro _u; clear _u)|(with_reducible first|exact ai.fg|refine eM ?_ ?_|refine eF ?_ ?_ ?_|refine eN ?_|refine eL ?_ ?_ ?_|refine eA ?_ ?_|refine aj.mk ⟨_,hp,rfl⟩ ?_ ?_)|refine aj.mk ⟨_,hp,rfl⟩ ?_ ?_)
          all_goals try first|with_reducible rfl|omega|exact .inl (by decide)|(simp; done)|rfl
          rw[hst]
          have g1:((u8 y.a).toNat:Int)=y.a:=u8_in (by omega)
          have g2:((u8 y.b).toNat:Int)=y.b:=u8_in (by omega)
          have g3:((u8 y.c).toNat:Int)=y.c:=u8_in (by omega)
          simp[kw,bn,g1,g2,g3]
        ·rw[show m.t.take i=m.t from List.take_of_length_le (by omega)]
         refine sh ?_
         exact rT
end Go.UM
namespace Go.UM
open Go.AM
set_option maxRecDepth 4000
structure my where
 k:Int
 c:T3
 r:Int
def my.row (m:my):List AV:=[.int .i64 m.k,.int .i64 m.c.a,.int .i64 m.c.b,.int .i64 m.c.c,.int .i64 m.r]
structure mz where
 k:Int
 c:T3
 p:T3
 u:T3
 v:T3
def mz.row (l:mz):List AV:=[.int .i64 l.k,.int .i64 l.c.a,.int .i64 l.c.b,.int .i64 l.c.c,.int .i64 l.p.a,.int .i64 l.p.b,.int .i64 l.p.c,.int .i64 l.u.a,.int .i64 l.u.b,.int .i64 l.u.c,.int .i64 l.v.a,.int .i64 l.v.b,.int .i64 l.v.c]
def outs (n x:Int):Bool:=decide (x<0∨n<x)
def iC (m:my):Int:=if m.k<0∨4<m.k∨m.r<0∨65535<m.r∨m.c.a<0∨65535<m.c.a∨m.c.b<0∨65535<m.c.b∨m.c.c<0∨65535<m.c.c then 5 else 0
def rZ (R:Env) (n:Int):af:=[(0,.var (R.ty 10) [.int .i64 n])]
theorem MK {R:Env} (h:Lf R) (n x:Int):R.Mc 322 [.int .i64 x,.loc 0 1 0 0] (rZ R n) (.bool (outs n x)) (rZ R n) 1:=
 h.Wn.aV 60 1 rfl rfl rfl fun X bb hfit hp=>by
  unfold outs
  refine sh ?_
  refine cS (fun h1=> ?_) (fun h1=> ?_)
  ·refine sh ?_
   refine rM [0] ?_
   all_goals repeat' (first|exact True.intro|refine And.intro ?_ ?_|(intro _u; clear _u)|(with_reducible first|exact ai.fg|refine eM ?_ ?_|refine eF ?_ ?_ ?_|refine eN ?_|refine eL ?_ ?_ ?_|refine eA ?_ ?_|refine aj.mk ⟨_,hp,rfl⟩ ?_ ?_)|refine aj.mk ⟨_,hp,rfl⟩ ?_ ?_)
   all_goals try first|with_reducible rfl|omega|exact .inl (by decide)|(simp; done)|rfl
   simp; omega
  ·refine sh ?_
   refine rM [0] ?_
   all_goals repeat' (first|exact True.intro|refine And.intro ?_ ?_|(intro _u; clear _u)|(with_reducible first|exact ai.fg|refine eM ?_ ?_|refine eF ?_ ?_ ?_|refine eN ?_|refine eL ?_ ?_ ?_|refine eA ?_ ?_|refine aj.mk ⟨_,hp,rfl⟩ ?_ ?_)|refine aj.mk ⟨_,hp,rfl⟩ ?_ ?_)
   all_goals try first|with_reducible rfl|omega|exact .inl (by decide)|(simp; done)|rfl
   rw[Bool.eq_iff_iff]; simp only[decide_eq_true_eq]; omega
theorem Fc {R:Env} (h:KA R) (g:Nat) (l:List Int) (p:Int→Bool) (n:Int) (hc:∀x ∈ l,R.Mc g [.int .i64 x,.loc 0 1 0 0] (rZ R n) (.bool (p x)) (rZ R n) 1) (hl:l.length≤1073741824):
  R.Mc 324 [.aH 1 (bI .i64 l),R.cl g [.loc 0 1 0 0]] (rZ R n) (.int .i64 (nH l p)) (rZ R n) 1:=
 h.Wa.aV 100 1 rfl rfl rfl fun X bb hfit hp=>by
  refine sh ?_
  refine gk 100 (fun i:Nat=>i≤l.length∧(l.take i).any p=false) (fun i=>⟨[(0,.aH 1 (bI .i64 l)),(1,R.cl g [.loc 0 1 0 0]),(7,.int .i64 l.length),(8,.int .i64 i)],rZ R n,1⟩) (fun i=>l.length - i) (0) ?_ ?_
  ·exact⟨Nat.zero_le _,by simp⟩
  ·intro i hi
   dsimp only
   refine sh ?_
   refine cS (fun h1=> ?_) (fun h1=> ?_)
   ·obtain⟨x,hx⟩:∃u_,l[i]? =some u_:=⟨_,List.getElem?_eq_getElem (by first|omega|(simp<;>omega))⟩
    refine sh ?_
    refine ab hx ?_
    refine sh ?_
    refine cM false [0] (hc x (List.mem_of_getElem? hx)) ?_
    repeat (intro _; first|refine eK ?_|refine eP ?_)
    refine sh ?_
    refine cS (fun h2=> ?_) (fun h2=> ?_)
    ·refine sh ?_
     refine rM [0] ?_
     all_goals repeat' (first|exact True.intro|refine And.intro ?_ ?_|(intro _u; clear _u)|(with_reducible first|exact ai.fg|refine eM ?_ ?_|refine eF ?_ ?_ ?_|refine eN ?_|refine eL ?_ ?_ ?_|refine eA ?_ ?_|refine aj.mk ⟨_,hp,rfl⟩ ?_ ?_)|refine aj.mk ⟨_,hp,rfl⟩ ?_ ?_)
     all_goals try first|with_reducible rfl|omega|exact .inl (by decide)|(simp; done)|rfl
     unfold nH
     rw[if_pos (dC hx h2),nI hx h2 hi.2]
    ·refine sh ?_
     refine kq (i+1) ?_ ?_
     ·refine⟨by omega,?_⟩
      rw[cI hx,hi.2,h2]; rfl
     ·omega
   ·refine sh ?_
    refine rM [0] ?_
    all_goals repeat' (first|exact True.intro|refine And.intro ?_ ?_|(intro _u; clear _u)|(with_reducible first|exact ai.fg|refine eM ?_ ?_|refine eF ?_ ?_ ?_|refine eN ?_|refine eL ?_ ?_ ?_|refine eA ?_ ?_|refine aj.mk ⟨_,hp,rfl⟩ ?_ ?_)|refine aj.mk ⟨_,hp,rfl⟩ ?_ ?_)
    all_goals try first|with_reducible rfl|omega|exact .inl (by decide)|(simp; done)|rfl
    unfold nH
    have h3:=hi.2
    rw[List.take_of_length_le (by omega)]at h3
    rw[if_neg (by simp[h3])]
theorem Ce {R:Env} (h:KB R) (g:Nat) (l:List Int) (p:Int→Bool) (n:Int) (hc:∀x ∈ l,R.Mc g [.int .i64 x,.loc 0 1 0 0] (rZ R n) (.bool (p x)) (rZ R n) 1) (hl:l.length≤1073741824):
  R.Mc 323 [.aH 1 (bI .i64 l),R.cl g [.loc 0 1 0 0]] (rZ R n) (.bool (l.any p)) (rZ R n) 1:=
 h.Wb.aV 100 1 rfl rfl rfl fun X bb hfit hp=>by
  refine sh ?_
  refine cM false [0] (Fc h.n324 g l p n hc hl) ?_
  repeat (intro _; first|refine eK ?_|refine eP ?_)
  refine sh ?_
  refine rM [0] ?_
  all_goals repeat' (first|exact True.intro|refine And.intro ?_ ?_|(intro _u; clear _u)|(with_reducible first|exact ai.fg|refine eM ?_ ?_|refine eF ?_ ?_ ?_|refine eN ?_|refine eL ?_ ?_ ?_|refine eA ?_ ?_|refine aj.mk ⟨_,hp,rfl⟩ ?_ ?_)|refine aj.mk ⟨_,hp,rfl⟩ ?_ ?_)
  all_goals try first|with_reducible rfl|omega|exact .inl (by decide)|(simp; done)|rfl
  exact qc
theorem lw {R:Env} (h:Hl R) (n:Int) (l:List Int) (hl:l.length≤1073741824):R.Pc 307 [.int .i64 n,.aH 1 (bI .i64 l)] (.bool (l.any (outs n))):=
 h.Ew.enter 100 rfl fun X bb hfit hp=>by
  refine sh ?_
  refine cM false [0] (Ce h.n323 322 l (outs n) n (fun x _=>MK h.n322 n x) hl) ?_
  repeat (intro _; first|refine eK ?_|refine eP ?_)
  refine sh ?_
  exact rT
theorem ML {R:Env} (h:Lg R) (m:my):R.Pc 290 [.agg m.row] (.int .i64 (iC m)):=
 h.QE.enter 100 rfl fun X bb hfit hp=>by
  generalize hq:iC m=q
  refine sh ?_
  refine cM true [] ((lw h.n307 4 [m.k] (by simp)).mc h.n307.Ew.hb) ?_
  repeat (intro _; first|refine eK ?_|refine eP ?_)
  refine sh ?_
  refine cS (fun h1=> ?_) (fun h1=> ?_)
  ·simp[outs]at h1
   rw[iC,if_pos (by omega)]at hq
   subst hq
   refine sh ?_
   exact rT
  ·refine sh ?_
   refine cM true [] ((lw h.n307 65535 [m.c.a,m.c.b,m.c.c,m.r] (by simp)).mc h.n307.Ew.hb) ?_
   repeat (intro _; first|refine eK ?_|refine eP ?_)
   refine sh ?_
   refine cS (fun h2=> ?_) (fun h2=> ?_)
   ·simp[outs]at h2
    rw[iC,if_pos (by omega)]at hq
    subst hq
    refine sh ?_
    exact rT
   ·simp[outs]at h1 h2
    rw[iC,if_neg (by omega)]at hq
    subst hq
    refine sh ?_
    exact rT
def MM (p:T3):Bool:=p.a==0&&(p.b==0&&p.c==0)
def jA (l:mz):Int:=if l.k<0∨2<l.k∨l.c.a<0∨1048576<l.c.a∨l.c.b<0∨1048576<l.c.b∨l.c.c<0∨1048576<l.c.c then 5
 else if j3 l.p=true∨j3 l.u=true∨j3 l.v=true then 8
 else if l.k=2∧MM l.p=false∨l.k≠1∧(MM l.u=false∨MM l.v=false)then 5 else 0
theorem r4 {R:Env} (h:Lh R) (p:T3):R.Pc 308 [.agg (t3 p)] (.bool (j3 p)):=
 h.Hm.enter 60 rfl fun X bb hfit hp=>by
  unfold j3
  refine sh ?_
  refine cS (fun h1=> ?_) (fun h1=> ?_)
  ·refine sh ?_
   refine rT ?_
   all_goals repeat' (first|exact True.intro|refine And.intro ?_ ?_|(intro _u; clear _u)|(with_reducible first|exact ai.fg|refine eM ?_ ?_|refine eF ?_ ?_ ?_|refine eN ?_|refine eL ?_ ?_ ?_|refine eA ?_ ?_|refine aj.mk ⟨_,hp,rfl⟩ ?_ ?_)|refine aj.mk ⟨_,hp,rfl⟩ ?_ ?_)
   all_goals try first|with_reducible rfl|omega|exact .inl (by decide)|(simp; done)|rfl
   simp; omega
  ·refine sh ?_
   refine rT ?_
   all_goals repeat' (first|exact True.intro|refine And.intro ?_ ?_|(intro _u; clear _u)|(with_reducible first|exact ai.fg|refine eM ?_ ?_|refine eF ?_ ?_ ?_|refine eN ?_|refine eL ?_ ?_ ?_|refine eA ?_ ?_|refine aj.mk ⟨_,hp,rfl⟩ ?_ ?_)|refine aj.mk ⟨_,hp,rfl⟩ ?_ ?_)
   all_goals try first|with_reducible rfl|omega|exact .inl (by decide)|(simp; done)|rfl
   rw[Bool.eq_iff_iff]; simp only[Bool.not_eq_true',decide_eq_true_eq,decide_eq_false_iff_not]; omega
theorem MN {R:Env} (h:Li R) (l:mz):R.Pc 292 [.agg l.row] (.int .i64 (jA l)):=
 h.QH.enter 100 rfl fun X bb hfit hp=>by
  generalize hq:jA l=q
  refine sh ?_
  refine ae.let [0] rfl hp rfl ?_
  repeat ((intro _u; clear _u); first|refine eZ ?_|refine eZ ?_ (by simp; omega)|refine Ke.drop ?_)
  refine sh ?_
  refine cM true [] ((lw h.n307 2 [l.k] (by simp)).mc h.n307.Ew.hb) ?_
  repeat (intro _; first|refine eK ?_|refine eP ?_)
  refine sh ?_
  refine cS (fun h1=> ?_) (fun h1=> ?_)
  ·simp[outs]at h1
   rw[jA,if_pos (by omega)]at hq
   subst hq
   refine sh ?_
   exact rT
  ·refine sh ?_
   refine ae.pure h.n307.Ew.hb (lw h.n307 1048576 [l.c.a,l.c.b,l.c.c] (by simp)) rfl ?_
   refine sh ?_
   refine cS (fun h2=> ?_) (fun h2=> ?_)
   ·simp[outs]at h2
    rw[jA,if_pos (by omega)]at hq
    subst hq
    refine sh ?_
    exact rT
   ·simp[outs]at h1 h2
    rw[jA,if_neg (by omega)]at hq
    refine sh ?_
    refine ae.pure h.n308.Hm.hb (r4 h.n308 l.p) rfl ?_
    refine sh ?_
    refine cS (fun h3=> ?_) (fun h3=> ?_)
    ·rw[if_pos (.inl h3)]at hq
     subst hq
     refine sh ?_
     exact rT
    ·refine sh ?_
     refine ae.pure h.n308.Hm.hb (r4 h.n308 l.u) rfl ?_
     refine sh ?_
     refine cS (fun h4=> ?_) (fun h4=> ?_)
     ·rw[if_pos (.inr (.inl h4))]at hq
      subst hq
      refine sh ?_
      exact rT
     ·refine sh ?_
      refine ae.pure h.n308.Hm.hb (r4 h.n308 l.v) rfl ?_
      refine sh ?_
      refine cS (fun h5=> ?_) (fun h5=> ?_)
      ·rw[if_pos (.inr (.inr h5))]at hq
       subst hq
       refine sh ?_
       exact rT
      ·rw[if_neg (by simp[h3,h4,h5])]at hq
       refine sh ?_
       refine cS (fun h6=> ?_) (fun h6=> ?_)
       ·refine sh ?_
        refine cS (fun h7=> ?_) (fun h7=> ?_)
        ·rw[if_pos (.inl ⟨h6,h7⟩)]at hq
         subst hq
         refine sh ?_
         exact rT
        ·refine sh ?_
         refine cS (fun h8=> ?_) (fun h8=> ?_)
         ·rw[if_pos (.inr ⟨by omega,.inl h8⟩)]at hq
          subst hq
          refine sh ?_
          exact rT
         ·refine sh ?_
          refine cS (fun h9=> ?_) (fun h9=> ?_)
          ·rw[if_pos (.inr ⟨by omega,.inr h9⟩)]at hq
           subst hq
           refine sh ?_
           exact rT
          ·rw[if_neg (by simp[MM,h7,h8,h9])]at hq
           subst hq
           refine sh ?_
           exact rT
       ·refine sh ?_
        refine cS (fun h7=> ?_) (fun h7=> ?_)
        ·refine sh ?_
         refine cS (fun h8=> ?_) (fun h8=> ?_)
         ·rw[if_pos (.inr ⟨by omega,.inl h8⟩)]at hq
          subst hq
          refine sh ?_
          exact rT
         ·refine sh ?_
          refine cS (fun h9=> ?_) (fun h9=> ?_)
          ·rw[if_pos (.inr ⟨by omega,.inr h9⟩)]at hq
           subst hq
           refine sh ?_
           exact rT
          ·rw[if_neg (by simp[MM,h6,h8,h9])]at hq
           subst hq
           refine sh ?_
           exact rT
        ·have h10:l.k=1:=by omega
         rw[if_neg (by simp[h10])]at hq
         subst hq
         refine sh ?_
         exact rT
theorem Ia {R:Env} (h:LZ R) (m:my):R.Pc 291 [.agg m.row] (.int .i64 (iC m)):=
 h.R7.enter 100 rfl fun X bb hfit hp=>by
  generalize hq:iC m=q
  refine sh ?_
  refine cS (fun h1=> ?_) (fun h1=> ?_)
  ·rw[iC,if_pos (by omega)]at hq
   subst hq
   refine sh ?_
   exact rT
  ·refine sh ?_
   refine cS (fun h2=> ?_) (fun h2=> ?_)
   ·rw[iC,if_pos (by omega)]at hq
    subst hq
    refine sh ?_
    exact rT
   ·refine sh ?_
    refine cS (fun h3=> ?_) (fun h3=> ?_)
    ·rw[iC,if_pos (by omega)]at hq
     subst hq
     refine sh ?_
     exact rT
    ·refine sh ?_
     refine cS (fun h4=> ?_) (fun h4=> ?_)
     ·rw[iC,if_pos (by omega)]at hq
      subst hq
      refine sh ?_
      exact rT
     ·refine sh ?_
      refine au.one 100 ?_
      refine sh ?_
      refine ah (by decide) ?_
      refine sh ?_
      refine cS (fun a1=> ?_) (fun a1=> ?_)
      ·rw[iC,if_pos (by omega)]at hq
       subst hq
       refine sh ?_
       exact rT
      ·refine sh ?_
       refine cS (fun a2=> ?_) (fun a2=> ?_)
       ·rw[iC,if_pos (by omega)]at hq
        subst hq
        refine sh ?_
        exact rT
       ·refine sh ?_
        refine au.one 100 ?_
        refine sh ?_
        refine ah (by decide) ?_
        refine sh ?_
        refine cS (fun b1=> ?_) (fun b1=> ?_)
        ·rw[iC,if_pos (by omega)]at hq
         subst hq
         refine sh ?_
         exact rT
        ·refine sh ?_
         refine cS (fun b2=> ?_) (fun b2=> ?_)
         ·rw[iC,if_pos (by omega)]at hq
          subst hq
          refine sh ?_
          exact rT
         ·refine sh ?_
          refine au.one 100 ?_
          refine sh ?_
          refine ah (by decide) ?_
          refine sh ?_
          refine cS (fun c1=> ?_) (fun c1=> ?_)
          ·rw[iC,if_pos (by omega)]at hq
           subst hq
           refine sh ?_
           exact rT
          ·refine sh ?_
           refine cS (fun c2=> ?_) (fun c2=> ?_)
           ·rw[iC,if_pos (by omega)]at hq
            subst hq
            refine sh ?_
            exact rT
           ·refine sh ?_
            refine au.one 100 ?_
            refine sh ?_
            refine aq (by decide) ?_
            rw[iC,if_neg (by omega)]at hq
            subst hq
            refine sh ?_
            exact rT
theorem Ib {R:Env} (h:L3 R) (l:mz):R.Pc 293 [.agg l.row] (.int .i64 (jA l)):=
 h.R9.enter 100 rfl fun X bb hfit hp=>by
  generalize hq:jA l=q
  refine sh ?_
  refine cS (fun h1=> ?_) (fun h1=> ?_)
  ·rw[jA,if_pos (by omega)]at hq
   subst hq
   refine sh ?_
   exact rT
  ·refine sh ?_
   refine cS (fun h2=> ?_) (fun h2=> ?_)
   ·rw[jA,if_pos (by omega)]at hq
    subst hq
    refine sh ?_
    exact rT
   ·refine sh ?_
    refine au.one 100 ?_
    refine sh ?_
    refine ah (by decide) ?_
    refine sh ?_
    refine cS (fun a1=> ?_) (fun a1=> ?_)
    ·rw[jA,if_pos (by omega)]at hq
     subst hq
     refine sh ?_
     exact rT
    ·refine sh ?_
     refine cS (fun a2=> ?_) (fun a2=> ?_)
     ·rw[jA,if_pos (by omega)]at hq
      subst hq
      refine sh ?_
      exact rT
     ·refine sh ?_
      refine au.one 100 ?_
      refine sh ?_
      refine ah (by decide) ?_
      refine sh ?_
      refine cS (fun b1=> ?_) (fun b1=> ?_)
      ·rw[jA,if_pos (by omega)]at hq
       subst hq
       refine sh ?_
       exact rT
      ·refine sh ?_
       refine cS (fun b2=> ?_) (fun b2=> ?_)
       ·rw[jA,if_pos (by omega)]at hq
        subst hq
        refine sh ?_
        exact rT
       ·refine sh ?_
        refine au.one 100 ?_
        refine sh ?_
        refine ah (by decide) ?_
        refine sh ?_
        refine cS (fun c1=> ?_) (fun c1=> ?_)
        ·rw[jA,if_pos (by omega)]at hq
         subst hq
         refine sh ?_
         exact rT
        ·refine sh ?_
         refine cS (fun c2=> ?_) (fun c2=> ?_)
         ·rw[jA,if_pos (by omega)]at hq
          subst hq
          refine sh ?_
          exact rT
         ·refine sh ?_
          refine au.one 100 ?_
          refine sh ?_
          refine aq (by decide) ?_
          rw[jA,if_neg (by omega)]at hq
          refine sh ?_
          refine ae.pure h.n213.EC.hb (vz h.n213 l.p) rfl ?_
          refine sh ?_
          refine cS (fun h3=> ?_) (fun h3=> ?_)
          ·rw[if_pos (.inl h3)]at hq
           subst hq
           refine sh ?_
           exact rT
          ·refine sh ?_
           refine ae.pure h.n213.EC.hb (vz h.n213 l.u) rfl ?_
           refine sh ?_
           refine cS (fun h4=> ?_) (fun h4=> ?_)
           ·rw[if_pos (.inr (.inl h4))]at hq
            subst hq
            refine sh ?_
            exact rT
           ·refine sh ?_
            refine ae.pure h.n213.EC.hb (vz h.n213 l.v) rfl ?_
            refine sh ?_
            refine cS (fun h5=> ?_) (fun h5=> ?_)
            ·rw[if_pos (.inr (.inr h5))]at hq
             subst hq
             refine sh ?_
             exact rT
            ·rw[if_neg (by simp[h3,h4,h5])]at hq
             refine sh ?_
             refine cS (fun h6=> ?_) (fun h6=> ?_)
             ·refine sh ?_
              refine cS (fun h7=> ?_) (fun h7=> ?_)
              ·rw[if_pos (.inl ⟨h6,h7⟩)]at hq
               subst hq
               refine sh ?_
               exact rT
              ·refine sh ?_
               refine ah (by (simp[h6])) ?_
               refine sh ?_
               refine cS (fun h8=> ?_) (fun h8=> ?_)
               ·rw[if_pos (.inr ⟨by omega,.inl h8⟩)]at hq
                subst hq
                refine sh ?_
                exact rT
               ·refine sh ?_
                refine cS (fun h9=> ?_) (fun h9=> ?_)
                ·rw[if_pos (.inr ⟨by omega,.inr h9⟩)]at hq
                 subst hq
                 refine sh ?_
                 exact rT
                ·rw[if_neg (by simp[MM,h7,h8,h9])]at hq
                 subst hq
                 refine sh ?_
                 exact rT
             ·refine sh ?_
              refine cS (fun h7=> ?_) (fun h7=> ?_)
              refine sh ?_
              refine cS (fun h8=> ?_) (fun h8=> ?_)
              ·rw[if_pos (.inr ⟨by omega,.inl h8⟩)]at hq
               subst hq
               refine sh ?_
               exact rT
              ·refine sh ?_
               refine cS (fun h9=> ?_) (fun h9=> ?_)
               ·rw[if_pos (.inr ⟨by omega,.inr h9⟩)]at hq
                subst hq
                refine sh ?_
                exact rT
               ·rw[if_neg (by simp[MM,h6,h8,h9])]at hq
                subst hq
                refine sh ?_
                exact rT
              ·have h10:l.k=1:=by omega
               rw[if_neg (by simp[h10])]at hq
               subst hq
               refine sh ?_
               exact rT
end Go.UM
namespace Go.UM
open Go.AM
set_option maxRecDepth 4000
def idx (l:List Int) (x:Int):Int:=if x ∈ l then (l.idxOf x:Int)else -1
theorem xv {x:Int}:∀ {l:List Int} {i:Nat},l[i]? =some x→x ∉ l.take i→l.idxOf x=i
 |[],_,h,_=>by simp at h
 |a::r,0,h,_=>by simp at h; simp[h]
 |a::r,i+1,h,hn=>by
  simp only[List.take_succ_cons,List.mem_cons,not_or]at hn
  rw[List.idxOf_cons]
  have:(a==x)=false:=by simpa using fun e=>hn.1 e.symm
  rw[this,xv (by simpa using h) hn.2]
  rfl
theorem Ic {R:Env} (h:Kq R) (l:List Int) (x:Int) (hl:l.length≤1073741824):R.Pc 106 [.aH 1 (bI .i64 l),.int .i64 x] (.int .i64 (idx l x)):=
 h.O4.enter 100 rfl fun X bb hfit hp=>by
  refine sh ?_
  refine gk 100 (fun i:Nat=>i≤l.length∧x ∉ l.take i) (fun i=>⟨[(0,.aH 1 (bI .i64 l)),(1,.int .i64 x),(7,.int .i64 l.length),(8,.int .i64 i)],[],0⟩) (fun i=>l.length - i) (0) ?_ ?_
  ·exact⟨Nat.zero_le _,by simp⟩
  ·intro i hi
   dsimp only
   refine sh ?_
   refine cS (fun h1=> ?_) (fun h1=> ?_)
   ·obtain⟨y,hy⟩:∃u_,l[i]? =some u_:=⟨_,List.getElem?_eq_getElem (by first|omega|(simp<;>omega))⟩
    refine sh ?_
    refine ab hy ?_
    refine sh ?_
    refine cS (fun h2=> ?_) (fun h2=> ?_)
    ·subst h2
     refine sh ?_
     refine rT ?_
     all_goals repeat' (first|exact True.intro|refine And.intro ?_ ?_|(intro _u; clear _u)|(with_reducible first|exact ai.fg|refine eM ?_ ?_|refine eF ?_ ?_ ?_|refine eN ?_|refine eL ?_ ?_ ?_|refine eA ?_ ?_|refine aj.mk ⟨_,hp,rfl⟩ ?_ ?_)|refine aj.mk ⟨_,hp,rfl⟩ ?_ ?_)
     all_goals try first|with_reducible rfl|omega|exact .inl (by decide)|(simp; done)|rfl
     unfold idx
     rw[if_pos (List.mem_of_getElem? hy),xv hy hi.2]
    ·refine sh ?_
     refine kq (i+1) ?_ ?_
     ·refine⟨by omega,?_⟩
      rw[az hy]
      simp only[List.mem_append,List.mem_singleton,not_or]
      exact⟨hi.2,h2⟩
     ·omega
   ·refine sh ?_
    refine rT ?_
    all_goals repeat' (first|exact True.intro|refine And.intro ?_ ?_|(intro _u; clear _u)|(with_reducible first|exact ai.fg|refine eM ?_ ?_|refine eF ?_ ?_ ?_|refine eN ?_|refine eL ?_ ?_ ?_|refine eA ?_ ?_|refine aj.mk ⟨_,hp,rfl⟩ ?_ ?_)|refine aj.mk ⟨_,hp,rfl⟩ ?_ ?_)
    all_goals try first|with_reducible rfl|omega|exact .inl (by decide)|(simp; done)|rfl
    unfold idx
    rw[if_neg]
    rw[←List.take_of_length_le (l:=l) (i:=i) (by omega)]
    exact hi.2
theorem zm {R:Env} (h:Kr R) (l:List Int) (x:Int) (hl:l.length≤1073741824):R.Pc 100 [.aH 1 (bI .i64 l),.int .i64 x] (.bool (decide (x ∈ l))):=
 h.O6.enter 100 rfl fun X bb hfit hp=>by
  refine sh ?_
  refine ae.pure h.n106.O4.hb (Ic h.n106 l x hl) rfl ?_
  refine sh ?_
  refine rT ?_
  all_goals repeat' (first|exact True.intro|refine And.intro ?_ ?_|(intro _u; clear _u)|(with_reducible first|exact ai.fg|refine eM ?_ ?_|refine eF ?_ ?_ ?_|refine eN ?_|refine eL ?_ ?_ ?_|refine eA ?_ ?_|refine aj.mk ⟨_,hp,rfl⟩ ?_ ?_)|refine aj.mk ⟨_,hp,rfl⟩ ?_ ?_)
  all_goals try first|with_reducible rfl|omega|exact .inl (by decide)|(simp; done)|rfl
  unfold idx
  by_cases hx:x ∈ l
  ·rw[if_pos hx]; simp[hx]
  ·rw[if_neg hx]; simp[hx]
end Go.UM
namespace Go.UM
open Go.AM
set_option maxRecDepth 4000
structure nV where
 side:Int
 t:List T3
def nV.row (x:nV):List AV:=[.int .i64 x.side,.aH 3 (bD x.t)]
def T3.jd (x:T3):Bool:=decide (0≤x.a)&&decide (0≤x.b)&&decide (0≤x.c)&&decide (x.a≤255)&&decide (x.b≤255)&&decide (x.c≤255)
theorem T3.fF (x:T3):x.jd=true↔(0≤x.a∧x.a≤255)∧(0≤x.b∧x.b≤255)∧0≤x.c∧x.c≤255:=by
 simp only[T3.jd,Bool.and_eq_true,decide_eq_true_eq]
 omega
def jB:List Int:=[1,2,4,8,16]
def eX (x:nV):Int:=if x.side ∉ jB∨(x.t.length:Int)≠x.side*x.side then 5 else if x.t.all T3.jd=true then 0 else 5
theorem nL {x:nV} (h:x.side ∈ jB):x.side=1∨x.side=2∨x.side=4∨x.side=8∨x.side=16:=by
 simpa[jB]using h
theorem aQ {x:nV} {y:T3} (hy:y ∈ x.t) (h:y.jd=false):eX x=5:=by
 unfold eX
 split
 ·rfl
 ·rw[if_neg]
  intro ha
  rw[List.all_eq_true.1 ha y hy]at h
  exact Bool.noConfusion h
theorem dx {α:Type} {n:List α} {k:Nat} {x:α} {p:α→Bool} (h:n[k]? =some x):(n.take (k+1)).all p=((n.take k).all p&&p x):=by
 rw[az h]; simp
theorem Fe {R:Env} (h:Um R) (x:nV) (hl:x.t.length≤1073741824):R.Pc 84 [.agg x.row] (.int .i64 (eX x)):=
 h.Wl.enter 100 rfl fun X bb hfit hp=>by
  refine sh ?_
  refine cM true [] ((zm h.n100 jB x.side (by decide)).mc h.n100.O6.hb) ?_
  repeat (intro _; first|refine eK ?_|refine eP ?_)
  generalize hq:eX x=q
  refine sh ?_
  refine cS (fun h1=> ?_) (fun h1=> ?_)
  ·rw[eX,if_pos (.inl h1)]at hq
   subst hq
   refine sh ?_
   exact rT
  ·have h2:=nL h1
   have hsq:x.side*x.side≤256∧0≤x.side*x.side:=by
    rcases h2 with h|h|h|h|h<;>rw[h]<;>decide
   refine sh ?_
   refine cS (fun h3=> ?_) (fun h3=> ?_)
   ·rw[eX,if_pos (.inr h3)]at hq
    subst hq
    refine sh ?_
    exact rT
   ·have hz:¬ (x.side ∉ jB∨(x.t.length:Int)≠x.side*x.side):=by simp[h1,h3]
    refine sh ?_
    refine gk 100 (fun i:Nat=>i≤x.t.length∧(x.t.take i).all T3.jd=true) (fun i=>⟨[(22,.aH 3 (bD x.t)),(23,.int .i64 x.t.length),(24,.int .i64 i)],[],10⟩) (fun i=>x.t.length - i) (0) ?_ ?_
    ·exact⟨Nat.zero_le _,rfl⟩
    ·intro i hi
     dsimp only
     refine sh ?_
     refine cS (fun h4=> ?_) (fun h4=> ?_)
     ·obtain⟨y,hy⟩:∃u_,x.t[i]? =some u_:=⟨_,List.getElem?_eq_getElem (by first|omega|(simp<;>omega))⟩
      refine sh ?_
      refine ab hy ?_
      have Cf:=T3.fF y
      refine sh ?_
      refine cS (fun h5=> ?_) (fun h5=> ?_)
      ·have hb:y.jd=false:=by rw[Bool.eq_false_iff,ne_eq,Cf]; omega
       rw[aQ (List.mem_of_getElem? hy) hb]at hq
       subst hq
       refine sh ?_
       exact rT
      ·refine sh ?_
       refine cS (fun h6=> ?_) (fun h6=> ?_)
       ·have hb:y.jd=false:=by rw[Bool.eq_false_iff,ne_eq,Cf]; omega
        rw[aQ (List.mem_of_getElem? hy) hb]at hq
        subst hq
        refine sh ?_
        exact rT
       ·refine sh ?_
        refine kq (i+1) ?_ ?_
        ·refine⟨by omega,?_⟩
         rw[dx hy,hi.2,Bool.true_and,Cf]
         omega
        ·omega
     ·rw[eX,if_neg hz,if_pos]at hq
      ·subst hq
       refine sh ?_
       exact rT
      ·have:=hi.2
       rwa[List.take_of_length_le (by omega)]at this
end Go.UM
namespace Go.UM
open Go.AM
set_option maxRecDepth 4000
structure xw (t:nV):Prop where
 s:t.side ∈ jB
 l:(t.t.length:Int)=t.side*t.side
 g:t.t.all T3.jd=true
theorem Aw {t:nV} (h:eX t=0):xw t:=by
 unfold eX at h
 split at h
 ·exact absurd h (by decide)
 ·rename_i h1
  split at h
  ·rename_i h2
   simp only[not_or,Decidable.not_not]at h1
   exact⟨h1.1,h1.2,h2⟩
  ·exact absurd h (by decide)
theorem xw.iy {t:nV} (h:xw t):eX t=0:=by
 unfold eX
 rw[if_neg (by simp[h.s,h.l]),if_pos h.g]
def nV.ix (t:nV) (x y:Int):Nat:=(y % t.side*t.side+x % t.side).toNat
def nV.at (t:nV) (x y:Int):T3:=t.t.getD (t.ix x y) ⟨0,0,0⟩
theorem xw.ix {t:nV} (h:xw t) (x y:Int):0≤y % t.side∧y % t.side<t.side∧0≤x % t.side∧x % t.side<t.side∧t.side≤16∧1≤t.side∧0≤y % t.side*t.side∧y % t.side*t.side+x % t.side<t.side*t.side∧t.side*t.side≤256:=by
 have hs:=nL h.s
 have h1:1≤t.side∧t.side≤16:=by omega
 have h2:=Int.emod_nonneg y (show t.side≠0 by omega)
 have h3:=Int.emod_lt_of_pos y (show 0<t.side by omega)
 have h4:=Int.emod_nonneg x (show t.side≠0 by omega)
 have h5:=Int.emod_lt_of_pos x (show 0<t.side by omega)
 have h6:y % t.side*t.side≤(t.side - 1)*t.side:=Int.mul_le_mul_of_nonneg_right (by omega) (by omega)
 have h7:0≤y % t.side*t.side:=Int.mul_nonneg h2 (by omega)
 have h8:t.side*t.side≤16*16:=Int.mul_le_mul h1.2 h1.2 (by omega) (by decide)
 rw[Int.sub_mul]at h6
 exact⟨h2,h3,h4,h5,h1.2,h1.1,h7,by omega,by omega⟩
def avg (a b c d:T3):T3:=⟨(a.a+b.a+c.a+d.a+2) / 4,(a.b+b.b+c.b+d.b+2) / 4,(a.c+b.c+c.c+d.c+2) / 4⟩
def nV.next (t:nV) (s i:Int):T3:=avg (t.at (2* (i % s)) (2* (i / s))) (t.at (2* (i % s)+1) (2* (i / s))) (t.at (2* (i % s)) (2* (i / s)+1)) (t.at (2* (i % s)+1) (2* (i / s)+1))
def pX (l:List T3):List UInt8:=l.flatMap fun x=>[u8 x.a,u8 x.b,u8 x.c]
def kW (t:nV):List UInt8 × Int:=if eX t≠0 then ([],eX t)else (u8 t.side::pX t.t,0)
theorem r5:∀l:List T3,(pX l).length=3*l.length
 |[]=>rfl
 |x::r=>by
  have:=r5 r
  simp only[pX,List.flatMap_cons,List.length_append,List.length_cons,List.length_nil]at this ⊢
  omega
theorem lx {l:List T3} {k:Nat} {x:T3} (h:l[k]? =some x):pX (l.take (k+1))=pX (l.take k)++ [u8 x.a,u8 x.b,u8 x.c]:=by
 rw[az h]; simp[pX]
theorem Cg {R:Env} (h:Wm R) (t:nV) (hl:t.t.length≤1073741824):R.Pc 82 [.agg t.row] (.aO [.aH 1 (bn (kW t).1),.int .i64 (kW t).2]):=
 h.o82.enter 200 rfl fun X bb hfit hp=>by
  refine sh ?_
  refine ae.pure h.Jc.Wl.hb (Fe h.Jc t hl) rfl ?_
  generalize hq:kW t=q
  refine sh ?_
  refine cS (fun h1=> ?_) (fun h1=> ?_)
  ·rw[kW,if_pos h1]at hq
   subst hq
   refine sh ?_
   exact rT
  ·have ok:=Aw h1
   rw[kW,if_neg (by simpa using h1)]at hq
   subst hq
   have hs:=nL ok.s
   have Gd:t.t.length≤256:=by
    have:=ok.l
    rcases hs with h|h|h|h|h<;>rw[h]at this<;>omega
   refine sh ?_
   refine au.inv 200 (fun i:Nat=>i≤t.t.length) (fun i=>⟨[(5,.ba 1 (u8 t.side::pX (t.t.take i)).length),(18,.aH 3 (bD t.t)),(19,.int .i64 t.t.length),(20,.int .i64 i)],[(1,.arr (R.ty 4) 1 (bn (u8 t.side::pX (t.t.take i))))],2⟩) (fun i=>t.t.length - i) (0) ?_ ⟨⟨_,hp,rfl⟩,?_,?_⟩ ?_
   ·exact Nat.zero_le _
   ·all_goals repeat' (first|exact True.intro|refine And.intro ?_ ?_|(intro _u; clear _u)|(with_reducible first|exact ai.fg|refine eM ?_ ?_|refine eF ?_ ?_ ?_|refine eN ?_|refine eL ?_ ?_ ?_|refine eA ?_ ?_|refine aj.mk ⟨_,hp,rfl⟩ ?_ ?_)|refine aj.mk ⟨_,hp,rfl⟩ ?_ ?_)
    all_goals try first|with_reducible rfl|omega|exact .inl (by decide)|(simp; done)|rfl
   ·all_goals repeat' (first|exact True.intro|refine And.intro ?_ ?_|(intro _u; clear _u)|(with_reducible first|exact ai.fg|refine eM ?_ ?_|refine eF ?_ ?_ ?_|refine eN ?_|refine eL ?_ ?_ ?_|refine eA ?_ ?_|refine aj.mk ⟨_,hp,rfl⟩ ?_ ?_)|refine aj.mk ⟨_,hp,rfl⟩ ?_ ?_)
    all_goals try first|with_reducible rfl|omega|exact .inl (by decide)|(simp; done)|rfl
    simp[bn,pX,u8_in (n:=t.side) (by omega)]
   ·intro i hi
    dsimp only
    refine sh ?_
    refine cS (fun h2=> ?_) (fun h2=> ?_)
    ·obtain⟨y,hy⟩:∃u_,t.t[i]? =some u_:=⟨_,List.getElem?_eq_getElem (by first|omega|(simp<;>omega))⟩
     refine sh ?_
     refine ab hy ?_
     refine sh ?_
     refine bj ?_
     refine sh ?_
     refine bj ?_
     refine sh ?_
     refine bj ?_
     refine sh ?_
     refine nD ?_ (by have:=r5 (t.t.take i); simp only[List.length_take]at this; simp; omega)
     refine sh ?_
     refine nX (i+1) ?_ ?_ ⟨_,hp,rfl⟩ ?_ ?_
     ·omega
     ·omega
     ·all_goals repeat' (first|exact True.intro|refine And.intro ?_ ?_|(intro _u; clear _u)|(with_reducible first|exact ai.fg|refine eM ?_ ?_|refine eF ?_ ?_ ?_|refine eN ?_|refine eL ?_ ?_ ?_|refine eA ?_ ?_|refine aj.mk ⟨_,hp,rfl⟩ ?_ ?_)|refine aj.mk ⟨_,hp,rfl⟩ ?_ ?_)
      all_goals try first|with_reducible rfl|omega|exact .inl (by decide)|(simp; done)|rfl
      rw[lx hy]; simp
     ·all_goals repeat' (first|exact True.intro|refine And.intro ?_ ?_|(intro _u; clear _u)|(with_reducible first|exact ai.fg|refine eM ?_ ?_|refine eF ?_ ?_ ?_|refine eN ?_|refine eL ?_ ?_ ?_|refine eA ?_ ?_|refine aj.mk ⟨_,hp,rfl⟩ ?_ ?_)|refine aj.mk ⟨_,hp,rfl⟩ ?_ ?_)
      all_goals try first|with_reducible rfl|omega|exact .inl (by decide)|(simp; done)|rfl
      rw[lx hy]; simp[bn,Ai]
    ·rw[List.take_of_length_le (by omega)]
     refine sh ?_
     exact rT
end Go.UM
namespace Go.UM
open Go.AM
set_option maxRecDepth 4000
theorem T3.l5 {y:T3} (h:y.a<0∨255<y.a):y.jd=false:=by rw[Bool.eq_false_iff,ne_eq,T3.fF]; omega
theorem T3.l6 {y:T3} (h:y.b<0∨255<y.b):y.jd=false:=by rw[Bool.eq_false_iff,ne_eq,T3.fF]; omega
theorem T3.l7 {y:T3} (h:y.c<0∨255<y.c):y.jd=false:=by rw[Bool.eq_false_iff,ne_eq,T3.fF]; omega
theorem Ax {R:Env} (h:Uq R) (x:nV) (hl:x.t.length≤1073741824):R.Pc 85 [.agg x.row] (.int .i64 (eX x)):=
 h.Ww.enter 200 rfl fun X bb hfit hp=>by
  generalize hq:eX x=q
  by_cases hin:x.side ∈ jB
  ·have h2:=nL hin
   have hsq:x.side*x.side≤256∧0≤x.side*x.side:=by
    rcases h2 with h|h|h|h|h<;>rw[h]<;>decide
   refine sh ?_
   refine cS (fun h1=> ?_) (fun h1=> ?_)
   ·refine sh ?_
    refine cS (fun h3=> ?_) (fun h3=> ?_)
    ·refine sh ?_
     refine cS (fun h4=> ?_) (fun h4=> ?_)
     ·refine sh ?_
      refine cS (fun h5=> ?_) (fun h5=> ?_)
      ·refine sh ?_
       refine aq (by (simp; omega)) ?_
       refine sh ?_
       refine cS (fun h6=> ?_) (fun h6=> ?_)
       ·rw[eX,if_pos (.inr h6)]at hq
        subst hq
        refine sh ?_
        exact rT
       ·refine sh ?_
        refine gk 200 (fun i:Nat=>i≤x.t.length∧(x.t.take i).all T3.jd=true) (fun i=>⟨[(1,.loc 0 1 0 0),(3,.int .i64 i)],[(0,.var (R.ty 12) x.row)],1⟩) (fun i=>x.t.length - i) (0) ?_ ?_
        ·exact⟨Nat.zero_le _,rfl⟩
        ·intro i hi
         dsimp only
         refine sh ?_
         refine cS (fun h7=> ?_) (fun h7=> ?_)
         ·obtain⟨y,hy⟩:∃u,x.t[i]? =some u:=⟨_,List.getElem?_eq_getElem (by omega)⟩
          have kb:=List.mem_of_getElem? hy
          have Cf:=T3.fF y
          refine sh ?_
          refine au.one 100 ?_
          refine sh ?_
          refine ah (by decide) ?_
          refine sh ?_
          refine ab hy ?_
          refine sh ?_
          refine cS (fun g1=> ?_) (fun g1=> ?_)
          ·rw[aQ kb (T3.l5 (.inl g1))]at hq
           subst hq
           refine sh ?_
           exact rT
          ·refine sh ?_
           refine ab hy ?_
           refine sh ?_
           refine cS (fun g2=> ?_) (fun g2=> ?_)
           ·rw[aQ kb (T3.l5 (.inr g2))]at hq
            subst hq
            refine sh ?_
            exact rT
           ·refine sh ?_
            refine au.one 100 ?_
            refine sh ?_
            refine ah (by decide) ?_
            refine sh ?_
            refine ab hy ?_
            refine sh ?_
            refine cS (fun g3=> ?_) (fun g3=> ?_)
            ·rw[aQ kb (T3.l6 (.inl g3))]at hq
             subst hq
             refine sh ?_
             exact rT
            ·refine sh ?_
             refine ab hy ?_
             refine sh ?_
             refine cS (fun g4=> ?_) (fun g4=> ?_)
             ·rw[aQ kb (T3.l6 (.inr g4))]at hq
              subst hq
              refine sh ?_
              exact rT
             ·refine sh ?_
              refine au.one 100 ?_
              refine sh ?_
              refine ah (by decide) ?_
              refine sh ?_
              refine ab hy ?_
              refine sh ?_
              refine cS (fun g5=> ?_) (fun g5=> ?_)
              ·rw[aQ kb (T3.l7 (.inl g5))]at hq
               subst hq
               refine sh ?_
               exact rT
              ·refine sh ?_
               refine ab hy ?_
               refine sh ?_
               refine cS (fun g6=> ?_) (fun g6=> ?_)
               ·rw[aQ kb (T3.l7 (.inr g6))]at hq
                subst hq
                refine sh ?_
                exact rT
               ·refine sh ?_
                refine au.one 100 ?_
                refine sh ?_
                refine aq (by decide) ?_
                refine sh ?_
                refine kq (i+1) ?_ ?_
                ·refine⟨by omega,?_⟩
                 rw[dx hy,hi.2,Bool.true_and,Cf]
                 omega
                ·omega
         ·have hz:¬ (x.side ∉ jB∨(x.t.length:Int)≠x.side*x.side):=by simp[hin,h6]
          rw[eX,if_neg hz,if_pos]at hq
          ·subst hq
           refine sh ?_
           exact rT
          ·have:=hi.2
           rwa[List.take_of_length_le (by omega)]at this
      ·refine sh ?_
       refine cS (fun h6=> ?_) (fun h6=> ?_)
       ·rw[eX,if_pos (.inr h6)]at hq
        subst hq
        refine sh ?_
        exact rT
       ·refine sh ?_
        refine gk 200 (fun i:Nat=>i≤x.t.length∧(x.t.take i).all T3.jd=true) (fun i=>⟨[(1,.loc 0 1 0 0),(3,.int .i64 i)],[(0,.var (R.ty 12) x.row)],1⟩) (fun i=>x.t.length - i) (0) ?_ ?_
        ·exact⟨Nat.zero_le _,rfl⟩
        ·intro i hi
         dsimp only
         refine sh ?_
         refine cS (fun h7=> ?_) (fun h7=> ?_)
         ·obtain⟨y,hy⟩:∃u,x.t[i]? =some u:=⟨_,List.getElem?_eq_getElem (by omega)⟩
          have kb:=List.mem_of_getElem? hy
          have Cf:=T3.fF y
          refine sh ?_
          refine au.one 100 ?_
          refine sh ?_
          refine ah (by decide) ?_
          refine sh ?_
          refine ab hy ?_
          refine sh ?_
          refine cS (fun g1=> ?_) (fun g1=> ?_)
          ·rw[aQ kb (T3.l5 (.inl g1))]at hq
           subst hq
           refine sh ?_
           exact rT
          ·refine sh ?_
           refine ab hy ?_
           refine sh ?_
           refine cS (fun g2=> ?_) (fun g2=> ?_)
           ·rw[aQ kb (T3.l5 (.inr g2))]at hq
            subst hq
            refine sh ?_
            exact rT
           ·refine sh ?_
            refine au.one 100 ?_
            refine sh ?_
            refine ah (by decide) ?_
            refine sh ?_
            refine ab hy ?_
            refine sh ?_
            refine cS (fun g3=> ?_) (fun g3=> ?_)
            ·rw[aQ kb (T3.l6 (.inl g3))]at hq
             subst hq
             refine sh ?_
             exact rT
            ·refine sh ?_
             refine ab hy ?_
             refine sh ?_
             refine cS (fun g4=> ?_) (fun g4=> ?_)
             ·rw[aQ kb (T3.l6 (.inr g4))]at hq
              subst hq
              refine sh ?_
              exact rT
             ·refine sh ?_
              refine au.one 100 ?_
              refine sh ?_
              refine ah (by decide) ?_
              refine sh ?_
              refine ab hy ?_
              refine sh ?_
              refine cS (fun g5=> ?_) (fun g5=> ?_)
              ·rw[aQ kb (T3.l7 (.inl g5))]at hq
               subst hq
               refine sh ?_
               exact rT
              ·refine sh ?_
               refine ab hy ?_
               refine sh ?_
               refine cS (fun g6=> ?_) (fun g6=> ?_)
               ·rw[aQ kb (T3.l7 (.inr g6))]at hq
                subst hq
                refine sh ?_
                exact rT
               ·refine sh ?_
                refine au.one 100 ?_
                refine sh ?_
                refine aq (by decide) ?_
                refine sh ?_
                refine kq (i+1) ?_ ?_
                ·refine⟨by omega,?_⟩
                 rw[dx hy,hi.2,Bool.true_and,Cf]
                 omega
                ·omega
         ·have hz:¬ (x.side ∉ jB∨(x.t.length:Int)≠x.side*x.side):=by simp[hin,h6]
          rw[eX,if_neg hz,if_pos]at hq
          ·subst hq
           refine sh ?_
           exact rT
          ·have:=hi.2
           rwa[List.take_of_length_le (by omega)]at this
     ·refine sh ?_
      refine cS (fun h6=> ?_) (fun h6=> ?_)
      ·rw[eX,if_pos (.inr h6)]at hq
       subst hq
       refine sh ?_
       exact rT
      ·refine sh ?_
       refine gk 200 (fun i:Nat=>i≤x.t.length∧(x.t.take i).all T3.jd=true) (fun i=>⟨[(1,.loc 0 1 0 0),(3,.int .i64 i)],[(0,.var (R.ty 12) x.row)],1⟩) (fun i=>x.t.length - i) (0) ?_ ?_
       ·exact⟨Nat.zero_le _,rfl⟩
       ·intro i hi
        dsimp only
        refine sh ?_
        refine cS (fun h7=> ?_) (fun h7=> ?_)
        ·obtain⟨y,hy⟩:∃u,x.t[i]? =some u:=⟨_,List.getElem?_eq_getElem (by omega)⟩
         have kb:=List.mem_of_getElem? hy
         have Cf:=T3.fF y
         refine sh ?_
         refine au.one 100 ?_
         refine sh ?_
         refine ah (by decide) ?_
         refine sh ?_
         refine ab hy ?_
         refine sh ?_
         refine cS (fun g1=> ?_) (fun g1=> ?_)
         ·rw[aQ kb (T3.l5 (.inl g1))]at hq
          subst hq
          refine sh ?_
          exact rT
         ·refine sh ?_
          refine ab hy ?_
          refine sh ?_
          refine cS (fun g2=> ?_) (fun g2=> ?_)
          ·rw[aQ kb (T3.l5 (.inr g2))]at hq
           subst hq
           refine sh ?_
           exact rT
          ·refine sh ?_
           refine au.one 100 ?_
           refine sh ?_
           refine ah (by decide) ?_
           refine sh ?_
           refine ab hy ?_
           refine sh ?_
           refine cS (fun g3=> ?_) (fun g3=> ?_)
           ·rw[aQ kb (T3.l6 (.inl g3))]at hq
            subst hq
            refine sh ?_
            exact rT
           ·refine sh ?_
            refine ab hy ?_
            refine sh ?_
            refine cS (fun g4=> ?_) (fun g4=> ?_)
            ·rw[aQ kb (T3.l6 (.inr g4))]at hq
             subst hq
             refine sh ?_
             exact rT
            ·refine sh ?_
             refine au.one 100 ?_
             refine sh ?_
             refine ah (by decide) ?_
             refine sh ?_
             refine ab hy ?_
             refine sh ?_
             refine cS (fun g5=> ?_) (fun g5=> ?_)
             ·rw[aQ kb (T3.l7 (.inl g5))]at hq
              subst hq
              refine sh ?_
              exact rT
             ·refine sh ?_
              refine ab hy ?_
              refine sh ?_
              refine cS (fun g6=> ?_) (fun g6=> ?_)
              ·rw[aQ kb (T3.l7 (.inr g6))]at hq
               subst hq
               refine sh ?_
               exact rT
              ·refine sh ?_
               refine au.one 100 ?_
               refine sh ?_
               refine aq (by decide) ?_
               refine sh ?_
               refine kq (i+1) ?_ ?_
               ·refine⟨by omega,?_⟩
                rw[dx hy,hi.2,Bool.true_and,Cf]
                omega
               ·omega
        ·have hz:¬ (x.side ∉ jB∨(x.t.length:Int)≠x.side*x.side):=by simp[hin,h6]
         rw[eX,if_neg hz,if_pos]at hq
         ·subst hq
          refine sh ?_
          exact rT
         ·have:=hi.2
          rwa[List.take_of_length_le (by omega)]at this
    ·refine sh ?_
     refine cS (fun h6=> ?_) (fun h6=> ?_)
     ·rw[eX,if_pos (.inr h6)]at hq
      subst hq
      refine sh ?_
      exact rT
     ·refine sh ?_
      refine gk 200 (fun i:Nat=>i≤x.t.length∧(x.t.take i).all T3.jd=true) (fun i=>⟨[(1,.loc 0 1 0 0),(3,.int .i64 i)],[(0,.var (R.ty 12) x.row)],1⟩) (fun i=>x.t.length - i) (0) ?_ ?_
      ·exact⟨Nat.zero_le _,rfl⟩
      ·intro i hi
       dsimp only
       refine sh ?_
       refine cS (fun h7=> ?_) (fun h7=> ?_)
       ·obtain⟨y,hy⟩:∃u,x.t[i]? =some u:=⟨_,List.getElem?_eq_getElem (by omega)⟩
        have kb:=List.mem_of_getElem? hy
        have Cf:=T3.fF y
        refine sh ?_
        refine au.one 100 ?_
        refine sh ?_
        refine ah (by decide) ?_
        refine sh ?_
        refine ab hy ?_
        refine sh ?_
        refine cS (fun g1=> ?_) (fun g1=> ?_)
        ·rw[aQ kb (T3.l5 (.inl g1))]at hq
         subst hq
         refine sh ?_
         exact rT
        ·refine sh ?_
         refine ab hy ?_
         refine sh ?_
         refine cS (fun g2=> ?_) (fun g2=> ?_)
         ·rw[aQ kb (T3.l5 (.inr g2))]at hq
          subst hq
          refine sh ?_
          exact rT
         ·refine sh ?_
          refine au.one 100 ?_
          refine sh ?_
          refine ah (by decide) ?_
          refine sh ?_
          refine ab hy ?_
          refine sh ?_
          refine cS (fun g3=> ?_) (fun g3=> ?_)
          ·rw[aQ kb (T3.l6 (.inl g3))]at hq
           subst hq
           refine sh ?_
           exact rT
          ·refine sh ?_
           refine ab hy ?_
           refine sh ?_
           refine cS (fun g4=> ?_) (fun g4=> ?_)
           ·rw[aQ kb (T3.l6 (.inr g4))]at hq
            subst hq
            refine sh ?_
            exact rT
           ·refine sh ?_
            refine au.one 100 ?_
            refine sh ?_
            refine ah (by decide) ?_
            refine sh ?_
            refine ab hy ?_
            refine sh ?_
            refine cS (fun g5=> ?_) (fun g5=> ?_)
            ·rw[aQ kb (T3.l7 (.inl g5))]at hq
             subst hq
             refine sh ?_
             exact rT
            ·refine sh ?_
             refine ab hy ?_
             refine sh ?_
             refine cS (fun g6=> ?_) (fun g6=> ?_)
             ·rw[aQ kb (T3.l7 (.inr g6))]at hq
              subst hq
              refine sh ?_
              exact rT
             ·refine sh ?_
              refine au.one 100 ?_
              refine sh ?_
              refine aq (by decide) ?_
              refine sh ?_
              refine kq (i+1) ?_ ?_
              ·refine⟨by omega,?_⟩
               rw[dx hy,hi.2,Bool.true_and,Cf]
               omega
              ·omega
       ·have hz:¬ (x.side ∉ jB∨(x.t.length:Int)≠x.side*x.side):=by simp[hin,h6]
        rw[eX,if_neg hz,if_pos]at hq
        ·subst hq
         refine sh ?_
         exact rT
        ·have:=hi.2
         rwa[List.take_of_length_le (by omega)]at this
   ·refine sh ?_
    refine cS (fun h6=> ?_) (fun h6=> ?_)
    ·rw[eX,if_pos (.inr h6)]at hq
     subst hq
     refine sh ?_
     exact rT
    ·refine sh ?_
     refine gk 200 (fun i:Nat=>i≤x.t.length∧(x.t.take i).all T3.jd=true) (fun i=>⟨[(1,.loc 0 1 0 0),(3,.int .i64 i)],[(0,.var (R.ty 12) x.row)],1⟩) (fun i=>x.t.length - i) (0) ?_ ?_
     ·exact⟨Nat.zero_le _,rfl⟩
     ·intro i hi
      dsimp only
      refine sh ?_
      refine cS (fun h7=> ?_) (fun h7=> ?_)
      ·obtain⟨y,hy⟩:∃u,x.t[i]? =some u:=⟨_,List.getElem?_eq_getElem (by omega)⟩
       have kb:=List.mem_of_getElem? hy
       have Cf:=T3.fF y
       refine sh ?_
       refine au.one 100 ?_
       refine sh ?_
       refine ah (by decide) ?_
       refine sh ?_
       refine ab hy ?_
       refine sh ?_
       refine cS (fun g1=> ?_) (fun g1=> ?_)
       ·rw[aQ kb (T3.l5 (.inl g1))]at hq
        subst hq
        refine sh ?_
        exact rT
       ·refine sh ?_
        refine ab hy ?_
        refine sh ?_
        refine cS (fun g2=> ?_) (fun g2=> ?_)
        ·rw[aQ kb (T3.l5 (.inr g2))]at hq
         subst hq
         refine sh ?_
         exact rT
        ·refine sh ?_
         refine au.one 100 ?_
         refine sh ?_
         refine ah (by decide) ?_
         refine sh ?_
         refine ab hy ?_
         refine sh ?_
         refine cS (fun g3=> ?_) (fun g3=> ?_)
         ·rw[aQ kb (T3.l6 (.inl g3))]at hq
          subst hq
          refine sh ?_
          exact rT
         ·refine sh ?_
          refine ab hy ?_
          refine sh ?_
          refine cS (fun g4=> ?_) (fun g4=> ?_)
          ·rw[aQ kb (T3.l6 (.inr g4))]at hq
           subst hq
           refine sh ?_
           exact rT
          ·refine sh ?_
           refine au.one 100 ?_
           refine sh ?_
           refine ah (by decide) ?_
           refine sh ?_
           refine ab hy ?_
           refine sh ?_
           refine cS (fun g5=> ?_) (fun g5=> ?_)
           ·rw[aQ kb (T3.l7 (.inl g5))]at hq
            subst hq
            refine sh ?_
            exact rT
           ·refine sh ?_
            refine ab hy ?_
            refine sh ?_
            refine cS (fun g6=> ?_) (fun g6=> ?_)
            ·rw[aQ kb (T3.l7 (.inr g6))]at hq
             subst hq
             refine sh ?_
             exact rT
            ·refine sh ?_
             refine au.one 100 ?_
             refine sh ?_
             refine aq (by decide) ?_
             refine sh ?_
             refine kq (i+1) ?_ ?_
             ·refine⟨by omega,?_⟩
              rw[dx hy,hi.2,Bool.true_and,Cf]
              omega
             ·omega
      ·have hz:¬ (x.side ∉ jB∨(x.t.length:Int)≠x.side*x.side):=by simp[hin,h6]
       rw[eX,if_neg hz,if_pos]at hq
       ·subst hq
        refine sh ?_
        exact rT
       ·have:=hi.2
        rwa[List.take_of_length_le (by omega)]at this
  ·have hout:¬x.side=1∧¬x.side=2∧¬x.side=4∧¬x.side=8∧¬x.side=16:=by simpa[jB]using hin
   refine sh ?_
   refine ah (by simpa using hout.1) ?_
   refine sh ?_
   refine ah (by simpa using hout.2.1) ?_
   refine sh ?_
   refine ah (by simpa using hout.2.2.1) ?_
   refine sh ?_
   refine ah (by simpa using hout.2.2.2.1) ?_
   refine sh ?_
   refine ah (by simpa using hout.2.2.2.2) ?_
   rw[eX,if_pos (.inl hin)]at hq
   subst hq
   refine sh ?_
   exact rT
theorem zn {R:Env} (h:Wx R) (t:nV) (hl:t.t.length≤1073741824):R.Pc 83 [.agg t.row] (.aO [.aH 1 (bn (kW t).1),.int .i64 (kW t).2]):=
 h.o83.enter 200 rfl fun X bb hfit hp=>by
  refine sh ?_
  refine ae.pure h.Je.Ww.hb (Ax h.Je t hl) rfl ?_
  generalize hq:kW t=q
  refine sh ?_
  refine cS (fun h1=> ?_) (fun h1=> ?_)
  ·rw[kW,if_pos h1]at hq
   subst hq
   refine sh ?_
   exact rT
  ·have ok:=Aw h1
   rw[kW,if_neg (by simpa using h1)]at hq
   subst hq
   have hs:=nL ok.s
   have Gd:t.t.length≤256:=by
    have:=ok.l
    rcases hs with h|h|h|h|h<;>rw[h]at this<;>omega
   refine sh ?_
   refine au.inv 200 (fun i:Nat=>i≤t.t.length) (fun i=>⟨[(1,.loc 0 1 0 0),(5,.ba 1 (u8 t.side::pX (t.t.take i)).length),(6,.int .i64 i)],[(1,.arr (R.ty 4) 1 (bn (u8 t.side::pX (t.t.take i)))),(0,.var (R.ty 12) t.row)],2⟩) (fun i=>t.t.length - i) (0) ?_ ⟨⟨_,hp,rfl⟩,?_,?_⟩ ?_
   ·exact Nat.zero_le _
   ·all_goals repeat' (first|exact True.intro|refine And.intro ?_ ?_|(intro _u; clear _u)|(with_reducible first|exact ai.fg|refine eM ?_ ?_|refine eF ?_ ?_ ?_|refine eN ?_|refine eL ?_ ?_ ?_|refine eA ?_ ?_|refine aj.mk ⟨_,hp,rfl⟩ ?_ ?_)|refine aj.mk ⟨_,hp,rfl⟩ ?_ ?_)
    all_goals try first|with_reducible rfl|omega|exact .inl (by decide)|(simp; done)|rfl
   ·all_goals repeat' (first|exact True.intro|refine And.intro ?_ ?_|(intro _u; clear _u)|(with_reducible first|exact ai.fg|refine eM ?_ ?_|refine eF ?_ ?_ ?_|refine eN ?_|refine eL ?_ ?_ ?_|refine eA ?_ ?_|refine aj.mk ⟨_,hp,rfl⟩ ?_ ?_)|refine aj.mk ⟨_,hp,rfl⟩ ?_ ?_)
    all_goals try first|with_reducible rfl|omega|exact .inl (by decide)|(simp; done)|rfl
    simp[bn,pX,u8_in (n:=t.side) (by omega)]
   ·intro i hi
    dsimp only
    refine sh ?_
    refine cS (fun h2=> ?_) (fun h2=> ?_)
    ·obtain⟨y,hy⟩:∃u,t.t[i]? =some u:=⟨_,List.getElem?_eq_getElem (by omega)⟩
     have hlen:=r5 (t.t.take i)
     simp only[List.length_take]at hlen
     refine sh ?_
     refine au.one 100 ?_
     refine sh ?_
     refine ah (by decide) ?_
     refine sh ?_
     refine ab hy ?_
     refine sh ?_
     refine bj ?_
     refine sh ?_
     refine au.one 100 ?_
     refine sh ?_
     refine ah (by decide) ?_
     refine sh ?_
     refine ab hy ?_
     refine sh ?_
     refine bj ?_
     refine sh ?_
     refine au.one 100 ?_
     refine sh ?_
     refine ah (by decide) ?_
     refine sh ?_
     refine ab hy ?_
     refine sh ?_
     refine bj ?_
     refine sh ?_
     refine au.one 100 ?_
     refine sh ?_
     refine aq (by decide) ?_
     refine sh ?_
     refine nX (i+1) ?_ ?_ ⟨_,hp,rfl⟩ ?_ ?_
     ·omega
     ·omega
     ·all_goals repeat' (first|exact True.intro|refine And.intro ?_ ?_|(intro _u; clear _u)|(with_reducible first|exact ai.fg|refine eM ?_ ?_|refine eF ?_ ?_ ?_|refine eN ?_|refine eL ?_ ?_ ?_|refine eA ?_ ?_|refine aj.mk ⟨_,hp,rfl⟩ ?_ ?_)|refine aj.mk ⟨_,hp,rfl⟩ ?_ ?_)
      all_goals try first|with_reducible rfl|omega|exact .inl (by decide)|(simp; done)|rfl
      rw[lx hy]; simp
     ·all_goals repeat' (first|exact True.intro|refine And.intro ?_ ?_|(intro _u; clear _u)|(with_reducible first|exact ai.fg|refine eM ?_ ?_|refine eF ?_ ?_ ?_|refine eN ?_|refine eL ?_ ?_ ?_|refine eA ?_ ?_|refine aj.mk ⟨_,hp,rfl⟩ ?_ ?_)|refine aj.mk ⟨_,hp,rfl⟩ ?_ ?_)
      all_goals try first|with_reducible rfl|omega|exact .inl (by decide)|(simp; done)|rfl
      rw[lx hy]; simp[bn,Ai]
    ·rw[List.take_of_length_le (by omega)]
     refine sh ?_
     exact rT
end Go.UM
namespace Go.UM
open Go.AM
set_option maxRecDepth 4000
structure As where
 k:Int
 m:Ms
 x:nV
 mt:my
 li:mz
def As.row (a:As):List AV:=[.int .i64 a.k,.aH 3 (bD a.m.v),.aH 2 (dL a.m.uv),.aH 3 (bD a.m.t),.int .i64 a.x.side,.aH 3 (bD a.x.t),
 .int .i64 a.mt.k,.int .i64 a.mt.c.a,.int .i64 a.mt.c.b,.int .i64 a.mt.c.c,.int .i64 a.mt.r,
 .int .i64 a.li.k,.int .i64 a.li.c.a,.int .i64 a.li.c.b,.int .i64 a.li.c.c,.int .i64 a.li.p.a,.int .i64 a.li.p.b,.int .i64 a.li.p.c,.int .i64 a.li.u.a,.int .i64 a.li.u.b,.int .i64 a.li.u.c,.int .i64 a.li.v.a,.int .i64 a.li.v.b,.int .i64 a.li.v.c]
def WO (m:my):List UInt8:=[u8 m.k]++bX 2 m.c.a++bX 2 m.c.b++bX 2 m.c.c++bX 2 m.r
def WP (l:mz):List UInt8:=[u8 l.k]++(bX 4 l.c.a++bX 4 l.c.b++bX 4 l.c.c)++eh l.p++eh l.u++eh l.v
def own (a:As):Int:=if a.k=1 then iB a.m else if a.k=2 then eX a.x else if a.k=3 then iC a.mt else if a.k=4 then jA a.li else 12
def fG (a:As):List UInt8:=if a.k=1 then (rW a.m).1 else if a.k=2 then (kW a.x).1 else if a.k=3 then WO a.mt else WP a.li
theorem qd {p:T3} (h:j3 p=false): -4096≤p.a∧p.a≤4096∧ -4096≤p.b∧p.b≤4096∧ -4096≤p.c∧p.c≤4096:=by simpa[j3]using h
structure mz.S8 (l:mz):Prop where
 k:0≤l.k∧l.k≤2
 c:0≤l.c.a∧l.c.a≤1048576∧0≤l.c.b∧l.c.b≤1048576∧0≤l.c.c∧l.c.c≤1048576
 p: -4096≤l.p.a∧l.p.a≤4096∧ -4096≤l.p.b∧l.p.b≤4096∧ -4096≤l.p.c∧l.p.c≤4096
 u: -4096≤l.u.a∧l.u.a≤4096∧ -4096≤l.u.b∧l.u.b≤4096∧ -4096≤l.u.c∧l.u.c≤4096
 v: -4096≤l.v.a∧l.v.a≤4096∧ -4096≤l.v.b∧l.v.b≤4096∧ -4096≤l.v.c∧l.v.c≤4096
theorem xx {l:mz} (h:jA l=0):l.S8:=by
 unfold jA at h
 split at h
 ·cases h
 ·split at h
  ·cases h
  ·rename_i h1 h2
   simp only[not_or,Bool.not_eq_true]at h2
   exact⟨by omega,by omega,qd h2.1,qd h2.2.1,qd h2.2.2⟩
theorem xy {m:my} (h:iC m=0):0≤m.k∧m.k≤4∧0≤m.r∧m.r≤65535∧0≤m.c.a∧m.c.a≤65535∧0≤m.c.b∧m.c.b≤65535∧0≤m.c.c∧m.c.c≤65535:=by
 unfold iC at h
 split at h
 ·cases h
 ·omega
theorem MO {R:Env} (h:K9 R) (b:List UInt8) (x:Int) (hl:b.length≤1000) (hx:0≤x∧x≤65535):
  R.Mc 54 [.aH 1 (bn b),.int .i64 2,.aH 1 (bI .u64 [x])] [] (.aO [.ba 0 (b++bX 2 x).length,.int .i64 0]) [(0,.arr (R.ty 4) 1 (bn (b++bX 2 x)))] 1:=by
 have c:=Ar h b 2 [x] (by simp; omega) (by simp; omega)
 rw[vy (by decide) (by decide) (by simp; omega)]at c
 simpa using c
theorem MP {R:Env} (h:K9 R) (b:List UInt8) (x y z:Int) (hl:b.length≤1000) (hx:0≤x∧x≤1048576∧0≤y∧y≤1048576∧0≤z∧z≤1048576):
  R.Mc 54 [.aH 1 (bn b),.int .i64 4,.aH 1 (bI .u64 [x,y,z])] [] (.aO [.ba 0 (b++(bX 4 x++bX 4 y++bX 4 z)).length,.int .i64 0]) [(0,.arr (R.ty 4) 1 (bn (b++(bX 4 x++bX 4 y++bX 4 z))))] 1:=by
 have c:=Ar h b 4 [x,y,z] (by simp; omega) (by simp; omega)
 rw[vy (by decide) (by decide) (by simp; omega)]at c
 simpa using c
theorem MQ {R:Env} (h:Qs R) (b:List UInt8) (p:T3) (hl:b.length≤1000) (ok: -4096≤p.a∧p.a≤4096∧ -4096≤p.b∧p.b≤4096∧ -4096≤p.c∧p.c≤4096):
  R.Mc 71 [.aH 1 (bn b),.int .i64 2,.aH 1 (bI .i64 [p.a,p.b,p.c])] [] (.aO [.ba 0 (b++eh p).length,.int .i64 0]) [(0,.arr (R.ty 4) 1 (bn (b++eh p)))] 1:=by
 have c:=xq h b 2 [p.a,p.b,p.c] (by simp; omega) (by simp[hJ]; omega)
 rwa[rX ok]at c
def my.four (m:my):List Int:=[m.c.a,m.c.b,m.c.c,m.r]
def mz.three (l:mz):List T3:=[l.p,l.u,l.v]
@[simp] theorem Jn (m:my):m.four.length=4:=rfl
@[simp] theorem Ie (l:mz):l.three.length=3:=rfl
theorem zo:∀l:List Int,(l.flatMap (bX 2)).length=2*l.length
 |[]=>rfl
 |x::r=>by have:=zo r; simp at this ⊢; omega
@[simp] theorem Jo (p:T3):(eh p).length=6:=by simp[eh]
theorem Ff {R:Env} (h:Lq R) (a:As) (hl:a.x.t.length≤1073741824) (ok:own a=0):R.Pc 311 [.agg a.row] (.aH 1 (bn (fG a))):=
 h.QU.enter 200 rfl fun X bb hfit hp=>by
  generalize hq:fG a=q
  unfold own at ok
  refine sh ?_
  refine cS (fun h1=> ?_) (fun h1=> ?_)
  ·rw[fG,if_pos h1]at hq
   subst hq
   refine sh ?_
   refine ae.pure h.n196.QA.hb (Cd h.n196 a.m) rfl ?_
   refine sh ?_
   exact rT
  ·rw[if_neg h1]at ok
   refine sh ?_
   refine cS (fun h2=> ?_) (fun h2=> ?_)
   ·rw[fG,if_neg h1,if_pos h2]at hq
    subst hq
    refine sh ?_
    refine ae.pure h.Un.o82.hb (Cg h.Un a.x hl) rfl ?_
    refine sh ?_
    exact rT
   ·rw[if_neg h2]at ok
    refine sh ?_
    refine cS (fun h3=> ?_) (fun h3=> ?_)
    ·rw[fG,if_neg h1,if_neg h2,if_pos h3]at hq
     subst hq
     rw[if_pos h3]at ok
     have may:=xy ok
     have w8:((u8 a.mt.k).toNat:Int)=a.mt.k:=u8_in (by omega)
     refine sh ?_
     refine au.inv 100 (fun i:Nat=>i≤4) (fun i=>⟨[(8,.ba 2 ([u8 a.mt.k]++(a.mt.four.take i).flatMap (bX 2)).length),(55,.aH 1 (bI .i64 a.mt.four)),(56,.int .i64 4),(57,.int .i64 i)],[(2,.arr (R.ty 4) 1 (bn ([u8 a.mt.k]++(a.mt.four.take i).flatMap (bX 2))))],3⟩) (fun i=>4 - i) (0) ?_ ⟨⟨_,hp,rfl⟩,?_,?_⟩ ?_
     ·exact Nat.zero_le _
     ·all_goals repeat' (first|exact True.intro|refine And.intro ?_ ?_|(intro _u; clear _u)|(with_reducible first|exact ai.fg|refine eM ?_ ?_|refine eF ?_ ?_ ?_|refine eN ?_|refine eL ?_ ?_ ?_|refine eA ?_ ?_|refine aj.mk ⟨_,hp,rfl⟩ ?_ ?_)|refine aj.mk ⟨_,hp,rfl⟩ ?_ ?_)
      all_goals try first|with_reducible rfl|omega|exact .inl (by decide)|(simp; done)|rfl
     ·all_goals repeat' (first|exact True.intro|refine And.intro ?_ ?_|(intro _u; clear _u)|(with_reducible first|exact ai.fg|refine eM ?_ ?_|refine eF ?_ ?_ ?_|refine eN ?_|refine eL ?_ ?_ ?_|refine eA ?_ ?_|refine aj.mk ⟨_,hp,rfl⟩ ?_ ?_)|refine aj.mk ⟨_,hp,rfl⟩ ?_ ?_)
      all_goals try first|with_reducible rfl|omega|exact .inl (by decide)|(simp; done)|rfl
      simp[bn,w8]
     ·intro i hi
      dsimp only
      refine sh ?_
      refine cS (fun h4=> ?_) (fun h4=> ?_)
      ·obtain⟨x,hx⟩:∃u_,a.mt.four[i]? =some u_:=⟨_,List.getElem?_eq_getElem (by first|omega|(simp<;>omega))⟩
       refine sh ?_
       refine ab hx ?_
       have bQ:0≤x∧x≤65535:=by
        have:=List.mem_of_getElem? hx
        simp only[my.four,List.mem_cons,List.not_mem_nil,or_false]at this
        rcases this with e|e|e|e<;>subst e<;>omega
       refine sh ?_
       refine cM true [] (MO h.FW ([u8 a.mt.k]++(a.mt.four.take i).flatMap (bX 2)) x (by simp only[List.length_append,zo,List.length_take]; simp; omega) bQ) ?_
       repeat (intro _; first|refine eK ?_|refine eP ?_)
       refine sh ?_
       refine NE [0,1,4] (i+1) ?_ ?_ ?_
       ·omega
       ·omega
       ·all_goals repeat' (first|exact True.intro|refine And.intro ?_ ?_|(intro _u; clear _u)|(with_reducible first|exact ai.fg|refine eM ?_ ?_|refine eF ?_ ?_ ?_|refine eN ?_|refine eL ?_ ?_ ?_|refine eA ?_ ?_|refine aj.mk ⟨_,hp,rfl⟩ ?_ ?_)|refine aj.mk ⟨_,hp,rfl⟩ ?_ ?_)
        all_goals try first|with_reducible rfl|omega|exact .inl (by decide)|(simp; done)|rfl
        rw[bW hx]; simp
        rw[bW hx]; simp
      ·rw[show a.mt.four.take i=a.mt.four from List.take_of_length_le (by simp; omega)]
       refine sh ?_
       exact rT
    ·rw[fG,if_neg h1,if_neg h2,if_neg h3]at hq
     subst hq
     have h4:a.k=4:=by
      by_cases h4:a.k=4
      ·exact h4
      ·rw[if_neg h3,if_neg h4]at ok; cases ok
     rw[if_neg h3,if_pos h4]at ok
     have may:=xx ok
     have mk:=may.k
     have mc:=may.c
     have w8:((u8 a.li.k).toNat:Int)=a.li.k:=u8_in (by omega)
     have c1:=MP h.FW [u8 a.li.k] a.li.c.a a.li.c.b a.li.c.c (by simp) mc
     rw[show bn [u8 a.li.k]=[[.int .u8 a.li.k]] by simp[bn,w8]]at c1
     refine sh ?_
     refine cM true [] (c1) ?_
     repeat (intro _; first|refine eK ?_|refine eP ?_)
     refine sh ?_
     refine gk 100 (fun i:Nat=>i≤3) (fun i=>⟨[(12,.ba 4 ([u8 a.li.k]++(bX 4 a.li.c.a++bX 4 a.li.c.b++bX 4 a.li.c.c)++(a.li.three.take i).flatMap eh).length),(100,.aH 3 (bD a.li.three)),(101,.int .i64 3),(102,.int .i64 i)],[(4,.arr (R.ty 4) 1 (bn ([u8 a.li.k]++(bX 4 a.li.c.a++bX 4 a.li.c.b++bX 4 a.li.c.c)++(a.li.three.take i).flatMap eh)))],5⟩) (fun i=>3 - i) (0) ?_ ?_
     ·exact Nat.zero_le _
     ·intro i hi
      dsimp only
      refine sh ?_
      refine cS (fun h5=> ?_) (fun h5=> ?_)
      ·obtain⟨x,hx⟩:∃u_,a.li.three[i]? =some u_:=⟨_,List.getElem?_eq_getElem (by first|omega|(simp<;>omega))⟩
       refine sh ?_
       refine ab hx ?_
       have bQ: -4096≤x.a∧x.a≤4096∧ -4096≤x.b∧x.b≤4096∧ -4096≤x.c∧x.c≤4096:=by
        have:=List.mem_of_getElem? hx
        simp only[mz.three,List.mem_cons,List.not_mem_nil,or_false]at this
        rcases this with e|e|e<;>subst e
        ·exact may.p
        ·exact may.u
        ·exact may.v
       refine sh ?_
       refine cM true [] (MQ h.NG ([u8 a.li.k]++(bX 4 a.li.c.a++bX 4 a.li.c.b++bX 4 a.li.c.c)++(a.li.three.take i).flatMap eh) x (by simp only[List.length_append,xu,List.length_take]; simp; omega) bQ) ?_
       repeat (intro _; first|refine eK ?_|refine eP ?_)
       refine sh ?_
       refine NE [0,1,2,3,7] (i+1) ?_ ?_ ?_
       ·omega
       ·omega
       ·all_goals repeat' (first|exact True.intro|refine And.intro ?_ ?_|(intro _u; clear _u)|(with_reducible first|exact ai.fg|refine eM ?_ ?_|refine eF ?_ ?_ ?_|refine eN ?_|refine eL ?_ ?_ ?_|refine eA ?_ ?_|refine aj.mk ⟨_,hp,rfl⟩ ?_ ?_)|refine aj.mk ⟨_,hp,rfl⟩ ?_ ?_)
        all_goals try first|with_reducible rfl|omega|exact .inl (by decide)|(simp; done)|rfl
        rw[bW hx]; simp
        rw[bW hx]; simp
      ·rw[show a.li.three.take i=a.li.three from List.take_of_length_le (by simp; omega)]
       refine sh ?_
       exact rT
theorem vA {R:Env} (h:RV R) (b:List UInt8) (x:Int) (hl:b.length≤1000) (hx:0≤x∧x≤1048576):
  R.Mc 55 [.aH 1 (bn b),.int .i64 4,.aH 1 (bI .u64 [x])] [] (.aO [.ba 0 (b++bX 4 x).length,.int .i64 0]) [(0,.arr (R.ty 4) 1 (bn (b++bX 4 x)))] 1:=by
 have c:=Fb h b 4 [x] (by simp; omega) (by simp; omega)
 rw[vy (by decide) (by decide) (by simp; omega)]at c
 simpa using c
theorem Ay {v:Int} (hv:0≤v∧v≤65535):bX 2 v=[u8 (v % 256),u8 (v / 256)]:=by
 unfold bX
 simp[List.range_succ,y6]
theorem qe {R:Env} (h:L6 R) (a:As) (hl:a.x.t.length≤1073741824) (ok:own a=0):R.Pc 314 [.agg a.row] (.aH 1 (bn (fG a))):=
 h.ED.enter 200 rfl fun X bb hfit hp=>by
  generalize hq:fG a=q
  unfold own at ok
  refine sh ?_
  refine cS (fun h1=> ?_) (fun h1=> ?_)
  ·rw[fG,if_pos h1]at hq
   subst hq
   refine sh ?_
   refine ae.pure h.n197.R3.hb (zl h.n197 a.m) rfl ?_
   refine sh ?_
   exact rT
  ·rw[if_neg h1]at ok
   refine sh ?_
   refine cS (fun h2=> ?_) (fun h2=> ?_)
   ·rw[fG,if_neg h1,if_pos h2]at hq
    subst hq
    refine sh ?_
    refine ae.pure h.Ur.o83.hb (zn h.Ur a.x hl) rfl ?_
    refine sh ?_
    exact rT
   ·rw[if_neg h2]at ok
    refine sh ?_
    refine cS (fun h3=> ?_) (fun h3=> ?_)
    ·rw[fG,if_neg h1,if_neg h2,if_pos h3]at hq
     subst hq
     rw[if_pos h3]at ok
     have may:=xy ok
     have w8:((u8 a.mt.k).toNat:Int)=a.mt.k:=u8_in (by omega)
     refine sh ?_
     refine au.inv 100 (fun i:Nat=>i≤4) (fun i=>⟨[(8,.ba 2 ([u8 a.mt.k]++(a.mt.four.take i).flatMap (bX 2)).length),(9,.aH 1 (bI .i64 a.mt.four)),(10,.int .i64 i)],[(2,.arr (R.ty 4) 1 (bn ([u8 a.mt.k]++(a.mt.four.take i).flatMap (bX 2))))],3⟩) (fun i=>4 - i) (0) ?_ ⟨⟨_,hp,rfl⟩,?_,?_⟩ ?_
     ·exact Nat.zero_le _
     ·all_goals repeat' (first|exact True.intro|refine And.intro ?_ ?_|(intro _u; clear _u)|(with_reducible first|exact ai.fg|refine eM ?_ ?_|refine eF ?_ ?_ ?_|refine eN ?_|refine eL ?_ ?_ ?_|refine eA ?_ ?_|refine aj.mk ⟨_,hp,rfl⟩ ?_ ?_)|refine aj.mk ⟨_,hp,rfl⟩ ?_ ?_)
      all_goals try first|with_reducible rfl|omega|exact .inl (by decide)|(simp; done)|rfl
     ·all_goals repeat' (first|exact True.intro|refine And.intro ?_ ?_|(intro _u; clear _u)|(with_reducible first|exact ai.fg|refine eM ?_ ?_|refine eF ?_ ?_ ?_|refine eN ?_|refine eL ?_ ?_ ?_|refine eA ?_ ?_|refine aj.mk ⟨_,hp,rfl⟩ ?_ ?_)|refine aj.mk ⟨_,hp,rfl⟩ ?_ ?_)
      all_goals try first|with_reducible rfl|omega|exact .inl (by decide)|(simp; done)|rfl
      simp[bn,w8]
     ·intro i hi
      dsimp only
      refine sh ?_
      refine cS (fun h4=> ?_) (fun h4=> ?_)
      ·obtain⟨x,hx⟩:∃u,a.mt.four[i]? =some u:=⟨_,List.getElem?_eq_getElem (by simp; omega)⟩
       have bQ:0≤x∧x≤65535:=by
        have:=List.mem_of_getElem? hx
        simp only[my.four,List.mem_cons,List.not_mem_nil,or_false]at this
        rcases this with e|e|e|e<;>subst e<;>omega
       refine sh ?_
       refine ab hx ?_
       refine sh ?_
       rw[Int.tmod_eq_emod_of_nonneg (by omega)]
       refine wI ?_
       refine sh ?_
       refine ab hx ?_
       refine sh ?_
       rw[Int.tdiv_eq_ediv_of_nonneg (by omega)]
       refine wI ?_
       refine sh ?_
       refine nD ?_ (by simp only[eT,List.length_append,zo,List.length_take]; simp; omega)
       refine sh ?_
       refine nX (i+1) ?_ ?_ ⟨_,hp,rfl⟩ ?_ ?_
       ·omega
       ·omega
       ·all_goals repeat' (first|exact True.intro|refine And.intro ?_ ?_|(intro _u; clear _u)|(with_reducible first|exact ai.fg|refine eM ?_ ?_|refine eF ?_ ?_ ?_|refine eN ?_|refine eL ?_ ?_ ?_|refine eA ?_ ?_|refine aj.mk ⟨_,hp,rfl⟩ ?_ ?_)|refine aj.mk ⟨_,hp,rfl⟩ ?_ ?_)
        all_goals try first|with_reducible rfl|omega|exact .inl (by decide)|(simp; done)|rfl
        rw[bW hx,Ay bQ]; simp
       ·all_goals repeat' (first|exact True.intro|refine And.intro ?_ ?_|(intro _u; clear _u)|(with_reducible first|exact ai.fg|refine eM ?_ ?_|refine eF ?_ ?_ ?_|refine eN ?_|refine eL ?_ ?_ ?_|refine eA ?_ ?_|refine aj.mk ⟨_,hp,rfl⟩ ?_ ?_)|refine aj.mk ⟨_,hp,rfl⟩ ?_ ?_)
        all_goals try first|with_reducible rfl|omega|exact .inl (by decide)|(simp; done)|rfl
        rw[bW hx,Ay bQ]; simp[bn]
        refine⟨(u8_in ?_).symm,(u8_in ?_).symm⟩<;>omega
      ·rw[show a.mt.four.take i=a.mt.four from List.take_of_length_le (by simp; omega)]
       refine sh ?_
       exact rT
    ·rw[fG,if_neg h1,if_neg h2,if_neg h3]at hq
     subst hq
     have h4:a.k=4:=by
      by_cases h4:a.k=4
      ·exact h4
      ·rw[if_neg h3,if_neg h4]at ok; cases ok
     rw[if_neg h3,if_pos h4]at ok
     have may:=xx ok
     have mk:=may.k
     have mc:=may.c
     have w8:((u8 a.li.k).toNat:Int)=a.li.k:=u8_in (by omega)
     have c1:=vA h.Jd [u8 a.li.k] a.li.c.a (by simp) (by omega)
     rw[show bn [u8 a.li.k]=[[.int .u8 a.li.k]] by simp[bn,w8]]at c1
     refine sh ?_
     refine au.one 100 ?_
     refine sh ?_
     refine ah (by decide) ?_
     refine sh ?_
     refine cM true [] (c1) ?_
     repeat (intro _; first|refine eK ?_|refine eP ?_)
     refine sh ?_
     refine au.one 100 ?_
     refine sh ?_
     refine ah (by decide) ?_
     refine sh ?_
     refine cM true [] (vA h.Jd ([u8 a.li.k]++bX 4 a.li.c.a) a.li.c.b (by simp) (by omega)) ?_
     repeat (intro _; first|refine eK ?_|refine eP ?_)
     refine sh ?_
     refine au.one 100 ?_
     refine sh ?_
     refine ah (by decide) ?_
     refine sh ?_
     refine cM true [] (vA h.Jd ([u8 a.li.k]++bX 4 a.li.c.a++bX 4 a.li.c.b) a.li.c.c (by simp) (by omega)) ?_
     repeat (intro _; first|refine eK ?_|refine eP ?_)
     refine sh ?_
     refine au.one 100 ?_
     refine sh ?_
     refine aq (by decide) ?_
     refine sh ?_
     refine cM true [] (nK h.n212 ([u8 a.li.k]++bX 4 a.li.c.a++bX 4 a.li.c.b++bX 4 a.li.c.c) a.li.p (by simp) may.p) ?_
     repeat (intro _; first|refine eK ?_|refine eP ?_)
     refine sh ?_
     refine cM true [] (nK h.n212 ([u8 a.li.k]++bX 4 a.li.c.a++bX 4 a.li.c.b++bX 4 a.li.c.c++eh a.li.p) a.li.u (by simp) may.u) ?_
     repeat (intro _; first|refine eK ?_|refine eP ?_)
     refine sh ?_
     refine cM true [] (nK h.n212 ([u8 a.li.k]++bX 4 a.li.c.a++bX 4 a.li.c.b++bX 4 a.li.c.c++eh a.li.p++eh a.li.u) a.li.v (by simp) may.v) ?_
     repeat (intro _; first|refine eK ?_|refine eP ?_)
     refine sh ?_
     exact rT
end Go.UM
namespace Go.UM
open Go.AM
structure Mf where
 (id kind label m0 m1 m2 m3 m4 m5 m6 m7 first last size chunks:Int)
def Mf.row (m:Mf):List AV:=[.int .u64 m.id,.int .i64 m.kind,.int .u32 m.label,.int .u8 m.m0,.int .u8 m.m1,.int .u8 m.m2,.int .u8 m.m3,.int .u8 m.m4,.int .u8 m.m5,.int .u8 m.m6,.int .u8 m.m7,
 .int .u32 m.first,.int .u32 m.last,.int .i64 m.size,.int .i64 m.chunks]
def Mf.MR (m:Mf):Nat→Int
 |0=>m.m0|1=>m.m1|2=>m.m2|3=>m.m3|4=>m.m4|5=>m.m5|6=>m.m6|7=>m.m7|_=>0
structure Mf.Ok (m:Mf):Prop where
 id:hJ .u64 m.id
 kind:hJ .i64 m.kind
 label:hJ .u32 m.label
 MR:∀i,0≤m.MR i∧m.MR i≤255
 first:hJ .u32 m.first
 last:hJ .u32 m.last
 size:hJ .i64 m.size
 chunks:hJ .i64 m.chunks
end Go.UM
namespace Go.UM
open Go.AM
set_option maxRecDepth 4000
structure Rw where
 h:Int
 f:Mf
 a:As
def Rw.row (r:Rw):List AV:=[.int .i64 r.h,.int .u64 r.f.id,.int .i64 r.f.kind,.int .u32 r.f.label,.int .u8 r.f.m0,.int .u8 r.f.m1,.int .u8 r.f.m2,.int .u8 r.f.m3,.int .u8 r.f.m4,.int .u8 r.f.m5,.int .u8 r.f.m6,.int .u8 r.f.m7,
 .int .u32 r.f.first,.int .u32 r.f.last,.int .i64 r.f.size,.int .i64 r.f.chunks,.int .i64 r.a.k,.aH 3 (bD r.a.m.v),.aH 2 (dL r.a.m.uv),.aH 3 (bD r.a.m.t),.int .i64 r.a.x.side,.aH 3 (bD r.a.x.t),
 .int .i64 r.a.mt.k,.int .i64 r.a.mt.c.a,.int .i64 r.a.mt.c.b,.int .i64 r.a.mt.c.c,.int .i64 r.a.mt.r,
 .int .i64 r.a.li.k,.int .i64 r.a.li.c.a,.int .i64 r.a.li.c.b,.int .i64 r.a.li.c.c,.int .i64 r.a.li.p.a,.int .i64 r.a.li.p.b,.int .i64 r.a.li.p.c,.int .i64 r.a.li.u.a,.int .i64 r.a.li.u.b,.int .i64 r.a.li.u.c,.int .i64 r.a.li.v.a,.int .i64 r.a.li.v.b,.int .i64 r.a.li.v.c]
def gD (l:List Rw):List (List AV):=l.map Rw.row
@[simp] theorem mA (l:List Rw):(gD l).length=l.length:=by simp[gD]
@[simp] theorem MS (a b:List Rw):gD (a++b)=gD a++gD b:=by simp[gD]
@[simp] theorem Uv (l:List Rw):mF (gD l):=by simp[gD,Rw.row]
instance {l:List Rw}:ki (gD l) l.length:=⟨mA l⟩
end Go.UM
namespace Go.UM
open Go.AM
set_option maxRecDepth 4000
deriving instance DecidableEq for T3
deriving instance DecidableEq for my
deriving instance DecidableEq for mz
theorem T3.eq_iff {x y:T3}:(x.a==y.a&&(x.b==y.b&&x.c==y.c))=true↔x=y:=by
 cases x; cases y; simp
theorem T3.ne_iff {x y:T3}:(x.a==y.a&&(x.b==y.b&&x.c==y.c))=false↔x≠y:=by
 rw[←Bool.not_eq_true,T3.eq_iff]
theorem P2.eq_iff {x y:Int × Int}:(x.1==y.1&&x.2==y.2)=true↔x=y:=by
 cases x; cases y; simp
theorem P2.ne_iff {x y:Int × Int}:(x.1==y.1&&x.2==y.2)=false↔x≠y:=by
 rw[←Bool.not_eq_true,P2.eq_iff]
theorem r6 {α:Type} {l l':List α} {i:Nat} {x y:α} (h:l[i]? =some x) (h':l'[i]? =some y) (hn:x≠y):l≠l':=by
 intro e; subst e; rw[h]at h'; exact hn (Option.some.inj h')
theorem dp {α:Type} {l l':List α} {i:Nat} {x:α} (h:l[i]? =some x) (h':l'[i]? =some x) (e:l.take i=l'.take i):l.take (i+1)=l'.take (i+1):=by
 rw[az h,az h',e]
theorem eB {α:Type} {l l':List α} {i:Nat} (h:l.take i=l'.take i) (hi:l.length≤i) (e:l.length=l'.length):l=l':=by
 rwa[List.take_of_length_le hi,List.take_of_length_le (by omega)]at h
theorem Fg {R:Env} (h:Lj R) (l l':List T3) (hl:l.length≤1073741824):R.Pc 315 [.aH 3 (bD l),.aH 3 (bD l')] (.bool (decide (l=l'))):=
 h.QJ.enter 100 rfl fun X bb hfit hp=>by
  refine sh ?_
  refine cS (fun h1=> ?_) (fun h1=> ?_)
  ·refine sh ?_
   refine rT ?_
   all_goals repeat' (first|exact True.intro|refine And.intro ?_ ?_|(intro _u; clear _u)|(with_reducible first|exact ai.fg|refine eM ?_ ?_|refine eF ?_ ?_ ?_|refine eN ?_|refine eL ?_ ?_ ?_|refine eA ?_ ?_|refine aj.mk ⟨_,hp,rfl⟩ ?_ ?_)|refine aj.mk ⟨_,hp,rfl⟩ ?_ ?_)
   all_goals try first|with_reducible rfl|omega|exact .inl (by decide)|(simp; done)|rfl
   refine (decide_eq_false ?_).symm
   exact fun e=>h1 (by simp[e])
  ·refine sh ?_
   refine gk 100 (fun i:Nat=>i≤l.length∧l.take i=l'.take i) (fun i=>⟨[(0,.aH 3 (bD l)),(1,.aH 3 (bD l')),(12,.int .i64 l.length),(13,.int .i64 i)],[],0⟩) (fun i=>l.length - i) (0) ?_ ?_
   ·exact⟨Nat.zero_le _,rfl⟩
   ·intro i hi
    dsimp only
    refine sh ?_
    refine cS (fun h2=> ?_) (fun h2=> ?_)
    ·obtain⟨x,hx⟩:∃u,l[i]? =some u:=⟨_,List.getElem?_eq_getElem (by omega)⟩
     obtain⟨y,hy⟩:∃u,l'[i]? =some u:=⟨_,List.getElem?_eq_getElem (by omega)⟩
     refine sh ?_
     refine ab hx ?_
     refine sh ?_
     refine ab hy ?_
     refine sh ?_
     refine cS (fun h3=> ?_) (fun h3=> ?_)
     ·refine sh ?_
      refine rT ?_
      all_goals repeat' (first|exact True.intro|refine And.intro ?_ ?_|(intro _u; clear _u)|(with_reducible first|exact ai.fg|refine eM ?_ ?_|refine eF ?_ ?_ ?_|refine eN ?_|refine eL ?_ ?_ ?_|refine eA ?_ ?_|refine aj.mk ⟨_,hp,rfl⟩ ?_ ?_)|refine aj.mk ⟨_,hp,rfl⟩ ?_ ?_)
      all_goals try first|with_reducible rfl|omega|exact .inl (by decide)|(simp; done)|rfl
      refine (decide_eq_false ?_).symm
      exact r6 hx hy (T3.ne_iff.1 h3)
     ·have e:=T3.eq_iff.1 h3
      subst e
      refine sh ?_
      refine kq (i+1) ?_ ?_
      ·exact⟨by omega,dp hx hy hi.2⟩
      ·omega
    ·refine sh ?_
     refine rT ?_
     all_goals repeat' (first|exact True.intro|refine And.intro ?_ ?_|(intro _u; clear _u)|(with_reducible first|exact ai.fg|refine eM ?_ ?_|refine eF ?_ ?_ ?_|refine eN ?_|refine eL ?_ ?_ ?_|refine eA ?_ ?_|refine aj.mk ⟨_,hp,rfl⟩ ?_ ?_)|refine aj.mk ⟨_,hp,rfl⟩ ?_ ?_)
     all_goals try first|with_reducible rfl|omega|exact .inl (by decide)|(simp; done)|rfl
     refine (decide_eq_true ?_).symm
     exact eB hi.2 (by omega) (by omega)
theorem xz {R:Env} (h:Ll R) (l l':List T3) (hl:l.length≤1073741824):R.Pc 317 [.aH 3 (bD l),.aH 3 (bD l')] (.bool (decide (l=l'))):=
 h.Lm.enter 100 rfl fun X bb hfit hp=>by
  refine sh ?_
  refine cS (fun h1=> ?_) (fun h1=> ?_)
  ·refine sh ?_
   refine rT ?_
   all_goals repeat' (first|exact True.intro|refine And.intro ?_ ?_|(intro _u; clear _u)|(with_reducible first|exact ai.fg|refine eM ?_ ?_|refine eF ?_ ?_ ?_|refine eN ?_|refine eL ?_ ?_ ?_|refine eA ?_ ?_|refine aj.mk ⟨_,hp,rfl⟩ ?_ ?_)|refine aj.mk ⟨_,hp,rfl⟩ ?_ ?_)
   all_goals try first|with_reducible rfl|omega|exact .inl (by decide)|(simp; done)|rfl
   refine (decide_eq_false ?_).symm
   exact fun e=>h1 (by simp[e])
  ·refine sh ?_
   refine gk 100 (fun i:Nat=>i≤l.length∧l.take i=l'.take i) (fun i=>⟨[(0,.aH 3 (bD l)),(1,.aH 3 (bD l')),(12,.int .i64 l.length),(13,.int .i64 i)],[],0⟩) (fun i=>l.length - i) (0) ?_ ?_
   ·exact⟨Nat.zero_le _,rfl⟩
   ·intro i hi
    dsimp only
    refine sh ?_
    refine cS (fun h2=> ?_) (fun h2=> ?_)
    ·obtain⟨x,hx⟩:∃u,l[i]? =some u:=⟨_,List.getElem?_eq_getElem (by omega)⟩
     obtain⟨y,hy⟩:∃u,l'[i]? =some u:=⟨_,List.getElem?_eq_getElem (by omega)⟩
     refine sh ?_
     refine ab hx ?_
     refine sh ?_
     refine ab hy ?_
     refine sh ?_
     refine cS (fun h3=> ?_) (fun h3=> ?_)
     ·refine sh ?_
      refine rT ?_
      all_goals repeat' (first|exact True.intro|refine And.intro ?_ ?_|(intro _u; clear _u)|(with_reducible first|exact ai.fg|refine eM ?_ ?_|refine eF ?_ ?_ ?_|refine eN ?_|refine eL ?_ ?_ ?_|refine eA ?_ ?_|refine aj.mk ⟨_,hp,rfl⟩ ?_ ?_)|refine aj.mk ⟨_,hp,rfl⟩ ?_ ?_)
      all_goals try first|with_reducible rfl|omega|exact .inl (by decide)|(simp; done)|rfl
      refine (decide_eq_false ?_).symm
      exact r6 hx hy (T3.ne_iff.1 h3)
     ·have e:=T3.eq_iff.1 h3
      subst e
      refine sh ?_
      refine kq (i+1) ?_ ?_
      ·exact⟨by omega,dp hx hy hi.2⟩
      ·omega
    ·refine sh ?_
     refine rT ?_
     all_goals repeat' (first|exact True.intro|refine And.intro ?_ ?_|(intro _u; clear _u)|(with_reducible first|exact ai.fg|refine eM ?_ ?_|refine eF ?_ ?_ ?_|refine eN ?_|refine eL ?_ ?_ ?_|refine eA ?_ ?_|refine aj.mk ⟨_,hp,rfl⟩ ?_ ?_)|refine aj.mk ⟨_,hp,rfl⟩ ?_ ?_)
     all_goals try first|with_reducible rfl|omega|exact .inl (by decide)|(simp; done)|rfl
     refine (decide_eq_true ?_).symm
     exact eB hi.2 (by omega) (by omega)
theorem Fh {R:Env} (h:Lk R) (l l':List (Int × Int)) (hl:l.length≤1073741824):R.Pc 316 [.aH 2 (dL l),.aH 2 (dL l')] (.bool (decide (l=l'))):=
 h.QL.enter 100 rfl fun X bb hfit hp=>by
  refine sh ?_
  refine cS (fun h1=> ?_) (fun h1=> ?_)
  ·refine sh ?_
   refine rT ?_
   all_goals repeat' (first|exact True.intro|refine And.intro ?_ ?_|(intro _u; clear _u)|(with_reducible first|exact ai.fg|refine eM ?_ ?_|refine eF ?_ ?_ ?_|refine eN ?_|refine eL ?_ ?_ ?_|refine eA ?_ ?_|refine aj.mk ⟨_,hp,rfl⟩ ?_ ?_)|refine aj.mk ⟨_,hp,rfl⟩ ?_ ?_)
   all_goals try first|with_reducible rfl|omega|exact .inl (by decide)|(simp; done)|rfl
   refine (decide_eq_false ?_).symm
   exact fun e=>h1 (by simp[e])
  ·refine sh ?_
   refine gk 100 (fun i:Nat=>i≤l.length∧l.take i=l'.take i) (fun i=>⟨[(0,.aH 2 (dL l)),(1,.aH 2 (dL l')),(12,.int .i64 l.length),(13,.int .i64 i)],[],0⟩) (fun i=>l.length - i) (0) ?_ ?_
   ·exact⟨Nat.zero_le _,rfl⟩
   ·intro i hi
    dsimp only
    refine sh ?_
    refine cS (fun h2=> ?_) (fun h2=> ?_)
    ·obtain⟨x,hx⟩:∃u,l[i]? =some u:=⟨_,List.getElem?_eq_getElem (by omega)⟩
     obtain⟨y,hy⟩:∃u,l'[i]? =some u:=⟨_,List.getElem?_eq_getElem (by omega)⟩
     refine sh ?_
     refine ab hx ?_
     refine sh ?_
     refine ab hy ?_
     refine sh ?_
     refine cS (fun h3=> ?_) (fun h3=> ?_)
     ·refine sh ?_
      refine rT ?_
      all_goals repeat' (first|exact True.intro|refine And.intro ?_ ?_|(intro _u; clear _u)|(with_reducible first|exact ai.fg|refine eM ?_ ?_|refine eF ?_ ?_ ?_|refine eN ?_|refine eL ?_ ?_ ?_|refine eA ?_ ?_|refine aj.mk ⟨_,hp,rfl⟩ ?_ ?_)|refine aj.mk ⟨_,hp,rfl⟩ ?_ ?_)
      all_goals try first|with_reducible rfl|omega|exact .inl (by decide)|(simp; done)|rfl
      refine (decide_eq_false ?_).symm
      exact r6 hx hy (P2.ne_iff.1 h3)
     ·have e:=P2.eq_iff.1 h3
      subst e
      refine sh ?_
      refine kq (i+1) ?_ ?_
      ·exact⟨by omega,dp hx hy hi.2⟩
      ·omega
    ·refine sh ?_
     refine rT ?_
     all_goals repeat' (first|exact True.intro|refine And.intro ?_ ?_|(intro _u; clear _u)|(with_reducible first|exact ai.fg|refine eM ?_ ?_|refine eF ?_ ?_ ?_|refine eN ?_|refine eL ?_ ?_ ?_|refine eA ?_ ?_|refine aj.mk ⟨_,hp,rfl⟩ ?_ ?_)|refine aj.mk ⟨_,hp,rfl⟩ ?_ ?_)
     all_goals try first|with_reducible rfl|omega|exact .inl (by decide)|(simp; done)|rfl
     refine (decide_eq_true ?_).symm
     exact eB hi.2 (by omega) (by omega)
theorem my.eq_iff {x y:my}:(x.k==y.k&&(x.c.a==y.c.a&&(x.c.b==y.c.b&&(x.c.c==y.c.c&&x.r==y.r))))=true↔x=y:=by
 obtain⟨_,⟨_,_,_⟩,_⟩:=x; obtain⟨_,⟨_,_,_⟩,_⟩:=y; simp[and_assoc]
theorem my.ne_iff {x y:my}:(x.k==y.k&&(x.c.a==y.c.a&&(x.c.b==y.c.b&&(x.c.c==y.c.c&&x.r==y.r))))=false↔x≠y:=by
 rw[←Bool.not_eq_true,my.eq_iff]
theorem mz.eq_iff {x y:mz}:(x.k==y.k&&(x.c.a==y.c.a&&(x.c.b==y.c.b&&(x.c.c==y.c.c&&(x.p.a==y.p.a&&(x.p.b==y.p.b&&(x.p.c==y.p.c&&(x.u.a==y.u.a&&(x.u.b==y.u.b&&(x.u.c==y.u.c&&(x.v.a==y.v.a&&(x.v.b==y.v.b&&x.v.c==y.v.c))))))))))))=true↔x=y:=by
 obtain⟨_,⟨_,_,_⟩,⟨_,_,_⟩,⟨_,_,_⟩,⟨_,_,_⟩⟩:=x; obtain⟨_,⟨_,_,_⟩,⟨_,_,_⟩,⟨_,_,_⟩,⟨_,_,_⟩⟩:=y; simp[and_assoc]
theorem mz.ne_iff {x y:mz}:(x.k==y.k&&(x.c.a==y.c.a&&(x.c.b==y.c.b&&(x.c.c==y.c.c&&(x.p.a==y.p.a&&(x.p.b==y.p.b&&(x.p.c==y.p.c&&(x.u.a==y.u.a&&(x.u.b==y.u.b&&(x.u.c==y.u.c&&(x.v.a==y.v.a&&(x.v.b==y.v.b&&x.v.c==y.v.c))))))))))))=false↔x≠y:=by
 rw[←Bool.not_eq_true,mz.eq_iff]
structure As.vR (a:As):Prop where
 v:a.m.v.length≤1000
 uv:a.m.uv.length≤1000
 t:a.m.t.length≤1000
 x:a.x.t.length≤1000
def cE (a b:As):Bool:=decide (a.k=b.k∧a.mt=b.mt∧a.li=b.li∧a.x.side=b.x.side∧a.m.v=b.m.v∧a.m.uv=b.m.uv∧a.m.t=b.m.t∧a.x.t=b.x.t)
theorem MT {R:Env} (h:Ln R) (a b:As) (f:a.vR):R.Pc 298 [.agg a.row,.agg b.row] (.bool (cE a b)):=
 h.QO.enter 100 rfl fun X bb hfit hp=>by
  refine sh ?_
  refine cS (fun h1=> ?_) (fun h1=> ?_)
  ·refine sh ?_
   refine rT ?_
   all_goals repeat' (first|exact True.intro|refine And.intro ?_ ?_|(intro _u; clear _u)|(with_reducible first|exact ai.fg|refine eM ?_ ?_|refine eF ?_ ?_ ?_|refine eN ?_|refine eL ?_ ?_ ?_|refine eA ?_ ?_|refine aj.mk ⟨_,hp,rfl⟩ ?_ ?_)|refine aj.mk ⟨_,hp,rfl⟩ ?_ ?_)
   all_goals try first|with_reducible rfl|omega|exact .inl (by decide)|(simp; done)|rfl
   exact (decide_eq_false fun e=>h1 e.1).symm
  ·refine sh ?_
   refine cS (fun h2=> ?_) (fun h2=> ?_)
   ·refine sh ?_
    refine rT ?_
    all_goals repeat' (first|exact True.intro|refine And.intro ?_ ?_|(intro _u; clear _u)|(with_reducible first|exact ai.fg|refine eM ?_ ?_|refine eF ?_ ?_ ?_|refine eN ?_|refine eL ?_ ?_ ?_|refine eA ?_ ?_|refine aj.mk ⟨_,hp,rfl⟩ ?_ ?_)|refine aj.mk ⟨_,hp,rfl⟩ ?_ ?_)
    all_goals try first|with_reducible rfl|omega|exact .inl (by decide)|(simp; done)|rfl
    exact (decide_eq_false fun e=>my.ne_iff.1 h2 e.2.1).symm
   ·refine sh ?_
    refine cS (fun h3=> ?_) (fun h3=> ?_)
    ·refine sh ?_
     refine rT ?_
     all_goals repeat' (first|exact True.intro|refine And.intro ?_ ?_|(intro _u; clear _u)|(with_reducible first|exact ai.fg|refine eM ?_ ?_|refine eF ?_ ?_ ?_|refine eN ?_|refine eL ?_ ?_ ?_|refine eA ?_ ?_|refine aj.mk ⟨_,hp,rfl⟩ ?_ ?_)|refine aj.mk ⟨_,hp,rfl⟩ ?_ ?_)
     all_goals try first|with_reducible rfl|omega|exact .inl (by decide)|(simp; done)|rfl
     exact (decide_eq_false fun e=>mz.ne_iff.1 h3 e.2.2.1).symm
    ·refine sh ?_
     refine cS (fun h4=> ?_) (fun h4=> ?_)
     ·refine sh ?_
      refine rT ?_
      all_goals repeat' (first|exact True.intro|refine And.intro ?_ ?_|(intro _u; clear _u)|(with_reducible first|exact ai.fg|refine eM ?_ ?_|refine eF ?_ ?_ ?_|refine eN ?_|refine eL ?_ ?_ ?_|refine eA ?_ ?_|refine aj.mk ⟨_,hp,rfl⟩ ?_ ?_)|refine aj.mk ⟨_,hp,rfl⟩ ?_ ?_)
      all_goals try first|with_reducible rfl|omega|exact .inl (by decide)|(simp; done)|rfl
      exact (decide_eq_false fun e=>h4 e.2.2.2.1).symm
     ·refine sh ?_
      refine ae.pure h.n315.QJ.hb (Fg h.n315 a.m.v b.m.v (by have:=f.v; omega)) rfl ?_
      refine sh ?_
      refine cS (fun h5=> ?_) (fun h5=> ?_)
      ·refine sh ?_
       refine ae.pure h.n316.QL.hb (Fh h.n316 a.m.uv b.m.uv (by have:=f.uv; omega)) rfl ?_
       refine sh ?_
       refine cS (fun h6=> ?_) (fun h6=> ?_)
       ·refine sh ?_
        refine ae.pure h.n317.Lm.hb (xz h.n317 a.m.t b.m.t (by have:=f.t; omega)) rfl ?_
        refine sh ?_
        refine cS (fun h7=> ?_) (fun h7=> ?_)
        ·refine sh ?_
         refine ae.pure h.n317.Lm.hb (xz h.n317 a.x.t b.x.t (by have:=f.x; omega)) rfl ?_
         refine sh ?_
         refine rT ?_
         all_goals repeat' (first|exact True.intro|refine And.intro ?_ ?_|(intro _u; clear _u)|(with_reducible first|exact ai.fg|refine eM ?_ ?_|refine eF ?_ ?_ ?_|refine eN ?_|refine eL ?_ ?_ ?_|refine eA ?_ ?_|refine aj.mk ⟨_,hp,rfl⟩ ?_ ?_)|refine aj.mk ⟨_,hp,rfl⟩ ?_ ?_)
         all_goals try first|with_reducible rfl|omega|exact .inl (by decide)|(simp; done)|rfl
         simp[cE,h1,my.eq_iff.1 h2,mz.eq_iff.1 h3,h4,h5,h6,h7]
        ·refine sh ?_
         refine rT ?_
         all_goals repeat' (first|exact True.intro|refine And.intro ?_ ?_|(intro _u; clear _u)|(with_reducible first|exact ai.fg|refine eM ?_ ?_|refine eF ?_ ?_ ?_|refine eN ?_|refine eL ?_ ?_ ?_|refine eA ?_ ?_|refine aj.mk ⟨_,hp,rfl⟩ ?_ ?_)|refine aj.mk ⟨_,hp,rfl⟩ ?_ ?_)
         all_goals try first|with_reducible rfl|omega|exact .inl (by decide)|(simp; done)|rfl
         exact (decide_eq_false fun e=>h7 e.2.2.2.2.2.2.1).symm
       ·refine sh ?_
        refine rT ?_
        all_goals repeat' (first|exact True.intro|refine And.intro ?_ ?_|(intro _u; clear _u)|(with_reducible first|exact ai.fg|refine eM ?_ ?_|refine eF ?_ ?_ ?_|refine eN ?_|refine eL ?_ ?_ ?_|refine eA ?_ ?_|refine aj.mk ⟨_,hp,rfl⟩ ?_ ?_)|refine aj.mk ⟨_,hp,rfl⟩ ?_ ?_)
        all_goals try first|with_reducible rfl|omega|exact .inl (by decide)|(simp; done)|rfl
        exact (decide_eq_false fun e=>h6 e.2.2.2.2.2.1).symm
      ·refine sh ?_
       refine rT ?_
       all_goals repeat' (first|exact True.intro|refine And.intro ?_ ?_|(intro _u; clear _u)|(with_reducible first|exact ai.fg|refine eM ?_ ?_|refine eF ?_ ?_ ?_|refine eN ?_|refine eL ?_ ?_ ?_|refine eA ?_ ?_|refine aj.mk ⟨_,hp,rfl⟩ ?_ ?_)|refine aj.mk ⟨_,hp,rfl⟩ ?_ ?_)
       all_goals try first|with_reducible rfl|omega|exact .inl (by decide)|(simp; done)|rfl
       exact (decide_eq_false fun e=>h5 e.2.2.2.2.1).symm
theorem Ch {R:Env} (h:LY R) (m n:Ms) (l1:m.v.length≤1000) (l2:m.uv.length≤1000) (l3:m.t.length≤1000):R.Pc 204 [.agg m.row,.agg n.row] (.bool (decide (m.v=n.v∧m.uv=n.uv∧m.t=n.t))):=
 h.R5.enter 100 rfl fun X bb hfit hp=>by
  refine sh ?_
  refine cS (fun h1=> ?_) (fun h1=> ?_)
  ·refine sh ?_
   refine rT ?_
   all_goals repeat' (first|exact True.intro|refine And.intro ?_ ?_|(intro _u; clear _u)|(with_reducible first|exact ai.fg|refine eM ?_ ?_|refine eF ?_ ?_ ?_|refine eN ?_|refine eL ?_ ?_ ?_|refine eA ?_ ?_|refine aj.mk ⟨_,hp,rfl⟩ ?_ ?_)|refine aj.mk ⟨_,hp,rfl⟩ ?_ ?_)
   all_goals try first|with_reducible rfl|omega|exact .inl (by decide)|(simp; done)|rfl
   exact (decide_eq_false fun e=>h1 (by rw[e.1])).symm
  ·refine sh ?_
   refine cS (fun h2=> ?_) (fun h2=> ?_)
   ·refine sh ?_
    refine rT ?_
    all_goals repeat' (first|exact True.intro|refine And.intro ?_ ?_|(intro _u; clear _u)|(with_reducible first|exact ai.fg|refine eM ?_ ?_|refine eF ?_ ?_ ?_|refine eN ?_|refine eL ?_ ?_ ?_|refine eA ?_ ?_|refine aj.mk ⟨_,hp,rfl⟩ ?_ ?_)|refine aj.mk ⟨_,hp,rfl⟩ ?_ ?_)
    all_goals try first|with_reducible rfl|omega|exact .inl (by decide)|(simp; done)|rfl
    exact (decide_eq_false fun e=>h2 (by rw[e.2.1])).symm
   ·refine sh ?_
    refine cS (fun h3=> ?_) (fun h3=> ?_)
    ·refine sh ?_
     refine rT ?_
     all_goals repeat' (first|exact True.intro|refine And.intro ?_ ?_|(intro _u; clear _u)|(with_reducible first|exact ai.fg|refine eM ?_ ?_|refine eF ?_ ?_ ?_|refine eN ?_|refine eL ?_ ?_ ?_|refine eA ?_ ?_|refine aj.mk ⟨_,hp,rfl⟩ ?_ ?_)|refine aj.mk ⟨_,hp,rfl⟩ ?_ ?_)
     all_goals try first|with_reducible rfl|omega|exact .inl (by decide)|(simp; done)|rfl
     exact (decide_eq_false fun e=>h3 (by rw[e.2.2])).symm
    ·refine sh ?_
     refine gk 100 (fun i:Nat=>i≤m.v.length∧m.v.take i=n.v.take i) (fun i=>⟨[(2,.loc 0 1 0 0),(3,.loc 1 1 0 0),(5,.int .i64 i)],[(1,.var (R.ty 25) n.row),(0,.var (R.ty 25) m.row)],2⟩) (fun i=>m.v.length - i) (0) ?_ ?_
     ·exact⟨Nat.zero_le _,rfl⟩
     ·intro i hi
      dsimp only
      refine sh ?_
      refine cS (fun g1=> ?_) (fun g1=> ?_)
      ·obtain⟨x,hx⟩:∃u,m.v[i]? =some u:=⟨_,List.getElem?_eq_getElem (by omega)⟩
       obtain⟨y,hy⟩:∃u,n.v[i]? =some u:=⟨_,List.getElem?_eq_getElem (by omega)⟩
       refine sh ?_
       refine ab hx ?_
       refine sh ?_
       refine ab hy ?_
       refine sh ?_
       refine cS (fun g2=> ?_) (fun g2=> ?_)
       ·refine sh ?_
        refine rT ?_
        all_goals repeat' (first|exact True.intro|refine And.intro ?_ ?_|(intro _u; clear _u)|(with_reducible first|exact ai.fg|refine eM ?_ ?_|refine eF ?_ ?_ ?_|refine eN ?_|refine eL ?_ ?_ ?_|refine eA ?_ ?_|refine aj.mk ⟨_,hp,rfl⟩ ?_ ?_)|refine aj.mk ⟨_,hp,rfl⟩ ?_ ?_)
        all_goals try first|with_reducible rfl|omega|exact .inl (by decide)|(simp; done)|rfl
        exact (decide_eq_false fun e=>r6 hx hy (T3.ne_iff.1 g2) e.1).symm
       ·have e:=T3.eq_iff.1 g2
        subst e
        refine sh ?_
        refine kq (i+1) ?_ ?_
        ·exact⟨by omega,dp hx hy hi.2⟩
        ·omega
      ·have ev:=eB hi.2 (by omega) (by omega)
       refine sh ?_
       refine gk 100 (fun i:Nat=>i≤m.uv.length∧m.uv.take i=n.uv.take i) (fun i=>⟨[(2,.loc 0 1 0 0),(3,.loc 1 1 0 0),(6,.int .i64 i)],[(1,.var (R.ty 25) n.row),(0,.var (R.ty 25) m.row)],2⟩) (fun i=>m.uv.length - i) (0) ?_ ?_
       ·exact⟨Nat.zero_le _,rfl⟩
       ·intro i hi
        dsimp only
        refine sh ?_
        refine cS (fun g3=> ?_) (fun g3=> ?_)
        ·obtain⟨x,hx⟩:∃u,m.uv[i]? =some u:=⟨_,List.getElem?_eq_getElem (by omega)⟩
         obtain⟨y,hy⟩:∃u,n.uv[i]? =some u:=⟨_,List.getElem?_eq_getElem (by omega)⟩
         refine sh ?_
         refine ab hx ?_
         refine sh ?_
         refine ab hy ?_
         refine sh ?_
         refine cS (fun g4=> ?_) (fun g4=> ?_)
         ·refine sh ?_
          refine rT ?_
          all_goals repeat' (first|exact True.intro|refine And.intro ?_ ?_|(intro _u; clear _u)|(with_reducible first|exact ai.fg|refine eM ?_ ?_|refine eF ?_ ?_ ?_|refine eN ?_|refine eL ?_ ?_ ?_|refine eA ?_ ?_|refine aj.mk ⟨_,hp,rfl⟩ ?_ ?_)|refine aj.mk ⟨_,hp,rfl⟩ ?_ ?_)
          all_goals try first|with_reducible rfl|omega|exact .inl (by decide)|(simp; done)|rfl
          exact (decide_eq_false fun e=>r6 hx hy (P2.ne_iff.1 g4) e.2.1).symm
         ·have e:=P2.eq_iff.1 g4
          subst e
          refine sh ?_
          refine kq (i+1) ?_ ?_
          ·exact⟨by omega,dp hx hy hi.2⟩
          ·omega
        ·have eu:=eB hi.2 (by omega) (by omega)
         refine sh ?_
         refine gk 100 (fun i:Nat=>i≤m.t.length∧m.t.take i=n.t.take i) (fun i=>⟨[(2,.loc 0 1 0 0),(3,.loc 1 1 0 0),(7,.int .i64 i)],[(1,.var (R.ty 25) n.row),(0,.var (R.ty 25) m.row)],2⟩) (fun i=>m.t.length - i) (0) ?_ ?_
         ·exact⟨Nat.zero_le _,rfl⟩
         ·intro i hi
          dsimp only
          refine sh ?_
          refine cS (fun g5=> ?_) (fun g5=> ?_)
          ·obtain⟨x,hx⟩:∃u,m.t[i]? =some u:=⟨_,List.getElem?_eq_getElem (by omega)⟩
           obtain⟨y,hy⟩:∃u,n.t[i]? =some u:=⟨_,List.getElem?_eq_getElem (by omega)⟩
           refine sh ?_
           refine ab hx ?_
           refine sh ?_
           refine ab hy ?_
           refine sh ?_
           refine cS (fun g6=> ?_) (fun g6=> ?_)
           ·refine sh ?_
            refine rT ?_
            all_goals repeat' (first|exact True.intro|refine And.intro ?_ ?_|(intro _u; clear _u)|(with_reducible first|exact ai.fg|refine eM ?_ ?_|refine eF ?_ ?_ ?_|refine eN ?_|refine eL ?_ ?_ ?_|refine eA ?_ ?_|refine aj.mk ⟨_,hp,rfl⟩ ?_ ?_)|refine aj.mk ⟨_,hp,rfl⟩ ?_ ?_)
            all_goals try first|with_reducible rfl|omega|exact .inl (by decide)|(simp; done)|rfl
            exact (decide_eq_false fun e=>r6 hx hy (T3.ne_iff.1 g6) e.2.2).symm
           ·have e:=T3.eq_iff.1 g6
            subst e
            refine sh ?_
            refine kq (i+1) ?_ ?_
            ·exact⟨by omega,dp hx hy hi.2⟩
            ·omega
          ·have et:=eB hi.2 (by omega) (by omega)
           refine sh ?_
           refine rT ?_
           all_goals repeat' (first|exact True.intro|refine And.intro ?_ ?_|(intro _u; clear _u)|(with_reducible first|exact ai.fg|refine eM ?_ ?_|refine eF ?_ ?_ ?_|refine eN ?_|refine eL ?_ ?_ ?_|refine eA ?_ ?_|refine aj.mk ⟨_,hp,rfl⟩ ?_ ?_)|refine aj.mk ⟨_,hp,rfl⟩ ?_ ?_)
           all_goals try first|with_reducible rfl|omega|exact .inl (by decide)|(simp; done)|rfl
           exact (decide_eq_true ⟨ev,eu,et⟩).symm
theorem Ci {R:Env} (h:Wy R) (t u:nV) (hl:t.t.length≤1000):R.Pc 89 [.agg t.row,.agg u.row] (.bool (decide (t.side=u.side∧t.t=u.t))):=
 h.o89.enter 200 rfl fun X bb hfit hp=>by
  refine sh ?_
  refine cS (fun h1=> ?_) (fun h1=> ?_)
  ·refine sh ?_
   refine rT ?_
   all_goals repeat' (first|exact True.intro|refine And.intro ?_ ?_|(intro _u; clear _u)|(with_reducible first|exact ai.fg|refine eM ?_ ?_|refine eF ?_ ?_ ?_|refine eN ?_|refine eL ?_ ?_ ?_|refine eA ?_ ?_|refine aj.mk ⟨_,hp,rfl⟩ ?_ ?_)|refine aj.mk ⟨_,hp,rfl⟩ ?_ ?_)
   all_goals try first|with_reducible rfl|omega|exact .inl (by decide)|(simp; done)|rfl
   exact (decide_eq_false fun e=>h1 e.1).symm
  ·refine sh ?_
   refine cS (fun h2=> ?_) (fun h2=> ?_)
   ·refine sh ?_
    refine rT ?_
    all_goals repeat' (first|exact True.intro|refine And.intro ?_ ?_|(intro _u; clear _u)|(with_reducible first|exact ai.fg|refine eM ?_ ?_|refine eF ?_ ?_ ?_|refine eN ?_|refine eL ?_ ?_ ?_|refine eA ?_ ?_|refine aj.mk ⟨_,hp,rfl⟩ ?_ ?_)|refine aj.mk ⟨_,hp,rfl⟩ ?_ ?_)
    all_goals try first|with_reducible rfl|omega|exact .inl (by decide)|(simp; done)|rfl
    exact (decide_eq_false fun e=>h2 (by rw[e.2])).symm
   ·refine sh ?_
    refine gk 100 (fun i:Nat=>i≤t.t.length∧t.t.take i=u.t.take i) (fun i=>⟨[(2,.loc 0 1 0 0),(3,.loc 1 1 0 0),(5,.int .i64 i)],[(0,.var (R.ty 12) t.row),(1,.var (R.ty 12) u.row)],2⟩) (fun i=>t.t.length - i) (0) ?_ ?_
    ·exact⟨Nat.zero_le _,rfl⟩
    ·intro i hi
     dsimp only
     refine sh ?_
     refine cS (fun g1=> ?_) (fun g1=> ?_)
     ·obtain⟨x,hx⟩:∃v,t.t[i]? =some v:=⟨_,List.getElem?_eq_getElem (by omega)⟩
      obtain⟨y,hy⟩:∃v,u.t[i]? =some v:=⟨_,List.getElem?_eq_getElem (by omega)⟩
      refine sh ?_
      refine ab hx ?_
      refine sh ?_
      refine ab hy ?_
      refine sh ?_
      refine cS (fun g2=> ?_) (fun g2=> ?_)
      ·refine sh ?_
       refine rT ?_
       all_goals repeat' (first|exact True.intro|refine And.intro ?_ ?_|(intro _u; clear _u)|(with_reducible first|exact ai.fg|refine eM ?_ ?_|refine eF ?_ ?_ ?_|refine eN ?_|refine eL ?_ ?_ ?_|refine eA ?_ ?_|refine aj.mk ⟨_,hp,rfl⟩ ?_ ?_)|refine aj.mk ⟨_,hp,rfl⟩ ?_ ?_)
       all_goals try first|with_reducible rfl|omega|exact .inl (by decide)|(simp; done)|rfl
       exact (decide_eq_false fun e=>r6 hx hy (T3.ne_iff.1 g2) e.2).symm
      ·have e:=T3.eq_iff.1 g2
       subst e
       refine sh ?_
       refine kq (i+1) ?_ ?_
       ·exact⟨by omega,dp hx hy hi.2⟩
       ·omega
     ·have et:=eB hi.2 (by omega) (by omega)
      refine sh ?_
      refine rT ?_
      all_goals repeat' (first|exact True.intro|refine And.intro ?_ ?_|(intro _u; clear _u)|(with_reducible first|exact ai.fg|refine eM ?_ ?_|refine eF ?_ ?_ ?_|refine eN ?_|refine eL ?_ ?_ ?_|refine eA ?_ ?_|refine aj.mk ⟨_,hp,rfl⟩ ?_ ?_)|refine aj.mk ⟨_,hp,rfl⟩ ?_ ?_)
      all_goals try first|with_reducible rfl|omega|exact .inl (by decide)|(simp; done)|rfl
      exact (decide_eq_true ⟨h1,et⟩).symm
theorem If {R:Env} (h:L8 R) (a b:As) (f:a.vR):R.Pc 299 [.agg a.row,.agg b.row] (.bool (cE a b)):=
 h.Sg.enter 200 rfl fun X bb hfit hp=>by
  refine sh ?_
  refine cS (fun h1=> ?_) (fun h1=> ?_)
  ·refine sh ?_
   refine ae.pure h.n204.R5.hb (Ch h.n204 a.m b.m f.v f.uv f.t) rfl ?_
   refine sh ?_
   refine cS (fun h2=> ?_) (fun h2=> ?_)
   ·refine sh ?_
    refine ae.pure h.Us.o89.hb (Ci h.Us a.x b.x f.x) rfl ?_
    refine sh ?_
    refine cS (fun h3=> ?_) (fun h3=> ?_)
    ·refine sh ?_
     refine cS (fun h4=> ?_) (fun h4=> ?_)
     ·refine sh ?_
      refine rT ?_
      all_goals repeat' (first|exact True.intro|refine And.intro ?_ ?_|(intro _u; clear _u)|(with_reducible first|exact ai.fg|refine eM ?_ ?_|refine eF ?_ ?_ ?_|refine eN ?_|refine eL ?_ ?_ ?_|refine eA ?_ ?_|refine aj.mk ⟨_,hp,rfl⟩ ?_ ?_)|refine aj.mk ⟨_,hp,rfl⟩ ?_ ?_)
      all_goals try first|with_reducible rfl|omega|exact .inl (by decide)|(simp; done)|rfl
      rw[Bool.eq_iff_iff,mz.eq_iff]; simp[cE,h1,my.eq_iff.1 h4,h2,h3]
     ·refine sh ?_
      refine rT ?_
      all_goals repeat' (first|exact True.intro|refine And.intro ?_ ?_|(intro _u; clear _u)|(with_reducible first|exact ai.fg|refine eM ?_ ?_|refine eF ?_ ?_ ?_|refine eN ?_|refine eL ?_ ?_ ?_|refine eA ?_ ?_|refine aj.mk ⟨_,hp,rfl⟩ ?_ ?_)|refine aj.mk ⟨_,hp,rfl⟩ ?_ ?_)
      all_goals try first|with_reducible rfl|omega|exact .inl (by decide)|(simp; done)|rfl
      exact (decide_eq_false fun e=>my.ne_iff.1 h4 e.2.1).symm
    ·refine sh ?_
     refine rT ?_
     all_goals repeat' (first|exact True.intro|refine And.intro ?_ ?_|(intro _u; clear _u)|(with_reducible first|exact ai.fg|refine eM ?_ ?_|refine eF ?_ ?_ ?_|refine eN ?_|refine eL ?_ ?_ ?_|refine eA ?_ ?_|refine aj.mk ⟨_,hp,rfl⟩ ?_ ?_)|refine aj.mk ⟨_,hp,rfl⟩ ?_ ?_)
     all_goals try first|with_reducible rfl|omega|exact .inl (by decide)|(simp; done)|rfl
     exact (decide_eq_false fun e=>h3 ⟨e.2.2.2.1,e.2.2.2.2.2.2.2⟩).symm
   ·refine sh ?_
    refine rT ?_
    all_goals repeat' (first|exact True.intro|refine And.intro ?_ ?_|(intro _u; clear _u)|(with_reducible first|exact ai.fg|refine eM ?_ ?_|refine eF ?_ ?_ ?_|refine eN ?_|refine eL ?_ ?_ ?_|refine eA ?_ ?_|refine aj.mk ⟨_,hp,rfl⟩ ?_ ?_)|refine aj.mk ⟨_,hp,rfl⟩ ?_ ?_)
    all_goals try first|with_reducible rfl|omega|exact .inl (by decide)|(simp; done)|rfl
    exact (decide_eq_false fun e=>h2 ⟨e.2.2.2.2.1,e.2.2.2.2.2.1,e.2.2.2.2.2.2.1⟩).symm
  ·refine sh ?_
   refine rT ?_
   all_goals repeat' (first|exact True.intro|refine And.intro ?_ ?_|(intro _u; clear _u)|(with_reducible first|exact ai.fg|refine eM ?_ ?_|refine eF ?_ ?_ ?_|refine eN ?_|refine eL ?_ ?_ ?_|refine eA ?_ ?_|refine aj.mk ⟨_,hp,rfl⟩ ?_ ?_)|refine aj.mk ⟨_,hp,rfl⟩ ?_ ?_)
   all_goals try first|with_reducible rfl|omega|exact .inl (by decide)|(simp; done)|rfl
   exact (decide_eq_false fun e=>h1 e.1).symm
end Go.UM
namespace Go.UM
open Go.AM
set_option maxRecDepth 4000
def cap (k:Int):Int:=if k=1 then 2048 else if k=2 then 1024 else if k=3∨k=4 then 64 else 0
theorem S9 {R:Env} (h:Wi R) (k:Int):R.Pc 37 [.int .i64 k] (.int .i64 (cap k)):=
 h.o37.enter 60 rfl fun X b hfit hp=>by
  refine sh ?_
  refine cS (fun h1=> ?_) (fun h1=> ?_)
  ·refine sh ?_
   refine rT ?_
   all_goals repeat' (first|exact True.intro|refine And.intro ?_ ?_|(intro _u; clear _u)|(with_reducible first|exact ai.fg|refine eM ?_ ?_|refine eF ?_ ?_ ?_|refine eN ?_|refine eL ?_ ?_ ?_|refine eA ?_ ?_|refine aj.mk ⟨_,hp,rfl⟩ ?_ ?_)|refine aj.mk ⟨_,hp,rfl⟩ ?_ ?_)
   all_goals try first|with_reducible rfl|omega|exact .inl (by decide)|(simp; done)|rfl
   simp[cap]; omega
  ·refine sh ?_
   refine cS (fun h2=> ?_) (fun h2=> ?_)
   ·refine sh ?_
    refine rT ?_
    all_goals repeat' (first|exact True.intro|refine And.intro ?_ ?_|(intro _u; clear _u)|(with_reducible first|exact ai.fg|refine eM ?_ ?_|refine eF ?_ ?_ ?_|refine eN ?_|refine eL ?_ ?_ ?_|refine eA ?_ ?_|refine aj.mk ⟨_,hp,rfl⟩ ?_ ?_)|refine aj.mk ⟨_,hp,rfl⟩ ?_ ?_)
    all_goals try first|with_reducible rfl|omega|exact .inl (by decide)|(simp; done)|rfl
    simp[cap]; omega
   ·refine st ?_
    obtain h3|h3|h3|h3|h3:k=0∨k=1∨k=2∨k=3∨k=4:=by omega
    all_goals subst h3
    ·refine sh ?_
     exact rT
    ·refine sh ?_
     exact rT
    ·refine sh ?_
     exact rT
    ·refine sh ?_
     exact rT
    ·refine sh ?_
     exact rT
theorem vB {R:Env} (h:Wt R) (k:Int):R.Pc 38 [.int .i64 k] (.int .i64 (cap k)):=
 h.RW.enter 60 rfl fun X b hfit hp=>by
  refine sh ?_
  refine cS (fun h1=> ?_) (fun h1=> ?_)
  ·refine sh ?_
   refine rT ?_
   all_goals repeat' (first|exact True.intro|refine And.intro ?_ ?_|(intro _u; clear _u)|(with_reducible first|exact ai.fg|refine eM ?_ ?_|refine eF ?_ ?_ ?_|refine eN ?_|refine eL ?_ ?_ ?_|refine eA ?_ ?_|refine aj.mk ⟨_,hp,rfl⟩ ?_ ?_)|refine aj.mk ⟨_,hp,rfl⟩ ?_ ?_)
   all_goals try first|with_reducible rfl|omega|exact .inl (by decide)|(simp; done)|rfl
   simp[cap,h1]
  ·refine sh ?_
   refine cS (fun h2=> ?_) (fun h2=> ?_)
   ·refine sh ?_
    refine rT ?_
    all_goals repeat' (first|exact True.intro|refine And.intro ?_ ?_|(intro _u; clear _u)|(with_reducible first|exact ai.fg|refine eM ?_ ?_|refine eF ?_ ?_ ?_|refine eN ?_|refine eL ?_ ?_ ?_|refine eA ?_ ?_|refine aj.mk ⟨_,hp,rfl⟩ ?_ ?_)|refine aj.mk ⟨_,hp,rfl⟩ ?_ ?_)
    all_goals try first|with_reducible rfl|omega|exact .inl (by decide)|(simp; done)|rfl
    simp[cap,h1,h2]
   ·refine sh ?_
    refine cS (fun h3=> ?_) (fun h3=> ?_)
    ·refine sh ?_
     refine rT ?_
     all_goals repeat' (first|exact True.intro|refine And.intro ?_ ?_|(intro _u; clear _u)|(with_reducible first|exact ai.fg|refine eM ?_ ?_|refine eF ?_ ?_ ?_|refine eN ?_|refine eL ?_ ?_ ?_|refine eA ?_ ?_|refine aj.mk ⟨_,hp,rfl⟩ ?_ ?_)|refine aj.mk ⟨_,hp,rfl⟩ ?_ ?_)
     all_goals try first|with_reducible rfl|omega|exact .inl (by decide)|(simp; done)|rfl
     simp[cap,h3]
    ·refine sh ?_
     refine cS (fun h4=> ?_) (fun h4=> ?_)
     ·refine sh ?_
      refine rT ?_
      all_goals repeat' (first|exact True.intro|refine And.intro ?_ ?_|(intro _u; clear _u)|(with_reducible first|exact ai.fg|refine eM ?_ ?_|refine eF ?_ ?_ ?_|refine eN ?_|refine eL ?_ ?_ ?_|refine eA ?_ ?_|refine aj.mk ⟨_,hp,rfl⟩ ?_ ?_)|refine aj.mk ⟨_,hp,rfl⟩ ?_ ?_)
      all_goals try first|with_reducible rfl|omega|exact .inl (by decide)|(simp; done)|rfl
      simp[cap,h4]
     ·refine sh ?_
      refine rT ?_
      all_goals repeat' (first|exact True.intro|refine And.intro ?_ ?_|(intro _u; clear _u)|(with_reducible first|exact ai.fg|refine eM ?_ ?_|refine eF ?_ ?_ ?_|refine eN ?_|refine eL ?_ ?_ ?_|refine eA ?_ ?_|refine aj.mk ⟨_,hp,rfl⟩ ?_ ?_)|refine aj.mk ⟨_,hp,rfl⟩ ?_ ?_)
      all_goals try first|with_reducible rfl|omega|exact .inl (by decide)|(simp; done)|rfl
      simp[cap,h1,h2,h3,h4]
end Go.UM
namespace Go.UM
open Go.AM
set_option maxRecDepth 4000
def s4:Ms:=⟨[],[],[]⟩
def Uw:nV:=⟨0,[]⟩
def oG:my:=⟨0,z3,0⟩
def kX:mz:=⟨0,z3,z3,z3,z3⟩
def As.zero (k:Int):As:=⟨k,s4,Uw,oG,kX⟩
def As.bare (a:As):As:=if a.k=1 then {a with m:=s4} else if a.k=2 then {a with x:=Uw} else if a.k=3 then {a with mt:=oG} else if a.k=4 then {a with li:=kX} else a
def df (a:As):Int:=if own a≠0 then own a else if cE a.bare (As.zero a.k)=false then 5 else if cap a.k< (fG a).length then 9 else 0
theorem Ta {R:Env} (h:Lo R) (a:As) (fx:a.x.t.length≤1000):R.Pc 309 [.agg a.row] (.int .i64 (own a)):=
 h.QQ.enter 100 rfl fun X bb hfit hp=>by
  unfold own
  refine sh ?_
  refine cS (fun h1=> ?_) (fun h1=> ?_)
  ·rw[if_pos h1]
   refine sh ?_
   refine ae.pure h.n193.Ld.hb (xn h.n193 a.m) rfl ?_
   refine sh ?_
   exact rT
  ·rw[if_neg h1]
   refine sh ?_
   refine cS (fun h2=> ?_) (fun h2=> ?_)
   ·rw[if_pos h2]
    refine sh ?_
    refine ae.pure h.Jc.Wl.hb (Fe h.Jc a.x (by omega)) rfl ?_
    refine sh ?_
    exact rT
   ·rw[if_neg h2]
    refine sh ?_
    refine cS (fun h3=> ?_) (fun h3=> ?_)
    ·rw[if_pos h3]
     refine sh ?_
     refine ae.pure h.n290.QE.hb (ML h.n290 a.mt) rfl ?_
     refine sh ?_
     exact rT
    ·rw[if_neg h3]
     refine sh ?_
     refine cS (fun h4=> ?_) (fun h4=> ?_)
     ·rw[if_pos h4]
      refine sh ?_
      refine ae.pure h.n292.QH.hb (MN h.n292 a.li) rfl ?_
      refine sh ?_
      exact rT
     ·rw[if_neg h4]
      refine sh ?_
      exact rT
theorem MU {R:Env} (h:Lp R) (a:As):R.Pc 310 [.agg a.row] (.agg a.bare.row):=
 h.QS.enter 100 rfl fun X bb hfit hp=>by
  unfold As.bare
  refine sh ?_
  refine cS (fun h1=> ?_) (fun h1=> ?_)
  ·rw[if_pos h1]
   refine sh ?_
   exact rT
  ·rw[if_neg h1]
   refine sh ?_
   refine cS (fun h2=> ?_) (fun h2=> ?_)
   ·rw[if_pos h2]
    refine sh ?_
    exact rT
   ·rw[if_neg h2]
    refine sh ?_
    refine cS (fun h3=> ?_) (fun h3=> ?_)
    ·rw[if_pos h3]
     refine sh ?_
     exact rT
    ·rw[if_neg h3]
     refine sh ?_
     refine cS (fun h4=> ?_) (fun h4=> ?_)
     ·rw[if_pos h4]
      refine sh ?_
      exact rT
     ·rw[if_neg h4]
      refine sh ?_
      exact rT
theorem As.vR.bare {a:As} (f:a.vR):a.bare.vR:=by
 unfold As.bare
 obtain⟨f1,f2,f3,f4⟩:=f
 split
 ·exact⟨by simp[s4],by simp[s4],by simp[s4],f4⟩
 ·split
  ·exact⟨f1,f2,f3,by simp[Uw]⟩
  ·split
   ·exact⟨f1,f2,f3,f4⟩
   ·split<;>exact⟨f1,f2,f3,f4⟩
theorem Cj {R:Env} (h:Lr R) (a:As) (fx:a.x.t.length≤1000) (f:a.bare.vR):R.Pc 294 [.agg a.row] (.int .i64 (df a)):=
 h.QW.enter 100 rfl fun X bb hfit hp=>by
  refine sh ?_
  refine ae.pure h.n309.QQ.hb (Ta h.n309 a fx) rfl ?_
  generalize hq:df a=q
  refine sh ?_
  refine cS (fun h1=> ?_) (fun h1=> ?_)
  ·rw[df,if_pos h1]at hq
   subst hq
   refine sh ?_
   exact rT
  ·rw[df,if_neg (by simpa using h1)]at hq
   have ok:=h1
   refine sh ?_
   refine cM false [] ((MU h.n310 a).mc h.n310.QS.hb) ?_
   repeat (intro _; first|refine eK ?_|refine eP ?_)
   refine sh ?_
   refine cM false [] ((MT h.n298 a.bare (As.zero a.k) f).mc h.n298.QO.hb) ?_
   repeat (intro _; first|refine eK ?_|refine eP ?_)
   refine sh ?_
   refine cS (fun h2=> ?_) (fun h2=> ?_)
   ·rw[if_pos (by simpa using h2)]at hq
    subst hq
    refine sh ?_
    exact rT
   ·rw[if_neg (by simpa using h2)]at hq
    refine sh ?_
    refine ae.pure h.n311.QU.hb (Ff h.n311 a (by omega) ok) rfl ?_
    refine sh ?_
    refine ae.pure h.n37.o37.hb (S9 h.n37 a.k) rfl ?_
    refine sh ?_
    refine cS (fun h3=> ?_) (fun h3=> ?_)
    ·rw[if_pos h3]at hq
     subst hq
     refine sh ?_
     exact rT
    ·rw[if_neg (by omega)]at hq
     subst hq
     refine sh ?_
     exact rT
def r7 (m:Ms):Bool:=decide (0<m.v.length+m.uv.length+m.t.length)
def xA (x:nV):Bool:=decide (x.side≠0∨0<x.t.length)
theorem vC {R:Env} (h:L5 R) (m:Ms) (h1:m.v.length≤1000) (h2:m.uv.length≤1000) (h3:m.t.length≤1000):R.Pc 313 [.agg m.row] (.bool (r7 m)):=
 h.HI.enter 60 rfl fun X bb hfit hp=>by
  refine sh ?_
  refine rT ?_
  all_goals repeat' (first|exact True.intro|refine And.intro ?_ ?_|(intro _u; clear _u)|(with_reducible first|exact ai.fg|refine eM ?_ ?_|refine eF ?_ ?_ ?_|refine eN ?_|refine eL ?_ ?_ ?_|refine eA ?_ ?_|refine aj.mk ⟨_,hp,rfl⟩ ?_ ?_)|refine aj.mk ⟨_,hp,rfl⟩ ?_ ?_)
  all_goals try first|with_reducible rfl|omega|exact .inl (by decide)|(simp; done)|rfl
  rw[Bool.eq_iff_iff]; simp only[r7,decide_eq_true_eq]; omega
theorem zp {R:Env} (h:L4 R) (x:nV):R.Pc 312 [.agg x.row] (.bool (xA x)):=
 h.HH.enter 60 rfl fun X bb hfit hp=>by
  refine sh ?_
  refine cS (fun h1=> ?_) (fun h1=> ?_)
  ·refine sh ?_
   refine rT ?_
   all_goals repeat' (first|exact True.intro|refine And.intro ?_ ?_|(intro _u; clear _u)|(with_reducible first|exact ai.fg|refine eM ?_ ?_|refine eF ?_ ?_ ?_|refine eN ?_|refine eL ?_ ?_ ?_|refine eA ?_ ?_|refine aj.mk ⟨_,hp,rfl⟩ ?_ ?_)|refine aj.mk ⟨_,hp,rfl⟩ ?_ ?_)
   all_goals try first|with_reducible rfl|omega|exact .inl (by decide)|(simp; done)|rfl
   simp[xA,h1]
  ·refine sh ?_
   refine rT ?_
   all_goals repeat' (first|exact True.intro|refine And.intro ?_ ?_|(intro _u; clear _u)|(with_reducible first|exact ai.fg|refine eM ?_ ?_|refine eF ?_ ?_ ?_|refine eN ?_|refine eL ?_ ?_ ?_|refine eA ?_ ?_|refine aj.mk ⟨_,hp,rfl⟩ ?_ ?_)|refine aj.mk ⟨_,hp,rfl⟩ ?_ ?_)
   all_goals try first|with_reducible rfl|omega|exact .inl (by decide)|(simp; done)|rfl
   simp[xA,h1]
theorem r8 {m:Ms}:r7 m=false↔m.v=[]∧m.uv=[]∧m.t=[]:=by
 simp only[r7,decide_eq_false_iff_not,←List.length_eq_zero_iff]; omega
theorem vD {x:nV}:xA x=false↔x.side=0∧x.t=[]:=by
 simp only[xA,decide_eq_false_iff_not,←List.length_eq_zero_iff]; omega
theorem Az {a:As} (h:a.k=1):cE a.bare (As.zero a.k)=decide (xA a.x=false∧a.mt=oG∧a.li=kX):=by
 rw[cE,As.bare,if_pos h,Bool.eq_iff_iff,decide_eq_true_eq,decide_eq_true_eq,vD]
 exact⟨fun⟨_,e2,e3,e4,_,_,_,e8⟩=>⟨⟨e4,e8⟩,e2,e3⟩,fun⟨⟨e4,e8⟩,e2,e3⟩=>⟨rfl,e2,e3,e4,rfl,rfl,rfl,e8⟩⟩
theorem AA {a:As} (h:a.k=2):cE a.bare (As.zero a.k)=decide (r7 a.m=false∧a.mt=oG∧a.li=kX):=by
 rw[cE,As.bare,if_neg (by omega),if_pos h,Bool.eq_iff_iff,decide_eq_true_eq,decide_eq_true_eq,r8]
 exact⟨fun⟨_,e2,e3,_,e5,e6,e7,_⟩=>⟨⟨e5,e6,e7⟩,e2,e3⟩,fun⟨⟨e5,e6,e7⟩,e2,e3⟩=>⟨rfl,e2,e3,rfl,e5,e6,e7,rfl⟩⟩
theorem AB {a:As} (h:a.k=3):cE a.bare (As.zero a.k)=decide (r7 a.m=false∧xA a.x=false∧a.li=kX):=by
 rw[cE,As.bare,if_neg (by omega),if_neg (by omega),if_pos h,Bool.eq_iff_iff,decide_eq_true_eq,decide_eq_true_eq,r8,vD]
 exact⟨fun⟨_,_,e3,e4,e5,e6,e7,e8⟩=>⟨⟨e5,e6,e7⟩,⟨e4,e8⟩,e3⟩,fun⟨⟨e5,e6,e7⟩,⟨e4,e8⟩,e3⟩=>⟨rfl,rfl,e3,e4,e5,e6,e7,e8⟩⟩
theorem AC {a:As} (h:a.k=4):cE a.bare (As.zero a.k)=decide (r7 a.m=false∧xA a.x=false∧a.mt=oG):=by
 rw[cE,As.bare,if_neg (by omega),if_neg (by omega),if_neg (by omega),if_pos h,Bool.eq_iff_iff,decide_eq_true_eq,decide_eq_true_eq,r8,vD]
 exact⟨fun⟨_,e2,_,e4,e5,e6,e7,e8⟩=>⟨⟨e5,e6,e7⟩,⟨e4,e8⟩,e2⟩,fun⟨⟨e5,e6,e7⟩,⟨e4,e8⟩,e2⟩=>⟨rfl,e2,rfl,e4,e5,e6,e7,e8⟩⟩
theorem Fi {R:Env} (h:L7 R) (a:As) (f:a.vR):R.Pc 295 [.agg a.row] (.int .i64 (df a)):=
 h.Se.enter 100 rfl fun X bb hfit hp=>by
  generalize hq:df a=q
  refine sh ?_
  refine cS (fun h1=> ?_) (fun h1=> ?_)
  ·have ow:own a=iB a.m:=by simp[own,h1]
   refine sh ?_
   refine ae.pure h.n198.LW.hb (rY h.n198 a.m) rfl ?_
   refine sh ?_
   refine ae.pure h.n312.HH.hb (zp h.n312 a.x) rfl ?_
   refine sh ?_
   refine cS (fun t1=> ?_) (fun t1=> ?_)
   ·have hz:cE a.bare (As.zero a.k)=false:=by simp[Az h1,t1]
    refine sh ?_
    refine cS (fun c1=> ?_) (fun c1=> ?_)
    ·rw[df,ow,if_pos c1]at hq
     subst hq
     refine sh ?_
     exact rT
    ·rw[df,ow,if_neg (by simpa using c1),if_pos hz]at hq
     subst hq
     refine sh ?_
     exact rT
   ·refine sh ?_
    refine cS (fun t2=> ?_) (fun t2=> ?_)
    ·have hz:cE a.bare (As.zero a.k)=false:=by simp[Az h1,my.ne_iff (y:=oG) |>.1 t2]
     refine sh ?_
     refine cS (fun c1=> ?_) (fun c1=> ?_)
     ·rw[df,ow,if_pos c1]at hq
      subst hq
      refine sh ?_
      exact rT
     ·rw[df,ow,if_neg (by simpa using c1),if_pos hz]at hq
      subst hq
      refine sh ?_
      exact rT
    ·have z1:= @mz.ne_iff a.li kX
     have z2:= @mz.eq_iff a.li kX
     have hz:a.li≠kX→cE a.bare (As.zero a.k)=false:=fun c=>by simp[Az h1,c]
     have hn:a.li=kX→cE a.bare (As.zero a.k)=true:=fun c=>by simp[Az h1,t1,my.eq_iff (y:=oG) |>.1 t2,c]
     refine sh ?_
     refine cS (fun c1=> ?_) (fun c1=> ?_)
     ·rw[df,ow,if_pos c1]at hq
      subst hq
      refine sh ?_
      exact rT
     ·have ok:own a=0:=ow.trans c1
      rw[df,ow,if_neg (by simpa using c1)]at hq
      refine sh ?_
      refine cS (fun c2=> ?_) (fun c2=> ?_)
      ·rw[if_pos (hz (z1.1 c2))]at hq
       subst hq
       refine sh ?_
       exact rT
      ·rw[if_neg (by simpa using hn (z2.1 c2))]at hq
       refine sh ?_
       refine ae.pure h.n314.ED.hb (qe h.n314 a (by have:=f.x; omega) ok) rfl ?_
       refine sh ?_
       refine ae.pure h.n38.RW.hb (vB h.n38 a.k) rfl ?_
       refine sh ?_
       refine cS (fun c3=> ?_) (fun c3=> ?_)
       ·rw[if_pos c3]at hq
        subst hq
        refine sh ?_
        exact rT
       ·rw[if_neg (by omega)]at hq
        subst hq
        refine sh ?_
        exact rT
  ·refine sh ?_
   refine cS (fun h2=> ?_) (fun h2=> ?_)
   ·have ow:own a=eX a.x:=by simp[own,h2]
    refine sh ?_
    refine ae.pure h.Je.Ww.hb (Ax h.Je a.x (by have:=f.x; omega)) rfl ?_
    refine sh ?_
    refine ae.pure h.n313.HI.hb (vC h.n313 a.m f.v f.uv f.t) rfl ?_
    refine sh ?_
    refine cS (fun t1=> ?_) (fun t1=> ?_)
    ·have hz:cE a.bare (As.zero a.k)=false:=by simp[AA h2,t1]
     refine sh ?_
     refine cS (fun c1=> ?_) (fun c1=> ?_)
     ·rw[df,ow,if_pos c1]at hq
      subst hq
      refine sh ?_
      exact rT
     ·rw[df,ow,if_neg (by simpa using c1),if_pos hz]at hq
      subst hq
      refine sh ?_
      exact rT
    ·refine sh ?_
     refine cS (fun t2=> ?_) (fun t2=> ?_)
     ·have hz:cE a.bare (As.zero a.k)=false:=by simp[AA h2,my.ne_iff (y:=oG) |>.1 t2]
      refine sh ?_
      refine cS (fun c1=> ?_) (fun c1=> ?_)
      ·rw[df,ow,if_pos c1]at hq
       subst hq
       refine sh ?_
       exact rT
      ·rw[df,ow,if_neg (by simpa using c1),if_pos hz]at hq
       subst hq
       refine sh ?_
       exact rT
     ·have z1:= @mz.ne_iff a.li kX
      have z2:= @mz.eq_iff a.li kX
      have hz:a.li≠kX→cE a.bare (As.zero a.k)=false:=fun c=>by simp[AA h2,c]
      have hn:a.li=kX→cE a.bare (As.zero a.k)=true:=fun c=>by simp[AA h2,t1,my.eq_iff (y:=oG) |>.1 t2,c]
      refine sh ?_
      refine cS (fun c1=> ?_) (fun c1=> ?_)
      ·rw[df,ow,if_pos c1]at hq
       subst hq
       refine sh ?_
       exact rT
      ·have ok:own a=0:=ow.trans c1
       rw[df,ow,if_neg (by simpa using c1)]at hq
       refine sh ?_
       refine cS (fun c2=> ?_) (fun c2=> ?_)
       ·rw[if_pos (hz (z1.1 c2))]at hq
        subst hq
        refine sh ?_
        exact rT
       ·rw[if_neg (by simpa using hn (z2.1 c2))]at hq
        refine sh ?_
        refine ae.pure h.n314.ED.hb (qe h.n314 a (by have:=f.x; omega) ok) rfl ?_
        refine sh ?_
        refine ae.pure h.n38.RW.hb (vB h.n38 a.k) rfl ?_
        refine sh ?_
        refine cS (fun c3=> ?_) (fun c3=> ?_)
        ·rw[if_pos c3]at hq
         subst hq
         refine sh ?_
         exact rT
        ·rw[if_neg (by omega)]at hq
         subst hq
         refine sh ?_
         exact rT
   ·refine sh ?_
    refine cS (fun h3=> ?_) (fun h3=> ?_)
    ·have ow:own a=iC a.mt:=by simp[own,h3]
     refine sh ?_
     refine ae.pure h.n291.R7.hb (Ia h.n291 a.mt) rfl ?_
     refine sh ?_
     refine ae.pure h.n313.HI.hb (vC h.n313 a.m f.v f.uv f.t) rfl ?_
     refine sh ?_
     refine cS (fun t1=> ?_) (fun t1=> ?_)
     ·have hz:cE a.bare (As.zero a.k)=false:=by simp[AB h3,t1]
      refine sh ?_
      refine cS (fun c1=> ?_) (fun c1=> ?_)
      ·rw[df,ow,if_pos c1]at hq
       subst hq
       refine sh ?_
       exact rT
      ·rw[df,ow,if_neg (by simpa using c1),if_pos hz]at hq
       subst hq
       refine sh ?_
       exact rT
     ·refine sh ?_
      refine ae.pure h.n312.HH.hb (zp h.n312 a.x) rfl ?_
      refine sh ?_
      refine cS (fun t2=> ?_) (fun t2=> ?_)
      ·have hz:cE a.bare (As.zero a.k)=false:=by simp[AB h3,t2]
       refine sh ?_
       refine cS (fun c1=> ?_) (fun c1=> ?_)
       ·rw[df,ow,if_pos c1]at hq
        subst hq
        refine sh ?_
        exact rT
       ·rw[df,ow,if_neg (by simpa using c1),if_pos hz]at hq
        subst hq
        refine sh ?_
        exact rT
      ·have z1:= @mz.ne_iff a.li kX
       have z2:= @mz.eq_iff a.li kX
       have hz:a.li≠kX→cE a.bare (As.zero a.k)=false:=fun c=>by simp[AB h3,c]
       have hn:a.li=kX→cE a.bare (As.zero a.k)=true:=fun c=>by simp[AB h3,t1,t2,c]
       refine sh ?_
       refine cS (fun c1=> ?_) (fun c1=> ?_)
       ·rw[df,ow,if_pos c1]at hq
        subst hq
        refine sh ?_
        exact rT
       ·have ok:own a=0:=ow.trans c1
        rw[df,ow,if_neg (by simpa using c1)]at hq
        refine sh ?_
        refine cS (fun c2=> ?_) (fun c2=> ?_)
        ·rw[if_pos (hz (z1.1 c2))]at hq
         subst hq
         refine sh ?_
         exact rT
        ·rw[if_neg (by simpa using hn (z2.1 c2))]at hq
         refine sh ?_
         refine ae.pure h.n314.ED.hb (qe h.n314 a (by have:=f.x; omega) ok) rfl ?_
         refine sh ?_
         refine ae.pure h.n38.RW.hb (vB h.n38 a.k) rfl ?_
         refine sh ?_
         refine cS (fun c3=> ?_) (fun c3=> ?_)
         ·rw[if_pos c3]at hq
          subst hq
          refine sh ?_
          exact rT
         ·rw[if_neg (by omega)]at hq
          subst hq
          refine sh ?_
          exact rT
    ·refine sh ?_
     refine cS (fun h4=> ?_) (fun h4=> ?_)
     ·have ow:own a=jA a.li:=by simp[own,h4]
      refine sh ?_
      refine ae.pure h.n293.R9.hb (Ib h.n293 a.li) rfl ?_
      refine sh ?_
      refine ae.pure h.n313.HI.hb (vC h.n313 a.m f.v f.uv f.t) rfl ?_
      refine sh ?_
      refine cS (fun t1=> ?_) (fun t1=> ?_)
      ·have hz:cE a.bare (As.zero a.k)=false:=by simp[AC h4,t1]
       refine sh ?_
       refine cS (fun c1=> ?_) (fun c1=> ?_)
       ·rw[df,ow,if_pos c1]at hq
        subst hq
        refine sh ?_
        exact rT
       ·rw[df,ow,if_neg (by simpa using c1),if_pos hz]at hq
        subst hq
        refine sh ?_
        exact rT
      ·refine sh ?_
       refine ae.pure h.n312.HH.hb (zp h.n312 a.x) rfl ?_
       refine sh ?_
       refine cS (fun t2=> ?_) (fun t2=> ?_)
       ·have hz:cE a.bare (As.zero a.k)=false:=by simp[AC h4,t2]
        refine sh ?_
        refine cS (fun c1=> ?_) (fun c1=> ?_)
        ·rw[df,ow,if_pos c1]at hq
         subst hq
         refine sh ?_
         exact rT
        ·rw[df,ow,if_neg (by simpa using c1),if_pos hz]at hq
         subst hq
         refine sh ?_
         exact rT
       ·have z1:= @my.ne_iff a.mt oG
        have z2:= @my.eq_iff a.mt oG
        have hz:a.mt≠oG→cE a.bare (As.zero a.k)=false:=fun c=>by simp[AC h4,c]
        have hn:a.mt=oG→cE a.bare (As.zero a.k)=true:=fun c=>by simp[AC h4,t1,t2,c]
        refine sh ?_
        refine cS (fun c1=> ?_) (fun c1=> ?_)
        ·rw[df,ow,if_pos c1]at hq
         subst hq
         refine sh ?_
         exact rT
        ·have ok:own a=0:=ow.trans c1
         rw[df,ow,if_neg (by simpa using c1)]at hq
         refine sh ?_
         refine cS (fun c2=> ?_) (fun c2=> ?_)
         ·rw[if_pos (hz (z1.1 c2))]at hq
          subst hq
          refine sh ?_
          exact rT
         ·rw[if_neg (by simpa using hn (z2.1 c2))]at hq
          refine sh ?_
          refine ae.pure h.n314.ED.hb (qe h.n314 a (by have:=f.x; omega) ok) rfl ?_
          refine sh ?_
          refine ae.pure h.n38.RW.hb (vB h.n38 a.k) rfl ?_
          refine sh ?_
          refine cS (fun c3=> ?_) (fun c3=> ?_)
          ·rw[if_pos c3]at hq
           subst hq
           refine sh ?_
           exact rT
          ·rw[if_neg (by omega)]at hq
           subst hq
           refine sh ?_
           exact rT
     ·rw[df,own,if_neg h1,if_neg h2,if_neg h3,if_neg h4,if_pos (by decide)]at hq
      subst hq
      refine sh ?_
      refine ah (by decide) ?_
      refine sh ?_
      exact rT
end Go.UM
namespace Go.UM
open Go.AM
set_option maxRecDepth 4000
structure Tb where
 rows:List Rw
 ins:List In
def x3 (r:Rw):List AV:= .int .i64 r.h::r.row
def iD (l:List Rw):List (List AV):=l.map x3
@[simp] theorem MV (l:List Rw):(iD l).length=l.length:=by simp[iD]
@[simp] theorem MW (a b:List Rw):iD (a++b)=iD a++iD b:=by simp[iD]
@[simp] theorem Ux (l:List Rw):mF (iD l):=by simp[iD,x3,Rw.row]
def bE (l:List Rw) (h:Int):Option Rw:=l.find? fun r=>r.h==h
def aU (x y:In):Bool:=x.bK==y.bK&&(x.eW==y.eW&&(x.dB==y.dB&&x.n==y.n))
def eY (l:List In) (x:In):Option In:=l.find? fun y=>aU x y
theorem Fj {h:Int} {l:List Rw}:∀e ∈ iD l,dv [.i] [.int .i64 h] e=true:=by
 intro e he
 obtain⟨r,_,rfl⟩:=List.mem_map.1 he
 rfl
theorem xB (h:Int):∀l:List Rw,∃i:Nat,bM [.int .i64 h] (iD l)=(bE l h).map fun r=>(i,r.row)
 |[]=>⟨0,rfl⟩
 |r::l=>by
  obtain⟨i,hi⟩:=xB h l
  have e:kp [.int .i64 h] (x3 r)=(r.h==h):=by
   show ((h==r.h)&&true)=_
   rw[Bool.and_true]; exact Bool.beq_comm
  by_cases hh:(r.h==h)=true
  ·refine⟨0,?_⟩
   show (if kp [.int .i64 h] (x3 r)then some (0,(x3 r).drop 1)else _)=_
   rw[e,if_pos hh]; simp only[bE,List.find?_cons,hh]; rfl
  ·refine⟨i+1,?_⟩
   show (if kp [.int .i64 h] (x3 r)then some (0,(x3 r).drop 1)else (bM [.int .i64 h] (iD l)).map fun q=>(q.1+1,q.2))=_
   rw[e,if_neg hh,hi]; simp only[bE,List.find?_cons,hh]
   cases List.find? (fun r=>r.h==h) l<;>rfl
theorem oH {h:Int} {l:List Rw} {K:Option (Nat × List AV)→Prop} (k:∀i:Nat,K ((bE l h).map fun r=>(i,r.row))):Gw [.i] [.int .i64 h] (iD l) K:=by
 obtain⟨i,hi⟩:=xB h l
 exact⟨Fj,by rw[hi]; exact k i⟩
theorem Fk {x:In} {l:List In}:∀e ∈ b8 l,dv [.i,.i,.i,.i] [.int .i64 x.bK,.int .i64 x.eW,.int .i64 x.dB,.int .i64 x.n] e=true:=by
 intro e he
 obtain⟨r,_,rfl⟩:=List.mem_map.1 he
 rfl
theorem AD (x:In):∀l:List In,∃i:Nat,bM [.int .i64 x.bK,.int .i64 x.eW,.int .i64 x.dB,.int .i64 x.n] (b8 l)=(eY l x).map fun r=>(i,r.t.row)
 |[]=>⟨0,rfl⟩
 |r::l=>by
  obtain⟨i,hi⟩:=AD x l
  have e:kp [.int .i64 x.bK,.int .i64 x.eW,.int .i64 x.dB,.int .i64 x.n] r.row=aU x r:=by
   show (x.bK==r.bK&&(x.eW==r.eW&&(x.dB==r.dB&&(x.n==r.n&&true))))=_
   rw[Bool.and_true]; rfl
  by_cases hh:aU x r=true
  ·refine⟨0,?_⟩
   show (if kp [.int .i64 x.bK,.int .i64 x.eW,.int .i64 x.dB,.int .i64 x.n] r.row then some (0,r.row.drop 4)else _)=_
   rw[e,if_pos hh]; simp only[eY,List.find?_cons,hh]; rfl
  ·refine⟨i+1,?_⟩
   show (if kp [.int .i64 x.bK,.int .i64 x.eW,.int .i64 x.dB,.int .i64 x.n] r.row then some (0,r.row.drop 4)else (bM _ (b8 l)).map fun q=>(q.1+1,q.2))=_
   rw[e,if_neg hh,hi]; simp only[eY,List.find?_cons,hh]
   cases List.find? (fun y=>aU x y) l<;>rfl
theorem MX {x:In} {l:List In} {K:Option (Nat × List AV)→Prop} (k:∀i:Nat,K ((eY l x).map fun r=>(i,r.t.row))):Gw [.i,.i,.i,.i] [.int .i64 x.bK,.int .i64 x.eW,.int .i64 x.dB,.int .i64 x.n] (b8 l) K:=by
 obtain⟨i,hi⟩:=AD x l
 exact⟨Fk,by rw[hi]; exact k i⟩
abbrev eC (R:Env) (d1 d2:Bool) (t:Tb):af:=[(0,.map 1 false true d1 41 (iD t.rows)),(1,.map 4 true true d2 16 (b8 t.ins)),(2,.var (R.ty 47) [.omap 0,.omap 1])]
theorem Fl {R:Env} (h:Hn R):R.Mc 345 [] [] (.loc 2 1 0 0) (eC R true true ⟨[],[]⟩) 3:=
 h.Wo.aV 60 0 rfl rfl rfl fun X bb hfit hp=>by
  refine sh ?_
  exact rM [0,1,2]
theorem j4 {R:Env} (h:rJ R) (d1 d2:Bool) (t:Tb):R.Mc 355 [.loc 2 1 0 0] (eC R d1 d2 t) (.bool false) (eC R d1 d2 t) 3:=
 h.Ex.aV 60 3 rfl rfl rfl fun X bb hfit hp=>by
  unfold eC
  refine sh ?_
  exact rM [0,1,2]
theorem Ck {R:Env} (h:Ey R) (x:In):R.Pc 358 [.agg x.row] (.agg [.int .i64 x.bK,.int .i64 x.eW,.int .i64 x.dB,.int .i64 x.n]):=
 h.y3.enter 60 rfl fun X bb hfit hp=>by
  refine sh ?_
  exact rT
def bZ (l:List Rw) (x:In):Int:=
 match bE l x.bK with
 |none=>11
 |some a=>match bE l x.eW with
  |none=>11
  |some b=>if x.dB=0 then (if a.f.kind≠1∨b.f.kind≠3 then 12 else 0)else match bE l x.dB with
   |none=>11
   |some c=>if a.f.kind≠1∨b.f.kind≠3∨c.f.kind≠2 then 12 else 0
def pL (x:In):List (List AV):=[[.int .i64 x.bK,.int .i64 1],[.int .i64 x.eW,.int .i64 3],[.int .i64 x.dB,.int .i64 2]]
theorem MY {x:In} {i:Nat} {r:List AV} {K:List AV→Prop} (h:(pL x)[i]? =some r) (k:K r):Dy [[.int .i64 x.bK,.int .i64 1],[.int .i64 x.eW,.int .i64 3],[.int .i64 x.dB,.int .i64 2]] 3 i K:=
 rE (f:=fun x:List AV=>x) (l:=pL x) rfl h k
set_option maxHeartbeats 4000000 in
theorem Ig {R:Env} (h:Ls R) (d1 d2:Bool) (t:Tb) (x:In):R.Mc 357 [.loc 2 1 0 0,.agg x.row] (eC R d1 d2 t) (.int .i64 (bZ t.rows x)) (eC R d1 d2 t) 3:=
 h.Wp.aV 100 3 rfl rfl rfl fun X bb hfit hp=>by
  unfold eC
  have hq:∃q,bZ t.rows x=q:=⟨_,rfl⟩
  obtain⟨q,hq⟩:=hq
  rw[hq]
  unfold bZ at hq
  refine sh ?_
  refine au.one 100 ?_
  refine sh ?_
  refine ah (by rfl) ?_
  refine sh ?_
  refine MY (i:=0) rfl ?_
  refine sh ?_
  refine oH fun i=> ?_
  cases ha:bE t.rows x.bK with
  |none=>
   rw[ha]at hq
   refine sh ?_
   refine aq (by decide) ?_
   subst hq
   refine sh ?_
   exact rM [0,1,2]
  |some a=>
   rw[ha]at hq
   dsimp only[Option.map_some]at hq ⊢
   refine sh ?_
   refine aq (by decide) ?_
   refine sh ?_
   refine cS (fun k1=> ?_) (fun k1=> ?_)
   ·refine sh ?_
    refine au.one 100 ?_
    refine sh ?_
    refine ah (by rfl) ?_
    refine sh ?_
    refine MY (i:=1) rfl ?_
    refine sh ?_
    refine oH fun i=> ?_
    cases hb:bE t.rows x.eW with
    |none=>
     rw[hb]at hq
     refine sh ?_
     refine aq (by decide) ?_
     subst hq
     refine sh ?_
     exact rM [0,1,2]
    |some b=>
     rw[hb]at hq
     dsimp only[Option.map_some]at hq ⊢
     refine sh ?_
     refine aq (by decide) ?_
     refine sh ?_
     refine cS (fun k2=> ?_) (fun k2=> ?_)
     ·refine sh ?_
      refine au.one 100 ?_
      refine sh ?_
      refine ah (by rfl) ?_
      refine sh ?_
      refine MY (i:=2) rfl ?_
      refine sh ?_
      refine oH fun i=> ?_
      by_cases hx:x.dB=0
      ·rw[if_pos hx]at hq
       cases bE t.rows x.dB<;>dsimp only[Option.map_some,Option.map_none]
       ·refine sh ?_
        refine ah (by decide) ?_
        refine sh ?_
        refine ah (by simp; exact hx) ?_
        first|rw[if_pos (by omega)]at hq|rw[if_neg (by omega)]at hq
        refine sh ?_
        refine au.one 100 ?_
        refine sh ?_
        refine aq (by rfl) ?_
        subst hq
        refine sh ?_
        exact rM [0,1,2]
       ·refine sh ?_
        refine ah (by decide) ?_
        refine sh ?_
        refine ah (by simp; exact hx) ?_
        first|rw[if_pos (by omega)]at hq|rw[if_neg (by omega)]at hq
        refine sh ?_
        refine au.one 100 ?_
        refine sh ?_
        refine aq (by rfl) ?_
        subst hq
        refine sh ?_
        exact rM [0,1,2]
      ·rw[if_neg hx]at hq
       cases hc:bE t.rows x.dB with
       |none=>
        rw[hc]at hq
        refine sh ?_
        refine ah (by decide) ?_
        refine sh ?_
        refine aq (by simp; exact hx) ?_
        subst hq
        refine sh ?_
        exact rM [0,1,2]
       |some c=>
        rw[hc]at hq
        dsimp only[Option.map_some]at hq ⊢
        refine sh ?_
        refine ah (by decide) ?_
        refine sh ?_
        refine aq (by simp; exact hx) ?_
        refine sh ?_
        refine cS (fun k3=> ?_) (fun k3=> ?_)
        ·first|rw[if_pos (by omega)]at hq|rw[if_neg (by omega)]at hq
         refine sh ?_
         refine au.one 100 ?_
         refine sh ?_
         refine aq (by rfl) ?_
         subst hq
         refine sh ?_
         exact rM [0,1,2]
        ·first|rw[if_pos (by omega)]at hq|rw[if_neg (by omega)]at hq
         refine sh ?_
         refine au.one 100 ?_
         refine sh ?_
         refine aq (by rfl) ?_
         subst hq
         refine sh ?_
         exact rM [0,1,2]
     ·refine sh ?_
      refine au.one 100 ?_
      refine sh ?_
      refine ah (by rfl) ?_
      refine sh ?_
      refine MY (i:=2) rfl ?_
      refine sh ?_
      refine oH fun i=> ?_
      by_cases hx:x.dB=0
      ·rw[if_pos hx]at hq
       cases bE t.rows x.dB<;>dsimp only[Option.map_some,Option.map_none]
       ·refine sh ?_
        refine ah (by decide) ?_
        refine sh ?_
        refine ah (by simp; exact hx) ?_
        first|rw[if_pos (by omega)]at hq|rw[if_neg (by omega)]at hq
        refine sh ?_
        refine au.one 100 ?_
        refine sh ?_
        refine aq (by rfl) ?_
        subst hq
        refine sh ?_
        exact rM [0,1,2]
       ·refine sh ?_
        refine ah (by decide) ?_
        refine sh ?_
        refine ah (by simp; exact hx) ?_
        first|rw[if_pos (by omega)]at hq|rw[if_neg (by omega)]at hq
        refine sh ?_
        refine au.one 100 ?_
        refine sh ?_
        refine aq (by rfl) ?_
        subst hq
        refine sh ?_
        exact rM [0,1,2]
      ·rw[if_neg hx]at hq
       cases hc:bE t.rows x.dB with
       |none=>
        rw[hc]at hq
        refine sh ?_
        refine ah (by decide) ?_
        refine sh ?_
        refine aq (by simp; exact hx) ?_
        subst hq
        refine sh ?_
        exact rM [0,1,2]
       |some c=>
        rw[hc]at hq
        dsimp only[Option.map_some]at hq ⊢
        refine sh ?_
        refine ah (by decide) ?_
        refine sh ?_
        refine aq (by simp; exact hx) ?_
        refine sh ?_
        refine cS (fun k3=> ?_) (fun k3=> ?_)
        ·first|rw[if_pos (by omega)]at hq|rw[if_neg (by omega)]at hq
         refine sh ?_
         refine au.one 100 ?_
         refine sh ?_
         refine aq (by rfl) ?_
         subst hq
         refine sh ?_
         exact rM [0,1,2]
        ·first|rw[if_pos (by omega)]at hq|rw[if_neg (by omega)]at hq
         refine sh ?_
         refine au.one 100 ?_
         refine sh ?_
         refine aq (by rfl) ?_
         subst hq
         refine sh ?_
         exact rM [0,1,2]
   ·refine sh ?_
    refine au.one 100 ?_
    refine sh ?_
    refine ah (by rfl) ?_
    refine sh ?_
    refine MY (i:=1) rfl ?_
    refine sh ?_
    refine oH fun i=> ?_
    cases hb:bE t.rows x.eW with
    |none=>
     rw[hb]at hq
     refine sh ?_
     refine aq (by decide) ?_
     subst hq
     refine sh ?_
     exact rM [0,1,2]
    |some b=>
     rw[hb]at hq
     dsimp only[Option.map_some]at hq ⊢
     refine sh ?_
     refine aq (by decide) ?_
     refine sh ?_
     refine cS (fun k2=> ?_) (fun k2=> ?_)
     ·refine sh ?_
      refine au.one 100 ?_
      refine sh ?_
      refine ah (by rfl) ?_
      refine sh ?_
      refine MY (i:=2) rfl ?_
      refine sh ?_
      refine oH fun i=> ?_
      by_cases hx:x.dB=0
      ·rw[if_pos hx]at hq
       cases bE t.rows x.dB<;>dsimp only[Option.map_some,Option.map_none]
       ·refine sh ?_
        refine ah (by decide) ?_
        refine sh ?_
        refine ah (by simp; exact hx) ?_
        first|rw[if_pos (by omega)]at hq|rw[if_neg (by omega)]at hq
        refine sh ?_
        refine au.one 100 ?_
        refine sh ?_
        refine aq (by rfl) ?_
        subst hq
        refine sh ?_
        exact rM [0,1,2]
       ·refine sh ?_
        refine ah (by decide) ?_
        refine sh ?_
        refine ah (by simp; exact hx) ?_
        first|rw[if_pos (by omega)]at hq|rw[if_neg (by omega)]at hq
        refine sh ?_
        refine au.one 100 ?_
        refine sh ?_
        refine aq (by rfl) ?_
        subst hq
        refine sh ?_
        exact rM [0,1,2]
      ·rw[if_neg hx]at hq
       cases hc:bE t.rows x.dB with
       |none=>
        rw[hc]at hq
        refine sh ?_
        refine ah (by decide) ?_
        refine sh ?_
        refine aq (by simp; exact hx) ?_
        subst hq
        refine sh ?_
        exact rM [0,1,2]
       |some c=>
        rw[hc]at hq
        dsimp only[Option.map_some]at hq ⊢
        refine sh ?_
        refine ah (by decide) ?_
        refine sh ?_
        refine aq (by simp; exact hx) ?_
        refine sh ?_
        refine cS (fun k3=> ?_) (fun k3=> ?_)
        ·first|rw[if_pos (by omega)]at hq|rw[if_neg (by omega)]at hq
         refine sh ?_
         refine au.one 100 ?_
         refine sh ?_
         refine aq (by rfl) ?_
         subst hq
         refine sh ?_
         exact rM [0,1,2]
        ·first|rw[if_pos (by omega)]at hq|rw[if_neg (by omega)]at hq
         refine sh ?_
         refine au.one 100 ?_
         refine sh ?_
         refine aq (by rfl) ?_
         subst hq
         refine sh ?_
         exact rM [0,1,2]
     ·refine sh ?_
      refine au.one 100 ?_
      refine sh ?_
      refine ah (by rfl) ?_
      refine sh ?_
      refine MY (i:=2) rfl ?_
      refine sh ?_
      refine oH fun i=> ?_
      by_cases hx:x.dB=0
      ·rw[if_pos hx]at hq
       cases bE t.rows x.dB<;>dsimp only[Option.map_some,Option.map_none]
       ·refine sh ?_
        refine ah (by decide) ?_
        refine sh ?_
        refine ah (by simp; exact hx) ?_
        first|rw[if_pos (by omega)]at hq|rw[if_neg (by omega)]at hq
        refine sh ?_
        refine au.one 100 ?_
        refine sh ?_
        refine aq (by rfl) ?_
        subst hq
        refine sh ?_
        exact rM [0,1,2]
       ·refine sh ?_
        refine ah (by decide) ?_
        refine sh ?_
        refine ah (by simp; exact hx) ?_
        first|rw[if_pos (by omega)]at hq|rw[if_neg (by omega)]at hq
        refine sh ?_
        refine au.one 100 ?_
        refine sh ?_
        refine aq (by rfl) ?_
        subst hq
        refine sh ?_
        exact rM [0,1,2]
      ·rw[if_neg hx]at hq
       cases hc:bE t.rows x.dB with
       |none=>
        rw[hc]at hq
        refine sh ?_
        refine ah (by decide) ?_
        refine sh ?_
        refine aq (by simp; exact hx) ?_
        subst hq
        refine sh ?_
        exact rM [0,1,2]
       |some c=>
        rw[hc]at hq
        dsimp only[Option.map_some]at hq ⊢
        refine sh ?_
        refine ah (by decide) ?_
        refine sh ?_
        refine aq (by simp; exact hx) ?_
        refine sh ?_
        refine cS (fun k3=> ?_) (fun k3=> ?_)
        ·first|rw[if_pos (by omega)]at hq|rw[if_neg (by omega)]at hq
         refine sh ?_
         refine au.one 100 ?_
         refine sh ?_
         refine aq (by rfl) ?_
         subst hq
         refine sh ?_
         exact rM [0,1,2]
        ·first|rw[if_pos (by omega)]at hq|rw[if_neg (by omega)]at hq
         refine sh ?_
         refine au.one 100 ?_
         refine sh ?_
         refine aq (by rfl) ?_
         subst hq
         refine sh ?_
         exact rM [0,1,2]
end Go.UM
namespace Go.UM
open Go.AM
set_option maxRecDepth 4000
def f3 (r:Rd):T3 × Rd:=(⟨(r.int 2).1,((r.int 2).2.int 2).1,(((r.int 2).2.int 2).2.int 2).1⟩,(((r.int 2).2.int 2).2.int 2).2)
def f2 (r:Rd):(Int × Int) × Rd:=(((r.num 2).1,((r.num 2).2.num 2).1),((r.num 2).2.num 2).2)
def ft (r:Rd):T3 × Rd:=(⟨(r.num 1).1,((r.num 1).2.num 1).1,(((r.num 1).2.num 1).2.num 1).1⟩,(((r.num 1).2.num 1).2.num 1).2)
theorem dU.f3 {B:List UInt8} {r:Rd} (h:dU B r):dU B (f3 r).2:=((h.int 2).int 2).int 2
theorem dU.f2 {B:List UInt8} {r:Rd} (h:dU B r):dU B (f2 r).2:=(h.num 2).num 2
theorem dU.ft {B:List UInt8} {r:Rd} (h:dU B r):dU B (ft r).2:=((h.num 1).num 1).num 1
theorem dU.Au {B:List UInt8} {α:Type} {f:Rd→α × Rd} (hf:∀r,dU B r→dU B (f r).2) (n:Nat):∀ {r:Rd},dU B r→dU B (Au f n r).2:=by
 induction n with
 |zero=>exact fun h=>h
 |succ n ih=>exact fun h=>hf _ (ih h)
def zMs:Ms:=⟨[],[],[]⟩
def mq (nv nt:Nat) (r:Rd):Ms × Rd:=(⟨(Au f3 nv r).1,(Au f2 nv (Au f3 nv r).2).1,(Au ft nt (Au f2 nv (Au f3 nv r).2).2).1⟩,(Au ft nt (Au f2 nv (Au f3 nv r).2).2).2)
def WQ (q:Ms × Rd):Ms × Int:=if q.2.fin≠0 then (zMs,q.2.fin)else if iB q.1≠0 then (zMs,iB q.1)else (q.1,0)
def Jp (b:List UInt8):Ms × Int:=WQ (mq ((⟨b,0,true⟩:Rd).num 1).1 (((⟨b,0,true⟩:Rd).num 1).2.num 1).1 (((⟨b,0,true⟩:Rd).num 1).2.num 1).2)
end Go.UM
namespace Go.UM
open Go.AM
set_option maxRecDepth 4000
def Uy:List UInt8→List T3
 |a::b::c::r=>⟨a.toNat,b.toNat,c.toNat⟩::Uy r
 |_=>[]
def Ih:nV:=⟨0,[]⟩
def Tc (b:List UInt8):nV × Int:=match b with
 |[]=>(Ih,4)
 |s::rest=>if rest.length<3* (s.toNat*s.toNat)then (Ih,4)else if 3* (s.toNat*s.toNat)<rest.length then (Ih,5)else
  if eX ⟨s.toNat,Uy rest⟩≠0 then (Ih,eX ⟨s.toNat,Uy rest⟩)else (⟨s.toNat,Uy rest⟩,0)
end Go.UM
namespace Go.UM
open Go.AM
set_option maxRecDepth 4000
def fw (w:Int) (r:Rd):T3 × Rd:=(⟨(r.num w).1,((r.num w).2.num w).1,(((r.num w).2.num w).2.num w).1⟩,(((r.num w).2.num w).2.num w).2)
theorem dU.fw {B:List UInt8} {r:Rd} (h:dU B r) (w:Int):dU B (fw w r).2:=((h.num w).num w).num w
def Td (r:Rd):my × Rd:=(⟨(r.num 1).1,(fw 2 (r.num 1).2).1,((fw 2 (r.num 1).2).2.num 2).1⟩,((fw 2 (r.num 1).2).2.num 2).2)
def Te (r:Rd):mz × Rd:=(⟨(r.num 1).1,(fw 4 (r.num 1).2).1,(f3 (fw 4 (r.num 1).2).2).1,(f3 (f3 (fw 4 (r.num 1).2).2).2).1,(f3 (f3 (f3 (fw 4 (r.num 1).2).2).2).2).1⟩,(f3 (f3 (f3 (fw 4 (r.num 1).2).2).2).2).2)
def apart (k:Int) (b:List UInt8):As × Int:=
 if k=1 then ({As.zero k with m:=(Jp b).1},(Jp b).2)
 else if k=2 then ({As.zero k with x:=(Tc b).1},(Tc b).2)
 else if k=3 then ({As.zero k with mt:=(Td ⟨b,0,true⟩).1},(Td ⟨b,0,true⟩).2.fin)
 else if k=4 then ({As.zero k with li:=(Te ⟨b,0,true⟩).1},(Te ⟨b,0,true⟩).2.fin)
 else (As.zero k,0)
end Go.UM
namespace Go.UM
open Go.AM
set_option maxRecDepth 4000
end Go.UM
namespace Go.UM
open Go.AM
set_option maxRecDepth 4000
theorem Fm {a b:As} (h:cE a b=true):a=b:=by
 simp only[cE,decide_eq_true_eq]at h
 obtain⟨ak,⟨_,_,_⟩,⟨_,_⟩,am,al⟩:=a
 obtain⟨bk,⟨_,_,_⟩,⟨_,_⟩,bm,bl⟩:=b
 dsimp only at h
 obtain⟨rfl,rfl,rfl,rfl,rfl,rfl,rfl,rfl⟩:=h
 rfl
theorem uj {a:As} (h:df a=0):own a=0∧a.bare=As.zero a.k∧(fG a).length≤cap a.k:=by
 unfold df at h
 split at h
 ·rename_i h1; exact absurd h h1
 ·rename_i h1
  split at h
  ·cases h
  ·rename_i h2
   split at h
   ·cases h
   ·rename_i h3
    exact⟨by simpa using h1,Fm (by simpa using h2),by omega⟩
end Go.UM
namespace Go.UM
open Go.AM
set_option maxRecDepth 4000
theorem Cl {R:Env} (h:G5 R) (l:List T3) (hl:l.length≤1073741824):R.Mc 361 [.aH 3 (bD l)] [] (.ba 0 l.length) [(0,.arr (R.ty 26) 3 (bD l))] 1:=
 h.Pp.aV 60 0 rfl rfl rfl fun X b hfit hp=>by
  refine sh ?_
  refine Dz.mk (fun hn=> ?_) ?_
  ·have:l=[]:=by simpa[bD]using hn
   subst this
   refine sh ?_
   exact rM [50]
  ·refine sh ?_
   exact rM [0]
theorem Cm {R:Env} (h:G6 R) (l:List (Int × Int)) (hl:l.length≤1073741824):R.Mc 362 [.aH 2 (dL l)] [] (.ba 0 l.length) [(0,.arr (R.ty 18) 2 (dL l))] 1:=
 h.Pr.aV 60 0 rfl rfl rfl fun X b hfit hp=>by
  refine sh ?_
  refine Dz.mk (fun hn=> ?_) ?_
  ·have:l=[]:=by simpa[dL]using hn
   subst this
   refine sh ?_
   exact rM [50]
  ·refine sh ?_
   exact rM [0]
theorem Cn {R:Env} (h:G3 R) (l:List T3) (hl:l.length≤1073741824):R.Mc 101 [.aH 3 (bD l)] [] (.ba 0 l.length) [(0,.arr (R.ty 13) 3 (bD l))] 1:=
 h.Ks.aV 60 0 rfl rfl rfl fun X b hfit hp=>by
  refine sh ?_
  refine Dz.mk (fun hn=> ?_) ?_
  ·have:l=[]:=by simpa[bD]using hn
   subst this
   refine sh ?_
   exact rM [50]
  ·refine sh ?_
   exact rM [0]
theorem zq {R:Env} (h:G5 R) (l:List T3) (hl:l.length≤1073741824):R.Pc 361 [.aH 3 (bD l)] (.aH 3 (bD l)):=(Cl h l hl).pc fZ
theorem zu {R:Env} (h:G6 R) (l:List (Int × Int)) (hl:l.length≤1073741824):R.Pc 362 [.aH 2 (dL l)] (.aH 2 (dL l)):=(Cm h l hl).pc fZ
theorem r9 {R:Env} (h:G3 R) (l:List T3) (hl:l.length≤1073741824):R.Pc 101 [.aH 3 (bD l)] (.aH 3 (bD l)):=(Cn h l hl).pc fZ
theorem oI {R:Env} (h:Ho R) (a:As) (f:a.vR):R.Pc 356 [.agg a.row] (.agg a.row):=
 h.Hp.enter 100 rfl fun X bb hfit hp=>by
  obtain⟨f1,f2,f3,f4⟩:=f
  refine sh ?_
  refine ae.pure h.Hq.Pp.hb (zq h.Hq a.m.v (by omega)) rfl ?_
  refine sh ?_
  refine ae.pure h.Hr.Pr.hb (zu h.Hr a.m.uv (by omega)) rfl ?_
  refine sh ?_
  refine ae.pure h.n101.Ks.hb (r9 h.n101 a.m.t (by omega)) rfl ?_
  refine sh ?_
  refine ae.pure h.n101.Ks.hb (r9 h.n101 a.x.t (by omega)) rfl ?_
  refine sh ?_
  exact rT
theorem xC {m:Ms} (h:iB m=0):m.v.length≤64∧m.t.length≤64∧m.uv.length=m.v.length∧m.v.any j3=false:=by
 unfold iB at h
 split at h
 ·cases h
 ·split at h
  ·cases h
  ·split at h
   ·cases h
   ·rename_i h1 h2 h3
    exact⟨by omega,by omega,by omega,by simpa using h3⟩
theorem jC {a:As} (h:df a=0) (hx:a.x.t.length≤1000):a.vR:=by
 obtain⟨ow,hb,_⟩:=uj h
 by_cases k:a.k=1
 ·rw[own,if_pos k]at ow
  obtain⟨h1,h2,h3,_⟩:=xC ow
  exact⟨by omega,by omega,by omega,hx⟩
 ·have e:a.m=s4:=by
   have e1:a.bare.m=(As.zero a.k).m:=by rw[hb]
   have e2:a.bare.m=a.m:=by unfold As.bare; rw[if_neg k]; repeat' split
                            all_goals rfl
   rw[←e2,e1]; rfl
  exact⟨by rw[e]; simp[s4],by rw[e]; simp[s4],by rw[e]; simp[s4],hx⟩
def ko (t:Tb) (hd:Int) (f:Mf) (a:As):Tb × Int:=
 if hd<1∨65536<hd then (t,2)else if (bE t.rows hd).isSome=true then (t,10)else if df a≠0 then (t,df a)else if f.kind≠a.k then (t,12)else (⟨t.rows++ [⟨hd,f,a⟩],t.ins⟩,0)
set_option maxHeartbeats 4000000 in
theorem sa {R:Env} (h:BS R) (d1 d2:Bool) (t:Tb) (hd:Int) (f:Mf) (a:As) (fx:a.x.t.length≤1000) (fb:a.bare.vR) (hn:t.rows.length≤1000000):
  R.Mc 346 [.loc 2 1 0 0,.int .i64 hd,.agg f.row,.agg a.row] (eC R d1 d2 t) (.int .i64 (ko t hd f a).2) (eC R d1 d2 (ko t hd f a).1) 3:=
 h.Q1.aV 100 3 rfl rfl rfl fun X bb hfit hp=>by
  generalize hq:ko t hd f a=q
  unfold ko at hq
  unfold eC
  refine sh ?_
  refine cM false [0,1,2] (j4 h.eV d1 d2 t) ?_
  repeat (intro _; first|refine eK ?_|refine eP ?_)
  refine sh ?_
  refine cS (fun h1=> ?_) (fun h1=> ?_)
  ·rw[if_pos (by omega)]at hq
   subst hq
   refine sh ?_
   exact rM [0,1,2]
  ·refine sh ?_
   refine cS (fun h2=> ?_) (fun h2=> ?_)
   ·rw[if_pos (by omega)]at hq
    subst hq
    refine sh ?_
    exact rM [0,1,2]
   ·rw[if_neg (by omega)]at hq
    refine sh ?_
    refine oH fun i=> ?_
    cases hr:bE t.rows hd with
    |some r=>
     rw[hr,if_pos (show (some r).isSome=true from rfl)]at hq
     dsimp only[Option.map_some]
     subst hq
     refine sh ?_
     exact rM [0,1,2]
    |none=>
     rw[hr,if_neg (by simp)]at hq
     dsimp only[Option.map_none]
     refine sh ?_
     refine ae.pure h.n294.QW.hb (Cj h.n294 a fx fb) rfl ?_
     refine sh ?_
     refine cS (fun h3=> ?_) (fun h3=> ?_)
     ·rw[if_pos h3]at hq
      subst hq
      refine sh ?_
      exact rM [0,1,2]
     ·rw[if_neg (by simpa using h3)]at hq
      refine sh ?_
      refine cS (fun h4=> ?_) (fun h4=> ?_)
      ·rw[if_pos h4]at hq
       subst hq
       refine sh ?_
       exact rM [0,1,2]
      ·rw[if_neg (by simpa using h4)]at hq
       refine sh ?_
       refine ae.pure h.sU.Hp.hb (oI h.sU a (jC h3 fx)) rfl ?_
       refine sh ?_
       refine oH fun i=> ?_
       rw[hr]
       dsimp only[Option.map_none]
       subst hq
       refine sh ?_
       refine rM [0,1,2] ?_
       all_goals repeat' (first|exact True.intro|refine And.intro ?_ ?_|(intro _u; clear _u)|(with_reducible first|exact ai.fg|refine eM ?_ ?_|refine eF ?_ ?_ ?_|refine eN ?_|refine eL ?_ ?_ ?_|refine eA ?_ ?_|refine aj.mk ⟨_,hp,rfl⟩ ?_ ?_)|refine aj.mk ⟨_,hp,rfl⟩ ?_ ?_)
       all_goals try first|with_reducible rfl|omega|exact .inl (by decide)|(simp; done)|rfl
       all_goals (simp[iD,x3,Rw.row])
def vE (x:Af) (l:List T3):Int:=((l.map fun v=>(dK x v).2).find? fun e=>e != 0).getD 0
def xD (t:Tb) (x:In):Tb × Int:=
 if x.n<0∨65536<x.n then (t,2)else if bZ t.rows x≠0 then (t,bZ t.rows x)else if (eY t.ins x).isSome=true then (t,10)
 else match bE t.rows x.bK with
  |none=>(t,11)
  |some r=>if vE x.t r.a.m.v≠0 then (t,vE x.t r.a.m.v)else (⟨t.rows,t.ins++ [x]⟩,0)
theorem iX {x:Af} {l:List T3} {k:Nat} {v:T3} (h:l[k]? =some v) (h1:∀ (j:Nat) (u:T3),j<k→l[j]? =some u→(dK x u).2=0) (h2:(dK x v).2≠0):vE x l=(dK x v).2:=by
 unfold vE
 induction l generalizing k with
 |nil=>simp at h
 |cons a r ih=>
  cases k with
  |zero=>
   simp at h; subst h
   simp[List.find?_cons,h2]
  |succ k=>
   have e:=h1 0 a (by omega) rfl
   simp only[List.map_cons,List.find?_cons,e,bne_self_eq_false]
   exact ih (k:=k) (by simpa using h) (fun j u hj hu=>h1 (j+1) u (by omega) (by simpa using hu))
theorem ly {x:Af} {l:List T3} (h:∀ (j:Nat) (u:T3),j<l.length→l[j]? =some u→(dK x u).2=0):vE x l=0:=by
 unfold vE
 induction l with
 |nil=>rfl
 |cons a r ih=>
  have e:=h 0 a (by simp) rfl
  simp only[List.map_cons,List.find?_cons,e,bne_self_eq_false]
  exact ih fun j u hj hu=>h (j+1) u (by simpa using hj) (by simpa using hu)
theorem xE {l:List Rw} {x:In} (h:bZ l x=0):∃r,bE l x.bK=some r∧r.f.kind=1:=by
 unfold bZ at h
 cases hr:bE l x.bK with
 |none=>rw[hr]at h; cases h
 |some r=>
  rw[hr]at h
  refine⟨r,rfl,?_⟩
  dsimp only at h
  cases hb:bE l x.eW with
  |none=>rw[hb]at h; cases h
  |some b=>
   rw[hb]at h
   dsimp only at h
   by_cases hx:x.dB=0
   ·rw[if_pos hx]at h
    by_cases k:r.f.kind=1
    ·exact k
    ·rw[if_pos (.inl k)]at h; cases h
   ·rw[if_neg hx]at h
    cases hc:bE l x.dB with
    |none=>rw[hc]at h; cases h
    |some c=>
     rw[hc]at h
     dsimp only at h
     by_cases k:r.f.kind=1
     ·exact k
     ·rw[if_pos (.inl k)]at h; cases h
structure xF (r:Rw):Prop where
 h:1≤r.h∧r.h≤65536
 a:df r.a=0
 k:r.f.kind=r.a.k
 x:r.a.x.t.length≤1000
theorem kY {l:List Rw} {h:Int} {r:Rw} (e:bE l h=some r):r ∈ l∧r.h=h:=⟨List.mem_of_find?_eq_some e,by simpa using List.find?_some e⟩
theorem xF.AE {r:Rw} (o:xF r) (h:r.f.kind=1):r.a.m.v.length≤64∧∀v ∈ r.a.m.v,j3 v=false:=by
 have k1:r.a.k=1:=o.k.symm.trans h
 have ow:=(uj o.a).1
 rw[own,if_pos k1]at ow
 obtain⟨h1,_,_,h4⟩:=xC ow
 exact⟨h1,fun v hv=>by
  have:=List.any_eq_false.1 h4 v hv
  simpa using this⟩
theorem vF {v:T3} (h:j3 v=false):v.I:=by
 have:=qd h
 exact⟨by simp only[hJ]; omega,by simp only[hJ]; omega,by simp only[hJ]; omega⟩
set_option maxHeartbeats 4000000 in
theorem MZ {R:Env} (h:Ez R) (d1 d2:Bool) (t:Tb) (x:In) (ok:∀r ∈ t.rows,xF r) (hx:x.t.I) (hn:t.ins.length≤1000000):
  R.Mc 347 [.loc 2 1 0 0,.agg x.row] (eC R d1 d2 t) (.int .i64 (xD t x).2) (eC R d1 d2 (xD t x).1) 3:=
 h.Q5.aV 100 3 rfl rfl rfl fun X bb hfit hp=>by
  generalize hq:xD t x=q
  unfold xD at hq
  unfold eC
  refine sh ?_
  refine cM false [0,1,2] (j4 h.eV d1 d2 t) ?_
  repeat (intro _; first|refine eK ?_|refine eP ?_)
  refine sh ?_
  refine cS (fun h1=> ?_) (fun h1=> ?_)
  ·rw[if_pos (by omega)]at hq
   subst hq
   refine sh ?_
   exact rM [0,1,2]
  ·refine sh ?_
   refine cS (fun h2=> ?_) (fun h2=> ?_)
   ·rw[if_pos (by omega)]at hq
    subst hq
    refine sh ?_
    exact rM [0,1,2]
   ·rw[if_neg (by omega)]at hq
    refine sh ?_
    refine cM false [0,1,2] (Ig h.Lt d1 d2 t x) ?_
    repeat (intro _; first|refine eK ?_|refine eP ?_)
    refine sh ?_
    refine cS (fun h3=> ?_) (fun h3=> ?_)
    ·rw[if_pos h3]at hq
     subst hq
     refine sh ?_
     exact rM [0,1,2]
    ·rw[if_neg (by simpa using h3)]at hq
     obtain⟨r,hr,hk⟩:=xE h3
     have hvs:=(ok r (kY hr).1).AE hk
     refine sh ?_
     refine ae.pure h.kr.y3.hb (Ck h.kr x) rfl ?_
     refine sh ?_
     refine MX fun i=> ?_
     cases hi:eY t.ins x with
     |some y=>
      rw[hi,if_pos (show (some y).isSome=true from rfl)]at hq
      dsimp only[Option.map_some]
      subst hq
      refine sh ?_
      exact rM [0,1,2]
     |none=>
      rw[hi,if_neg (by simp),hr]at hq
      dsimp only at hq
      dsimp only[Option.map_none]
      refine sh ?_
      refine oH fun i=> ?_
      rw[hr]
      dsimp only[Option.map_some]
      refine sh ?_
      refine gk 100 (fun k:Nat=>k≤r.a.m.v.length∧∀ (j:Nat) (u:T3),j<k→r.a.m.v[j]? =some u→(dK x.t u).2=0) (fun k=>⟨[(0,.loc 2 1 0 0),(3,.loc 3 1 0 0),(50,.aH 3 (bD r.a.m.v)),(51,.int .i64 r.a.m.v.length),(52,.int .i64 k)],[(3,.var (R.ty 44) x.row),(0,.map 1 false true d1 41 (iD t.rows)),(1,.map 4 true true d2 16 (b8 t.ins)),(2,.var (R.ty 47) [.omap 0,.omap 1])],4⟩) (fun k=>r.a.m.v.length - k) (0) ?_ ?_
      ·exact⟨Nat.zero_le _,fun j u hj=>absurd hj (Nat.not_lt_zero j)⟩
      ·intro k hk
       dsimp only
       have hlen:=hvs.1
       refine sh ?_
       refine cS (fun h4=> ?_) (fun h4=> ?_)
       ·obtain⟨v,hv⟩:∃u_,r.a.m.v[k]? =some u_:=⟨_,List.getElem?_eq_getElem (by first|omega|(simp<;>omega))⟩
        refine sh ?_
        refine ab hv ?_
        refine sh ?_
        refine ae.pure h.n241.Qr.hb (E5 h.n241 hx (vF (hvs.2 v (List.mem_of_getElem? hv)))) rfl ?_
        refine sh ?_
        refine cS (fun h5=> ?_) (fun h5=> ?_)
        ·rw[if_pos (by rw[iX hv hk.2 h5]; exact h5),iX hv hk.2 h5]at hq
         subst hq
         refine sh ?_
         exact rM [0,1,2]
        ·refine sh ?_
         refine kq (k+1) ?_ ?_
         ·refine⟨by omega,fun j u hj hu=> ?_⟩
          by_cases e:j=k
          ·subst e
           rw[hv]at hu
           cases hu
           exact h5
          ·exact hk.2 j u (by omega) hu
         ·omega
       ·rw[ly (fun j u hj=>hk.2 j u (by omega)),if_neg (by simp)]at hq
        refine sh ?_
        refine ae.pure h.kr.y3.hb (Ck h.kr x) rfl ?_
        refine sh ?_
        refine MX fun i=> ?_
        rw[hi]
        dsimp only[Option.map_none]
        subst hq
        refine sh ?_
        refine rM [0,1,2] ?_
        all_goals repeat' (first|exact True.intro|refine And.intro ?_ ?_|(intro _u; clear _u)|(with_reducible first|exact ai.fg|refine eM ?_ ?_|refine eF ?_ ?_ ?_|refine eN ?_|refine eL ?_ ?_ ?_|refine eA ?_ ?_|refine aj.mk ⟨_,hp,rfl⟩ ?_ ?_)|refine aj.mk ⟨_,hp,rfl⟩ ?_ ?_)
        all_goals try first|with_reducible rfl|omega|exact .inl (by decide)|(simp; done)|rfl
        all_goals (simp[b8,In.row])
end Go.UM
