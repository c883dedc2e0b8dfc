/- Of the reckoning machine, and what is proved with it: texts joined by program. -/
import Derived.Test.YtnfgjmbcfcnieaaGreatU0
import Derived.Test.YtnfgjmbcfcnieaaGreatK3
set_option linter.all false
namespace Go.UM
open Go.AM
set_option maxRecDepth 4000
theorem Hj {R:Env} (h:ZD R) (l:List UInt8) (hl:l.length≤1073741824):
  R.Mc 62 [.aJ 1 (bA l)] [] (.bc 0 l.length) [(0,.arr (R.ty 4) 1 (bA l))] 1:=
 h.o62.bC 60 0 rfl rfl rfl fun X b hfit hp=>by
  refine sh ?_
  refine FP.mk (fun hn=> ?_) ?_
  ·have:l=[]:=by simpa[bA]using hn
   subst this
   refine sh ?_
   exact rM [50]
  ·refine sh ?_
   exact rM [0]
def enc (w:Nat) (x:Int):List UInt8:=(List.range w).map fun i=>u8 (x / 256 ^ i)
def kn (b:List UInt8) (w:Int) (n:List Int):List UInt8 × Int:=
 if w<1∨8<w then ([],2)else if n.any (fun x=>decide (256 ^ w.toNat≤x))=true then ([],3)else (b++n.flatMap (enc w.toNat),0)
theorem qL (w:Nat):∀l:List Int,(l.flatMap (enc w)).length=w*l.length
 |[]=>by simp
 |x::r=>by simp[qL w r,enc,Nat.mul_add]; omega
theorem tA {b:List UInt8} {n:List Int} {w:Int} {k:Nat} {i:Nat} {x:Int} (hl:b.length+8*n.length≤1073741824) (hw:w≤8) (pO:1≤w) (hk:(k:Int)<n.length) (hi:(i:Int)<w):(b++(n.take k).flatMap (enc w.toNat)++enc i x).length+1≤1073741824:=by
 have h1:w.toNat* (n.take k).length≤8*k:=Nat.mul_le_mul (by omega) (by simp; omega)
 simp only[List.length_append,qL]
 have:(enc i x).length=i:=by simp[enc]
 omega
theorem tB (i:Nat) (x:Int):enc (i+1) x=enc i x++ [u8 (x / 256 ^ i)]:=by simp[enc,List.range_succ]
@[simp] theorem Wa (x:Int):enc 0 x=[]:=rfl
@[simp] theorem PX (w:Nat) (x:Int):(enc w x).length=w:=by simp[enc]
theorem xx {x:Int} {i:Nat} (hx:0≤x) (hi:i<8):fu .u64 x (8* (i:Int))=x / 256 ^ i:=by
 rw[PL hx]
 have h:(8* (i:Int)).toNat=8*i:=by omega
 rw[h,show min (8*i) (IntKind.bits .u64)=8*i by simp[IntKind.bits]; omega,Int.pow_mul]
 rfl
theorem Cd {x w:Int} (hx:0≤x) (h1:1≤w) (h8:w<8):0<fu .u64 x (8*w)↔256 ^ w.toNat≤x:=by
 obtain⟨i,rfl⟩:∃i:Nat,w=i:=⟨w.toNat,by omega⟩
 rw[xx hx (by omega),Int.toNat_natCast]
 have hp:(0:Int)<256 ^ i:=Int.pow_pos (by decide)
 constructor
 ·intro h
  have:=(Int.le_ediv_iff_mul_le hp).1 (show 1≤x / 256 ^ i from h)
  rwa[Int.one_mul]at this
 ·intro h
  show 1≤x / 256 ^ i
  exact (Int.le_ediv_iff_mul_le hp).2 (by rw[Int.one_mul]; exact h)
theorem eY {n:List Int} {k:Nat} {x:Int} {p:Int→Bool} (h:n[k]? =some x):(n.take (k+1)).any p=((n.take k).any p||p x):=by
 rw[ay h]; simp
theorem za {b:List UInt8} {w:Int} {n:List Int} {x:Int} (h1:1≤w) (h2:w≤8) (hx:x ∈ n) (h:256 ^ w.toNat≤x):kn b w n=([],3):=by
 unfold kn
 rw[if_neg (by omega),if_pos]
 simp only[List.any_eq_true,decide_eq_true_eq]
 exact⟨x,hx,h⟩
theorem pb {b:List UInt8} {w:Int} {n:List Int} (h1:1≤w) (h2:w≤8) (h:n.any (fun x=>decide (256 ^ w.toNat≤x))=false):kn b w n=(b++n.flatMap (enc w.toNat),0):=by
 unfold kn
 rw[if_neg (by omega),if_neg (by rw[h]; decide)]
theorem Ce {R:Env} (h:Og R) (b:List UInt8) (w:Int) (n:List Int) (hl:b.length+8*n.length≤1073741824) (hn:∀x ∈ n,0≤x∧x≤18446744073709551615):
  R.Mc 54 [.aJ 1 (bA b),.int .i64 w,.aJ 1 (bB .u64 n)] [] (.aP [.bc 0 (kn b w n).1.length,.int .i64 (kn b w n).2]) [(0,.arr (R.ty 4) 1 (bA (kn b w n).1))] 1:=
 h.o54.bC 100 0 rfl rfl rfl fun X bb hfit hp=>by
  generalize hq:kn b w n=q
  refine sh ?_
  refine cS (fun h1=> ?_) (fun h1=> ?_)
  ·rw[kn,if_pos (.inl h1)]at hq
   subst hq
   refine sh ?_
   exact rM [50]
  ·refine sh ?_
   refine cS (fun h2=> ?_) (fun h2=> ?_)
   ·rw[kn,if_pos (.inr h2)]at hq
    subst hq
    refine sh ?_
    exact rM [50]
   ·refine sh ?_
    refine cM false [] (Hj h.n62 b (by omega)) ?_
    repeat (intro _; first|refine eK ?_|refine eP ?_)
    refine sh ?_
    refine gW 100 (fun k:Nat=>k≤n.length∧(n.take k).any (fun x=>decide (256 ^ w.toNat≤x))=false) (fun k=>⟨[(1,.int .i64 w),(8,.bc 0 (b++(n.take k).flatMap (enc w.toNat)).length),(20,.aJ 1 (bB .u64 n)),(21,.int .i64 n.length),(22,.int .i64 k)],[(0,.arr (R.ty 4) 1 (bA (b++(n.take k).flatMap (enc w.toNat))))],1⟩) (fun k=>n.length - k) (0) ?_ ?_
    ·exact⟨Nat.zero_le _,by simp⟩
    ·intro k hk
     dsimp only
     refine sh ?_
     refine cS (fun h3=> ?_) (fun h3=> ?_)
     ·obtain⟨x,hx⟩:∃u_,n[k]? =some u_:=⟨_,List.getElem?_eq_getElem (by first|omega|(simp<;>omega))⟩
      refine sh ?_
      refine aa hx ?_
      have mA:=hx
      have hx:=hn x (List.mem_of_getElem? mA)
      refine sh ?_
      refine cS (fun h4=> ?_) (fun h4=> ?_)
      ·refine sh ?_
       refine cS (fun h5=> ?_) (fun h5=> ?_)
       ·rw[za (by omega) (by omega) (List.mem_of_getElem? mA) ((Cd hx.1 (by omega) h4).1 h5)]at hq
        subst hq
        refine sh ?_
        exact rM [50]
       ·have hnb:¬256 ^ w.toNat≤x:=fun hb=>absurd ((Cd hx.1 (by omega) h4).2 hb) (by omega)
        refine sh ?_
        refine gW 100 (fun i:Nat=>(i:Int)≤w) (fun i=>⟨[(1,.int .i64 w),(8,.bc 0 (b++(n.take k).flatMap (enc w.toNat)++enc i x).length),(10,.int .u64 x),(20,.aJ 1 (bB .u64 n)),(21,.int .i64 n.length),(22,.int .i64 k),(35,.int .i64 w),(36,.int .i64 i)],[(0,.arr (R.ty 4) 1 (bA (b++(n.take k).flatMap (enc w.toNat)++enc i x)))],1⟩) (fun i=>w.toNat - i) (0) ?_ ?_
        ·show (0:Int)≤w
         omega
        ·intro i hi
         dsimp only
         refine sh ?_
         refine cS (fun h6=> ?_) (fun h6=> ?_)
         ·refine sh ?_
          rw[xx hx.1 (by omega)]
          refine bz ?_
          refine sh ?_
          refine⟨by rw[fM]; exact tA hl h2 h1 h3 h6,?_⟩
          refine sh ?_
          refine nX (i+1) ?_ ?_ ⟨_,hp,rfl⟩ ?_ ?_
          ·omega
          ·omega
          ·all_goals repeat' (first|exact True.intro|refine And.intro ?_ ?_|(intro _u; clear _u)|(with_reducible first|exact ai.fg|refine eM ?_ ?_|refine eF ?_ ?_ ?_|refine eN ?_|refine eL ?_ ?_ ?_|refine eA ?_ ?_|refine ap.mk ⟨_,hp,rfl⟩ ?_ ?_)|refine ap.mk ⟨_,hp,rfl⟩ ?_ ?_)
           all_goals try first|with_reducible rfl|omega|exact .inl (by decide)|(simp; done)|rfl
          ·all_goals repeat' (first|exact True.intro|refine And.intro ?_ ?_|(intro _u; clear _u)|(with_reducible first|exact ai.fg|refine eM ?_ ?_|refine eF ?_ ?_ ?_|refine eN ?_|refine eL ?_ ?_ ?_|refine eA ?_ ?_|refine ap.mk ⟨_,hp,rfl⟩ ?_ ?_)|refine ap.mk ⟨_,hp,rfl⟩ ?_ ?_)
           all_goals try first|with_reducible rfl|omega|exact .inl (by decide)|(simp; done)|rfl
           simp[tB]
         ·refine sh ?_
          refine nX (k+1) ?_ ?_ ⟨_,hp,rfl⟩ ?_ ?_
          ·refine⟨by omega,?_⟩
           rw[eY mA,hk.2,decide_eq_false hnb]; rfl
          ·omega
          ·all_goals repeat' (first|exact True.intro|refine And.intro ?_ ?_|(intro _u; clear _u)|(with_reducible first|exact ai.fg|refine eM ?_ ?_|refine eF ?_ ?_ ?_|refine eN ?_|refine eL ?_ ?_ ?_|refine eA ?_ ?_|refine ap.mk ⟨_,hp,rfl⟩ ?_ ?_)|refine ap.mk ⟨_,hp,rfl⟩ ?_ ?_)
           all_goals try first|with_reducible rfl|omega|exact .inl (by decide)|(simp; done)|rfl
           rw[ay mA,show i=w.toNat by omega]; simp
          ·all_goals repeat' (first|exact True.intro|refine And.intro ?_ ?_|(intro _u; clear _u)|(with_reducible first|exact ai.fg|refine eM ?_ ?_|refine eF ?_ ?_ ?_|refine eN ?_|refine eL ?_ ?_ ?_|refine eA ?_ ?_|refine ap.mk ⟨_,hp,rfl⟩ ?_ ?_)|refine ap.mk ⟨_,hp,rfl⟩ ?_ ?_)
           all_goals try first|with_reducible rfl|omega|exact .inl (by decide)|(simp; done)|rfl
           rw[ay mA,show i=w.toNat by omega]; simp
      ·have hnb:¬256 ^ w.toNat≤x:=by rw[show w.toNat=8 by omega]; omega
       refine sh ?_
       refine gW 100 (fun i:Nat=>(i:Int)≤w) (fun i=>⟨[(1,.int .i64 w),(8,.bc 0 (b++(n.take k).flatMap (enc w.toNat)++enc i x).length),(10,.int .u64 x),(20,.aJ 1 (bB .u64 n)),(21,.int .i64 n.length),(22,.int .i64 k),(35,.int .i64 w),(36,.int .i64 i)],[(0,.arr (R.ty 4) 1 (bA (b++(n.take k).flatMap (enc w.toNat)++enc i x)))],1⟩) (fun i=>w.toNat - i) (0) ?_ ?_
       ·show (0:Int)≤w
        omega
       ·intro i hi
        dsimp only
        refine sh ?_
        refine cS (fun h6=> ?_) (fun h6=> ?_)
        ·refine sh ?_
         rw[xx hx.1 (by omega)]
         refine bz ?_
         refine sh ?_
         refine⟨by rw[fM]; exact tA hl h2 h1 h3 h6,?_⟩
         refine sh ?_
         refine nX (i+1) ?_ ?_ ⟨_,hp,rfl⟩ ?_ ?_
         ·omega
         ·omega
         ·all_goals repeat' (first|exact True.intro|refine And.intro ?_ ?_|(intro _u; clear _u)|(with_reducible first|exact ai.fg|refine eM ?_ ?_|refine eF ?_ ?_ ?_|refine eN ?_|refine eL ?_ ?_ ?_|refine eA ?_ ?_|refine ap.mk ⟨_,hp,rfl⟩ ?_ ?_)|refine ap.mk ⟨_,hp,rfl⟩ ?_ ?_)
          all_goals try first|with_reducible rfl|omega|exact .inl (by decide)|(simp; done)|rfl
         ·all_goals repeat' (first|exact True.intro|refine And.intro ?_ ?_|(intro _u; clear _u)|(with_reducible first|exact ai.fg|refine eM ?_ ?_|refine eF ?_ ?_ ?_|refine eN ?_|refine eL ?_ ?_ ?_|refine eA ?_ ?_|refine ap.mk ⟨_,hp,rfl⟩ ?_ ?_)|refine ap.mk ⟨_,hp,rfl⟩ ?_ ?_)
          all_goals try first|with_reducible rfl|omega|exact .inl (by decide)|(simp; done)|rfl
          simp[tB]
        ·refine sh ?_
         refine nX (k+1) ?_ ?_ ⟨_,hp,rfl⟩ ?_ ?_
         ·refine⟨by omega,?_⟩
          rw[eY mA,hk.2,decide_eq_false hnb]; rfl
         ·omega
         ·all_goals repeat' (first|exact True.intro|refine And.intro ?_ ?_|(intro _u; clear _u)|(with_reducible first|exact ai.fg|refine eM ?_ ?_|refine eF ?_ ?_ ?_|refine eN ?_|refine eL ?_ ?_ ?_|refine eA ?_ ?_|refine ap.mk ⟨_,hp,rfl⟩ ?_ ?_)|refine ap.mk ⟨_,hp,rfl⟩ ?_ ?_)
          all_goals try first|with_reducible rfl|omega|exact .inl (by decide)|(simp; done)|rfl
          rw[ay mA,show i=w.toNat by omega]; simp
         ·all_goals repeat' (first|exact True.intro|refine And.intro ?_ ?_|(intro _u; clear _u)|(with_reducible first|exact ai.fg|refine eM ?_ ?_|refine eF ?_ ?_ ?_|refine eN ?_|refine eL ?_ ?_ ?_|refine eA ?_ ?_|refine ap.mk ⟨_,hp,rfl⟩ ?_ ?_)|refine ap.mk ⟨_,hp,rfl⟩ ?_ ?_)
          all_goals try first|with_reducible rfl|omega|exact .inl (by decide)|(simp; done)|rfl
          rw[ay mA,show i=w.toNat by omega]; simp
     ·have hkn:n.take k=n:=List.take_of_length_le (by omega)
      rw[hkn]at hk ⊢
      rw[pb (by omega) (by omega) hk.2]at hq
      subst hq
      refine sh ?_
      exact rM [0]
end Go.UM
namespace Go.UM
open Go.AM
set_option maxRecDepth 4000
def gX (b:List UInt8) (w:Int) (n:List Int):List UInt8 × Int:=
 if w<1∨8<w then ([],2)else if n.any (fun x=>decide (x< -(256 ^ w.toNat / 2))||decide (256 ^ w.toNat / 2≤x))=true then ([],3)else kn b w (n.map fun x=>x % 256 ^ w.toNat)
theorem p5 {b:List UInt8} {w:Int} {n:List Int} {x:Int} (h1:1≤w) (h2:w≤8) (hx:x ∈ n) (h:x< -(256 ^ w.toNat / 2)∨256 ^ w.toNat / 2≤x):gX b w n=([],3):=by
 unfold gX
 rw[if_neg (by omega),if_pos]
 simp only[List.any_eq_true,Bool.or_eq_true,decide_eq_true_eq]
 exact⟨x,hx,h⟩
theorem tC {b:List UInt8} {w:Int} {n:List Int} (h1:1≤w) (h2:w≤8) (h:n.any (fun x=>decide (x< -(256 ^ w.toNat / 2))||decide (256 ^ w.toNat / 2≤x))=false):gX b w n=kn b w (n.map fun x=>x % 256 ^ w.toNat):=by
 unfold gX
 rw[if_neg (by omega),if_neg (by rw[h]; decide)]
theorem KI {w x:Int} (h1:1≤w) (h2:w≤8) (hx:bg .i64 x):(fu .i64 (pz .i64 x (64 - 8*w)) (64 - 8*w)=x)↔¬ (x< -(256 ^ w.toNat / 2)∨256 ^ w.toNat / 2≤x):=by
 simp only[bg]at hx
 obtain h|h|h|h|h|h|h|h:w=1∨w=2∨w=3∨w=4∨w=5∨w=6∨w=7∨w=8:=by omega
 all_goals subst h
 all_goals (simp only[fu,pz,IntKind.wrap,IntKind.bits,IntKind.signed]; simp[Int.fdiv_eq_ediv]; omega)
theorem KJ {w x:Int} (h1:1≤w) (h2:w≤8) (hx:bg .i64 x):fu .u64 (pz .u64 (wr .u64 x) (64 - 8*w)) (64 - 8*w)=x % 256 ^ w.toNat:=by
 simp only[bg]at hx
 obtain h|h|h|h|h|h|h|h:w=1∨w=2∨w=3∨w=4∨w=5∨w=6∨w=7∨w=8:=by omega
 all_goals subst h
 all_goals (simp only[wr,fu,pz,IntKind.wrap,IntKind.bits,IntKind.signed]; simp[Int.fdiv_eq_ediv]<;>omega)
theorem zb {b:List UInt8} {w:Int} {n:List Int} (h1:1≤w) (h2:w≤8):∀x ∈ n.map (fun x=>x % 256 ^ w.toNat),0≤x∧x≤18446744073709551615:=by
 intro x hx
 obtain⟨y,_,rfl⟩:=List.mem_map.1 hx
 obtain h|h|h|h|h|h|h|h:w=1∨w=2∨w=3∨w=4∨w=5∨w=6∨w=7∨w=8:=by omega
 all_goals (subst h; simp<;>omega)
theorem zc {R:Env} (h:TX R) (b:List UInt8) (w:Int) (n:List Int) (hl:b.length+8*n.length≤1073741824) (hn:∀x ∈ n,bg .i64 x):
  R.Mc 71 [.aJ 1 (bA b),.int .i64 w,.aJ 1 (bB .i64 n)] [] (.aP [.bc 0 (gX b w n).1.length,.int .i64 (gX b w n).2]) [(0,.arr (R.ty 4) 1 (bA (gX b w n).1))] 1:=
 h.o71.bC 100 0 rfl rfl rfl fun X bb hfit hp=>by
  generalize hq:gX b w n=q
  refine sh ?_
  refine cS (fun h1=> ?_) (fun h1=> ?_)
  ·rw[gX,if_pos (.inl h1)]at hq
   subst hq
   refine sh ?_
   exact rM [50]
  ·refine sh ?_
   refine cS (fun h2=> ?_) (fun h2=> ?_)
   ·rw[gX,if_pos (.inr h2)]at hq
    subst hq
    refine sh ?_
    exact rM [50]
   ·refine sh ?_
    refine gW 100 (fun k:Nat=>k≤n.length∧(n.take k).any (fun x=>decide (x< -(256 ^ w.toNat / 2))||decide (256 ^ w.toNat / 2≤x))=false) (fun k=>⟨[(0,.aJ 1 (bA b)),(1,.int .i64 w),(8,.bc 0 ((n.take k).map fun x=>x % 256 ^ w.toNat).length),(18,.aJ 1 (bB .i64 n)),(19,.int .i64 n.length),(20,.int .i64 k)],[(0,.arr (R.ty 6) 1 (bB .u64 ((n.take k).map fun x=>x % 256 ^ w.toNat)))],1⟩) (fun k=>n.length - k) (0) ?_ ?_
    ·exact⟨Nat.zero_le _,by simp⟩
    ·intro k hk
     dsimp only
     refine sh ?_
     refine cS (fun h3=> ?_) (fun h3=> ?_)
     ·obtain⟨x,hx⟩:∃u_,n[k]? =some u_:=⟨_,List.getElem?_eq_getElem (by first|omega|(simp<;>omega))⟩
      refine sh ?_
      refine aa hx ?_
      have mA:=hx
      have hx:=hn x (List.mem_of_getElem? mA)
      have hsx:=KI (by omega) h2 hx
      refine sh ?_
      refine cS (fun h4=> ?_) (fun h4=> ?_)
      ·rw[p5 (by omega) (by omega) (List.mem_of_getElem? mA) (Decidable.not_not.1 fun hb=>h4 (hsx.2 hb))]at hq
       subst hq
       refine sh ?_
       exact rM [50]
      ·refine sh ?_
       refine bz ?_
       refine sh ?_
       rw[KJ (by omega) h2 hx]
       refine nX (k+1) ?_ ?_ ⟨_,hp,rfl⟩ ?_ ?_
       ·refine⟨by omega,?_⟩
        rw[eY mA,hk.2]
        have:=hsx.1 h4
        simp only[Bool.false_or,Bool.or_eq_false_iff,decide_eq_false_iff_not]
        omega
       ·omega
       ·all_goals repeat' (first|exact True.intro|refine And.intro ?_ ?_|(intro _u; clear _u)|(with_reducible first|exact ai.fg|refine eM ?_ ?_|refine eF ?_ ?_ ?_|refine eN ?_|refine eL ?_ ?_ ?_|refine eA ?_ ?_|refine ap.mk ⟨_,hp,rfl⟩ ?_ ?_)|refine ap.mk ⟨_,hp,rfl⟩ ?_ ?_)
        all_goals try first|with_reducible rfl|omega|exact .inl (by decide)|(simp; done)|rfl
        rw[ay mA]; simp
       ·all_goals repeat' (first|exact True.intro|refine And.intro ?_ ?_|(intro _u; clear _u)|(with_reducible first|exact ai.fg|refine eM ?_ ?_|refine eF ?_ ?_ ?_|refine eN ?_|refine eL ?_ ?_ ?_|refine eA ?_ ?_|refine ap.mk ⟨_,hp,rfl⟩ ?_ ?_)|refine ap.mk ⟨_,hp,rfl⟩ ?_ ?_)
        all_goals try first|with_reducible rfl|omega|exact .inl (by decide)|(simp; done)|rfl
        rw[ay mA]; simp[bB]
     ·have hkn:n.take k=n:=List.take_of_length_le (by omega)
      rw[hkn]at hk ⊢
      rw[tC (by omega) (by omega) hk.2]at hq
      subst hq
      refine sh ?_
      refine cM true [] (Ce h.ID b w (n.map fun x=>x % 256 ^ w.toNat) (by simpa using hl) (zb (b:=b) (by omega) h2)) ?_
      repeat (intro _; first|refine eK ?_|refine eP ?_)
      refine sh ?_
      exact rM [1]
structure Rd where
 l:List UInt8
 e:Int
 made:Bool
def Rd.row (r:Rd):List AV:=[.aJ 1 (bA r.l),.int .i64 r.e,.bool r.made]
def Rd.off (r:Rd):Bool:= !r.made||decide (r.e≠0)
def Rd.take (r:Rd) (n:Int):List UInt8 × Rd:=
 if r.made=false∨r.e≠0 then ([],r)else if n<0 then ([],{r with e:=2})else if (r.l.length:Int)<n then ([],{r with e:=4})else (r.l.take n.toNat,{r with l:=r.l.drop n.toNat})
def Rd.num (r:Rd) (w:Int):Nat × Rd:=let t:=r.take (if w<1∨8<w then -1 else w); (le t.1,t.2)
def sx (w:Int) (n:Nat):Int:=if 2*n<256 ^ w.toNat then n else n - 256 ^ w.toNat
def Rd.int (r:Rd) (w:Int):Int × Rd:=(if w<1∨8<w then 0 else sx w (r.num w).1,(r.num w).2)
def Rd.err (r:Rd):Int:=if r.made=false then 1 else r.e
def Rd.fin (r:Rd):Int:=if r.err≠0 then r.err else if 0<r.l.length then 5 else 0
end Go.UM
namespace Go.UM
open Go.AM
set_option maxRecDepth 4000
theorem KK {w:Int} (h:w≤8):(256:Int) ^ w.toNat≤18446744073709551616:=by
 have:(256:Nat) ^ w.toNat≤256 ^ 8:=Nat.pow_le_pow_right (by decide) (by omega)
 have h2:((256:Int) ^ w.toNat)=((256 ^ w.toNat:Nat):Int):=by rw[Int.natCast_pow]; rfl
 omega
theorem xy (n:Nat):(1:Int)≤256 ^ n:=Int.pow_pos (by decide)
theorem Ba {R:Env} (h:XS R) (w:Int) (hw:w≤8):R.Pc 63 [.int .i64 w] (.int .u64 (256 ^ w.toNat - 1)):=
 h.XT.enter 100 rfl fun X bb hfit hp=>by
  refine sh ?_
  refine gW 100 (fun i:Nat=>i≤w.toNat) (fun i=>⟨[(0,.int .i64 w),(3,.int .u64 (256 ^ i - 1)),(4,.int .i64 i)],[],0⟩) (fun i=>w.toNat - i) (0) ?_ ?_
  ·exact Nat.zero_le _
  ·intro i hi
   dsimp only
   refine sh ?_
   refine cS (fun h1=> ?_) (fun h1=> ?_)
   ·have hp8:(256:Int) ^ (i+1)≤18446744073709551616:=by
     have:=KK (w:=(i+1:Nat)) (by omega)
     simpa using this
    rw[Int.pow_succ]at hp8
    have hp1:=xy i
    refine sh ?_
    refine lz (i+1) ?_ ?_
    ·omega
    ·omega
   ·refine sh ?_
    refine rT ?_
    all_goals repeat' (first|exact True.intro|refine And.intro ?_ ?_|(intro _u; clear _u)|(with_reducible first|exact ai.fg|refine eM ?_ ?_|refine eF ?_ ?_ ?_|refine eN ?_|refine eL ?_ ?_ ?_|refine eA ?_ ?_|refine ap.mk ⟨_,hp,rfl⟩ ?_ ?_)|refine ap.mk ⟨_,hp,rfl⟩ ?_ ?_)
    all_goals try first|with_reducible rfl|omega|exact .inl (by decide)|(simp; done)|rfl
    rw[show i=w.toNat by omega]
theorem Hk {R:Env} (h:Vh R) (b:List UInt8) (w:Int) (n:List Int) (hl:b.length+8*n.length≤1073741824) (hn:∀x ∈ n,0≤x∧x≤18446744073709551615):
  R.Mc 55 [.aJ 1 (bA b),.int .i64 w,.aJ 1 (bB .u64 n)] [] (.aP [.bc 0 (kn b w n).1.length,.int .i64 (kn b w n).2]) [(0,.arr (R.ty 4) 1 (bA (kn b w n).1))] 1:=
 h.o55.bC 100 0 rfl rfl rfl fun X bb hfit hp=>by
  generalize hq:kn b w n=q
  refine sh ?_
  refine cS (fun h1=> ?_) (fun h1=> ?_)
  ·rw[kn,if_pos (.inl h1)]at hq
   subst hq
   refine sh ?_
   exact rM [50]
  ·refine sh ?_
   refine cS (fun h2=> ?_) (fun h2=> ?_)
   ·rw[kn,if_pos (.inr h2)]at hq
    subst hq
    refine sh ?_
    exact rM [50]
   ·refine sh ?_
    refine gW 100 (fun k:Nat=>k≤n.length∧(n.take k).any (fun x=>decide (256 ^ w.toNat≤x))=false) (fun k=>⟨[(1,.int .i64 w),(2,.aJ 1 (bB .u64 n)),(8,.bc 0 (b++(n.take k).flatMap (enc w.toNat)).length),(9,.int .i64 k)],[(0,.arr (R.ty 4) 1 (bA (b++(n.take k).flatMap (enc w.toNat))))],1⟩) (fun k=>n.length - k) (0) ?_ ?_
    ·exact⟨Nat.zero_le _,by simp⟩
    ·intro k hk
     dsimp only
     refine sh ?_
     refine cS (fun h3=> ?_) (fun h3=> ?_)
     ·obtain⟨x,hx⟩:∃u_,n[k]? =some u_:=⟨_,List.getElem?_eq_getElem (by first|omega|(simp<;>omega))⟩
      refine sh ?_
      refine aa hx ?_
      have mA:=hx
      have hx:=hn x (List.mem_of_getElem? mA)
      refine sh ?_
      refine ae.pure h.IE.XT.hb (Ba h.IE w h2) rfl ?_
      refine sh ?_
      refine cS (fun h5=> ?_) (fun h5=> ?_)
      ·rw[za (by omega) (by omega) (List.mem_of_getElem? mA) (by omega)]at hq
       subst hq
       refine sh ?_
       exact rM [50]
      ·have hnb:¬256 ^ w.toNat≤x:=by omega
       refine sh ?_
       refine aa mA ?_
       refine sh ?_
       refine gW 100 (fun i:Nat=>(i:Int)≤w) (fun i=>⟨[(1,.int .i64 w),(2,.aJ 1 (bB .u64 n)),(8,.bc 0 (b++(n.take k).flatMap (enc w.toNat)++enc i x).length),(9,.int .i64 k),(10,.int .u64 (x / 256 ^ i)),(11,.int .i64 i)],[(0,.arr (R.ty 4) 1 (bA (b++(n.take k).flatMap (enc w.toNat)++enc i x)))],1⟩) (fun i=>w.toNat - i) (0) ?_ ?_
       ·show (0:Int)≤w
        omega
       ·intro i hi
        dsimp only
        refine sh ?_
        refine cS (fun h6=> ?_) (fun h6=> ?_)
        ·refine sh ?_
         refine bz ?_
         refine sh ?_
         refine⟨by rw[fM]; exact tA hl h2 h1 h3 h6,?_⟩
         have hxi:0≤x / 256 ^ i:=Int.ediv_nonneg hx.1 (by have:=xy i; omega)
         have hxl:x / 256 ^ i≤x:=Int.ediv_le_self _ hx.1
         refine sh ?_
         rw[Int.tdiv_eq_ediv_of_nonneg hxi]
         refine xi (by simp only[bg]; omega) ?_
         refine sh ?_
         refine nX (i+1) ?_ ?_ ⟨_,hp,rfl⟩ ?_ ?_
         ·omega
         ·omega
         ·all_goals repeat' (first|exact True.intro|refine And.intro ?_ ?_|(intro _u; clear _u)|(with_reducible first|exact ai.fg|refine eM ?_ ?_|refine eF ?_ ?_ ?_|refine eN ?_|refine eL ?_ ?_ ?_|refine eA ?_ ?_|refine ap.mk ⟨_,hp,rfl⟩ ?_ ?_)|refine ap.mk ⟨_,hp,rfl⟩ ?_ ?_)
          all_goals try first|with_reducible rfl|omega|exact .inl (by decide)|(simp; done)|rfl
          rw[Int.pow_succ,Int.ediv_ediv_of_nonneg (by have:=xy i; omega)]
         ·all_goals repeat' (first|exact True.intro|refine And.intro ?_ ?_|(intro _u; clear _u)|(with_reducible first|exact ai.fg|refine eM ?_ ?_|refine eF ?_ ?_ ?_|refine eN ?_|refine eL ?_ ?_ ?_|refine eA ?_ ?_|refine ap.mk ⟨_,hp,rfl⟩ ?_ ?_)|refine ap.mk ⟨_,hp,rfl⟩ ?_ ?_)
          all_goals try first|with_reducible rfl|omega|exact .inl (by decide)|(simp; done)|rfl
          simp[tB,Kq hxi]
        ·refine sh ?_
         refine nX (k+1) ?_ ?_ ⟨_,hp,rfl⟩ ?_ ?_
         ·refine⟨by omega,?_⟩
          rw[eY mA,hk.2,decide_eq_false hnb]; rfl
         ·omega
         ·all_goals repeat' (first|exact True.intro|refine And.intro ?_ ?_|(intro _u; clear _u)|(with_reducible first|exact ai.fg|refine eM ?_ ?_|refine eF ?_ ?_ ?_|refine eN ?_|refine eL ?_ ?_ ?_|refine eA ?_ ?_|refine ap.mk ⟨_,hp,rfl⟩ ?_ ?_)|refine ap.mk ⟨_,hp,rfl⟩ ?_ ?_)
          all_goals try first|with_reducible rfl|omega|exact .inl (by decide)|(simp; done)|rfl
          rw[ay mA,show i=w.toNat by omega]; simp
         ·all_goals repeat' (first|exact True.intro|refine And.intro ?_ ?_|(intro _u; clear _u)|(with_reducible first|exact ai.fg|refine eM ?_ ?_|refine eF ?_ ?_ ?_|refine eN ?_|refine eL ?_ ?_ ?_|refine eA ?_ ?_|refine ap.mk ⟨_,hp,rfl⟩ ?_ ?_)|refine ap.mk ⟨_,hp,rfl⟩ ?_ ?_)
          all_goals try first|with_reducible rfl|omega|exact .inl (by decide)|(simp; done)|rfl
          rw[ay mA,show i=w.toNat by omega]; simp
     ·have hkn:n.take k=n:=List.take_of_length_le (by omega)
      rw[hkn]at hk ⊢
      rw[pb (by omega) (by omega) hk.2]at hq
      subst hq
      refine sh ?_
      exact rM [0]
theorem KM {w:Int} (h1:1≤w) (h2:w≤8):(256 ^ w.toNat - 1:Int) / 2=256 ^ w.toNat / 2 - 1:=by
 obtain h|h|h|h|h|h|h|h:w=1∨w=2∨w=3∨w=4∨w=5∨w=6∨w=7∨w=8:=by omega
 all_goals (subst h; decide)
theorem KN {w:Int} (h1:1≤w) (h2:w≤8):(256 ^ w.toNat:Int) / 2≤9223372036854775808∧(128:Int)≤256 ^ w.toNat / 2∧(256 ^ w.toNat:Int)=2* (256 ^ w.toNat / 2):=by
 obtain h|h|h|h|h|h|h|h:w=1∨w=2∨w=3∨w=4∨w=5∨w=6∨w=7∨w=8:=by omega
 all_goals (subst h; decide)
theorem Ea {R:Env} (h:N72 R) (b:List UInt8) (w:Int) (n:List Int) (hl:b.length+8*n.length≤1073741824) (hn:∀x ∈ n,bg .i64 x):
  R.Mc 72 [.aJ 1 (bA b),.int .i64 w,.aJ 1 (bB .i64 n)] [] (.aP [.bc 0 (gX b w n).1.length,.int .i64 (gX b w n).2]) [(0,.arr (R.ty 4) 1 (bA (gX b w n).1))] 1:=
 h.o72.bC 100 0 rfl rfl rfl fun X bb hfit hp=>by
  generalize hq:gX b w n=q
  refine sh ?_
  refine cS (fun h1=> ?_) (fun h1=> ?_)
  ·rw[gX,if_pos (.inl h1)]at hq
   subst hq
   refine sh ?_
   exact rM [50]
  ·refine sh ?_
   refine cS (fun h2=> ?_) (fun h2=> ?_)
   ·rw[gX,if_pos (.inr h2)]at hq
    subst hq
    refine sh ?_
    exact rM [50]
   ·refine sh ?_
    refine ae.pure h.IE.XT.hb (Ba h.IE w h2) rfl ?_
    have hh:=KN h1 h2
    refine sh ?_
    rw[Int.tdiv_eq_ediv_of_nonneg (by omega),KM h1 h2]
    refine xi (by simp only[bg]; omega) ?_
    refine sh ?_
    refine gW 100 (fun k:Nat=>k≤n.length∧(n.take k).any (fun x=>decide (x< -(256 ^ w.toNat / 2))||decide (256 ^ w.toNat / 2≤x))=false) (fun k=>⟨[(0,.aJ 1 (bA b)),(1,.int .i64 w),(2,.aJ 1 (bB .i64 n)),(8,.int .i64 (256 ^ w.toNat / 2 - 1)),(9,.bc 0 ((n.take k).map fun x=>x % 256 ^ w.toNat).length),(10,.int .i64 k)],[(0,.arr (R.ty 6) 1 (bB .u64 ((n.take k).map fun x=>x % 256 ^ w.toNat)))],1⟩) (fun k=>n.length - k) (0) ?_ ?_
    ·exact⟨Nat.zero_le _,by simp⟩
    ·intro k hk
     dsimp only
     refine sh ?_
     refine cS (fun h3=> ?_) (fun h3=> ?_)
     ·obtain⟨x,hx⟩:∃u_,n[k]? =some u_:=⟨_,List.getElem?_eq_getElem (by first|omega|(simp<;>omega))⟩
      refine sh ?_
      refine aa hx ?_
      have mA:=hx
      have hx:=hn x (List.mem_of_getElem? mA)
      simp only[bg]at hx
      refine sh ?_
      refine cS (fun h4=> ?_) (fun h4=> ?_)
      ·rw[p5 (by omega) (by omega) (List.mem_of_getElem? mA) (by omega)]at hq
       subst hq
       refine sh ?_
       exact rM [50]
      ·refine sh ?_
       refine aa mA ?_
       refine sh ?_
       refine cS (fun h5=> ?_) (fun h5=> ?_)
       ·rw[p5 (by omega) (by omega) (List.mem_of_getElem? mA) (by omega)]at hq
        subst hq
        refine sh ?_
        exact rM [50]
       ·have hok:(n.take (k+1)).any (fun x=>decide (x< -(256 ^ w.toNat / 2))||decide (256 ^ w.toNat / 2≤x))=false:=by
         rw[eY mA,hk.2]
         simp only[Bool.false_or,Bool.or_eq_false_iff,decide_eq_false_iff_not]
         omega
        refine sh ?_
        refine aa mA ?_
        refine sh ?_
        refine bz ?_
        refine sh ?_
        refine aa mA ?_
        refine sh ?_
        refine cS (fun h6=> ?_) (fun h6=> ?_)
        ·refine sh ?_
         refine ae.pure h.IE.XT.hb (Ba h.IE w h2) rfl ?_
         refine sh ?_
         refine aa mA ?_
         have hv:x % 256 ^ w.toNat=256 ^ w.toNat - 1 - (0 - (x+1)):=by
          rw[←Int.add_emod_right,Int.emod_eq_of_lt (by omega) (by omega)]
          omega
         refine sh ?_
         refine nX (k+1) ?_ ?_ ⟨_,hp,rfl⟩ ?_ ?_
         ·exact⟨by omega,hok⟩
         ·omega
         ·all_goals repeat' (first|exact True.intro|refine And.intro ?_ ?_|(intro _u; clear _u)|(with_reducible first|exact ai.fg|refine eM ?_ ?_|refine eF ?_ ?_ ?_|refine eN ?_|refine eL ?_ ?_ ?_|refine eA ?_ ?_|refine ap.mk ⟨_,hp,rfl⟩ ?_ ?_)|refine ap.mk ⟨_,hp,rfl⟩ ?_ ?_)
          all_goals try first|with_reducible rfl|omega|exact .inl (by decide)|(simp; done)|rfl
          rw[ay mA]; simp
         ·all_goals repeat' (first|exact True.intro|refine And.intro ?_ ?_|(intro _u; clear _u)|(with_reducible first|exact ai.fg|refine eM ?_ ?_|refine eF ?_ ?_ ?_|refine eN ?_|refine eL ?_ ?_ ?_|refine eA ?_ ?_|refine ap.mk ⟨_,hp,rfl⟩ ?_ ?_)|refine ap.mk ⟨_,hp,rfl⟩ ?_ ?_)
          all_goals try first|with_reducible rfl|omega|exact .inl (by decide)|(simp; done)|rfl
          rw[ay mA]; simp[bB,hv]
        ·have hv:x % 256 ^ w.toNat=wr .u64 x:=by
          rw[Int.emod_eq_of_lt (by omega) (by omega),B5 (k:= .u64) ⟨by omega,by omega⟩]
         refine sh ?_
         refine nX (k+1) ?_ ?_ ⟨_,hp,rfl⟩ ?_ ?_
         ·exact⟨by omega,hok⟩
         ·omega
         ·all_goals repeat' (first|exact True.intro|refine And.intro ?_ ?_|(intro _u; clear _u)|(with_reducible first|exact ai.fg|refine eM ?_ ?_|refine eF ?_ ?_ ?_|refine eN ?_|refine eL ?_ ?_ ?_|refine eA ?_ ?_|refine ap.mk ⟨_,hp,rfl⟩ ?_ ?_)|refine ap.mk ⟨_,hp,rfl⟩ ?_ ?_)
          all_goals try first|with_reducible rfl|omega|exact .inl (by decide)|(simp; done)|rfl
          rw[ay mA]; simp
         ·all_goals repeat' (first|exact True.intro|refine And.intro ?_ ?_|(intro _u; clear _u)|(with_reducible first|exact ai.fg|refine eM ?_ ?_|refine eF ?_ ?_ ?_|refine eN ?_|refine eL ?_ ?_ ?_|refine eA ?_ ?_|refine ap.mk ⟨_,hp,rfl⟩ ?_ ?_)|refine ap.mk ⟨_,hp,rfl⟩ ?_ ?_)
          all_goals try first|with_reducible rfl|omega|exact .inl (by decide)|(simp; done)|rfl
          rw[ay mA]; simp[bB,hv]
     ·have hkn:n.take k=n:=List.take_of_length_le (by omega)
      rw[hkn]at hk ⊢
      rw[tC (by omega) (by omega) hk.2]at hq
      subst hq
      refine sh ?_
      refine cM true [] (Hk h.LZ b w (n.map fun x=>x % 256 ^ w.toNat) (by simpa using hl) (zb (b:=b) (by omega) h2)) ?_
      repeat (intro _; first|refine eK ?_|refine eP ?_)
      refine sh ?_
      exact rM [1]
structure eG (B:List UInt8) (r:Rd):Prop where
 m:B.length≤1073741824
 s:r.l=B.drop (B.length - r.l.length)
 made:r.made=true
theorem eG.len {B:List UInt8} {r:Rd} (h:eG B r):r.l.length≤B.length:=by rw[h.s]; simp
theorem eG.take {B:List UInt8} {r:Rd} (h:eG B r) (n:Int):eG B (r.take n).2:=by
 unfold Rd.take
 split
 ·exact h
 ·split
  ·exact⟨h.m,h.s,h.made⟩
  ·split
   ·exact⟨h.m,h.s,h.made⟩
   ·refine⟨h.m,?_,h.made⟩
    have h1:=h.s
    have h2:=h.len
    simp only[List.length_drop]
    conv=>lhs; rw[h1]
    rw[List.drop_drop]
    congr 1
    omega
theorem eG.num {B:List UInt8} {r:Rd} (h:eG B r) (w:Int):eG B (r.num w).2:=h.take _
theorem eG.int {B:List UInt8} {r:Rd} (h:eG B r) (w:Int):eG B (r.int w).2:=h.num w
theorem eG.err {B:List UInt8} {r:Rd} (h:eG B r) (e:Int):eG B {r with e:=e}:=⟨h.m,h.s,h.made⟩
theorem eG.new {B:List UInt8} (h:B.length≤1073741824):eG B ⟨B,0,true⟩:=⟨h,by simp,rfl⟩
end Go.UM
namespace Go.UM
open Go.AM
set_option maxRecDepth 4000
theorem xz {b:List UInt8} {w:Int} {n:List Int} (h1:1≤w) (h2:w≤8) (h:∀x ∈ n,0≤x∧x<256 ^ w.toNat):kn b w n=(b++n.flatMap (enc w.toNat),0):=
 pb h1 h2 (by
  rw[List.any_eq_false]
  intro x hx
  have:=h x hx
  simp; omega)
structure Fits {α:Type} (f:Rd→α × Rd) (g:α→List UInt8) (ok:α→Prop):Prop where
 made:∀r:Rd,r.made=true→(f r).2.made=true
 jR:∀r:Rd,ok (f r).1
 back:∀r:Rd,r.made=true→(f r).2.e=0→r.e=0∧r.l=g (f r).1++(f r).2.l
 there:∀ (x:α) (l:List UInt8),ok x→f ⟨g x++l,0,true⟩=(x,⟨l,0,true⟩)
def Cf {α:Type} (f:Rd→α × Rd):Nat→Rd→List α × Rd
 |0,r=>([],r)
 |n+1,r=>((Cf f n r).1++ [(f (Cf f n r).2).1],(f (Cf f n r).2).2)
theorem Fits.seq {α β:Type} {f:Rd→α × Rd} {g:α→List UInt8} {ok:α→Prop} {f':Rd→β × Rd} {g':β→List UInt8} {Ja:β→Prop} (h:Fits f g ok) (h':Fits f' g' Ja):
  Fits (fun r=>(((f r).1,(f' (f r).2).1),(f' (f r).2).2)) (fun x:α × β=>g x.1++g' x.2) (fun x=>ok x.1∧Ja x.2):=by
 refine⟨fun r hm=>h'.made _ (h.made r hm),fun r=>⟨h.jR r,h'.jR _⟩,fun r hm he=> ?_,fun x l hx=> ?_⟩
 ·have h1:=h'.back _ (h.made r hm) he
  have h2:=h.back r hm h1.1
  exact⟨h2.1,by rw[h2.2,h1.2,List.append_assoc]⟩
 ·rw[List.append_assoc,h.there x.1 _ hx.1]
  rw[h'.there x.2 l hx.2]
theorem Fits.as {α β:Type} {f:Rd→α × Rd} {g:α→List UInt8} {ok:α→Prop} (h:Fits f g ok) (to:α→β) (of:β→α) (g':β→List UInt8) (Ja:β→Prop)
  (h1:∀x,ok x→g' (to x)=g x) (h2:∀x,ok x→Ja (to x)) (h3:∀y,Ja y→g' y=g (of y)∧ok (of y)∧to (of y)=y):Fits (fun r=>(to (f r).1,(f r).2)) g' Ja:=by
 refine⟨h.made,fun r=>h2 _ (h.jR r),fun r hm he=> ?_,fun y l hy=> ?_⟩
 ·have:=h.back r hm he
  exact⟨this.1,by rw[this.2,h1 _ (h.jR r)]⟩
 ·have h4:=h3 y hy
  rw[h4.1,h.there _ _ h4.2.1,h4.2.2]
end Go.UM
namespace Go.UM
open Go.AM
set_option maxRecDepth 4000
theorem PY (b:List T3) (m:Int):(bJ b).take (min (b.length:Int) m).toNat=bJ (b.take m.toNat):=by rw[DU,y4]
theorem aaE (b:List (Int × Int)) (m:Int):(cV b).take (min (b.length:Int) m).toNat=cV (b.take m.toNat):=by rw[D6,y4]
structure Ms.Ok (m:Ms):Prop where
 v:∀p ∈ m.v,bg .i64 p.a∧bg .i64 p.b∧bg .i64 p.c
 uv:∀p ∈ m.uv,bg .i64 p.1∧bg .i64 p.2
 t:∀p ∈ m.t,bg .i64 p.a∧bg .i64 p.b∧bg .i64 p.c
structure Ms.QW (m:Ms):Prop where
 v:1≤m.v.length∧m.v.length≤64
 t:1≤m.t.length∧m.t.length≤64
 uv:m.uv.length=m.v.length
 pv:∀p ∈ m.v,-4096≤p.a∧p.a≤4096∧ -4096≤p.b∧p.b≤4096∧ -4096≤p.c∧p.c≤4096
 pu:∀x ∈ m.uv,0≤x.1∧x.1≤65535∧0≤x.2∧x.2≤65535
 pt:∀t ∈ m.t,0≤t.a∧t.a<m.v.length∧0≤t.b∧t.b<m.v.length∧0≤t.c∧t.c<m.v.length∧t.a≠t.b∧t.b≠t.c∧t.c≠t.a
theorem jc {m:Ms} (h:jp m=0):m.QW:=by
 unfold jp at h
 split at h
 ·cases h
 ·split at h
  ·cases h
  ·split at h
   ·cases h
   ·split at h
    ·cases h
    ·rename_i h1 h2 h3 h4
     simp only[not_or,Bool.not_eq_true,List.any_eq_false]at h3 h4
     refine⟨by omega,by omega,by omega,fun p hp=> ?_,fun p hp=> ?_,fun p hp=> ?_⟩
     ·have:=h3 p hp; simpa[kX]using this
     ·have:=h4.1 p hp; simpa[rp]using this
     ·have:=h4.2 p hp; simpa[l5]using this
theorem Ms.QW.jk {m:Ms} (h:m.QW):jp m=0:=by
 unfold jp
 have h1:=h.v
 have h2:=h.t
 have h3:=h.uv
 rw[if_neg (by omega),if_neg (by omega),if_neg,if_neg]
 ·simp only[not_or,Bool.not_eq_true,List.any_eq_false]
  exact⟨fun p hp=>by have:=h.pu p hp; simpa[rp]using this,fun p hp=>by have:=h.pt p hp; simpa[l5]using this⟩
 ·simp only[Bool.not_eq_true,List.any_eq_false]
  exact fun p hp=>by have:=h.pv p hp; simpa[kX]using this
def Ms.kC (m:Ms):Ms:=⟨m.v.take 70,m.uv.take 70,m.t.take 70⟩
theorem KO {R:Env} (h:O2 R) (m:Ms):R.Pc 191 [.agg m.row] (.agg m.kC.row):=
 h.UQ.enter 100 rfl fun X bb hfit hp=>by
  refine sh ?_
  refine jF (by exact PY _ _) ?_
  refine sh ?_
  refine jF (by exact aaE _ _) ?_
  refine sh ?_
  refine jF (by exact PY _ _) ?_
  refine sh ?_
  exact rT
def fc (p:T3):List UInt8:=enc 2 (p.a % 65536)++enc 2 (p.b % 65536)++enc 2 (p.c % 65536)
def jd (x:Int × Int):List UInt8:=enc 2 x.1++enc 2 x.2
def lB (t:T3):List UInt8:=[u8 t.a,u8 t.b,u8 t.c]
def Bb (m:Ms):List UInt8:=[u8 m.v.length,u8 m.t.length]++m.v.flatMap fc++m.uv.flatMap jd++m.t.flatMap lB
def tD (m:Ms):List UInt8 × Int:=if jp m≠0 then ([],jp m)else (Bb m,0)
theorem cr {α:Type} {l:List α} {k:Nat} {x:α} {f:α→List UInt8} (h:l[k]? =some x):(l.take (k+1)).flatMap f=(l.take k).flatMap f++f x:=by
 rw[ay h]; simp
theorem tE {b:List UInt8} {p:T3} (h: -4096≤p.a∧p.a≤4096∧ -4096≤p.b∧p.b≤4096∧ -4096≤p.c∧p.c≤4096):gX b 2 [p.a,p.b,p.c]=(b++fc p,0):=by
 rw[tC (by decide) (by decide),pb (by decide) (by decide)]
 ·simp[fc]
 ·simp; omega
 ·simp; omega
theorem KQ {b:List UInt8} {x:Int × Int} (h:0≤x.1∧x.1≤65535∧0≤x.2∧x.2≤65535):kn b 2 [x.1,x.2]=(b++jd x,0):=by
 rw[pb (by decide) (by decide)]
 ·simp[jd]
 ·simp; omega
theorem zf {l:List T3}:(l.flatMap fc).length=6*l.length:=by
 induction l with
 |nil=>rfl
 |cons x r ih=>simp[fc]at ih ⊢; omega
theorem Cg {l:List (Int × Int)}:(l.flatMap jd).length=4*l.length:=by
 induction l with
 |nil=>rfl
 |cons x r ih=>simp[jd]at ih ⊢; omega
theorem Md {l:List T3}:(l.flatMap lB).length=3*l.length:=by
 induction l with
 |nil=>rfl
 |cons x r ih=>simp[lB]at ih ⊢; omega
theorem Eb {R:Env} (h:Om R) (m:Ms):R.Pc 196 [.agg m.row] (.aP [.aJ 1 (bA (tD m).1),.int .i64 (tD m).2]):=
 h.T6.enter 100 rfl fun X bb hfit hp=>by
  refine sh ?_
  refine ae.pure h.n193.Ol.hb (y9 h.n193 m) rfl ?_
  generalize hq:tD m=q
  refine sh ?_
  refine cS (fun h1=> ?_) (fun h1=> ?_)
  ·rw[tD,if_pos h1]at hq
   subst hq
   refine sh ?_
   exact rT
  ·rw[tD,if_neg (by simpa using h1)]at hq
   subst hq
   have may:=jc h1
   have mv:=may.v
   have mt:=may.t
   have mu:=may.uv
   have w8:((u8 m.v.length).toNat:Int)=m.v.length:=u8_in (by omega)
   have t8:((u8 m.t.length).toNat:Int)=m.t.length:=u8_in (by omega)
   refine sh ?_
   refine aq.inv 100 (fun i:Nat=>i≤m.v.length) (fun i=>⟨[(1,.loc 0 1 0 0),(5,.bc 1 ([u8 m.v.length,u8 m.t.length]++(m.v.take i).flatMap fc).length),(27,.aJ 3 (bJ m.v)),(28,.int .i64 m.v.length),(29,.int .i64 i)],[(1,.arr (R.ty 4) 1 (bA ([u8 m.v.length,u8 m.t.length]++(m.v.take i).flatMap fc))),(0,.var (R.ty 25) m.row)],2⟩) (fun i=>m.v.length - i) (0) ?_ ⟨⟨_,hp,rfl⟩,?_,?_⟩ ?_
   ·exact Nat.zero_le _
   ·all_goals repeat' (first|exact True.intro|refine And.intro ?_ ?_|(intro _u; clear _u)|(with_reducible first|exact ai.fg|refine eM ?_ ?_|refine eF ?_ ?_ ?_|refine eN ?_|refine eL ?_ ?_ ?_|refine eA ?_ ?_|refine ap.mk ⟨_,hp,rfl⟩ ?_ ?_)|refine ap.mk ⟨_,hp,rfl⟩ ?_ ?_)
    all_goals try first|with_reducible rfl|omega|exact .inl (by decide)|(simp; done)|rfl
   ·all_goals repeat' (first|exact True.intro|refine And.intro ?_ ?_|(intro _u; clear _u)|(with_reducible first|exact ai.fg|refine eM ?_ ?_|refine eF ?_ ?_ ?_|refine eN ?_|refine eL ?_ ?_ ?_|refine eA ?_ ?_|refine ap.mk ⟨_,hp,rfl⟩ ?_ ?_)|refine ap.mk ⟨_,hp,rfl⟩ ?_ ?_)
    all_goals try first|with_reducible rfl|omega|exact .inl (by decide)|(simp; done)|rfl
    simp[bA,w8,t8]
   ·intro i hi
    dsimp only
    refine sh ?_
    refine cS (fun h2=> ?_) (fun h2=> ?_)
    ·obtain⟨y,hy⟩:∃u_,m.v[i]? =some u_:=⟨_,List.getElem?_eq_getElem (by first|omega|(simp<;>omega))⟩
     refine sh ?_
     refine aa hy ?_
     have Ir:=may.pv y (List.mem_of_getElem? hy)
     have c1:=zc h.QU ([u8 m.v.length,u8 m.t.length]++(m.v.take i).flatMap fc) 2 [y.a,y.b,y.c] (by simp only[List.length_append,zf,List.length_take,List.length_cons,List.length_nil]; omega) (by simp[bg]; omega)
     rw[tE Ir]at c1
     refine sh ?_
     refine cM true [] (c1) ?_
     repeat (intro _; first|refine eK ?_|refine eP ?_)
     refine sh ?_
     refine QR [0,4] (i+1) ?_ ?_ ?_
     ·omega
     ·omega
     ·all_goals repeat' (first|exact True.intro|refine And.intro ?_ ?_|(intro _u; clear _u)|(with_reducible first|exact ai.fg|refine eM ?_ ?_|refine eF ?_ ?_ ?_|refine eN ?_|refine eL ?_ ?_ ?_|refine eA ?_ ?_|refine ap.mk ⟨_,hp,rfl⟩ ?_ ?_)|refine ap.mk ⟨_,hp,rfl⟩ ?_ ?_)
      all_goals try first|with_reducible rfl|omega|exact .inl (by decide)|(simp; done)|rfl
      rw[cr hy]; simp
      rw[cr hy]; simp
    ·rw[show m.v.take i=m.v from List.take_of_length_le (by omega)]
     have hB:([u8 m.v.length,u8 m.t.length]++m.v.flatMap fc).length≤400:=by
      simp only[List.length_append,zf,List.length_cons,List.length_nil]; omega
     have e:Bb m=[u8 m.v.length,u8 m.t.length]++m.v.flatMap fc++m.uv.flatMap jd++m.t.flatMap lB:=rfl
     rw[e]
     generalize [u8 m.v.length,u8 m.t.length]++m.v.flatMap fc=B at hB ⊢
     refine sh ?_
     refine gW 100 (fun i:Nat=>i≤m.uv.length) (fun i=>⟨[(1,.loc 0 1 0 0),(5,.bc 1 (B++(m.uv.take i).flatMap jd).length),(47,.aJ 2 (cV m.uv)),(48,.int .i64 m.uv.length),(49,.int .i64 i)],[(1,.arr (R.ty 4) 1 (bA (B++(m.uv.take i).flatMap jd))),(0,.var (R.ty 25) m.row)],2⟩) (fun i=>m.uv.length - i) (0) ?_ ?_
     ·exact Nat.zero_le _
     ·intro i hi
      dsimp only
      refine sh ?_
      refine cS (fun h3=> ?_) (fun h3=> ?_)
      ·obtain⟨x,hx⟩:∃u_,m.uv[i]? =some u_:=⟨_,List.getElem?_eq_getElem (by first|omega|(simp<;>omega))⟩
       refine sh ?_
       refine aa hx ?_
       have bZ:=may.pu x (List.mem_of_getElem? hx)
       have c1:=Ce h.ID (B++(m.uv.take i).flatMap jd) 2 [x.1,x.2] (by simp only[List.length_append,Cg,List.length_take,List.length_cons,List.length_nil]; omega) (by simp; omega)
       rw[KQ bZ]at c1
       refine sh ?_
       refine cM true [] (c1) ?_
       repeat (intro _; first|refine eK ?_|refine eP ?_)
       refine sh ?_
       refine QR [0,4] (i+1) ?_ ?_ ?_
       ·omega
       ·omega
       ·all_goals repeat' (first|exact True.intro|refine And.intro ?_ ?_|(intro _u; clear _u)|(with_reducible first|exact ai.fg|refine eM ?_ ?_|refine eF ?_ ?_ ?_|refine eN ?_|refine eL ?_ ?_ ?_|refine eA ?_ ?_|refine ap.mk ⟨_,hp,rfl⟩ ?_ ?_)|refine ap.mk ⟨_,hp,rfl⟩ ?_ ?_)
        all_goals try first|with_reducible rfl|omega|exact .inl (by decide)|(simp; done)|rfl
        rw[cr hx]; simp
        rw[cr hx]; simp
      ·rw[show m.uv.take i=m.uv from List.take_of_length_le (by omega)]
       have hB2:(B++m.uv.flatMap jd).length≤800:=by
        simp only[List.length_append,Cg]; omega
       generalize B++m.uv.flatMap jd=C at hB2 ⊢
       refine sh ?_
       refine gW 100 (fun i:Nat=>i≤m.t.length) (fun i=>⟨[(5,.bc 1 (C++(m.t.take i).flatMap lB).length),(67,.aJ 3 (bJ m.t)),(68,.int .i64 m.t.length),(69,.int .i64 i)],[(1,.arr (R.ty 4) 1 (bA (C++(m.t.take i).flatMap lB)))],2⟩) (fun i=>m.t.length - i) (0) ?_ ?_
       ·exact Nat.zero_le _
       ·intro i hi
        dsimp only
        refine sh ?_
        refine cS (fun h4=> ?_) (fun h4=> ?_)
        ·obtain⟨y,hy⟩:∃u_,m.t[i]? =some u_:=⟨_,List.getElem?_eq_getElem (by first|omega|(simp<;>omega))⟩
         refine sh ?_
         refine aa hy ?_
         have Ir:=may.pt y (List.mem_of_getElem? hy)
         refine sh ?_
         refine nD ?_ (by simp only[fM,List.length_append,Md,List.length_take]; simp; omega)
         refine sh ?_
         refine nX (i+1) ?_ ?_ ⟨_,hp,rfl⟩ ?_ ?_
         ·omega
         ·omega
         ·all_goals repeat' (first|exact True.intro|refine And.intro ?_ ?_|(intro _u; clear _u)|(with_reducible first|exact ai.fg|refine eM ?_ ?_|refine eF ?_ ?_ ?_|refine eN ?_|refine eL ?_ ?_ ?_|refine eA ?_ ?_|refine ap.mk ⟨_,hp,rfl⟩ ?_ ?_)|refine ap.mk ⟨_,hp,rfl⟩ ?_ ?_)
          all_goals try first|with_reducible rfl|omega|exact .inl (by decide)|(simp; done)|rfl
          rw[cr hy]; simp[lB]
         ·all_goals repeat' (first|exact True.intro|refine And.intro ?_ ?_|(intro _u; clear _u)|(with_reducible first|exact ai.fg|refine eM ?_ ?_|refine eF ?_ ?_ ?_|refine eN ?_|refine eL ?_ ?_ ?_|refine eA ?_ ?_|refine ap.mk ⟨_,hp,rfl⟩ ?_ ?_)|refine ap.mk ⟨_,hp,rfl⟩ ?_ ?_)
          all_goals try first|with_reducible rfl|omega|exact .inl (by decide)|(simp; done)|rfl
          rw[cr hy]; simp[lB,bA]
          refine⟨(u8_in ?_).symm,(u8_in ?_).symm,(u8_in ?_).symm⟩<;>omega
        ·rw[show m.t.take i=m.t from List.take_of_length_le (by omega)]
         refine sh ?_
         exact rT
end Go.UM
namespace Go.UM
open Go.AM
set_option maxRecDepth 4000
theorem xA {R:Env} (h:Kh R) (p:T3):R.Pc 213 [.agg (t3 p),.int .i64 4096] (.bool (kX p)):=
 h.GR.enter 60 rfl fun X bb hfit hp=>by
  unfold kX
  refine sh ?_
  refine cS (fun h1=> ?_) (fun h1=> ?_)
  ·refine sh ?_
   refine rT ?_
   all_goals repeat' (first|exact True.intro|refine And.intro ?_ ?_|(intro _u; clear _u)|(with_reducible first|exact ai.fg|refine eM ?_ ?_|refine eF ?_ ?_ ?_|refine eN ?_|refine eL ?_ ?_ ?_|refine eA ?_ ?_|refine ap.mk ⟨_,hp,rfl⟩ ?_ ?_)|refine ap.mk ⟨_,hp,rfl⟩ ?_ ?_)
   all_goals try first|with_reducible rfl|omega|exact .inl (by decide)|(simp; done)|rfl
   simp; omega
  ·refine sh ?_
   refine cS (fun h2=> ?_) (fun h2=> ?_)
   ·refine sh ?_
    refine rT ?_
    all_goals repeat' (first|exact True.intro|refine And.intro ?_ ?_|(intro _u; clear _u)|(with_reducible first|exact ai.fg|refine eM ?_ ?_|refine eF ?_ ?_ ?_|refine eN ?_|refine eL ?_ ?_ ?_|refine eA ?_ ?_|refine ap.mk ⟨_,hp,rfl⟩ ?_ ?_)|refine ap.mk ⟨_,hp,rfl⟩ ?_ ?_)
    all_goals try first|with_reducible rfl|omega|exact .inl (by decide)|(simp; done)|rfl
    simp; omega
   ·refine sh ?_
    refine cS (fun h3=> ?_) (fun h3=> ?_)
    ·refine sh ?_
     refine rT ?_
     all_goals repeat' (first|exact True.intro|refine And.intro ?_ ?_|(intro _u; clear _u)|(with_reducible first|exact ai.fg|refine eM ?_ ?_|refine eF ?_ ?_ ?_|refine eN ?_|refine eL ?_ ?_ ?_|refine eA ?_ ?_|refine ap.mk ⟨_,hp,rfl⟩ ?_ ?_)|refine ap.mk ⟨_,hp,rfl⟩ ?_ ?_)
     all_goals try first|with_reducible rfl|omega|exact .inl (by decide)|(simp; done)|rfl
     simp; omega
    ·refine sh ?_
     refine cS (fun h4=> ?_) (fun h4=> ?_)
     ·refine sh ?_
      refine rT ?_
      all_goals repeat' (first|exact True.intro|refine And.intro ?_ ?_|(intro _u; clear _u)|(with_reducible first|exact ai.fg|refine eM ?_ ?_|refine eF ?_ ?_ ?_|refine eN ?_|refine eL ?_ ?_ ?_|refine eA ?_ ?_|refine ap.mk ⟨_,hp,rfl⟩ ?_ ?_)|refine ap.mk ⟨_,hp,rfl⟩ ?_ ?_)
      all_goals try first|with_reducible rfl|omega|exact .inl (by decide)|(simp; done)|rfl
      simp; omega
     ·refine sh ?_
      refine cS (fun h5=> ?_) (fun h5=> ?_)
      ·refine sh ?_
       refine rT ?_
       all_goals repeat' (first|exact True.intro|refine And.intro ?_ ?_|(intro _u; clear _u)|(with_reducible first|exact ai.fg|refine eM ?_ ?_|refine eF ?_ ?_ ?_|refine eN ?_|refine eL ?_ ?_ ?_|refine eA ?_ ?_|refine ap.mk ⟨_,hp,rfl⟩ ?_ ?_)|refine ap.mk ⟨_,hp,rfl⟩ ?_ ?_)
       all_goals try first|with_reducible rfl|omega|exact .inl (by decide)|(simp; done)|rfl
       simp; omega
      ·refine sh ?_
       refine rT ?_
       all_goals repeat' (first|exact True.intro|refine And.intro ?_ ?_|(intro _u; clear _u)|(with_reducible first|exact ai.fg|refine eM ?_ ?_|refine eF ?_ ?_ ?_|refine eN ?_|refine eL ?_ ?_ ?_|refine eA ?_ ?_|refine ap.mk ⟨_,hp,rfl⟩ ?_ ?_)|refine ap.mk ⟨_,hp,rfl⟩ ?_ ?_)
       all_goals try first|with_reducible rfl|omega|exact .inl (by decide)|(simp; done)|rfl
       rw[Bool.eq_iff_iff]; simp only[decide_eq_true_eq,Bool.not_eq_true',decide_eq_false_iff_not]; omega
theorem tF {R:Env} (h:Ki R) (m:Ms):R.Pc 198 [.agg m.row] (.int .i64 (jp m)):=
 h.Pj.enter 100 rfl fun X bb hfit hp=>by
  generalize hq:jp m=q
  refine sh ?_
  refine cS (fun h1=> ?_) (fun h1=> ?_)
  ·rw[jp,if_pos (.inl (by omega))]at hq
   subst hq
   refine sh ?_
   exact rT
  ·refine sh ?_
   refine cS (fun h2=> ?_) (fun h2=> ?_)
   ·rw[jp,if_pos (.inr (by omega))]at hq
    subst hq
    refine sh ?_
    exact rT
   ·have g1:¬ (64<m.v.length∨64<m.t.length):=by omega
    refine sh ?_
    refine cS (fun h3=> ?_) (fun h3=> ?_)
    ·rw[jp,if_neg g1,if_pos (.inl (by omega))]at hq
     subst hq
     refine sh ?_
     exact rT
    ·refine sh ?_
     refine cS (fun h4=> ?_) (fun h4=> ?_)
     ·rw[jp,if_neg g1,if_pos (.inr (.inl (by omega)))]at hq
      subst hq
      refine sh ?_
      exact rT
     ·refine sh ?_
      refine cS (fun h5=> ?_) (fun h5=> ?_)
      ·rw[jp,if_neg g1,if_pos (.inr (.inr (by omega)))]at hq
       subst hq
       refine sh ?_
       exact rT
      ·rw[jp,if_neg g1,if_neg (by omega)]at hq
       refine sh ?_
       refine gW 100 (fun k:Nat=>k≤m.v.length∧(m.v.take k).any kX=false) (fun k=>⟨[(1,.loc 0 1 0 0),(3,.int .i64 k)],[(0,.var (R.ty 25) m.row)],1⟩) (fun k=>m.v.length - k) (0) ?_ ?_
       ·exact⟨Nat.zero_le _,by simp⟩
       ·intro k hk
        dsimp only
        refine sh ?_
        refine cS (fun h6=> ?_) (fun h6=> ?_)
        ·obtain⟨x,hx⟩:∃u_,m.v[k]? =some u_:=⟨_,List.getElem?_eq_getElem (by first|omega|(simp<;>omega))⟩
         refine sh ?_
         refine aa hx ?_
         refine sh ?_
         refine ae.pure h.n213.GR.hb (xA h.n213 x) rfl ?_
         refine sh ?_
         refine cS (fun h7=> ?_) (fun h7=> ?_)
         ·rw[if_pos (dV hx h7)]at hq
          subst hq
          refine sh ?_
          exact rT
         ·refine sh ?_
          refine lz (k+1) ?_ ?_
          ·refine⟨by omega,?_⟩
           rw[db hx,hk.2,h7]; rfl
          ·omega
        ·have hv:=hk.2
         rw[List.take_of_length_le (by omega)]at hv
         rw[if_neg (by rw[hv]; decide)]at hq
         refine sh ?_
         refine gW 100 (fun k:Nat=>k≤m.uv.length∧(m.uv.take k).any rp=false) (fun k=>⟨[(1,.loc 0 1 0 0),(4,.int .i64 k)],[(0,.var (R.ty 25) m.row)],1⟩) (fun k=>m.uv.length - k) (0) ?_ ?_
         ·exact⟨Nat.zero_le _,by simp⟩
         ·intro k hk
          dsimp only
          refine sh ?_
          refine cS (fun h7=> ?_) (fun h7=> ?_)
          ·obtain⟨x,hx⟩:∃u,m.uv[k]? =some u:=⟨_,List.getElem?_eq_getElem (by omega)⟩
           refine sh ?_
           refine aq.one 100 ?_
           refine sh ?_
           refine af (by decide) ?_
           refine sh ?_
           refine aa hx ?_
           refine sh ?_
           refine cS (fun a1=> ?_) (fun a1=> ?_)
           ·rw[if_pos (.inl (dV hx (by simp[rp]; omega)))]at hq
            subst hq
            refine sh ?_
            exact rT
           ·refine sh ?_
            refine aa hx ?_
            refine sh ?_
            refine cS (fun a2=> ?_) (fun a2=> ?_)
            ·rw[if_pos (.inl (dV hx (by simp[rp]; omega)))]at hq
             subst hq
             refine sh ?_
             exact rT
            ·refine sh ?_
             refine aq.one 100 ?_
             refine sh ?_
             refine af (by decide) ?_
             refine sh ?_
             refine aa hx ?_
             refine sh ?_
             refine cS (fun a3=> ?_) (fun a3=> ?_)
             ·rw[if_pos (.inl (dV hx (by simp[rp]; omega)))]at hq
              subst hq
              refine sh ?_
              exact rT
             ·refine sh ?_
              refine aa hx ?_
              refine sh ?_
              refine cS (fun a4=> ?_) (fun a4=> ?_)
              ·rw[if_pos (.inl (dV hx (by simp[rp]; omega)))]at hq
               subst hq
               refine sh ?_
               exact rT
              ·refine sh ?_
               refine aq.one 100 ?_
               refine sh ?_
               refine aj (by decide) ?_
               refine sh ?_
               refine lz (k+1) ?_ ?_
               ·refine⟨by omega,?_⟩
                rw[db hx,hk.2]
                simp[rp]; omega
               ·omega
          ·have hu:=hk.2
           rw[List.take_of_length_le (by omega)]at hu
           refine sh ?_
           refine gW 100 (fun k:Nat=>k≤m.t.length∧(m.t.take k).any (l5 m.v.length)=false) (fun k=>⟨[(1,.loc 0 1 0 0),(6,.int .i64 k)],[(0,.var (R.ty 25) m.row)],1⟩) (fun k=>m.t.length - k) (0) ?_ ?_
           ·exact⟨Nat.zero_le _,by simp⟩
           ·intro k hk
            dsimp only
            refine sh ?_
            refine cS (fun h8=> ?_) (fun h8=> ?_)
            ·obtain⟨t,ht⟩:∃u,m.t[k]? =some u:=⟨_,List.getElem?_eq_getElem (by omega)⟩
             refine sh ?_
             refine aq.one 100 ?_
             refine sh ?_
             refine af (by decide) ?_
             refine sh ?_
             refine aa ht ?_
             refine sh ?_
             refine cS (fun a1=> ?_) (fun a1=> ?_)
             ·rw[if_pos (.inr (dV ht (by simp[l5]; omega)))]at hq
              subst hq
              refine sh ?_
              exact rT
             ·refine sh ?_
              refine aa ht ?_
              refine sh ?_
              refine cS (fun a2=> ?_) (fun a2=> ?_)
              ·rw[if_pos (.inr (dV ht (by simp[l5]; omega)))]at hq
               subst hq
               refine sh ?_
               exact rT
              ·refine sh ?_
               refine aa ht ?_
               refine sh ?_
               refine aa ht ?_
               refine sh ?_
               refine cS (fun a3=> ?_) (fun a3=> ?_)
               ·rw[if_pos (.inr (dV ht (by simp[l5]; omega)))]at hq
                subst hq
                refine sh ?_
                exact rT
               ·refine sh ?_
                refine aq.one 100 ?_
                refine sh ?_
                refine af (by decide) ?_
                refine sh ?_
                refine aa ht ?_
                refine sh ?_
                refine cS (fun a4=> ?_) (fun a4=> ?_)
                ·rw[if_pos (.inr (dV ht (by simp[l5]; omega)))]at hq
                 subst hq
                 refine sh ?_
                 exact rT
                ·refine sh ?_
                 refine aa ht ?_
                 refine sh ?_
                 refine cS (fun a5=> ?_) (fun a5=> ?_)
                 ·rw[if_pos (.inr (dV ht (by simp[l5]; omega)))]at hq
                  subst hq
                  refine sh ?_
                  exact rT
                 ·refine sh ?_
                  refine aa ht ?_
                  refine sh ?_
                  refine aa ht ?_
                  refine sh ?_
                  refine cS (fun a6=> ?_) (fun a6=> ?_)
                  ·rw[if_pos (.inr (dV ht (by simp[l5]; omega)))]at hq
                   subst hq
                   refine sh ?_
                   exact rT
                  ·refine sh ?_
                   refine aq.one 100 ?_
                   refine sh ?_
                   refine af (by decide) ?_
                   refine sh ?_
                   refine aa ht ?_
                   refine sh ?_
                   refine cS (fun a7=> ?_) (fun a7=> ?_)
                   ·rw[if_pos (.inr (dV ht (by simp[l5]; omega)))]at hq
                    subst hq
                    refine sh ?_
                    exact rT
                   ·refine sh ?_
                    refine aa ht ?_
                    refine sh ?_
                    refine cS (fun a8=> ?_) (fun a8=> ?_)
                    ·rw[if_pos (.inr (dV ht (by simp[l5]; omega)))]at hq
                     subst hq
                     refine sh ?_
                     exact rT
                    ·refine sh ?_
                     refine aa ht ?_
                     refine sh ?_
                     refine aa ht ?_
                     refine sh ?_
                     refine cS (fun a9=> ?_) (fun a9=> ?_)
                     ·rw[if_pos (.inr (dV ht (by simp[l5]; omega)))]at hq
                      subst hq
                      refine sh ?_
                      exact rT
                     ·refine sh ?_
                      refine aq.one 100 ?_
                      refine sh ?_
                      refine aj (by decide) ?_
                      refine sh ?_
                      refine lz (k+1) ?_ ?_
                      ·refine⟨by omega,?_⟩
                       rw[db ht,hk.2]
                       simp[l5]; omega
                      ·omega
            ·have hw:=hk.2
             rw[List.take_of_length_le (by omega)]at hw
             rw[if_neg (by rw[hu,hw]; decide)]at hq
             subst hq
             refine sh ?_
             exact rT
theorem pe {R:Env} (h:Kj R) (b:List UInt8) (p:T3) (hl:b.length≤1000000) (ok: -4096≤p.a∧p.a≤4096∧ -4096≤p.b∧p.b≤4096∧ -4096≤p.c∧p.c≤4096):
  R.Mc 212 [.aJ 1 (bA b),.agg (t3 p)] [] (.bc 0 (b++fc p).length) [(0,.arr (R.ty 4) 1 (bA (b++fc p)))] 1:=
 h.aam.bC 60 0 rfl rfl rfl fun X bb hfit hp=>by
  have c1:=Ea h.n72 b 2 [p.a,p.b,p.c] (by simp; omega) (by simp[bg]; omega)
  rw[tE ok]at c1
  refine sh ?_
  refine cM true [] (c1) ?_
  repeat (intro _; first|refine eK ?_|refine eP ?_)
  refine sh ?_
  exact rM [2]
theorem Bc {R:Env} (h:Pk R) (m:Ms):R.Pc 197 [.agg m.row] (.aP [.aJ 1 (bA (tD m).1),.int .i64 (tD m).2]):=
 h.Vn.enter 100 rfl fun X bb hfit hp=>by
  refine sh ?_
  refine ae.pure h.n198.Pj.hb (tF h.n198 m) rfl ?_
  generalize hq:tD m=q
  refine sh ?_
  refine cS (fun h1=> ?_) (fun h1=> ?_)
  ·rw[tD,if_pos h1]at hq
   subst hq
   refine sh ?_
   exact rT
  ·rw[tD,if_neg (by simpa using h1)]at hq
   subst hq
   have may:=jc h1
   have mv:=may.v
   have mt:=may.t
   have mu:=may.uv
   have w8:((u8 m.v.length).toNat:Int)=m.v.length:=u8_in (by omega)
   have t8:((u8 m.t.length).toNat:Int)=m.t.length:=u8_in (by omega)
   refine sh ?_
   refine aq.inv 100 (fun i:Nat=>i≤m.v.length) (fun i=>⟨[(1,.loc 0 1 0 0),(5,.bc 1 ([u8 m.v.length,u8 m.t.length]++(m.v.take i).flatMap fc).length),(6,.int .i64 i)],[(1,.arr (R.ty 4) 1 (bA ([u8 m.v.length,u8 m.t.length]++(m.v.take i).flatMap fc))),(0,.var (R.ty 25) m.row)],2⟩) (fun i=>m.v.length - i) (0) ?_ ⟨⟨_,hp,rfl⟩,?_,?_⟩ ?_
   ·exact Nat.zero_le _
   ·all_goals repeat' (first|exact True.intro|refine And.intro ?_ ?_|(intro _u; clear _u)|(with_reducible first|exact ai.fg|refine eM ?_ ?_|refine eF ?_ ?_ ?_|refine eN ?_|refine eL ?_ ?_ ?_|refine eA ?_ ?_|refine ap.mk ⟨_,hp,rfl⟩ ?_ ?_)|refine ap.mk ⟨_,hp,rfl⟩ ?_ ?_)
    all_goals try first|with_reducible rfl|omega|exact .inl (by decide)|(simp; done)|rfl
   ·all_goals repeat' (first|exact True.intro|refine And.intro ?_ ?_|(intro _u; clear _u)|(with_reducible first|exact ai.fg|refine eM ?_ ?_|refine eF ?_ ?_ ?_|refine eN ?_|refine eL ?_ ?_ ?_|refine eA ?_ ?_|refine ap.mk ⟨_,hp,rfl⟩ ?_ ?_)|refine ap.mk ⟨_,hp,rfl⟩ ?_ ?_)
    all_goals try first|with_reducible rfl|omega|exact .inl (by decide)|(simp; done)|rfl
    simp[bA,w8,t8]
   ·intro i hi
    dsimp only
    refine sh ?_
    refine cS (fun h2=> ?_) (fun h2=> ?_)
    ·obtain⟨y,hy⟩:∃u_,m.v[i]? =some u_:=⟨_,List.getElem?_eq_getElem (by first|omega|(simp<;>omega))⟩
     refine sh ?_
     refine aa hy ?_
     have Ir:=may.pv y (List.mem_of_getElem? hy)
     refine sh ?_
     refine cM true [] (pe h.n212 ([u8 m.v.length,u8 m.t.length]++(m.v.take i).flatMap fc) y (by simp only[List.length_append,zf,List.length_take,List.length_cons,List.length_nil]; omega) Ir) ?_
     repeat (intro _; first|refine eK ?_|refine eP ?_)
     refine sh ?_
     refine QR [0,2] (i+1) ?_ ?_ ?_
     ·omega
     ·omega
     ·all_goals repeat' (first|exact True.intro|refine And.intro ?_ ?_|(intro _u; clear _u)|(with_reducible first|exact ai.fg|refine eM ?_ ?_|refine eF ?_ ?_ ?_|refine eN ?_|refine eL ?_ ?_ ?_|refine eA ?_ ?_|refine ap.mk ⟨_,hp,rfl⟩ ?_ ?_)|refine ap.mk ⟨_,hp,rfl⟩ ?_ ?_)
      all_goals try first|with_reducible rfl|omega|exact .inl (by decide)|(simp; done)|rfl
      rw[cr hy]; simp
      rw[cr hy]; simp
    ·rw[show m.v.take i=m.v from List.take_of_length_le (by omega)]
     have hB:([u8 m.v.length,u8 m.t.length]++m.v.flatMap fc).length≤400:=by
      simp only[List.length_append,zf,List.length_cons,List.length_nil]; omega
     have e:Bb m=[u8 m.v.length,u8 m.t.length]++m.v.flatMap fc++m.uv.flatMap jd++m.t.flatMap lB:=rfl
     rw[e]
     generalize [u8 m.v.length,u8 m.t.length]++m.v.flatMap fc=B at hB ⊢
     refine sh ?_
     refine gW 100 (fun i:Nat=>i≤m.uv.length) (fun i=>⟨[(1,.loc 0 1 0 0),(5,.bc 1 (B++(m.uv.take i).flatMap jd).length),(7,.int .i64 i)],[(1,.arr (R.ty 4) 1 (bA (B++(m.uv.take i).flatMap jd))),(0,.var (R.ty 25) m.row)],2⟩) (fun i=>m.uv.length - i) (0) ?_ ?_
     ·exact Nat.zero_le _
     ·intro i hi
      dsimp only
      refine sh ?_
      refine cS (fun h3=> ?_) (fun h3=> ?_)
      ·obtain⟨x,hx⟩:∃u,m.uv[i]? =some u:=⟨_,List.getElem?_eq_getElem (by omega)⟩
       have bZ:=may.pu x (List.mem_of_getElem? hx)
       have hC:(B++(m.uv.take i).flatMap jd).length≤800:=by
        simp only[List.length_append,Cg,List.length_take]; omega
       have hst:B++(m.uv.take (i+1)).flatMap jd=(B++(m.uv.take i).flatMap jd)++jd x:=by rw[cr hx]; simp
       generalize B++(m.uv.take i).flatMap jd=C at hC hst ⊢
       refine sh ?_
       refine aq.one 100 ?_
       refine sh ?_
       refine af (by decide) ?_
       refine sh ?_
       refine aa hx ?_
       refine sh ?_
       rw[Int.tmod_eq_emod_of_nonneg (by omega)]
       refine wI ?_
       refine sh ?_
       refine aa hx ?_
       refine sh ?_
       rw[Int.tdiv_eq_ediv_of_nonneg (by omega)]
       refine wI ?_
       refine sh ?_
       refine aq.one 100 ?_
       refine sh ?_
       refine af (by decide) ?_
       refine sh ?_
       refine aa hx ?_
       refine sh ?_
       rw[Int.tmod_eq_emod_of_nonneg (by omega)]
       refine wI ?_
       refine sh ?_
       refine aa hx ?_
       refine sh ?_
       rw[Int.tdiv_eq_ediv_of_nonneg (by omega)]
       refine wI ?_
       refine sh ?_
       refine aq.one 100 ?_
       refine sh ?_
       refine aj (by decide) ?_
       have f1:∀v:Int,0≤v∧v≤65535→enc 2 v=[u8 (v % 256),u8 (v / 256)]:=fun v hv=>by
        unfold enc
        simp[List.range_succ,A0]
       refine sh ?_
       refine nX (i+1) ?_ ?_ ⟨_,hp,rfl⟩ ?_ ?_
       ·omega
       ·omega
       ·all_goals repeat' (first|exact True.intro|refine And.intro ?_ ?_|(intro _u; clear _u)|(with_reducible first|exact ai.fg|refine eM ?_ ?_|refine eF ?_ ?_ ?_|refine eN ?_|refine eL ?_ ?_ ?_|refine eA ?_ ?_|refine ap.mk ⟨_,hp,rfl⟩ ?_ ?_)|refine ap.mk ⟨_,hp,rfl⟩ ?_ ?_)
        all_goals try first|with_reducible rfl|omega|exact .inl (by decide)|(simp; done)|rfl
        rw[hst]; simp[jd]
       ·all_goals repeat' (first|exact True.intro|refine And.intro ?_ ?_|(intro _u; clear _u)|(with_reducible first|exact ai.fg|refine eM ?_ ?_|refine eF ?_ ?_ ?_|refine eN ?_|refine eL ?_ ?_ ?_|refine eA ?_ ?_|refine ap.mk ⟨_,hp,rfl⟩ ?_ ?_)|refine ap.mk ⟨_,hp,rfl⟩ ?_ ?_)
        all_goals try first|with_reducible rfl|omega|exact .inl (by decide)|(simp; done)|rfl
        rw[hst]
        have g1:((u8 (x.1 % 256)).toNat:Int)=x.1 % 256:=u8_in (by omega)
        have g2:((u8 (x.1 / 256)).toNat:Int)=x.1 / 256:=u8_in (by omega)
        have g3:((u8 (x.2 % 256)).toNat:Int)=x.2 % 256:=u8_in (by omega)
        have g4:((u8 (x.2 / 256)).toNat:Int)=x.2 / 256:=u8_in (by omega)
        simp[jd,f1 x.1 (by omega),f1 x.2 (by omega),bA,g1,g2,g3,g4]
      ·rw[show m.uv.take i=m.uv from List.take_of_length_le (by omega)]
       have hB2:(B++m.uv.flatMap jd).length≤800:=by
        simp only[List.length_append,Cg]; omega
       generalize B++m.uv.flatMap jd=B2 at hB2 ⊢
       refine sh ?_
       refine gW 100 (fun i:Nat=>i≤m.t.length) (fun i=>⟨[(1,.loc 0 1 0 0),(5,.bc 1 (B2++(m.t.take i).flatMap lB).length),(9,.int .i64 i)],[(1,.arr (R.ty 4) 1 (bA (B2++(m.t.take i).flatMap lB))),(0,.var (R.ty 25) m.row)],2⟩) (fun i=>m.t.length - i) (0) ?_ ?_
       ·exact Nat.zero_le _
       ·intro i hi
        dsimp only
        refine sh ?_
        refine cS (fun h4=> ?_) (fun h4=> ?_)
        ·obtain⟨y,hy⟩:∃u,m.t[i]? =some u:=⟨_,List.getElem?_eq_getElem (by omega)⟩
         have Ir:=may.pt y (List.mem_of_getElem? hy)
         have hC:(B2++(m.t.take i).flatMap lB).length≤1200:=by
          simp only[List.length_append,Md,List.length_take]; omega
         have hst:B2++(m.t.take (i+1)).flatMap lB=(B2++(m.t.take i).flatMap lB)++lB y:=by rw[cr hy]; simp
         generalize B2++(m.t.take i).flatMap lB=C at hC hst ⊢
         refine sh ?_
         refine aq.one 100 ?_
         refine sh ?_
         refine af (by decide) ?_
         refine sh ?_
         refine aa hy ?_
         refine sh ?_
         refine aq.one 100 ?_
         refine sh ?_
         refine af (by decide) ?_
         refine sh ?_
         refine aa hy ?_
         refine sh ?_
         refine aq.one 100 ?_
         refine sh ?_
         refine af (by decide) ?_
         refine sh ?_
         refine aa hy ?_
         refine sh ?_
         refine aq.one 100 ?_
         refine sh ?_
         refine aj (by decide) ?_
         refine sh ?_
         refine nX (i+1) ?_ ?_ ⟨_,hp,rfl⟩ ?_ ?_
         ·omega
         ·omega
         ·all_goals repeat' (first|exact True.intro|refine And.intro ?_ ?_|(intro _u; clear _u)|(with_reducible first|exact ai.fg|refine eM ?_ ?_|refine eF ?_ ?_ ?_|refine eN ?_|refine eL ?_ ?_ ?_|refine eA ?_ ?_|refine ap.mk ⟨_,hp,rfl⟩ ?_ ?_)|refine ap.mk ⟨_,hp,rfl⟩ ?_ ?_)
          all_goals try first|with_reducible rfl|omega|exact .inl (by decide)|(simp; done)|rfl
          rw[hst]; simp[lB]
         ·all_goals repeat' (first|exact True.intro|refine And.intro ?_ ?_|(intro _u; clear _u)|(with_reducible first|exact ai.fg|refine eM ?_ ?_|refine eF ?_ ?_ ?_|refine eN ?_|refine eL ?_ ?_ ?_|refine eA ?_ ?_|refine ap.mk ⟨_,hp,rfl⟩ ?_ ?_)|refine ap.mk ⟨_,hp,rfl⟩ ?_ ?_)
          all_goals try first|with_reducible rfl|omega|exact .inl (by decide)|(simp; done)|rfl
          rw[hst]
          have g1:((u8 y.a).toNat:Int)=y.a:=u8_in (by omega)
          have g2:((u8 y.b).toNat:Int)=y.b:=u8_in (by omega)
          have g3:((u8 y.c).toNat:Int)=y.c:=u8_in (by omega)
          simp[lB,bA,g1,g2,g3]
        ·rw[show m.t.take i=m.t from List.take_of_length_le (by omega)]
         refine sh ?_
         exact rT
end Go.UM
namespace Go.UM
open Go.AM
set_option maxRecDepth 4000
structure jj where
 k:Int
 c:T3
 r:Int
def jj.row (m:jj):List AV:=[.int .i64 m.k,.int .i64 m.c.a,.int .i64 m.c.b,.int .i64 m.c.c,.int .i64 m.r]
structure je where
 k:Int
 c:T3
 p:T3
 u:T3
 v:T3
def je.row (l:je):List AV:=[.int .i64 l.k,.int .i64 l.c.a,.int .i64 l.c.b,.int .i64 l.c.c,.int .i64 l.p.a,.int .i64 l.p.b,.int .i64 l.p.c,.int .i64 l.u.a,.int .i64 l.u.b,.int .i64 l.u.c,.int .i64 l.v.a,.int .i64 l.v.b,.int .i64 l.v.c]
def outs (n x:Int):Bool:=decide (x<0∨n<x)
def jq (m:jj):Int:=if m.k<0∨4<m.k∨m.r<0∨65535<m.r∨m.c.a<0∨65535<m.c.a∨m.c.b<0∨65535<m.c.b∨m.c.c<0∨65535<m.c.c then 5 else 0
def tG (R:Env) (n:Int):ah:=[(0,.var (R.ty 10) [.int .i64 n])]
theorem PZ {R:Env} (h:On R) (n x:Int):R.Mc 322 [.int .i64 x,.loc 0 1 0 0] (tG R n) (.bool (outs n x)) (tG R n) 1:=
 h.ZR.bC 60 1 rfl rfl rfl fun X bb hfit hp=>by
  unfold outs
  refine sh ?_
  refine cS (fun h1=> ?_) (fun h1=> ?_)
  ·refine sh ?_
   refine rM [0] ?_
   all_goals repeat' (first|exact True.intro|refine And.intro ?_ ?_|(intro _u; clear _u)|(with_reducible first|exact ai.fg|refine eM ?_ ?_|refine eF ?_ ?_ ?_|refine eN ?_|refine eL ?_ ?_ ?_|refine eA ?_ ?_|refine ap.mk ⟨_,hp,rfl⟩ ?_ ?_)|refine ap.mk ⟨_,hp,rfl⟩ ?_ ?_)
   all_goals try first|with_reducible rfl|omega|exact .inl (by decide)|(simp; done)|rfl
   simp; omega
  ·refine sh ?_
   refine rM [0] ?_
   all_goals repeat' (first|exact True.intro|refine And.intro ?_ ?_|(intro _u; clear _u)|(with_reducible first|exact ai.fg|refine eM ?_ ?_|refine eF ?_ ?_ ?_|refine eN ?_|refine eL ?_ ?_ ?_|refine eA ?_ ?_|refine ap.mk ⟨_,hp,rfl⟩ ?_ ?_)|refine ap.mk ⟨_,hp,rfl⟩ ?_ ?_)
   all_goals try first|with_reducible rfl|omega|exact .inl (by decide)|(simp; done)|rfl
   rw[Bool.eq_iff_iff]; simp only[decide_eq_true_eq]; omega
theorem Hl {R:Env} (h:NF R) (g:Nat) (l:List Int) (p:Int→Bool) (n:Int) (hc:∀x ∈ l,R.Mc g [.int .i64 x,.loc 0 1 0 0] (tG R n) (.bool (p x)) (tG R n) 1) (hl:l.length≤1073741824):
  R.Mc 324 [.aJ 1 (bB .i64 l),R.cl g [.loc 0 1 0 0]] (tG R n) (.int .i64 (o9 l p)) (tG R n) 1:=
 h.ZG.bC 100 1 rfl rfl rfl fun X bb hfit hp=>by
  refine sh ?_
  refine gW 100 (fun i:Nat=>i≤l.length∧(l.take i).any p=false) (fun i=>⟨[(0,.aJ 1 (bB .i64 l)),(1,R.cl g [.loc 0 1 0 0]),(7,.int .i64 l.length),(8,.int .i64 i)],tG R n,1⟩) (fun i=>l.length - i) (0) ?_ ?_
  ·exact⟨Nat.zero_le _,by simp⟩
  ·intro i hi
   dsimp only
   refine sh ?_
   refine cS (fun h1=> ?_) (fun h1=> ?_)
   ·obtain⟨x,hx⟩:∃u_,l[i]? =some u_:=⟨_,List.getElem?_eq_getElem (by first|omega|(simp<;>omega))⟩
    refine sh ?_
    refine aa hx ?_
    refine sh ?_
    refine cM false [0] (hc x (List.mem_of_getElem? hx)) ?_
    repeat (intro _; first|refine eK ?_|refine eP ?_)
    refine sh ?_
    refine cS (fun h2=> ?_) (fun h2=> ?_)
    ·refine sh ?_
     refine rM [0] ?_
     all_goals repeat' (first|exact True.intro|refine And.intro ?_ ?_|(intro _u; clear _u)|(with_reducible first|exact ai.fg|refine eM ?_ ?_|refine eF ?_ ?_ ?_|refine eN ?_|refine eL ?_ ?_ ?_|refine eA ?_ ?_|refine ap.mk ⟨_,hp,rfl⟩ ?_ ?_)|refine ap.mk ⟨_,hp,rfl⟩ ?_ ?_)
     all_goals try first|with_reducible rfl|omega|exact .inl (by decide)|(simp; done)|rfl
     unfold o9
     rw[if_pos (dV hx h2),pa hx h2 hi.2]
    ·refine sh ?_
     refine lz (i+1) ?_ ?_
     ·refine⟨by omega,?_⟩
      rw[db hx,hi.2,h2]; rfl
     ·omega
   ·refine sh ?_
    refine rM [0] ?_
    all_goals repeat' (first|exact True.intro|refine And.intro ?_ ?_|(intro _u; clear _u)|(with_reducible first|exact ai.fg|refine eM ?_ ?_|refine eF ?_ ?_ ?_|refine eN ?_|refine eL ?_ ?_ ?_|refine eA ?_ ?_|refine ap.mk ⟨_,hp,rfl⟩ ?_ ?_)|refine ap.mk ⟨_,hp,rfl⟩ ?_ ?_)
    all_goals try first|with_reducible rfl|omega|exact .inl (by decide)|(simp; done)|rfl
    unfold o9
    have h3:=hi.2
    rw[List.take_of_length_le (by omega)]at h3
    rw[if_neg (by simp[h3])]
theorem Ec {R:Env} (h:NG R) (g:Nat) (l:List Int) (p:Int→Bool) (n:Int) (hc:∀x ∈ l,R.Mc g [.int .i64 x,.loc 0 1 0 0] (tG R n) (.bool (p x)) (tG R n) 1) (hl:l.length≤1073741824):
  R.Mc 323 [.aJ 1 (bB .i64 l),R.cl g [.loc 0 1 0 0]] (tG R n) (.bool (l.any p)) (tG R n) 1:=
 h.ZH.bC 100 1 rfl rfl rfl fun X bb hfit hp=>by
  refine sh ?_
  refine cM false [0] (Hl h.n324 g l p n hc hl) ?_
  repeat (intro _; first|refine eK ?_|refine eP ?_)
  refine sh ?_
  refine rM [0] ?_
  all_goals repeat' (first|exact True.intro|refine And.intro ?_ ?_|(intro _u; clear _u)|(with_reducible first|exact ai.fg|refine eM ?_ ?_|refine eF ?_ ?_ ?_|refine eN ?_|refine eL ?_ ?_ ?_|refine eA ?_ ?_|refine ap.mk ⟨_,hp,rfl⟩ ?_ ?_)|refine ap.mk ⟨_,hp,rfl⟩ ?_ ?_)
  all_goals try first|with_reducible rfl|omega|exact .inl (by decide)|(simp; done)|rfl
  exact rF
theorem mB {R:Env} (h:JW R) (n:Int) (l:List Int) (hl:l.length≤1073741824):R.Pc 307 [.int .i64 n,.aJ 1 (bB .i64 l)] (.bool (l.any (outs n))):=
 h.GP.enter 100 rfl fun X bb hfit hp=>by
  refine sh ?_
  refine cM false [0] (Ec h.n323 322 l (outs n) n (fun x _=>PZ h.n322 n x) hl) ?_
  repeat (intro _; first|refine eK ?_|refine eP ?_)
  refine sh ?_
  exact rT
theorem P0 {R:Env} (h:Oo R) (m:jj):R.Pc 290 [.agg m.row] (.int .i64 (jq m)):=
 h.T'.enter 100 rfl fun X bb hfit hp=>by
  generalize hq:jq m=q
  refine sh ?_
  refine cM true [] ((mB h.n307 4 [m.k] (by simp)).mc h.n307.GP.hb) ?_
  repeat (intro _; first|refine eK ?_|refine eP ?_)
  refine sh ?_
  refine cS (fun h1=> ?_) (fun h1=> ?_)
  ·simp[outs]at h1
   rw[jq,if_pos (by omega)]at hq
   subst hq
   refine sh ?_
   exact rT
  ·refine sh ?_
   refine cM true [] ((mB h.n307 65535 [m.c.a,m.c.b,m.c.c,m.r] (by simp)).mc h.n307.GP.hb) ?_
   repeat (intro _; first|refine eK ?_|refine eP ?_)
   refine sh ?_
   refine cS (fun h2=> ?_) (fun h2=> ?_)
   ·simp[outs]at h2
    rw[jq,if_pos (by omega)]at hq
    subst hq
    refine sh ?_
    exact rT
   ·simp[outs]at h1 h2
    rw[jq,if_neg (by omega)]at hq
    subst hq
    refine sh ?_
    exact rT
def P1 (p:T3):Bool:=p.a==0&&(p.b==0&&p.c==0)
def ko (l:je):Int:=if l.k<0∨2<l.k∨l.c.a<0∨1048576<l.c.a∨l.c.b<0∨1048576<l.c.b∨l.c.c<0∨1048576<l.c.c then 5
 else if kX l.p=true∨kX l.u=true∨kX l.v=true then 8
 else if l.k=2∧P1 l.p=false∨l.k≠1∧(P1 l.u=false∨P1 l.v=false)then 5 else 0
theorem tH {R:Env} (h:Oq R) (p:T3):R.Pc 308 [.agg (t3 p)] (.bool (kX p)):=
 h.JX.enter 60 rfl fun X bb hfit hp=>by
  unfold kX
  refine sh ?_
  refine cS (fun h1=> ?_) (fun h1=> ?_)
  ·refine sh ?_
   refine rT ?_
   all_goals repeat' (first|exact True.intro|refine And.intro ?_ ?_|(intro _u; clear _u)|(with_reducible first|exact ai.fg|refine eM ?_ ?_|refine eF ?_ ?_ ?_|refine eN ?_|refine eL ?_ ?_ ?_|refine eA ?_ ?_|refine ap.mk ⟨_,hp,rfl⟩ ?_ ?_)|refine ap.mk ⟨_,hp,rfl⟩ ?_ ?_)
   all_goals try first|with_reducible rfl|omega|exact .inl (by decide)|(simp; done)|rfl
   simp; omega
  ·refine sh ?_
   refine rT ?_
   all_goals repeat' (first|exact True.intro|refine And.intro ?_ ?_|(intro _u; clear _u)|(with_reducible first|exact ai.fg|refine eM ?_ ?_|refine eF ?_ ?_ ?_|refine eN ?_|refine eL ?_ ?_ ?_|refine eA ?_ ?_|refine ap.mk ⟨_,hp,rfl⟩ ?_ ?_)|refine ap.mk ⟨_,hp,rfl⟩ ?_ ?_)
   all_goals try first|with_reducible rfl|omega|exact .inl (by decide)|(simp; done)|rfl
   rw[Bool.eq_iff_iff]; simp only[Bool.not_eq_true',decide_eq_true_eq,decide_eq_false_iff_not]; omega
theorem P3 {R:Env} (h:Ot R) (l:je):R.Pc 292 [.agg l.row] (.int .i64 (ko l)):=
 h.Uc.enter 100 rfl fun X bb hfit hp=>by
  generalize hq:ko l=q
  refine sh ?_
  refine ae.let [0] rfl hp rfl ?_
  repeat ((intro _u; clear _u); first|refine eZ ?_|refine eZ ?_ (by simp; omega)|refine Gt.drop ?_)
  refine sh ?_
  refine cM true [] ((mB h.n307 2 [l.k] (by simp)).mc h.n307.GP.hb) ?_
  repeat (intro _; first|refine eK ?_|refine eP ?_)
  refine sh ?_
  refine cS (fun h1=> ?_) (fun h1=> ?_)
  ·simp[outs]at h1
   rw[ko,if_pos (by omega)]at hq
   subst hq
   refine sh ?_
   exact rT
  ·refine sh ?_
   refine ae.pure h.n307.GP.hb (mB h.n307 1048576 [l.c.a,l.c.b,l.c.c] (by simp)) rfl ?_
   refine sh ?_
   refine cS (fun h2=> ?_) (fun h2=> ?_)
   ·simp[outs]at h2
    rw[ko,if_pos (by omega)]at hq
    subst hq
    refine sh ?_
    exact rT
   ·simp[outs]at h1 h2
    rw[ko,if_neg (by omega)]at hq
    refine sh ?_
    refine ae.pure h.n308.JX.hb (tH h.n308 l.p) rfl ?_
    refine sh ?_
    refine cS (fun h3=> ?_) (fun h3=> ?_)
    ·rw[if_pos (.inl h3)]at hq
     subst hq
     refine sh ?_
     exact rT
    ·refine sh ?_
     refine ae.pure h.n308.JX.hb (tH h.n308 l.u) rfl ?_
     refine sh ?_
     refine cS (fun h4=> ?_) (fun h4=> ?_)
     ·rw[if_pos (.inr (.inl h4))]at hq
      subst hq
      refine sh ?_
      exact rT
     ·refine sh ?_
      refine ae.pure h.n308.JX.hb (tH h.n308 l.v) rfl ?_
      refine sh ?_
      refine cS (fun h5=> ?_) (fun h5=> ?_)
      ·rw[if_pos (.inr (.inr h5))]at hq
       subst hq
       refine sh ?_
       exact rT
      ·rw[if_neg (by simp[h3,h4,h5])]at hq
       refine sh ?_
       refine cS (fun h6=> ?_) (fun h6=> ?_)
       ·refine sh ?_
        refine cS (fun h7=> ?_) (fun h7=> ?_)
        ·rw[if_pos (.inl ⟨h6,h7⟩)]at hq
         subst hq
         refine sh ?_
         exact rT
        ·refine sh ?_
         refine cS (fun h8=> ?_) (fun h8=> ?_)
         ·rw[if_pos (.inr ⟨by omega,.inl h8⟩)]at hq
          subst hq
          refine sh ?_
          exact rT
         ·refine sh ?_
          refine cS (fun h9=> ?_) (fun h9=> ?_)
          ·rw[if_pos (.inr ⟨by omega,.inr h9⟩)]at hq
           subst hq
           refine sh ?_
           exact rT
          ·rw[if_neg (by simp[P1,h7,h8,h9])]at hq
           subst hq
           refine sh ?_
           exact rT
       ·refine sh ?_
        refine cS (fun h7=> ?_) (fun h7=> ?_)
        ·refine sh ?_
         refine cS (fun h8=> ?_) (fun h8=> ?_)
         ·rw[if_pos (.inr ⟨by omega,.inl h8⟩)]at hq
          subst hq
          refine sh ?_
          exact rT
         ·refine sh ?_
          refine cS (fun h9=> ?_) (fun h9=> ?_)
          ·rw[if_pos (.inr ⟨by omega,.inr h9⟩)]at hq
           subst hq
           refine sh ?_
           exact rT
          ·rw[if_neg (by simp[P1,h6,h8,h9])]at hq
           subst hq
           refine sh ?_
           exact rT
        ·have h10:l.k=1:=by omega
         rw[if_neg (by simp[h10])]at hq
         subst hq
         refine sh ?_
         exact rT
theorem KR {R:Env} (h:Pl R) (m:jj):R.Pc 291 [.agg m.row] (.int .i64 (jq m)):=
 h.Vp.enter 100 rfl fun X bb hfit hp=>by
  generalize hq:jq m=q
  refine sh ?_
  refine cS (fun h1=> ?_) (fun h1=> ?_)
  ·rw[jq,if_pos (by omega)]at hq
   subst hq
   refine sh ?_
   exact rT
  ·refine sh ?_
   refine cS (fun h2=> ?_) (fun h2=> ?_)
   ·rw[jq,if_pos (by omega)]at hq
    subst hq
    refine sh ?_
    exact rT
   ·refine sh ?_
    refine cS (fun h3=> ?_) (fun h3=> ?_)
    ·rw[jq,if_pos (by omega)]at hq
     subst hq
     refine sh ?_
     exact rT
    ·refine sh ?_
     refine cS (fun h4=> ?_) (fun h4=> ?_)
     ·rw[jq,if_pos (by omega)]at hq
      subst hq
      refine sh ?_
      exact rT
     ·refine sh ?_
      refine aq.one 100 ?_
      refine sh ?_
      refine af (by decide) ?_
      refine sh ?_
      refine cS (fun a1=> ?_) (fun a1=> ?_)
      ·rw[jq,if_pos (by omega)]at hq
       subst hq
       refine sh ?_
       exact rT
      ·refine sh ?_
       refine cS (fun a2=> ?_) (fun a2=> ?_)
       ·rw[jq,if_pos (by omega)]at hq
        subst hq
        refine sh ?_
        exact rT
       ·refine sh ?_
        refine aq.one 100 ?_
        refine sh ?_
        refine af (by decide) ?_
        refine sh ?_
        refine cS (fun b1=> ?_) (fun b1=> ?_)
        ·rw[jq,if_pos (by omega)]at hq
         subst hq
         refine sh ?_
         exact rT
        ·refine sh ?_
         refine cS (fun b2=> ?_) (fun b2=> ?_)
         ·rw[jq,if_pos (by omega)]at hq
          subst hq
          refine sh ?_
          exact rT
         ·refine sh ?_
          refine aq.one 100 ?_
          refine sh ?_
          refine af (by decide) ?_
          refine sh ?_
          refine cS (fun c1=> ?_) (fun c1=> ?_)
          ·rw[jq,if_pos (by omega)]at hq
           subst hq
           refine sh ?_
           exact rT
          ·refine sh ?_
           refine cS (fun c2=> ?_) (fun c2=> ?_)
           ·rw[jq,if_pos (by omega)]at hq
            subst hq
            refine sh ?_
            exact rT
           ·refine sh ?_
            refine aq.one 100 ?_
            refine sh ?_
            refine aj (by decide) ?_
            rw[jq,if_neg (by omega)]at hq
            subst hq
            refine sh ?_
            exact rT
theorem KT {R:Env} (h:Pm R) (l:je):R.Pc 293 [.agg l.row] (.int .i64 (ko l)):=
 h.Vr.enter 100 rfl fun X bb hfit hp=>by
  generalize hq:ko l=q
  refine sh ?_
  refine cS (fun h1=> ?_) (fun h1=> ?_)
  ·rw[ko,if_pos (by omega)]at hq
   subst hq
   refine sh ?_
   exact rT
  ·refine sh ?_
   refine cS (fun h2=> ?_) (fun h2=> ?_)
   ·rw[ko,if_pos (by omega)]at hq
    subst hq
    refine sh ?_
    exact rT
   ·refine sh ?_
    refine aq.one 100 ?_
    refine sh ?_
    refine af (by decide) ?_
    refine sh ?_
    refine cS (fun a1=> ?_) (fun a1=> ?_)
    ·rw[ko,if_pos (by omega)]at hq
     subst hq
     refine sh ?_
     exact rT
    ·refine sh ?_
     refine cS (fun a2=> ?_) (fun a2=> ?_)
     ·rw[ko,if_pos (by omega)]at hq
      subst hq
      refine sh ?_
      exact rT
     ·refine sh ?_
      refine aq.one 100 ?_
      refine sh ?_
      refine af (by decide) ?_
      refine sh ?_
      refine cS (fun b1=> ?_) (fun b1=> ?_)
      ·rw[ko,if_pos (by omega)]at hq
       subst hq
       refine sh ?_
       exact rT
      ·refine sh ?_
       refine cS (fun b2=> ?_) (fun b2=> ?_)
       ·rw[ko,if_pos (by omega)]at hq
        subst hq
        refine sh ?_
        exact rT
       ·refine sh ?_
        refine aq.one 100 ?_
        refine sh ?_
        refine af (by decide) ?_
        refine sh ?_
        refine cS (fun c1=> ?_) (fun c1=> ?_)
        ·rw[ko,if_pos (by omega)]at hq
         subst hq
         refine sh ?_
         exact rT
        ·refine sh ?_
         refine cS (fun c2=> ?_) (fun c2=> ?_)
         ·rw[ko,if_pos (by omega)]at hq
          subst hq
          refine sh ?_
          exact rT
         ·refine sh ?_
          refine aq.one 100 ?_
          refine sh ?_
          refine aj (by decide) ?_
          rw[ko,if_neg (by omega)]at hq
          refine sh ?_
          refine ae.pure h.n213.GR.hb (xA h.n213 l.p) rfl ?_
          refine sh ?_
          refine cS (fun h3=> ?_) (fun h3=> ?_)
          ·rw[if_pos (.inl h3)]at hq
           subst hq
           refine sh ?_
           exact rT
          ·refine sh ?_
           refine ae.pure h.n213.GR.hb (xA h.n213 l.u) rfl ?_
           refine sh ?_
           refine cS (fun h4=> ?_) (fun h4=> ?_)
           ·rw[if_pos (.inr (.inl h4))]at hq
            subst hq
            refine sh ?_
            exact rT
           ·refine sh ?_
            refine ae.pure h.n213.GR.hb (xA h.n213 l.v) rfl ?_
            refine sh ?_
            refine cS (fun h5=> ?_) (fun h5=> ?_)
            ·rw[if_pos (.inr (.inr h5))]at hq
             subst hq
             refine sh ?_
             exact rT
            ·rw[if_neg (by simp[h3,h4,h5])]at hq
             refine sh ?_
             refine cS (fun h6=> ?_) (fun h6=> ?_)
             ·refine sh ?_
              refine cS (fun h7=> ?_) (fun h7=> ?_)
              ·rw[if_pos (.inl ⟨h6,h7⟩)]at hq
               subst hq
               refine sh ?_
               exact rT
              ·refine sh ?_
               refine af (by (simp[h6])) ?_
               refine sh ?_
               refine cS (fun h8=> ?_) (fun h8=> ?_)
               ·rw[if_pos (.inr ⟨by omega,.inl h8⟩)]at hq
                subst hq
                refine sh ?_
                exact rT
               ·refine sh ?_
                refine cS (fun h9=> ?_) (fun h9=> ?_)
                ·rw[if_pos (.inr ⟨by omega,.inr h9⟩)]at hq
                 subst hq
                 refine sh ?_
                 exact rT
                ·rw[if_neg (by simp[P1,h7,h8,h9])]at hq
                 subst hq
                 refine sh ?_
                 exact rT
             ·refine sh ?_
              refine cS (fun h7=> ?_) (fun h7=> ?_)
              refine sh ?_
              refine cS (fun h8=> ?_) (fun h8=> ?_)
              ·rw[if_pos (.inr ⟨by omega,.inl h8⟩)]at hq
               subst hq
               refine sh ?_
               exact rT
              ·refine sh ?_
               refine cS (fun h9=> ?_) (fun h9=> ?_)
               ·rw[if_pos (.inr ⟨by omega,.inr h9⟩)]at hq
                subst hq
                refine sh ?_
                exact rT
               ·rw[if_neg (by simp[P1,h6,h8,h9])]at hq
                subst hq
                refine sh ?_
                exact rT
              ·have h10:l.k=1:=by omega
               rw[if_neg (by simp[h10])]at hq
               subst hq
               refine sh ?_
               exact rT
end Go.UM
namespace Go.UM
open Go.AM
set_option maxRecDepth 4000
def idx (l:List Int) (x:Int):Int:=if x ∈ l then (l.idxOf x:Int)else -1
theorem zg {x:Int}:∀ {l:List Int} {i:Nat},l[i]? =some x→x ∉ l.take i→l.idxOf x=i
 |[],_,h,_=>by simp at h
 |a::r,0,h,_=>by simp at h; simp[h]
 |a::r,i+1,h,hn=>by
  simp only[List.take_succ_cons,List.mem_cons,not_or]at hn
  rw[List.idxOf_cons]
  have:(a==x)=false:=by simpa using fun e=>hn.1 e.symm
  rw[this,zg (by simpa using h) hn.2]
  rfl
theorem KU {R:Env} (h:Nv R) (l:List Int) (x:Int) (hl:l.length≤1073741824):R.Pc 106 [.aJ 1 (bB .i64 l),.int .i64 x] (.int .i64 (idx l x)):=
 h.Ss.enter 100 rfl fun X bb hfit hp=>by
  refine sh ?_
  refine gW 100 (fun i:Nat=>i≤l.length∧x ∉ l.take i) (fun i=>⟨[(0,.aJ 1 (bB .i64 l)),(1,.int .i64 x),(7,.int .i64 l.length),(8,.int .i64 i)],[],0⟩) (fun i=>l.length - i) (0) ?_ ?_
  ·exact⟨Nat.zero_le _,by simp⟩
  ·intro i hi
   dsimp only
   refine sh ?_
   refine cS (fun h1=> ?_) (fun h1=> ?_)
   ·obtain⟨y,hy⟩:∃u_,l[i]? =some u_:=⟨_,List.getElem?_eq_getElem (by first|omega|(simp<;>omega))⟩
    refine sh ?_
    refine aa hy ?_
    refine sh ?_
    refine cS (fun h2=> ?_) (fun h2=> ?_)
    ·subst h2
     refine sh ?_
     refine rT ?_
     all_goals repeat' (first|exact True.intro|refine And.intro ?_ ?_|(intro _u; clear _u)|(with_reducible first|exact ai.fg|refine eM ?_ ?_|refine eF ?_ ?_ ?_|refine eN ?_|refine eL ?_ ?_ ?_|refine eA ?_ ?_|refine ap.mk ⟨_,hp,rfl⟩ ?_ ?_)|refine ap.mk ⟨_,hp,rfl⟩ ?_ ?_)
     all_goals try first|with_reducible rfl|omega|exact .inl (by decide)|(simp; done)|rfl
     unfold idx
     rw[if_pos (List.mem_of_getElem? hy),zg hy hi.2]
    ·refine sh ?_
     refine lz (i+1) ?_ ?_
     ·refine⟨by omega,?_⟩
      rw[ay hy]
      simp only[List.mem_append,List.mem_singleton,not_or]
      exact⟨hi.2,h2⟩
     ·omega
   ·refine sh ?_
    refine rT ?_
    all_goals repeat' (first|exact True.intro|refine And.intro ?_ ?_|(intro _u; clear _u)|(with_reducible first|exact ai.fg|refine eM ?_ ?_|refine eF ?_ ?_ ?_|refine eN ?_|refine eL ?_ ?_ ?_|refine eA ?_ ?_|refine ap.mk ⟨_,hp,rfl⟩ ?_ ?_)|refine ap.mk ⟨_,hp,rfl⟩ ?_ ?_)
    all_goals try first|with_reducible rfl|omega|exact .inl (by decide)|(simp; done)|rfl
    unfold idx
    rw[if_neg]
    rw[←List.take_of_length_le (l:=l) (i:=i) (by omega)]
    exact hi.2
theorem Bd {R:Env} (h:Nw R) (l:List Int) (x:Int) (hl:l.length≤1073741824):R.Pc 100 [.aJ 1 (bB .i64 l),.int .i64 x] (.bool (decide (x ∈ l))):=
 h.Sv.enter 100 rfl fun X bb hfit hp=>by
  refine sh ?_
  refine ae.pure h.n106.Ss.hb (KU h.n106 l x hl) rfl ?_
  refine sh ?_
  refine rT ?_
  all_goals repeat' (first|exact True.intro|refine And.intro ?_ ?_|(intro _u; clear _u)|(with_reducible first|exact ai.fg|refine eM ?_ ?_|refine eF ?_ ?_ ?_|refine eN ?_|refine eL ?_ ?_ ?_|refine eA ?_ ?_|refine ap.mk ⟨_,hp,rfl⟩ ?_ ?_)|refine ap.mk ⟨_,hp,rfl⟩ ?_ ?_)
  all_goals try first|with_reducible rfl|omega|exact .inl (by decide)|(simp; done)|rfl
  unfold idx
  by_cases hx:x ∈ l
  ·rw[if_pos hx]; simp[hx]
  ·rw[if_neg hx]; simp[hx]
end Go.UM
namespace Go.UM
open Go.AM
set_option maxRecDepth 4000
structure hG where
 side:Int
 t:List T3
def hG.row (x:hG):List AV:=[.int .i64 x.side,.aJ 3 (bJ x.t)]
def T3.jR (x:T3):Bool:=decide (0≤x.a)&&decide (0≤x.b)&&decide (0≤x.c)&&decide (x.a≤255)&&decide (x.b≤255)&&decide (x.c≤255)
theorem T3.fe (x:T3):x.jR=true↔(0≤x.a∧x.a≤255)∧(0≤x.b∧x.b≤255)∧0≤x.c∧x.c≤255:=by
 simp only[T3.jR,Bool.and_eq_true,decide_eq_true_eq]
 omega
def kp:List Int:=[1,2,4,8,16]
def fD (x:hG):Int:=if x.side ∉ kp∨(x.t.length:Int)≠x.side*x.side then 5 else if x.t.all T3.jR=true then 0 else 5
theorem kY {x:hG} (h:x.side ∈ kp):x.side=1∨x.side=2∨x.side=4∨x.side=8∨x.side=16:=by
 simpa[kp]using h
theorem aV {x:hG} {y:T3} (hy:y ∈ x.t) (h:y.jR=false):fD x=5:=by
 unfold fD
 split
 ·rfl
 ·rw[if_neg]
  intro ha
  rw[List.all_eq_true.1 ha y hy]at h
  exact Bool.noConfusion h
theorem dR {α:Type} {n:List α} {k:Nat} {x:α} {p:α→Bool} (h:n[k]? =some x):(n.take (k+1)).all p=((n.take k).all p&&p x):=by
 rw[ay h]; simp
theorem Hm {R:Env} (h:XN R) (x:hG) (hl:x.t.length≤1073741824):R.Pc 84 [.agg x.row] (.int .i64 (fD x)):=
 h.ZP.enter 100 rfl fun X bb hfit hp=>by
  refine sh ?_
  refine cM true [] ((Bd h.n100 kp x.side (by decide)).mc h.n100.Sv.hb) ?_
  repeat (intro _; first|refine eK ?_|refine eP ?_)
  generalize hq:fD x=q
  refine sh ?_
  refine cS (fun h1=> ?_) (fun h1=> ?_)
  ·rw[fD,if_pos (.inl h1)]at hq
   subst hq
   refine sh ?_
   exact rT
  ·have h2:=kY h1
   have hsq:x.side*x.side≤256∧0≤x.side*x.side:=by
    rcases h2 with h|h|h|h|h<;>rw[h]<;>decide
   refine sh ?_
   refine cS (fun h3=> ?_) (fun h3=> ?_)
   ·rw[fD,if_pos (.inr h3)]at hq
    subst hq
    refine sh ?_
    exact rT
   ·have hz:¬ (x.side ∉ kp∨(x.t.length:Int)≠x.side*x.side):=by simp[h1,h3]
    refine sh ?_
    refine gW 100 (fun i:Nat=>i≤x.t.length∧(x.t.take i).all T3.jR=true) (fun i=>⟨[(22,.aJ 3 (bJ x.t)),(23,.int .i64 x.t.length),(24,.int .i64 i)],[],10⟩) (fun i=>x.t.length - i) (0) ?_ ?_
    ·exact⟨Nat.zero_le _,rfl⟩
    ·intro i hi
     dsimp only
     refine sh ?_
     refine cS (fun h4=> ?_) (fun h4=> ?_)
     ·obtain⟨y,hy⟩:∃u_,x.t[i]? =some u_:=⟨_,List.getElem?_eq_getElem (by first|omega|(simp<;>omega))⟩
      refine sh ?_
      refine aa hy ?_
      have Ed:=T3.fe y
      refine sh ?_
      refine cS (fun h5=> ?_) (fun h5=> ?_)
      ·have hb:y.jR=false:=by rw[Bool.eq_false_iff,ne_eq,Ed]; omega
       rw[aV (List.mem_of_getElem? hy) hb]at hq
       subst hq
       refine sh ?_
       exact rT
      ·refine sh ?_
       refine cS (fun h6=> ?_) (fun h6=> ?_)
       ·have hb:y.jR=false:=by rw[Bool.eq_false_iff,ne_eq,Ed]; omega
        rw[aV (List.mem_of_getElem? hy) hb]at hq
        subst hq
        refine sh ?_
        exact rT
       ·refine sh ?_
        refine lz (i+1) ?_ ?_
        ·refine⟨by omega,?_⟩
         rw[dR hy,hi.2,Bool.true_and,Ed]
         omega
        ·omega
     ·rw[fD,if_neg hz,if_pos]at hq
      ·subst hq
       refine sh ?_
       exact rT
      ·have:=hi.2
       rwa[List.take_of_length_le (by omega)]at this
end Go.UM
namespace Go.UM
open Go.AM
set_option maxRecDepth 4000
structure zh (t:hG):Prop where
 s:t.side ∈ kp
 l:(t.t.length:Int)=t.side*t.side
 g:t.t.all T3.jR=true
theorem rG {t:hG} (h:fD t=0):zh t:=by
 unfold fD at h
 split at h
 ·exact absurd h (by decide)
 ·rename_i h1
  split at h
  ·rename_i h2
   simp only[not_or,Decidable.not_not]at h1
   exact⟨h1.1,h1.2,h2⟩
  ·exact absurd h (by decide)
theorem zh.jk {t:hG} (h:zh t):fD t=0:=by
 unfold fD
 rw[if_neg (by simp[h.s,h.l]),if_pos h.g]
def hG.ix (t:hG) (x y:Int):Nat:=(y % t.side*t.side+x % t.side).toNat
def hG.at (t:hG) (x y:Int):T3:=t.t.getD (t.ix x y) ⟨0,0,0⟩
theorem zh.ix {t:hG} (h:zh t) (x y:Int):0≤y % t.side∧y % t.side<t.side∧0≤x % t.side∧x % t.side<t.side∧t.side≤16∧1≤t.side∧0≤y % t.side*t.side∧y % t.side*t.side+x % t.side<t.side*t.side∧t.side*t.side≤256:=by
 have hs:=kY h.s
 have h1:1≤t.side∧t.side≤16:=by omega
 have h2:=Int.emod_nonneg y (show t.side≠0 by omega)
 have h3:=Int.emod_lt_of_pos y (show 0<t.side by omega)
 have h4:=Int.emod_nonneg x (show t.side≠0 by omega)
 have h5:=Int.emod_lt_of_pos x (show 0<t.side by omega)
 have h6:y % t.side*t.side≤(t.side - 1)*t.side:=Int.mul_le_mul_of_nonneg_right (by omega) (by omega)
 have h7:0≤y % t.side*t.side:=Int.mul_nonneg h2 (by omega)
 have h8:t.side*t.side≤16*16:=Int.mul_le_mul h1.2 h1.2 (by omega) (by decide)
 rw[Int.sub_mul]at h6
 exact⟨h2,h3,h4,h5,h1.2,h1.1,h7,by omega,by omega⟩
def avg (a b c d:T3):T3:=⟨(a.a+b.a+c.a+d.a+2) / 4,(a.b+b.b+c.b+d.b+2) / 4,(a.c+b.c+c.c+d.c+2) / 4⟩
def hG.next (t:hG) (s i:Int):T3:=avg (t.at (2* (i % s)) (2* (i / s))) (t.at (2* (i % s)+1) (2* (i / s))) (t.at (2* (i % s)) (2* (i / s)+1)) (t.at (2* (i % s)+1) (2* (i / s)+1))
def dg (l:List T3):List UInt8:=l.flatMap fun x=>[u8 x.a,u8 x.b,u8 x.c]
def l6 (t:hG):List UInt8 × Int:=if fD t≠0 then ([],fD t)else (u8 t.side::dg t.t,0)
theorem tI:∀l:List T3,(dg l).length=3*l.length
 |[]=>rfl
 |x::r=>by
  have:=tI r
  simp only[dg,List.flatMap_cons,List.length_append,List.length_cons,List.length_nil]at this ⊢
  omega
theorem mC {l:List T3} {k:Nat} {x:T3} (h:l[k]? =some x):dg (l.take (k+1))=dg (l.take k)++ [u8 x.a,u8 x.b,u8 x.c]:=by
 rw[ay h]; simp[dg]
theorem Ee {R:Env} (h:ZQ R) (t:hG) (hl:t.t.length≤1073741824):R.Pc 82 [.agg t.row] (.aP [.aJ 1 (bA (l6 t).1),.int .i64 (l6 t).2]):=
 h.o82.enter 200 rfl fun X bb hfit hp=>by
  refine sh ?_
  refine ae.pure h.LY.ZP.hb (Hm h.LY t hl) rfl ?_
  generalize hq:l6 t=q
  refine sh ?_
  refine cS (fun h1=> ?_) (fun h1=> ?_)
  ·rw[l6,if_pos h1]at hq
   subst hq
   refine sh ?_
   exact rT
  ·have ok:=rG h1
   rw[l6,if_neg (by simpa using h1)]at hq
   subst hq
   have hs:=kY ok.s
   have EO:t.t.length≤256:=by
    have:=ok.l
    rcases hs with h|h|h|h|h<;>rw[h]at this<;>omega
   refine sh ?_
   refine aq.inv 200 (fun i:Nat=>i≤t.t.length) (fun i=>⟨[(5,.bc 1 (u8 t.side::dg (t.t.take i)).length),(18,.aJ 3 (bJ t.t)),(19,.int .i64 t.t.length),(20,.int .i64 i)],[(1,.arr (R.ty 4) 1 (bA (u8 t.side::dg (t.t.take i))))],2⟩) (fun i=>t.t.length - i) (0) ?_ ⟨⟨_,hp,rfl⟩,?_,?_⟩ ?_
   ·exact Nat.zero_le _
   ·all_goals repeat' (first|exact True.intro|refine And.intro ?_ ?_|(intro _u; clear _u)|(with_reducible first|exact ai.fg|refine eM ?_ ?_|refine eF ?_ ?_ ?_|refine eN ?_|refine eL ?_ ?_ ?_|refine eA ?_ ?_|refine ap.mk ⟨_,hp,rfl⟩ ?_ ?_)|refine ap.mk ⟨_,hp,rfl⟩ ?_ ?_)
    all_goals try first|with_reducible rfl|omega|exact .inl (by decide)|(simp; done)|rfl
   ·all_goals repeat' (first|exact True.intro|refine And.intro ?_ ?_|(intro _u; clear _u)|(with_reducible first|exact ai.fg|refine eM ?_ ?_|refine eF ?_ ?_ ?_|refine eN ?_|refine eL ?_ ?_ ?_|refine eA ?_ ?_|refine ap.mk ⟨_,hp,rfl⟩ ?_ ?_)|refine ap.mk ⟨_,hp,rfl⟩ ?_ ?_)
    all_goals try first|with_reducible rfl|omega|exact .inl (by decide)|(simp; done)|rfl
    simp[bA,dg,u8_in (n:=t.side) (by omega)]
   ·intro i hi
    dsimp only
    refine sh ?_
    refine cS (fun h2=> ?_) (fun h2=> ?_)
    ·obtain⟨y,hy⟩:∃u_,t.t[i]? =some u_:=⟨_,List.getElem?_eq_getElem (by first|omega|(simp<;>omega))⟩
     refine sh ?_
     refine aa hy ?_
     refine sh ?_
     refine bz ?_
     refine sh ?_
     refine bz ?_
     refine sh ?_
     refine bz ?_
     refine sh ?_
     refine nD ?_ (by have:=tI (t.t.take i); simp only[List.length_take]at this; simp; omega)
     refine sh ?_
     refine nX (i+1) ?_ ?_ ⟨_,hp,rfl⟩ ?_ ?_
     ·omega
     ·omega
     ·all_goals repeat' (first|exact True.intro|refine And.intro ?_ ?_|(intro _u; clear _u)|(with_reducible first|exact ai.fg|refine eM ?_ ?_|refine eF ?_ ?_ ?_|refine eN ?_|refine eL ?_ ?_ ?_|refine eA ?_ ?_|refine ap.mk ⟨_,hp,rfl⟩ ?_ ?_)|refine ap.mk ⟨_,hp,rfl⟩ ?_ ?_)
      all_goals try first|with_reducible rfl|omega|exact .inl (by decide)|(simp; done)|rfl
      rw[mC hy]; simp
     ·all_goals repeat' (first|exact True.intro|refine And.intro ?_ ?_|(intro _u; clear _u)|(with_reducible first|exact ai.fg|refine eM ?_ ?_|refine eF ?_ ?_ ?_|refine eN ?_|refine eL ?_ ?_ ?_|refine eA ?_ ?_|refine ap.mk ⟨_,hp,rfl⟩ ?_ ?_)|refine ap.mk ⟨_,hp,rfl⟩ ?_ ?_)
      all_goals try first|with_reducible rfl|omega|exact .inl (by decide)|(simp; done)|rfl
      rw[mC hy]; simp[bA,B6]
    ·rw[List.take_of_length_le (by omega)]
     refine sh ?_
     exact rT
end Go.UM
namespace Go.UM
open Go.AM
set_option maxRecDepth 4000
theorem T3.nA {y:T3} (h:y.a<0∨255<y.a):y.jR=false:=by rw[Bool.eq_false_iff,ne_eq,T3.fe]; omega
theorem T3.nB {y:T3} (h:y.b<0∨255<y.b):y.jR=false:=by rw[Bool.eq_false_iff,ne_eq,T3.fe]; omega
theorem T3.nC {y:T3} (h:y.c<0∨255<y.c):y.jR=false:=by rw[Bool.eq_false_iff,ne_eq,T3.fe]; omega
theorem Ch {R:Env} (h:XU R) (x:hG) (hl:x.t.length≤1073741824):R.Pc 85 [.agg x.row] (.int .i64 (fD x)):=
 h.o85.enter 200 rfl fun X bb hfit hp=>by
  generalize hq:fD x=q
  by_cases hin:x.side ∈ kp
  ·have h2:=kY hin
   have hsq:x.side*x.side≤256∧0≤x.side*x.side:=by
    rcases h2 with h|h|h|h|h<;>rw[h]<;>decide
   refine sh ?_
   refine cS (fun h1=> ?_) (fun h1=> ?_)
   ·refine sh ?_
    refine cS (fun h3=> ?_) (fun h3=> ?_)
    ·refine sh ?_
     refine cS (fun h4=> ?_) (fun h4=> ?_)
     ·refine sh ?_
      refine cS (fun h5=> ?_) (fun h5=> ?_)
      ·refine sh ?_
       refine aj (by (simp; omega)) ?_
       refine sh ?_
       refine cS (fun h6=> ?_) (fun h6=> ?_)
       ·rw[fD,if_pos (.inr h6)]at hq
        subst hq
        refine sh ?_
        exact rT
       ·refine sh ?_
        refine gW 200 (fun i:Nat=>i≤x.t.length∧(x.t.take i).all T3.jR=true) (fun i=>⟨[(1,.loc 0 1 0 0),(3,.int .i64 i)],[(0,.var (R.ty 12) x.row)],1⟩) (fun i=>x.t.length - i) (0) ?_ ?_
        ·exact⟨Nat.zero_le _,rfl⟩
        ·intro i hi
         dsimp only
         refine sh ?_
         refine cS (fun h7=> ?_) (fun h7=> ?_)
         ·obtain⟨y,hy⟩:∃u,x.t[i]? =some u:=⟨_,List.getElem?_eq_getElem (by omega)⟩
          have ll:=List.mem_of_getElem? hy
          have Ed:=T3.fe y
          refine sh ?_
          refine aq.one 100 ?_
          refine sh ?_
          refine af (by decide) ?_
          refine sh ?_
          refine aa hy ?_
          refine sh ?_
          refine cS (fun g1=> ?_) (fun g1=> ?_)
          ·rw[aV ll (T3.nA (.inl g1))]at hq
           subst hq
           refine sh ?_
           exact rT
          ·refine sh ?_
           refine aa hy ?_
           refine sh ?_
           refine cS (fun g2=> ?_) (fun g2=> ?_)
           ·rw[aV ll (T3.nA (.inr g2))]at hq
            subst hq
            refine sh ?_
            exact rT
           ·refine sh ?_
            refine aq.one 100 ?_
            refine sh ?_
            refine af (by decide) ?_
            refine sh ?_
            refine aa hy ?_
            refine sh ?_
            refine cS (fun g3=> ?_) (fun g3=> ?_)
            ·rw[aV ll (T3.nB (.inl g3))]at hq
             subst hq
             refine sh ?_
             exact rT
            ·refine sh ?_
             refine aa hy ?_
             refine sh ?_
             refine cS (fun g4=> ?_) (fun g4=> ?_)
             ·rw[aV ll (T3.nB (.inr g4))]at hq
              subst hq
              refine sh ?_
              exact rT
             ·refine sh ?_
              refine aq.one 100 ?_
              refine sh ?_
              refine af (by decide) ?_
              refine sh ?_
              refine aa hy ?_
              refine sh ?_
              refine cS (fun g5=> ?_) (fun g5=> ?_)
              ·rw[aV ll (T3.nC (.inl g5))]at hq
               subst hq
               refine sh ?_
               exact rT
              ·refine sh ?_
               refine aa hy ?_
               refine sh ?_
               refine cS (fun g6=> ?_) (fun g6=> ?_)
               ·rw[aV ll (T3.nC (.inr g6))]at hq
                subst hq
                refine sh ?_
                exact rT
               ·refine sh ?_
                refine aq.one 100 ?_
                refine sh ?_
                refine aj (by decide) ?_
                refine sh ?_
                refine lz (i+1) ?_ ?_
                ·refine⟨by omega,?_⟩
                 rw[dR hy,hi.2,Bool.true_and,Ed]
                 omega
                ·omega
         ·have hz:¬ (x.side ∉ kp∨(x.t.length:Int)≠x.side*x.side):=by simp[hin,h6]
          rw[fD,if_neg hz,if_pos]at hq
          ·subst hq
           refine sh ?_
           exact rT
          ·have:=hi.2
           rwa[List.take_of_length_le (by omega)]at this
      ·refine sh ?_
       refine cS (fun h6=> ?_) (fun h6=> ?_)
       ·rw[fD,if_pos (.inr h6)]at hq
        subst hq
        refine sh ?_
        exact rT
       ·refine sh ?_
        refine gW 200 (fun i:Nat=>i≤x.t.length∧(x.t.take i).all T3.jR=true) (fun i=>⟨[(1,.loc 0 1 0 0),(3,.int .i64 i)],[(0,.var (R.ty 12) x.row)],1⟩) (fun i=>x.t.length - i) (0) ?_ ?_
        ·exact⟨Nat.zero_le _,rfl⟩
        ·intro i hi
         dsimp only
         refine sh ?_
         refine cS (fun h7=> ?_) (fun h7=> ?_)
         ·obtain⟨y,hy⟩:∃u,x.t[i]? =some u:=⟨_,List.getElem?_eq_getElem (by omega)⟩
          have ll:=List.mem_of_getElem? hy
          have Ed:=T3.fe y
          refine sh ?_
          refine aq.one 100 ?_
          refine sh ?_
          refine af (by decide) ?_
          refine sh ?_
          refine aa hy ?_
          refine sh ?_
          refine cS (fun g1=> ?_) (fun g1=> ?_)
          ·rw[aV ll (T3.nA (.inl g1))]at hq
           subst hq
           refine sh ?_
           exact rT
          ·refine sh ?_
           refine aa hy ?_
           refine sh ?_
           refine cS (fun g2=> ?_) (fun g2=> ?_)
           ·rw[aV ll (T3.nA (.inr g2))]at hq
            subst hq
            refine sh ?_
            exact rT
           ·refine sh ?_
            refine aq.one 100 ?_
            refine sh ?_
            refine af (by decide) ?_
            refine sh ?_
            refine aa hy ?_
            refine sh ?_
            refine cS (fun g3=> ?_) (fun g3=> ?_)
            ·rw[aV ll (T3.nB (.inl g3))]at hq
             subst hq
             refine sh ?_
             exact rT
            ·refine sh ?_
             refine aa hy ?_
             refine sh ?_
             refine cS (fun g4=> ?_) (fun g4=> ?_)
             ·rw[aV ll (T3.nB (.inr g4))]at hq
              subst hq
              refine sh ?_
              exact rT
             ·refine sh ?_
              refine aq.one 100 ?_
              refine sh ?_
              refine af (by decide) ?_
              refine sh ?_
              refine aa hy ?_
              refine sh ?_
              refine cS (fun g5=> ?_) (fun g5=> ?_)
              ·rw[aV ll (T3.nC (.inl g5))]at hq
               subst hq
               refine sh ?_
               exact rT
              ·refine sh ?_
               refine aa hy ?_
               refine sh ?_
               refine cS (fun g6=> ?_) (fun g6=> ?_)
               ·rw[aV ll (T3.nC (.inr g6))]at hq
                subst hq
                refine sh ?_
                exact rT
               ·refine sh ?_
                refine aq.one 100 ?_
                refine sh ?_
                refine aj (by decide) ?_
                refine sh ?_
                refine lz (i+1) ?_ ?_
                ·refine⟨by omega,?_⟩
                 rw[dR hy,hi.2,Bool.true_and,Ed]
                 omega
                ·omega
         ·have hz:¬ (x.side ∉ kp∨(x.t.length:Int)≠x.side*x.side):=by simp[hin,h6]
          rw[fD,if_neg hz,if_pos]at hq
          ·subst hq
           refine sh ?_
           exact rT
          ·have:=hi.2
           rwa[List.take_of_length_le (by omega)]at this
     ·refine sh ?_
      refine cS (fun h6=> ?_) (fun h6=> ?_)
      ·rw[fD,if_pos (.inr h6)]at hq
       subst hq
       refine sh ?_
       exact rT
      ·refine sh ?_
       refine gW 200 (fun i:Nat=>i≤x.t.length∧(x.t.take i).all T3.jR=true) (fun i=>⟨[(1,.loc 0 1 0 0),(3,.int .i64 i)],[(0,.var (R.ty 12) x.row)],1⟩) (fun i=>x.t.length - i) (0) ?_ ?_
       ·exact⟨Nat.zero_le _,rfl⟩
       ·intro i hi
        dsimp only
        refine sh ?_
        refine cS (fun h7=> ?_) (fun h7=> ?_)
        ·obtain⟨y,hy⟩:∃u,x.t[i]? =some u:=⟨_,List.getElem?_eq_getElem (by omega)⟩
         have ll:=List.mem_of_getElem? hy
         have Ed:=T3.fe y
         refine sh ?_
         refine aq.one 100 ?_
         refine sh ?_
         refine af (by decide) ?_
         refine sh ?_
         refine aa hy ?_
         refine sh ?_
         refine cS (fun g1=> ?_) (fun g1=> ?_)
         ·rw[aV ll (T3.nA (.inl g1))]at hq
          subst hq
          refine sh ?_
          exact rT
         ·refine sh ?_
          refine aa hy ?_
          refine sh ?_
          refine cS (fun g2=> ?_) (fun g2=> ?_)
          ·rw[aV ll (T3.nA (.inr g2))]at hq
           subst hq
           refine sh ?_
           exact rT
          ·refine sh ?_
           refine aq.one 100 ?_
           refine sh ?_
           refine af (by decide) ?_
           refine sh ?_
           refine aa hy ?_
           refine sh ?_
           refine cS (fun g3=> ?_) (fun g3=> ?_)
           ·rw[aV ll (T3.nB (.inl g3))]at hq
            subst hq
            refine sh ?_
            exact rT
           ·refine sh ?_
            refine aa hy ?_
            refine sh ?_
            refine cS (fun g4=> ?_) (fun g4=> ?_)
            ·rw[aV ll (T3.nB (.inr g4))]at hq
             subst hq
             refine sh ?_
             exact rT
            ·refine sh ?_
             refine aq.one 100 ?_
             refine sh ?_
             refine af (by decide) ?_
             refine sh ?_
             refine aa hy ?_
             refine sh ?_
             refine cS (fun g5=> ?_) (fun g5=> ?_)
             ·rw[aV ll (T3.nC (.inl g5))]at hq
              subst hq
              refine sh ?_
              exact rT
             ·refine sh ?_
              refine aa hy ?_
              refine sh ?_
              refine cS (fun g6=> ?_) (fun g6=> ?_)
              ·rw[aV ll (T3.nC (.inr g6))]at hq
               subst hq
               refine sh ?_
               exact rT
              ·refine sh ?_
               refine aq.one 100 ?_
               refine sh ?_
               refine aj (by decide) ?_
               refine sh ?_
               refine lz (i+1) ?_ ?_
               ·refine⟨by omega,?_⟩
                rw[dR hy,hi.2,Bool.true_and,Ed]
                omega
               ·omega
        ·have hz:¬ (x.side ∉ kp∨(x.t.length:Int)≠x.side*x.side):=by simp[hin,h6]
         rw[fD,if_neg hz,if_pos]at hq
         ·subst hq
          refine sh ?_
          exact rT
         ·have:=hi.2
          rwa[List.take_of_length_le (by omega)]at this
    ·refine sh ?_
     refine cS (fun h6=> ?_) (fun h6=> ?_)
     ·rw[fD,if_pos (.inr h6)]at hq
      subst hq
      refine sh ?_
      exact rT
     ·refine sh ?_
      refine gW 200 (fun i:Nat=>i≤x.t.length∧(x.t.take i).all T3.jR=true) (fun i=>⟨[(1,.loc 0 1 0 0),(3,.int .i64 i)],[(0,.var (R.ty 12) x.row)],1⟩) (fun i=>x.t.length - i) (0) ?_ ?_
      ·exact⟨Nat.zero_le _,rfl⟩
      ·intro i hi
       dsimp only
       refine sh ?_
       refine cS (fun h7=> ?_) (fun h7=> ?_)
       ·obtain⟨y,hy⟩:∃u,x.t[i]? =some u:=⟨_,List.getElem?_eq_getElem (by omega)⟩
        have ll:=List.mem_of_getElem? hy
        have Ed:=T3.fe y
        refine sh ?_
        refine aq.one 100 ?_
        refine sh ?_
        refine af (by decide) ?_
        refine sh ?_
        refine aa hy ?_
        refine sh ?_
        refine cS (fun g1=> ?_) (fun g1=> ?_)
        ·rw[aV ll (T3.nA (.inl g1))]at hq
         subst hq
         refine sh ?_
         exact rT
        ·refine sh ?_
         refine aa hy ?_
         refine sh ?_
         refine cS (fun g2=> ?_) (fun g2=> ?_)
         ·rw[aV ll (T3.nA (.inr g2))]at hq
          subst hq
          refine sh ?_
          exact rT
         ·refine sh ?_
          refine aq.one 100 ?_
          refine sh ?_
          refine af (by decide) ?_
          refine sh ?_
          refine aa hy ?_
          refine sh ?_
          refine cS (fun g3=> ?_) (fun g3=> ?_)
          ·rw[aV ll (T3.nB (.inl g3))]at hq
           subst hq
           refine sh ?_
           exact rT
          ·refine sh ?_
           refine aa hy ?_
           refine sh ?_
           refine cS (fun g4=> ?_) (fun g4=> ?_)
           ·rw[aV ll (T3.nB (.inr g4))]at hq
            subst hq
            refine sh ?_
            exact rT
           ·refine sh ?_
            refine aq.one 100 ?_
            refine sh ?_
            refine af (by decide) ?_
            refine sh ?_
            refine aa hy ?_
            refine sh ?_
            refine cS (fun g5=> ?_) (fun g5=> ?_)
            ·rw[aV ll (T3.nC (.inl g5))]at hq
             subst hq
             refine sh ?_
             exact rT
            ·refine sh ?_
             refine aa hy ?_
             refine sh ?_
             refine cS (fun g6=> ?_) (fun g6=> ?_)
             ·rw[aV ll (T3.nC (.inr g6))]at hq
              subst hq
              refine sh ?_
              exact rT
             ·refine sh ?_
              refine aq.one 100 ?_
              refine sh ?_
              refine aj (by decide) ?_
              refine sh ?_
              refine lz (i+1) ?_ ?_
              ·refine⟨by omega,?_⟩
               rw[dR hy,hi.2,Bool.true_and,Ed]
               omega
              ·omega
       ·have hz:¬ (x.side ∉ kp∨(x.t.length:Int)≠x.side*x.side):=by simp[hin,h6]
        rw[fD,if_neg hz,if_pos]at hq
        ·subst hq
         refine sh ?_
         exact rT
        ·have:=hi.2
         rwa[List.take_of_length_le (by omega)]at this
   ·refine sh ?_
    refine cS (fun h6=> ?_) (fun h6=> ?_)
    ·rw[fD,if_pos (.inr h6)]at hq
     subst hq
     refine sh ?_
     exact rT
    ·refine sh ?_
     refine gW 200 (fun i:Nat=>i≤x.t.length∧(x.t.take i).all T3.jR=true) (fun i=>⟨[(1,.loc 0 1 0 0),(3,.int .i64 i)],[(0,.var (R.ty 12) x.row)],1⟩) (fun i=>x.t.length - i) (0) ?_ ?_
     ·exact⟨Nat.zero_le _,rfl⟩
     ·intro i hi
      dsimp only
      refine sh ?_
      refine cS (fun h7=> ?_) (fun h7=> ?_)
      ·obtain⟨y,hy⟩:∃u,x.t[i]? =some u:=⟨_,List.getElem?_eq_getElem (by omega)⟩
       have ll:=List.mem_of_getElem? hy
       have Ed:=T3.fe y
       refine sh ?_
       refine aq.one 100 ?_
       refine sh ?_
       refine af (by decide) ?_
       refine sh ?_
       refine aa hy ?_
       refine sh ?_
       refine cS (fun g1=> ?_) (fun g1=> ?_)
       ·rw[aV ll (T3.nA (.inl g1))]at hq
        subst hq
        refine sh ?_
        exact rT
       ·refine sh ?_
        refine aa hy ?_
        refine sh ?_
        refine cS (fun g2=> ?_) (fun g2=> ?_)
        ·rw[aV ll (T3.nA (.inr g2))]at hq
         subst hq
         refine sh ?_
         exact rT
        ·refine sh ?_
         refine aq.one 100 ?_
         refine sh ?_
         refine af (by decide) ?_
         refine sh ?_
         refine aa hy ?_
         refine sh ?_
         refine cS (fun g3=> ?_) (fun g3=> ?_)
         ·rw[aV ll (T3.nB (.inl g3))]at hq
          subst hq
          refine sh ?_
          exact rT
         ·refine sh ?_
          refine aa hy ?_
          refine sh ?_
          refine cS (fun g4=> ?_) (fun g4=> ?_)
          ·rw[aV ll (T3.nB (.inr g4))]at hq
           subst hq
           refine sh ?_
           exact rT
          ·refine sh ?_
           refine aq.one 100 ?_
           refine sh ?_
           refine af (by decide) ?_
           refine sh ?_
           refine aa hy ?_
           refine sh ?_
           refine cS (fun g5=> ?_) (fun g5=> ?_)
           ·rw[aV ll (T3.nC (.inl g5))]at hq
            subst hq
            refine sh ?_
            exact rT
           ·refine sh ?_
            refine aa hy ?_
            refine sh ?_
            refine cS (fun g6=> ?_) (fun g6=> ?_)
            ·rw[aV ll (T3.nC (.inr g6))]at hq
             subst hq
             refine sh ?_
             exact rT
            ·refine sh ?_
             refine aq.one 100 ?_
             refine sh ?_
             refine aj (by decide) ?_
             refine sh ?_
             refine lz (i+1) ?_ ?_
             ·refine⟨by omega,?_⟩
              rw[dR hy,hi.2,Bool.true_and,Ed]
              omega
             ·omega
      ·have hz:¬ (x.side ∉ kp∨(x.t.length:Int)≠x.side*x.side):=by simp[hin,h6]
       rw[fD,if_neg hz,if_pos]at hq
       ·subst hq
        refine sh ?_
        exact rT
       ·have:=hi.2
        rwa[List.take_of_length_le (by omega)]at this
  ·have hout:¬x.side=1∧¬x.side=2∧¬x.side=4∧¬x.side=8∧¬x.side=16:=by simpa[kp]using hin
   refine sh ?_
   refine af (by simpa using hout.1) ?_
   refine sh ?_
   refine af (by simpa using hout.2.1) ?_
   refine sh ?_
   refine af (by simpa using hout.2.2.1) ?_
   refine sh ?_
   refine af (by simpa using hout.2.2.2.1) ?_
   refine sh ?_
   refine af (by simpa using hout.2.2.2.2) ?_
   rw[fD,if_pos (.inl hin)]at hq
   subst hq
   refine sh ?_
   exact rT
theorem Be {R:Env} (h:N83 R) (t:hG) (hl:t.t.length≤1073741824):R.Pc 83 [.agg t.row] (.aP [.aJ 1 (bA (l6 t).1),.int .i64 (l6 t).2]):=
 h.o83.enter 200 rfl fun X bb hfit hp=>by
  refine sh ?_
  refine ae.pure h.L3.o85.hb (Ch h.L3 t hl) rfl ?_
  generalize hq:l6 t=q
  refine sh ?_
  refine cS (fun h1=> ?_) (fun h1=> ?_)
  ·rw[l6,if_pos h1]at hq
   subst hq
   refine sh ?_
   exact rT
  ·have ok:=rG h1
   rw[l6,if_neg (by simpa using h1)]at hq
   subst hq
   have hs:=kY ok.s
   have EO:t.t.length≤256:=by
    have:=ok.l
    rcases hs with h|h|h|h|h<;>rw[h]at this<;>omega
   refine sh ?_
   refine aq.inv 200 (fun i:Nat=>i≤t.t.length) (fun i=>⟨[(1,.loc 0 1 0 0),(5,.bc 1 (u8 t.side::dg (t.t.take i)).length),(6,.int .i64 i)],[(1,.arr (R.ty 4) 1 (bA (u8 t.side::dg (t.t.take i)))),(0,.var (R.ty 12) t.row)],2⟩) (fun i=>t.t.length - i) (0) ?_ ⟨⟨_,hp,rfl⟩,?_,?_⟩ ?_
   ·exact Nat.zero_le _
   ·all_goals repeat' (first|exact True.intro|refine And.intro ?_ ?_|(intro _u; clear _u)|(with_reducible first|exact ai.fg|refine eM ?_ ?_|refine eF ?_ ?_ ?_|refine eN ?_|refine eL ?_ ?_ ?_|refine eA ?_ ?_|refine ap.mk ⟨_,hp,rfl⟩ ?_ ?_)|refine ap.mk ⟨_,hp,rfl⟩ ?_ ?_)
    all_goals try first|with_reducible rfl|omega|exact .inl (by decide)|(simp; done)|rfl
   ·all_goals repeat' (first|exact True.intro|refine And.intro ?_ ?_|(intro _u; clear _u)|(with_reducible first|exact ai.fg|refine eM ?_ ?_|refine eF ?_ ?_ ?_|refine eN ?_|refine eL ?_ ?_ ?_|refine eA ?_ ?_|refine ap.mk ⟨_,hp,rfl⟩ ?_ ?_)|refine ap.mk ⟨_,hp,rfl⟩ ?_ ?_)
    all_goals try first|with_reducible rfl|omega|exact .inl (by decide)|(simp; done)|rfl
    simp[bA,dg,u8_in (n:=t.side) (by omega)]
   ·intro i hi
    dsimp only
    refine sh ?_
    refine cS (fun h2=> ?_) (fun h2=> ?_)
    ·obtain⟨y,hy⟩:∃u,t.t[i]? =some u:=⟨_,List.getElem?_eq_getElem (by omega)⟩
     have hlen:=tI (t.t.take i)
     simp only[List.length_take]at hlen
     refine sh ?_
     refine aq.one 100 ?_
     refine sh ?_
     refine af (by decide) ?_
     refine sh ?_
     refine aa hy ?_
     refine sh ?_
     refine bz ?_
     refine sh ?_
     refine aq.one 100 ?_
     refine sh ?_
     refine af (by decide) ?_
     refine sh ?_
     refine aa hy ?_
     refine sh ?_
     refine bz ?_
     refine sh ?_
     refine aq.one 100 ?_
     refine sh ?_
     refine af (by decide) ?_
     refine sh ?_
     refine aa hy ?_
     refine sh ?_
     refine bz ?_
     refine sh ?_
     refine aq.one 100 ?_
     refine sh ?_
     refine aj (by decide) ?_
     refine sh ?_
     refine nX (i+1) ?_ ?_ ⟨_,hp,rfl⟩ ?_ ?_
     ·omega
     ·omega
     ·all_goals repeat' (first|exact True.intro|refine And.intro ?_ ?_|(intro _u; clear _u)|(with_reducible first|exact ai.fg|refine eM ?_ ?_|refine eF ?_ ?_ ?_|refine eN ?_|refine eL ?_ ?_ ?_|refine eA ?_ ?_|refine ap.mk ⟨_,hp,rfl⟩ ?_ ?_)|refine ap.mk ⟨_,hp,rfl⟩ ?_ ?_)
      all_goals try first|with_reducible rfl|omega|exact .inl (by decide)|(simp; done)|rfl
      rw[mC hy]; simp
     ·all_goals repeat' (first|exact True.intro|refine And.intro ?_ ?_|(intro _u; clear _u)|(with_reducible first|exact ai.fg|refine eM ?_ ?_|refine eF ?_ ?_ ?_|refine eN ?_|refine eL ?_ ?_ ?_|refine eA ?_ ?_|refine ap.mk ⟨_,hp,rfl⟩ ?_ ?_)|refine ap.mk ⟨_,hp,rfl⟩ ?_ ?_)
      all_goals try first|with_reducible rfl|omega|exact .inl (by decide)|(simp; done)|rfl
      rw[mC hy]; simp[bA,B6]
    ·rw[List.take_of_length_le (by omega)]
     refine sh ?_
     exact rT
end Go.UM
namespace Go.UM
open Go.AM
set_option maxRecDepth 4000
structure As where
 k:Int
 m:Ms
 x:hG
 mt:jj
 li:je
def As.row (a:As):List AV:=[.int .i64 a.k,.aJ 3 (bJ a.m.v),.aJ 2 (cV a.m.uv),.aJ 3 (bJ a.m.t),.int .i64 a.x.side,.aJ 3 (bJ a.x.t),
 .int .i64 a.mt.k,.int .i64 a.mt.c.a,.int .i64 a.mt.c.b,.int .i64 a.mt.c.c,.int .i64 a.mt.r,
 .int .i64 a.li.k,.int .i64 a.li.c.a,.int .i64 a.li.c.b,.int .i64 a.li.c.c,.int .i64 a.li.p.a,.int .i64 a.li.p.b,.int .i64 a.li.p.c,.int .i64 a.li.u.a,.int .i64 a.li.u.b,.int .i64 a.li.u.c,.int .i64 a.li.v.a,.int .i64 a.li.v.b,.int .i64 a.li.v.c]
def aaG (m:jj):List UInt8:=[u8 m.k]++enc 2 m.c.a++enc 2 m.c.b++enc 2 m.c.c++enc 2 m.r
def aaH (l:je):List UInt8:=[u8 l.k]++(enc 4 l.c.a++enc 4 l.c.b++enc 4 l.c.c)++fc l.p++fc l.u++fc l.v
def own (a:As):Int:=if a.k=1 then jp a.m else if a.k=2 then fD a.x else if a.k=3 then jq a.mt else if a.k=4 then ko a.li else 12
def gl (a:As):List UInt8:=if a.k=1 then (tD a.m).1 else if a.k=2 then (l6 a.x).1 else if a.k=3 then aaG a.mt else aaH a.li
theorem rH {p:T3} (h:kX p=false): -4096≤p.a∧p.a≤4096∧ -4096≤p.b∧p.b≤4096∧ -4096≤p.c∧p.c≤4096:=by simpa[kX]using h
structure je.QW (l:je):Prop where
 k:0≤l.k∧l.k≤2
 c:0≤l.c.a∧l.c.a≤1048576∧0≤l.c.b∧l.c.b≤1048576∧0≤l.c.c∧l.c.c≤1048576
 p: -4096≤l.p.a∧l.p.a≤4096∧ -4096≤l.p.b∧l.p.b≤4096∧ -4096≤l.p.c∧l.p.c≤4096
 u: -4096≤l.u.a∧l.u.a≤4096∧ -4096≤l.u.b∧l.u.b≤4096∧ -4096≤l.u.c∧l.u.c≤4096
 v: -4096≤l.v.a∧l.v.a≤4096∧ -4096≤l.v.b∧l.v.b≤4096∧ -4096≤l.v.c∧l.v.c≤4096
theorem tJ {l:je} (h:ko l=0):l.QW:=by
 unfold ko at h
 split at h
 ·cases h
 ·split at h
  ·cases h
  ·rename_i h1 h2
   simp only[not_or,Bool.not_eq_true]at h2
   exact⟨by omega,by omega,rH h2.1,rH h2.2.1,rH h2.2.2⟩
theorem tK {m:jj} (h:jq m=0):0≤m.k∧m.k≤4∧0≤m.r∧m.r≤65535∧0≤m.c.a∧m.c.a≤65535∧0≤m.c.b∧m.c.b≤65535∧0≤m.c.c∧m.c.c≤65535:=by
 unfold jq at h
 split at h
 ·cases h
 ·omega
theorem P4 {R:Env} (h:Og R) (b:List UInt8) (x:Int) (hl:b.length≤1000) (hx:0≤x∧x≤65535):
  R.Mc 54 [.aJ 1 (bA b),.int .i64 2,.aJ 1 (bB .u64 [x])] [] (.aP [.bc 0 (b++enc 2 x).length,.int .i64 0]) [(0,.arr (R.ty 4) 1 (bA (b++enc 2 x)))] 1:=by
 have c:=Ce h b 2 [x] (by simp; omega) (by simp; omega)
 rw[xz (by decide) (by decide) (by simp; omega)]at c
 simpa using c
theorem P5 {R:Env} (h:Og R) (b:List UInt8) (x y z:Int) (hl:b.length≤1000) (hx:0≤x∧x≤1048576∧0≤y∧y≤1048576∧0≤z∧z≤1048576):
  R.Mc 54 [.aJ 1 (bA b),.int .i64 4,.aJ 1 (bB .u64 [x,y,z])] [] (.aP [.bc 0 (b++(enc 4 x++enc 4 y++enc 4 z)).length,.int .i64 0]) [(0,.arr (R.ty 4) 1 (bA (b++(enc 4 x++enc 4 y++enc 4 z))))] 1:=by
 have c:=Ce h b 4 [x,y,z] (by simp; omega) (by simp; omega)
 rw[xz (by decide) (by decide) (by simp; omega)]at c
 simpa using c
theorem P6 {R:Env} (h:TX R) (b:List UInt8) (p:T3) (hl:b.length≤1000) (ok: -4096≤p.a∧p.a≤4096∧ -4096≤p.b∧p.b≤4096∧ -4096≤p.c∧p.c≤4096):
  R.Mc 71 [.aJ 1 (bA b),.int .i64 2,.aJ 1 (bB .i64 [p.a,p.b,p.c])] [] (.aP [.bc 0 (b++fc p).length,.int .i64 0]) [(0,.arr (R.ty 4) 1 (bA (b++fc p)))] 1:=by
 have c:=zc h b 2 [p.a,p.b,p.c] (by simp; omega) (by simp[bg]; omega)
 rwa[tE ok]at c
def jj.four (m:jj):List Int:=[m.c.a,m.c.b,m.c.c,m.r]
def je.three (l:je):List T3:=[l.p,l.u,l.v]
@[simp] theorem Me (m:jj):m.four.length=4:=rfl
@[simp] theorem KV (l:je):l.three.length=3:=rfl
theorem Bf:∀l:List Int,(l.flatMap (enc 2)).length=2*l.length
 |[]=>rfl
 |x::r=>by have:=Bf r; simp at this ⊢; omega
@[simp] theorem Mg (p:T3):(fc p).length=6:=by simp[fc]
theorem Hn {R:Env} (h:OB R) (a:As) (hl:a.x.t.length≤1073741824) (ok:own a=0):R.Pc 311 [.agg a.row] (.aJ 1 (bA (gl a))):=
 h.Up.enter 200 rfl fun X bb hfit hp=>by
  generalize hq:gl a=q
  unfold own at ok
  refine sh ?_
  refine cS (fun h1=> ?_) (fun h1=> ?_)
  ·rw[gl,if_pos h1]at hq
   subst hq
   refine sh ?_
   refine ae.pure h.n196.T6.hb (Eb h.n196 a.m) rfl ?_
   refine sh ?_
   exact rT
  ·rw[if_neg h1]at ok
   refine sh ?_
   refine cS (fun h2=> ?_) (fun h2=> ?_)
   ·rw[gl,if_neg h1,if_pos h2]at hq
    subst hq
    refine sh ?_
    refine ae.pure h.XO.o82.hb (Ee h.XO a.x hl) rfl ?_
    refine sh ?_
    exact rT
   ·rw[if_neg h2]at ok
    refine sh ?_
    refine cS (fun h3=> ?_) (fun h3=> ?_)
    ·rw[gl,if_neg h1,if_neg h2,if_pos h3]at hq
     subst hq
     rw[if_pos h3]at ok
     have may:=tK ok
     have w8:((u8 a.mt.k).toNat:Int)=a.mt.k:=u8_in (by omega)
     refine sh ?_
     refine aq.inv 100 (fun i:Nat=>i≤4) (fun i=>⟨[(8,.bc 2 ([u8 a.mt.k]++(a.mt.four.take i).flatMap (enc 2)).length),(55,.aJ 1 (bB .i64 a.mt.four)),(56,.int .i64 4),(57,.int .i64 i)],[(2,.arr (R.ty 4) 1 (bA ([u8 a.mt.k]++(a.mt.four.take i).flatMap (enc 2))))],3⟩) (fun i=>4 - i) (0) ?_ ⟨⟨_,hp,rfl⟩,?_,?_⟩ ?_
     ·exact Nat.zero_le _
     ·all_goals repeat' (first|exact True.intro|refine And.intro ?_ ?_|(intro _u; clear _u)|(with_reducible first|exact ai.fg|refine eM ?_ ?_|refine eF ?_ ?_ ?_|refine eN ?_|refine eL ?_ ?_ ?_|refine eA ?_ ?_|refine ap.mk ⟨_,hp,rfl⟩ ?_ ?_)|refine ap.mk ⟨_,hp,rfl⟩ ?_ ?_)
      all_goals try first|with_reducible rfl|omega|exact .inl (by decide)|(simp; done)|rfl
     ·all_goals repeat' (first|exact True.intro|refine And.intro ?_ ?_|(intro _u; clear _u)|(with_reducible first|exact ai.fg|refine eM ?_ ?_|refine eF ?_ ?_ ?_|refine eN ?_|refine eL ?_ ?_ ?_|refine eA ?_ ?_|refine ap.mk ⟨_,hp,rfl⟩ ?_ ?_)|refine ap.mk ⟨_,hp,rfl⟩ ?_ ?_)
      all_goals try first|with_reducible rfl|omega|exact .inl (by decide)|(simp; done)|rfl
      simp[bA,w8]
     ·intro i hi
      dsimp only
      refine sh ?_
      refine cS (fun h4=> ?_) (fun h4=> ?_)
      ·obtain⟨x,hx⟩:∃u_,a.mt.four[i]? =some u_:=⟨_,List.getElem?_eq_getElem (by first|omega|(simp<;>omega))⟩
       refine sh ?_
       refine aa hx ?_
       have bZ:0≤x∧x≤65535:=by
        have:=List.mem_of_getElem? hx
        simp only[jj.four,List.mem_cons,List.not_mem_nil,or_false]at this
        rcases this with e|e|e|e<;>subst e<;>omega
       refine sh ?_
       refine cM true [] (P4 h.ID ([u8 a.mt.k]++(a.mt.four.take i).flatMap (enc 2)) x (by simp only[List.length_append,Bf,List.length_take]; simp; omega) bZ) ?_
       repeat (intro _; first|refine eK ?_|refine eP ?_)
       refine sh ?_
       refine QR [0,1,4] (i+1) ?_ ?_ ?_
       ·omega
       ·omega
       ·all_goals repeat' (first|exact True.intro|refine And.intro ?_ ?_|(intro _u; clear _u)|(with_reducible first|exact ai.fg|refine eM ?_ ?_|refine eF ?_ ?_ ?_|refine eN ?_|refine eL ?_ ?_ ?_|refine eA ?_ ?_|refine ap.mk ⟨_,hp,rfl⟩ ?_ ?_)|refine ap.mk ⟨_,hp,rfl⟩ ?_ ?_)
        all_goals try first|with_reducible rfl|omega|exact .inl (by decide)|(simp; done)|rfl
        rw[cr hx]; simp
        rw[cr hx]; simp
      ·rw[show a.mt.four.take i=a.mt.four from List.take_of_length_le (by simp; omega)]
       refine sh ?_
       exact rT
    ·rw[gl,if_neg h1,if_neg h2,if_neg h3]at hq
     subst hq
     have h4:a.k=4:=by
      by_cases h4:a.k=4
      ·exact h4
      ·rw[if_neg h3,if_neg h4]at ok; cases ok
     rw[if_neg h3,if_pos h4]at ok
     have may:=tJ ok
     have mk:=may.k
     have mc:=may.c
     have w8:((u8 a.li.k).toNat:Int)=a.li.k:=u8_in (by omega)
     have c1:=P5 h.ID [u8 a.li.k] a.li.c.a a.li.c.b a.li.c.c (by simp) mc
     rw[show bA [u8 a.li.k]=[[.int .u8 a.li.k]] by simp[bA,w8]]at c1
     refine sh ?_
     refine cM true [] (c1) ?_
     repeat (intro _; first|refine eK ?_|refine eP ?_)
     refine sh ?_
     refine gW 100 (fun i:Nat=>i≤3) (fun i=>⟨[(12,.bc 4 ([u8 a.li.k]++(enc 4 a.li.c.a++enc 4 a.li.c.b++enc 4 a.li.c.c)++(a.li.three.take i).flatMap fc).length),(100,.aJ 3 (bJ a.li.three)),(101,.int .i64 3),(102,.int .i64 i)],[(4,.arr (R.ty 4) 1 (bA ([u8 a.li.k]++(enc 4 a.li.c.a++enc 4 a.li.c.b++enc 4 a.li.c.c)++(a.li.three.take i).flatMap fc)))],5⟩) (fun i=>3 - i) (0) ?_ ?_
     ·exact Nat.zero_le _
     ·intro i hi
      dsimp only
      refine sh ?_
      refine cS (fun h5=> ?_) (fun h5=> ?_)
      ·obtain⟨x,hx⟩:∃u_,a.li.three[i]? =some u_:=⟨_,List.getElem?_eq_getElem (by first|omega|(simp<;>omega))⟩
       refine sh ?_
       refine aa hx ?_
       have bZ: -4096≤x.a∧x.a≤4096∧ -4096≤x.b∧x.b≤4096∧ -4096≤x.c∧x.c≤4096:=by
        have:=List.mem_of_getElem? hx
        simp only[je.three,List.mem_cons,List.not_mem_nil,or_false]at this
        rcases this with e|e|e<;>subst e
        ·exact may.p
        ·exact may.u
        ·exact may.v
       refine sh ?_
       refine cM true [] (P6 h.QU ([u8 a.li.k]++(enc 4 a.li.c.a++enc 4 a.li.c.b++enc 4 a.li.c.c)++(a.li.three.take i).flatMap fc) x (by simp only[List.length_append,zf,List.length_take]; simp; omega) bZ) ?_
       repeat (intro _; first|refine eK ?_|refine eP ?_)
       refine sh ?_
       refine QR [0,1,2,3,7] (i+1) ?_ ?_ ?_
       ·omega
       ·omega
       ·all_goals repeat' (first|exact True.intro|refine And.intro ?_ ?_|(intro _u; clear _u)|(with_reducible first|exact ai.fg|refine eM ?_ ?_|refine eF ?_ ?_ ?_|refine eN ?_|refine eL ?_ ?_ ?_|refine eA ?_ ?_|refine ap.mk ⟨_,hp,rfl⟩ ?_ ?_)|refine ap.mk ⟨_,hp,rfl⟩ ?_ ?_)
        all_goals try first|with_reducible rfl|omega|exact .inl (by decide)|(simp; done)|rfl
        rw[cr hx]; simp
        rw[cr hx]; simp
      ·rw[show a.li.three.take i=a.li.three from List.take_of_length_le (by simp; omega)]
       refine sh ?_
       exact rT
theorem xB {R:Env} (h:Vh R) (b:List UInt8) (x:Int) (hl:b.length≤1000) (hx:0≤x∧x≤1048576):
  R.Mc 55 [.aJ 1 (bA b),.int .i64 4,.aJ 1 (bB .u64 [x])] [] (.aP [.bc 0 (b++enc 4 x).length,.int .i64 0]) [(0,.arr (R.ty 4) 1 (bA (b++enc 4 x)))] 1:=by
 have c:=Hk h b 4 [x] (by simp; omega) (by simp; omega)
 rw[xz (by decide) (by decide) (by simp; omega)]at c
 simpa using c
theorem Ci {v:Int} (hv:0≤v∧v≤65535):enc 2 v=[u8 (v % 256),u8 (v / 256)]:=by
 unfold enc
 simp[List.range_succ,A0]
theorem rI {R:Env} (h:Pp R) (a:As) (hl:a.x.t.length≤1073741824) (ok:own a=0):R.Pc 314 [.agg a.row] (.aJ 1 (bA (gl a))):=
 h.GS.enter 200 rfl fun X bb hfit hp=>by
  generalize hq:gl a=q
  unfold own at ok
  refine sh ?_
  refine cS (fun h1=> ?_) (fun h1=> ?_)
  ·rw[gl,if_pos h1]at hq
   subst hq
   refine sh ?_
   refine ae.pure h.n197.Vn.hb (Bc h.n197 a.m) rfl ?_
   refine sh ?_
   exact rT
  ·rw[if_neg h1]at ok
   refine sh ?_
   refine cS (fun h2=> ?_) (fun h2=> ?_)
   ·rw[gl,if_neg h1,if_pos h2]at hq
    subst hq
    refine sh ?_
    refine ae.pure h.XV.o83.hb (Be h.XV a.x hl) rfl ?_
    refine sh ?_
    exact rT
   ·rw[if_neg h2]at ok
    refine sh ?_
    refine cS (fun h3=> ?_) (fun h3=> ?_)
    ·rw[gl,if_neg h1,if_neg h2,if_pos h3]at hq
     subst hq
     rw[if_pos h3]at ok
     have may:=tK ok
     have w8:((u8 a.mt.k).toNat:Int)=a.mt.k:=u8_in (by omega)
     refine sh ?_
     refine aq.inv 100 (fun i:Nat=>i≤4) (fun i=>⟨[(8,.bc 2 ([u8 a.mt.k]++(a.mt.four.take i).flatMap (enc 2)).length),(9,.aJ 1 (bB .i64 a.mt.four)),(10,.int .i64 i)],[(2,.arr (R.ty 4) 1 (bA ([u8 a.mt.k]++(a.mt.four.take i).flatMap (enc 2))))],3⟩) (fun i=>4 - i) (0) ?_ ⟨⟨_,hp,rfl⟩,?_,?_⟩ ?_
     ·exact Nat.zero_le _
     ·all_goals repeat' (first|exact True.intro|refine And.intro ?_ ?_|(intro _u; clear _u)|(with_reducible first|exact ai.fg|refine eM ?_ ?_|refine eF ?_ ?_ ?_|refine eN ?_|refine eL ?_ ?_ ?_|refine eA ?_ ?_|refine ap.mk ⟨_,hp,rfl⟩ ?_ ?_)|refine ap.mk ⟨_,hp,rfl⟩ ?_ ?_)
      all_goals try first|with_reducible rfl|omega|exact .inl (by decide)|(simp; done)|rfl
     ·all_goals repeat' (first|exact True.intro|refine And.intro ?_ ?_|(intro _u; clear _u)|(with_reducible first|exact ai.fg|refine eM ?_ ?_|refine eF ?_ ?_ ?_|refine eN ?_|refine eL ?_ ?_ ?_|refine eA ?_ ?_|refine ap.mk ⟨_,hp,rfl⟩ ?_ ?_)|refine ap.mk ⟨_,hp,rfl⟩ ?_ ?_)
      all_goals try first|with_reducible rfl|omega|exact .inl (by decide)|(simp; done)|rfl
      simp[bA,w8]
     ·intro i hi
      dsimp only
      refine sh ?_
      refine cS (fun h4=> ?_) (fun h4=> ?_)
      ·obtain⟨x,hx⟩:∃u,a.mt.four[i]? =some u:=⟨_,List.getElem?_eq_getElem (by simp; omega)⟩
       have bZ:0≤x∧x≤65535:=by
        have:=List.mem_of_getElem? hx
        simp only[jj.four,List.mem_cons,List.not_mem_nil,or_false]at this
        rcases this with e|e|e|e<;>subst e<;>omega
       refine sh ?_
       refine aa hx ?_
       refine sh ?_
       rw[Int.tmod_eq_emod_of_nonneg (by omega)]
       refine wI ?_
       refine sh ?_
       refine aa hx ?_
       refine sh ?_
       rw[Int.tdiv_eq_ediv_of_nonneg (by omega)]
       refine wI ?_
       refine sh ?_
       refine nD ?_ (by simp only[fM,List.length_append,Bf,List.length_take]; simp; omega)
       refine sh ?_
       refine nX (i+1) ?_ ?_ ⟨_,hp,rfl⟩ ?_ ?_
       ·omega
       ·omega
       ·all_goals repeat' (first|exact True.intro|refine And.intro ?_ ?_|(intro _u; clear _u)|(with_reducible first|exact ai.fg|refine eM ?_ ?_|refine eF ?_ ?_ ?_|refine eN ?_|refine eL ?_ ?_ ?_|refine eA ?_ ?_|refine ap.mk ⟨_,hp,rfl⟩ ?_ ?_)|refine ap.mk ⟨_,hp,rfl⟩ ?_ ?_)
        all_goals try first|with_reducible rfl|omega|exact .inl (by decide)|(simp; done)|rfl
        rw[cr hx,Ci bZ]; simp
       ·all_goals repeat' (first|exact True.intro|refine And.intro ?_ ?_|(intro _u; clear _u)|(with_reducible first|exact ai.fg|refine eM ?_ ?_|refine eF ?_ ?_ ?_|refine eN ?_|refine eL ?_ ?_ ?_|refine eA ?_ ?_|refine ap.mk ⟨_,hp,rfl⟩ ?_ ?_)|refine ap.mk ⟨_,hp,rfl⟩ ?_ ?_)
        all_goals try first|with_reducible rfl|omega|exact .inl (by decide)|(simp; done)|rfl
        rw[cr hx,Ci bZ]; simp[bA]
        refine⟨(u8_in ?_).symm,(u8_in ?_).symm⟩<;>omega
      ·rw[show a.mt.four.take i=a.mt.four from List.take_of_length_le (by simp; omega)]
       refine sh ?_
       exact rT
    ·rw[gl,if_neg h1,if_neg h2,if_neg h3]at hq
     subst hq
     have h4:a.k=4:=by
      by_cases h4:a.k=4
      ·exact h4
      ·rw[if_neg h3,if_neg h4]at ok; cases ok
     rw[if_neg h3,if_pos h4]at ok
     have may:=tJ ok
     have mk:=may.k
     have mc:=may.c
     have w8:((u8 a.li.k).toNat:Int)=a.li.k:=u8_in (by omega)
     have c1:=xB h.LZ [u8 a.li.k] a.li.c.a (by simp) (by omega)
     rw[show bA [u8 a.li.k]=[[.int .u8 a.li.k]] by simp[bA,w8]]at c1
     refine sh ?_
     refine aq.one 100 ?_
     refine sh ?_
     refine af (by decide) ?_
     refine sh ?_
     refine cM true [] (c1) ?_
     repeat (intro _; first|refine eK ?_|refine eP ?_)
     refine sh ?_
     refine aq.one 100 ?_
     refine sh ?_
     refine af (by decide) ?_
     refine sh ?_
     refine cM true [] (xB h.LZ ([u8 a.li.k]++enc 4 a.li.c.a) a.li.c.b (by simp) (by omega)) ?_
     repeat (intro _; first|refine eK ?_|refine eP ?_)
     refine sh ?_
     refine aq.one 100 ?_
     refine sh ?_
     refine af (by decide) ?_
     refine sh ?_
     refine cM true [] (xB h.LZ ([u8 a.li.k]++enc 4 a.li.c.a++enc 4 a.li.c.b) a.li.c.c (by simp) (by omega)) ?_
     repeat (intro _; first|refine eK ?_|refine eP ?_)
     refine sh ?_
     refine aq.one 100 ?_
     refine sh ?_
     refine aj (by decide) ?_
     refine sh ?_
     refine cM true [] (pe h.n212 ([u8 a.li.k]++enc 4 a.li.c.a++enc 4 a.li.c.b++enc 4 a.li.c.c) a.li.p (by simp) may.p) ?_
     repeat (intro _; first|refine eK ?_|refine eP ?_)
     refine sh ?_
     refine cM true [] (pe h.n212 ([u8 a.li.k]++enc 4 a.li.c.a++enc 4 a.li.c.b++enc 4 a.li.c.c++fc a.li.p) a.li.u (by simp) may.u) ?_
     repeat (intro _; first|refine eK ?_|refine eP ?_)
     refine sh ?_
     refine cM true [] (pe h.n212 ([u8 a.li.k]++enc 4 a.li.c.a++enc 4 a.li.c.b++enc 4 a.li.c.c++fc a.li.p++fc a.li.u) a.li.v (by simp) may.v) ?_
     repeat (intro _; first|refine eK ?_|refine eP ?_)
     refine sh ?_
     exact rT
end Go.UM
namespace Go.UM
open Go.AM
structure Mf where
 (id kind label m0 m1 m2 m3 m4 m5 m6 m7 first last size chunks:Int)
def Mf.row (m:Mf):List AV:=[.int .u64 m.id,.int .i64 m.kind,.int .u32 m.label,.int .u8 m.m0,.int .u8 m.m1,.int .u8 m.m2,.int .u8 m.m3,.int .u8 m.m4,.int .u8 m.m5,.int .u8 m.m6,.int .u8 m.m7,
 .int .u32 m.first,.int .u32 m.last,.int .i64 m.size,.int .i64 m.chunks]
def Mf.lC (m:Mf):Nat→Int
 |0=>m.m0|1=>m.m1|2=>m.m2|3=>m.m3|4=>m.m4|5=>m.m5|6=>m.m6|7=>m.m7|_=>0
structure Mf.Ok (m:Mf):Prop where
 id:bg .u64 m.id
 kind:bg .i64 m.kind
 label:bg .u32 m.label
 lC:∀i,0≤m.lC i∧m.lC i≤255
 first:bg .u32 m.first
 last:bg .u32 m.last
 size:bg .i64 m.size
 chunks:bg .i64 m.chunks
end Go.UM
namespace Go.UM
open Go.AM
set_option maxRecDepth 4000
structure Rw where
 h:Int
 f:Mf
 a:As
def Rw.row (r:Rw):List AV:=[.int .i64 r.h,.int .u64 r.f.id,.int .i64 r.f.kind,.int .u32 r.f.label,.int .u8 r.f.m0,.int .u8 r.f.m1,.int .u8 r.f.m2,.int .u8 r.f.m3,.int .u8 r.f.m4,.int .u8 r.f.m5,.int .u8 r.f.m6,.int .u8 r.f.m7,
 .int .u32 r.f.first,.int .u32 r.f.last,.int .i64 r.f.size,.int .i64 r.f.chunks,.int .i64 r.a.k,.aJ 3 (bJ r.a.m.v),.aJ 2 (cV r.a.m.uv),.aJ 3 (bJ r.a.m.t),.int .i64 r.a.x.side,.aJ 3 (bJ r.a.x.t),
 .int .i64 r.a.mt.k,.int .i64 r.a.mt.c.a,.int .i64 r.a.mt.c.b,.int .i64 r.a.mt.c.c,.int .i64 r.a.mt.r,
 .int .i64 r.a.li.k,.int .i64 r.a.li.c.a,.int .i64 r.a.li.c.b,.int .i64 r.a.li.c.c,.int .i64 r.a.li.p.a,.int .i64 r.a.li.p.b,.int .i64 r.a.li.p.c,.int .i64 r.a.li.u.a,.int .i64 r.a.li.u.b,.int .i64 r.a.li.u.c,.int .i64 r.a.li.v.a,.int .i64 r.a.li.v.b,.int .i64 r.a.li.v.c]
def iz (l:List Rw):List (List AV):=l.map Rw.row
@[simp] theorem nY (l:List Rw):(iz l).length=l.length:=by simp[iz]
@[simp] theorem P7 (a b:List Rw):iz (a++b)=iz a++iz b:=by simp[iz]
@[simp] theorem XY (l:List Rw):mz (iz l):=by simp[iz,Rw.row]
instance {l:List Rw}:iu (iz l) l.length:=⟨nY l⟩
end Go.UM
namespace Go.UM
open Go.AM
set_option maxRecDepth 4000
deriving instance DecidableEq for T3
deriving instance DecidableEq for jj
deriving instance DecidableEq for je
theorem T3.eq_iff {x y:T3}:(x.a==y.a&&(x.b==y.b&&x.c==y.c))=true↔x=y:=by
 cases x; cases y; simp
theorem T3.ne_iff {x y:T3}:(x.a==y.a&&(x.b==y.b&&x.c==y.c))=false↔x≠y:=by
 rw[←Bool.not_eq_true,T3.eq_iff]
theorem P2.eq_iff {x y:Int × Int}:(x.1==y.1&&x.2==y.2)=true↔x=y:=by
 cases x; cases y; simp
theorem P2.ne_iff {x y:Int × Int}:(x.1==y.1&&x.2==y.2)=false↔x≠y:=by
 rw[←Bool.not_eq_true,P2.eq_iff]
theorem Ho {α:Type} {l l':List α} {i:Nat} {x y:α} (h:l[i]? =some x) (h':l'[i]? =some y) (hn:x≠y):l≠l':=by
 intro e; subst e; rw[h]at h'; exact hn (Option.some.inj h')
theorem kZ {α:Type} {l l':List α} {i:Nat} {x:α} (h:l[i]? =some x) (h':l'[i]? =some x) (e:l.take i=l'.take i):l.take (i+1)=l'.take (i+1):=by
 rw[ay h,ay h',e]
theorem nZ {α:Type} {l l':List α} {i:Nat} (h:l.take i=l'.take i) (hi:l.length≤i) (e:l.length=l'.length):l=l':=by
 rwa[List.take_of_length_le hi,List.take_of_length_le (by omega)]at h
theorem Hp {R:Env} (h:Ou R) (l l':List T3) (hl:l.length≤1073741824):R.Pc 315 [.aJ 3 (bJ l),.aJ 3 (bJ l')] (.bool (decide (l=l'))):=
 h.Ue.enter 100 rfl fun X bb hfit hp=>by
  refine sh ?_
  refine cS (fun h1=> ?_) (fun h1=> ?_)
  ·refine sh ?_
   refine rT ?_
   all_goals repeat' (first|exact True.intro|refine And.intro ?_ ?_|(intro _u; clear _u)|(with_reducible first|exact ai.fg|refine eM ?_ ?_|refine eF ?_ ?_ ?_|refine eN ?_|refine eL ?_ ?_ ?_|refine eA ?_ ?_|refine ap.mk ⟨_,hp,rfl⟩ ?_ ?_)|refine ap.mk ⟨_,hp,rfl⟩ ?_ ?_)
   all_goals try first|with_reducible rfl|omega|exact .inl (by decide)|(simp; done)|rfl
   refine (decide_eq_false ?_).symm
   exact fun e=>h1 (by simp[e])
  ·refine sh ?_
   refine gW 100 (fun i:Nat=>i≤l.length∧l.take i=l'.take i) (fun i=>⟨[(0,.aJ 3 (bJ l)),(1,.aJ 3 (bJ l')),(12,.int .i64 l.length),(13,.int .i64 i)],[],0⟩) (fun i=>l.length - i) (0) ?_ ?_
   ·exact⟨Nat.zero_le _,rfl⟩
   ·intro i hi
    dsimp only
    refine sh ?_
    refine cS (fun h2=> ?_) (fun h2=> ?_)
    ·obtain⟨x,hx⟩:∃u,l[i]? =some u:=⟨_,List.getElem?_eq_getElem (by omega)⟩
     obtain⟨y,hy⟩:∃u,l'[i]? =some u:=⟨_,List.getElem?_eq_getElem (by omega)⟩
     refine sh ?_
     refine aa hx ?_
     refine sh ?_
     refine aa hy ?_
     refine sh ?_
     refine cS (fun h3=> ?_) (fun h3=> ?_)
     ·refine sh ?_
      refine rT ?_
      all_goals repeat' (first|exact True.intro|refine And.intro ?_ ?_|(intro _u; clear _u)|(with_reducible first|exact ai.fg|refine eM ?_ ?_|refine eF ?_ ?_ ?_|refine eN ?_|refine eL ?_ ?_ ?_|refine eA ?_ ?_|refine ap.mk ⟨_,hp,rfl⟩ ?_ ?_)|refine ap.mk ⟨_,hp,rfl⟩ ?_ ?_)
      all_goals try first|with_reducible rfl|omega|exact .inl (by decide)|(simp; done)|rfl
      refine (decide_eq_false ?_).symm
      exact Ho hx hy (T3.ne_iff.1 h3)
     ·have e:=T3.eq_iff.1 h3
      subst e
      refine sh ?_
      refine lz (i+1) ?_ ?_
      ·exact⟨by omega,kZ hx hy hi.2⟩
      ·omega
    ·refine sh ?_
     refine rT ?_
     all_goals repeat' (first|exact True.intro|refine And.intro ?_ ?_|(intro _u; clear _u)|(with_reducible first|exact ai.fg|refine eM ?_ ?_|refine eF ?_ ?_ ?_|refine eN ?_|refine eL ?_ ?_ ?_|refine eA ?_ ?_|refine ap.mk ⟨_,hp,rfl⟩ ?_ ?_)|refine ap.mk ⟨_,hp,rfl⟩ ?_ ?_)
     all_goals try first|with_reducible rfl|omega|exact .inl (by decide)|(simp; done)|rfl
     refine (decide_eq_true ?_).symm
     exact nZ hi.2 (by omega) (by omega)
theorem zi {R:Env} (h:Ow R) (l l':List T3) (hl:l.length≤1073741824):R.Pc 317 [.aJ 3 (bJ l),.aJ 3 (bJ l')] (.bool (decide (l=l'))):=
 h.Ox.enter 100 rfl fun X bb hfit hp=>by
  refine sh ?_
  refine cS (fun h1=> ?_) (fun h1=> ?_)
  ·refine sh ?_
   refine rT ?_
   all_goals repeat' (first|exact True.intro|refine And.intro ?_ ?_|(intro _u; clear _u)|(with_reducible first|exact ai.fg|refine eM ?_ ?_|refine eF ?_ ?_ ?_|refine eN ?_|refine eL ?_ ?_ ?_|refine eA ?_ ?_|refine ap.mk ⟨_,hp,rfl⟩ ?_ ?_)|refine ap.mk ⟨_,hp,rfl⟩ ?_ ?_)
   all_goals try first|with_reducible rfl|omega|exact .inl (by decide)|(simp; done)|rfl
   refine (decide_eq_false ?_).symm
   exact fun e=>h1 (by simp[e])
  ·refine sh ?_
   refine gW 100 (fun i:Nat=>i≤l.length∧l.take i=l'.take i) (fun i=>⟨[(0,.aJ 3 (bJ l)),(1,.aJ 3 (bJ l')),(12,.int .i64 l.length),(13,.int .i64 i)],[],0⟩) (fun i=>l.length - i) (0) ?_ ?_
   ·exact⟨Nat.zero_le _,rfl⟩
   ·intro i hi
    dsimp only
    refine sh ?_
    refine cS (fun h2=> ?_) (fun h2=> ?_)
    ·obtain⟨x,hx⟩:∃u,l[i]? =some u:=⟨_,List.getElem?_eq_getElem (by omega)⟩
     obtain⟨y,hy⟩:∃u,l'[i]? =some u:=⟨_,List.getElem?_eq_getElem (by omega)⟩
     refine sh ?_
     refine aa hx ?_
     refine sh ?_
     refine aa hy ?_
     refine sh ?_
     refine cS (fun h3=> ?_) (fun h3=> ?_)
     ·refine sh ?_
      refine rT ?_
      all_goals repeat' (first|exact True.intro|refine And.intro ?_ ?_|(intro _u; clear _u)|(with_reducible first|exact ai.fg|refine eM ?_ ?_|refine eF ?_ ?_ ?_|refine eN ?_|refine eL ?_ ?_ ?_|refine eA ?_ ?_|refine ap.mk ⟨_,hp,rfl⟩ ?_ ?_)|refine ap.mk ⟨_,hp,rfl⟩ ?_ ?_)
      all_goals try first|with_reducible rfl|omega|exact .inl (by decide)|(simp; done)|rfl
      refine (decide_eq_false ?_).symm
      exact Ho hx hy (T3.ne_iff.1 h3)
     ·have e:=T3.eq_iff.1 h3
      subst e
      refine sh ?_
      refine lz (i+1) ?_ ?_
      ·exact⟨by omega,kZ hx hy hi.2⟩
      ·omega
    ·refine sh ?_
     refine rT ?_
     all_goals repeat' (first|exact True.intro|refine And.intro ?_ ?_|(intro _u; clear _u)|(with_reducible first|exact ai.fg|refine eM ?_ ?_|refine eF ?_ ?_ ?_|refine eN ?_|refine eL ?_ ?_ ?_|refine eA ?_ ?_|refine ap.mk ⟨_,hp,rfl⟩ ?_ ?_)|refine ap.mk ⟨_,hp,rfl⟩ ?_ ?_)
     all_goals try first|with_reducible rfl|omega|exact .inl (by decide)|(simp; done)|rfl
     refine (decide_eq_true ?_).symm
     exact nZ hi.2 (by omega) (by omega)
theorem Hq {R:Env} (h:Ov R) (l l':List (Int × Int)) (hl:l.length≤1073741824):R.Pc 316 [.aJ 2 (cV l),.aJ 2 (cV l')] (.bool (decide (l=l'))):=
 h.Ug.enter 100 rfl fun X bb hfit hp=>by
  refine sh ?_
  refine cS (fun h1=> ?_) (fun h1=> ?_)
  ·refine sh ?_
   refine rT ?_
   all_goals repeat' (first|exact True.intro|refine And.intro ?_ ?_|(intro _u; clear _u)|(with_reducible first|exact ai.fg|refine eM ?_ ?_|refine eF ?_ ?_ ?_|refine eN ?_|refine eL ?_ ?_ ?_|refine eA ?_ ?_|refine ap.mk ⟨_,hp,rfl⟩ ?_ ?_)|refine ap.mk ⟨_,hp,rfl⟩ ?_ ?_)
   all_goals try first|with_reducible rfl|omega|exact .inl (by decide)|(simp; done)|rfl
   refine (decide_eq_false ?_).symm
   exact fun e=>h1 (by simp[e])
  ·refine sh ?_
   refine gW 100 (fun i:Nat=>i≤l.length∧l.take i=l'.take i) (fun i=>⟨[(0,.aJ 2 (cV l)),(1,.aJ 2 (cV l')),(12,.int .i64 l.length),(13,.int .i64 i)],[],0⟩) (fun i=>l.length - i) (0) ?_ ?_
   ·exact⟨Nat.zero_le _,rfl⟩
   ·intro i hi
    dsimp only
    refine sh ?_
    refine cS (fun h2=> ?_) (fun h2=> ?_)
    ·obtain⟨x,hx⟩:∃u,l[i]? =some u:=⟨_,List.getElem?_eq_getElem (by omega)⟩
     obtain⟨y,hy⟩:∃u,l'[i]? =some u:=⟨_,List.getElem?_eq_getElem (by omega)⟩
     refine sh ?_
     refine aa hx ?_
     refine sh ?_
     refine aa hy ?_
     refine sh ?_
     refine cS (fun h3=> ?_) (fun h3=> ?_)
     ·refine sh ?_
      refine rT ?_
      all_goals repeat' (first|exact True.intro|refine And.intro ?_ ?_|(intro _u; clear _u)|(with_reducible first|exact ai.fg|refine eM ?_ ?_|refine eF ?_ ?_ ?_|refine eN ?_|refine eL ?_ ?_ ?_|refine eA ?_ ?_|refine ap.mk ⟨_,hp,rfl⟩ ?_ ?_)|refine ap.mk ⟨_,hp,rfl⟩ ?_ ?_)
      all_goals try first|with_reducible rfl|omega|exact .inl (by decide)|(simp; done)|rfl
      refine (decide_eq_false ?_).symm
      exact Ho hx hy (P2.ne_iff.1 h3)
     ·have e:=P2.eq_iff.1 h3
      subst e
      refine sh ?_
      refine lz (i+1) ?_ ?_
      ·exact⟨by omega,kZ hx hy hi.2⟩
      ·omega
    ·refine sh ?_
     refine rT ?_
     all_goals repeat' (first|exact True.intro|refine And.intro ?_ ?_|(intro _u; clear _u)|(with_reducible first|exact ai.fg|refine eM ?_ ?_|refine eF ?_ ?_ ?_|refine eN ?_|refine eL ?_ ?_ ?_|refine eA ?_ ?_|refine ap.mk ⟨_,hp,rfl⟩ ?_ ?_)|refine ap.mk ⟨_,hp,rfl⟩ ?_ ?_)
     all_goals try first|with_reducible rfl|omega|exact .inl (by decide)|(simp; done)|rfl
     refine (decide_eq_true ?_).symm
     exact nZ hi.2 (by omega) (by omega)
theorem jj.eq_iff {x y:jj}:(x.k==y.k&&(x.c.a==y.c.a&&(x.c.b==y.c.b&&(x.c.c==y.c.c&&x.r==y.r))))=true↔x=y:=by
 obtain⟨_,⟨_,_,_⟩,_⟩:=x; obtain⟨_,⟨_,_,_⟩,_⟩:=y; simp[and_assoc]
theorem jj.ne_iff {x y:jj}:(x.k==y.k&&(x.c.a==y.c.a&&(x.c.b==y.c.b&&(x.c.c==y.c.c&&x.r==y.r))))=false↔x≠y:=by
 rw[←Bool.not_eq_true,jj.eq_iff]
theorem je.eq_iff {x y:je}:(x.k==y.k&&(x.c.a==y.c.a&&(x.c.b==y.c.b&&(x.c.c==y.c.c&&(x.p.a==y.p.a&&(x.p.b==y.p.b&&(x.p.c==y.p.c&&(x.u.a==y.u.a&&(x.u.b==y.u.b&&(x.u.c==y.u.c&&(x.v.a==y.v.a&&(x.v.b==y.v.b&&x.v.c==y.v.c))))))))))))=true↔x=y:=by
 obtain⟨_,⟨_,_,_⟩,⟨_,_,_⟩,⟨_,_,_⟩,⟨_,_,_⟩⟩:=x; obtain⟨_,⟨_,_,_⟩,⟨_,_,_⟩,⟨_,_,_⟩,⟨_,_,_⟩⟩:=y; simp[and_assoc]
theorem je.ne_iff {x y:je}:(x.k==y.k&&(x.c.a==y.c.a&&(x.c.b==y.c.b&&(x.c.c==y.c.c&&(x.p.a==y.p.a&&(x.p.b==y.p.b&&(x.p.c==y.p.c&&(x.u.a==y.u.a&&(x.u.b==y.u.b&&(x.u.c==y.u.c&&(x.v.a==y.v.a&&(x.v.b==y.v.b&&x.v.c==y.v.c))))))))))))=false↔x≠y:=by
 rw[←Bool.not_eq_true,je.eq_iff]
structure As.Bg (a:As):Prop where
 v:a.m.v.length≤1000
 uv:a.m.uv.length≤1000
 t:a.m.t.length≤1000
 x:a.x.t.length≤1000
def dt (a b:As):Bool:=decide (a.k=b.k∧a.mt=b.mt∧a.li=b.li∧a.x.side=b.x.side∧a.m.v=b.m.v∧a.m.uv=b.m.uv∧a.m.t=b.m.t∧a.x.t=b.x.t)
theorem P8 {R:Env} (h:Oy R) (a b:As) (f:a.Bg):R.Pc 298 [.agg a.row,.agg b.row] (.bool (dt a b)):=
 h.Uj.enter 100 rfl fun X bb hfit hp=>by
  refine sh ?_
  refine cS (fun h1=> ?_) (fun h1=> ?_)
  ·refine sh ?_
   refine rT ?_
   all_goals repeat' (first|exact True.intro|refine And.intro ?_ ?_|(intro _u; clear _u)|(with_reducible first|exact ai.fg|refine eM ?_ ?_|refine eF ?_ ?_ ?_|refine eN ?_|refine eL ?_ ?_ ?_|refine eA ?_ ?_|refine ap.mk ⟨_,hp,rfl⟩ ?_ ?_)|refine ap.mk ⟨_,hp,rfl⟩ ?_ ?_)
   all_goals try first|with_reducible rfl|omega|exact .inl (by decide)|(simp; done)|rfl
   exact (decide_eq_false fun e=>h1 e.1).symm
  ·refine sh ?_
   refine cS (fun h2=> ?_) (fun h2=> ?_)
   ·refine sh ?_
    refine rT ?_
    all_goals repeat' (first|exact True.intro|refine And.intro ?_ ?_|(intro _u; clear _u)|(with_reducible first|exact ai.fg|refine eM ?_ ?_|refine eF ?_ ?_ ?_|refine eN ?_|refine eL ?_ ?_ ?_|refine eA ?_ ?_|refine ap.mk ⟨_,hp,rfl⟩ ?_ ?_)|refine ap.mk ⟨_,hp,rfl⟩ ?_ ?_)
    all_goals try first|with_reducible rfl|omega|exact .inl (by decide)|(simp; done)|rfl
    exact (decide_eq_false fun e=>jj.ne_iff.1 h2 e.2.1).symm
   ·refine sh ?_
    refine cS (fun h3=> ?_) (fun h3=> ?_)
    ·refine sh ?_
     refine rT ?_
     all_goals repeat' (first|exact True.intro|refine And.intro ?_ ?_|(intro _u; clear _u)|(with_reducible first|exact ai.fg|refine eM ?_ ?_|refine eF ?_ ?_ ?_|refine eN ?_|refine eL ?_ ?_ ?_|refine eA ?_ ?_|refine ap.mk ⟨_,hp,rfl⟩ ?_ ?_)|refine ap.mk ⟨_,hp,rfl⟩ ?_ ?_)
     all_goals try first|with_reducible rfl|omega|exact .inl (by decide)|(simp; done)|rfl
     exact (decide_eq_false fun e=>je.ne_iff.1 h3 e.2.2.1).symm
    ·refine sh ?_
     refine cS (fun h4=> ?_) (fun h4=> ?_)
     ·refine sh ?_
      refine rT ?_
      all_goals repeat' (first|exact True.intro|refine And.intro ?_ ?_|(intro _u; clear _u)|(with_reducible first|exact ai.fg|refine eM ?_ ?_|refine eF ?_ ?_ ?_|refine eN ?_|refine eL ?_ ?_ ?_|refine eA ?_ ?_|refine ap.mk ⟨_,hp,rfl⟩ ?_ ?_)|refine ap.mk ⟨_,hp,rfl⟩ ?_ ?_)
      all_goals try first|with_reducible rfl|omega|exact .inl (by decide)|(simp; done)|rfl
      exact (decide_eq_false fun e=>h4 e.2.2.2.1).symm
     ·refine sh ?_
      refine ae.pure h.n315.Ue.hb (Hp h.n315 a.m.v b.m.v (by have:=f.v; omega)) rfl ?_
      refine sh ?_
      refine cS (fun h5=> ?_) (fun h5=> ?_)
      ·refine sh ?_
       refine ae.pure h.n316.Ug.hb (Hq h.n316 a.m.uv b.m.uv (by have:=f.uv; omega)) rfl ?_
       refine sh ?_
       refine cS (fun h6=> ?_) (fun h6=> ?_)
       ·refine sh ?_
        refine ae.pure h.n317.Ox.hb (zi h.n317 a.m.t b.m.t (by have:=f.t; omega)) rfl ?_
        refine sh ?_
        refine cS (fun h7=> ?_) (fun h7=> ?_)
        ·refine sh ?_
         refine ae.pure h.n317.Ox.hb (zi h.n317 a.x.t b.x.t (by have:=f.x; omega)) rfl ?_
         refine sh ?_
         refine rT ?_
         all_goals repeat' (first|exact True.intro|refine And.intro ?_ ?_|(intro _u; clear _u)|(with_reducible first|exact ai.fg|refine eM ?_ ?_|refine eF ?_ ?_ ?_|refine eN ?_|refine eL ?_ ?_ ?_|refine eA ?_ ?_|refine ap.mk ⟨_,hp,rfl⟩ ?_ ?_)|refine ap.mk ⟨_,hp,rfl⟩ ?_ ?_)
         all_goals try first|with_reducible rfl|omega|exact .inl (by decide)|(simp; done)|rfl
         simp[dt,h1,jj.eq_iff.1 h2,je.eq_iff.1 h3,h4,h5,h6,h7]
        ·refine sh ?_
         refine rT ?_
         all_goals repeat' (first|exact True.intro|refine And.intro ?_ ?_|(intro _u; clear _u)|(with_reducible first|exact ai.fg|refine eM ?_ ?_|refine eF ?_ ?_ ?_|refine eN ?_|refine eL ?_ ?_ ?_|refine eA ?_ ?_|refine ap.mk ⟨_,hp,rfl⟩ ?_ ?_)|refine ap.mk ⟨_,hp,rfl⟩ ?_ ?_)
         all_goals try first|with_reducible rfl|omega|exact .inl (by decide)|(simp; done)|rfl
         exact (decide_eq_false fun e=>h7 e.2.2.2.2.2.2.1).symm
       ·refine sh ?_
        refine rT ?_
        all_goals repeat' (first|exact True.intro|refine And.intro ?_ ?_|(intro _u; clear _u)|(with_reducible first|exact ai.fg|refine eM ?_ ?_|refine eF ?_ ?_ ?_|refine eN ?_|refine eL ?_ ?_ ?_|refine eA ?_ ?_|refine ap.mk ⟨_,hp,rfl⟩ ?_ ?_)|refine ap.mk ⟨_,hp,rfl⟩ ?_ ?_)
        all_goals try first|with_reducible rfl|omega|exact .inl (by decide)|(simp; done)|rfl
        exact (decide_eq_false fun e=>h6 e.2.2.2.2.2.1).symm
      ·refine sh ?_
       refine rT ?_
       all_goals repeat' (first|exact True.intro|refine And.intro ?_ ?_|(intro _u; clear _u)|(with_reducible first|exact ai.fg|refine eM ?_ ?_|refine eF ?_ ?_ ?_|refine eN ?_|refine eL ?_ ?_ ?_|refine eA ?_ ?_|refine ap.mk ⟨_,hp,rfl⟩ ?_ ?_)|refine ap.mk ⟨_,hp,rfl⟩ ?_ ?_)
       all_goals try first|with_reducible rfl|omega|exact .inl (by decide)|(simp; done)|rfl
       exact (decide_eq_false fun e=>h5 e.2.2.2.2.1).symm
end Go.UM
namespace Go.UM
open Go.AM
set_option maxRecDepth 4000
def cap (k:Int):Int:=if k=1 then 2048 else if k=2 then 1024 else if k=3∨k=4 then 64 else 0
theorem Wb {R:Env} (h:ZN R) (k:Int):R.Pc 37 [.int .i64 k] (.int .i64 (cap k)):=
 h.o37.enter 60 rfl fun X b hfit hp=>by
  refine sh ?_
  refine cS (fun h1=> ?_) (fun h1=> ?_)
  ·refine sh ?_
   refine rT ?_
   all_goals repeat' (first|exact True.intro|refine And.intro ?_ ?_|(intro _u; clear _u)|(with_reducible first|exact ai.fg|refine eM ?_ ?_|refine eF ?_ ?_ ?_|refine eN ?_|refine eL ?_ ?_ ?_|refine eA ?_ ?_|refine ap.mk ⟨_,hp,rfl⟩ ?_ ?_)|refine ap.mk ⟨_,hp,rfl⟩ ?_ ?_)
   all_goals try first|with_reducible rfl|omega|exact .inl (by decide)|(simp; done)|rfl
   simp[cap]; omega
  ·refine sh ?_
   refine cS (fun h2=> ?_) (fun h2=> ?_)
   ·refine sh ?_
    refine rT ?_
    all_goals repeat' (first|exact True.intro|refine And.intro ?_ ?_|(intro _u; clear _u)|(with_reducible first|exact ai.fg|refine eM ?_ ?_|refine eF ?_ ?_ ?_|refine eN ?_|refine eL ?_ ?_ ?_|refine eA ?_ ?_|refine ap.mk ⟨_,hp,rfl⟩ ?_ ?_)|refine ap.mk ⟨_,hp,rfl⟩ ?_ ?_)
    all_goals try first|with_reducible rfl|omega|exact .inl (by decide)|(simp; done)|rfl
    simp[cap]; omega
   ·refine st ?_
    obtain h3|h3|h3|h3|h3:k=0∨k=1∨k=2∨k=3∨k=4:=by omega
    all_goals subst h3
    ·refine sh ?_
     exact rT
    ·refine sh ?_
     exact rT
    ·refine sh ?_
     exact rT
    ·refine sh ?_
     exact rT
    ·refine sh ?_
     exact rT
theorem xC {R:Env} (h:N38 R) (k:Int):R.Pc 38 [.int .i64 k] (.int .i64 (cap k)):=
 h.Vi.enter 60 rfl fun X b hfit hp=>by
  refine sh ?_
  refine cS (fun h1=> ?_) (fun h1=> ?_)
  ·refine sh ?_
   refine rT ?_
   all_goals repeat' (first|exact True.intro|refine And.intro ?_ ?_|(intro _u; clear _u)|(with_reducible first|exact ai.fg|refine eM ?_ ?_|refine eF ?_ ?_ ?_|refine eN ?_|refine eL ?_ ?_ ?_|refine eA ?_ ?_|refine ap.mk ⟨_,hp,rfl⟩ ?_ ?_)|refine ap.mk ⟨_,hp,rfl⟩ ?_ ?_)
   all_goals try first|with_reducible rfl|omega|exact .inl (by decide)|(simp; done)|rfl
   simp[cap,h1]
  ·refine sh ?_
   refine cS (fun h2=> ?_) (fun h2=> ?_)
   ·refine sh ?_
    refine rT ?_
    all_goals repeat' (first|exact True.intro|refine And.intro ?_ ?_|(intro _u; clear _u)|(with_reducible first|exact ai.fg|refine eM ?_ ?_|refine eF ?_ ?_ ?_|refine eN ?_|refine eL ?_ ?_ ?_|refine eA ?_ ?_|refine ap.mk ⟨_,hp,rfl⟩ ?_ ?_)|refine ap.mk ⟨_,hp,rfl⟩ ?_ ?_)
    all_goals try first|with_reducible rfl|omega|exact .inl (by decide)|(simp; done)|rfl
    simp[cap,h1,h2]
   ·refine sh ?_
    refine cS (fun h3=> ?_) (fun h3=> ?_)
    ·refine sh ?_
     refine rT ?_
     all_goals repeat' (first|exact True.intro|refine And.intro ?_ ?_|(intro _u; clear _u)|(with_reducible first|exact ai.fg|refine eM ?_ ?_|refine eF ?_ ?_ ?_|refine eN ?_|refine eL ?_ ?_ ?_|refine eA ?_ ?_|refine ap.mk ⟨_,hp,rfl⟩ ?_ ?_)|refine ap.mk ⟨_,hp,rfl⟩ ?_ ?_)
     all_goals try first|with_reducible rfl|omega|exact .inl (by decide)|(simp; done)|rfl
     simp[cap,h3]
    ·refine sh ?_
     refine cS (fun h4=> ?_) (fun h4=> ?_)
     ·refine sh ?_
      refine rT ?_
      all_goals repeat' (first|exact True.intro|refine And.intro ?_ ?_|(intro _u; clear _u)|(with_reducible first|exact ai.fg|refine eM ?_ ?_|refine eF ?_ ?_ ?_|refine eN ?_|refine eL ?_ ?_ ?_|refine eA ?_ ?_|refine ap.mk ⟨_,hp,rfl⟩ ?_ ?_)|refine ap.mk ⟨_,hp,rfl⟩ ?_ ?_)
      all_goals try first|with_reducible rfl|omega|exact .inl (by decide)|(simp; done)|rfl
      simp[cap,h4]
     ·refine sh ?_
      refine rT ?_
      all_goals repeat' (first|exact True.intro|refine And.intro ?_ ?_|(intro _u; clear _u)|(with_reducible first|exact ai.fg|refine eM ?_ ?_|refine eF ?_ ?_ ?_|refine eN ?_|refine eL ?_ ?_ ?_|refine eA ?_ ?_|refine ap.mk ⟨_,hp,rfl⟩ ?_ ?_)|refine ap.mk ⟨_,hp,rfl⟩ ?_ ?_)
      all_goals try first|with_reducible rfl|omega|exact .inl (by decide)|(simp; done)|rfl
      simp[cap,h1,h2,h3,h4]
end Go.UM
namespace Go.UM
open Go.AM
set_option maxRecDepth 4000
def p6:Ms:=⟨[],[],[]⟩
def XZ:hG:=⟨0,[]⟩
def p7:jj:=⟨0,z3,0⟩
def l7:je:=⟨0,z3,z3,z3,z3⟩
def As.zero (k:Int):As:=⟨k,p6,XZ,p7,l7⟩
def As.bare (a:As):As:=if a.k=1 then {a with m:=p6} else if a.k=2 then {a with x:=XZ} else if a.k=3 then {a with mt:=p7} else if a.k=4 then {a with li:=l7} else a
def du (a:As):Int:=if own a≠0 then own a else if dt a.bare (As.zero a.k)=false then 5 else if cap a.k< (gl a).length then 9 else 0
theorem Wd {R:Env} (h:Oz R) (a:As) (fx:a.x.t.length≤1000):R.Pc 309 [.agg a.row] (.int .i64 (own a)):=
 h.Ul.enter 100 rfl fun X bb hfit hp=>by
  unfold own
  refine sh ?_
  refine cS (fun h1=> ?_) (fun h1=> ?_)
  ·rw[if_pos h1]
   refine sh ?_
   refine ae.pure h.n193.Ol.hb (y9 h.n193 a.m) rfl ?_
   refine sh ?_
   exact rT
  ·rw[if_neg h1]
   refine sh ?_
   refine cS (fun h2=> ?_) (fun h2=> ?_)
   ·rw[if_pos h2]
    refine sh ?_
    refine ae.pure h.LY.ZP.hb (Hm h.LY a.x (by omega)) rfl ?_
    refine sh ?_
    exact rT
   ·rw[if_neg h2]
    refine sh ?_
    refine cS (fun h3=> ?_) (fun h3=> ?_)
    ·rw[if_pos h3]
     refine sh ?_
     refine ae.pure h.n290.T'.hb (P0 h.n290 a.mt) rfl ?_
     refine sh ?_
     exact rT
    ·rw[if_neg h3]
     refine sh ?_
     refine cS (fun h4=> ?_) (fun h4=> ?_)
     ·rw[if_pos h4]
      refine sh ?_
      refine ae.pure h.n292.Uc.hb (P3 h.n292 a.li) rfl ?_
      refine sh ?_
      exact rT
     ·rw[if_neg h4]
      refine sh ?_
      exact rT
theorem P9 {R:Env} (h:OA R) (a:As):R.Pc 310 [.agg a.row] (.agg a.bare.row):=
 h.Un.enter 100 rfl fun X bb hfit hp=>by
  unfold As.bare
  refine sh ?_
  refine cS (fun h1=> ?_) (fun h1=> ?_)
  ·rw[if_pos h1]
   refine sh ?_
   exact rT
  ·rw[if_neg h1]
   refine sh ?_
   refine cS (fun h2=> ?_) (fun h2=> ?_)
   ·rw[if_pos h2]
    refine sh ?_
    exact rT
   ·rw[if_neg h2]
    refine sh ?_
    refine cS (fun h3=> ?_) (fun h3=> ?_)
    ·rw[if_pos h3]
     refine sh ?_
     exact rT
    ·rw[if_neg h3]
     refine sh ?_
     refine cS (fun h4=> ?_) (fun h4=> ?_)
     ·rw[if_pos h4]
      refine sh ?_
      exact rT
     ·rw[if_neg h4]
      refine sh ?_
      exact rT
theorem As.Bg.bare {a:As} (f:a.Bg):a.bare.Bg:=by
 unfold As.bare
 obtain⟨f1,f2,f3,f4⟩:=f
 split
 ·exact⟨by simp[p6],by simp[p6],by simp[p6],f4⟩
 ·split
  ·exact⟨f1,f2,f3,by simp[XZ]⟩
  ·split
   ·exact⟨f1,f2,f3,f4⟩
   ·split<;>exact⟨f1,f2,f3,f4⟩
theorem Ef {R:Env} (h:OC R) (a:As) (fx:a.x.t.length≤1000) (f:a.bare.Bg):R.Pc 294 [.agg a.row] (.int .i64 (du a)):=
 h.Ur.enter 100 rfl fun X bb hfit hp=>by
  refine sh ?_
  refine ae.pure h.n309.Ul.hb (Wd h.n309 a fx) rfl ?_
  generalize hq:du a=q
  refine sh ?_
  refine cS (fun h1=> ?_) (fun h1=> ?_)
  ·rw[du,if_pos h1]at hq
   subst hq
   refine sh ?_
   exact rT
  ·rw[du,if_neg (by simpa using h1)]at hq
   have ok:=h1
   refine sh ?_
   refine cM false [] ((P9 h.n310 a).mc h.n310.Un.hb) ?_
   repeat (intro _; first|refine eK ?_|refine eP ?_)
   refine sh ?_
   refine cM false [] ((P8 h.n298 a.bare (As.zero a.k) f).mc h.n298.Uj.hb) ?_
   repeat (intro _; first|refine eK ?_|refine eP ?_)
   refine sh ?_
   refine cS (fun h2=> ?_) (fun h2=> ?_)
   ·rw[if_pos (by simpa using h2)]at hq
    subst hq
    refine sh ?_
    exact rT
   ·rw[if_neg (by simpa using h2)]at hq
    refine sh ?_
    refine ae.pure h.n311.Up.hb (Hn h.n311 a (by omega) ok) rfl ?_
    refine sh ?_
    refine ae.pure h.n37.o37.hb (Wb h.n37 a.k) rfl ?_
    refine sh ?_
    refine cS (fun h3=> ?_) (fun h3=> ?_)
    ·rw[if_pos h3]at hq
     subst hq
     refine sh ?_
     exact rT
    ·rw[if_neg (by omega)]at hq
     subst hq
     refine sh ?_
     exact rT
def tL (m:Ms):Bool:=decide (0<m.v.length+m.uv.length+m.t.length)
def zj (x:hG):Bool:=decide (x.side≠0∨0<x.t.length)
theorem xD {R:Env} (h:Po R) (m:Ms) (h1:m.v.length≤1000) (h2:m.uv.length≤1000) (h3:m.t.length≤1000):R.Pc 313 [.agg m.row] (.bool (tL m)):=
 h.Kl.enter 60 rfl fun X bb hfit hp=>by
  refine sh ?_
  refine rT ?_
  all_goals repeat' (first|exact True.intro|refine And.intro ?_ ?_|(intro _u; clear _u)|(with_reducible first|exact ai.fg|refine eM ?_ ?_|refine eF ?_ ?_ ?_|refine eN ?_|refine eL ?_ ?_ ?_|refine eA ?_ ?_|refine ap.mk ⟨_,hp,rfl⟩ ?_ ?_)|refine ap.mk ⟨_,hp,rfl⟩ ?_ ?_)
  all_goals try first|with_reducible rfl|omega|exact .inl (by decide)|(simp; done)|rfl
  rw[Bool.eq_iff_iff]; simp only[tL,decide_eq_true_eq]; omega
theorem Bh {R:Env} (h:Pn R) (x:hG):R.Pc 312 [.agg x.row] (.bool (zj x)):=
 h.Kk.enter 60 rfl fun X bb hfit hp=>by
  refine sh ?_
  refine cS (fun h1=> ?_) (fun h1=> ?_)
  ·refine sh ?_
   refine rT ?_
   all_goals repeat' (first|exact True.intro|refine And.intro ?_ ?_|(intro _u; clear _u)|(with_reducible first|exact ai.fg|refine eM ?_ ?_|refine eF ?_ ?_ ?_|refine eN ?_|refine eL ?_ ?_ ?_|refine eA ?_ ?_|refine ap.mk ⟨_,hp,rfl⟩ ?_ ?_)|refine ap.mk ⟨_,hp,rfl⟩ ?_ ?_)
   all_goals try first|with_reducible rfl|omega|exact .inl (by decide)|(simp; done)|rfl
   simp[zj,h1]
  ·refine sh ?_
   refine rT ?_
   all_goals repeat' (first|exact True.intro|refine And.intro ?_ ?_|(intro _u; clear _u)|(with_reducible first|exact ai.fg|refine eM ?_ ?_|refine eF ?_ ?_ ?_|refine eN ?_|refine eL ?_ ?_ ?_|refine eA ?_ ?_|refine ap.mk ⟨_,hp,rfl⟩ ?_ ?_)|refine ap.mk ⟨_,hp,rfl⟩ ?_ ?_)
   all_goals try first|with_reducible rfl|omega|exact .inl (by decide)|(simp; done)|rfl
   simp[zj,h1]
theorem tM {m:Ms}:tL m=false↔m.v=[]∧m.uv=[]∧m.t=[]:=by
 simp only[tL,decide_eq_false_iff_not,←List.length_eq_zero_iff]; omega
theorem xE {x:hG}:zj x=false↔x.side=0∧x.t=[]:=by
 simp only[zj,decide_eq_false_iff_not,←List.length_eq_zero_iff]; omega
theorem Cj {a:As} (h:a.k=1):dt a.bare (As.zero a.k)=decide (zj a.x=false∧a.mt=p7∧a.li=l7):=by
 rw[dt,As.bare,if_pos h,Bool.eq_iff_iff,decide_eq_true_eq,decide_eq_true_eq,xE]
 exact⟨fun⟨_,e2,e3,e4,_,_,_,e8⟩=>⟨⟨e4,e8⟩,e2,e3⟩,fun⟨⟨e4,e8⟩,e2,e3⟩=>⟨rfl,e2,e3,e4,rfl,rfl,rfl,e8⟩⟩
theorem Ck {a:As} (h:a.k=2):dt a.bare (As.zero a.k)=decide (tL a.m=false∧a.mt=p7∧a.li=l7):=by
 rw[dt,As.bare,if_neg (by omega),if_pos h,Bool.eq_iff_iff,decide_eq_true_eq,decide_eq_true_eq,tM]
 exact⟨fun⟨_,e2,e3,_,e5,e6,e7,_⟩=>⟨⟨e5,e6,e7⟩,e2,e3⟩,fun⟨⟨e5,e6,e7⟩,e2,e3⟩=>⟨rfl,e2,e3,rfl,e5,e6,e7,rfl⟩⟩
theorem Cl {a:As} (h:a.k=3):dt a.bare (As.zero a.k)=decide (tL a.m=false∧zj a.x=false∧a.li=l7):=by
 rw[dt,As.bare,if_neg (by omega),if_neg (by omega),if_pos h,Bool.eq_iff_iff,decide_eq_true_eq,decide_eq_true_eq,tM,xE]
 exact⟨fun⟨_,_,e3,e4,e5,e6,e7,e8⟩=>⟨⟨e5,e6,e7⟩,⟨e4,e8⟩,e3⟩,fun⟨⟨e5,e6,e7⟩,⟨e4,e8⟩,e3⟩=>⟨rfl,rfl,e3,e4,e5,e6,e7,e8⟩⟩
theorem Cm {a:As} (h:a.k=4):dt a.bare (As.zero a.k)=decide (tL a.m=false∧zj a.x=false∧a.mt=p7):=by
 rw[dt,As.bare,if_neg (by omega),if_neg (by omega),if_neg (by omega),if_pos h,Bool.eq_iff_iff,decide_eq_true_eq,decide_eq_true_eq,tM,xE]
 exact⟨fun⟨_,e2,_,e4,e5,e6,e7,e8⟩=>⟨⟨e5,e6,e7⟩,⟨e4,e8⟩,e2⟩,fun⟨⟨e5,e6,e7⟩,⟨e4,e8⟩,e2⟩=>⟨rfl,e2,rfl,e4,e5,e6,e7,e8⟩⟩
theorem Hr {R:Env} (h:Pq R) (a:As) (f:a.Bg):R.Pc 295 [.agg a.row] (.int .i64 (du a)):=
 h.Vx.enter 100 rfl fun X bb hfit hp=>by
  generalize hq:du a=q
  refine sh ?_
  refine cS (fun h1=> ?_) (fun h1=> ?_)
  ·have ow:own a=jp a.m:=by simp[own,h1]
   refine sh ?_
   refine ae.pure h.n198.Pj.hb (tF h.n198 a.m) rfl ?_
   refine sh ?_
   refine ae.pure h.n312.Kk.hb (Bh h.n312 a.x) rfl ?_
   refine sh ?_
   refine cS (fun t1=> ?_) (fun t1=> ?_)
   ·have hz:dt a.bare (As.zero a.k)=false:=by simp[Cj h1,t1]
    refine sh ?_
    refine cS (fun c1=> ?_) (fun c1=> ?_)
    ·rw[du,ow,if_pos c1]at hq
     subst hq
     refine sh ?_
     exact rT
    ·rw[du,ow,if_neg (by simpa using c1),if_pos hz]at hq
     subst hq
     refine sh ?_
     exact rT
   ·refine sh ?_
    refine cS (fun t2=> ?_) (fun t2=> ?_)
    ·have hz:dt a.bare (As.zero a.k)=false:=by simp[Cj h1,jj.ne_iff (y:=p7) |>.1 t2]
     refine sh ?_
     refine cS (fun c1=> ?_) (fun c1=> ?_)
     ·rw[du,ow,if_pos c1]at hq
      subst hq
      refine sh ?_
      exact rT
     ·rw[du,ow,if_neg (by simpa using c1),if_pos hz]at hq
      subst hq
      refine sh ?_
      exact rT
    ·have z1:= @je.ne_iff a.li l7
     have z2:= @je.eq_iff a.li l7
     have hz:a.li≠l7→dt a.bare (As.zero a.k)=false:=fun c=>by simp[Cj h1,c]
     have hn:a.li=l7→dt a.bare (As.zero a.k)=true:=fun c=>by simp[Cj h1,t1,jj.eq_iff (y:=p7) |>.1 t2,c]
     refine sh ?_
     refine cS (fun c1=> ?_) (fun c1=> ?_)
     ·rw[du,ow,if_pos c1]at hq
      subst hq
      refine sh ?_
      exact rT
     ·have ok:own a=0:=ow.trans c1
      rw[du,ow,if_neg (by simpa using c1)]at hq
      refine sh ?_
      refine cS (fun c2=> ?_) (fun c2=> ?_)
      ·rw[if_pos (hz (z1.1 c2))]at hq
       subst hq
       refine sh ?_
       exact rT
      ·rw[if_neg (by simpa using hn (z2.1 c2))]at hq
       refine sh ?_
       refine ae.pure h.n314.GS.hb (rI h.n314 a (by have:=f.x; omega) ok) rfl ?_
       refine sh ?_
       refine ae.pure h.n38.Vi.hb (xC h.n38 a.k) rfl ?_
       refine sh ?_
       refine cS (fun c3=> ?_) (fun c3=> ?_)
       ·rw[if_pos c3]at hq
        subst hq
        refine sh ?_
        exact rT
       ·rw[if_neg (by omega)]at hq
        subst hq
        refine sh ?_
        exact rT
  ·refine sh ?_
   refine cS (fun h2=> ?_) (fun h2=> ?_)
   ·have ow:own a=fD a.x:=by simp[own,h2]
    refine sh ?_
    refine ae.pure h.L3.o85.hb (Ch h.L3 a.x (by have:=f.x; omega)) rfl ?_
    refine sh ?_
    refine ae.pure h.n313.Kl.hb (xD h.n313 a.m f.v f.uv f.t) rfl ?_
    refine sh ?_
    refine cS (fun t1=> ?_) (fun t1=> ?_)
    ·have hz:dt a.bare (As.zero a.k)=false:=by simp[Ck h2,t1]
     refine sh ?_
     refine cS (fun c1=> ?_) (fun c1=> ?_)
     ·rw[du,ow,if_pos c1]at hq
      subst hq
      refine sh ?_
      exact rT
     ·rw[du,ow,if_neg (by simpa using c1),if_pos hz]at hq
      subst hq
      refine sh ?_
      exact rT
    ·refine sh ?_
     refine cS (fun t2=> ?_) (fun t2=> ?_)
     ·have hz:dt a.bare (As.zero a.k)=false:=by simp[Ck h2,jj.ne_iff (y:=p7) |>.1 t2]
      refine sh ?_
      refine cS (fun c1=> ?_) (fun c1=> ?_)
      ·rw[du,ow,if_pos c1]at hq
       subst hq
       refine sh ?_
       exact rT
      ·rw[du,ow,if_neg (by simpa using c1),if_pos hz]at hq
       subst hq
       refine sh ?_
       exact rT
     ·have z1:= @je.ne_iff a.li l7
      have z2:= @je.eq_iff a.li l7
      have hz:a.li≠l7→dt a.bare (As.zero a.k)=false:=fun c=>by simp[Ck h2,c]
      have hn:a.li=l7→dt a.bare (As.zero a.k)=true:=fun c=>by simp[Ck h2,t1,jj.eq_iff (y:=p7) |>.1 t2,c]
      refine sh ?_
      refine cS (fun c1=> ?_) (fun c1=> ?_)
      ·rw[du,ow,if_pos c1]at hq
       subst hq
       refine sh ?_
       exact rT
      ·have ok:own a=0:=ow.trans c1
       rw[du,ow,if_neg (by simpa using c1)]at hq
       refine sh ?_
       refine cS (fun c2=> ?_) (fun c2=> ?_)
       ·rw[if_pos (hz (z1.1 c2))]at hq
        subst hq
        refine sh ?_
        exact rT
       ·rw[if_neg (by simpa using hn (z2.1 c2))]at hq
        refine sh ?_
        refine ae.pure h.n314.GS.hb (rI h.n314 a (by have:=f.x; omega) ok) rfl ?_
        refine sh ?_
        refine ae.pure h.n38.Vi.hb (xC h.n38 a.k) rfl ?_
        refine sh ?_
        refine cS (fun c3=> ?_) (fun c3=> ?_)
        ·rw[if_pos c3]at hq
         subst hq
         refine sh ?_
         exact rT
        ·rw[if_neg (by omega)]at hq
         subst hq
         refine sh ?_
         exact rT
   ·refine sh ?_
    refine cS (fun h3=> ?_) (fun h3=> ?_)
    ·have ow:own a=jq a.mt:=by simp[own,h3]
     refine sh ?_
     refine ae.pure h.n291.Vp.hb (KR h.n291 a.mt) rfl ?_
     refine sh ?_
     refine ae.pure h.n313.Kl.hb (xD h.n313 a.m f.v f.uv f.t) rfl ?_
     refine sh ?_
     refine cS (fun t1=> ?_) (fun t1=> ?_)
     ·have hz:dt a.bare (As.zero a.k)=false:=by simp[Cl h3,t1]
      refine sh ?_
      refine cS (fun c1=> ?_) (fun c1=> ?_)
      ·rw[du,ow,if_pos c1]at hq
       subst hq
       refine sh ?_
       exact rT
      ·rw[du,ow,if_neg (by simpa using c1),if_pos hz]at hq
       subst hq
       refine sh ?_
       exact rT
     ·refine sh ?_
      refine ae.pure h.n312.Kk.hb (Bh h.n312 a.x) rfl ?_
      refine sh ?_
      refine cS (fun t2=> ?_) (fun t2=> ?_)
      ·have hz:dt a.bare (As.zero a.k)=false:=by simp[Cl h3,t2]
       refine sh ?_
       refine cS (fun c1=> ?_) (fun c1=> ?_)
       ·rw[du,ow,if_pos c1]at hq
        subst hq
        refine sh ?_
        exact rT
       ·rw[du,ow,if_neg (by simpa using c1),if_pos hz]at hq
        subst hq
        refine sh ?_
        exact rT
      ·have z1:= @je.ne_iff a.li l7
       have z2:= @je.eq_iff a.li l7
       have hz:a.li≠l7→dt a.bare (As.zero a.k)=false:=fun c=>by simp[Cl h3,c]
       have hn:a.li=l7→dt a.bare (As.zero a.k)=true:=fun c=>by simp[Cl h3,t1,t2,c]
       refine sh ?_
       refine cS (fun c1=> ?_) (fun c1=> ?_)
       ·rw[du,ow,if_pos c1]at hq
        subst hq
        refine sh ?_
        exact rT
       ·have ok:own a=0:=ow.trans c1
        rw[du,ow,if_neg (by simpa using c1)]at hq
        refine sh ?_
        refine cS (fun c2=> ?_) (fun c2=> ?_)
        ·rw[if_pos (hz (z1.1 c2))]at hq
         subst hq
         refine sh ?_
         exact rT
        ·rw[if_neg (by simpa using hn (z2.1 c2))]at hq
         refine sh ?_
         refine ae.pure h.n314.GS.hb (rI h.n314 a (by have:=f.x; omega) ok) rfl ?_
         refine sh ?_
         refine ae.pure h.n38.Vi.hb (xC h.n38 a.k) rfl ?_
         refine sh ?_
         refine cS (fun c3=> ?_) (fun c3=> ?_)
         ·rw[if_pos c3]at hq
          subst hq
          refine sh ?_
          exact rT
         ·rw[if_neg (by omega)]at hq
          subst hq
          refine sh ?_
          exact rT
    ·refine sh ?_
     refine cS (fun h4=> ?_) (fun h4=> ?_)
     ·have ow:own a=ko a.li:=by simp[own,h4]
      refine sh ?_
      refine ae.pure h.n293.Vr.hb (KT h.n293 a.li) rfl ?_
      refine sh ?_
      refine ae.pure h.n313.Kl.hb (xD h.n313 a.m f.v f.uv f.t) rfl ?_
      refine sh ?_
      refine cS (fun t1=> ?_) (fun t1=> ?_)
      ·have hz:dt a.bare (As.zero a.k)=false:=by simp[Cm h4,t1]
       refine sh ?_
       refine cS (fun c1=> ?_) (fun c1=> ?_)
       ·rw[du,ow,if_pos c1]at hq
        subst hq
        refine sh ?_
        exact rT
       ·rw[du,ow,if_neg (by simpa using c1),if_pos hz]at hq
        subst hq
        refine sh ?_
        exact rT
      ·refine sh ?_
       refine ae.pure h.n312.Kk.hb (Bh h.n312 a.x) rfl ?_
       refine sh ?_
       refine cS (fun t2=> ?_) (fun t2=> ?_)
       ·have hz:dt a.bare (As.zero a.k)=false:=by simp[Cm h4,t2]
        refine sh ?_
        refine cS (fun c1=> ?_) (fun c1=> ?_)
        ·rw[du,ow,if_pos c1]at hq
         subst hq
         refine sh ?_
         exact rT
        ·rw[du,ow,if_neg (by simpa using c1),if_pos hz]at hq
         subst hq
         refine sh ?_
         exact rT
       ·have z1:= @jj.ne_iff a.mt p7
        have z2:= @jj.eq_iff a.mt p7
        have hz:a.mt≠p7→dt a.bare (As.zero a.k)=false:=fun c=>by simp[Cm h4,c]
        have hn:a.mt=p7→dt a.bare (As.zero a.k)=true:=fun c=>by simp[Cm h4,t1,t2,c]
        refine sh ?_
        refine cS (fun c1=> ?_) (fun c1=> ?_)
        ·rw[du,ow,if_pos c1]at hq
         subst hq
         refine sh ?_
         exact rT
        ·have ok:own a=0:=ow.trans c1
         rw[du,ow,if_neg (by simpa using c1)]at hq
         refine sh ?_
         refine cS (fun c2=> ?_) (fun c2=> ?_)
         ·rw[if_pos (hz (z1.1 c2))]at hq
          subst hq
          refine sh ?_
          exact rT
         ·rw[if_neg (by simpa using hn (z2.1 c2))]at hq
          refine sh ?_
          refine ae.pure h.n314.GS.hb (rI h.n314 a (by have:=f.x; omega) ok) rfl ?_
          refine sh ?_
          refine ae.pure h.n38.Vi.hb (xC h.n38 a.k) rfl ?_
          refine sh ?_
          refine cS (fun c3=> ?_) (fun c3=> ?_)
          ·rw[if_pos c3]at hq
           subst hq
           refine sh ?_
           exact rT
          ·rw[if_neg (by omega)]at hq
           subst hq
           refine sh ?_
           exact rT
     ·rw[du,own,if_neg h1,if_neg h2,if_neg h3,if_neg h4,if_pos (by decide)]at hq
      subst hq
      refine sh ?_
      refine af (by decide) ?_
      refine sh ?_
      exact rT
end Go.UM
namespace Go.UM
open Go.AM
set_option maxRecDepth 4000
structure Tb where
 rows:List Rw
 ins:List In
def uT (r:Rw):List AV:= .int .i64 r.h::r.row
def hJ (l:List Rw):List (List AV):=l.map uT
@[simp] theorem P' (l:List Rw):(hJ l).length=l.length:=by simp[hJ]
@[simp] theorem Qa (a b:List Rw):hJ (a++b)=hJ a++hJ b:=by simp[hJ]
@[simp] theorem X0 (l:List Rw):mz (hJ l):=by simp[hJ,uT,Rw.row]
def aW (l:List Rw) (h:Int):Option Rw:=l.find? fun r=>r.h==h
def be (x y:In):Bool:=x.aT==y.aT&&(x.dr==y.dr&&(x.ct==y.ct&&x.n==y.n))
def dZ (l:List In) (x:In):Option In:=l.find? fun y=>be x y
theorem Hs {h:Int} {l:List Rw}:∀e ∈ hJ l,dM [.i] [.int .i64 h] e=true:=by
 intro e he
 obtain⟨r,_,rfl⟩:=List.mem_map.1 he
 rfl
theorem zk (h:Int):∀l:List Rw,∃i:Nat,bL [.int .i64 h] (hJ l)=(aW l h).map fun r=>(i,r.row)
 |[]=>⟨0,rfl⟩
 |r::l=>by
  obtain⟨i,hi⟩:=zk h l
  have e:kB [.int .i64 h] (uT r)=(r.h==h):=by
   show ((h==r.h)&&true)=_
   rw[Bool.and_true]; exact Bool.beq_comm
  by_cases hh:(r.h==h)=true
  ·refine⟨0,?_⟩
   show (if kB [.int .i64 h] (uT r)then some (0,(uT r).drop 1)else _)=_
   rw[e,if_pos hh]; simp only[aW,List.find?_cons,hh]; rfl
  ·refine⟨i+1,?_⟩
   show (if kB [.int .i64 h] (uT r)then some (0,(uT r).drop 1)else (bL [.int .i64 h] (hJ l)).map fun q=>(q.1+1,q.2))=_
   rw[e,if_neg hh,hi]; simp only[aW,List.find?_cons,hh]
   cases List.find? (fun r=>r.h==h) l<;>rfl
theorem n1 {h:Int} {l:List Rw} {K:Option (Nat × List AV)→Prop} (k:∀i:Nat,K ((aW l h).map fun r=>(i,r.row))):Ix [.i] [.int .i64 h] (hJ l) K:=by
 obtain⟨i,hi⟩:=zk h l
 exact⟨Hs,by rw[hi]; exact k i⟩
theorem Ht {x:In} {l:List In}:∀e ∈ cD l,dM [.i,.i,.i,.i] [.int .i64 x.aT,.int .i64 x.dr,.int .i64 x.ct,.int .i64 x.n] e=true:=by
 intro e he
 obtain⟨r,_,rfl⟩:=List.mem_map.1 he
 rfl
theorem Cn (x:In):∀l:List In,∃i:Nat,bL [.int .i64 x.aT,.int .i64 x.dr,.int .i64 x.ct,.int .i64 x.n] (cD l)=(dZ l x).map fun r=>(i,r.t.row)
 |[]=>⟨0,rfl⟩
 |r::l=>by
  obtain⟨i,hi⟩:=Cn x l
  have e:kB [.int .i64 x.aT,.int .i64 x.dr,.int .i64 x.ct,.int .i64 x.n] r.row=be x r:=by
   show (x.aT==r.aT&&(x.dr==r.dr&&(x.ct==r.ct&&(x.n==r.n&&true))))=_
   rw[Bool.and_true]; rfl
  by_cases hh:be x r=true
  ·refine⟨0,?_⟩
   show (if kB [.int .i64 x.aT,.int .i64 x.dr,.int .i64 x.ct,.int .i64 x.n] r.row then some (0,r.row.drop 4)else _)=_
   rw[e,if_pos hh]; simp only[dZ,List.find?_cons,hh]; rfl
  ·refine⟨i+1,?_⟩
   show (if kB [.int .i64 x.aT,.int .i64 x.dr,.int .i64 x.ct,.int .i64 x.n] r.row then some (0,r.row.drop 4)else (bL _ (cD l)).map fun q=>(q.1+1,q.2))=_
   rw[e,if_neg hh,hi]; simp only[dZ,List.find?_cons,hh]
   cases List.find? (fun y=>be x y) l<;>rfl
theorem Qb {x:In} {l:List In} {K:Option (Nat × List AV)→Prop} (k:∀i:Nat,K ((dZ l x).map fun r=>(i,r.t.row))):Ix [.i,.i,.i,.i] [.int .i64 x.aT,.int .i64 x.dr,.int .i64 x.ct,.int .i64 x.n] (cD l) K:=by
 obtain⟨i,hi⟩:=Cn x l
 exact⟨Ht,by rw[hi]; exact k i⟩
abbrev eb (R:Env) (d1 d2:Bool) (t:Tb):ah:=[(0,.map 1 false true d1 41 (hJ t.rows)),(1,.map 4 true true d2 16 (cD t.ins)),(2,.var (R.ty 47) [.omap 0,.omap 1])]
theorem Hu {R:Env} (h:JY R):R.Mc 345 [] [] (.loc 2 1 0 0) (eb R true true ⟨[],[]⟩) 3:=
 h.ZX.bC 60 0 rfl rfl rfl fun X bb hfit hp=>by
  refine sh ?_
  exact rM [0,1,2]
theorem k6 {R:Env} (h:xm R) (d1 d2:Bool) (t:Tb):R.Mc 355 [.loc 2 1 0 0] (eb R d1 d2 t) (.bool false) (eb R d1 d2 t) 3:=
 h.ZY.bC 60 3 rfl rfl rfl fun X bb hfit hp=>by
  unfold eb
  refine sh ?_
  exact rM [0,1,2]
theorem Eg {R:Env} (h:GQ R) (x:In):R.Pc 358 [.agg x.row] (.agg [.int .i64 x.aT,.int .i64 x.dr,.int .i64 x.ct,.int .i64 x.n]):=
 h.AX.enter 60 rfl fun X bb hfit hp=>by
  refine sh ?_
  exact rT
def bT (l:List Rw) (x:In):Int:=
 match aW l x.aT with
 |none=>11
 |some a=>match aW l x.dr with
  |none=>11
  |some b=>if x.ct=0 then (if a.f.kind≠1∨b.f.kind≠3 then 12 else 0)else match aW l x.ct with
   |none=>11
   |some c=>if a.f.kind≠1∨b.f.kind≠3∨c.f.kind≠2 then 12 else 0
def pL (x:In):List (List AV):=[[.int .i64 x.aT,.int .i64 1],[.int .i64 x.dr,.int .i64 3],[.int .i64 x.ct,.int .i64 2]]
theorem Qc {x:In} {i:Nat} {r:List AV} {K:List AV→Prop} (h:(pL x)[i]? =some r) (k:K r):FN [[.int .i64 x.aT,.int .i64 1],[.int .i64 x.dr,.int .i64 3],[.int .i64 x.ct,.int .i64 2]] 3 i K:=
 te (f:=fun x:List AV=>x) (l:=pL x) rfl h k
set_option maxHeartbeats 4000000 in
theorem KW {R:Env} (h:OD R) (d1 d2:Bool) (t:Tb) (x:In):R.Mc 357 [.loc 2 1 0 0,.agg x.row] (eb R d1 d2 t) (.int .i64 (bT t.rows x)) (eb R d1 d2 t) 3:=
 h.Z0.bC 100 3 rfl rfl rfl fun X bb hfit hp=>by
  unfold eb
  have hq:∃q,bT t.rows x=q:=⟨_,rfl⟩
  obtain⟨q,hq⟩:=hq
  rw[hq]
  unfold bT at hq
  refine sh ?_
  refine aq.one 100 ?_
  refine sh ?_
  refine af (by rfl) ?_
  refine sh ?_
  refine Qc (i:=0) rfl ?_
  refine sh ?_
  refine n1 fun i=> ?_
  cases ha:aW t.rows x.aT with
  |none=>
   rw[ha]at hq
   refine sh ?_
   refine aj (by decide) ?_
   subst hq
   refine sh ?_
   exact rM [0,1,2]
  |some a=>
   rw[ha]at hq
   dsimp only[Option.map_some]at hq ⊢
   refine sh ?_
   refine aj (by decide) ?_
   refine sh ?_
   refine cS (fun k1=> ?_) (fun k1=> ?_)
   ·refine sh ?_
    refine aq.one 100 ?_
    refine sh ?_
    refine af (by rfl) ?_
    refine sh ?_
    refine Qc (i:=1) rfl ?_
    refine sh ?_
    refine n1 fun i=> ?_
    cases hb:aW t.rows x.dr with
    |none=>
     rw[hb]at hq
     refine sh ?_
     refine aj (by decide) ?_
     subst hq
     refine sh ?_
     exact rM [0,1,2]
    |some b=>
     rw[hb]at hq
     dsimp only[Option.map_some]at hq ⊢
     refine sh ?_
     refine aj (by decide) ?_
     refine sh ?_
     refine cS (fun k2=> ?_) (fun k2=> ?_)
     ·refine sh ?_
      refine aq.one 100 ?_
      refine sh ?_
      refine af (by rfl) ?_
      refine sh ?_
      refine Qc (i:=2) rfl ?_
      refine sh ?_
      refine n1 fun i=> ?_
      by_cases hx:x.ct=0
      ·rw[if_pos hx]at hq
       cases aW t.rows x.ct<;>dsimp only[Option.map_some,Option.map_none]
       ·refine sh ?_
        refine af (by decide) ?_
        refine sh ?_
        refine af (by simp; exact hx) ?_
        first|rw[if_pos (by omega)]at hq|rw[if_neg (by omega)]at hq
        refine sh ?_
        refine aq.one 100 ?_
        refine sh ?_
        refine aj (by rfl) ?_
        subst hq
        refine sh ?_
        exact rM [0,1,2]
       ·refine sh ?_
        refine af (by decide) ?_
        refine sh ?_
        refine af (by simp; exact hx) ?_
        first|rw[if_pos (by omega)]at hq|rw[if_neg (by omega)]at hq
        refine sh ?_
        refine aq.one 100 ?_
        refine sh ?_
        refine aj (by rfl) ?_
        subst hq
        refine sh ?_
        exact rM [0,1,2]
      ·rw[if_neg hx]at hq
       cases hc:aW t.rows x.ct with
       |none=>
        rw[hc]at hq
        refine sh ?_
        refine af (by decide) ?_
        refine sh ?_
        refine aj (by simp; exact hx) ?_
        subst hq
        refine sh ?_
        exact rM [0,1,2]
       |some c=>
        rw[hc]at hq
        dsimp only[Option.map_some]at hq ⊢
        refine sh ?_
        refine af (by decide) ?_
        refine sh ?_
        refine aj (by simp; exact hx) ?_
        refine sh ?_
        refine cS (fun k3=> ?_) (fun k3=> ?_)
        ·first|rw[if_pos (by omega)]at hq|rw[if_neg (by omega)]at hq
         refine sh ?_
         refine aq.one 100 ?_
         refine sh ?_
         refine aj (by rfl) ?_
         subst hq
         refine sh ?_
         exact rM [0,1,2]
        ·first|rw[if_pos (by omega)]at hq|rw[if_neg (by omega)]at hq
         refine sh ?_
         refine aq.one 100 ?_
         refine sh ?_
         refine aj (by rfl) ?_
         subst hq
         refine sh ?_
         exact rM [0,1,2]
     ·refine sh ?_
      refine aq.one 100 ?_
      refine sh ?_
      refine af (by rfl) ?_
      refine sh ?_
      refine Qc (i:=2) rfl ?_
      refine sh ?_
      refine n1 fun i=> ?_
      by_cases hx:x.ct=0
      ·rw[if_pos hx]at hq
       cases aW t.rows x.ct<;>dsimp only[Option.map_some,Option.map_none]
       ·refine sh ?_
        refine af (by decide) ?_
        refine sh ?_
        refine af (by simp; exact hx) ?_
        first|rw[if_pos (by omega)]at hq|rw[if_neg (by omega)]at hq
        refine sh ?_
        refine aq.one 100 ?_
        refine sh ?_
        refine aj (by rfl) ?_
        subst hq
        refine sh ?_
        exact rM [0,1,2]
       ·refine sh ?_
        refine af (by decide) ?_
        refine sh ?_
        refine af (by simp; exact hx) ?_
        first|rw[if_pos (by omega)]at hq|rw[if_neg (by omega)]at hq
        refine sh ?_
        refine aq.one 100 ?_
        refine sh ?_
        refine aj (by rfl) ?_
        subst hq
        refine sh ?_
        exact rM [0,1,2]
      ·rw[if_neg hx]at hq
       cases hc:aW t.rows x.ct with
       |none=>
        rw[hc]at hq
        refine sh ?_
        refine af (by decide) ?_
        refine sh ?_
        refine aj (by simp; exact hx) ?_
        subst hq
        refine sh ?_
        exact rM [0,1,2]
       |some c=>
        rw[hc]at hq
        dsimp only[Option.map_some]at hq ⊢
        refine sh ?_
        refine af (by decide) ?_
        refine sh ?_
        refine aj (by simp; exact hx) ?_
        refine sh ?_
        refine cS (fun k3=> ?_) (fun k3=> ?_)
        ·first|rw[if_pos (by omega)]at hq|rw[if_neg (by omega)]at hq
         refine sh ?_
         refine aq.one 100 ?_
         refine sh ?_
         refine aj (by rfl) ?_
         subst hq
         refine sh ?_
         exact rM [0,1,2]
        ·first|rw[if_pos (by omega)]at hq|rw[if_neg (by omega)]at hq
         refine sh ?_
         refine aq.one 100 ?_
         refine sh ?_
         refine aj (by rfl) ?_
         subst hq
         refine sh ?_
         exact rM [0,1,2]
   ·refine sh ?_
    refine aq.one 100 ?_
    refine sh ?_
    refine af (by rfl) ?_
    refine sh ?_
    refine Qc (i:=1) rfl ?_
    refine sh ?_
    refine n1 fun i=> ?_
    cases hb:aW t.rows x.dr with
    |none=>
     rw[hb]at hq
     refine sh ?_
     refine aj (by decide) ?_
     subst hq
     refine sh ?_
     exact rM [0,1,2]
    |some b=>
     rw[hb]at hq
     dsimp only[Option.map_some]at hq ⊢
     refine sh ?_
     refine aj (by decide) ?_
     refine sh ?_
     refine cS (fun k2=> ?_) (fun k2=> ?_)
     ·refine sh ?_
      refine aq.one 100 ?_
      refine sh ?_
      refine af (by rfl) ?_
      refine sh ?_
      refine Qc (i:=2) rfl ?_
      refine sh ?_
      refine n1 fun i=> ?_
      by_cases hx:x.ct=0
      ·rw[if_pos hx]at hq
       cases aW t.rows x.ct<;>dsimp only[Option.map_some,Option.map_none]
       ·refine sh ?_
        refine af (by decide) ?_
        refine sh ?_
        refine af (by simp; exact hx) ?_
        first|rw[if_pos (by omega)]at hq|rw[if_neg (by omega)]at hq
        refine sh ?_
        refine aq.one 100 ?_
        refine sh ?_
        refine aj (by rfl) ?_
        subst hq
        refine sh ?_
        exact rM [0,1,2]
       ·refine sh ?_
        refine af (by decide) ?_
        refine sh ?_
        refine af (by simp; exact hx) ?_
        first|rw[if_pos (by omega)]at hq|rw[if_neg (by omega)]at hq
        refine sh ?_
        refine aq.one 100 ?_
        refine sh ?_
        refine aj (by rfl) ?_
        subst hq
        refine sh ?_
        exact rM [0,1,2]
      ·rw[if_neg hx]at hq
       cases hc:aW t.rows x.ct with
       |none=>
        rw[hc]at hq
        refine sh ?_
        refine af (by decide) ?_
        refine sh ?_
        refine aj (by simp; exact hx) ?_
        subst hq
        refine sh ?_
        exact rM [0,1,2]
       |some c=>
        rw[hc]at hq
        dsimp only[Option.map_some]at hq ⊢
        refine sh ?_
        refine af (by decide) ?_
        refine sh ?_
        refine aj (by simp; exact hx) ?_
        refine sh ?_
        refine cS (fun k3=> ?_) (fun k3=> ?_)
        ·first|rw[if_pos (by omega)]at hq|rw[if_neg (by omega)]at hq
         refine sh ?_
         refine aq.one 100 ?_
         refine sh ?_
         refine aj (by rfl) ?_
         subst hq
         refine sh ?_
         exact rM [0,1,2]
        ·first|rw[if_pos (by omega)]at hq|rw[if_neg (by omega)]at hq
         refine sh ?_
         refine aq.one 100 ?_
         refine sh ?_
         refine aj (by rfl) ?_
         subst hq
         refine sh ?_
         exact rM [0,1,2]
     ·refine sh ?_
      refine aq.one 100 ?_
      refine sh ?_
      refine af (by rfl) ?_
      refine sh ?_
      refine Qc (i:=2) rfl ?_
      refine sh ?_
      refine n1 fun i=> ?_
      by_cases hx:x.ct=0
      ·rw[if_pos hx]at hq
       cases aW t.rows x.ct<;>dsimp only[Option.map_some,Option.map_none]
       ·refine sh ?_
        refine af (by decide) ?_
        refine sh ?_
        refine af (by simp; exact hx) ?_
        first|rw[if_pos (by omega)]at hq|rw[if_neg (by omega)]at hq
        refine sh ?_
        refine aq.one 100 ?_
        refine sh ?_
        refine aj (by rfl) ?_
        subst hq
        refine sh ?_
        exact rM [0,1,2]
       ·refine sh ?_
        refine af (by decide) ?_
        refine sh ?_
        refine af (by simp; exact hx) ?_
        first|rw[if_pos (by omega)]at hq|rw[if_neg (by omega)]at hq
        refine sh ?_
        refine aq.one 100 ?_
        refine sh ?_
        refine aj (by rfl) ?_
        subst hq
        refine sh ?_
        exact rM [0,1,2]
      ·rw[if_neg hx]at hq
       cases hc:aW t.rows x.ct with
       |none=>
        rw[hc]at hq
        refine sh ?_
        refine af (by decide) ?_
        refine sh ?_
        refine aj (by simp; exact hx) ?_
        subst hq
        refine sh ?_
        exact rM [0,1,2]
       |some c=>
        rw[hc]at hq
        dsimp only[Option.map_some]at hq ⊢
        refine sh ?_
        refine af (by decide) ?_
        refine sh ?_
        refine aj (by simp; exact hx) ?_
        refine sh ?_
        refine cS (fun k3=> ?_) (fun k3=> ?_)
        ·first|rw[if_pos (by omega)]at hq|rw[if_neg (by omega)]at hq
         refine sh ?_
         refine aq.one 100 ?_
         refine sh ?_
         refine aj (by rfl) ?_
         subst hq
         refine sh ?_
         exact rM [0,1,2]
        ·first|rw[if_pos (by omega)]at hq|rw[if_neg (by omega)]at hq
         refine sh ?_
         refine aq.one 100 ?_
         refine sh ?_
         refine aj (by rfl) ?_
         subst hq
         refine sh ?_
         exact rM [0,1,2]
end Go.UM
namespace Go.UM
open Go.AM
set_option maxRecDepth 4000
def f3 (r:Rd):T3 × Rd:=(⟨(r.int 2).1,((r.int 2).2.int 2).1,(((r.int 2).2.int 2).2.int 2).1⟩,(((r.int 2).2.int 2).2.int 2).2)
def f2 (r:Rd):(Int × Int) × Rd:=(((r.num 2).1,((r.num 2).2.num 2).1),((r.num 2).2.num 2).2)
def ft (r:Rd):T3 × Rd:=(⟨(r.num 1).1,((r.num 1).2.num 1).1,(((r.num 1).2.num 1).2.num 1).1⟩,(((r.num 1).2.num 1).2.num 1).2)
theorem eG.f3 {B:List UInt8} {r:Rd} (h:eG B r):eG B (f3 r).2:=((h.int 2).int 2).int 2
theorem eG.f2 {B:List UInt8} {r:Rd} (h:eG B r):eG B (f2 r).2:=(h.num 2).num 2
theorem eG.ft {B:List UInt8} {r:Rd} (h:eG B r):eG B (ft r).2:=((h.num 1).num 1).num 1
theorem eG.Cf {B:List UInt8} {α:Type} {f:Rd→α × Rd} (hf:∀r,eG B r→eG B (f r).2) (n:Nat):∀ {r:Rd},eG B r→eG B (Cf f n r).2:=by
 induction n with
 |zero=>exact fun h=>h
 |succ n ih=>exact fun h=>hf _ (ih h)
def zMs:Ms:=⟨[],[],[]⟩
def mq (nv nt:Nat) (r:Rd):Ms × Rd:=(⟨(Cf f3 nv r).1,(Cf f2 nv (Cf f3 nv r).2).1,(Cf ft nt (Cf f2 nv (Cf f3 nv r).2).2).1⟩,(Cf ft nt (Cf f2 nv (Cf f3 nv r).2).2).2)
def aaI (q:Ms × Rd):Ms × Int:=if q.2.fin≠0 then (zMs,q.2.fin)else if jp q.1≠0 then (zMs,jp q.1)else (q.1,0)
def Mh (b:List UInt8):Ms × Int:=aaI (mq ((⟨b,0,true⟩:Rd).num 1).1 (((⟨b,0,true⟩:Rd).num 1).2.num 1).1 (((⟨b,0,true⟩:Rd).num 1).2.num 1).2)
end Go.UM
namespace Go.UM
open Go.AM
set_option maxRecDepth 4000
def X1:List UInt8→List T3
 |a::b::c::r=>⟨a.toNat,b.toNat,c.toNat⟩::X1 r
 |_=>[]
def KX:hG:=⟨0,[]⟩
def We (b:List UInt8):hG × Int:=match b with
 |[]=>(KX,4)
 |s::rest=>if rest.length<3* (s.toNat*s.toNat)then (KX,4)else if 3* (s.toNat*s.toNat)<rest.length then (KX,5)else
  if fD ⟨s.toNat,X1 rest⟩≠0 then (KX,fD ⟨s.toNat,X1 rest⟩)else (⟨s.toNat,X1 rest⟩,0)
end Go.UM
namespace Go.UM
open Go.AM
set_option maxRecDepth 4000
def fw (w:Int) (r:Rd):T3 × Rd:=(⟨(r.num w).1,((r.num w).2.num w).1,(((r.num w).2.num w).2.num w).1⟩,(((r.num w).2.num w).2.num w).2)
theorem eG.fw {B:List UInt8} {r:Rd} (h:eG B r) (w:Int):eG B (fw w r).2:=((h.num w).num w).num w
def Wf (r:Rd):jj × Rd:=(⟨(r.num 1).1,(fw 2 (r.num 1).2).1,((fw 2 (r.num 1).2).2.num 2).1⟩,((fw 2 (r.num 1).2).2.num 2).2)
def Wg (r:Rd):je × Rd:=(⟨(r.num 1).1,(fw 4 (r.num 1).2).1,(f3 (fw 4 (r.num 1).2).2).1,(f3 (f3 (fw 4 (r.num 1).2).2).2).1,(f3 (f3 (f3 (fw 4 (r.num 1).2).2).2).2).1⟩,(f3 (f3 (f3 (fw 4 (r.num 1).2).2).2).2).2)
def apart (k:Int) (b:List UInt8):As × Int:=
 if k=1 then ({As.zero k with m:=(Mh b).1},(Mh b).2)
 else if k=2 then ({As.zero k with x:=(We b).1},(We b).2)
 else if k=3 then ({As.zero k with mt:=(Wf ⟨b,0,true⟩).1},(Wf ⟨b,0,true⟩).2.fin)
 else if k=4 then ({As.zero k with li:=(Wg ⟨b,0,true⟩).1},(Wg ⟨b,0,true⟩).2.fin)
 else (As.zero k,0)
theorem Hv {x:hG} (h:fD x=0):x.t.length≤256:=by
 have ok:=rG h
 have hs:=kY ok.s
 have:=ok.l
 rcases hs with h|h|h|h|h<;>rw[h]at this<;>omega
end Go.UM
namespace Go.UM
open Go.AM
set_option maxRecDepth 4000
end Go.UM
namespace Go.UM
open Go.AM
set_option maxRecDepth 4000
theorem Hw {a b:As} (h:dt a b=true):a=b:=by
 simp only[dt,decide_eq_true_eq]at h
 obtain⟨ak,⟨_,_,_⟩,⟨_,_⟩,am,al⟩:=a
 obtain⟨bk,⟨_,_,_⟩,⟨_,_⟩,bm,bl⟩:=b
 dsimp only at h
 obtain⟨rfl,rfl,rfl,rfl,rfl,rfl,rfl,rfl⟩:=h
 rfl
theorem dB {a:As} (h:du a=0):own a=0∧a.bare=As.zero a.k∧(gl a).length≤cap a.k:=by
 unfold du at h
 split at h
 ·rename_i h1; exact absurd h h1
 ·rename_i h1
  split at h
  ·cases h
  ·rename_i h2
   split at h
   ·cases h
   ·rename_i h3
    exact⟨by simpa using h1,Hw (by simpa using h2),by omega⟩
end Go.UM
namespace Go.UM
open Go.AM
set_option maxRecDepth 4000
theorem Eh {R:Env} (h:JE R) (l:List T3) (hl:l.length≤1073741824):R.Mc 361 [.aJ 3 (bJ l)] [] (.bc 0 l.length) [(0,.arr (R.ty 26) 3 (bJ l))] 1:=
 h.SN.bC 60 0 rfl rfl rfl fun X b hfit hp=>by
  refine sh ?_
  refine FP.mk (fun hn=> ?_) ?_
  ·have:l=[]:=by simpa[bJ]using hn
   subst this
   refine sh ?_
   exact rM [50]
  ·refine sh ?_
   exact rM [0]
theorem Ei {R:Env} (h:JF R) (l:List (Int × Int)) (hl:l.length≤1073741824):R.Mc 362 [.aJ 2 (cV l)] [] (.bc 0 l.length) [(0,.arr (R.ty 18) 2 (cV l))] 1:=
 h.SP.bC 60 0 rfl rfl rfl fun X b hfit hp=>by
  refine sh ?_
  refine FP.mk (fun hn=> ?_) ?_
  ·have:l=[]:=by simpa[cV]using hn
   subst this
   refine sh ?_
   exact rM [50]
  ·refine sh ?_
   exact rM [0]
theorem Ej {R:Env} (h:JC R) (l:List T3) (hl:l.length≤1073741824):R.Mc 101 [.aJ 3 (bJ l)] [] (.bc 0 l.length) [(0,.arr (R.ty 13) 3 (bJ l))] 1:=
 h.Nx.bC 60 0 rfl rfl rfl fun X b hfit hp=>by
  refine sh ?_
  refine FP.mk (fun hn=> ?_) ?_
  ·have:l=[]:=by simpa[bJ]using hn
   subst this
   refine sh ?_
   exact rM [50]
  ·refine sh ?_
   exact rM [0]
theorem Bi {R:Env} (h:JE R) (l:List T3) (hl:l.length≤1073741824):R.Pc 361 [.aJ 3 (bJ l)] (.aJ 3 (bJ l)):=(Eh h l hl).pc fZ
theorem Bj {R:Env} (h:JF R) (l:List (Int × Int)) (hl:l.length≤1073741824):R.Pc 362 [.aJ 2 (cV l)] (.aJ 2 (cV l)):=(Ei h l hl).pc fZ
theorem tN {R:Env} (h:JC R) (l:List T3) (hl:l.length≤1073741824):R.Pc 101 [.aJ 3 (bJ l)] (.aJ 3 (bJ l)):=(Ej h l hl).pc fZ
theorem p8 {R:Env} (h:JZ R) (a:As) (f:a.Bg):R.Pc 356 [.agg a.row] (.agg a.row):=
 h.J0.enter 100 rfl fun X bb hfit hp=>by
  obtain⟨f1,f2,f3,f4⟩:=f
  refine sh ?_
  refine ae.pure h.J1.SN.hb (Bi h.J1 a.m.v (by omega)) rfl ?_
  refine sh ?_
  refine ae.pure h.J2.SP.hb (Bj h.J2 a.m.uv (by omega)) rfl ?_
  refine sh ?_
  refine ae.pure h.n101.Nx.hb (tN h.n101 a.m.t (by omega)) rfl ?_
  refine sh ?_
  refine ae.pure h.n101.Nx.hb (tN h.n101 a.x.t (by omega)) rfl ?_
  refine sh ?_
  exact rT
theorem tO {m:Ms} (h:jp m=0):m.v.length≤64∧m.t.length≤64∧m.uv.length=m.v.length∧m.v.any kX=false:=by
 unfold jp at h
 split at h
 ·cases h
 ·split at h
  ·cases h
  ·split at h
   ·cases h
   ·rename_i h1 h2 h3
    exact⟨by omega,by omega,by omega,by simpa using h3⟩
theorem tP {a:As} (h:du a=0) (hx:a.x.t.length≤1000):a.Bg:=by
 obtain⟨ow,hb,_⟩:=dB h
 by_cases k:a.k=1
 ·rw[own,if_pos k]at ow
  obtain⟨h1,h2,h3,_⟩:=tO ow
  exact⟨by omega,by omega,by omega,hx⟩
 ·have e:a.m=p6:=by
   have e1:a.bare.m=(As.zero a.k).m:=by rw[hb]
   have e2:a.bare.m=a.m:=by unfold As.bare; rw[if_neg k]; repeat' split
                            all_goals rfl
   rw[←e2,e1]; rfl
  exact⟨by rw[e]; simp[p6],by rw[e]; simp[p6],by rw[e]; simp[p6],hx⟩
def gy (t:Tb) (hd:Int) (f:Mf) (a:As):Tb × Int:=
 if hd<1∨65536<hd then (t,2)else if (aW t.rows hd).isSome=true then (t,10)else if du a≠0 then (t,du a)else if f.kind≠a.k then (t,12)else (⟨t.rows++ [⟨hd,f,a⟩],t.ins⟩,0)
set_option maxHeartbeats 4000000 in
theorem Bk {R:Env} (h:J3 R) (d1 d2:Bool) (t:Tb) (hd:Int) (f:Mf) (a:As) (fx:a.x.t.length≤1000) (fb:a.bare.Bg) (hn:t.rows.length≤1000000):
  R.Mc 346 [.loc 2 1 0 0,.int .i64 hd,.agg f.row,.agg a.row] (eb R d1 d2 t) (.int .i64 (gy t hd f a).2) (eb R d1 d2 (gy t hd f a).1) 3:=
 h.ZZ.bC 100 3 rfl rfl rfl fun X bb hfit hp=>by
  generalize hq:gy t hd f a=q
  unfold gy at hq
  unfold eb
  refine sh ?_
  refine cM false [0,1,2] (k6 h.jQ d1 d2 t) ?_
  repeat (intro _; first|refine eK ?_|refine eP ?_)
  refine sh ?_
  refine cS (fun h1=> ?_) (fun h1=> ?_)
  ·rw[if_pos (by omega)]at hq
   subst hq
   refine sh ?_
   exact rM [0,1,2]
  ·refine sh ?_
   refine cS (fun h2=> ?_) (fun h2=> ?_)
   ·rw[if_pos (by omega)]at hq
    subst hq
    refine sh ?_
    exact rM [0,1,2]
   ·rw[if_neg (by omega)]at hq
    refine sh ?_
    refine n1 fun i=> ?_
    cases hr:aW t.rows hd with
    |some r=>
     rw[hr,if_pos (show (some r).isSome=true from rfl)]at hq
     dsimp only[Option.map_some]
     subst hq
     refine sh ?_
     exact rM [0,1,2]
    |none=>
     rw[hr,if_neg (by simp)]at hq
     dsimp only[Option.map_none]
     refine sh ?_
     refine ae.pure h.n294.Ur.hb (Ef h.n294 a fx fb) rfl ?_
     refine sh ?_
     refine cS (fun h3=> ?_) (fun h3=> ?_)
     ·rw[if_pos h3]at hq
      subst hq
      refine sh ?_
      exact rM [0,1,2]
     ·rw[if_neg (by simpa using h3)]at hq
      refine sh ?_
      refine cS (fun h4=> ?_) (fun h4=> ?_)
      ·rw[if_pos h4]at hq
       subst hq
       refine sh ?_
       exact rM [0,1,2]
      ·rw[if_neg (by simpa using h4)]at hq
       refine sh ?_
       refine ae.pure h.uN.J0.hb (p8 h.uN a (tP h3 fx)) rfl ?_
       refine sh ?_
       refine n1 fun i=> ?_
       rw[hr]
       dsimp only[Option.map_none]
       subst hq
       refine sh ?_
       refine rM [0,1,2] ?_
       all_goals repeat' (first|exact True.intro|refine And.intro ?_ ?_|(intro _u; clear _u)|(with_reducible first|exact ai.fg|refine eM ?_ ?_|refine eF ?_ ?_ ?_|refine eN ?_|refine eL ?_ ?_ ?_|refine eA ?_ ?_|refine ap.mk ⟨_,hp,rfl⟩ ?_ ?_)|refine ap.mk ⟨_,hp,rfl⟩ ?_ ?_)
       all_goals try first|with_reducible rfl|omega|exact .inl (by decide)|(simp; done)|rfl
       all_goals (simp[hJ,uT,Rw.row])
def tQ (x:Af) (l:List T3):Int:=((l.map fun v=>(bX x v).2).find? fun e=>e != 0).getD 0
def jS (t:Tb) (x:In):Tb × Int:=
 if x.n<0∨65536<x.n then (t,2)else if bT t.rows x≠0 then (t,bT t.rows x)else if (dZ t.ins x).isSome=true then (t,10)
 else match aW t.rows x.aT with
  |none=>(t,11)
  |some r=>if tQ x.t r.a.m.v≠0 then (t,tQ x.t r.a.m.v)else (⟨t.rows,t.ins++ [x]⟩,0)
theorem jK {x:Af} {l:List T3} {k:Nat} {v:T3} (h:l[k]? =some v) (h1:∀ (j:Nat) (u:T3),j<k→l[j]? =some u→(bX x u).2=0) (h2:(bX x v).2≠0):tQ x l=(bX x v).2:=by
 unfold tQ
 induction l generalizing k with
 |nil=>simp at h
 |cons a r ih=>
  cases k with
  |zero=>
   simp at h; subst h
   simp[List.find?_cons,h2]
  |succ k=>
   have e:=h1 0 a (by omega) rfl
   simp only[List.map_cons,List.find?_cons,e,bne_self_eq_false]
   exact ih (k:=k) (by simpa using h) (fun j u hj hu=>h1 (j+1) u (by omega) (by simpa using hu))
theorem mD {x:Af} {l:List T3} (h:∀ (j:Nat) (u:T3),j<l.length→l[j]? =some u→(bX x u).2=0):tQ x l=0:=by
 unfold tQ
 induction l with
 |nil=>rfl
 |cons a r ih=>
  have e:=h 0 a (by simp) rfl
  simp only[List.map_cons,List.find?_cons,e,bne_self_eq_false]
  exact ih fun j u hj hu=>h (j+1) u (by simpa using hj) (by simpa using hu)
theorem zl {l:List Rw} {x:In} (h:bT l x=0):∃r,aW l x.aT=some r∧r.f.kind=1:=by
 unfold bT at h
 cases hr:aW l x.aT with
 |none=>rw[hr]at h; cases h
 |some r=>
  rw[hr]at h
  refine⟨r,rfl,?_⟩
  dsimp only at h
  cases hb:aW l x.dr with
  |none=>rw[hb]at h; cases h
  |some b=>
   rw[hb]at h
   dsimp only at h
   by_cases hx:x.ct=0
   ·rw[if_pos hx]at h
    by_cases k:r.f.kind=1
    ·exact k
    ·rw[if_pos (.inl k)]at h; cases h
   ·rw[if_neg hx]at h
    cases hc:aW l x.ct with
    |none=>rw[hc]at h; cases h
    |some c=>
     rw[hc]at h
     dsimp only at h
     by_cases k:r.f.kind=1
     ·exact k
     ·rw[if_pos (.inl k)]at h; cases h
structure fE (r:Rw):Prop where
 h:1≤r.h∧r.h≤65536
 a:du r.a=0
 k:r.f.kind=r.a.k
 x:r.a.x.t.length≤1000
theorem cz {l:List Rw} {h:Int} {r:Rw} (e:aW l h=some r):r ∈ l∧r.h=h:=⟨List.mem_of_find?_eq_some e,by simpa using List.find?_some e⟩
theorem fE.Co {r:Rw} (o:fE r) (h:r.f.kind=1):r.a.m.v.length≤64∧∀v ∈ r.a.m.v,kX v=false:=by
 have k1:r.a.k=1:=o.k.symm.trans h
 have ow:=(dB o.a).1
 rw[own,if_pos k1]at ow
 obtain⟨h1,_,_,h4⟩:=tO ow
 exact⟨h1,fun v hv=>by
  have:=List.any_eq_false.1 h4 v hv
  simpa using this⟩
theorem xF {v:T3} (h:kX v=false):v.I:=by
 have:=rH h
 exact⟨by simp only[bg]; omega,by simp only[bg]; omega,by simp only[bg]; omega⟩
set_option maxHeartbeats 4000000 in
theorem Hx {R:Env} (h:J4 R) (d1 d2:Bool) (t:Tb) (x:In) (ok:∀r ∈ t.rows,fE r) (hx:x.t.I) (hn:t.ins.length≤1000000):
  R.Mc 347 [.loc 2 1 0 0,.agg x.row] (eb R d1 d2 t) (.int .i64 (jS t x).2) (eb R d1 d2 (jS t x).1) 3:=
 h.Z'.bC 100 3 rfl rfl rfl fun X bb hfit hp=>by
  generalize hq:jS t x=q
  unfold jS at hq
  unfold eb
  refine sh ?_
  refine cM false [0,1,2] (k6 h.jQ d1 d2 t) ?_
  repeat (intro _; first|refine eK ?_|refine eP ?_)
  refine sh ?_
  refine cS (fun h1=> ?_) (fun h1=> ?_)
  ·rw[if_pos (by omega)]at hq
   subst hq
   refine sh ?_
   exact rM [0,1,2]
  ·refine sh ?_
   refine cS (fun h2=> ?_) (fun h2=> ?_)
   ·rw[if_pos (by omega)]at hq
    subst hq
    refine sh ?_
    exact rM [0,1,2]
   ·rw[if_neg (by omega)]at hq
    refine sh ?_
    refine cM false [0,1,2] (KW h.OE d1 d2 t x) ?_
    repeat (intro _; first|refine eK ?_|refine eP ?_)
    refine sh ?_
    refine cS (fun h3=> ?_) (fun h3=> ?_)
    ·rw[if_pos h3]at hq
     subst hq
     refine sh ?_
     exact rM [0,1,2]
    ·rw[if_neg (by simpa using h3)]at hq
     obtain⟨r,hr,hk⟩:=zl h3
     have hvs:=(ok r (cz hr).1).Co hk
     refine sh ?_
     refine ae.pure h.lA.AX.hb (Eg h.lA x) rfl ?_
     refine sh ?_
     refine Qb fun i=> ?_
     cases hi:dZ t.ins x with
     |some y=>
      rw[hi,if_pos (show (some y).isSome=true from rfl)]at hq
      dsimp only[Option.map_some]
      subst hq
      refine sh ?_
      exact rM [0,1,2]
     |none=>
      rw[hi,if_neg (by simp),hr]at hq
      dsimp only at hq
      dsimp only[Option.map_none]
      refine sh ?_
      refine n1 fun i=> ?_
      rw[hr]
      dsimp only[Option.map_some]
      refine sh ?_
      refine gW 100 (fun k:Nat=>k≤r.a.m.v.length∧∀ (j:Nat) (u:T3),j<k→r.a.m.v[j]? =some u→(bX x.t u).2=0) (fun k=>⟨[(0,.loc 2 1 0 0),(3,.loc 3 1 0 0),(50,.aJ 3 (bJ r.a.m.v)),(51,.int .i64 r.a.m.v.length),(52,.int .i64 k)],[(3,.var (R.ty 44) x.row),(0,.map 1 false true d1 41 (hJ t.rows)),(1,.map 4 true true d2 16 (cD t.ins)),(2,.var (R.ty 47) [.omap 0,.omap 1])],4⟩) (fun k=>r.a.m.v.length - k) (0) ?_ ?_
      ·exact⟨Nat.zero_le _,fun j u hj=>absurd hj (Nat.not_lt_zero j)⟩
      ·intro k hk
       dsimp only
       have hlen:=hvs.1
       refine sh ?_
       refine cS (fun h4=> ?_) (fun h4=> ?_)
       ·obtain⟨v,hv⟩:∃u_,r.a.m.v[k]? =some u_:=⟨_,List.getElem?_eq_getElem (by first|omega|(simp<;>omega))⟩
        refine sh ?_
        refine aa hv ?_
        refine sh ?_
        refine ae.pure h.n241.tj.hb (eX h.n241 hx (xF (hvs.2 v (List.mem_of_getElem? hv)))) rfl ?_
        refine sh ?_
        refine cS (fun h5=> ?_) (fun h5=> ?_)
        ·rw[if_pos (by rw[jK hv hk.2 h5]; exact h5),jK hv hk.2 h5]at hq
         subst hq
         refine sh ?_
         exact rM [0,1,2]
        ·refine sh ?_
         refine lz (k+1) ?_ ?_
         ·refine⟨by omega,fun j u hj hu=> ?_⟩
          by_cases e:j=k
          ·subst e
           rw[hv]at hu
           cases hu
           exact h5
          ·exact hk.2 j u (by omega) hu
         ·omega
       ·rw[mD (fun j u hj=>hk.2 j u (by omega)),if_neg (by simp)]at hq
        refine sh ?_
        refine ae.pure h.lA.AX.hb (Eg h.lA x) rfl ?_
        refine sh ?_
        refine Qb fun i=> ?_
        rw[hi]
        dsimp only[Option.map_none]
        subst hq
        refine sh ?_
        refine rM [0,1,2] ?_
        all_goals repeat' (first|exact True.intro|refine And.intro ?_ ?_|(intro _u; clear _u)|(with_reducible first|exact ai.fg|refine eM ?_ ?_|refine eF ?_ ?_ ?_|refine eN ?_|refine eL ?_ ?_ ?_|refine eA ?_ ?_|refine ap.mk ⟨_,hp,rfl⟩ ?_ ?_)|refine ap.mk ⟨_,hp,rfl⟩ ?_ ?_)
        all_goals try first|with_reducible rfl|omega|exact .inl (by decide)|(simp; done)|rfl
        all_goals (simp[cD,In.row])
end Go.UM
namespace Go.UM
open Go.AM
set_option maxRecDepth 4000
theorem Cp (x r:In):kB [.int .i64 x.aT,.int .i64 x.dr,.int .i64 x.ct,.int .i64 x.n] r.row=be x r:=by
 show (x.aT==r.aT&&(x.dr==r.dr&&(x.ct==r.ct&&(x.n==r.n&&true))))=_
 rw[Bool.and_true]; rfl
theorem zn (x:In):∀l:List In,∃i:Nat,bL [.int .i64 x.aT,.int .i64 x.dr,.int .i64 x.ct,.int .i64 x.n] (cD l)=(dZ l x).map (fun r=>(i,r.t.row))∧((dZ l x).isSome=true→(cD l).eraseIdx i=cD (l.eraseP (be x)))
 |[]=>⟨0,rfl,fun h=>by simp[dZ]at h⟩
 |r::l=>by
  obtain⟨i,hi,he⟩:=zn x l
  by_cases hh:be x r=true
  ·refine⟨0,?_,fun _=> ?_⟩
   ·show (if kB [.int .i64 x.aT,.int .i64 x.dr,.int .i64 x.ct,.int .i64 x.n] r.row then some (0,r.row.drop 4)else _)=_
    rw[Cp,if_pos hh]; simp only[dZ,List.find?_cons,hh]; rfl
   ·rw[List.eraseP_cons_of_pos hh]; rfl
  ·refine⟨i+1,?_,fun h=> ?_⟩
   ·show (if kB [.int .i64 x.aT,.int .i64 x.dr,.int .i64 x.ct,.int .i64 x.n] r.row then some (0,r.row.drop 4)else (bL _ (cD l)).map fun q=>(q.1+1,q.2))=_
    rw[Cp,if_neg hh,hi]; simp only[dZ,List.find?_cons,hh]
    cases List.find? (fun y=>be x y) l<;>rfl
   ·rw[List.eraseP_cons_of_neg hh]
    have h':(dZ l x).isSome=true:=by simpa[dZ,List.find?_cons,hh]using h
    show r.row::(cD l).eraseIdx i=r.row::cD (l.eraseP (be x))
    rw[he h']
theorem aaJ {x:In} {l:List In} {K:Option (Nat × List AV)→Prop} (k:∀i:Nat,((dZ l x).isSome=true→(cD l).eraseIdx i=cD (l.eraseP (be x)))→K ((dZ l x).map fun r=>(i,r.t.row))):Ix [.i,.i,.i,.i] [.int .i64 x.aT,.int .i64 x.dr,.int .i64 x.ct,.int .i64 x.n] (cD l) K:=by
 obtain⟨i,hi,he⟩:=zn x l
 exact⟨Ht,by rw[hi]; exact k i he⟩
def l8 (t:Tb) (x:In):Tb × Int:=if (dZ t.ins x).isSome=true then (⟨t.rows,t.ins.eraseP (be x)⟩,0)else (t,11)
theorem KY {R:Env} (h:OM R) (d1 d2:Bool) (t:Tb) (x:In):R.Mc 427 [.loc 2 1 0 0,.agg x.row] (eb R d1 d2 t) (.int .i64 (l8 t x).2) (eb R d1 false (l8 t x).1) 3:=
 h.aad.bC 100 3 rfl rfl rfl fun X bb hfit hp=>by
  generalize hq:l8 t x=q
  unfold l8 at hq
  unfold eb
  refine sh ?_
  refine cM false [0,1,2] (k6 h.jQ d1 d2 t) ?_
  repeat (intro _; first|refine eK ?_|refine eP ?_)
  refine sh ?_
  refine ae.pure h.lA.AX.hb (Eg h.lA x) rfl ?_
  refine sh ?_
  refine Qb fun i=> ?_
  cases hr:dZ t.ins x with
  |none=>
   rw[hr,if_neg (by simp)]at hq
   dsimp only[Option.map_none]
   subst hq
   refine sh ?_
   exact rM [0,1,2]
  |some y=>
   rw[hr,if_pos (show (some y).isSome=true from rfl)]at hq
   dsimp only[Option.map_some]
   refine sh ?_
   refine ae.pure h.lA.AX.hb (Eg h.lA x) rfl ?_
   refine sh ?_
   refine aaJ fun i he=> ?_
   rw[hr]at he ⊢
   dsimp only[Option.map_some]
   subst hq
   refine sh ?_
   refine rM [0,1,2] ?_
   all_goals repeat' (first|exact True.intro|refine And.intro ?_ ?_|(intro _u; clear _u)|(with_reducible first|exact ai.fg|refine eM ?_ ?_|refine eF ?_ ?_ ?_|refine eN ?_|refine eL ?_ ?_ ?_|refine eA ?_ ?_|refine ap.mk ⟨_,hp,rfl⟩ ?_ ?_)|refine ap.mk ⟨_,hp,rfl⟩ ?_ ?_)
   all_goals try first|with_reducible rfl|omega|exact .inl (by decide)|(simp; done)|rfl
   all_goals (exact he rfl)
theorem Ek {q:Nat × List AV} {es es':List (List AV)} {dn:Dn} {K:List (List AV)→Dn→Prop} (h:es.eraseIdx q.1=es') (k:K es' (dn.dl q.1)):I7 (some q) es dn K:=by subst h; exact k
def fP (hd:Int) (x:In):Bool:=(x.aT==hd||x.dr==hd)||x.ct==hd
theorem Qd {R:Env} (h:J8 R) (hd:Int) (x:In):R.Mc 437 [.agg [.int .i64 x.aT,.int .i64 x.dr,.int .i64 x.ct,.int .i64 x.n],.agg x.t.row,.loc 0 1 0 0] [(0,.var (R.ty 10) [.int .i64 hd])] (.bool (fP hd x)) [(0,.var (R.ty 10) [.int .i64 hd])] 1:=
 h.aae.bC 100 1 rfl rfl rfl fun X bb hfit hp=>by
  generalize hq:fP hd x=q
  unfold fP at hq
  refine sh ?_
  refine cS (fun h1=> ?_) (fun h1=> ?_)
  ·rw[beq_iff_eq.2 h1,Bool.true_or,Bool.true_or]at hq
   subst hq
   refine sh ?_
   exact rM [0]
  ·rw[beq_eq_false_iff_ne.2 h1,Bool.false_or]at hq
   refine sh ?_
   refine cS (fun h2=> ?_) (fun h2=> ?_)
   ·rw[beq_iff_eq.2 h2,Bool.true_or]at hq
    subst hq
    refine sh ?_
    exact rM [0]
   ·rw[beq_eq_false_iff_ne.2 h2,Bool.false_or]at hq
    subst hq
    refine sh ?_
    exact rM [0]
theorem vX:∀ {l:List In} {i:Nat} {x:In},l.Pairwise (fun a b=>be a b=false)→l[i]? =some x→bL [.int .i64 x.aT,.int .i64 x.dr,.int .i64 x.ct,.int .i64 x.n] (cD l)=some (i,x.t.row)
 |[],i,x,_,h=>by simp at h
 |r::l,0,x,_,h=>by
  simp at h; subst h
  show (if kB [.int .i64 r.aT,.int .i64 r.dr,.int .i64 r.ct,.int .i64 r.n] r.row then some (0,r.row.drop 4)else _)=_
  rw[Cp,if_pos (by simp[be])]; rfl
 |r::l,i+1,x,hd,h=>by
  obtain⟨h1,h2⟩:=List.pairwise_cons.1 hd
  have hx:l[i]? =some x:=by simpa using h
  have hn:be x r=false:=by
   have:=h1 x (List.mem_of_getElem? hx)
   unfold be at this ⊢
   rw[←this]
   congr 1; exact Bool.beq_comm
   congr 1; exact Bool.beq_comm
   congr 1; exact Bool.beq_comm
   exact Bool.beq_comm
  show (if kB [.int .i64 x.aT,.int .i64 x.dr,.int .i64 x.ct,.int .i64 x.n] r.row then some (0,r.row.drop 4)else (bL _ (cD l)).map fun q=>(q.1+1,q.2))=_
  rw[Cp,if_neg (by rw[hn]; simp),vX h2 hx]; rfl
theorem Wh {x:In} {l:List In} {i:Nat} {K:Option (Nat × List AV)→Prop} (hd:l.Pairwise (fun a b=>be a b=false)) (hx:l[i]? =some x) (k:K (some (i,x.t.row))):Ix [.i,.i,.i,.i] [.int .i64 x.aT,.int .i64 x.dr,.int .i64 x.ct,.int .i64 x.n] (cD l) K:=
 ⟨Ht,by rw[vX hd hx]; exact k⟩
def nF (l:List Bool):Nat:=l.countP fun b=> !b
theorem xG {l:List Bool} {i:Nat} (h:l[i]? =some false):nF (l.set i true)+1=nF l:=by
 unfold nF
 induction l generalizing i with
 |nil=>simp at h
 |cons a r ih=>
  cases i with
  |zero=>simp at h; subst h; simp
  |succ i=>
   have:=ih (i:=i) (by simpa using h)
   simp only[List.set_cons_succ,List.countP_cons]; omega
theorem Hy {l:List Bool} {i:Nat} (h:l[i]? =some true):nF (l.eraseIdx i)=nF l:=by
 unfold nF
 induction l generalizing i with
 |nil=>simp at h
 |cons a r ih=>
  cases i with
  |zero=>simp at h; subst h; simp
  |succ i=>
   have:=ih (i:=i) (by simpa using h)
   simp only[List.eraseIdx_cons_succ,List.countP_cons]; omega
structure EU (p:In→Bool) (l0 l:List In) (sn:List Bool):Prop where
 len:sn.length=l.length
 fl:l.filter (fun x=> !p x)=l0.filter (fun x=> !p x)
 nd:l.Pairwise (fun a b=>be a b=false)
 sn:∀ (i:Nat) (x:In),l[i]? =some x→sn[i]? =some true→p x=false
theorem EU.init {p:In→Bool} {l0:List In} (hd:l0.Pairwise (fun a b=>be a b=false)):EU p l0 l0 ((cD l0).map fun _=>false):=
 ⟨by simp,rfl,hd,fun i x _ h=>by simp[List.getElem?_map]at h⟩
theorem EU.so {p:In→Bool} {l0 l:List In} {sn:List Bool} {i:Nat} {x:In} (h:EU p l0 l sn) (hx:l[i]? =some x) (hp:p x=false):EU p l0 l (sn.set i true):=by
 refine⟨by rw[List.length_set]; exact h.len,h.fl,h.nd,fun j y hy hs=> ?_⟩
 by_cases e:i=j
 ·subst e; rw[hx]at hy; cases hy; exact hp
 ·exact h.sn j y hy (by rw[List.getElem?_set_ne e]at hs; exact hs)
theorem EU.drop {p:In→Bool} {l0 l:List In} {sn:List Bool} {i:Nat} {x:In} (h:EU p l0 l sn) (hx:l[i]? =some x) (hp:p x=true):EU p l0 (l.eraseIdx i) ((sn.set i true).eraseIdx i):=by
 have hi:i<l.length:=(List.getElem?_eq_some_iff.1 hx).1
 refine⟨?_,?_,h.nd.sublist (List.eraseIdx_sublist _ _),fun j y hy hs=> ?_⟩
 ·rw[List.length_eraseIdx,List.length_eraseIdx,List.length_set,h.len]
 ·rw[←h.fl]
  have e1:l=l.take i++x::l.drop (i+1):=by
   rw[←(List.getElem?_eq_some_iff.1 hx).2,List.getElem_cons_drop,List.take_append_drop]
  have e2:l.eraseIdx i=l.take i++l.drop (i+1):=List.eraseIdx_eq_take_drop_succ ..
  rw[e2]
  conv=>rhs; rw[e1]
  simp[List.filter_append,List.filter_cons,hp]
 ·rw[List.getElem?_eraseIdx]at hy hs
  split at hy
  ·rename_i hlt
   rw[if_pos hlt,List.getElem?_set_ne (by omega)]at hs
   exact h.sn j y hy hs
  ·rename_i hlt
   rw[if_neg hlt,List.getElem?_set_ne (by omega)]at hs
   exact h.sn (j+1) y hy hs
theorem EU.done {p:In→Bool} {l0 l:List In} {sn:List Bool} (h:EU p l0 l sn) (ha:∀q ∈ sn,q=true):l=l0.filter (fun x=> !p x):=by
 rw[←h.fl,List.filter_eq_self.2]
 intro x hx
 obtain⟨i,hi,rfl⟩:=List.getElem_of_mem hx
 have hi':i<sn.length:=by rw[h.len]; exact hi
 rw[h.sn i l[i] (List.getElem?_eq_getElem hi) (by rw[List.getElem?_eq_getElem hi',ha _ (List.getElem_mem hi')])]; rfl
theorem Bl {l:List In} {i:Nat} {row:List AV} (h:(cD l)[i]? =some row):∃x,l[i]? =some x∧row=x.row:=by
 unfold cD at h
 rw[List.getElem?_map]at h
 obtain⟨x,h1,h2⟩:=Option.map_eq_some_iff.1 h
 exact⟨x,h1,h2.symm⟩
theorem vY (l:List In) (i:Nat):(cD l).eraseIdx i=cD (l.eraseIdx i):=(Go.ChangeMaps.map_eraseIdx _ _ _).symm
theorem El {R:Env} (h:NN R) (k:J8 R) (d2:Bool) (l:List In) (nd:l.Pairwise (fun a b=>be a b=false)) (hd:Int):R.Mc 438 [.omap 0,.bR (.fn (R.ft 437)) [.loc 1 1 0 0]] [(0,.map 4 true true d2 16 (cD l)),(1,.var (R.ty 10) [.int .i64 hd])] (.aP []) [(0,.map 4 true true false 16 (cD (l.filter fun x=> !fP hd x))),(1,.var (R.ty 10) [.int .i64 hd])] 2:=
 h.ZK.bC 100 2 rfl rfl rfl fun X bb hfit hp=>by
  refine sh ?_
  refine⟨fun r=> ?_⟩
  refine sh ?_
  refine gW 100 (fun s:List In × List Bool × Option Nat=>EU (fP hd) l s.1 s.2.1) (fun s=>⟨[(0,.omap 0),(1,.bR (.fn (R.ft 437)) [.loc 1 1 0 0]),(7,.mS 0 r)],[(0,.map 4 true true (.it r s.2.1 s.2.2) 16 (cD s.1)),(1,.var (R.ty 10) [.int .i64 hd])],2⟩) (fun s=>nF s.2.1) ((l,(cD l).map fun _=>false,none)) ?_ ?_
  ·exact EU.init nd
  ·rintro⟨l',sn,la⟩ hs
   dsimp only at hs ⊢
   refine sh ?_
   refine⟨rfl,fun h1 h2=> ?_,fun i row h1 h2 h3=> ?_⟩
   ·have e:=hs.done h1
    subst e
    refine sh ?_
    exact rM [0,1]
   ·obtain⟨x,hx,rfl⟩:=Bl h1
    refine sh ?_
    refine⟨⟨rfl,i,x.row,rfl,h1,?_⟩⟩
    refine sh ?_
    refine cM false [1] (Qd k hd x) ?_
    repeat (intro _; first|refine eK ?_|refine eP ?_)
    refine sh ?_
    refine cS (fun h4=> ?_) (fun h4=> ?_)
    ·refine sh ?_
     refine Wh hs.nd hx ?_
     refine sh ?_
     refine nX ((l'.eraseIdx i,(sn.set i true).eraseIdx i,none)) ?_ ?_ ⟨_,hp,rfl⟩ ?_ ?_
     ·exact hs.drop hx h4
     ·have e1:=xG h2
      have e2:=Hy (l:=sn.set i true) (i:=i) (by rw[List.getElem?_set_self (List.getElem?_eq_some_iff.1 h2).1])
      show nF ((sn.set i true).eraseIdx i)<nF sn
      omega
     ·all_goals repeat' (first|exact True.intro|refine And.intro ?_ ?_|(intro _u; clear _u)|(with_reducible first|exact ai.fg|refine eM ?_ ?_|refine eF ?_ ?_ ?_|refine eN ?_|refine eL ?_ ?_ ?_|refine eA ?_ ?_|refine ap.mk ⟨_,hp,rfl⟩ ?_ ?_)|refine ap.mk ⟨_,hp,rfl⟩ ?_ ?_)
      all_goals try first|with_reducible rfl|omega|exact .inl (by decide)|(simp; done)|rfl
     ·all_goals repeat' (first|exact True.intro|refine And.intro ?_ ?_|(intro _u; clear _u)|(with_reducible first|exact ai.fg|refine eM ?_ ?_|refine eF ?_ ?_ ?_|refine eN ?_|refine eL ?_ ?_ ?_|refine eA ?_ ?_|refine ap.mk ⟨_,hp,rfl⟩ ?_ ?_)|refine ap.mk ⟨_,hp,rfl⟩ ?_ ?_)
      all_goals try first|with_reducible rfl|omega|exact .inl (by decide)|(simp; done)|rfl
      all_goals first|exact vY l' i|(right; show mz ((cD l').eraseIdx i); rw[vY]; simp)
    ·refine sh ?_
     refine lz ((l',sn.set i true,some i)) ?_ ?_
     ·exact hs.so hx h4
     ·have e1:=xG h2
      show nF (sn.set i true)<nF sn
      omega
theorem vZ (h:Int):∀l:List Rw,∃i:Nat,bL [.int .i64 h] (hJ l)=(aW l h).map (fun r=>(i,r.row))∧((aW l h).isSome=true→(hJ l).eraseIdx i=hJ (l.eraseP fun r=>r.h==h))
 |[]=>⟨0,rfl,fun h=>by simp[aW]at h⟩
 |r::l=>by
  obtain⟨i,hi,he⟩:=vZ h l
  have e:kB [.int .i64 h] (uT r)=(r.h==h):=by
   show ((h==r.h)&&true)=_
   rw[Bool.and_true]; exact Bool.beq_comm
  by_cases hh:(r.h==h)=true
  ·refine⟨0,?_,fun _=> ?_⟩
   ·show (if kB [.int .i64 h] (uT r)then some (0,(uT r).drop 1)else _)=_
    rw[e,if_pos hh]; simp only[aW,List.find?_cons,hh]; rfl
   ·rw[List.eraseP_cons_of_pos (p:=fun r:Rw=>r.h==h) hh]; rfl
  ·refine⟨i+1,?_,fun k=> ?_⟩
   ·show (if kB [.int .i64 h] (uT r)then some (0,(uT r).drop 1)else (bL [.int .i64 h] (hJ l)).map fun q=>(q.1+1,q.2))=_
    rw[e,if_neg hh,hi]; simp only[aW,List.find?_cons,hh]
    cases List.find? (fun r=>r.h==h) l<;>rfl
   ·rw[List.eraseP_cons_of_neg (p:=fun r:Rw=>r.h==h) hh]
    have k':(aW l h).isSome=true:=by simpa[aW,List.find?_cons,hh]using k
    show uT r::(hJ l).eraseIdx i=uT r::hJ (l.eraseP fun r=>r.h==h)
    rw[he k']
theorem Wi {h:Int} {l:List Rw} {K:Option (Nat × List AV)→Prop} (k:∀i:Nat,((aW l h).isSome=true→(hJ l).eraseIdx i=hJ (l.eraseP fun r=>r.h==h))→K ((aW l h).map fun r=>(i,r.row))):Ix [.i] [.int .i64 h] (hJ l) K:=by
 obtain⟨i,hi,he⟩:=vZ h l
 exact⟨Hs,by rw[hi]; exact k i he⟩
def fq (t:Tb) (hd:Int):Tb × Int:=if (aW t.rows hd).isSome=true then (⟨t.rows.eraseP fun r=>r.h==hd,t.ins.filter fun x=> !fP hd x⟩,0)else (t,11)
theorem Em {R:Env} (h:ON R) (d1 d2:Bool) (t:Tb) (nd:t.ins.Pairwise (fun a b=>be a b=false)) (hd:Int):R.Mc 428 [.loc 2 1 0 0,.int .i64 hd] (eb R d1 d2 t) (.int .i64 (fq t hd).2) (eb R false false (fq t hd).1) 3:=
 h.aaf.bC 100 3 rfl rfl rfl fun X bb hfit hp=>by
  generalize hq:fq t hd=q
  unfold fq at hq
  unfold eb
  refine sh ?_
  refine cM false [0,1,2] (k6 h.jQ d1 d2 t) ?_
  repeat (intro _; first|refine eK ?_|refine eP ?_)
  refine sh ?_
  refine n1 fun i=> ?_
  cases hr:aW t.rows hd with
  |none=>
   rw[hr,if_neg (by simp)]at hq
   dsimp only[Option.map_none]
   subst hq
   refine sh ?_
   exact rM [0,1,2]
  |some y=>
   rw[hr,if_pos (show (some y).isSome=true from rfl)]at hq
   dsimp only[Option.map_some]
   refine sh ?_
   refine Wi fun i he=> ?_
   rw[hr]at he ⊢
   dsimp only[Option.map_some]
   refine Ek (he rfl) ?_
   refine sh ?_
   refine cM false [1,3] (El h.OP h.OO d2 t.ins nd hd) ?_
   repeat (intro _; first|refine eK ?_|refine eP ?_)
   subst hq
   refine sh ?_
   exact rM [0,1,2]
end Go.UM
