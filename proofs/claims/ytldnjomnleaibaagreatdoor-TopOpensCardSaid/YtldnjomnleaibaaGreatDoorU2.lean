/- Of the reckoning machine, and what is proved with it: texts joined by program. -/
import Derived.Test.YtldnjomnleaibaaGreatDoorU1
import Derived.Test.YtldnjomnleaibaaGreatDoorU0
import Derived.Test.YtldnjomnleaibaaGreatDoorK3
set_option linter.all false
namespace Go.UM
open Go.AM
set_option maxRecDepth 4000
variable {B:List UInt8->List UInt8->Int->List UInt8} {U:List UInt8->List UInt8->List UInt8->List UInt8->List UInt8}
def gx(B:List UInt8->List UInt8->Int->List UInt8)(U:List UInt8->List UInt8->List UInt8->List UInt8->List UInt8)(k n mark p:List UInt8):Nat->List UInt8
 |0=>[]
 |j+1=>gx B U k n mark p j++xy B U k n mark j ((p.drop (256*j)).take 256)
structure xz:Prop where
 len:∀i m:Nat,i<65536->m<65536->(fI i m).length=4
 err:∀i m:Nat,i<65536->m<65536->(gW [] 2 [(i:Int),(m:Int)]).2=0
theorem sf:xz:=by
 have key:∀i m:Nat,i<65536->m<65536->gW [] 2 [(i:Int),(m:Int)]=([]++ [(i:Int),(m:Int)].flatMap (enc (2:Int).toNat),0):=by
  intro i m hi hm
  unfold gW
  rw[if_neg (by omega),if_neg]
  have e:(256:Int) ^ (2:Int).toNat=65536:=rfl
  simp only[e,List.any_cons,List.any_nil,Bool.or_false,Bool.or_eq_true,decide_eq_true_eq]
  omega
 refine⟨fun i m hi hm=> ?_,fun i m hi hm=> ?_⟩
 ·rw[fI,key i m hi hm,List.nil_append,mB]; rfl
 ·rw[key i m hi hm]
theorem zR{R:Env}(BC:jU R B)(UC:qm R U)(FO:xz)(k n mark:List UInt8)(i:Nat)(b:List UInt8)(hi:i<65536)(hb:b.length<=256):(xy B U k n mark i b).length=b.length+20:=by
 rw[xy,List.length_append,FO.len _ _ hi (by omega),fu BC UC]; omega
theorem lm{R:Env}(BC:jU R B)(UC:qm R U)(FO:xz)(k n mark p:List UInt8):∀j,j<=65536->(gx B U k n mark p j).length<=276*j
 |0,_=>by simp[gx]
 |j+1,h=>by
  have h1:=lm BC UC FO k n mark p j (by omega)
  have h2:=zR BC UC FO k n mark j ((p.drop (256*j)).take 256) (by omega) (by simp; omega)
  have h3:((p.drop (256*j)).take 256).length<=256:=by simp; omega
  rw[gx,List.length_append]; omega
theorem BI(p:List UInt8)(j:Nat):(aq (p.drop (256*j))).drop ((((p.drop (256*j)).take 256).length:Nat):Int).toNat=aq (p.drop (256* (j+1))):=by
 have e:(aq (p.drop (256*j))).drop ((((p.drop (256*j)).take 256).length:Nat):Int).toNat=aq ((p.drop (256*j)).drop ((p.drop (256*j)).take 256).length):=by simp[aq]
 rw[e,List.drop_drop]
 by_cases h:256* (j+1)<=p.length
 ·rw[show 256*j+ ((p.drop (256*j)).take 256).length=256* (j+1) by simp; omega]
 ·rw[List.drop_of_length_le (by simp; omega),List.drop_of_length_le (by omega)]
theorem KY{R:Env}(h:GZ R)(h5:OJ R)(BC:jU R B)(UC:qm R U)(FO:xz){l:Nat}{r:Loop}(hlp:A7 R r mz)(k n mark out p:List UInt8)(hk:k.length=32)(hn:n.length=8)(hm:mark.length=16)(ho:out.length<=1000)(R3:p.length<=16000000):
  Wc (GD R.P (R.ft 565) l r) [.bL (.lp l (qe r mz.ss)) [.loc 0 1 0 0,.be (n.map b8) 0,.loc 1 1 0 0,.loc 2 1 0 0],.loc 4 1 0 0] [(0,.var (R.ty 63) (k.map b8)),(1,.var (R.ty 51) [.bi 3 out.length]),(2,.var (R.ty 51) [.aH 1 (aq mark)]),(3,.arr (R.ty 4) 1 (aq out)),(4,.var (R.ty 51) [.aH 1 (aq p)])] (.aG [])
   [(0,.var (R.ty 63) (k.map b8)),(1,.var (R.ty 51) [.bi 3 (out++gx B U k n mark p ((p.length+255) / 256)).length]),(2,.var (R.ty 51) [.aH 1 (aq mark)]),(3,.arr (R.ty 4) 1 (aq (out++gx B U k n mark p ((p.length+255) / 256)))),(4,.var (R.ty 51) [.aH 1 []])] 5:=by
 obtain⟨k0,k1,k2,k3,k4,k5,k6,k7,k8,k9,eo,ep,eu,ez,eB,eC,eD,eE,eG,eH,eJ,eQ,eR,eT,eU,eV,eW,eX,eY,fe,fh,fi,rfl⟩:=cz hk
 obtain⟨n0,n1,n2,n3,n4,n5,n6,n7,rfl⟩:=ww hn
 exact h5.UO.Nj 200 5 rfl rfl rfl fun X bb hfit hp hX=>by
  refine sh ?_
  refine az.inv 100 (fun j:Nat=>256*j<p.length+256) (fun j=>⟨[(0,.bL (.lp l (qe r mz.ss)) [.loc 0 1 0 0,.be ([n0,n1,n2,n3,n4,n5,n6,n7].map b8) 0,.loc 1 1 0 0,.loc 2 1 0 0]),(1,.loc 4 1 0 0),(3,.int .i64 j)],[(0,.var (R.ty 63) ([k0,k1,k2,k3,k4,k5,k6,k7,k8,k9,eo,ep,eu,ez,eB,eC,eD,eE,eG,eH,eJ,eQ,eR,eT,eU,eV,eW,eX,eY,fe,fh,fi].map b8)),(1,.var (R.ty 51) [.bi 3 (out++gx B U [k0,k1,k2,k3,k4,k5,k6,k7,k8,k9,eo,ep,eu,ez,eB,eC,eD,eE,eG,eH,eJ,eQ,eR,eT,eU,eV,eW,eX,eY,fe,fh,fi] [n0,n1,n2,n3,n4,n5,n6,n7] mark p j).length]),(2,.var (R.ty 51) [.aH 1 (aq mark)]),(3,.arr (R.ty 4) 1 (aq (out++gx B U [k0,k1,k2,k3,k4,k5,k6,k7,k8,k9,eo,ep,eu,ez,eB,eC,eD,eE,eG,eH,eJ,eQ,eR,eT,eU,eV,eW,eX,eY,fe,fh,fi] [n0,n1,n2,n3,n4,n5,n6,n7] mark p j))),(4,.var (R.ty 51) [.aH 1 (aq (p.drop (256*j)))])],5⟩) (fun j=>p.length+256 - 256*j) (0) ?_ ⟨⟨_,hp,rfl⟩,?_,?_⟩ ?_
  ·omega
  ·all_goals repeat' (first|exact True.intro|refine And.intro ?_ ?_|(intro _u; clear _u)|(with_reducible first|exact aU.fg|refine eM ?_ ?_|refine eF ?_ ?_ ?_|refine eN ?_|refine eL ?_ ?_ ?_|refine eA ?_ ?_|refine bp.mk ⟨_,hp,rfl⟩ ?_ ?_)|refine bp.mk ⟨_,hp,rfl⟩ ?_ ?_)
   all_goals try first|with_reducible rfl|omega|exact .inl (by decide)|(simp; done)|rfl
  ·all_goals repeat' (first|exact True.intro|refine And.intro ?_ ?_|(intro _u; clear _u)|(with_reducible first|exact aU.fg|refine eM ?_ ?_|refine eF ?_ ?_ ?_|refine eN ?_|refine eL ?_ ?_ ?_|refine eA ?_ ?_|refine bp.mk ⟨_,hp,rfl⟩ ?_ ?_)|refine bp.mk ⟨_,hp,rfl⟩ ?_ ?_)
   all_goals try first|with_reducible rfl|omega|exact .inl (by decide)|(simp; done)|rfl
   all_goals simp[gx]
  ·intro j hj
   dsimp only
   refine sh ?_
   refine cS (fun h1=> ?_) (fun h1=> ?_)
   ·have h2:256*j<p.length:=by simp at h1; omega
    have hcl:((p.drop (256*j)).take 256).length<=256:=by simp; omega
    have HS:min (((p.drop (256*j)).length:Nat):Int) 256=(((p.drop (256*j)).take 256).length:Nat):=by simp; omega
    have hcs:=lm BC UC FO [k0,k1,k2,k3,k4,k5,k6,k7,k8,k9,eo,ep,eu,ez,eB,eC,eD,eE,eG,eH,eJ,eQ,eR,eT,eU,eV,eW,eX,eY,fe,fh,fi] [n0,n1,n2,n3,n4,n5,n6,n7] mark p j (by omega)
    refine sh ?_
    rw[HS]
    refine br (show _=aq ((p.drop (256*j)).take 256) by simp[aq,List.map_take,List.take_take]) ?_
    refine sh ?_
    refine cY false [0,1,2,3] hX hlp (H4 h BC UC hlp [k0,k1,k2,k3,k4,k5,k6,k7,k8,k9,eo,ep,eu,ez,eB,eC,eD,eE,eG,eH,eJ,eQ,eR,eT,eU,eV,eW,eX,eY,fe,fh,fi] [n0,n1,n2,n3,n4,n5,n6,n7] mark (out++gx B U [k0,k1,k2,k3,k4,k5,k6,k7,k8,k9,eo,ep,eu,ez,eB,eC,eD,eE,eG,eH,eJ,eQ,eR,eT,eU,eV,eW,eX,eY,fe,fh,fi] [n0,n1,n2,n3,n4,n5,n6,n7] mark p j) ((p.drop (256*j)).take 256) j rfl rfl hm hcl (by omega) (by simp; omega) (FO.len _ _ (by omega) (by omega)) (FO.err _ _ (by omega) (by omega))) ?_
    repeat (intro _; first|refine eK ?_|refine eP ?_)
    refine sh ?_
    refine br (by exact BI p j) ?_
    refine sh ?_
    refine nX (j+1) ?_ ?_ ⟨_,hp,rfl⟩ ?_ ?_
    ·omega
    ·omega
    ·all_goals repeat' (first|exact True.intro|refine And.intro ?_ ?_|(intro _u; clear _u)|(with_reducible first|exact aU.fg|refine eM ?_ ?_|refine eF ?_ ?_ ?_|refine eN ?_|refine eL ?_ ?_ ?_|refine eA ?_ ?_|refine bp.mk ⟨_,hp,rfl⟩ ?_ ?_)|refine bp.mk ⟨_,hp,rfl⟩ ?_ ?_)
     all_goals try first|with_reducible rfl|omega|exact .inl (by decide)|(simp; done)|rfl
    ·all_goals repeat' (first|exact True.intro|refine And.intro ?_ ?_|(intro _u; clear _u)|(with_reducible first|exact aU.fg|refine eM ?_ ?_|refine eF ?_ ?_ ?_|refine eN ?_|refine eL ?_ ?_ ?_|refine eA ?_ ?_|refine bp.mk ⟨_,hp,rfl⟩ ?_ ?_)|refine bp.mk ⟨_,hp,rfl⟩ ?_ ?_)
     all_goals try first|with_reducible rfl|omega|exact .inl (by decide)|(simp; done)|rfl
     all_goals (rw[gx]; simp)
   ·have h2:p.length<=256*j:=by simp at h1; omega
    obtain rfl:j=(p.length+255) / 256:=by omega
    rw[List.drop_of_length_le h2]
    refine sh ?_
    exact rM [0,1,2,3,4]
end Go.UM
namespace Go.UM
open Go.AM
set_option maxRecDepth 4000
def Ez(n:Int):Int:=if n<1 then 0 else (n - 1) / 256+1
theorem zS{R:Env}(h:X2 R)(n:Int)(hn:ed .i64 n):R.Pc 39 [.int .i64 n] (.int .i64 (Ez n)):=
 h.o39.enter 60 rfl fun X b hfit hp=>by
  simp only[ed]at hn
  refine sh ?_
  refine cS (fun h1=> ?_) (fun h1=> ?_)
  ·refine sh ?_
   refine rT ?_
   all_goals repeat' (first|exact True.intro|refine And.intro ?_ ?_|(intro _u; clear _u)|(with_reducible first|exact aU.fg|refine eM ?_ ?_|refine eF ?_ ?_ ?_|refine eN ?_|refine eL ?_ ?_ ?_|refine eA ?_ ?_|refine bp.mk ⟨_,hp,rfl⟩ ?_ ?_)|refine bp.mk ⟨_,hp,rfl⟩ ?_ ?_)
   all_goals try first|with_reducible rfl|omega|exact .inl (by decide)|(simp; done)|rfl
   simp[Ez]; omega
  ·refine sh ?_
   rw[Int.tdiv_eq_ediv_of_nonneg (by omega)]
   refine qb (by simp only[ed]; omega) ?_
   refine sh ?_
   refine rT ?_
   all_goals repeat' (first|exact True.intro|refine And.intro ?_ ?_|(intro _u; clear _u)|(with_reducible first|exact aU.fg|refine eM ?_ ?_|refine eF ?_ ?_ ?_|refine eN ?_|refine eL ?_ ?_ ?_|refine eA ?_ ?_|refine bp.mk ⟨_,hp,rfl⟩ ?_ ?_)|refine bp.mk ⟨_,hp,rfl⟩ ?_ ?_)
   all_goals try first|with_reducible rfl|omega|exact .inl (by decide)|(simp; done)|rfl
   simp[Ez]; omega
def Mf.BJ(m:Mf):Bool:=(List.range 8).any fun i=>decide (15<m.jS i)
theorem Mf.H5{m:Mf}{i:Nat}(hi:i<8)(h:15<m.jS i):m.BJ=true:=by
 simp only[Mf.BJ,List.any_eq_true,List.mem_range,decide_eq_true_eq]
 exact⟨i,hi,h⟩
theorem Mf.Qp{m:Mf}(h:∀j,j<8->m.jS j<=15):m.BJ=false:=by
 rw[Bool.eq_false_iff]
 intro hh
 simp only[Mf.BJ,List.any_eq_true,List.mem_range,decide_eq_true_eq]at hh
 obtain⟨i,hi,h1⟩:=hh
 have:=h i hi
 omega
def ej(m:Mf):Int:=if cap m.kind=0 then 12 else if m.BJ=true then 5 else if m.last<m.first\/ m.size<1 then 5 else if cap m.kind<m.size then 9 else if m.chunks≠Ez m.size then 5 else 0
theorem H6{R:Env}(h:X3 R)(m:Mf)(hs:ed .i64 m.size):R.Pc 41 [.agg m.row] (.int .i64 (ej m)):=
 h.X4.enter 100 rfl fun X b hfit hp=>by
  refine sh ?_
  refine aj.pure h.n37.o37.hb (LX h.n37 m.kind) rfl ?_
  refine sh ?_
  refine cS (fun h1=> ?_) (fun h1=> ?_)
  ·refine sh ?_
   refine rT ?_
   all_goals repeat' (first|exact True.intro|refine And.intro ?_ ?_|(intro _u; clear _u)|(with_reducible first|exact aU.fg|refine eM ?_ ?_|refine eF ?_ ?_ ?_|refine eN ?_|refine eL ?_ ?_ ?_|refine eA ?_ ?_|refine bp.mk ⟨_,hp,rfl⟩ ?_ ?_)|refine bp.mk ⟨_,hp,rfl⟩ ?_ ?_)
   all_goals try first|with_reducible rfl|omega|exact .inl (by decide)|(simp; done)|rfl
   simp[ej,h1]
  ·refine sh ?_
   refine mw 100 (fun i:Nat=>i<=8/\∀j,j<i->m.jS j<=15) (fun i=>⟨[(1,.loc 0 1 0 0),(3,.int .i64 (cap m.kind)),(12,.agg [.int .u8 m.m0,.int .u8 m.m1,.int .u8 m.m2,.int .u8 m.m3,.int .u8 m.m4,.int .u8 m.m5,.int .u8 m.m6,.int .u8 m.m7]),(13,.int .i64 i)],[(0,.var (R.ty 2) m.row)],1⟩) (fun i=>8 - i) (0) ?_ ?_
   ·exact⟨by omega,fun j hj=>by omega⟩
   ·rintro i ⟨hi,hm⟩
    dsimp only
    refine sh ?_
    refine cS (fun h2=> ?_) (fun h2=> ?_)
    ·refine sh ?_
     refine Ea (by omega) ?_
     refine sh ?_
     refine cS (fun h3=> ?_) (fun h3=> ?_)
     ·refine sh ?_
      refine rT ?_
      all_goals repeat' (first|exact True.intro|refine And.intro ?_ ?_|(intro _u; clear _u)|(with_reducible first|exact aU.fg|refine eM ?_ ?_|refine eF ?_ ?_ ?_|refine eN ?_|refine eL ?_ ?_ ?_|refine eA ?_ ?_|refine bp.mk ⟨_,hp,rfl⟩ ?_ ?_)|refine bp.mk ⟨_,hp,rfl⟩ ?_ ?_)
      all_goals try first|with_reducible rfl|omega|exact .inl (by decide)|(simp; done)|rfl
      have:m.BJ=true:=Mf.H5 (by omega) h3
      simp[ej,h1,this]
     ·refine sh ?_
      refine yP (i+1) ?_ ?_
      ·refine⟨by omega,fun j hj=> ?_⟩
       by_cases e:j=i
       ·rw[e]; exact h3
       ·exact hm j (by omega)
      ·omega
    ·have hno:m.BJ=false:=Mf.Qp fun j hj=>hm j (by omega)
     refine sh ?_
     refine cS (fun h3=> ?_) (fun h3=> ?_)
     ·refine sh ?_
      refine rT ?_
      all_goals repeat' (first|exact True.intro|refine And.intro ?_ ?_|(intro _u; clear _u)|(with_reducible first|exact aU.fg|refine eM ?_ ?_|refine eF ?_ ?_ ?_|refine eN ?_|refine eL ?_ ?_ ?_|refine eA ?_ ?_|refine bp.mk ⟨_,hp,rfl⟩ ?_ ?_)|refine bp.mk ⟨_,hp,rfl⟩ ?_ ?_)
      all_goals try first|with_reducible rfl|omega|exact .inl (by decide)|(simp; done)|rfl
      simp[ej,h1,hno]; omega
     ·refine sh ?_
      refine cS (fun h4=> ?_) (fun h4=> ?_)
      ·refine sh ?_
       refine rT ?_
       all_goals repeat' (first|exact True.intro|refine And.intro ?_ ?_|(intro _u; clear _u)|(with_reducible first|exact aU.fg|refine eM ?_ ?_|refine eF ?_ ?_ ?_|refine eN ?_|refine eL ?_ ?_ ?_|refine eA ?_ ?_|refine bp.mk ⟨_,hp,rfl⟩ ?_ ?_)|refine bp.mk ⟨_,hp,rfl⟩ ?_ ?_)
       all_goals try first|with_reducible rfl|omega|exact .inl (by decide)|(simp; done)|rfl
       simp[ej,h1,hno,h4]
      ·refine sh ?_
       refine cS (fun h5=> ?_) (fun h5=> ?_)
       ·refine sh ?_
        refine rT ?_
        all_goals repeat' (first|exact True.intro|refine And.intro ?_ ?_|(intro _u; clear _u)|(with_reducible first|exact aU.fg|refine eM ?_ ?_|refine eF ?_ ?_ ?_|refine eN ?_|refine eL ?_ ?_ ?_|refine eA ?_ ?_|refine bp.mk ⟨_,hp,rfl⟩ ?_ ?_)|refine bp.mk ⟨_,hp,rfl⟩ ?_ ?_)
        all_goals try first|with_reducible rfl|omega|exact .inl (by decide)|(simp; done)|rfl
        simp[ej,h1,hno]; omega
       ·refine sh ?_
        refine aj.pure h.n39.o39.hb (zS h.n39 m.size hs) rfl ?_
        refine sh ?_
        refine cS (fun h6=> ?_) (fun h6=> ?_)
        ·refine sh ?_
         refine rT ?_
         all_goals repeat' (first|exact True.intro|refine And.intro ?_ ?_|(intro _u; clear _u)|(with_reducible first|exact aU.fg|refine eM ?_ ?_|refine eF ?_ ?_ ?_|refine eN ?_|refine eL ?_ ?_ ?_|refine eA ?_ ?_|refine bp.mk ⟨_,hp,rfl⟩ ?_ ?_)|refine bp.mk ⟨_,hp,rfl⟩ ?_ ?_)
         all_goals try first|with_reducible rfl|omega|exact .inl (by decide)|(simp; done)|rfl
         simp[ej,h1,hno,h6]; omega
        ·refine sh ?_
         refine rT ?_
         all_goals repeat' (first|exact True.intro|refine And.intro ?_ ?_|(intro _u; clear _u)|(with_reducible first|exact aU.fg|refine eM ?_ ?_|refine eF ?_ ?_ ?_|refine eN ?_|refine eL ?_ ?_ ?_|refine eA ?_ ?_|refine bp.mk ⟨_,hp,rfl⟩ ?_ ?_)|refine bp.mk ⟨_,hp,rfl⟩ ?_ ?_)
         all_goals try first|with_reducible rfl|omega|exact .inl (by decide)|(simp; done)|rfl
         simp[ej,h1,hno,h6]; omega
end Go.UM
namespace Go.UM
open Go.AM
set_option maxRecDepth 4000
theorem KZ{b:List UInt8}{w x:Int}(h1:1<=w)(h2:w<=8)(hx:0<=x/\x<256 ^ w.toNat):gW b w [x]=(b++enc w.toNat x,0):=by
 rw[r6 h1 h2 (by simpa using hx)]; simp
theorem ab1{b:List UInt8}{w x y z:Int}(h1:1<=w)(h2:w<=8)(hx:0<=x/\x<256 ^ w.toNat)(hy:0<=y/\y<256 ^ w.toNat)(hz:0<=z/\z<256 ^ w.toNat):gW b w [x,y,z]=(b++enc w.toNat x++enc w.toNat y++enc w.toNat z,0):=by
 rw[r6 h1 h2 (by simpa using⟨hx,hy,hz⟩)]; simp
theorem iN(w:Nat)(x:Int):(enc w x).length=w:=by simp[enc]
def Mf.dB(m:Mf):List UInt8:=[u8 m.m0,u8 m.m1,u8 m.m2,u8 m.m3,u8 m.m4,u8 m.m5,u8 m.m6,u8 m.m7]
def Mf.head(m:Mf):List UInt8:=enc 8 m.id++enc 1 m.kind++enc 4 m.label
def Mf.tail(m:Mf):List UInt8:=enc 4 m.first++(enc 4 m.last++(enc 4 m.size++enc 2 m.chunks))
def Mf.enc(m:Mf):List UInt8:=m.head++m.dB++m.tail
def mM(m:Mf):List UInt8 × Int:=if ej m=0 then (m.enc,0)else ([],ej m)
theorem Mf.iN(m:Mf):m.enc.length=35:=by simp[Mf.enc,Mf.head,Mf.dB,Mf.tail,UM.iN]
structure Mf.IB(m:Mf):Prop where
 kind:1<=m.kind/\m.kind<=4
 jS:∀i,i<8->m.jS i<=15
 span:m.first<=m.last
 size:1<=m.size/\m.size<=2048
 chunks:m.chunks=Ez m.size
theorem Cv{m:Mf}(h:ej m=0):m.IB:=by
 unfold ej at h
 split at h
 ·cases h
 ·rename_i h1
  split at h
  ·cases h
  ·rename_i h2
   split at h
   ·cases h
   ·rename_i h3
    split at h
    ·cases h
    ·rename_i h4
     split at h
     ·cases h
     ·rename_i h5
      refine⟨?_,?_,by omega,?_,by simpa using h5⟩
      ·unfold cap at h1
       repeat' split at h1
       all_goals omega
      ·intro i hi
       rcases Int.lt_or_le 15 (m.jS i)with h6|h6
       ·exact absurd (Mf.H5 hi h6) h2
       ·exact h6
      ·unfold cap at h4 h1
       repeat' split at h4
       all_goals omega
theorem Mf.IB.L6{m:Mf}(h:m.IB):0<=m.chunks/\m.chunks<=8:=by
 rw[h.chunks]; have:=h.size; unfold Ez; omega
theorem EA{m:Mf}(ok:m.Ok)(b:List UInt8):aq b++ [[AV.int .u8 m.m0],[AV.int .u8 m.m1],[AV.int .u8 m.m2],[AV.int .u8 m.m3],[AV.int .u8 m.m4],[AV.int .u8 m.m5],[AV.int .u8 m.m6],[AV.int .u8 m.m7]]=aq (b++m.dB):=by
 have h:=ok.jS
 have h0:((u8 m.m0).toNat:Int)=m.m0:=u8_in (h 0)
 have h1:((u8 m.m1).toNat:Int)=m.m1:=u8_in (h 1)
 have h2:((u8 m.m2).toNat:Int)=m.m2:=u8_in (h 2)
 have h3:((u8 m.m3).toNat:Int)=m.m3:=u8_in (h 3)
 have h4:((u8 m.m4).toNat:Int)=m.m4:=u8_in (h 4)
 have h5:((u8 m.m5).toNat:Int)=m.m5:=u8_in (h 5)
 have h6:((u8 m.m6).toNat:Int)=m.m6:=u8_in (h 6)
 have h7:((u8 m.m7).toNat:Int)=m.m7:=u8_in (h 7)
 rw[mA]
 simp only[Mf.dB,aq,List.map_cons,List.map_nil,h0,h1,h2,h3,h4,h5,h6,h7]
theorem BK{R:Env}(h:N45 R)(m:Mf)(ok:m.Ok):R.Pc 45 [.agg m.row] (.aG [.aH 1 (aq (mM m).1),.int .i64 (mM m).2]):=
 h.o45.enter 100 rfl fun X bb hfit hp=>by
  refine sh ?_
  refine aj.pure h.n41.X4.hb (H6 h.n41 m ok.size) rfl ?_
  refine sh ?_
  refine cS (fun h1=> ?_) (fun h1=> ?_)
  ·rw[mM,if_neg h1]
   refine sh ?_
   exact rT
  ·have hc:ej m=0:=by omega
   rw[mM,if_pos hc]
   have may:=Cv hc
   have mk:=may.kind
   have mc:=may.L6
   have ms:=may.size
   have Qq:=ok.id
   have okl:=ok.label
   have okf:=ok.first
   have oka:=ok.last
   simp only[ed]at Qq okl okf oka
   have c1:=mC h.rC [] 8 [m.id] (by simp) (by simpa using by omega)
   rw[KZ (by omega) (by omega) (by simpa using by omega)]at c1
   refine sh ?_
   refine cM true [] (c1) ?_
   repeat (intro _; first|refine eK ?_|refine eP ?_)
   have c2:=mC h.rC ([]++UM.enc (Int.toNat 8) m.id) 1 [m.kind] (by simp[iN]) (by simpa using by omega)
   rw[KZ (by omega) (by omega) (by simpa using by omega)]at c2
   refine sh ?_
   refine cM true [] (c2) ?_
   repeat (intro _; first|refine eK ?_|refine eP ?_)
   have c3:=mC h.rC ([]++UM.enc (Int.toNat 8) m.id++UM.enc (Int.toNat 1) m.kind) 4 [m.label] (by simp[iN]) (by simpa using by omega)
   rw[KZ (by omega) (by omega) (by simpa using by omega)]at c3
   refine sh ?_
   refine cM true [] (c3) ?_
   repeat (intro _; first|refine eK ?_|refine eP ?_)
   refine st ?_
   rw[EA ok]
   have c4:=mC h.rC ([]++UM.enc (Int.toNat 8) m.id++UM.enc (Int.toNat 1) m.kind++UM.enc (Int.toNat 4) m.label++m.dB) 4 [m.first,m.last,m.size] (by simp[iN,Mf.dB]) (by simpa using by omega)
   rw[ab1 (by omega) (by omega) (by simpa using by omega) (by simpa using by omega) (by simpa using by omega)]at c4
   refine sh ?_
   refine cM true [] (c4) ?_
   repeat (intro _; first|refine eK ?_|refine eP ?_)
   have c5:=mC h.rC ([]++UM.enc (Int.toNat 8) m.id++UM.enc (Int.toNat 1) m.kind++UM.enc (Int.toNat 4) m.label++m.dB++UM.enc (Int.toNat 4) m.first++UM.enc (Int.toNat 4) m.last++UM.enc (Int.toNat 4) m.size) 2 [m.chunks] (by simp[iN,Mf.dB]) (by simpa using by omega)
   rw[KZ (by omega) (by omega) (by simpa using by omega)]at c5
   refine sh ?_
   refine cM true [] (c5) ?_
   repeat (intro _; first|refine eK ?_|refine eP ?_)
   refine sh ?_
   exact rT
end Go.UM
namespace Go.UM
open Go.AM
set_option maxRecDepth 4000
variable {B:List UInt8->List UInt8->Int->List UInt8} {U:List UInt8->List UInt8->List UInt8->List UInt8->List UInt8}
def Mf.at'(m:Mf)(n:Nat):Mf:= {m with size:=n,chunks:=Ez n}
def wx(n:List UInt8)(m:Mf)(p:List UInt8):List UInt8:=[85,77,66,49]++n++(m.at' p.length).enc
def lB(B:List UInt8->List UInt8->Int->List UInt8)(U:List UInt8->List UInt8->List UInt8->List UInt8->List UInt8)(k n hd:List UInt8):List UInt8:=ir B U k (jq n 0) hd []
def uj(B:List UInt8->List UInt8->Int->List UInt8)(U:List UInt8->List UInt8->List UInt8->List UInt8->List UInt8)(k n:List UInt8)(m:Mf)(p:List UInt8):List UInt8:=
 wx n m p++lB B U k n (wx n m p)++gx B U k n (lB B U k n (wx n m p)) p ((p.length+255) / 256)
def pE(B:List UInt8->List UInt8->Int->List UInt8)(U:List UInt8->List UInt8->List UInt8->List UInt8->List UInt8)(k n:List UInt8)(m:Mf)(a:As):List UInt8 × Int:=
 if (nF a).2≠0 then ([],(nF a).2)else if (mM (m.at' (nF a).1.length)).2≠0 then ([],(mM (m.at' (nF a).1.length)).2)else (uj B U k n m (nF a).1,0)
theorem H7(a:As):(nF a).1.length<=2048:=by
 unfold nF
 split
 ·simp
 ·rename_i h
  have h:iD a=0:=by simpa using h
  have hc:=Hz a.k
  unfold iD at h
  split at h
  ·rename_i h1; exact absurd h h1
  ·split at h
   ·cases h
   ·split at h
    ·cases h
    ·rename_i h3; dsimp only; omega
theorem Mf.Ok.at'{m:Mf}(ok:m.Ok){n:Nat}(hn:n<=2048):(m.at' n).Ok:=by
 refine⟨ok.id,ok.kind,ok.label,?_,ok.first,ok.last,?_,?_⟩
 ·intro i
  have h:=ok.jS i
  unfold Mf.jS Mf.at' at*
  exact h
 ·show ed .i64 (n:Int)
  simp only[ed]; omega
 ·show ed .i64 (Ez n)
  have h:0<=Ez n/\Ez n<=9:=by unfold Ez; split<;>omega
  simp only[ed]; omega
theorem H8{m:Mf}(h:(mM m).2=0):(mM m).1=m.enc:=by
 unfold mM at h ⊢
 split
 ·rfl
 ·rename_i h1; rw[if_neg h1]at h; exact absurd h h1
theorem zU{R:Env}(h:OK R)(p:List UInt8):R.Mc 546 [.aH 1 (aq p)] [] (R.cl 565 [.loc 0 1 0 0]) [(0,.var (R.ty 51) [.aH 1 (aq p)])] 1:=
 h.aaH.aL 60 0 rfl rfl rfl fun X b hfit hp=>by
  refine sh ?_
  exact rM [0]
theorem K0{R:Env}(h:GZ R)(BC:jU R B)(UC:qm R U)(k n:List UInt8)(m:Mf)(a:As)(hk:k.length=32)(hn:n.length=8)(ok:m.Ok)(f:a.Bt)(hmk:m.kind=a.k):R.Pc 527 [.agg (k.map b8),.agg (n.map b8),.agg m.row,.agg a.row] (.aG [.aH 1 (aq (pE B U k n m a).1),.int .i64 (pE B U k n m a).2]):=by
 have ca:=Eb h.n301 a f
 obtain⟨k0,k1,k2,k3,k4,k5,k6,k7,k8,k9,eo,ep,eu,ez,eB,eC,eD,eE,eG,eH,eJ,eQ,eR,eT,eU,eV,eW,eX,eY,fe,fh,fi,rfl⟩:=cz hk
 obtain⟨n0,n1,n2,n3,n4,n5,n6,n7,rfl⟩:=ww hn
 generalize hq:pE B U [k0,k1,k2,k3,k4,k5,k6,k7,k8,k9,eo,ep,eu,ez,eB,eC,eD,eE,eG,eH,eJ,eQ,eR,eT,eU,eV,eW,eX,eY,fe,fh,fi] [n0,n1,n2,n3,n4,n5,n6,n7] m a=q
 unfold pE at hq
 have dt:=H7 a
 generalize hae:nF a=ae at ca hq dt
 exact h.OL.enter 200 rfl fun X bb hfit hp=>by
  refine sh ?_
  refine aj.pure h.n301.UA.hb ca rfl ?_
  refine sh ?_
  refine cS (fun h1=> ?_) (fun h1=> ?_)
  ·rw[if_pos h1]at hq
   subst hq
   refine sh ?_
   exact rT
  ·rw[if_neg (by simpa using h1)]at hq
   have hlen:ae.1.length<=16000000:=by omega
   have Q3:(m.at' ae.1.length).Ok:=ok.at' dt
   have cm:=BK h.n45 (m.at' ae.1.length) Q3
   generalize hme:mM (m.at' ae.1.length)=me at cm hq
   refine sh ?_
   refine aD (by simp[hmk]) ?_
   refine sh ?_
   refine aj.pure h.n39.o39.hb (zS h.n39 ae.1.length (by simp only[ed]; omega)) rfl ?_
   refine sh ?_
   refine aj.pure h.n45.o45.hb cm rfl ?_
   refine sh ?_
   refine cS (fun h2=> ?_) (fun h2=> ?_)
   ·rw[if_pos h2]at hq
    subst hq
    refine sh ?_
    exact rT
   ·rw[if_neg (by simpa using h2)]at hq
    have h3:me.2=0:=by simpa using h2
    have WW:me.1=(m.at' ae.1.length).enc:=by
     have:=H8 (m:=m.at' ae.1.length) (by rw[hme]; exact h3)
     rw[<-this,hme]
    have oS:me.1.length=35:=by rw[WW]; exact Mf.iN _
    have H9:[[85,77,66,49],[n0,n1,n2,n3,n4,n5,n6,n7],me.1].flatten.length=47:=by simp[oS]
    generalize QC:[[85,77,66,49],[n0,n1,n2,n3,n4,n5,n6,n7],me.1].flatten=hd at H9
    have cn:=se h.pe [n0,n1,n2,n3,n4,n5,n6,n7] 0 rfl
    have hnl:=hQ (b:=[n0,n1,n2,n3,n4,n5,n6,n7]) rfl 0
    generalize hnn:jq [n0,n1,n2,n3,n4,n5,n6,n7] 0=nn at cn hnl
    have cs:=Ct h.DN BC UC [k0,k1,k2,k3,k4,k5,k6,k7,k8,k9,eo,ep,eu,ez,eB,eC,eD,eE,eG,eH,eJ,eQ,eR,eT,eU,eV,eW,eX,eY,fe,fh,fi] nn hd [] rfl hnl (by omega) (by simp)
    have dK:(ir B U [k0,k1,k2,k3,k4,k5,k6,k7,k8,k9,eo,ep,eu,ez,eB,eC,eD,eE,eG,eH,eJ,eQ,eR,eT,eU,eV,eW,eX,eY,fe,fh,fi] nn hd []).length=16:=by rw[fu BC UC]; rfl
    generalize ab5:ir B U [k0,k1,k2,k3,k4,k5,k6,k7,k8,k9,eo,ep,eu,ez,eB,eC,eD,eE,eG,eH,eJ,eQ,eR,eT,eU,eV,eW,eX,eY,fe,fh,fi] nn hd []=mk at cs dK
    obtain⟨Yh,Yi,Yj,Yk,Yl,Ym,Yn,Yo,Yp,Yq,KW,KX,rfl⟩:=ll hnl
    have cc:=pB h.uW [[85,77,66,49],[n0,n1,n2,n3,n4,n5,n6,n7],me.1] (by simp) (by rw[QC,H9]; omega)
    rw[QC]at cc
    refine sh ?_
    refine aj.let [1,4,5] rfl hp rfl ?_
    repeat ((intro _u; clear _u); first|refine kZ (dh [[85,77,66,49],[n0,n1,n2,n3,n4,n5,n6,n7],me.1]) ?_ ⟨⟨fun _=>p' rfl rfl (by simp[AV.au,AV.names]),trivial⟩,⟨fun _=>⟨rfl,rfl,rfl⟩,trivial⟩,⟨fun _=>rfl,trivial⟩,trivial⟩ rfl|refine lD.drop ?_)
    refine sh ?_
    refine cM false [] (cc) ?_
    repeat (intro _; first|refine eK ?_|refine eP ?_)
    refine sh ?_
    refine aj.pure h.pe.GY.hb cn rfl ?_
    refine sh ?_
    refine cM true [] (cs) ?_
    repeat (intro _; first|refine eK ?_|refine eP ?_)
    refine sh ?_
    refine aj.let [8] rfl hp rfl ?_
    repeat ((intro _u; clear _u); first|refine eZ ?_|refine eZ ?_ (by simp; omega)|refine lD.drop ?_)
    refine sh ?_
    refine cM false [] (zU h.G0 ae.1) ?_
    repeat (intro _; first|refine eK ?_|refine eP ?_)
    refine sh ?_
    refine cL (aW:=fun l tm=>[.bL (.lp l tm) [.loc 0 1 0 0,.be ([n0,n1,n2,n3,n4,n5,n6,n7].map b8) 0,.loc 1 1 0 0,.loc 2 1 0 0],.loc 4 1 0 0]) 100 false [0,7,9,6,10] h.G0.J1.UO.hb (fun l r hlp=>KY h h.G0.J1 BC UC sf hlp [k0,k1,k2,k3,k4,k5,k6,k7,k8,k9,eo,ep,eu,ez,eB,eC,eD,eE,eG,eH,eJ,eQ,eR,eT,eU,eV,eW,eX,eY,fe,fh,fi] [n0,n1,n2,n3,n4,n5,n6,n7] mk (hd++mk) ae.1 rfl rfl dK (by simp; omega) hlen) ?_
    repeat (intro _; first|refine eK ?_|refine eP ?_)
    have pT:q=(hd++mk++gx B U [k0,k1,k2,k3,k4,k5,k6,k7,k8,k9,eo,ep,eu,ez,eB,eC,eD,eE,eG,eH,eJ,eQ,eR,eT,eU,eV,eW,eX,eY,fe,fh,fi] [n0,n1,n2,n3,n4,n5,n6,n7] mk ae.1 ((ae.1.length+255) / 256),0):=by
     rw[<-hq]
     have e1:wx [n0,n1,n2,n3,n4,n5,n6,n7] m ae.1=hd:=by rw[<-QC,wx,WW]; simp
     have e2:lB B U [k0,k1,k2,k3,k4,k5,k6,k7,k8,k9,eo,ep,eu,ez,eB,eC,eD,eE,eG,eH,eJ,eQ,eR,eT,eU,eV,eW,eX,eY,fe,fh,fi] [n0,n1,n2,n3,n4,n5,n6,n7] hd=mk:=by rw[lB,hnn]; exact ab5
     rw[uj,e1,e2]
    subst pT
    refine sh ?_
    exact rT
end Go.UM
namespace Go.UM
open Go.AM
set_option maxRecDepth 4000
theorem uk{R:Env}(h:N58 R)(r:Rd)(w:Int)(h1:1<=w)(h2:w<=7):R.Mc 58 [.agg [.loc 0 1 0 0],.int .i64 w] (mD R r) (.int .i64 (r.num w).1) (mD R (r.num w).2) 1:=
 h.o58.aL 60 1 rfl rfl rfl fun X bb hfit hp=>by
  refine sh ?_
  refine cM false [0] (ly h.n57 r w) ?_
  repeat (intro _; first|refine eK ?_|refine eP ?_)
  have hlt:=bP r h1 (show w<=8 by omega)
  have hp:(256:Nat) ^ w.toNat<=256 ^ 7:=Nat.pow_le_pow_right (by decide) (by omega)
  have:((r.num w).1:Int)<9223372036854775808:=by omega
  refine sh ?_
  exact rM [0]
def Mf.zero:Mf:=⟨0,0,0,0,0,0,0,0,0,0,0,0,0,0,0⟩
def iO(l:List UInt8)(i:Nat):Int:=(l.getD i 0).toNat
def ul(r:Rd):Mf × Rd:=
 let a:=r.num 8
 let b:=a.2.num 1
 let c:=b.2.num 4
 let t:=c.2.take 8
 let f:=t.2.num 4
 let g:=f.2.num 4
 let s:=g.2.num 4
 let k:=s.2.num 2
 (⟨a.1,b.1,c.1,iO t.1 0,iO t.1 1,iO t.1 2,iO t.1 3,iO t.1 4,iO t.1 5,iO t.1 6,iO t.1 7,f.1,g.1,s.1,k.1⟩,k.2)
def zV(b:List UInt8):Mf × Int:=
 let q:=ul ⟨b,0,true⟩
 if q.2.fin≠0 then (.zero,q.2.fin)else if ej q.1≠0 then (.zero,ej q.1)else (q.1,0)
theorem WX{l:List UInt8}(h:l.length=8):((aq l).take 8).flatten=[.int .u8 (iO l 0),.int .u8 (iO l 1),.int .u8 (iO l 2),.int .u8 (iO l 3),.int .u8 (iO l 4),.int .u8 (iO l 5),.int .u8 (iO l 6),.int .u8 (iO l 7)]:=by
 match l,h with
 |[a,b,c,d,e,f,g,k],_=>rfl
theorem WY(r:Rd):(r.take 8).1.length=8\/(r.take 8).1=[]:=by
 unfold Rd.take
 split
 ·exact .inr rfl
 ·split
  ·exact .inr rfl
  ·split
   ·exact .inr rfl
   ·left; simp only[List.length_take]; omega
theorem EB{R:Env}(h:N49 R)(b:List UInt8)(hb:b.length<=1073741824):R.Pc 49 [.aH 1 (aq b)] (.aG [.agg (zV b).1.row,.int .i64 (zV b).2]):=
 h.o49.enter 100 rfl fun X bb hfit hp=>by
  refine sh ?_
  refine cM false [] (zh h.Bc b hb) ?_
  repeat (intro _; first|refine eK ?_|refine eP ?_)
  generalize WG:(⟨b,0,true⟩:Rd)=r0
  have c1:=ly h.n57 r0 8
  generalize h1:r0.num 8=q1 at c1
  refine sh ?_
  refine cM false [1] (c1) ?_
  repeat (intro _; first|refine eK ?_|refine eP ?_)
  have c2:=uk h.Od q1.2 1 (by omega) (by omega)
  generalize h2:q1.2.num 1=q2 at c2
  refine sh ?_
  refine cM false [1] (c2) ?_
  repeat (intro _; first|refine eK ?_|refine eP ?_)
  have c3:=ly h.n57 q2.2 4
  have l3:(q2.2.num 4).1<4294967296:=bP q2.2 (w:=4) (by omega) (by omega)
  generalize h3:q2.2.num 4=q3 at c3 l3
  refine sh ?_
  refine cM false [1] (c3) ?_
  repeat (intro _; first|refine eK ?_|refine eP ?_)
  have c4:=ou h.n59 q3.2 8
  have l4:=WY q3.2
  generalize h4:q3.2.take 8=q4 at c4 l4
  refine sh ?_
  refine cM false [1] (c4) ?_
  repeat (intro _; first|refine eK ?_|refine eP ?_)
  rcases l4 with l4|l4
  ·refine sh ?_
   refine qd (n:=8) (WX l4) (by simp[l4]) ?_
   have c5:=ly h.n57 q4.2 4
   have l5:(q4.2.num 4).1<4294967296:=bP q4.2 (w:=4) (by omega) (by omega)
   generalize h5:q4.2.num 4=q5 at c5 l5
   refine sh ?_
   refine cM false [1] (c5) ?_
   repeat (intro _; first|refine eK ?_|refine eP ?_)
   have c6:=ly h.n57 q5.2 4
   have l6:(q5.2.num 4).1<4294967296:=bP q5.2 (w:=4) (by omega) (by omega)
   generalize h6:q5.2.num 4=q6 at c6 l6
   refine sh ?_
   refine cM false [1] (c6) ?_
   repeat (intro _; first|refine eK ?_|refine eP ?_)
   have c7:=uk h.Od q6.2 4 (by omega) (by omega)
   have l7:(q6.2.num 4).1<4294967296:=bP q6.2 (w:=4) (by omega) (by omega)
   generalize h7:q6.2.num 4=q7 at c7 l7
   refine sh ?_
   refine cM false [1] (c7) ?_
   repeat (intro _; first|refine eK ?_|refine eP ?_)
   have c8:=uk h.Od q7.2 2 (by omega) (by omega)
   generalize h8:q7.2.num 2=q8 at c8
   refine sh ?_
   refine cM false [1] (c8) ?_
   repeat (intro _; first|refine eK ?_|refine eP ?_)
   have e0:zV b=if q8.2.fin≠0 then (.zero,q8.2.fin)else if ej ⟨q1.1,q2.1,q3.1,iO q4.1 0,iO q4.1 1,iO q4.1 2,iO q4.1 3,iO q4.1 4,iO q4.1 5,iO q4.1 6,iO q4.1 7,q5.1,q6.1,q7.1,q8.1⟩≠0 then (.zero,ej ⟨q1.1,q2.1,q3.1,iO q4.1 0,iO q4.1 1,iO q4.1 2,iO q4.1 3,iO q4.1 4,iO q4.1 5,iO q4.1 6,iO q4.1 7,q5.1,q6.1,q7.1,q8.1⟩)else (⟨q1.1,q2.1,q3.1,iO q4.1 0,iO q4.1 1,iO q4.1 2,iO q4.1 3,iO q4.1 4,iO q4.1 5,iO q4.1 6,iO q4.1 7,q5.1,q6.1,q7.1,q8.1⟩,0):=by
    unfold zV ul
    simp only[WG,h1,h2,h3,h4,h5,h6,h7,h8]
   rw[e0]
   have c9:=lz h.n60 q8.2
   refine sh ?_
   refine cM false [1] (c9) ?_
   repeat (intro _; first|refine eK ?_|refine eP ?_)
   refine sh ?_
   refine cS (fun h9=> ?_) (fun h9=> ?_)
   ·rw[if_pos h9]
    refine sh ?_
    exact rT
   ·rw[if_neg (fun hh=>hh h9)]
    refine sh ?_
    refine aj.pure h.n41.X4.hb (H6 h.n41 ⟨q1.1,q2.1,q3.1,iO q4.1 0,iO q4.1 1,iO q4.1 2,iO q4.1 3,iO q4.1 4,iO q4.1 5,iO q4.1 6,iO q4.1 7,q5.1,q6.1,q7.1,q8.1⟩ (by simp only[ed]; omega)) rfl ?_
    refine sh ?_
    refine cS (fun h10=> ?_) (fun h10=> ?_)
    ·rw[if_pos h10]
     refine sh ?_
     exact rT
    ·rw[if_neg (fun hh=>hh h10)]
     refine sh ?_
     exact rT
  ·rw[l4]
   refine sh ?_
   refine qd (n:=0) (vs:=[]) (by simp) (by simp) ?_
   have c5:=ly h.n57 q4.2 4
   have l5:(q4.2.num 4).1<4294967296:=bP q4.2 (w:=4) (by omega) (by omega)
   generalize h5:q4.2.num 4=q5 at c5 l5
   refine sh ?_
   refine cM false [1] (c5) ?_
   repeat (intro _; first|refine eK ?_|refine eP ?_)
   have c6:=ly h.n57 q5.2 4
   have l6:(q5.2.num 4).1<4294967296:=bP q5.2 (w:=4) (by omega) (by omega)
   generalize h6:q5.2.num 4=q6 at c6 l6
   refine sh ?_
   refine cM false [1] (c6) ?_
   repeat (intro _; first|refine eK ?_|refine eP ?_)
   have c7:=uk h.Od q6.2 4 (by omega) (by omega)
   have l7:(q6.2.num 4).1<4294967296:=bP q6.2 (w:=4) (by omega) (by omega)
   generalize h7:q6.2.num 4=q7 at c7 l7
   refine sh ?_
   refine cM false [1] (c7) ?_
   repeat (intro _; first|refine eK ?_|refine eP ?_)
   have c8:=uk h.Od q7.2 2 (by omega) (by omega)
   generalize h8:q7.2.num 2=q8 at c8
   refine sh ?_
   refine cM false [1] (c8) ?_
   repeat (intro _; first|refine eK ?_|refine eP ?_)
   have e0:zV b=if q8.2.fin≠0 then (.zero,q8.2.fin)else if ej ⟨q1.1,q2.1,q3.1,0,0,0,0,0,0,0,0,q5.1,q6.1,q7.1,q8.1⟩≠0 then (.zero,ej ⟨q1.1,q2.1,q3.1,0,0,0,0,0,0,0,0,q5.1,q6.1,q7.1,q8.1⟩)else (⟨q1.1,q2.1,q3.1,0,0,0,0,0,0,0,0,q5.1,q6.1,q7.1,q8.1⟩,0):=by
    unfold zV ul
    simp only[WG,h1,h2,h3,h4,h5,h6,h7,h8,l4]
    rfl
   rw[e0]
   have c9:=lz h.n60 q8.2
   refine sh ?_
   refine cM false [1] (c9) ?_
   repeat (intro _; first|refine eK ?_|refine eP ?_)
   refine sh ?_
   refine cS (fun h9=> ?_) (fun h9=> ?_)
   ·rw[if_pos h9]
    refine sh ?_
    exact rT
   ·rw[if_neg (fun hh=>hh h9)]
    refine sh ?_
    refine aj.pure h.n41.X4.hb (H6 h.n41 ⟨q1.1,q2.1,q3.1,0,0,0,0,0,0,0,0,q5.1,q6.1,q7.1,q8.1⟩ (by simp only[ed]; omega)) rfl ?_
    refine sh ?_
    refine cS (fun h10=> ?_) (fun h10=> ?_)
    ·rw[if_pos h10]
     refine sh ?_
     exact rT
    ·rw[if_neg (fun hh=>hh h10)]
     refine sh ?_
     exact rT
end Go.UM
namespace Go.UM
open Go.AM
set_option maxRecDepth 4000
def Q5(L k:Nat)(r:Rd):Prop:=r.made=true/\((r.e=0/\r.l.length+k=L)\/(r.e=4/\L<35))
theorem Q5.num{L k:Nat}{r:Rd}(h:Q5 L k r)(w:Nat)(h1:1<=w)(h2:w<=8)(h3:k+w<=35):Q5 L (k+w) (r.num w).2:=by
 obtain⟨hm,⟨he,hl⟩|⟨he,hl⟩⟩:=h
 ·obtain⟨hm',⟨a,b,c⟩|⟨a,b⟩⟩:=Bp (w:=w) hm he (by omega) (by omega)
  ·exact⟨hm',.inl ⟨b,by omega⟩⟩
  ·exact⟨hm',.inr ⟨b,by omega⟩⟩
 ·rw[mE (by omega) (by omega)]
  have:r.take w=([],r):=by unfold Rd.take; rw[if_pos (.inr (by omega))]
  rw[this]
  exact⟨hm,.inr ⟨he,hl⟩⟩
theorem Q5.take{L k:Nat}{r:Rd}(h:Q5 L k r)(h3:k+8<=35):Q5 L (k+8) (r.take 8).2:=by
 have:=h.num 8 (by omega) (by omega) h3
 rwa[mE (by omega) (by omega)]at this
end Go.UM
namespace Go.UM
open Go.AM
set_option maxRecDepth 4000
theorem H'(m:Mf)(T:List UInt8):(⟨m.dB++T,0,true⟩:Rd).take 8=(m.dB,⟨T,0,true⟩):=by
 unfold Rd.take
 rw[if_neg (by simp),if_neg (by omega),if_neg (by simp[Mf.dB]; omega)]
 rfl
theorem Ia{m:Mf}(ok:m.Ok)(hc:ej m=0):zV m.enc=(m,0):=by
 have may:=Cv hc
 have mk:=may.kind
 have mc:=may.L6
 have ms:=may.size
 have Qq:=ok.id
 have okl:=ok.label
 have okf:=ok.first
 have oka:=ok.last
 simp only[ed]at Qq okl okf oka
 have e:m.enc=enc (Int.toNat 8) m.id++(enc (Int.toNat 1) m.kind++(enc (Int.toNat 4) m.label++(m.dB++(enc (Int.toNat 4) m.first++(enc (Int.toNat 4) m.last++(enc (Int.toNat 4) m.size++(enc (Int.toNat 2) m.chunks++ []))))))):=by
  simp[Mf.enc,Mf.head,Mf.tail]
 have hb:∀i,i<8->iO m.dB i=m.jS i:=fun i hi=>by
  have h:=ok.jS
  rcases i with _|_|_|_|_|_|_|_|i
  ·exact u8_in (h 0)
  ·exact u8_in (h 1)
  ·exact u8_in (h 2)
  ·exact u8_in (h 3)
  ·exact u8_in (h 4)
  ·exact u8_in (h 5)
  ·exact u8_in (h 6)
  ·exact u8_in (h 7)
  ·omega
 have hch:ul ⟨m.enc,0,true⟩=(m,⟨[],0,true⟩):=by
  rw[e]
  unfold ul
  rw[jH (w:=8) (by omega) (by omega) (by simpa using by omega)]
  simp only
  rw[jH (w:=1) (by omega) (by omega) (by simpa using by omega)]
  simp only
  rw[jH (w:=4) (by omega) (by omega) (by simpa using by omega)]
  simp only[H']
  rw[jH (w:=4) (by omega) (by omega) (by simpa using by omega)]
  simp only
  rw[jH (w:=4) (by omega) (by omega) (by simpa using by omega)]
  simp only
  rw[jH (w:=4) (by omega) (by omega) (by simpa using by omega)]
  simp only
  rw[jH (w:=2) (by omega) (by omega) (by simpa using by omega)]
  simp only[hb 0 (by omega),hb 1 (by omega),hb 2 (by omega),hb 3 (by omega),hb 4 (by omega),hb 5 (by omega),hb 6 (by omega),hb 7 (by omega),Mf.jS]
  rw[Int.toNat_of_nonneg (by omega),Int.toNat_of_nonneg (by omega),Int.toNat_of_nonneg (by omega),Int.toNat_of_nonneg (by omega),Int.toNat_of_nonneg (by omega),Int.toNat_of_nonneg (by omega),Int.toNat_of_nonneg (by omega)]
 unfold zV
 simp only[hch]
 rw[if_neg (by simp[Rd.fin,Rd.err]),if_neg (by simp[hc])]
end Go.UM
namespace Go.UM
open Go.AM
set_option maxRecDepth 4000
theorem L7{R:Env}(h:SQ R)(a b:List UInt8):R.Pc 47 [.aH 1 (aq a),.aH 1 (aq b)] (.bool (a==b)):=
 h.Z'.enter 60 rfl fun X bb hfit hp=>by
  refine sh ?_
  exact rT
end Go.UM
namespace Go.UM
open Go.AM
set_option maxRecDepth 4000
theorem Qr{R:Env}(h:N68 R)(r:Rd):R.Mc 68 [.loc 0 1 0 0] (mD R r) (.int .i64 (if r.made=false\/ r.e≠0 then 0 else r.l.length)) (mD R r) 1:=
 h.o68.aL 60 1 rfl rfl rfl fun X bb hfit hp=>by
  refine sh ?_
  refine cM false [0] (Bo h.JR r) ?_
  repeat (intro _; first|refine eK ?_|refine eP ?_)
  cases hm:r.made with
  |false=>
   refine sh ?_
   exact rM [0]
  |true=>
   refine sh ?_
   refine cS (fun h1=> ?_) (fun h1=> ?_)
   ·refine sh ?_
    exact rM [0]
   ·refine sh ?_
    refine rM [0] ?_
    all_goals repeat' (first|exact True.intro|refine And.intro ?_ ?_|(intro _u; clear _u)|(with_reducible first|exact aU.fg|refine eM ?_ ?_|refine eF ?_ ?_ ?_|refine eN ?_|refine eL ?_ ?_ ?_|refine eA ?_ ?_|refine bp.mk ⟨_,hp,rfl⟩ ?_ ?_)|refine bp.mk ⟨_,hp,rfl⟩ ?_ ?_)
    all_goals try first|with_reducible rfl|omega|exact .inl (by decide)|(simp; done)|rfl
    simp[h1]
end Go.UM
namespace Go.UM
open Go.AM
set_option maxRecDepth 4000
variable {B:List UInt8->List UInt8->Int->List UInt8} {U:List UInt8->List UInt8->List UInt8->List UInt8->List UInt8}
theorem Qs{R:Env}(h:NE R)(s p:List UInt8):R.Pc 389 [.aH 1 (aq s),.aH 1 (aq p)] (.bool (s.take p.length==p)):=
 h.Tm.enter 60 rfl fun X bb hfit hp=>by
  refine sh ?_
  refine cS (fun h1=> ?_) (fun h1=> ?_)
  ·refine sh ?_
   refine aSb ?_
   refine sh ?_
   refine aj.pure h.n47.Z'.hb (L7 h.n47 (s.take p.length) p) rfl ?_
   refine sh ?_
   exact rT
  ·have e:(s.take p.length==p)=false:=by
    rw[beq_eq_false_iff_ne]
    intro e
    have:=congrArg List.length e
    simp at this
    omega
   rw[e]
   refine sh ?_
   exact rT
theorem Ib{a b:List UInt8}{n:Int}(h:(a.length:Int)=n):(⟨a++b,0,true⟩:Rd).take n=(a,⟨b,0,true⟩):=by
 subst h
 unfold Rd.take
 rw[if_neg (by simp),if_neg (by omega),if_neg (by simp; omega)]
 simp
theorem tkc{R:Env}(h:Oc R)(a b:List UInt8)(n:Int)(e:(a.length:Int)=n):R.Mc 59 [.loc 0 1 0 0,.int .i64 n] (mD R ⟨a++b,0,true⟩) (.aH 1 (aq a)) (mD R ⟨b,0,true⟩) 1:=by
 have:=ou h ⟨a++b,0,true⟩ n
 rwa[Ib e]at this
theorem Ic{R:Env}(h:GV R)(BC:jU R B)(UC:qm R U)(k n a p:List UInt8)(hk:k.length=32)(hn:n.length=12)(ha:a.length<=16384)(R3:p.length<=16384):R.Mc 566 [.agg (k.map b8),.agg (n.map b8),.bi 0 a.length,.aH 1 (aq (ir B U k n a p))] [(0,.arr (R.ty 4) 1 (aq a))] (.aG [.aH 1 (aq p),.int .i64 0]) [(0,.arr (R.ty 4) 1 (aq a))] 1:=by
 have cx:=HW h.tG BC k n (pA B k n p) hk hn (by rw[ei BC]; omega)
 rw[ui BC]at cx
 have hxl:=ei BC k n p
 unfold ir
 generalize pA B k n p=x at cx hxl ⊢
 have cm:=UC.c k n a x hk hn (by omega) (by omega)
 have oS:=UC.len k n a x
 generalize U k n a x=t at cm oS ⊢
 have cs:=Cs h.DL t oS
 obtain⟨k0,k1,k2,k3,k4,k5,k6,k7,k8,k9,eo,ep,eu,ez,eB,eC,eD,eE,eG,eH,eJ,eQ,eR,eT,eU,eV,eW,eX,eY,fe,fh,fi,rfl⟩:=cz hk
 obtain⟨n0,n1,n2,n3,n4,n5,n6,n7,n8,n9,n10,n11,rfl⟩:=ll hn
 obtain⟨t0,t1,t2,t3,t4,t5,t6,t7,t8,t9,t10,t11,t12,t13,t14,t15,rfl⟩:=ue oS
 exact h.N9.aL 200 1 rfl rfl rfl fun X bb hfit hp=>by
  have hxt:(x++ [t0,t1,t2,t3,t4,t5,t6,t7,t8,t9,t10,t11,t12,t13,t14,t15]).length=x.length+16:=by simp
  refine sh ?_
  rw[hxt,show (((x.length+16:Nat):Int)) - 16=(x.length:Nat) by omega]
  refine aD (decide_eq_false (by omega)) ?_
  refine sh ?_
  refine aD (by exact decide_eq_false (by omega)) ?_
  refine sh ?_
  refine aD (by exact decide_eq_false (by omega)) ?_
  refine sh ?_
  refine br (by show _=aq x; simp[aq]) ?_
  refine sh ?_
  refine cM true [] (cm.mc h.yV.JO.hb) ?_
  repeat (intro _; first|refine eK ?_|refine eP ?_)
  refine sh ?_
  refine br (by show _=aq [t0,t1,t2,t3,t4,t5,t6,t7,t8,t9,t10,t11,t12,t13,t14,t15]; simp[aq]) ?_
  refine fun _=>⟨⟨by simp,by omega⟩,?_⟩
  refine fun _=>br (show _=[t0,t1,t2,t3,t4,t5,t6,t7,t8,t9,t10,t11,t12,t13,t14,t15].map b8 from rfl) ?_
  refine sh ?_
  refine aj.pure h.DL.N0.hb cs rfl ?_
  refine sh ?_
  refine aj.let [3] rfl hp rfl ?_
  repeat ((intro _u; clear _u); first|refine eZ ?_|refine eZ ?_ (by simp; omega)|refine lD.drop ?_)
  refine sh ?_
  refine aj.pure h.tG.JI.hb cx rfl ?_
  refine sh ?_
  exact rM [0]
theorem K1{R:Env}(h:OG R)(BC:jU R B)(UC:qm R U)(k nn mark b rest:List UInt8)(i:Nat)(hk:k.length=32)(hn:nn.length=12)(hm:mark.length=16)(hb:b.length<=256)(hi:i<65536):
  R.Mc 549 [.agg (k.map b8),.agg (nn.map b8),.loc 0 1 0 0,.aH 1 (aq mark),.int .i64 i,.int .i64 b.length] (mD R ⟨fI i b.length++(ir B U k nn (fI i b.length++mark) b++rest),0,true⟩) (.aG [.aH 1 (aq b),.int .i64 0]) (mD R ⟨rest,0,true⟩) 1:=by
 have hf:=sf.len i b.length hi (by omega)
 have hpe:=sf.err i b.length hi (by omega)
 have cp:R.Pc 54 [.aH 1 (aq []),.int .i64 2,.aH 1 (de .u64 [(i:Int),(b.length:Int)])] (.aG [.aH 1 (aq (gW [] 2 [(i:Int),(b.length:Int)]).1),.int .i64 (gW [] 2 [(i:Int),(b.length:Int)]).2]):=(mC h.rC [] 2 [(i:Int),(b.length:Int)] (by simp) (by intro x hx; simp at hx; omega)).pc fZ
 rw[hpe]at cp
 have co:=Ic h.Bd BC UC k nn (fI i b.length++mark) b hk hn (by simp; omega) (by omega)
 have dK:=fu BC UC k nn (fI i b.length++mark) b
 have cc:=pB h.uW [fI i b.length,mark] (by simp) (by simp; omega)
 rw[show [fI i b.length,mark].flatten=fI i b.length++mark by simp]at cc
 generalize ir B U k nn (fI i b.length++mark) b=z at co dK ⊢
 unfold fI at hf cc co ⊢
 generalize (gW [] 2 [(i:Int),(b.length:Int)]).1=f at hf cp cc co ⊢
 have t1:=tkc h.n59 f (z++rest) 4 (by omega)
 have t2:=tkc h.n59 z rest ((b.length:Int)+16) (by omega)
 obtain⟨k0,k1,k2,k3,k4,k5,k6,k7,k8,k9,eo,ep,eu,ez,eB,eC,eD,eE,eG,eH,eJ,eQ,eR,eT,eU,eV,eW,eX,eY,fe,fh,fi,rfl⟩:=cz hk
 obtain⟨Yh,Yi,Yj,Yk,Yl,Ym,Yn,Yo,Yp,Yq,KW,KX,rfl⟩:=ll hn
 exact h.aaG.aL 100 1 rfl rfl rfl fun X bb hfit hp=>by
  refine sh ?_
  refine cM false [0] (t1) ?_
  repeat (intro _; first|refine eK ?_|refine eP ?_)
  refine sh ?_
  refine aD (by exact decide_eq_false (by omega)) ?_
  refine sh ?_
  refine aj.let [3] rfl hp rfl ?_
  repeat ((intro _u; clear _u); first|refine eZ ?_|refine eZ ?_ (by simp; omega)|refine lD.drop ?_)
  refine sh ?_
  refine cM false [] (cp.mc h.rC.o54.hb) ?_
  repeat (intro _; first|refine eK ?_|refine eP ?_)
  refine sh ?_
  refine aj.pure h.n47.Z'.hb (L7 h.n47 f f) rfl ?_
  refine sh ?_
  refine aD (by simp) ?_
  refine sh ?_
  refine cM false [0] (t2) ?_
  repeat (intro _; first|refine eK ?_|refine eP ?_)
  refine sh ?_
  refine cM false [0] (LS h.QS ⟨rest,0,true⟩) ?_
  repeat (intro _; first|refine eK ?_|refine eP ?_)
  refine sh ?_
  refine aD (by rfl) ?_
  refine sh ?_
  refine cM true [] (cc) ?_
  repeat (intro _; first|refine eK ?_|refine eP ?_)
  refine sh ?_
  refine cM false [5] (co) ?_
  repeat (intro _; first|refine eK ?_|refine eP ?_)
  refine sh ?_
  exact rM [0]
theorem Qt{R:Env}(h:OF R)(BC:jU R B)(UC:qm R U)(k n:List UInt8)(m:Mf)(rest:List UInt8)(hk:k.length=32)(hn:n.length=8)(ok:m.Ok)(hc:ej m=0):
  R.Pc 548 [.agg (k.map b8),.aH 1 (aq (([85,77,66,49]++n++m.enc)++lB B U k n ([85,77,66,49]++n++m.enc)++rest))] (.aG [.agg m.row,.int .i64 0]):=by
 have oS:m.enc.length=35:=Mf.iN _
 have md:=EB h.n49 m.enc (by omega)
 rw[Ia ok hc]at md
 have cn:=se h.pe n 0 hn
 have hnl:=hQ hn 0
 unfold lB
 generalize jq n 0=nn at cn hnl ⊢
 have H9:([85,77,66,49]++n++m.enc).length=47:=by simp[hn,oS]
 have co:=KT h.Bd BC UC k nn ([85,77,66,49]++n++m.enc) [] hk hnl (by omega) (by simp)
 have dK:=fu BC UC k nn ([85,77,66,49]++n++m.enc) []
 generalize ir B U k nn ([85,77,66,49]++n++m.enc) []=z at co dK ⊢
 have Bu:(([85,77,66,49]++n++m.enc)++z++rest).length=63+rest.length:=by
  rw[List.length_append,List.length_append,H9,dK]; simp
 have e0:(([85,77,66,49]++n++m.enc)++z++rest).take 4=[85,77,66,49]:=by simp
 have e1:((([85,77,66,49]++n++m.enc)++z++rest).drop 4).take 8=n:=by simp[hn]
 have e2:((([85,77,66,49]++n++m.enc)++z++rest).drop 12).take 35=m.enc:=by
  rw[show (12:Nat)=([85,77,66,49]++n:List UInt8).length by simp[hn]]
  rw[List.append_assoc,List.append_assoc ([85,77,66,49]++n:List UInt8),List.drop_left,List.take_left' oS]
 have e3:(([85,77,66,49]++n++m.enc)++z++rest).take 47=[85,77,66,49]++n++m.enc:=by
  rw[List.append_assoc,List.take_left' H9]
 have e4:((([85,77,66,49]++n++m.enc)++z++rest).drop 47).take 16=z:=by
  rw[List.append_assoc,List.drop_left' H9,List.take_left' (by simpa using dK)]
 generalize ([85,77,66,49]++n++m.enc)=hd at*
 generalize hd++z++rest=b at*
 obtain⟨k0,k1,k2,k3,k4,k5,k6,k7,k8,k9,eo,ep,eu,ez,eB,eC,eD,eE,eG,eH,eJ,eQ,eR,eT,eU,eV,eW,eX,eY,fe,fh,fi,rfl⟩:=cz hk
 obtain⟨n0,n1,n2,n3,n4,n5,n6,n7,rfl⟩:=ww hn
 obtain⟨Yh,Yi,Yj,Yk,Yl,Ym,Yn,Yo,Yp,Yq,KW,KX,rfl⟩:=ll hnl
 exact h.UJ.enter 100 rfl fun X bb hfit hp=>by
  refine sh ?_
  refine aD (by exact decide_eq_false (by simp; omega)) ?_
  refine sh ?_
  refine cM true [] ((Qs h.JY b [85,77,66,49]).mc h.JY.Tm.hb) ?_
  repeat (intro _; first|refine eK ?_|refine eP ?_)
  refine sh ?_
  refine aD (by simp[e0]) ?_
  refine sh ?_
  refine br (by show _=aq [n0,n1,n2,n3,n4,n5,n6,n7]; rw[<-e1]; simp[aq,List.drop_take]) ?_
  refine fun _=>⟨⟨by simp,by omega⟩,?_⟩
  refine fun _=>br (show _=[n0,n1,n2,n3,n4,n5,n6,n7].map b8 from rfl) ?_
  refine sh ?_
  refine aj.pure h.pe.GY.hb cn rfl ?_
  refine sh ?_
  refine br (by show _=aq hd; rw[<-e3]; simp[aq]) ?_
  refine sh ?_
  refine br (by show _=aq z; rw[<-e4]; simp[aq,List.drop_take]) ?_
  refine sh ?_
  refine aj.pure h.Bd.N9.hb co rfl ?_
  refine sh ?_
  refine aD (by rfl) ?_
  refine sh ?_
  refine br (by show _=aq m.enc; rw[<-e2]; simp[aq,List.drop_take]) ?_
  refine sh ?_
  refine aj.pure h.n49.o49.hb md rfl ?_
  refine sh ?_
  exact rT
end Go.UM
namespace Go.UM
open Go.AM
set_option maxRecDepth 4000
variable {B:List UInt8->List UInt8->Int->List UInt8} {U:List UInt8->List UInt8->List UInt8->List UInt8->List UInt8}
def jI(B:List UInt8->List UInt8->Int->List UInt8)(U:List UInt8->List UInt8->List UInt8->List UInt8->List UInt8)(k n mark p:List UInt8):Nat->Nat->List UInt8
 |_,0=>[]
 |j,c+1=>xy B U k n mark j ((p.drop (256*j)).take 256)++jI B U k n mark p (j+1) c
theorem um(k n mark p:List UInt8):∀c j,gx B U k n mark p (j+c)=gx B U k n mark p j++jI B U k n mark p j c
 |0,j=>by simp[jI]
 |c+1,j=>by
  rw[show j+ (c+1)=(j+1)+c by omega,um k n mark p c (j+1),gx,jI,List.append_assoc]
theorem uo(k n mark p:List UInt8)(c:Nat):gx B U k n mark p c=jI B U k n mark p 0 c:=by
 have:=um (B:=B) (U:=U) k n mark p c 0
 rw[Nat.zero_add]at this
 rw[this]; rfl
theorem K2{R:Env}(h:JZ R)(BC:jU R B)(UC:qm R U)(k n:List UInt8)(m:Mf)(a:As)(p:List UInt8)(hk:k.length=32)(hn:n.length=8)(ok:m.Ok)(hc:ej (m.at' p.length)=0)(rb:p.length<=2048)(had:tX m.kind p=(a,0))(h2:m.kind=2->p.length<=1000):
  R.Pc 528 [.agg (k.map b8),.aH 1 (aq (uj B U k n m p))] (.aG [.agg (m.at' p.length).row,.agg a.row,.int .i64 0]):=by
 have Q3:(m.at' p.length).Ok:=ok.at' rb
 have oS:(m.at' p.length).enc.length=35:=Mf.iN _
 have hN:(m.at' p.length).chunks=(((p.length+255) / 256:Nat):Int):=by
  show Ez p.length=_
  unfold Ez
  split<;>omega
 have hS:(m.at' p.length).size=p.length:=rfl
 have hK:(m.at' p.length).kind=m.kind:=rfl
 have ca:=Eh h.n304 m.kind p (by omega) h2
 rw[had]at ca
 generalize hNN:(p.length+255) / 256=N at hN
 have cp:=Qt (rest:=gx B U k n (lB B U k n ([85,77,66,49]++n++(m.at' p.length).enc)) p N) h.J0 BC UC k n (m.at' p.length) hk hn Q3 hc
 have H9:([85,77,66,49]++n++(m.at' p.length).enc).length=47:=by simp[hn,oS]
 have hmk:(lB B U k n ([85,77,66,49]++n++(m.at' p.length).enc)).length=16:=by unfold lB; rw[fu BC UC]; rfl
 have Q6:uj B U k n m p=([85,77,66,49]++n++(m.at' p.length).enc)++lB B U k n ([85,77,66,49]++n++(m.at' p.length).enc)++gx B U k n (lB B U k n ([85,77,66,49]++n++(m.at' p.length).enc)) p N:=by
  unfold uj wx
  rw[hNN]
 have e1:((uj B U k n m p).drop 4).take 8=n:=by rw[Q6]; simp[hn]
 rw[<-Q6]at cp
 generalize lB B U k n ([85,77,66,49]++n++(m.at' p.length).enc)=mk at*
 have e2:((uj B U k n m p).drop 47).take 16=mk:=by
  rw[Q6,List.append_assoc,List.drop_left' H9,List.take_left' hmk]
 have e3:(uj B U k n m p).drop 63=jI B U k n mk p 0 N:=by
  rw[Q6,<-uo,List.drop_left' (by rw[List.length_append,H9,hmk])]
 have Bu:(uj B U k n m p).length=63+ (jI B U k n mk p 0 N).length:=by
  rw[Q6,<-uo,List.length_append,List.length_append,H9,hmk]
 have hcl:(jI B U k n mk p 0 N).length<=1000000:=by
  have:=lm BC UC sf k n mk p N (by omega)
  rw[<-uo]; omega
 generalize uj B U k n m p=b at*
 clear Q6 H9
 generalize m.at' p.length=q at*
 obtain⟨k0,k1,k2,k3,k4,k5,k6,k7,k8,k9,eo,ep,eu,ez,eB,eC,eD,eE,eG,eH,eJ,eQ,eR,eT,eU,eV,eW,eX,eY,fe,fh,fi,rfl⟩:=cz hk
 obtain⟨n0,n1,n2,n3,n4,n5,n6,n7,rfl⟩:=ww hn
 exact h.OH.enter 200 rfl fun X bb hfit hp=>by
  refine sh ?_
  refine aj.pure h.J0.UJ.hb cp rfl ?_
  refine sh ?_
  refine aD (by rfl) ?_
  refine sh ?_
  refine br (by show _=aq [n0,n1,n2,n3,n4,n5,n6,n7]; rw[<-e1]; simp[aq,List.drop_take]) ?_
  refine fun _=>⟨⟨by simp,by omega⟩,?_⟩
  refine fun _=>br (show _=[n0,n1,n2,n3,n4,n5,n6,n7].map b8 from rfl) ?_
  refine sh ?_
  refine br (by show _=aq mk; rw[<-e2]; simp[aq,List.drop_take]) ?_
  refine sh ?_
  refine br (by show _=aq (jI B U [k0,k1,k2,k3,k4,k5,k6,k7,k8,k9,eo,ep,eu,ez,eB,eC,eD,eE,eG,eH,eJ,eQ,eR,eT,eU,eV,eW,eX,eY,fe,fh,fi] [n0,n1,n2,n3,n4,n5,n6,n7] mk p 0 N); rw[<-e3]; simp[aq]) ?_
  refine sh ?_
  refine cM false [] (zh h.Bc (jI B U [k0,k1,k2,k3,k4,k5,k6,k7,k8,k9,eo,ep,eu,ez,eB,eC,eD,eE,eG,eH,eJ,eQ,eR,eT,eU,eV,eW,eX,eY,fe,fh,fi] [n0,n1,n2,n3,n4,n5,n6,n7] mk p 0 N) (by omega)) ?_
  repeat (intro _; first|refine eK ?_|refine eP ?_)
  refine sh ?_
  refine mw 200 (fun j:Nat=>j<=N) (fun j=>⟨[(2,.loc 0 1 0 0),(4,.loc 1 1 0 0),(5,.loc 2 1 0 0),(7,R.cl 547 []),(8,.loc 3 1 0 0),(10,.loc 4 1 0 0),(11,.aH 1 (aq mk)),(12,.loc 5 1 0 0),(13,.bi 6 (p.take (256*j)).length),(42,.int .i64 N),(43,.int .i64 j)],[(0,.var (R.ty 63) ([k0,k1,k2,k3,k4,k5,k6,k7,k8,k9,eo,ep,eu,ez,eB,eC,eD,eE,eG,eH,eJ,eQ,eR,eT,eU,eV,eW,eX,eY,fe,fh,fi].map b8)),(1,.var (R.ty 2) [.int .u64 0,.int .i64 0,.int .u32 0,.int .u8 0,.int .u8 0,.int .u8 0,.int .u8 0,.int .u8 0,.int .u8 0,.int .u8 0,.int .u8 0,.int .u32 0,.int .u32 0,.int .i64 0,.int .i64 0]),(2,.var (R.ty 39) [.int .i64 0,.ab,.ab,.ab,.int .i64 0,.ab,.int .i64 0,.int .i64 0,.int .i64 0,.int .i64 0,.int .i64 0,.int .i64 0,.int .i64 0,.int .i64 0,.int .i64 0,.int .i64 0,.int .i64 0,.int .i64 0,.int .i64 0,.int .i64 0,.int .i64 0,.int .i64 0,.int .i64 0,.int .i64 0]),(3,.var (R.ty 2) q.row),(4,.var (R.ty 1) ([n0,n1,n2,n3,n4,n5,n6,n7].map b8)),(5,.var (R.ty 9) (Rd.row ⟨jI B U [k0,k1,k2,k3,k4,k5,k6,k7,k8,k9,eo,ep,eu,ez,eB,eC,eD,eE,eG,eH,eJ,eQ,eR,eT,eU,eV,eW,eX,eY,fe,fh,fi] [n0,n1,n2,n3,n4,n5,n6,n7] mk p j (N - j),0,true⟩)),(6,.arr (R.ty 4) 1 (aq (p.take (256*j))))],7⟩) (fun j=>N - j) (0) ?_ ?_
  ·exact Nat.zero_le _
  ·intro j hj
   dsimp only
   refine sh ?_
   refine cS (fun hc=> ?_) (fun hc=> ?_)
   ·have hj1:j<N:=by simpa using hc
    have ab6:((p.drop (256*j)).take 256).length<=256:=by simp; omega
    have HS:min (256:Int) (q.size - ((p.take (256*j)).length:Nat))=(((p.drop (256*j)).take 256).length:Nat):=by rw[hS]; simp; omega
    have e6:p.take (256*j)++(p.drop (256*j)).take 256=p.take (256* (j+1)):=by rw[Nat.mul_succ,List.take_add]
    have hsp:N - j=(N - (j+1))+1:=by omega
    have cn:=se h.pe [n0,n1,n2,n3,n4,n5,n6,n7] (j+1) rfl
    have hnl:=hQ (b:=[n0,n1,n2,n3,n4,n5,n6,n7]) rfl (j+1)
    have cc:=K1 h.OI BC UC [k0,k1,k2,k3,k4,k5,k6,k7,k8,k9,eo,ep,eu,ez,eB,eC,eD,eE,eG,eH,eJ,eQ,eR,eT,eU,eV,eW,eX,eY,fe,fh,fi] (jq [n0,n1,n2,n3,n4,n5,n6,n7] (j+1)) mk ((p.drop (256*j)).take 256) (jI B U [k0,k1,k2,k3,k4,k5,k6,k7,k8,k9,eo,ep,eu,ez,eB,eC,eD,eE,eG,eH,eJ,eQ,eR,eT,eU,eV,eW,eX,eY,fe,fh,fi] [n0,n1,n2,n3,n4,n5,n6,n7] mk p (j+1) (N - (j+1))) j rfl hnl hmk ab6 (by omega)
    rw[<-List.append_assoc]at cc
    change R.Mc _ _ (mD R ⟨xy B U [k0,k1,k2,k3,k4,k5,k6,k7,k8,k9,eo,ep,eu,ez,eB,eC,eD,eE,eG,eH,eJ,eQ,eR,eT,eU,eV,eW,eX,eY,fe,fh,fi] [n0,n1,n2,n3,n4,n5,n6,n7] mk j ((p.drop (256*j)).take 256)++_,0,true⟩) _ _ _ at cc
    rw[show xy B U [k0,k1,k2,k3,k4,k5,k6,k7,k8,k9,eo,ep,eu,ez,eB,eC,eD,eE,eG,eH,eJ,eQ,eR,eT,eU,eV,eW,eX,eY,fe,fh,fi] [n0,n1,n2,n3,n4,n5,n6,n7] mk j ((p.drop (256*j)).take 256)++jI B U [k0,k1,k2,k3,k4,k5,k6,k7,k8,k9,eo,ep,eu,ez,eB,eC,eD,eE,eG,eH,eJ,eQ,eR,eT,eU,eV,eW,eX,eY,fe,fh,fi] [n0,n1,n2,n3,n4,n5,n6,n7] mk p (j+1) (N - (j+1))=jI B U [k0,k1,k2,k3,k4,k5,k6,k7,k8,k9,eo,ep,eu,ez,eB,eC,eD,eE,eG,eH,eJ,eQ,eR,eT,eU,eV,eW,eX,eY,fe,fh,fi] [n0,n1,n2,n3,n4,n5,n6,n7] mk p j (N - j) by rw[hsp]; rfl]at cc
    generalize jq [n0,n1,n2,n3,n4,n5,n6,n7] (j+1)=nn at cn hnl cc
    obtain⟨Yh,Yi,Yj,Yk,Yl,Ym,Yn,Yo,Yp,Yq,KW,KX,rfl⟩:=ll hnl
    refine sh ?_
    refine aj.pure h.pe.GY.hb cn rfl ?_
    refine sh ?_
    rw[HS]
    refine cW false [5] cc ?_
    repeat (intro _; first|refine eK ?_|refine eP ?_)
    refine sh ?_
    refine aD (by rfl) ?_
    refine sh ?_
    refine nX (j+1) ?_ ?_ ⟨_,hp,rfl⟩ ?_ ?_
    ·omega
    ·omega
    ·all_goals repeat' (first|exact True.intro|refine And.intro ?_ ?_|(intro _u; clear _u)|(with_reducible first|exact aU.fg|refine eM ?_ ?_|refine eF ?_ ?_ ?_|refine eN ?_|refine eL ?_ ?_ ?_|refine eA ?_ ?_|refine bp.mk ⟨_,hp,rfl⟩ ?_ ?_)|refine bp.mk ⟨_,hp,rfl⟩ ?_ ?_)
     all_goals try first|with_reducible rfl|omega|exact .inl (by decide)|(simp; done)|rfl
     all_goals rw[<-mA,e6,cy]
    ·all_goals repeat' (first|exact True.intro|refine And.intro ?_ ?_|(intro _u; clear _u)|(with_reducible first|exact aU.fg|refine eM ?_ ?_|refine eF ?_ ?_ ?_|refine eN ?_|refine eL ?_ ?_ ?_|refine eA ?_ ?_|refine bp.mk ⟨_,hp,rfl⟩ ?_ ?_)|refine bp.mk ⟨_,hp,rfl⟩ ?_ ?_)
     all_goals try first|with_reducible rfl|omega|exact .inl (by decide)|(simp; done)|rfl
     all_goals exact (mA _ _).symm.trans (congrArg aq e6)
   ·obtain rfl:j=N:=by have:¬j<N:=by simpa using hc
                       omega
    rw[List.take_of_length_le (by omega),Nat.sub_self]
    refine sh ?_
    refine cM false [5] (Qr h.n68 ⟨[],0,true⟩) ?_
    repeat (intro _; first|refine eK ?_|refine eP ?_)
    refine sh ?_
    refine aD (by rfl) ?_
    refine sh ?_
    refine aj.let [6] rfl hp rfl ?_
    repeat ((intro _u; clear _u); first|refine eZ ?_|refine eZ ?_ (by simp; omega)|refine lD.drop ?_)
    refine sh ?_
    rw[hK]
    refine aj.pure h.n304.UG.hb ca rfl ?_
    refine sh ?_
    refine aD (by rfl) ?_
    refine sh ?_
    exact rT
end Go.UM
namespace Go.UM
open Go.AM
set_option maxRecDepth 4000
abbrev Ie(R:Env)(to:Int):ah:=[(0,.var (R.ty 61) [.ab,.ab,.ab,.ab,.ab,.ab,.int .u32 0,.int .u32 0,.int .u32 to,.omap 1,.omap 2,.omap 3]),(1,.map 1 false true true 41 []),(2,.map 1 false false true 2 []),(3,.map 1 false false true 2 [])]
theorem If{R:Env}(h:O9 R):R.Mc 505 [.loc 0 1 0 0,.ab,.int .i64 0] (Ie R 0) (.aG []) (Ie R 4294967295) 4:=
 h.aaU.aL 200 4 rfl rfl rfl fun X bb hfit hp=>by
  unfold Ie
  refine sh ?_
  refine az.one 100 ?_
  refine sh ?_
  refine aD (by rfl) ?_
  refine sh ?_
  exact rM [0,1,2,3]
def WZ:List AV:=[.ab,.ab,.ab,.ab,.ab,.ab,.int .u32 0,.int .u32 0,.int .u32 4294967295]
theorem K3{R:Env}(h:O' R)(K:Cp R)(S:Cq R)(cr:R.Mc 439 [.omap 0] [(0,.map 1 false true true 41 [])] (.omap 1) [(0,.map 1 false true true 41 []),(1,.map 1 false true true 41 [])] 2)
  (ci:R.Mc 440 [.omap 0] [(0,.map 4 true true true 16 [])] (.omap 1) [(0,.map 4 true true true 16 []),(1,.map 4 true true true 16 [])] 2):
  R.Mz true 491 [.loc 2 1 0 0,.int .i64 0] (kB R true true ⟨[],[]⟩) (.aG [.agg WZ,.int .i64 0]) (kB R true false ⟨[],[]⟩) 3:=
 h.aaV.mZ 200 3 rfl rfl rfl fun X bb hfit hp hz=>by
  unfold kB
  refine sh ?_
  refine cM false [0,1,2] (Ky h.Pd cr ci) ?_
  repeat (intro _; first|refine eK ?_|refine eP ?_)
  refine sh ?_
  refine aD (by rfl) ?_
  refine sh ?_
  refine aD (by rfl) ?_
  refine sh ?_
  refine cM false [0,1,2] (KA h.Pa K) ?_
  repeat (intro _; first|refine eK ?_|refine eP ?_)
  refine sh ?_
  refine cM false [10,7,8,9] (If h.Pe) ?_
  repeat (intro _; first|refine eK ?_|refine eP ?_)
  refine sh ?_
  refine cM false [0,1,2] (HI h.Pb S) ?_
  repeat (intro _; first|refine eK ?_|refine eP ?_)
  refine sh ?_
  refine az.one 100 ?_
  refine sh ?_
  refine aD (by rfl) ?_
  refine sh ?_
  exact rM [0,1,2]
def ab7:List AV:=[.int .i64 0,.int .i64 0,.int .i64 0,.int .i64 0,.int .i64 0,.int .u64 0,.int .i64 0,.int .i64 0,.int .i64 0,.int .i64 0,.int .i64 0,.int .i64 0,.int .i64 0,.int .i64 0,.int .i64 0,.int .i64 0,.int .i64 0,.int .i64 0,.int .i64 0,.int .i64 0,.bool false,.bool false,.int .i64 0,.ax]
def ab8:List AV:=[.int .u32 0,.int .i64 0,.int .i64 0,.int .u32 0,.int .i64 0,.int .i64 0,.int .u32 0,.int .i64 0,.int .i64 0,.int .u32 0,.int .i64 0,.int .i64 0,.int .u32 0,.int .i64 0,.int .i64 0,.int .u32 0,.int .i64 0,.int .i64 0,.int .u32 0,.int .i64 0,.int .i64 0,.int .u32 0,.int .i64 0,.int .i64 0]
def ab9(k:List UInt8)(ab':List AV):List AV:=k.map b8++(.loc 2 1 0 0:: .int .u32 0::((ab'.map fun l=>ab7++l::ab8).flatten++ [.int .i64 0,.int .i64 0,.int .i64 0]))
abbrev oz(R:Env)(k:List UInt8)(d1 d2:Bool)(t:Tb):ah:=kB R d1 d2 t++ [(3,.var (R.ty 69) (ab9 k [.loc 4 1 0 0,.loc 5 1 0 0,.loc 6 1 0 0,.loc 7 1 0 0,.loc 8 1 0 0,.loc 9 1 0 0,.loc 10 1 0 0,.loc 11 1 0 0])),(4,.var (R.ty 72) (nG 0)),(5,.var (R.ty 72) (nG 1)),(6,.var (R.ty 72) (nG 2)),(7,.var (R.ty 72) (nG 3)),(8,.var (R.ty 72) (nG 4)),(9,.var (R.ty 72) (nG 5)),(10,.var (R.ty 72) (nG 6)),(11,.var (R.ty 72) (nG 7))]
set_option maxHeartbeats 4000000 in
theorem Ig{R:Env}(h:J' R)(k:List UInt8)(hk:k.length=32):R.Mc 517 [.agg (k.map b8)] [] (.loc 3 1 0 0) (oz R k true true ⟨[],[]⟩) 12:=by
 obtain⟨k0,k1,k2,k3,k4,k5,k6,k7,k8,k9,eo,ep,eu,ez,eB,eC,eD,eE,eG,eH,eJ,eQ,eR,eT,eU,eV,eW,eX,eY,fe,fh,fi,rfl⟩:=cz hk
 exact h.aaW.aL 200 0 rfl rfl rfl fun X bb hfit hp=>by
  refine sh ?_
  refine cM false [] (PU h.n345) ?_
  repeat (intro _; first|refine eK ?_|refine eP ?_)
  refine sh ?_
  refine az.one 100 ?_
  refine sh ?_
  refine aw (by rfl) ?_
  refine sh ?_
  refine cM false [] (mL h.uY 0 (by omega)) ?_
  repeat (intro _; first|refine eK ?_|refine eP ?_)
  refine sh ?_
  refine az.one 100 ?_
  refine sh ?_
  refine aw (by rfl) ?_
  refine sh ?_
  refine cM false [] (mL h.uY 1 (by omega)) ?_
  repeat (intro _; first|refine eK ?_|refine eP ?_)
  refine sh ?_
  refine az.one 100 ?_
  refine sh ?_
  refine aw (by rfl) ?_
  refine sh ?_
  refine cM false [] (mL h.uY 2 (by omega)) ?_
  repeat (intro _; first|refine eK ?_|refine eP ?_)
  refine sh ?_
  refine az.one 100 ?_
  refine sh ?_
  refine aw (by rfl) ?_
  refine sh ?_
  refine cM false [] (mL h.uY 3 (by omega)) ?_
  repeat (intro _; first|refine eK ?_|refine eP ?_)
  refine sh ?_
  refine az.one 100 ?_
  refine sh ?_
  refine aw (by rfl) ?_
  refine sh ?_
  refine cM false [] (mL h.uY 4 (by omega)) ?_
  repeat (intro _; first|refine eK ?_|refine eP ?_)
  refine sh ?_
  refine az.one 100 ?_
  refine sh ?_
  refine aw (by rfl) ?_
  refine sh ?_
  refine cM false [] (mL h.uY 5 (by omega)) ?_
  repeat (intro _; first|refine eK ?_|refine eP ?_)
  refine sh ?_
  refine az.one 100 ?_
  refine sh ?_
  refine aw (by rfl) ?_
  refine sh ?_
  refine cM false [] (mL h.uY 6 (by omega)) ?_
  repeat (intro _; first|refine eK ?_|refine eP ?_)
  refine sh ?_
  refine az.one 100 ?_
  refine sh ?_
  refine aw (by rfl) ?_
  refine sh ?_
  refine cM false [] (mL h.uY 7 (by omega)) ?_
  repeat (intro _; first|refine eK ?_|refine eP ?_)
  refine sh ?_
  refine az.one 100 ?_
  refine sh ?_
  refine aD (by rfl) ?_
  refine sh ?_
  exact rM [1,2,3,4,5,6,7,8,9,10,11,12]
end Go.UM
namespace Go.UM
open Go.AM
set_option maxRecDepth 4000
def opT:List AV:=[.int .i64 0,.int .i64 0,.int .i64 0,.int .i64 0,.int .i64 0,.int .i64 0,.int .i64 0,.int .i64 0,.int .i64 0,.int .i64 0,.int .i64 0,.int .i64 0,.int .i64 0,.int .i64 0,.int .i64 0,.int .i64 0,.int .i64 0,.int .i64 0,.int .i64 0,.int .i64 0,.int .i64 0,.int .i64 0,.int .u64 0,.int .i64 0,.int .i64 0,.int .i64 0,.int .i64 0,.int .i64 0,.int .i64 0,.int .i64 0,.int .i64 0,.int .i64 0,.int .i64 0,.int .i64 0,.int .i64 0,.int .i64 0,.int .i64 0,.bool false,.int .i64 0,.int .i64 0,.int .u32 0,.int .i64 0,.int .i64 0]
def opL(b:List UInt8):List AV:= .int .i64 1:: .int .i64 7:: .aH 1 (aq b)::opT
def opQ:List AV:= .int .i64 9:: .int .i64 0:: .ab::opT
theorem Qu{R:Env}(h:Ka R)(e:Int):R.Pc 536 [.int .i64 e] (.agg [.int .i64 e,.ab,.ab]):=
 h.Vm.enter 60 rfl fun X bb hfit hp=>by
  refine sh ?_
  exact rT
theorem Cw{R:Env}(h:Pf R)(k:List UInt8)(hk:k.length=32)(d1 d2:Bool)(t:Tb):R.Mc 535 [.loc 3 1 0 0] (oz R k d1 d2 t) (.bool false) (oz R k d1 d2 t) 12:=by
 obtain⟨k0,k1,k2,k3,k4,k5,k6,k7,k8,k9,eo,ep,eu,ez,eB,eC,eD,eE,eG,eH,eJ,eQ,eR,eT,eU,eV,eW,eX,eY,fe,fh,fi,rfl⟩:=cz hk
 exact h.aaX.aL 100 12 rfl rfl rfl fun X bb hfit hp=>by
  refine sh ?_
  exact rM [0,1,2,3,4,5,6,7,8,9,10,11]
set_option maxHeartbeats 4000000 in
theorem zW{R:Env}(h:G3 R)(k b:List UInt8)(hk:k.length=32)(f:Mf)(a:As)(co:R.Pc 528 [.agg (k.map b8),.aH 1 (aq b)] (.aG [.agg f.row,.agg a.row,.int .i64 0]))(d1 d2:Bool)(t:Tb)
  (fx:a.x.t.length<=1000) (fb:a.bare.Bt) (hn:t.rows.length<=1000000):
  R.Mc 518 [.loc 3 1 0 0,.agg (opL b)] (oz R k d1 d2 t) (.agg [.int .i64 (mG t 7 f a).2,.ab,.ab]) (oz R k d1 d2 (mG t 7 f a).1) 12:=by
 have cl:=PW h.n346 d1 d2 t 7 f a fx fb hn
 generalize mG t 7 f a=q at cl ⊢
 obtain⟨k0,k1,k2,k3,k4,k5,k6,k7,k8,k9,eo,ep,eu,ez,eB,eC,eD,eE,eG,eH,eJ,eQ,eR,eT,eU,eV,eW,eX,eY,fe,fh,fi,rfl⟩:=cz hk
 exact h.Vt.aL 300 12 rfl rfl rfl fun X bb hfit hp=>by
  refine sh ?_
  refine cM false [0,1,2,3,4,5,6,7,8,9,10,11] (Cw h.Kb [k0,k1,k2,k3,k4,k5,k6,k7,k8,k9,eo,ep,eu,ez,eB,eC,eD,eE,eG,eH,eJ,eQ,eR,eT,eU,eV,eW,eX,eY,fe,fh,fi] rfl d1 d2 t) ?_
  repeat (intro _; first|refine eK ?_|refine eP ?_)
  refine sh ?_
  refine aw (by rfl) ?_
  refine sh ?_
  refine aj.pure h.Bf.OH.hb co rfl ?_
  refine sh ?_
  refine aD (by rfl) ?_
  refine sh ?_
  refine cW false [0,1,2] (cl) ?_
  repeat (intro _; first|refine eK ?_|refine eP ?_)
  refine sh ?_
  refine aj.pure h.DU.Vm.hb (Qu h.DU q.2) rfl ?_
  refine sh ?_
  exact rM [0,1,2,3,4,5,6,7,8,9,10,11]
end Go.UM
namespace Go.UM
open Go.AM
set_option maxRecDepth 4000
structure BL(R:Env):Prop where
 k:Cp R
 s:Cq R
 r:R.Mc 439 [.omap 0] [(0,.map 1 false true true 41 [])] (.omap 1) [(0,.map 1 false true true 41 []),(1,.map 1 false true true 41 [])] 2
 i:R.Mc 440 [.omap 0] [(0,.map 4 true true true 16 [])] (.omap 1) [(0,.map 4 true true true 16 []),(1,.map 4 true true true 16 [])] 2
set_option maxHeartbeats 4000000 in
theorem K4{R:Env}(h:Pk R)(E:BL R)(k:List UInt8)(hk:k.length=32):R.Mz true 575 [.loc 3 1 0 0,.loc 3 1 0 34,.int .i64 0] (oz R k true true ⟨[],[]⟩) (.aG [.agg WZ,.bool false]) (oz R k true false ⟨[],[]⟩) 12:=by
 obtain⟨k0,k1,k2,k3,k4,k5,k6,k7,k8,k9,eo,ep,eu,ez,eB,eC,eD,eE,eG,eH,eJ,eQ,eR,eT,eU,eV,eW,eX,eY,fe,fh,fi,rfl⟩:=cz hk
 exact h.aaZ.mZ 200 12 rfl rfl rfl fun X bb hfit hp hz=>by
  refine sh ?_
  refine cM false [0,1,2] (K3 h.Pl E.k E.s E.r E.i) ?_
  repeat (intro _; first|refine eK ?_|refine eP ?_)
  refine sh ?_
  exact rM [0,1,2,3,4,5,6,7,8,9,10,11]
theorem L8{R:Env}(h:Ph R):R.Pc 574 [.bool false] (.int .i64 0):=
 h.Pj.enter 60 rfl fun X bb hfit hp=>by
  refine sh ?_
  exact rT
set_option maxHeartbeats 4000000 in
theorem K5{R:Env}(h:Pm R)(E:BL R)(k:List UInt8)(hk:k.length=32):R.Mz true 554 [.loc 3 1 0 0,.loc 3 1 0 34,.agg opQ] (oz R k true true ⟨[],[]⟩) (.agg [.int .i64 0,.aH 1 [[.int .i64 0],[.int .i64 0],[.int .i64 0]],.aH 1 (aq (jp 0))]) (oz R k true false ⟨[],[]⟩) 12:=by
 have ch:=KV h.Pp 0
 have ce:=Qo h.Pn 0
 have hv:uM ((jp 0).map b8) 0 32 1 (aq (jp 0)):=by
  have:=wq (l:=jp 0) (off:=0) (cnt:=32) (by rw[fy]; omega)
  rwa[List.drop_zero,List.take_of_length_le (by rw[fy]; omega)]at this
 obtain⟨k0,k1,k2,k3,k4,k5,k6,k7,k8,k9,eo,ep,eu,ez,eB,eC,eD,eE,eG,eH,eJ,eQ,eR,eT,eU,eV,eW,eX,eY,fe,fh,fi,rfl⟩:=cz hk
 exact h.aa0.mZ 200 12 rfl rfl rfl fun X bb hfit hp hz=>by
  refine sh ?_
  refine cM false [0,1,2,3,4,5,6,7,8,9,10,11] (K4 h.Po E [k0,k1,k2,k3,k4,k5,k6,k7,k8,k9,eo,ep,eu,ez,eB,eC,eD,eE,eG,eH,eJ,eQ,eR,eT,eU,eV,eW,eX,eY,fe,fh,fi] rfl) ?_
  repeat (intro _; first|refine eK ?_|refine eP ?_)
  refine sh ?_
  refine cM false [4] (ch) ?_
  repeat (intro _; first|refine eK ?_|refine eP ?_)
  refine sh ?_
  refine aj.pure h.DT.Pj.hb (L8 h.DT) rfl ?_
  refine sh ?_
  refine aj.pure h.DT.Pj.hb (L8 h.DT) rfl ?_
  refine sh ?_
  refine cR false [4] (ce) ?_
  repeat (intro _; first|refine eK ?_|refine eP ?_)
  first|refine⟨⟨[],rfl,rfl⟩,?_⟩|refine⟨⟨[_],rfl,rfl⟩,?_⟩|refine⟨⟨[_,_],rfl,rfl⟩,?_⟩
  refine sh ?_
  refine rM [0,1,2,3,4,5,6,7,8,9,10,11] ?_
  all_goals repeat' (first|exact True.intro|refine And.intro ?_ ?_|(intro _u; clear _u)|(with_reducible first|exact aU.fg|refine eM ?_ ?_|refine eF ?_ ?_ ?_|refine eN ?_|refine eL ?_ ?_ ?_|refine eA ?_ ?_|refine bp.mk ⟨_,hp,rfl⟩ ?_ ?_)|refine bp.mk ⟨_,hp,rfl⟩ ?_ ?_)
  all_goals try first|with_reducible rfl|omega|exact .inl (by decide)|(simp; done)|rfl
  exact hv
theorem K6{R:Env}(h:Pg R)(k:List UInt8)(hk:k.length=32):R.Mc 537 [.loc 3 1 0 0,.int .i64 0] (oz R k true true ⟨[],[]⟩) (.aG [.loc 3 1 0 34,.bool true]) (oz R k true true ⟨[],[]⟩) 12:=by
 obtain⟨k0,k1,k2,k3,k4,k5,k6,k7,k8,k9,eo,ep,eu,ez,eB,eC,eD,eE,eG,eH,eJ,eQ,eR,eT,eU,eV,eW,eX,eY,fe,fh,fi,rfl⟩:=cz hk
 exact h.aaY.aL 100 12 rfl rfl rfl fun X bb hfit hp=>by
  refine sh ?_
  refine aD (by rfl) ?_
  refine sh ?_
  refine aD (by rfl) ?_
  refine sh ?_
  exact rM [0,1,2,3,4,5,6,7,8,9,10,11]
set_option maxHeartbeats 4000000 in
theorem W6{R:Env}(h:Pq R)(E:BL R)(k:List UInt8)(hk:k.length=32):R.Mz true 538 [.loc 3 1 0 0,.loc 3 1 0 34,.agg opQ] (oz R k true true ⟨[],[]⟩) (.agg [.int .i64 0,.aH 1 [[.int .i64 0],[.int .i64 0],[.int .i64 0]],.aH 1 (aq (jp 0))]) (oz R k true false ⟨[],[]⟩) 12:=by
 obtain⟨k0,k1,k2,k3,k4,k5,k6,k7,k8,k9,eo,ep,eu,ez,eB,eC,eD,eE,eG,eH,eJ,eQ,eR,eT,eU,eV,eW,eX,eY,fe,fh,fi,rfl⟩:=cz hk
 exact h.aa1.mZ 200 12 rfl rfl rfl fun X bb hfit hp hz=>by
  refine sh ?_
  refine aD (by rfl) ?_
  refine sh ?_
  refine aD (by rfl) ?_
  refine sh ?_
  refine aw (by rfl) ?_
  refine sh ?_
  refine cM false [0,1,2,3,4,5,6,7,8,9,10,11] (K5 h.Pr E [k0,k1,k2,k3,k4,k5,k6,k7,k8,k9,eo,ep,eu,ez,eB,eC,eD,eE,eG,eH,eJ,eQ,eR,eT,eU,eV,eW,eX,eY,fe,fh,fi] rfl) ?_
  repeat (intro _; first|refine eK ?_|refine eP ?_)
  refine sh ?_
  exact rM [0,1,2,3,4,5,6,7,8,9,10,11]
set_option maxHeartbeats 4000000 in
theorem EC{R:Env}(h:G3 R)(E:BL R)(k:List UInt8)(hk:k.length=32):R.Mz true 518 [.loc 3 1 0 0,.agg opQ] (oz R k true true ⟨[],[]⟩) (.agg [.int .i64 0,.aH 1 [[.int .i64 0],[.int .i64 0],[.int .i64 0]],.aH 1 (aq (jp 0))]) (oz R k true false ⟨[],[]⟩) 12:=by
 obtain⟨k0,k1,k2,k3,k4,k5,k6,k7,k8,k9,eo,ep,eu,ez,eB,eC,eD,eE,eG,eH,eJ,eQ,eR,eT,eU,eV,eW,eX,eY,fe,fh,fi,rfl⟩:=cz hk
 exact h.Vt.mZ 300 12 rfl rfl rfl fun X bb hfit hp hz=>by
  refine sh ?_
  refine cM false [0,1,2,3,4,5,6,7,8,9,10,11] (Cw h.Kb [k0,k1,k2,k3,k4,k5,k6,k7,k8,k9,eo,ep,eu,ez,eB,eC,eD,eE,eG,eH,eJ,eQ,eR,eT,eU,eV,eW,eX,eY,fe,fh,fi] rfl true true ⟨[],[]⟩) ?_
  repeat (intro _; first|refine eK ?_|refine eP ?_)
  iterate 9
   refine sh ?_
   refine aD (by rfl) ?_
  refine sh ?_
  refine aw (by rfl) ?_
  refine sh ?_
  refine cM false [0,1,2,3,4,5,6,7,8,9,10,11] (K6 h.Ps [k0,k1,k2,k3,k4,k5,k6,k7,k8,k9,eo,ep,eu,ez,eB,eC,eD,eE,eG,eH,eJ,eQ,eR,eT,eU,eV,eW,eX,eY,fe,fh,fi] rfl) ?_
  repeat (intro _; first|refine eK ?_|refine eP ?_)
  refine sh ?_
  refine cM false [0,1,2,3,4,5,6,7,8,9,10,11] (W6 h.Pt E [k0,k1,k2,k3,k4,k5,k6,k7,k8,k9,eo,ep,eu,ez,eB,eC,eD,eE,eG,eH,eJ,eQ,eR,eT,eU,eV,eW,eX,eY,fe,fh,fi] rfl) ?_
  repeat (intro _; first|refine eK ?_|refine eP ?_)
  refine sh ?_
  exact rM [0,1,2,3,4,5,6,7,8,9,10,11]
end Go.UM
namespace Go.UM
open Go.AM
set_option maxRecDepth 4000
theorem ED{R:Env}(h:Px R)(E:BL R):R.Pz true 523 [] (.bool true):=
 h.Py.A0 200 rfl fun X bb hfit hp hz=>by
  refine sh ?_
  refine cM false [] (Ig h.DV (1::List.replicate 31 0) rfl) ?_
  repeat (intro _; first|refine eK ?_|refine eP ?_)
  refine sh ?_
  refine cM false [0,1,2,3,4,5,6,7,8,9,10,11] (EC h.Bg E (1::List.replicate 31 0) rfl) ?_
  repeat (intro _; first|refine eK ?_|refine eP ?_)
  refine sh ?_
  refine aw (by rfl) ?_
  refine sh ?_
  refine aw (by rfl) ?_
  refine sh ?_
  exact rT
end Go.UM
namespace Go.UM
open Go.AM
set_option maxRecDepth 4000
theorem As.Ih(a:As):a.nC.Bt:=by
 refine⟨?_,?_,?_,?_⟩<;>(simp only[As.nC,Ms.nC,List.length_take]; omega)
variable {B:List UInt8->List UInt8->Int->List UInt8} {U:List UInt8->List UInt8->List UInt8->List UInt8->List UInt8}
theorem zX(k n:List UInt8)(m:Mf)(a:As):(pE B U k n m a).2≠0/\(pE B U k n m a).1=[]\/ pE B U k n m a=(uj B U k n m (cN a),0)/\iD a=0/\ej (m.at' (cN a).length)=0:=by
 unfold pE
 split
 ·rename_i h; exact .inl ⟨h,rfl⟩
 ·rename_i h1
  split
  ·rename_i h; exact .inl ⟨h,rfl⟩
  ·rename_i h2
   have h3:iD a=0:=by
    apply Decidable.byContradiction
    intro h
    apply h1
    rw[nF,if_pos h]; exact h
   have e:nF a=(cN a,0):=by rw[nF,if_neg (by simpa using h3)]
   rw[e]at h2 ⊢
   refine .inr ⟨rfl,h3,?_⟩
   apply Decidable.byContradiction
   intro h
   apply h2
   rw[mM,if_neg h]; exact h
theorem BM(a:As):tU a a=true:=by simp[tU]
theorem EE{a b c:Int}{m0 m1 m2 m3 m4 m5 m6 m7:Int}{p q r s:Int}(h0:ed .u8 m0)(h1:ed .u8 m1)(h2:ed .u8 m2)(h3:ed .u8 m3)(h4:ed .u8 m4)(h5:ed .u8 m5)(h6:ed .u8 m6)(h7:ed .u8 m7)(i:Nat):
  0<=(⟨a,b,c,m0,m1,m2,m3,m4,m5,m6,m7,p,q,r,s⟩:Mf).jS i/\(⟨a,b,c,m0,m1,m2,m3,m4,m5,m6,m7,p,q,r,s⟩:Mf).jS i<=255:=by
 simp only[ed]at*
 rcases i with _|_|_|_|_|_|_|_|i<;>simp only[Mf.jS]<;>omega
def W7:List Int->Prop
 |[]=>True
 |x::l=>ed .u8 x/\W7 l
theorem W8:∀l:List Int,W7 l->l.map (AV.int .u8)=(l.map u8).map b8
 |[],_=>rfl
 |x::l,h=>by
  rw[List.map_cons,List.map_cons,List.map_cons,W8 l h.2,b8,<-lx,tB h.1]
def zIn:In:=⟨0,0,0,0,⟨0,0,0,0,0,0,0,0,0,z3⟩⟩
set_option maxHeartbeats 4000000 in
theorem EF{R:Env}(h:VA R)(E:BL R)(k:List UInt8)(hk:k.length=32)(m:Mf)(ok:m.Ok)(a:As)(hka:ed .i64 a.k):R.Pz true 526 [.agg (k.map b8),.agg m.row,.agg a.row] (.bool true):=by
 obtain⟨B,BC⟩:=abA h.Bi.DN.tG.GN.Bb
 obtain⟨U,UC⟩:=abZ h.Bi.DN.yV BC
 have cw:=ED h.G5 E
 have cf:=Kx h.G4 ⟨0,0,.zero,a,zIn⟩
 have ff:=a.Ih
 have Q3:({m with kind:=a.k}:Mf).Ok:=⟨ok.id,hka,ok.label,ok.jS,ok.first,ok.last,ok.size,ok.chunks⟩
 have cs:=K0 h.Bi BC UC k [1,2,3,0,0,0,0,0] {m with kind:=a.k} a.nC hk rfl Q3 ff rfl
 have cc:=zX (B:=B) (U:=U) k [1,2,3,0,0,0,0,0] {m with kind:=a.k} a.nC
 generalize pE B U k [1,2,3,0,0,0,0,0] {m with kind:=a.k} a.nC=q at cs cc
 obtain⟨k0,k1,k2,k3,k4,k5,k6,k7,k8,k9,eo,ep,eu,ez,eB,eC,eD,eE,eG,eH,eJ,eQ,eR,eT,eU,eV,eW,eX,eY,fe,fh,fi,rfl⟩:=cz hk
 rcases cc with⟨c1,c2⟩|⟨rfl,c3,c4⟩
 ·exact h.VB.A0 400 rfl fun X bb hfit hp hz=>by
   refine sh ?_
   refine aj.pure h.G4.Pw.hb cf rfl ?_
   refine sh ?_
   refine aj.pure h.Bi.OL.hb cs rfl ?_
   refine sh ?_
   refine aw (by simpa using c1) ?_
   rw[c2]
   refine sh ?_
   refine aw (by rfl) ?_
   refine sh ?_
   refine aj.pure h.G5.Py.hb cw rfl ?_
   refine sh ?_
   exact rT
 ·have rb:(cN a.nC).length<=2048:=by
   have:=(ng c3).2.2
   have:=Hz a.nC.k
   omega
  have co:=K2 h.Bf BC UC [k0,k1,k2,k3,k4,k5,k6,k7,k8,k9,eo,ep,eu,ez,eB,eC,eD,eE,eG,eH,eJ,eQ,eR,eT,eU,eV,eW,eX,eY,fe,fh,fi] [1,2,3,0,0,0,0,0] {m with kind:=a.k} a.nC (cN a.nC) rfl rfl Q3 c4 rb (Bx c3) (fun h2=>Ek c3 h2)
  have csm:=Hq h.n298 a.nC a.nC ff
  rw[BM]at csm
  have l1:=zW h.Bg [k0,k1,k2,k3,k4,k5,k6,k7,k8,k9,eo,ep,eu,ez,eB,eC,eD,eE,eG,eH,eJ,eQ,eR,eT,eU,eV,eW,eX,eY,fe,fh,fi] _ rfl _ a.nC co true true ⟨[],[]⟩ (by have:=ff.x; omega) ff.bare (by simp)
  have l2:=zW h.Bg [k0,k1,k2,k3,k4,k5,k6,k7,k8,k9,eo,ep,eu,ez,eB,eC,eD,eE,eG,eH,eJ,eQ,eR,eT,eU,eV,eW,eX,eY,fe,fh,fi] _ rfl _ a.nC co true true ⟨[⟨7,Mf.at' {m with kind:=a.k} (cN a.nC).length,a.nC⟩],[]⟩ (by have:=ff.x; omega) ff.bare (by simp)
  rw[show mG ⟨[],[]⟩ 7 (Mf.at' {m with kind:=a.k} (cN a.nC).length) a.nC=(⟨[⟨7,Mf.at' {m with kind:=a.k} (cN a.nC).length,a.nC⟩],[]⟩,0)from by rw[mG,if_neg (by omega),if_neg (by simp[zv]),if_neg (by simpa using c3),if_neg (by simp[Mf.at',As.nC])]; rfl]at l1
  rw[show mG ⟨[⟨7,Mf.at' {m with kind:=a.k} (cN a.nC).length,a.nC⟩],[]⟩ 7 (Mf.at' {m with kind:=a.k} (cN a.nC).length) a.nC=(⟨[⟨7,Mf.at' {m with kind:=a.k} (cN a.nC).length,a.nC⟩],[]⟩,10)from by rw[mG,if_neg (by omega),if_pos (by simp[zv])]]at l2
  exact h.VB.A0 400 rfl fun X bb hfit hp hz=>by
   refine sh ?_
   refine aj.pure h.G4.Pw.hb cf rfl ?_
   refine sh ?_
   refine aj.pure h.Bi.OL.hb cs rfl ?_
   refine sh ?_
   refine aD (by rfl) ?_
   refine sh ?_
   refine aj.pure h.Bf.OH.hb co rfl ?_
   refine sh ?_
   refine cM false [] (Ig h.DV [k0,k1,k2,k3,k4,k5,k6,k7,k8,k9,eo,ep,eu,ez,eB,eC,eD,eE,eG,eH,eJ,eQ,eR,eT,eU,eV,eW,eX,eY,fe,fh,fi] rfl) ?_
   repeat (intro _; first|refine eK ?_|refine eP ?_)
   refine sh ?_
   refine aD (by rfl) ?_
   refine sh ?_
   refine aj.pure h.n298.Ox.hb csm rfl ?_
   refine sh ?_
   refine aD (by simp[Mf.at']) ?_
   refine sh ?_
   refine aD (by simp[Mf.at']) ?_
   refine sh ?_
   refine cM false [6,7,8,9,10,11,12,13,14,15,16,17] (l1) ?_
   repeat (intro _; first|refine eK ?_|refine eP ?_)
   refine sh ?_
   refine aw (by rfl) ?_
   refine sh ?_
   refine cM false [6,7,8,9,10,11,12,13,14,15,16,17] (l2) ?_
   repeat (intro _; first|refine eK ?_|refine eP ?_)
   refine sh ?_
   refine aw (by rfl) ?_
   refine sh ?_
   refine aj.pure h.G5.Py.hb cw rfl ?_
   refine sh ?_
   exact rT
end Go.UM
namespace Go.UM
open Go.AM
end Go.UM
