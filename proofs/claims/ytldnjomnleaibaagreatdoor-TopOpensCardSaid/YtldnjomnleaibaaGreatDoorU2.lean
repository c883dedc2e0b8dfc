/- Of the reckoning machine, and what is proved with it: texts joined by program. -/
import Derived.Test.YtldnjomnleaibaaGreatDoorU1
import Derived.Test.YtldnjomnleaibaaGreatDoorU0
import Derived.Test.YtldnjomnleaibaaGreatDoorK3
set_option linter.all false
namespace Go.UM
open Go.AM
set_option maxRecDepth 4000
variable {B:List UInt8->List UInt8->Int->List UInt8} {U:List UInt8->List UInt8->List UInt8->List UInt8->List UInt8}
def gw(B:List UInt8->List UInt8->Int->List UInt8)(U:List UInt8->List UInt8->List UInt8->List UInt8->List UInt8)(k n mark p:List UInt8):Nat->List UInt8
 |0=>[]
 |j+1=>gw B U k n mark p j++xx B U k n mark j ((p.drop (256*j)).take 256)
structure xy:Prop where
 len:∀i m:Nat,i<65536->m<65536->(fH i m).length=4
 err:∀i m:Nat,i<65536->m<65536->(gV [] 2 [(i:Int),(m:Int)]).2=0
theorem se:xy:=by
 have key:∀i m:Nat,i<65536->m<65536->gV [] 2 [(i:Int),(m:Int)]=([]++ [(i:Int),(m:Int)].flatMap (enc (2:Int).toNat),0):=by
  intro i m hi hm
  unfold gV
  rw[if_neg (by omega),if_neg]
  have e:(256:Int) ^ (2:Int).toNat=65536:=rfl
  simp only[e,List.any_cons,List.any_nil,Bool.or_false,Bool.or_eq_true,decide_eq_true_eq]
  omega
 refine⟨fun i m hi hm=> ?_,fun i m hi hm=> ?_⟩
 ·rw[fH,key i m hi hm,List.nil_append,mA]; rfl
 ·rw[key i m hi hm]
theorem zQ{R:Env}(BC:jT R B)(UC:ql R U)(FO:xy)(k n mark:List UInt8)(i:Nat)(b:List UInt8)(hi:i<65536)(hb:b.length<=256):(xx B U k n mark i b).length=b.length+20:=by
 rw[xx,List.length_append,FO.len _ _ hi (by omega),fq BC UC]; omega
theorem ll{R:Env}(BC:jT R B)(UC:ql R U)(FO:xy)(k n mark p:List UInt8):∀j,j<=65536->(gw B U k n mark p j).length<=276*j
 |0,_=>by simp[gw]
 |j+1,h=>by
  have h1:=ll BC UC FO k n mark p j (by omega)
  have h2:=zQ BC UC FO k n mark j ((p.drop (256*j)).take 256) (by omega) (by simp; omega)
  have h3:((p.drop (256*j)).take 256).length<=256:=by simp; omega
  rw[gw,List.length_append]; omega
theorem BH(p:List UInt8)(j:Nat):(ap (p.drop (256*j))).drop ((((p.drop (256*j)).take 256).length:Nat):Int).toNat=ap (p.drop (256* (j+1))):=by
 have e:(ap (p.drop (256*j))).drop ((((p.drop (256*j)).take 256).length:Nat):Int).toNat=ap ((p.drop (256*j)).drop ((p.drop (256*j)).take 256).length):=by simp[ap]
 rw[e,List.drop_drop]
 by_cases h:256* (j+1)<=p.length
 ·rw[show 256*j+ ((p.drop (256*j)).take 256).length=256* (j+1) by simp; omega]
 ·rw[List.drop_of_length_le (by simp; omega),List.drop_of_length_le (by omega)]
theorem KU{R:Env}(h:GY R)(h5:OE R)(BC:jT R B)(UC:ql R U)(FO:xy){l:Nat}{r:Loop}(hlp:A6 R r my)(k n mark out p:List UInt8)(hk:k.length=32)(hn:n.length=8)(hm:mark.length=16)(ho:out.length<=1000)(RW:p.length<=16000000):
  Wc (GC R.P (R.ft 565) l r) [.bK (.lp l (qd r my.ss)) [.loc 0 1 0 0,.bc (n.map b8) 0,.loc 1 1 0 0,.loc 2 1 0 0],.loc 4 1 0 0] [(0,.var (R.ty 63) (k.map b8)),(1,.var (R.ty 51) [.bh 3 out.length]),(2,.var (R.ty 51) [.aG 1 (ap mark)]),(3,.arr (R.ty 4) 1 (ap out)),(4,.var (R.ty 51) [.aG 1 (ap p)])] (.aF [])
   [(0,.var (R.ty 63) (k.map b8)),(1,.var (R.ty 51) [.bh 3 (out++gw B U k n mark p ((p.length+255) / 256)).length]),(2,.var (R.ty 51) [.aG 1 (ap mark)]),(3,.arr (R.ty 4) 1 (ap (out++gw B U k n mark p ((p.length+255) / 256)))),(4,.var (R.ty 51) [.aG 1 []])] 5:=by
 obtain⟨k0,k1,k2,k3,k4,k5,k6,k7,k8,k9,ek,eo,ep,eu,ez,eB,eC,eD,eE,eG,eH,eJ,eQ,eR,eT,eU,eV,eW,eX,eY,fe,fh,rfl⟩:=cy hk
 obtain⟨n0,n1,n2,n3,n4,n5,n6,n7,rfl⟩:=wv hn
 exact h5.UI.Nc 200 5 rfl rfl rfl fun X bb hfit hp hX=>by
  refine sh ?_
  refine ay.inv 100 (fun j:Nat=>256*j<p.length+256) (fun j=>⟨[(0,.bK (.lp l (qd r my.ss)) [.loc 0 1 0 0,.bc ([n0,n1,n2,n3,n4,n5,n6,n7].map b8) 0,.loc 1 1 0 0,.loc 2 1 0 0]),(1,.loc 4 1 0 0),(3,.int .i64 j)],[(0,.var (R.ty 63) ([k0,k1,k2,k3,k4,k5,k6,k7,k8,k9,ek,eo,ep,eu,ez,eB,eC,eD,eE,eG,eH,eJ,eQ,eR,eT,eU,eV,eW,eX,eY,fe,fh].map b8)),(1,.var (R.ty 51) [.bh 3 (out++gw B U [k0,k1,k2,k3,k4,k5,k6,k7,k8,k9,ek,eo,ep,eu,ez,eB,eC,eD,eE,eG,eH,eJ,eQ,eR,eT,eU,eV,eW,eX,eY,fe,fh] [n0,n1,n2,n3,n4,n5,n6,n7] mark p j).length]),(2,.var (R.ty 51) [.aG 1 (ap mark)]),(3,.arr (R.ty 4) 1 (ap (out++gw B U [k0,k1,k2,k3,k4,k5,k6,k7,k8,k9,ek,eo,ep,eu,ez,eB,eC,eD,eE,eG,eH,eJ,eQ,eR,eT,eU,eV,eW,eX,eY,fe,fh] [n0,n1,n2,n3,n4,n5,n6,n7] mark p j))),(4,.var (R.ty 51) [.aG 1 (ap (p.drop (256*j)))])],5⟩) (fun j=>p.length+256 - 256*j) (0) ?_ ⟨⟨_,hp,rfl⟩,?_,?_⟩ ?_
  ·omega
  ·all_goals repeat' (first|exact True.intro|refine And.intro ?_ ?_|(intro _u; clear _u)|(with_reducible first|exact aS.fg|refine eM ?_ ?_|refine eF ?_ ?_ ?_|refine eN ?_|refine eL ?_ ?_ ?_|refine eA ?_ ?_|refine bo.mk ⟨_,hp,rfl⟩ ?_ ?_)|refine bo.mk ⟨_,hp,rfl⟩ ?_ ?_)
   all_goals try first|with_reducible rfl|omega|exact .inl (by decide)|(simp; done)|rfl
  ·all_goals repeat' (first|exact True.intro|refine And.intro ?_ ?_|(intro _u; clear _u)|(with_reducible first|exact aS.fg|refine eM ?_ ?_|refine eF ?_ ?_ ?_|refine eN ?_|refine eL ?_ ?_ ?_|refine eA ?_ ?_|refine bo.mk ⟨_,hp,rfl⟩ ?_ ?_)|refine bo.mk ⟨_,hp,rfl⟩ ?_ ?_)
   all_goals try first|with_reducible rfl|omega|exact .inl (by decide)|(simp; done)|rfl
   all_goals simp[gw]
  ·intro j hj
   dsimp only
   refine sh ?_
   refine cS (fun h1=> ?_) (fun h1=> ?_)
   ·have h2:256*j<p.length:=by simp at h1; omega
    have hcl:((p.drop (256*j)).take 256).length<=256:=by simp; omega
    have HR:min (((p.drop (256*j)).length:Nat):Int) 256=(((p.drop (256*j)).take 256).length:Nat):=by simp; omega
    have hcs:=ll BC UC FO [k0,k1,k2,k3,k4,k5,k6,k7,k8,k9,ek,eo,ep,eu,ez,eB,eC,eD,eE,eG,eH,eJ,eQ,eR,eT,eU,eV,eW,eX,eY,fe,fh] [n0,n1,n2,n3,n4,n5,n6,n7] mark p j (by omega)
    refine sh ?_
    rw[HR]
    refine bp (show _=ap ((p.drop (256*j)).take 256) by simp[ap,List.map_take,List.take_take]) ?_
    refine sh ?_
    refine cY false [0,1,2,3] hX hlp (H2 h BC UC hlp [k0,k1,k2,k3,k4,k5,k6,k7,k8,k9,ek,eo,ep,eu,ez,eB,eC,eD,eE,eG,eH,eJ,eQ,eR,eT,eU,eV,eW,eX,eY,fe,fh] [n0,n1,n2,n3,n4,n5,n6,n7] mark (out++gw B U [k0,k1,k2,k3,k4,k5,k6,k7,k8,k9,ek,eo,ep,eu,ez,eB,eC,eD,eE,eG,eH,eJ,eQ,eR,eT,eU,eV,eW,eX,eY,fe,fh] [n0,n1,n2,n3,n4,n5,n6,n7] mark p j) ((p.drop (256*j)).take 256) j rfl rfl hm hcl (by omega) (by simp; omega) (FO.len _ _ (by omega) (by omega)) (FO.err _ _ (by omega) (by omega))) ?_
    repeat (intro _; first|refine eK ?_|refine eP ?_)
    refine sh ?_
    refine bp (by exact BH p j) ?_
    refine sh ?_
    refine nX (j+1) ?_ ?_ ⟨_,hp,rfl⟩ ?_ ?_
    ·omega
    ·omega
    ·all_goals repeat' (first|exact True.intro|refine And.intro ?_ ?_|(intro _u; clear _u)|(with_reducible first|exact aS.fg|refine eM ?_ ?_|refine eF ?_ ?_ ?_|refine eN ?_|refine eL ?_ ?_ ?_|refine eA ?_ ?_|refine bo.mk ⟨_,hp,rfl⟩ ?_ ?_)|refine bo.mk ⟨_,hp,rfl⟩ ?_ ?_)
     all_goals try first|with_reducible rfl|omega|exact .inl (by decide)|(simp; done)|rfl
    ·all_goals repeat' (first|exact True.intro|refine And.intro ?_ ?_|(intro _u; clear _u)|(with_reducible first|exact aS.fg|refine eM ?_ ?_|refine eF ?_ ?_ ?_|refine eN ?_|refine eL ?_ ?_ ?_|refine eA ?_ ?_|refine bo.mk ⟨_,hp,rfl⟩ ?_ ?_)|refine bo.mk ⟨_,hp,rfl⟩ ?_ ?_)
     all_goals try first|with_reducible rfl|omega|exact .inl (by decide)|(simp; done)|rfl
     all_goals (rw[gw]; simp)
   ·have h2:p.length<=256*j:=by simp at h1; omega
    obtain rfl:j=(p.length+255) / 256:=by omega
    rw[List.drop_of_length_le h2]
    refine sh ?_
    exact rM [0,1,2,3,4]
end Go.UM
namespace Go.UM
open Go.AM
set_option maxRecDepth 4000
def Ey(n:Int):Int:=if n<1 then 0 else (n - 1) / 256+1
theorem zR{R:Env}(h:XV R)(n:Int)(hn:dZ .i64 n):R.Pc 39 [.int .i64 n] (.int .i64 (Ey n)):=
 h.o39.enter 60 rfl fun X b hfit hp=>by
  simp only[dZ]at hn
  refine sh ?_
  refine cS (fun h1=> ?_) (fun h1=> ?_)
  ·refine sh ?_
   refine rT ?_
   all_goals repeat' (first|exact True.intro|refine And.intro ?_ ?_|(intro _u; clear _u)|(with_reducible first|exact aS.fg|refine eM ?_ ?_|refine eF ?_ ?_ ?_|refine eN ?_|refine eL ?_ ?_ ?_|refine eA ?_ ?_|refine bo.mk ⟨_,hp,rfl⟩ ?_ ?_)|refine bo.mk ⟨_,hp,rfl⟩ ?_ ?_)
   all_goals try first|with_reducible rfl|omega|exact .inl (by decide)|(simp; done)|rfl
   simp[Ey]; omega
  ·refine sh ?_
   rw[Int.tdiv_eq_ediv_of_nonneg (by omega)]
   refine p' (by simp only[dZ]; omega) ?_
   refine sh ?_
   refine rT ?_
   all_goals repeat' (first|exact True.intro|refine And.intro ?_ ?_|(intro _u; clear _u)|(with_reducible first|exact aS.fg|refine eM ?_ ?_|refine eF ?_ ?_ ?_|refine eN ?_|refine eL ?_ ?_ ?_|refine eA ?_ ?_|refine bo.mk ⟨_,hp,rfl⟩ ?_ ?_)|refine bo.mk ⟨_,hp,rfl⟩ ?_ ?_)
   all_goals try first|with_reducible rfl|omega|exact .inl (by decide)|(simp; done)|rfl
   simp[Ey]; omega
def Mf.BI(m:Mf):Bool:=(List.range 8).any fun i=>decide (15<m.jR i)
theorem Mf.H4{m:Mf}{i:Nat}(hi:i<8)(h:15<m.jR i):m.BI=true:=by
 simp only[Mf.BI,List.any_eq_true,List.mem_range,decide_eq_true_eq]
 exact⟨i,hi,h⟩
theorem Mf.Qk{m:Mf}(h:∀j,j<8->m.jR j<=15):m.BI=false:=by
 rw[Bool.eq_false_iff]
 intro hh
 simp only[Mf.BI,List.any_eq_true,List.mem_range,decide_eq_true_eq]at hh
 obtain⟨i,hi,h1⟩:=hh
 have:=h i hi
 omega
def ei(m:Mf):Int:=if cap m.kind=0 then 12 else if m.BI=true then 5 else if m.last<m.first\/ m.size<1 then 5 else if cap m.kind<m.size then 9 else if m.chunks≠Ey m.size then 5 else 0
theorem H5{R:Env}(h:XW R)(m:Mf)(hs:dZ .i64 m.size):R.Pc 41 [.agg m.row] (.int .i64 (ei m)):=
 h.XX.enter 100 rfl fun X b hfit hp=>by
  refine sh ?_
  refine aj.pure h.n37.o37.hb (LQ h.n37 m.kind) rfl ?_
  refine sh ?_
  refine cS (fun h1=> ?_) (fun h1=> ?_)
  ·refine sh ?_
   refine rT ?_
   all_goals repeat' (first|exact True.intro|refine And.intro ?_ ?_|(intro _u; clear _u)|(with_reducible first|exact aS.fg|refine eM ?_ ?_|refine eF ?_ ?_ ?_|refine eN ?_|refine eL ?_ ?_ ?_|refine eA ?_ ?_|refine bo.mk ⟨_,hp,rfl⟩ ?_ ?_)|refine bo.mk ⟨_,hp,rfl⟩ ?_ ?_)
   all_goals try first|with_reducible rfl|omega|exact .inl (by decide)|(simp; done)|rfl
   simp[ei,h1]
  ·refine sh ?_
   refine mr 100 (fun i:Nat=>i<=8/\∀j,j<i->m.jR j<=15) (fun i=>⟨[(1,.loc 0 1 0 0),(3,.int .i64 (cap m.kind)),(12,.agg [.int .u8 m.m0,.int .u8 m.m1,.int .u8 m.m2,.int .u8 m.m3,.int .u8 m.m4,.int .u8 m.m5,.int .u8 m.m6,.int .u8 m.m7]),(13,.int .i64 i)],[(0,.var (R.ty 2) m.row)],1⟩) (fun i=>8 - i) (0) ?_ ?_
   ·exact⟨by omega,fun j hj=>by omega⟩
   ·rintro i ⟨hi,hm⟩
    dsimp only
    refine sh ?_
    refine cS (fun h2=> ?_) (fun h2=> ?_)
    ·refine sh ?_
     refine D9 (by omega) ?_
     refine sh ?_
     refine cS (fun h3=> ?_) (fun h3=> ?_)
     ·refine sh ?_
      refine rT ?_
      all_goals repeat' (first|exact True.intro|refine And.intro ?_ ?_|(intro _u; clear _u)|(with_reducible first|exact aS.fg|refine eM ?_ ?_|refine eF ?_ ?_ ?_|refine eN ?_|refine eL ?_ ?_ ?_|refine eA ?_ ?_|refine bo.mk ⟨_,hp,rfl⟩ ?_ ?_)|refine bo.mk ⟨_,hp,rfl⟩ ?_ ?_)
      all_goals try first|with_reducible rfl|omega|exact .inl (by decide)|(simp; done)|rfl
      have:m.BI=true:=Mf.H4 (by omega) h3
      simp[ei,h1,this]
     ·refine sh ?_
      refine yO (i+1) ?_ ?_
      ·refine⟨by omega,fun j hj=> ?_⟩
       by_cases e:j=i
       ·rw[e]; exact h3
       ·exact hm j (by omega)
      ·omega
    ·have hno:m.BI=false:=Mf.Qk fun j hj=>hm j (by omega)
     refine sh ?_
     refine cS (fun h3=> ?_) (fun h3=> ?_)
     ·refine sh ?_
      refine rT ?_
      all_goals repeat' (first|exact True.intro|refine And.intro ?_ ?_|(intro _u; clear _u)|(with_reducible first|exact aS.fg|refine eM ?_ ?_|refine eF ?_ ?_ ?_|refine eN ?_|refine eL ?_ ?_ ?_|refine eA ?_ ?_|refine bo.mk ⟨_,hp,rfl⟩ ?_ ?_)|refine bo.mk ⟨_,hp,rfl⟩ ?_ ?_)
      all_goals try first|with_reducible rfl|omega|exact .inl (by decide)|(simp; done)|rfl
      simp[ei,h1,hno]; omega
     ·refine sh ?_
      refine cS (fun h4=> ?_) (fun h4=> ?_)
      ·refine sh ?_
       refine rT ?_
       all_goals repeat' (first|exact True.intro|refine And.intro ?_ ?_|(intro _u; clear _u)|(with_reducible first|exact aS.fg|refine eM ?_ ?_|refine eF ?_ ?_ ?_|refine eN ?_|refine eL ?_ ?_ ?_|refine eA ?_ ?_|refine bo.mk ⟨_,hp,rfl⟩ ?_ ?_)|refine bo.mk ⟨_,hp,rfl⟩ ?_ ?_)
       all_goals try first|with_reducible rfl|omega|exact .inl (by decide)|(simp; done)|rfl
       simp[ei,h1,hno,h4]
      ·refine sh ?_
       refine cS (fun h5=> ?_) (fun h5=> ?_)
       ·refine sh ?_
        refine rT ?_
        all_goals repeat' (first|exact True.intro|refine And.intro ?_ ?_|(intro _u; clear _u)|(with_reducible first|exact aS.fg|refine eM ?_ ?_|refine eF ?_ ?_ ?_|refine eN ?_|refine eL ?_ ?_ ?_|refine eA ?_ ?_|refine bo.mk ⟨_,hp,rfl⟩ ?_ ?_)|refine bo.mk ⟨_,hp,rfl⟩ ?_ ?_)
        all_goals try first|with_reducible rfl|omega|exact .inl (by decide)|(simp; done)|rfl
        simp[ei,h1,hno]; omega
       ·refine sh ?_
        refine aj.pure h.n39.o39.hb (zR h.n39 m.size hs) rfl ?_
        refine sh ?_
        refine cS (fun h6=> ?_) (fun h6=> ?_)
        ·refine sh ?_
         refine rT ?_
         all_goals repeat' (first|exact True.intro|refine And.intro ?_ ?_|(intro _u; clear _u)|(with_reducible first|exact aS.fg|refine eM ?_ ?_|refine eF ?_ ?_ ?_|refine eN ?_|refine eL ?_ ?_ ?_|refine eA ?_ ?_|refine bo.mk ⟨_,hp,rfl⟩ ?_ ?_)|refine bo.mk ⟨_,hp,rfl⟩ ?_ ?_)
         all_goals try first|with_reducible rfl|omega|exact .inl (by decide)|(simp; done)|rfl
         simp[ei,h1,hno,h6]; omega
        ·refine sh ?_
         refine rT ?_
         all_goals repeat' (first|exact True.intro|refine And.intro ?_ ?_|(intro _u; clear _u)|(with_reducible first|exact aS.fg|refine eM ?_ ?_|refine eF ?_ ?_ ?_|refine eN ?_|refine eL ?_ ?_ ?_|refine eA ?_ ?_|refine bo.mk ⟨_,hp,rfl⟩ ?_ ?_)|refine bo.mk ⟨_,hp,rfl⟩ ?_ ?_)
         all_goals try first|with_reducible rfl|omega|exact .inl (by decide)|(simp; done)|rfl
         simp[ei,h1,hno,h6]; omega
end Go.UM
namespace Go.UM
open Go.AM
set_option maxRecDepth 4000
theorem KV{b:List UInt8}{w x:Int}(h1:1<=w)(h2:w<=8)(hx:0<=x/\x<256 ^ w.toNat):gV b w [x]=(b++enc w.toNat x,0):=by
 rw[r5 h1 h2 (by simpa using hx)]; simp
theorem abV{b:List UInt8}{w x y z:Int}(h1:1<=w)(h2:w<=8)(hx:0<=x/\x<256 ^ w.toNat)(hy:0<=y/\y<256 ^ w.toNat)(hz:0<=z/\z<256 ^ w.toNat):gV b w [x,y,z]=(b++enc w.toNat x++enc w.toNat y++enc w.toNat z,0):=by
 rw[r5 h1 h2 (by simpa using⟨hx,hy,hz⟩)]; simp
theorem iM(w:Nat)(x:Int):(enc w x).length=w:=by simp[enc]
def Mf.dA(m:Mf):List UInt8:=[u8 m.m0,u8 m.m1,u8 m.m2,u8 m.m3,u8 m.m4,u8 m.m5,u8 m.m6,u8 m.m7]
def Mf.head(m:Mf):List UInt8:=enc 8 m.id++enc 1 m.kind++enc 4 m.label
def Mf.tail(m:Mf):List UInt8:=enc 4 m.first++(enc 4 m.last++(enc 4 m.size++enc 2 m.chunks))
def Mf.enc(m:Mf):List UInt8:=m.head++m.dA++m.tail
def mL(m:Mf):List UInt8 × Int:=if ei m=0 then (m.enc,0)else ([],ei m)
theorem Mf.iM(m:Mf):m.enc.length=35:=by simp[Mf.enc,Mf.head,Mf.dA,Mf.tail,UM.iM]
structure Mf.Ix(m:Mf):Prop where
 kind:1<=m.kind/\m.kind<=4
 jR:∀i,i<8->m.jR i<=15
 span:m.first<=m.last
 size:1<=m.size/\m.size<=2048
 chunks:m.chunks=Ey m.size
theorem Cu{m:Mf}(h:ei m=0):m.Ix:=by
 unfold ei at h
 split at h
 ·cases h
 ·rename_i h1
  split at h
  ·cases h
  ·rename_i h2
   split at h
   ·cases h
   ·rename_i h3
    split at h
    ·cases h
    ·rename_i h4
     split at h
     ·cases h
     ·rename_i h5
      refine⟨?_,?_,by omega,?_,by simpa using h5⟩
      ·unfold cap at h1
       repeat' split at h1
       all_goals omega
      ·intro i hi
       rcases Int.lt_or_le 15 (m.jR i)with h6|h6
       ·exact absurd (Mf.H4 hi h6) h2
       ·exact h6
      ·unfold cap at h4 h1
       repeat' split at h4
       all_goals omega
theorem Mf.Ix.LX{m:Mf}(h:m.Ix):0<=m.chunks/\m.chunks<=8:=by
 rw[h.chunks]; have:=h.size; unfold Ey; omega
theorem Ez{m:Mf}(ok:m.Ok)(b:List UInt8):ap b++ [[AV.int .u8 m.m0],[AV.int .u8 m.m1],[AV.int .u8 m.m2],[AV.int .u8 m.m3],[AV.int .u8 m.m4],[AV.int .u8 m.m5],[AV.int .u8 m.m6],[AV.int .u8 m.m7]]=ap (b++m.dA):=by
 have h:=ok.jR
 have h0:((u8 m.m0).toNat:Int)=m.m0:=u8_in (h 0)
 have h1:((u8 m.m1).toNat:Int)=m.m1:=u8_in (h 1)
 have h2:((u8 m.m2).toNat:Int)=m.m2:=u8_in (h 2)
 have h3:((u8 m.m3).toNat:Int)=m.m3:=u8_in (h 3)
 have h4:((u8 m.m4).toNat:Int)=m.m4:=u8_in (h 4)
 have h5:((u8 m.m5).toNat:Int)=m.m5:=u8_in (h 5)
 have h6:((u8 m.m6).toNat:Int)=m.m6:=u8_in (h 6)
 have h7:((u8 m.m7).toNat:Int)=m.m7:=u8_in (h 7)
 rw[mz]
 simp only[Mf.dA,ap,List.map_cons,List.map_nil,h0,h1,h2,h3,h4,h5,h6,h7]
theorem BJ{R:Env}(h:N45 R)(m:Mf)(ok:m.Ok):R.Pc 45 [.agg m.row] (.aF [.aG 1 (ap (mL m).1),.int .i64 (mL m).2]):=
 h.o45.enter 100 rfl fun X bb hfit hp=>by
  refine sh ?_
  refine aj.pure h.n41.XX.hb (H5 h.n41 m ok.size) rfl ?_
  refine sh ?_
  refine cS (fun h1=> ?_) (fun h1=> ?_)
  ·rw[mL,if_neg h1]
   refine sh ?_
   exact rT
  ·have hc:ei m=0:=by omega
   rw[mL,if_pos hc]
   have may:=Cu hc
   have mk:=may.kind
   have mc:=may.LX
   have ms:=may.size
   have Ql:=ok.id
   have okl:=ok.label
   have okf:=ok.first
   have oka:=ok.last
   simp only[dZ]at Ql okl okf oka
   have c1:=mB h.rB [] 8 [m.id] (by simp) (by simpa using by omega)
   rw[KV (by omega) (by omega) (by simpa using by omega)]at c1
   refine sh ?_
   refine cM true [] (c1) ?_
   repeat (intro _; first|refine eK ?_|refine eP ?_)
   have c2:=mB h.rB ([]++UM.enc (Int.toNat 8) m.id) 1 [m.kind] (by simp[iM]) (by simpa using by omega)
   rw[KV (by omega) (by omega) (by simpa using by omega)]at c2
   refine sh ?_
   refine cM true [] (c2) ?_
   repeat (intro _; first|refine eK ?_|refine eP ?_)
   have c3:=mB h.rB ([]++UM.enc (Int.toNat 8) m.id++UM.enc (Int.toNat 1) m.kind) 4 [m.label] (by simp[iM]) (by simpa using by omega)
   rw[KV (by omega) (by omega) (by simpa using by omega)]at c3
   refine sh ?_
   refine cM true [] (c3) ?_
   repeat (intro _; first|refine eK ?_|refine eP ?_)
   refine st ?_
   rw[Ez ok]
   have c4:=mB h.rB ([]++UM.enc (Int.toNat 8) m.id++UM.enc (Int.toNat 1) m.kind++UM.enc (Int.toNat 4) m.label++m.dA) 4 [m.first,m.last,m.size] (by simp[iM,Mf.dA]) (by simpa using by omega)
   rw[abV (by omega) (by omega) (by simpa using by omega) (by simpa using by omega) (by simpa using by omega)]at c4
   refine sh ?_
   refine cM true [] (c4) ?_
   repeat (intro _; first|refine eK ?_|refine eP ?_)
   have c5:=mB h.rB ([]++UM.enc (Int.toNat 8) m.id++UM.enc (Int.toNat 1) m.kind++UM.enc (Int.toNat 4) m.label++m.dA++UM.enc (Int.toNat 4) m.first++UM.enc (Int.toNat 4) m.last++UM.enc (Int.toNat 4) m.size) 2 [m.chunks] (by simp[iM,Mf.dA]) (by simpa using by omega)
   rw[KV (by omega) (by omega) (by simpa using by omega)]at c5
   refine sh ?_
   refine cM true [] (c5) ?_
   repeat (intro _; first|refine eK ?_|refine eP ?_)
   refine sh ?_
   exact rT
end Go.UM
namespace Go.UM
open Go.AM
set_option maxRecDepth 4000
variable {B:List UInt8->List UInt8->Int->List UInt8} {U:List UInt8->List UInt8->List UInt8->List UInt8->List UInt8}
def Mf.at'(m:Mf)(n:Nat):Mf:= {m with size:=n,chunks:=Ey n}
def ww(n:List UInt8)(m:Mf)(p:List UInt8):List UInt8:=[85,77,66,49]++n++(m.at' p.length).enc
def lA(B:List UInt8->List UInt8->Int->List UInt8)(U:List UInt8->List UInt8->List UInt8->List UInt8->List UInt8)(k n hd:List UInt8):List UInt8:=iq B U k (jp n 0) hd []
def ui(B:List UInt8->List UInt8->Int->List UInt8)(U:List UInt8->List UInt8->List UInt8->List UInt8->List UInt8)(k n:List UInt8)(m:Mf)(p:List UInt8):List UInt8:=
 ww n m p++lA B U k n (ww n m p)++gw B U k n (lA B U k n (ww n m p)) p ((p.length+255) / 256)
def pD(B:List UInt8->List UInt8->Int->List UInt8)(U:List UInt8->List UInt8->List UInt8->List UInt8->List UInt8)(k n:List UInt8)(m:Mf)(a:As):List UInt8 × Int:=
 if (nE a).2≠0 then ([],(nE a).2)else if (mL (m.at' (nE a).1.length)).2≠0 then ([],(mL (m.at' (nE a).1.length)).2)else (ui B U k n m (nE a).1,0)
theorem H6(a:As):(nE a).1.length<=2048:=by
 unfold nE
 split
 ·simp
 ·rename_i h
  have h:iB a=0:=by simpa using h
  have hc:=Hy a.k
  unfold iB at h
  split at h
  ·rename_i h1; exact absurd h h1
  ·split at h
   ·cases h
   ·split at h
    ·cases h
    ·rename_i h3; dsimp only; omega
theorem Mf.Ok.at'{m:Mf}(ok:m.Ok){n:Nat}(hn:n<=2048):(m.at' n).Ok:=by
 refine⟨ok.id,ok.kind,ok.label,?_,ok.first,ok.last,?_,?_⟩
 ·intro i
  have h:=ok.jR i
  unfold Mf.jR Mf.at' at*
  exact h
 ·show dZ .i64 (n:Int)
  simp only[dZ]; omega
 ·show dZ .i64 (Ey n)
  have h:0<=Ey n/\Ey n<=9:=by unfold Ey; split<;>omega
  simp only[dZ]; omega
theorem H7{m:Mf}(h:(mL m).2=0):(mL m).1=m.enc:=by
 unfold mL at h ⊢
 split
 ·rfl
 ·rename_i h1; rw[if_neg h1]at h; exact absurd h h1
theorem zS{R:Env}(h:OF R)(p:List UInt8):R.Mc 546 [.aG 1 (ap p)] [] (R.cl 565 [.loc 0 1 0 0]) [(0,.var (R.ty 51) [.aG 1 (ap p)])] 1:=
 h.aaB.aK 60 0 rfl rfl rfl fun X b hfit hp=>by
  refine sh ?_
  exact rM [0]
theorem KW{R:Env}(h:GY R)(BC:jT R B)(UC:ql R U)(k n:List UInt8)(m:Mf)(a:As)(hk:k.length=32)(hn:n.length=8)(ok:m.Ok)(f:a.Bs)(hmk:m.kind=a.k):R.Pc 527 [.agg (k.map b8),.agg (n.map b8),.agg m.row,.agg a.row] (.aF [.aG 1 (ap (pD B U k n m a).1),.int .i64 (pD B U k n m a).2]):=by
 have ca:=Ea h.n301 a f
 obtain⟨k0,k1,k2,k3,k4,k5,k6,k7,k8,k9,ek,eo,ep,eu,ez,eB,eC,eD,eE,eG,eH,eJ,eQ,eR,eT,eU,eV,eW,eX,eY,fe,fh,rfl⟩:=cy hk
 obtain⟨n0,n1,n2,n3,n4,n5,n6,n7,rfl⟩:=wv hn
 generalize hq:pD B U [k0,k1,k2,k3,k4,k5,k6,k7,k8,k9,ek,eo,ep,eu,ez,eB,eC,eD,eE,eG,eH,eJ,eQ,eR,eT,eU,eV,eW,eX,eY,fe,fh] [n0,n1,n2,n3,n4,n5,n6,n7] m a=q
 unfold pD at hq
 have dr:=H6 a
 generalize hae:nE a=ae at ca hq dr
 exact h.OG.enter 200 rfl fun X bb hfit hp=>by
  refine sh ?_
  refine aj.pure h.n301.Uv.hb ca rfl ?_
  refine sh ?_
  refine cS (fun h1=> ?_) (fun h1=> ?_)
  ·rw[if_pos h1]at hq
   subst hq
   refine sh ?_
   exact rT
  ·rw[if_neg (by simpa using h1)]at hq
   have hlen:ae.1.length<=16000000:=by omega
   have QY:(m.at' ae.1.length).Ok:=ok.at' dr
   have cm:=BJ h.n45 (m.at' ae.1.length) QY
   generalize hme:mL (m.at' ae.1.length)=me at cm hq
   refine sh ?_
   refine aC (by simp[hmk]) ?_
   refine sh ?_
   refine aj.pure h.n39.o39.hb (zR h.n39 ae.1.length (by simp only[dZ]; omega)) rfl ?_
   refine sh ?_
   refine aj.pure h.n45.o45.hb cm rfl ?_
   refine sh ?_
   refine cS (fun h2=> ?_) (fun h2=> ?_)
   ·rw[if_pos h2]at hq
    subst hq
    refine sh ?_
    exact rT
   ·rw[if_neg (by simpa using h2)]at hq
    have h3:me.2=0:=by simpa using h2
    have WR:me.1=(m.at' ae.1.length).enc:=by
     have:=H7 (m:=m.at' ae.1.length) (by rw[hme]; exact h3)
     rw[<-this,hme]
    have oR:me.1.length=35:=by rw[WR]; exact Mf.iM _
    have H8:[[85,77,66,49],[n0,n1,n2,n3,n4,n5,n6,n7],me.1].flatten.length=47:=by simp[oR]
    generalize Qx:[[85,77,66,49],[n0,n1,n2,n3,n4,n5,n6,n7],me.1].flatten=hd at H8
    have cn:=sd h.pb [n0,n1,n2,n3,n4,n5,n6,n7] 0 rfl
    have hnl:=hJ (b:=[n0,n1,n2,n3,n4,n5,n6,n7]) rfl 0
    generalize hnn:jp [n0,n1,n2,n3,n4,n5,n6,n7] 0=nn at cn hnl
    have cs:=Cs h.DM BC UC [k0,k1,k2,k3,k4,k5,k6,k7,k8,k9,ek,eo,ep,eu,ez,eB,eC,eD,eE,eG,eH,eJ,eQ,eR,eT,eU,eV,eW,eX,eY,fe,fh] nn hd [] rfl hnl (by omega) (by simp)
    have dJ:(iq B U [k0,k1,k2,k3,k4,k5,k6,k7,k8,k9,ek,eo,ep,eu,ez,eB,eC,eD,eE,eG,eH,eJ,eQ,eR,eT,eU,eV,eW,eX,eY,fe,fh] nn hd []).length=16:=by rw[fq BC UC]; rfl
    generalize abZ:iq B U [k0,k1,k2,k3,k4,k5,k6,k7,k8,k9,ek,eo,ep,eu,ez,eB,eC,eD,eE,eG,eH,eJ,eQ,eR,eT,eU,eV,eW,eX,eY,fe,fh] nn hd []=mk at cs dJ
    obtain⟨Yb,Yc,Yd,Ye,Yf,Yg,Yh,Yi,Yj,Yk,KR,KT,rfl⟩:=lk hnl
    have cc:=pA h.uV [[85,77,66,49],[n0,n1,n2,n3,n4,n5,n6,n7],me.1] (by simp) (by rw[Qx,H8]; omega)
    rw[Qx]at cc
    refine sh ?_
    refine aj.let [1,4,5] rfl hp rfl ?_
    repeat ((intro _u; clear _u); first|refine kZ (dg [[85,77,66,49],[n0,n1,n2,n3,n4,n5,n6,n7],me.1]) ?_ ⟨⟨fun _=>p9 rfl rfl (by simp[AV.ar,AV.names]),trivial⟩,⟨fun _=>⟨rfl,rfl,rfl⟩,trivial⟩,⟨fun _=>rfl,trivial⟩,trivial⟩ rfl|refine lC.drop ?_)
    refine sh ?_
    refine cM false [] (cc) ?_
    repeat (intro _; first|refine eK ?_|refine eP ?_)
    refine sh ?_
    refine aj.pure h.pb.GX.hb cn rfl ?_
    refine sh ?_
    refine cM true [] (cs) ?_
    repeat (intro _; first|refine eK ?_|refine eP ?_)
    refine sh ?_
    refine aj.let [8] rfl hp rfl ?_
    repeat ((intro _u; clear _u); first|refine eZ ?_|refine eZ ?_ (by simp; omega)|refine lC.drop ?_)
    refine sh ?_
    refine cM false [] (zS h.GZ ae.1) ?_
    repeat (intro _; first|refine eK ?_|refine eP ?_)
    refine sh ?_
    refine cL (aV:=fun l tm=>[.bK (.lp l tm) [.loc 0 1 0 0,.bc ([n0,n1,n2,n3,n4,n5,n6,n7].map b8) 0,.loc 1 1 0 0,.loc 2 1 0 0],.loc 4 1 0 0]) 100 false [0,7,9,6,10] h.GZ.JX.UI.hb (fun l r hlp=>KU h h.GZ.JX BC UC se hlp [k0,k1,k2,k3,k4,k5,k6,k7,k8,k9,ek,eo,ep,eu,ez,eB,eC,eD,eE,eG,eH,eJ,eQ,eR,eT,eU,eV,eW,eX,eY,fe,fh] [n0,n1,n2,n3,n4,n5,n6,n7] mk (hd++mk) ae.1 rfl rfl dJ (by simp; omega) hlen) ?_
    repeat (intro _; first|refine eK ?_|refine eP ?_)
    have pS:q=(hd++mk++gw B U [k0,k1,k2,k3,k4,k5,k6,k7,k8,k9,ek,eo,ep,eu,ez,eB,eC,eD,eE,eG,eH,eJ,eQ,eR,eT,eU,eV,eW,eX,eY,fe,fh] [n0,n1,n2,n3,n4,n5,n6,n7] mk ae.1 ((ae.1.length+255) / 256),0):=by
     rw[<-hq]
     have e1:ww [n0,n1,n2,n3,n4,n5,n6,n7] m ae.1=hd:=by rw[<-Qx,ww,WR]; simp
     have e2:lA B U [k0,k1,k2,k3,k4,k5,k6,k7,k8,k9,ek,eo,ep,eu,ez,eB,eC,eD,eE,eG,eH,eJ,eQ,eR,eT,eU,eV,eW,eX,eY,fe,fh] [n0,n1,n2,n3,n4,n5,n6,n7] hd=mk:=by rw[lA,hnn]; exact abZ
     rw[ui,e1,e2]
    subst pS
    refine sh ?_
    exact rT
end Go.UM
namespace Go.UM
open Go.AM
set_option maxRecDepth 4000
theorem uj{R:Env}(h:N58 R)(r:Rd)(w:Int)(h1:1<=w)(h2:w<=7):R.Mc 58 [.agg [.loc 0 1 0 0],.int .i64 w] (mC R r) (.int .i64 (r.num w).1) (mC R (r.num w).2) 1:=
 h.o58.aK 60 1 rfl rfl rfl fun X bb hfit hp=>by
  refine sh ?_
  refine cM false [0] (lx h.n57 r w) ?_
  repeat (intro _; first|refine eK ?_|refine eP ?_)
  have hlt:=bO r h1 (show w<=8 by omega)
  have hp:(256:Nat) ^ w.toNat<=256 ^ 7:=Nat.pow_le_pow_right (by decide) (by omega)
  have:((r.num w).1:Int)<9223372036854775808:=by omega
  refine sh ?_
  exact rM [0]
def Mf.zero:Mf:=⟨0,0,0,0,0,0,0,0,0,0,0,0,0,0,0⟩
def iN(l:List UInt8)(i:Nat):Int:=(l.getD i 0).toNat
def uk(r:Rd):Mf × Rd:=
 let a:=r.num 8
 let b:=a.2.num 1
 let c:=b.2.num 4
 let t:=c.2.take 8
 let f:=t.2.num 4
 let g:=f.2.num 4
 let s:=g.2.num 4
 let k:=s.2.num 2
 (⟨a.1,b.1,c.1,iN t.1 0,iN t.1 1,iN t.1 2,iN t.1 3,iN t.1 4,iN t.1 5,iN t.1 6,iN t.1 7,f.1,g.1,s.1,k.1⟩,k.2)
def zU(b:List UInt8):Mf × Int:=
 let q:=uk ⟨b,0,true⟩
 if q.2.fin≠0 then (.zero,q.2.fin)else if ei q.1≠0 then (.zero,ei q.1)else (q.1,0)
theorem WS{l:List UInt8}(h:l.length=8):((ap l).take 8).flatten=[.int .u8 (iN l 0),.int .u8 (iN l 1),.int .u8 (iN l 2),.int .u8 (iN l 3),.int .u8 (iN l 4),.int .u8 (iN l 5),.int .u8 (iN l 6),.int .u8 (iN l 7)]:=by
 match l,h with
 |[a,b,c,d,e,f,g,k],_=>rfl
theorem WT(r:Rd):(r.take 8).1.length=8\/(r.take 8).1=[]:=by
 unfold Rd.take
 split
 ·exact .inr rfl
 ·split
  ·exact .inr rfl
  ·split
   ·exact .inr rfl
   ·left; simp only[List.length_take]; omega
theorem EA{R:Env}(h:N49 R)(b:List UInt8)(hb:b.length<=1073741824):R.Pc 49 [.aG 1 (ap b)] (.aF [.agg (zU b).1.row,.int .i64 (zU b).2]):=
 h.o49.enter 100 rfl fun X bb hfit hp=>by
  refine sh ?_
  refine cM false [] (zg h.Bb b hb) ?_
  repeat (intro _; first|refine eK ?_|refine eP ?_)
  generalize WB:(⟨b,0,true⟩:Rd)=r0
  have c1:=lx h.n57 r0 8
  generalize h1:r0.num 8=q1 at c1
  refine sh ?_
  refine cM false [1] (c1) ?_
  repeat (intro _; first|refine eK ?_|refine eP ?_)
  have c2:=uj h.N8 q1.2 1 (by omega) (by omega)
  generalize h2:q1.2.num 1=q2 at c2
  refine sh ?_
  refine cM false [1] (c2) ?_
  repeat (intro _; first|refine eK ?_|refine eP ?_)
  have c3:=lx h.n57 q2.2 4
  have l3:(q2.2.num 4).1<4294967296:=bO q2.2 (w:=4) (by omega) (by omega)
  generalize h3:q2.2.num 4=q3 at c3 l3
  refine sh ?_
  refine cM false [1] (c3) ?_
  repeat (intro _; first|refine eK ?_|refine eP ?_)
  have c4:=ot h.n59 q3.2 8
  have l4:=WT q3.2
  generalize h4:q3.2.take 8=q4 at c4 l4
  refine sh ?_
  refine cM false [1] (c4) ?_
  repeat (intro _; first|refine eK ?_|refine eP ?_)
  rcases l4 with l4|l4
  ·refine sh ?_
   refine qc (n:=8) (WS l4) (by simp[l4]) ?_
   have c5:=lx h.n57 q4.2 4
   have l5:(q4.2.num 4).1<4294967296:=bO q4.2 (w:=4) (by omega) (by omega)
   generalize h5:q4.2.num 4=q5 at c5 l5
   refine sh ?_
   refine cM false [1] (c5) ?_
   repeat (intro _; first|refine eK ?_|refine eP ?_)
   have c6:=lx h.n57 q5.2 4
   have l6:(q5.2.num 4).1<4294967296:=bO q5.2 (w:=4) (by omega) (by omega)
   generalize h6:q5.2.num 4=q6 at c6 l6
   refine sh ?_
   refine cM false [1] (c6) ?_
   repeat (intro _; first|refine eK ?_|refine eP ?_)
   have c7:=uj h.N8 q6.2 4 (by omega) (by omega)
   have l7:(q6.2.num 4).1<4294967296:=bO q6.2 (w:=4) (by omega) (by omega)
   generalize h7:q6.2.num 4=q7 at c7 l7
   refine sh ?_
   refine cM false [1] (c7) ?_
   repeat (intro _; first|refine eK ?_|refine eP ?_)
   have c8:=uj h.N8 q7.2 2 (by omega) (by omega)
   generalize h8:q7.2.num 2=q8 at c8
   refine sh ?_
   refine cM false [1] (c8) ?_
   repeat (intro _; first|refine eK ?_|refine eP ?_)
   have e0:zU b=if q8.2.fin≠0 then (.zero,q8.2.fin)else if ei ⟨q1.1,q2.1,q3.1,iN q4.1 0,iN q4.1 1,iN q4.1 2,iN q4.1 3,iN q4.1 4,iN q4.1 5,iN q4.1 6,iN q4.1 7,q5.1,q6.1,q7.1,q8.1⟩≠0 then (.zero,ei ⟨q1.1,q2.1,q3.1,iN q4.1 0,iN q4.1 1,iN q4.1 2,iN q4.1 3,iN q4.1 4,iN q4.1 5,iN q4.1 6,iN q4.1 7,q5.1,q6.1,q7.1,q8.1⟩)else (⟨q1.1,q2.1,q3.1,iN q4.1 0,iN q4.1 1,iN q4.1 2,iN q4.1 3,iN q4.1 4,iN q4.1 5,iN q4.1 6,iN q4.1 7,q5.1,q6.1,q7.1,q8.1⟩,0):=by
    unfold zU uk
    simp only[WB,h1,h2,h3,h4,h5,h6,h7,h8]
   rw[e0]
   have c9:=ly h.n60 q8.2
   refine sh ?_
   refine cM false [1] (c9) ?_
   repeat (intro _; first|refine eK ?_|refine eP ?_)
   refine sh ?_
   refine cS (fun h9=> ?_) (fun h9=> ?_)
   ·rw[if_pos h9]
    refine sh ?_
    exact rT
   ·rw[if_neg (fun hh=>hh h9)]
    refine sh ?_
    refine aj.pure h.n41.XX.hb (H5 h.n41 ⟨q1.1,q2.1,q3.1,iN q4.1 0,iN q4.1 1,iN q4.1 2,iN q4.1 3,iN q4.1 4,iN q4.1 5,iN q4.1 6,iN q4.1 7,q5.1,q6.1,q7.1,q8.1⟩ (by simp only[dZ]; omega)) rfl ?_
    refine sh ?_
    refine cS (fun h10=> ?_) (fun h10=> ?_)
    ·rw[if_pos h10]
     refine sh ?_
     exact rT
    ·rw[if_neg (fun hh=>hh h10)]
     refine sh ?_
     exact rT
  ·rw[l4]
   refine sh ?_
   refine qc (n:=0) (vs:=[]) (by simp) (by simp) ?_
   have c5:=lx h.n57 q4.2 4
   have l5:(q4.2.num 4).1<4294967296:=bO q4.2 (w:=4) (by omega) (by omega)
   generalize h5:q4.2.num 4=q5 at c5 l5
   refine sh ?_
   refine cM false [1] (c5) ?_
   repeat (intro _; first|refine eK ?_|refine eP ?_)
   have c6:=lx h.n57 q5.2 4
   have l6:(q5.2.num 4).1<4294967296:=bO q5.2 (w:=4) (by omega) (by omega)
   generalize h6:q5.2.num 4=q6 at c6 l6
   refine sh ?_
   refine cM false [1] (c6) ?_
   repeat (intro _; first|refine eK ?_|refine eP ?_)
   have c7:=uj h.N8 q6.2 4 (by omega) (by omega)
   have l7:(q6.2.num 4).1<4294967296:=bO q6.2 (w:=4) (by omega) (by omega)
   generalize h7:q6.2.num 4=q7 at c7 l7
   refine sh ?_
   refine cM false [1] (c7) ?_
   repeat (intro _; first|refine eK ?_|refine eP ?_)
   have c8:=uj h.N8 q7.2 2 (by omega) (by omega)
   generalize h8:q7.2.num 2=q8 at c8
   refine sh ?_
   refine cM false [1] (c8) ?_
   repeat (intro _; first|refine eK ?_|refine eP ?_)
   have e0:zU b=if q8.2.fin≠0 then (.zero,q8.2.fin)else if ei ⟨q1.1,q2.1,q3.1,0,0,0,0,0,0,0,0,q5.1,q6.1,q7.1,q8.1⟩≠0 then (.zero,ei ⟨q1.1,q2.1,q3.1,0,0,0,0,0,0,0,0,q5.1,q6.1,q7.1,q8.1⟩)else (⟨q1.1,q2.1,q3.1,0,0,0,0,0,0,0,0,q5.1,q6.1,q7.1,q8.1⟩,0):=by
    unfold zU uk
    simp only[WB,h1,h2,h3,h4,h5,h6,h7,h8,l4]
    rfl
   rw[e0]
   have c9:=ly h.n60 q8.2
   refine sh ?_
   refine cM false [1] (c9) ?_
   repeat (intro _; first|refine eK ?_|refine eP ?_)
   refine sh ?_
   refine cS (fun h9=> ?_) (fun h9=> ?_)
   ·rw[if_pos h9]
    refine sh ?_
    exact rT
   ·rw[if_neg (fun hh=>hh h9)]
    refine sh ?_
    refine aj.pure h.n41.XX.hb (H5 h.n41 ⟨q1.1,q2.1,q3.1,0,0,0,0,0,0,0,0,q5.1,q6.1,q7.1,q8.1⟩ (by simp only[dZ]; omega)) rfl ?_
    refine sh ?_
    refine cS (fun h10=> ?_) (fun h10=> ?_)
    ·rw[if_pos h10]
     refine sh ?_
     exact rT
    ·rw[if_neg (fun hh=>hh h10)]
     refine sh ?_
     exact rT
end Go.UM
namespace Go.UM
open Go.AM
set_option maxRecDepth 4000
def QZ(L k:Nat)(r:Rd):Prop:=r.made=true/\((r.e=0/\r.l.length+k=L)\/(r.e=4/\L<35))
theorem QZ.num{L k:Nat}{r:Rd}(h:QZ L k r)(w:Nat)(h1:1<=w)(h2:w<=8)(h3:k+w<=35):QZ L (k+w) (r.num w).2:=by
 obtain⟨hm,⟨he,hl⟩|⟨he,hl⟩⟩:=h
 ·obtain⟨hm',⟨a,b,c⟩|⟨a,b⟩⟩:=Bo (w:=w) hm he (by omega) (by omega)
  ·exact⟨hm',.inl ⟨b,by omega⟩⟩
  ·exact⟨hm',.inr ⟨b,by omega⟩⟩
 ·rw[mD (by omega) (by omega)]
  have:r.take w=([],r):=by unfold Rd.take; rw[if_pos (.inr (by omega))]
  rw[this]
  exact⟨hm,.inr ⟨he,hl⟩⟩
theorem QZ.take{L k:Nat}{r:Rd}(h:QZ L k r)(h3:k+8<=35):QZ L (k+8) (r.take 8).2:=by
 have:=h.num 8 (by omega) (by omega) h3
 rwa[mD (by omega) (by omega)]at this
end Go.UM
namespace Go.UM
open Go.AM
set_option maxRecDepth 4000
theorem H9(m:Mf)(T:List UInt8):(⟨m.dA++T,0,true⟩:Rd).take 8=(m.dA,⟨T,0,true⟩):=by
 unfold Rd.take
 rw[if_neg (by simp),if_neg (by omega),if_neg (by simp[Mf.dA]; omega)]
 rfl
theorem H'{m:Mf}(ok:m.Ok)(hc:ei m=0):zU m.enc=(m,0):=by
 have may:=Cu hc
 have mk:=may.kind
 have mc:=may.LX
 have ms:=may.size
 have Ql:=ok.id
 have okl:=ok.label
 have okf:=ok.first
 have oka:=ok.last
 simp only[dZ]at Ql okl okf oka
 have e:m.enc=enc (Int.toNat 8) m.id++(enc (Int.toNat 1) m.kind++(enc (Int.toNat 4) m.label++(m.dA++(enc (Int.toNat 4) m.first++(enc (Int.toNat 4) m.last++(enc (Int.toNat 4) m.size++(enc (Int.toNat 2) m.chunks++ []))))))):=by
  simp[Mf.enc,Mf.head,Mf.tail]
 have hb:∀i,i<8->iN m.dA i=m.jR i:=fun i hi=>by
  have h:=ok.jR
  rcases i with _|_|_|_|_|_|_|_|i
  ·exact u8_in (h 0)
  ·exact u8_in (h 1)
  ·exact u8_in (h 2)
  ·exact u8_in (h 3)
  ·exact u8_in (h 4)
  ·exact u8_in (h 5)
  ·exact u8_in (h 6)
  ·exact u8_in (h 7)
  ·omega
 have hch:uk ⟨m.enc,0,true⟩=(m,⟨[],0,true⟩):=by
  rw[e]
  unfold uk
  rw[jG (w:=8) (by omega) (by omega) (by simpa using by omega)]
  simp only
  rw[jG (w:=1) (by omega) (by omega) (by simpa using by omega)]
  simp only
  rw[jG (w:=4) (by omega) (by omega) (by simpa using by omega)]
  simp only[H9]
  rw[jG (w:=4) (by omega) (by omega) (by simpa using by omega)]
  simp only
  rw[jG (w:=4) (by omega) (by omega) (by simpa using by omega)]
  simp only
  rw[jG (w:=4) (by omega) (by omega) (by simpa using by omega)]
  simp only
  rw[jG (w:=2) (by omega) (by omega) (by simpa using by omega)]
  simp only[hb 0 (by omega),hb 1 (by omega),hb 2 (by omega),hb 3 (by omega),hb 4 (by omega),hb 5 (by omega),hb 6 (by omega),hb 7 (by omega),Mf.jR]
  rw[Int.toNat_of_nonneg (by omega),Int.toNat_of_nonneg (by omega),Int.toNat_of_nonneg (by omega),Int.toNat_of_nonneg (by omega),Int.toNat_of_nonneg (by omega),Int.toNat_of_nonneg (by omega),Int.toNat_of_nonneg (by omega)]
 unfold zU
 simp only[hch]
 rw[if_neg (by simp[Rd.fin,Rd.err]),if_neg (by simp[hc])]
end Go.UM
namespace Go.UM
open Go.AM
set_option maxRecDepth 4000
theorem LY{R:Env}(h:SL R)(a b:List UInt8):R.Pc 47 [.aG 1 (ap a),.aG 1 (ap b)] (.bool (a==b)):=
 h.ZV.enter 60 rfl fun X bb hfit hp=>by
  refine sh ?_
  exact rT
end Go.UM
namespace Go.UM
open Go.AM
set_option maxRecDepth 4000
theorem Qm{R:Env}(h:N68 R)(r:Rd):R.Mc 68 [.loc 0 1 0 0] (mC R r) (.int .i64 (if r.made=false\/ r.e≠0 then 0 else r.l.length)) (mC R r) 1:=
 h.o68.aK 60 1 rfl rfl rfl fun X bb hfit hp=>by
  refine sh ?_
  refine cM false [0] (Bn h.JN r) ?_
  repeat (intro _; first|refine eK ?_|refine eP ?_)
  cases hm:r.made with
  |false=>
   refine sh ?_
   exact rM [0]
  |true=>
   refine sh ?_
   refine cS (fun h1=> ?_) (fun h1=> ?_)
   ·refine sh ?_
    exact rM [0]
   ·refine sh ?_
    refine rM [0] ?_
    all_goals repeat' (first|exact True.intro|refine And.intro ?_ ?_|(intro _u; clear _u)|(with_reducible first|exact aS.fg|refine eM ?_ ?_|refine eF ?_ ?_ ?_|refine eN ?_|refine eL ?_ ?_ ?_|refine eA ?_ ?_|refine bo.mk ⟨_,hp,rfl⟩ ?_ ?_)|refine bo.mk ⟨_,hp,rfl⟩ ?_ ?_)
    all_goals try first|with_reducible rfl|omega|exact .inl (by decide)|(simp; done)|rfl
    simp[h1]
end Go.UM
namespace Go.UM
open Go.AM
set_option maxRecDepth 4000
variable {B:List UInt8->List UInt8->Int->List UInt8} {U:List UInt8->List UInt8->List UInt8->List UInt8->List UInt8}
theorem Qn{R:Env}(h:Ny R)(s p:List UInt8):R.Pc 389 [.aG 1 (ap s),.aG 1 (ap p)] (.bool (s.take p.length==p)):=
 h.Th.enter 60 rfl fun X bb hfit hp=>by
  refine sh ?_
  refine cS (fun h1=> ?_) (fun h1=> ?_)
  ·refine sh ?_
   refine aSb ?_
   refine sh ?_
   refine aj.pure h.n47.ZV.hb (LY h.n47 (s.take p.length) p) rfl ?_
   refine sh ?_
   exact rT
  ·have e:(s.take p.length==p)=false:=by
    rw[beq_eq_false_iff_ne]
    intro e
    have:=congrArg List.length e
    simp at this
    omega
   rw[e]
   refine sh ?_
   exact rT
theorem Ia{a b:List UInt8}{n:Int}(h:(a.length:Int)=n):(⟨a++b,0,true⟩:Rd).take n=(a,⟨b,0,true⟩):=by
 subst h
 unfold Rd.take
 rw[if_neg (by simp),if_neg (by omega),if_neg (by simp; omega)]
 simp
theorem tkc{R:Env}(h:N7 R)(a b:List UInt8)(n:Int)(e:(a.length:Int)=n):R.Mc 59 [.loc 0 1 0 0,.int .i64 n] (mC R ⟨a++b,0,true⟩) (.aG 1 (ap a)) (mC R ⟨b,0,true⟩) 1:=by
 have:=ot h ⟨a++b,0,true⟩ n
 rwa[Ia e]at this
theorem Ib{R:Env}(h:GU R)(BC:jT R B)(UC:ql R U)(k n a p:List UInt8)(hk:k.length=32)(hn:n.length=12)(ha:a.length<=16384)(RW:p.length<=16384):R.Mc 566 [.agg (k.map b8),.agg (n.map b8),.bh 0 a.length,.aG 1 (ap (iq B U k n a p))] [(0,.arr (R.ty 4) 1 (ap a))] (.aF [.aG 1 (ap p),.int .i64 0]) [(0,.arr (R.ty 4) 1 (ap a))] 1:=by
 have cx:=HV h.tF BC k n (pz B k n p) hk hn (by rw[eg BC]; omega)
 rw[uh BC]at cx
 have hxl:=eg BC k n p
 unfold iq
 generalize pz B k n p=x at cx hxl ⊢
 have cm:=UC.c k n a x hk hn (by omega) (by omega)
 have oR:=UC.len k n a x
 generalize U k n a x=t at cm oR ⊢
 have cs:=Cr h.DK t oR
 obtain⟨k0,k1,k2,k3,k4,k5,k6,k7,k8,k9,ek,eo,ep,eu,ez,eB,eC,eD,eE,eG,eH,eJ,eQ,eR,eT,eU,eV,eW,eX,eY,fe,fh,rfl⟩:=cy hk
 obtain⟨n0,n1,n2,n3,n4,n5,n6,n7,n8,n9,n10,n11,rfl⟩:=lk hn
 obtain⟨t0,t1,t2,t3,t4,t5,t6,t7,t8,t9,t10,t11,t12,t13,t14,t15,rfl⟩:=ud oR
 exact h.NZ.aK 200 1 rfl rfl rfl fun X bb hfit hp=>by
  have hxt:(x++ [t0,t1,t2,t3,t4,t5,t6,t7,t8,t9,t10,t11,t12,t13,t14,t15]).length=x.length+16:=by simp
  refine sh ?_
  rw[hxt,show (((x.length+16:Nat):Int)) - 16=(x.length:Nat) by omega]
  refine aC (decide_eq_false (by omega)) ?_
  refine sh ?_
  refine aC (by exact decide_eq_false (by omega)) ?_
  refine sh ?_
  refine aC (by exact decide_eq_false (by omega)) ?_
  refine sh ?_
  refine bp (by show _=ap x; simp[ap]) ?_
  refine sh ?_
  refine cM true [] (cm.mc h.yU.JK.hb) ?_
  repeat (intro _; first|refine eK ?_|refine eP ?_)
  refine sh ?_
  refine bp (by show _=ap [t0,t1,t2,t3,t4,t5,t6,t7,t8,t9,t10,t11,t12,t13,t14,t15]; simp[ap]) ?_
  refine fun _=>⟨⟨by simp,by omega⟩,?_⟩
  refine fun _=>bp (show _=[t0,t1,t2,t3,t4,t5,t6,t7,t8,t9,t10,t11,t12,t13,t14,t15].map b8 from rfl) ?_
  refine sh ?_
  refine aj.pure h.DK.NU.hb cs rfl ?_
  refine sh ?_
  refine aj.let [3] rfl hp rfl ?_
  repeat ((intro _u; clear _u); first|refine eZ ?_|refine eZ ?_ (by simp; omega)|refine lC.drop ?_)
  refine sh ?_
  refine aj.pure h.tF.JE.hb cx rfl ?_
  refine sh ?_
  exact rM [0]
theorem KX{R:Env}(h:OB R)(BC:jT R B)(UC:ql R U)(k nn mark b rest:List UInt8)(i:Nat)(hk:k.length=32)(hn:nn.length=12)(hm:mark.length=16)(hb:b.length<=256)(hi:i<65536):
  R.Mc 549 [.agg (k.map b8),.agg (nn.map b8),.loc 0 1 0 0,.aG 1 (ap mark),.int .i64 i,.int .i64 b.length] (mC R ⟨fH i b.length++(iq B U k nn (fH i b.length++mark) b++rest),0,true⟩) (.aF [.aG 1 (ap b),.int .i64 0]) (mC R ⟨rest,0,true⟩) 1:=by
 have hf:=se.len i b.length hi (by omega)
 have hpe:=se.err i b.length hi (by omega)
 have cp:R.Pc 54 [.aG 1 (ap []),.int .i64 2,.aG 1 (dd .u64 [(i:Int),(b.length:Int)])] (.aF [.aG 1 (ap (gV [] 2 [(i:Int),(b.length:Int)]).1),.int .i64 (gV [] 2 [(i:Int),(b.length:Int)]).2]):=(mB h.rB [] 2 [(i:Int),(b.length:Int)] (by simp) (by intro x hx; simp at hx; omega)).pc fZ
 rw[hpe]at cp
 have co:=Ib h.Bc BC UC k nn (fH i b.length++mark) b hk hn (by simp; omega) (by omega)
 have dJ:=fq BC UC k nn (fH i b.length++mark) b
 have cc:=pA h.uV [fH i b.length,mark] (by simp) (by simp; omega)
 rw[show [fH i b.length,mark].flatten=fH i b.length++mark by simp]at cc
 generalize iq B U k nn (fH i b.length++mark) b=z at co dJ ⊢
 unfold fH at hf cc co ⊢
 generalize (gV [] 2 [(i:Int),(b.length:Int)]).1=f at hf cp cc co ⊢
 have t1:=tkc h.n59 f (z++rest) 4 (by omega)
 have t2:=tkc h.n59 z rest ((b.length:Int)+16) (by omega)
 obtain⟨k0,k1,k2,k3,k4,k5,k6,k7,k8,k9,ek,eo,ep,eu,ez,eB,eC,eD,eE,eG,eH,eJ,eQ,eR,eT,eU,eV,eW,eX,eY,fe,fh,rfl⟩:=cy hk
 obtain⟨Yb,Yc,Yd,Ye,Yf,Yg,Yh,Yi,Yj,Yk,KR,KT,rfl⟩:=lk hn
 exact h.aaA.aK 100 1 rfl rfl rfl fun X bb hfit hp=>by
  refine sh ?_
  refine cM false [0] (t1) ?_
  repeat (intro _; first|refine eK ?_|refine eP ?_)
  refine sh ?_
  refine aC (by exact decide_eq_false (by omega)) ?_
  refine sh ?_
  refine aj.let [3] rfl hp rfl ?_
  repeat ((intro _u; clear _u); first|refine eZ ?_|refine eZ ?_ (by simp; omega)|refine lC.drop ?_)
  refine sh ?_
  refine cM false [] (cp.mc h.rB.o54.hb) ?_
  repeat (intro _; first|refine eK ?_|refine eP ?_)
  refine sh ?_
  refine aj.pure h.n47.ZV.hb (LY h.n47 f f) rfl ?_
  refine sh ?_
  refine aC (by simp) ?_
  refine sh ?_
  refine cM false [0] (t2) ?_
  repeat (intro _; first|refine eK ?_|refine eP ?_)
  refine sh ?_
  refine cM false [0] (LM h.QN ⟨rest,0,true⟩) ?_
  repeat (intro _; first|refine eK ?_|refine eP ?_)
  refine sh ?_
  refine aC (by rfl) ?_
  refine sh ?_
  refine cM true [] (cc) ?_
  repeat (intro _; first|refine eK ?_|refine eP ?_)
  refine sh ?_
  refine cM false [5] (co) ?_
  repeat (intro _; first|refine eK ?_|refine eP ?_)
  refine sh ?_
  exact rM [0]
theorem Qo{R:Env}(h:OA R)(BC:jT R B)(UC:ql R U)(k n:List UInt8)(m:Mf)(rest:List UInt8)(hk:k.length=32)(hn:n.length=8)(ok:m.Ok)(hc:ei m=0):
  R.Pc 548 [.agg (k.map b8),.aG 1 (ap (([85,77,66,49]++n++m.enc)++lA B U k n ([85,77,66,49]++n++m.enc)++rest))] (.aF [.agg m.row,.int .i64 0]):=by
 have oR:m.enc.length=35:=Mf.iM _
 have md:=EA h.n49 m.enc (by omega)
 rw[H' ok hc]at md
 have cn:=sd h.pb n 0 hn
 have hnl:=hJ hn 0
 unfold lA
 generalize jp n 0=nn at cn hnl ⊢
 have H8:([85,77,66,49]++n++m.enc).length=47:=by simp[hn,oR]
 have co:=KN h.Bc BC UC k nn ([85,77,66,49]++n++m.enc) [] hk hnl (by omega) (by simp)
 have dJ:=fq BC UC k nn ([85,77,66,49]++n++m.enc) []
 generalize iq B U k nn ([85,77,66,49]++n++m.enc) []=z at co dJ ⊢
 have Bt:(([85,77,66,49]++n++m.enc)++z++rest).length=63+rest.length:=by
  rw[List.length_append,List.length_append,H8,dJ]; simp
 have e0:(([85,77,66,49]++n++m.enc)++z++rest).take 4=[85,77,66,49]:=by simp
 have e1:((([85,77,66,49]++n++m.enc)++z++rest).drop 4).take 8=n:=by simp[hn]
 have e2:((([85,77,66,49]++n++m.enc)++z++rest).drop 12).take 35=m.enc:=by
  rw[show (12:Nat)=([85,77,66,49]++n:List UInt8).length by simp[hn]]
  rw[List.append_assoc,List.append_assoc ([85,77,66,49]++n:List UInt8),List.drop_left,List.take_left' oR]
 have e3:(([85,77,66,49]++n++m.enc)++z++rest).take 47=[85,77,66,49]++n++m.enc:=by
  rw[List.append_assoc,List.take_left' H8]
 have e4:((([85,77,66,49]++n++m.enc)++z++rest).drop 47).take 16=z:=by
  rw[List.append_assoc,List.drop_left' H8,List.take_left' (by simpa using dJ)]
 generalize ([85,77,66,49]++n++m.enc)=hd at*
 generalize hd++z++rest=b at*
 obtain⟨k0,k1,k2,k3,k4,k5,k6,k7,k8,k9,ek,eo,ep,eu,ez,eB,eC,eD,eE,eG,eH,eJ,eQ,eR,eT,eU,eV,eW,eX,eY,fe,fh,rfl⟩:=cy hk
 obtain⟨n0,n1,n2,n3,n4,n5,n6,n7,rfl⟩:=wv hn
 obtain⟨Yb,Yc,Yd,Ye,Yf,Yg,Yh,Yi,Yj,Yk,KR,KT,rfl⟩:=lk hnl
 exact h.UE.enter 100 rfl fun X bb hfit hp=>by
  refine sh ?_
  refine aC (by exact decide_eq_false (by simp; omega)) ?_
  refine sh ?_
  refine cM true [] ((Qn h.JU b [85,77,66,49]).mc h.JU.Th.hb) ?_
  repeat (intro _; first|refine eK ?_|refine eP ?_)
  refine sh ?_
  refine aC (by simp[e0]) ?_
  refine sh ?_
  refine bp (by show _=ap [n0,n1,n2,n3,n4,n5,n6,n7]; rw[<-e1]; simp[ap,List.drop_take]) ?_
  refine fun _=>⟨⟨by simp,by omega⟩,?_⟩
  refine fun _=>bp (show _=[n0,n1,n2,n3,n4,n5,n6,n7].map b8 from rfl) ?_
  refine sh ?_
  refine aj.pure h.pb.GX.hb cn rfl ?_
  refine sh ?_
  refine bp (by show _=ap hd; rw[<-e3]; simp[ap]) ?_
  refine sh ?_
  refine bp (by show _=ap z; rw[<-e4]; simp[ap,List.drop_take]) ?_
  refine sh ?_
  refine aj.pure h.Bc.NZ.hb co rfl ?_
  refine sh ?_
  refine aC (by rfl) ?_
  refine sh ?_
  refine bp (by show _=ap m.enc; rw[<-e2]; simp[ap,List.drop_take]) ?_
  refine sh ?_
  refine aj.pure h.n49.o49.hb md rfl ?_
  refine sh ?_
  exact rT
end Go.UM
namespace Go.UM
open Go.AM
set_option maxRecDepth 4000
variable {B:List UInt8->List UInt8->Int->List UInt8} {U:List UInt8->List UInt8->List UInt8->List UInt8->List UInt8}
def jH(B:List UInt8->List UInt8->Int->List UInt8)(U:List UInt8->List UInt8->List UInt8->List UInt8->List UInt8)(k n mark p:List UInt8):Nat->Nat->List UInt8
 |_,0=>[]
 |j,c+1=>xx B U k n mark j ((p.drop (256*j)).take 256)++jH B U k n mark p (j+1) c
theorem ul(k n mark p:List UInt8):∀c j,gw B U k n mark p (j+c)=gw B U k n mark p j++jH B U k n mark p j c
 |0,j=>by simp[jH]
 |c+1,j=>by
  rw[show j+ (c+1)=(j+1)+c by omega,ul k n mark p c (j+1),gw,jH,List.append_assoc]
theorem um(k n mark p:List UInt8)(c:Nat):gw B U k n mark p c=jH B U k n mark p 0 c:=by
 have:=ul (B:=B) (U:=U) k n mark p c 0
 rw[Nat.zero_add]at this
 rw[this]; rfl
theorem KY{R:Env}(h:JV R)(BC:jT R B)(UC:ql R U)(k n:List UInt8)(m:Mf)(a:As)(p:List UInt8)(hk:k.length=32)(hn:n.length=8)(ok:m.Ok)(hc:ei (m.at' p.length)=0)(q9:p.length<=2048)(had:tW m.kind p=(a,0))(h2:m.kind=2->p.length<=1000):
  R.Pc 528 [.agg (k.map b8),.aG 1 (ap (ui B U k n m p))] (.aF [.agg (m.at' p.length).row,.agg a.row,.int .i64 0]):=by
 have QY:(m.at' p.length).Ok:=ok.at' q9
 have oR:(m.at' p.length).enc.length=35:=Mf.iM _
 have hN:(m.at' p.length).chunks=(((p.length+255) / 256:Nat):Int):=by
  show Ey p.length=_
  unfold Ey
  split<;>omega
 have hS:(m.at' p.length).size=p.length:=rfl
 have hK:(m.at' p.length).kind=m.kind:=rfl
 have ca:=Eg h.n304 m.kind p (by omega) h2
 rw[had]at ca
 generalize hNN:(p.length+255) / 256=N at hN
 have cp:=Qo (rest:=gw B U k n (lA B U k n ([85,77,66,49]++n++(m.at' p.length).enc)) p N) h.JW BC UC k n (m.at' p.length) hk hn QY hc
 have H8:([85,77,66,49]++n++(m.at' p.length).enc).length=47:=by simp[hn,oR]
 have hmk:(lA B U k n ([85,77,66,49]++n++(m.at' p.length).enc)).length=16:=by unfold lA; rw[fq BC UC]; rfl
 have Q0:ui B U k n m p=([85,77,66,49]++n++(m.at' p.length).enc)++lA B U k n ([85,77,66,49]++n++(m.at' p.length).enc)++gw B U k n (lA B U k n ([85,77,66,49]++n++(m.at' p.length).enc)) p N:=by
  unfold ui ww
  rw[hNN]
 have e1:((ui B U k n m p).drop 4).take 8=n:=by rw[Q0]; simp[hn]
 rw[<-Q0]at cp
 generalize lA B U k n ([85,77,66,49]++n++(m.at' p.length).enc)=mk at*
 have e2:((ui B U k n m p).drop 47).take 16=mk:=by
  rw[Q0,List.append_assoc,List.drop_left' H8,List.take_left' hmk]
 have e3:(ui B U k n m p).drop 63=jH B U k n mk p 0 N:=by
  rw[Q0,<-um,List.drop_left' (by rw[List.length_append,H8,hmk])]
 have Bt:(ui B U k n m p).length=63+ (jH B U k n mk p 0 N).length:=by
  rw[Q0,<-um,List.length_append,List.length_append,H8,hmk]
 have hcl:(jH B U k n mk p 0 N).length<=1000000:=by
  have:=ll BC UC se k n mk p N (by omega)
  rw[<-um]; omega
 generalize ui B U k n m p=b at*
 clear Q0 H8
 generalize m.at' p.length=q at*
 obtain⟨k0,k1,k2,k3,k4,k5,k6,k7,k8,k9,ek,eo,ep,eu,ez,eB,eC,eD,eE,eG,eH,eJ,eQ,eR,eT,eU,eV,eW,eX,eY,fe,fh,rfl⟩:=cy hk
 obtain⟨n0,n1,n2,n3,n4,n5,n6,n7,rfl⟩:=wv hn
 exact h.OC.enter 200 rfl fun X bb hfit hp=>by
  refine sh ?_
  refine aj.pure h.JW.UE.hb cp rfl ?_
  refine sh ?_
  refine aC (by rfl) ?_
  refine sh ?_
  refine bp (by show _=ap [n0,n1,n2,n3,n4,n5,n6,n7]; rw[<-e1]; simp[ap,List.drop_take]) ?_
  refine fun _=>⟨⟨by simp,by omega⟩,?_⟩
  refine fun _=>bp (show _=[n0,n1,n2,n3,n4,n5,n6,n7].map b8 from rfl) ?_
  refine sh ?_
  refine bp (by show _=ap mk; rw[<-e2]; simp[ap,List.drop_take]) ?_
  refine sh ?_
  refine bp (by show _=ap (jH B U [k0,k1,k2,k3,k4,k5,k6,k7,k8,k9,ek,eo,ep,eu,ez,eB,eC,eD,eE,eG,eH,eJ,eQ,eR,eT,eU,eV,eW,eX,eY,fe,fh] [n0,n1,n2,n3,n4,n5,n6,n7] mk p 0 N); rw[<-e3]; simp[ap]) ?_
  refine sh ?_
  refine cM false [] (zg h.Bb (jH B U [k0,k1,k2,k3,k4,k5,k6,k7,k8,k9,ek,eo,ep,eu,ez,eB,eC,eD,eE,eG,eH,eJ,eQ,eR,eT,eU,eV,eW,eX,eY,fe,fh] [n0,n1,n2,n3,n4,n5,n6,n7] mk p 0 N) (by omega)) ?_
  repeat (intro _; first|refine eK ?_|refine eP ?_)
  refine sh ?_
  refine mr 200 (fun j:Nat=>j<=N) (fun j=>⟨[(2,.loc 0 1 0 0),(4,.loc 1 1 0 0),(5,.loc 2 1 0 0),(7,R.cl 547 []),(8,.loc 3 1 0 0),(10,.loc 4 1 0 0),(11,.aG 1 (ap mk)),(12,.loc 5 1 0 0),(13,.bh 6 (p.take (256*j)).length),(42,.int .i64 N),(43,.int .i64 j)],[(0,.var (R.ty 63) ([k0,k1,k2,k3,k4,k5,k6,k7,k8,k9,ek,eo,ep,eu,ez,eB,eC,eD,eE,eG,eH,eJ,eQ,eR,eT,eU,eV,eW,eX,eY,fe,fh].map b8)),(1,.var (R.ty 2) [.int .u64 0,.int .i64 0,.int .u32 0,.int .u8 0,.int .u8 0,.int .u8 0,.int .u8 0,.int .u8 0,.int .u8 0,.int .u8 0,.int .u8 0,.int .u32 0,.int .u32 0,.int .i64 0,.int .i64 0]),(2,.var (R.ty 39) [.int .i64 0,.ab,.ab,.ab,.int .i64 0,.ab,.int .i64 0,.int .i64 0,.int .i64 0,.int .i64 0,.int .i64 0,.int .i64 0,.int .i64 0,.int .i64 0,.int .i64 0,.int .i64 0,.int .i64 0,.int .i64 0,.int .i64 0,.int .i64 0,.int .i64 0,.int .i64 0,.int .i64 0,.int .i64 0]),(3,.var (R.ty 2) q.row),(4,.var (R.ty 1) ([n0,n1,n2,n3,n4,n5,n6,n7].map b8)),(5,.var (R.ty 9) (Rd.row ⟨jH B U [k0,k1,k2,k3,k4,k5,k6,k7,k8,k9,ek,eo,ep,eu,ez,eB,eC,eD,eE,eG,eH,eJ,eQ,eR,eT,eU,eV,eW,eX,eY,fe,fh] [n0,n1,n2,n3,n4,n5,n6,n7] mk p j (N - j),0,true⟩)),(6,.arr (R.ty 4) 1 (ap (p.take (256*j))))],7⟩) (fun j=>N - j) (0) ?_ ?_
  ·exact Nat.zero_le _
  ·intro j hj
   dsimp only
   refine sh ?_
   refine cS (fun hc=> ?_) (fun hc=> ?_)
   ·have hj1:j<N:=by simpa using hc
    have ab0:((p.drop (256*j)).take 256).length<=256:=by simp; omega
    have HR:min (256:Int) (q.size - ((p.take (256*j)).length:Nat))=(((p.drop (256*j)).take 256).length:Nat):=by rw[hS]; simp; omega
    have e6:p.take (256*j)++(p.drop (256*j)).take 256=p.take (256* (j+1)):=by rw[Nat.mul_succ,List.take_add]
    have hsp:N - j=(N - (j+1))+1:=by omega
    have cn:=sd h.pb [n0,n1,n2,n3,n4,n5,n6,n7] (j+1) rfl
    have hnl:=hJ (b:=[n0,n1,n2,n3,n4,n5,n6,n7]) rfl (j+1)
    have cc:=KX h.OD BC UC [k0,k1,k2,k3,k4,k5,k6,k7,k8,k9,ek,eo,ep,eu,ez,eB,eC,eD,eE,eG,eH,eJ,eQ,eR,eT,eU,eV,eW,eX,eY,fe,fh] (jp [n0,n1,n2,n3,n4,n5,n6,n7] (j+1)) mk ((p.drop (256*j)).take 256) (jH B U [k0,k1,k2,k3,k4,k5,k6,k7,k8,k9,ek,eo,ep,eu,ez,eB,eC,eD,eE,eG,eH,eJ,eQ,eR,eT,eU,eV,eW,eX,eY,fe,fh] [n0,n1,n2,n3,n4,n5,n6,n7] mk p (j+1) (N - (j+1))) j rfl hnl hmk ab0 (by omega)
    rw[<-List.append_assoc]at cc
    change R.Mc _ _ (mC R ⟨xx B U [k0,k1,k2,k3,k4,k5,k6,k7,k8,k9,ek,eo,ep,eu,ez,eB,eC,eD,eE,eG,eH,eJ,eQ,eR,eT,eU,eV,eW,eX,eY,fe,fh] [n0,n1,n2,n3,n4,n5,n6,n7] mk j ((p.drop (256*j)).take 256)++_,0,true⟩) _ _ _ at cc
    rw[show xx B U [k0,k1,k2,k3,k4,k5,k6,k7,k8,k9,ek,eo,ep,eu,ez,eB,eC,eD,eE,eG,eH,eJ,eQ,eR,eT,eU,eV,eW,eX,eY,fe,fh] [n0,n1,n2,n3,n4,n5,n6,n7] mk j ((p.drop (256*j)).take 256)++jH B U [k0,k1,k2,k3,k4,k5,k6,k7,k8,k9,ek,eo,ep,eu,ez,eB,eC,eD,eE,eG,eH,eJ,eQ,eR,eT,eU,eV,eW,eX,eY,fe,fh] [n0,n1,n2,n3,n4,n5,n6,n7] mk p (j+1) (N - (j+1))=jH B U [k0,k1,k2,k3,k4,k5,k6,k7,k8,k9,ek,eo,ep,eu,ez,eB,eC,eD,eE,eG,eH,eJ,eQ,eR,eT,eU,eV,eW,eX,eY,fe,fh] [n0,n1,n2,n3,n4,n5,n6,n7] mk p j (N - j) by rw[hsp]; rfl]at cc
    generalize jp [n0,n1,n2,n3,n4,n5,n6,n7] (j+1)=nn at cn hnl cc
    obtain⟨Yb,Yc,Yd,Ye,Yf,Yg,Yh,Yi,Yj,Yk,KR,KT,rfl⟩:=lk hnl
    refine sh ?_
    refine aj.pure h.pb.GX.hb cn rfl ?_
    refine sh ?_
    rw[HR]
    refine cW false [5] cc ?_
    repeat (intro _; first|refine eK ?_|refine eP ?_)
    refine sh ?_
    refine aC (by rfl) ?_
    refine sh ?_
    refine nX (j+1) ?_ ?_ ⟨_,hp,rfl⟩ ?_ ?_
    ·omega
    ·omega
    ·all_goals repeat' (first|exact True.intro|refine And.intro ?_ ?_|(intro _u; clear _u)|(with_reducible first|exact aS.fg|refine eM ?_ ?_|refine eF ?_ ?_ ?_|refine eN ?_|refine eL ?_ ?_ ?_|refine eA ?_ ?_|refine bo.mk ⟨_,hp,rfl⟩ ?_ ?_)|refine bo.mk ⟨_,hp,rfl⟩ ?_ ?_)
     all_goals try first|with_reducible rfl|omega|exact .inl (by decide)|(simp; done)|rfl
     all_goals rw[<-mz,e6,cq]
    ·all_goals repeat' (first|exact True.intro|refine And.intro ?_ ?_|(intro _u; clear _u)|(with_reducible first|exact aS.fg|refine eM ?_ ?_|refine eF ?_ ?_ ?_|refine eN ?_|refine eL ?_ ?_ ?_|refine eA ?_ ?_|refine bo.mk ⟨_,hp,rfl⟩ ?_ ?_)|refine bo.mk ⟨_,hp,rfl⟩ ?_ ?_)
     all_goals try first|with_reducible rfl|omega|exact .inl (by decide)|(simp; done)|rfl
     all_goals exact (mz _ _).symm.trans (congrArg ap e6)
   ·obtain rfl:j=N:=by have:¬j<N:=by simpa using hc
                       omega
    rw[List.take_of_length_le (by omega),Nat.sub_self]
    refine sh ?_
    refine cM false [5] (Qm h.n68 ⟨[],0,true⟩) ?_
    repeat (intro _; first|refine eK ?_|refine eP ?_)
    refine sh ?_
    refine aC (by rfl) ?_
    refine sh ?_
    refine aj.let [6] rfl hp rfl ?_
    repeat ((intro _u; clear _u); first|refine eZ ?_|refine eZ ?_ (by simp; omega)|refine lC.drop ?_)
    refine sh ?_
    rw[hK]
    refine aj.pure h.n304.UA.hb ca rfl ?_
    refine sh ?_
    refine aC (by rfl) ?_
    refine sh ?_
    exact rT
end Go.UM
namespace Go.UM
open Go.AM
set_option maxRecDepth 4000
abbrev Ic(R:Env)(to:Int):ah:=[(0,.var (R.ty 61) [.ab,.ab,.ab,.ab,.ab,.ab,.int .u32 0,.int .u32 0,.int .u32 to,.omap 1,.omap 2,.omap 3]),(1,.map 1 false true true 41 []),(2,.map 1 false false true 2 []),(3,.map 1 false false true 2 [])]
theorem Ie{R:Env}(h:O4 R):R.Mc 505 [.loc 0 1 0 0,.ab,.int .i64 0] (Ic R 0) (.aF []) (Ic R 4294967295) 4:=
 h.aaO.aK 200 4 rfl rfl rfl fun X bb hfit hp=>by
  unfold Ic
  refine sh ?_
  refine ay.one 100 ?_
  refine sh ?_
  refine aC (by rfl) ?_
  refine sh ?_
  exact rM [0,1,2,3]
def WU:List AV:=[.ab,.ab,.ab,.ab,.ab,.ab,.int .u32 0,.int .u32 0,.int .u32 4294967295]
theorem KZ{R:Env}(h:O5 R)(K:Co R)(S:Cp R)(cr:R.Mc 439 [.omap 0] [(0,.map 1 false true true 41 [])] (.omap 1) [(0,.map 1 false true true 41 []),(1,.map 1 false true true 41 [])] 2)
  (ci:R.Mc 440 [.omap 0] [(0,.map 4 true true true 16 [])] (.omap 1) [(0,.map 4 true true true 16 []),(1,.map 4 true true true 16 [])] 2):
  R.Mz true 491 [.loc 2 1 0 0,.int .i64 0] (kA R true true ⟨[],[]⟩) (.aF [.agg WU,.int .i64 0]) (kA R true false ⟨[],[]⟩) 3:=
 h.aaP.mY 200 3 rfl rfl rfl fun X bb hfit hp hz=>by
  unfold kA
  refine sh ?_
  refine cM false [0,1,2] (Ku h.O8 cr ci) ?_
  repeat (intro _; first|refine eK ?_|refine eP ?_)
  refine sh ?_
  refine aC (by rfl) ?_
  refine sh ?_
  refine aC (by rfl) ?_
  refine sh ?_
  refine cM false [0,1,2] (Kw h.O6 K) ?_
  repeat (intro _; first|refine eK ?_|refine eP ?_)
  refine sh ?_
  refine cM false [10,7,8,9] (Ie h.O9) ?_
  repeat (intro _; first|refine eK ?_|refine eP ?_)
  refine sh ?_
  refine cM false [0,1,2] (HH h.O7 S) ?_
  repeat (intro _; first|refine eK ?_|refine eP ?_)
  refine sh ?_
  refine ay.one 100 ?_
  refine sh ?_
  refine aC (by rfl) ?_
  refine sh ?_
  exact rM [0,1,2]
def ab1:List AV:=[.int .i64 0,.int .i64 0,.int .i64 0,.int .i64 0,.int .i64 0,.int .u64 0,.int .i64 0,.int .i64 0,.int .i64 0,.int .i64 0,.int .i64 0,.int .i64 0,.int .i64 0,.int .i64 0,.int .i64 0,.int .i64 0,.int .i64 0,.int .i64 0,.int .i64 0,.int .i64 0,.bool false,.bool false,.int .i64 0,.aw]
def ab2:List AV:=[.int .u32 0,.int .i64 0,.int .i64 0,.int .u32 0,.int .i64 0,.int .i64 0,.int .u32 0,.int .i64 0,.int .i64 0,.int .u32 0,.int .i64 0,.int .i64 0,.int .u32 0,.int .i64 0,.int .i64 0,.int .u32 0,.int .i64 0,.int .i64 0,.int .u32 0,.int .i64 0,.int .i64 0,.int .u32 0,.int .i64 0,.int .i64 0]
def ab3(k:List UInt8)(ab4:List AV):List AV:=k.map b8++(.loc 2 1 0 0:: .int .u32 0::((ab4.map fun l=>ab1++l::ab2).flatten++ [.int .i64 0,.int .i64 0,.int .i64 0]))
abbrev oy(R:Env)(k:List UInt8)(d1 d2:Bool)(t:Tb):ah:=kA R d1 d2 t++ [(3,.var (R.ty 69) (ab3 k [.loc 4 1 0 0,.loc 5 1 0 0,.loc 6 1 0 0,.loc 7 1 0 0,.loc 8 1 0 0,.loc 9 1 0 0,.loc 10 1 0 0,.loc 11 1 0 0])),(4,.var (R.ty 72) (nF 0)),(5,.var (R.ty 72) (nF 1)),(6,.var (R.ty 72) (nF 2)),(7,.var (R.ty 72) (nF 3)),(8,.var (R.ty 72) (nF 4)),(9,.var (R.ty 72) (nF 5)),(10,.var (R.ty 72) (nF 6)),(11,.var (R.ty 72) (nF 7))]
set_option maxHeartbeats 4000000 in
theorem If{R:Env}(h:J6 R)(k:List UInt8)(hk:k.length=32):R.Mc 517 [.agg (k.map b8)] [] (.loc 3 1 0 0) (oy R k true true ⟨[],[]⟩) 12:=by
 obtain⟨k0,k1,k2,k3,k4,k5,k6,k7,k8,k9,ek,eo,ep,eu,ez,eB,eC,eD,eE,eG,eH,eJ,eQ,eR,eT,eU,eV,eW,eX,eY,fe,fh,rfl⟩:=cy hk
 exact h.aaQ.aK 200 0 rfl rfl rfl fun X bb hfit hp=>by
  refine sh ?_
  refine cM false [] (PN h.n345) ?_
  repeat (intro _; first|refine eK ?_|refine eP ?_)
  refine sh ?_
  refine ay.one 100 ?_
  refine sh ?_
  refine au (by rfl) ?_
  refine sh ?_
  refine cM false [] (mK h.uX 0 (by omega)) ?_
  repeat (intro _; first|refine eK ?_|refine eP ?_)
  refine sh ?_
  refine ay.one 100 ?_
  refine sh ?_
  refine au (by rfl) ?_
  refine sh ?_
  refine cM false [] (mK h.uX 1 (by omega)) ?_
  repeat (intro _; first|refine eK ?_|refine eP ?_)
  refine sh ?_
  refine ay.one 100 ?_
  refine sh ?_
  refine au (by rfl) ?_
  refine sh ?_
  refine cM false [] (mK h.uX 2 (by omega)) ?_
  repeat (intro _; first|refine eK ?_|refine eP ?_)
  refine sh ?_
  refine ay.one 100 ?_
  refine sh ?_
  refine au (by rfl) ?_
  refine sh ?_
  refine cM false [] (mK h.uX 3 (by omega)) ?_
  repeat (intro _; first|refine eK ?_|refine eP ?_)
  refine sh ?_
  refine ay.one 100 ?_
  refine sh ?_
  refine au (by rfl) ?_
  refine sh ?_
  refine cM false [] (mK h.uX 4 (by omega)) ?_
  repeat (intro _; first|refine eK ?_|refine eP ?_)
  refine sh ?_
  refine ay.one 100 ?_
  refine sh ?_
  refine au (by rfl) ?_
  refine sh ?_
  refine cM false [] (mK h.uX 5 (by omega)) ?_
  repeat (intro _; first|refine eK ?_|refine eP ?_)
  refine sh ?_
  refine ay.one 100 ?_
  refine sh ?_
  refine au (by rfl) ?_
  refine sh ?_
  refine cM false [] (mK h.uX 6 (by omega)) ?_
  repeat (intro _; first|refine eK ?_|refine eP ?_)
  refine sh ?_
  refine ay.one 100 ?_
  refine sh ?_
  refine au (by rfl) ?_
  refine sh ?_
  refine cM false [] (mK h.uX 7 (by omega)) ?_
  repeat (intro _; first|refine eK ?_|refine eP ?_)
  refine sh ?_
  refine ay.one 100 ?_
  refine sh ?_
  refine aC (by rfl) ?_
  refine sh ?_
  exact rM [1,2,3,4,5,6,7,8,9,10,11,12]
end Go.UM
namespace Go.UM
open Go.AM
set_option maxRecDepth 4000
def opT:List AV:=[.int .i64 0,.int .i64 0,.int .i64 0,.int .i64 0,.int .i64 0,.int .i64 0,.int .i64 0,.int .i64 0,.int .i64 0,.int .i64 0,.int .i64 0,.int .i64 0,.int .i64 0,.int .i64 0,.int .i64 0,.int .i64 0,.int .i64 0,.int .i64 0,.int .i64 0,.int .i64 0,.int .i64 0,.int .i64 0,.int .u64 0,.int .i64 0,.int .i64 0,.int .i64 0,.int .i64 0,.int .i64 0,.int .i64 0,.int .i64 0,.int .i64 0,.int .i64 0,.int .i64 0,.int .i64 0,.int .i64 0,.int .i64 0,.int .i64 0,.bool false,.int .i64 0,.int .i64 0,.int .u32 0,.int .i64 0,.int .i64 0]
def opL(b:List UInt8):List AV:= .int .i64 1:: .int .i64 7:: .aG 1 (ap b)::opT
def opQ:List AV:= .int .i64 9:: .int .i64 0:: .ab::opT
theorem Qp{R:Env}(h:J7 R)(e:Int):R.Pc 536 [.int .i64 e] (.agg [.int .i64 e,.ab,.ab]):=
 h.Vh.enter 60 rfl fun X bb hfit hp=>by
  refine sh ?_
  exact rT
theorem Cv{R:Env}(h:O' R)(k:List UInt8)(hk:k.length=32)(d1 d2:Bool)(t:Tb):R.Mc 535 [.loc 3 1 0 0] (oy R k d1 d2 t) (.bool false) (oy R k d1 d2 t) 12:=by
 obtain⟨k0,k1,k2,k3,k4,k5,k6,k7,k8,k9,ek,eo,ep,eu,ez,eB,eC,eD,eE,eG,eH,eJ,eQ,eR,eT,eU,eV,eW,eX,eY,fe,fh,rfl⟩:=cy hk
 exact h.aaR.aK 100 12 rfl rfl rfl fun X bb hfit hp=>by
  refine sh ?_
  exact rM [0,1,2,3,4,5,6,7,8,9,10,11]
set_option maxHeartbeats 4000000 in
theorem zV{R:Env}(h:G2 R)(k b:List UInt8)(hk:k.length=32)(f:Mf)(a:As)(co:R.Pc 528 [.agg (k.map b8),.aG 1 (ap b)] (.aF [.agg f.row,.agg a.row,.int .i64 0]))(d1 d2:Bool)(t:Tb)
  (fx:a.x.t.length<=1000) (fb:a.bare.Bs) (hn:t.rows.length<=1000000):
  R.Mc 518 [.loc 3 1 0 0,.agg (opL b)] (oy R k d1 d2 t) (.agg [.int .i64 (mF t 7 f a).2,.ab,.ab]) (oy R k d1 d2 (mF t 7 f a).1) 12:=by
 have cl:=PP h.n346 d1 d2 t 7 f a fx fb hn
 generalize mF t 7 f a=q at cl ⊢
 obtain⟨k0,k1,k2,k3,k4,k5,k6,k7,k8,k9,ek,eo,ep,eu,ez,eB,eC,eD,eE,eG,eH,eJ,eQ,eR,eT,eU,eV,eW,eX,eY,fe,fh,rfl⟩:=cy hk
 exact h.Vo.aK 300 12 rfl rfl rfl fun X bb hfit hp=>by
  refine sh ?_
  refine cM false [0,1,2,3,4,5,6,7,8,9,10,11] (Cv h.J8 [k0,k1,k2,k3,k4,k5,k6,k7,k8,k9,ek,eo,ep,eu,ez,eB,eC,eD,eE,eG,eH,eJ,eQ,eR,eT,eU,eV,eW,eX,eY,fe,fh] rfl d1 d2 t) ?_
  repeat (intro _; first|refine eK ?_|refine eP ?_)
  refine sh ?_
  refine au (by rfl) ?_
  refine sh ?_
  refine aj.pure h.Be.OC.hb co rfl ?_
  refine sh ?_
  refine aC (by rfl) ?_
  refine sh ?_
  refine cW false [0,1,2] (cl) ?_
  repeat (intro _; first|refine eK ?_|refine eP ?_)
  refine sh ?_
  refine aj.pure h.DT.Vh.hb (Qp h.DT q.2) rfl ?_
  refine sh ?_
  exact rM [0,1,2,3,4,5,6,7,8,9,10,11]
end Go.UM
namespace Go.UM
open Go.AM
set_option maxRecDepth 4000
structure BK(R:Env):Prop where
 k:Co R
 s:Cp R
 r:R.Mc 439 [.omap 0] [(0,.map 1 false true true 41 [])] (.omap 1) [(0,.map 1 false true true 41 []),(1,.map 1 false true true 41 [])] 2
 i:R.Mc 440 [.omap 0] [(0,.map 4 true true true 16 [])] (.omap 1) [(0,.map 4 true true true 16 []),(1,.map 4 true true true 16 [])] 2
set_option maxHeartbeats 4000000 in
theorem K0{R:Env}(h:Pe R)(E:BK R)(k:List UInt8)(hk:k.length=32):R.Mz true 575 [.loc 3 1 0 0,.loc 3 1 0 34,.int .i64 0] (oy R k true true ⟨[],[]⟩) (.aF [.agg WU,.bool false]) (oy R k true false ⟨[],[]⟩) 12:=by
 obtain⟨k0,k1,k2,k3,k4,k5,k6,k7,k8,k9,ek,eo,ep,eu,ez,eB,eC,eD,eE,eG,eH,eJ,eQ,eR,eT,eU,eV,eW,eX,eY,fe,fh,rfl⟩:=cy hk
 exact h.aaT.mY 200 12 rfl rfl rfl fun X bb hfit hp hz=>by
  refine sh ?_
  refine cM false [0,1,2] (KZ h.Pf E.k E.s E.r E.i) ?_
  repeat (intro _; first|refine eK ?_|refine eP ?_)
  refine sh ?_
  exact rM [0,1,2,3,4,5,6,7,8,9,10,11]
theorem LZ{R:Env}(h:Pb R):R.Pc 574 [.bool false] (.int .i64 0):=
 h.Pd.enter 60 rfl fun X bb hfit hp=>by
  refine sh ?_
  exact rT
set_option maxHeartbeats 4000000 in
theorem K1{R:Env}(h:Pg R)(E:BK R)(k:List UInt8)(hk:k.length=32):R.Mz true 554 [.loc 3 1 0 0,.loc 3 1 0 34,.agg opQ] (oy R k true true ⟨[],[]⟩) (.agg [.int .i64 0,.aG 1 [[.int .i64 0],[.int .i64 0],[.int .i64 0]],.aG 1 (ap (jo 0))]) (oy R k true false ⟨[],[]⟩) 12:=by
 have ch:=KQ h.Pk 0
 have ce:=Qj h.Ph 0
 have hv:uL ((jo 0).map b8) 0 32 1 (ap (jo 0)):=by
  have:=wo (l:=jo 0) (off:=0) (cnt:=32) (by rw[fu]; omega)
  rwa[List.drop_zero,List.take_of_length_le (by rw[fu]; omega)]at this
 obtain⟨k0,k1,k2,k3,k4,k5,k6,k7,k8,k9,ek,eo,ep,eu,ez,eB,eC,eD,eE,eG,eH,eJ,eQ,eR,eT,eU,eV,eW,eX,eY,fe,fh,rfl⟩:=cy hk
 exact h.aaU.mY 200 12 rfl rfl rfl fun X bb hfit hp hz=>by
  refine sh ?_
  refine cM false [0,1,2,3,4,5,6,7,8,9,10,11] (K0 h.Pj E [k0,k1,k2,k3,k4,k5,k6,k7,k8,k9,ek,eo,ep,eu,ez,eB,eC,eD,eE,eG,eH,eJ,eQ,eR,eT,eU,eV,eW,eX,eY,fe,fh] rfl) ?_
  repeat (intro _; first|refine eK ?_|refine eP ?_)
  refine sh ?_
  refine cM false [4] (ch) ?_
  repeat (intro _; first|refine eK ?_|refine eP ?_)
  refine sh ?_
  refine aj.pure h.DR.Pd.hb (LZ h.DR) rfl ?_
  refine sh ?_
  refine aj.pure h.DR.Pd.hb (LZ h.DR) rfl ?_
  refine sh ?_
  refine cR false [4] (ce) ?_
  repeat (intro _; first|refine eK ?_|refine eP ?_)
  first|refine⟨⟨[],rfl,rfl⟩,?_⟩|refine⟨⟨[_],rfl,rfl⟩,?_⟩|refine⟨⟨[_,_],rfl,rfl⟩,?_⟩
  refine sh ?_
  refine rM [0,1,2,3,4,5,6,7,8,9,10,11] ?_
  all_goals repeat' (first|exact True.intro|refine And.intro ?_ ?_|(intro _u; clear _u)|(with_reducible first|exact aS.fg|refine eM ?_ ?_|refine eF ?_ ?_ ?_|refine eN ?_|refine eL ?_ ?_ ?_|refine eA ?_ ?_|refine bo.mk ⟨_,hp,rfl⟩ ?_ ?_)|refine bo.mk ⟨_,hp,rfl⟩ ?_ ?_)
  all_goals try first|with_reducible rfl|omega|exact .inl (by decide)|(simp; done)|rfl
  exact hv
theorem K2{R:Env}(h:Pa R)(k:List UInt8)(hk:k.length=32):R.Mc 537 [.loc 3 1 0 0,.int .i64 0] (oy R k true true ⟨[],[]⟩) (.aF [.loc 3 1 0 34,.bool true]) (oy R k true true ⟨[],[]⟩) 12:=by
 obtain⟨k0,k1,k2,k3,k4,k5,k6,k7,k8,k9,ek,eo,ep,eu,ez,eB,eC,eD,eE,eG,eH,eJ,eQ,eR,eT,eU,eV,eW,eX,eY,fe,fh,rfl⟩:=cy hk
 exact h.aaS.aK 100 12 rfl rfl rfl fun X bb hfit hp=>by
  refine sh ?_
  refine aC (by rfl) ?_
  refine sh ?_
  refine aC (by rfl) ?_
  refine sh ?_
  exact rM [0,1,2,3,4,5,6,7,8,9,10,11]
set_option maxHeartbeats 4000000 in
theorem WV{R:Env}(h:Pl R)(E:BK R)(k:List UInt8)(hk:k.length=32):R.Mz true 538 [.loc 3 1 0 0,.loc 3 1 0 34,.agg opQ] (oy R k true true ⟨[],[]⟩) (.agg [.int .i64 0,.aG 1 [[.int .i64 0],[.int .i64 0],[.int .i64 0]],.aG 1 (ap (jo 0))]) (oy R k true false ⟨[],[]⟩) 12:=by
 obtain⟨k0,k1,k2,k3,k4,k5,k6,k7,k8,k9,ek,eo,ep,eu,ez,eB,eC,eD,eE,eG,eH,eJ,eQ,eR,eT,eU,eV,eW,eX,eY,fe,fh,rfl⟩:=cy hk
 exact h.aaV.mY 200 12 rfl rfl rfl fun X bb hfit hp hz=>by
  refine sh ?_
  refine aC (by rfl) ?_
  refine sh ?_
  refine aC (by rfl) ?_
  refine sh ?_
  refine au (by rfl) ?_
  refine sh ?_
  refine cM false [0,1,2,3,4,5,6,7,8,9,10,11] (K1 h.Pm E [k0,k1,k2,k3,k4,k5,k6,k7,k8,k9,ek,eo,ep,eu,ez,eB,eC,eD,eE,eG,eH,eJ,eQ,eR,eT,eU,eV,eW,eX,eY,fe,fh] rfl) ?_
  repeat (intro _; first|refine eK ?_|refine eP ?_)
  refine sh ?_
  exact rM [0,1,2,3,4,5,6,7,8,9,10,11]
set_option maxHeartbeats 4000000 in
theorem EB{R:Env}(h:G2 R)(E:BK R)(k:List UInt8)(hk:k.length=32):R.Mz true 518 [.loc 3 1 0 0,.agg opQ] (oy R k true true ⟨[],[]⟩) (.agg [.int .i64 0,.aG 1 [[.int .i64 0],[.int .i64 0],[.int .i64 0]],.aG 1 (ap (jo 0))]) (oy R k true false ⟨[],[]⟩) 12:=by
 obtain⟨k0,k1,k2,k3,k4,k5,k6,k7,k8,k9,ek,eo,ep,eu,ez,eB,eC,eD,eE,eG,eH,eJ,eQ,eR,eT,eU,eV,eW,eX,eY,fe,fh,rfl⟩:=cy hk
 exact h.Vo.mY 300 12 rfl rfl rfl fun X bb hfit hp hz=>by
  refine sh ?_
  refine cM false [0,1,2,3,4,5,6,7,8,9,10,11] (Cv h.J8 [k0,k1,k2,k3,k4,k5,k6,k7,k8,k9,ek,eo,ep,eu,ez,eB,eC,eD,eE,eG,eH,eJ,eQ,eR,eT,eU,eV,eW,eX,eY,fe,fh] rfl true true ⟨[],[]⟩) ?_
  repeat (intro _; first|refine eK ?_|refine eP ?_)
  iterate 9
   refine sh ?_
   refine aC (by rfl) ?_
  refine sh ?_
  refine au (by rfl) ?_
  refine sh ?_
  refine cM false [0,1,2,3,4,5,6,7,8,9,10,11] (K2 h.Pn [k0,k1,k2,k3,k4,k5,k6,k7,k8,k9,ek,eo,ep,eu,ez,eB,eC,eD,eE,eG,eH,eJ,eQ,eR,eT,eU,eV,eW,eX,eY,fe,fh] rfl) ?_
  repeat (intro _; first|refine eK ?_|refine eP ?_)
  refine sh ?_
  refine cM false [0,1,2,3,4,5,6,7,8,9,10,11] (WV h.Po E [k0,k1,k2,k3,k4,k5,k6,k7,k8,k9,ek,eo,ep,eu,ez,eB,eC,eD,eE,eG,eH,eJ,eQ,eR,eT,eU,eV,eW,eX,eY,fe,fh] rfl) ?_
  repeat (intro _; first|refine eK ?_|refine eP ?_)
  refine sh ?_
  exact rM [0,1,2,3,4,5,6,7,8,9,10,11]
end Go.UM
namespace Go.UM
open Go.AM
set_option maxRecDepth 4000
theorem EC{R:Env}(h:Ps R)(E:BK R):R.Pz true 523 [] (.bool true):=
 h.Pt.AZ 200 rfl fun X bb hfit hp hz=>by
  refine sh ?_
  refine cM false [] (If h.DU (1::List.replicate 31 0) rfl) ?_
  repeat (intro _; first|refine eK ?_|refine eP ?_)
  refine sh ?_
  refine cM false [0,1,2,3,4,5,6,7,8,9,10,11] (EB h.Bf E (1::List.replicate 31 0) rfl) ?_
  repeat (intro _; first|refine eK ?_|refine eP ?_)
  refine sh ?_
  refine au (by rfl) ?_
  refine sh ?_
  refine au (by rfl) ?_
  refine sh ?_
  refine rT ?_
  all_goals repeat' (first|exact True.intro|refine And.intro ?_ ?_|(intro _u; clear _u)|(with_reducible first|exact aS.fg|refine eM ?_ ?_|refine eF ?_ ?_ ?_|refine eN ?_|refine eL ?_ ?_ ?_|refine eA ?_ ?_|refine bo.mk ⟨_,hp,rfl⟩ ?_ ?_)|refine bo.mk ⟨_,hp,rfl⟩ ?_ ?_)
  all_goals try first|with_reducible rfl|omega|exact .inl (by decide)|(simp; done)|rfl
  all_goals L3
end Go.UM
namespace Go.UM
open Go.AM
set_option maxRecDepth 4000
theorem As.Ig(a:As):a.nB.Bs:=by
 refine⟨?_,?_,?_,?_⟩<;>(simp only[As.nB,Ms.nB,List.length_take]; omega)
variable {B:List UInt8->List UInt8->Int->List UInt8} {U:List UInt8->List UInt8->List UInt8->List UInt8->List UInt8}
theorem zW(k n:List UInt8)(m:Mf)(a:As):(pD B U k n m a).2≠0/\(pD B U k n m a).1=[]\/ pD B U k n m a=(ui B U k n m (cJ a),0)/\iB a=0/\ei (m.at' (cJ a).length)=0:=by
 unfold pD
 split
 ·rename_i h; exact .inl ⟨h,rfl⟩
 ·rename_i h1
  split
  ·rename_i h; exact .inl ⟨h,rfl⟩
  ·rename_i h2
   have h3:iB a=0:=by
    apply Decidable.byContradiction
    intro h
    apply h1
    rw[nE,if_pos h]; exact h
   have e:nE a=(cJ a,0):=by rw[nE,if_neg (by simpa using h3)]
   rw[e]at h2 ⊢
   refine .inr ⟨rfl,h3,?_⟩
   apply Decidable.byContradiction
   intro h
   apply h2
   rw[mL,if_neg h]; exact h
theorem BL(a:As):tT a a=true:=by simp[tT]
theorem ED{a b c:Int}{m0 m1 m2 m3 m4 m5 m6 m7:Int}{p q r s:Int}(h0:dZ .u8 m0)(h1:dZ .u8 m1)(h2:dZ .u8 m2)(h3:dZ .u8 m3)(h4:dZ .u8 m4)(h5:dZ .u8 m5)(h6:dZ .u8 m6)(h7:dZ .u8 m7)(i:Nat):
  0<=(⟨a,b,c,m0,m1,m2,m3,m4,m5,m6,m7,p,q,r,s⟩:Mf).jR i/\(⟨a,b,c,m0,m1,m2,m3,m4,m5,m6,m7,p,q,r,s⟩:Mf).jR i<=255:=by
 simp only[dZ]at*
 rcases i with _|_|_|_|_|_|_|_|i<;>simp only[Mf.jR]<;>omega
def WW:List Int->Prop
 |[]=>True
 |x::l=>dZ .u8 x/\WW l
theorem WX:∀l:List Int,WW l->l.map (AV.int .u8)=(l.map u8).map b8
 |[],_=>rfl
 |x::l,h=>by
  rw[List.map_cons,List.map_cons,List.map_cons,WX l h.2,b8,<-lw,tA h.1]
def zIn:In:=⟨0,0,0,0,⟨0,0,0,0,0,0,0,0,0,z3⟩⟩
set_option maxHeartbeats 4000000 in
theorem EE{R:Env}(h:Vu R)(E:BK R)(k:List UInt8)(hk:k.length=32)(m:Mf)(ok:m.Ok)(a:As)(hka:dZ .i64 a.k):R.Pz true 526 [.agg (k.map b8),.agg m.row,.agg a.row] (.bool true):=by
 obtain⟨B,BC⟩:=abu h.Bg.DM.tF.GM.Ba
 obtain⟨U,UC⟩:=abT h.Bg.DM.yU BC
 have cw:=EC h.G4 E
 have cf:=Kt h.G3 ⟨0,0,.zero,a,zIn⟩
 have ff:=a.Ig
 have QY:({m with kind:=a.k}:Mf).Ok:=⟨ok.id,hka,ok.label,ok.jR,ok.first,ok.last,ok.size,ok.chunks⟩
 have cs:=KW h.Bg BC UC k [1,2,3,0,0,0,0,0] {m with kind:=a.k} a.nB hk rfl QY ff rfl
 have cc:=zW (B:=B) (U:=U) k [1,2,3,0,0,0,0,0] {m with kind:=a.k} a.nB
 generalize pD B U k [1,2,3,0,0,0,0,0] {m with kind:=a.k} a.nB=q at cs cc
 obtain⟨k0,k1,k2,k3,k4,k5,k6,k7,k8,k9,ek,eo,ep,eu,ez,eB,eC,eD,eE,eG,eH,eJ,eQ,eR,eT,eU,eV,eW,eX,eY,fe,fh,rfl⟩:=cy hk
 rcases cc with⟨c1,c2⟩|⟨rfl,c3,c4⟩
 ·exact h.Vv.AZ 400 rfl fun X bb hfit hp hz=>by
   refine sh ?_
   refine aj.pure h.G3.Pr.hb cf rfl ?_
   refine sh ?_
   refine aj.pure h.Bg.OG.hb cs rfl ?_
   refine sh ?_
   refine au (by simpa using c1) ?_
   rw[c2]
   refine sh ?_
   refine au (by rfl) ?_
   refine sh ?_
   refine aj.pure h.G4.Pt.hb cw rfl ?_
   refine sh ?_
   exact rT
 ·have q9:(cJ a.nB).length<=2048:=by
   have:=(nf c3).2.2
   have:=Hy a.nB.k
   omega
  have co:=KY h.Be BC UC [k0,k1,k2,k3,k4,k5,k6,k7,k8,k9,ek,eo,ep,eu,ez,eB,eC,eD,eE,eG,eH,eJ,eQ,eR,eT,eU,eV,eW,eX,eY,fe,fh] [1,2,3,0,0,0,0,0] {m with kind:=a.k} a.nB (cJ a.nB) rfl rfl QY c4 q9 (Bw c3) (fun h2=>Ej c3 h2)
  have csm:=Hp h.n298 a.nB a.nB ff
  rw[BL]at csm
  have l1:=zV h.Bf [k0,k1,k2,k3,k4,k5,k6,k7,k8,k9,ek,eo,ep,eu,ez,eB,eC,eD,eE,eG,eH,eJ,eQ,eR,eT,eU,eV,eW,eX,eY,fe,fh] _ rfl _ a.nB co true true ⟨[],[]⟩ (by have:=ff.x; omega) ff.bare (by simp)
  have l2:=zV h.Bf [k0,k1,k2,k3,k4,k5,k6,k7,k8,k9,ek,eo,ep,eu,ez,eB,eC,eD,eE,eG,eH,eJ,eQ,eR,eT,eU,eV,eW,eX,eY,fe,fh] _ rfl _ a.nB co true true ⟨[⟨7,Mf.at' {m with kind:=a.k} (cJ a.nB).length,a.nB⟩],[]⟩ (by have:=ff.x; omega) ff.bare (by simp)
  rw[show mF ⟨[],[]⟩ 7 (Mf.at' {m with kind:=a.k} (cJ a.nB).length) a.nB=(⟨[⟨7,Mf.at' {m with kind:=a.k} (cJ a.nB).length,a.nB⟩],[]⟩,0)from by rw[mF,if_neg (by omega),if_neg (by simp[zu]),if_neg (by simpa using c3),if_neg (by simp[Mf.at',As.nB])]; rfl]at l1
  rw[show mF ⟨[⟨7,Mf.at' {m with kind:=a.k} (cJ a.nB).length,a.nB⟩],[]⟩ 7 (Mf.at' {m with kind:=a.k} (cJ a.nB).length) a.nB=(⟨[⟨7,Mf.at' {m with kind:=a.k} (cJ a.nB).length,a.nB⟩],[]⟩,10)from by rw[mF,if_neg (by omega),if_pos (by simp[zu])]]at l2
  exact h.Vv.AZ 400 rfl fun X bb hfit hp hz=>by
   refine sh ?_
   refine aj.pure h.G3.Pr.hb cf rfl ?_
   refine sh ?_
   refine aj.pure h.Bg.OG.hb cs rfl ?_
   refine sh ?_
   refine aC (by rfl) ?_
   refine sh ?_
   refine aj.pure h.Be.OC.hb co rfl ?_
   refine sh ?_
   refine cM false [] (If h.DU [k0,k1,k2,k3,k4,k5,k6,k7,k8,k9,ek,eo,ep,eu,ez,eB,eC,eD,eE,eG,eH,eJ,eQ,eR,eT,eU,eV,eW,eX,eY,fe,fh] rfl) ?_
   repeat (intro _; first|refine eK ?_|refine eP ?_)
   refine sh ?_
   refine aC (by rfl) ?_
   refine sh ?_
   refine aj.pure h.n298.Oq.hb csm rfl ?_
   refine sh ?_
   refine aC (by simp[Mf.at']) ?_
   refine sh ?_
   refine aC (by simp[Mf.at']) ?_
   refine sh ?_
   refine cM false [6,7,8,9,10,11,12,13,14,15,16,17] (l1) ?_
   repeat (intro _; first|refine eK ?_|refine eP ?_)
   refine sh ?_
   refine au (by rfl) ?_
   refine sh ?_
   refine cM false [6,7,8,9,10,11,12,13,14,15,16,17] (l2) ?_
   repeat (intro _; first|refine eK ?_|refine eP ?_)
   refine sh ?_
   refine au (by rfl) ?_
   refine sh ?_
   refine aj.pure h.G4.Pt.hb cw rfl ?_
   refine sh ?_
   exact rT
end Go.UM
namespace Go.UM
open Go.AM
end Go.UM
