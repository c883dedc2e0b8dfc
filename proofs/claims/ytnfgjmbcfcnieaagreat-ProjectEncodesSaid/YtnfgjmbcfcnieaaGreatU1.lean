/- Of the reckoning machine, and what is proved with it: texts joined by program. -/
import Derived.Test.YtnfgjmbcfcnieaaGreatU0
import Derived.Test.YtnfgjmbcfcnieaaGreatK3
import Derived.Shelf.SlSortCmp.InsertionK
import Derived.Maps.Own
import Derived.Lib.SlKeysI
import Derived.Shelf.SlSortCmp.NoneTotal
import Derived.Shelf.SlSortCmp.WholeK
set_option linter.all false
namespace Go.UM
open Go.AM
set_option maxRecDepth 4000
structure cz where
 side:Int
 t:List T3
def cz.row (x:cz):List AV:=[.int .i64 x.side,.aO 3 (bF x.t)]
def T3.ou (x:T3):Bool:=decide (0≤x.a)&&decide (0≤x.b)&&decide (0≤x.c)&&decide (x.a≤255)&&decide (x.b≤255)&&decide (x.c≤255)
theorem T3.E3 (x:T3):x.ou=true↔(0≤x.a∧x.a≤255)∧(0≤x.b∧x.b≤255)∧0≤x.c∧x.c≤255:=by
 simp only[T3.ou,Bool.and_eq_true,decide_eq_true_eq]
 omega
def tY:List Int:=[1,2,4,8,16]
def lC (x:cz):Int:=if x.side ∉ tY∨(x.t.length:Int)≠x.side*x.side then 5 else if x.t.all T3.ou=true then 0 else 5
theorem vn {x:cz} (h:x.side ∈ tY):x.side=1∨x.side=2∨x.side=4∨x.side=8∨x.side=16:=by
 simpa[tY]using h
theorem xg {x:cz} {y:T3} (hy:y ∈ x.t) (h:y.ou=false):lC x=5:=by
 unfold lC
 split
 ·rfl
 ·rw[if_neg]
  intro ha
  rw[List.all_eq_true.1 ha y hy]at h
  exact Bool.noConfusion h
theorem sL {α:Type} {n:List α} {k:Nat} {x:α} {p:α→Bool} (h:n[k]? =some x):(n.take (k+1)).all p=((n.take k).all p&&p x):=by
 rw[aA h]; simp
theorem E4 {R:Env} (h:TB R) (x:cz) (hl:x.t.length≤1073741824):R.Pc 84 [.agg x.row] (.int .i64 (lC x)):=
 h.VG.enter 100 rfl fun X bb hfit hp=>by
  refine sh ?_
  refine cM true [] ((zb h.n100 tY x.side (by decide)).mc h.n100.Pn.hb) ?_
  repeat (intro _; first|refine eK ?_|refine eP ?_)
  generalize hq:lC x=q
  refine sh ?_
  refine cS (fun h1=> ?_) (fun h1=> ?_)
  ·rw[lC,if_pos (.inl h1)]at hq
   subst hq
   refine sh ?_
   exact rT
  ·have h2:=vn h1
   have hsq:x.side*x.side≤256∧0≤x.side*x.side:=by
    rcases h2 with h|h|h|h|h<;>rw[h]<;>decide
   refine sh ?_
   refine cS (fun h3=> ?_) (fun h3=> ?_)
   ·rw[lC,if_pos (.inr h3)]at hq
    subst hq
    refine sh ?_
    exact rT
   ·have hz:¬ (x.side ∉ tY∨(x.t.length:Int)≠x.side*x.side):=by simp[h1,h3]
    refine sh ?_
    refine gZ 100 (fun i:Nat=>i≤x.t.length∧(x.t.take i).all T3.ou=true) (fun i=>⟨[(22,.aO 3 (bF x.t)),(23,.int .i64 x.t.length),(24,.int .i64 i)],[],10⟩) (fun i=>x.t.length - i) (0) ?_ ?_
    ·exact⟨Nat.zero_le _,rfl⟩
    ·intro i hi
     dsimp only
     refine sh ?_
     refine cS (fun h4=> ?_) (fun h4=> ?_)
     ·obtain⟨y,hy⟩:∃u_,x.t[i]? =some u_:=⟨_,List.getElem?_eq_getElem (by first|omega|(simp<;>omega))⟩
      refine sh ?_
      refine ah hy ?_
      have V9:=T3.E3 y
      refine sh ?_
      refine cS (fun h5=> ?_) (fun h5=> ?_)
      ·have hb:y.ou=false:=by rw[Bool.eq_false_iff,ne_eq,V9]; omega
       rw[xg (List.mem_of_getElem? hy) hb]at hq
       subst hq
       refine sh ?_
       exact rT
      ·refine sh ?_
       refine cS (fun h6=> ?_) (fun h6=> ?_)
       ·have hb:y.ou=false:=by rw[Bool.eq_false_iff,ne_eq,V9]; omega
        rw[xg (List.mem_of_getElem? hy) hb]at hq
        subst hq
        refine sh ?_
        exact rT
       ·refine sh ?_
        refine r8 (i+1) ?_ ?_
        ·refine⟨by omega,?_⟩
         rw[sL hy,hi.2,Bool.true_and,V9]
         omega
        ·omega
     ·rw[lC,if_neg hz,if_pos]at hq
      ·subst hq
       refine sh ?_
       exact rT
      ·have:=hi.2
       rwa[List.take_of_length_le (by omega)]at this
end Go.UM
namespace Go.UM
open Go.AM
set_option maxRecDepth 4000
structure xh (t:cz):Prop where
 s:t.side ∈ tY
 l:(t.t.length:Int)=t.side*t.side
 g:t.t.all T3.ou=true
theorem H8 {t:cz} (h:lC t=0):xh t:=by
 unfold lC at h
 split at h
 ·exact absurd h (by decide)
 ·rename_i h1
  split at h
  ·rename_i h2
   simp only[not_or,Decidable.not_not]at h1
   exact⟨h1.1,h1.2,h2⟩
  ·exact absurd h (by decide)
theorem xh.iK {t:cz} (h:xh t):lC t=0:=by
 unfold lC
 rw[if_neg (by simp[h.s,h.l]),if_pos h.g]
def cz.ix (t:cz) (x y:Int):Nat:=(y % t.side*t.side+x % t.side).toNat
def cz.at (t:cz) (x y:Int):T3:=t.t.getD (t.ix x y) ⟨0,0,0⟩
theorem xh.ix {t:cz} (h:xh t) (x y:Int):0≤y % t.side∧y % t.side<t.side∧0≤x % t.side∧x % t.side<t.side∧t.side≤16∧1≤t.side∧0≤y % t.side*t.side∧y % t.side*t.side+x % t.side<t.side*t.side∧t.side*t.side≤256:=by
 have hs:=vn h.s
 have h1:1≤t.side∧t.side≤16:=by omega
 have h2:=Int.emod_nonneg y (show t.side≠0 by omega)
 have h3:=Int.emod_lt_of_pos y (show 0<t.side by omega)
 have h4:=Int.emod_nonneg x (show t.side≠0 by omega)
 have h5:=Int.emod_lt_of_pos x (show 0<t.side by omega)
 have h6:y % t.side*t.side≤(t.side - 1)*t.side:=Int.mul_le_mul_of_nonneg_right (by omega) (by omega)
 have h7:0≤y % t.side*t.side:=Int.mul_nonneg h2 (by omega)
 have h8:t.side*t.side≤16*16:=Int.mul_le_mul h1.2 h1.2 (by omega) (by decide)
 rw[Int.sub_mul]at h6
 exact⟨h2,h3,h4,h5,h1.2,h1.1,h7,by omega,by omega⟩
def avg (a b c d:T3):T3:=⟨(a.a+b.a+c.a+d.a+2) / 4,(a.b+b.b+c.b+d.b+2) / 4,(a.c+b.c+c.c+d.c+2) / 4⟩
def cz.next (t:cz) (s i:Int):T3:=avg (t.at (2* (i % s)) (2* (i / s))) (t.at (2* (i % s)+1) (2* (i / s))) (t.at (2* (i % s)) (2* (i / s)+1)) (t.at (2* (i % s)+1) (2* (i / s)+1))
def be (l:List T3):List UInt8:=l.flatMap fun x=>[u8 x.a,u8 x.b,u8 x.c]
def tZ (t:cz):List UInt8 × Int:=if lC t≠0 then ([],lC t)else (u8 t.side::be t.t,0)
theorem xi:∀l:List T3,(be l).length=3*l.length
 |[]=>rfl
 |x::r=>by
  have:=xi r
  simp only[be,List.flatMap_cons,List.length_append,List.length_cons,List.length_nil]at this ⊢
  omega
theorem ud {l:List T3} {k:Nat} {x:T3} (h:l[k]? =some x):be (l.take (k+1))=be (l.take k)++ [u8 x.a,u8 x.b,u8 x.c]:=by
 rw[aA h]; simp[be]
theorem Cf {R:Env} (h:VH R) (t:cz) (hl:t.t.length≤1073741824):R.Pc 82 [.agg t.row] (.aU [.aO 1 (bc (tZ t).1),.int .i64 (tZ t).2]):=
 h.Y8.enter 200 rfl fun X bb hfit hp=>by
  refine sh ?_
  refine aq.pure h.Jc.VG.hb (E4 h.Jc t hl) rfl ?_
  generalize hq:tZ t=q
  refine sh ?_
  refine cS (fun h1=> ?_) (fun h1=> ?_)
  ·rw[tZ,if_pos h1]at hq
   subst hq
   refine sh ?_
   exact rT
  ·have ok:=H8 h1
   rw[tZ,if_neg (by simpa using h1)]at hq
   subst hq
   have hs:=vn ok.s
   have Dd:t.t.length≤256:=by
    have:=ok.l
    rcases hs with h|h|h|h|h<;>rw[h]at this<;>omega
   refine sh ?_
   refine aN.inv 200 (fun i:Nat=>i≤t.t.length) (fun i=>⟨[(5,.bh 1 (u8 t.side::be (t.t.take i)).length),(18,.aO 3 (bF t.t)),(19,.int .i64 t.t.length),(20,.int .i64 i)],[(1,.arr (R.ty 4) 1 (bc (u8 t.side::be (t.t.take i))))],2⟩) (fun i=>t.t.length - i) (0) ?_ ⟨⟨_,hp,rfl⟩,?_,?_⟩ ?_
   ·exact Nat.zero_le _
   ·all_goals repeat' (first|exact True.intro|refine And.intro ?_ ?_|(intro _u; clear _u)|(with_reducible first|exact aw.fg|refine eM ?_ ?_|refine eF ?_ ?_ ?_|refine eN ?_|refine eL ?_ ?_ ?_|refine eA ?_ ?_|refine az.mk ⟨_,hp,rfl⟩ ?_ ?_)|refine az.mk ⟨_,hp,rfl⟩ ?_ ?_)
    all_goals try first|with_reducible rfl|omega|exact .inl (by decide)|(simp; done)|rfl
   ·all_goals repeat' (first|exact True.intro|refine And.intro ?_ ?_|(intro _u; clear _u)|(with_reducible first|exact aw.fg|refine eM ?_ ?_|refine eF ?_ ?_ ?_|refine eN ?_|refine eL ?_ ?_ ?_|refine eA ?_ ?_|refine az.mk ⟨_,hp,rfl⟩ ?_ ?_)|refine az.mk ⟨_,hp,rfl⟩ ?_ ?_)
    all_goals try first|with_reducible rfl|omega|exact .inl (by decide)|(simp; done)|rfl
    simp[bc,be,u8_in (n:=t.side) (by omega)]
   ·intro i hi
    dsimp only
    refine sh ?_
    refine cS (fun h2=> ?_) (fun h2=> ?_)
    ·obtain⟨y,hy⟩:∃u_,t.t[i]? =some u_:=⟨_,List.getElem?_eq_getElem (by first|omega|(simp<;>omega))⟩
     refine sh ?_
     refine ah hy ?_
     refine sh ?_
     refine bX ?_
     refine sh ?_
     refine bX ?_
     refine sh ?_
     refine bX ?_
     refine sh ?_
     refine nD ?_ (by have:=xi (t.t.take i); simp only[List.length_take]at this; simp; omega)
     refine sh ?_
     refine nX (i+1) ?_ ?_ ⟨_,hp,rfl⟩ ?_ ?_
     ·omega
     ·omega
     ·all_goals repeat' (first|exact True.intro|refine And.intro ?_ ?_|(intro _u; clear _u)|(with_reducible first|exact aw.fg|refine eM ?_ ?_|refine eF ?_ ?_ ?_|refine eN ?_|refine eL ?_ ?_ ?_|refine eA ?_ ?_|refine az.mk ⟨_,hp,rfl⟩ ?_ ?_)|refine az.mk ⟨_,hp,rfl⟩ ?_ ?_)
      all_goals try first|with_reducible rfl|omega|exact .inl (by decide)|(simp; done)|rfl
      rw[ud hy]; simp
     ·all_goals repeat' (first|exact True.intro|refine And.intro ?_ ?_|(intro _u; clear _u)|(with_reducible first|exact aw.fg|refine eM ?_ ?_|refine eF ?_ ?_ ?_|refine eN ?_|refine eL ?_ ?_ ?_|refine eA ?_ ?_|refine az.mk ⟨_,hp,rfl⟩ ?_ ?_)|refine az.mk ⟨_,hp,rfl⟩ ?_ ?_)
      all_goals try first|with_reducible rfl|omega|exact .inl (by decide)|(simp; done)|rfl
      rw[ud hy]; simp[bc,Ai]
    ·rw[List.take_of_length_le (by omega)]
     refine sh ?_
     exact rT
end Go.UM
namespace Go.UM
open Go.AM
set_option maxRecDepth 4000
end Go.UM
namespace Go.UM
open Go.AM
set_option maxRecDepth 4000
structure As where
 k:Int
 m:Ms
 x:cz
 mt:ej
 li:ed
def As.row (a:As):List AV:=[.int .i64 a.k,.aO 3 (bF a.m.v),.aO 2 (cW a.m.uv),.aO 3 (bF a.m.t),.int .i64 a.x.side,.aO 3 (bF a.x.t),
 .int .i64 a.mt.k,.int .i64 a.mt.c.a,.int .i64 a.mt.c.b,.int .i64 a.mt.c.c,.int .i64 a.mt.r,
 .int .i64 a.li.k,.int .i64 a.li.c.a,.int .i64 a.li.c.b,.int .i64 a.li.c.c,.int .i64 a.li.p.a,.int .i64 a.li.p.b,.int .i64 a.li.p.c,.int .i64 a.li.u.a,.int .i64 a.li.u.b,.int .i64 a.li.u.c,.int .i64 a.li.v.a,.int .i64 a.li.v.b,.int .i64 a.li.v.c]
def V' (m:ej):List UInt8:=[u8 m.k]++enc 2 m.c.a++enc 2 m.c.b++enc 2 m.c.c++enc 2 m.r
def Wa (l:ed):List UInt8:=[u8 l.k]++(enc 4 l.c.a++enc 4 l.c.b++enc 4 l.c.c)++jl l.p++jl l.u++jl l.v
def own (a:As):Int:=if a.k=1 then oq a.m else if a.k=2 then lC a.x else if a.k=3 then xd a.mt else if a.k=4 then xe a.li else 12
def kS (a:As):List UInt8:=if a.k=1 then (Cc a.m).1 else if a.k=2 then (tZ a.x).1 else if a.k=3 then V' a.mt else Wa a.li
theorem p5 {p:T3} (h:lB p=false): -4096≤p.a∧p.a≤4096∧ -4096≤p.b∧p.b≤4096∧ -4096≤p.c∧p.c≤4096:=by simpa[lB]using h
structure ed.Sl (l:ed):Prop where
 k:0≤l.k∧l.k≤2
 c:0≤l.c.a∧l.c.a≤1048576∧0≤l.c.b∧l.c.b≤1048576∧0≤l.c.c∧l.c.c≤1048576
 p: -4096≤l.p.a∧l.p.a≤4096∧ -4096≤l.p.b∧l.p.b≤4096∧ -4096≤l.p.c∧l.p.c≤4096
 u: -4096≤l.u.a∧l.u.a≤4096∧ -4096≤l.u.b∧l.u.b≤4096∧ -4096≤l.u.c∧l.u.c≤4096
 v: -4096≤l.v.a∧l.v.a≤4096∧ -4096≤l.v.b∧l.v.b≤4096∧ -4096≤l.v.c∧l.v.c≤4096
theorem E5 {l:ed} (h:xe l=0):l.Sl:=by
 unfold xe at h
 split at h
 ·cases h
 ·split at h
  ·cases h
  ·rename_i h1 h2
   simp only[not_or,Bool.not_eq_true]at h2
   exact⟨by omega,by omega,p5 h2.1,p5 h2.2.1,p5 h2.2.2⟩
theorem E6 {m:ej} (h:xd m=0):0≤m.k∧m.k≤4∧0≤m.r∧m.r≤65535∧0≤m.c.a∧m.c.a≤65535∧0≤m.c.b∧m.c.b≤65535∧0≤m.c.c∧m.c.c≤65535:=by
 unfold xd at h
 split at h
 ·cases h
 ·omega
theorem MA {R:Env} (h:Le R) (b:List UInt8) (x:Int) (hl:b.length≤1000) (hx:0≤x∧x≤65535):
  R.Mc 54 [.aO 1 (bc b),.int .i64 2,.aO 1 (aY .u64 [x])] [] (.aU [.bh 0 (b++enc 2 x).length,.int .i64 0]) [(0,.arr (R.ty 4) 1 (bc (b++enc 2 x)))] 1:=by
 have c:=Ar h b 2 [x] (by simp; omega) (by simp; omega)
 rw[vm (by decide) (by decide) (by simp; omega)]at c
 simpa using c
theorem MB {R:Env} (h:Le R) (b:List UInt8) (x y z:Int) (hl:b.length≤1000) (hx:0≤x∧x≤1048576∧0≤y∧y≤1048576∧0≤z∧z≤1048576):
  R.Mc 54 [.aO 1 (bc b),.int .i64 4,.aO 1 (aY .u64 [x,y,z])] [] (.aU [.bh 0 (b++(enc 4 x++enc 4 y++enc 4 z)).length,.int .i64 0]) [(0,.arr (R.ty 4) 1 (bc (b++(enc 4 x++enc 4 y++enc 4 z))))] 1:=by
 have c:=Ar h b 4 [x,y,z] (by simp; omega) (by simp; omega)
 rw[vm (by decide) (by decide) (by simp; omega)]at c
 simpa using c
theorem MD {R:Env} (h:Lf R) (b:List UInt8) (p:T3) (hl:b.length≤1000) (ok: -4096≤p.a∧p.a≤4096∧ -4096≤p.b∧p.b≤4096∧ -4096≤p.c∧p.c≤4096):
  R.Mc 71 [.aO 1 (bc b),.int .i64 2,.aO 1 (aY .i64 [p.a,p.b,p.c])] [] (.aU [.bh 0 (b++jl p).length,.int .i64 0]) [(0,.arr (R.ty 4) 1 (bc (b++jl p)))] 1:=by
 have c:=rL h b 2 [p.a,p.b,p.c] (by simp; omega) (by simp[aZ]; omega)
 rwa[xc ok]at c
def ej.four (m:ej):List Int:=[m.c.a,m.c.b,m.c.c,m.r]
def ed.three (l:ed):List T3:=[l.p,l.u,l.v]
@[simp] theorem Jm (m:ej):m.four.length=4:=rfl
@[simp] theorem H9 (l:ed):l.three.length=3:=rfl
theorem E7:∀l:List Int,(l.flatMap (enc 2)).length=2*l.length
 |[]=>rfl
 |x::r=>by have:=E7 r; simp at this ⊢; omega
@[simp] theorem Jn (p:T3):(jl p).length=6:=by simp[jl]
theorem E8 {R:Env} (h:Lw R) (a:As) (hl:a.x.t.length≤1073741824) (ok:own a=0):R.Pc 311 [.agg a.row] (.aO 1 (bc (kS a))):=
 h.Ra.enter 200 rfl fun X bb hfit hp=>by
  generalize hq:kS a=q
  unfold own at ok
  refine sh ?_
  refine cS (fun h1=> ?_) (fun h1=> ?_)
  ·rw[kS,if_pos h1]at hq
   subst hq
   refine sh ?_
   refine aq.pure h.n196.QQ.hb (Cd h.n196 a.m) rfl ?_
   refine sh ?_
   exact rT
  ·rw[if_neg h1]at ok
   refine sh ?_
   refine cS (fun h2=> ?_) (fun h2=> ?_)
   ·rw[kS,if_neg h1,if_pos h2]at hq
    subst hq
    refine sh ?_
    refine aq.pure h.TC.Y8.hb (Cf h.TC a.x hl) rfl ?_
    refine sh ?_
    exact rT
   ·rw[if_neg h2]at ok
    refine sh ?_
    refine cS (fun h3=> ?_) (fun h3=> ?_)
    ·rw[kS,if_neg h1,if_neg h2,if_pos h3]at hq
     subst hq
     rw[if_pos h3]at ok
     have may:=E6 ok
     have w8:((u8 a.mt.k).toNat:Int)=a.mt.k:=u8_in (by omega)
     refine sh ?_
     refine aN.inv 100 (fun i:Nat=>i≤4) (fun i=>⟨[(8,.bh 2 ([u8 a.mt.k]++(a.mt.four.take i).flatMap (enc 2)).length),(55,.aO 1 (aY .i64 a.mt.four)),(56,.int .i64 4),(57,.int .i64 i)],[(2,.arr (R.ty 4) 1 (bc ([u8 a.mt.k]++(a.mt.four.take i).flatMap (enc 2))))],3⟩) (fun i=>4 - i) (0) ?_ ⟨⟨_,hp,rfl⟩,?_,?_⟩ ?_
     ·exact Nat.zero_le _
     ·all_goals repeat' (first|exact True.intro|refine And.intro ?_ ?_|(intro _u; clear _u)|(with_reducible first|exact aw.fg|refine eM ?_ ?_|refine eF ?_ ?_ ?_|refine eN ?_|refine eL ?_ ?_ ?_|refine eA ?_ ?_|refine az.mk ⟨_,hp,rfl⟩ ?_ ?_)|refine az.mk ⟨_,hp,rfl⟩ ?_ ?_)
      all_goals try first|with_reducible rfl|omega|exact .inl (by decide)|(simp; done)|rfl
     ·all_goals repeat' (first|exact True.intro|refine And.intro ?_ ?_|(intro _u; clear _u)|(with_reducible first|exact aw.fg|refine eM ?_ ?_|refine eF ?_ ?_ ?_|refine eN ?_|refine eL ?_ ?_ ?_|refine eA ?_ ?_|refine az.mk ⟨_,hp,rfl⟩ ?_ ?_)|refine az.mk ⟨_,hp,rfl⟩ ?_ ?_)
      all_goals try first|with_reducible rfl|omega|exact .inl (by decide)|(simp; done)|rfl
      simp[bc,w8]
     ·intro i hi
      dsimp only
      refine sh ?_
      refine cS (fun h4=> ?_) (fun h4=> ?_)
      ·obtain⟨x,hx⟩:∃u_,a.mt.four[i]? =some u_:=⟨_,List.getElem?_eq_getElem (by first|omega|(simp<;>omega))⟩
       refine sh ?_
       refine ah hx ?_
       have ch:0≤x∧x≤65535:=by
        have:=List.mem_of_getElem? hx
        simp only[ej.four,List.mem_cons,List.not_mem_nil,or_false]at this
        rcases this with e|e|e|e<;>subst e<;>omega
       refine sh ?_
       refine cM true [] (MA h.Gc ([u8 a.mt.k]++(a.mt.four.take i).flatMap (enc 2)) x (by simp only[List.length_append,E7,List.length_take]; simp; omega) ch) ?_
       repeat (intro _; first|refine eK ?_|refine eP ?_)
       refine sh ?_
       refine r9 [0,1,4] (i+1) ?_ ?_ ?_
       ·omega
       ·omega
       ·all_goals repeat' (first|exact True.intro|refine And.intro ?_ ?_|(intro _u; clear _u)|(with_reducible first|exact aw.fg|refine eM ?_ ?_|refine eF ?_ ?_ ?_|refine eN ?_|refine eL ?_ ?_ ?_|refine eA ?_ ?_|refine az.mk ⟨_,hp,rfl⟩ ?_ ?_)|refine az.mk ⟨_,hp,rfl⟩ ?_ ?_)
        all_goals try first|with_reducible rfl|omega|exact .inl (by decide)|(simp; done)|rfl
        rw[dK hx]; simp
        rw[dK hx]; simp
      ·rw[show a.mt.four.take i=a.mt.four from List.take_of_length_le (by simp; omega)]
       refine sh ?_
       exact rT
    ·rw[kS,if_neg h1,if_neg h2,if_neg h3]at hq
     subst hq
     have h4:a.k=4:=by
      by_cases h4:a.k=4
      ·exact h4
      ·rw[if_neg h3,if_neg h4]at ok; cases ok
     rw[if_neg h3,if_pos h4]at ok
     have may:=E5 ok
     have mk:=may.k
     have mc:=may.c
     have w8:((u8 a.li.k).toNat:Int)=a.li.k:=u8_in (by omega)
     have c1:=MB h.Gc [u8 a.li.k] a.li.c.a a.li.c.b a.li.c.c (by simp) mc
     rw[show bc [u8 a.li.k]=[[.int .u8 a.li.k]] by simp[bc,w8]]at c1
     refine sh ?_
     refine cM true [] (c1) ?_
     repeat (intro _; first|refine eK ?_|refine eP ?_)
     refine sh ?_
     refine gZ 100 (fun i:Nat=>i≤3) (fun i=>⟨[(12,.bh 4 ([u8 a.li.k]++(enc 4 a.li.c.a++enc 4 a.li.c.b++enc 4 a.li.c.c)++(a.li.three.take i).flatMap jl).length),(100,.aO 3 (bF a.li.three)),(101,.int .i64 3),(102,.int .i64 i)],[(4,.arr (R.ty 4) 1 (bc ([u8 a.li.k]++(enc 4 a.li.c.a++enc 4 a.li.c.b++enc 4 a.li.c.c)++(a.li.three.take i).flatMap jl)))],5⟩) (fun i=>3 - i) (0) ?_ ?_
     ·exact Nat.zero_le _
     ·intro i hi
      dsimp only
      refine sh ?_
      refine cS (fun h5=> ?_) (fun h5=> ?_)
      ·obtain⟨x,hx⟩:∃u_,a.li.three[i]? =some u_:=⟨_,List.getElem?_eq_getElem (by first|omega|(simp<;>omega))⟩
       refine sh ?_
       refine ah hx ?_
       have ch: -4096≤x.a∧x.a≤4096∧ -4096≤x.b∧x.b≤4096∧ -4096≤x.c∧x.c≤4096:=by
        have:=List.mem_of_getElem? hx
        simp only[ed.three,List.mem_cons,List.not_mem_nil,or_false]at this
        rcases this with e|e|e<;>subst e
        ·exact may.p
        ·exact may.u
        ·exact may.v
       refine sh ?_
       refine cM true [] (MD h.Gd ([u8 a.li.k]++(enc 4 a.li.c.a++enc 4 a.li.c.b++enc 4 a.li.c.c)++(a.li.three.take i).flatMap jl) x (by simp only[List.length_append,EY,List.length_take]; simp; omega) ch) ?_
       repeat (intro _; first|refine eK ?_|refine eP ?_)
       refine sh ?_
       refine r9 [0,1,2,3,7] (i+1) ?_ ?_ ?_
       ·omega
       ·omega
       ·all_goals repeat' (first|exact True.intro|refine And.intro ?_ ?_|(intro _u; clear _u)|(with_reducible first|exact aw.fg|refine eM ?_ ?_|refine eF ?_ ?_ ?_|refine eN ?_|refine eL ?_ ?_ ?_|refine eA ?_ ?_|refine az.mk ⟨_,hp,rfl⟩ ?_ ?_)|refine az.mk ⟨_,hp,rfl⟩ ?_ ?_)
        all_goals try first|with_reducible rfl|omega|exact .inl (by decide)|(simp; done)|rfl
        rw[dK hx]; simp
        rw[dK hx]; simp
      ·rw[show a.li.three.take i=a.li.three from List.take_of_length_le (by simp; omega)]
       refine sh ?_
       exact rT
end Go.UM
namespace Go.UM
open Go.AM
structure Mf where
 (id kind label m0 m1 m2 m3 m4 m5 m6 m7 first last size chunks:Int)
def Mf.row (m:Mf):List AV:=[.int .u64 m.id,.int .i64 m.kind,.int .u32 m.label,.int .u8 m.m0,.int .u8 m.m1,.int .u8 m.m2,.int .u8 m.m3,.int .u8 m.m4,.int .u8 m.m5,.int .u8 m.m6,.int .u8 m.m7,
 .int .u32 m.first,.int .u32 m.last,.int .i64 m.size,.int .i64 m.chunks]
def Mf.iH (m:Mf):Nat→Int
 |0=>m.m0|1=>m.m1|2=>m.m2|3=>m.m3|4=>m.m4|5=>m.m5|6=>m.m6|7=>m.m7|_=>0
structure Mf.Ok (m:Mf):Prop where
 id:aZ .u64 m.id
 kind:aZ .i64 m.kind
 label:aZ .u32 m.label
 iH:∀i,0≤m.iH i∧m.iH i≤255
 first:aZ .u32 m.first
 last:aZ .u32 m.last
 size:aZ .i64 m.size
 chunks:aZ .i64 m.chunks
end Go.UM
namespace Go.UM
open Go.AM
set_option maxRecDepth 4000
structure Rw where
 h:Int
 f:Mf
 a:As
def Rw.row (r:Rw):List AV:=[.int .i64 r.h,.int .u64 r.f.id,.int .i64 r.f.kind,.int .u32 r.f.label,.int .u8 r.f.m0,.int .u8 r.f.m1,.int .u8 r.f.m2,.int .u8 r.f.m3,.int .u8 r.f.m4,.int .u8 r.f.m5,.int .u8 r.f.m6,.int .u8 r.f.m7,
 .int .u32 r.f.first,.int .u32 r.f.last,.int .i64 r.f.size,.int .i64 r.f.chunks,.int .i64 r.a.k,.aO 3 (bF r.a.m.v),.aO 2 (cW r.a.m.uv),.aO 3 (bF r.a.m.t),.int .i64 r.a.x.side,.aO 3 (bF r.a.x.t),
 .int .i64 r.a.mt.k,.int .i64 r.a.mt.c.a,.int .i64 r.a.mt.c.b,.int .i64 r.a.mt.c.c,.int .i64 r.a.mt.r,
 .int .i64 r.a.li.k,.int .i64 r.a.li.c.a,.int .i64 r.a.li.c.b,.int .i64 r.a.li.c.c,.int .i64 r.a.li.p.a,.int .i64 r.a.li.p.b,.int .i64 r.a.li.p.c,.int .i64 r.a.li.u.a,.int .i64 r.a.li.u.b,.int .i64 r.a.li.u.c,.int .i64 r.a.li.v.a,.int .i64 r.a.li.v.b,.int .i64 r.a.li.v.c]
def vo (l:List Rw):List (List AV):=l.map Rw.row
@[simp] theorem mn (l:List Rw):(vo l).length=l.length:=by simp[vo]
@[simp] theorem ME (a b:List Rw):vo (a++b)=vo a++vo b:=by simp[vo]
@[simp] theorem TP (l:List Rw):lR (vo l):=by simp[vo,Rw.row]
instance {l:List Rw}:iF (vo l) l.length:=⟨mn l⟩
end Go.UM
namespace Go.UM
open Go.AM
set_option maxRecDepth 4000
deriving instance DecidableEq for T3
deriving instance DecidableEq for ej
deriving instance DecidableEq for ed
theorem T3.eq_iff {x y:T3}:(x.a==y.a&&(x.b==y.b&&x.c==y.c))=true↔x=y:=by
 cases x; cases y; simp
theorem T3.ne_iff {x y:T3}:(x.a==y.a&&(x.b==y.b&&x.c==y.c))=false↔x≠y:=by
 rw[←Bool.not_eq_true,T3.eq_iff]
theorem P2.eq_iff {x y:Int × Int}:(x.1==y.1&&x.2==y.2)=true↔x=y:=by
 cases x; cases y; simp
theorem P2.ne_iff {x y:Int × Int}:(x.1==y.1&&x.2==y.2)=false↔x≠y:=by
 rw[←Bool.not_eq_true,P2.eq_iff]
theorem Av {α:Type} {l l':List α} {i:Nat} {x y:α} (h:l[i]? =some x) (h':l'[i]? =some y) (hn:x≠y):l≠l':=by
 intro e; subst e; rw[h]at h'; exact hn (Option.some.inj h')
theorem gS {α:Type} {l l':List α} {i:Nat} {x:α} (h:l[i]? =some x) (h':l'[i]? =some x) (e:l.take i=l'.take i):l.take (i+1)=l'.take (i+1):=by
 rw[aA h,aA h',e]
theorem j7 {α:Type} {l l':List α} {i:Nat} (h:l.take i=l'.take i) (hi:l.length≤i) (e:l.length=l'.length):l=l':=by
 rwa[List.take_of_length_le hi,List.take_of_length_le (by omega)]at h
theorem E9 {R:Env} (h:Lp R) (l l':List T3) (hl:l.length≤1073741824):R.Pc 315 [.aO 3 (bF l),.aO 3 (bF l')] (.bool (decide (l=l'))):=
 h.QZ.enter 100 rfl fun X bb hfit hp=>by
  refine sh ?_
  refine cS (fun h1=> ?_) (fun h1=> ?_)
  ·refine sh ?_
   refine rT ?_
   all_goals repeat' (first|exact True.intro|refine And.intro ?_ ?_|(intro _u; clear _u)|(with_reducible first|exact aw.fg|refine eM ?_ ?_|refine eF ?_ ?_ ?_|refine eN ?_|refine eL ?_ ?_ ?_|refine eA ?_ ?_|refine az.mk ⟨_,hp,rfl⟩ ?_ ?_)|refine az.mk ⟨_,hp,rfl⟩ ?_ ?_)
   all_goals try first|with_reducible rfl|omega|exact .inl (by decide)|(simp; done)|rfl
   refine (decide_eq_false ?_).symm
   exact fun e=>h1 (by simp[e])
  ·refine sh ?_
   refine gZ 100 (fun i:Nat=>i≤l.length∧l.take i=l'.take i) (fun i=>⟨[(0,.aO 3 (bF l)),(1,.aO 3 (bF l')),(12,.int .i64 l.length),(13,.int .i64 i)],[],0⟩) (fun i=>l.length - i) (0) ?_ ?_
   ·exact⟨Nat.zero_le _,rfl⟩
   ·intro i hi
    dsimp only
    refine sh ?_
    refine cS (fun h2=> ?_) (fun h2=> ?_)
    ·obtain⟨x,hx⟩:∃u,l[i]? =some u:=⟨_,List.getElem?_eq_getElem (by omega)⟩
     obtain⟨y,hy⟩:∃u,l'[i]? =some u:=⟨_,List.getElem?_eq_getElem (by omega)⟩
     refine sh ?_
     refine ah hx ?_
     refine sh ?_
     refine ah hy ?_
     refine sh ?_
     refine cS (fun h3=> ?_) (fun h3=> ?_)
     ·refine sh ?_
      refine rT ?_
      all_goals repeat' (first|exact True.intro|refine And.intro ?_ ?_|(intro _u; clear _u)|(with_reducible first|exact aw.fg|refine eM ?_ ?_|refine eF ?_ ?_ ?_|refine eN ?_|refine eL ?_ ?_ ?_|refine eA ?_ ?_|refine az.mk ⟨_,hp,rfl⟩ ?_ ?_)|refine az.mk ⟨_,hp,rfl⟩ ?_ ?_)
      all_goals try first|with_reducible rfl|omega|exact .inl (by decide)|(simp; done)|rfl
      refine (decide_eq_false ?_).symm
      exact Av hx hy (T3.ne_iff.1 h3)
     ·have e:=T3.eq_iff.1 h3
      subst e
      refine sh ?_
      refine r8 (i+1) ?_ ?_
      ·exact⟨by omega,gS hx hy hi.2⟩
      ·omega
    ·refine sh ?_
     refine rT ?_
     all_goals repeat' (first|exact True.intro|refine And.intro ?_ ?_|(intro _u; clear _u)|(with_reducible first|exact aw.fg|refine eM ?_ ?_|refine eF ?_ ?_ ?_|refine eN ?_|refine eL ?_ ?_ ?_|refine eA ?_ ?_|refine az.mk ⟨_,hp,rfl⟩ ?_ ?_)|refine az.mk ⟨_,hp,rfl⟩ ?_ ?_)
     all_goals try first|with_reducible rfl|omega|exact .inl (by decide)|(simp; done)|rfl
     refine (decide_eq_true ?_).symm
     exact j7 hi.2 (by omega) (by omega)
theorem xj {R:Env} (h:Lr R) (l l':List T3) (hl:l.length≤1073741824):R.Pc 317 [.aO 3 (bF l),.aO 3 (bF l')] (.bool (decide (l=l'))):=
 h.Ls.enter 100 rfl fun X bb hfit hp=>by
  refine sh ?_
  refine cS (fun h1=> ?_) (fun h1=> ?_)
  ·refine sh ?_
   refine rT ?_
   all_goals repeat' (first|exact True.intro|refine And.intro ?_ ?_|(intro _u; clear _u)|(with_reducible first|exact aw.fg|refine eM ?_ ?_|refine eF ?_ ?_ ?_|refine eN ?_|refine eL ?_ ?_ ?_|refine eA ?_ ?_|refine az.mk ⟨_,hp,rfl⟩ ?_ ?_)|refine az.mk ⟨_,hp,rfl⟩ ?_ ?_)
   all_goals try first|with_reducible rfl|omega|exact .inl (by decide)|(simp; done)|rfl
   refine (decide_eq_false ?_).symm
   exact fun e=>h1 (by simp[e])
  ·refine sh ?_
   refine gZ 100 (fun i:Nat=>i≤l.length∧l.take i=l'.take i) (fun i=>⟨[(0,.aO 3 (bF l)),(1,.aO 3 (bF l')),(12,.int .i64 l.length),(13,.int .i64 i)],[],0⟩) (fun i=>l.length - i) (0) ?_ ?_
   ·exact⟨Nat.zero_le _,rfl⟩
   ·intro i hi
    dsimp only
    refine sh ?_
    refine cS (fun h2=> ?_) (fun h2=> ?_)
    ·obtain⟨x,hx⟩:∃u,l[i]? =some u:=⟨_,List.getElem?_eq_getElem (by omega)⟩
     obtain⟨y,hy⟩:∃u,l'[i]? =some u:=⟨_,List.getElem?_eq_getElem (by omega)⟩
     refine sh ?_
     refine ah hx ?_
     refine sh ?_
     refine ah hy ?_
     refine sh ?_
     refine cS (fun h3=> ?_) (fun h3=> ?_)
     ·refine sh ?_
      refine rT ?_
      all_goals repeat' (first|exact True.intro|refine And.intro ?_ ?_|(intro _u; clear _u)|(with_reducible first|exact aw.fg|refine eM ?_ ?_|refine eF ?_ ?_ ?_|refine eN ?_|refine eL ?_ ?_ ?_|refine eA ?_ ?_|refine az.mk ⟨_,hp,rfl⟩ ?_ ?_)|refine az.mk ⟨_,hp,rfl⟩ ?_ ?_)
      all_goals try first|with_reducible rfl|omega|exact .inl (by decide)|(simp; done)|rfl
      refine (decide_eq_false ?_).symm
      exact Av hx hy (T3.ne_iff.1 h3)
     ·have e:=T3.eq_iff.1 h3
      subst e
      refine sh ?_
      refine r8 (i+1) ?_ ?_
      ·exact⟨by omega,gS hx hy hi.2⟩
      ·omega
    ·refine sh ?_
     refine rT ?_
     all_goals repeat' (first|exact True.intro|refine And.intro ?_ ?_|(intro _u; clear _u)|(with_reducible first|exact aw.fg|refine eM ?_ ?_|refine eF ?_ ?_ ?_|refine eN ?_|refine eL ?_ ?_ ?_|refine eA ?_ ?_|refine az.mk ⟨_,hp,rfl⟩ ?_ ?_)|refine az.mk ⟨_,hp,rfl⟩ ?_ ?_)
     all_goals try first|with_reducible rfl|omega|exact .inl (by decide)|(simp; done)|rfl
     refine (decide_eq_true ?_).symm
     exact j7 hi.2 (by omega) (by omega)
theorem Fa {R:Env} (h:Lq R) (l l':List (Int × Int)) (hl:l.length≤1073741824):R.Pc 316 [.aO 2 (cW l),.aO 2 (cW l')] (.bool (decide (l=l'))):=
 h.Q1.enter 100 rfl fun X bb hfit hp=>by
  refine sh ?_
  refine cS (fun h1=> ?_) (fun h1=> ?_)
  ·refine sh ?_
   refine rT ?_
   all_goals repeat' (first|exact True.intro|refine And.intro ?_ ?_|(intro _u; clear _u)|(with_reducible first|exact aw.fg|refine eM ?_ ?_|refine eF ?_ ?_ ?_|refine eN ?_|refine eL ?_ ?_ ?_|refine eA ?_ ?_|refine az.mk ⟨_,hp,rfl⟩ ?_ ?_)|refine az.mk ⟨_,hp,rfl⟩ ?_ ?_)
   all_goals try first|with_reducible rfl|omega|exact .inl (by decide)|(simp; done)|rfl
   refine (decide_eq_false ?_).symm
   exact fun e=>h1 (by simp[e])
  ·refine sh ?_
   refine gZ 100 (fun i:Nat=>i≤l.length∧l.take i=l'.take i) (fun i=>⟨[(0,.aO 2 (cW l)),(1,.aO 2 (cW l')),(12,.int .i64 l.length),(13,.int .i64 i)],[],0⟩) (fun i=>l.length - i) (0) ?_ ?_
   ·exact⟨Nat.zero_le _,rfl⟩
   ·intro i hi
    dsimp only
    refine sh ?_
    refine cS (fun h2=> ?_) (fun h2=> ?_)
    ·obtain⟨x,hx⟩:∃u,l[i]? =some u:=⟨_,List.getElem?_eq_getElem (by omega)⟩
     obtain⟨y,hy⟩:∃u,l'[i]? =some u:=⟨_,List.getElem?_eq_getElem (by omega)⟩
     refine sh ?_
     refine ah hx ?_
     refine sh ?_
     refine ah hy ?_
     refine sh ?_
     refine cS (fun h3=> ?_) (fun h3=> ?_)
     ·refine sh ?_
      refine rT ?_
      all_goals repeat' (first|exact True.intro|refine And.intro ?_ ?_|(intro _u; clear _u)|(with_reducible first|exact aw.fg|refine eM ?_ ?_|refine eF ?_ ?_ ?_|refine eN ?_|refine eL ?_ ?_ ?_|refine eA ?_ ?_|refine az.mk ⟨_,hp,rfl⟩ ?_ ?_)|refine az.mk ⟨_,hp,rfl⟩ ?_ ?_)
      all_goals try first|with_reducible rfl|omega|exact .inl (by decide)|(simp; done)|rfl
      refine (decide_eq_false ?_).symm
      exact Av hx hy (P2.ne_iff.1 h3)
     ·have e:=P2.eq_iff.1 h3
      subst e
      refine sh ?_
      refine r8 (i+1) ?_ ?_
      ·exact⟨by omega,gS hx hy hi.2⟩
      ·omega
    ·refine sh ?_
     refine rT ?_
     all_goals repeat' (first|exact True.intro|refine And.intro ?_ ?_|(intro _u; clear _u)|(with_reducible first|exact aw.fg|refine eM ?_ ?_|refine eF ?_ ?_ ?_|refine eN ?_|refine eL ?_ ?_ ?_|refine eA ?_ ?_|refine az.mk ⟨_,hp,rfl⟩ ?_ ?_)|refine az.mk ⟨_,hp,rfl⟩ ?_ ?_)
     all_goals try first|with_reducible rfl|omega|exact .inl (by decide)|(simp; done)|rfl
     refine (decide_eq_true ?_).symm
     exact j7 hi.2 (by omega) (by omega)
theorem ej.eq_iff {x y:ej}:(x.k==y.k&&(x.c.a==y.c.a&&(x.c.b==y.c.b&&(x.c.c==y.c.c&&x.r==y.r))))=true↔x=y:=by
 obtain⟨_,⟨_,_,_⟩,_⟩:=x; obtain⟨_,⟨_,_,_⟩,_⟩:=y; simp[and_assoc]
theorem ej.ne_iff {x y:ej}:(x.k==y.k&&(x.c.a==y.c.a&&(x.c.b==y.c.b&&(x.c.c==y.c.c&&x.r==y.r))))=false↔x≠y:=by
 rw[←Bool.not_eq_true,ej.eq_iff]
theorem ed.eq_iff {x y:ed}:(x.k==y.k&&(x.c.a==y.c.a&&(x.c.b==y.c.b&&(x.c.c==y.c.c&&(x.p.a==y.p.a&&(x.p.b==y.p.b&&(x.p.c==y.p.c&&(x.u.a==y.u.a&&(x.u.b==y.u.b&&(x.u.c==y.u.c&&(x.v.a==y.v.a&&(x.v.b==y.v.b&&x.v.c==y.v.c))))))))))))=true↔x=y:=by
 obtain⟨_,⟨_,_,_⟩,⟨_,_,_⟩,⟨_,_,_⟩,⟨_,_,_⟩⟩:=x; obtain⟨_,⟨_,_,_⟩,⟨_,_,_⟩,⟨_,_,_⟩,⟨_,_,_⟩⟩:=y; simp[and_assoc]
theorem ed.ne_iff {x y:ed}:(x.k==y.k&&(x.c.a==y.c.a&&(x.c.b==y.c.b&&(x.c.c==y.c.c&&(x.p.a==y.p.a&&(x.p.b==y.p.b&&(x.p.c==y.p.c&&(x.u.a==y.u.a&&(x.u.b==y.u.b&&(x.u.c==y.u.c&&(x.v.a==y.v.a&&(x.v.b==y.v.b&&x.v.c==y.v.c))))))))))))=false↔x≠y:=by
 rw[←Bool.not_eq_true,ed.eq_iff]
structure As.H' (a:As):Prop where
 v:a.m.v.length≤1000
 uv:a.m.uv.length≤1000
 t:a.m.t.length≤1000
 x:a.x.t.length≤1000
def xk (a b:As):Bool:=decide (a.k=b.k∧a.mt=b.mt∧a.li=b.li∧a.x.side=b.x.side∧a.m.v=b.m.v∧a.m.uv=b.m.uv∧a.m.t=b.m.t∧a.x.t=b.x.t)
theorem MF {R:Env} (h:Lt R) (a b:As) (f:a.H'):R.Pc 298 [.agg a.row,.agg b.row] (.bool (xk a b)):=
 h.Q4.enter 100 rfl fun X bb hfit hp=>by
  refine sh ?_
  refine cS (fun h1=> ?_) (fun h1=> ?_)
  ·refine sh ?_
   refine rT ?_
   all_goals repeat' (first|exact True.intro|refine And.intro ?_ ?_|(intro _u; clear _u)|(with_reducible first|exact aw.fg|refine eM ?_ ?_|refine eF ?_ ?_ ?_|refine eN ?_|refine eL ?_ ?_ ?_|refine eA ?_ ?_|refine az.mk ⟨_,hp,rfl⟩ ?_ ?_)|refine az.mk ⟨_,hp,rfl⟩ ?_ ?_)
   all_goals try first|with_reducible rfl|omega|exact .inl (by decide)|(simp; done)|rfl
   exact (decide_eq_false fun e=>h1 e.1).symm
  ·refine sh ?_
   refine cS (fun h2=> ?_) (fun h2=> ?_)
   ·refine sh ?_
    refine rT ?_
    all_goals repeat' (first|exact True.intro|refine And.intro ?_ ?_|(intro _u; clear _u)|(with_reducible first|exact aw.fg|refine eM ?_ ?_|refine eF ?_ ?_ ?_|refine eN ?_|refine eL ?_ ?_ ?_|refine eA ?_ ?_|refine az.mk ⟨_,hp,rfl⟩ ?_ ?_)|refine az.mk ⟨_,hp,rfl⟩ ?_ ?_)
    all_goals try first|with_reducible rfl|omega|exact .inl (by decide)|(simp; done)|rfl
    exact (decide_eq_false fun e=>ej.ne_iff.1 h2 e.2.1).symm
   ·refine sh ?_
    refine cS (fun h3=> ?_) (fun h3=> ?_)
    ·refine sh ?_
     refine rT ?_
     all_goals repeat' (first|exact True.intro|refine And.intro ?_ ?_|(intro _u; clear _u)|(with_reducible first|exact aw.fg|refine eM ?_ ?_|refine eF ?_ ?_ ?_|refine eN ?_|refine eL ?_ ?_ ?_|refine eA ?_ ?_|refine az.mk ⟨_,hp,rfl⟩ ?_ ?_)|refine az.mk ⟨_,hp,rfl⟩ ?_ ?_)
     all_goals try first|with_reducible rfl|omega|exact .inl (by decide)|(simp; done)|rfl
     exact (decide_eq_false fun e=>ed.ne_iff.1 h3 e.2.2.1).symm
    ·refine sh ?_
     refine cS (fun h4=> ?_) (fun h4=> ?_)
     ·refine sh ?_
      refine rT ?_
      all_goals repeat' (first|exact True.intro|refine And.intro ?_ ?_|(intro _u; clear _u)|(with_reducible first|exact aw.fg|refine eM ?_ ?_|refine eF ?_ ?_ ?_|refine eN ?_|refine eL ?_ ?_ ?_|refine eA ?_ ?_|refine az.mk ⟨_,hp,rfl⟩ ?_ ?_)|refine az.mk ⟨_,hp,rfl⟩ ?_ ?_)
      all_goals try first|with_reducible rfl|omega|exact .inl (by decide)|(simp; done)|rfl
      exact (decide_eq_false fun e=>h4 e.2.2.2.1).symm
     ·refine sh ?_
      refine aq.pure h.n315.QZ.hb (E9 h.n315 a.m.v b.m.v (by have:=f.v; omega)) rfl ?_
      refine sh ?_
      refine cS (fun h5=> ?_) (fun h5=> ?_)
      ·refine sh ?_
       refine aq.pure h.n316.Q1.hb (Fa h.n316 a.m.uv b.m.uv (by have:=f.uv; omega)) rfl ?_
       refine sh ?_
       refine cS (fun h6=> ?_) (fun h6=> ?_)
       ·refine sh ?_
        refine aq.pure h.n317.Ls.hb (xj h.n317 a.m.t b.m.t (by have:=f.t; omega)) rfl ?_
        refine sh ?_
        refine cS (fun h7=> ?_) (fun h7=> ?_)
        ·refine sh ?_
         refine aq.pure h.n317.Ls.hb (xj h.n317 a.x.t b.x.t (by have:=f.x; omega)) rfl ?_
         refine sh ?_
         refine rT ?_
         all_goals repeat' (first|exact True.intro|refine And.intro ?_ ?_|(intro _u; clear _u)|(with_reducible first|exact aw.fg|refine eM ?_ ?_|refine eF ?_ ?_ ?_|refine eN ?_|refine eL ?_ ?_ ?_|refine eA ?_ ?_|refine az.mk ⟨_,hp,rfl⟩ ?_ ?_)|refine az.mk ⟨_,hp,rfl⟩ ?_ ?_)
         all_goals try first|with_reducible rfl|omega|exact .inl (by decide)|(simp; done)|rfl
         simp[xk,h1,ej.eq_iff.1 h2,ed.eq_iff.1 h3,h4,h5,h6,h7]
        ·refine sh ?_
         refine rT ?_
         all_goals repeat' (first|exact True.intro|refine And.intro ?_ ?_|(intro _u; clear _u)|(with_reducible first|exact aw.fg|refine eM ?_ ?_|refine eF ?_ ?_ ?_|refine eN ?_|refine eL ?_ ?_ ?_|refine eA ?_ ?_|refine az.mk ⟨_,hp,rfl⟩ ?_ ?_)|refine az.mk ⟨_,hp,rfl⟩ ?_ ?_)
         all_goals try first|with_reducible rfl|omega|exact .inl (by decide)|(simp; done)|rfl
         exact (decide_eq_false fun e=>h7 e.2.2.2.2.2.2.1).symm
       ·refine sh ?_
        refine rT ?_
        all_goals repeat' (first|exact True.intro|refine And.intro ?_ ?_|(intro _u; clear _u)|(with_reducible first|exact aw.fg|refine eM ?_ ?_|refine eF ?_ ?_ ?_|refine eN ?_|refine eL ?_ ?_ ?_|refine eA ?_ ?_|refine az.mk ⟨_,hp,rfl⟩ ?_ ?_)|refine az.mk ⟨_,hp,rfl⟩ ?_ ?_)
        all_goals try first|with_reducible rfl|omega|exact .inl (by decide)|(simp; done)|rfl
        exact (decide_eq_false fun e=>h6 e.2.2.2.2.2.1).symm
      ·refine sh ?_
       refine rT ?_
       all_goals repeat' (first|exact True.intro|refine And.intro ?_ ?_|(intro _u; clear _u)|(with_reducible first|exact aw.fg|refine eM ?_ ?_|refine eF ?_ ?_ ?_|refine eN ?_|refine eL ?_ ?_ ?_|refine eA ?_ ?_|refine az.mk ⟨_,hp,rfl⟩ ?_ ?_)|refine az.mk ⟨_,hp,rfl⟩ ?_ ?_)
       all_goals try first|with_reducible rfl|omega|exact .inl (by decide)|(simp; done)|rfl
       exact (decide_eq_false fun e=>h5 e.2.2.2.2.1).symm
theorem Cg {R:Env} (h:V3 R) (t u:cz) (hl:t.t.length≤1000):R.Pc 89 [.agg t.row,.agg u.row] (.bool (decide (t.side=u.side∧t.t=u.t))):=
 h.Zo.enter 200 rfl fun X bb hfit hp=>by
  refine sh ?_
  refine cS (fun h1=> ?_) (fun h1=> ?_)
  ·refine sh ?_
   refine rT ?_
   all_goals repeat' (first|exact True.intro|refine And.intro ?_ ?_|(intro _u; clear _u)|(with_reducible first|exact aw.fg|refine eM ?_ ?_|refine eF ?_ ?_ ?_|refine eN ?_|refine eL ?_ ?_ ?_|refine eA ?_ ?_|refine az.mk ⟨_,hp,rfl⟩ ?_ ?_)|refine az.mk ⟨_,hp,rfl⟩ ?_ ?_)
   all_goals try first|with_reducible rfl|omega|exact .inl (by decide)|(simp; done)|rfl
   exact (decide_eq_false fun e=>h1 e.1).symm
  ·refine sh ?_
   refine cS (fun h2=> ?_) (fun h2=> ?_)
   ·refine sh ?_
    refine rT ?_
    all_goals repeat' (first|exact True.intro|refine And.intro ?_ ?_|(intro _u; clear _u)|(with_reducible first|exact aw.fg|refine eM ?_ ?_|refine eF ?_ ?_ ?_|refine eN ?_|refine eL ?_ ?_ ?_|refine eA ?_ ?_|refine az.mk ⟨_,hp,rfl⟩ ?_ ?_)|refine az.mk ⟨_,hp,rfl⟩ ?_ ?_)
    all_goals try first|with_reducible rfl|omega|exact .inl (by decide)|(simp; done)|rfl
    exact (decide_eq_false fun e=>h2 (by rw[e.2])).symm
   ·refine sh ?_
    refine gZ 100 (fun i:Nat=>i≤t.t.length∧t.t.take i=u.t.take i) (fun i=>⟨[(2,.loc 0 1 0 0),(3,.loc 1 1 0 0),(5,.int .i64 i)],[(0,.var (R.ty 12) t.row),(1,.var (R.ty 12) u.row)],2⟩) (fun i=>t.t.length - i) (0) ?_ ?_
    ·exact⟨Nat.zero_le _,rfl⟩
    ·intro i hi
     dsimp only
     refine sh ?_
     refine cS (fun g1=> ?_) (fun g1=> ?_)
     ·obtain⟨x,hx⟩:∃v,t.t[i]? =some v:=⟨_,List.getElem?_eq_getElem (by omega)⟩
      obtain⟨y,hy⟩:∃v,u.t[i]? =some v:=⟨_,List.getElem?_eq_getElem (by omega)⟩
      refine sh ?_
      refine ah hx ?_
      refine sh ?_
      refine ah hy ?_
      refine sh ?_
      refine cS (fun g2=> ?_) (fun g2=> ?_)
      ·refine sh ?_
       refine rT ?_
       all_goals repeat' (first|exact True.intro|refine And.intro ?_ ?_|(intro _u; clear _u)|(with_reducible first|exact aw.fg|refine eM ?_ ?_|refine eF ?_ ?_ ?_|refine eN ?_|refine eL ?_ ?_ ?_|refine eA ?_ ?_|refine az.mk ⟨_,hp,rfl⟩ ?_ ?_)|refine az.mk ⟨_,hp,rfl⟩ ?_ ?_)
       all_goals try first|with_reducible rfl|omega|exact .inl (by decide)|(simp; done)|rfl
       exact (decide_eq_false fun e=>Av hx hy (T3.ne_iff.1 g2) e.2).symm
      ·have e:=T3.eq_iff.1 g2
       subst e
       refine sh ?_
       refine r8 (i+1) ?_ ?_
       ·exact⟨by omega,gS hx hy hi.2⟩
       ·omega
     ·have et:=j7 hi.2 (by omega) (by omega)
      refine sh ?_
      refine rT ?_
      all_goals repeat' (first|exact True.intro|refine And.intro ?_ ?_|(intro _u; clear _u)|(with_reducible first|exact aw.fg|refine eM ?_ ?_|refine eF ?_ ?_ ?_|refine eN ?_|refine eL ?_ ?_ ?_|refine eA ?_ ?_|refine az.mk ⟨_,hp,rfl⟩ ?_ ?_)|refine az.mk ⟨_,hp,rfl⟩ ?_ ?_)
      all_goals try first|with_reducible rfl|omega|exact .inl (by decide)|(simp; done)|rfl
      exact (decide_eq_true ⟨h1,et⟩).symm
end Go.UM
namespace Go.UM
open Go.AM
set_option maxRecDepth 4000
def cap (k:Int):Int:=if k=1 then 2048 else if k=2 then 1024 else if k=3∨k=4 then 64 else 0
theorem Sq {R:Env} (h:VE R) (k:Int):R.Pc 37 [.int .i64 k] (.int .i64 (cap k)):=
 h.Y5.enter 60 rfl fun X b hfit hp=>by
  refine sh ?_
  refine cS (fun h1=> ?_) (fun h1=> ?_)
  ·refine sh ?_
   refine rT ?_
   all_goals repeat' (first|exact True.intro|refine And.intro ?_ ?_|(intro _u; clear _u)|(with_reducible first|exact aw.fg|refine eM ?_ ?_|refine eF ?_ ?_ ?_|refine eN ?_|refine eL ?_ ?_ ?_|refine eA ?_ ?_|refine az.mk ⟨_,hp,rfl⟩ ?_ ?_)|refine az.mk ⟨_,hp,rfl⟩ ?_ ?_)
   all_goals try first|with_reducible rfl|omega|exact .inl (by decide)|(simp; done)|rfl
   simp[cap]; omega
  ·refine sh ?_
   refine cS (fun h2=> ?_) (fun h2=> ?_)
   ·refine sh ?_
    refine rT ?_
    all_goals repeat' (first|exact True.intro|refine And.intro ?_ ?_|(intro _u; clear _u)|(with_reducible first|exact aw.fg|refine eM ?_ ?_|refine eF ?_ ?_ ?_|refine eN ?_|refine eL ?_ ?_ ?_|refine eA ?_ ?_|refine az.mk ⟨_,hp,rfl⟩ ?_ ?_)|refine az.mk ⟨_,hp,rfl⟩ ?_ ?_)
    all_goals try first|with_reducible rfl|omega|exact .inl (by decide)|(simp; done)|rfl
    simp[cap]; omega
   ·refine st ?_
    obtain h3|h3|h3|h3|h3:k=0∨k=1∨k=2∨k=3∨k=4:=by omega
    all_goals subst h3
    ·refine sh ?_
     exact rT
    ·refine sh ?_
     exact rT
    ·refine sh ?_
     exact rT
    ·refine sh ?_
     exact rT
    ·refine sh ?_
     exact rT
end Go.UM
namespace Go.UM
open Go.AM
set_option maxRecDepth 4000
def sM:Ms:=⟨[],[],[]⟩
def Wb:cz:=⟨0,[]⟩
def Sr:ej:=⟨0,z3,0⟩
def Ss:ed:=⟨0,z3,z3,z3,z3⟩
def As.zero (k:Int):As:=⟨k,sM,Wb,Sr,Ss⟩
def As.bare (a:As):As:=if a.k=1 then {a with m:=sM} else if a.k=2 then {a with x:=Wb} else if a.k=3 then {a with mt:=Sr} else if a.k=4 then {a with li:=Ss} else a
def pN (a:As):Int:=if own a≠0 then own a else if xk a.bare (As.zero a.k)=false then 5 else if cap a.k< (kS a).length then 9 else 0
theorem Su {R:Env} (h:Lu R) (a:As) (fx:a.x.t.length≤1000):R.Pc 309 [.agg a.row] (.int .i64 (own a)):=
 h.Q6.enter 100 rfl fun X bb hfit hp=>by
  unfold own
  refine sh ?_
  refine cS (fun h1=> ?_) (fun h1=> ?_)
  ·rw[if_pos h1]
   refine sh ?_
   refine aq.pure h.n193.Lj.hb (w7 h.n193 a.m) rfl ?_
   refine sh ?_
   exact rT
  ·rw[if_neg h1]
   refine sh ?_
   refine cS (fun h2=> ?_) (fun h2=> ?_)
   ·rw[if_pos h2]
    refine sh ?_
    refine aq.pure h.Jc.VG.hb (E4 h.Jc a.x (by omega)) rfl ?_
    refine sh ?_
    exact rT
   ·rw[if_neg h2]
    refine sh ?_
    refine cS (fun h3=> ?_) (fun h3=> ?_)
    ·rw[if_pos h3]
     refine sh ?_
     refine aq.pure h.n290.QU.hb (Mx h.n290 a.mt) rfl ?_
     refine sh ?_
     exact rT
    ·rw[if_neg h3]
     refine sh ?_
     refine cS (fun h4=> ?_) (fun h4=> ?_)
     ·rw[if_pos h4]
      refine sh ?_
      refine aq.pure h.n292.QX.hb (My h.n292 a.li) rfl ?_
      refine sh ?_
      exact rT
     ·rw[if_neg h4]
      refine sh ?_
      exact rT
theorem MG {R:Env} (h:Lv R) (a:As):R.Pc 310 [.agg a.row] (.agg a.bare.row):=
 h.Q8.enter 100 rfl fun X bb hfit hp=>by
  unfold As.bare
  refine sh ?_
  refine cS (fun h1=> ?_) (fun h1=> ?_)
  ·rw[if_pos h1]
   refine sh ?_
   exact rT
  ·rw[if_neg h1]
   refine sh ?_
   refine cS (fun h2=> ?_) (fun h2=> ?_)
   ·rw[if_pos h2]
    refine sh ?_
    exact rT
   ·rw[if_neg h2]
    refine sh ?_
    refine cS (fun h3=> ?_) (fun h3=> ?_)
    ·rw[if_pos h3]
     refine sh ?_
     exact rT
    ·rw[if_neg h3]
     refine sh ?_
     refine cS (fun h4=> ?_) (fun h4=> ?_)
     ·rw[if_pos h4]
      refine sh ?_
      exact rT
     ·rw[if_neg h4]
      refine sh ?_
      exact rT
theorem As.H'.bare {a:As} (f:a.H'):a.bare.H':=by
 unfold As.bare
 obtain⟨f1,f2,f3,f4⟩:=f
 split
 ·exact⟨by simp[sM],by simp[sM],by simp[sM],f4⟩
 ·split
  ·exact⟨f1,f2,f3,by simp[Wb]⟩
  ·split
   ·exact⟨f1,f2,f3,f4⟩
   ·split<;>exact⟨f1,f2,f3,f4⟩
theorem Ch {R:Env} (h:Lx R) (a:As) (fx:a.x.t.length≤1000) (f:a.bare.H'):R.Pc 294 [.agg a.row] (.int .i64 (pN a)):=
 h.Rc.enter 100 rfl fun X bb hfit hp=>by
  refine sh ?_
  refine aq.pure h.n309.Q6.hb (Su h.n309 a fx) rfl ?_
  generalize hq:pN a=q
  refine sh ?_
  refine cS (fun h1=> ?_) (fun h1=> ?_)
  ·rw[pN,if_pos h1]at hq
   subst hq
   refine sh ?_
   exact rT
  ·rw[pN,if_neg (by simpa using h1)]at hq
   have ok:=h1
   refine sh ?_
   refine cM false [] ((MG h.n310 a).mc h.n310.Q8.hb) ?_
   repeat (intro _; first|refine eK ?_|refine eP ?_)
   refine sh ?_
   refine cM false [] ((MF h.n298 a.bare (As.zero a.k) f).mc h.n298.Q4.hb) ?_
   repeat (intro _; first|refine eK ?_|refine eP ?_)
   refine sh ?_
   refine cS (fun h2=> ?_) (fun h2=> ?_)
   ·rw[if_pos (by simpa using h2)]at hq
    subst hq
    refine sh ?_
    exact rT
   ·rw[if_neg (by simpa using h2)]at hq
    refine sh ?_
    refine aq.pure h.n311.Ra.hb (E8 h.n311 a (by omega) ok) rfl ?_
    refine sh ?_
    refine aq.pure h.n37.Y5.hb (Sq h.n37 a.k) rfl ?_
    refine sh ?_
    refine cS (fun h3=> ?_) (fun h3=> ?_)
    ·rw[if_pos h3]at hq
     subst hq
     refine sh ?_
     exact rT
    ·rw[if_neg (by omega)]at hq
     subst hq
     refine sh ?_
     exact rT
end Go.UM
namespace Go.UM
open Go.AM
set_option maxRecDepth 4000
structure Tb where
 rows:List Rw
 ins:List In
def Aw (r:Rw):List AV:= .int .i64 r.h::r.row
def jm (l:List Rw):List (List AV):=l.map Aw
@[simp] theorem MH (l:List Rw):(jm l).length=l.length:=by simp[jm]
@[simp] theorem MI (a b:List Rw):jm (a++b)=jm a++jm b:=by simp[jm]
@[simp] theorem TQ (l:List Rw):lR (jm l):=by simp[jm,Aw,Rw.row]
def cX (l:List Rw) (h:Int):Option Rw:=l.find? fun r=>r.h==h
def iI (x y:In):Bool:=x.cC==y.cC&&(x.fJ==y.fJ&&(x.dS==y.dS&&x.n==y.n))
def zc (l:List In) (x:In):Option In:=l.find? fun y=>iI x y
theorem MJ {h:Int} {l:List Rw}:∀e ∈ jm l,dE [.i] [.int .i64 h] e=true:=by
 intro e he
 obtain⟨r,_,rfl⟩:=List.mem_map.1 he
 rfl
theorem xl (h:Int):∀l:List Rw,∃i:Nat,cg [.int .i64 h] (jm l)=(cX l h).map fun r=>(i,r.row)
 |[]=>⟨0,rfl⟩
 |r::l=>by
  obtain⟨i,hi⟩:=xl h l
  have e:lE [.int .i64 h] (Aw r)=(r.h==h):=by
   show ((h==r.h)&&true)=_
   rw[Bool.and_true]; exact Bool.beq_comm
  by_cases hh:(r.h==h)=true
  ·refine⟨0,?_⟩
   show (if lE [.int .i64 h] (Aw r)then some (0,(Aw r).drop 1)else _)=_
   rw[e,if_pos hh]; simp only[cX,List.find?_cons,hh]; rfl
  ·refine⟨i+1,?_⟩
   show (if lE [.int .i64 h] (Aw r)then some (0,(Aw r).drop 1)else (cg [.int .i64 h] (jm l)).map fun q=>(q.1+1,q.2))=_
   rw[e,if_neg hh,hi]; simp only[cX,List.find?_cons,hh]
   cases List.find? (fun r=>r.h==h) l<;>rfl
theorem nB {h:Int} {l:List Rw} {K:Option (Nat × List AV)→Prop} (k:∀i:Nat,K ((cX l h).map fun r=>(i,r.row))):J9 [.i] [.int .i64 h] (jm l) K:=by
 obtain⟨i,hi⟩:=xl h l
 exact⟨MJ,by rw[hi]; exact k i⟩
theorem Sv {x:In} {l:List In}:∀e ∈ ki l,dE [.i,.i,.i,.i] [.int .i64 x.cC,.int .i64 x.fJ,.int .i64 x.dS,.int .i64 x.n] e=true:=by
 intro e he
 obtain⟨r,_,rfl⟩:=List.mem_map.1 he
 rfl
theorem Ax (x:In):∀l:List In,∃i:Nat,cg [.int .i64 x.cC,.int .i64 x.fJ,.int .i64 x.dS,.int .i64 x.n] (ki l)=(zc l x).map fun r=>(i,r.t.row)
 |[]=>⟨0,rfl⟩
 |r::l=>by
  obtain⟨i,hi⟩:=Ax x l
  have e:lE [.int .i64 x.cC,.int .i64 x.fJ,.int .i64 x.dS,.int .i64 x.n] r.row=iI x r:=by
   show (x.cC==r.cC&&(x.fJ==r.fJ&&(x.dS==r.dS&&(x.n==r.n&&true))))=_
   rw[Bool.and_true]; rfl
  by_cases hh:iI x r=true
  ·refine⟨0,?_⟩
   show (if lE [.int .i64 x.cC,.int .i64 x.fJ,.int .i64 x.dS,.int .i64 x.n] r.row then some (0,r.row.drop 4)else _)=_
   rw[e,if_pos hh]; simp only[zc,List.find?_cons,hh]; rfl
  ·refine⟨i+1,?_⟩
   show (if lE [.int .i64 x.cC,.int .i64 x.fJ,.int .i64 x.dS,.int .i64 x.n] r.row then some (0,r.row.drop 4)else (cg _ (ki l)).map fun q=>(q.1+1,q.2))=_
   rw[e,if_neg hh,hi]; simp only[zc,List.find?_cons,hh]
   cases List.find? (fun y=>iI x y) l<;>rfl
theorem Sw {x:In} {l:List In} {K:Option (Nat × List AV)→Prop} (k:∀i:Nat,K ((zc l x).map fun r=>(i,r.t.row))):J9 [.i,.i,.i,.i] [.int .i64 x.cC,.int .i64 x.fJ,.int .i64 x.dS,.int .i64 x.n] (ki l) K:=by
 obtain⟨i,hi⟩:=Ax x l
 exact⟨Sv,by rw[hi]; exact k i⟩
abbrev gJ (R:Env) (d1 d2:Bool) (t:Tb):aj:=[(0,.map 1 false true d1 41 (jm t.rows)),(1,.map 4 true true d2 16 (ki t.ins)),(2,.var (R.ty 47) [.omap 0,.omap 1])]
theorem MK {R:Env} (h:Ly R):R.Mc 345 [] [] (.loc 2 1 0 0) (gJ R true true ⟨[],[]⟩) 3:=
 h.VO.cr 60 0 rfl rfl rfl fun X bb hfit hp=>by
  refine sh ?_
  exact rM [0,1,2]
theorem nC {R:Env} (h:yM R) (d1 d2:Bool) (t:Tb):R.Mc 355 [.loc 2 1 0 0] (gJ R d1 d2 t) (.bool false) (gJ R d1 d2 t) 3:=
 h.VP.cr 60 3 rfl rfl rfl fun X bb hfit hp=>by
  unfold gJ
  refine sh ?_
  exact rM [0,1,2]
theorem Ia {R:Env} (h:Hz R) (x:In):R.Pc 358 [.agg x.row] (.agg [.int .i64 x.cC,.int .i64 x.fJ,.int .i64 x.dS,.int .i64 x.n]):=
 h.Ez.enter 60 rfl fun X bb hfit hp=>by
  refine sh ?_
  exact rT
def mo (l:List Rw) (x:In):Int:=
 match cX l x.cC with
 |none=>11
 |some a=>match cX l x.fJ with
  |none=>11
  |some b=>if x.dS=0 then (if a.f.kind≠1∨b.f.kind≠3 then 12 else 0)else match cX l x.dS with
   |none=>11
   |some c=>if a.f.kind≠1∨b.f.kind≠3∨c.f.kind≠2 then 12 else 0
def pL (x:In):List (List AV):=[[.int .i64 x.cC,.int .i64 1],[.int .i64 x.fJ,.int .i64 3],[.int .i64 x.dS,.int .i64 2]]
theorem ML {x:In} {i:Nat} {r:List AV} {K:List AV→Prop} (h:(pL x)[i]? =some r) (k:K r):GD [[.int .i64 x.cC,.int .i64 1],[.int .i64 x.fJ,.int .i64 3],[.int .i64 x.dS,.int .i64 2]] 3 i K:=
 rA (f:=fun x:List AV=>x) (l:=pL x) rfl h k
set_option maxHeartbeats 4000000 in
theorem Ib {R:Env} (h:LA R) (d1 d2:Bool) (t:Tb) (x:In):R.Mc 357 [.loc 2 1 0 0,.agg x.row] (gJ R d1 d2 t) (.int .i64 (mo t.rows x)) (gJ R d1 d2 t) 3:=
 h.VR.cr 100 3 rfl rfl rfl fun X bb hfit hp=>by
  unfold gJ
  have hq:∃q,mo t.rows x=q:=⟨_,rfl⟩
  obtain⟨q,hq⟩:=hq
  rw[hq]
  unfold mo at hq
  refine sh ?_
  refine aN.one 100 ?_
  refine sh ?_
  refine aG (by rfl) ?_
  refine sh ?_
  refine ML (i:=0) rfl ?_
  refine sh ?_
  refine nB fun i=> ?_
  cases ha:cX t.rows x.cC with
  |none=>
   rw[ha]at hq
   refine sh ?_
   refine aT (by decide) ?_
   subst hq
   refine sh ?_
   exact rM [0,1,2]
  |some a=>
   rw[ha]at hq
   dsimp only[Option.map_some]at hq ⊢
   refine sh ?_
   refine aT (by decide) ?_
   refine sh ?_
   refine cS (fun k1=> ?_) (fun k1=> ?_)
   ·refine sh ?_
    refine aN.one 100 ?_
    refine sh ?_
    refine aG (by rfl) ?_
    refine sh ?_
    refine ML (i:=1) rfl ?_
    refine sh ?_
    refine nB fun i=> ?_
    cases hb:cX t.rows x.fJ with
    |none=>
     rw[hb]at hq
     refine sh ?_
     refine aT (by decide) ?_
     subst hq
     refine sh ?_
     exact rM [0,1,2]
    |some b=>
     rw[hb]at hq
     dsimp only[Option.map_some]at hq ⊢
     refine sh ?_
     refine aT (by decide) ?_
     refine sh ?_
     refine cS (fun k2=> ?_) (fun k2=> ?_)
     ·refine sh ?_
      refine aN.one 100 ?_
      refine sh ?_
      refine aG (by rfl) ?_
      refine sh ?_
      refine ML (i:=2) rfl ?_
      refine sh ?_
      refine nB fun i=> ?_
      by_cases hx:x.dS=0
      ·rw[if_pos hx]at hq
       cases cX t.rows x.dS<;>dsimp only[Option.map_some,Option.map_none]
       ·refine sh ?_
        refine aG (by decide) ?_
        refine sh ?_
        refine aG (by simp; exact hx) ?_
        first|rw[if_pos (by omega)]at hq|rw[if_neg (by omega)]at hq
        refine sh ?_
        refine aN.one 100 ?_
        refine sh ?_
        refine aT (by rfl) ?_
        subst hq
        refine sh ?_
        exact rM [0,1,2]
       ·refine sh ?_
        refine aG (by decide) ?_
        refine sh ?_
        refine aG (by simp; exact hx) ?_
        first|rw[if_pos (by omega)]at hq|rw[if_neg (by omega)]at hq
        refine sh ?_
        refine aN.one 100 ?_
        refine sh ?_
        refine aT (by rfl) ?_
        subst hq
        refine sh ?_
        exact rM [0,1,2]
      ·rw[if_neg hx]at hq
       cases hc:cX t.rows x.dS with
       |none=>
        rw[hc]at hq
        refine sh ?_
        refine aG (by decide) ?_
        refine sh ?_
        refine aT (by simp; exact hx) ?_
        subst hq
        refine sh ?_
        exact rM [0,1,2]
       |some c=>
        rw[hc]at hq
        dsimp only[Option.map_some]at hq ⊢
        refine sh ?_
        refine aG (by decide) ?_
        refine sh ?_
        refine aT (by simp; exact hx) ?_
        refine sh ?_
        refine cS (fun k3=> ?_) (fun k3=> ?_)
        ·first|rw[if_pos (by omega)]at hq|rw[if_neg (by omega)]at hq
         refine sh ?_
         refine aN.one 100 ?_
         refine sh ?_
         refine aT (by rfl) ?_
         subst hq
         refine sh ?_
         exact rM [0,1,2]
        ·first|rw[if_pos (by omega)]at hq|rw[if_neg (by omega)]at hq
         refine sh ?_
         refine aN.one 100 ?_
         refine sh ?_
         refine aT (by rfl) ?_
         subst hq
         refine sh ?_
         exact rM [0,1,2]
     ·refine sh ?_
      refine aN.one 100 ?_
      refine sh ?_
      refine aG (by rfl) ?_
      refine sh ?_
      refine ML (i:=2) rfl ?_
      refine sh ?_
      refine nB fun i=> ?_
      by_cases hx:x.dS=0
      ·rw[if_pos hx]at hq
       cases cX t.rows x.dS<;>dsimp only[Option.map_some,Option.map_none]
       ·refine sh ?_
        refine aG (by decide) ?_
        refine sh ?_
        refine aG (by simp; exact hx) ?_
        first|rw[if_pos (by omega)]at hq|rw[if_neg (by omega)]at hq
        refine sh ?_
        refine aN.one 100 ?_
        refine sh ?_
        refine aT (by rfl) ?_
        subst hq
        refine sh ?_
        exact rM [0,1,2]
       ·refine sh ?_
        refine aG (by decide) ?_
        refine sh ?_
        refine aG (by simp; exact hx) ?_
        first|rw[if_pos (by omega)]at hq|rw[if_neg (by omega)]at hq
        refine sh ?_
        refine aN.one 100 ?_
        refine sh ?_
        refine aT (by rfl) ?_
        subst hq
        refine sh ?_
        exact rM [0,1,2]
      ·rw[if_neg hx]at hq
       cases hc:cX t.rows x.dS with
       |none=>
        rw[hc]at hq
        refine sh ?_
        refine aG (by decide) ?_
        refine sh ?_
        refine aT (by simp; exact hx) ?_
        subst hq
        refine sh ?_
        exact rM [0,1,2]
       |some c=>
        rw[hc]at hq
        dsimp only[Option.map_some]at hq ⊢
        refine sh ?_
        refine aG (by decide) ?_
        refine sh ?_
        refine aT (by simp; exact hx) ?_
        refine sh ?_
        refine cS (fun k3=> ?_) (fun k3=> ?_)
        ·first|rw[if_pos (by omega)]at hq|rw[if_neg (by omega)]at hq
         refine sh ?_
         refine aN.one 100 ?_
         refine sh ?_
         refine aT (by rfl) ?_
         subst hq
         refine sh ?_
         exact rM [0,1,2]
        ·first|rw[if_pos (by omega)]at hq|rw[if_neg (by omega)]at hq
         refine sh ?_
         refine aN.one 100 ?_
         refine sh ?_
         refine aT (by rfl) ?_
         subst hq
         refine sh ?_
         exact rM [0,1,2]
   ·refine sh ?_
    refine aN.one 100 ?_
    refine sh ?_
    refine aG (by rfl) ?_
    refine sh ?_
    refine ML (i:=1) rfl ?_
    refine sh ?_
    refine nB fun i=> ?_
    cases hb:cX t.rows x.fJ with
    |none=>
     rw[hb]at hq
     refine sh ?_
     refine aT (by decide) ?_
     subst hq
     refine sh ?_
     exact rM [0,1,2]
    |some b=>
     rw[hb]at hq
     dsimp only[Option.map_some]at hq ⊢
     refine sh ?_
     refine aT (by decide) ?_
     refine sh ?_
     refine cS (fun k2=> ?_) (fun k2=> ?_)
     ·refine sh ?_
      refine aN.one 100 ?_
      refine sh ?_
      refine aG (by rfl) ?_
      refine sh ?_
      refine ML (i:=2) rfl ?_
      refine sh ?_
      refine nB fun i=> ?_
      by_cases hx:x.dS=0
      ·rw[if_pos hx]at hq
       cases cX t.rows x.dS<;>dsimp only[Option.map_some,Option.map_none]
       ·refine sh ?_
        refine aG (by decide) ?_
        refine sh ?_
        refine aG (by simp; exact hx) ?_
        first|rw[if_pos (by omega)]at hq|rw[if_neg (by omega)]at hq
        refine sh ?_
        refine aN.one 100 ?_
        refine sh ?_
        refine aT (by rfl) ?_
        subst hq
        refine sh ?_
        exact rM [0,1,2]
       ·refine sh ?_
        refine aG (by decide) ?_
        refine sh ?_
        refine aG (by simp; exact hx) ?_
        first|rw[if_pos (by omega)]at hq|rw[if_neg (by omega)]at hq
        refine sh ?_
        refine aN.one 100 ?_
        refine sh ?_
        refine aT (by rfl) ?_
        subst hq
        refine sh ?_
        exact rM [0,1,2]
      ·rw[if_neg hx]at hq
       cases hc:cX t.rows x.dS with
       |none=>
        rw[hc]at hq
        refine sh ?_
        refine aG (by decide) ?_
        refine sh ?_
        refine aT (by simp; exact hx) ?_
        subst hq
        refine sh ?_
        exact rM [0,1,2]
       |some c=>
        rw[hc]at hq
        dsimp only[Option.map_some]at hq ⊢
        refine sh ?_
        refine aG (by decide) ?_
        refine sh ?_
        refine aT (by simp; exact hx) ?_
        refine sh ?_
        refine cS (fun k3=> ?_) (fun k3=> ?_)
        ·first|rw[if_pos (by omega)]at hq|rw[if_neg (by omega)]at hq
         refine sh ?_
         refine aN.one 100 ?_
         refine sh ?_
         refine aT (by rfl) ?_
         subst hq
         refine sh ?_
         exact rM [0,1,2]
        ·first|rw[if_pos (by omega)]at hq|rw[if_neg (by omega)]at hq
         refine sh ?_
         refine aN.one 100 ?_
         refine sh ?_
         refine aT (by rfl) ?_
         subst hq
         refine sh ?_
         exact rM [0,1,2]
     ·refine sh ?_
      refine aN.one 100 ?_
      refine sh ?_
      refine aG (by rfl) ?_
      refine sh ?_
      refine ML (i:=2) rfl ?_
      refine sh ?_
      refine nB fun i=> ?_
      by_cases hx:x.dS=0
      ·rw[if_pos hx]at hq
       cases cX t.rows x.dS<;>dsimp only[Option.map_some,Option.map_none]
       ·refine sh ?_
        refine aG (by decide) ?_
        refine sh ?_
        refine aG (by simp; exact hx) ?_
        first|rw[if_pos (by omega)]at hq|rw[if_neg (by omega)]at hq
        refine sh ?_
        refine aN.one 100 ?_
        refine sh ?_
        refine aT (by rfl) ?_
        subst hq
        refine sh ?_
        exact rM [0,1,2]
       ·refine sh ?_
        refine aG (by decide) ?_
        refine sh ?_
        refine aG (by simp; exact hx) ?_
        first|rw[if_pos (by omega)]at hq|rw[if_neg (by omega)]at hq
        refine sh ?_
        refine aN.one 100 ?_
        refine sh ?_
        refine aT (by rfl) ?_
        subst hq
        refine sh ?_
        exact rM [0,1,2]
      ·rw[if_neg hx]at hq
       cases hc:cX t.rows x.dS with
       |none=>
        rw[hc]at hq
        refine sh ?_
        refine aG (by decide) ?_
        refine sh ?_
        refine aT (by simp; exact hx) ?_
        subst hq
        refine sh ?_
        exact rM [0,1,2]
       |some c=>
        rw[hc]at hq
        dsimp only[Option.map_some]at hq ⊢
        refine sh ?_
        refine aG (by decide) ?_
        refine sh ?_
        refine aT (by simp; exact hx) ?_
        refine sh ?_
        refine cS (fun k3=> ?_) (fun k3=> ?_)
        ·first|rw[if_pos (by omega)]at hq|rw[if_neg (by omega)]at hq
         refine sh ?_
         refine aN.one 100 ?_
         refine sh ?_
         refine aT (by rfl) ?_
         subst hq
         refine sh ?_
         exact rM [0,1,2]
        ·first|rw[if_pos (by omega)]at hq|rw[if_neg (by omega)]at hq
         refine sh ?_
         refine aN.one 100 ?_
         refine sh ?_
         refine aT (by rfl) ?_
         subst hq
         refine sh ?_
         exact rM [0,1,2]
end Go.UM
namespace Go.UM
open Go.AM
set_option maxRecDepth 4000
def f3 (r:Rd):T3 × Rd:=(⟨(r.int 2).1,((r.int 2).2.int 2).1,(((r.int 2).2.int 2).2.int 2).1⟩,(((r.int 2).2.int 2).2.int 2).2)
def f2 (r:Rd):(Int × Int) × Rd:=(((r.num 2).1,((r.num 2).2.num 2).1),((r.num 2).2.num 2).2)
def ft (r:Rd):T3 × Rd:=(⟨(r.num 1).1,((r.num 1).2.num 1).1,(((r.num 1).2.num 1).2.num 1).1⟩,(((r.num 1).2.num 1).2.num 1).2)
theorem ei.f3 {B:List UInt8} {r:Rd} (h:ei B r):ei B (f3 r).2:=((h.int 2).int 2).int 2
theorem ei.f2 {B:List UInt8} {r:Rd} (h:ei B r):ei B (f2 r).2:=(h.num 2).num 2
theorem ei.ft {B:List UInt8} {r:Rd} (h:ei B r):ei B (ft r).2:=((h.num 1).num 1).num 1
theorem ei.Au {B:List UInt8} {α:Type} {f:Rd→α × Rd} (hf:∀r,ei B r→ei B (f r).2) (n:Nat):∀ {r:Rd},ei B r→ei B (Au f n r).2:=by
 induction n with
 |zero=>exact fun h=>h
 |succ n ih=>exact fun h=>hf _ (ih h)
def Zv:Ms:=⟨[],[],[]⟩
def mq (nv nt:Nat) (r:Rd):Ms × Rd:=(⟨(Au f3 nv r).1,(Au f2 nv (Au f3 nv r).2).1,(Au ft nt (Au f2 nv (Au f3 nv r).2).2).1⟩,(Au ft nt (Au f2 nv (Au f3 nv r).2).2).2)
def Wd (q:Ms × Rd):Ms × Int:=if q.2.fin≠0 then (Zv,q.2.fin)else if oq q.1≠0 then (Zv,oq q.1)else (q.1,0)
def Jo (b:List UInt8):Ms × Int:=Wd (mq ((⟨b,0,true⟩:Rd).num 1).1 (((⟨b,0,true⟩:Rd).num 1).2.num 1).1 (((⟨b,0,true⟩:Rd).num 1).2.num 1).2)
end Go.UM
namespace Go.UM
open Go.AM
set_option maxRecDepth 4000
def TR:List UInt8→List T3
 |a::b::c::r=>⟨a.toNat,b.toNat,c.toNat⟩::TR r
 |_=>[]
def Ic:cz:=⟨0,[]⟩
def Sx (b:List UInt8):cz × Int:=match b with
 |[]=>(Ic,4)
 |s::rest=>if rest.length<3* (s.toNat*s.toNat)then (Ic,4)else if 3* (s.toNat*s.toNat)<rest.length then (Ic,5)else
  if lC ⟨s.toNat,TR rest⟩≠0 then (Ic,lC ⟨s.toNat,TR rest⟩)else (⟨s.toNat,TR rest⟩,0)
end Go.UM
namespace Go.UM
open Go.AM
set_option maxRecDepth 4000
def fw (w:Int) (r:Rd):T3 × Rd:=(⟨(r.num w).1,((r.num w).2.num w).1,(((r.num w).2.num w).2.num w).1⟩,(((r.num w).2.num w).2.num w).2)
theorem ei.fw {B:List UInt8} {r:Rd} (h:ei B r) (w:Int):ei B (fw w r).2:=((h.num w).num w).num w
def Sy (r:Rd):ej × Rd:=(⟨(r.num 1).1,(fw 2 (r.num 1).2).1,((fw 2 (r.num 1).2).2.num 2).1⟩,((fw 2 (r.num 1).2).2.num 2).2)
def Sz (r:Rd):ed × Rd:=(⟨(r.num 1).1,(fw 4 (r.num 1).2).1,(f3 (fw 4 (r.num 1).2).2).1,(f3 (f3 (fw 4 (r.num 1).2).2).2).1,(f3 (f3 (f3 (fw 4 (r.num 1).2).2).2).2).1⟩,(f3 (f3 (f3 (fw 4 (r.num 1).2).2).2).2).2)
def apart (k:Int) (b:List UInt8):As × Int:=
 if k=1 then ({As.zero k with m:=(Jo b).1},(Jo b).2)
 else if k=2 then ({As.zero k with x:=(Sx b).1},(Sx b).2)
 else if k=3 then ({As.zero k with mt:=(Sy ⟨b,0,true⟩).1},(Sy ⟨b,0,true⟩).2.fin)
 else if k=4 then ({As.zero k with li:=(Sz ⟨b,0,true⟩).1},(Sz ⟨b,0,true⟩).2.fin)
 else (As.zero k,0)
end Go.UM
namespace Go.UM
open Go.AM
set_option maxRecDepth 4000
end Go.UM
namespace Go.UM
open Go.AM
set_option maxRecDepth 4000
theorem Fb {a b:As} (h:xk a b=true):a=b:=by
 simp only[xk,decide_eq_true_eq]at h
 obtain⟨ak,⟨_,_,_⟩,⟨_,_⟩,am,al⟩:=a
 obtain⟨bk,⟨_,_,_⟩,⟨_,_⟩,bm,bl⟩:=b
 dsimp only at h
 obtain⟨rfl,rfl,rfl,rfl,rfl,rfl,rfl,rfl⟩:=h
 rfl
theorem hG {a:As} (h:pN a=0):own a=0∧a.bare=As.zero a.k∧(kS a).length≤cap a.k:=by
 unfold pN at h
 split at h
 ·rename_i h1; exact absurd h h1
 ·rename_i h1
  split at h
  ·cases h
  ·rename_i h2
   split at h
   ·cases h
   ·rename_i h3
    exact⟨by simpa using h1,Fb (by simpa using h2),by omega⟩
end Go.UM
namespace Go.UM
open Go.AM
set_option maxRecDepth 4000
theorem Ci {R:Env} (h:Hb R) (l:List T3) (hl:l.length≤1073741824):R.Mc 361 [.aO 3 (bF l)] [] (.bh 0 l.length) [(0,.arr (R.ty 26) 3 (bF l))] 1:=
 h.PH.cr 60 0 rfl rfl rfl fun X b hfit hp=>by
  refine sh ?_
  refine DA.mk (fun hn=> ?_) ?_
  ·have:l=[]:=by simpa[bF]using hn
   subst this
   refine sh ?_
   exact rM [50]
  ·refine sh ?_
   exact rM [0]
theorem Cj {R:Env} (h:Hc R) (l:List (Int × Int)) (hl:l.length≤1073741824):R.Mc 362 [.aO 2 (cW l)] [] (.bh 0 l.length) [(0,.arr (R.ty 18) 2 (cW l))] 1:=
 h.PJ.cr 60 0 rfl rfl rfl fun X b hfit hp=>by
  refine sh ?_
  refine DA.mk (fun hn=> ?_) ?_
  ·have:l=[]:=by simpa[cW]using hn
   subst this
   refine sh ?_
   exact rM [50]
  ·refine sh ?_
   exact rM [0]
theorem Ck {R:Env} (h:Ha R) (l:List T3) (hl:l.length≤1073741824):R.Mc 101 [.aO 3 (bF l)] [] (.bh 0 l.length) [(0,.arr (R.ty 13) 3 (bF l))] 1:=
 h.Ky.cr 60 0 rfl rfl rfl fun X b hfit hp=>by
  refine sh ?_
  refine DA.mk (fun hn=> ?_) ?_
  ·have:l=[]:=by simpa[bF]using hn
   subst this
   refine sh ?_
   exact rM [50]
  ·refine sh ?_
   exact rM [0]
theorem zf {R:Env} (h:Hb R) (l:List T3) (hl:l.length≤1073741824):R.Pc 361 [.aO 3 (bF l)] (.aO 3 (bF l)):=(Ci h l hl).pc fZ
theorem zg {R:Env} (h:Hc R) (l:List (Int × Int)) (hl:l.length≤1073741824):R.Pc 362 [.aO 2 (cW l)] (.aO 2 (cW l)):=(Cj h l hl).pc fZ
theorem rQ {R:Env} (h:Ha R) (l:List T3) (hl:l.length≤1073741824):R.Pc 101 [.aO 3 (bF l)] (.aO 3 (bF l)):=(Ck h l hl).pc fZ
theorem ox {R:Env} (h:Hv R) (a:As) (f:a.H'):R.Pc 356 [.agg a.row] (.agg a.row):=
 h.Hw.enter 100 rfl fun X bb hfit hp=>by
  obtain⟨f1,f2,f3,f4⟩:=f
  refine sh ?_
  refine aq.pure h.Hx.PH.hb (zf h.Hx a.m.v (by omega)) rfl ?_
  refine sh ?_
  refine aq.pure h.Hy.PJ.hb (zg h.Hy a.m.uv (by omega)) rfl ?_
  refine sh ?_
  refine aq.pure h.n101.Ky.hb (rQ h.n101 a.m.t (by omega)) rfl ?_
  refine sh ?_
  refine aq.pure h.n101.Ky.hb (rQ h.n101 a.x.t (by omega)) rfl ?_
  refine sh ?_
  exact rT
theorem xm {m:Ms} (h:oq m=0):m.v.length≤64∧m.t.length≤64∧m.uv.length=m.v.length∧m.v.any lB=false:=by
 unfold oq at h
 split at h
 ·cases h
 ·split at h
  ·cases h
  ·split at h
   ·cases h
   ·rename_i h1 h2 h3
    exact⟨by omega,by omega,by omega,by simpa using h3⟩
theorem rR {a:As} (h:pN a=0) (hx:a.x.t.length≤1000):a.H':=by
 obtain⟨ow,hb,_⟩:=hG h
 by_cases k:a.k=1
 ·rw[own,if_pos k]at ow
  obtain⟨h1,h2,h3,_⟩:=xm ow
  exact⟨by omega,by omega,by omega,hx⟩
 ·have e:a.m=sM:=by
   have e1:a.bare.m=(As.zero a.k).m:=by rw[hb]
   have e2:a.bare.m=a.m:=by unfold As.bare; rw[if_neg k]; repeat' split
                            all_goals rfl
   rw[←e2,e1]; rfl
  exact⟨by rw[e]; simp[sM],by rw[e]; simp[sM],by rw[e]; simp[sM],hx⟩
def jG (t:Tb) (hd:Int) (f:Mf) (a:As):Tb × Int:=
 if hd<1∨65536<hd then (t,2)else if (cX t.rows hd).isSome=true then (t,10)else if pN a≠0 then (t,pN a)else if f.kind≠a.k then (t,12)else (⟨t.rows++ [⟨hd,f,a⟩],t.ins⟩,0)
set_option maxHeartbeats 4000000 in
theorem Fc {R:Env} (h:Lz R) (d1 d2:Bool) (t:Tb) (hd:Int) (f:Mf) (a:As) (fx:a.x.t.length≤1000) (fb:a.bare.H') (hn:t.rows.length≤1000000):
  R.Mc 346 [.loc 2 1 0 0,.int .i64 hd,.agg f.row,.agg a.row] (gJ R d1 d2 t) (.int .i64 (jG t hd f a).2) (gJ R d1 d2 (jG t hd f a).1) 3:=
 h.VQ.cr 100 3 rfl rfl rfl fun X bb hfit hp=>by
  generalize hq:jG t hd f a=q
  unfold jG at hq
  unfold gJ
  refine sh ?_
  refine cM false [0,1,2] (nC h.ml d1 d2 t) ?_
  repeat (intro _; first|refine eK ?_|refine eP ?_)
  refine sh ?_
  refine cS (fun h1=> ?_) (fun h1=> ?_)
  ·rw[if_pos (by omega)]at hq
   subst hq
   refine sh ?_
   exact rM [0,1,2]
  ·refine sh ?_
   refine cS (fun h2=> ?_) (fun h2=> ?_)
   ·rw[if_pos (by omega)]at hq
    subst hq
    refine sh ?_
    exact rM [0,1,2]
   ·rw[if_neg (by omega)]at hq
    refine sh ?_
    refine nB fun i=> ?_
    cases hr:cX t.rows hd with
    |some r=>
     rw[hr,if_pos (show (some r).isSome=true from rfl)]at hq
     dsimp only[Option.map_some]
     subst hq
     refine sh ?_
     exact rM [0,1,2]
    |none=>
     rw[hr,if_neg (by simp)]at hq
     dsimp only[Option.map_none]
     refine sh ?_
     refine aq.pure h.n294.Rc.hb (Ch h.n294 a fx fb) rfl ?_
     refine sh ?_
     refine cS (fun h3=> ?_) (fun h3=> ?_)
     ·rw[if_pos h3]at hq
      subst hq
      refine sh ?_
      exact rM [0,1,2]
     ·rw[if_neg (by simpa using h3)]at hq
      refine sh ?_
      refine cS (fun h4=> ?_) (fun h4=> ?_)
      ·rw[if_pos h4]at hq
       subst hq
       refine sh ?_
       exact rM [0,1,2]
      ·rw[if_neg (by simpa using h4)]at hq
       refine sh ?_
       refine aq.pure h.sI.Hw.hb (ox h.sI a (rR h3 fx)) rfl ?_
       refine sh ?_
       refine nB fun i=> ?_
       rw[hr]
       dsimp only[Option.map_none]
       subst hq
       refine sh ?_
       refine rM [0,1,2] ?_
       all_goals repeat' (first|exact True.intro|refine And.intro ?_ ?_|(intro _u; clear _u)|(with_reducible first|exact aw.fg|refine eM ?_ ?_|refine eF ?_ ?_ ?_|refine eN ?_|refine eL ?_ ?_ ?_|refine eA ?_ ?_|refine az.mk ⟨_,hp,rfl⟩ ?_ ?_)|refine az.mk ⟨_,hp,rfl⟩ ?_ ?_)
       all_goals try first|with_reducible rfl|omega|exact .inl (by decide)|(simp; done)|rfl
       all_goals (simp[jm,Aw,Rw.row])
def zh (x:Af) (l:List T3):Int:=((l.map fun v=>(de x v).2).find? fun e=>e != 0).getD 0
def zi (t:Tb) (x:In):Tb × Int:=
 if x.n<0∨65536<x.n then (t,2)else if mo t.rows x≠0 then (t,mo t.rows x)else if (zc t.ins x).isSome=true then (t,10)
 else match cX t.rows x.cC with
  |none=>(t,11)
  |some r=>if zh x.t r.a.m.v≠0 then (t,zh x.t r.a.m.v)else (⟨t.rows,t.ins++ [x]⟩,0)
theorem Ay {x:Af} {l:List T3} {k:Nat} {v:T3} (h:l[k]? =some v) (h1:∀ (j:Nat) (u:T3),j<k→l[j]? =some u→(de x u).2=0) (h2:(de x v).2≠0):zh x l=(de x v).2:=by
 unfold zh
 induction l generalizing k with
 |nil=>simp at h
 |cons a r ih=>
  cases k with
  |zero=>
   simp at h; subst h
   simp[List.find?_cons,h2]
  |succ k=>
   have e:=h1 0 a (by omega) rfl
   simp only[List.map_cons,List.find?_cons,e,bne_self_eq_false]
   exact ih (k:=k) (by simpa using h) (fun j u hj hu=>h1 (j+1) u (by omega) (by simpa using hu))
theorem Cl {x:Af} {l:List T3} (h:∀ (j:Nat) (u:T3),j<l.length→l[j]? =some u→(de x u).2=0):zh x l=0:=by
 unfold zh
 induction l with
 |nil=>rfl
 |cons a r ih=>
  have e:=h 0 a (by simp) rfl
  simp only[List.map_cons,List.find?_cons,e,bne_self_eq_false]
  exact ih fun j u hj hu=>h (j+1) u (by simpa using hj) (by simpa using hu)
theorem xn {l:List Rw} {x:In} (h:mo l x=0):∃r,cX l x.cC=some r∧r.f.kind=1:=by
 unfold mo at h
 cases hr:cX l x.cC with
 |none=>rw[hr]at h; cases h
 |some r=>
  rw[hr]at h
  refine⟨r,rfl,?_⟩
  dsimp only at h
  cases hb:cX l x.fJ with
  |none=>rw[hb]at h; cases h
  |some b=>
   rw[hb]at h
   dsimp only at h
   by_cases hx:x.dS=0
   ·rw[if_pos hx]at h
    by_cases k:r.f.kind=1
    ·exact k
    ·rw[if_pos (.inl k)]at h; cases h
   ·rw[if_neg hx]at h
    cases hc:cX l x.dS with
    |none=>rw[hc]at h; cases h
    |some c=>
     rw[hc]at h
     dsimp only at h
     by_cases k:r.f.kind=1
     ·exact k
     ·rw[if_pos (.inl k)]at h; cases h
structure kT (r:Rw):Prop where
 h:1≤r.h∧r.h≤65536
 a:pN r.a=0
 k:r.f.kind=r.a.k
 x:r.a.x.t.length≤1000
theorem kU {l:List Rw} {h:Int} {r:Rw} (e:cX l h=some r):r ∈ l∧r.h=h:=⟨List.mem_of_find?_eq_some e,by simpa using List.find?_some e⟩
theorem kT.SA {r:Rw} (o:kT r) (h:r.f.kind=1):r.a.m.v.length≤64∧∀v ∈ r.a.m.v,lB v=false:=by
 have k1:r.a.k=1:=o.k.symm.trans h
 have ow:=(hG o.a).1
 rw[own,if_pos k1]at ow
 obtain⟨h1,_,_,h4⟩:=xm ow
 exact⟨h1,fun v hv=>by
  have:=List.any_eq_false.1 h4 v hv
  simpa using this⟩
theorem MM {v:T3} (h:lB v=false):v.I:=by
 have:=p5 h
 exact⟨by simp only[aZ]; omega,by simp only[aZ]; omega,by simp only[aZ]; omega⟩
set_option maxHeartbeats 4000000 in
theorem MN {R:Env} (h:LB R) (d1 d2:Bool) (t:Tb) (x:In) (ok:∀r ∈ t.rows,kT r) (hx:x.t.I) (hn:t.ins.length≤1000000):
  R.Mc 347 [.loc 2 1 0 0,.agg x.row] (gJ R d1 d2 t) (.int .i64 (zi t x).2) (gJ R d1 d2 (zi t x).1) 3:=
 h.VS.cr 100 3 rfl rfl rfl fun X bb hfit hp=>by
  generalize hq:zi t x=q
  unfold zi at hq
  unfold gJ
  refine sh ?_
  refine cM false [0,1,2] (nC h.ml d1 d2 t) ?_
  repeat (intro _; first|refine eK ?_|refine eP ?_)
  refine sh ?_
  refine cS (fun h1=> ?_) (fun h1=> ?_)
  ·rw[if_pos (by omega)]at hq
   subst hq
   refine sh ?_
   exact rM [0,1,2]
  ·refine sh ?_
   refine cS (fun h2=> ?_) (fun h2=> ?_)
   ·rw[if_pos (by omega)]at hq
    subst hq
    refine sh ?_
    exact rM [0,1,2]
   ·rw[if_neg (by omega)]at hq
    refine sh ?_
    refine cM false [0,1,2] (Ib h.LC d1 d2 t x) ?_
    repeat (intro _; first|refine eK ?_|refine eP ?_)
    refine sh ?_
    refine cS (fun h3=> ?_) (fun h3=> ?_)
    ·rw[if_pos h3]at hq
     subst hq
     refine sh ?_
     exact rM [0,1,2]
    ·rw[if_neg (by simpa using h3)]at hq
     obtain⟨r,hr,hk⟩:=xn h3
     have hvs:=(ok r (kU hr).1).SA hk
     refine sh ?_
     refine aq.pure h.pM.Ez.hb (Ia h.pM x) rfl ?_
     refine sh ?_
     refine Sw fun i=> ?_
     cases hi:zc t.ins x with
     |some y=>
      rw[hi,if_pos (show (some y).isSome=true from rfl)]at hq
      dsimp only[Option.map_some]
      subst hq
      refine sh ?_
      exact rM [0,1,2]
     |none=>
      rw[hi,if_neg (by simp),hr]at hq
      dsimp only at hq
      dsimp only[Option.map_none]
      refine sh ?_
      refine nB fun i=> ?_
      rw[hr]
      dsimp only[Option.map_some]
      refine sh ?_
      refine gZ 100 (fun k:Nat=>k≤r.a.m.v.length∧∀ (j:Nat) (u:T3),j<k→r.a.m.v[j]? =some u→(de x.t u).2=0) (fun k=>⟨[(0,.loc 2 1 0 0),(3,.loc 3 1 0 0),(50,.aO 3 (bF r.a.m.v)),(51,.int .i64 r.a.m.v.length),(52,.int .i64 k)],[(3,.var (R.ty 44) x.row),(0,.map 1 false true d1 41 (jm t.rows)),(1,.map 4 true true d2 16 (ki t.ins)),(2,.var (R.ty 47) [.omap 0,.omap 1])],4⟩) (fun k=>r.a.m.v.length - k) (0) ?_ ?_
      ·exact⟨Nat.zero_le _,fun j u hj=>absurd hj (Nat.not_lt_zero j)⟩
      ·intro k hk
       dsimp only
       have hlen:=hvs.1
       refine sh ?_
       refine cS (fun h4=> ?_) (fun h4=> ?_)
       ·obtain⟨v,hv⟩:∃u_,r.a.m.v[k]? =some u_:=⟨_,List.getElem?_eq_getElem (by first|omega|(simp<;>omega))⟩
        refine sh ?_
        refine ah hv ?_
        refine sh ?_
        refine aq.pure h.n241.rD.hb (eB h.n241 hx (MM (hvs.2 v (List.mem_of_getElem? hv)))) rfl ?_
        refine sh ?_
        refine cS (fun h5=> ?_) (fun h5=> ?_)
        ·rw[if_pos (by rw[Ay hv hk.2 h5]; exact h5),Ay hv hk.2 h5]at hq
         subst hq
         refine sh ?_
         exact rM [0,1,2]
        ·refine sh ?_
         refine r8 (k+1) ?_ ?_
         ·refine⟨by omega,fun j u hj hu=> ?_⟩
          by_cases e:j=k
          ·subst e
           rw[hv]at hu
           cases hu
           exact h5
          ·exact hk.2 j u (by omega) hu
         ·omega
       ·rw[Cl (fun j u hj=>hk.2 j u (by omega)),if_neg (by simp)]at hq
        refine sh ?_
        refine aq.pure h.pM.Ez.hb (Ia h.pM x) rfl ?_
        refine sh ?_
        refine Sw fun i=> ?_
        rw[hi]
        dsimp only[Option.map_none]
        subst hq
        refine sh ?_
        refine rM [0,1,2] ?_
        all_goals repeat' (first|exact True.intro|refine And.intro ?_ ?_|(intro _u; clear _u)|(with_reducible first|exact aw.fg|refine eM ?_ ?_|refine eF ?_ ?_ ?_|refine eN ?_|refine eL ?_ ?_ ?_|refine eA ?_ ?_|refine az.mk ⟨_,hp,rfl⟩ ?_ ?_)|refine az.mk ⟨_,hp,rfl⟩ ?_ ?_)
        all_goals try first|with_reducible rfl|omega|exact .inl (by decide)|(simp; done)|rfl
        all_goals (simp[ki,In.row])
end Go.UM
namespace Go.UM
open Go.AM
set_option maxRecDepth 4000
def se (hd:Int) (x:In):Bool:=(x.cC==hd||x.fJ==hd)||x.dS==hd
def nF (l:List Bool):Nat:=l.countP fun b=> !b
theorem Fe {l:List Bool} {i:Nat} (h:l[i]? =some false):nF (l.set i true)+1=nF l:=by
 unfold nF
 induction l generalizing i with
 |nil=>simp at h
 |cons a r ih=>
  cases i with
  |zero=>simp at h; subst h; simp
  |succ i=>
   have:=ih (i:=i) (by simpa using h)
   simp only[List.set_cons_succ,List.countP_cons]; omega
structure Jp (p:In→Bool) (l0 l:List In) (sn:List Bool):Prop where
 len:sn.length=l.length
 fl:l.filter (fun x=> !p x)=l0.filter (fun x=> !p x)
 nd:l.Pairwise (fun a b=>iI a b=false)
 sn:∀ (i:Nat) (x:In),l[i]? =some x→sn[i]? =some true→p x=false
theorem Jp.sC {p:In→Bool} {l0 l:List In} {sn:List Bool} {i:Nat} {x:In} (h:Jp p l0 l sn) (hx:l[i]? =some x) (hp:p x=false):Jp p l0 l (sn.set i true):=by
 refine⟨by rw[List.length_set]; exact h.len,h.fl,h.nd,fun j y hy hs=> ?_⟩
 by_cases e:i=j
 ·subst e; rw[hx]at hy; cases hy; exact hp
 ·exact h.sn j y hy (by rw[List.getElem?_set_ne e]at hs; exact hs)
theorem Jp.drop {p:In→Bool} {l0 l:List In} {sn:List Bool} {i:Nat} {x:In} (h:Jp p l0 l sn) (hx:l[i]? =some x) (hp:p x=true):Jp p l0 (l.eraseIdx i) ((sn.set i true).eraseIdx i):=by
 have hi:i<l.length:=(List.getElem?_eq_some_iff.1 hx).1
 refine⟨?_,?_,h.nd.sublist (List.eraseIdx_sublist _ _),fun j y hy hs=> ?_⟩
 ·rw[List.length_eraseIdx,List.length_eraseIdx,List.length_set,h.len]
 ·rw[←h.fl]
  have e1:l=l.take i++x::l.drop (i+1):=by
   rw[←(List.getElem?_eq_some_iff.1 hx).2,List.getElem_cons_drop,List.take_append_drop]
  have e2:l.eraseIdx i=l.take i++l.drop (i+1):=List.eraseIdx_eq_take_drop_succ ..
  rw[e2]
  conv=>rhs; rw[e1]
  simp[List.filter_append,List.filter_cons,hp]
 ·rw[List.getElem?_eraseIdx]at hy hs
  split at hy
  ·rename_i hlt
   rw[if_pos hlt,List.getElem?_set_ne (by omega)]at hs
   exact h.sn j y hy hs
  ·rename_i hlt
   rw[if_neg hlt,List.getElem?_set_ne (by omega)]at hs
   exact h.sn (j+1) y hy hs
theorem Jp.done {p:In→Bool} {l0 l:List In} {sn:List Bool} (h:Jp p l0 l sn) (ha:∀q ∈ sn,q=true):l=l0.filter (fun x=> !p x):=by
 rw[←h.fl,List.filter_eq_self.2]
 intro x hx
 obtain⟨i,hi,rfl⟩:=List.getElem_of_mem hx
 have hi':i<sn.length:=by rw[h.len]; exact hi
 rw[h.sn i l[i] (List.getElem?_eq_getElem hi) (by rw[List.getElem?_eq_getElem hi',ha _ (List.getElem_mem hi')])]; rfl
theorem Ff {l:List In} {i:Nat} {row:List AV} (h:(ki l)[i]? =some row):∃x,l[i]? =some x∧row=x.row:=by
 unfold ki at h
 rw[List.getElem?_map]at h
 obtain⟨x,h1,h2⟩:=Option.map_eq_some_iff.1 h
 exact⟨x,h1,h2.symm⟩
def Ie (t:Tb) (hd:Int):Tb × Int:=if (cX t.rows hd).isSome=true then (⟨t.rows.eraseP fun r=>r.h==hd,t.ins.filter fun x=> !se hd x⟩,0)else (t,11)
end Go.UM
namespace Go.UM
open Go.AM Go.Shelf Go.RowKit Go.Lib Go.Sort Go.Proofs
section
variable {α:Type} [Inhabited α]
def po (ap:α→List Int) (x:α):List Value:=(ap x).map (Value.int .i64)
def ek (ap:α→List Int) (x:α):List AV:=(ap x).map (AV.int .i64)
structure lv (P:Program) (f g k:Nat) (ap:α→List Int) (cf:α→α→Int) (gl:List α→List α):Prop where
 nil:∀ (p:Option Addr) (cap:Nat) (fv:Value) (w:World),Calls P f #[.slice p 0 cap,fv] w fun e w'=>e= .returned (.tuple #[])∧w'=w
 row:∀ (bg cap:Nat) (l:List α) (w:World),CmpLays P g #[] (po ap) k cf bg 0 l.length w→HoldsK (po ap) k w bg 0 l.toArray→bg<w.heap.size→l.length<4611686018427387904→
  Calls P f #[.slice (some ⟨bg,0,none⟩) l.length cap,.func (.func g) #[] #[]] w fun e w'=>e= .returned (.tuple #[])∧∃n os,w'=sortWorldK (po ap) k w bg 0 n (gl l).toArray os
theorem Fg {ρ:AM.Place} {L:bn} {I:Nat→Prop} {w:World} {N:Nat→Prop} {n:Int} {v:Value} (h:aS ρ L I w N (.int .i64 n) v):v= .int .i64 n:=by cases h; rfl
omit [Inhabited α] in
theorem Az {ρ:AM.Place} {L:bn} {I:Nat→Prop} {w:World} {N:Nat→Prop} (ap:α→List Int) (x:α):aS ρ L I w N (.agg (ek ap x)) (.agg (po ap x).toArray):=by
 refine .agg _ _ (by simp[ek,po]) (fun u hu=> ?_) fun j hj=> ?_
 ·obtain⟨n,_,rfl⟩:=List.mem_map.1 hu; rfl
 ·have hj':j< (ap x).length:=by simpa[ek]using hj
  simp only[ek,po,List.getD_eq_getElem?_getD,List.getElem?_map,List.getElem?_eq_getElem hj',Option.map_some,Option.getD_some]
  exact .int _ _
theorem If {w w1:World} (h:ZS w w1):∃q os,w1=grow (w.drewN q) os:=by
 refine⟨w1.drawn - w.drawn,w1.heap.extract w.heap.size w1.heap.size,?_⟩
 obtain⟨heap,tape,drawn,os,output⟩:=w
 obtain⟨Fh,Zw,zj,os1,TS⟩:=w1
 obtain⟨⟨h1,h2,h3,h4,h5⟩,h6⟩:=h
 simp only at h1 h2 h3 h4 h5 h6
 subst h1; subst h2; subst h3
 have e1:Fh=heap++Fh.extract heap.size Fh.size:=by
  apply Array.ext_getElem?
  intro i
  by_cases hi:i<heap.size
  ·rw[Array.getElem?_append_left hi]; exact h5 i hi
  ·rw[Array.getElem?_append_right (by omega),Array.getElem?_extract]
   have e:heap.size+ (i - heap.size)=i:=by omega
   rw[e]
   split
   ·rfl
   ·rw[Array.getElem?_eq_none (by omega)]
 have h6:drawn≤zj:=h6
 have e2:zj=drawn+ (zj - drawn):=by omega
 simp only[grow,World.drewN]
 rw[←e1,←e2]
theorem Fi {P:Program} {g k:Nat} {ap:α→List Int} {cf:α→α→Int} (h:∀x y,x0 P g [.agg (ek ap x),.agg (ek ap y)] (.int .i64 (cf x y))) (bg size:Nat) (w:World):CmpLays P g #[] (po ap) k cf bg 0 size w:=by
 intro m os dk hdk x y
 refine (h x y cE (sortWorldK (po ap) k w bg 0 m dk os) [.agg (po ap x).toArray,.agg (po ap y).toArray] (fun _ h=>h.elim) ⟨rfl,fun j hj=> ?_⟩).mono ?_
 ·match j,hj with
  |0,_=>exact Az ap x
  |1,_=>exact Az ap y
 ·rintro e w' ⟨v,I1,rfl,hb,_,_,_,hr⟩
  rw[Fg hr]
  obtain⟨q,os',e⟩:=If hb
  exact⟨rfl,q,os',e⟩
omit [Inhabited α] in
theorem nE {ap:α→List Int} {k:Nat} (hk:∀x,(ap x).length=k) (x:α) {j:Nat} (hj:j<k):(po ap x)[j]! = .int .i64 ((ap x)[j]'(by rw[hk]; exact hj))∧(ek ap x).getD j .bad= .int .i64 ((ap x)[j]'(by rw[hk]; exact hj)):=by
 have hj':j< (ap x).length:=by rw[hk]; exact hj
 constructor
 ·rw[getElem!_pos _ j (by simpa[po]using hj')]; simp[po]
 ·simp[ek,List.getD_eq_getElem?_getD,hj']
theorem vp {ap:α→List Int} {k:Nat} (l:List α) {i j:Nat} (hi:i<l.length) (hj:j<k):(flatK (po ap) k l.toArray)[i*k+j]! =(po ap l[i])[j]! :=by
 have hlt:i*k+j<l.length*k:=by
  have:(i+1)*k≤l.length*k:=Nat.mul_le_mul_right _ hi
  rw[Nat.add_mul,Nat.one_mul]at this; omega
 rw[get_flatK _ _ _ _ (by simpa using hlt)]
 have e1:(i*k+j) / k=i:=by rw[Nat.add_comm,Nat.add_mul_div_right _ _ (by omega),Nat.div_eq_of_lt hj,Nat.zero_add]
 have e2:(i*k+j) % k=j:=by rw[Nat.add_comm,Nat.add_mul_mod_self_right,Nat.mod_eq_of_lt hj]
 rw[e1,e2,getElem!_pos l.toArray i (by simpa using hi)]
 simp
omit [Inhabited α] in
theorem xo {ap:α→List Int} (l:List α) {i:Nat} (hi:i<l.length):(l.map (ek ap)).getD i []=ek ap l[i]:=by
 simp[List.getD_eq_getElem?_getD,hi]
structure xp (P:Program) (f k:Nat) (ap:α→List Int) (gl:List α→List α) (ea:List AV) (ev:List Value):Prop where
 ex:∀ (ρ:AM.Place) (L:bn) (I:Nat→Prop) (w:World) (N:Nat→Prop) (vs:List Value),dp ρ L I w N ea vs→vs=ev
 nil:∀ (p:Option Addr) (cap:Nat) (w:World),Calls P f (.slice p 0 cap::ev).toArray w fun e w'=>e= .returned (.tuple #[])∧w'=w
 row:∀ (bg cap:Nat) (l:List α) (w:World),HoldsK (po ap) k w bg 0 l.toArray→bg<w.heap.size→l.length<4611686018427387904→
  Calls P f (.slice (some ⟨bg,0,none⟩) l.length cap::ev).toArray w fun e w'=>e= .returned (.tuple #[])∧∃n os,w'=sortWorldK (po ap) k w bg 0 n (gl l).toArray os
theorem lv.e {P:Program} {f g k:Nat} {ap:α→List Int} {cf:α→α→Int} {gl:List α→List α} (S:lv P f g k ap cf gl) (hcmp:∀x y,x0 P g [.agg (ek ap x),.agg (ek ap y)] (.int .i64 (cf x y))):
  xp P f k ap gl [.bW (.fn g) []] [.func (.func g) #[] #[]]:=by
 refine⟨fun ρ L I w N vs h=> ?_,fun p cap w=>S.nil p cap _ w,fun bg cap l w hH hb hl=>S.row bg cap l w (Fi hcmp bg l.length w) hH hb hl⟩
 obtain⟨hl,hr⟩:=h
 match vs,hl with
 |[v],_=>
  have r1:aS ρ L I w N (.bW (.fn g) []) v:=hr 0 (by simp)
  cases r1 with
  |bW _ _ us hu _=>
   obtain rfl:=List.eq_nil_of_length_eq_zero hu
   rfl
theorem Fj {R:Env} {f k ty:Nat} {ap:α→List Int} {gl:List α→List α} {ea:List AV} {ex:List Value} (hb:cx R.P (R.ft f)) (S:xp R.P (R.ft f) k ap gl ea ex) (hk:∀x,(ap x).length=k) (Nz:0<k)
  (hlen:∀l,(gl l).length=l.length) (l:List α) (hl:l.length<4611686018427387904):
  R.Mc f (.bh 0 l.length::ea) [(0,.arr ty k (l.map (ek ap)))] (.aU []) [(0,.arr ty k ((gl l).map (ek ap)))] 1:=by
 refine⟨hb,fun w I ρ vs hW hr=> ?_,rfl⟩
 have W:=hW 0
 obtain⟨hvl,hr⟩:=hr
 obtain⟨v0,r,rfl⟩:∃v0 r,vs=v0::r:=by
  match vs,hvl with
  |a::r,_=>exact⟨a,r,rfl⟩
 have r0:aS ρ (lens (ae (aC [(0,.arr ty k (l.map (ek ap)))]))) I w (· <1) (.bh 0 l.length) v0:=hr 0 (by simp)
 obtain rfl:=S.ex _ _ _ _ _ r ⟨by simpa using hvl,fun j hj=>by have:=hr (j+1) (by simpa using hj); simpa using this⟩
 have hM:ae (aC [(0,bN.arr ty k (l.map (ek ap)))]) 0=some ⟨ty,k,l.map (ek ap),none⟩:=rfl
 have B:=W.bg 0 _ hM
 have done:∀ (w1:World),l=[]→w1=w→∃v,Ending.returned (.tuple #[])= .returned v∧∃ρ1 I1 s,cY ⟨w,1,I,s,ρ,lens (ae (aC [(0,.arr ty k (l.map (ek ap)))]))⟩ ρ1 I1 (ae (aC [(0,.arr ty k ((gl l).map (ek ap)))])) (· <1) w1∧aS ρ1 (lens (ae (aC [(0,.arr ty k ((gl l).map (ek ap)))]))) I1 w1 (· <1) (.aU []) v:=by
  rintro w1 rfl rfl
  have:gl []=[]:=List.eq_nil_of_length_eq_zero (by rw[hlen]; rfl)
  rw[this]
  exact⟨_,rfl,ρ,I,0,W,.aU [] [] rfl (fun j hj=>by simp at hj)⟩
 cases r0 with
 |bh _ _ _ hn h1 h=>
  rcases (h l.length k (by rw[aH]; exact⟨_,hM,by simp[bu.ln],rfl⟩)).2 rfl with⟨hv,q,rfl⟩|⟨gb,cap,hρ,rfl⟩
  ·have he:l=[]:=by have:=B.dY hv; simpa using this
   refine (S.nil q 0 w).mono ?_
   rintro e w' ⟨rfl,h⟩
   exact done w' he h
  ·by_cases he:l=[]
   ·have e0:l.length=0:=by rw[he]; rfl
    rw[e0]
    refine (S.nil (some ⟨gb,0,none⟩) cap w).mono ?_
    rintro e w' ⟨rfl,h⟩
    exact done w' he h
   ·obtain⟨cs,fr,oy,lX,pw,hown,hlc,lI,hcs,hcell⟩:=B.real gb cap hρ
    have oy:w.heap[gb]? =some (.cells cs ty fr):=oy
    have hlc:l.length≤cap:=by simpa using hlc
    have hcs:cs.size=cap*k:=hcs
    have hlt:=(Array.getElem?_eq_some_iff.1 oy).1
    have hH:HoldsK (po ap) k w gb 0 l.toArray:=by
     intro t ht
     have ht':t<l.length*k:=by simpa using ht
     have hi:t / k<l.length:=by rw[Nat.div_lt_iff_lt_mul Nz]; exact ht'
     have hj:t % k<k:=Nat.mod_lt _ Nz
     have et:t / k*k+t % k=t:=by rw[Nat.mul_comm]; exact Nat.div_add_mod t k
     obtain⟨u,hu,_,Cm⟩:=hcell (t / k) (t % k) (by simpa using hi) hj
     rw[show ((⟨ty,k,l.map (ek ap),none⟩:bu).es.getD (t / k) [])=ek ap l[t / k]from xo l hi,(nE hk l[t / k] hj).2]at Cm
     have zH:=Fg Cm
     have ef:=vp (ap:=ap) (k:=k) l hi hj
     rw[et]at ef
     have hu:cs[t]? =some u:=by rw[←et]; exact hu
     refine⟨?_,?_⟩
     ·rw[ef,(nE hk l[t / k] hj).1,Nat.zero_add]
      simp only[World.cell?,oy,Option.isSome_none,Bool.false_eq_true,if_false,id]
      rw[hu,zH]
     ·have hf:=lX t (Array.getElem?_eq_some_iff.1 hu).1
      simp only[World.frozen?,oy,Nat.zero_add]
      simp
      omega
    refine (S.row gb cap l w hH hlt hl).mono ?_
    rintro e w' ⟨rfl,n,os,SB⟩
    have hheap:w'.heap=(w.heap.modify gb (onCells (putCells id 0 (flatK (po ap) k (gl l).toArray))))++os:=by rw[SB]; rfl
    have hat:∀q,q<w.heap.size→w'.heap[q]? =(w.heap.modify gb (onCells (putCells id 0 (flatK (po ap) k (gl l).toArray))))[q]? :=fun q hq=>by
     rw[hheap,Array.getElem?_append_left (by simpa using hq)]
    have r4:w'.heap[gb]? =some (.cells (putCells id 0 (flatK (po ap) k (gl l).toArray) cs) ty fr):=by
     rw[hat gb hlt,Array.getElem?_modify,if_pos rfl,oy]; rfl
    have hput:∀t,t<l.length*k→(putCells id 0 (flatK (po ap) k (gl l).toArray) cs)[t]? =some (flatK (po ap) k (gl l).toArray)[t]! :=fun t ht=>by
     have:t<cs.size:=by
      rw[hcs]; exact Nat.lt_of_lt_of_le ht (Nat.mul_le_mul_right _ hlc)
     unfold putCells
     rw[Array.getElem?_mapIdx,Array.getElem?_eq_getElem this,Option.map_some,if_pos (by simp[hlen]; exact ht)]
     simp
    obtain⟨E,W1⟩:=W.put (w':=w') 0 ⟨ty,k,(gl l).map (ek ap),none⟩ gb cap (putCells id 0 (flatK (po ap) k (gl l).toArray) cs) fr (by rw[SB]; rfl) (by rw[SB]; rfl) (by rw[SB]; rfl) (by rw[hheap]; simp)
     (fun q hq hne=>by rw[hat q hq,Array.getElem?_modify,if_neg (fun e=>hne e.symm)]) r4 (fun o ho=>lX o (by simpa[putCells]using ho)) (.inr ⟨cap,hρ,_,hM⟩)
     (fun b0 h0=>by rw[hM]at h0; cases h0; exact⟨rfl,by simp[bu.ln,hlen],fun _=>hρ⟩) (fun _=>⟨_,hM⟩)
     (fun e he=>by obtain⟨x,_,rfl⟩:=List.mem_map.1 he; simp[ek,hk]) (by simpa[hlen]using hlc) lI (by simpa[putCells]using hcs)
     (fun i j hi hj=>by
       have hi':i< (gl l).length:=by simpa using hi
       have hj:j<k:=hj
       have We:i*k+j<l.length*k:=by
        have:(i+1)*k≤l.length*k:=Nat.mul_le_mul_right _ (by rw[hlen]at hi'; exact hi')
        rw[Nat.add_mul,Nat.one_mul]at this; omega
       refine⟨_,hput _ We,?_,?_⟩
       ·rw[vp _ hi' hj,(nE hk _ hj).1]; rfl
       ·rw[vp _ hi' hj,(nE hk _ hj).1,show ((⟨ty,k,(gl l).map (ek ap),none⟩:bu).es.getD i [])=ek ap (gl l)[i]from xo _ hi',(nE hk _ hj).2]
        exact .int _ _)
     (fun _ _ _ _ _ _ h=>by cases h) (by rw[SB]; show w.drawn≤w.drawn+n; omega)
    have e1:cQ (ae (aC [(0,bN.arr ty k (l.map (ek ap)))])) 0 ⟨ty,k,(gl l).map (ek ap),none⟩=ae (aC [(0,.arr ty k ((gl l).map (ek ap)))]):=by
     funext m
     by_cases hm:m=0
     ·subst hm; rfl
     ·have:(m==0)=false:=by simpa using hm
      simp[cQ,hm,aC,ae,this]
    rw[e1]at W1
    exact⟨_,rfl,_,I,0,W1.lJ (fun m hm=>by rcases hm with rfl|hm; exact Nat.zero_lt_one; exact hm),.aU [] [] rfl (fun j hj=>by simp at hj)⟩
theorem Ig {R:Env} {f g k ty:Nat} {ap:α→List Int} {cf:α→α→Int} {gl:List α→List α} (hb:cx R.P (R.ft f)) (S:lv R.P (R.ft f) (R.ft g) k ap cf gl) (hk:∀x,(ap x).length=k) (Nz:0<k)
 (hcmp:∀x y,R.Pc g [.agg (ek ap x),.agg (ek ap y)] (.int .i64 (cf x y))) (hlen:∀l,(gl l).length=l.length) (l:List α) (hl:l.length<4611686018427387904):
 R.Mc f [.bh 0 l.length,.bW (.fn (R.ft g)) []] [(0,.arr ty k (l.map (ek ap)))] (.aU []) [(0,.arr ty k ((gl l).map (ek ap)))] 1:=Fj hb (S.e hcmp) hk Nz hlen l hl
theorem Fk {R:Env} {f g k:Nat} {ap:α→List Int} {cf:α→α→Int} {gl:List α→List α} (S:lv R.P (R.ft f) (R.ft g) k ap cf gl):R.Pc f [.an,.bW (.fn (R.ft g)) []] (.aU []):=by
 intro I w vs hI hr
 obtain⟨hvl,hr⟩:=hr
 obtain⟨v0,v1,rfl⟩:∃v0 v1,vs=[v0,v1]:=by
  match vs,hvl with
  |[a,b],_=>exact⟨a,b,rfl⟩
 have r0:aS cU fB I w cE .an v0:=hr 0 (by simp)
 cases r0
 refine (S.nil Option.none 0 v1 w).mono ?_
 rintro e w' ⟨rfl,rfl⟩
 exact⟨_,I,rfl,⟨Below.refl _ _,Nat.le_refl _⟩,fun _ h=>h,hI,fun _ _ h=>h,.aU [] [] rfl (fun j hj=>by simp at hj)⟩
end
end Go.UM
namespace Go.UM
open Go.AM
set_option maxRecDepth 4000
def mr (x y:Int):Int:=if x<y then -1 else if y<x then 1 else 0
theorem Jq {R:Env} (h:KJ R) (x:Int):R.Pc 468 [.int .i64 x] (.bool false):=
 h.KK.enter 60 rfl fun X bb hfit hp=>by
  refine sh ?_
  exact rT
theorem AA {R:Env} (h:KM R) (x y:Int):R.Pc 451 [.int .i64 x,.int .i64 y] (.int .i64 (mr x y)):=
 h.Ew.enter 100 rfl fun X bb hfit hp=>by
  generalize hq:mr x y=q
  unfold mr at hq
  refine sh ?_
  refine aq.pure h.BU.KK.hb (Jq h.BU x) rfl ?_
  refine sh ?_
  refine aq.pure h.BU.KK.hb (Jq h.BU y) rfl ?_
  refine sh ?_
  refine cS (fun h1=> ?_) (fun h1=> ?_)
  ·rw[if_pos h1]at hq
   subst hq
   refine sh ?_
   exact rT
  ·rw[if_neg (by omega)]at hq
   refine sh ?_
   refine cS (fun h2=> ?_) (fun h2=> ?_)
   ·rw[if_pos h2]at hq
    subst hq
    refine sh ?_
    exact rT
   ·rw[if_neg (by omega)]at hq
    subst hq
    refine sh ?_
    exact rT
def Cn:List Int→Int
 |[]=>0
 |x::r=>if x=0 then Cn r else x
theorem Wf {R:Env} (h:KN R) (l:List Int) (hl:l.length≤1073741824):R.Pc 452 [.aO 1 (aY .i64 l)] (.int .i64 (Cn l)):=
 h.PW.enter 100 rfl fun X bb hfit hp=>by
  refine sh ?_
  refine gZ 100 (fun i:Nat=>i≤l.length∧Cn (l.drop i)=Cn l) (fun i=>⟨[(3,.int .i64 0),(6,.aO 1 (aY .i64 l)),(7,.int .i64 l.length),(8,.int .i64 i)],[],0⟩) (fun i=>l.length - i) (0) ?_ ?_
  ·exact⟨Nat.zero_le _,by simp⟩
  ·intro i hi
   dsimp only
   refine sh ?_
   refine cS (fun h1=> ?_) (fun h1=> ?_)
   ·obtain⟨x,hx⟩:∃u_,l[i]? =some u_:=⟨_,List.getElem?_eq_getElem (by first|omega|(simp<;>omega))⟩
    refine sh ?_
    refine ah hx ?_
    have hd:Cn l=Cn (x::l.drop (i+1)):=by
     rw[←hi.2]
     congr 1
     have:=(List.getElem?_eq_some_iff.1 hx)
     rw[←this.2,List.getElem_cons_drop]
    refine sh ?_
    refine cS (fun h2=> ?_) (fun h2=> ?_)
    ·refine sh ?_
     refine rT ?_
     all_goals repeat' (first|exact True.intro|refine And.intro ?_ ?_|(intro _u; clear _u)|(with_reducible first|exact aw.fg|refine eM ?_ ?_|refine eF ?_ ?_ ?_|refine eN ?_|refine eL ?_ ?_ ?_|refine eA ?_ ?_|refine az.mk ⟨_,hp,rfl⟩ ?_ ?_)|refine az.mk ⟨_,hp,rfl⟩ ?_ ?_)
     all_goals try first|with_reducible rfl|omega|exact .inl (by decide)|(simp; done)|rfl
     rw[hd,Cn,if_neg h2]
    ·refine sh ?_
     refine r8 (i+1) ?_ ?_
     ·exact⟨by omega,by rw[hd,Cn,if_pos (by omega)]⟩
     ·omega
   ·refine sh ?_
    refine rT ?_
    all_goals repeat' (first|exact True.intro|refine And.intro ?_ ?_|(intro _u; clear _u)|(with_reducible first|exact aw.fg|refine eM ?_ ?_|refine eF ?_ ?_ ?_|refine eN ?_|refine eL ?_ ?_ ?_|refine eA ?_ ?_|refine az.mk ⟨_,hp,rfl⟩ ?_ ?_)|refine az.mk ⟨_,hp,rfl⟩ ?_ ?_)
    all_goals try first|with_reducible rfl|omega|exact .inl (by decide)|(simp; done)|rfl
    rw[←hi.2,List.drop_eq_nil_of_le (by omega)]; rfl
def pO (x y:In):Int:=Cn [mr x.cC y.cC,mr x.fJ y.fJ,mr x.dS y.dS,mr x.n y.n]
theorem Ih {R:Env} (h:LH R) (x y:In):R.Pc 450 [.agg [.int .i64 x.cC,.int .i64 x.fJ,.int .i64 x.dS,.int .i64 x.n],.agg [.int .i64 y.cC,.int .i64 y.fJ,.int .i64 y.dS,.int .i64 y.n]] (.int .i64 (pO x y)):=
 h.Rs.enter 100 rfl fun X bb hfit hp=>by
  refine sh ?_
  refine aq.pure h.sJ.Ew.hb (AA h.sJ x.cC y.cC) rfl ?_
  refine sh ?_
  refine aq.pure h.sJ.Ew.hb (AA h.sJ x.fJ y.fJ) rfl ?_
  refine sh ?_
  refine aq.pure h.sJ.Ew.hb (AA h.sJ x.dS y.dS) rfl ?_
  refine sh ?_
  refine aq.pure h.sJ.Ew.hb (AA h.sJ x.n y.n) rfl ?_
  refine sh ?_
  refine cM true [] ((Wf h.HA [mr x.cC y.cC,mr x.fJ y.fJ,mr x.dS y.dS,mr x.n y.n] (by simp)).mc h.HA.PW.hb) ?_
  repeat (intro _; first|refine eK ?_|refine eP ?_)
  refine sh ?_
  exact rT
theorem MO {R:Env} (h:LI R) (x y:In):R.Pc 436 [.agg x.row,.agg y.row] (.int .i64 (pO x y)):=
 h.VU.enter 100 rfl fun X bb hfit hp=>by
  refine sh ?_
  refine aq.pure h.pM.Ez.hb (Ia h.pM x) rfl ?_
  refine sh ?_
  refine aq.pure h.pM.Ez.hb (Ia h.pM y) rfl ?_
  refine sh ?_
  refine aq.pure h.HB.Rs.hb (Ih h.HB x y) rfl ?_
  refine sh ?_
  exact rT
def inN (x:In):List Int:=[x.cC,x.fJ,x.dS,x.n,x.t.m0,x.t.m1,x.t.m2,x.t.m3,x.t.m4,x.t.m5,x.t.m6,x.t.m7,x.t.m8,x.t.t.a,x.t.t.b,x.t.t.c]
def vA:List In→List Bool→List In
 |x::l,b::sn=>if b=true then x::vA l sn else vA l sn
 |_,_=>[]
theorem xq:∀l:List In,vA l ((ki l).map fun _=>false)=[]
 |[]=>rfl
 |x::l=>by
  show (if false=true then x::vA l ((ki l).map fun _=>false)else vA l ((ki l).map fun _=>false))=[]
  rw[if_neg (by simp)]; exact xq l
theorem AB:∀ {l:List In} {sn:List Bool},sn.length=l.length→(∀q ∈ sn,q=true)→vA l sn=l
 |[],[],_,_=>rfl
 |x::l,b::sn,h,ha=>by
  rw[vA,if_pos (ha b (by simp)),AB (by simpa using h) fun q hq=>ha q (by simp[hq])]
 |[],_::_,h,_=>by simp at h
 |_::_,[],h,_=>by simp at h
theorem AC:∀ (l:List In) (sn:List Bool),(vA l sn).length≤l.length
 |x::l,b::sn=>by
  have:=AC l sn
  rw[vA]; split<;>simp only[List.length_cons]<;>omega
 |[],_=>by simp[vA]
 |_::_,[]=>by simp[vA]
theorem vq:∀ {l:List In} {sn:List Bool} {i:Nat} {x:In},l[i]? =some x→sn[i]? =some false→(x::vA l sn).Perm (vA l (sn.set i true))
 |[],_,i,x,h,_=>by simp at h
 |_::_,[],i,x,_,h=>by simp at h
 |y::l,b::sn,0,x,h,hs=>by
  simp at h hs; subst h; subst hs
  rw[List.set_cons_zero,vA,vA,if_neg (by simp),if_pos rfl]
 |y::l,b::sn,i+1,x,h,hs=>by
  have ih:=vq (l:=l) (sn:=sn) (i:=i) (x:=x) (by simpa using h) (by simpa using hs)
  rw[List.set_cons_succ,vA,vA]
  by_cases hb:b=true
  ·rw[if_pos hb,if_pos hb]
   exact (List.Perm.swap y x _).trans (ih.cons y)
  ·rw[if_neg hb,if_neg hb]; exact ih
theorem AD {a b:Int} {r:List Int}:Cn (mr a b::r)<0↔a<b∨(a=b∧Cn r<0):=by
 show (if mr a b=0 then Cn r else mr a b)<0↔_
 unfold mr
 by_cases h1:a<b
 ·rw[if_pos h1,if_neg (by omega)]; omega
 ·rw[if_neg h1]
  by_cases h2:b<a
  ·rw[if_pos h2,if_neg (by omega)]; omega
  ·rw[if_neg h2,if_pos rfl]; omega
theorem j8 {x y:In}:pO x y<0↔x.cC<y.cC∨x.cC=y.cC∧(x.fJ<y.fJ∨x.fJ=y.fJ∧(x.dS<y.dS∨x.dS=y.dS∧x.n<y.n)):=by
 unfold pO
 rw[AD,AD,AD,AD]
 simp[Cn]
theorem oz {x y:In}:iI x y=true↔x.cC=y.cC∧x.fJ=y.fJ∧x.dS=y.dS∧x.n=y.n:=by simp[iI]
def leI (x y:In):Bool:=decide (¬pO y x<0)
theorem nG {x y:In}:leI x y=true↔¬pO y x<0:=by simp[leI]
theorem Co (x y:In):(leI x y||leI y x)=true:=by
 rw[Bool.or_eq_true,nG,nG,j8,j8]; omega
theorem Cp (x y z:In) (h1:leI x y=true) (h2:leI y z=true):leI x z=true:=by
 rw[nG,j8]at h1 h2 ⊢; omega
theorem xr {x y:In} (h1:leI x y=true) (h2:leI y x=true):iI x y=true:=by
 rw[nG,j8]at h1 h2
 rw[oz]; omega
def je (l:List In):List In:=l.mergeSort leI
structure Jr (gl:List In→List In):Prop where
 perm:∀l,(gl l).Perm l
 ord:∀l,(gl l).Pairwise fun x y=>leI x y=true
theorem Jr.eq {gl:List In→List In} (S:Jr gl) {out l:List In} (nd:l.Pairwise fun a b=>iI a b=false) (h:out.Perm l):gl out=je l:=by
 refine List.Perm.eq_of_pairwise (le:=fun x y=>leI x y=true) ?_ (S.ord out) (List.pairwise_mergeSort Cp Co l) ((S.perm out).trans (h.trans (List.mergeSort_perm l leI).symm))
 intro a b ha hb h1 h2
 have SC:a ∈ l:=h.mem_iff.1 ((S.perm out).mem_iff.1 ha)
 have hb':b ∈ l:=(List.mergeSort_perm l leI).mem_iff.1 hb
 have hs:=xr h1 h2
 have hs':iI b a=true:=xr h2 h1
 obtain⟨i,hi,rfl⟩:=List.getElem_of_mem SC
 obtain⟨j,hj,rfl⟩:=List.getElem_of_mem hb'
 rw[List.pairwise_iff_getElem]at nd
 rcases Nat.lt_trichotomy i j with h|h|h
 ·rw[nd i j hi hj h]at hs; cases hs
 ·subst h; rfl
 ·rw[nd j i hj hi h]at hs'; cases hs'
instance:Inhabited In:=⟨⟨0,0,0,0,⟨0,0,0,0,0,0,0,0,0,⟨0,0,0⟩⟩⟩⟩
abbrev xu (R:Env) (gl:List In→List In):Prop:=lv R.P (R.ft 435) (R.ft 436) 16 inN pO gl
set_option maxHeartbeats 2000000 in
theorem Fl {R:Env} (h:LJ R) (gl:List In→List In) (S:xu R gl) (hs:Jr gl) (d1 d2:Bool) (t:Tb) (nd:t.ins.Pairwise fun a b=>iI a b=false) (hn:t.ins.length≤1000000):
  R.Mc 419 [.loc 2 1 0 0] (gJ R d1 d2 t) (.bh 3 (je t.ins).length) (gJ R d1 false t++ [(3,.arr (R.ty 44) 16 (ki (je t.ins)))]) 4:=
 h.VV.cr 100 3 rfl rfl rfl fun X bb hfit hp=>by
  unfold gJ
  refine sh ?_
  refine cM false [0,1,2] (nC h.ml d1 d2 t) ?_
  repeat (intro _; first|refine eK ?_|refine eP ?_)
  refine sh ?_
  refine⟨fun r=> ?_⟩
  refine sh ?_
  refine gZ 100 (Sum.elim (fun s:List Bool=>s=(ki t.ins).map fun _=>false) (fun s:List Bool × Option Nat × List In=>s.1.length=t.ins.length∧s.2.2.Perm (vA t.ins s.1))) (Sum.elim (fun s=>⟨[(3,.an),(12,.lW 1 r)],[(0,.map 1 false true d1 41 (jm t.rows)),(1,.map 4 true true (.it r s none) 16 (ki t.ins)),(2,.var (R.ty 47) [.omap 0,.omap 1])],3⟩) (fun s=>⟨[(3,.bh 3 s.2.2.length),(12,.lW 1 r)],[(0,.map 1 false true d1 41 (jm t.rows)),(1,.map 4 true true (.it r s.1 s.2.1) 16 (ki t.ins)),(2,.var (R.ty 47) [.omap 0,.omap 1]),(3,.arr (R.ty 44) 16 (ki s.2.2))],4⟩)) (Sum.elim (fun s=>nF s) (fun s=>nF s.1)) (.inl ((ki t.ins).map fun _=>false)) ?_ ?_
  ·rfl
  ·rintro (sn|⟨sn,la,out⟩) hv
   ·dsimp only[Sum.elim_inl]at hv ⊢
    refine sh ?_
    refine⟨rfl,fun h1 h2=> ?_,fun i row h1 h2 h3=> ?_⟩
    ·have e:t.ins=[]:=by
      subst hv
      cases hl:t.ins with
      |nil=>rfl
      |cons x l=>rw[hl]at h1; have:=h1 false (by simp[ki]); cases this
     have hr:=e
     refine sh ?_
     refine aq.pure h.HC.PQ.hb (Fk S) rfl ?_
     rw[e,show je []=[]from by simp[je]]
     refine sh ?_
     exact rM [0,1,2,50]
    ·obtain⟨x,hx,rfl⟩:=Ff h1
     refine sh ?_
     refine⟨⟨rfl,i,x.row,rfl,h1,?_⟩⟩
     refine sh ?_
     refine nR [0,1,2,6] (.inr (sn.set i true,some i,[x])) ?_ ?_
     ·refine⟨by rw[List.length_set]; simpa using h3,?_⟩
      have:=vq hx h2
      rw[hv,xq]at this
      rw[hv]; exact this
     ·have:=Fe h2
      show nF (sn.set i true)<nF sn
      omega
   ·dsimp only[Sum.elim_inr]at hv ⊢
    refine sh ?_
    refine⟨rfl,fun h1 h2=> ?_,fun i row h1 h2 h3=> ?_⟩
    ·have e:out.Perm t.ins:=by have:=hv.2; rwa[AB hv.1 h1]at this
     have e2:=hs.eq nd e
     have el:out.length=(je t.ins).length:=by rw[←e2,(hs.perm out).length_eq]
     have c:R.Mc 435 [.bh 0 out.length,.bW (.fn (R.ft 436)) []] [(0,.arr (R.ty 44) 16 (ki out))] (.aU []) [(0,.arr (R.ty 44) 16 (ki (je t.ins)))] 1:=by
      rw[←e2]
      exact Ig (ty:=R.ty 44) h.HC.PQ.hb S (fun _=>rfl) (by omega) (fun x y=>MO h.LL x y) (fun l=>(hs.perm l).length_eq) out (by rw[e.length_eq]; omega)
     refine sh ?_
     refine cM false [3] (c) ?_
     repeat (intro _; first|refine eK ?_|refine eP ?_)
     refine sh ?_
     exact rM [0,1,2,3]
    ·obtain⟨x,hx,rfl⟩:=Ff h1
     have hb:out.length≤1000000:=by
      have:=hv.2.length_eq
      have:=AC t.ins sn
      omega
     refine sh ?_
     refine⟨⟨rfl,i,x.row,rfl,h1,?_⟩⟩
     refine sh ?_
     refine nX (.inr (sn.set i true,some i,out++ [x])) ?_ ?_ ⟨_,hp,rfl⟩ ?_ ?_
     ·refine⟨by rw[List.length_set]; exact hv.1,?_⟩
      exact (List.perm_append_singleton x out).trans ((hv.2.cons x).trans (vq hx h2))
     ·have:=Fe h2
      show nF (sn.set i true)<nF sn
      omega
     ·all_goals repeat' (first|exact True.intro|refine And.intro ?_ ?_|(intro _u; clear _u)|(with_reducible first|exact aw.fg|refine eM ?_ ?_|refine eF ?_ ?_ ?_|refine eN ?_|refine eL ?_ ?_ ?_|refine eA ?_ ?_|refine az.mk ⟨_,hp,rfl⟩ ?_ ?_)|refine az.mk ⟨_,hp,rfl⟩ ?_ ?_)
      all_goals try first|with_reducible rfl|omega|exact .inl (by decide)|(simp; done)|rfl
     ·all_goals repeat' (first|exact True.intro|refine And.intro ?_ ?_|(intro _u; clear _u)|(with_reducible first|exact aw.fg|refine eM ?_ ?_|refine eF ?_ ?_ ?_|refine eN ?_|refine eL ?_ ?_ ?_|refine eA ?_ ?_|refine az.mk ⟨_,hp,rfl⟩ ?_ ?_)|refine az.mk ⟨_,hp,rfl⟩ ?_ ?_)
      all_goals try first|with_reducible rfl|omega|exact .inl (by decide)|(simp; done)|rfl
      all_goals first|exact (yY out [x]).symm|(right; simp[In.row])
end Go.UM
namespace Go.UM
open Go.AM
set_option maxRecDepth 4000
structure Ac where
 k:Int
 h:Int
 f:Mf
 a:As
 i:In
def Ac.row (c:Ac):List AV:=[.int .i64 c.k,.int .i64 c.h,.int .u64 c.f.id,.int .i64 c.f.kind,.int .u32 c.f.label,.int .u8 c.f.m0,.int .u8 c.f.m1,.int .u8 c.f.m2,.int .u8 c.f.m3,.int .u8 c.f.m4,.int .u8 c.f.m5,.int .u8 c.f.m6,.int .u8 c.f.m7,
 .int .u32 c.f.first,.int .u32 c.f.last,.int .i64 c.f.size,.int .i64 c.f.chunks,.int .i64 c.a.k,.aO 3 (bF c.a.m.v),.aO 2 (cW c.a.m.uv),.aO 3 (bF c.a.m.t),.int .i64 c.a.x.side,.aO 3 (bF c.a.x.t),
 .int .i64 c.a.mt.k,.int .i64 c.a.mt.c.a,.int .i64 c.a.mt.c.b,.int .i64 c.a.mt.c.c,.int .i64 c.a.mt.r,
 .int .i64 c.a.li.k,.int .i64 c.a.li.c.a,.int .i64 c.a.li.c.b,.int .i64 c.a.li.c.c,.int .i64 c.a.li.p.a,.int .i64 c.a.li.p.b,.int .i64 c.a.li.p.c,.int .i64 c.a.li.u.a,.int .i64 c.a.li.u.b,.int .i64 c.a.li.u.c,.int .i64 c.a.li.v.a,.int .i64 c.a.li.v.b,.int .i64 c.a.li.v.c,
 .int .i64 c.i.cC,.int .i64 c.i.fJ,.int .i64 c.i.dS,.int .i64 c.i.n,.int .i64 c.i.t.m0,.int .i64 c.i.t.m1,.int .i64 c.i.t.m2,.int .i64 c.i.t.m3,.int .i64 c.i.t.m4,.int .i64 c.i.t.m5,.int .i64 c.i.t.m6,.int .i64 c.i.t.m7,.int .i64 c.i.t.m8,.int .i64 c.i.t.t.a,.int .i64 c.i.t.t.b,.int .i64 c.i.t.t.c]
def As.sa (a:As):As:=⟨a.k,a.m.sa,⟨a.x.side,a.x.t.take 260⟩,a.mt,a.li⟩
def Ac.sa (c:Ac):Ac:=⟨c.k,c.h,c.f,c.a.sa,c.i⟩
structure rS (t:Tb) (n:Nat):Prop where
 row:∀r ∈ t.rows,kT r
 nd:t.ins.Pairwise fun a b=>iI a b=false
 rd:t.rows.Pairwise fun a b=>a.h≠b.h
 rl:t.rows.length≤n
 il:t.ins.length≤n
end Go.UM
namespace Go.UM
open Go.AM
set_option maxRecDepth 4000
instance {l:List Rw}:iF (vo l) l.length:=⟨mn l⟩
theorem rS.mono {t:Tb} {n m:Nat} (h:rS t n) (k:n≤m):rS t m:=⟨h.row,h.nd,h.rd,Nat.le_trans h.rl k,Nat.le_trans h.il k⟩
theorem Fm:rS ⟨[],[]⟩ 0:=⟨fun r h=>by simp at h,.nil,.nil,Nat.le_refl _,Nat.le_refl _⟩
theorem zk (x y:In):iI x y=iI y x:=by
 rw[Bool.eq_iff_iff,oz,oz]; omega
theorem xv {t:Tb} {n:Nat} (ok:rS t n) {hd:Int} {f:Mf} {a:As} (fx:a.x.t.length≤1000):rS (jG t hd f a).1 (n+1):=by
 have old:=ok.mono (Nat.le_succ n)
 unfold jG
 split
 ·exact old
 ·rename_i k1
  split
  ·exact old
  ·rename_i k2
   split
   ·exact old
   ·rename_i k3
    split
    ·exact old
    ·rename_i k4
     have hn:∀r ∈ t.rows,r.h≠hd:=fun r hr e=>by
      apply k2
      unfold cX
      rw[List.find?_isSome]
      exact⟨r,hr,by simpa using e⟩
     refine⟨fun r hr=> ?_,ok.nd,?_,?_,old.il⟩
     ·rcases List.mem_append.1 hr with h|h
      ·exact ok.row r h
      ·simp only[List.mem_singleton]at h
       subst h
       exact⟨⟨by show 1≤hd; omega,by show hd≤65536; omega⟩,Classical.byContradiction k3,Classical.byContradiction k4,fx⟩
     ·rw[List.pairwise_append]
      exact⟨ok.rd,by simp,fun r hr q hq=>by simp only[List.mem_singleton]at hq; subst hq; exact hn r hr⟩
     ·simp only[List.length_append,List.length_singleton]
      have:=ok.rl; omega
theorem Ii {t:Tb} {n:Nat} (ok:rS t n) {x:In}:rS (zi t x).1 (n+1):=by
 have old:=ok.mono (Nat.le_succ n)
 unfold zi
 split
 ·exact old
 ·split
  ·exact old
  ·split
   ·exact old
   ·rename_i k3
    cases hr:cX t.rows x.cC with
    |none=>exact old
    |some r=>
     dsimp only
     split
     ·exact old
     ·refine⟨ok.row,?_,ok.rd,old.rl,?_⟩
      ·rw[List.pairwise_append]
       refine⟨ok.nd,by simp,fun y hy q hq=> ?_⟩
       simp only[List.mem_singleton]at hq
       subst hq
       rw[zk]
       cases hs:iI q y with
       |false=>rfl
       |true=>
        exfalso
        apply k3
        unfold zc
        rw[List.find?_isSome]
        exact⟨y,hy,hs⟩
      ·simp only[List.length_append,List.length_singleton]
       have:=ok.il; omega
end Go.UM
namespace Go.UM
open Go.AM
set_option maxRecDepth 4000
def kV (x y:Rw):Bool:=decide (x.h≤y.h)
def dA (l:List Rw):List Rw:=l.mergeSort kV
@[simp] theorem gT (l:List Rw):(dA l).length=l.length:=by simp[dA]
theorem oA {l:List Rw} {r:Rw}:r ∈ dA l↔r ∈ l:=(List.mergeSort_perm l kV).mem_iff
theorem jf {l:List Rw} (rd:l.Pairwise fun a b=>a.h≠b.h) {r:Rw} (hr:r ∈ l):cX l r.h=some r:=by
 induction l with
 |nil=>simp at hr
 |cons a l ih=>
  obtain⟨h1,h2⟩:=List.pairwise_cons.1 rd
  unfold cX
  rw[List.find?_cons]
  rcases List.mem_cons.1 hr with rfl|h
  ·simp
  ·have:(a.h==r.h)=false:=by simpa using h1 r h
   rw[this]
   exact ih h2 h
def dO (l:List Rw):List Int:=(dA l).map (·.h)
abbrev ue (R:Env):Prop:=∀ (d1:Bool) (l:List Rw),l.Pairwise (fun a b=>a.h≠b.h)→(∀r ∈ l,kT r)→l.length≤1000000→
 R.Mz true 434 [.bW (.fn (R.ft 447)) [.loc 0 1 0 0]] [(0,.var (R.ty 57) [.omap 1]),(1,.map 1 false true d1 41 (jm l))] (.bh 2 (dO l).length) [(0,.var (R.ty 57) [.omap 1]),(1,.map 1 false true d1 41 (jm l)),(2,.arr (R.ty 10) 1 (aY .i64 (dO l)))] 3
theorem MP {R:Env} (h:KI R) (d1:Bool) (l:List Rw):R.Mc 433 [.omap 0] [(0,.map 1 false true d1 41 (jm l))] (.bW (.fn (R.ft 447)) [.loc 1 1 0 0]) [(0,.map 1 false true d1 41 (jm l)),(1,.var (R.ty 57) [.omap 0])] 2:=
 h.VA.cr 60 1 rfl rfl rfl fun X bb hfit hp=>by
  refine sh ?_
  exact rM [0,1]
theorem Fp {l:List Rw} {i:Nat} {k:Int} (h:(dO l)[i]? =some k):∃r,(dA l)[i]? =some r∧r.h=k:=by
 unfold dO at h
 rw[List.getElem?_map]at h
 exact Option.map_eq_some_iff.1 h
theorem Fq {l:List Rw} {i:Nat} {r:Rw} (h:l[i]? =some r):vo (l.take i)++ [r.row]=vo (l.take (i+1)):=by
 rw[List.take_add_one,h]; simp[vo]
set_option maxHeartbeats 4000000 in
theorem Ij {R:Env} (h:LD R) (K:ue R) (d1 d2:Bool) (t:Tb) {n:Nat} (ok:rS t n) (hn:n≤1000000):
  R.Mz true 418 [.loc 2 1 0 0] (gJ R d1 d2 t) (.bh 3 (dA t.rows).length) (gJ R d1 d2 t++ [(3,.arr (R.ty 45) 40 (vo (dA t.rows)))]) 4:=
 h.VT.Ag 100 3 rfl rfl rfl fun X bb hfit hp hz=>by
  have hl:=ok.rl
  have hk:(dO t.rows).length=t.rows.length:=by simp[dO]
  unfold gJ
  refine sh ?_
  refine cM false [0,1,2] (nC h.ml d1 d2 t) ?_
  repeat (intro _; first|refine eK ?_|refine eP ?_)
  refine sh ?_
  refine cM false [0] (MP h.LF d1 t.rows) ?_
  repeat (intro _; first|refine eK ?_|refine eP ?_)
  refine sh ?_
  refine cM false [3,0] (K d1 t.rows ok.rd ok.row (by omega)) ?_
  repeat (intro _; first|refine eK ?_|refine eP ?_)
  refine sh ?_
  refine gZ 100 (Sum.elim (fun _:Unit=>True) (fun i:Nat=>1≤i∧i≤t.rows.length)) (Sum.elim (fun _=>⟨[(0,.loc 2 1 0 0),(3,.an),(14,.bh 4 (dO t.rows).length),(15,.int .i64 (dO t.rows).length),(16,.int .i64 0)],[(0,.map 1 false true d1 41 (jm t.rows)),(1,.map 4 true true d2 16 (ki t.ins)),(2,.var (R.ty 47) [.omap 0,.omap 1]),(3,.var (R.ty 57) [.omap 0]),(4,.arr (R.ty 10) 1 (aY .i64 (dO t.rows)))],5⟩) (fun i=>⟨[(0,.loc 2 1 0 0),(3,.bh 5 ((dA t.rows).take i).length),(14,.bh 4 (dO t.rows).length),(15,.int .i64 (dO t.rows).length),(16,.int .i64 i)],[(0,.map 1 false true d1 41 (jm t.rows)),(1,.map 4 true true d2 16 (ki t.ins)),(2,.var (R.ty 47) [.omap 0,.omap 1]),(3,.var (R.ty 57) [.omap 0]),(4,.arr (R.ty 10) 1 (aY .i64 (dO t.rows))),(5,.arr (R.ty 45) 40 (vo ((dA t.rows).take i)))],6⟩)) (Sum.elim (fun _=>t.rows.length+1) (fun i=>t.rows.length - i)) (.inl ()) ?_ ?_
  ·trivial
  ·rintro (_|i) hv
   ·dsimp only[Sum.elim_inl]at hv ⊢
    refine sh ?_
    refine cS (fun h1=> ?_) (fun h1=> ?_)
    ·obtain⟨k,hkk⟩:∃u_,(dO t.rows)[0]? =some u_:=⟨_,List.getElem?_eq_getElem (by omega)⟩
     refine sh ?_
     refine rA (by simp) hkk ?_
     obtain⟨r,hr,rfl⟩:=Fp hkk
     have hm:=oA.1 (List.mem_of_getElem? hr)
     refine sh ?_
     refine nB fun j=> ?_
     rw[jf ok.rd hm]
     dsimp only[Option.map_some]
     refine sh ?_
     refine aq.pure h.sI.Hw.hb (ox h.sI r.a (rR (ok.row r hm).a (ok.row r hm).x)) rfl ?_
     have e1:(dA t.rows).take 1=[r]:=by
      cases hq:dA t.rows with
      |nil=>rw[hq]at hr; simp at hr
      |cons a q=>rw[hq]at hr; simp at hr; rw[hr]; rfl
     refine sh ?_
     refine r9 [0,1,2,3,4,7] (.inr 1) ?_ ?_ ?_
     ·exact⟨by omega,by omega⟩
     ·dsimp only[Sum.elim_inr]; omega
     ·all_goals repeat' (first|exact True.intro|refine And.intro ?_ ?_|(intro _u; clear _u)|(with_reducible first|exact aw.fg|refine eM ?_ ?_|refine eF ?_ ?_ ?_|refine eN ?_|refine eL ?_ ?_ ?_|refine eA ?_ ?_|refine az.mk ⟨_,hp,rfl⟩ ?_ ?_)|refine az.mk ⟨_,hp,rfl⟩ ?_ ?_)
      all_goals try first|with_reducible rfl|omega|exact .inl (by decide)|(simp; done)|rfl
      all_goals first|(rw[e1]; rfl)|(rw[e1]; simp[Rw.row,vo])
    ·have e:t.rows=[]:=List.eq_nil_of_length_eq_zero (by omega)
     rw[e,show dA []=[]from by simp[dA]]
     refine sh ?_
     exact rM [0,1,2,50]
   ·dsimp only[Sum.elim_inr]at hv ⊢
    have ht:((dA t.rows).take i).length=i:=by rw[List.length_take,gT]; omega
    refine sh ?_
    refine cS (fun h1=> ?_) (fun h1=> ?_)
    ·obtain⟨k,hkk⟩:∃u_,(dO t.rows)[i]? =some u_:=⟨_,List.getElem?_eq_getElem (by omega)⟩
     refine sh ?_
     refine rA (by simp) hkk ?_
     obtain⟨r,hr,rfl⟩:=Fp hkk
     have hm:=oA.1 (List.mem_of_getElem? hr)
     refine sh ?_
     refine nB fun j=> ?_
     rw[jf ok.rd hm]
     dsimp only[Option.map_some]
     refine sh ?_
     refine aq.pure h.sI.Hw.hb (ox h.sI r.a (rR (ok.row r hm).a (ok.row r hm).x)) rfl ?_
     refine sh ?_
     refine nX (.inr (i+1)) ?_ ?_ ⟨_,hp,rfl⟩ ?_ ?_
     ·exact⟨by omega,by omega⟩
     ·dsimp only[Sum.elim_inr]; omega
     ·all_goals repeat' (first|exact True.intro|refine And.intro ?_ ?_|(intro _u; clear _u)|(with_reducible first|exact aw.fg|refine eM ?_ ?_|refine eF ?_ ?_ ?_|refine eN ?_|refine eL ?_ ?_ ?_|refine eA ?_ ?_|refine az.mk ⟨_,hp,rfl⟩ ?_ ?_)|refine az.mk ⟨_,hp,rfl⟩ ?_ ?_)
      all_goals try first|with_reducible rfl|omega|exact .inl (by decide)|(simp; done)|rfl
      all_goals (simp only[List.length_append,mn,List.length_take,gT,List.length_singleton]; omega)
     ·all_goals repeat' (first|exact True.intro|refine And.intro ?_ ?_|(intro _u; clear _u)|(with_reducible first|exact aw.fg|refine eM ?_ ?_|refine eF ?_ ?_ ?_|refine eN ?_|refine eL ?_ ?_ ?_|refine eA ?_ ?_|refine az.mk ⟨_,hp,rfl⟩ ?_ ?_)|refine az.mk ⟨_,hp,rfl⟩ ?_ ?_)
      all_goals try first|with_reducible rfl|omega|exact .inl (by decide)|(simp; done)|rfl
      all_goals first|exact Fq hr|(right; simp[Rw.row])
    ·have e:(dA t.rows).take i=dA t.rows:=List.take_of_length_le (by rw[gT]; omega)
     rw[e]
     refine sh ?_
     exact rM [0,1,2,5]
end Go.UM
namespace Go.UM
open Go.AM Go.RowKit Go.Proofs
def AE (P:Program) (f g kt et:Nat):Prop:=
 ∀ (b nn Bm:Nat) (D0:DataW Unit) (Q:Value→Option (DataW Unit × List MemPlace)) (w:World),Bm<w.heap.size→w.cell? ⟨Bm,0,none⟩=some (.map (some b))→w.ownsMap P kt Q b nn D0→Maps.size D0≤maxLen→Maps.size D0*8≤140737488355328→
   Calls P f #[.func (.func g) #[] #[.pointer (some ⟨Bm,0,none⟩)]] w fun e w'=>∃ (v:Value) (ss:List Int),e= .returned v∧ss.Perm (intKeys D0)∧
    w'.ownsRow w.heap.size et 1 v ss.length ((ss.mergeSort (fun x y=>decide (x≤y))).map encZ)∧(v= .slice none 0 0↔ss=[])∧Go.RowKit.Below w.heap.size w w'
theorem Cq {l:List Rw} {ss:List Int} (h:ss.Perm (l.map (·.h))):ss.mergeSort (fun x y=>decide (x≤y))=dO l:=by
 have tr:∀a b c:Int,decide (a≤b)=true→decide (b≤c)=true→decide (a≤c)=true:=fun a b c h1 h2=>by simp only[decide_eq_true_eq]at *; omega
 have to:∀a b:Int,(decide (a≤b)||decide (b≤a))=true:=fun a b=>by simp only[Bool.or_eq_true,decide_eq_true_eq]; omega
 have tr':∀x y z:Rw,kV x y=true→kV y z=true→kV x z=true:=fun x y z h1 h2=>by simp only[kV,decide_eq_true_eq]at h1 h2 ⊢; omega
 have to':∀x y:Rw,(kV x y||kV y x)=true:=fun x y=>by simp only[kV,Bool.or_eq_true,decide_eq_true_eq]; omega
 refine List.Perm.eq_of_pairwise (le:=fun a b=>decide (a≤b)=true) (fun a b _ _ h1 h2=>by simp only[decide_eq_true_eq]at h1 h2; omega) (List.pairwise_mergeSort tr to ss) ?_ ((List.mergeSort_perm ss _).trans (h.trans ((List.mergeSort_perm l kV).map (·.h)).symm))
 unfold dO
 rw[List.pairwise_map]
 exact List.pairwise_mergeSort tr' to' l
def qN:Value→Option (DataW Unit × List MemPlace):=fun _=>some (.nil,[])
theorem bH {ρ:AM.Place} {L:bn} {I:Nat→Prop} {w:World} {N:Nat→Prop} {n:Int} {v:Value} (h:aS ρ L I w N (.int .i64 n) v):v= .int .i64 n:=by cases h; rfl
theorem Fs {P:Program} {kt:Nat} (NP:P.underlying kt=some (.int .i64)) {l:List Rw} (rd:l.Pairwise fun a b=>a.h≠b.h) (ok:∀r ∈ l,kT r) (hl:l.length≤1000000) {en:Array MapEntry} {ck gm:Nat} {w:World} (hg:w.heap[gm]? =some (.map en ck)) (hs:en.size=l.length)
  (hb:∀ (i j:Nat) (e f:MapEntry),en[i]? =some e→en[j]? =some f→i<j→e.born<f.born) (S7:∀ (i:Nat) (e:MapEntry),en[i]? =some e→e.born<ck)
  (hk:∀ (i:Nat) (e:MapEntry) (r:Rw),en[i]? =some e→l[i]? =some r→e.key= .int .i64 r.h):
  ∃D0:DataW Unit,w.ownsMap P kt qN gm l.length D0∧Maps.size D0=l.length∧(intKeys D0).Perm (l.map (·.h)):=by
 have hrd:∀ (i:Nat) (e:MapEntry) (r:Rw),en[i]? =some e→l[i]? =some r→WideElems.rd P kt qN e=some (.int .i64 r.h,.nil):=by
  intro i e r he hr
  have hh:=(ok r (List.mem_of_getElem? hr)).h
  have hw:(Lit.int .i64 r.h).wf=true:=by simp[Lit.wf,IntKind.min,IntKind.max,IntKind.bits,IntKind.signed]; omega
  unfold WideElems.rd
  rw[hk i e r he hr]
  simp[keyOf,NP,mapKey,hw,qN]
 have each:∀ (i:Nat) (e:MapEntry),en[i]? =some e→∃r,l[i]? =some r:=fun i e he=>by
  have:=(Array.getElem?_eq_some_iff.1 he).1
  exact⟨l[i]'(by omega),List.getElem?_eq_getElem (by omega)⟩
 have MQ:en.toList.map (WideElems.rg P kt qN)=l.map fun r=>((.int .i64 r.h,.nil):Lit × DataW Unit):=by
  apply List.ext_getElem?
  intro i
  rw[List.getElem?_map,List.getElem?_map]
  cases he:en.toList[i]? with
  |none=>
   have:l[i]? =none:=by
    rw[List.getElem?_eq_none_iff]at he ⊢
    simp at he; omega
   rw[this]; rfl
  |some e=>
   have he':en[i]? =some e:=by simpa using he
   obtain⟨r,hr⟩:=each i e he'
   rw[hr]
   simp only[Option.map_some]
   unfold WideElems.rg
   rw[hrd i e r he' hr]; rfl
 refine⟨_,⟨en,ck,hg,⟨?_,⟨?_,?_,?_⟩,?_⟩,Nat.le_of_eq hs,rfl⟩,?_,?_⟩
 ·rw[hs]; have:(1000000:Nat)≤maxLen:=by decide
  omega
 ·intro x hx
  obtain⟨i,hi,rfl⟩:=List.getElem_of_mem hx
  exact S7 i _ (by rw[Array.getElem_toList]; exact Array.getElem?_eq_getElem (by simpa using hi))
 ·show List.Pairwise (· ≠ ·) _
  rw[List.pairwise_map,List.pairwise_iff_getElem]
  intro i j hi hj hij
  have:=hb i j _ _ (Array.getElem?_eq_getElem (by simpa using hi)) (Array.getElem?_eq_getElem (by simpa using hj)) hij
  simp only[Array.getElem_toList]
  omega
 ·show List.Pairwise (· ≠ ·) _
  rw[List.pairwise_map,List.pairwise_iff_getElem]
  intro i j hi hj hij
  have hi':i<en.size:=by simpa using hi
  have hj':j<en.size:=by simpa using hj
  simp only[Array.getElem_toList]
  rw[hk i _ l[i] (Array.getElem?_eq_getElem hi') (List.getElem?_eq_getElem (by omega)),hk j _ l[j] (Array.getElem?_eq_getElem hj') (List.getElem?_eq_getElem (by omega))]
  intro e
  exact List.pairwise_iff_getElem.1 rd i j (by omega) (by omega) hij (by simpa using e)
 ·intro x hx
  obtain⟨i,hi,rfl⟩:=List.getElem_of_mem hx
  have hi':i<en.size:=by simpa using hi
  exact⟨_,hrd i _ l[i] (by rw[Array.getElem_toList]; exact Array.getElem?_eq_getElem hi') (List.getElem?_eq_getElem (by omega))⟩
 ·rw[Maps.size_eq,length_sorted,List.length_map]; simpa using hs
 ·rw[MQ]
  have:=(Go.WideShapes.sorted_perm (l.map fun r=>((.int .i64 r.h,.nil):Lit × DataW Unit))).map fun p=>intOf p.1
  rw[List.map_map]at this
  exact this
set_option maxHeartbeats 1000000 in
theorem Ft {R:Env} {kt:Nat} (hb:cx R.P (R.ft 434)) (NP:R.P.underlying kt=some (.int .i64)) (KL:AE R.P (R.ft 434) (R.ft 447) kt (R.ty 10)):ue R:=by
 intro d1 l rd ok hl
 refine⟨hb,fun w I ρ vs hW hr=> ?_,rfl⟩
 have W:=hW 0
 obtain⟨hvl,hr⟩:=hr
 obtain⟨v0,rfl⟩:∃v0,vs=[v0]:=by
  match vs,hvl with
  |[a],_=>exact⟨a,rfl⟩
 have r0:=hr 0 (by simp)
 have r0:aS ρ _ I w (· <2) (.bW (.fn (R.ft 447)) [.loc 0 1 0 0]) v0:=r0
 have SD:ae (aC [(0,bN.var (R.ty 57) [.omap 1]),(1,.map 1 false true d1 41 (jm l))]) 0=some ⟨R.ty 57,1,[[.omap 1]],none⟩:=rfl
 have hM1:ae (aC [(0,bN.var (R.ty 57) [.omap 1]),(1,.map 1 false true d1 41 (jm l))]) 1=some ⟨0,41,jm l,some (1,false,true,d1)⟩:=rfl
 cases r0 with
 |bW _ _ us Uj Uk=>
  obtain⟨u0,rfl⟩:∃u0,us=[u0]:=by
   match us,Uj with
   |[a],_=>exact⟨a,rfl⟩
  have q0:=Uk 0 (by simp)
  have q0:aS ρ _ I w (· <2) (.loc 0 1 0 0) u0:=q0
  obtain⟨_,g,cap,rf,rfl⟩:=fq (sz:=1) q0 (by rw[aH]; exact⟨_,SD,rfl,rfl⟩)
  obtain⟨cs,fr,oy,_,_,_,_,_,_,hcell⟩:=(W.bg 0 _ SD).real g cap rf
  have oy:w.heap[g]? =some (.cells cs (R.ty 57) fr):=oy
  obtain⟨u,hu,_,Cm⟩:=hcell 0 0 (by simp) (by simp)
  have Cm:aS ρ _ I w (· <2) (.omap 1) u:=Cm
  have hu:cs[0]? =some u:=by simpa using hu
  obtain⟨gm,cm,DM,rfl⟩:∃gm cm,ρ 1=some (gm,cm)∧u= .map (some gm):=by
   cases Cm with
   |omap _ _ _ _ h=>exact h 41 (by rw[aH]; exact⟨_,hM1,rfl,rfl⟩)
  have B1:=W.bg 1 _ hM1
  obtain⟨cs1,fr1,MQ,_,_,_,_,_,_,MR⟩:=B1.real gm cm DM
  obtain⟨en,ck,hg,hs,MC⟩:=MQ
  have hs:en.size=l.length:=by simpa using hs
  have hkey:∀ (i:Nat) (e:MapEntry) (r:Rw),en[i]? =some e→l[i]? =some r→e.key= .int .i64 r.h:=by
   intro i e r he hr
   obtain⟨k1,k2,k3,k4⟩:=MC.key i e he
   have hi:=(List.getElem?_eq_some_iff.1 hr).1
   obtain⟨u,hu,_,Cm⟩:=MR i 0 (by simpa using hi) (by simp)
   have hrow:(jm l).getD i []=Aw r:=by
    unfold jm
    rw[List.getD_eq_getElem?_getD,List.getElem?_map,hr]; rfl
   have Cm:aS ρ _ I w (· <2) (((jm l).getD i []).getD 0 .bad) u:=Cm
   rw[hrow]at Cm
   have Cm:=bH Cm
   have hf:aQ e.key=[e.key]:=by
    cases hk:e.key<;>first|rfl|(rw[hk]at k3; simp[ff]at k3)
   have:=MC.cell i e 0 e.key he (by rw[hf]; rfl)
   rw[this]at hu
   cases hu
   exact Cm
  obtain⟨D0,hown,hsz,SE⟩:=Fs NP rd ok hl hg hs MC.born MC.clock hkey
  have hlt:=(Array.getElem?_eq_some_iff.1 oy).1
  have hc:w.cell? ⟨g,0,none⟩=some (.map (some gm)):=by
   simp only[World.cell?,oy,Option.isSome_none,Bool.false_eq_true,if_false]
   exact hu
  have CM:(1000000:Nat)≤maxLen:=by decide
  have vJ:=KL gm l.length g D0 qN w hlt hc hown (by omega) (by omega)
  refine vJ.mono ?_
  rintro e w' ⟨v,ss,rfl,hp,⟨_,hrow⟩,hnil,qZ⟩
  have hp:=hp.trans SE
  have hkl:=Cq hp
  have hlen:(dO l).length=ss.length:=by rw[←hkl,List.length_mergeSort]
  refine⟨v,rfl,?_⟩
  obtain⟨E0,W0⟩:=W.ext' (w':= {w with drawn:=w'.drawn}) (I':=I) rfl rfl rfl (Nat.le_refl _) (fun _ _=>rfl) (fun _ h=>h) W.lt (fun _ _ h=>h) (Nat.zero_le _)
  rcases hrow with⟨rfl,h0⟩|⟨gb,cp,cur,rfl,hge,Wg,hle,lI,hcs,S8⟩
  ·have e0:dO l=[]:=List.eq_nil_of_length_eq_zero (by omega)
   obtain⟨E1,W1⟩:=W.ext' (w':=w') (I':=I) qZ.os qZ.tape qZ.output qZ.size qZ.block (fun _ h=>h) (fun g hg=>Nat.lt_of_lt_of_le (W.lt g hg) qZ.size) (fun _ _ h=>h) (Nat.zero_le _)
   obtain⟨E2,W2⟩:=W1.dY (n:=2) (Nat.lt_irrefl 2) (R.ty 10) 1
   have e1:cQ (ae (aC [(0,bN.var (R.ty 57) [.omap 1]),(1,.map 1 false true d1 41 (jm l))])) 2 ⟨R.ty 10,1,[],none⟩=ae (aC [(0,.var (R.ty 57) [.omap 1]),(1,.map 1 false true d1 41 (jm l)),(2,.arr (R.ty 10) 1 (aY .i64 (dO l)))]):=by
    rw[e0]
    funext m
    by_cases hm:m=2
    ·subst hm; rfl
    ·have:(m==2)=false:=by simpa using hm
     simp[cQ,hm,aC,ae,this]
   rw[e1]at W2
   refine⟨_,I,0,W2.lJ (fun m hm=>by rcases hm with rfl|hm; exact Nat.lt_succ_self 2; exact Nat.lt_succ_of_lt hm),?_⟩
   rw[show (dO l).length=0 from by rw[e0]; rfl]
   refine .bh 2 0 _ (Nat.lt_succ_self 2) rfl fun k sz hk=>⟨Nat.zero_le _,fun _=> .inl ⟨if_pos rfl,_,rfl⟩⟩
  ·have Wg:w'.heap[gb]? =some (.cells cur (R.ty 10) (0,0)):=Wg
   have ee:(aY .i64 (dO l)).length=ss.length:=by simp[aY,hlen]
   obtain⟨E1,W1⟩:=W0.put (w':=w') 2 ⟨R.ty 10,1,aY .i64 (dO l),none⟩ gb cp cur (0,0) qZ.os qZ.tape qZ.output qZ.size (fun k hk _=>qZ.block k hk) Wg (fun o _ h=>by omega) (.inl hge)
    (fun b0 h0=>by have h0:(Option.none:Option bu)=some b0:=h0; cases h0) (fun h=>absurd h (Nat.lt_irrefl 2)) (fun e he=>by obtain⟨x,_,rfl⟩:=List.mem_map.1 he; rfl) (by show (aY .i64 (dO l)).length≤cp; omega) lI hcs
    (fun i j hi hj=>by
      have hi:i< (aY .i64 (dO l)).length:=hi
      have hj:j<1:=hj
      have e0:j=0:=by omega
      subst e0
      have hi':i< (dO l).length:=by omega
      have hat:(cur.toList.take (ss.length*1))[i]? =some (encZ (dO l)[i]):=by rw[S8,hkl,List.getElem?_map,List.getElem?_eq_getElem hi']; rfl
      rw[List.getElem?_take_of_lt (by omega)]at hat
      refine⟨encZ (dO l)[i],by simpa using hat,rfl,?_⟩
      rw[show (((⟨R.ty 10,1,aY .i64 (dO l),none⟩:bu).es.getD i []).getD 0 .bad)= .int .i64 (dO l)[i]from by
       have e2:(aY .i64 (dO l))[i]? =some [.int .i64 (dO l)[i]]:=by unfold aY; rw[List.getElem?_map,List.getElem?_eq_getElem hi']; rfl
       show ((aY .i64 (dO l)).getD i []).getD 0 .bad=_
       rw[List.getD_eq_getElem?_getD (l:=aY .i64 (dO l)),e2]; rfl]
      exact .int _ _)
   have e1:cQ (ae (aC [(0,bN.var (R.ty 57) [.omap 1]),(1,.map 1 false true d1 41 (jm l))])) 2 ⟨R.ty 10,1,aY .i64 (dO l),none⟩=ae (aC [(0,.var (R.ty 57) [.omap 1]),(1,.map 1 false true d1 41 (jm l)),(2,.arr (R.ty 10) 1 (aY .i64 (dO l)))]):=by
    funext m
    by_cases hm:m=2
    ·subst hm; rfl
    ·have:(m==2)=false:=by simpa using hm
     simp[cQ,hm,aC,ae,this]
   rw[e1]at W1
   refine⟨_,I,0,W1.lJ (fun m hm=>by rcases hm with rfl|hm; exact Nat.lt_succ_self 2; exact Nat.lt_succ_of_lt hm),?_⟩
   rw[hlen]
   refine .bh 2 ss.length _ (Nat.lt_succ_self 2) rfl fun k sz hk=> ?_
   obtain⟨b,hb,h1,_⟩:=aH.1 hk
   have hb:some (⟨R.ty 10,1,aY .i64 (dO l),Option.none⟩:bu)=some b:=hb
   cases hb
   have h1:(aY .i64 (dO l)).length=k:=h1
   exact⟨by omega,fun _=> .inr ⟨gb,cp,by simp[gN],rfl⟩⟩
end Go.UM
namespace Go.UM
open Go.AM Go.Shelf Go.RowKit Go.Lib Go.Sort Go.Proofs
section
variable {α:Type} [Inhabited α]
def vr (cf:α→α→Int) (l:List α):List α:=(pdq (ltOf cf) l.toArray 0 l.toArray.size (Lib.bitLen l.toArray.size) true true).toList
theorem zl {P:Program} {ρ:Ren} (L:SlLaysF0.n6 P ρ) {k:Nat} (aE:∀w,(isAgg (ρ.t 24)).run P w= .ok true w) (zE:∀w,(Go.sizeOf (ρ.t 24)).run P w= .ok k w) {ap:α→List Int} (hk:∀x,(ap x).length=k)
  {cf:α→α→Int} (hO:SWO (ltOf cf)) {g:Nat} (eg:∀args w,(callFunc g args).run P w= .ok (.enter g args) w):lv P (ρ.f 6) g k ap cf (vr cf):=by
 refine⟨fun p cap fv w=>AnyF.slices_SortFunc_none L p cap fv w,fun bg cap l w hc hH hb hl=> ?_⟩
 have h:=AnyQ.slices_SortFunc_eq L k aE zE (po ap) (fun x=>by simp[po,hk]) (fun x v hv=>by obtain⟨n,_,rfl⟩:=List.mem_map.1 hv; rfl) cf hO g #[] bg 0 cap l.toArray w eg (by simpa using hc) hH hb (by simpa using hl)
 have e:(vr cf l).toArray=pdq (ltOf cf) l.toArray 0 l.toArray.size (Lib.bitLen l.toArray.size) true true:=by simp[vr]
 rw[e]
 rwa[List.size_toArray]at h ⊢
theorem Cr (cf:α→α→Int) (hO:SWO (ltOf cf)) (l:List α):(vr cf l).Perm l:=by
 have h:=(pdq_sorts (ltOf cf) hO l.toArray 0 l.toArray.size (Lib.bitLen l.toArray.size) true true (Nat.zero_le _) (Nat.le_refl _) (Or.inl rfl)).1
 obtain⟨h1,_,h3⟩:=h
 unfold vr
 generalize pdq (ltOf cf) l.toArray 0 l.toArray.size (Lib.bitLen l.toArray.size) true true=d at h1 h3 ⊢
 rw[←h1]at h3
 have e1:d.extract 0 d.size=d:=by simp
 rw[e1]at h3
 rw[h1]at h3
 simpa using h3
theorem Fu (cf:α→α→Int) (hO:SWO (ltOf cf)) (l:List α):(vr cf l).Pairwise fun x y=>ltOf cf y x=false:=by
 have h:=pdq_sorts (ltOf cf) hO l.toArray 0 l.toArray.size (Lib.bitLen l.toArray.size) true true (Nat.zero_le _) (Nat.le_refl _) (Or.inl rfl)
 obtain⟨⟨h1,_,_⟩,h2⟩:=h
 unfold vr
 generalize pdq (ltOf cf) l.toArray 0 l.toArray.size (Lib.bitLen l.toArray.size) true true=d at h1 h2 ⊢
 rw[List.pairwise_iff_getElem]
 intro i j hi hj hij
 have hj':j<d.size:=by simpa using hj
 have:=h2 i j (Nat.zero_le _) hij (by omega)
 rw[getElem!_pos d j hj',getElem!_pos d i (by omega)]at this
 simpa using this
end
theorem rU:SWO (ltOf pO) where
 irrefl x:=by simp only[ltOf,decide_eq_false_iff_not,j8]; omega
 trans x y z h1 h2:=by simp only[ltOf,decide_eq_true_eq,j8]at *; omega
 ntrans x y z h1 h2:=by simp only[ltOf,decide_eq_false_iff_not,j8]at *; omega
theorem Fv:Jr (vr pO):=⟨fun l=>Cr pO rU l,fun l=>(Fu pO rU l).imp fun {a b} h=>by
 simp only[ltOf,decide_eq_false_iff_not]at h
 exact nG.2 h⟩
end Go.UM
namespace Go.UM
open Go.AM
set_option maxRecDepth 4000
theorem Fw {l l':List Rw} (h:l.Perm l') (rd:l.Pairwise fun a b=>a.h≠b.h):dA l=dA l':=by
 have tr:∀x y z:Rw,kV x y=true→kV y z=true→kV x z=true:=fun x y z h1 h2=>by simp only[kV,decide_eq_true_eq]at h1 h2 ⊢; omega
 have to:∀x y:Rw,(kV x y||kV y x)=true:=fun x y=>by simp only[kV,Bool.or_eq_true,decide_eq_true_eq]; omega
 refine List.Perm.eq_of_pairwise (le:=fun x y=>kV x y=true) ?_ (List.pairwise_mergeSort tr to l) (List.pairwise_mergeSort tr to l') ((List.mergeSort_perm l kV).trans (h.trans (List.mergeSort_perm l' kV).symm))
 intro a b ha hb h1 h2
 have SC:a ∈ l:=(List.mergeSort_perm l kV).mem_iff.1 ha
 have hb':b ∈ l:=h.mem_iff.2 ((List.mergeSort_perm l' kV).mem_iff.1 hb)
 have e:a.h=b.h:=by simp only[kV,decide_eq_true_eq]at h1 h2; omega
 have k1:=jf rd SC
 rw[e,jf rd hb']at k1
 exact (Option.some.inj k1).symm
end Go.UM
namespace Go.UM
open Go.AM
set_option maxRecDepth 4000
theorem Cs {l:List In} {x:In}:x ∈ je l↔x ∈ l:=(List.mergeSort_perm l leI).mem_iff
end Go.UM
namespace Go.UM
open Go.AM
set_option maxRecDepth 4000
def MS (l:List Rw) (x:In):Prop:=∃a b,cX l x.cC=some a∧a.f.kind=1∧cX l x.fJ=some b∧b.f.kind=3∧(x.dS=0∨∃c,cX l x.dS=some c∧c.f.kind=2)∧zh x.t a.a.m.v=0
theorem MS.mono {l l':List Rw} {x:In} (h:MS l x) (k1:∀r,cX l x.cC=some r→cX l' x.cC=some r) (k2:∀r,cX l x.fJ=some r→cX l' x.fJ=some r) (k3:∀r,cX l x.dS=some r→cX l' x.dS=some r):MS l' x:=by
 obtain⟨a,b,h1,h2,h3,h4,h5,h6⟩:=h
 refine⟨a,b,k1 a h1,h2,k2 b h3,h4,?_,h6⟩
 rcases h5 with h|⟨c,h,h'⟩
 ·exact .inl h
 ·exact .inr ⟨c,k3 c h,h'⟩
theorem Ct {l:List Rw} (rd:l.Pairwise fun a b=>a.h≠b.h):(dA l).Pairwise fun a b=>a.h<b.h:=by
 have tr:∀x y z:Rw,kV x y=true→kV y z=true→kV x z=true:=fun x y z h1 h2=>by simp only[kV,decide_eq_true_eq]at h1 h2 ⊢; omega
 have to:∀x y:Rw,(kV x y||kV y x)=true:=fun x y=>by simp only[kV,Bool.or_eq_true,decide_eq_true_eq]; omega
 have h1:(dA l).Pairwise fun a b=>kV a b=true:=List.pairwise_mergeSort tr to l
 have h2:(dA l).Pairwise fun a b=>a.h≠b.h:=(List.mergeSort_perm l kV).symm.pairwise rd (fun h=>Ne.symm h)
 exact (h1.and h2).imp fun {a b} h=>by
  have:=h.1
  simp only[kV,decide_eq_true_eq]at this
  have:=h.2
  omega
end Go.UM
namespace Go.UM
open Go.AM
set_option maxRecDepth 4000
section
variable {α:Type}
variable {p:α→Bool} {x:α}
end
theorem zn {a l:List Rw} (rd:l.Pairwise fun a b=>a.h≠b.h) (h:a.Perm l) (ord:a.Pairwise fun x y=>kV x y=true):a=dA l:=by
 have e:=Fw h.symm rd
 rw[e]
 unfold dA
 rw[List.mergeSort_of_pairwise ord]
end Go.UM
namespace Go.UM
open Go.AM
set_option maxRecDepth 4000
instance {l:List Rw} {x:Rw}:iF (vo l++ [x.row]) (l.length+1):=⟨by simp⟩
end Go.UM
namespace Go.UM
open Go.AM
set_option maxRecDepth 4000
end Go.UM
namespace Go.UM
open Go.AM
set_option maxRecDepth 4000
end Go.UM
namespace Go.UM
open Go.AM Go.RowKit Go.Proofs
def Fx (P:Program) (f:Nat):Prop:=∀ (b:Nat) (es:Array MapEntry) (ck:Nat) (w:World),w.heap[b]? =some (.map es ck)→Calls P f #[.map (some b)] w fun e w'=>e= .returned (.map (some w.heap.size))∧w'=w.alloc (.map es ck)
theorem xw {R:Env} {g:Nat} (hb:cx R.P (R.ft g)) (CL:Fx R.P (R.ft g)) (k:Nat) (ka va d:Bool) (sz:Nat) (es:List (List AV)):
  R.Mc g [.omap 0] [(0,.map k ka va d sz es)] (.omap 1) [(0,.map k ka va d sz es),(1,.map k ka va d sz es)] 2:=by
 refine⟨hb,fun w I ρ vs hW hr=> ?_,rfl⟩
 have W:=hW 0
 obtain⟨hvl,hr⟩:=hr
 obtain⟨v0,rfl⟩:∃v0,vs=[v0]:=by
  match vs,hvl with
  |[a],_=>exact⟨a,rfl⟩
 have r0:=hr 0 (by simp)
 have r0:aS ρ _ I w (· <1) (.omap 0) v0:=r0
 have SD:ae (aC [(0,bN.map k ka va d sz es)]) 0=some ⟨0,sz,es,some (k,ka,va,d)⟩:=rfl
 obtain⟨gm,cm,hρ,rfl⟩:∃gm cm,ρ 0=some (gm,cm)∧v0= .map (some gm):=by
  cases r0 with
  |omap _ _ _ _ h=>exact h sz (by rw[aH]; exact⟨_,SD,rfl,rfl⟩)
 have B:=W.bg 0 _ SD
 obtain⟨cs,fr,oy,lX,hI,IG,hlen,hcap,hcs,hcell⟩:=B.real gm cm hρ
 obtain⟨en,ck,hg,hs,MC⟩:=oy
 refine (CL gm en ck w hg).mono ?_
 rintro e w' ⟨rfl,rfl⟩
 refine⟨_,rfl,?_⟩
 obtain⟨E1,W1⟩:=W.put (w':=w.alloc (.map en ck)) 1 ⟨0,sz,es,some (k,ka,va,d)⟩ w.heap.size cm cs fr rfl rfl rfl (by simp) (fun k hk _=>Below.heap_alloc w _ k hk)
  ⟨en,ck,heap_alloc_new w _,hs,MC⟩ lX (.inl (Nat.le_refl _)) (fun b0 h0=>by have h0:(Option.none:Option bu)=some b0:=h0; cases h0) (fun h=>absurd h (Nat.lt_irrefl 1)) B.even hlen hcap hcs hcell
 have e1:cQ (ae (aC [(0,bN.map k ka va d sz es)])) 1 ⟨0,sz,es,some (k,ka,va,d)⟩=ae (aC [(0,bN.map k ka va d sz es),(1,bN.map k ka va d sz es)]):=by
  funext m
  by_cases hm:m=1
  ·subst hm; rfl
  ·have:(m==1)=false:=by simpa using hm
   simp[cQ,hm,aC,ae,this]
 rw[e1]at W1
 refine⟨_,I,0,W1.lJ (fun m hm=>by rcases hm with rfl|hm; exact Nat.lt_succ_self 1; exact Nat.lt_succ_of_lt hm),?_⟩
 exact oY (cap:=cm) (Nat.lt_succ_self 1) (by simp[gN])
end Go.UM
namespace Go.UM
open Go.AM
set_option maxRecDepth 4000
def pP:As:=⟨3,⟨[],[],[]⟩,⟨0,[]⟩,⟨0,z3,0⟩,⟨0,z3,z3,z3,z3⟩⟩
def Wh:Mf:=⟨0,3,0,0,0,0,0,0,0,0,0,0,0,0,0⟩
theorem AF:pN pP=0:=by decide
def t5:Tb:=⟨[⟨5,Wh,pP⟩],[]⟩
theorem w1:jG ⟨[],[]⟩ 5 Wh pP=(t5,0):=by unfold jG; rw[AF]; rfl
theorem w2:jG t5 5 Wh pP=(t5,10):=rfl
theorem w3:Ie t5 5=(⟨[],[]⟩,0):=rfl
theorem vt (l:List In):(je l).length=l.length:=by simp[je]
end Go.UM
namespace Go.UM
open Go.AM
set_option maxRecDepth 4000
structure SF (R:Env):Prop where
 r:∀ (d:Bool) (es:List (List AV)),R.Mc 439 [.omap 0] [(0,.map 1 false true d 41 es)] (.omap 1) [(0,.map 1 false true d 41 es),(1,.map 1 false true d 41 es)] 2
 i:∀ (d:Bool) (es:List (List AV)),R.Mc 440 [.omap 0] [(0,.map 4 true true d 16 es)] (.omap 1) [(0,.map 4 true true d 16 es),(1,.map 4 true true d 16 es)] 2
theorem MT {R:Env} (h:LM R) (C:SF R) (d1 d2:Bool) (t:Tb):
  R.Mc 430 [.loc 2 1 0 0] (gJ R d1 d2 t) (.loc 5 1 0 0) (gJ R d1 d2 t++ [(3,.map 1 false true d1 41 (jm t.rows)),(4,.map 4 true true d2 16 (ki t.ins)),(5,.var (R.ty 47) [.omap 3,.omap 4])]) 6:=
 h.VW.cr 100 3 rfl rfl rfl fun X bb hfit hp=>by
  unfold gJ
  refine sh ?_
  refine cM false [0,1,2] (nC h.ml d1 d2 t) ?_
  repeat (intro _; first|refine eK ?_|refine eP ?_)
  refine sh ?_
  refine cM false [0] (C.r d1 (jm t.rows)) ?_
  repeat (intro _; first|refine eK ?_|refine eP ?_)
  refine sh ?_
  refine cM false [1] (C.i d2 (ki t.ins)) ?_
  repeat (intro _; first|refine eK ?_|refine eP ?_)
  refine sh ?_
  exact rM [0,1,2,3,4,5]
end Go.UM
namespace Go.UM
open Go.AM
set_option maxRecDepth 4000
def jo (l:List T3):List Int:=l.flatMap fun t=>[t.a,t.b,t.c]
theorem bT (l:List T3):(jo l).length=3*l.length:=by
 induction l with
 |nil=>rfl
 |cons x r ih=>simp[jo]at ih ⊢; omega
theorem rV {l:List T3} {k:Nat} {x:T3} (h:l[k]? =some x):jo (l.take (k+1))=jo (l.take k)++ [x.a,x.b,x.c]:=by
 unfold jo; rw[aA h]; simp
end Go.UM
namespace Go.UM
open Go.AM
set_option maxRecDepth 4000
def e8 (x:Int):List UInt8:=enc 8 (x % 18446744073709551616)
def aL (n:List Int):List UInt8:=n.flatMap e8
theorem rW (x:Int):(e8 x).length=8:=by simp[e8,enc]
theorem aK (n:List Int):(aL n).length=8*n.length:=by
 induction n with
 |nil=>rfl
 |cons x r ih=>simp only[aL,List.flatMap_cons,List.length_append,List.length_cons]at ih ⊢; rw[ih,rW]; omega
theorem p6 (a b:List Int):aL (a++b)=aL a++aL b:=by simp[aL]
theorem Fy {b:List UInt8} {n:List Int} (h:∀x ∈ n,aZ .i64 x):fQ b 8 n=(b++aL n,0):=by
 rw[nA (by decide) (by decide) (by
  rw[List.any_eq_false]
  intro x hx
  have:=h x hx
  simp only[aZ]at this
  simp
  omega),vm (by decide) (by decide) (by
  intro x hx
  obtain⟨y,_,rfl⟩:=List.mem_map.1 hx
  simp
  omega)]
 congr 1
 rw[List.flatMap_map]
 rfl
theorem FA {R:Env} (h:Lf R) (x:Int) (hx:aZ .i64 x):R.Mc 71 [.aO 1 (bc []),.int .i64 8,.aO 1 (aY .i64 [x])] [] (.aU [.bh 0 (e8 x).length,.int .i64 0]) [(0,.arr (R.ty 4) 1 (bc (e8 x)))] 1:=by
 have c:=rL h [] 8 [x] (by simp) (by simpa using hx)
 rw[Fy (by simpa using hx)]at c
 simpa[aL]using c
theorem dw {R:Env} (h:EA R) (b:List UInt8) (n:List Int) (hb:b.length≤1000000) (hn:n.length≤1000) (hi:∀x ∈ n,aZ .i64 x):
  R.Mc 508 [.loc 0 1 0 0,.aO 1 (aY .i64 n)] [(0,.var (R.ty 62) [.bh 1 b.length]),(1,.arr (R.ty 4) 1 (bc b))] (.aU []) [(0,.var (R.ty 62) [.bh 1 (b++aL n).length]),(1,.arr (R.ty 4) 1 (bc (b++aL n)))] 2:=
 h.RD.cr 100 2 rfl rfl rfl fun X bb hfit hp=>by
  refine sh ?_
  refine aN.inv 100 (fun k:Nat=>k≤n.length) (fun k=>⟨[(0,.loc 0 1 0 0),(8,.aO 1 (aY .i64 n)),(9,.int .i64 n.length),(10,.int .i64 k)],[(0,.var (R.ty 62) [.bh 1 (b++aL (n.take k)).length]),(1,.arr (R.ty 4) 1 (bc (b++aL (n.take k))))],2⟩) (fun k=>n.length - k) (0) ?_ ⟨⟨_,hp,rfl⟩,?_,?_⟩ ?_
  ·exact Nat.zero_le _
  ·all_goals repeat' (first|exact True.intro|refine And.intro ?_ ?_|(intro _u; clear _u)|(with_reducible first|exact aw.fg|refine eM ?_ ?_|refine eF ?_ ?_ ?_|refine eN ?_|refine eL ?_ ?_ ?_|refine eA ?_ ?_|refine az.mk ⟨_,hp,rfl⟩ ?_ ?_)|refine az.mk ⟨_,hp,rfl⟩ ?_ ?_)
   all_goals try first|with_reducible rfl|omega|exact .inl (by decide)|(simp; done)|rfl
   all_goals simp[aL]
  ·all_goals repeat' (first|exact True.intro|refine And.intro ?_ ?_|(intro _u; clear _u)|(with_reducible first|exact aw.fg|refine eM ?_ ?_|refine eF ?_ ?_ ?_|refine eN ?_|refine eL ?_ ?_ ?_|refine eA ?_ ?_|refine az.mk ⟨_,hp,rfl⟩ ?_ ?_)|refine az.mk ⟨_,hp,rfl⟩ ?_ ?_)
   all_goals try first|with_reducible rfl|omega|exact .inl (by decide)|(simp; done)|rfl
   all_goals simp[aL]
  ·intro k hk
   dsimp only
   refine sh ?_
   refine cS (fun h1=> ?_) (fun h1=> ?_)
   ·obtain⟨x,hx⟩:∃u_,n[k]? =some u_:=⟨_,List.getElem?_eq_getElem (by first|omega|(simp<;>omega))⟩
    refine sh ?_
    refine ah hx ?_
    have JF:=hi x (List.mem_of_getElem? hx)
    refine sh ?_
    refine cM true [] (FA h.Gd x JF) ?_
    repeat (intro _; first|refine eK ?_|refine eP ?_)
    have e1:aL (n.take (k+1))=aL (n.take k)++e8 x:=by rw[aA hx,p6]; simp[aL]
    have e2:=aK (n.take k)
    have e3:=rW x
    rw[List.length_take]at e2
    generalize aL (n.take k)=C at e1 e2 ⊢
    refine sh ?_
    refine r9 [0,1] (k+1) ?_ ?_ ?_
    ·omega
    ·omega
    ·all_goals repeat' (first|exact True.intro|refine And.intro ?_ ?_|(intro _u; clear _u)|(with_reducible first|exact aw.fg|refine eM ?_ ?_|refine eF ?_ ?_ ?_|refine eN ?_|refine eL ?_ ?_ ?_|refine eA ?_ ?_|refine az.mk ⟨_,hp,rfl⟩ ?_ ?_)|refine az.mk ⟨_,hp,rfl⟩ ?_ ?_)
     all_goals try first|with_reducible rfl|omega|exact .inl (by decide)|(simp; done)|rfl
     all_goals (rw[e1]; simp)
   ·rw[List.take_of_length_le (by omega)]
    refine sh ?_
    exact rM [0,1]
theorem Ik {R:Env} (h:EA R) (x:Int) (hx:aZ .i64 x):
  R.Mc 508 [.loc 0 1 0 0,.aO 1 (aY .i64 [x])] [(0,.var (R.ty 62) [.an])] (.aU []) [(0,.var (R.ty 62) [.bh 1 (aL [x]).length]),(1,.arr (R.ty 4) 1 (bc (aL [x])))] 2:=
 h.RD.cr 100 1 rfl rfl rfl fun X bb hfit hp=>by
  have e3:=rW x
  have e4:aL [x]=e8 x:=by simp[aL]
  rw[e4]
  refine sh ?_
  refine aN.one 100 ?_
  refine sh ?_
  refine aG (by rfl) ?_
  obtain⟨y,hy⟩:∃u_,[x][0]? =some u_:=⟨_,List.getElem?_eq_getElem (by first|omega|(simp<;>omega))⟩
  refine sh ?_
  refine ah hy ?_
  obtain rfl:y=x:=by simpa using hy.symm
  refine sh ?_
  refine cM true [] (FA h.Gd y hx) ?_
  repeat (intro _; first|refine eK ?_|refine eP ?_)
  refine sh ?_
  refine aN.one 100 ?_
  refine sh ?_
  refine aT (by rfl) ?_
  refine sh ?_
  exact rM [0,3]
theorem xx {R:Env} (h:LY R) (b:List UInt8) (l:List T3) (hb:b.length≤900000) (hn:l.length≤100) (hi:∀t ∈ l,aZ .i64 t.a∧aZ .i64 t.b∧aZ .i64 t.c):
  R.Mc 509 [.loc 0 1 0 0,.aO 3 (bF l)] [(0,.var (R.ty 62) [.bh 1 b.length]),(1,.arr (R.ty 4) 1 (bc b))] (.aU []) [(0,.var (R.ty 62) [.bh 1 (b++aL (jo l)).length]),(1,.arr (R.ty 4) 1 (bc (b++aL (jo l))))] 2:=
 h.V0.cr 100 2 rfl rfl rfl fun X bb hfit hp=>by
  refine sh ?_
  refine aN.inv 100 (fun k:Nat=>k≤l.length) (fun k=>⟨[(0,.loc 0 1 0 0),(6,.aO 3 (bF l)),(7,.int .i64 l.length),(8,.int .i64 k)],[(0,.var (R.ty 62) [.bh 1 (b++aL (jo (l.take k))).length]),(1,.arr (R.ty 4) 1 (bc (b++aL (jo (l.take k)))))],2⟩) (fun k=>l.length - k) (0) ?_ ⟨⟨_,hp,rfl⟩,?_,?_⟩ ?_
  ·exact Nat.zero_le _
  ·all_goals repeat' (first|exact True.intro|refine And.intro ?_ ?_|(intro _u; clear _u)|(with_reducible first|exact aw.fg|refine eM ?_ ?_|refine eF ?_ ?_ ?_|refine eN ?_|refine eL ?_ ?_ ?_|refine eA ?_ ?_|refine az.mk ⟨_,hp,rfl⟩ ?_ ?_)|refine az.mk ⟨_,hp,rfl⟩ ?_ ?_)
   all_goals try first|with_reducible rfl|omega|exact .inl (by decide)|(simp; done)|rfl
   all_goals simp[aL,jo]
  ·all_goals repeat' (first|exact True.intro|refine And.intro ?_ ?_|(intro _u; clear _u)|(with_reducible first|exact aw.fg|refine eM ?_ ?_|refine eF ?_ ?_ ?_|refine eN ?_|refine eL ?_ ?_ ?_|refine eA ?_ ?_|refine az.mk ⟨_,hp,rfl⟩ ?_ ?_)|refine az.mk ⟨_,hp,rfl⟩ ?_ ?_)
   all_goals try first|with_reducible rfl|omega|exact .inl (by decide)|(simp; done)|rfl
   all_goals simp[aL,jo]
  ·intro k hk
   dsimp only
   refine sh ?_
   refine cS (fun h1=> ?_) (fun h1=> ?_)
   ·obtain⟨x,hx⟩:∃u_,l[k]? =some u_:=⟨_,List.getElem?_eq_getElem (by first|omega|(simp<;>omega))⟩
    refine sh ?_
    refine ah hx ?_
    obtain⟨i1,i2,i3⟩:=hi x (List.mem_of_getElem? hx)
    have e1:=rV hx
    have e2:=aK (jo (l.take k))
    rw[bT,List.length_take]at e2
    have qZ:(b++aL (jo (l.take k))).length≤1000000:=by rw[List.length_append]; omega
    refine sh ?_
    refine cM true [0,1] (dw h.gH (b++aL (jo (l.take k))) [x.a,x.b,x.c] qZ (by simp) (by simpa using⟨i1,i2,i3⟩)) ?_
    repeat (intro _; first|refine eK ?_|refine eP ?_)
    refine sh ?_
    refine r9 [0,1] (k+1) ?_ ?_ ?_
    ·omega
    ·omega
    ·all_goals repeat' (first|exact True.intro|refine And.intro ?_ ?_|(intro _u; clear _u)|(with_reducible first|exact aw.fg|refine eM ?_ ?_|refine eF ?_ ?_ ?_|refine eN ?_|refine eL ?_ ?_ ?_|refine eA ?_ ?_|refine az.mk ⟨_,hp,rfl⟩ ?_ ?_)|refine az.mk ⟨_,hp,rfl⟩ ?_ ?_)
     all_goals try first|with_reducible rfl|omega|exact .inl (by decide)|(simp; done)|rfl
     all_goals (rw[e1,p6]; simp)
   ·rw[List.take_of_length_le (by omega)]
    refine sh ?_
    exact rM [0,1]
end Go.UM
namespace Go.UM
open Go.AM
set_option maxRecDepth 4000
structure gK where
 (p q r:T3)
 (ua ub va vb wa wb fJ dS obj iH:Int)
def gK.row (t:gK):List AV:=[.int .i64 t.p.a,.int .i64 t.p.b,.int .i64 t.p.c,.int .i64 t.q.a,.int .i64 t.q.b,.int .i64 t.q.c,.int .i64 t.r.a,.int .i64 t.r.b,.int .i64 t.r.c,
 .int .i64 t.ua,.int .i64 t.ub,.int .i64 t.va,.int .i64 t.vb,.int .i64 t.wa,.int .i64 t.wb,.int .i64 t.fJ,.int .i64 t.dS,.int .i64 t.obj,.int .u8 t.iH]
def gK.ap (t:gK):List Int:=jo [t.p,t.q,t.r]++ [t.ua,t.ub]++ [t.va,t.vb]++ [t.wa,t.wb]++ [t.fJ,t.dS,t.obj,t.iH]
structure gK.Ok (t:gK):Prop where
 p:aZ .i64 t.p.a∧aZ .i64 t.p.b∧aZ .i64 t.p.c
 q:aZ .i64 t.q.a∧aZ .i64 t.q.b∧aZ .i64 t.q.c
 r:aZ .i64 t.r.a∧aZ .i64 t.r.b∧aZ .i64 t.r.c
 u:aZ .i64 t.ua∧aZ .i64 t.ub
 v:aZ .i64 t.va∧aZ .i64 t.vb
 w:aZ .i64 t.wa∧aZ .i64 t.wb
 m:aZ .i64 t.fJ∧aZ .i64 t.dS∧aZ .i64 t.obj∧aZ .u8 t.iH
def ko (l:List gK):List (List AV):=l.map gK.row
@[simp] theorem xy (l:List gK):(ko l).length=l.length:=by simp[ko]
@[simp] theorem SG (l:List gK):lR (ko l):=by simp[ko,gK.row]
instance {l:List gK}:iF (ko l) l.length:=⟨xy l⟩
def eY (l:List ej):List (List AV):=l.map ej.row
@[simp] theorem vu (l:List ej):(eY l).length=l.length:=by simp[eY]
@[simp] theorem NR (l:List ej):lR (eY l):=by simp[eY,ej.row]
instance {l:List ej}:iF (eY l) l.length:=⟨vu l⟩
def e6 (l:List ed):List (List AV):=l.map ed.row
@[simp] theorem vw (l:List ed):(e6 l).length=l.length:=by simp[e6]
@[simp] theorem NS (l:List ed):lR (e6 l):=by simp[e6,ed.row]
instance {l:List ed}:iF (e6 l) l.length:=⟨vw l⟩
def e7 (l:List cz):List (List AV):=l.map cz.row
@[simp] theorem vx (l:List cz):(e7 l).length=l.length:=by simp[e7]
@[simp] theorem NT (l:List cz):lR (e7 l):=by simp[e7,cz.row]
instance {l:List cz}:iF (e7 l) l.length:=⟨vx l⟩
structure fP where
 br:List gK
 bD:List ej
 be:List cz
 bI:List ed
 ids:List Int
 bR:List Int
 (nH fr to:Int)
def fP.row (s:fP):List AV:=[.aO 19 (ko s.br),.aO 5 (eY s.bD),.aO 2 (e7 s.be),.aO 13 (e6 s.bI),.aO 1 (aY .u64 s.ids),.aO 1 (aY .u32 s.bR),.int .u32 s.nH,.int .u32 s.fr,.int .u32 s.to]
def ej.ap (m:ej):List Int:=[m.k]++ [m.c.a,m.c.b,m.c.c]++ [m.r]
def cz.ap (t:cz):List Int:=[t.side,(t.t.length:Int)]++jo t.t
def ed.ap (l:ed):List Int:=[l.k]++ [l.c.a,l.c.b,l.c.c]++jo [l.p,l.u,l.v]
def oB {α:Type} (l:List α) (f:α→List Int):List Int:=(l.length:Int)::l.flatMap f
def fP.ap (s:fP):List Int:=oB s.br gK.ap++oB s.bD ej.ap++oB s.be cz.ap++oB s.bI ed.ap++oB s.ids (fun x=>[wr .i64 x])++oB s.bR (fun x=>[x])++ [s.nH,s.fr,s.to]
structure fP.Ok (s:fP):Prop where
 nt:s.br.length≤100
 nm:s.bD.length≤100
 nx:s.be.length≤10∧∀t ∈ s.be,t.t.length≤300
 nl:s.bI.length≤100
 ni:s.ids.length≤100
 nb:s.bR.length≤100
 t:∀t ∈ s.br,t.Ok
 m:∀m ∈ s.bD,∀x ∈ m.ap,aZ .i64 x
 x:∀t ∈ s.be,∀x ∈ t.ap,aZ .i64 x
 l:∀t ∈ s.bI,∀x ∈ t.ap,aZ .i64 x
 i:∀x ∈ s.ids,aZ .u64 x
 b:∀x ∈ s.bR,aZ .u32 x
 e:aZ .u32 s.nH∧aZ .u32 s.fr∧aZ .u32 s.to
theorem bY {α:Type} (f:α→List Int) (c:Nat):∀l:List α,(∀x ∈ l,(f x).length≤c)→(l.flatMap f).length≤c*l.length
 |[],_=>by simp
 |x::r,h=>by
  have h1:=h x (by simp)
  have h2:=bY f c r fun y hy=>h y (by simp[hy])
  rw[List.flatMap_cons,List.length_append,List.length_cons,Nat.mul_add]
  omega
theorem cJ {α:Type} {f:α→List Int} {l:List α} {k:Nat} {x:α} (h:l[k]? =some x):(l.take (k+1)).flatMap f=(l.take k).flatMap f++f x:=by
 rw[aA h,List.flatMap_append]; simp
theorem rz (x:Int):aZ .i64 (wr .i64 x):=by
 simp only[aZ,wr,IntKind.wrap,IntKind.bits,IntKind.signed]
 simp
 omega
set_option maxHeartbeats 2000000 in
theorem uf {R:Env} (h:LZ R) (s:fP) (ok:s.Ok):R.Pc 499 [.agg s.row] (.aO 1 (bc (aL s.ap))):=
 h.L3.enter 300 rfl fun X bb hfit hp=>by
  have nt:=ok.nt
  have hl:aZ .i64 (s.br.length:Int):=by simp only[aZ]; omega
  refine sh ?_
  refine cM true [1] (Ik h.gH (s.br.length:Int) hl) ?_
  repeat (intro _; first|refine eK ?_|refine eP ?_)
  refine sh ?_
  refine gZ 200 (fun k:Nat=>k≤s.br.length) (fun k=>⟨[(1,.loc 0 1 0 0),(3,.loc 1 1 0 0),(29,.aO 19 (ko s.br)),(30,.int .i64 s.br.length),(31,.int .i64 k)],[(0,.var (R.ty 59) s.row),(1,.var (R.ty 62) [.bh 3 (aL ((s.br.length:Int)::(s.br.take k).flatMap gK.ap)).length]),(3,.arr (R.ty 4) 1 (bc (aL ((s.br.length:Int)::(s.br.take k).flatMap gK.ap))))],4⟩) (fun k=>s.br.length - k) (0) ?_ ?_
  ·exact Nat.zero_le _
  ·intro k hk
   dsimp only
   refine sh ?_
   refine cS (fun h1=> ?_) (fun h1=> ?_)
   ·obtain⟨x,hx⟩:∃u_,s.br[k]? =some u_:=⟨_,List.getElem?_eq_getElem (by first|omega|(simp<;>omega))⟩
    refine sh ?_
    refine ah hx ?_
    have dX:=ok.t x (List.mem_of_getElem? hx)
    have e1:=cJ (f:=gK.ap) hx
    have e2:=bY gK.ap 19 (s.br.take k) fun _ _=>Nat.le_refl _
    rw[List.length_take]at e2
    generalize hC:(s.br.take k).flatMap gK.ap=C at e1 e2 ⊢
    have e3:=aK ((s.br.length:Int)::C)
    rw[List.length_cons]at e3
    refine sh ?_
    refine cM true [1,3] (xx h.HD (aL ((s.br.length:Int)::C)) [x.p,x.q,x.r] (by omega) (by simp) (by simpa using⟨dX.p,dX.q,dX.r⟩)) ?_
    repeat (intro _; first|refine eK ?_|refine eP ?_)
    have f0:=aK (jo [x.p,x.q,x.r])
    rw[bT]at f0
    have f1:(aL ((s.br.length:Int)::C)++aL (jo [x.p,x.q,x.r])).length≤900000:=by rw[List.length_append]; simp only[List.length_cons,List.length_nil]at f0; omega
    generalize hB:aL ((s.br.length:Int)::C)++aL (jo [x.p,x.q,x.r])=B at f1 ⊢
    refine sh ?_
    refine aN.one 100 ?_
    refine sh ?_
    refine aG (by decide) ?_
    refine sh ?_
    refine cM true [1,3] (dw h.gH B [x.ua,x.ub] (by omega) (by simp) (by simpa using dX.u)) ?_
    repeat (intro _; first|refine eK ?_|refine eP ?_)
    refine sh ?_
    refine aN.one 100 ?_
    refine sh ?_
    refine aG (by decide) ?_
    have l1:=aK [x.ua,x.ub]
    have f2:(B++aL [x.ua,x.ub]).length≤910000:=by rw[List.length_append,l1]; simp only[List.length_cons,List.length_nil]; omega
    refine sh ?_
    refine cM true [1,3] (dw h.gH (B++aL [x.ua,x.ub]) [x.va,x.vb] (by omega) (by simp) (by simpa using dX.v)) ?_
    repeat (intro _; first|refine eK ?_|refine eP ?_)
    refine sh ?_
    refine aN.one 100 ?_
    refine sh ?_
    refine aG (by decide) ?_
    have l2:=aK [x.va,x.vb]
    have f3:(B++aL [x.ua,x.ub]++aL [x.va,x.vb]).length≤920000:=by rw[List.length_append,l2]; simp only[List.length_cons,List.length_nil]; omega
    refine sh ?_
    refine cM true [1,3] (dw h.gH (B++aL [x.ua,x.ub]++aL [x.va,x.vb]) [x.wa,x.wb] (by omega) (by simp) (by simpa using dX.w)) ?_
    repeat (intro _; first|refine eK ?_|refine eP ?_)
    refine sh ?_
    refine aN.one 100 ?_
    refine sh ?_
    refine aT (by decide) ?_
    have l3:=aK [x.wa,x.wb]
    have f4:(B++aL [x.ua,x.ub]++aL [x.va,x.vb]++aL [x.wa,x.wb]).length≤930000:=by rw[List.length_append,l3]; simp only[List.length_cons,List.length_nil]; omega
    have hm:=dX.m
    have hm8:0≤x.iH∧x.iH≤255:=by have:=hm.2.2.2; simp only[aZ]at this; omega
    have hmk:aZ .i64 x.iH:=by have:=hm.2.2.2; simp only[aZ]at this ⊢; omega
    refine sh ?_
    refine cM true [1,3] (dw h.gH (B++aL [x.ua,x.ub]++aL [x.va,x.vb]++aL [x.wa,x.wb]) [x.fJ,x.dS,x.obj,x.iH] (by omega) (by simp) (by simpa using⟨hm.1,hm.2.1,hm.2.2.1,hmk⟩)) ?_
    repeat (intro _; first|refine eK ?_|refine eP ?_)
    have e5:aL ((s.br.length:Int)::(C++x.ap))=B++aL [x.ua,x.ub]++aL [x.va,x.vb]++aL [x.wa,x.wb]++aL [x.fJ,x.dS,x.obj,x.iH]:=by
     rw[←hB]; simp[aL,gK.ap]
    refine sh ?_
    refine r9 [0,1,2,3] (k+1) ?_ ?_ ?_
    ·omega
    ·omega
    ·all_goals repeat' (first|exact True.intro|refine And.intro ?_ ?_|(intro _u; clear _u)|(with_reducible first|exact aw.fg|refine eM ?_ ?_|refine eF ?_ ?_ ?_|refine eN ?_|refine eL ?_ ?_ ?_|refine eA ?_ ?_|refine az.mk ⟨_,hp,rfl⟩ ?_ ?_)|refine az.mk ⟨_,hp,rfl⟩ ?_ ?_)
     all_goals try first|with_reducible rfl|omega|exact .inl (by decide)|(simp; done)|rfl
     all_goals (rw[e1,e5]; try simp)
   ·rw[List.take_of_length_le (by omega)]
    clear hk h1
    have Wi:(aL ((s.br.length:Int)::s.br.flatMap gK.ap)).length≤20000:=by
     have:=bY gK.ap 19 s.br fun _ _=>Nat.le_refl _
     rw[aK,List.length_cons]; omega
    generalize MU:aL ((s.br.length:Int)::s.br.flatMap gK.ap)=A0 at Wi ⊢
    have n1:=ok.nm
    have sq:aZ .i64 (s.bD.length:Int):=by simp only[aZ]; omega
    refine sh ?_
    refine cM true [1,3] (dw h.gH A0 [(s.bD.length:Int)] (by omega) (by simp) (by simpa using sq)) ?_
    repeat (intro _; first|refine eK ?_|refine eP ?_)
    refine sh ?_
    refine gZ 200 (fun k:Nat=>k≤s.bD.length) (fun k=>⟨[(1,.loc 0 1 0 0),(3,.loc 1 1 0 0),(68,.aO 5 (eY s.bD)),(69,.int .i64 s.bD.length),(70,.int .i64 k)],[(0,.var (R.ty 59) s.row),(1,.var (R.ty 62) [.bh 3 (A0++aL ((s.bD.length:Int)::(s.bD.take k).flatMap ej.ap)).length]),(3,.arr (R.ty 4) 1 (bc (A0++aL ((s.bD.length:Int)::(s.bD.take k).flatMap ej.ap))))],4⟩) (fun k=>s.bD.length - k) (0) ?_ ?_
    ·exact Nat.zero_le _
    ·intro k hk
     dsimp only
     refine sh ?_
     refine cS (fun h1=> ?_) (fun h1=> ?_)
     ·obtain⟨x,hx⟩:∃u_,s.bD[k]? =some u_:=⟨_,List.getElem?_eq_getElem (by first|omega|(simp<;>omega))⟩
      refine sh ?_
      refine ah hx ?_
      have sN:=List.mem_of_getElem? hx
      have e1:=cJ (f:=ej.ap) hx
      have e2:=bY (ej.ap) 5 (s.bD.take k) fun y hy=>by first|exact Nat.le_refl _|(have:=n1.2 y (List.mem_of_mem_take hy); simp only[cz.ap,List.length_append,bT,List.length_cons,List.length_nil]; omega)
      rw[List.length_take]at e2
      generalize (s.bD.take k).flatMap ej.ap=C at e1 e2 ⊢
      have e3:=aK ((s.bD.length:Int)::C)
      rw[List.length_cons]at e3
      have f0:(A0++aL ((s.bD.length:Int)::C)).length≤30000:=by rw[List.length_append]; omega
      generalize hB:A0++aL ((s.bD.length:Int)::C)=B at f0 ⊢
      have dX:=ok.m x sN
      simp only[ej.ap,List.mem_append,List.mem_cons,List.not_mem_nil,or_false]at dX
      refine sh ?_
      refine cM true [1,3] (dw h.gH (B) [x.k] (by omega) (by simp) (by simpa using dX x.k (by simp))) ?_
      repeat (intro _; first|refine eK ?_|refine eP ?_)
      have g0:(B++aL [x.k]).length≤500000+1000:=by
       have:=aK [x.k]
       rw[List.length_append,this]; simp only[List.length_cons,List.length_nil]; omega
      refine sh ?_
      refine cM true [1,3] (dw h.gH (B++aL [x.k]) [x.c.a,x.c.b,x.c.c] (by omega) (by simp) (by simpa using⟨dX x.c.a (by simp),dX x.c.b (by simp),dX x.c.c (by simp)⟩)) ?_
      repeat (intro _; first|refine eK ?_|refine eP ?_)
      have g1:(B++aL [x.k]++aL [x.c.a,x.c.b,x.c.c]).length≤500000+2000:=by
       have:=aK [x.c.a,x.c.b,x.c.c]
       rw[List.length_append,this]; simp only[List.length_cons,List.length_nil]; omega
      refine sh ?_
      refine cM true [1,3] (dw h.gH (B++aL [x.k]++aL [x.c.a,x.c.b,x.c.c]) [x.r] (by omega) (by simp) (by simpa using dX x.r (by simp))) ?_
      repeat (intro _; first|refine eK ?_|refine eP ?_)
      have e5:A0++aL ((s.bD.length:Int)::(C++x.ap))=B++aL [x.k]++aL [x.c.a,x.c.b,x.c.c]++aL [x.r]:=by
       rw[←hB]; simp[aL,ej.ap]
      refine sh ?_
      refine r9 [0,1,2,3] (k+1) ?_ ?_ ?_
      ·omega
      ·omega
      ·all_goals repeat' (first|exact True.intro|refine And.intro ?_ ?_|(intro _u; clear _u)|(with_reducible first|exact aw.fg|refine eM ?_ ?_|refine eF ?_ ?_ ?_|refine eN ?_|refine eL ?_ ?_ ?_|refine eA ?_ ?_|refine az.mk ⟨_,hp,rfl⟩ ?_ ?_)|refine az.mk ⟨_,hp,rfl⟩ ?_ ?_)
       all_goals try first|with_reducible rfl|omega|exact .inl (by decide)|(simp; done)|rfl
       all_goals (rw[e1,e5]; try simp)
     ·rw[List.take_of_length_le (by omega)]
      clear hk h1
      have Wj:(A0++aL ((s.bD.length:Int)::s.bD.flatMap ej.ap)).length≤30000:=by
       have:=bY (ej.ap) 5 s.bD fun y hy=>by first|exact Nat.le_refl _|(have:=n1.2 y hy; simp only[cz.ap,List.length_append,bT,List.length_cons,List.length_nil]; omega)
       rw[List.length_append,aK,List.length_cons]; omega
      generalize MV:A0++aL ((s.bD.length:Int)::s.bD.flatMap ej.ap)=A1 at Wj ⊢
      have n2:=ok.nx
      have hl2:aZ .i64 (s.be.length:Int):=by simp only[aZ]; omega
      refine sh ?_
      refine cM true [1,3] (dw h.gH A1 [(s.be.length:Int)] (by omega) (by simp) (by simpa using hl2)) ?_
      repeat (intro _; first|refine eK ?_|refine eP ?_)
      refine sh ?_
      refine gZ 200 (fun k:Nat=>k≤s.be.length) (fun k=>⟨[(1,.loc 0 1 0 0),(3,.loc 1 1 0 0),(96,.aO 2 (e7 s.be)),(97,.int .i64 s.be.length),(98,.int .i64 k)],[(0,.var (R.ty 59) s.row),(1,.var (R.ty 62) [.bh 3 (A1++aL ((s.be.length:Int)::(s.be.take k).flatMap cz.ap)).length]),(3,.arr (R.ty 4) 1 (bc (A1++aL ((s.be.length:Int)::(s.be.take k).flatMap cz.ap))))],4⟩) (fun k=>s.be.length - k) (0) ?_ ?_
      ·exact Nat.zero_le _
      ·intro k hk
       dsimp only
       refine sh ?_
       refine cS (fun h1=> ?_) (fun h1=> ?_)
       ·obtain⟨x,hx⟩:∃u_,s.be[k]? =some u_:=⟨_,List.getElem?_eq_getElem (by first|omega|(simp<;>omega))⟩
        refine sh ?_
        refine ah hx ?_
        have sN:=List.mem_of_getElem? hx
        have e1:=cJ (f:=cz.ap) hx
        have e2:=bY (cz.ap) 1000 (s.be.take k) fun y hy=>by first|exact Nat.le_refl _|(have:=n2.2 y (List.mem_of_mem_take hy); simp only[cz.ap,List.length_append,bT,List.length_cons,List.length_nil]; omega)
        rw[List.length_take]at e2
        generalize (s.be.take k).flatMap cz.ap=C at e1 e2 ⊢
        have e3:=aK ((s.be.length:Int)::C)
        rw[List.length_cons]at e3
        have f0:(A1++aL ((s.be.length:Int)::C)).length≤200000:=by rw[List.length_append]; omega
        generalize hB:A1++aL ((s.be.length:Int)::C)=B at f0 ⊢
        have dX:=ok.x x sN
        have Zx:=n2.2 x sN
        have i1:aZ .i64 x.side:=dX _ (by simp[cz.ap])
        have i2:aZ .i64 (x.t.length:Int):=by simp only[aZ]; omega
        refine sh ?_
        refine cM true [1,3] (dw h.gH (B) [x.side,(x.t.length:Int)] (by omega) (by simp) (by simpa using⟨i1,i2⟩)) ?_
        repeat (intro _; first|refine eK ?_|refine eP ?_)
        have g0:=aK [x.side,(x.t.length:Int)]
        have g1:(B++aL [x.side,(x.t.length:Int)]).length≤500100:=by rw[List.length_append,g0]; simp only[List.length_cons,List.length_nil]; omega
        generalize hD:B++aL [x.side,(x.t.length:Int)]=D at g1 ⊢
        refine sh ?_
        refine aN.inv 200 (fun j:Nat=>j≤x.t.length) (fun j=>⟨[(1,.loc 0 1 0 0),(3,.loc 1 1 0 0),(96,.aO 2 (e7 s.be)),(97,.int .i64 s.be.length),(98,.int .i64 k),(111,.aO 3 (bF x.t)),(112,.int .i64 x.t.length),(113,.int .i64 j)],[(0,.var (R.ty 59) s.row),(1,.var (R.ty 62) [.bh 3 (D++aL (jo (x.t.take j))).length]),(3,.arr (R.ty 4) 1 (bc (D++aL (jo (x.t.take j)))))],4⟩) (fun j=>x.t.length - j) (0) ?_ ⟨⟨_,hp,rfl⟩,?_,?_⟩ ?_
        ·exact Nat.zero_le _
        ·all_goals repeat' (first|exact True.intro|refine And.intro ?_ ?_|(intro _u; clear _u)|(with_reducible first|exact aw.fg|refine eM ?_ ?_|refine eF ?_ ?_ ?_|refine eN ?_|refine eL ?_ ?_ ?_|refine eA ?_ ?_|refine az.mk ⟨_,hp,rfl⟩ ?_ ?_)|refine az.mk ⟨_,hp,rfl⟩ ?_ ?_)
         all_goals try first|with_reducible rfl|omega|exact .inl (by decide)|(simp; done)|rfl
         all_goals simp[aL,jo]
        ·all_goals repeat' (first|exact True.intro|refine And.intro ?_ ?_|(intro _u; clear _u)|(with_reducible first|exact aw.fg|refine eM ?_ ?_|refine eF ?_ ?_ ?_|refine eN ?_|refine eL ?_ ?_ ?_|refine eA ?_ ?_|refine az.mk ⟨_,hp,rfl⟩ ?_ ?_)|refine az.mk ⟨_,hp,rfl⟩ ?_ ?_)
         all_goals try first|with_reducible rfl|omega|exact .inl (by decide)|(simp; done)|rfl
         all_goals simp[aL,jo]
        ·intro j hj
         dsimp only
         refine sh ?_
         refine cS (fun h2=> ?_) (fun h2=> ?_)
         ·obtain⟨y,hy⟩:∃u_,x.t[j]? =some u_:=⟨_,List.getElem?_eq_getElem (by first|omega|(simp<;>omega))⟩
          refine sh ?_
          refine ah hy ?_
          have JL:=List.mem_of_getElem? hy
          have q1:=rV hy
          have q2:=aK (jo (x.t.take j))
          rw[bT,List.length_take]at q2
          generalize jo (x.t.take j)=T at q1 q2 ⊢
          have q3:(D++aL T).length≤600000:=by rw[List.length_append]; omega
          have q4:∀z ∈ [y.a,y.b,y.c],aZ .i64 z:=fun z hz=>dX z (by simp only[cz.ap,List.mem_append]; exact .inr (List.mem_flatMap.2 ⟨y,JL,hz⟩))
          refine sh ?_
          refine cM true [1,3] (dw h.gH (D++aL T) [y.a,y.b,y.c] (by omega) (by simp) q4) ?_
          repeat (intro _; first|refine eK ?_|refine eP ?_)
          refine sh ?_
          refine r9 [0,1,2,3] (j+1) ?_ ?_ ?_
          ·omega
          ·omega
          ·all_goals repeat' (first|exact True.intro|refine And.intro ?_ ?_|(intro _u; clear _u)|(with_reducible first|exact aw.fg|refine eM ?_ ?_|refine eF ?_ ?_ ?_|refine eN ?_|refine eL ?_ ?_ ?_|refine eA ?_ ?_|refine az.mk ⟨_,hp,rfl⟩ ?_ ?_)|refine az.mk ⟨_,hp,rfl⟩ ?_ ?_)
           all_goals try first|with_reducible rfl|omega|exact .inl (by decide)|(simp; done)|rfl
           all_goals (rw[q1,p6]; try simp)
         ·rw[List.take_of_length_le (by omega)]
          have e5:A1++aL ((s.be.length:Int)::(C++x.ap))=D++aL (jo x.t):=by
           rw[←hD,←hB]; simp[aL,cz.ap]
          refine sh ?_
          refine r9 [0,1,2,3] (k+1) ?_ ?_ ?_
          ·omega
          ·omega
          ·all_goals repeat' (first|exact True.intro|refine And.intro ?_ ?_|(intro _u; clear _u)|(with_reducible first|exact aw.fg|refine eM ?_ ?_|refine eF ?_ ?_ ?_|refine eN ?_|refine eL ?_ ?_ ?_|refine eA ?_ ?_|refine az.mk ⟨_,hp,rfl⟩ ?_ ?_)|refine az.mk ⟨_,hp,rfl⟩ ?_ ?_)
           all_goals try first|with_reducible rfl|omega|exact .inl (by decide)|(simp; done)|rfl
           all_goals (rw[e1,e5]; try simp)
       ·rw[List.take_of_length_le (by omega)]
        clear hk h1
        have Wl:(A1++aL ((s.be.length:Int)::s.be.flatMap cz.ap)).length≤200000:=by
         have:=bY (cz.ap) 1000 s.be fun y hy=>by first|exact Nat.le_refl _|(have:=n2.2 y hy; simp only[cz.ap,List.length_append,bT,List.length_cons,List.length_nil]; omega)
         rw[List.length_append,aK,List.length_cons]; omega
        generalize MW:A1++aL ((s.be.length:Int)::s.be.flatMap cz.ap)=A2 at Wl ⊢
        have n3:=ok.nl
        have Wm:aZ .i64 (s.bI.length:Int):=by simp only[aZ]; omega
        refine sh ?_
        refine cM true [1,3] (dw h.gH A2 [(s.bI.length:Int)] (by omega) (by simp) (by simpa using Wm)) ?_
        repeat (intro _; first|refine eK ?_|refine eP ?_)
        refine sh ?_
        refine gZ 200 (fun k:Nat=>k≤s.bI.length) (fun k=>⟨[(1,.loc 0 1 0 0),(3,.loc 1 1 0 0),(129,.aO 13 (e6 s.bI)),(130,.int .i64 s.bI.length),(131,.int .i64 k)],[(0,.var (R.ty 59) s.row),(1,.var (R.ty 62) [.bh 3 (A2++aL ((s.bI.length:Int)::(s.bI.take k).flatMap ed.ap)).length]),(3,.arr (R.ty 4) 1 (bc (A2++aL ((s.bI.length:Int)::(s.bI.take k).flatMap ed.ap))))],4⟩) (fun k=>s.bI.length - k) (0) ?_ ?_
        ·exact Nat.zero_le _
        ·intro k hk
         dsimp only
         refine sh ?_
         refine cS (fun h1=> ?_) (fun h1=> ?_)
         ·obtain⟨x,hx⟩:∃u_,s.bI[k]? =some u_:=⟨_,List.getElem?_eq_getElem (by first|omega|(simp<;>omega))⟩
          refine sh ?_
          refine ah hx ?_
          have sN:=List.mem_of_getElem? hx
          have e1:=cJ (f:=ed.ap) hx
          have e2:=bY (ed.ap) 13 (s.bI.take k) fun y hy=>by first|exact Nat.le_refl _|(have:=n3.2 y (List.mem_of_mem_take hy); simp only[cz.ap,List.length_append,bT,List.length_cons,List.length_nil]; omega)
          rw[List.length_take]at e2
          generalize (s.bI.take k).flatMap ed.ap=C at e1 e2 ⊢
          have e3:=aK ((s.bI.length:Int)::C)
          rw[List.length_cons]at e3
          have f0:(A2++aL ((s.bI.length:Int)::C)).length≤220000:=by rw[List.length_append]; omega
          generalize hB:A2++aL ((s.bI.length:Int)::C)=B at f0 ⊢
          have dX:=ok.l x sN
          simp only[ed.ap,jo,List.flatMap_cons,List.flatMap_nil,List.mem_append,List.mem_cons,List.not_mem_nil,or_false]at dX
          refine sh ?_
          refine cM true [1,3] (dw h.gH (B) [x.k] (by omega) (by simp) (by simpa using dX x.k (by simp))) ?_
          repeat (intro _; first|refine eK ?_|refine eP ?_)
          have g0:(B++aL [x.k]).length≤500000+1000:=by
           have:=aK [x.k]
           rw[List.length_append,this]; simp only[List.length_cons,List.length_nil]; omega
          refine sh ?_
          refine cM true [1,3] (dw h.gH (B++aL [x.k]) [x.c.a,x.c.b,x.c.c] (by omega) (by simp) (by simpa using⟨dX x.c.a (by simp),dX x.c.b (by simp),dX x.c.c (by simp)⟩)) ?_
          repeat (intro _; first|refine eK ?_|refine eP ?_)
          have g1:(B++aL [x.k]++aL [x.c.a,x.c.b,x.c.c]).length≤500000+2000:=by
           have:=aK [x.c.a,x.c.b,x.c.c]
           rw[List.length_append,this]; simp only[List.length_cons,List.length_nil]; omega
          refine sh ?_
          refine cM true [1,3] (xx h.HD (B++aL [x.k]++aL [x.c.a,x.c.b,x.c.c]) [x.p,x.u,x.v] (by omega) (by simp) (by simpa using⟨⟨dX x.p.a (by simp),dX x.p.b (by simp),dX x.p.c (by simp)⟩,⟨dX x.u.a (by simp),dX x.u.b (by simp),dX x.u.c (by simp)⟩,dX x.v.a (by simp),dX x.v.b (by simp),dX x.v.c (by simp)⟩)) ?_
          repeat (intro _; first|refine eK ?_|refine eP ?_)
          have e5:A2++aL ((s.bI.length:Int)::(C++x.ap))=B++aL [x.k]++aL [x.c.a,x.c.b,x.c.c]++aL (jo [x.p,x.u,x.v]):=by
           rw[←hB]; simp[aL,ed.ap]
          refine sh ?_
          refine r9 [0,1,2,3] (k+1) ?_ ?_ ?_
          ·omega
          ·omega
          ·all_goals repeat' (first|exact True.intro|refine And.intro ?_ ?_|(intro _u; clear _u)|(with_reducible first|exact aw.fg|refine eM ?_ ?_|refine eF ?_ ?_ ?_|refine eN ?_|refine eL ?_ ?_ ?_|refine eA ?_ ?_|refine az.mk ⟨_,hp,rfl⟩ ?_ ?_)|refine az.mk ⟨_,hp,rfl⟩ ?_ ?_)
           all_goals try first|with_reducible rfl|omega|exact .inl (by decide)|(simp; done)|rfl
           all_goals (rw[e1,e5]; try simp)
         ·rw[List.take_of_length_le (by omega)]
          clear hk h1
          have Wn:(A2++aL ((s.bI.length:Int)::s.bI.flatMap ed.ap)).length≤220000:=by
           have:=bY (ed.ap) 13 s.bI fun y hy=>by first|exact Nat.le_refl _|(have:=n3.2 y hy; simp only[cz.ap,List.length_append,bT,List.length_cons,List.length_nil]; omega)
           rw[List.length_append,aK,List.length_cons]; omega
          generalize MX:A2++aL ((s.bI.length:Int)::s.bI.flatMap ed.ap)=A3 at Wn ⊢
          have n4:=ok.ni
          have Pg:aZ .i64 (s.ids.length:Int):=by simp only[aZ]; omega
          refine sh ?_
          refine cM true [1,3] (dw h.gH A3 [(s.ids.length:Int)] (by omega) (by simp) (by simpa using Pg)) ?_
          repeat (intro _; first|refine eK ?_|refine eP ?_)
          refine sh ?_
          refine gZ 200 (fun k:Nat=>k≤s.ids.length) (fun k=>⟨[(1,.loc 0 1 0 0),(3,.loc 1 1 0 0),(161,.aO 1 (aY .u64 s.ids)),(162,.int .i64 s.ids.length),(163,.int .i64 k)],[(0,.var (R.ty 59) s.row),(1,.var (R.ty 62) [.bh 3 (A3++aL ((s.ids.length:Int)::(s.ids.take k).flatMap fun x=>[wr .i64 x])).length]),(3,.arr (R.ty 4) 1 (bc (A3++aL ((s.ids.length:Int)::(s.ids.take k).flatMap fun x=>[wr .i64 x]))))],4⟩) (fun k=>s.ids.length - k) (0) ?_ ?_
          ·exact Nat.zero_le _
          ·intro k hk
           dsimp only
           refine sh ?_
           refine cS (fun h1=> ?_) (fun h1=> ?_)
           ·obtain⟨x,hx⟩:∃u_,s.ids[k]? =some u_:=⟨_,List.getElem?_eq_getElem (by first|omega|(simp<;>omega))⟩
            refine sh ?_
            refine ah hx ?_
            have sN:=List.mem_of_getElem? hx
            have e1:=cJ (f:=fun x=>[wr .i64 x]) hx
            have e2:=bY (fun x=>[wr .i64 x]) 1 (s.ids.take k) fun y hy=>by first|exact Nat.le_refl _|(have:=n4.2 y (List.mem_of_mem_take hy); simp only[cz.ap,List.length_append,bT,List.length_cons,List.length_nil]; omega)
            rw[List.length_take]at e2
            generalize (s.ids.take k).flatMap (fun x=>[wr .i64 x])=C at e1 e2 ⊢
            have e3:=aK ((s.ids.length:Int)::C)
            rw[List.length_cons]at e3
            have f0:(A3++aL ((s.ids.length:Int)::C)).length≤230000:=by rw[List.length_append]; omega
            generalize hB:A3++aL ((s.ids.length:Int)::C)=B at f0 ⊢
            refine sh ?_
            refine bX ?_
            have i1:aZ .i64 (wr .i64 x):=rz x
            refine sh ?_
            refine cM true [1,3] (dw h.gH (B) [wr .i64 x] (by omega) (by simp) (by simpa using i1)) ?_
            repeat (intro _; first|refine eK ?_|refine eP ?_)
            have e5:A3++aL ((s.ids.length:Int)::(C++ [wr .i64 x]))=B++aL [wr .i64 x]:=by
             rw[←hB]; simp[aL]
            refine sh ?_
            refine r9 [0,1,2,3] (k+1) ?_ ?_ ?_
            ·omega
            ·omega
            ·all_goals repeat' (first|exact True.intro|refine And.intro ?_ ?_|(intro _u; clear _u)|(with_reducible first|exact aw.fg|refine eM ?_ ?_|refine eF ?_ ?_ ?_|refine eN ?_|refine eL ?_ ?_ ?_|refine eA ?_ ?_|refine az.mk ⟨_,hp,rfl⟩ ?_ ?_)|refine az.mk ⟨_,hp,rfl⟩ ?_ ?_)
             all_goals try first|with_reducible rfl|omega|exact .inl (by decide)|(simp; done)|rfl
             all_goals (rw[e1,e5]; try simp)
           ·rw[List.take_of_length_le (by omega)]
            clear hk h1
            have Wo:(A3++aL ((s.ids.length:Int)::s.ids.flatMap fun x=>[wr .i64 x])).length≤230000:=by
             have:=bY (fun x=>[wr .i64 x]) 1 s.ids fun y hy=>by first|exact Nat.le_refl _|(have:=n4.2 y hy; simp only[cz.ap,List.length_append,bT,List.length_cons,List.length_nil]; omega)
             rw[List.length_append,aK,List.length_cons]; omega
            generalize MY:A3++aL ((s.ids.length:Int)::s.ids.flatMap (fun x=>[wr .i64 x]))=A4 at Wo ⊢
            have n5:=ok.nb
            have Wp:aZ .i64 (s.bR.length:Int):=by simp only[aZ]; omega
            refine sh ?_
            refine cM true [1,3] (dw h.gH A4 [(s.bR.length:Int)] (by omega) (by simp) (by simpa using Wp)) ?_
            repeat (intro _; first|refine eK ?_|refine eP ?_)
            refine sh ?_
            refine gZ 200 (fun k:Nat=>k≤s.bR.length) (fun k=>⟨[(1,.loc 0 1 0 0),(3,.loc 1 1 0 0),(180,.aO 1 (aY .u32 s.bR)),(181,.int .i64 s.bR.length),(182,.int .i64 k)],[(0,.var (R.ty 59) s.row),(1,.var (R.ty 62) [.bh 3 (A4++aL ((s.bR.length:Int)::(s.bR.take k).flatMap fun x=>[x])).length]),(3,.arr (R.ty 4) 1 (bc (A4++aL ((s.bR.length:Int)::(s.bR.take k).flatMap fun x=>[x]))))],4⟩) (fun k=>s.bR.length - k) (0) ?_ ?_
            ·exact Nat.zero_le _
            ·intro k hk
             dsimp only
             refine sh ?_
             refine cS (fun h1=> ?_) (fun h1=> ?_)
             ·obtain⟨x,hx⟩:∃u_,s.bR[k]? =some u_:=⟨_,List.getElem?_eq_getElem (by first|omega|(simp<;>omega))⟩
              refine sh ?_
              refine ah hx ?_
              have sN:=List.mem_of_getElem? hx
              have e1:=cJ (f:=fun x=>[x]) hx
              have e2:=bY (fun x=>[x]) 1 (s.bR.take k) fun y hy=>by first|exact Nat.le_refl _|(have:=n5.2 y (List.mem_of_mem_take hy); simp only[cz.ap,List.length_append,bT,List.length_cons,List.length_nil]; omega)
              rw[List.length_take]at e2
              generalize (s.bR.take k).flatMap (fun x=>[x])=C at e1 e2 ⊢
              have e3:=aK ((s.bR.length:Int)::C)
              rw[List.length_cons]at e3
              have f0:(A4++aL ((s.bR.length:Int)::C)).length≤240000:=by rw[List.length_append]; omega
              generalize hB:A4++aL ((s.bR.length:Int)::C)=B at f0 ⊢
              have i0:=ok.b x sN
              have i1:0≤x∧x≤4294967295:=by simp only[aZ]at i0; omega
              have i2:aZ .i64 x:=by simp only[aZ]; omega
              refine sh ?_
              refine cM true [1,3] (dw h.gH (B) [x] (by omega) (by simp) (by simpa using i2)) ?_
              repeat (intro _; first|refine eK ?_|refine eP ?_)
              have e5:A4++aL ((s.bR.length:Int)::(C++ [x]))=B++aL [x]:=by
               rw[←hB]; simp[aL]
              refine sh ?_
              refine r9 [0,1,2,3] (k+1) ?_ ?_ ?_
              ·omega
              ·omega
              ·all_goals repeat' (first|exact True.intro|refine And.intro ?_ ?_|(intro _u; clear _u)|(with_reducible first|exact aw.fg|refine eM ?_ ?_|refine eF ?_ ?_ ?_|refine eN ?_|refine eL ?_ ?_ ?_|refine eA ?_ ?_|refine az.mk ⟨_,hp,rfl⟩ ?_ ?_)|refine az.mk ⟨_,hp,rfl⟩ ?_ ?_)
               all_goals try first|with_reducible rfl|omega|exact .inl (by decide)|(simp; done)|rfl
               all_goals (rw[e1,e5]; try simp)
             ·rw[List.take_of_length_le (by omega)]
              clear hk h1
              have Wq:(A4++aL ((s.bR.length:Int)::s.bR.flatMap fun x=>[x])).length≤240000:=by
               have:=bY (fun x=>[x]) 1 s.bR fun y hy=>by first|exact Nat.le_refl _|(have:=n5.2 y hy; simp only[cz.ap,List.length_append,bT,List.length_cons,List.length_nil]; omega)
               rw[List.length_append,aK,List.length_cons]; omega
              generalize MZ:A4++aL ((s.bR.length:Int)::s.bR.flatMap (fun x=>[x]))=A5 at Wq ⊢
              obtain⟨z1,z2,z3⟩:=ok.e
              have y1:0≤s.nH∧s.nH≤4294967295:=by simp only[aZ]at z1; omega
              have y2:0≤s.fr∧s.fr≤4294967295:=by simp only[aZ]at z2; omega
              have y3:0≤s.to∧s.to≤4294967295:=by simp only[aZ]at z3; omega
              refine sh ?_
              refine cM true [1,3] (dw h.gH A5 [s.nH,s.fr,s.to] (by omega) (by simp) (by simp only[List.mem_cons,List.not_mem_nil,or_false,aZ]; omega)) ?_
              repeat (intro _; first|refine eK ?_|refine eP ?_)
              have e9:aL s.ap=A5++aL [s.nH,s.fr,s.to]:=by
               rw[←MZ,←MY,←MX,←MW,←MV,←MU]; simp[fP.ap,oB,aL]
              rw[e9]
              refine sh ?_
              exact rT
end Go.UM
namespace Go.UM
open Go.AM
set_option maxRecDepth 4000
theorem M4 {x y:Int} (h:e8 x=e8 y):x % 18446744073709551616=y % 18446744073709551616:=by
 have h1:=za (x % 18446744073709551616) 8
 have h2:=za (y % 18446744073709551616) 8
 unfold e8 at h
 rw[h]at h1
 have h3:=h1.symm.trans h2
 have a1:(256:Int) ^ 8=18446744073709551616:=by decide
 rw[a1]at h3
 omega
theorem AG:∀ {n m:List Int},aL n=aL m→n.map (fun x=>x % 18446744073709551616)=m.map (fun x=>x % 18446744073709551616)
 |[],[],_=>rfl
 |[],y::m,h=>by
  have:=congrArg List.length h
  rw[aK,aK]at this
  simp at this
 |x::n,[],h=>by
  have:=congrArg List.length h
  rw[aK,aK]at this
  simp at this
 |x::n,y::m,h=>by
  simp only[aL,List.flatMap_cons]at h
  obtain⟨h1,h2⟩:=List.append_inj h (by rw[rW,rW])
  rw[List.map_cons,List.map_cons,M4 h1,AG (n:=n) (m:=m) h2]
def Il {α:Type} (f:α→List Int) (P:α→Prop):Prop:=∀x y:α,P x→P y→∀r r',f x++r=f y++r'→x=y∧r=r'
theorem mw {α:Type} {f:α→List Int} {P:α→Prop} (h:Il f P):∀ (l m:List α),l.length=m.length→(∀x ∈ l,P x)→(∀x ∈ m,P x)→∀r r',l.flatMap f++r=m.flatMap f++r'→l=m∧r=r'
 |[],[],_,_,_,r,r',e=>⟨rfl,by simpa using e⟩
 |[],_::_,hl,_,_,_,_,_=>by simp at hl
 |_::_,[],hl,_,_,_,_,_=>by simp at hl
 |x::l,y::m,hl,px,py,r,r',e=>by
  simp only[List.flatMap_cons,List.append_assoc]at e
  obtain⟨h1,h2⟩:=h x y (px x (by simp)) (py y (by simp)) _ _ e
  obtain⟨h3,h4⟩:=mw h l m (by simpa using hl) (fun z hz=>px z (by simp[hz])) (fun z hz=>py z (by simp[hz])) r r' h2
  exact⟨by rw[h1,h3],h4⟩
theorem hJ {α:Type} {f:α→List Int} {P:α→Prop} (h:Il f P) {l m:List α} (pl:∀x ∈ l,P x) (pm:∀x ∈ m,P x) {r r':List Int} (e:oB l f++r=oB m f++r'):l=m∧r=r':=by
 simp only[oB,List.cons_append,List.cons.injEq]at e
 exact mw h l m (by omega) pl pm r r' e.2
theorem Cu:Il gK.ap fun _=>True:=fun x y _ _ r r' e=>by
 obtain⟨⟨a1,a2,a3⟩,⟨a4,a5,a6⟩,⟨a7,a8,a9⟩,b1,b2,b3,b4,b5,b6,c1,c2,c3,c4⟩:=x
 obtain⟨⟨d1,d2,d3⟩,⟨d4,d5,d6⟩,⟨d7,d8,d9⟩,f1,f2,f3,f4,f5,f6,g1,g2,g3,g4⟩:=y
 simp only[gK.ap,jo,List.flatMap_cons,List.flatMap_nil,List.cons_append,List.nil_append,List.append_nil,List.cons.injEq]at e
 obtain⟨rfl,rfl,rfl,rfl,rfl,rfl,rfl,rfl,rfl,rfl,rfl,rfl,rfl,rfl,rfl,rfl,rfl,rfl,rfl,rfl⟩:=e
 exact⟨rfl,rfl⟩
theorem Cv:Il ej.ap fun _=>True:=fun x y _ _ r r' e=>by
 obtain⟨k,⟨a,b,c⟩,q⟩:=x
 obtain⟨k',⟨a',b',c'⟩,q'⟩:=y
 simp only[ej.ap,List.cons_append,List.nil_append,List.cons.injEq]at e
 obtain⟨rfl,rfl,rfl,rfl,rfl,rfl⟩:=e
 exact⟨rfl,rfl⟩
theorem FB:Il (fun t:T3=>[t.a,t.b,t.c]) fun _=>True:=fun x y _ _ r r' e=>by
 obtain⟨a,b,c⟩:=x
 obtain⟨a',b',c'⟩:=y
 simp only[List.cons_append,List.nil_append,List.cons.injEq]at e
 obtain⟨rfl,rfl,rfl,rfl⟩:=e
 exact⟨rfl,rfl⟩
theorem Cw:Il cz.ap fun _=>True:=fun x y _ _ r r' e=>by
 obtain⟨s,t⟩:=x
 obtain⟨s',t'⟩:=y
 simp only[cz.ap,List.cons_append,List.nil_append,List.cons.injEq,List.append_assoc]at e
 obtain⟨rfl,e1,e2⟩:=e
 obtain⟨rfl,h2⟩:=mw FB t t' (by omega) (fun _ _=>trivial) (fun _ _=>trivial) r r' e2
 exact⟨rfl,h2⟩
theorem Cx:Il ed.ap fun _=>True:=fun x y _ _ r r' e=>by
 obtain⟨k,⟨a1,a2,a3⟩,⟨b1,b2,b3⟩,⟨c1,c2,c3⟩,⟨d1,d2,d3⟩⟩:=x
 obtain⟨k',⟨Zy,Zz,ZA⟩,⟨ZB,ZC,ZD⟩,⟨c1',c2',c3'⟩,⟨d1',d2',ZE⟩⟩:=y
 simp only[ed.ap,jo,List.flatMap_cons,List.flatMap_nil,List.cons_append,List.nil_append,List.append_nil,List.cons.injEq]at e
 obtain⟨rfl,rfl,rfl,rfl,rfl,rfl,rfl,rfl,rfl,rfl,rfl,rfl,rfl,rfl⟩:=e
 exact⟨rfl,rfl⟩
theorem FC:Il (fun x:Int=>[wr .i64 x]) (aZ .u64):=fun x y hx hy r r' e=>by
 simp only[List.cons_append,List.nil_append,List.cons.injEq]at e
 refine⟨?_,e.2⟩
 have e1:=e.1
 simp only[aZ]at hx hy
 simp only[wr,IntKind.wrap,IntKind.bits,IntKind.signed]at e1
 simp at e1
 omega
theorem Cy:Il (fun x:Int=>[x]) (aZ .u32):=fun x y _ _ r r' e=>by
 simp only[List.cons_append,List.nil_append,List.cons.injEq]at e
 exact⟨e.1,e.2⟩
theorem FD {s t:fP} (hs:s.Ok) (ht:t.Ok) (e:s.ap=t.ap):s=t:=by
 simp only[fP.ap,List.append_assoc]at e
 obtain⟨h1,e⟩:=hJ Cu (fun _ _=>trivial) (fun _ _=>trivial) e
 obtain⟨h2,e⟩:=hJ Cv (fun _ _=>trivial) (fun _ _=>trivial) e
 obtain⟨h3,e⟩:=hJ Cw (fun _ _=>trivial) (fun _ _=>trivial) e
 obtain⟨h4,e⟩:=hJ Cx (fun _ _=>trivial) (fun _ _=>trivial) e
 obtain⟨h5,e⟩:=hJ FC hs.i ht.i e
 obtain⟨h6,e⟩:=hJ Cy hs.b ht.b e
 simp only[List.cons.injEq,and_true]at e
 obtain⟨h7,h8,h9⟩:=e
 obtain⟨a1,a2,a3,a4,a5,a6,a7,a8,a9⟩:=s
 obtain⟨b1,b2,b3,b4,b5,b6,b7,b8,b9⟩:=t
 dsimp only at h1 h2 h3 h4 h5 h6 h7 h8 h9
 subst h1; subst h2; subst h3; subst h4; subst h5; subst h6; subst h7; subst h8; subst h9
 rfl
end Go.UM
namespace Go.UM
open Go.AM
set_option maxRecDepth 4000
theorem pq:∀ {n m:List Int},(∀x ∈ n,aZ .i64 x)→(∀x ∈ m,aZ .i64 x)→n.map (fun x=>x % 18446744073709551616)=m.map (fun x=>x % 18446744073709551616)→n=m
 |[],[],_,_,_=>rfl
 |[],_::_,_,_,h=>by simp at h
 |_::_,[],_,_,h=>by simp at h
 |x::n,y::m,hn,hm,h=>by
  simp only[List.map_cons,List.cons.injEq]at h
  have h1:=hn x (by simp)
  have h2:=hm y (by simp)
  simp only[aZ]at h1 h2
  rw[pq (n:=n) (m:=m) (fun z hz=>hn z (by simp[hz])) (fun z hz=>hm z (by simp[hz])) h.2,show x=y by omega]
theorem FE {n m:List Int} (hn:∀x ∈ n,aZ .i64 x) (hm:∀x ∈ m,aZ .i64 x) (h:aL n=aL m):n=m:=pq hn hm (AG h)
theorem oC {α:Type} {f:α→List Int} {l:List α} (hl:l.length≤1000) (h:∀y ∈ l,∀x ∈ f y,aZ .i64 x):∀x ∈ oB l f,aZ .i64 x:=fun x hx=>by
 simp only[oB,List.mem_cons,List.mem_flatMap]at hx
 rcases hx with rfl|⟨y,hy,hx⟩
 ·simp only[aZ]; omega
 ·exact h y hy x hx
theorem M5 {t:gK} (h:t.Ok):∀x ∈ t.ap,aZ .i64 x:=fun x hx=>by
 obtain⟨⟨p1,p2,p3⟩,⟨q1,q2,q3⟩,⟨r1,r2,r3⟩,⟨u1,u2⟩,⟨v1,v2⟩,⟨w1,w2⟩,m1,m2,m3,m4⟩:=h
 have m5:aZ .i64 t.iH:=by simp only[aZ]at m4 ⊢; omega
 simp only[gK.ap,jo,List.flatMap_cons,List.flatMap_nil,List.mem_append,List.mem_cons,List.not_mem_nil,or_false]at hx
 rcases hx with ((((((rfl|rfl|rfl)|(rfl|rfl|rfl)|rfl|rfl|rfl)|rfl|rfl)|rfl|rfl)|rfl|rfl)|rfl|rfl|rfl|rfl)<;>assumption
theorem AH {s:fP} (h:s.Ok):∀x ∈ s.ap,aZ .i64 x:=fun x hx=>by
 simp only[fP.ap,List.mem_append,List.mem_cons,List.not_mem_nil,or_false]at hx
 have h1:=h.nt
 have h2:=h.nm
 have h3:=h.nx.1
 have h4:=h.nl
 have h5:=h.ni
 have h6:=h.nb
 obtain⟨z1,z2,z3⟩:=h.e
 simp only[aZ]at z1 z2 z3
 rcases hx with (((((hx|hx)|hx)|hx)|hx)|hx)|hx
 ·exact oC (by omega) (fun t ht=>M5 (h.t t ht)) x hx
 ·exact oC (by omega) h.m x hx
 ·exact oC (by omega) h.x x hx
 ·exact oC (by omega) h.l x hx
 ·exact oC (by omega) (fun y _ z hz=>by simp only[List.mem_singleton]at hz; subst hz; exact rz y) x hx
 ·exact oC (by omega) (fun y hy z hz=>by
   simp only[List.mem_singleton]at hz; subst hz
   have:=h.b z hy
   simp only[aZ]at this ⊢; omega) x hx
 ·rcases hx with rfl|rfl|rfl<;>(simp only[aZ]; omega)
theorem bytes_inj {s t:fP} (hs:s.Ok) (ht:t.Ok):aL s.ap=aL t.ap↔s=t:=
 ⟨fun h=>FD hs ht (FE (AH hs) (AH ht) h),fun h=>by rw[h]⟩
end Go.UM
namespace Go.UM
open Go.AM
set_option maxRecDepth 4000
theorem fa {α:Type} {a b:List α} {k:Nat} {x y:α} (hx:a[k]? =some x) (hy:b[k]? =some y) (h:x≠y):a≠b:=fun e=>h (by rw[e,hy]at hx; simpa using hx.symm)
theorem fc {α:Type} {a b:List α} {k:Nat} {x:α} (h:a.take k=b.take k) (hx:a[k]? =some x) (hy:b[k]? =some x):a.take (k+1)=b.take (k+1):=by rw[aA hx,aA hy,h]
theorem jH {α:Type} {a b:List α} {k:Nat} (h:a.take k=b.take k) (hl:a.length=b.length) (hk:a.length≤k):a=b:=by
 rwa[List.take_of_length_le hk,List.take_of_length_le (by omega)]at h
theorem M6 {R:Env} (h:L4 R) (a b:List Int) (hl:a.length=b.length) (hn:a.length≤1000):R.Pc 507 [.aO 1 (aY .u32 a),.aO 1 (aY .u32 b)] (.bool (decide (a=b))):=
 h.RH.enter 60 rfl fun X bb hfit hp=>by
  refine sh ?_
  refine gZ 60 (fun k:Nat=>k≤a.length∧a.take k=b.take k) (fun k=>⟨[(0,.aO 1 (aY .u32 a)),(1,.aO 1 (aY .u32 b)),(5,.int .i64 k)],[],0⟩) (fun k=>a.length - k) (0) ?_ ?_
  ·exact⟨Nat.zero_le _,by simp⟩
  ·intro k hk
   obtain⟨k1,k2⟩:=hk
   dsimp only
   refine sh ?_
   refine cS (fun h1=> ?_) (fun h1=> ?_)
   ·obtain⟨x,hx⟩:∃u_,a[k]? =some u_:=⟨_,List.getElem?_eq_getElem (by first|omega|(simp<;>omega))⟩
    refine sh ?_
    refine ah hx ?_
    obtain⟨y,hy⟩:∃u_,b[k]? =some u_:=⟨_,List.getElem?_eq_getElem (by first|omega|(simp<;>omega))⟩
    refine sh ?_
    refine ah hy ?_
    refine sh ?_
    refine cS (fun h2=> ?_) (fun h2=> ?_)
    ·rw[decide_eq_false (fa hx hy h2)]
     refine sh ?_
     exact rT
    ·obtain rfl:x=y:=by simpa using h2
     refine sh ?_
     refine r8 (k+1) ?_ ?_
     ·exact⟨by omega,fc k2 hx hy⟩
     ·omega
   ·rw[decide_eq_true (jH k2 hl (by omega))]
    refine sh ?_
    exact rT
noncomputable def seq (a b:fP):Bool:= @decide (a=b) (Classical.propDecidable _)
theorem gg {a b:fP} (h:a≠b):seq a b=false:= @decide_eq_false _ (Classical.propDecidable _) h
theorem Im {a b:fP} (h:a=b):seq a b=true:= @decide_eq_true _ (Classical.propDecidable _) h
set_option maxHeartbeats 2000000 in
theorem Io {R:Env} (h:L5 R) (a b:fP) (ha:a.Ok) (hb:b.Ok):R.Pc 492 [.agg a.row,.agg b.row] (.bool (seq a b)):=
 h.RJ.enter 300 rfl fun X bb hfit hp=>by
  have c1:=ha.nt
  have c2:=ha.nm
  have c3:=ha.nx.1
  have c4:=ha.nl
  have c5:=ha.ni
  have c6:=ha.nb
  refine sh ?_
  refine cS (fun g1=> ?_) (fun g1=> ?_)
  ·rw[gg fun e=>by subst e; exact g1 rfl]
   refine sh ?_
   exact rT
  ·have l1:a.br.length=b.br.length:=by omega
   refine sh ?_
   refine cS (fun g2=> ?_) (fun g2=> ?_)
   ·rw[gg fun e=>by subst e; exact g2 rfl]
    refine sh ?_
    exact rT
   ·have l2:a.bD.length=b.bD.length:=by omega
    refine sh ?_
    refine cS (fun g3=> ?_) (fun g3=> ?_)
    ·rw[gg fun e=>by subst e; exact g3 rfl]
     refine sh ?_
     exact rT
    ·have l3:a.be.length=b.be.length:=by omega
     refine sh ?_
     refine cS (fun g4=> ?_) (fun g4=> ?_)
     ·rw[gg fun e=>by subst e; exact g4 rfl]
      refine sh ?_
      exact rT
     ·have l4:a.bI.length=b.bI.length:=by omega
      refine sh ?_
      refine cS (fun g5=> ?_) (fun g5=> ?_)
      ·rw[gg fun e=>by subst e; exact g5 rfl]
       refine sh ?_
       exact rT
      ·have l5:a.ids.length=b.ids.length:=by omega
       refine sh ?_
       refine cS (fun g6=> ?_) (fun g6=> ?_)
       ·rw[gg fun e=>by subst e; exact g6 rfl]
        refine sh ?_
        exact rT
       ·have l6:a.bR.length=b.bR.length:=by omega
        refine sh ?_
        refine aq.pure h.HE.RH.hb (M6 h.HE a.bR b.bR l6 (by omega)) rfl ?_
        refine sh ?_
        refine cS (fun g7=> ?_) (fun g7=> ?_)
        ·rw[gg fun e=>by subst e; simp at g7]
         refine sh ?_
         exact rT
        ·have m6:a.bR=b.bR:=by simpa using g7
         refine sh ?_
         refine gZ 200 (fun k:Nat=>k≤a.br.length∧a.br.take k=b.br.take k) (fun k=>⟨[(2,.loc 0 1 0 0),(3,.loc 1 1 0 0),(5,.int .i64 k)],[(0,.var (R.ty 59) a.row),(1,.var (R.ty 59) b.row)],2⟩) (fun k=>a.br.length - k) (0) ?_ ?_
         ·exact⟨Nat.zero_le _,by simp⟩
         ·intro k hk
          obtain⟨k1,k2⟩:=hk
          dsimp only
          refine sh ?_
          refine cS (fun h1=> ?_) (fun h1=> ?_)
          ·obtain⟨x,hx⟩:∃u_,a.br[k]? =some u_:=⟨_,List.getElem?_eq_getElem (by first|omega|(simp<;>omega))⟩
           refine sh ?_
           refine ah hx ?_
           obtain⟨y,hy⟩:∃u_,b.br[k]? =some u_:=⟨_,List.getElem?_eq_getElem (by first|omega|(simp<;>omega))⟩
           refine sh ?_
           refine ah hy ?_
           refine sh ?_
           refine cS (fun h2=> ?_) (fun h2=> ?_)
           ·have hne:x≠y:=fun e=>by subst e; simp at h2
            rw[gg fun e=>by subst e; exact fa hx hy hne rfl]
            refine sh ?_
            exact rT
           ·have hxy:x=y:=by
             obtain⟨⟨a1,a2,a3⟩,⟨a4,a5,a6⟩,⟨a7,a8,a9⟩,b1,b2,b3,b4,b5,b6,d1,d2,d3,d4⟩:=x; obtain⟨⟨Zy,Zz,ZA⟩,⟨a4',a5',a6'⟩,⟨a7',a8',a9'⟩,ZB,ZC,ZD,b4',b5',b6',d1',d2',ZE,d4'⟩:=y; simp at h2 ⊢; simp[h2]
            subst hxy
            refine sh ?_
            refine r8 (k+1) ?_ ?_
            ·exact⟨by omega,fc k2 hx hy⟩
            ·omega
          ·have m1:a.br=b.br:=jH k2 l1 (by omega)
           clear k1 k2 h1
           refine sh ?_
           refine gZ 200 (fun k:Nat=>k≤a.bD.length∧a.bD.take k=b.bD.take k) (fun k=>⟨[(2,.loc 0 1 0 0),(3,.loc 1 1 0 0),(6,.int .i64 k)],[(0,.var (R.ty 59) a.row),(1,.var (R.ty 59) b.row)],2⟩) (fun k=>a.bD.length - k) (0) ?_ ?_
           ·exact⟨Nat.zero_le _,by simp⟩
           ·intro k hk
            obtain⟨k1,k2⟩:=hk
            dsimp only
            refine sh ?_
            refine cS (fun h1=> ?_) (fun h1=> ?_)
            ·obtain⟨x,hx⟩:∃u_,a.bD[k]? =some u_:=⟨_,List.getElem?_eq_getElem (by first|omega|(simp<;>omega))⟩
             refine sh ?_
             refine ah hx ?_
             obtain⟨y,hy⟩:∃u_,b.bD[k]? =some u_:=⟨_,List.getElem?_eq_getElem (by first|omega|(simp<;>omega))⟩
             refine sh ?_
             refine ah hy ?_
             refine sh ?_
             refine cS (fun h2=> ?_) (fun h2=> ?_)
             ·have hne:x≠y:=fun e=>by subst e; simp at h2
              rw[gg fun e=>by subst e; exact fa hx hy hne rfl]
              refine sh ?_
              exact rT
             ·have hxy:x=y:=by
               obtain⟨k1',⟨a1,a2,a3⟩,r1⟩:=x; obtain⟨k2',⟨b1,b2,b3⟩,r2⟩:=y; simp at h2 ⊢; simp[h2]
              subst hxy
              refine sh ?_
              refine r8 (k+1) ?_ ?_
              ·exact⟨by omega,fc k2 hx hy⟩
              ·omega
            ·have m2:a.bD=b.bD:=jH k2 l2 (by omega)
             clear k1 k2 h1
             refine sh ?_
             refine gZ 200 (fun k:Nat=>k≤a.be.length∧a.be.take k=b.be.take k) (fun k=>⟨[(2,.loc 0 1 0 0),(3,.loc 1 1 0 0),(7,.int .i64 k)],[(0,.var (R.ty 59) a.row),(1,.var (R.ty 59) b.row)],2⟩) (fun k=>a.be.length - k) (0) ?_ ?_
             ·exact⟨Nat.zero_le _,by simp⟩
             ·intro k hk
              obtain⟨k1,k2⟩:=hk
              dsimp only
              refine sh ?_
              refine cS (fun h1=> ?_) (fun h1=> ?_)
              ·obtain⟨x,hx⟩:∃u_,a.be[k]? =some u_:=⟨_,List.getElem?_eq_getElem (by first|omega|(simp<;>omega))⟩
               refine sh ?_
               refine ah hx ?_
               obtain⟨y,hy⟩:∃u_,b.be[k]? =some u_:=⟨_,List.getElem?_eq_getElem (by first|omega|(simp<;>omega))⟩
               refine sh ?_
               refine ah hy ?_
               have Zx:=ha.nx.2 x (List.mem_of_getElem? hx)
               refine sh ?_
               refine aq.pure h.TK.Zo.hb (Cg h.TK x y (by omega)) rfl ?_
               refine sh ?_
               refine cS (fun h2=> ?_) (fun h2=> ?_)
               ·have hne:x≠y:=fun e=>by subst e; simp at h2
                rw[gg fun e=>by subst e; exact fa hx hy hne rfl]
                refine sh ?_
                exact rT
               ·have hxy:x=y:=by
                 obtain⟨s1,t1⟩:=x; obtain⟨s2,t2⟩:=y
                 simp at h2; obtain⟨e1,e2⟩:=h2; rw[e1,e2]
                subst hxy
                refine sh ?_
                refine r8 (k+1) ?_ ?_
                ·exact⟨by omega,fc k2 hx hy⟩
                ·omega
              ·have m3:a.be=b.be:=jH k2 l3 (by omega)
               clear k1 k2 h1
               refine sh ?_
               refine gZ 200 (fun k:Nat=>k≤a.bI.length∧a.bI.take k=b.bI.take k) (fun k=>⟨[(2,.loc 0 1 0 0),(3,.loc 1 1 0 0),(8,.int .i64 k)],[(0,.var (R.ty 59) a.row),(1,.var (R.ty 59) b.row)],2⟩) (fun k=>a.bI.length - k) (0) ?_ ?_
               ·exact⟨Nat.zero_le _,by simp⟩
               ·intro k hk
                obtain⟨k1,k2⟩:=hk
                dsimp only
                refine sh ?_
                refine cS (fun h1=> ?_) (fun h1=> ?_)
                ·obtain⟨x,hx⟩:∃u_,a.bI[k]? =some u_:=⟨_,List.getElem?_eq_getElem (by first|omega|(simp<;>omega))⟩
                 refine sh ?_
                 refine ah hx ?_
                 obtain⟨y,hy⟩:∃u_,b.bI[k]? =some u_:=⟨_,List.getElem?_eq_getElem (by first|omega|(simp<;>omega))⟩
                 refine sh ?_
                 refine ah hy ?_
                 refine sh ?_
                 refine cS (fun h2=> ?_) (fun h2=> ?_)
                 ·have hne:x≠y:=fun e=>by subst e; simp at h2
                  rw[gg fun e=>by subst e; exact fa hx hy hne rfl]
                  refine sh ?_
                  exact rT
                 ·have hxy:x=y:=by
                   obtain⟨k1',⟨a1,a2,a3⟩,⟨b1,b2,b3⟩,⟨d1,d2,d3⟩,⟨e1,e2,e3⟩⟩:=x; obtain⟨k2',⟨Zy,Zz,ZA⟩,⟨ZB,ZC,ZD⟩,⟨d1',d2',ZE⟩,⟨e1',e2',e3'⟩⟩:=y; simp at h2 ⊢; simp[h2]
                  subst hxy
                  refine sh ?_
                  refine r8 (k+1) ?_ ?_
                  ·exact⟨by omega,fc k2 hx hy⟩
                  ·omega
                ·have m4:a.bI=b.bI:=jH k2 l4 (by omega)
                 clear k1 k2 h1
                 refine sh ?_
                 refine gZ 200 (fun k:Nat=>k≤a.ids.length∧a.ids.take k=b.ids.take k) (fun k=>⟨[(2,.loc 0 1 0 0),(3,.loc 1 1 0 0),(9,.int .i64 k)],[(0,.var (R.ty 59) a.row),(1,.var (R.ty 59) b.row)],2⟩) (fun k=>a.ids.length - k) (0) ?_ ?_
                 ·exact⟨Nat.zero_le _,by simp⟩
                 ·intro k hk
                  obtain⟨k1,k2⟩:=hk
                  dsimp only
                  refine sh ?_
                  refine cS (fun h1=> ?_) (fun h1=> ?_)
                  ·obtain⟨x,hx⟩:∃u_,a.ids[k]? =some u_:=⟨_,List.getElem?_eq_getElem (by first|omega|(simp<;>omega))⟩
                   refine sh ?_
                   refine ah hx ?_
                   obtain⟨y,hy⟩:∃u_,b.ids[k]? =some u_:=⟨_,List.getElem?_eq_getElem (by first|omega|(simp<;>omega))⟩
                   refine sh ?_
                   refine ah hy ?_
                   refine sh ?_
                   refine cS (fun h2=> ?_) (fun h2=> ?_)
                   ·have hne:x≠y:=h2
                    rw[gg fun e=>by subst e; exact fa hx hy hne rfl]
                    refine sh ?_
                    exact rT
                   ·have hxy:x=y:=by simpa using h2
                    subst hxy
                    refine sh ?_
                    refine r8 (k+1) ?_ ?_
                    ·exact⟨by omega,fc k2 hx hy⟩
                    ·omega
                  ·have m5:a.ids=b.ids:=jH k2 l5 (by omega)
                   clear k1 k2 h1
                   have last:seq a b=(decide (a.nH=b.nH)&&decide (a.fr=b.fr)&&decide (a.to=b.to)):=by
                    rw[Bool.eq_iff_iff]
                    simp only[seq,decide_eq_true_eq,Bool.and_eq_true]
                    constructor
                    ·intro e; subst e; exact⟨⟨rfl,rfl⟩,rfl⟩
                    ·rintro⟨⟨e1,e2⟩,e3⟩
                     obtain⟨x1,x2,x3,x4,x5,x6,x7,x8,x9⟩:=a
                     obtain⟨y1,y2,y3,y4,y5,y6,y7,y8,y9⟩:=b
                     dsimp only at m1 m2 m3 m4 m5 m6 e1 e2 e3
                     subst m1; subst m2; subst m3; subst m4; subst m5; subst m6; subst e1; subst e2; subst e3; rfl
                   rw[last]
                   refine sh ?_
                   refine cS (fun g8=> ?_) (fun g8=> ?_)
                   ·refine sh ?_
                    refine cS (fun g9=> ?_) (fun g9=> ?_)
                    ·refine sh ?_
                     refine rT ?_
                     all_goals repeat' (first|exact True.intro|refine And.intro ?_ ?_|(intro _u; clear _u)|(with_reducible first|exact aw.fg|refine eM ?_ ?_|refine eF ?_ ?_ ?_|refine eN ?_|refine eL ?_ ?_ ?_|refine eA ?_ ?_|refine az.mk ⟨_,hp,rfl⟩ ?_ ?_)|refine az.mk ⟨_,hp,rfl⟩ ?_ ?_)
                     all_goals try first|with_reducible rfl|omega|exact .inl (by decide)|(simp; done)|rfl
                     simp[g8,g9]
                     by_cases h9:a.to=b.to<;>simp[h9]
                    ·refine sh ?_
                     refine rT ?_
                     all_goals repeat' (first|exact True.intro|refine And.intro ?_ ?_|(intro _u; clear _u)|(with_reducible first|exact aw.fg|refine eM ?_ ?_|refine eF ?_ ?_ ?_|refine eN ?_|refine eL ?_ ?_ ?_|refine eA ?_ ?_|refine az.mk ⟨_,hp,rfl⟩ ?_ ?_)|refine az.mk ⟨_,hp,rfl⟩ ?_ ?_)
                     all_goals try first|with_reducible rfl|omega|exact .inl (by decide)|(simp; done)|rfl
                     simp[g8,g9]
                   ·refine sh ?_
                    refine rT ?_
                    all_goals repeat' (first|exact True.intro|refine And.intro ?_ ?_|(intro _u; clear _u)|(with_reducible first|exact aw.fg|refine eM ?_ ?_|refine eF ?_ ?_ ?_|refine eN ?_|refine eL ?_ ?_ ?_|refine eA ?_ ?_|refine az.mk ⟨_,hp,rfl⟩ ?_ ?_)|refine az.mk ⟨_,hp,rfl⟩ ?_ ?_)
                    all_goals try first|with_reducible rfl|omega|exact .inl (by decide)|(simp; done)|rfl
                    simp[g8]
end Go.UM
namespace Go.UM
open Go.AM
set_option maxRecDepth 4000
instance {l:List gK} {k:Nat}:kQ ((ko l).take k) (ko (l.take k)):=⟨by simp[ko,List.map_take]⟩
instance {l:List ej} {k:Nat}:kQ ((eY l).take k) (eY (l.take k)):=⟨by simp[eY,List.map_take]⟩
instance {l:List ed} {k:Nat}:kQ ((e6 l).take k) (e6 (l.take k)):=⟨by simp[e6,List.map_take]⟩
def cz.jI (t:cz):cz:=⟨t.side,t.t.take 260⟩
def fP.sa (s:fP):fP:=⟨s.br.take 20,s.bD.take 10,(s.be.take 5).map cz.jI,s.bI.take 10,s.ids.take 20,s.bR.take 20,s.nH,s.fr,s.to⟩
theorem xz {l:List cz} {k:Nat} {x:cz} (h:l[k]? =some x):(l.take (k+1)).map cz.jI=(l.take k).map cz.jI++ [x.jI]:=by
 rw[aA h,List.map_append]; rfl
set_option maxHeartbeats 1000000 in
theorem AI {R:Env} (h:Ma R) (s:fP):R.Pc 498 [.agg s.row] (.agg s.sa.row):=
 h.Mb.enter 200 rfl fun X bb hfit hp=>by
  refine sh ?_
  refine Kq ?_
  rw[iG]
  refine sh ?_
  refine Kq ?_
  rw[iG]
  refine sh ?_
  refine Kq ?_
  rw[iG]
  refine sh ?_
  refine Kq ?_
  rw[iG]
  refine sh ?_
  refine Kq ?_
  rw[iG]
  by_cases h0:s.be=[]
  ·have e0:s.sa=⟨s.br.take 20,s.bD.take 10,[],s.bI.take 10,s.ids.take 20,s.bR.take 20,s.nH,s.fr,s.to⟩:=by simp[fP.sa,h0]
   rw[e0,h0]
   refine sh ?_
   refine aN.one 100 ?_
   refine sh ?_
   refine aT (by rfl) ?_
   refine sh ?_
   exact rT
  ·have hl:1≤s.be.length:=Nat.one_le_iff_ne_zero.2 fun e=>h0 (List.eq_nil_of_length_eq_zero e)
   refine sh ?_
   refine aN.one 100 ?_
   refine sh ?_
   refine aG (by simp; omega) ?_
   refine sh ?_
   refine aG (by decide) ?_
   obtain⟨x,hx⟩:∃u_,s.be[0]? =some u_:=⟨_,List.getElem?_eq_getElem (by first|omega|(simp<;>omega))⟩
   refine sh ?_
   refine ah hx ?_
   refine sh ?_
   refine Kq ?_
   rw[iG]
   have e1:=xz hx
   refine sh ?_
   refine aN.inv 200 (fun k:Nat=>(1≤k∧k≤5)∧k≤s.be.length) (fun k=>⟨[(1,.loc 0 1 0 0),(2,.loc 1 1 0 0),(3,.bh 4 ((s.be.take k).map cz.jI).length),(4,.int .i64 k)],[(0,.var (R.ty 59) [.aO 19 (ko (s.br.take 20)),.aO 5 (eY (s.bD.take 10)),.aO 2 (e7 s.be),.aO 13 (e6 (s.bI.take 10)),.aO 1 (aY .u64 (s.ids.take 20)),.aO 1 (aY .u32 (s.bR.take 20)),.int .u32 s.nH,.int .u32 s.fr,.int .u32 s.to]),(1,.var (R.ty 59) [.an,.an,.an,.an,.an,.an,.int .u32 0,.int .u32 0,.int .u32 0]),(4,.arr (R.ty 12) 2 (e7 ((s.be.take k).map cz.jI)))],5⟩) (fun k=>s.be.length - k) (1) ?_ ⟨⟨_,hp,rfl⟩,?_,?_⟩ ?_
   ·exact⟨⟨Nat.le_refl _,by omega⟩,hl⟩
   ·all_goals repeat' (first|exact True.intro|refine And.intro ?_ ?_|(intro _u; clear _u)|(with_reducible first|exact aw.fg|refine eM ?_ ?_|refine eF ?_ ?_ ?_|refine eN ?_|refine eL ?_ ?_ ?_|refine eA ?_ ?_|refine az.mk ⟨_,hp,rfl⟩ ?_ ?_)|refine az.mk ⟨_,hp,rfl⟩ ?_ ?_)
    all_goals try first|with_reducible rfl|omega|exact .inl (by decide)|(simp; done)|rfl
    all_goals (rw[e1]; try rfl)
   ·all_goals repeat' (first|exact True.intro|refine And.intro ?_ ?_|(intro _u; clear _u)|(with_reducible first|exact aw.fg|refine eM ?_ ?_|refine eF ?_ ?_ ?_|refine eN ?_|refine eL ?_ ?_ ?_|refine eA ?_ ?_|refine az.mk ⟨_,hp,rfl⟩ ?_ ?_)|refine az.mk ⟨_,hp,rfl⟩ ?_ ?_)
    all_goals try first|with_reducible rfl|omega|exact .inl (by decide)|(simp; done)|rfl
    all_goals (rw[e1]; try rfl)
   ·clear hx e1
    intro k hk
    obtain⟨⟨k1,k2⟩,k3⟩:=hk
    dsimp only
    refine sh ?_
    refine cS (fun g1=> ?_) (fun g1=> ?_)
    ·refine sh ?_
     refine cS (fun g2=> ?_) (fun g2=> ?_)
     ·obtain⟨y,hy⟩:∃u_,s.be[k]? =some u_:=⟨_,List.getElem?_eq_getElem (by first|omega|(simp<;>omega))⟩
      refine sh ?_
      refine ah hy ?_
      refine sh ?_
      refine Kq ?_
      rw[iG]
      have e1:=xz hy
      have e2:((s.be.take k).map cz.jI).length≤5:=by simp; omega
      generalize (s.be.take k).map cz.jI=C at e1 e2 ⊢
      refine sh ?_
      refine r9 [0,1,2,3,4] (k+1) ?_ ?_ ?_
      ·exact⟨⟨by omega,by omega⟩,by omega⟩
      ·omega
      ·all_goals repeat' (first|exact True.intro|refine And.intro ?_ ?_|(intro _u; clear _u)|(with_reducible first|exact aw.fg|refine eM ?_ ?_|refine eF ?_ ?_ ?_|refine eN ?_|refine eL ?_ ?_ ?_|refine eA ?_ ?_|refine az.mk ⟨_,hp,rfl⟩ ?_ ?_)|refine az.mk ⟨_,hp,rfl⟩ ?_ ?_)
       all_goals try first|with_reducible rfl|omega|exact .inl (by decide)|(simp; done)|rfl
       all_goals (rw[e1]; try simp[e7,cz.row,cz.jI])
     ·have e3:k=5:=by omega
      subst e3
      refine sh ?_
      exact rT
    ·have e3:(s.be.take 5).map cz.jI=(s.be.take k).map cz.jI:=by rw[List.take_of_length_le (by omega),List.take_of_length_le (by omega)]
     have e0:s.sa=⟨s.br.take 20,s.bD.take 10,(s.be.take k).map cz.jI,s.bI.take 10,s.ids.take 20,s.bR.take 20,s.nH,s.fr,s.to⟩:=by unfold fP.sa; rw[e3]
     rw[e0]
     refine sh ?_
     exact rT
end Go.UM
namespace Go.UM
open Go.AM
set_option maxRecDepth 4000
theorem FF {R:Env} (h:TJ R) (n:List Int) (hl:n.length≤1000) (hn:∀x ∈ n,aZ .i64 x):R.Mc 72 [.aO 1 (bc []),.int .i64 8,.aO 1 (aY .i64 n)] [] (.aU [.bh 0 (aL n).length,.int .i64 0]) [(0,.arr (R.ty 4) 1 (bc (aL n)))] 1:=by
 have c:=Ca h [] 8 n (by simp; omega) hn
 rw[Fy hn]at c
 simpa using c
theorem dF {R:Env} (h:HF R) (b:List UInt8) (n:List Int) (hb:b.length≤1000000) (hl:n.length≤1000) (hi:∀x ∈ n,aZ .i64 x):
  R.Mc 510 [.bh 0 b.length,.aO 1 (aY .i64 n)] [(0,.arr (R.ty 4) 1 (bc b))] (.bh 0 (b++aL n).length) [(0,.arr (R.ty 4) 1 (bc (b++aL n)))] 1:=
 h.RL.cr 60 1 rfl rfl rfl fun X bb hfit hp=>by
  have e:=aK n
  refine sh ?_
  refine cM false [] (FF h.TL n hl hi) ?_
  repeat (intro _; first|refine eK ?_|refine eP ?_)
  refine sh ?_
  refine rM [0] ?_
  all_goals repeat' (first|exact True.intro|refine And.intro ?_ ?_|(intro _u; clear _u)|(with_reducible first|exact aw.fg|refine eM ?_ ?_|refine eF ?_ ?_ ?_|refine eN ?_|refine eL ?_ ?_ ?_|refine eA ?_ ?_|refine az.mk ⟨_,hp,rfl⟩ ?_ ?_)|refine az.mk ⟨_,hp,rfl⟩ ?_ ?_)
  all_goals try first|with_reducible rfl|omega|exact .inl (by decide)|(simp; done)|rfl
  all_goals simp
theorem Ip {R:Env} (h:HF R) (x:Int) (hi:aZ .i64 x):
  R.Mc 510 [.an,.aO 1 (aY .i64 [x])] [] (.bh 0 (aL [x]).length) [(0,.arr (R.ty 4) 1 (bc (aL [x])))] 1:=
 h.RL.cr 60 0 rfl rfl rfl fun X bb hfit hp=>by
  have e:(aL [x]).length=8:=by rw[aK]; rfl
  refine sh ?_
  refine cM false [] (FF h.TL [x] (by simp) (by simpa using hi)) ?_
  repeat (intro _; first|refine eK ?_|refine eP ?_)
  refine sh ?_
  exact rM [1]
end Go.UM
