/- Of the reckoning machine, and what is proved with it: texts joined by program. -/
import Derived.Test.YtldnjomnleaibaaGreatDoorU0
import Derived.Test.YtldnjomnleaibaaGreatDoorK3
import Derived.Shelf.SlSortCmp.InsertionK
import Derived.Maps.Own
import Derived.Lib.SlKeysI
set_option linter.all false
namespace Go.UM
open Go.AM
set_option maxRecDepth 4000
deriving instance DecidableEq for T3
deriving instance DecidableEq for tQ
deriving instance DecidableEq for rE
theorem T3.eq_iff{x y:T3}:(x.a==y.a&&(x.b==y.b&&x.c==y.c))=true↔x=y:=by
 cases x; cases y; simp
theorem T3.ne_iff{x y:T3}:(x.a==y.a&&(x.b==y.b&&x.c==y.c))=false↔x≠y:=by
 rw[<-Bool.not_eq_true,T3.eq_iff]
theorem P2.eq_iff{x y:Int × Int}:(x.1==y.1&&x.2==y.2)=true↔x=y:=by
 cases x; cases y; simp
theorem P2.ne_iff{x y:Int × Int}:(x.1==y.1&&x.2==y.2)=false↔x≠y:=by
 rw[<-Bool.not_eq_true,P2.eq_iff]
theorem Hn{α:Type}{l l':List α}{i:Nat}{x y:α}(h:l[i]? =some x)(h':l'[i]? =some y)(hn:x≠y):l≠l':=by
 intro e; subst e; rw[h]at h'; exact hn (Option.some.inj h')
theorem lh{α:Type}{l l':List α}{i:Nat}{x:α}(h:l[i]? =some x)(h':l'[i]? =some x)(e:l.take i=l'.take i):l.take (i+1)=l'.take (i+1):=by
 rw[aR h,aR h',e]
theorem ox{α:Type}{l l':List α}{i:Nat}(h:l.take i=l'.take i)(hi:l.length<=i)(e:l.length=l'.length):l=l':=by
 rwa[List.take_of_length_le hi,List.take_of_length_le (by omega)]at h
theorem Ho{R:Env}(h:Ot R)(l l':List T3)(hl:l.length<=1073741824):R.Pc 315 [.aH 3 (bn l),.aH 3 (bn l')] (.bool (decide (l=l'))):=
 h.Uo.enter 100 rfl fun X bb hfit hp=>by
  refine sh ?_
  refine cS (fun h1=> ?_) (fun h1=> ?_)
  ·refine sh ?_
   refine rT ?_
   refine fL ?_
   refine (decide_eq_false ?_).symm
   exact fun e=>h1 (by simp[e])
  ·refine sh ?_
   refine mw 100 (fun i:Nat=>i<=l.length/\l.take i=l'.take i) (fun i=>⟨[(0,.aH 3 (bn l)),(1,.aH 3 (bn l')),(12,.int .i64 l.length),(13,.int .i64 i)],[],0⟩) (fun i=>l.length - i) (0) ?_ ?_
   ·exact⟨Nat.zero_le _,rfl⟩
   ·intro i hi
    dsimp only
    refine sh ?_
    refine cS (fun h2=> ?_) (fun h2=> ?_)
    ·obtain⟨x,hx⟩:∃u,l[i]? =some u:=⟨_,List.getElem?_eq_getElem (by omega)⟩
     obtain⟨y,hy⟩:∃u,l'[i]? =some u:=⟨_,List.getElem?_eq_getElem (by omega)⟩
     refine sh ?_
     refine bj hx ?_
     refine sh ?_
     refine bj hy ?_
     refine sh ?_
     refine cS (fun h3=> ?_) (fun h3=> ?_)
     ·refine sh ?_
      refine rT ?_
      refine fL ?_
      refine (decide_eq_false ?_).symm
      exact Hn hx hy (T3.ne_iff.1 h3)
     ·have e:=T3.eq_iff.1 h3
      subst e
      refine sh ?_
      refine yP (i+1) ?_ ?_
      ·exact⟨by omega,lh hx hy hi.2⟩
      ·omega
    ·refine sh ?_
     refine rT ?_
     refine fL ?_
     refine (decide_eq_true ?_).symm
     exact ox hi.2 (by omega) (by omega)
theorem zu{R:Env}(h:Ov R)(l l':List T3)(hl:l.length<=1073741824):R.Pc 317 [.aH 3 (bn l),.aH 3 (bn l')] (.bool (decide (l=l'))):=
 h.Ow.enter 100 rfl fun X bb hfit hp=>by
  refine sh ?_
  refine cS (fun h1=> ?_) (fun h1=> ?_)
  ·refine sh ?_
   refine rT ?_
   refine fL ?_
   refine (decide_eq_false ?_).symm
   exact fun e=>h1 (by simp[e])
  ·refine sh ?_
   refine mw 100 (fun i:Nat=>i<=l.length/\l.take i=l'.take i) (fun i=>⟨[(0,.aH 3 (bn l)),(1,.aH 3 (bn l')),(12,.int .i64 l.length),(13,.int .i64 i)],[],0⟩) (fun i=>l.length - i) (0) ?_ ?_
   ·exact⟨Nat.zero_le _,rfl⟩
   ·intro i hi
    dsimp only
    refine sh ?_
    refine cS (fun h2=> ?_) (fun h2=> ?_)
    ·obtain⟨x,hx⟩:∃u,l[i]? =some u:=⟨_,List.getElem?_eq_getElem (by omega)⟩
     obtain⟨y,hy⟩:∃u,l'[i]? =some u:=⟨_,List.getElem?_eq_getElem (by omega)⟩
     refine sh ?_
     refine bj hx ?_
     refine sh ?_
     refine bj hy ?_
     refine sh ?_
     refine cS (fun h3=> ?_) (fun h3=> ?_)
     ·refine sh ?_
      refine rT ?_
      refine fL ?_
      refine (decide_eq_false ?_).symm
      exact Hn hx hy (T3.ne_iff.1 h3)
     ·have e:=T3.eq_iff.1 h3
      subst e
      refine sh ?_
      refine yP (i+1) ?_ ?_
      ·exact⟨by omega,lh hx hy hi.2⟩
      ·omega
    ·refine sh ?_
     refine rT ?_
     refine fL ?_
     refine (decide_eq_true ?_).symm
     exact ox hi.2 (by omega) (by omega)
theorem Hp{R:Env}(h:Ou R)(l l':List (Int × Int))(hl:l.length<=1073741824):R.Pc 316 [.aH 2 (dA l),.aH 2 (dA l')] (.bool (decide (l=l'))):=
 h.Uq.enter 100 rfl fun X bb hfit hp=>by
  refine sh ?_
  refine cS (fun h1=> ?_) (fun h1=> ?_)
  ·refine sh ?_
   refine rT ?_
   refine fL ?_
   refine (decide_eq_false ?_).symm
   exact fun e=>h1 (by simp[e])
  ·refine sh ?_
   refine mw 100 (fun i:Nat=>i<=l.length/\l.take i=l'.take i) (fun i=>⟨[(0,.aH 2 (dA l)),(1,.aH 2 (dA l')),(12,.int .i64 l.length),(13,.int .i64 i)],[],0⟩) (fun i=>l.length - i) (0) ?_ ?_
   ·exact⟨Nat.zero_le _,rfl⟩
   ·intro i hi
    dsimp only
    refine sh ?_
    refine cS (fun h2=> ?_) (fun h2=> ?_)
    ·obtain⟨x,hx⟩:∃u,l[i]? =some u:=⟨_,List.getElem?_eq_getElem (by omega)⟩
     obtain⟨y,hy⟩:∃u,l'[i]? =some u:=⟨_,List.getElem?_eq_getElem (by omega)⟩
     refine sh ?_
     refine bj hx ?_
     refine sh ?_
     refine bj hy ?_
     refine sh ?_
     refine cS (fun h3=> ?_) (fun h3=> ?_)
     ·refine sh ?_
      refine rT ?_
      refine fL ?_
      refine (decide_eq_false ?_).symm
      exact Hn hx hy (P2.ne_iff.1 h3)
     ·have e:=P2.eq_iff.1 h3
      subst e
      refine sh ?_
      refine yP (i+1) ?_ ?_
      ·exact⟨by omega,lh hx hy hi.2⟩
      ·omega
    ·refine sh ?_
     refine rT ?_
     refine fL ?_
     refine (decide_eq_true ?_).symm
     exact ox hi.2 (by omega) (by omega)
theorem tQ.eq_iff{x y:tQ}:(x.k==y.k&&(x.c.a==y.c.a&&(x.c.b==y.c.b&&(x.c.c==y.c.c&&x.r==y.r))))=true↔x=y:=by
 obtain⟨_,⟨_,_,_⟩,_⟩:=x; obtain⟨_,⟨_,_,_⟩,_⟩:=y; simp[and_assoc]
theorem tQ.ne_iff{x y:tQ}:(x.k==y.k&&(x.c.a==y.c.a&&(x.c.b==y.c.b&&(x.c.c==y.c.c&&x.r==y.r))))=false↔x≠y:=by
 rw[<-Bool.not_eq_true,tQ.eq_iff]
theorem rE.eq_iff{x y:rE}:(x.k==y.k&&(x.c.a==y.c.a&&(x.c.b==y.c.b&&(x.c.c==y.c.c&&(x.p.a==y.p.a&&(x.p.b==y.p.b&&(x.p.c==y.p.c&&(x.u.a==y.u.a&&(x.u.b==y.u.b&&(x.u.c==y.u.c&&(x.v.a==y.v.a&&(x.v.b==y.v.b&&x.v.c==y.v.c))))))))))))=true↔x=y:=by
 obtain⟨_,⟨_,_,_⟩,⟨_,_,_⟩,⟨_,_,_⟩,⟨_,_,_⟩⟩:=x; obtain⟨_,⟨_,_,_⟩,⟨_,_,_⟩,⟨_,_,_⟩,⟨_,_,_⟩⟩:=y; simp[and_assoc]
theorem rE.ne_iff{x y:rE}:(x.k==y.k&&(x.c.a==y.c.a&&(x.c.b==y.c.b&&(x.c.c==y.c.c&&(x.p.a==y.p.a&&(x.p.b==y.p.b&&(x.p.c==y.p.c&&(x.u.a==y.u.a&&(x.u.b==y.u.b&&(x.u.c==y.u.c&&(x.v.a==y.v.a&&(x.v.b==y.v.b&&x.v.c==y.v.c))))))))))))=false↔x≠y:=by
 rw[<-Bool.not_eq_true,rE.eq_iff]
structure As.Bt(a:As):Prop where
 v:a.m.v.length<=1000
 uv:a.m.uv.length<=1000
 t:a.m.t.length<=1000
 x:a.x.t.length<=1000
def tU(a b:As):Bool:=decide (a.k=b.k/\a.mt=b.mt/\a.li=b.li/\a.x.side=b.x.side/\a.m.v=b.m.v/\a.m.uv=b.m.uv/\a.m.t=b.m.t/\a.x.t=b.x.t)
theorem Hq{R:Env}(h:JV R)(a b:As)(f:a.Bt):R.Pc 298 [.agg a.row,.agg b.row] (.bool (tU a b)):=
 h.Ox.enter 100 rfl fun X bb hfit hp=>by
  refine sh ?_
  refine cS (fun h1=> ?_) (fun h1=> ?_)
  ·refine sh ?_
   refine rT ?_
   refine fL ?_
   exact (decide_eq_false fun e=>h1 e.1).symm
  ·refine sh ?_
   refine cS (fun h2=> ?_) (fun h2=> ?_)
   ·refine sh ?_
    refine rT ?_
    refine fL ?_
    exact (decide_eq_false fun e=>tQ.ne_iff.1 h2 e.2.1).symm
   ·refine sh ?_
    refine cS (fun h3=> ?_) (fun h3=> ?_)
    ·refine sh ?_
     refine rT ?_
     refine fL ?_
     exact (decide_eq_false fun e=>rE.ne_iff.1 h3 e.2.2.1).symm
    ·refine sh ?_
     refine cS (fun h4=> ?_) (fun h4=> ?_)
     ·refine sh ?_
      refine rT ?_
      refine fL ?_
      exact (decide_eq_false fun e=>h4 e.2.2.2.1).symm
     ·refine sh ?_
      refine aj.pure h.n315.Uo.hb (Ho h.n315 a.m.v b.m.v (by have:=f.v; omega)) rfl ?_
      refine sh ?_
      refine cS (fun h5=> ?_) (fun h5=> ?_)
      ·refine sh ?_
       refine aj.pure h.n316.Uq.hb (Hp h.n316 a.m.uv b.m.uv (by have:=f.uv; omega)) rfl ?_
       refine sh ?_
       refine cS (fun h6=> ?_) (fun h6=> ?_)
       ·refine sh ?_
        refine aj.pure h.n317.Ow.hb (zu h.n317 a.m.t b.m.t (by have:=f.t; omega)) rfl ?_
        refine sh ?_
        refine cS (fun h7=> ?_) (fun h7=> ?_)
        ·refine sh ?_
         refine aj.pure h.n317.Ow.hb (zu h.n317 a.x.t b.x.t (by have:=f.x; omega)) rfl ?_
         refine sh ?_
         refine rT ?_
         refine fL ?_
         simp[tU,h1,tQ.eq_iff.1 h2,rE.eq_iff.1 h3,h4,h5,h6,h7]
        ·refine sh ?_
         refine rT ?_
         refine fL ?_
         exact (decide_eq_false fun e=>h7 e.2.2.2.2.2.2.1).symm
       ·refine sh ?_
        refine rT ?_
        refine fL ?_
        exact (decide_eq_false fun e=>h6 e.2.2.2.2.2.1).symm
      ·refine sh ?_
       refine rT ?_
       refine fL ?_
       exact (decide_eq_false fun e=>h5 e.2.2.2.2.1).symm
end Go.UM
namespace Go.UM
open Go.AM
set_option maxRecDepth 4000
def cap(k:Int):Int:=if k=1 then 2048 else if k=2 then 1024 else if k=3\/ k=4 then 64 else 0
theorem LX{R:Env}(h:X0 R)(k:Int):R.Pc 37 [.int .i64 k] (.int .i64 (cap k)):=
 h.o37.enter 60 rfl fun X b hfit hp=>by
  refine sh ?_
  refine cS (fun h1=> ?_) (fun h1=> ?_)
  ·refine sh ?_
   refine rT ?_
   refine fL ?_
   simp[cap]; omega
  ·refine sh ?_
   refine cS (fun h2=> ?_) (fun h2=> ?_)
   ·refine sh ?_
    refine rT ?_
    refine fL ?_
    simp[cap]; omega
   ·refine st ?_
    obtain h3|h3|h3|h3|h3:k=0\/ k=1\/ k=2\/ k=3\/ k=4:=by omega
    all_goals subst h3
    ·refine sh ?_
     exact rT
    ·refine sh ?_
     exact rT
    ·refine sh ?_
     exact rT
    ·refine sh ?_
     exact rT
    ·refine sh ?_
     exact rT
end Go.UM
namespace Go.UM
open Go.AM
set_option maxRecDepth 4000
def qh:Ms:=⟨[],[],[]⟩
def VZ:r7:=⟨0,[]⟩
def V0:tQ:=⟨0,z3,0⟩
def V1:rE:=⟨0,z3,z3,z3,z3⟩
def As.zero(k:Int):As:=⟨k,qh,VZ,V0,V1⟩
theorem xu(k:Int):(As.zero k).Bt:=by refine⟨?_,?_,?_,?_⟩<;>simp[As.zero,qh,VZ]
def As.bare(a:As):As:=if a.k=1 then {a with m:=qh} else if a.k=2 then {a with x:=VZ} else if a.k=3 then {a with mt:=V0} else if a.k=4 then {a with li:=V1} else a
def iD(a:As):Int:=if own a≠0 then own a else if tU a.bare (As.zero a.k)=false then 5 else if cap a.k< (cN a).length then 9 else 0
def nF(a:As):List UInt8 × Int:=if iD a≠0 then ([],iD a)else (cN a,0)
theorem V2{R:Env}(h:Oy R)(a:As)(fx:a.x.t.length<=1000):R.Pc 309 [.agg a.row] (.int .i64 (own a)):=
 h.Uu.enter 100 rfl fun X bb hfit hp=>by
  unfold own
  refine sh ?_
  refine cS (fun h1=> ?_) (fun h1=> ?_)
  ·rw[if_pos h1]
   refine sh ?_
   refine aj.pure h.n193.uX.hb (tK h.n193 a.m) rfl ?_
   refine sh ?_
   exact rT
  ·rw[if_neg h1]
   refine sh ?_
   refine cS (fun h2=> ?_) (fun h2=> ?_)
   ·rw[if_pos h2]
    refine sh ?_
    refine aj.pure h.ES.X5.hb (Bs h.ES a.x (by omega)) rfl ?_
    refine sh ?_
    exact rT
   ·rw[if_neg h2]
    refine sh ?_
    refine cS (fun h3=> ?_) (fun h3=> ?_)
    ·rw[if_pos h3]
     refine sh ?_
     refine aj.pure h.n290.Uj.hb (PJ h.n290 a.mt) rfl ?_
     refine sh ?_
     exact rT
    ·rw[if_neg h3]
     refine sh ?_
     refine cS (fun h4=> ?_) (fun h4=> ?_)
     ·rw[if_pos h4]
      refine sh ?_
      refine aj.pure h.n292.Um.hb (PK h.n292 a.li) rfl ?_
      refine sh ?_
      exact rT
     ·rw[if_neg h4]
      refine sh ?_
      exact rT
theorem PO{R:Env}(h:Oz R)(a:As):R.Pc 310 [.agg a.row] (.agg a.bare.row):=
 h.Uw.enter 100 rfl fun X bb hfit hp=>by
  unfold As.bare
  refine sh ?_
  refine cS (fun h1=> ?_) (fun h1=> ?_)
  ·rw[if_pos h1]
   refine sh ?_
   exact rT
  ·rw[if_neg h1]
   refine sh ?_
   refine cS (fun h2=> ?_) (fun h2=> ?_)
   ·rw[if_pos h2]
    refine sh ?_
    exact rT
   ·rw[if_neg h2]
    refine sh ?_
    refine cS (fun h3=> ?_) (fun h3=> ?_)
    ·rw[if_pos h3]
     refine sh ?_
     exact rT
    ·rw[if_neg h3]
     refine sh ?_
     refine cS (fun h4=> ?_) (fun h4=> ?_)
     ·rw[if_pos h4]
      refine sh ?_
      exact rT
     ·rw[if_neg h4]
      refine sh ?_
      exact rT
theorem As.Bt.bare{a:As}(f:a.Bt):a.bare.Bt:=by
 unfold As.bare
 obtain⟨f1,f2,f3,f4⟩:=f
 split
 ·exact⟨by simp[qh],by simp[qh],by simp[qh],f4⟩
 ·split
  ·exact⟨f1,f2,f3,by simp[VZ]⟩
  ·split
   ·exact⟨f1,f2,f3,f4⟩
   ·split<;>exact⟨f1,f2,f3,f4⟩
theorem wl{R:Env}(h:DM R)(a:As)(fx:a.x.t.length<=1000)(f:a.bare.Bt):R.Pc 294 [.agg a.row] (.int .i64 (iD a)):=
 h.yX.enter 100 rfl fun X bb hfit hp=>by
  refine sh ?_
  refine aj.pure h.n309.Uu.hb (V2 h.n309 a fx) rfl ?_
  generalize hq:iD a=q
  refine sh ?_
  refine cS (fun h1=> ?_) (fun h1=> ?_)
  ·rw[iD,if_pos h1]at hq
   subst hq
   refine sh ?_
   exact rT
  ·rw[iD,if_neg (by simpa using h1)]at hq
   have ok:=h1
   refine sh ?_
   refine cM false [] ((PO h.n310 a).mc h.n310.Uw.hb) ?_
   repeat (intro _; first|refine eK ?_|refine eP ?_)
   refine sh ?_
   refine cM false [] ((Hq h.n298 a.bare (As.zero a.k) f).mc h.n298.Ox.hb) ?_
   repeat (intro _; first|refine eK ?_|refine eP ?_)
   refine sh ?_
   refine cS (fun h2=> ?_) (fun h2=> ?_)
   ·rw[if_pos (by simpa using h2)]at hq
    subst hq
    refine sh ?_
    exact rT
   ·rw[if_neg (by simpa using h2)]at hq
    refine sh ?_
    refine aj.pure h.n311.OA.hb (zq h.n311 a (by omega) ok) rfl ?_
    refine sh ?_
    refine aj.pure h.n37.o37.hb (LX h.n37 a.k) rfl ?_
    refine sh ?_
    refine cS (fun h3=> ?_) (fun h3=> ?_)
    ·rw[if_pos h3]at hq
     subst hq
     refine sh ?_
     exact rT
    ·rw[if_neg (by omega)]at hq
     subst hq
     refine sh ?_
     exact rT
theorem kA{R:Env}(h:DM R)(a:As)(f:a.Bt):R.Pc 294 [.agg a.row] (.int .i64 (iD a)):=wl h a f.x f.bare
theorem Eb{R:Env}(h:OB R)(a:As)(f:a.Bt):R.Pc 301 [.agg a.row] (.aG [.aH 1 (aq (nF a).1),.int .i64 (nF a).2]):=
 h.UA.enter 100 rfl fun X bb hfit hp=>by
  refine sh ?_
  refine aj.pure h.n294.yX.hb (kA h.n294 a f) rfl ?_
  generalize hq:nF a=q
  refine sh ?_
  refine cS (fun h1=> ?_) (fun h1=> ?_)
  ·rw[nF,if_pos h1]at hq
   subst hq
   refine sh ?_
   exact rT
  ·rw[nF,if_neg (by simpa using h1)]at hq
   subst hq
   have ok:own a=0:=by
    by_cases e:own a=0
    ·exact e
    ·rw[iD,if_pos e]at h1; exact absurd h1 e
   refine sh ?_
   refine aj.pure h.n311.OA.hb (zq h.n311 a (by have:=f.x; omega) ok) rfl ?_
   refine sh ?_
   exact rT
end Go.UM
namespace Go.UM
open Go.AM
set_option maxRecDepth 4000
structure Tb where
 rows:List Rw
 ins:List In
def LY(r:Rw):List AV:= .int .i64 r.h::r.row
def Ck(l:List Rw):List (List AV):=l.map LY
@[simp] theorem PP(l:List Rw):(Ck l).length=l.length:=by simp[Ck]
@[simp] theorem PQ(a b:List Rw):Ck (a++b)=Ck a++Ck b:=by simp[Ck]
@[simp] theorem Ya(l:List Rw):qc (Ck l):=by simp[Ck,LY,Rw.row]
def zv(l:List Rw)(h:Int):Option Rw:=l.find? fun r=>r.h==h
def tV(x y:In):Bool:=x.ot==y.ot&&(x.Bj==y.Bj&&(x.Bk==y.Bk&&x.n==y.n))
theorem PR{h:Int}{l:List Rw}:∀e ∈ Ck l,dS [.i] [.int .i64 h] e=true:=by
 intro e he
 obtain⟨r,_,rfl⟩:=List.mem_map.1 he
 rfl
theorem zw(h:Int):∀l:List Rw,∃i:Nat,cD [.int .i64 h] (Ck l)=(zv l h).map fun r=>(i,r.row)
 |[]=>⟨0,rfl⟩
 |r::l=>by
  obtain⟨i,hi⟩:=zw h l
  have e:qp [.int .i64 h] (LY r)=(r.h==h):=by
   show ((h==r.h)&&true)=_
   rw[Bool.and_true]; exact Bool.beq_comm
  by_cases hh:(r.h==h)=true
  ·refine⟨0,?_⟩
   show (if qp [.int .i64 h] (LY r)then some (0,(LY r).drop 1)else _)=_
   rw[e,if_pos hh]; simp only[zv,List.find?_cons,hh]; rfl
  ·refine⟨i+1,?_⟩
   show (if qp [.int .i64 h] (LY r)then some (0,(LY r).drop 1)else (cD [.int .i64 h] (Ck l)).map fun q=>(q.1+1,q.2))=_
   rw[e,if_neg hh,hi]; simp only[zv,List.find?_cons,hh]
   cases List.find? (fun r=>r.h==h) l<;>rfl
theorem V3{h:Int}{l:List Rw}{K:Option (Nat × List AV)->Prop}(k:∀i:Nat,K ((zv l h).map fun r=>(i,r.row))):RS [.i] [.int .i64 h] (Ck l) K:=by
 obtain⟨i,hi⟩:=zw h l
 exact⟨PR,by rw[hi]; exact k i⟩
abbrev kB(R:Env)(d1 d2:Bool)(t:Tb):ah:=[(0,.map 1 false true d1 41 (Ck t.rows)),(1,.map 4 true true d2 16 (EU t.ins)),(2,.var (R.ty 47) [.omap 0,.omap 1])]
theorem PU{R:Env}(h:OZ R):R.Mc 345 [] [] (.loc 2 1 0 0) (kB R true true ⟨[],[]⟩) 3:=
 h.aaO.aL 60 0 rfl rfl rfl fun X bb hfit hp=>by
  refine sh ?_
  exact rM [0,1,2]
theorem r8{R:Env}(h:DQ R)(d1 d2:Bool)(t:Tb):R.Mc 355 [.loc 2 1 0 0] (kB R d1 d2 t) (.bool false) (kB R d1 d2 t) 3:=
 h.aaP.aL 60 3 rfl rfl rfl fun X bb hfit hp=>by
  unfold kB
  refine sh ?_
  exact rM [0,1,2]
end Go.UM
namespace Go.UM
open Go.AM
set_option maxRecDepth 4000
def f3(r:Rd):T3 × Rd:=(⟨(r.int 2).1,((r.int 2).2.int 2).1,(((r.int 2).2.int 2).2.int 2).1⟩,(((r.int 2).2.int 2).2.int 2).2)
def f2(r:Rd):(Int × Int) × Rd:=(((r.num 2).1,((r.num 2).2.num 2).1),((r.num 2).2.num 2).2)
def ft(r:Rd):T3 × Rd:=(⟨(r.num 1).1,((r.num 1).2.num 1).1,(((r.num 1).2.num 1).2.num 1).1⟩,(((r.num 1).2.num 1).2.num 1).2)
theorem bV{R:Env}(h:Oi R)(r:Rd)(w:Int)(h1:1<=w)(h2:w<=7):R.Mc 214 [.agg [.loc 0 1 0 0],.int .i64 w] (mD R r) (.int .i64 (r.num w).1) (mD R (r.num w).2) 1:=
 h.aay.aL 60 1 rfl rfl rfl fun X bb hfit hp=>by
  refine sh ?_
  refine cM false [0] (ly h.n57 r w) ?_
  repeat (intro _; first|refine eK ?_|refine eP ?_)
  have hlt:=bP r h1 (show w<=8 by omega)
  have hp:(256:Nat) ^ w.toNat<=256 ^ 7:=Nat.pow_le_pow_right (by decide) (by omega)
  have:((r.num w).1:Int)<9223372036854775808:=by omega
  refine sh ?_
  exact rM [0]
theorem wm{R:Env}(h:Oj R)(r:Rd):R.Mc 215 [.agg [.loc 0 1 0 0]] (mD R r) (.agg (t3 (f3 r).1)) (mD R (f3 r).2) 1:=
 h.aaz.aL 60 1 rfl rfl rfl fun X bb hfit hp=>by
  refine sh ?_
  refine cM false [0] (wg h.IA r 2) ?_
  repeat (intro _; first|refine eK ?_|refine eP ?_)
  refine sh ?_
  refine cM false [0] (wg h.IA (r.int 2).2 2) ?_
  repeat (intro _; first|refine eK ?_|refine eP ?_)
  refine sh ?_
  refine cM false [0] (wg h.IA ((r.int 2).2.int 2).2 2) ?_
  repeat (intro _; first|refine eK ?_|refine eP ?_)
  refine sh ?_
  exact rM [0]
theorem fC.f3{B:List UInt8}{r:Rd}(h:fC B r):fC B (f3 r).2:=((h.int 2).int 2).int 2
theorem fC.f2{B:List UInt8}{r:Rd}(h:fC B r):fC B (f2 r).2:=(h.num 2).num 2
theorem fC.ft{B:List UInt8}{r:Rd}(h:fC B r):fC B (ft r).2:=((h.num 1).num 1).num 1
theorem fC.gw{B:List UInt8}{α:Type}{f:Rd->α × Rd}(hf:∀r,fC B r->fC B (f r).2)(n:Nat):∀{r:Rd},fC B r->fC B (gw f n r).2:=by
 induction n with
 |zero=>exact fun h=>h
 |succ n ih=>exact fun h=>hf _ (ih h)
def zMs:Ms:=⟨[],[],[]⟩
def mq(nv nt:Nat)(r:Rd):Ms × Rd:=(⟨(gw f3 nv r).1,(gw f2 nv (gw f3 nv r).2).1,(gw ft nt (gw f2 nv (gw f3 nv r).2).2).1⟩,(gw ft nt (gw f2 nv (gw f3 nv r).2).2).2)
def tW(q:Ms × Rd):Ms × Int:=if q.2.fin≠0 then (zMs,q.2.fin)else if iM q.1≠0 then (zMs,iM q.1)else (q.1,0)
def lA(b:List UInt8):Ms × Int:=tW (mq ((⟨b,0,true⟩:Rd).num 1).1 (((⟨b,0,true⟩:Rd).num 1).2.num 1).1 (((⟨b,0,true⟩:Rd).num 1).2.num 1).2)
theorem Hr{u:List (Int × Int)}{t:List T3}:iM ⟨[],u,t⟩=if 64<t.length then 3 else 5:=by
 unfold iM
 by_cases h:64<t.length
 ·rw[if_pos (.inr h),if_pos h]
 ·rw[if_neg (by simp; omega),if_neg h,if_pos (.inl rfl)]
theorem PV{v:List T3}{u:List (Int × Int)}:iM ⟨v,u,[]⟩=if 64<v.length then 3 else 5:=by
 unfold iM
 by_cases h:64<v.length
 ·rw[if_pos (.inl h),if_pos h]
 ·rw[if_neg (by simp; omega),if_neg h,if_pos (.inr (.inl rfl))]
theorem Hs{R:Env}(h:yW R):R.Pc 193 [.agg [.ab,.ab,.ab]] (.int .i64 5):=
 h.uX.enter 60 rfl fun X bb hfit hp=>by
  refine sh ?_
  refine aD (by decide) ?_
  refine sh ?_
  refine aD (by decide) ?_
  refine sh ?_
  refine aw (by decide) ?_
  refine sh ?_
  exact rT
theorem Ht{R:Env}(h:yW R)(t:List T3):R.Pc 193 [.agg [.ab,.ab,.aH 3 (bn t)]] (.int .i64 (if 64<t.length then 3 else 5)):=
 h.uX.enter 60 rfl fun X bb hfit hp=>by
  refine sh ?_
  refine aD (by decide) ?_
  refine sh ?_
  refine cS (fun h1=> ?_) (fun h1=> ?_)
  ·rw[if_pos (by omega)]
   refine sh ?_
   exact rT
  ·rw[if_neg (by omega)]
   refine sh ?_
   refine aw (by decide) ?_
   refine sh ?_
   exact rT
theorem Hu{R:Env}(h:yW R)(v:List T3)(u:List (Int × Int))(hv:1<=v.length):R.Pc 193 [.agg [.aH 3 (bn v),.aH 2 (dA u),.ab]] (.int .i64 (if 64<v.length then 3 else 5)):=
 h.uX.enter 60 rfl fun X bb hfit hp=>by
  refine sh ?_
  refine cS (fun h1=> ?_) (fun h1=> ?_)
  ·rw[if_pos (by omega)]
   refine sh ?_
   exact rT
  ·rw[if_neg (by omega)]
   refine sh ?_
   refine aD (by decide) ?_
   refine sh ?_
   refine aD (by first|(rw[beq_eq_false_iff_ne]; omega)|(simp; omega)) ?_
   refine sh ?_
   refine aw (by decide) ?_
   refine sh ?_
   exact rT
set_option maxHeartbeats 1000000 in
theorem zx{R:Env}(h:Ol R)(b:List UInt8)(hb:b.length<=1073741824):R.Pc 202 [.aH 1 (aq b)] (.aG [.agg (lA b).1.row,.int .i64 (lA b).2]):=
 h.Ue.enter 100 rfl fun X bb hfit hp=>by
  refine sh ?_
  refine cM false [] (zh h.Bc b hb) ?_
  repeat (intro _; first|refine eK ?_|refine eP ?_)
  have c1:=bV h.n214 ⟨b,0,true⟩ 1 (by omega) (by omega)
  unfold lA
  have la:((⟨b,0,true⟩:Rd).num 1).1<256:=bP _ (by omega) (by omega)
  generalize (⟨b,0,true⟩:Rd).num 1=a at c1 la ⊢
  refine sh ?_
  refine cM false [1] (c1) ?_
  repeat (intro _; first|refine eK ?_|refine eP ?_)
  have c2:=bV h.n214 a.2 1 (by omega) (by omega)
  have lc:(a.2.num 1).1<256:=bP _ (by omega) (by omega)
  generalize a.2.num 1=c at c2 lc ⊢
  refine sh ?_
  refine cM false [1] (c2) ?_
  repeat (intro _; first|refine eK ?_|refine eP ?_)
  obtain⟨nv,ra⟩:=a
  obtain⟨nt,r2⟩:=c
  dsimp only at la lc c1 c2 ⊢
  obtain⟨v,hv⟩:∃v,gw f3 nv r2=v:=⟨_,rfl⟩
  obtain⟨u,hu⟩:∃u,gw f2 nv v.2=u:=⟨_,rfl⟩
  obtain⟨t,ht⟩:∃t,gw ft nt u.2=t:=⟨_,rfl⟩
  have hq:mq nv nt r2=(⟨v.1,u.1,t.1⟩,t.2):=by unfold mq; rw[hv,hu,ht]
  rw[hq]
  clear hq c1 c2
  by_cases h0:nv=0
  ·subst h0
   obtain rfl:v=([],r2):=hv.symm
   obtain rfl:u=([],r2):=hu.symm
   refine sh ?_
   refine az.one 100 ?_
   refine sh ?_
   refine aD (by simp) ?_
   refine sh ?_
   refine az.one 100 ?_
   refine sh ?_
   refine aD (by simp) ?_
   by_cases hn:nt=0
   ·subst hn
    obtain rfl:t=([],r2):=ht.symm
    refine sh ?_
    refine az.one 100 ?_
    refine sh ?_
    refine aD (by simp) ?_
    refine sh ?_
    refine cM false [1] (lz h.n60 r2) ?_
    repeat (intro _; first|refine eK ?_|refine eP ?_)
    refine sh ?_
    refine cS (fun h9=> ?_) (fun h9=> ?_)
    ·rw[tW,if_pos h9]
     refine sh ?_
     exact rT
    ·rw[tW,if_neg (fun hh=>hh h9)]
     refine sh ?_
     refine aj.pure h.n193.uX.hb (Hs h.n193) rfl ?_
     have hc:iM (⟨[],[],[]⟩:Ms)=5:=by rw[Hr]; rfl
     have hne:iM (⟨[],[],[]⟩:Ms)≠0:=by rw[hc]; decide
     rw[if_pos hne,hc]
     refine sh ?_
     refine aw (by decide) ?_
     refine sh ?_
     exact rT
   ·refine sh ?_
    refine az.one 100 ?_
    refine sh ?_
    refine aw (by (simp; omega)) ?_
    have l0:((r2).num 1).1<256:=bP _ (by omega) (by omega)
    refine sh ?_
    refine cM false [1] (bV h.n214 (r2) 1 (by omega) (by omega)) ?_
    repeat (intro _; first|refine eK ?_|refine eP ?_)
    have l1:(((r2).num 1).2.num 1).1<256:=bP _ (by omega) (by omega)
    refine sh ?_
    refine cM false [1] (bV h.n214 ((r2).num 1).2 1 (by omega) (by omega)) ?_
    repeat (intro _; first|refine eK ?_|refine eP ?_)
    have l2:((((r2).num 1).2.num 1).2.num 1).1<256:=bP _ (by omega) (by omega)
    refine sh ?_
    refine cM false [1] (bV h.n214 (((r2).num 1).2.num 1).2 1 (by omega) (by omega)) ?_
    repeat (intro _; first|refine eK ?_|refine eP ?_)
    refine sh ?_
    refine mw 100 (fun k:Nat=>1<=k/\k<=nt) (fun k=>⟨[(2,.loc 0 1 0 0),(4,.loc 2 1 0 0),(7,.loc 3 1 0 0),(42,.int .i64 nt),(43,.int .i64 k)],[(0,.var (R.ty 25) [.ab,.ab,.ab]),(1,.var (R.ty 9) (Rd.row (gw ft k r2).2)),(2,.var (R.ty 30) [.loc 1 1 0 0]),(3,.var (R.ty 25) [.ab,.ab,.bi 5 k]),(5,.arr (R.ty 13) 3 (bn (gw ft k r2).1))],6⟩) (fun k=>nt - k) (1) ?_ ?_
    ·exact⟨Nat.le_refl _,by omega⟩
    ·intro k hk
     dsimp only
     obtain⟨Jm,hk2⟩:=hk
     have hl:=pm ft k r2
     have hS:gw ft (k+1) r2=((gw ft k r2).1++ [(ft (gw ft k r2).2).1],(ft (gw ft k r2).2).2):=rfl
     refine sh ?_
     refine cS (fun hlt=> ?_) (fun hlt=> ?_)
     ·generalize hs:gw ft k r2=s at hl hS ⊢
      have l0:((s.2).num 1).1<256:=bP _ (by omega) (by omega)
      refine sh ?_
      refine cM false [1] (bV h.n214 (s.2) 1 (by omega) (by omega)) ?_
      repeat (intro _; first|refine eK ?_|refine eP ?_)
      have l1:(((s.2).num 1).2.num 1).1<256:=bP _ (by omega) (by omega)
      refine sh ?_
      refine cM false [1] (bV h.n214 ((s.2).num 1).2 1 (by omega) (by omega)) ?_
      repeat (intro _; first|refine eK ?_|refine eP ?_)
      have l2:((((s.2).num 1).2.num 1).2.num 1).1<256:=bP _ (by omega) (by omega)
      refine sh ?_
      refine cM false [1] (bV h.n214 (((s.2).num 1).2.num 1).2 1 (by omega) (by omega)) ?_
      repeat (intro _; first|refine eK ?_|refine eP ?_)
      refine sh ?_
      refine nX (k+1) ?_ ?_ ⟨_,hp,rfl⟩ ?_ ?_
      ·omega
      ·omega
      ·all_goals repeat' (first|exact True.intro|refine And.intro ?_ ?_|(intro _u; clear _u)|(with_reducible first|exact aU.fg|refine eM ?_ ?_|refine eF ?_ ?_ ?_|refine eN ?_|refine eL ?_ ?_ ?_|refine eA ?_ ?_|refine bp.mk ⟨_,hp,rfl⟩ ?_ ?_)|refine bp.mk ⟨_,hp,rfl⟩ ?_ ?_)
       all_goals try first|with_reducible rfl|omega|exact .inl (by decide)|(simp; done)|rfl
      ·all_goals repeat' (first|exact True.intro|refine And.intro ?_ ?_|(intro _u; clear _u)|(with_reducible first|exact aU.fg|refine eM ?_ ?_|refine eF ?_ ?_ ?_|refine eN ?_|refine eL ?_ ?_ ?_|refine eA ?_ ?_|refine bp.mk ⟨_,hp,rfl⟩ ?_ ?_)|refine bp.mk ⟨_,hp,rfl⟩ ?_ ?_)
       all_goals try first|with_reducible rfl|omega|exact .inl (by decide)|(simp; done)|rfl
       all_goals first|(simp[hl]; done)|(rw[hS]; done)|(rw[hS]; rfl)|(rw[hS]; simp[bn]; done)|(rw[hS]; simp[bn]; rfl)
     ·have hkn:k=nt:=by omega
      rw[hkn,ht]at hl ⊢
      have hzt:(bn t.1).length=nt:=by simp[hl]
      refine sh ?_
      refine cM false [1] (lz h.n60 t.2) ?_
      repeat (intro _; first|refine eK ?_|refine eP ?_)
      refine sh ?_
      refine cS (fun h9=> ?_) (fun h9=> ?_)
      ·rw[tW,if_pos h9]
       refine sh ?_
       exact rT
      ·rw[tW,if_neg (fun hh=>hh h9)]
       refine sh ?_
       refine aj.let [5] rfl hp rfl ?_
       repeat ((intro _u; clear _u); first|refine eZ ?_|refine eZ ?_ (by simp; omega)|refine lD.drop ?_)
       refine sh ?_
       refine aj.pure h.n193.uX.hb (Ht h.n193 t.1) rfl ?_
       have hc:iM (⟨[],[],t.1⟩:Ms)=if 64<t.1.length then 3 else 5:=Hr
       have hne:iM (⟨[],[],t.1⟩:Ms)≠0:=by rw[hc]; split<;>decide
       rw[if_pos hne,hc]
       refine sh ?_
       refine aw (by (split<;>decide)) ?_
       refine sh ?_
       exact rT
  ·refine sh ?_
   refine az.one 100 ?_
   refine sh ?_
   refine aw (by (simp; omega)) ?_
   refine sh ?_
   refine cM false [1] (wm h.n215 r2) ?_
   repeat (intro _; first|refine eK ?_|refine eP ?_)
   refine sh ?_
   refine mw 100 (fun k:Nat=>1<=k/\k<=nv) (fun k=>⟨[(2,.loc 0 1 0 0),(4,.loc 2 1 0 0),(5,.int .i64 nv),(6,.int .i64 nt),(7,.loc 3 1 0 0),(17,.int .i64 nv),(18,.int .i64 k)],[(0,.var (R.ty 25) [.ab,.ab,.ab]),(1,.var (R.ty 9) (Rd.row (gw f3 k r2).2)),(2,.var (R.ty 30) [.loc 1 1 0 0]),(3,.var (R.ty 25) [.bi 5 k,.ab,.ab]),(5,.arr (R.ty 26) 3 (bn (gw f3 k r2).1))],6⟩) (fun k=>nv - k) (1) ?_ ?_
   ·exact⟨Nat.le_refl _,by omega⟩
   ·intro k hk
    dsimp only
    obtain⟨Jm,hk2⟩:=hk
    have hl:=pm f3 k r2
    have hS:gw f3 (k+1) r2=((gw f3 k r2).1++ [(f3 (gw f3 k r2).2).1],(f3 (gw f3 k r2).2).2):=rfl
    refine sh ?_
    refine cS (fun hlt=> ?_) (fun hlt=> ?_)
    ·generalize hs:gw f3 k r2=s at hl hS ⊢
     refine sh ?_
     refine cM false [1] (wm h.n215 s.2) ?_
     repeat (intro _; first|refine eK ?_|refine eP ?_)
     refine sh ?_
     refine nX (k+1) ?_ ?_ ⟨_,hp,rfl⟩ ?_ ?_
     ·omega
     ·omega
     ·all_goals repeat' (first|exact True.intro|refine And.intro ?_ ?_|(intro _u; clear _u)|(with_reducible first|exact aU.fg|refine eM ?_ ?_|refine eF ?_ ?_ ?_|refine eN ?_|refine eL ?_ ?_ ?_|refine eA ?_ ?_|refine bp.mk ⟨_,hp,rfl⟩ ?_ ?_)|refine bp.mk ⟨_,hp,rfl⟩ ?_ ?_)
      all_goals try first|with_reducible rfl|omega|exact .inl (by decide)|(simp; done)|rfl
     ·all_goals repeat' (first|exact True.intro|refine And.intro ?_ ?_|(intro _u; clear _u)|(with_reducible first|exact aU.fg|refine eM ?_ ?_|refine eF ?_ ?_ ?_|refine eN ?_|refine eL ?_ ?_ ?_|refine eA ?_ ?_|refine bp.mk ⟨_,hp,rfl⟩ ?_ ?_)|refine bp.mk ⟨_,hp,rfl⟩ ?_ ?_)
      all_goals try first|with_reducible rfl|omega|exact .inl (by decide)|(simp; done)|rfl
      all_goals first|(simp[hl]; done)|(rw[hS]; done)|(rw[hS]; rfl)|(rw[hS]; simp[bn]; done)|(rw[hS]; simp[bn]; rfl)
    ·have hkn:k=nv:=by omega
     rw[hkn,hv]at hl ⊢
     have hzv:(bn v.1).length=nv:=by simp[hl]
     have hvl:=hl
     refine sh ?_
     refine az.one 100 ?_
     refine sh ?_
     refine aw (by (simp; omega)) ?_
     have l0:((v.2).num 2).1<65536:=bP _ (by omega) (by omega)
     refine sh ?_
     refine cM false [1] (bV h.n214 (v.2) 2 (by omega) (by omega)) ?_
     repeat (intro _; first|refine eK ?_|refine eP ?_)
     have l1:(((v.2).num 2).2.num 2).1<65536:=bP _ (by omega) (by omega)
     refine sh ?_
     refine cM false [1] (bV h.n214 ((v.2).num 2).2 2 (by omega) (by omega)) ?_
     repeat (intro _; first|refine eK ?_|refine eP ?_)
     refine sh ?_
     refine mw 100 (fun k:Nat=>1<=k/\k<=nv) (fun k=>⟨[(2,.loc 0 1 0 0),(4,.loc 2 1 0 0),(6,.int .i64 nt),(7,.loc 3 1 0 0),(28,.int .i64 nv),(29,.int .i64 k)],[(0,.var (R.ty 25) [.ab,.ab,.ab]),(1,.var (R.ty 9) (Rd.row (gw f2 k v.2).2)),(2,.var (R.ty 30) [.loc 1 1 0 0]),(3,.var (R.ty 25) [.bi 5 nv,.bi 7 k,.ab]),(5,.arr (R.ty 26) 3 (bn v.1)),(7,.arr (R.ty 18) 2 (dA (gw f2 k v.2).1))],8⟩) (fun k=>nv - k) (1) ?_ ?_
     ·exact⟨Nat.le_refl _,by omega⟩
     ·intro k hk
      dsimp only
      obtain⟨Jm,hk2⟩:=hk
      have hl:=pm f2 k v.2
      have hS:gw f2 (k+1) v.2=((gw f2 k v.2).1++ [(f2 (gw f2 k v.2).2).1],(f2 (gw f2 k v.2).2).2):=rfl
      refine sh ?_
      refine cS (fun hlt=> ?_) (fun hlt=> ?_)
      ·generalize hs:gw f2 k v.2=s at hl hS ⊢
       have l0:((s.2).num 2).1<65536:=bP _ (by omega) (by omega)
       refine sh ?_
       refine cM false [1] (bV h.n214 (s.2) 2 (by omega) (by omega)) ?_
       repeat (intro _; first|refine eK ?_|refine eP ?_)
       have l1:(((s.2).num 2).2.num 2).1<65536:=bP _ (by omega) (by omega)
       refine sh ?_
       refine cM false [1] (bV h.n214 ((s.2).num 2).2 2 (by omega) (by omega)) ?_
       repeat (intro _; first|refine eK ?_|refine eP ?_)
       refine sh ?_
       refine nX (k+1) ?_ ?_ ⟨_,hp,rfl⟩ ?_ ?_
       ·omega
       ·omega
       ·all_goals repeat' (first|exact True.intro|refine And.intro ?_ ?_|(intro _u; clear _u)|(with_reducible first|exact aU.fg|refine eM ?_ ?_|refine eF ?_ ?_ ?_|refine eN ?_|refine eL ?_ ?_ ?_|refine eA ?_ ?_|refine bp.mk ⟨_,hp,rfl⟩ ?_ ?_)|refine bp.mk ⟨_,hp,rfl⟩ ?_ ?_)
        all_goals try first|with_reducible rfl|omega|exact .inl (by decide)|(simp; done)|rfl
       ·all_goals repeat' (first|exact True.intro|refine And.intro ?_ ?_|(intro _u; clear _u)|(with_reducible first|exact aU.fg|refine eM ?_ ?_|refine eF ?_ ?_ ?_|refine eN ?_|refine eL ?_ ?_ ?_|refine eA ?_ ?_|refine bp.mk ⟨_,hp,rfl⟩ ?_ ?_)|refine bp.mk ⟨_,hp,rfl⟩ ?_ ?_)
        all_goals try first|with_reducible rfl|omega|exact .inl (by decide)|(simp; done)|rfl
        all_goals first|(simp[hl]; done)|(rw[hS]; done)|(rw[hS]; rfl)|(rw[hS]; simp[dA]; done)|(rw[hS]; simp[dA]; rfl)
      ·have hkn:k=nv:=by omega
       rw[hkn,hu]at hl ⊢
       have hzu:(dA u.1).length=nv:=by simp[hl]
       have QE:=hl
       by_cases hn:nt=0
       ·subst hn
        obtain rfl:t=([],u.2):=ht.symm
        refine sh ?_
        refine az.one 100 ?_
        refine sh ?_
        refine aD (by simp) ?_
        refine sh ?_
        refine cM false [1] (lz h.n60 u.2) ?_
        repeat (intro _; first|refine eK ?_|refine eP ?_)
        refine sh ?_
        refine cS (fun h9=> ?_) (fun h9=> ?_)
        ·rw[tW,if_pos h9]
         refine sh ?_
         exact rT
        ·rw[tW,if_neg (fun hh=>hh h9)]
         refine sh ?_
         refine aj.let [5,7] rfl hp rfl ?_
         repeat ((intro _u; clear _u); first|refine eZ ?_|refine eZ ?_ (by simp; omega)|refine lD.drop ?_)
         refine sh ?_
         refine aj.pure h.n193.uX.hb (Hu h.n193 v.1 u.1 (by omega)) rfl ?_
         have hc:iM (⟨v.1,u.1,[]⟩:Ms)=if 64<v.1.length then 3 else 5:=PV
         have hne:iM (⟨v.1,u.1,[]⟩:Ms)≠0:=by rw[hc]; split<;>decide
         rw[if_pos hne,hc]
         refine sh ?_
         refine aw (by (split<;>decide)) ?_
         refine sh ?_
         exact rT
       ·refine sh ?_
        refine az.one 100 ?_
        refine sh ?_
        refine aw (by (simp; omega)) ?_
        have l0:((u.2).num 1).1<256:=bP _ (by omega) (by omega)
        refine sh ?_
        refine cM false [1] (bV h.n214 (u.2) 1 (by omega) (by omega)) ?_
        repeat (intro _; first|refine eK ?_|refine eP ?_)
        have l1:(((u.2).num 1).2.num 1).1<256:=bP _ (by omega) (by omega)
        refine sh ?_
        refine cM false [1] (bV h.n214 ((u.2).num 1).2 1 (by omega) (by omega)) ?_
        repeat (intro _; first|refine eK ?_|refine eP ?_)
        have l2:((((u.2).num 1).2.num 1).2.num 1).1<256:=bP _ (by omega) (by omega)
        refine sh ?_
        refine cM false [1] (bV h.n214 (((u.2).num 1).2.num 1).2 1 (by omega) (by omega)) ?_
        repeat (intro _; first|refine eK ?_|refine eP ?_)
        refine sh ?_
        refine mw 100 (fun k:Nat=>1<=k/\k<=nt) (fun k=>⟨[(2,.loc 0 1 0 0),(4,.loc 2 1 0 0),(7,.loc 3 1 0 0),(42,.int .i64 nt),(43,.int .i64 k)],[(0,.var (R.ty 25) [.ab,.ab,.ab]),(1,.var (R.ty 9) (Rd.row (gw ft k u.2).2)),(2,.var (R.ty 30) [.loc 1 1 0 0]),(3,.var (R.ty 25) [.bi 5 nv,.bi 7 nv,.bi 9 k]),(5,.arr (R.ty 26) 3 (bn v.1)),(7,.arr (R.ty 18) 2 (dA u.1)),(9,.arr (R.ty 13) 3 (bn (gw ft k u.2).1))],10⟩) (fun k=>nt - k) (1) ?_ ?_
        ·exact⟨Nat.le_refl _,by omega⟩
        ·intro k hk
         dsimp only
         obtain⟨Jm,hk2⟩:=hk
         have hl:=pm ft k u.2
         have hS:gw ft (k+1) u.2=((gw ft k u.2).1++ [(ft (gw ft k u.2).2).1],(ft (gw ft k u.2).2).2):=rfl
         refine sh ?_
         refine cS (fun hlt=> ?_) (fun hlt=> ?_)
         ·generalize hs:gw ft k u.2=s at hl hS ⊢
          have l0:((s.2).num 1).1<256:=bP _ (by omega) (by omega)
          refine sh ?_
          refine cM false [1] (bV h.n214 (s.2) 1 (by omega) (by omega)) ?_
          repeat (intro _; first|refine eK ?_|refine eP ?_)
          have l1:(((s.2).num 1).2.num 1).1<256:=bP _ (by omega) (by omega)
          refine sh ?_
          refine cM false [1] (bV h.n214 ((s.2).num 1).2 1 (by omega) (by omega)) ?_
          repeat (intro _; first|refine eK ?_|refine eP ?_)
          have l2:((((s.2).num 1).2.num 1).2.num 1).1<256:=bP _ (by omega) (by omega)
          refine sh ?_
          refine cM false [1] (bV h.n214 (((s.2).num 1).2.num 1).2 1 (by omega) (by omega)) ?_
          repeat (intro _; first|refine eK ?_|refine eP ?_)
          refine sh ?_
          refine nX (k+1) ?_ ?_ ⟨_,hp,rfl⟩ ?_ ?_
          ·omega
          ·omega
          ·all_goals repeat' (first|exact True.intro|refine And.intro ?_ ?_|(intro _u; clear _u)|(with_reducible first|exact aU.fg|refine eM ?_ ?_|refine eF ?_ ?_ ?_|refine eN ?_|refine eL ?_ ?_ ?_|refine eA ?_ ?_|refine bp.mk ⟨_,hp,rfl⟩ ?_ ?_)|refine bp.mk ⟨_,hp,rfl⟩ ?_ ?_)
           all_goals try first|with_reducible rfl|omega|exact .inl (by decide)|(simp; done)|rfl
          ·all_goals repeat' (first|exact True.intro|refine And.intro ?_ ?_|(intro _u; clear _u)|(with_reducible first|exact aU.fg|refine eM ?_ ?_|refine eF ?_ ?_ ?_|refine eN ?_|refine eL ?_ ?_ ?_|refine eA ?_ ?_|refine bp.mk ⟨_,hp,rfl⟩ ?_ ?_)|refine bp.mk ⟨_,hp,rfl⟩ ?_ ?_)
           all_goals try first|with_reducible rfl|omega|exact .inl (by decide)|(simp; done)|rfl
           all_goals first|(simp[hl]; done)|(rw[hS]; done)|(rw[hS]; rfl)|(rw[hS]; simp[bn]; done)|(rw[hS]; simp[bn]; rfl)
         ·have hkn:k=nt:=by omega
          rw[hkn,ht]at hl ⊢
          have hzt:(bn t.1).length=nt:=by simp[hl]
          refine sh ?_
          refine cM false [1] (lz h.n60 t.2) ?_
          repeat (intro _; first|refine eK ?_|refine eP ?_)
          refine sh ?_
          refine cS (fun h9=> ?_) (fun h9=> ?_)
          ·rw[tW,if_pos h9]
           refine sh ?_
           exact rT
          ·rw[tW,if_neg (fun hh=>hh h9)]
           refine sh ?_
           refine aj.let [5,7,9] rfl hp rfl ?_
           repeat ((intro _u; clear _u); first|refine eZ ?_|refine eZ ?_ (by simp; omega)|refine lD.drop ?_)
           refine sh ?_
           refine aj.pure h.n193.uX.hb (tK h.n193 ⟨v.1,u.1,t.1⟩) rfl ?_
           refine sh ?_
           refine cS (fun h10=> ?_) (fun h10=> ?_)
           ·rw[if_pos h10]
            refine sh ?_
            exact rT
           ·rw[if_neg (fun hh=>hh h10)]
            refine sh ?_
            exact rT
end Go.UM
namespace Go.UM
open Go.AM
set_option maxRecDepth 4000
def IC:List UInt8->List T3
 |a::b::c::r=>⟨a.toNat,b.toNat,c.toNat⟩::IC r
 |_=>[]
def Kr:r7:=⟨0,[]⟩
def qi(b:List UInt8):r7 × Int:=match b with
 |[]=>(Kr,4)
 |s::rest=>if rest.length<3* (s.toNat*s.toNat)then (Kr,4)else if 3* (s.toNat*s.toNat)<rest.length then (Kr,5)else
  if lG ⟨s.toNat,IC rest⟩≠0 then (Kr,lG ⟨s.toNat,IC rest⟩)else (⟨s.toNat,IC rest⟩,0)
theorem Hv(c:UInt8)(l:List UInt8):(⟨c::l,0,true⟩:Rd).num 1=(c.toNat,⟨l,0,true⟩):=by
 unfold Rd.num
 rw[if_neg (by decide)]
 unfold Rd.take
 rw[if_neg (by simp),if_neg (by decide),if_neg (by simp; omega)]
 simp[le]
theorem Ec:(⟨[],0,true⟩:Rd).num 1=(0,⟨[],4,true⟩):=rfl
theorem V4(a b c:UInt8)(l:List UInt8):(⟨a::b::c::l,0,true⟩:Rd).take 3=([a,b,c],⟨l,0,true⟩):=by
 unfold Rd.take
 rw[if_neg (by simp),if_neg (by decide),if_neg (by simp; omega)]
 rfl
theorem zy{l:List UInt8}(h:l.length<3):(⟨l,0,true⟩:Rd).take 3=([],⟨l,4,true⟩):=by
 unfold Rd.take
 rw[if_neg (by simp),if_neg (by decide),if_pos (by dsimp only; omega)]
theorem Hw{l:List UInt8}(h:¬l.length<3):∃a b c r,l=a::b::c::r:=by
 match l,h with
 |a::b::c::r,_=>exact⟨a,b,c,r,rfl⟩
 |[],h=>simp at h
 |[_],h=>simp at h
 |[_,_],h=>simp at h
theorem Ed{R:Env}(h:N97 R)(b:List UInt8)(hb:b.length<=1000):R.Pc 97 [.aH 1 (aq b)] (.aG [.agg (qi b).1.row,.int .i64 (qi b).2]):=
 h.o97.enter 200 rfl fun X bb hfit hp=>by
  refine sh ?_
  refine cM false [] (zh h.Bc b (by omega)) ?_
  repeat (intro _; first|refine eK ?_|refine eP ?_)
  cases b with
  |nil=>
   have c1:=ly h.n57 ⟨[],0,true⟩ 1
   rw[Ec]at c1
   refine sh ?_
   refine cM false [1] (c1) ?_
   repeat (intro _; first|refine eK ?_|refine eP ?_)
   refine sh ?_
   refine az.one 100 ?_
   refine sh ?_
   refine aD (by decide) ?_
   refine sh ?_
   refine cM false [1] (lz h.n60 ⟨[],4,true⟩) ?_
   repeat (intro _; first|refine eK ?_|refine eP ?_)
   refine sh ?_
   refine aw (by decide) ?_
   refine sh ?_
   exact rT
  |cons s rest=>
   have c1:=ly h.n57 ⟨s::rest,0,true⟩ 1
   rw[Hv]at c1
   refine sh ?_
   refine cM false [1] (c1) ?_
   repeat (intro _; first|refine eK ?_|refine eP ?_)
   have hs:=s.toNat_lt
   have hss:s.toNat*s.toNat<=255*255:=Nat.mul_le_mul (by omega) (by omega)
   have hsi:(s.toNat:Int)*s.toNat=((s.toNat*s.toNat:Nat):Int):=by rw[Int.natCast_mul]
   generalize hq:qi (s::rest)=q
   rw[qi]at hq
   have Bu:rest.length<=1000:=by simp at hb; omega
   refine sh ?_
   refine mw 200 (fun st:List T3 × List UInt8=>st.1.length<=s.toNat*s.toNat/\IC rest=st.1++IC st.2/\rest.length=3*st.1.length+st.2.length) (fun st=>⟨[(2,.loc 0 1 0 0),(4,.loc 1 1 0 0),(5,.loc 2 1 0 0),(19,.int .i64 (s.toNat*s.toNat:Nat)),(20,.int .i64 st.1.length)],[(3,.arr (R.ty 13) 3 (bn st.1)),(2,.var (R.ty 12) [.int .i64 s.toNat,.bi 3 st.1.length]),(1,.var (R.ty 9) (Rd.row ⟨st.2,0,true⟩)),(0,.var (R.ty 12) [.int .i64 0,.ab])],4⟩) (fun st=>s.toNat*s.toNat - st.1.length) (([],rest)) ?_ ?_
   ·exact⟨Nat.zero_le _,rfl,by simp⟩
   ·rintro⟨ts,l⟩ ⟨h1,h2,h3⟩
    dsimp only at h1 h2 h3 ⊢
    refine sh ?_
    refine cS (fun h4=> ?_) (fun h4=> ?_)
    ·by_cases SK:l.length<3
     ·have c2:=ou h.n59 ⟨l,0,true⟩ 3
      rw[zy SK]at c2
      refine sh ?_
      refine cM false [1] (c2) ?_
      repeat (intro _; first|refine eK ?_|refine eP ?_)
      refine sh ?_
      refine aw (by rfl) ?_
      refine sh ?_
      refine cM false [1] (lz h.n60 ⟨l,4,true⟩) ?_
      repeat (intro _; first|refine eK ?_|refine eP ?_)
      refine sh ?_
      refine aw (by rfl) ?_
      rw[if_pos (by omega)]at hq
      subst hq
      refine sh ?_
      exact rT
     ·obtain⟨a,b,c,r,rfl⟩:=Hw SK
      have c2:=ou h.n59 ⟨a::b::c::r,0,true⟩ 3
      rw[V4]at c2
      refine sh ?_
      refine cM false [1] (c2) ?_
      repeat (intro _; first|refine eK ?_|refine eP ?_)
      refine sh ?_
      refine aD (by rfl) ?_
      refine sh ?_
      refine bj (show ([a,b,c]:List UInt8)[0]? =some a from rfl) ?_
      refine sh ?_
      refine wI ?_ (by have:=a.toNat_lt; simp only[ed]; omega)
      refine sh ?_
      refine bj (show ([a,b,c]:List UInt8)[1]? =some b from rfl) ?_
      refine sh ?_
      refine wI ?_ (by have:=b.toNat_lt; simp only[ed]; omega)
      refine sh ?_
      refine bj (show ([a,b,c]:List UInt8)[2]? =some c from rfl) ?_
      refine sh ?_
      refine wI ?_ (by have:=c.toNat_lt; simp only[ed]; omega)
      simp only[List.length_cons]at h3
      refine sh ?_
      refine nX ((ts++ [⟨a.toNat,b.toNat,c.toNat⟩],r)) ?_ ?_ ⟨_,hp,rfl⟩ ?_ ?_
      ·refine⟨by simp; omega,by rw[h2]; simp[IC],by simp; omega⟩
      ·simp; omega
      ·all_goals repeat' (first|exact True.intro|refine And.intro ?_ ?_|(intro _u; clear _u)|(with_reducible first|exact aU.fg|refine eM ?_ ?_|refine eF ?_ ?_ ?_|refine eN ?_|refine eL ?_ ?_ ?_|refine eA ?_ ?_|refine bp.mk ⟨_,hp,rfl⟩ ?_ ?_)|refine bp.mk ⟨_,hp,rfl⟩ ?_ ?_)
       all_goals try first|with_reducible rfl|omega|exact .inl (by decide)|(simp; done)|rfl
      ·all_goals repeat' (first|exact True.intro|refine And.intro ?_ ?_|(intro _u; clear _u)|(with_reducible first|exact aU.fg|refine eM ?_ ?_|refine eF ?_ ?_ ?_|refine eN ?_|refine eL ?_ ?_ ?_|refine eA ?_ ?_|refine bp.mk ⟨_,hp,rfl⟩ ?_ ?_)|refine bp.mk ⟨_,hp,rfl⟩ ?_ ?_)
       all_goals try first|with_reducible rfl|omega|exact .inl (by decide)|(simp; done)|rfl
       simp[bn,t3]
    ·have h4:ts.length=s.toNat*s.toNat:=by omega
     cases l with
     |cons c r=>
      simp only[List.length_cons]at h3
      refine sh ?_
      refine cM false [1] (lz h.n60 ⟨c::r,0,true⟩) ?_
      repeat (intro _; first|refine eK ?_|refine eP ?_)
      rw[if_neg (by omega),if_pos (by omega)]at hq
      subst hq
      refine sh ?_
      refine aw (by rfl) ?_
      refine sh ?_
      exact rT
     |nil=>
      simp only[List.length_nil,IC,List.append_nil]at h2 h3
      refine sh ?_
      refine cM false [1] (lz h.n60 ⟨[],0,true⟩) ?_
      repeat (intro _; first|refine eK ?_|refine eP ?_)
      rw[if_neg (by omega),if_neg (by omega),h2]at hq
      refine sh ?_
      refine aD (by rfl) ?_
      refine sh ?_
      refine cM true [] ((Bs h.ES ⟨s.toNat,ts⟩ (by show ts.length<=_; omega)).mc h.ES.X5.hb) ?_
      repeat (intro _; first|refine eK ?_|refine eP ?_)
      refine sh ?_
      refine cS (fun h5=> ?_) (fun h5=> ?_)
      ·rw[if_pos (by simpa using h5)]at hq
       subst hq
       refine sh ?_
       exact rT
      ·rw[if_neg (by simpa using h5)]at hq
       subst hq
       refine sh ?_
       exact rT
theorem zA:∀{l:List T3},l.all T3.nB=true->IC (rF l)=l
 |[],_=>rfl
 |x::r,h=>by
  simp only[List.all_cons,Bool.and_eq_true]at h
  obtain⟨h1,h2⟩:=h
  have h1:=(T3.zm x).1 h1
  have:=zA h2
  simp only[rF,List.flatMap_cons,List.cons_append,List.nil_append]at this ⊢
  simp only[IC,this,u8_in h1.1,u8_in h1.2.1,u8_in h1.2.2]
theorem Bv{t:r7}(ok:wi t):qi (u8 t.side::rF t.t)=(t,0):=by
 have hs:=pq ok.s
 have e:((u8 t.side).toNat:Int)=t.side:=u8_in (by omega)
 have hl:=ok.l
 have hn:(u8 t.side).toNat* (u8 t.side).toNat=t.t.length:=by
  have:(((u8 t.side).toNat* (u8 t.side).toNat:Nat):Int)=t.t.length:=by rw[Int.natCast_mul,e,hl]
  omega
 unfold qi
 dsimp only
 rw[hn,if_neg (by rw[mF]; omega),if_neg (by rw[mF]; omega),zA ok.g,e,if_neg]
 simp[ok.ej]
end Go.UM
namespace Go.UM
open Go.AM
set_option maxRecDepth 4000
def fw(w:Int)(r:Rd):T3 × Rd:=(⟨(r.num w).1,((r.num w).2.num w).1,(((r.num w).2.num w).2.num w).1⟩,(((r.num w).2.num w).2.num w).2)
theorem fC.fw{B:List UInt8}{r:Rd}(h:fC B r)(w:Int):fC B (fw w r).2:=((h.num w).num w).num w
theorem kC{R:Env}(h:JX R)(r:Rd)(w:Int)(h1:1<=w)(h2:w<=7):R.Mc 318 [.agg [.loc 0 1 0 0],.int .i64 w] (mD R r) (.int .i64 (r.num w).1) (mD R (r.num w).2) 1:=
 h.aaD.aL 60 1 rfl rfl rfl fun X bb hfit hp=>by
  refine sh ?_
  refine cM false [0] (ly h.n57 r w) ?_
  repeat (intro _; first|refine eK ?_|refine eP ?_)
  have hlt:=bP r h1 (show w<=8 by omega)
  have hp:(256:Nat) ^ w.toNat<=256 ^ 7:=Nat.pow_le_pow_right (by decide) (by omega)
  have:((r.num w).1:Int)<9223372036854775808:=by omega
  refine sh ?_
  exact rM [0]
theorem wo{R:Env}(h:OC R)(r:Rd)(w:Int)(h1:1<=w)(h2:w<=7):R.Mc 319 [.agg [.loc 0 1 0 0],.int .i64 w] (mD R r) (.agg (t3 (fw w r).1)) (mD R (fw w r).2) 1:=
 h.aaE.aL 60 1 rfl rfl rfl fun X bb hfit hp=>by
  refine sh ?_
  refine cM false [0] (kC h.n318 r w h1 h2) ?_
  repeat (intro _; first|refine eK ?_|refine eP ?_)
  refine sh ?_
  refine cM false [0] (kC h.n318 (r.num w).2 w h1 h2) ?_
  repeat (intro _; first|refine eK ?_|refine eP ?_)
  refine sh ?_
  refine cM false [0] (kC h.n318 ((r.num w).2.num w).2 w h1 h2) ?_
  repeat (intro _; first|refine eK ?_|refine eP ?_)
  refine sh ?_
  exact rM [0]
theorem qj{R:Env}(h:OD R)(r:Rd):R.Mc 320 [.agg [.loc 0 1 0 0]] (mD R r) (.agg (t3 (f3 r).1)) (mD R (f3 r).2) 1:=
 h.aaF.aL 60 1 rfl rfl rfl fun X bb hfit hp=>by
  refine sh ?_
  refine cM false [0] (wg h.IA r 2) ?_
  repeat (intro _; first|refine eK ?_|refine eP ?_)
  refine sh ?_
  refine cM false [0] (wg h.IA (r.int 2).2 2) ?_
  repeat (intro _; first|refine eK ?_|refine eP ?_)
  refine sh ?_
  refine cM false [0] (wg h.IA ((r.int 2).2.int 2).2 2) ?_
  repeat (intro _; first|refine eK ?_|refine eP ?_)
  refine sh ?_
  exact rM [0]
def Ee(r:Rd):tQ × Rd:=(⟨(r.num 1).1,(fw 2 (r.num 1).2).1,((fw 2 (r.num 1).2).2.num 2).1⟩,((fw 2 (r.num 1).2).2.num 2).2)
def Ef(r:Rd):rE × Rd:=(⟨(r.num 1).1,(fw 4 (r.num 1).2).1,(f3 (fw 4 (r.num 1).2).2).1,(f3 (f3 (fw 4 (r.num 1).2).2).2).1,(f3 (f3 (f3 (fw 4 (r.num 1).2).2).2).2).1⟩,(f3 (f3 (f3 (fw 4 (r.num 1).2).2).2).2).2)
def apart(k:Int)(b:List UInt8):As × Int:=
 if k=1 then ({As.zero k with m:=(lA b).1},(lA b).2)
 else if k=2 then ({As.zero k with x:=(qi b).1},(qi b).2)
 else if k=3 then ({As.zero k with mt:=(Ee ⟨b,0,true⟩).1},(Ee ⟨b,0,true⟩).2.fin)
 else if k=4 then ({As.zero k with li:=(Ef ⟨b,0,true⟩).1},(Ef ⟨b,0,true⟩).2.fin)
 else (As.zero k,0)
def tX(k:Int)(b:List UInt8):As × Int:=
 if (apart k b).2≠0 then (As.zero 0,(apart k b).2)else if iD (apart k b).1≠0 then (As.zero 0,iD (apart k b).1)else ((apart k b).1,0)
theorem Eg{b:List UInt8}(h:(lA b).2=0):(lA b).1.IB:=by
 unfold lA at h ⊢
 generalize mq ((⟨b,0,true⟩:Rd).num 1).1 (((⟨b,0,true⟩:Rd).num 1).2.num 1).1 (((⟨b,0,true⟩:Rd).num 1).2.num 1).2=q at h ⊢
 unfold tW at h ⊢
 split at h
 ·rename_i h1; exact absurd h h1
 ·rename_i h1
  split at h
  ·rename_i h2; exact absurd h h2
  ·rename_i h2
   rw[if_neg h1,if_neg h2]
   exact tO (by simpa using h2)
theorem Ks{b:List UInt8}(h:(qi b).2=0):lG (qi b).1=0:=by
 unfold qi at h ⊢
 split at h
 ·cases h
 ·split at h
  ·cases h
  ·split at h
   ·cases h
   ·split at h
    ·rename_i h1; exact absurd h h1
    ·rename_i h1 h2 h3
     rw[if_neg h1,if_neg h2,if_neg h3]
     simpa using h3
theorem zB{x:r7}(h:lG x=0):x.t.length<=256:=by
 have ok:=xp h
 have hs:=pq ok.s
 have:=ok.l
 rcases hs with h|h|h|h|h<;>rw[h]at this<;>omega
theorem nf{k:Int}{b:List UInt8}(h:(apart k b).2=0):(apart k b).1.Bt:=by
 unfold apart at h ⊢
 split
 ·rename_i h1
  rw[if_pos h1]at h
  have may:=Eg h
  have h1:=may.v
  have h2:=may.t
  have h3:=may.uv
  exact⟨by dsimp only; omega,by dsimp only; omega,by dsimp only; omega,by simp[As.zero,VZ]⟩
 ·rename_i h1
  rw[if_neg h1]at h
  split
  ·rename_i h2
   rw[if_pos h2]at h
   have:=zB (Ks h)
   exact⟨by simp[As.zero,qh],by simp[As.zero,qh],by simp[As.zero,qh],by dsimp only; omega⟩
  ·split
   ·exact⟨(xu k).v,(xu k).uv,(xu k).t,(xu k).x⟩
   ·split<;>exact⟨(xu k).v,(xu k).uv,(xu k).t,(xu k).x⟩
theorem Eh{R:Env}(h:OE R)(k:Int)(b:List UInt8)(hb:b.length<=1073741824)(ht:k=2->b.length<=1000):R.Pc 304 [.int .i64 k,.aH 1 (aq b)] (.aG [.agg (tX k b).1.row,.int .i64 (tX k b).2]):=
 h.UG.enter 200 rfl fun X bb hfit hp=>by
  refine sh ?_
  refine cM false [] (zh h.Bc b hb) ?_
  repeat (intro _; first|refine eK ?_|refine eP ?_)
  generalize hq:tX k b=q
  refine sh ?_
  refine cS (fun h1=> ?_) (fun h1=> ?_)
  ·have hap:apart k b=({As.zero k with m:=(lA b).1},(lA b).2):=by rw[apart,if_pos h1]
   rw[tX,hap]at hq
   refine sh ?_
   refine aj.pure h.n202.Ue.hb (zx h.n202 b hb) rfl ?_
   refine sh ?_
   refine cS (fun e1=> ?_) (fun e1=> ?_)
   ·rw[if_pos e1]at hq
    subst hq
    refine sh ?_
    exact rT
   ·rw[if_neg (by simpa using e1)]at hq
    have f:=nf (k:=k) (b:=b) (by rw[hap]; exact e1)
    rw[hap]at f
    refine sh ?_
    refine cM false [] ((kA h.n294 _ f).mc h.n294.yX.hb) ?_
    repeat (intro _; first|refine eK ?_|refine eP ?_)
    refine sh ?_
    refine cS (fun e2=> ?_) (fun e2=> ?_)
    ·rw[if_pos e2]at hq
     subst hq
     refine sh ?_
     exact rT
    ·rw[if_neg (by simpa using e2)]at hq
     subst hq
     refine sh ?_
     exact rT
  ·refine sh ?_
   refine cS (fun h2=> ?_) (fun h2=> ?_)
   ·have hap:apart k b=({As.zero k with x:=(qi b).1},(qi b).2):=by rw[apart,if_neg h1,if_pos h2]
    rw[tX,hap]at hq
    refine sh ?_
    refine aj.pure h.X7.o97.hb (Ed h.X7 b (ht h2)) rfl ?_
    refine sh ?_
    refine cS (fun e1=> ?_) (fun e1=> ?_)
    ·rw[if_pos e1]at hq
     subst hq
     refine sh ?_
     exact rT
    ·rw[if_neg (by simpa using e1)]at hq
     have f:=nf (k:=k) (b:=b) (by rw[hap]; exact e1)
     rw[hap]at f
     refine sh ?_
     refine cM false [] ((kA h.n294 _ f).mc h.n294.yX.hb) ?_
     repeat (intro _; first|refine eK ?_|refine eP ?_)
     refine sh ?_
     refine cS (fun e2=> ?_) (fun e2=> ?_)
     ·rw[if_pos e2]at hq
      subst hq
      refine sh ?_
      exact rT
     ·rw[if_neg (by simpa using e2)]at hq
      subst hq
      refine sh ?_
      exact rT
   ·refine sh ?_
    refine cS (fun h3=> ?_) (fun h3=> ?_)
    ·have hap:apart k b=({As.zero k with mt:=(Ee ⟨b,0,true⟩).1},(Ee ⟨b,0,true⟩).2.fin):=by rw[apart,if_neg h1,if_neg h2,if_pos h3]
     rw[tX,hap]at hq
     refine sh ?_
     refine cM false [2] (kC h.n318 ⟨b,0,true⟩ 1 (by omega) (by omega)) ?_
     repeat (intro _; first|refine eK ?_|refine eP ?_)
     refine sh ?_
     refine cM false [2] (wo h.n319 ((⟨b,0,true⟩:Rd).num 1).2 2 (by omega) (by omega)) ?_
     repeat (intro _; first|refine eK ?_|refine eP ?_)
     refine sh ?_
     refine cM false [2] (kC h.n318 (fw 2 ((⟨b,0,true⟩:Rd).num 1).2).2 2 (by omega) (by omega)) ?_
     repeat (intro _; first|refine eK ?_|refine eP ?_)
     refine sh ?_
     refine cM false [2] (lz h.n60 (Ee ⟨b,0,true⟩).2) ?_
     repeat (intro _; first|refine eK ?_|refine eP ?_)
     refine sh ?_
     refine cS (fun e1=> ?_) (fun e1=> ?_)
     ·rw[if_pos e1]at hq
      subst hq
      refine sh ?_
      exact rT
     ·rw[if_neg (by simpa using e1)]at hq
      have f:=nf (k:=k) (b:=b) (by rw[hap]; exact e1)
      rw[hap]at f
      refine sh ?_
      refine cM false [] ((kA h.n294 _ f).mc h.n294.yX.hb) ?_
      repeat (intro _; first|refine eK ?_|refine eP ?_)
      refine sh ?_
      refine cS (fun e2=> ?_) (fun e2=> ?_)
      ·rw[if_pos e2]at hq
       subst hq
       refine sh ?_
       exact rT
      ·rw[if_neg (by simpa using e2)]at hq
       subst hq
       refine sh ?_
       exact rT
    ·refine sh ?_
     refine cS (fun h4=> ?_) (fun h4=> ?_)
     ·have hap:apart k b=({As.zero k with li:=(Ef ⟨b,0,true⟩).1},(Ef ⟨b,0,true⟩).2.fin):=by rw[apart,if_neg h1,if_neg h2,if_neg h3,if_pos h4]
      rw[tX,hap]at hq
      refine sh ?_
      refine cM false [2] (kC h.n318 ⟨b,0,true⟩ 1 (by omega) (by omega)) ?_
      repeat (intro _; first|refine eK ?_|refine eP ?_)
      refine sh ?_
      refine cM false [2] (wo h.n319 ((⟨b,0,true⟩:Rd).num 1).2 4 (by omega) (by omega)) ?_
      repeat (intro _; first|refine eK ?_|refine eP ?_)
      refine sh ?_
      refine cM false [2] (qj h.n320 (fw 4 ((⟨b,0,true⟩:Rd).num 1).2).2) ?_
      repeat (intro _; first|refine eK ?_|refine eP ?_)
      refine sh ?_
      refine cM false [2] (qj h.n320 (f3 (fw 4 ((⟨b,0,true⟩:Rd).num 1).2).2).2) ?_
      repeat (intro _; first|refine eK ?_|refine eP ?_)
      refine sh ?_
      refine cM false [2] (qj h.n320 (f3 (f3 (fw 4 ((⟨b,0,true⟩:Rd).num 1).2).2).2).2) ?_
      repeat (intro _; first|refine eK ?_|refine eP ?_)
      refine sh ?_
      refine cM false [2] (lz h.n60 (Ef ⟨b,0,true⟩).2) ?_
      repeat (intro _; first|refine eK ?_|refine eP ?_)
      refine sh ?_
      refine cS (fun e1=> ?_) (fun e1=> ?_)
      ·rw[if_pos e1]at hq
       subst hq
       refine sh ?_
       exact rT
      ·rw[if_neg (by simpa using e1)]at hq
       have f:=nf (k:=k) (b:=b) (by rw[hap]; exact e1)
       rw[hap]at f
       refine sh ?_
       refine cM false [] ((kA h.n294 _ f).mc h.n294.yX.hb) ?_
       repeat (intro _; first|refine eK ?_|refine eP ?_)
       refine sh ?_
       refine cS (fun e2=> ?_) (fun e2=> ?_)
       ·rw[if_pos e2]at hq
        subst hq
        refine sh ?_
        exact rT
       ·rw[if_neg (by simpa using e2)]at hq
        subst hq
        refine sh ?_
        exact rT
     ·have hap:apart k b=(As.zero k,0):=by rw[apart,if_neg h1,if_neg h2,if_neg h3,if_neg h4]
      rw[tX,hap]at hq
      have QU:iD (As.zero k)=12:=by rw[iD,own]; simp[As.zero,h1,h2,h3,h4]
      have c:=kA h.n294 (As.zero k) (xu k)
      rw[if_neg (by simp),if_pos (by simp[QU])]at hq
      dsimp only at hq
      rw[QU]at hq c
      subst hq
      refine sh ?_
      refine aD (by decide) ?_
      refine sh ?_
      refine cM false [] (c.mc h.n294.yX.hb) ?_
      repeat (intro _; first|refine eK ?_|refine eP ?_)
      refine sh ?_
      refine aw (by decide) ?_
      refine sh ?_
      exact rT
end Go.UM
namespace Go.UM
open Go.AM
set_option maxRecDepth 4000
theorem r9:Fits f3 iB (fun p=>(-32768<=p.a/\p.a<32768)/\(-32768<=p.b/\p.b<32768)/\(-32768<=p.c/\p.c<32768)):=by
 have i2:=Hj (w:=2) (by omega) (by omega)
 have e:f3=fun r=>((fun x:(Int × Int) × Int=>(⟨x.1.1,x.1.2,x.2⟩:T3)) ((((((r.int 2).1,((r.int 2).2.int 2).1),(((r.int 2).2.int 2).2.int 2).1),(((r.int 2).2.int 2).2.int 2).2):((Int × Int) × Int) × Rd)).1,(((r.int 2).2.int 2).2.int 2).2):=rfl
 rw[e]
 refine ((i2.seq i2).seq i2).as (fun x:(Int × Int) × Int=>(⟨x.1.1,x.1.2,x.2⟩:T3)) (fun p:T3=>((p.a,p.b),p.c)) _ _ (fun x hx=> ?_) (fun x hx=> ?_) (fun y hy=> ?_)
 ·simp[iB]
 ·have e2:((256:Int) ^ (2:Int).toNat / 2)=32768:=by decide
  simp only[e2]at hx ⊢
  omega
 ·have e2:((256:Int) ^ (2:Int).toNat / 2)=32768:=by decide
  simp only[e2]
  exact⟨by simp[iB],by omega,by first|rfl|trivial⟩
theorem Kt:Fits f2 nE (fun x=>(0<=x.1/\x.1<65536)/\(0<=x.2/\x.2<65536)):=by
 have i2:=jo (w:=2) (by omega) (by omega)
 have e:f2=fun r=>((fun x:Nat × Nat=>((x.1:Int),(x.2:Int))) (((((r.num 2).1,((r.num 2).2.num 2).1),((r.num 2).2.num 2).2):(Nat × Nat) × Rd)).1,((r.num 2).2.num 2).2):=rfl
 rw[e]
 refine (i2.seq i2).as (fun x:Nat × Nat=>((x.1:Int),(x.2:Int))) (fun p:Int × Int=>(p.1.toNat,p.2.toNat)) _ _ (fun x hx=> ?_) (fun x hx=> ?_) (fun y hy=> ?_)
 ·simp[nE]
 ·have e2:(256 ^ (2:Int).toNat:Nat)=65536:=by decide
  simp only[e2]at hx ⊢
  omega
 ·have e2:(256 ^ (2:Int).toNat:Nat)=65536:=by decide
  simp only[e2]
  have h1:((y.1.toNat:Nat):Int)=y.1:=by omega
  have h2:((y.2.toNat:Nat):Int)=y.2:=by omega
  exact⟨by simp[nE,h1,h2],by omega,by rw[h1,h2]⟩
theorem Hx(x:Int):enc 1 x=[u8 x]:=by simp[enc,List.range_succ]
theorem Ku:Fits ft po (fun p=>(0<=p.a/\p.a<256)/\(0<=p.b/\p.b<256)/\(0<=p.c/\p.c<256)):=by
 have i2:=jo (w:=1) (by omega) (by omega)
 have e:ft=fun r=>((fun x:(Nat × Nat) × Nat=>(⟨x.1.1,x.1.2,x.2⟩:T3)) ((((((r.num 1).1,((r.num 1).2.num 1).1),(((r.num 1).2.num 1).2.num 1).1),(((r.num 1).2.num 1).2.num 1).2):((Nat × Nat) × Nat) × Rd)).1,(((r.num 1).2.num 1).2.num 1).2):=rfl
 rw[e]
 have e1:∀x:Int,enc (1:Int).toNat x=[u8 x]:=Hx
 refine ((i2.seq i2).seq i2).as (fun x:(Nat × Nat) × Nat=>(⟨x.1.1,x.1.2,x.2⟩:T3)) (fun p:T3=>((p.a.toNat,p.b.toNat),p.c.toNat)) _ _ (fun x hx=> ?_) (fun x hx=> ?_) (fun y hy=> ?_)
 ·simp only[e1]; simp[po]
 ·have e2:(256 ^ (1:Int).toNat:Nat)=256:=by decide
  simp only[e2]at hx ⊢
  omega
 ·have e2:(256 ^ (1:Int).toNat:Nat)=256:=by decide
  simp only[e2]
  have h1:((y.a.toNat:Nat):Int)=y.a:=by omega
  have h2:((y.b.toNat:Nat):Int)=y.b:=by omega
  have h3:((y.c.toNat:Nat):Int)=y.c:=by omega
  refine⟨by simp only[e1,h1,h2,h3]; simp[po],by omega,?_⟩
  rw[h1,h2,h3]
theorem zC{m:Ms}(h:iM m=0):lA (tP m)=(m,0):=by
 have may:=tO h
 have mv:=may.v
 have mt:=may.t
 have w8:(u8 m.v.length).toNat=m.v.length:=by have:=u8_in (n:=m.v.length) (by omega); omega
 have t8:(u8 m.t.length).toNat=m.t.length:=by have:=u8_in (n:=m.t.length) (by omega); omega
 have e:tP m=u8 m.v.length::u8 m.t.length::(m.v.flatMap iB++(m.uv.flatMap nE++(m.t.flatMap po++ []))):=by simp[tP]
 rw[e]
 unfold lA
 rw[VW]
 dsimp only
 rw[VW]
 dsimp only
 rw[w8,t8]
 have h1:=(tN r9 m.v.length).there m.v (m.uv.flatMap nE++(m.t.flatMap po++ [])) ⟨rfl,fun p hp=>by have:=may.pv p hp; omega⟩
 have h2:=(tN Kt m.v.length).there m.uv (m.t.flatMap po++ []) ⟨may.uv,fun p hp=>by have:=may.pu p hp; omega⟩
 have h3:=(tN Ku m.t.length).there m.t [] ⟨rfl,fun p hp=>by have:=may.pt p hp; omega⟩
 try dsimp only at h1 h2 h3
 unfold mq
 rw[h1]
 dsimp only
 rw[h2]
 dsimp only
 rw[h3]
 unfold tW
 rw[if_neg (by simp[Rd.fin,Rd.err]),if_neg (by simpa using h)]
end Go.UM
namespace Go.UM
open Go.AM
set_option maxRecDepth 4000
def Bw(w:Nat)(p:T3):List UInt8:=enc w p.a++enc w p.b++enc w p.c
theorem Cl{w:Int}(h1:1<=w)(h2:w<=8):Fits (fw w) (Bw w.toNat) (fun p=>(0<=p.a/\p.a<256 ^ w.toNat)/\(0<=p.b/\p.b<256 ^ w.toNat)/\(0<=p.c/\p.c<256 ^ w.toNat)):=by
 have n:=jo h1 h2
 have e:fw w=fun r=>((fun x:(Nat × Nat) × Nat=>(⟨x.1.1,x.1.2,x.2⟩:T3)) ((((((r.num w).1,((r.num w).2.num w).1),(((r.num w).2.num w).2.num w).1),(((r.num w).2.num w).2.num w).2):((Nat × Nat) × Nat) × Rd)).1,(((r.num w).2.num w).2.num w).2):=rfl
 have e2:((256 ^ w.toNat:Nat):Int)=256 ^ w.toNat:=by rw[Int.natCast_pow]; rfl
 rw[e]
 refine ((n.seq n).seq n).as (fun x:(Nat × Nat) × Nat=>(⟨x.1.1,x.1.2,x.2⟩:T3)) (fun p:T3=>((p.a.toNat,p.b.toNat),p.c.toNat)) _ _ (fun x hx=> ?_) (fun x hx=> ?_) (fun y hy=> ?_)
 ·simp[Bw]
 ·rw[<-e2]
  generalize 256 ^ w.toNat=P at hx
  dsimp only at hx ⊢
  omega
 ·rw[<-e2]at hy
  generalize 256 ^ w.toNat=P at hy
  have h1:((y.a.toNat:Nat):Int)=y.a:=by omega
  have h2:((y.b.toNat:Nat):Int)=y.b:=by omega
  have h3:((y.c.toNat:Nat):Int)=y.c:=by omega
  refine⟨by simp only[h1,h2,h3]; simp[Bw],by dsimp only; omega,?_⟩
  rw[h1,h2,h3]
theorem Ei:Fits Ee Kn (fun m=>(0<=m.k/\m.k<256)/\((0<=m.c.a/\m.c.a<65536)/\(0<=m.c.b/\m.c.b<65536)/\(0<=m.c.c/\m.c.c<65536))/\(0<=m.r/\m.r<65536)):=by
 have n1:=jo (w:=1) (by omega) (by omega)
 have n2:=jo (w:=2) (by omega) (by omega)
 have f2:=Cl (w:=2) (by omega) (by omega)
 have e1:∀x:Int,enc (1:Int).toNat x=[u8 x]:=Hx
 have g1:(256 ^ (1:Int).toNat:Nat)=256:=by decide
 have g2:(256 ^ (2:Int).toNat:Nat)=65536:=by decide
 have g3:(256 ^ (2:Int).toNat:Int)=65536:=by decide
 refine ((n1.seq f2).seq n2).as (fun x:(Nat × T3) × Nat=>(⟨x.1.1,x.1.2,x.2⟩:tQ)) (fun m:tQ=>((m.k.toNat,m.c),m.r.toNat)) _ _ (fun x hx=> ?_) (fun x hx=> ?_) (fun y hy=> ?_)
 ·simp only[e1]; simp[Kn,Bw]
 ·simp only[g1,g2,g3]at hx ⊢
  omega
 ·simp only[g1,g2,g3]at hy ⊢
  have h1:((y.k.toNat:Nat):Int)=y.k:=by omega
  have h2:((y.r.toNat:Nat):Int)=y.r:=by omega
  refine⟨by simp only[e1,h1,h2]; simp[Kn,Bw],by omega,?_⟩
  rw[h1,h2]
theorem Ej:Fits Ef Ko (fun l=>(0<=l.k/\l.k<256)/\((0<=l.c.a/\l.c.a<4294967296)/\(0<=l.c.b/\l.c.b<4294967296)/\(0<=l.c.c/\l.c.c<4294967296))
  /\((-32768<=l.p.a/\l.p.a<32768)/\(-32768<=l.p.b/\l.p.b<32768)/\(-32768<=l.p.c/\l.p.c<32768))/\((-32768<=l.u.a/\l.u.a<32768)/\(-32768<=l.u.b/\l.u.b<32768)/\(-32768<=l.u.c/\l.u.c<32768))
  /\((-32768<=l.v.a/\l.v.a<32768)/\(-32768<=l.v.b/\l.v.b<32768)/\(-32768<=l.v.c/\l.v.c<32768))):=by
 have n1:=jo (w:=1) (by omega) (by omega)
 have f4:=Cl (w:=4) (by omega) (by omega)
 have e1:∀x:Int,enc (1:Int).toNat x=[u8 x]:=Hx
 have g1:(256 ^ (1:Int).toNat:Nat)=256:=by decide
 have g3:(256 ^ (4:Int).toNat:Int)=4294967296:=by decide
 refine ((((n1.seq f4).seq r9).seq r9).seq r9).as (fun x:(((Nat × T3) × T3) × T3) × T3=>(⟨x.1.1.1.1,x.1.1.1.2,x.1.1.2,x.1.2,x.2⟩:rE)) (fun l:rE=>((((l.k.toNat,l.c),l.p),l.u),l.v)) _ _ (fun x hx=> ?_) (fun x hx=> ?_) (fun y hy=> ?_)
 ·simp only[e1]; simp[Ko,Bw]
 ·simp only[g1,g3]at hx ⊢
  omega
 ·simp only[g1,g3]at hy ⊢
  have h1:((y.k.toNat:Nat):Int)=y.k:=by omega
  refine⟨by simp only[e1,h1]; simp[Ko,Bw],by omega,?_⟩
  rw[h1]
theorem Hy{a b:As}(h:tU a b=true):a=b:=by
 simp only[tU,decide_eq_true_eq]at h
 obtain⟨ak,⟨_,_,_⟩,⟨_,_⟩,am,al⟩:=a
 obtain⟨bk,⟨_,_,_⟩,⟨_,_⟩,bm,bl⟩:=b
 dsimp only at h
 obtain⟨rfl,rfl,rfl,rfl,rfl,rfl,rfl,rfl⟩:=h
 rfl
theorem ng{a:As}(h:iD a=0):own a=0/\a.bare=As.zero a.k/\(cN a).length<=cap a.k:=by
 unfold iD at h
 split at h
 ·rename_i h1; exact absurd h h1
 ·rename_i h1
  split at h
  ·cases h
  ·rename_i h2
   split at h
   ·cases h
   ·rename_i h3
    exact⟨by simpa using h1,Hy (by simpa using h2),by omega⟩
theorem zD{a:As}(h:iD a=0):apart a.k (cN a)=(a,0):=by
 obtain⟨ow,hb,_⟩:=ng h
 unfold own at ow
 unfold cN apart
 unfold As.bare at hb
 by_cases h1:a.k=1
 ·rw[if_pos h1]at ow hb
  rw[if_pos h1,if_pos h1,Bq,if_neg (by simpa using ow),zC ow,<-hb]
 ·rw[if_neg h1]at ow hb
  rw[if_neg h1,if_neg h1]
  by_cases h2:a.k=2
  ·rw[if_pos h2]at ow hb
   rw[if_pos h2,if_pos h2,qW,if_neg (by simpa using ow),Bv (xp ow),<-hb]
  ·rw[if_neg h2]at ow hb
   rw[if_neg h2,if_neg h2]
   by_cases h3:a.k=3
   ·rw[if_pos h3]at ow hb
    rw[if_pos h3,if_pos h3]
    have may:=zp ow
    have t:=Ei.there a.mt [] (by omega)
    rw[List.append_nil]at t
    rw[t,<-hb]
    rfl
   ·rw[if_neg h3]at ow hb
    rw[if_neg h3,if_neg h3]
    by_cases h4:a.k=4
    ·rw[if_pos h4]at ow hb
     rw[if_pos h4]
     have may:=zo ow
     have m1:=may.k
     have m2:=may.c
     have m3:=may.p
     have m4:=may.u
     have m5:=may.v
     have t:=Ej.there a.li [] (by omega)
     rw[List.append_nil]at t
     rw[t,<-hb]
     rfl
    ·rw[if_neg h4]at ow; cases ow
theorem Bx{a:As}(h:iD a=0):tX a.k (cN a)=(a,0):=by
 rw[tX,zD h,if_neg (by simp),if_neg (by simpa using h)]
theorem Ek{a:As}(h:iD a=0)(h2:a.k=2):(cN a).length<=1000:=by
 obtain⟨ow,_,_⟩:=ng h
 unfold own at ow
 rw[if_neg (by omega),if_pos h2]at ow
 have:=zB ow
 rw[cN,if_neg (by omega),if_pos h2,qW,if_neg (by simpa using ow)]
 simp only[List.length_cons,mF]
 omega
theorem Hz(k:Int):cap k<=2048:=by unfold cap; split<;>(try split)<;>(try split)<;>omega
end Go.UM
namespace Go.UM
open Go.AM
set_option maxRecDepth 4000
theorem El{R:Env}(h:JC R)(l:List T3)(hl:l.length<=1073741824):R.Mc 361 [.aH 3 (bn l)] [] (.bi 0 l.length) [(0,.arr (R.ty 26) 3 (bn l))] 1:=
 h.Ti.aL 60 0 rfl rfl rfl fun X b hfit hp=>by
  refine sh ?_
  refine CZ.mk (fun hn=> ?_) ?_
  ·have:l=[]:=by simpa[bn]using hn
   subst this
   refine sh ?_
   exact rM [50]
  ·refine sh ?_
   exact rM [0]
theorem Em{R:Env}(h:JD R)(l:List (Int × Int))(hl:l.length<=1073741824):R.Mc 362 [.aH 2 (dA l)] [] (.bi 0 l.length) [(0,.arr (R.ty 18) 2 (dA l))] 1:=
 h.Tk.aL 60 0 rfl rfl rfl fun X b hfit hp=>by
  refine sh ?_
  refine CZ.mk (fun hn=> ?_) ?_
  ·have:l=[]:=by simpa[dA]using hn
   subst this
   refine sh ?_
   exact rM [50]
  ·refine sh ?_
   exact rM [0]
theorem En{R:Env}(h:JB R)(l:List T3)(hl:l.length<=1073741824):R.Mc 101 [.aH 3 (bn l)] [] (.bi 0 l.length) [(0,.arr (R.ty 13) 3 (bn l))] 1:=
 h.Nt.aL 60 0 rfl rfl rfl fun X b hfit hp=>by
  refine sh ?_
  refine CZ.mk (fun hn=> ?_) ?_
  ·have:l=[]:=by simpa[bn]using hn
   subst this
   refine sh ?_
   exact rM [50]
  ·refine sh ?_
   exact rM [0]
theorem By{R:Env}(h:JC R)(l:List T3)(hl:l.length<=1073741824):R.Pc 361 [.aH 3 (bn l)] (.aH 3 (bn l)):=(El h l hl).pc fZ
theorem Bz{R:Env}(h:JD R)(l:List (Int × Int))(hl:l.length<=1073741824):R.Pc 362 [.aH 2 (dA l)] (.aH 2 (dA l)):=(Em h l hl).pc fZ
theorem tY{R:Env}(h:JB R)(l:List T3)(hl:l.length<=1073741824):R.Pc 101 [.aH 3 (bn l)] (.aH 3 (bn l)):=(En h l hl).pc fZ
theorem Eo{R:Env}(h:J7 R)(a:As)(f:a.Bt):R.Pc 356 [.agg a.row] (.agg a.row):=
 h.Vc.enter 100 rfl fun X bb hfit hp=>by
  obtain⟨f1,f2,f3,f4⟩:=f
  refine sh ?_
  refine aj.pure h.J8.Ti.hb (By h.J8 a.m.v (by omega)) rfl ?_
  refine sh ?_
  refine aj.pure h.J9.Tk.hb (Bz h.J9 a.m.uv (by omega)) rfl ?_
  refine sh ?_
  refine aj.pure h.n101.Nt.hb (tY h.n101 a.m.t (by omega)) rfl ?_
  refine sh ?_
  refine aj.pure h.n101.Nt.hb (tY h.n101 a.x.t (by omega)) rfl ?_
  refine sh ?_
  exact rT
theorem HA{m:Ms}(h:iM m=0):m.v.length<=64/\m.t.length<=64/\m.uv.length=m.v.length/\m.v.any pg=false:=by
 unfold iM at h
 split at h
 ·cases h
 ·split at h
  ·cases h
  ·split at h
   ·cases h
   ·rename_i h1 h2 h3
    exact⟨by omega,by omega,by omega,by simpa using h3⟩
theorem HB{a:As}(h:iD a=0)(hx:a.x.t.length<=1000):a.Bt:=by
 obtain⟨ow,hb,_⟩:=ng h
 by_cases k:a.k=1
 ·rw[own,if_pos k]at ow
  obtain⟨h1,h2,h3,_⟩:=HA ow
  exact⟨by omega,by omega,by omega,hx⟩
 ·have e:a.m=qh:=by
   have e1:a.bare.m=(As.zero a.k).m:=by rw[hb]
   have e2:a.bare.m=a.m:=by unfold As.bare; rw[if_neg k]; repeat' split
                            all_goals rfl
   rw[<-e2,e1]; rfl
  exact⟨by rw[e]; simp[qh],by rw[e]; simp[qh],by rw[e]; simp[qh],hx⟩
def mG(t:Tb)(hd:Int)(f:Mf)(a:As):Tb × Int:=
 if hd<1\/ 65536<hd then (t,2)else if (zv t.rows hd).isSome=true then (t,10)else if iD a≠0 then (t,iD a)else if f.kind≠a.k then (t,12)else (⟨t.rows++ [⟨hd,f,a⟩],t.ins⟩,0)
set_option maxHeartbeats 4000000 in
theorem PW{R:Env}(h:O0 R)(d1 d2:Bool)(t:Tb)(hd:Int)(f:Mf)(a:As)(fx:a.x.t.length<=1000)(fb:a.bare.Bt)(hn:t.rows.length<=1000000):
  R.Mc 346 [.loc 2 1 0 0,.int .i64 hd,.agg f.row,.agg a.row] (kB R d1 d2 t) (.int .i64 (mG t hd f a).2) (kB R d1 d2 (mG t hd f a).1) 3:=
 h.aaQ.aL 100 3 rfl rfl rfl fun X bb hfit hp=>by
  generalize hq:mG t hd f a=q
  unfold mG at hq
  unfold kB
  refine sh ?_
  refine cM false [0,1,2] (r8 h.rD d1 d2 t) ?_
  repeat (intro _; first|refine eK ?_|refine eP ?_)
  refine sh ?_
  refine cS (fun h1=> ?_) (fun h1=> ?_)
  ·rw[if_pos (by omega)]at hq
   subst hq
   refine sh ?_
   exact rM [0,1,2]
  ·refine sh ?_
   refine cS (fun h2=> ?_) (fun h2=> ?_)
   ·rw[if_pos (by omega)]at hq
    subst hq
    refine sh ?_
    exact rM [0,1,2]
   ·rw[if_neg (by omega)]at hq
    refine sh ?_
    refine V3 fun i=> ?_
    cases hr:zv t.rows hd with
    |some r=>
     rw[hr,if_pos (show (some r).isSome=true from rfl)]at hq
     dsimp only[Option.map_some]
     subst hq
     refine sh ?_
     exact rM [0,1,2]
    |none=>
     rw[hr,if_neg (by simp)]at hq
     dsimp only[Option.map_none]
     refine sh ?_
     refine aj.pure h.n294.yX.hb (wl h.n294 a fx fb) rfl ?_
     refine sh ?_
     refine cS (fun h3=> ?_) (fun h3=> ?_)
     ·rw[if_pos h3]at hq
      subst hq
      refine sh ?_
      exact rM [0,1,2]
     ·rw[if_neg (by simpa using h3)]at hq
      refine sh ?_
      refine cS (fun h4=> ?_) (fun h4=> ?_)
      ·rw[if_pos h4]at hq
       subst hq
       refine sh ?_
       exact rM [0,1,2]
      ·rw[if_neg (by simpa using h4)]at hq
       refine sh ?_
       refine aj.pure h.DR.Vc.hb (Eo h.DR a (HB h3 fx)) rfl ?_
       refine sh ?_
       refine V3 fun i=> ?_
       rw[hr]
       dsimp only[Option.map_none]
       subst hq
       refine sh ?_
       refine rM [0,1,2] ?_
       refine fL ?_
       all_goals (simp[Ck,LY,Rw.row])
structure aa5(r:Rw):Prop where
 h:1<=r.h/\r.h<=65536
 a:iD r.a=0
 k:r.f.kind=r.a.k
 x:r.a.x.t.length<=1000
end Go.UM
namespace Go.UM
open Go.AM
set_option maxRecDepth 4000
def wB(hd:Int)(x:In):Bool:=(x.ot==hd||x.Bj==hd)||x.Bk==hd
structure LZ(p:In->Bool)(l0 l:List In)(sn:List Bool):Prop where
 len:sn.length=l.length
 fl:l.filter (fun x=> !p x)=l0.filter (fun x=> !p x)
 nd:l.Pairwise (fun a b=>tV a b=false)
 sn:∀(i:Nat)(x:In),l[i]? =some x->sn[i]? =some true->p x=false
theorem LZ.pY{p:In->Bool}{l0 l:List In}{sn:List Bool}{i:Nat}{x:In}(h:LZ p l0 l sn)(hx:l[i]? =some x)(hp:p x=false):LZ p l0 l (sn.set i true):=by
 refine⟨by rw[List.length_set]; exact h.len,h.fl,h.nd,fun j y hy hs=> ?_⟩
 by_cases e:i=j
 ·subst e; rw[hx]at hy; cases hy; exact hp
 ·exact h.sn j y hy (by rw[List.getElem?_set_ne e]at hs; exact hs)
theorem LZ.drop{p:In->Bool}{l0 l:List In}{sn:List Bool}{i:Nat}{x:In}(h:LZ p l0 l sn)(hx:l[i]? =some x)(hp:p x=true):LZ p l0 (l.eraseIdx i) ((sn.set i true).eraseIdx i):=by
 have hi:i<l.length:=(List.getElem?_eq_some_iff.1 hx).1
 refine⟨?_,?_,h.nd.sublist (List.eraseIdx_sublist _ _),fun j y hy hs=> ?_⟩
 ·rw[List.length_eraseIdx,List.length_eraseIdx,List.length_set,h.len]
 ·rw[<-h.fl]
  have e1:l=l.take i++x::l.drop (i+1):=by
   rw[<-(List.getElem?_eq_some_iff.1 hx).2,List.getElem_cons_drop,List.take_append_drop]
  have e2:l.eraseIdx i=l.take i++l.drop (i+1):=List.eraseIdx_eq_take_drop_succ ..
  rw[e2]
  conv=>rhs; rw[e1]
  simp[List.filter_append,List.filter_cons,hp]
 ·rw[List.getElem?_eraseIdx]at hy hs
  split at hy
  ·rename_i hlt
   rw[if_pos hlt,List.getElem?_set_ne (by omega)]at hs
   exact h.sn j y hy hs
  ·rename_i hlt
   rw[if_neg hlt,List.getElem?_set_ne (by omega)]at hs
   exact h.sn (j+1) y hy hs
theorem LZ.done{p:In->Bool}{l0 l:List In}{sn:List Bool}(h:LZ p l0 l sn)(ha:∀q ∈ sn,q=true):l=l0.filter (fun x=> !p x):=by
 rw[<-h.fl,List.filter_eq_self.2]
 intro x hx
 obtain⟨i,hi,rfl⟩:=List.getElem_of_mem hx
 have hi':i<sn.length:=by rw[h.len]; exact hi
 rw[h.sn i l[i] (List.getElem?_eq_getElem hi) (by rw[List.getElem?_eq_getElem hi',ha _ (List.getElem_mem hi')])]; rfl
end Go.UM
namespace Go.UM
open Go.AM Go.Shelf Go.RowKit Go.Lib Go.Sort Go.Proofs
section
variable {α:Type} [Inhabited α]
def EV(gz:α->List Int)(x:α):List Value:=(gz x).map (Value.int .i64)
def zE(gz:α->List Int)(x:α):List AV:=(gz x).map (AV.int .i64)
structure Cm(P:Program)(f g k:Nat)(gz:α->List Int)(cf:α->α->Int)(EW:List α->List α):Prop where
 nil:∀(p:Option Addr)(cap:Nat)(fv:Value)(w:World),Calls P f #[.slice p 0 cap,fv] w fun e w'=>e= .returned (.tuple #[])/\w'=w
 row:∀(aS cap:Nat)(l:List α)(w:World),CmpLays P g #[] (EV gz) k cf aS 0 l.length w->HoldsK (EV gz) k w aS 0 l.toArray->aS<w.heap.size->l.length<4611686018427387904->
  Calls P f #[.slice (some ⟨aS,0,none⟩) l.length cap,.func (.func g) #[] #[]] w fun e w'=>e= .returned (.tuple #[])/\∃n os,w'=sortWorldK (EV gz) k w aS 0 n (EW l).toArray os
theorem PX{ρ:AM.Place}{L:aZ}{I:Nat->Prop}{w:World}{N:Nat->Prop}{n:Int}{v:Value}(h:aM ρ L I w N (.int .i64 n) v):v= .int .i64 n:=by cases h; rfl
omit [Inhabited α] in
theorem Cn{ρ:AM.Place}{L:aZ}{I:Nat->Prop}{w:World}{N:Nat->Prop}(gz:α->List Int)(x:α):aM ρ L I w N (.agg (zE gz x)) (.agg (EV gz x).toArray):=by
 refine .agg _ _ (by simp[zE,EV]) (fun u hu=> ?_) fun j hj=> ?_
 ·obtain⟨n,_,rfl⟩:=List.mem_map.1 hu; rfl
 ·have hj':j< (gz x).length:=by simpa[zE]using hj
  simp only[zE,EV,List.getD_eq_getElem?_getD,List.getElem?_map,List.getElem?_eq_getElem hj',Option.map_some,Option.getD_some]
  exact .int _ _
theorem Kv{w w1:World}(h:Blw w w1):∃q os,w1=grow (w.drewN q) os:=by
 refine⟨w1.drawn - w.drawn,w1.heap.extract w.heap.size w1.heap.size,?_⟩
 obtain⟨heap,tape,drawn,os,output⟩:=w
 obtain⟨HC,afr,BA,os1,Yb⟩:=w1
 obtain⟨⟨h1,h2,h3,h4,h5⟩,h6⟩:=h
 simp only at h1 h2 h3 h4 h5 h6
 subst h1; subst h2; subst h3
 have e1:HC=heap++HC.extract heap.size HC.size:=by
  apply Array.ext_getElem?
  intro i
  by_cases hi:i<heap.size
  ·rw[Array.getElem?_append_left hi]; exact h5 i hi
  ·rw[Array.getElem?_append_right (by omega),Array.getElem?_extract]
   have e:heap.size+ (i - heap.size)=i:=by omega
   rw[e]
   split
   ·rfl
   ·rw[Array.getElem?_eq_none (by omega)]
 have h6:drawn<=BA:=h6
 have e2:BA=drawn+ (BA - drawn):=by omega
 simp only[grow,World.drewN]
 rw[<-e1,<-e2]
theorem HD{P:Program}{g k:Nat}{gz:α->List Int}{cf:α->α->Int}(h:∀x y,Fv P g [.agg (zE gz x),.agg (zE gz y)] (.int .i64 (cf x y)))(aS size:Nat)(w:World):CmpLays P g #[] (EV gz) k cf aS 0 size w:=by
 intro m os dk hdk x y
 refine (h x y cI (sortWorldK (EV gz) k w aS 0 m dk os) [.agg (EV gz x).toArray,.agg (EV gz y).toArray] (fun _ h=>h.elim) ⟨rfl,fun j hj=> ?_⟩).mono ?_
 ·match j,hj with
  |0,_=>exact Cn gz x
  |1,_=>exact Cn gz y
 ·rintro e w' ⟨v,I1,rfl,hb,_,_,_,hr⟩
  rw[PX hr]
  obtain⟨q,os',e⟩:=Kv hb
  exact⟨rfl,q,os',e⟩
omit [Inhabited α] in
omit [Inhabited α] in
structure HE(P:Program)(f k:Nat)(gz:α->List Int)(EW:List α->List α)(ea:List AV)(ev:List Value):Prop where
 ex:∀(ρ:AM.Place)(L:aZ)(I:Nat->Prop)(w:World)(N:Nat->Prop)(vs:List Value),dq ρ L I w N ea vs->vs=ev
 nil:∀(p:Option Addr)(cap:Nat)(w:World),Calls P f (.slice p 0 cap::ev).toArray w fun e w'=>e= .returned (.tuple #[])/\w'=w
 row:∀(aS cap:Nat)(l:List α)(w:World),HoldsK (EV gz) k w aS 0 l.toArray->aS<w.heap.size->l.length<4611686018427387904->
  Calls P f (.slice (some ⟨aS,0,none⟩) l.length cap::ev).toArray w fun e w'=>e= .returned (.tuple #[])/\∃n os,w'=sortWorldK (EV gz) k w aS 0 n (EW l).toArray os
theorem Cm.e{P:Program}{f g k:Nat}{gz:α->List Int}{cf:α->α->Int}{EW:List α->List α}(S:Cm P f g k gz cf EW)(hcmp:∀x y,Fv P g [.agg (zE gz x),.agg (zE gz y)] (.int .i64 (cf x y))):
  HE P f k gz EW [.bL (.fn g) []] [.func (.func g) #[] #[]]:=by
 refine⟨fun ρ L I w N vs h=> ?_,fun p cap w=>S.nil p cap _ w,fun aS cap l w hH hb hl=>S.row aS cap l w (HD hcmp aS l.length w) hH hb hl⟩
 obtain⟨hl,hr⟩:=h
 match vs,hl with
 |[v],_=>
  have r1:aM ρ L I w N (.bL (.fn g) []) v:=hr 0 (by simp)
  cases r1 with
  |bL _ _ us hu _=>
   obtain rfl:=List.eq_nil_of_length_eq_zero hu
   rfl
end
end Go.UM
namespace Go.UM
open Go.AM
set_option maxRecDepth 4000
def zG(x y:Int):Int:=if x<y then -1 else if y<x then 1 else 0
def QV:List Int->Int
 |[]=>0
 |x::r=>if x=0 then QV r else x
def Kw(x y:In):Int:=QV [zG x.ot y.ot,zG x.Bj y.Bj,zG x.Bk y.Bk,zG x.n y.n]
theorem Co{a b:Int}{r:List Int}:QV (zG a b::r)<0↔a<b\/(a=b/\QV r<0):=by
 show (if zG a b=0 then QV r else zG a b)<0↔_
 unfold zG
 by_cases h1:a<b
 ·rw[if_pos h1,if_neg (by omega)]; omega
 ·rw[if_neg h1]
  by_cases h2:b<a
  ·rw[if_pos h2,if_neg (by omega)]; omega
  ·rw[if_neg h2,if_pos rfl]; omega
theorem sa{x y:In}:Kw x y<0↔x.ot<y.ot\/ x.ot=y.ot/\(x.Bj<y.Bj\/ x.Bj=y.Bj/\(x.Bk<y.Bk\/ x.Bk=y.Bk/\x.n<y.n)):=by
 unfold Kw
 rw[Co,Co,Co,Co]
 simp[QV]
theorem Ep{x y:In}:tV x y=true↔x.ot=y.ot/\x.Bj=y.Bj/\x.Bk=y.Bk/\x.n=y.n:=by simp[tV]
def leI(x y:In):Bool:=decide (¬Kw y x<0)
theorem sb{x y:In}:leI x y=true↔¬Kw y x<0:=by simp[leI]
theorem Er(x y:In):(leI x y||leI y x)=true:=by
 rw[Bool.or_eq_true,sb,sb,sa,sa]; omega
theorem Es(x y z:In)(h1:leI x y=true)(h2:leI y z=true):leI x z=true:=by
 rw[sb,sa]at h1 h2 ⊢; omega
theorem zH{x y:In}(h1:leI x y=true)(h2:leI y x=true):tV x y=true:=by
 rw[sb,sa]at h1 h2
 rw[Ep]; omega
def V5(l:List In):List In:=l.mergeSort leI
structure Srt(EW:List In->List In):Prop where
 perm:∀l,(EW l).Perm l
 ord:∀l,(EW l).Pairwise fun x y=>leI x y=true
theorem Srt.eq{EW:List In->List In}(S:Srt EW){out l:List In}(nd:l.Pairwise fun a b=>tV a b=false)(h:out.Perm l):EW out=V5 l:=by
 refine List.Perm.eq_of_pairwise (le:=fun x y=>leI x y=true) ?_ (S.ord out) (List.pairwise_mergeSort Es Er l) ((S.perm out).trans (h.trans (List.mergeSort_perm l leI).symm))
 intro a b ha hb h1 h2
 have ha':a ∈ l:=h.mem_iff.1 ((S.perm out).mem_iff.1 ha)
 have hb':b ∈ l:=(List.mergeSort_perm l leI).mem_iff.1 hb
 have hs:=zH h1 h2
 have hs':tV b a=true:=zH h2 h1
 obtain⟨i,hi,rfl⟩:=List.getElem_of_mem ha'
 obtain⟨j,hj,rfl⟩:=List.getElem_of_mem hb'
 rw[List.pairwise_iff_getElem]at nd
 rcases Nat.lt_trichotomy i j with h|h|h
 ·rw[nd i j hi hj h]at hs; cases hs
 ·subst h; rfl
 ·rw[nd j i hj hi h]at hs'; cases hs'
instance:Inhabited In:=⟨⟨0,0,0,0,⟨0,0,0,0,0,0,0,0,0,⟨0,0,0⟩⟩⟩⟩
end Go.UM
namespace Go.UM
open Go.AM
set_option maxRecDepth 4000
structure Ac where
 k:Int
 h:Int
 f:Mf
 a:As
 i:In
def Ac.row(c:Ac):List AV:=[.int .i64 c.k,.int .i64 c.h,.int .u64 c.f.id,.int .i64 c.f.kind,.int .u32 c.f.label,.int .u8 c.f.m0,.int .u8 c.f.m1,.int .u8 c.f.m2,.int .u8 c.f.m3,.int .u8 c.f.m4,.int .u8 c.f.m5,.int .u8 c.f.m6,.int .u8 c.f.m7,
 .int .u32 c.f.first,.int .u32 c.f.last,.int .i64 c.f.size,.int .i64 c.f.chunks,.int .i64 c.a.k,.aH 3 (bn c.a.m.v),.aH 2 (dA c.a.m.uv),.aH 3 (bn c.a.m.t),.int .i64 c.a.x.side,.aH 3 (bn c.a.x.t),
 .int .i64 c.a.mt.k,.int .i64 c.a.mt.c.a,.int .i64 c.a.mt.c.b,.int .i64 c.a.mt.c.c,.int .i64 c.a.mt.r,
 .int .i64 c.a.li.k,.int .i64 c.a.li.c.a,.int .i64 c.a.li.c.b,.int .i64 c.a.li.c.c,.int .i64 c.a.li.p.a,.int .i64 c.a.li.p.b,.int .i64 c.a.li.p.c,.int .i64 c.a.li.u.a,.int .i64 c.a.li.u.b,.int .i64 c.a.li.u.c,.int .i64 c.a.li.v.a,.int .i64 c.a.li.v.b,.int .i64 c.a.li.v.c,
 .int .i64 c.i.ot,.int .i64 c.i.Bj,.int .i64 c.i.Bk,.int .i64 c.i.n,.int .i64 c.i.t.m0,.int .i64 c.i.t.m1,.int .i64 c.i.t.m2,.int .i64 c.i.t.m3,.int .i64 c.i.t.m4,.int .i64 c.i.t.m5,.int .i64 c.i.t.m6,.int .i64 c.i.t.m7,.int .i64 c.i.t.m8,.int .i64 c.i.t.t.a,.int .i64 c.i.t.t.b,.int .i64 c.i.t.t.c]
def As.nC(a:As):As:=⟨a.k,a.m.nC,⟨a.x.side,a.x.t.take 260⟩,a.mt,a.li⟩
def Ac.nC(c:Ac):Ac:=⟨c.k,c.h,c.f,c.a.nC,c.i⟩
theorem Kx{R:Env}(h:Pv R)(c:Ac):R.Pc 420 [.agg c.row] (.agg c.nC.row):=
 h.Pw.enter 100 rfl fun X bb hfit hp=>by
  refine sh ?_
  refine aj.pure h.n191.Vv.hb (Kk h.n191 c.a.m) rfl ?_
  refine sh ?_
  refine br (by exact PH _ _) ?_
  refine sh ?_
  exact rT
structure PY(t:Tb)(n:Nat):Prop where
 row:∀r ∈ t.rows,aa5 r
 nd:t.ins.Pairwise fun a b=>tV a b=false
 rd:t.rows.Pairwise fun a b=>a.h≠b.h
 rl:t.rows.length<=n
 il:t.ins.length<=n
end Go.UM
namespace Go.UM
open Go.AM
set_option maxRecDepth 4000
theorem PY.mono{t:Tb}{n m:Nat}(h:PY t n)(k:n<=m):PY t m:=⟨h.row,h.nd,h.rd,Nat.le_trans h.rl k,Nat.le_trans h.il k⟩
end Go.UM
namespace Go.UM
open Go.AM
set_option maxRecDepth 4000
end Go.UM
namespace Go.UM
open Go.AM Go.RowKit Go.Proofs
def HF(P:Program)(f:Nat):Prop:=∀(b:Nat)(es:Array MapEntry)(ck:Nat)(w:World),w.heap[b]? =some (.map es ck)->Calls P f #[.map (some b)] w fun e w'=>e= .returned (.map (some w.heap.size))/\w'=w.alloc (.map es ck)
theorem zI{R:Env}{g:Nat}(hb:cb R.P (R.ft g))(CL:HF R.P (R.ft g))(k:Nat)(ka va d:Bool)(sz:Nat)(es:List (List AV)):
  R.Mc g [.omap 0] [(0,.map k ka va d sz es)] (.omap 1) [(0,.map k ka va d sz es),(1,.map k ka va d sz es)] 2:=by
 refine⟨hb,fun w I ρ vs hW hr=> ?_,rfl⟩
 have W:=hW 0
 obtain⟨hvl,hr⟩:=hr
 obtain⟨v0,rfl⟩:∃v0,vs=[v0]:=by
  match vs,hvl with
  |[a],_=>exact⟨a,rfl⟩
 have r0:=hr 0 (by simp)
 have r0:aM ρ _ I w (· <1) (.omap 0) v0:=r0
 have V6:aa (ar [(0,bG.map k ka va d sz es)]) 0=some ⟨0,sz,es,some (k,ka,va,d)⟩:=rfl
 obtain⟨gm,cm,hρ,rfl⟩:∃gm cm,ρ 0=some (gm,cm)/\v0= .map (some gm):=by
  cases r0 with
  |omap _ _ _ _ h=>exact h sz (by rw[aA]; exact⟨_,V6,rfl,rfl⟩)
 have B:=W.aS 0 _ V6
 obtain⟨cs,fr,yj,nH,hI,rb,hlen,hcap,hcs,hcell⟩:=B.real gm cm hρ
 obtain⟨en,ck,hg,hs,MC⟩:=yj
 refine (CL gm en ck w hg).mono ?_
 rintro e w' ⟨rfl,rfl⟩
 refine⟨_,rfl,?_⟩
 obtain⟨E1,W1⟩:=W.put (w':=w.alloc (.map en ck)) 1 ⟨0,sz,es,some (k,ka,va,d)⟩ w.heap.size cm cs fr rfl rfl rfl (by simp) (fun k hk _=>Below.heap_alloc w _ k hk)
  ⟨en,ck,heap_alloc_new w _,hs,MC⟩ nH (.inl (Nat.le_refl _)) (fun b0 h0=>by have h0:(Option.none:Option bf)=some b0:=h0; cases h0) (fun h=>absurd h (Nat.lt_irrefl 1)) B.even hlen hcap hcs hcell
 have e1:cZ (aa (ar [(0,bG.map k ka va d sz es)])) 1 ⟨0,sz,es,some (k,ka,va,d)⟩=aa (ar [(0,bG.map k ka va d sz es),(1,bG.map k ka va d sz es)]):=by
  funext m
  by_cases hm:m=1
  ·subst hm; rfl
  ·have:(m==1)=false:=by simpa using hm
   simp[cZ,hm,ar,aa,this]
 rw[e1]at W1
 refine⟨_,I,0,W1.sI (fun m hm=>by rcases hm with rfl|hm; exact Nat.lt_succ_self 1; exact Nat.lt_succ_of_lt hm),?_⟩
 exact qJ (cap:=cm) (Nat.lt_succ_self 1) (by simp[iF])
end Go.UM
namespace Go.UM
open Go.AM Go.RowKit Go.Proofs
set_option maxRecDepth 4000
def zJ(P:Program)(f g kt et:Nat):Prop:=
 ∀(b nn Bm:Nat)(D0:DataW Unit)(Q:Value->Option (DataW Unit × List MemPlace))(w:World),Bm<w.heap.size->w.cell? ⟨Bm,0,none⟩=some (.map (some b))->w.ownsMap P kt Q b nn D0->Maps.size D0<=maxLen->Maps.size D0*8<=140737488355328->
  Calls P f #[.func (.func g) #[] #[.pointer (some ⟨Bm,0,none⟩)]] w fun e w'=>∃(v:Value)(ss:List Int),e= .returned v/\ss.Perm (intKeys D0)/\
   w'.ownsRow w.heap.size et 1 v ss.length ((ss.mergeSort (fun x y=>decide (x<=y))).map encZ)/\(v= .slice none 0 0↔ss=[])/\Go.RowKit.Below w.heap.size w w'
abbrev Cp(R:Env):Prop:=∀d1:Bool,R.Mz true 434 [.bL (.fn (R.ft 447)) [.loc 0 1 0 0]] [(0,.var (R.ty 57) [.omap 1]),(1,.map 1 false true d1 41 [])] .ab [(0,.var (R.ty 57) [.omap 1]),(1,.map 1 false true d1 41 [])] 2
theorem HG{R:Env}{kt:Nat}(hb:cb R.P (R.ft 434))(KL:zJ R.P (R.ft 434) (R.ft 447) kt (R.ty 10)):Cp R:=by
 intro d1
 refine⟨hb,fun w I ρ vs hW hr=> ?_,rfl⟩
 have W:=hW 0
 obtain⟨hvl,hr⟩:=hr
 obtain⟨v0,rfl⟩:∃v0,vs=[v0]:=by
  match vs,hvl with
  |[a],_=>exact⟨a,rfl⟩
 have r0:=hr 0 (by simp)
 have r0:aM ρ _ I w (· <2) (.bL (.fn (R.ft 447)) [.loc 0 1 0 0]) v0:=r0
 have V6:aa (ar [(0,bG.var (R.ty 57) [.omap 1]),(1,.map 1 false true d1 41 [])]) 0=some ⟨R.ty 57,1,[[.omap 1]],none⟩:=rfl
 have hM1:aa (ar [(0,bG.var (R.ty 57) [.omap 1]),(1,.map 1 false true d1 41 [])]) 1=some ⟨0,41,[],some (1,false,true,d1)⟩:=rfl
 cases r0 with
 |bL _ _ us QE YP=>
  obtain⟨u0,rfl⟩:∃u0,us=[u0]:=by
   match us,QE with
   |[a],_=>exact⟨a,rfl⟩
  have q0:=YP 0 (by simp)
  have q0:aM ρ _ I w (· <2) (.loc 0 1 0 0) u0:=q0
  obtain⟨_,g,cap,tp,rfl⟩:=fJ (sz:=1) q0 (by rw[aA]; exact⟨_,V6,rfl,rfl⟩)
  obtain⟨cs,fr,yj,_,_,_,_,_,_,hcell⟩:=(W.aS 0 _ V6).real g cap tp
  have yj:w.heap[g]? =some (.cells cs (R.ty 57) fr):=yj
  obtain⟨u,hu,_,hru⟩:=hcell 0 0 (by simp) (by simp)
  have hru:aM ρ _ I w (· <2) (.omap 1) u:=hru
  have hu:cs[0]? =some u:=by simpa using hu
  obtain⟨gm,cm,FY,rfl⟩:∃gm cm,ρ 1=some (gm,cm)/\u= .map (some gm):=by
   cases hru with
   |omap _ _ _ _ h=>exact h 41 (by rw[aA]; exact⟨_,hM1,rfl,rfl⟩)
  obtain⟨cs1,fr1,aa7,_,_,_,_,_,_,_⟩:=(W.aS 1 _ hM1).real gm cm FY
  obtain⟨en,ck,hg,hs,MC⟩:=aa7
  obtain rfl:en= #[]:=Array.eq_empty_of_size_eq_zero (by simpa using hs)
  have hlt:=(Array.getElem?_eq_some_iff.1 yj).1
  have hc:w.cell? ⟨g,0,none⟩=some (.map (some gm)):=by
   simp only[World.cell?,yj,Option.isSome_none,Bool.false_eq_true,if_false]
   exact hu
  obtain⟨D0,hown,hsz,V7⟩:∃D0:DataW Unit,w.ownsMap R.P kt (fun _=>some (.nil,[])) gm 0 D0/\Maps.size D0=0/\intKeys D0=[]:=by
   refine⟨_,⟨#[],ck,hg,⟨?_,⟨?_,?_,?_⟩,?_⟩,Nat.le_refl _,rfl⟩,?_,?_⟩
   all_goals first|rfl|(simp; done)|exact Nat.zero_le _
  have xM:=KL gm 0 g D0 (fun _=>some (.nil,[])) w hlt hc hown (by omega) (by omega)
  refine xM.mono ?_
  rintro e w' ⟨v,ss,rfl,hp,_,hnil,Bu⟩
  rw[V7]at hp
  obtain rfl:=hnil.2 hp.eq_nil
  refine⟨_,rfl,?_⟩
  obtain⟨E1,W1⟩:=W.ext' (w':=w') (I':=I) Bu.os Bu.tape Bu.output Bu.size Bu.block (fun _ h=>h) (fun g hg=>Nat.lt_of_lt_of_le (W.lt g hg) Bu.size) (fun _ _ h=>h) (Nat.zero_le _)
  exact⟨_,I,0,W1,.ab⟩
abbrev Cq(R:Env):Prop:=R.Pc 435 [.ab,.bL (.fn (R.ft 436)) []] (.aG [])
theorem HH{R:Env}(S:∀(p:Option Addr)(cap:Nat)(fv:Value)(w:World),Calls R.P (R.ft 435) #[.slice p 0 cap,fv] w fun e w'=>e= .returned (.tuple #[])/\w'=w):Cq R:=by
 intro I w vs hI hr
 obtain⟨hvl,hr⟩:=hr
 obtain⟨v0,v1,rfl⟩:∃v0 v1,vs=[v0,v1]:=by
  match vs,hvl with
  |[a,b],_=>exact⟨a,b,rfl⟩
 have r0:aM df gN I w cI .ab v0:=hr 0 (by simp)
 cases r0
 refine (S Option.none 0 v1 w).mono ?_
 rintro e w' ⟨rfl,rfl⟩
 exact⟨_,I,rfl,⟨Below.refl _ _,Nat.le_refl _⟩,fun _ h=>h,hI,fun _ _ h=>h,.aG [] [] rfl (fun j hj=>by simp at hj)⟩
theorem Ky{R:Env}(h:O6 R)(cr:R.Mc 439 [.omap 0] [(0,.map 1 false true true 41 [])] (.omap 1) [(0,.map 1 false true true 41 []),(1,.map 1 false true true 41 [])] 2)
  (ci:R.Mc 440 [.omap 0] [(0,.map 4 true true true 16 [])] (.omap 1) [(0,.map 4 true true true 16 []),(1,.map 4 true true true 16 [])] 2):
  R.Mc 430 [.loc 2 1 0 0] (kB R true true ⟨[],[]⟩) (.loc 5 1 0 0) (kB R true true ⟨[],[]⟩++ [(3,.map 1 false true true 41 []),(4,.map 4 true true true 16 []),(5,.var (R.ty 47) [.omap 3,.omap 4])]) 6:=
 h.aaT.aL 100 3 rfl rfl rfl fun X bb hfit hp=>by
  unfold kB
  refine sh ?_
  refine cM false [0,1,2] (r8 h.rD true true ⟨[],[]⟩) ?_
  repeat (intro _; first|refine eK ?_|refine eP ?_)
  refine sh ?_
  refine cM false [0] (cr) ?_
  repeat (intro _; first|refine eK ?_|refine eP ?_)
  refine sh ?_
  refine cM false [1] (ci) ?_
  repeat (intro _; first|refine eK ?_|refine eP ?_)
  refine sh ?_
  exact rM [0,1,2,3,4,5]
theorem Kz{R:Env}(h:NF R):R.Mc 433 [.omap 0] [(0,.map 1 false true true 41 [])] (.bL (.fn (R.ft 447)) [.loc 1 1 0 0]) [(0,.map 1 false true true 41 []),(1,.var (R.ty 57) [.omap 0])] 2:=
 h.aae.aL 60 1 rfl rfl rfl fun X bb hfit hp=>by
  refine sh ?_
  exact rM [0,1]
theorem KA{R:Env}(h:O1 R)(K:Cp R):R.Mz true 418 [.loc 2 1 0 0] (kB R true true ⟨[],[]⟩) .ab (kB R true true ⟨[],[]⟩) 3:=
 h.aaR.mZ 100 3 rfl rfl rfl fun X bb hfit hp hz=>by
  unfold kB
  refine sh ?_
  refine cM false [0,1,2] (r8 h.rD true true ⟨[],[]⟩) ?_
  repeat (intro _; first|refine eK ?_|refine eP ?_)
  refine sh ?_
  refine cM false [0] (Kz h.O2) ?_
  repeat (intro _; first|refine eK ?_|refine eP ?_)
  refine sh ?_
  refine cM false [3,0] (K true) ?_
  repeat (intro _; first|refine eK ?_|refine eP ?_)
  refine sh ?_
  refine az.one 100 ?_
  refine sh ?_
  refine aD (by rfl) ?_
  refine sh ?_
  exact rM [0,1,2]
theorem HI{R:Env}(h:O4 R)(S:Cq R):R.Mc 419 [.loc 2 1 0 0] (kB R true true ⟨[],[]⟩) .ab (kB R true false ⟨[],[]⟩) 3:=
 h.aaS.aL 100 3 rfl rfl rfl fun X bb hfit hp=>by
  unfold kB
  refine sh ?_
  refine cM false [0,1,2] (r8 h.rD true true ⟨[],[]⟩) ?_
  repeat (intro _; first|refine eK ?_|refine eP ?_)
  refine sh ?_
  refine⟨fun r=> ?_⟩
  refine sh ?_
  refine az.one 100 ?_
  refine sh ?_
  refine⟨rfl,fun h1 h2=> ?_,fun i row h1 h2 h3=> ?_⟩
  ·refine sh ?_
   refine aj.pure h.O5.aag.hb S rfl ?_
   refine sh ?_
   exact rM [0,1,2]
  ·simp at h1
end Go.UM
namespace Go.UM
open Go.AM
set_option maxRecDepth 4000
def b8(c:UInt8):AV:= .int .u8 c.toNat
theorem Cr(n:Int):AV.int .u8 (wr .u8 n)=b8 (u8 n):=by rw[lx]; rfl
theorem KB(l:List UInt8):(aq l).flatten=l.map b8:=by
 induction l with
 |nil=>rfl
 |cons a l ih=>simp only[aq,List.map_cons,List.flatten_cons,List.singleton_append]at ih ⊢; rw[ih]; rfl
theorem V8(x y:UInt8):da .xor .u8 (x.toNat:Int) (y.toNat:Int)=((x ^^^ y).toNat:Int):=by
 have e:da .xor .u8 (x.toNat:Int) (y.toNat:Int)=wr .u8 ((BitVec.ofInt 8 (x.toNat:Int) ^^^ BitVec.ofInt 8 (y.toNat:Int)).toNat:Int):=rfl
 have hx:=x.toNat_lt
 have hy:=y.toNat_lt
 have ex:BitVec.ofInt 8 (x.toNat:Int)=x.toBitVec:=by
  apply BitVec.eq_of_toNat_eq
  rw[BitVec.toNat_ofInt]
  simp
  omega
 have ey:BitVec.ofInt 8 (y.toNat:Int)=y.toBitVec:=by
  apply BitVec.eq_of_toNat_eq
  rw[BitVec.toNat_ofInt]
  simp
  omega
 rw[e,ex,ey,lx]
 have h2:((x ^^^ y).toNat:Int)=((x.toBitVec ^^^ y.toBitVec).toNat:Int):=by simp
 rw[<-h2,yY]
def kD(a b:List UInt8):List UInt8:=List.zipWith (fun x y=>x ^^^ y) a b
theorem qX{a b:List UInt8}(h:b.length=a.length):(kD a b).length=a.length:=by simp[kD,h]
theorem tZ:∀{a b:List UInt8},b.length=a.length->kD (kD a b) b=a
 |[],b,_=>by simp[kD]
 |x::a,[],h=>by simp at h
 |x::a,y::b,h=>by
  have ih:=tZ (a:=a) (b:=b) (by simpa using h)
  simp only[kD,List.zipWith_cons_cons]at ih ⊢
  rw[ih,UInt8.xor_assoc,UInt8.xor_self,UInt8.xor_zero]
def zK(f:Int->List UInt8)(c:Int)(n:Nat):List UInt8:=((List.range (n / 64+1)).flatMap fun j=>f (wr .u32 (c+ (j:Nat)))).take n
theorem iT{f:Nat->List UInt8}(h:∀j,(f j).length=64):∀k,((List.range k).flatMap f).length=64*k
 |0=>rfl
 |k+1=>by rw[List.range_succ,List.flatMap_append,List.length_append,iT h k]; simp[h]; omega
theorem mH{f:Int->List UInt8}(h:∀x,(f x).length=64)(c:Int)(n:Nat):(zK f c n).length=n:=by
 unfold zK
 rw[List.length_take,iT (f:=fun j=>f (wr .u32 (c+ (j:Nat)))) (fun j=>h _)]; omega
theorem HJ{f:Nat->List UInt8}{k m:Nat}(h:k<=m):(List.range k).flatMap f <+: (List.range m).flatMap f:=by
 obtain⟨d,rfl⟩:∃d,m=k+d:=⟨m - k,by omega⟩
 rw[List.range_add,List.flatMap_append]
 exact List.prefix_append _ _
theorem KC{f:Int->List UInt8}(h:∀x,(f x).length=64)(c:Int){n k:Nat}(hk:64*k<n):((List.range k).flatMap fun j=>f (wr .u32 (c+ (j:Nat))))++(f (wr .u32 (c+ (k:Nat)))).take (min 64 (n - 64*k))=((List.range (k+1)).flatMap fun j=>f (wr .u32 (c+ (j:Nat)))).take (min n (64* (k+1))):=by
 have hl:=iT (f:=fun j=>f (wr .u32 (c+ (j:Nat)))) (fun j=>h _) k
 rw[List.range_succ,List.flatMap_append,List.take_append,hl]
 have e1:((List.range k).flatMap fun j=>f (wr .u32 (c+ (j:Nat)))).take (min n (64* (k+1)))=(List.range k).flatMap fun j=>f (wr .u32 (c+ (j:Nat))):=List.take_of_length_le (by rw[hl]; omega)
 rw[e1]
 congr 1
 simp only[List.flatMap_cons,List.flatMap_nil,List.append_nil]
 congr 1
 omega
theorem HK{f:Int->List UInt8}(h:∀x,(f x).length=64)(c:Int){n k:Nat}(h1:n<=64*k):((List.range k).flatMap fun j=>f (wr .u32 (c+ (j:Nat)))).take n=zK f c n:=by
 unfold zK
 have hle:∀a b,a<=b->n<=64*a->((List.range a).flatMap fun j=>f (wr .u32 (c+ (j:Nat)))).take n=((List.range b).flatMap fun j=>f (wr .u32 (c+ (j:Nat)))).take n:=by
  intro a b hab hna
  obtain⟨t,ht⟩:=HJ (f:=fun j=>f (wr .u32 (c+ (j:Nat)))) hab
  rw[<-ht,List.take_append_of_le_length (by rw[iT (fun j=>h _)]; omega)]
 rcases Nat.le_total k (n / 64+1)with h2|h2
 ·exact hle _ _ h2 h1
 ·exact (hle _ _ h2 (by omega)).symm
@[simp] theorem aY(l:List UInt8):iA (l.map b8):=fun v h=>by obtain⟨c,_,rfl⟩:=List.mem_map.1 h; exact⟨_,_,rfl⟩
theorem ck{l:List UInt8}{K:List (List AV)->Prop}:∀{n:Nat},K (aq (l.take n))->n<=l.length->ye 1 n (l.map b8) K:=by
 induction l generalizing K with
 |nil=>intro n k hn; obtain rfl:n=0:=by simpa using hn
       exact k
 |cons a l ih=>
  intro n k hn
  cases n with
  |zero=>exact k
  |succ n=>exact ih (K:=fun es=>K ([b8 a]::es)) (n:=n) k (by simpa using hn)
theorem KD(a:Int):wr .u32 (wr .u32 a+1)=wr .u32 (a+1):=by
 have e:∀x:Int,wr .u32 x=x % 4294967296:=fun x=>by simp[wr,IntKind.wrap,IntKind.bits,IntKind.signed]
 rw[e,e,e]; omega
@[simp] theorem pr:∀l:List UInt8,AV.au (l.map b8)=[]
  |[]=>rfl
  |a::l=>by simp only[List.map_cons,AV.au,pr l]; rfl
theorem wq{l:List UInt8}{off cnt:Nat}(h:off+cnt<=l.length):uM (l.map b8) off cnt 1 (aq ((l.drop off).take cnt)):=by
 refine⟨?_,by simpa[Nat.ble_eq]using h,pr l⟩
 apply List.ext_getElem
 ·simp; omega
 ·intro i h1 h2
  simp at h1 h2
  have hk:off+i< (l.map b8).length:=by simp; omega
  have e:List.take 1 (List.drop (off+i) (l.map b8))=[(l.map b8)[off+i]]:=by rw[List.drop_eq_getElem_cons hk]; rfl
  simp[aq]
  exact Eq.trans (by simp[b8]) e.symm
theorem xv{L:List UInt8}{z:AV}{m n:Nat}{c:UInt8}(h:L[n]? =some c)(hn:n<m):((L.take n).map b8++List.replicate (m - n) z).set n (b8 c)=(L.take (n+1)).map b8++List.replicate (m - (n+1)) z:=by
 have hl:=(List.getElem?_eq_some_iff.1 h).1
 have e1:((L.take n).map b8).length=n:=by simp; omega
 rw[List.set_append,if_neg (by omega),e1,Nat.sub_self,List.take_add_one,h]
 obtain⟨d,hd⟩:∃d,m - n=d+1:=⟨m - n - 1,by omega⟩
 have e2:m - (n+1)=d:=by omega
 rw[hd,e2,List.replicate_succ]
 simp
theorem PZ{l:List (List UInt8)}(h:∀x ∈ l,x.length=4){j r:Nat}(hr:r<4):l.flatten[4*j+r]? =(l[j]?).bind fun x=>x[r]? :=by
 induction l generalizing j with
 |nil=>simp
 |cons a l ih=>
  have ha:=h a (List.mem_cons_self ..)
  cases j with
  |zero=>
   simp only[List.flatten_cons,Nat.mul_zero,Nat.zero_add]
   rw[List.getElem?_append_left (by omega)]
   simp
  |succ j=>
   simp only[List.flatten_cons]
   rw[List.getElem?_append_right (by omega),show 4* (j+1)+r - a.length=4*j+r by omega,ih (fun x hx=>h x (List.mem_cons_of_mem _ hx))]
   simp
end Go.UM
namespace Go.UM
open Go.AM
set_option maxRecDepth 4000
def rotl(x k:Int):Int:=da .or .u32 (jZ .u32 x k) (bA .u32 x (32 - k))
theorem xw{R:Env}(h:JE R)(x k:Int)(hk:k=16\/ k=12\/ k=8\/ k=7):R.Pc 680 [.int .u32 x,.int .i64 k] (.int .u32 (rotl x k)):=
 h.Ba.enter 60 rfl fun X bb hfit hp=>by
  have e:da .and .u64 k 31=k:=by rcases hk with rfl|rfl|rfl|rfl<;>decide
  have e2:wr .u64 (32 - k)=32 - k:=tB (k:= .u64) (by simp only[ed]; omega)
  refine sh ?_
  refine rT ?_
  all_goals repeat' (first|exact True.intro|refine And.intro ?_ ?_|(intro _u; clear _u)|(with_reducible first|exact aU.fg|refine eM ?_ ?_|refine eF ?_ ?_ ?_|refine eN ?_|refine eL ?_ ?_ ?_|refine eA ?_ ?_|refine bp.mk ⟨_,hp,rfl⟩ ?_ ?_)|refine bp.mk ⟨_,hp,rfl⟩ ?_ ?_)
  all_goals try first|with_reducible rfl|omega|exact .inl (by decide)|(simp; done)|rfl
  rw[e]
  rfl
structure Q4 where
 a:Int
 b:Int
 c:Int
 d:Int
def Q4.row(q:Q4):List AV:=[.int .u32 q.a,.int .u32 q.b,.int .u32 q.c,.int .u32 q.d]
def ad(x y:Int):Int:=wr .u32 (x+y)
def xr(x y:Int):Int:=da .xor .u32 x y
def Q4.h(q:Q4)(k l:Int):Q4:=
 let a:=ad q.a q.b
 let d:=rotl (xr q.d a) k
 let c:=ad q.c d
 let b:=rotl (xr q.b c) l
 ⟨a,b,c,d⟩
def Q4.q(q:Q4):Q4:=(q.h 16 12).h 8 7
theorem fV{R:Env}(h:NM R)(q:Q4):R.Pc 643 [.agg q.row] (.agg q.q.row):=
 h.xj.enter 100 rfl fun X bb hfit hp=>by
  refine sh ?_
  refine ai ?_
  refine sh ?_
  refine aj.pure h.pb.Ba.hb (xw h.pb (xr q.d (ad q.a q.b)) 16 (by omega)) rfl ?_
  refine sh ?_
  refine ai ?_
  refine sh ?_
  refine aj.pure h.pb.Ba.hb (xw h.pb (xr q.b (q.h 16 12).c) 12 (by omega)) rfl ?_
  refine sh ?_
  refine ai ?_
  refine sh ?_
  refine aj.pure h.pb.Ba.hb (xw h.pb (xr (q.h 16 12).d q.q.a) 8 (by omega)) rfl ?_
  refine sh ?_
  refine ai ?_
  refine sh ?_
  refine aj.pure h.pb.Ba.hb (xw h.pb (xr (q.h 16 12).b q.q.c) 7 (by omega)) rfl ?_
  refine sh ?_
  exact rT
structure pw where
 a:Int
 b:Int
 c:Int
 d:Int
 e:Int
 f:Int
 g:Int
 h:Int
 i:Int
 j:Int
 k:Int
 l:Int
 m:Int
 n:Int
 o:Int
 p:Int
def pw.li(s:pw):List Int:=[s.a,s.b,s.c,s.d,s.e,s.f,s.g,s.h,s.i,s.j,s.k,s.l,s.m,s.n,s.o,s.p]
def pw.row(s:pw):List AV:=[.int .u32 s.a,.int .u32 s.b,.int .u32 s.c,.int .u32 s.d,.int .u32 s.e,.int .u32 s.f,.int .u32 s.g,.int .u32 s.h,.int .u32 s.i,.int .u32 s.j,.int .u32 s.k,.int .u32 s.l,.int .u32 s.m,.int .u32 s.n,.int .u32 s.o,.int .u32 s.p]
def pw.r1(s:pw):pw:=
 let w:=(Q4.mk s.a s.e s.i s.m).q
 let x:=(Q4.mk s.b s.f s.j s.n).q
 let y:=(Q4.mk s.c s.g s.k s.o).q
 let z:=(Q4.mk s.d s.h s.l s.p).q
 ⟨w.a,x.a,y.a,z.a,w.b,x.b,y.b,z.b,w.c,x.c,y.c,z.c,w.d,x.d,y.d,z.d⟩
def pw.r2(s:pw):pw:=
 let w:=(Q4.mk s.a s.f s.k s.p).q
 let x:=(Q4.mk s.b s.g s.l s.m).q
 let y:=(Q4.mk s.c s.h s.i s.n).q
 let z:=(Q4.mk s.d s.e s.j s.o).q
 ⟨w.a,x.a,y.a,z.a,z.b,w.b,x.b,y.b,y.c,z.c,w.c,x.c,x.d,y.d,z.d,w.d⟩
def pw.rs(s:pw):Nat->pw
 |0=>s
 |n+1=>(pw.rs s n).r1.r2
def zL(x:Int):List UInt8:=[u8 x,u8 (bA .u32 x 8),u8 (bA .u32 x 16),u8 (bA .u32 x 24)]
def pw.out(s:pw):List UInt8:=(List.zipWith (fun x y=>zL (ad x y)) (s.rs 10).li s.li).flatten
theorem pw.BB(s:pw):s.out.length=64:=rfl
def py:List UInt8->Int
 |a::b::c::d::_=>da .or .u32 (da .or .u32 (da .or .u32 (wr .u32 a.toNat) (jZ .u32 (wr .u32 b.toNat) 8)) (jZ .u32 (wr .u32 c.toNat) 16)) (jZ .u32 (wr .u32 d.toNat) 24)
 |_=>0
theorem dF{R:Env}(h:NJ R)(l:List UInt8)(hl:4<=l.length):R.Pc 681 [.aH 1 (aq l)] (.int .u32 (py l)):=by
 obtain⟨a,b,c,d,r,rfl⟩:∃a b c d r,l=a::b::c::d::r:=by
  match l,hl with
  |a::b::c::d::r,_=>exact⟨a,b,c,d,r,rfl⟩
 exact h.rB.enter 60 rfl fun X bb hfit hp=>by
  refine sh ?_
  refine G6 (x:=a) rfl ?_
  refine sh ?_
  refine ai ?_
  refine sh ?_
  refine G6 (x:=b) rfl ?_
  refine sh ?_
  refine ai ?_
  refine sh ?_
  refine G6 (x:=c) rfl ?_
  refine sh ?_
  refine ai ?_
  refine sh ?_
  refine G6 (x:=d) rfl ?_
  refine sh ?_
  refine ai ?_
  refine sh ?_
  exact rT
def stt(k nn:List UInt8)(c:Int):pw:=⟨1634760805,857760878,2036477234,1797285236,py k,py (k.drop 4),py (k.drop 8),py (k.drop 12),py (k.drop 16),py (k.drop 20),py (k.drop 24),py (k.drop 28),c,py nn,py (nn.drop 4),py (nn.drop 8)⟩
theorem dG{l:List UInt8}{n:Nat}(h:l.length=n):py (l.take n)=py l:=by rw[List.take_of_length_le (by omega)]
set_option maxHeartbeats 4000000 in
theorem KE{R:Env}(h:NK R)(k nn:List UInt8)(c:Int)(hk:k.length=32)(hn:nn.length=12):R.Pc 642 [.agg (k.map b8),.int .u32 c,.agg (nn.map b8)] (.agg (stt k nn c).row):=
 h.Ty.enter 100 rfl fun X bb hfit hp=>by
  refine sh ?_
  refine az.one 100 ?_
  refine sh ?_
  refine aw (by rfl) ?_
  refine sh ?_
  refine sB 0 32 ?_
  refine sh ?_
  refine cM true [] ((dF h.iL ((k.drop 0).take 32) (by simp; omega)).mc h.iL.rB.hb) ?_ (.g rfl ⟨rfl,⟨fun _=>wq (by omega),trivial⟩,trivial⟩)
  repeat (intro _; first|refine eK ?_|refine eP ?_)
  rw[dG (by simp; omega)]
  refine sh ?_
  refine az.one 100 ?_
  refine sh ?_
  refine aw (by rfl) ?_
  refine sh ?_
  refine sB 4 28 ?_
  refine sh ?_
  refine cM true [] ((dF h.iL ((k.drop 4).take 28) (by simp; omega)).mc h.iL.rB.hb) ?_ (.g rfl ⟨rfl,⟨fun _=>wq (by omega),trivial⟩,trivial⟩)
  repeat (intro _; first|refine eK ?_|refine eP ?_)
  rw[dG (by simp; omega)]
  refine sh ?_
  refine az.one 100 ?_
  refine sh ?_
  refine aw (by rfl) ?_
  refine sh ?_
  refine sB 8 24 ?_
  refine sh ?_
  refine cM true [] ((dF h.iL ((k.drop 8).take 24) (by simp; omega)).mc h.iL.rB.hb) ?_ (.g rfl ⟨rfl,⟨fun _=>wq (by omega),trivial⟩,trivial⟩)
  repeat (intro _; first|refine eK ?_|refine eP ?_)
  rw[dG (by simp; omega)]
  refine sh ?_
  refine az.one 100 ?_
  refine sh ?_
  refine aw (by rfl) ?_
  refine sh ?_
  refine sB 12 20 ?_
  refine sh ?_
  refine cM true [] ((dF h.iL ((k.drop 12).take 20) (by simp; omega)).mc h.iL.rB.hb) ?_ (.g rfl ⟨rfl,⟨fun _=>wq (by omega),trivial⟩,trivial⟩)
  repeat (intro _; first|refine eK ?_|refine eP ?_)
  rw[dG (by simp; omega)]
  refine sh ?_
  refine az.one 100 ?_
  refine sh ?_
  refine aw (by rfl) ?_
  refine sh ?_
  refine sB 16 16 ?_
  refine sh ?_
  refine cM true [] ((dF h.iL ((k.drop 16).take 16) (by simp; omega)).mc h.iL.rB.hb) ?_ (.g rfl ⟨rfl,⟨fun _=>wq (by omega),trivial⟩,trivial⟩)
  repeat (intro _; first|refine eK ?_|refine eP ?_)
  rw[dG (by simp; omega)]
  refine sh ?_
  refine az.one 100 ?_
  refine sh ?_
  refine aw (by rfl) ?_
  refine sh ?_
  refine sB 20 12 ?_
  refine sh ?_
  refine cM true [] ((dF h.iL ((k.drop 20).take 12) (by simp; omega)).mc h.iL.rB.hb) ?_ (.g rfl ⟨rfl,⟨fun _=>wq (by omega),trivial⟩,trivial⟩)
  repeat (intro _; first|refine eK ?_|refine eP ?_)
  rw[dG (by simp; omega)]
  refine sh ?_
  refine az.one 100 ?_
  refine sh ?_
  refine aw (by rfl) ?_
  refine sh ?_
  refine sB 24 8 ?_
  refine sh ?_
  refine cM true [] ((dF h.iL ((k.drop 24).take 8) (by simp; omega)).mc h.iL.rB.hb) ?_ (.g rfl ⟨rfl,⟨fun _=>wq (by omega),trivial⟩,trivial⟩)
  repeat (intro _; first|refine eK ?_|refine eP ?_)
  rw[dG (by simp; omega)]
  refine sh ?_
  refine az.one 100 ?_
  refine sh ?_
  refine aw (by rfl) ?_
  refine sh ?_
  refine sB 28 4 ?_
  refine sh ?_
  refine cM true [] ((dF h.iL ((k.drop 28).take 4) (by simp; omega)).mc h.iL.rB.hb) ?_ (.g rfl ⟨rfl,⟨fun _=>wq (by omega),trivial⟩,trivial⟩)
  repeat (intro _; first|refine eK ?_|refine eP ?_)
  rw[dG (by simp; omega)]
  refine sh ?_
  refine az.one 100 ?_
  refine sh ?_
  refine aD (by rfl) ?_
  refine sh ?_
  refine az.one 100 ?_
  refine sh ?_
  refine aw (by rfl) ?_
  refine sh ?_
  refine sB 0 12 ?_
  refine sh ?_
  refine cM true [] ((dF h.iL ((nn.drop 0).take 12) (by simp; omega)).mc h.iL.rB.hb) ?_ (.g rfl ⟨rfl,⟨fun _=>wq (by omega),trivial⟩,trivial⟩)
  repeat (intro _; first|refine eK ?_|refine eP ?_)
  rw[dG (by simp; omega)]
  refine sh ?_
  refine az.one 100 ?_
  refine sh ?_
  refine aw (by rfl) ?_
  refine sh ?_
  refine sB 4 8 ?_
  refine sh ?_
  refine cM true [] ((dF h.iL ((nn.drop 4).take 8) (by simp; omega)).mc h.iL.rB.hb) ?_ (.g rfl ⟨rfl,⟨fun _=>wq (by omega),trivial⟩,trivial⟩)
  repeat (intro _; first|refine eK ?_|refine eP ?_)
  rw[dG (by simp; omega)]
  refine sh ?_
  refine az.one 100 ?_
  refine sh ?_
  refine aw (by rfl) ?_
  refine sh ?_
  refine sB 8 4 ?_
  refine sh ?_
  refine cM true [] ((dF h.iL ((nn.drop 8).take 4) (by simp; omega)).mc h.iL.rB.hb) ?_ (.g rfl ⟨rfl,⟨fun _=>wq (by omega),trivial⟩,trivial⟩)
  repeat (intro _; first|refine eK ?_|refine eP ?_)
  rw[dG (by simp; omega)]
  refine sh ?_
  refine az.one 100 ?_
  refine sh ?_
  refine aD (by rfl) ?_
  refine sh ?_
  exact rT
def aS(k nn:List UInt8)(c:Int):List UInt8:=(stt k nn c).out
theorem BD(k nn:List UInt8)(c:Int):(aS k nn c).length=64:=rfl
theorem pw.HL(s:pw):s.row=s.li.map fun x=>AV.int .u32 x:=rfl
theorem pw.wu(s:pw):s.li.length=16:=rfl
theorem P0{s:pw}{j r:Nat}{x y:Int}(hx:(s.rs 10).li[j]? =some x)(hy:s.li[j]? =some y)(hr:r<4):s.out[4*j+r]? =(zL (ad x y))[r]? :=by
 unfold pw.out
 rw[PZ (fun z hz=>by
  obtain⟨a,b,_,rfl⟩:∃a b,True/\z=zL (ad a b):=by
   obtain⟨i,hi,rfl⟩:=List.getElem_of_mem hz
   exact⟨_,_,trivial,List.getElem_zipWith ..⟩
  rfl) hr,List.getElem?_zipWith,hx,hy]
 rfl
def plc:List AV:=[.int .i64 0,.int .i64 4,.int .i64 8,.int .i64 12,.int .i64 1,.int .i64 5,.int .i64 9,.int .i64 13,.int .i64 2,.int .i64 6,.int .i64 10,.int .i64 14,.int .i64 3,.int .i64 7,.int .i64 11,.int .i64 15,.int .i64 0,.int .i64 5,.int .i64 10,.int .i64 15,.int .i64 1,.int .i64 6,.int .i64 11,.int .i64 12,.int .i64 2,.int .i64 7,.int .i64 8,.int .i64 13,.int .i64 3,.int .i64 4,.int .i64 9,.int .i64 14]
set_option maxHeartbeats 8000000 in
theorem KF{R:Env}(h:GM R)(k nn:List UInt8)(c:Int)(hk:k.length=32)(hn:nn.length=12):R.Pc 610 [.agg (k.map b8),.int .u32 c,.agg (nn.map b8)] (.agg ((aS k nn c).map b8)):=
 h.NN.enter 200 rfl fun X bb hfit hp=>by
  refine tk (n:=32) ?_ (by simp[hk])
  refine tk (n:=12) ?_ (by simp[hn])
  refine sh ?_
  refine aj.pure h.JG.Ty.hb (KE h.JG k nn c hk hn) (by simp[AV.au,AV.names]) ?_
  unfold aS
  generalize stt k nn c=s
  refine sh ?_
  refine mw 200 (fun i:Nat=>i<=10) (fun i=>⟨[(6,.loc 2 1 0 0),(7,.loc 3 1 0 0),(8,.loc 4 1 0 0),(9,.loc 5 1 0 0),(30,.int .i64 i)],[(2,.var (R.ty 82) (List.replicate 64 (.int .u8 0))),(3,.var (R.ty 88) s.row),(4,.var (R.ty 88) (s.rs i).row),(5,.var (R.ty 89) plc)],6⟩) (fun i=>10 - i) (0) ?_ ?_
  ·exact Nat.zero_le _
  ·intro i hi
   dsimp only
   generalize hg:s.rs i=g
   refine sh ?_
   refine cS (fun h1=> ?_) (fun h1=> ?_)
   ·refine sh ?_
    refine az.one 100 ?_
    refine sh ?_
    refine aw (by rfl) ?_
    refine sh ?_
    refine aj.pure h.lE.xj.hb (fV h.lE ⟨g.a,g.e,g.i,g.m⟩) rfl ?_
    refine sh ?_
    refine az.one 100 ?_
    refine sh ?_
    refine aw (by rfl) ?_
    refine sh ?_
    refine aj.pure h.lE.xj.hb (fV h.lE ⟨g.b,g.f,g.j,g.n⟩) rfl ?_
    refine sh ?_
    refine az.one 100 ?_
    refine sh ?_
    refine aw (by rfl) ?_
    refine sh ?_
    refine aj.pure h.lE.xj.hb (fV h.lE ⟨g.c,g.g,g.k,g.o⟩) rfl ?_
    refine sh ?_
    refine az.one 100 ?_
    refine sh ?_
    refine aw (by rfl) ?_
    refine sh ?_
    refine aj.pure h.lE.xj.hb (fV h.lE ⟨g.d,g.h,g.l,g.p⟩) rfl ?_
    refine sh ?_
    refine az.one 100 ?_
    refine sh ?_
    refine aw (by rfl) ?_
    refine sh ?_
    refine aj.pure h.lE.xj.hb (fV h.lE ⟨g.r1.a,g.r1.f,g.r1.k,g.r1.p⟩) rfl ?_
    refine sh ?_
    refine az.one 100 ?_
    refine sh ?_
    refine aw (by rfl) ?_
    refine sh ?_
    refine aj.pure h.lE.xj.hb (fV h.lE ⟨g.r1.b,g.r1.g,g.r1.l,g.r1.m⟩) rfl ?_
    refine sh ?_
    refine az.one 100 ?_
    refine sh ?_
    refine aw (by rfl) ?_
    refine sh ?_
    refine aj.pure h.lE.xj.hb (fV h.lE ⟨g.r1.c,g.r1.h,g.r1.i,g.r1.n⟩) rfl ?_
    refine sh ?_
    refine az.one 100 ?_
    refine sh ?_
    refine aw (by rfl) ?_
    refine sh ?_
    refine aj.pure h.lE.xj.hb (fV h.lE ⟨g.r1.d,g.r1.e,g.r1.j,g.r1.o⟩) rfl ?_
    refine sh ?_
    refine az.one 100 ?_
    refine sh ?_
    refine aD (by rfl) ?_
    subst hg
    refine sh ?_
    refine yP (i+1) ?_ ?_
    ·omega
    ·omega
   ·obtain rfl:i=10:=by omega
    have ho:∀(j r:Nat)(x y:Int),g.li[j]? =some x->s.li[j]? =some y->r<4->s.out[4*j+r]? =(zL (ad x y))[r]? :=fun j r x y h1 h2 h3=>P0 (by rw[hg]; exact h1) h2 h3
    have hL:=s.BB
    clear hg hi h1
    generalize s.out=L at hL ho ⊢
    refine sh ?_
    refine mw 200 (fun j:Nat=>j<=16) (fun j=>⟨[(6,.loc 2 1 0 0),(7,.loc 3 1 0 0),(13,.loc 6 1 0 0),(76,.agg g.row),(77,.int .i64 j)],[(2,.var (R.ty 82) (List.replicate 64 (.int .u8 0))),(3,.var (R.ty 88) s.row),(6,.var (R.ty 82) (((L.take (4*j)).map b8)++List.replicate (64 - 4*j) (.int .u8 0)))],7⟩) (fun j=>16 - j) (0) ?_ ?_
    ·exact Nat.zero_le _
    ·intro j hj
     dsimp only
     refine sh ?_
     refine cS (fun h2=> ?_) (fun h2=> ?_)
     ·obtain⟨x,hx⟩:∃u,g.li[j]? =some u:=⟨_,List.getElem?_eq_getElem (by rw[pw.wu]; omega)⟩
      obtain⟨y,hy⟩:∃u,s.li[j]? =some u:=⟨_,List.getElem?_eq_getElem (by rw[pw.wu]; omega)⟩
      have o:∀r,r<4->L[4*j+r]? =(zL (ad x y))[r]? :=fun r hr=>ho j r x y hx hy hr
      refine sh ?_
      refine⟨⟨by omega,by omega⟩,ap1 (.int .u32 x) ?_ (by rw[pw.HL,List.getElem?_map,show (Int.toNat (j:Int))*1=j by omega,hx]; rfl)⟩
      refine sh ?_
      refine⟨⟨by omega,by omega⟩,Nn (.int .u32 y) ?_ (by rw[pw.HL,List.getElem?_map,show 0+ (Int.toNat (j:Int))*1=j by omega,hy]; rfl)⟩
      refine sh ?_
      refine ai ?_
      refine sh ?_
      refine ai ?_
      refine sh ?_
      refine ai ?_
      refine sh ?_
      refine ai ?_
      refine sh ?_
      refine ai ?_
      refine sh ?_
      refine⟨⟨by omega,by omega⟩,QO (4*j) ((L.take (4*j+1)).map b8++List.replicate (64 - (4*j+1)) (.int .u8 0)) ?_ (by show List.set _ _ (AV.int .u8 (wr .u8 (ad x y)))=_; rw[Cr]; exact xv (o 0 (by omega)) (by omega)) (by omega) (by simp[hL]; omega)⟩
      refine sh ?_
      refine⟨⟨by omega,by omega⟩,QO (4*j+1) ((L.take (4*j+2)).map b8++List.replicate (64 - (4*j+2)) (.int .u8 0)) ?_ (by show List.set _ _ (AV.int .u8 (wr .u8 (bA .u32 (ad x y) 8)))=_; rw[Cr]; exact xv (o 1 (by omega)) (by omega)) (by omega) (by simp[hL]; omega)⟩
      refine sh ?_
      refine⟨⟨by omega,by omega⟩,QO (4*j+2) ((L.take (4*j+3)).map b8++List.replicate (64 - (4*j+3)) (.int .u8 0)) ?_ (by show List.set _ _ (AV.int .u8 (wr .u8 (bA .u32 (ad x y) 16)))=_; rw[Cr]; exact xv (o 2 (by omega)) (by omega)) (by omega) (by simp[hL]; omega)⟩
      refine sh ?_
      refine⟨⟨by omega,by omega⟩,QO (4*j+3) ((L.take (4* (j+1))).map b8++List.replicate (64 - (4* (j+1))) (.int .u8 0)) ?_ (by show List.set _ _ (AV.int .u8 (wr .u8 (bA .u32 (ad x y) 24)))=_; rw[Cr]; exact xv (o 3 (by omega)) (by omega)) (by omega) (by simp[hL]; omega)⟩
      refine sh ?_
      refine nX (j+1) ?_ ?_ ⟨_,hp,rfl⟩ ?_ ?_
      ·omega
      ·omega
      ·all_goals repeat' (first|exact True.intro|refine And.intro ?_ ?_|(intro _u; clear _u)|(with_reducible first|exact aU.fg|refine eM ?_ ?_|refine eF ?_ ?_ ?_|refine eN ?_|refine eL ?_ ?_ ?_|refine eA ?_ ?_|refine bp.mk ⟨_,hp,rfl⟩ ?_ ?_)|refine bp.mk ⟨_,hp,rfl⟩ ?_ ?_)
       all_goals try first|with_reducible rfl|omega|exact .inl (by decide)|(simp; done)|rfl
      ·all_goals repeat' (first|exact True.intro|refine And.intro ?_ ?_|(intro _u; clear _u)|(with_reducible first|exact aU.fg|refine eM ?_ ?_|refine eF ?_ ?_ ?_|refine eN ?_|refine eL ?_ ?_ ?_|refine eA ?_ ?_|refine bp.mk ⟨_,hp,rfl⟩ ?_ ?_)|refine bp.mk ⟨_,hp,rfl⟩ ?_ ?_)
       all_goals try first|with_reducible rfl|omega|exact .inl (by decide)|(simp; done)|rfl
       all_goals first|exact tC (yR.2 ⟨aY _,yS⟩)|exact tD (yR.2 ⟨aY _,yS⟩)
     ·obtain rfl:j=16:=by omega
      have hr:((L.take (4*16)).map b8++List.replicate (64 - 4*16) (AV.int .u8 0))=L.map b8:=by rw[List.take_of_length_le (by simp[hL])]; simp
      rw[hr]
      refine tk (l:=L.map b8) ?_ (by rw[List.length_map,hL])
      refine li (vs:=L.map b8) (n:=64) ?_ (by rw[List.length_map,hL])
      refine ov (vs:=L.map b8) (cs:=List.replicate 64 (.int .u8 0)) ?_ (by rw[List.length_map,hL]; rfl)
      refine tk (l:=L.map b8) ?_ (by rw[List.length_map,hL])
      refine sh ?_
      refine rT ?_
      all_goals repeat' (first|exact True.intro|refine And.intro ?_ ?_|(intro _u; clear _u)|(with_reducible first|exact aU.fg|refine eM ?_ ?_|refine eF ?_ ?_ ?_|refine eN ?_|refine eL ?_ ?_ ?_|refine eA ?_ ?_|refine bp.mk ⟨_,hp,rfl⟩ ?_ ?_)|refine bp.mk ⟨_,hp,rfl⟩ ?_ ?_)
      all_goals try first|with_reducible rfl|omega|exact .inl (by decide)|(simp; done)|rfl
      exact ZX (aY _)
end Go.UM
namespace Go.UM
open Go.AM
set_option maxRecDepth 4000
def rG(l:List Int):List AV:=l.map (AV.int .u32)
theorem cP(l:List Int):iA (rG l):=fun v h=>by obtain⟨c,_,rfl⟩:=List.mem_map.1 h; exact⟨_,_,rfl⟩
@[simp] theorem L3(l:List Int):(rG l).length=l.length:=by simp[rG]
theorem QW{row:List AV}{W:List Int}{off n:Nat}{K:AV->Prop}(e:row=rG W)(ho:off=n)(k:K (.int .u32 (W.getD n 0)))(h:n<W.length):nP false 1 off row K:=by
 subst e; subst ho
 exact Nn _ k (by simp[rG,List.getElem?_map,List.getD_eq_getElem?_getD,h])
theorem Yc{l:List UInt8}{off n:Nat}{K:AV->Prop}(ho:off=n)(k:K (b8 (l.getD n 0)))(h:n<l.length):nP false 1 off (l.map b8) K:=by
 subst ho
 exact Nn _ k (by simp[List.getElem?_map,List.getD_eq_getElem?_getD,h])
theorem spU{W:List Int}{off:Nat}{x:Int}{K:List AV->Prop}(n:Nat)(k:K (rG (W.set n x)))(ho:off=n)(h:n<W.length):iJ off [.int .u32 x] (rG W) K:=
 QO n _ k (by simp[rG,List.map_set]) ho (by simpa using h)
theorem jT{R:Env}(h:ON R)(x n:Int)(hn:n=7\/ n=18\/ n=17\/ n=19\/ n=6\/ n=11\/ n=25\/ n=2\/ n=13\/ n=22):R.Pc 641 [.int .u32 x,.int .i64 n] (.int .u32 (rotl x (32 - n))):=by
 have e1:wr .i64 (0 - n)=0 - n:=tB (k:= .i64) (by simp only[ed]; omega)
 have e2:da .and .u64 (wr .u64 (0 - n)) 31=32 - n:=by rcases hn with rfl|rfl|rfl|rfl|rfl|rfl|rfl|rfl|rfl|rfl<;>decide
 have cr:R.Pc 680 [.int .u32 x,.int .i64 (0 - n)] (.int .u32 (rotl x (32 - n))):=
  h.pb.Ba.enter 60 rfl fun X bb hfit hp=>by
   have e3:wr .u64 (32 - (32 - n))=32 - (32 - n):=tB (k:= .u64) (by simp only[ed]; omega)
   refine sh ?_
   refine ai ?_
   refine sh ?_
   refine rT ?_
   all_goals repeat' (first|exact True.intro|refine And.intro ?_ ?_|(intro _u; clear _u)|(with_reducible first|exact aU.fg|refine eM ?_ ?_|refine eF ?_ ?_ ?_|refine eN ?_|refine eL ?_ ?_ ?_|refine eA ?_ ?_|refine bp.mk ⟨_,hp,rfl⟩ ?_ ?_)|refine bp.mk ⟨_,hp,rfl⟩ ?_ ?_)
   all_goals try first|with_reducible rfl|omega|exact .inl (by decide)|(simp; done)|rfl
   rw[e2]
   rfl
 exact h.tH.enter 60 rfl fun X bb hfit hp=>by
  refine sh ?_
  refine aj.pure h.pb.Ba.hb cr rfl ?_
  refine sh ?_
  exact rT
def lH(x y:Int):Int:=wr .u32 (x+y)
def ua(x y:Int):Int:=da .xor .u32 x y
def HM(x y:Int):Int:=da .and .u32 x y
def P1(x y:Int):Int:=da .or .u32 x y
def rr(x n:Int):Int:=rotl x (32 - n)
def shA(l:List UInt8)(i:Nat):Int:=P1 (P1 (P1 (jZ .u32 (wr .u32 (l.getD (4*i) 0).toNat) 24) (jZ .u32 (wr .u32 (l.getD (4*i+1) 0).toNat) 16)) (jZ .u32 (wr .u32 (l.getD (4*i+2) 0).toNat) 8)) (wr .u32 (l.getD (4*i+3) 0).toNat)
def shB(W:List Int)(i:Nat):Int:=lH (lH (lH (W.getD (i - 16) 0) (ua (ua (rr (W.getD (i - 15) 0) 7) (rr (W.getD (i - 15) 0) 18)) (bA .u32 (W.getD (i - 15) 0) 3))) (W.getD (i - 7) 0)) (ua (ua (rr (W.getD (i - 2) 0) 17) (rr (W.getD (i - 2) 0) 19)) (bA .u32 (W.getD (i - 2) 0) 10))
def xD(l:List UInt8):Nat->List Int
 |0=>List.replicate 64 0
 |i+1=>(xD l i).set i (if i<16 then shA l i else shB (xD l i) i)
theorem ub(l:List UInt8):∀i,(xD l i).length=64
 |0=>rfl
 |i+1=>by rw[xD,List.length_set]; exact ub l i
structure S8 where
 a:Int
 b:Int
 c:Int
 d:Int
 e:Int
 f:Int
 g:Int
 h:Int
def S8.row(s:S8):List AV:=[.int .u32 s.a,.int .u32 s.b,.int .u32 s.c,.int .u32 s.d,.int .u32 s.e,.int .u32 s.f,.int .u32 s.g,.int .u32 s.h]
def S8.step(s:S8)(k w:Int):S8:=
 let t1:=lH (lH (lH (lH s.h (ua (ua (rr s.e 6) (rr s.e 11)) (rr s.e 25))) (ua (HM s.e s.f) (HM (da .xor .u32 (IntKind.max .u32) s.e) s.g))) k) w
 ⟨lH t1 (lH (ua (ua (rr s.a 2) (rr s.a 13)) (rr s.a 22)) (ua (ua (HM s.a s.b) (HM s.a s.c)) (HM s.b s.c))),s.a,s.b,s.c,lH s.d t1,s.e,s.f,s.g⟩
def shK:List Int:=[1116352408,1899447441,3049323471,3921009573,961987163,1508970993,2453635748,2870763221,3624381080,310598401,607225278,1426881987,1925078388,2162078206,2614888103,3248222580,3835390401,4022224774,264347078,604807628,770255983,1249150122,1555081692,1996064986,2554220882,2821834349,2952996808,3210313671,3336571891,3584528711,113926993,338241895,666307205,773529912,1294757372,1396182291,1695183700,1986661051,2177026350,2456956037,2730485921,2820302411,3259730800,3345764771,3516065817,3600352804,4094571909,275423344,430227734,506948616,659060556,883997877,958139571,1322822218,1537002063,1747873779,1955562222,2024104815,2227730452,2361852424,2428436474,2756734187,3204031479,3329325298]
def S8.rs(h:S8)(W:List Int):Nat->S8
 |0=>h
 |i+1=>(S8.rs h W i).step (shK.getD i 0) (W.getD i 0)
def S8.ad(s h:S8):S8:=⟨lH s.a h.a,lH s.b h.b,lH s.c h.c,lH s.d h.d,lH s.e h.e,lH s.f h.f,lH s.g h.g,lH s.h h.h⟩
def uc(h:S8)(l:List UInt8):S8:=(h.rs (xD l 64) 64).ad h
set_option maxHeartbeats 4000000 in
theorem KG{R:Env}(h:OO R)(s:S8)(l:List UInt8)(hl:l.length=64):R.Pc 608 [.agg s.row,.agg (l.map b8)] (.agg (uc s l).row):=
 h.UW.enter 300 rfl fun X bb hfit hp=>by
  generalize hq:uc s l=q
  unfold uc at hq
  refine sh ?_
  refine az.inv 300 (fun j:Nat=>j<=64) (fun j=>⟨[(2,.loc 0 1 0 0),(3,.loc 1 1 0 0),(4,.loc 2 1 0 0),(5,.loc 3 1 0 0),(6,.loc 4 1 0 0),(18,.int .i64 j)],[(0,.var (R.ty 86) s.row),(1,.var (R.ty 82) (l.map b8)),(2,.var (R.ty 86) (List.replicate 8 (.int .u32 0))),(3,.var (R.ty 87) (rG shK)),(4,.var (R.ty 87) (rG (xD l j)))],5⟩) (fun j=>64 - j) (0) ?_ ⟨⟨_,hp,rfl⟩,?_,?_⟩ ?_
  ·exact Nat.zero_le _
  ·all_goals repeat' (first|exact True.intro|refine And.intro ?_ ?_|(intro _u; clear _u)|(with_reducible first|exact aU.fg|refine eM ?_ ?_|refine eF ?_ ?_ ?_|refine eN ?_|refine eL ?_ ?_ ?_|refine eA ?_ ?_|refine bp.mk ⟨_,hp,rfl⟩ ?_ ?_)|refine bp.mk ⟨_,hp,rfl⟩ ?_ ?_)
   all_goals try first|with_reducible rfl|omega|exact .inl (by decide)|(simp; done)|rfl
   all_goals first|exact tC (aY _)|exact tD (aY _)
  ·all_goals repeat' (first|exact True.intro|refine And.intro ?_ ?_|(intro _u; clear _u)|(with_reducible first|exact aU.fg|refine eM ?_ ?_|refine eF ?_ ?_ ?_|refine eN ?_|refine eL ?_ ?_ ?_|refine eA ?_ ?_|refine bp.mk ⟨_,hp,rfl⟩ ?_ ?_)|refine bp.mk ⟨_,hp,rfl⟩ ?_ ?_)
   all_goals try first|with_reducible rfl|omega|exact .inl (by decide)|(simp; done)|rfl
   all_goals first|exact tC (aY _)|exact tD (aY _)
  ·intro j hj
   dsimp only
   have hW:=ub l j
   refine sh ?_
   refine cS (fun hc=> ?_) (fun hc=> ?_)
   ·have hj1:j<64:=by omega
    refine sh ?_
    refine cS (fun h16=> ?_) (fun h16=> ?_)
    ·have V9:j<16:=by omega
     have hE:xD l (j+1)=(xD l j).set j (shA l j):=by rw[xD,if_pos V9]
     refine sh ?_
     refine⟨⟨by omega,by omega⟩,Yc (n:=4*j) (by omega) ?_ (by omega)⟩
     refine sh ?_
     refine ai ?_
     refine sh ?_
     refine⟨⟨by omega,by omega⟩,Yc (n:=4*j+1) (by omega) ?_ (by omega)⟩
     refine sh ?_
     refine ai ?_
     refine sh ?_
     refine⟨⟨by omega,by omega⟩,Yc (n:=4*j+2) (by omega) ?_ (by omega)⟩
     refine sh ?_
     refine ai ?_
     refine sh ?_
     refine⟨⟨by omega,by omega⟩,Yc (n:=4*j+3) (by omega) ?_ (by omega)⟩
     refine sh ?_
     refine ai ?_
     refine sh ?_
     refine⟨⟨by omega,by omega⟩,spU j ?_ (by omega) (by omega)⟩
     refine sh ?_
     refine nX (j+1) ?_ ?_ ⟨_,hp,rfl⟩ ?_ ?_
     ·omega
     ·omega
     ·all_goals repeat' (first|exact True.intro|refine And.intro ?_ ?_|(intro _u; clear _u)|(with_reducible first|exact aU.fg|refine eM ?_ ?_|refine eF ?_ ?_ ?_|refine eN ?_|refine eL ?_ ?_ ?_|refine eA ?_ ?_|refine bp.mk ⟨_,hp,rfl⟩ ?_ ?_)|refine bp.mk ⟨_,hp,rfl⟩ ?_ ?_)
      all_goals try first|with_reducible rfl|omega|exact .inl (by decide)|(simp; done)|rfl
      all_goals first|exact tC (aY _)|exact tD (aY _)|exact tD (cP _)|(rw[hE]; exact tC (cP _))
     ·all_goals repeat' (first|exact True.intro|refine And.intro ?_ ?_|(intro _u; clear _u)|(with_reducible first|exact aU.fg|refine eM ?_ ?_|refine eF ?_ ?_ ?_|refine eN ?_|refine eL ?_ ?_ ?_|refine eA ?_ ?_|refine bp.mk ⟨_,hp,rfl⟩ ?_ ?_)|refine bp.mk ⟨_,hp,rfl⟩ ?_ ?_)
      all_goals try first|with_reducible rfl|omega|exact .inl (by decide)|(simp; done)|rfl
      all_goals first|exact tC (aY _)|exact tD (aY _)|exact tD (cP _)|(rw[hE]; exact tC (cP _))
    ·have V9:16<=j:=by omega
     have hE:xD l (j+1)=(xD l j).set j (shB (xD l j) j):=by rw[xD,if_neg (by omega)]
     refine sh ?_
     refine⟨⟨by omega,by omega⟩,QW (n:=j - 15) rfl (by omega) ?_ (by omega)⟩
     refine sh ?_
     refine⟨⟨by omega,by omega⟩,QW (n:=j - 2) rfl (by omega) ?_ (by omega)⟩
     refine sh ?_
     refine⟨⟨by omega,by omega⟩,QW (n:=j - 16) rfl (by omega) ?_ (by omega)⟩
     refine sh ?_
     refine aj.pure h.jv.tH.hb (jT h.jv ((xD l j).getD (j - 15) 0) 7 (by omega)) rfl ?_
     refine sh ?_
     refine aj.pure h.jv.tH.hb (jT h.jv ((xD l j).getD (j - 15) 0) 18 (by omega)) rfl ?_
     refine sh ?_
     refine ai ?_
     refine sh ?_
     refine⟨⟨by omega,by omega⟩,QW (n:=j - 7) rfl (by omega) ?_ (by omega)⟩
     refine sh ?_
     refine ai ?_
     refine sh ?_
     refine aj.pure h.jv.tH.hb (jT h.jv ((xD l j).getD (j - 2) 0) 17 (by omega)) rfl ?_
     refine sh ?_
     refine aj.pure h.jv.tH.hb (jT h.jv ((xD l j).getD (j - 2) 0) 19 (by omega)) rfl ?_
     refine sh ?_
     refine ai ?_
     refine sh ?_
     refine⟨⟨by omega,by omega⟩,spU j ?_ (by omega) (by omega)⟩
     refine sh ?_
     refine nX (j+1) ?_ ?_ ⟨_,hp,rfl⟩ ?_ ?_
     ·omega
     ·omega
     ·all_goals repeat' (first|exact True.intro|refine And.intro ?_ ?_|(intro _u; clear _u)|(with_reducible first|exact aU.fg|refine eM ?_ ?_|refine eF ?_ ?_ ?_|refine eN ?_|refine eL ?_ ?_ ?_|refine eA ?_ ?_|refine bp.mk ⟨_,hp,rfl⟩ ?_ ?_)|refine bp.mk ⟨_,hp,rfl⟩ ?_ ?_)
      all_goals try first|with_reducible rfl|omega|exact .inl (by decide)|(simp; done)|rfl
      all_goals first|exact tC (aY _)|exact tD (aY _)|exact tD (cP _)|(rw[hE]; exact tC (cP _))
     ·all_goals repeat' (first|exact True.intro|refine And.intro ?_ ?_|(intro _u; clear _u)|(with_reducible first|exact aU.fg|refine eM ?_ ?_|refine eF ?_ ?_ ?_|refine eN ?_|refine eL ?_ ?_ ?_|refine eA ?_ ?_|refine bp.mk ⟨_,hp,rfl⟩ ?_ ?_)|refine bp.mk ⟨_,hp,rfl⟩ ?_ ?_)
      all_goals try first|with_reducible rfl|omega|exact .inl (by decide)|(simp; done)|rfl
      all_goals first|exact tC (aY _)|exact tD (aY _)|exact tD (cP _)|(rw[hE]; exact tC (cP _))
   ·obtain rfl:j=64:=by omega
    generalize xD l 64=W at hq hW ⊢
    refine sh ?_
    refine az.inv 300 (fun j:Nat=>j<=64) (fun j=>⟨[(2,.loc 0 1 0 0),(4,.loc 2 1 0 0),(5,.loc 3 1 0 0),(6,.loc 4 1 0 0),(10,.loc 5 1 0 0),(93,.int .i64 j)],[(0,.var (R.ty 86) s.row),(1,.var (R.ty 82) (l.map b8)),(2,.var (R.ty 86) (List.replicate 8 (.int .u32 0))),(3,.var (R.ty 87) (rG shK)),(4,.var (R.ty 87) (rG W)),(5,.var (R.ty 86) (s.rs W j).row)],6⟩) (fun j=>64 - j) (0) ?_ ⟨⟨_,hp,rfl⟩,?_,?_⟩ ?_
    ·exact Nat.zero_le _
    ·all_goals repeat' (first|exact True.intro|refine And.intro ?_ ?_|(intro _u; clear _u)|(with_reducible first|exact aU.fg|refine eM ?_ ?_|refine eF ?_ ?_ ?_|refine eN ?_|refine eL ?_ ?_ ?_|refine eA ?_ ?_|refine bp.mk ⟨_,hp,rfl⟩ ?_ ?_)|refine bp.mk ⟨_,hp,rfl⟩ ?_ ?_)
     all_goals try first|with_reducible rfl|omega|exact .inl (by decide)|(simp; done)|rfl
     all_goals first|exact tC (aY _)|exact tD (aY _)|exact tC (cP _)|exact tD (cP _)
    ·all_goals repeat' (first|exact True.intro|refine And.intro ?_ ?_|(intro _u; clear _u)|(with_reducible first|exact aU.fg|refine eM ?_ ?_|refine eF ?_ ?_ ?_|refine eN ?_|refine eL ?_ ?_ ?_|refine eA ?_ ?_|refine bp.mk ⟨_,hp,rfl⟩ ?_ ?_)|refine bp.mk ⟨_,hp,rfl⟩ ?_ ?_)
     all_goals try first|with_reducible rfl|omega|exact .inl (by decide)|(simp; done)|rfl
     all_goals first|exact tC (aY _)|exact tD (aY _)|exact tC (cP _)|exact tD (cP _)
    ·intro j hj
     dsimp only
     refine sh ?_
     refine cS (fun jV=> ?_) (fun jV=> ?_)
     ·have hj1:j<64:=by omega
      refine sh ?_
      refine aj.pure h.jv.tH.hb (jT h.jv (s.rs W j).e 6 (by omega)) rfl ?_
      refine sh ?_
      refine aj.pure h.jv.tH.hb (jT h.jv (s.rs W j).e 11 (by omega)) rfl ?_
      refine sh ?_
      refine aj.pure h.jv.tH.hb (jT h.jv (s.rs W j).e 25 (by omega)) rfl ?_
      refine sh ?_
      refine ai ?_
      refine sh ?_
      refine ai ?_
      refine sh ?_
      refine⟨⟨by omega,by omega⟩,QW (n:=j) rfl (by omega) ?_ (by show j<64; omega)⟩
      refine sh ?_
      refine ai ?_
      refine sh ?_
      refine⟨⟨by omega,by omega⟩,QW (n:=j) rfl (by omega) ?_ (by omega)⟩
      refine sh ?_
      refine ai ?_
      refine sh ?_
      refine aj.pure h.jv.tH.hb (jT h.jv (s.rs W j).a 2 (by omega)) rfl ?_
      refine sh ?_
      refine aj.pure h.jv.tH.hb (jT h.jv (s.rs W j).a 13 (by omega)) rfl ?_
      refine sh ?_
      refine aj.pure h.jv.tH.hb (jT h.jv (s.rs W j).a 22 (by omega)) rfl ?_
      refine sh ?_
      refine ai ?_
      refine sh ?_
      refine ai ?_
      refine sh ?_
      refine ai ?_
      refine sh ?_
      refine nX (j+1) ?_ ?_ ⟨_,hp,rfl⟩ ?_ ?_
      ·omega
      ·omega
      ·all_goals repeat' (first|exact True.intro|refine And.intro ?_ ?_|(intro _u; clear _u)|(with_reducible first|exact aU.fg|refine eM ?_ ?_|refine eF ?_ ?_ ?_|refine eN ?_|refine eL ?_ ?_ ?_|refine eA ?_ ?_|refine bp.mk ⟨_,hp,rfl⟩ ?_ ?_)|refine bp.mk ⟨_,hp,rfl⟩ ?_ ?_)
       all_goals try first|with_reducible rfl|omega|exact .inl (by decide)|(simp; done)|rfl
       all_goals first|exact tC (aY _)|exact tD (aY _)|exact tC (cP _)|exact tD (cP _)
      ·all_goals repeat' (first|exact True.intro|refine And.intro ?_ ?_|(intro _u; clear _u)|(with_reducible first|exact aU.fg|refine eM ?_ ?_|refine eF ?_ ?_ ?_|refine eN ?_|refine eL ?_ ?_ ?_|refine eA ?_ ?_|refine bp.mk ⟨_,hp,rfl⟩ ?_ ?_)|refine bp.mk ⟨_,hp,rfl⟩ ?_ ?_)
       all_goals try first|with_reducible rfl|omega|exact .inl (by decide)|(simp; done)|rfl
       all_goals first|exact tC (aY _)|exact tD (aY _)|exact tC (cP _)|exact tD (cP _)
     ·obtain rfl:j=64:=by omega
      generalize s.rs W 64=z at hq ⊢
      iterate 8
       refine sh ?_
       refine az.one 100 ?_
       refine sh ?_
       refine aw (by rfl) ?_
       refine sh ?_
       refine ai ?_
      refine sh ?_
      refine az.one 100 ?_
      refine sh ?_
      refine aD (by rfl) ?_
      subst hq
      refine sh ?_
      exact rT
end Go.UM
namespace Go.UM
open Go.AM
set_option maxRecDepth 4000
def HN:Array Value->Sem Value:=fun args=>do
 let (x,y,c)<-Extern.MathBitsCarry.three "Add64" args
 pure (Extern.MathBitsCarry.pair ((x+y+c) % Extern.MathBitsCarry.m64) ((x+y+c) / Extern.MathBitsCarry.m64))
theorem Et{P:Program}(x y b:Nat)(hb:b<=1)(w:World):(HN #[.int .u64 x,.int .u64 y,.int .u64 b]).run P w=
  .ok (.tuple #[.int .u64 (((x+y+b) % 18446744073709551616:Nat):Int),.int .u64 (((x+y+b) / 18446744073709551616:Nat):Int)]) w:=by
 have:b=0\/ b=1:=by omega
 rcases this with rfl|rfl<;>rfl
theorem Eu{fn:Func}(hn:fn.name= "math/bits.Add64")(ho:fn.origin= ""):(fn.name== "runtime.NumGoroutine")=false/\Extern.findNext fn=none/\Extern.find fn=some HN:=by
 obtain⟨name,origin⟩:=fn
 simp only at hn ho
 subst hn; subst ho
 exact⟨by kernel_rfl,by kernel_rfl,by kernel_rfl⟩
def rH(x y c:Int):Int:=(x+y+c) % 18446744073709551616
def qY(x y c:Int):Int:=(x+y+c) / 18446744073709551616
theorem dH(x y c:Int):dg (rH x y c):=by unfold rH; exact⟨by omega,by omega⟩
theorem dI{x y c:Int}(hx:dg x)(hy:dg y)(hc:0<=c/\c<=1):0<=qY x y c/\qY x y c<=1:=by
 obtain⟨h1,h2⟩:=hx
 obtain⟨h3,h4⟩:=hy
 unfold qY; omega
theorem cH{R:Env}(h:R.Xn 682 "math/bits.Add64"){x y b:Int}(hx:dg x)(hy:dg y)(hb:0<=b/\b<=1):
  FL R.P (R.ft 682) [.int .u64 x,.int .u64 y,.int .u64 b] (.aG [.int .u64 (rH x y b),.int .u64 (qY x y b)]):=by
 obtain⟨fn,hf,hn,ho,hbd⟩:=h.fn
 obtain⟨r1,r2,r3⟩:=Eu hn ho
 obtain⟨hx1,hx2⟩:=hx
 obtain⟨hy1,hy2⟩:=hy
 intro ρ L I N w vs hv
 obtain⟨hl,hr⟩:=hv
 obtain⟨v0,v1,v2,rfl⟩:∃v0 v1 v2,vs=[v0,v1,v2]:=by
  match vs,hl with
  |[a,b,c],_=>exact⟨a,b,c,rfl⟩
 have e0:aM ρ L I w N (.int .u64 x) v0:=hr 0 (by simp)
 have e1:aM ρ L I w N (.int .u64 y) v1:=hr 1 (by simp)
 have e2:aM ρ L I w N (.int .u64 b) v2:=hr 2 (by simp)
 cases e0; cases e1; cases e2
 obtain⟨X,rfl⟩:=Int.eq_ofNat_of_zero_le hx1
 obtain⟨Y,rfl⟩:=Int.eq_ofNat_of_zero_le hy1
 obtain⟨B,rfl⟩:=Int.eq_ofNat_of_zero_le hb.1
 refine⟨_,by rw[run_callFunc_extern hf r1 hbd r2 r3,show ([Value.int .u64 (X:Int),.int .u64 (Y:Int),.int .u64 (B:Int)].toArray)= #[Value.int .u64 (X:Int),.int .u64 (Y:Int),.int .u64 (B:Int)]from rfl,Et X Y B (by omega)]; rfl,?_⟩
 have q1:rH X Y B=(((X+Y+B) % 18446744073709551616:Nat):Int):=by unfold rH; omega
 have q2:qY X Y B=(((X+Y+B) / 18446744073709551616:Nat):Int):=by unfold qY; omega
 rw[q1,q2]
 refine aM.aG _ _ rfl ?_
 intro j hj
 match j,hj with
 |0,_=>exact aM.int _ _
 |1,_=>exact aM.int _ _
theorem qk(l:List UInt8):dg (le (l.take 8):Nat):=by
 have h:=tJ (l.take 8)
 have h2:256 ^ (l.take 8).length<=256 ^ 8:=Nat.pow_le_pow_right (by decide) (by simp; omega)
 exact⟨by omega,by omega⟩
theorem ql{R:Env}(h:JJ R)(l:List UInt8)(hl:8<=l.length):R.Pc 645 [.aH 1 (aq l)] (.int .u64 (le (l.take 8):Nat)):=
 h.xk.enter 60 rfl fun X bb hfit hp=>by
  refine sh ?_
  refine mw 100 (fun i:Nat=>i<=8) (fun i=>⟨[(0,.aH 1 (aq l)),(3,.int .u64 (le (l.take i):Nat)),(5,.int .i64 i)],[],0⟩) (fun i=>8 - i) (0) ?_ ?_
  ·exact Nat.zero_le _
  ·intro i hi
   dsimp only
   refine sh ?_
   refine cS (fun h5=> ?_) (fun h5=> ?_)
   ·obtain⟨x,hx⟩:∃u_,l[i]? =some u_:=⟨_,List.getElem?_eq_getElem (by first|omega|(simp<;>omega))⟩
    refine sh ?_
    refine bj hx ?_
    refine st ?_
    intro _u; clear _u
    refine qb (k:= .u64) (by have:=x.toNat_lt; simp only[ed]; omega) ?_
    refine sh ?_
    have hil:(l.take i).length=i:=by simp; omega
    have hle:=tJ (l.take i)
    rw[hil]at hle
    rw[rY hle x.toNat_lt (by omega)]
    refine nX (i+1) ?_ ?_ ⟨_,hp,rfl⟩ ?_ ?_
    ·omega
    ·omega
    ·all_goals repeat' (first|exact True.intro|refine And.intro ?_ ?_|(intro _u; clear _u)|(with_reducible first|exact aU.fg|refine eM ?_ ?_|refine eF ?_ ?_ ?_|refine eN ?_|refine eL ?_ ?_ ?_|refine eA ?_ ?_|refine bp.mk ⟨_,hp,rfl⟩ ?_ ?_)|refine bp.mk ⟨_,hp,rfl⟩ ?_ ?_)
     all_goals try first|with_reducible rfl|omega|exact .inl (by decide)|(simp; done)|rfl
     rw[aR hx,pf,hil]
    ·all_goals repeat' (first|exact True.intro|refine And.intro ?_ ?_|(intro _u; clear _u)|(with_reducible first|exact aU.fg|refine eM ?_ ?_|refine eF ?_ ?_ ?_|refine eN ?_|refine eL ?_ ?_ ?_|refine eA ?_ ?_|refine bp.mk ⟨_,hp,rfl⟩ ?_ ?_)|refine bp.mk ⟨_,hp,rfl⟩ ?_ ?_)
     all_goals try first|with_reducible rfl|omega|exact .inl (by decide)|(simp; done)|rfl
   ·obtain rfl:i=8:=by omega
    refine sh ?_
    exact rT
structure H3 where
 a:Int
 b:Int
 c:Int
structure H3.Ok(h:H3):Prop where
 a:dg h.a
 b:dg h.b
 c:dg h.c
def H3.row(h:H3):List AV:=[.int .u64 h.a,.int .u64 h.b,.int .u64 h.c]
theorem lk(x:Int):dg (wr .u64 x):=by
 have e:wr .u64 x=x % 18446744073709551616:=by simp[wr,IntKind.wrap,IntKind.bits,IntKind.signed]
 rw[e]; exact⟨by omega,by omega⟩
theorem fW{α:Sort _}(x:α):∃v,v=x:=⟨x,rfl⟩
def Bh(r:List AV):Prop:=r=[]\/∃r0 r1 s0 s1 n es,r=[.bool true,.int .u64 r0,.int .u64 r1,.int .u64 s0,.int .u64 s1,.aH 1 (aq es),.int .i64 n]
theorem HO{R:Env}(h:NR R)(g:H3)(lo hi:Int)(ok:g.Ok)(hl:dg lo)(hh:dg hi):∃g':H3,g'.Ok/\∀(ty:Nat)(r:List AV),Bh r->R.Mc 683 [.loc 0 1 0 0,.int .u64 lo,.int .u64 hi] [(0,.var ty (g.row++r))] (.aG []) [(0,.var ty (g'.row++r))] 1:=by
 obtain⟨a,ea⟩:=fW (rH g.a lo 0)
 obtain⟨c1,KH⟩:=fW (qY g.a lo 0)
 have k1:0<=c1/\c1<=1:=by rw[KH]; exact dI ok.a hl ⟨by omega,by omega⟩
 obtain⟨b,eb⟩:=fW (rH g.b hi c1)
 obtain⟨c2,V'⟩:=fW (qY g.b hi c1)
 have k2:0<=c2/\c2<=1:=by rw[V']; exact dI ok.b hh k1
 obtain⟨c,ec⟩:=fW (wr .u64 (g.c+c2))
 have q1:=cH h.ik.kz ok.a hl (b:=0) ⟨by omega,by omega⟩
 have q2:=cH h.ik.kz ok.b hh k1
 rw[<-ea,<-KH]at q1
 rw[<-eb,<-V']at q2
 refine⟨⟨a,b,c⟩,⟨by rw[ea]; exact dH ..,by rw[eb]; exact dH ..,by rw[ec]; exact lk _⟩,fun ty r hr=> ?_⟩
 rcases hr with rfl|⟨r0,r1,s0,s1,n,es,rfl⟩
 ·exact h.TM.aL 100 1 rfl rfl rfl fun X bb hfit hp=>by
   refine sh ?_
   refine bB.mk ⟨_,q1,?_⟩
   refine sh ?_
   refine bB.mk ⟨_,q2,?_⟩
   refine sh ?_
   refine ai ?_
   rw[<-ec]
   refine sh ?_
   exact rM [0]
 ·exact h.TM.aL 100 1 rfl rfl rfl fun X bb hfit hp=>by
   refine sh ?_
   refine bB.mk ⟨_,q1,?_⟩
   refine sh ?_
   refine bB.mk ⟨_,q2,?_⟩
   refine sh ?_
   refine ai ?_
   rw[<-ec]
   refine sh ?_
   exact rM [0]
theorem ud(op:BinOp)(x y:Int):dg (da op .u64 x y):=by
 cases op<;>exact lk _
theorem HP{x:Int}(h:dg x):dg (bA .u64 x 2):=by
 obtain⟨h1,h2⟩:=h
 have e:bA .u64 x 2=x / 4:=by rw[G7 h1]; rfl
 rw[e]; exact⟨by omega,by omega⟩
theorem sc{x y:Int}(hx:dg x)(hy:dg y):dg (Kd (x*y)):=by
 obtain⟨h1,h2⟩:=hx
 obtain⟨h3,h4⟩:=hy
 have h5:0<=x*y:=Int.mul_nonneg h1 h3
 have h6:x*y<=18446744073709551615*18446744073709551615:=Int.mul_le_mul h2 h4 h3 (by omega)
 unfold Kd
 exact⟨by omega,by omega⟩
set_option maxHeartbeats 8000000 in
theorem KI{R:Env}(h:GQ R)(g:H3)(l:List UInt8)(r0 r1:Int)(ok:g.Ok)(hl:l.length=17)(Yd:dg r0)(Ye:dg r1):∃g':H3,g'.Ok/\∀(ty:Nat)(r:List AV),Bh r->R.Mc 647 [.loc 0 1 0 0,.agg (l.map b8),.int .u64 r0,.int .u64 r1] [(0,.var ty (g.row++r))] (.aG []) [(0,.var ty (g'.row++r))] 1:=by
 obtain⟨x,hx⟩:∃x,l[16]? =some x:=⟨_,List.getElem?_eq_getElem (by omega)⟩
 have hxl:=x.toNat_lt
 obtain⟨n0,Y'⟩:=fW ((le (((l.drop 0).take 8).take 8):Nat):Int)
 obtain⟨n1,en1⟩:=fW ((le (((l.drop 8).take 8).take 8):Nat):Int)
 have un0:dg n0:=by rw[Y']; exact qk _
 have un1:dg n1:=by rw[en1]; exact qk _
 have w0:=ql h.lF ((l.drop 0).take 8) (by simp; omega)
 have w1:=ql h.lF ((l.drop 8).take 8) (by simp; omega)
 rw[<-Y']at w0
 rw[<-en1]at w1
 have zM:(0:Int)<=0/\(0:Int)<=1:=⟨by omega,by omega⟩
 have u0:dg 0:=⟨by omega,by omega⟩
 obtain⟨a1,Wa⟩:=fW (rH g.a n0 0)
 have QX:dg a1:=by rw[Wa]; exact dH ..
 obtain⟨k1,ek1⟩:=fW (qY g.a n0 0)
 have uk1:0<=k1/\k1<=1:=by rw[ek1]; exact dI ok.a un0 zM
 have QY:=cH h.ik.kz ok.a un0 zM
 rw[<-Wa,<-ek1]at QY
 obtain⟨b1,Wb⟩:=fW (rH g.b n1 k1)
 have QZ:dg b1:=by rw[Wb]; exact dH ..
 obtain⟨k2,ek2⟩:=fW (qY g.b n1 k1)
 have uk2:0<=k2/\k2<=1:=by rw[ek2]; exact dI ok.b un1 uk1
 have Q0:=cH h.ik.kz ok.b un1 uk1
 rw[<-Wb,<-ek2]at Q0
 obtain⟨c1,KH⟩:=fW (wr .u64 (g.c+ ((x.toNat:Int)+k2)))
 have uc1:dg c1:=by rw[KH]; exact lk _
 obtain⟨i00,Wd⟩:=fW (Kd (a1*r0))
 obtain⟨l00,We⟩:=fW (LQ (a1*r0))
 have Wf:dg i00:=by rw[Wd]; exact sc QX Yd
 have abb:dg l00:=by rw[We]; exact xl _
 have P3:=rZ h.n276 QX Yd
 rw[<-Wd,<-We]at P3
 obtain⟨i10,Wg⟩:=fW (Kd (b1*r0))
 obtain⟨l10,Wh⟩:=fW (LQ (b1*r0))
 have Wi:dg i10:=by rw[Wg]; exact sc QZ Yd
 have Wj:dg l10:=by rw[Wh]; exact xl _
 have P4:=rZ h.n276 QZ Yd
 rw[<-Wg,<-Wh]at P4
 obtain⟨i01,Wl⟩:=fW (Kd (a1*r1))
 obtain⟨l01,Wm⟩:=fW (LQ (a1*r1))
 have Wo:dg i01:=by rw[Wl]; exact sc QX Ye
 have Wp:dg l01:=by rw[Wm]; exact xl _
 have P5:=rZ h.n276 QX Ye
 rw[<-Wl,<-Wm]at P5
 obtain⟨i11,Wq⟩:=fW (Kd (b1*r1))
 obtain⟨l11,Wr⟩:=fW (LQ (b1*r1))
 have Ws:dg i11:=by rw[Wq]; exact sc QZ Ye
 have Wt:dg l11:=by rw[Wr]; exact xl _
 have P6:=rZ h.n276 QZ Ye
 rw[<-Wq,<-Wr]at P6
 obtain⟨l20,P7⟩:=fW (wr .u64 (c1*r0))
 have Wu:dg l20:=by rw[P7]; exact lk _
 obtain⟨l21,P8⟩:=fW (wr .u64 (c1*r1))
 have Wv:dg l21:=by rw[P8]; exact lk _
 obtain⟨m1,em1⟩:=fW (rH l10 l01 0)
 have um1:dg m1:=by rw[em1]; exact dH ..
 obtain⟨d1,Ww⟩:=fW (qY l10 l01 0)
 have Wx:0<=d1/\d1<=1:=by rw[Ww]; exact dI Wj Wp zM
 have qm1:=cH h.ik.kz Wj Wp zM
 rw[<-em1,<-Ww]at qm1
 obtain⟨m2,em2⟩:=fW (rH i10 i01 d1)
 have um2:dg m2:=by rw[em2]; exact dH ..
 obtain⟨d2,Wy⟩:=fW (qY i10 i01 d1)
 have WA:0<=d2/\d2<=1:=by rw[Wy]; exact dI Wi Wo Wx
 have qm2:=cH h.ik.kz Wi Wo Wx
 rw[<-em2,<-Wy]at qm2
 obtain⟨m3,em3⟩:=fW (rH 0 0 d2)
 have um3:dg m3:=by rw[em3]; exact dH ..
 obtain⟨d3,ed3⟩:=fW (qY 0 0 d2)
 have ud3:0<=d3/\d3<=1:=by rw[ed3]; exact dI u0 u0 WA
 have qm3:=cH h.ik.kz u0 u0 WA
 rw[<-em3,<-ed3]at qm3
 obtain⟨p2,ep2⟩:=fW (rH m2 l11 0)
 have up2:dg p2:=by rw[ep2]; exact dH ..
 obtain⟨d4,ed4⟩:=fW (qY m2 l11 0)
 have ud4:0<=d4/\d4<=1:=by rw[ed4]; exact dI um2 Wt zM
 have qp2:=cH h.ik.kz um2 Wt zM
 rw[<-ep2,<-ed4]at qp2
 obtain⟨p3,ep3⟩:=fW (rH m3 i11 d4)
 have up3:dg p3:=by rw[ep3]; exact dH ..
 obtain⟨d5,ed5⟩:=fW (qY m3 i11 d4)
 have ud5:0<=d5/\d5<=1:=by rw[ed5]; exact dI um3 Ws ud4
 have qp3:=cH h.ik.kz um3 Ws ud4
 rw[<-ep3,<-ed5]at qp3
 obtain⟨s2,es2⟩:=fW (rH p2 l20 0)
 have us2:dg s2:=by rw[es2]; exact dH ..
 obtain⟨d6,ed6⟩:=fW (qY p2 l20 0)
 have ud6:0<=d6/\d6<=1:=by rw[ed6]; exact dI up2 Wu zM
 have qs2:=cH h.ik.kz up2 Wu zM
 rw[<-es2,<-ed6]at qs2
 obtain⟨s3,es3⟩:=fW (rH p3 l21 d6)
 have us3:dg s3:=by rw[es3]; exact dH ..
 obtain⟨d7,ed7⟩:=fW (qY p3 l21 d6)
 have ud7:0<=d7/\d7<=1:=by rw[ed7]; exact dI up3 Wv ud6
 have qs3:=cH h.ik.kz up3 Wv ud6
 rw[<-es3,<-ed7]at qs3
 obtain⟨t1,et1⟩:=fW (rH m1 i00 0)
 have ut1:dg t1:=by rw[et1]; exact dH ..
 obtain⟨f1,WB⟩:=fW (qY m1 i00 0)
 have WC:0<=f1/\f1<=1:=by rw[WB]; exact dI um1 Wf zM
 have qt1:=cH h.ik.kz um1 Wf zM
 rw[<-et1,<-WB]at qt1
 obtain⟨t2,et2⟩:=fW (rH s2 0 f1)
 have ut2:dg t2:=by rw[et2]; exact dH ..
 obtain⟨f2,WD⟩:=fW (qY s2 0 f1)
 have uf2:0<=f2/\f2<=1:=by rw[WD]; exact dI us2 u0 WC
 have qt2:=cH h.ik.kz us2 u0 WC
 rw[<-et2,<-WD]at qt2
 obtain⟨t3,et3⟩:=fW (rH s3 0 f2)
 have ut3:dg t3:=by rw[et3]; exact dH ..
 obtain⟨f3,ef3⟩:=fW (qY s3 0 f2)
 have uf3:0<=f3/\f3<=1:=by rw[ef3]; exact dI us3 u0 uf2
 have qt3:=cH h.ik.kz us3 u0 uf2
 rw[<-et3,<-ef3]at qt3
 obtain⟨g1,P9,A1⟩:=HO h.JL ⟨l00,t1,da .and .u64 t2 3⟩ (da .andNot .u64 t2 3) t3 ⟨abb,ut1,show dg (da .and .u64 t2 3)from ud ..⟩ (ud ..) ut3
 obtain⟨g2,P',A2⟩:=HO h.JL g1 (da .or .u64 (bA .u64 t2 2) (jZ .u64 t3 62)) (bA .u64 t3 2) P9 (ud ..) (HP ut3)
 refine⟨g2,P',fun ty r hr=> ?_⟩
 have hb:=hr
 rcases hr with rfl|⟨x0,x1,x2,x3,x4,x5,rfl⟩
 ·exact h.TO.aL 200 1 rfl rfl rfl fun X bb hfit hp=>by
   refine sh ?_
   refine sB 0 8 ?_
   refine sh ?_
   refine cM true [] (w0.mc h.lF.xk.hb) ?_ (.l rfl ⟨rfl,⟨fun _=>wq (by omega),trivial⟩,trivial⟩)
   repeat (intro _; first|refine eK ?_|refine eP ?_)
   refine sh ?_
   refine bB.mk ⟨_,QY,?_⟩
   refine sh ?_
   refine sB 8 8 ?_
   refine sh ?_
   refine cM true [] (w1.mc h.lF.xk.hb) ?_ (.l rfl ⟨rfl,⟨fun _=>wq (by omega),trivial⟩,trivial⟩)
   repeat (intro _; first|refine eK ?_|refine eP ?_)
   refine sh ?_
   refine bB.mk ⟨_,Q0,?_⟩
   refine st ?_
   refine Nn (.int .u8 x.toNat) ?_ (by show (l.map b8)[16]? =_; rw[List.getElem?_map,hx]; rfl)
   refine sh ?_
   refine ai ?_
   rw[<-KH]
   refine sh ?_
   refine aj.pure h.n276.xi.hb P3 rfl ?_
   refine sh ?_
   refine aj.pure h.n276.xi.hb P4 rfl ?_
   refine sh ?_
   refine aj.pure h.n276.xi.hb P5 rfl ?_
   refine sh ?_
   refine aj.pure h.n276.xi.hb P6 rfl ?_
   refine sh ?_
   refine ai ?_
   rw[<-P7]
   refine sh ?_
   refine ai ?_
   rw[<-P8]
   refine sh ?_
   refine bB.mk ⟨_,qm1,?_⟩
   refine sh ?_
   refine bB.mk ⟨_,qm2,?_⟩
   refine sh ?_
   refine bB.mk ⟨_,qm3,?_⟩
   refine sh ?_
   refine bB.mk ⟨_,qp2,?_⟩
   refine sh ?_
   refine bB.mk ⟨_,qp3,?_⟩
   refine sh ?_
   refine bB.mk ⟨_,qs2,?_⟩
   refine sh ?_
   refine bB.mk ⟨_,qs3,?_⟩
   refine sh ?_
   refine bB.mk ⟨_,qt1,?_⟩
   refine sh ?_
   refine bB.mk ⟨_,qt2,?_⟩
   refine sh ?_
   refine bB.mk ⟨_,qt3,?_⟩
   refine sh ?_
   refine cM false [0] (A1 ty _ hb) ?_
   repeat (intro _; first|refine eK ?_|refine eP ?_)
   refine sh ?_
   refine cM false [0] (A2 ty _ hb) ?_
   repeat (intro _; first|refine eK ?_|refine eP ?_)
   refine sh ?_
   exact rM [0]
 ·exact h.TO.aL 200 1 rfl rfl rfl fun X bb hfit hp=>by
   refine sh ?_
   refine sB 0 8 ?_
   refine sh ?_
   refine cM true [] (w0.mc h.lF.xk.hb) ?_ (.l rfl ⟨rfl,⟨fun _=>wq (by omega),trivial⟩,trivial⟩)
   repeat (intro _; first|refine eK ?_|refine eP ?_)
   refine sh ?_
   refine bB.mk ⟨_,QY,?_⟩
   refine sh ?_
   refine sB 8 8 ?_
   refine sh ?_
   refine cM true [] (w1.mc h.lF.xk.hb) ?_ (.l rfl ⟨rfl,⟨fun _=>wq (by omega),trivial⟩,trivial⟩)
   repeat (intro _; first|refine eK ?_|refine eP ?_)
   refine sh ?_
   refine bB.mk ⟨_,Q0,?_⟩
   refine st ?_
   refine Nn (.int .u8 x.toNat) ?_ (by show (l.map b8)[16]? =_; rw[List.getElem?_map,hx]; rfl)
   refine sh ?_
   refine ai ?_
   rw[<-KH]
   refine sh ?_
   refine aj.pure h.n276.xi.hb P3 rfl ?_
   refine sh ?_
   refine aj.pure h.n276.xi.hb P4 rfl ?_
   refine sh ?_
   refine aj.pure h.n276.xi.hb P5 rfl ?_
   refine sh ?_
   refine aj.pure h.n276.xi.hb P6 rfl ?_
   refine sh ?_
   refine ai ?_
   rw[<-P7]
   refine sh ?_
   refine ai ?_
   rw[<-P8]
   refine sh ?_
   refine bB.mk ⟨_,qm1,?_⟩
   refine sh ?_
   refine bB.mk ⟨_,qm2,?_⟩
   refine sh ?_
   refine bB.mk ⟨_,qm3,?_⟩
   refine sh ?_
   refine bB.mk ⟨_,qp2,?_⟩
   refine sh ?_
   refine bB.mk ⟨_,qp3,?_⟩
   refine sh ?_
   refine bB.mk ⟨_,qs2,?_⟩
   refine sh ?_
   refine bB.mk ⟨_,qs3,?_⟩
   refine sh ?_
   refine bB.mk ⟨_,qt1,?_⟩
   refine sh ?_
   refine bB.mk ⟨_,qt2,?_⟩
   refine sh ?_
   refine bB.mk ⟨_,qt3,?_⟩
   refine sh ?_
   refine cM false [0] (A1 ty _ hb) ?_
   repeat (intro _; first|refine eK ?_|refine eP ?_)
   refine sh ?_
   refine cM false [0] (A2 ty _ hb) ?_
   repeat (intro _; first|refine eK ?_|refine eP ?_)
   refine sh ?_
   exact rM [0]
end Go.UM
namespace Go.UM
open Go.AM
set_option maxRecDepth 4000
set_option maxHeartbeats 8000000 in
theorem Qa{R:Env}(h:NT R)(g:H3)(s0 s1:Int)(P9:g.Ok)(Q1:dg s0)(Q2:dg s1):∃t:List UInt8,t.length=16/\R.Pc 648 [.agg g.row,.int .u64 s0,.int .u64 s1] (.agg (t.map b8)):=by
 have zM:(0:Int)<=0/\(0:Int)<=1:=⟨by omega,by omega⟩
 have u0:dg 0:=⟨by omega,by omega⟩
 have u5:dg 5:=⟨by omega,by omega⟩
 obtain⟨a1,Wa⟩:=fW (rH g.a 5 0)
 have QX:dg a1:=by rw[Wa]; exact dH ..
 obtain⟨c1,KH⟩:=fW (qY g.a 5 0)
 have uc1:0<=c1/\c1<=1:=by rw[KH]; exact dI P9.a u5 zM
 have QY:=cH h.ik.kz P9.a u5 zM
 rw[<-Wa,<-KH]at QY
 obtain⟨b1,Wb⟩:=fW (rH g.b 0 c1)
 have QZ:dg b1:=by rw[Wb]; exact dH ..
 obtain⟨e1,ee1⟩:=fW (qY g.b 0 c1)
 have ue1:0<=e1/\e1<=1:=by rw[ee1]; exact dI P9.b u0 uc1
 have Q0:=cH h.ik.kz P9.b u0 uc1
 rw[<-Wb,<-ee1]at Q0
 obtain⟨d1,Ww⟩:=fW (wr .u64 (g.c+e1))
 have Wx:dg d1:=by rw[Ww]; exact lk _
 obtain⟨g2,WE⟩:=fW (if 4<=d1 then H3.mk a1 b1 (d1 - 4)else g)
 have P':g2.Ok:=by rw[WE]; obtain⟨k1,k2⟩:=Wx; split<;>first|exact P9|exact⟨QX,QZ,show dg (d1 - 4)from ⟨by omega,by omega⟩⟩
 obtain⟨a2,ea2⟩:=fW (rH g2.a 5 0)
 have ua2:dg a2:=by rw[ea2]; exact dH ..
 obtain⟨c2,V'⟩:=fW (qY g2.a 5 0)
 have uc2:0<=c2/\c2<=1:=by rw[V']; exact dI P'.a u5 zM
 have qa2:=cH h.ik.kz P'.a u5 zM
 rw[<-ea2,<-V']at qa2
 obtain⟨b2,eb2⟩:=fW (rH g2.b 0 c2)
 have ub2:dg b2:=by rw[eb2]; exact dH ..
 obtain⟨e2,ee2⟩:=fW (qY g2.b 0 c2)
 have ue2:0<=e2/\e2<=1:=by rw[ee2]; exact dI P'.b u0 uc2
 have qb2:=cH h.ik.kz P'.b u0 uc2
 rw[<-eb2,<-ee2]at qb2
 obtain⟨d2,Wy⟩:=fW (wr .u64 (g2.c+e2))
 have WA:dg d2:=by rw[Wy]; exact lk _
 obtain⟨g3,WF⟩:=fW (if 4<=d2 then H3.mk a2 b2 (d2 - 4)else g2)
 have Yf:g3.Ok:=by rw[WF]; obtain⟨k1,k2⟩:=WA; split<;>first|exact P'|exact⟨ua2,ub2,show dg (d2 - 4)from ⟨by omega,by omega⟩⟩
 obtain⟨lo,elo⟩:=fW (rH g3.a s0 0)
 have ulo:dg lo:=by rw[elo]; exact dH ..
 obtain⟨f1,WB⟩:=fW (qY g3.a s0 0)
 have WC:0<=f1/\f1<=1:=by rw[WB]; exact dI Yf.a Q1 zM
 have qlo:=cH h.ik.kz Yf.a Q1 zM
 rw[<-elo,<-WB]at qlo
 obtain⟨hi,ehi⟩:=fW (rH g3.b s1 f1)
 have uhi:dg hi:=by rw[ehi]; exact dH ..
 obtain⟨f2,WD⟩:=fW (qY g3.b s1 f1)
 have uf2:0<=f2/\f2<=1:=by rw[WD]; exact dI Yf.b Q2 WC
 have qhi:=cH h.ik.kz Yf.b Q2 WC
 rw[<-ehi,<-WD]at qhi
 refine⟨[u8 (bA .u64 lo 0),u8 (bA .u64 lo 8),u8 (bA .u64 lo 16),u8 (bA .u64 lo 24),u8 (bA .u64 lo 32),u8 (bA .u64 lo 40),u8 (bA .u64 lo 48),u8 (bA .u64 lo 56),u8 (bA .u64 hi 0),u8 (bA .u64 hi 8),u8 (bA .u64 hi 16),u8 (bA .u64 hi 24),u8 (bA .u64 hi 32),u8 (bA .u64 hi 40),u8 (bA .u64 hi 48),u8 (bA .u64 hi 56)],rfl,h.NU.enter 200 rfl fun X bb hfit hp=> ?_⟩
 refine sh ?_
 refine mw 200 (fun i:Nat=>i<=2) (fun i=>⟨[(1,.int .u64 s0),(2,.int .u64 s1),(6,.loc 1 1 0 0),(7,.loc 2 1 0 0),(20,.int .i64 i)],[(1,.var (R.ty 74) (List.replicate 16 (.int .u8 0))),(2,.var (R.ty 99) (if i=0 then g else if i=1 then g2 else g3).row)],3⟩) (fun i=>2 - i) (0) ?_ ?_
 ·exact Nat.zero_le _
 ·intro i hi
  dsimp only
  refine sh ?_
  refine cS (fun hc=> ?_) (fun hc=> ?_)
  ·have hi2:i=0\/ i=1:=by omega
   rcases hi2 with rfl|rfl
   ·rw[if_pos rfl]
    refine sh ?_
    refine bB.mk ⟨_,QY,?_⟩
    refine sh ?_
    refine bB.mk ⟨_,Q0,?_⟩
    refine sh ?_
    refine ai ?_
    rw[<-Ww]
    refine sh ?_
    refine cS (fun h4=> ?_) (fun h4=> ?_)
    ·rw[if_pos h4]at WE
     subst WE
     obtain⟨v1,v2⟩:=Wx
     refine sh ?_
     refine yP (1) ?_ ?_
     ·omega
     ·omega
    ·rw[if_neg (by omega)]at WE
     subst WE
     refine sh ?_
     refine yP (1) ?_ ?_
     ·omega
     ·omega
   ·rw[if_neg (by decide),if_pos rfl]
    refine sh ?_
    refine bB.mk ⟨_,qa2,?_⟩
    refine sh ?_
    refine bB.mk ⟨_,qb2,?_⟩
    refine sh ?_
    refine ai ?_
    rw[<-Wy]
    refine sh ?_
    refine cS (fun h4=> ?_) (fun h4=> ?_)
    ·rw[if_pos h4]at WF
     subst WF
     obtain⟨v1,v2⟩:=WA
     refine sh ?_
     refine yP (2) ?_ ?_
     ·omega
     ·omega
    ·rw[if_neg (by omega)]at WF
     subst WF
     refine sh ?_
     refine yP (2) ?_ ?_
     ·omega
     ·omega
  ·obtain rfl:i=2:=by omega
   rw[if_neg (by decide),if_neg (by decide)]
   refine sh ?_
   refine bB.mk ⟨_,qlo,?_⟩
   refine sh ?_
   refine bB.mk ⟨_,qhi,?_⟩
   refine sh ?_
   refine az.one 100 ?_
   refine sh ?_
   refine aw (by rfl) ?_
   refine sh ?_
   refine ai ?_
   refine sh ?_
   refine ai ?_
   refine sh ?_
   refine az.one 100 ?_
   refine sh ?_
   refine aw (by rfl) ?_
   refine sh ?_
   refine ai ?_
   refine sh ?_
   refine ai ?_
   refine sh ?_
   refine az.one 100 ?_
   refine sh ?_
   refine aw (by rfl) ?_
   refine sh ?_
   refine ai ?_
   refine sh ?_
   refine ai ?_
   refine sh ?_
   refine az.one 100 ?_
   refine sh ?_
   refine aw (by rfl) ?_
   refine sh ?_
   refine ai ?_
   refine sh ?_
   refine ai ?_
   refine sh ?_
   refine az.one 100 ?_
   refine sh ?_
   refine aw (by rfl) ?_
   refine sh ?_
   refine ai ?_
   refine sh ?_
   refine ai ?_
   refine sh ?_
   refine az.one 100 ?_
   refine sh ?_
   refine aw (by rfl) ?_
   refine sh ?_
   refine ai ?_
   refine sh ?_
   refine ai ?_
   refine sh ?_
   refine az.one 100 ?_
   refine sh ?_
   refine aw (by rfl) ?_
   refine sh ?_
   refine ai ?_
   refine sh ?_
   refine ai ?_
   refine sh ?_
   refine az.one 100 ?_
   refine sh ?_
   refine aw (by rfl) ?_
   refine sh ?_
   refine ai ?_
   refine sh ?_
   refine ai ?_
   refine sh ?_
   refine az.one 100 ?_
   refine sh ?_
   refine aD (by rfl) ?_
   refine sh ?_
   refine rT ?_
   all_goals repeat' (first|exact True.intro|refine And.intro ?_ ?_|(intro _u; clear _u)|(with_reducible first|exact aU.fg|refine eM ?_ ?_|refine eF ?_ ?_ ?_|refine eN ?_|refine eL ?_ ?_ ?_|refine eA ?_ ?_|refine bp.mk ⟨_,hp,rfl⟩ ?_ ?_)|refine bp.mk ⟨_,hp,rfl⟩ ?_ ?_)
   all_goals try first|with_reducible rfl|omega|exact .inl (by decide)|(simp; done)|rfl
   all_goals simp[b8,lx]
end Go.UM
namespace Go.UM
open Go.AM
set_option maxRecDepth 4000
def lI(l:List UInt8):List UInt8:=l++1::List.replicate (16 - l.length) 0
theorem iq{l:List UInt8}(h:l.length<=16):(lI l).length=17:=by simp[lI]; omega
theorem Ew{R:Env}(h:GO R):R.Pc 646 [.aH 1 []] (.aH 17 []):=
 h.GP.enter 60 rfl fun X bb hfit hp=>by
  refine sh ?_
  refine br (by exact (rfl:_=([]:List (List AV)))) ?_
  refine sh ?_
  refine az.one 100 ?_
  refine sh ?_
  refine aD (by rfl) ?_
  refine sh ?_
  exact rT
theorem HQ(l:List UInt8):((l.map b8++List.replicate (17 - l.length) (AV.int .u8 0)).set l.length (.int .u8 1))=(lI l).map b8\/ 16<l.length:=by
 by_cases h:l.length<=16
 ·left
  obtain⟨d,hd⟩:∃d,17 - l.length=d+1:=⟨16 - l.length,by omega⟩
  have e2:16 - l.length=d:=by omega
  rw[List.set_append,if_neg (by simp),List.length_map,Nat.sub_self,hd,List.replicate_succ]
  simp[lI,e2,b8]
 ·right; omega
theorem wv{R:Env}(h:GO R)(l:List UInt8)(hl:l.length<=16)(h0:0<l.length):R.Pc 646 [.aH 1 (aq l)] (.aH 17 [(lI l).map b8]):=
 h.GP.enter 100 rfl fun X bb hfit hp=>by
  refine sh ?_
  refine br (by exact aa2 l 65536) ?_
  rw[show l.take (Int.toNat 65536)=l from List.take_of_length_le (by omega)]
  refine sh ?_
  refine az.one 100 ?_
  refine sh ?_
  refine aw (by simp; omega) ?_
  refine sh ?_
  refine sB 0 16 ?_
  have e1:((aq l).take 16).flatten=l.map b8:=by rw[List.take_of_length_le (by simp; omega),KB]
  have e2:min (aq l).length 16=l.length:=by simp; omega
  refine sh ?_
  refine qd e1 e2 ?_
  refine ov2 (vs:=l.map b8) (cs:=List.replicate 17 (.int .u8 0)) ((l.map b8)++List.replicate (17 - l.length) (.int .u8 0)) ?_ (by rw[List.length_map,List.drop_replicate]) (by simp; omega)
  refine sh ?_
  refine⟨⟨by omega,by omega⟩,QO l.length ((lI l).map b8) ?_ ((HQ l).resolve_right (by omega)) (by omega) (by simp; omega)⟩
  have rb:=iq hl
  refine tk (l:=(lI l).map b8) ?_ (by rw[List.length_map,rb])
  refine li (vs:=(lI l).map b8) (n:=17) ?_ (by rw[List.length_map,rb])
  refine sh ?_
  refine br (by show _=([]:List (List AV)); rw[List.drop_of_length_le (by simp)]) ?_
  refine sh ?_
  refine az.one 100 ?_
  refine sh ?_
  refine aD (by rfl) ?_
  refine sh ?_
  exact rT
theorem BE(op:BinOp)(x y:Int):∃u:UInt8,da op .u8 x y=(u.toNat:Int):=by
 cases op<;>exact⟨u8 _,lx _⟩
theorem ue{r:List UInt8}(hr:r.length=16):∃x0 x1 x2 x3 x4 x5 x6 x7 x8 x9 KJ KK KM KN KO KQ,r=[x0,x1,x2,x3,x4,x5,x6,x7,x8,x9,KJ,KK,KM,KN,KO,KQ]:=by
 match r,hr with
 |[x0,x1,x2,x3,x4,x5,x6,x7,x8,x9,KJ,KK,KM,KN,KO,KQ],_=>exact⟨x0,x1,x2,x3,x4,x5,x6,x7,x8,x9,KJ,KK,KM,KN,KO,KQ,rfl⟩
theorem KR{R:Env}(h:NP R)(r:List UInt8)(hr:r.length=16):∃t:List UInt8,t.length=16/\R.Pc 644 [.agg (r.map b8)] (.agg (t.map b8)):=by
 obtain⟨x0,x1,x2,x3,x4,x5,x6,x7,x8,x9,KJ,KK,KM,KN,KO,KQ,rfl⟩:=ue hr
 obtain⟨y3,e3⟩:=BE .and x3.toNat 15
 obtain⟨y4,e4⟩:=BE .and x4.toNat 252
 obtain⟨y7,e7⟩:=BE .and x7.toNat 15
 obtain⟨y8,e8⟩:=BE .and x8.toNat 252
 obtain⟨Qb,e11⟩:=BE .and KK.toNat 15
 obtain⟨Qc,QU⟩:=BE .and KM.toNat 252
 obtain⟨Qd,e15⟩:=BE .and KQ.toNat 15
 refine⟨[x0,x1,x2,y3,y4,x5,x6,y7,y8,x9,KJ,Qb,Qc,KN,KO,Qd],rfl,h.TH.enter 200 rfl fun X bb hfit hp=> ?_⟩
 refine sh ?_
 refine az.one 100 ?_
 refine sh ?_
 refine aw (by rfl) ?_
 refine sh ?_
 refine aD (by rfl) ?_
 refine sh ?_
 refine az.one 100 ?_
 refine sh ?_
 refine aw (by rfl) ?_
 refine sh ?_
 refine aw (by rfl) ?_
 refine sh ?_
 refine az.one 100 ?_
 refine sh ?_
 refine aw (by rfl) ?_
 refine sh ?_
 refine aw (by rfl) ?_
 refine sh ?_
 refine az.one 100 ?_
 refine sh ?_
 refine aw (by rfl) ?_
 refine sh ?_
 refine aw (by rfl) ?_
 refine sh ?_
 refine az.one 100 ?_
 refine sh ?_
 refine aD (by rfl) ?_
 refine sh ?_
 refine rT ?_
 all_goals repeat' (first|exact True.intro|refine And.intro ?_ ?_|(intro _u; clear _u)|(with_reducible first|exact aU.fg|refine eM ?_ ?_|refine eF ?_ ?_ ?_|refine eN ?_|refine eL ?_ ?_ ?_|refine eA ?_ ?_|refine bp.mk ⟨_,hp,rfl⟩ ?_ ?_)|refine bp.mk ⟨_,hp,rfl⟩ ?_ ?_)
 all_goals try first|with_reducible rfl|omega|exact .inl (by decide)|(simp; done)|rfl
 all_goals simp[b8,e3,e4,e7,e8,e11,QU,e15]
theorem abw:da .or .u8 0 0=0:=by decide
theorem Ex(x:UInt8):da .xor .u8 x.toNat x.toNat=0:=by rw[V8,UInt8.xor_self]; rfl
theorem Cs{R:Env}(h:NZ R)(t:List UInt8)(ht:t.length=16):R.Pc 591 [.agg (t.map b8),.agg (t.map b8)] (.bool true):=by
 obtain⟨x0,x1,x2,x3,x4,x5,x6,x7,x8,x9,KJ,KK,KM,KN,KO,KQ,rfl⟩:=ue ht
 exact h.N0.enter 200 rfl fun X bb hfit hp=>by
  refine sh ?_
  refine mw 200 (fun i:Nat=>i<=16) (fun i=>⟨[(2,.loc 0 1 0 0),(3,.loc 1 1 0 0),(5,.int .u8 0),(7,.int .i64 i)],[(0,.var (R.ty 74) ([x0,x1,x2,x3,x4,x5,x6,x7,x8,x9,KJ,KK,KM,KN,KO,KQ].map b8)),(1,.var (R.ty 74) ([x0,x1,x2,x3,x4,x5,x6,x7,x8,x9,KJ,KK,KM,KN,KO,KQ].map b8))],2⟩) (fun i=>16 - i) (0) ?_ ?_
  ·exact Nat.zero_le _
  ·intro i hi
   dsimp only
   refine sh ?_
   refine cS (fun hc=> ?_) (fun hc=> ?_)
   ·generalize hL:[x0,x1,x2,x3,x4,x5,x6,x7,x8,x9,KJ,KK,KM,KN,KO,KQ]=L
    have hlen:L.length=16:=by rw[<-hL]; rfl
    obtain⟨x,hx⟩:∃x,L[i]? =some x:=⟨_,List.getElem?_eq_getElem (by omega)⟩
    have hx2:(L.map b8)[i]? =some (b8 x):=by rw[List.getElem?_map,hx]; rfl
    have e0:0+ (i:Int).toNat*1=i:=by omega
    refine sh ?_
    refine⟨⟨by omega,by omega⟩,Nn (b8 x) ?_ (by rw[e0]; exact hx2)⟩
    refine sh ?_
    refine⟨⟨by omega,by omega⟩,Nn (b8 x) ?_ (by rw[e0]; exact hx2)⟩
    refine st ?_
    rw[Ex,abw]
    subst hL
    refine sh ?_
    refine yP (i+1) ?_ ?_
    ·omega
    ·omega
   ·refine sh ?_
    exact rT
end Go.UM
namespace Go.UM
open Go.AM
set_option maxRecDepth 4000
theorem tk2{l:List AV}{n:Nat}{K:List AV->Prop}(l':List AV)(k:K l')(e:l.take n=l')(h:n<=l.length):oU n l K:=by
 subst e
 induction l generalizing n K with
 |nil=>
  obtain rfl:n=0:=by simpa using h
  exact k
 |cons a l ih=>
  cases n with
  |zero=>exact k
  |succ n=>exact ih (K:=fun l=>K (a::l)) (by simpa using h) (by simpa using k)
@[simp] theorem L4(n:Nat)(l:List UInt8):AV.au (List.take n (List.map b8 l))=[]:=by rw[<-List.map_take,pr]
@[simp] theorem L5(n:Nat)(l:List UInt8):AV.au (List.drop n (List.map b8 l))=[]:=by rw[<-List.map_drop,pr]
theorem rnA{ps:List Nat}{nx:Nat}{M1:ah}{fl:Bool}{d:Nat}{l:List AV}{K:AV->Prop}(k:K (.agg l))(h:iA l):qR ps nx M1 fl (d+2) (.agg l) K:=rnI (d:=d) (K:=fun l=>K (.agg l)) k h
theorem rnF{f:AV->(AV->Prop)->Prop}:∀{l:List AV}{K:List AV->Prop},K l->iA l->(∀k n (K:AV->Prop),K (.int k n)->f (.int k n) K)->List.rec (motive:=fun _=>(List AV->Prop)->Prop) (fun K=>K []) (Sq f) l K
 |[],_,k,_,_=>k
 |a::r,K,k,h,hf=>by
  obtain⟨⟨kk,n,rfl⟩,h2⟩:=na.1 h
  exact hf kk n _ (rnF (l:=r) (K:=fun l=>K (.int kk n::l)) k h2 hf)
theorem rMB{X:bM}{M:ah}{nx:Nat}{vs:List AV}{av:AV}{M1:ah}{ba:Nat}(ps:List Nat)(h:yM ps M1 M1 fun M'=>qR ps 0 M1 false 5 av fun fA=>bp X [] M nx ⟨[],M',100⟩/\Gq (dQ M') M M' nx 5 (one vs) fA/\ta nx 100 fA:=by
 conv=>whnf
 refine rnF ?_ (aY _) (fun _ _ _ h=>h)
 all_goals repeat' (first|exact ZX (aY _)|exact mtA (aY _)|exact True.intro|refine And.intro ?_ ?_|(intro _u; clear _u)|with_reducible first|exact aU.fg|refine eM ?_ ?_|refine eF ?_ ?_ ?_|refine eN ?_|refine bp.mk ⟨_,by assumption,rfl⟩ ?_ ?_)
 all_goals first|with_reducible rfl|omega|exact Or.inl (by decide)|(simp; done)|rfl)
 (h1:(jm ps&&Nat.beq ps.length ba)=true:=by rfl) (h2:∃p,X.p=p/\(Iw p 0 ps&&Nat.ble p ba)=true:=by exact⟨_,by assumption,rfl⟩):nS X M nx vs av M1 ba:= .of ps h1 h2 h
theorem rTB{M:ah}{vs:List AV}{av:AV}(h:B' (fun _=>true) M 5 (one vs) av:=by
 all_goals repeat' (first|exact ZX (aY _)|exact mtA (aY _)|exact True.intro|refine And.intro ?_ ?_|(intro _u; clear _u)|with_reducible refine eF ?_ ?_ ?_)
 all_goals first|with_reducible rfl|omega|(simp; done)|rfl):Gl M vs av:= .of h
theorem Yg{R:Env}{X:bM}{z:Bool}{g:Nat}{args aW:List AV}{F:aT}{M M0 M1:ah}{nx ba:Nat}{d:Option Nat}{K:KS}{av:AV}{lo:Bool}(fl:Bool)(ps:List Nat)(h:R.Mz z g aW M0 av M1 ba)
 (k:qR ps nx M1 fl 5 av fun fA=>ny ps nx M1 fl M1 M fun M'=>aJ d fA F M' (nx+ (ba - ps.length)) K) (hz:A6 lo ps fl M nx args aW M0:=by
 first|refine A6.g rfl ⟨rfl,?_,?_⟩|refine A6.l rfl ⟨rfl,?_,?_⟩
 all_goals repeat' (first|exact snA (aY _)|exact True.intro|refine And.intro ?_ ?_|(intro _u; clear _u)|with_reducible first|exact aU.fg|refine eL ?_ ?_ ?_|refine eA ?_ ?_|refine uM.mk ?_ ?_ ?_)
 all_goals first|with_reducible rfl|omega|(simp; done)|rfl) (iv:sm z X:=by first|exact zF|exact zT (by assumption)):aj R X lo (R.ft g) args F M nx d K:= .mut fl ps h iv hz k
structure HR(R:Env)(S:Int->Int->H3->List UInt8->H3):Prop where
 ok:∀r0 r1 g l,g.Ok->l.length=17->dg r0->dg r1->(S r0 r1 g l).Ok
 c:∀r0 r1 g l,g.Ok->l.length=17->dg r0->dg r1->∀(ty:Nat)(r:List AV),Bh r->R.Mc 647 [.loc 0 1 0 0,.agg (l.map b8),.int .u64 r0,.int .u64 r1] [(0,.var ty (g.row++r))] (.aG []) [(0,.var ty ((S r0 r1 g l).row++r))] 1
theorem aby{R:Env}(h:GQ R):∃S,HR R S:=by
 have key:∀(r0 r1:Int)(g:H3)(l:List UInt8),∃g':H3,(g.Ok->l.length=17->dg r0->dg r1->g'.Ok)/\(g.Ok->l.length=17->dg r0->dg r1->∀(ty:Nat)(r:List AV),Bh r->R.Mc 647 [.loc 0 1 0 0,.agg (l.map b8),.int .u64 r0,.int .u64 r1] [(0,.var ty (g.row++r))] (.aG []) [(0,.var ty (g'.row++r))] 1):=by
  intro r0 r1 g l
  by_cases hh:g.Ok/\l.length=17/\dg r0/\dg r1
  ·obtain⟨h1,h2,h3,h4⟩:=hh
   obtain⟨g',k1,k2⟩:=KI h g l r0 r1 h1 h2 h3 h4
   exact⟨g',fun _ _ _ _=>k1,fun _ _ _ _=>k2⟩
  ·exact⟨g,fun a b c d=>absurd ⟨a,b,c,d⟩ hh,fun a b c d=>absurd ⟨a,b,c,d⟩ hh⟩
 exact⟨fun r0 r1 g l=>(key r0 r1 g l).choose,⟨fun r0 r1 g l=>(key r0 r1 g l).choose_spec.1,fun r0 r1 g l=>(key r0 r1 g l).choose_spec.2⟩⟩
def rI(S:H3->List UInt8->H3)(l:List UInt8):Nat->H3
 |0=>⟨0,0,0⟩
 |n+1=>S (rI S l n) (lI ((l.drop (16*n)).take 16))
theorem pz{R:Env}{S:Int->Int->H3->List UInt8->H3}(SC:HR R S){r0 r1:Int}(u0:dg r0)(u1:dg r1)(l:List UInt8):∀n,(rI (S r0 r1) l n).Ok
 |0=>have u:dg 0:=⟨by omega,by omega⟩; ⟨u,u,u⟩
 |n+1=>SC.ok _ _ _ _ (pz SC u0 u1 l n) (iq (by simp; omega)) u0 u1
def oy(g:H3)(r0 r1 s0 s1:Int)(v:AV)(n:Int):List AV:=g.row++ [.bool true,.int .u64 r0,.int .u64 r1,.int .u64 s0,.int .u64 s1,v,.int .i64 n]
def dh(l:List (List UInt8)):List (List AV):=l.map fun b=>[.aH 1 (aq b)]
@[simp] theorem dJ(l:List (List UInt8)):(dh l).length=l.length:=by simp[dh]
theorem mI{l:List (List UInt8)}{i:Nat}{d:List UInt8}(h:l[i]? =some d):(dh l).getD i []=[.aH 1 (aq d)]:=by
 simp[dh,List.getD_eq_getElem?_getD,h]
theorem fP{l:List (List UInt8)}{i:Nat}{d:List UInt8}(h:l[i]? =some d):(l.take (i+1)).flatten=(l.take i).flatten++d:=by
 rw[List.take_add_one,h]; simp
theorem sd{l:List (List UInt8)}(i:Nat):(l.take i).flatten.length<=l.flatten.length:=by
 have e:=congrArg (fun x=>(List.flatten x).length) (List.take_append_drop i l)
 simp only[List.flatten_append,List.length_append]at e
 omega
theorem Qe{R:Env}(h:NQ R)(k:List UInt8)(hk:k.length=32):∃r0 r1 s0 s1:Int,(dg r0/\dg r1/\dg s0/\dg s1)/\R.Mc 611 [.agg (k.map b8)] [] (.loc 0 1 0 0) [(0,.var (R.ty 90) (oy ⟨0,0,0⟩ r0 r1 s0 s1 .ab 0))] 1:=by
 obtain⟨t,ht,ct⟩:=KR h.JK (k.take 16) (by simp; omega)
 obtain⟨r0,e0⟩:=fW ((le (((t.drop 0).take 16).take 8):Nat):Int)
 obtain⟨r1,e1⟩:=fW ((le (((t.drop 8).take 8).take 8):Nat):Int)
 obtain⟨s0,e2⟩:=fW ((le (((k.drop 16).take 16).take 8):Nat):Int)
 obtain⟨s1,e3⟩:=fW ((le (((k.drop 24).take 8).take 8):Nat):Int)
 have w0:=ql h.lF ((t.drop 0).take 16) (by simp; omega)
 have w1:=ql h.lF ((t.drop 8).take 8) (by simp; omega)
 have w2:=ql h.lF ((k.drop 16).take 16) (by simp; omega)
 have w3:=ql h.lF ((k.drop 24).take 8) (by simp; omega)
 rw[<-e0]at w0
 rw[<-e1]at w1
 rw[<-e2]at w2
 rw[<-e3]at w3
 refine⟨r0,r1,s0,s1,⟨by rw[e0]; exact qk _,by rw[e1]; exact qk _,by rw[e2]; exact qk _,by rw[e3]; exact qk _⟩,h.aam.aL 200 0 rfl rfl rfl fun X bb hfit hp=> ?_⟩
 refine sh ?_
 refine sB 0 16 ?_
 refine fun _=>⟨Nat.le_refl _,?_⟩
 refine tk2 ((k.take 16).map b8) ?_ (by rw[List.map_take]) (by simp; omega)
 refine sh ?_
 refine aj.pure h.JK.TH.hb ct (by simp[AV.au,AV.names]) ?_
 refine li (vs:=t.map b8) (n:=16) ?_ (by rw[List.length_map,ht])
 refine ov (vs:=t.map b8) (cs:=List.replicate 16 (.int .u8 0)) ?_ (by rw[List.length_map,ht]; rfl)
 refine sh ?_
 refine cR true [] (w0.mc h.lF.xk.hb) ?_ rfl ⟨rfl,⟨fun _=>wq (by omega),trivial⟩,trivial⟩
 repeat (intro _; first|refine eK ?_|refine eP ?_)
 first|refine⟨⟨[],rfl,rfl⟩,?_⟩|refine⟨⟨[_],rfl,rfl⟩,?_⟩|refine⟨⟨[_,_],rfl,rfl⟩,?_⟩
 refine sh ?_
 refine sB 8 8 ?_
 refine sh ?_
 refine cR true [] (w1.mc h.lF.xk.hb) ?_ rfl ⟨rfl,⟨fun _=>wq (by omega),trivial⟩,trivial⟩
 repeat (intro _; first|refine eK ?_|refine eP ?_)
 first|refine⟨⟨[],rfl,rfl⟩,?_⟩|refine⟨⟨[_],rfl,rfl⟩,?_⟩|refine⟨⟨[_,_],rfl,rfl⟩,?_⟩
 refine sh ?_
 refine sB 16 16 ?_
 refine sh ?_
 refine cR true [] (w2.mc h.lF.xk.hb) ?_ rfl ⟨rfl,⟨fun _=>wq (by omega),trivial⟩,trivial⟩
 repeat (intro _; first|refine eK ?_|refine eP ?_)
 first|refine⟨⟨[],rfl,rfl⟩,?_⟩|refine⟨⟨[_],rfl,rfl⟩,?_⟩|refine⟨⟨[_,_],rfl,rfl⟩,?_⟩
 refine sh ?_
 refine sB 24 8 ?_
 refine sh ?_
 refine cR true [] (w3.mc h.lF.xk.hb) ?_ rfl ⟨rfl,⟨fun _=>wq (by omega),trivial⟩,trivial⟩
 repeat (intro _; first|refine eK ?_|refine eP ?_)
 first|refine⟨⟨[],rfl,rfl⟩,?_⟩|refine⟨⟨[_],rfl,rfl⟩,?_⟩|refine⟨⟨[_,_],rfl,rfl⟩,?_⟩
 refine sh ?_
 exact rM [2]
theorem Qf{R:Env}(h:NS R){S:Int->Int->H3->List UInt8->H3}(SC:HR R S)(ps:List (List UInt8))(r0 r1 s0 s1:Int)(u0:dg r0)(u1:dg r1)(hps:ps.length<=1000)(hl:ps.flatten.length<=65536):R.Mc 612 [.loc 0 1 0 0,.aH 1 (dh ps)] [(0,.var (R.ty 90) (oy ⟨0,0,0⟩ r0 r1 s0 s1 .ab 0))] (.aG []) [(0,.var (R.ty 90) (oy (rI (S r0 r1) ps.flatten (ps.flatten.length / 16)) r0 r1 s0 s1 (.aH 1 (aq (ps.flatten.drop (16* (ps.flatten.length / 16))))) ps.flatten.length))] 1:=
 h.aan.aL 200 1 rfl rfl rfl fun X bb hfit hp=>by
  generalize hA:rI (S r0 r1) ps.flatten (ps.flatten.length / 16)=A
  refine sh ?_
  refine mw 200 (fun i:Nat=>i<=ps.length) (fun i=>⟨[(0,.loc 0 1 0 0),(15,.aH 1 (dh ps)),(16,.int .i64 (dh ps).length),(17,.int .i64 i)],[(0,.var (R.ty 90) (oy ⟨0,0,0⟩ r0 r1 s0 s1 (.bi 1 (ps.take i).flatten.length) (ps.take i).flatten.length)),(1,.arr (R.ty 4) 1 (aq (ps.take i).flatten))],2⟩) (fun i=>ps.length - i) (0) ?_ ?_
  ·exact Nat.zero_le _
  ·intro i hi
   dsimp only
   refine sh ?_
   refine cS (fun hc=> ?_) (fun hc=> ?_)
   ·rw[dJ]at hc
    obtain⟨d,hd⟩:∃d,ps[i]? =some d:=⟨_,List.getElem?_eq_getElem (by omega)⟩
    have hdl:d.length<=ps.flatten.length - (ps.take i).flatten.length:=by
     have:=sd (l:=ps) (i+1)
     rw[fP hd,List.length_append]at this; omega
    have hfl:=sd (l:=ps) i
    refine sh ?_
    rw[show (i:Int).toNat=i by omega]
    refine gE ?_
    rw[mI hd]
    have HS:min (d.length:Int) (65536 - ((ps.take i).flatten.length:Int))=d.length:=by omega
    refine sh ?_
    rw[HS]
    refine⟨⟨by omega,by simp⟩,fun _=>br (show _=aq d by rw[Int.toNat_natCast,List.take_of_length_le (by simp)]) ?_⟩
    refine sh ?_
    refine⟨by simp only[cy]; omega,?_⟩
    refine sh ?_
    refine nX (i+1) ?_ ?_ ⟨_,hp,rfl⟩ ?_ ?_
    ·omega
    ·omega
    ·all_goals repeat' (first|exact True.intro|refine And.intro ?_ ?_|(intro _u; clear _u)|(with_reducible first|exact aU.fg|refine eM ?_ ?_|refine eF ?_ ?_ ?_|refine eN ?_|refine eL ?_ ?_ ?_|refine eA ?_ ?_|refine bp.mk ⟨_,hp,rfl⟩ ?_ ?_)|refine bp.mk ⟨_,hp,rfl⟩ ?_ ?_)
     all_goals try first|with_reducible rfl|omega|exact .inl (by decide)|(simp; done)|rfl
    ·all_goals repeat' (first|exact True.intro|refine And.intro ?_ ?_|(intro _u; clear _u)|(with_reducible first|exact aU.fg|refine eM ?_ ?_|refine eF ?_ ?_ ?_|refine eN ?_|refine eL ?_ ?_ ?_|refine eA ?_ ?_|refine bp.mk ⟨_,hp,rfl⟩ ?_ ?_)|refine bp.mk ⟨_,hp,rfl⟩ ?_ ?_)
     all_goals try first|with_reducible rfl|omega|exact .inl (by decide)|(simp; done)|rfl
     all_goals (rw[fP hd]; simp)
   ·rw[dJ]at hc
    obtain rfl:i=ps.length:=by omega
    rw[List.take_of_length_le (Nat.le_refl _)]
    generalize ps.flatten=L at hl hA ⊢
    refine sh ?_
    refine mw 200 (fun n:Nat=>16*n<=L.length) (fun n=>⟨[(0,.loc 0 1 0 0)],[(0,.var (R.ty 90) (oy (rI (S r0 r1) L n) r0 r1 s0 s1 (.aH 1 (aq (L.drop (16*n)))) L.length))],1⟩) (fun n=>L.length - 16*n) (0) ?_ ?_
    ·exact Nat.zero_le _
    ·intro n hn
     dsimp only
     refine sh ?_
     refine cS (fun h1=> ?_) (fun h1=> ?_)
     ·have h2:16*n+16<=L.length:=by simp at h1; omega
      refine sh ?_
      refine br (by show _=aq ((L.drop (16*n)).take 16); simp[aq,List.map_take]) ?_
      refine sh ?_
      refine aj.pure h.uV.GP.hb (wv h.uV ((L.drop (16*n)).take 16) (by simp; omega) (by simp; omega)) rfl ?_
      have rb:(lI ((L.drop (16*n)).take 16)).length=17:=iq (by simp; omega)
      refine sh ?_
      refine gE ?_
      show oU 17 ((lI ((L.drop (16*n)).take 16)).map b8) _
      refine tk ?_ (by rw[List.length_map,rb])
      refine sh ?_
      refine Yg false [0] (SC.c r0 r1 (rI (S r0 r1) L n) (lI ((L.drop (16*n)).take 16)) (pz SC u0 u1 L n) rb u0 u1 (R.ty 90) _ (.inr ⟨r0,r1,s0,s1,L.length,_,rfl⟩)) ?_
      repeat (intro _; first|refine eK ?_|refine eP ?_)
      refine sh ?_
      refine br (by show _=aq (L.drop (16* (n+1))); simp[aq,Nat.mul_add]) ?_
      refine sh ?_
      refine yP (n+1) ?_ ?_
      ·omega
      ·omega
     ·simp only[cy,List.length_drop]at h1
      obtain rfl:n=L.length / 16:=by omega
      rw[hA]
      refine sh ?_
      exact rM [0]
def xx(S:H3->List UInt8->H3)(L:List UInt8):H3:=if L.length % 16=0 then rI S L (L.length / 16)else S (rI S L (L.length / 16)) (lI (L.drop (16* (L.length / 16))))
theorem Ey{R:Env}{S:Int->Int->H3->List UInt8->H3}(SC:HR R S){r0 r1:Int}(u0:dg r0)(u1:dg r1)(L:List UInt8):(xx (S r0 r1) L).Ok:=by
 unfold xx
 split
 ·exact pz SC u0 u1 L _
 ·exact SC.ok _ _ _ _ (pz SC u0 u1 L _) (iq (by simp; omega)) u0 u1
theorem Qg{R:Env}(h:NV R){S:Int->Int->H3->List UInt8->H3}(SC:HR R S)(L:List UInt8)(r0 r1 s0 s1:Int)(u0:dg r0)(u1:dg r1)(Q1:dg s0)(Q2:dg s1)(n:Int):∃t:List UInt8,t.length=16/\R.Mc 613 [.loc 0 1 0 0] [(0,.var (R.ty 90) (oy (rI (S r0 r1) L (L.length / 16)) r0 r1 s0 s1 (.aH 1 (aq (L.drop (16* (L.length / 16))))) n))] (.agg (t.map b8)) [(0,.var (R.ty 90) (oy (rI (S r0 r1) L (L.length / 16)) r0 r1 s0 s1 (.aH 1 (aq (L.drop (16* (L.length / 16))))) n))] 1:=by
 obtain⟨t,ht,ct⟩:=Qa h.GS (xx (S r0 r1) L) s0 s1 (Ey SC u0 u1 L) Q1 Q2
 have hA:=pz SC u0 u1 L (L.length / 16)
 refine⟨t,ht,h.aao.aL 200 1 rfl rfl rfl fun X bb hfit hp=> ?_⟩
 unfold xx at ct
 generalize rI (S r0 r1) L (L.length / 16)=A at ct hA ⊢
 by_cases h0:L.length % 16=0
 ·rw[if_pos h0]at ct
  have e:L.drop (16* (L.length / 16))=[]:=List.drop_of_length_le (by omega)
  rw[e]
  refine sh ?_
  refine aj.pure h.uV.GP.hb (Ew h.uV) rfl ?_
  refine sh ?_
  refine az.one 100 ?_
  refine sh ?_
  refine aD (by rfl) ?_
  refine sh ?_
  refine aj.pure h.GS.NU.hb ct rfl ?_
  refine li (vs:=t.map b8) (n:=16) ?_ (by rw[List.length_map,ht])
  refine ov (vs:=t.map b8) (cs:=List.replicate 16 (.int .u8 0)) ?_ (by rw[List.length_map,ht]; rfl)
  refine fun _=>cK ?_
  refine tk (l:=t.map b8) ?_ (by rw[List.length_map,ht])
  refine sh ?_
  exact rMB [0]
 ·rw[if_neg h0]at ct
  have hr:(L.drop (16* (L.length / 16))).length<16:=by simp; omega
  have WG:0< (L.drop (16* (L.length / 16))).length:=by simp; omega
  generalize L.drop (16* (L.length / 16))=Q at ct hr WG ⊢
  refine sh ?_
  refine aj.pure h.uV.GP.hb (wv h.uV Q (by omega) WG) rfl ?_
  refine sh ?_
  refine az.one 100 ?_
  refine sh ?_
  refine aw (by rfl) ?_
  refine sh ?_
  refine gE ?_
  have rb:(lI Q).length=17:=iq (by omega)
  show oU 17 ((lI Q).map b8) _
  refine tk ?_ (by rw[List.length_map,rb])
  refine li (vs:=(lI Q).map b8) (n:=17) ?_ (by rw[List.length_map,rb])
  refine ov (vs:=(lI Q).map b8) (cs:=List.replicate 17 (.int .u8 0)) ?_ (by rw[List.length_map,rb]; rfl)
  refine tk ?_ (by rw[List.length_map,rb])
  refine sh ?_
  refine Yg false [2] (SC.c r0 r1 A (lI Q) hA rb u0 u1 (R.ty 91) [] (.inl rfl)) ?_
  repeat (intro _; first|refine eK ?_|refine eP ?_)
  refine sh ?_
  refine az.one 100 ?_
  refine sh ?_
  refine aD (by rfl) ?_
  refine sh ?_
  refine aj.pure h.GS.NU.hb ct rfl ?_
  refine li (vs:=t.map b8) (n:=16) ?_ (by rw[List.length_map,ht])
  refine ov (vs:=t.map b8) (cs:=List.replicate 16 (.int .u8 0)) ?_ (by rw[List.length_map,ht]; rfl)
  refine fun _=>cK ?_
  refine tk (l:=t.map b8) ?_ (by rw[List.length_map,ht])
  refine sh ?_
  exact rMB [0]
structure WH(R:Env)(T:List UInt8->List (List UInt8)->List UInt8):Prop where
 len:∀k ps,(T k ps).length=16
 c:∀k ps,k.length=32->ps.length<=1000->ps.flatten.length<=65536->R.Pc 590 [.agg (k.map b8),.aH 1 (dh ps)] (.agg ((T k ps).map b8))
theorem Qh{R:Env}(h:JM R)(k:List UInt8)(ps:List (List UInt8))(hk:k.length=32)(hps:ps.length<=1000)(hl:ps.flatten.length<=65536):∃t:List UInt8,t.length=16/\R.Pc 590 [.agg (k.map b8),.aH 1 (dh ps)] (.agg (t.map b8)):=by
 obtain⟨S,SC⟩:=aby h.JN.GR
 obtain⟨r0,r1,s0,s1,⟨u0,u1,Q1,Q2⟩,c1⟩:=Qe h.NW k hk
 have c2:=Qf h.JN SC ps r0 r1 s0 s1 u0 u1 hps hl
 obtain⟨t,ht,c3⟩:=Qg h.NY SC ps.flatten r0 r1 s0 s1 u0 u1 Q1 Q2 ps.flatten.length
 refine⟨t,ht,h.TU.enter 100 rfl fun X bb hfit hp=> ?_⟩
 generalize rI (S r0 r1) ps.flatten (ps.flatten.length / 16)=A at c2 c3
 generalize ps.flatten.drop (16* (ps.flatten.length / 16))=Q at c2 c3
 refine tk (l:=k.map b8) ?_ (by rw[List.length_map,hk])
 refine sh ?_
 refine Yg false [] (c1) ?_
 repeat (intro _; first|refine eK ?_|refine eP ?_)
 refine sh ?_
 refine cM false [2] (c2) ?_
 repeat (intro _; first|refine eK ?_|refine eP ?_)
 refine sh ?_
 refine cM false [2] (c3) ?_
 repeat (intro _; first|refine eK ?_|refine eP ?_)
 refine rnA ?_ (aY t)
 repeat (intro _; first|refine eK ?_|refine eP ?_)
 refine li (vs:=t.map b8) (n:=16) ?_ (by rw[List.length_map,ht])
 refine ov (vs:=t.map b8) (cs:=List.replicate 16 (.int .u8 0)) ?_ (by rw[List.length_map,ht]; rfl)
 refine tk (l:=t.map b8) ?_ (by rw[List.length_map,ht])
 refine sh ?_
 exact rTB
theorem abz{R:Env}(h:JM R):∃T,WH R T:=by
 have key:∀(k:List UInt8)(ps:List (List UInt8)),∃t:List UInt8,t.length=16/\(k.length=32->ps.length<=1000->ps.flatten.length<=65536->R.Pc 590 [.agg (k.map b8),.aH 1 (dh ps)] (.agg (t.map b8))):=by
  intro k ps
  by_cases hh:k.length=32/\ps.length<=1000/\ps.flatten.length<=65536
  ·obtain⟨h1,h2,h3⟩:=hh
   obtain⟨t,k1,k2⟩:=Qh h k ps h1 h2 h3
   exact⟨t,k1,fun _ _ _=>k2⟩
  ·exact⟨List.replicate 16 0,rfl,fun a b c=>absurd ⟨a,b,c⟩ hh⟩
 exact⟨fun k ps=>(key k ps).choose,⟨fun k ps=>(key k ps).choose_spec.1,fun k ps=>(key k ps).choose_spec.2⟩⟩
end Go.UM
namespace Go.UM
open Go.AM
set_option maxRecDepth 4000
def Qi(f:Int->List UInt8)(c:Int)(n i:Nat):List UInt8:=((List.range i).flatMap fun j=>f (wr .u32 (c+ (j:Nat)))).take n
theorem BF{f:Int->List UInt8}(h:∀x,(f x).length=64)(c:Int)(n i:Nat):(Qi f c n i).length=min n (64*i):=by
 unfold Qi
 rw[List.length_take,iT (f:=fun j=>f (wr .u32 (c+ (j:Nat)))) (fun j=>h _)]
theorem HT{f:Int->List UInt8}(h:∀x,(f x).length=64)(c:Int){n i:Nat}(hi:64*i<n):Qi f c n i++(f (wr .u32 (c+ (i:Nat)))).take (min 64 (n - 64*i))=Qi f c n (i+1):=by
 have hl:=iT (f:=fun j=>f (wr .u32 (c+ (j:Nat)))) (fun j=>h _)
 have e:=KC h c hi
 unfold Qi
 rw[List.take_of_length_le (by rw[hl]; omega),e]
 rcases Nat.le_total n (64* (i+1))with h2|h2
 ·rw[Nat.min_eq_left h2]
 ·rw[Nat.min_eq_right h2,List.take_of_length_le (by rw[hl]; omega),List.take_of_length_le (by rw[hl]; omega)]
structure jU(R:Env)(B:List UInt8->List UInt8->Int->List UInt8):Prop where
 len:∀k nn c,(B k nn c).length=64
 c:∀k nn c,k.length=32->nn.length=12->R.Pc 610 [.agg (k.map b8),.int .u32 c,.agg (nn.map b8)] (.agg ((B k nn c).map b8))
theorem abA{R:Env}(h:GM R):∃B,jU R B:=⟨aS,BD,fun k nn c hk hn=>KF h k nn c hk hn⟩
variable {B:List UInt8->List UInt8->Int->List UInt8}
set_option maxHeartbeats 4000000 in
theorem HU{R:Env}(h:NO R)(BC:jU R B)(k nn:List UInt8)(c:Int)(n:Nat)(hk:k.length=32)(hn:nn.length=12)(hm:n<=65536)(hc:wr .u32 c=c):R.Pc 587 [.agg (k.map b8),.int .u32 c,.agg (nn.map b8),.int .i64 n] (.aH 1 (aq (zK (B k nn) c n))):=
 h.TE.enter 200 rfl fun X bb hfit hp=>by
  have hb:=BC.len k nn
  refine sh ?_
  refine az.inv 200 (fun s:Nat × List UInt8=>s.1<=1024/\s.2=Qi (B k nn) c n s.1) (fun s=>⟨[(1,.int .u32 (wr .u32 (c+ (s.1:Nat)))),(3,.int .i64 n),(4,.loc 0 1 0 0),(6,.loc 1 1 0 0),(9,.bi 2 s.2.length)],[(0,.var (R.ty 63) (k.map b8)),(1,.var (R.ty 73) (nn.map b8)),(2,.arr (R.ty 4) 1 (aq s.2))],3⟩) (fun s=>1024 - s.1) ((0,[])) ?_ ⟨⟨_,hp,rfl⟩,?_,?_⟩ ?_
  ·exact⟨Nat.zero_le _,by simp[Qi]⟩
  ·all_goals repeat' (first|exact True.intro|refine And.intro ?_ ?_|(intro _u; clear _u)|(with_reducible first|exact aU.fg|refine eM ?_ ?_|refine eF ?_ ?_ ?_|refine eN ?_|refine eL ?_ ?_ ?_|refine eA ?_ ?_|refine bp.mk ⟨_,hp,rfl⟩ ?_ ?_)|refine bp.mk ⟨_,hp,rfl⟩ ?_ ?_)
   all_goals try first|with_reducible rfl|omega|exact .inl (by decide)|(simp; done)|rfl
   all_goals first|(rw[show c+ ((0:Nat):Int)=c by omega,hc])|omega
  ·all_goals repeat' (first|exact True.intro|refine And.intro ?_ ?_|(intro _u; clear _u)|(with_reducible first|exact aU.fg|refine eM ?_ ?_|refine eF ?_ ?_ ?_|refine eN ?_|refine eL ?_ ?_ ?_|refine eA ?_ ?_|refine bp.mk ⟨_,hp,rfl⟩ ?_ ?_)|refine bp.mk ⟨_,hp,rfl⟩ ?_ ?_)
   all_goals try first|with_reducible rfl|omega|exact .inl (by decide)|(simp; done)|rfl
   all_goals first|exact tC (aY _)|exact tD (aY _)
  ·rintro⟨i,L⟩ ⟨hi,hL⟩
   dsimp only at hi hL ⊢
   have hl:=BF hb c n i
   rw[<-hL]at hl
   refine sh ?_
   refine cS (fun h1=> ?_) (fun h1=> ?_)
   ·have h2:64*i<n:=by omega
    refine tk (l:=k.map b8) ?_ (by rw[List.length_map,hk])
    refine tk (l:=nn.map b8) ?_ (by rw[List.length_map,hn])
    refine sh ?_
    refine aj.pure h.Bb.NN.hb (BC.c k nn (wr .u32 (c+ (i:Nat))) hk hn) (by simp[AV.au,AV.names]) ?_
    have hs:=HT hb c h2
    rw[<-hL]at hs
    generalize Bu:B k nn (wr .u32 (c+ (i:Nat)))=Z at hs ⊢
    have hB:Z.length=64:=by rw[<-Bu]; exact BC.len ..
    refine li (vs:=Z.map b8) (n:=64) ?_ (by rw[List.length_map,hB])
    refine ov (vs:=Z.map b8) (cs:=List.replicate 64 (.int .u8 0)) ?_ (by rw[List.length_map,hB]; rfl)
    refine sh ?_
    refine sB 0 (min 64 (n - 64*i)) ?_
    refine fun _=>⟨⟨rfl,by simp⟩,ck (l:=Z) (n:=min 64 (n - 64*i)) ?_ (by rw[hB]; omega)⟩
    refine sh ?_
    refine ai ?_
    rw[KD]
    refine sh ?_
    refine nX ((i+1,L++Z.take (min 64 (n - 64*i)))) ?_ ?_ ⟨_,hp,rfl⟩ ?_ ?_
    ·exact⟨by omega,hs⟩
    ·dsimp only; omega
    ·all_goals repeat' (first|exact True.intro|refine And.intro ?_ ?_|(intro _u; clear _u)|(with_reducible first|exact aU.fg|refine eM ?_ ?_|refine eF ?_ ?_ ?_|refine eN ?_|refine eL ?_ ?_ ?_|refine eA ?_ ?_|refine bp.mk ⟨_,hp,rfl⟩ ?_ ?_)|refine bp.mk ⟨_,hp,rfl⟩ ?_ ?_)
     all_goals try first|with_reducible rfl|omega|exact .inl (by decide)|(simp; done)|rfl
     all_goals (congr 1; dsimp only; omega)
    ·all_goals repeat' (first|exact True.intro|refine And.intro ?_ ?_|(intro _u; clear _u)|(with_reducible first|exact aU.fg|refine eM ?_ ?_|refine eF ?_ ?_ ?_|refine eN ?_|refine eL ?_ ?_ ?_|refine eA ?_ ?_|refine bp.mk ⟨_,hp,rfl⟩ ?_ ?_)|refine bp.mk ⟨_,hp,rfl⟩ ?_ ?_)
     all_goals try first|with_reducible rfl|omega|exact .inl (by decide)|(simp; done)|rfl
     all_goals first|exact tC (aY _)|exact tD (aY _)
   ·have e:L=zK (B k nn) c n:=by rw[hL]; exact HK hb c (by omega)
    refine sh ?_
    refine rT ?_
    all_goals repeat' (first|exact True.intro|refine And.intro ?_ ?_|(intro _u; clear _u)|(with_reducible first|exact aU.fg|refine eM ?_ ?_|refine eF ?_ ?_ ?_|refine eN ?_|refine eL ?_ ?_ ?_|refine eA ?_ ?_|refine bp.mk ⟨_,hp,rfl⟩ ?_ ?_)|refine bp.mk ⟨_,hp,rfl⟩ ?_ ?_)
    all_goals try first|with_reducible rfl|omega|exact .inl (by decide)|(simp; done)|rfl
    all_goals (rw[e])
def pA(B:List UInt8->List UInt8->Int->List UInt8)(k nn d:List UInt8):List UInt8:=kD d (zK (B k nn) 1 d.length)
theorem HV{d s:List UInt8}{j:Nat}{x y:UInt8}(hl:s.length=d.length)(hx:d[j]? =some x)(hy:s[j]? =some y):(kD (d.take j) (s.take j)++d.drop j).set j (x ^^^ y)=kD (d.take (j+1)) (s.take (j+1))++d.drop (j+1):=by
 have h1:=(List.getElem?_eq_some_iff.1 hx).1
 have h2:=(List.getElem?_eq_some_iff.1 hy).1
 have e1:(kD (d.take j) (s.take j)).length=j:=by simp[kD]; omega
 rw[List.set_append,if_neg (by omega),e1,Nat.sub_self,List.drop_eq_getElem_cons h1,List.take_add_one,List.take_add_one,hx,hy]
 simp only[List.set_cons_zero,Option.toList_some]
 unfold kD
 rw[List.zipWith_append (by simp; omega)]
 simp
set_option maxHeartbeats 4000000 in
theorem HW{R:Env}(h:JH R)(BC:jU R B)(k nn d:List UInt8)(hk:k.length=32)(hn:nn.length=12)(hm:d.length<=65536):R.Pc 563 [.agg (k.map b8),.int .u32 1,.agg (nn.map b8),.aH 1 [[.aH 1 (aq d)]]] (.aH 1 (aq (pA B k nn d))):=
 h.JI.enter 200 rfl fun X bb hfit hp=>by
  refine sh ?_
  refine az.one 100 ?_
  refine sh ?_
  refine aw (by rfl) ?_
  refine sh ?_
  refine gE ?_
  refine sh ?_
  refine br (by show _=aq d; rw[show min (d.length:Int) (65536 - 0)=d.length by omega,Int.toNat_natCast,List.take_of_length_le (by simp)]) ?_
  refine sh ?_
  refine az.one 100 ?_
  refine sh ?_
  refine aD (by rfl) ?_
  refine tk (l:=k.map b8) ?_ (by rw[List.length_map,hk])
  refine tk (l:=nn.map b8) ?_ (by rw[List.length_map,hn])
  refine sh ?_
  rw[cy]
  refine aj.pure h.GN.TE.hb (HU h.GN BC k nn 1 d.length hk hn hm rfl) (by simp[AV.au,AV.names]) ?_
  have hs:=mH (f:=B k nn) (BC.len k nn) 1 d.length
  unfold pA
  generalize zK (B k nn) 1 d.length=s at hs ⊢
  refine sh ?_
  refine az.inv 200 (fun j:Nat=>j<=d.length) (fun j=>⟨[(9,.bi 2 d.length),(36,.aH 1 (aq s)),(37,.int .i64 s.length),(38,.int .i64 j)],[(2,.arr (R.ty 4) 1 (aq (kD (d.take j) (s.take j)++d.drop j)))],3⟩) (fun j=>d.length - j) (0) ?_ ⟨⟨_,hp,rfl⟩,?_,?_⟩ ?_
  ·exact Nat.zero_le _
  ·all_goals repeat' (first|exact True.intro|refine And.intro ?_ ?_|(intro _u; clear _u)|(with_reducible first|exact aU.fg|refine eM ?_ ?_|refine eF ?_ ?_ ?_|refine eN ?_|refine eL ?_ ?_ ?_|refine eA ?_ ?_|refine bp.mk ⟨_,hp,rfl⟩ ?_ ?_)|refine bp.mk ⟨_,hp,rfl⟩ ?_ ?_)
   all_goals try first|with_reducible rfl|omega|exact .inl (by decide)|(simp; done)|rfl
  ·all_goals repeat' (first|exact True.intro|refine And.intro ?_ ?_|(intro _u; clear _u)|(with_reducible first|exact aU.fg|refine eM ?_ ?_|refine eF ?_ ?_ ?_|refine eN ?_|refine eL ?_ ?_ ?_|refine eA ?_ ?_|refine bp.mk ⟨_,hp,rfl⟩ ?_ ?_)|refine bp.mk ⟨_,hp,rfl⟩ ?_ ?_)
   all_goals try first|with_reducible rfl|omega|exact .inl (by decide)|(simp; done)|rfl
   all_goals simp[kD]
  ·intro j hj
   dsimp only
   refine sh ?_
   refine cS (fun h1=> ?_) (fun h1=> ?_)
   ·have hlt:j<d.length:=by omega
    obtain⟨x,hx⟩:∃u,d[j]? =some u:=⟨_,List.getElem?_eq_getElem hlt⟩
    obtain⟨y,hy⟩:∃u,s[j]? =some u:=⟨_,List.getElem?_eq_getElem (by omega)⟩
    have hst:=HV hs hx hy
    have hLl:(kD (d.take j) (s.take j)++d.drop j).length=d.length:=by simp[kD]; omega
    have hLj:(kD (d.take j) (s.take j)++d.drop j)[j]? =some x:=by
     have e1:(kD (d.take j) (s.take j)).length=j:=by simp[kD]; omega
     rw[List.getElem?_append_right (by omega),e1,Nat.sub_self,List.drop_eq_getElem_cons hlt]
     simpa using hx
    generalize kD (d.take j) (s.take j)++d.drop j=L at hst hLl hLj ⊢
    refine sh ?_
    refine G6 hy ?_
    refine sh ?_
    refine yN (by simp[hLl]) hLj ?_
    refine sh ?_
    refine yN (by simp[hLl]) hLj ?_
    refine sh ?_
    refine nX (j+1) ?_ ?_ ⟨_,hp,rfl⟩ ?_ ?_
    ·omega
    ·omega
    ·all_goals repeat' (first|exact True.intro|refine And.intro ?_ ?_|(intro _u; clear _u)|(with_reducible first|exact aU.fg|refine eM ?_ ?_|refine eF ?_ ?_ ?_|refine eN ?_|refine eL ?_ ?_ ?_|refine eA ?_ ?_|refine bp.mk ⟨_,hp,rfl⟩ ?_ ?_)|refine bp.mk ⟨_,hp,rfl⟩ ?_ ?_)
     all_goals try first|with_reducible rfl|omega|exact .inl (by decide)|(simp; done)|rfl
    ·all_goals repeat' (first|exact True.intro|refine And.intro ?_ ?_|(intro _u; clear _u)|(with_reducible first|exact aU.fg|refine eM ?_ ?_|refine eF ?_ ?_ ?_|refine eN ?_|refine eL ?_ ?_ ?_|refine eA ?_ ?_|refine bp.mk ⟨_,hp,rfl⟩ ?_ ?_)|refine bp.mk ⟨_,hp,rfl⟩ ?_ ?_)
     all_goals try first|with_reducible rfl|omega|exact .inl (by decide)|(simp; done)|rfl
     all_goals (rw[<-hst,V8]; simp[aq,List.map_set])
   ·obtain rfl:j=d.length:=by omega
    refine sh ?_
    refine rT ?_
    all_goals repeat' (first|exact True.intro|refine And.intro ?_ ?_|(intro _u; clear _u)|(with_reducible first|exact aU.fg|refine eM ?_ ?_|refine eF ?_ ?_ ?_|refine eN ?_|refine eL ?_ ?_ ?_|refine eA ?_ ?_|refine bp.mk ⟨_,hp,rfl⟩ ?_ ?_)|refine bp.mk ⟨_,hp,rfl⟩ ?_ ?_)
    all_goals try first|with_reducible rfl|omega|exact .inl (by decide)|(simp; done)|rfl
    all_goals (rw[List.take_of_length_le (Nat.le_refl _),List.take_of_length_le (by omega),List.drop_length,List.append_nil])
    all_goals (try rw[cy,qX hs])
end Go.UM
namespace Go.UM
open Go.AM
set_option maxRecDepth 4000
theorem Qj{R:Env}(h:NG R)(n:Nat)(hn:n<=1073741824):R.Mc 562 [.ab,.int .i64 n] [] (.bi 0 0) [(0,.arr (R.ty 4) 1 [])] 1:=
 h.aaj.aL 100 0 rfl rfl rfl fun X bb hfit hp=>by
  refine sh ?_
  refine aD (by exact decide_eq_false (by omega)) ?_
  refine sh ?_
  refine cS (fun h0=> ?_) (fun h0=> ?_)
  ·refine sh ?_
   refine GA n rfl rfl hn ?_
   refine sh ?_
   refine iC 0 [] ?_
   refine sh ?_
   exact rM [1]
  ·refine sh ?_
   exact rM [50]
theorem pB{R:Env}(h:GL R)(ps:List (List UInt8))(hps:ps.length<=1000)(hl:ps.flatten.length<=16777216):R.Mc 543 [.aH 1 (dh ps)] [] (.bi 0 ps.flatten.length) [(0,.arr (R.ty 4) 1 (aq ps.flatten))] 1:=
 h.aak.aL 100 0 rfl rfl rfl fun X bb hfit hp=>by
  refine sh ?_
  refine mw 200 (fun i:Nat=>i<=ps.length) (fun i=>⟨[(0,.aH 1 (dh ps)),(3,.int .i64 (ps.take i).flatten.length),(9,.aH 1 (dh ps)),(10,.int .i64 (dh ps).length),(11,.int .i64 i)],[],0⟩) (fun i=>ps.length - i) (0) ?_ ?_
  ·exact Nat.zero_le _
  ·intro i hi
   dsimp only
   refine sh ?_
   refine cS (fun hc=> ?_) (fun hc=> ?_)
   ·rw[dJ]at hc
    obtain⟨d,hd⟩:∃d,ps[i]? =some d:=⟨_,List.getElem?_eq_getElem (by omega)⟩
    have hfl:=sd (l:=ps) (i+1)
    rw[fP hd,List.length_append]at hfl
    refine sh ?_
    rw[show (i:Int).toNat=i by omega]
    refine gE ?_
    rw[mI hd]
    refine sh ?_
    refine aD (by exact decide_eq_false (by omega)) ?_
    refine sh ?_
    refine nX (i+1) ?_ ?_ ⟨_,hp,rfl⟩ ?_ ?_
    ·omega
    ·omega
    ·all_goals repeat' (first|exact True.intro|refine And.intro ?_ ?_|(intro _u; clear _u)|(with_reducible first|exact aU.fg|refine eM ?_ ?_|refine eF ?_ ?_ ?_|refine eN ?_|refine eL ?_ ?_ ?_|refine eA ?_ ?_|refine bp.mk ⟨_,hp,rfl⟩ ?_ ?_)|refine bp.mk ⟨_,hp,rfl⟩ ?_ ?_)
     all_goals try first|with_reducible rfl|omega|exact .inl (by decide)|(simp; done)|rfl
     all_goals (rw[fP hd]; simp)
    ·all_goals repeat' (first|exact True.intro|refine And.intro ?_ ?_|(intro _u; clear _u)|(with_reducible first|exact aU.fg|refine eM ?_ ?_|refine eF ?_ ?_ ?_|refine eN ?_|refine eL ?_ ?_ ?_|refine eA ?_ ?_|refine bp.mk ⟨_,hp,rfl⟩ ?_ ?_)|refine bp.mk ⟨_,hp,rfl⟩ ?_ ?_)
     all_goals try first|with_reducible rfl|omega|exact .inl (by decide)|(simp; done)|rfl
   ·rw[dJ]at hc
    obtain rfl:i=ps.length:=by omega
    rw[List.take_of_length_le (Nat.le_refl _)]
    refine sh ?_
    refine cM false [] (Qj h.NH ps.flatten.length (by omega)) ?_
    repeat (intro _; first|refine eK ?_|refine eP ?_)
    refine sh ?_
    refine mw 200 (fun i:Nat=>i<=ps.length) (fun i=>⟨[(6,.bi 0 (ps.take i).flatten.length),(25,.aH 1 (dh ps)),(26,.int .i64 (dh ps).length),(27,.int .i64 i)],[(0,.arr (R.ty 4) 1 (aq (ps.take i).flatten))],1⟩) (fun i=>ps.length - i) (0) ?_ ?_
    ·exact Nat.zero_le _
    ·intro i hi
     dsimp only
     refine sh ?_
     refine cS (fun hc=> ?_) (fun hc=> ?_)
     ·rw[dJ]at hc
      obtain⟨d,hd⟩:∃d,ps[i]? =some d:=⟨_,List.getElem?_eq_getElem (by omega)⟩
      have hfl:=sd (l:=ps) (i+1)
      rw[fP hd,List.length_append]at hfl
      refine sh ?_
      rw[show (i:Int).toNat=i by omega]
      refine gE ?_
      rw[mI hd]
      refine sh ?_
      refine⟨by simp only[cy]; omega,?_⟩
      refine sh ?_
      refine nX (i+1) ?_ ?_ ⟨_,hp,rfl⟩ ?_ ?_
      ·omega
      ·omega
      ·all_goals repeat' (first|exact True.intro|refine And.intro ?_ ?_|(intro _u; clear _u)|(with_reducible first|exact aU.fg|refine eM ?_ ?_|refine eF ?_ ?_ ?_|refine eN ?_|refine eL ?_ ?_ ?_|refine eA ?_ ?_|refine bp.mk ⟨_,hp,rfl⟩ ?_ ?_)|refine bp.mk ⟨_,hp,rfl⟩ ?_ ?_)
       all_goals try first|with_reducible rfl|omega|exact .inl (by decide)|(simp; done)|rfl
       all_goals (rw[fP hd]; simp)
      ·all_goals repeat' (first|exact True.intro|refine And.intro ?_ ?_|(intro _u; clear _u)|(with_reducible first|exact aU.fg|refine eM ?_ ?_|refine eF ?_ ?_ ?_|refine eN ?_|refine eL ?_ ?_ ?_|refine eA ?_ ?_|refine bp.mk ⟨_,hp,rfl⟩ ?_ ?_)|refine bp.mk ⟨_,hp,rfl⟩ ?_ ?_)
       all_goals try first|with_reducible rfl|omega|exact .inl (by decide)|(simp; done)|rfl
       all_goals (rw[fP hd]; simp)
     ·rw[dJ]at hc
      obtain rfl:i=ps.length:=by omega
      rw[List.take_of_length_le (Nat.le_refl _)]
      refine sh ?_
      exact rM [0]
variable {B:List UInt8->List UInt8->Int->List UInt8} {T:List UInt8->List (List UInt8)->List UInt8}
def uf(B:List UInt8->List UInt8->Int->List UInt8)(k nn:List UInt8):List UInt8:=(B k nn 0).take 32
theorem pC{R:Env}(BC:jU R B)(k nn:List UInt8):(uf B k nn).length=32:=by simp[uf,BC.len]
theorem Qk{R:Env}(h:N8 R)(BC:jU R B)(k nn:List UInt8)(hk:k.length=32)(hn:nn.length=12):R.Pc 589 [.agg (k.map b8),.agg (nn.map b8)] (.agg ((uf B k nn).map b8)):=by
 have hc:=BC.c k nn 0 hk hn
 have hkl:=pC BC k nn
 have Bu:=BC.len k nn 0
 have hke:(uf B k nn).map b8=((B k nn 0).map b8).take 32:=by rw[uf,List.map_take]
 generalize uf B k nn=Y at hkl hke ⊢
 generalize B k nn 0=Z at hc Bu hke
 exact h.TY.enter 100 rfl fun X bb hfit hp=>by
  refine tk (l:=k.map b8) ?_ (by rw[List.length_map,hk])
  refine tk (l:=nn.map b8) ?_ (by rw[List.length_map,hn])
  refine sh ?_
  refine aj.pure h.Bb.NN.hb hc (by simp[AV.au,AV.names]) ?_
  refine li (vs:=Z.map b8) (n:=64) ?_ (by rw[List.length_map,Bu])
  refine ov (vs:=Z.map b8) (cs:=List.replicate 64 (.int .u8 0)) ?_ (by rw[List.length_map,Bu]; rfl)
  refine sh ?_
  refine sB 0 32 ?_
  refine fun _=>⟨Nat.le_refl _,?_⟩
  refine tk2 (Y.map b8) ?_ hke.symm (by simp; omega)
  refine li (vs:=Y.map b8) (n:=32) ?_ (by rw[List.length_map,hkl])
  refine ov (vs:=Y.map b8) (cs:=List.replicate 32 (.int .u8 0)) ?_ (by rw[List.length_map,hkl]; rfl)
  refine tk (l:=Y.map b8) ?_ (by rw[List.length_map,hkl])
  refine sh ?_
  exact rTB
def pD(l:List UInt8):List UInt8:=List.replicate ((16 - l.length % 16) % 16) 0
theorem HX{R:Env}(h:N5 R)(l:List UInt8)(hl:l.length<=65536):R.Pc 588 [.aH 1 (aq l)] (.aH 1 (aq (pD l))):=
 h.N7.enter 100 rfl fun X bb hfit hp=>by
  have e1:(l.length:Int).tmod 16=((l.length % 16:Nat):Int):=rfl
  refine sh ?_
  rw[e1]
  have hlt:=Nat.mod_lt l.length (show 0<16 by decide)
  have e2:(16 - ((l.length % 16:Nat):Int)).tmod 16=(((16 - l.length % 16) % 16:Nat):Int):=by
   rw[show (16:Int) - ((l.length % 16:Nat):Int)=((16 - l.length % 16:Nat):Int) by omega]; rfl
  generalize hq:((16 - l.length % 16) % 16)=q at e2
  have hfq:pD l=List.replicate q 0:=by rw[pD,hq]
  rw[e2]
  refine GA q rfl rfl (by omega) ?_
  refine sh ?_
  refine rT ?_
  all_goals repeat' (first|exact True.intro|refine And.intro ?_ ?_|(intro _u; clear _u)|(with_reducible first|exact aU.fg|refine eM ?_ ?_|refine eF ?_ ?_ ?_|refine eN ?_|refine eL ?_ ?_ ?_|refine eA ?_ ?_|refine bp.mk ⟨_,hp,rfl⟩ ?_ ?_)|refine bp.mk ⟨_,hp,rfl⟩ ?_ ?_)
  all_goals try first|with_reducible rfl|omega|exact .inl (by decide)|(simp; done)|rfl
  all_goals (rw[hfq]; simp[aq])
theorem cz{r:List UInt8}(hr:r.length=32):∃k0 k1 k2 k3 k4 k5 k6 k7 k8 k9 eo ep eu ez eB eC eD eE eG eH eJ eQ eR eT eU eV eW eX eY fe fh fi,r=[k0,k1,k2,k3,k4,k5,k6,k7,k8,k9,eo,ep,eu,ez,eB,eC,eD,eE,eG,eH,eJ,eQ,eR,eT,eU,eV,eW,eX,eY,fe,fh,fi]:=by
 match r,hr with
 |[k0,k1,k2,k3,k4,k5,k6,k7,k8,k9,eo,ep,eu,ez,eB,eC,eD,eE,eG,eH,eJ,eQ,eR,eT,eU,eV,eW,eX,eY,fe,fh,fi],_=>exact⟨k0,k1,k2,k3,k4,k5,k6,k7,k8,k9,eo,ep,eu,ez,eB,eC,eD,eE,eG,eH,eJ,eQ,eR,eT,eU,eV,eW,eX,eY,fe,fh,fi,rfl⟩
theorem ll{r:List UInt8}(hr:r.length=12):∃n0 n1 n2 n3 n4 n5 n6 n7 n8 n9 n10 n11,r=[n0,n1,n2,n3,n4,n5,n6,n7,n8,n9,n10,n11]:=by
 match r,hr with
 |[n0,n1,n2,n3,n4,n5,n6,n7,n8,n9,n10,n11],_=>exact⟨n0,n1,n2,n3,n4,n5,n6,n7,n8,n9,n10,n11,rfl⟩
theorem iE(x:Int):∃u:UInt8,wr .u8 x=(u.toNat:Int):=⟨u8 x,lx x⟩
theorem Ql{R:Env}(h:GU R)(BC:jU R B)(TC:WH R T)(k nn a c:List UInt8)(hk:k.length=32)(hn:nn.length=12)(ha:a.length<=16400)(hc:c.length<=16400):∃t:List UInt8,t.length=16/\R.Pc 564 [.agg (k.map b8),.agg (nn.map b8),.aH 1 (aq a),.aH 1 (aq c)] (.agg (t.map b8)):=by
 obtain⟨k0,k1,k2,k3,k4,k5,k6,k7,k8,k9,eo,ep,eu,ez,eB,eC,eD,eE,eG,eH,eJ,eQ,eR,eT,eU,eV,eW,eX,eY,fe,fh,fi,rfl⟩:=cz hk
 obtain⟨n0,n1,n2,n3,n4,n5,n6,n7,n8,n9,n10,n11,rfl⟩:=ll hn
 obtain⟨y0,e0⟩:=iE (bA .i64 (a.length:Int) 0)
 obtain⟨y1,e1⟩:=iE (bA .i64 (a.length:Int) 8)
 obtain⟨y2,e2⟩:=iE (bA .i64 (a.length:Int) 16)
 obtain⟨y3,e3⟩:=iE (bA .i64 (a.length:Int) 24)
 obtain⟨y4,e4⟩:=iE (bA .i64 (a.length:Int) 32)
 obtain⟨y5,e5⟩:=iE (bA .i64 (a.length:Int) 40)
 obtain⟨y6,e6⟩:=iE (bA .i64 (a.length:Int) 48)
 obtain⟨y7,e7⟩:=iE (bA .i64 (a.length:Int) 56)
 obtain⟨y8,e8⟩:=iE (bA .i64 (c.length:Int) 0)
 obtain⟨y9,e9⟩:=iE (bA .i64 (c.length:Int) 8)
 obtain⟨WI,e10⟩:=iE (bA .i64 (c.length:Int) 16)
 obtain⟨Qb,e11⟩:=iE (bA .i64 (c.length:Int) 24)
 obtain⟨Qc,QU⟩:=iE (bA .i64 (c.length:Int) 32)
 obtain⟨WJ,e13⟩:=iE (bA .i64 (c.length:Int) 40)
 obtain⟨WK,e14⟩:=iE (bA .i64 (c.length:Int) 48)
 obtain⟨Qd,e15⟩:=iE (bA .i64 (c.length:Int) 56)
 have hL:([y0,y1,y2,y3,y4,y5,y6,y7,y8,y9,WI,Qb,Qc,WJ,WK,Qd]:List UInt8).length=16:=rfl
 have ck:=Qk h.JP BC [k0,k1,k2,k3,k4,k5,k6,k7,k8,k9,eo,ep,eu,ez,eB,eC,eD,eE,eG,eH,eJ,eQ,eR,eT,eU,eV,eW,eX,eY,fe,fh,fi] [n0,n1,n2,n3,n4,n5,n6,n7,n8,n9,n10,n11] rfl rfl
 have hkl:=pC BC [k0,k1,k2,k3,k4,k5,k6,k7,k8,k9,eo,ep,eu,ez,eB,eC,eD,eE,eG,eH,eJ,eQ,eR,eT,eU,eV,eW,eX,eY,fe,fh,fi] [n0,n1,n2,n3,n4,n5,n6,n7,n8,n9,n10,n11]
 generalize uf B [k0,k1,k2,k3,k4,k5,k6,k7,k8,k9,eo,ep,eu,ez,eB,eC,eD,eE,eG,eH,eJ,eQ,eR,eT,eU,eV,eW,eX,eY,fe,fh,fi] [n0,n1,n2,n3,n4,n5,n6,n7,n8,n9,n10,n11]=Y at ck hkl
 obtain⟨j0,j1,j2,j3,j4,j5,j6,j7,j8,j9,j10,j11,j12,j13,j14,j15,j16,j17,j18,j19,j20,j21,j22,j23,j24,j25,j26,j27,j28,j29,j30,j31,rfl⟩:=cz hkl
 have cfa:=HX h.DK a (by omega)
 have cfc:=HX h.DK c (by omega)
 have hfa:(pD a).length<=16:=by simp[pD]; omega
 have Rq:(pD c).length<=16:=by simp[pD]; omega
 generalize pD a=fa at cfa hfa
 generalize pD c=fc at cfc Rq
 have ct:=TC.c [j0,j1,j2,j3,j4,j5,j6,j7,j8,j9,j10,j11,j12,j13,j14,j15,j16,j17,j18,j19,j20,j21,j22,j23,j24,j25,j26,j27,j28,j29,j30,j31] [a,fa,c,fc,[y0,y1,y2,y3,y4,y5,y6,y7,y8,y9,WI,Qb,Qc,WJ,WK,Qd]] hkl (by simp) (by simp; omega)
 have ht:=TC.len [j0,j1,j2,j3,j4,j5,j6,j7,j8,j9,j10,j11,j12,j13,j14,j15,j16,j17,j18,j19,j20,j21,j22,j23,j24,j25,j26,j27,j28,j29,j30,j31] [a,fa,c,fc,[y0,y1,y2,y3,y4,y5,y6,y7,y8,y9,WI,Qb,Qc,WJ,WK,Qd]]
 generalize T [j0,j1,j2,j3,j4,j5,j6,j7,j8,j9,j10,j11,j12,j13,j14,j15,j16,j17,j18,j19,j20,j21,j22,j23,j24,j25,j26,j27,j28,j29,j30,j31] [a,fa,c,fc,[y0,y1,y2,y3,y4,y5,y6,y7,y8,y9,WI,Qb,Qc,WJ,WK,Qd]]=t at ct ht
 refine⟨t,ht,h.JO.enter 200 rfl fun X bb hfit hp=> ?_⟩
 refine sh ?_
 refine az.one 100 ?_
 refine sh ?_
 refine aw (by rfl) ?_
 refine sh ?_
 refine ai ?_
 refine sh ?_
 refine ai ?_
 refine sh ?_
 refine az.one 100 ?_
 refine sh ?_
 refine aw (by rfl) ?_
 refine sh ?_
 refine ai ?_
 refine sh ?_
 refine ai ?_
 refine sh ?_
 refine az.one 100 ?_
 refine sh ?_
 refine aw (by rfl) ?_
 refine sh ?_
 refine ai ?_
 refine sh ?_
 refine ai ?_
 refine sh ?_
 refine az.one 100 ?_
 refine sh ?_
 refine aw (by rfl) ?_
 refine sh ?_
 refine ai ?_
 refine sh ?_
 refine ai ?_
 refine sh ?_
 refine az.one 100 ?_
 refine sh ?_
 refine aw (by rfl) ?_
 refine sh ?_
 refine ai ?_
 refine sh ?_
 refine ai ?_
 refine sh ?_
 refine az.one 100 ?_
 refine sh ?_
 refine aw (by rfl) ?_
 refine sh ?_
 refine ai ?_
 refine sh ?_
 refine ai ?_
 refine sh ?_
 refine az.one 100 ?_
 refine sh ?_
 refine aw (by rfl) ?_
 refine sh ?_
 refine ai ?_
 refine sh ?_
 refine ai ?_
 refine sh ?_
 refine az.one 100 ?_
 refine sh ?_
 refine aw (by rfl) ?_
 refine sh ?_
 refine ai ?_
 refine sh ?_
 refine ai ?_
 refine sh ?_
 refine az.inv 200 (fun _:Unit=>True) (fun _=>⟨[(2,.aH 1 (aq a)),(3,.aH 1 (aq c)),(4,.loc 0 1 0 0),(5,.loc 1 1 0 0),(8,.loc 2 1 0 0),(9,.bL (.fn (R.ft 588)) []),(10,.be ([y0,y1,y2,y3,y4,y5,y6,y7,y8,y9,WI,Qb,Qc,WJ,WK,Qd].map b8) 0),(12,.int .i64 8)],[(0,.var (R.ty 63) ([k0,k1,k2,k3,k4,k5,k6,k7,k8,k9,eo,ep,eu,ez,eB,eC,eD,eE,eG,eH,eJ,eQ,eR,eT,eU,eV,eW,eX,eY,fe,fh,fi].map b8)),(1,.var (R.ty 73) ([n0,n1,n2,n3,n4,n5,n6,n7,n8,n9,n10,n11].map b8)),(2,.var (R.ty 74) (List.replicate 16 (.int .u8 0)))],3⟩) (fun _=>0) (()) ?_ ⟨⟨_,hp,rfl⟩,?_,?_⟩ ?_
 ·trivial
 ·all_goals repeat' (first|exact True.intro|refine And.intro ?_ ?_|(intro _u; clear _u)|(with_reducible first|exact aU.fg|refine eM ?_ ?_|refine eF ?_ ?_ ?_|refine eN ?_|refine eL ?_ ?_ ?_|refine eA ?_ ?_|refine bp.mk ⟨_,hp,rfl⟩ ?_ ?_)|refine bp.mk ⟨_,hp,rfl⟩ ?_ ?_)
  all_goals try first|with_reducible rfl|omega|exact .inl (by decide)|(simp; done)|rfl
  all_goals first|exact e0|exact e1|exact e2|exact e3|exact e4|exact e5|exact e6|exact e7|exact e8|exact e9|exact e10|exact e11|exact QU|exact e13|exact e14|exact e15
 ·all_goals repeat' (first|exact True.intro|refine And.intro ?_ ?_|(intro _u; clear _u)|(with_reducible first|exact aU.fg|refine eM ?_ ?_|refine eF ?_ ?_ ?_|refine eN ?_|refine eL ?_ ?_ ?_|refine eA ?_ ?_|refine bp.mk ⟨_,hp,rfl⟩ ?_ ?_)|refine bp.mk ⟨_,hp,rfl⟩ ?_ ?_)
  all_goals try first|with_reducible rfl|omega|exact .inl (by decide)|(simp; done)|rfl
  all_goals first|exact tC (aY _)|exact tD (aY _)
 ·intro _ _
  refine sh ?_
  refine aD (by rfl) ?_
  refine sh ?_
  refine aj.pure h.JP.TY.hb ck rfl ?_
  refine sh ?_
  refine aj.pure h.DK.N7.hb cfa rfl ?_
  refine sh ?_
  refine aj.pure h.DK.N7.hb cfc rfl ?_
  refine sh ?_
  refine Yg true [] (ct.mc h.JQ.TU.hb) ?_
  repeat (intro _; first|refine eK ?_|refine eP ?_)
  refine rnA ?_ (aY t)
  repeat (intro _; first|refine eK ?_|refine eP ?_)
  refine li (vs:=t.map b8) (n:=16) ?_ (by rw[List.length_map,ht])
  refine ov (vs:=t.map b8) (cs:=List.replicate 16 (.int .u8 0)) ?_ (by rw[List.length_map,ht]; rfl)
  refine fun _=>cK ?_
  refine tk (l:=t.map b8) ?_ (by rw[List.length_map,ht])
  refine sh ?_
  exact rTB
end Go.UM
namespace Go.UM
open Go.AM
set_option maxRecDepth 4000
def BG:S8:=⟨1779033703,3144134277,1013904242,2773480762,1359893119,2600822924,528734635,1541459225⟩
def ug(s:S8)(b:List UInt8)(n:Int):List AV:=s.row++(b.map b8++ [.int .i64 n])
theorem uh{r:List UInt8}(hr:r.length=25):∃d0 d1 d2 d3 d4 d5 d6 d7 d8 d9 d10 d11 d12 d13 d14 d15 d16 d17 d18 d19 d20 d21 d22 d23 d24,r=[d0,d1,d2,d3,d4,d5,d6,d7,d8,d9,d10,d11,d12,d13,d14,d15,d16,d17,d18,d19,d20,d21,d22,d23,d24]:=by
 match r,hr with
 |[d0,d1,d2,d3,d4,d5,d6,d7,d8,d9,d10,d11,d12,d13,d14,d15,d16,d17,d18,d19,d20,d21,d22,d23,d24],_=>exact⟨d0,d1,d2,d3,d4,d5,d6,d7,d8,d9,d10,d11,d12,d13,d14,d15,d16,d17,d18,d19,d20,d21,d22,d23,d24,rfl⟩
theorem Qm{R:Env}(h:OM R):R.Mc 584 [] [] (.loc 0 1 0 0) [(0,.var (R.ty 81) (ug BG (List.replicate 64 0) 0))] 1:=
 h.aaI.aL 60 0 rfl rfl rfl fun X bb hfit hp=>by
  refine sh ?_
  exact rM [0]
def mJ:List UInt8:=128::(List.replicate 37 0++ [200])
theorem WL{R:Env}(h:OP R):R.Pc 609 [.int .i64 25] (.aH 1 (aq mJ)):=
 h.U0.enter 100 rfl fun X bb hfit hp=>by
  refine sh ?_
  refine ai ?_
  refine sh ?_
  refine ai ?_
  refine sh ?_
  refine ai ?_
  refine sh ?_
  refine GA 39 rfl rfl (by omega) ?_
  refine sh ?_
  refine⟨rfl,?_⟩
  iterate 8
   refine sh ?_
   refine az.one 100 ?_
   refine sh ?_
   refine aw (by rfl) ?_
   refine sh ?_
   refine ai ?_
   refine sh ?_
   refine⟨rfl,?_⟩
  refine sh ?_
  refine az.one 100 ?_
  refine sh ?_
  refine aD (by rfl) ?_
  refine sh ?_
  exact rT
theorem HY{R:Env}(h:G1 R):R.Mc 607 [.loc 0 1 0 0] [(0,.var (R.ty 81) (ug BG (List.replicate 64 0) 0))] (.bool false) [(0,.var (R.ty 81) (ug BG (List.replicate 64 0) 0))] 1:=
 h.UT.aL 60 1 rfl rfl rfl fun X bb hfit hp=>by
  refine sh ?_
  refine aD (by rfl) ?_
  refine sh ?_
  exact rM [0]
theorem zN{R:Env}(h:G1 R)(d:List UInt8)(hd:d.length=25):R.Mc 607 [.loc 0 1 0 0] [(0,.var (R.ty 81) (ug BG (d++List.replicate 39 0) 25))] (.bool false) [(0,.var (R.ty 81) (ug BG (d++List.replicate 39 0) 25))] 1:=by
 obtain⟨d0,d1,d2,d3,d4,d5,d6,d7,d8,d9,d10,d11,d12,d13,d14,d15,d16,d17,d18,d19,d20,d21,d22,d23,d24,rfl⟩:=uh hd
 exact h.UT.aL 60 1 rfl rfl rfl fun X bb hfit hp=>by
  refine sh ?_
  refine aD (by rfl) ?_
  refine sh ?_
  exact rM [0]
theorem HZ{R:Env}(h:G2 R)(d:List UInt8)(hd:d.length=25):R.Mc 585 [.loc 0 1 0 0,.aH 1 [[.aH 1 (aq d)]]] [(0,.var (R.ty 81) (ug BG (List.replicate 64 0) 0))] (.aG []) [(0,.var (R.ty 81) (ug BG (d++List.replicate 39 0) 25))] 1:=by
 obtain⟨d0,d1,d2,d3,d4,d5,d6,d7,d8,d9,d10,d11,d12,d13,d14,d15,d16,d17,d18,d19,d20,d21,d22,d23,d24,rfl⟩:=uh hd
 exact h.UY.aL 100 1 rfl rfl rfl fun X bb hfit hp=>by
  refine sh ?_
  refine cM false [0] (HY h.Be) ?_
  repeat (intro _; first|refine eK ?_|refine eP ?_)
  refine sh ?_
  refine az.one 100 ?_
  refine sh ?_
  refine aw (by rfl) ?_
  refine sh ?_
  refine gE ?_
  refine sh ?_
  refine az.one 100 ?_
  refine sh ?_
  refine aw (by rfl) ?_
  refine sh ?_
  refine sB 0 64 ?_
  refine sh ?_
  refine qd (vs:=[d0,d1,d2,d3,d4,d5,d6,d7,d8,d9,d10,d11,d12,d13,d14,d15,d16,d17,d18,d19,d20,d21,d22,d23,d24].map b8) (n:=25) rfl rfl ?_
  refine sh ?_
  refine br (by rfl) ?_
  refine sh ?_
  refine aD (by rfl) ?_
  refine sh ?_
  refine az.one 100 ?_
  refine sh ?_
  refine aD (by rfl) ?_
  refine sh ?_
  refine az.one 100 ?_
  refine sh ?_
  refine aD (by rfl) ?_
  refine sh ?_
  exact rM [0]
theorem H0{R:Env}(h:G2 R)(d:List UInt8)(hd:d.length=25):R.Mc 585 [.loc 0 1 0 0,.aH 1 [[.aH 1 (aq mJ)]]] [(0,.var (R.ty 81) (ug BG (d++List.replicate 39 0) 25))] (.aG []) [(0,.var (R.ty 81) (ug (uc BG (d++mJ)) (d++mJ) 64))] 1:=by
 have cc:=KG h.J2 BG (d++mJ) (by simp[hd,mJ])
 have rb:mJ.length=39:=rfl
 generalize uc BG (d++mJ)=z at cc ⊢
 obtain⟨d0,d1,d2,d3,d4,d5,d6,d7,d8,d9,d10,d11,d12,d13,d14,d15,d16,d17,d18,d19,d20,d21,d22,d23,d24,rfl⟩:=uh hd
 exact h.UY.aL 100 1 rfl rfl rfl fun X bb hfit hp=>by
  refine sh ?_
  refine cM false [0] (zN h.Be [d0,d1,d2,d3,d4,d5,d6,d7,d8,d9,d10,d11,d12,d13,d14,d15,d16,d17,d18,d19,d20,d21,d22,d23,d24] rfl) ?_
  repeat (intro _; first|refine eK ?_|refine eP ?_)
  refine sh ?_
  refine az.one 100 ?_
  refine sh ?_
  refine aw (by rfl) ?_
  refine sh ?_
  refine gE ?_
  refine sh ?_
  refine az.one 100 ?_
  refine sh ?_
  refine aw (by rfl) ?_
  refine sh ?_
  refine sB 25 39 ?_
  refine sh ?_
  refine qd (vs:=mJ.map b8) (n:=39) rfl rfl ?_
  refine sh ?_
  refine br (by rfl) ?_
  refine sh ?_
  refine aw (by rfl) ?_
  refine sh ?_
  refine aj.pure h.J2.UW.hb cc rfl ?_
  refine sh ?_
  refine az.one 100 ?_
  refine sh ?_
  refine aD (by rfl) ?_
  refine sh ?_
  refine az.one 100 ?_
  refine sh ?_
  refine aD (by rfl) ?_
  refine sh ?_
  exact rM [0]
def mK(x:Int):List UInt8:=[u8 (bA .u32 x 24),u8 (bA .u32 x 16),u8 (bA .u32 x 8),u8 x]
def S8.out(s:S8):List UInt8:=mK s.a++mK s.b++mK s.c++mK s.d++mK s.e++mK s.f++mK s.g++mK s.h
def BH(d:List UInt8):List UInt8:=(uc BG (d++mJ)).out
theorem zO(d:List UInt8):(BH d).length=32:=rfl
theorem Qn{R:Env}(h:OQ R)(d:List UInt8)(hd:d.length=25):R.Mc 586 [.loc 0 1 0 0] [(0,.var (R.ty 81) (ug BG (d++List.replicate 39 0) 25))] (.agg ((BH d).map b8)) [(0,.var (R.ty 81) (ug BG (d++List.replicate 39 0) 25))] 1:=by
 have cw:=H0 h.DO d hd
 unfold BH
 generalize uc BG (d++mJ)=z at cw ⊢
 obtain⟨d0,d1,d2,d3,d4,d5,d6,d7,d8,d9,d10,d11,d12,d13,d14,d15,d16,d17,d18,d19,d20,d21,d22,d23,d24,rfl⟩:=uh hd
 exact h.aaJ.aL 200 1 rfl rfl rfl fun X bb hfit hp=>by
  refine sh ?_
  refine cM false [0] (zN h.Be [d0,d1,d2,d3,d4,d5,d6,d7,d8,d9,d10,d11,d12,d13,d14,d15,d16,d17,d18,d19,d20,d21,d22,d23,d24] rfl) ?_
  repeat (intro _; first|refine eK ?_|refine eP ?_)
  refine sh ?_
  refine aj.pure h.J3.U0.hb (WL h.J3) rfl ?_
  refine sh ?_
  refine aj.let [3] rfl hp rfl ?_
  repeat ((intro _u; clear _u); first|refine eZ ?_|refine eZ ?_ (by simp; omega)|refine lD.drop ?_)
  refine sh ?_
  refine cM false [2] (cw) ?_
  repeat (intro _; first|refine eK ?_|refine eP ?_)
  iterate 8
   refine sh ?_
   refine az.one 100 ?_
   refine sh ?_
   refine aw (by rfl) ?_
   refine sh ?_
   refine ai ?_
   refine sh ?_
   refine ai ?_
   refine sh ?_
   refine ai ?_
   refine sh ?_
   refine ai ?_
  refine sh ?_
  refine az.one 100 ?_
  refine sh ?_
  refine aD (by rfl) ?_
  refine sh ?_
  refine rM [0] ?_
  all_goals repeat' (first|exact True.intro|refine And.intro ?_ ?_|(intro _u; clear _u)|(with_reducible first|exact aU.fg|refine eM ?_ ?_|refine eF ?_ ?_ ?_|refine eN ?_|refine eL ?_ ?_ ?_|refine eA ?_ ?_|refine bp.mk ⟨_,hp,rfl⟩ ?_ ?_)|refine bp.mk ⟨_,hp,rfl⟩ ?_ ?_)
  all_goals try first|with_reducible rfl|omega|exact .inl (by decide)|(simp; done)|rfl
  all_goals exact lx _
theorem WM{R:Env}(h:OR R)(d:List UInt8)(hd:d.length=25):R.Pc 560 [.aH 1 [[.aH 1 (aq d)]]] (.agg ((BH d).map b8)):=by
 have c1:=HZ h.DO d hd
 have c2:=Qn h.OT d hd
 have hl:=zO d
 generalize BH d=z at c2 hl ⊢
 obtain⟨d0,d1,d2,d3,d4,d5,d6,d7,d8,d9,d10,d11,d12,d13,d14,d15,d16,d17,d18,d19,d20,d21,d22,d23,d24,rfl⟩:=uh hd
 obtain⟨z0,z1,z2,z3,z4,z5,z6,z7,z8,z9,WN,WO,z12,WP,WQ,WR,WS,z17,WT,WU,z20,z21,z22,z23,z24,z25,z26,z27,z28,z29,WV,z31,rfl⟩:=cz hl
 exact h.U3.enter 100 rfl fun X bb hfit hp=>by
  refine sh ?_
  refine cM false [] (Qm h.OS) ?_
  repeat (intro _; first|refine eK ?_|refine eP ?_)
  refine sh ?_
  refine cM false [1] (c1) ?_
  repeat (intro _; first|refine eK ?_|refine eP ?_)
  refine sh ?_
  refine cM false [1] (c2) ?_
  repeat (intro _; first|refine eK ?_|refine eP ?_)
  refine sh ?_
  exact rT
end Go.UM
namespace Go.UM
open Go.AM
set_option maxRecDepth 4000
structure qm(R:Env)(U:List UInt8->List UInt8->List UInt8->List UInt8->List UInt8):Prop where
 len:∀k nn a c,(U k nn a c).length=16
 c:∀k nn a c,k.length=32->nn.length=12->a.length<=16400->c.length<=16400->R.Pc 564 [.agg (k.map b8),.agg (nn.map b8),.aH 1 (aq a),.aH 1 (aq c)] (.agg ((U k nn a c).map b8))
theorem abZ{R:Env}(h:GU R){B:List UInt8->List UInt8->Int->List UInt8}(BC:jU R B):∃U,qm R U:=by
 obtain⟨T,TC⟩:=abz h.JQ
 have key:∀(k nn a c:List UInt8),∃t:List UInt8,t.length=16/\(k.length=32->nn.length=12->a.length<=16400->c.length<=16400->R.Pc 564 [.agg (k.map b8),.agg (nn.map b8),.aH 1 (aq a),.aH 1 (aq c)] (.agg (t.map b8))):=by
  intro k nn a c
  by_cases hh:k.length=32/\nn.length=12/\a.length<=16400/\c.length<=16400
  ·obtain⟨h1,h2,h3,h4⟩:=hh
   obtain⟨t,k1,k2⟩:=Ql h BC TC k nn a c h1 h2 h3 h4
   exact⟨t,k1,fun _ _ _ _=>k2⟩
  ·exact⟨List.replicate 16 0,rfl,fun a b c d=>absurd ⟨a,b,c,d⟩ hh⟩
 exact⟨fun k nn a c=>(key k nn a c).choose,⟨fun k nn a c=>(key k nn a c).choose_spec.1,fun k nn a c=>(key k nn a c).choose_spec.2⟩⟩
variable {B:List UInt8->List UInt8->Int->List UInt8} {U:List UInt8->List UInt8->List UInt8->List UInt8->List UInt8}
theorem ei{R:Env}(BC:jU R B)(k nn d:List UInt8):(pA B k nn d).length=d.length:=by
 unfold pA
 exact qX (mH (BC.len k nn) 1 d.length)
theorem ui{R:Env}(BC:jU R B)(k nn d:List UInt8):pA B k nn (pA B k nn d)=d:=by
 have e:=ei BC k nn d
 unfold pA at e ⊢
 rw[e]
 exact tZ (mH (BC.len k nn) 1 d.length)
def ir(B:List UInt8->List UInt8->Int->List UInt8)(U:List UInt8->List UInt8->List UInt8->List UInt8->List UInt8)(k nn a p:List UInt8):List UInt8:=pA B k nn p++U k nn a (pA B k nn p)
theorem fu{R:Env}(BC:jU R B)(UC:qm R U)(k nn a p:List UInt8):(ir B U k nn a p).length=p.length+16:=by
 rw[ir,List.length_append,UC.len,ei BC]
def H1(D:Nat->Bool)(M:ah)(d:Nat):List (List AV)->List (List AV)->Prop
 |[],[]=>True
 |r::es,r'::es'=>dW (B' D M d) r r'/\H1 D M d es es'
 |_,_=>False
theorem zP{D:Nat->Bool}{M:ah}{d:Nat}:∀{es es':List (List AV)},H1 D M d es es'->es'.length=es.length/\∀i,i<es'.length->(es'.getD i []).length=(es.getD i []).length/\∀j,j< (es.getD i []).length->Fz (fun n=>D n=true) (ar M) ((es.getD i []).getD j .bad) ((es'.getD i []).getD j .bad)
 |[],[],_=>⟨rfl,fun i hi=>by simp at hi⟩
 |r::es,r'::es',h=>by
  obtain⟨h1,h2⟩:=h
  obtain⟨k1,k2⟩:=zP h2
  obtain⟨g1,g2⟩:=dz (fun a b h=>kr h) h1
  refine⟨by simp[k1],fun i hi=> ?_⟩
  cases i with
  |zero=>exact⟨g1,g2⟩
  |succ i=>exact k2 i (by simpa using hi)
 |[],_::_,h=>h.elim
 |_::_,[],h=>h.elim
theorem kZ{D:Nat->Bool}{M:ah}{es:List (List AV)}{len:Nat}{Y:List (List AV)->Prop}{Z:Prop}(es':List (List AV))(k:Y es')(h:H1 D M 3 es es')(hl:es.length=len):lD D M es len Y Z:=by
 obtain⟨h1,h2⟩:=zP h
 exact .pY es' ⟨hl,h1,fun i hi=>(h2 i hi).1,fun i j hi hj=>(h2 i hi).2 j hj⟩ k
theorem Ct{R:Env}(h:Oa R)(BC:jU R B)(UC:qm R U)(k n a p:List UInt8)(hk:k.length=32)(hn:n.length=12)(ha:a.length<=16384)(R3:p.length<=16384):R.Mc 545 [.agg (k.map b8),.agg (n.map b8),.aH 1 (aq a),.aH 1 (aq p)] [] (.aG [.bi 0 (ir B U k n a p).length,.int .i64 0]) [(0,.arr (R.ty 4) 1 (aq (ir B U k n a p)))] 1:=by
 obtain⟨k0,k1,k2,k3,k4,k5,k6,k7,k8,k9,eo,ep,eu,ez,eB,eC,eD,eE,eG,eH,eJ,eQ,eR,eT,eU,eV,eW,eX,eY,fe,fh,fi,rfl⟩:=cz hk
 obtain⟨n0,n1,n2,n3,n4,n5,n6,n7,n8,n9,n10,n11,rfl⟩:=ll hn
 have cx:=HW h.tG BC [k0,k1,k2,k3,k4,k5,k6,k7,k8,k9,eo,ep,eu,ez,eB,eC,eD,eE,eG,eH,eJ,eQ,eR,eT,eU,eV,eW,eX,eY,fe,fh,fi] [n0,n1,n2,n3,n4,n5,n6,n7,n8,n9,n10,n11] p rfl rfl (by omega)
 have hxl:=ei BC [k0,k1,k2,k3,k4,k5,k6,k7,k8,k9,eo,ep,eu,ez,eB,eC,eD,eE,eG,eH,eJ,eQ,eR,eT,eU,eV,eW,eX,eY,fe,fh,fi] [n0,n1,n2,n3,n4,n5,n6,n7,n8,n9,n10,n11] p
 unfold ir
 generalize pA B [k0,k1,k2,k3,k4,k5,k6,k7,k8,k9,eo,ep,eu,ez,eB,eC,eD,eE,eG,eH,eJ,eQ,eR,eT,eU,eV,eW,eX,eY,fe,fh,fi] [n0,n1,n2,n3,n4,n5,n6,n7,n8,n9,n10,n11] p=x at cx hxl ⊢
 have cm:=UC.c [k0,k1,k2,k3,k4,k5,k6,k7,k8,k9,eo,ep,eu,ez,eB,eC,eD,eE,eG,eH,eJ,eQ,eR,eT,eU,eV,eW,eX,eY,fe,fh,fi] [n0,n1,n2,n3,n4,n5,n6,n7,n8,n9,n10,n11] a x rfl rfl (by omega) (by omega)
 have oS:=UC.len [k0,k1,k2,k3,k4,k5,k6,k7,k8,k9,eo,ep,eu,ez,eB,eC,eD,eE,eG,eH,eJ,eQ,eR,eT,eU,eV,eW,eX,eY,fe,fh,fi] [n0,n1,n2,n3,n4,n5,n6,n7,n8,n9,n10,n11] a x
 generalize U [k0,k1,k2,k3,k4,k5,k6,k7,k8,k9,eo,ep,eu,ez,eB,eC,eD,eE,eG,eH,eJ,eQ,eR,eT,eU,eV,eW,eX,eY,fe,fh,fi] [n0,n1,n2,n3,n4,n5,n6,n7,n8,n9,n10,n11] a x=t at cm oS ⊢
 obtain⟨t0,t1,t2,t3,t4,t5,t6,t7,t8,t9,t10,t11,t12,t13,t14,t15,rfl⟩:=ue oS
 have cc:=pB h.uW [x,[t0,t1,t2,t3,t4,t5,t6,t7,t8,t9,t10,t11,t12,t13,t14,t15]] (by simp) (by simp; omega)
 rw[show [x,[t0,t1,t2,t3,t4,t5,t6,t7,t8,t9,t10,t11,t12,t13,t14,t15]].flatten=x++ [t0,t1,t2,t3,t4,t5,t6,t7,t8,t9,t10,t11,t12,t13,t14,t15] by simp]at cc
 exact h.aap.aL 200 0 rfl rfl rfl fun X bb hfit hp=>by
  refine sh ?_
  refine aD (by exact decide_eq_false (by omega)) ?_
  refine sh ?_
  refine aD (by exact decide_eq_false (by omega)) ?_
  refine sh ?_
  refine aj.let [2] rfl hp rfl ?_
  repeat ((intro _u; clear _u); first|refine eZ ?_|refine eZ ?_ (by simp; omega)|refine lD.drop ?_)
  refine sh ?_
  refine aj.pure h.tG.JI.hb cx rfl ?_
  refine sh ?_
  refine aj.pure h.yV.JO.hb cm rfl ?_
  refine sh ?_
  refine aj.let [3,4] rfl hp rfl ?_
  repeat ((intro _u; clear _u); first|refine kZ (dh [x,[t0,t1,t2,t3,t4,t5,t6,t7,t8,t9,t10,t11,t12,t13,t14,t15]]) ?_ ⟨⟨fun _=>rfl,trivial⟩,⟨fun _=>⟨rfl,rfl,rfl⟩,trivial⟩,trivial⟩ rfl|refine lD.drop ?_)
  refine sh ?_
  refine cM false [] (cc) ?_
  repeat (intro _; first|refine eK ?_|refine eP ?_)
  refine sh ?_
  exact rM [5]
theorem KT{R:Env}(h:GV R)(BC:jU R B)(UC:qm R U)(k n a p:List UInt8)(hk:k.length=32)(hn:n.length=12)(ha:a.length<=16384)(R3:p.length<=16384):R.Pc 566 [.agg (k.map b8),.agg (n.map b8),.aH 1 (aq a),.aH 1 (aq (ir B U k n a p))] (.aG [.aH 1 (aq p),.int .i64 0]):=by
 have cx:=HW h.tG BC k n (pA B k n p) hk hn (by rw[ei BC]; omega)
 rw[ui BC]at cx
 have hxl:=ei BC k n p
 unfold ir
 generalize pA B k n p=x at cx hxl ⊢
 have cm:=UC.c k n a x hk hn (by omega) (by omega)
 have oS:=UC.len k n a x
 generalize U k n a x=t at cm oS ⊢
 have cs:=Cs h.DL t oS
 obtain⟨k0,k1,k2,k3,k4,k5,k6,k7,k8,k9,eo,ep,eu,ez,eB,eC,eD,eE,eG,eH,eJ,eQ,eR,eT,eU,eV,eW,eX,eY,fe,fh,fi,rfl⟩:=cz hk
 obtain⟨n0,n1,n2,n3,n4,n5,n6,n7,n8,n9,n10,n11,rfl⟩:=ll hn
 obtain⟨t0,t1,t2,t3,t4,t5,t6,t7,t8,t9,t10,t11,t12,t13,t14,t15,rfl⟩:=ue oS
 exact h.N9.enter 200 rfl fun X bb hfit hp=>by
  have hxt:(x++ [t0,t1,t2,t3,t4,t5,t6,t7,t8,t9,t10,t11,t12,t13,t14,t15]).length=x.length+16:=by simp
  refine sh ?_
  rw[hxt,show (((x.length+16:Nat):Int)) - 16=(x.length:Nat) by omega]
  refine aD (decide_eq_false (by omega)) ?_
  refine sh ?_
  refine aD (by exact decide_eq_false (by omega)) ?_
  refine sh ?_
  refine aD (by exact decide_eq_false (by omega)) ?_
  refine sh ?_
  refine br (by show _=aq x; simp[aq]) ?_
  refine sh ?_
  refine aj.pure h.yV.JO.hb cm rfl ?_
  refine sh ?_
  refine br (by show _=aq [t0,t1,t2,t3,t4,t5,t6,t7,t8,t9,t10,t11,t12,t13,t14,t15]; simp[aq]) ?_
  refine fun _=>⟨⟨by simp,by omega⟩,?_⟩
  refine fun _=>br (show _=[t0,t1,t2,t3,t4,t5,t6,t7,t8,t9,t10,t11,t12,t13,t14,t15].map b8 from rfl) ?_
  refine sh ?_
  refine aj.pure h.DL.N0.hb cs rfl ?_
  refine sh ?_
  refine aj.let [2] rfl hp rfl ?_
  repeat ((intro _u; clear _u); first|refine eZ ?_|refine eZ ?_ (by simp; omega)|refine lD.drop ?_)
  refine sh ?_
  refine aj.pure h.tG.JI.hb cx rfl ?_
  refine sh ?_
  exact rT
end Go.UM
namespace Go.UM
open Go.AM
set_option maxRecDepth 4000
def zQ:List UInt8:=[117,109,98,114,97,32,97,117,100,105,116,32,99,104,97,105,110]
def jp(i:Int):List UInt8:=BH (im zQ 8 [i]).1
theorem fy(i:Int):(jp i).length=32:=rfl
theorem KU{R:Env}(h:OU R)(i:Int)(hi:0<=i/\i<8):R.Pc 541 [.int .i64 i] (.agg ((jp i).map b8)):=by
 have cs:=tM h.JS zQ 8 [i] (by simp[zQ]) (by intro x hx; simp at hx; subst hx; simp only[ed]; omega)
 have hl:(im zQ 8 [i]).1.length=25:=by
  obtain rfl|rfl|rfl|rfl|rfl|rfl|rfl|rfl:i=0\/ i=1\/ i=2\/ i=3\/ i=4\/ i=5\/ i=6\/ i=7:=by omega
  all_goals decide
 have cu:=WM h.J4 (im zQ 8 [i]).1 hl
 have hz:=fy i
 have he:BH (im zQ 8 [i]).1=jp i:=rfl
 rw[he]at cu
 clear he
 generalize jp i=z at cu hz ⊢
 generalize (im zQ 8 [i]).1=d at cs cu hl
 generalize (im zQ 8 [i]).2=e at cs
 obtain⟨z0,z1,z2,z3,z4,z5,z6,z7,z8,z9,WN,WO,z12,WP,WQ,WR,WS,z17,WT,WU,z20,z21,z22,z23,z24,z25,z26,z27,z28,z29,WV,z31,rfl⟩:=cz hz
 exact h.U5.enter 100 rfl fun X bb hfit hp=>by
  refine sh ?_
  refine cM true [] (cs) ?_
  repeat (intro _; first|refine eK ?_|refine eP ?_)
  refine sh ?_
  refine aj.let [3,4] rfl hp rfl ?_
  repeat ((intro _u; clear _u); first|refine kZ [[.aH 1 (aq d)]] ?_ ⟨⟨fun _=>p' (cy _) rfl (fun e he=>by obtain⟨c,_,rfl⟩:=List.mem_map.1 he; rfl),trivial⟩,trivial⟩ rfl|refine lD.drop ?_)
  refine sh ?_
  refine aj.pure h.J4.U3.hb cu rfl ?_
  refine sh ?_
  exact rT
def nG(i:Int):List AV:=(jp i).map b8++ [.int .u32 0,.bool true,.ab]
theorem mL{R:Env}(h:OV R)(i:Int)(hi:0<=i/\i<8):R.Mc 534 [.int .i64 i] [] (.loc 0 1 0 0) [(0,.var (R.ty 72) (nG i))] 1:=by
 have cs:=KU h.J5 i hi
 have hz:=fy i
 unfold nG
 generalize jp i=z at cs hz ⊢
 obtain⟨z0,z1,z2,z3,z4,z5,z6,z7,z8,z9,WN,WO,z12,WP,WQ,WR,WS,z17,WT,WU,z20,z21,z22,z23,z24,z25,z26,z27,z28,z29,WV,z31,rfl⟩:=cz hz
 exact h.aaK.aL 100 0 rfl rfl rfl fun X bb hfit hp=>by
  refine sh ?_
  refine aj.pure h.J5.U5.hb cs rfl ?_
  refine sh ?_
  exact rM [0]
theorem Cu{R:Env}(h:J6 R)(z:List UInt8)(hz:z.length=32):R.Mc 558 [.loc 0 1 0 0] [(0,.var (R.ty 72) (z.map b8++ [.int .u32 0,.bool true,.ab]))] (.bool false) [(0,.var (R.ty 72) (z.map b8++ [.int .u32 0,.bool true,.ab]))] 1:=by
 obtain⟨z0,z1,z2,z3,z4,z5,z6,z7,z8,z9,WN,WO,z12,WP,WQ,WR,WS,z17,WT,WU,z20,z21,z22,z23,z24,z25,z26,z27,z28,z29,WV,z31,rfl⟩:=cz hz
 exact h.aaL.aL 100 1 rfl rfl rfl fun X bb hfit hp=>by
  refine sh ?_
  exact rM [0]
theorem H2{R:Env}(h:NI R):R.Mc 559 [.aH 36 []] [] (.bi 0 0) [(0,.arr (R.ty 68) 36 [])] 1:=
 h.aal.aL 60 0 rfl rfl rfl fun X bb hfit hp=>by
  refine sh ?_
  refine CZ.mk (fun hn=> ?_) ?_
  ·refine sh ?_
   exact rM [50]
  ·refine sh ?_
   exact rM [0]
theorem Qo{R:Env}(h:OW R)(i:Int):R.Mc 540 [.loc 0 1 0 0] [(0,.var (R.ty 72) (nG i))] (.bi 1 0) [(0,.var (R.ty 72) (nG i)),(1,.arr (R.ty 68) 36 [])] 2:=by
 have hz:=fy i
 unfold nG
 generalize jp i=z at hz ⊢
 have cn:=Cu h.DP z hz
 obtain⟨z0,z1,z2,z3,z4,z5,z6,z7,z8,z9,WN,WO,z12,WP,WQ,WR,WS,z17,WT,WU,z20,z21,z22,z23,z24,z25,z26,z27,z28,z29,WV,z31,rfl⟩:=cz hz
 exact h.aaM.aL 100 1 rfl rfl rfl fun X bb hfit hp=>by
  refine sh ?_
  refine cM false [0] (cn) ?_
  repeat (intro _; first|refine eK ?_|refine eP ?_)
  refine sh ?_
  refine cM false [] (H2 h.OX) ?_
  repeat (intro _; first|refine eK ?_|refine eP ?_)
  refine sh ?_
  exact rM [0,1]
theorem KV{R:Env}(h:OY R)(i:Int):R.Mc 576 [.loc 0 1 0 0] [(0,.var (R.ty 72) (nG i))] (.agg ((jp i).map b8)) [(0,.var (R.ty 72) (nG i))] 1:=by
 have hz:=fy i
 unfold nG
 generalize jp i=z at hz ⊢
 have cn:=Cu h.DP z hz
 obtain⟨z0,z1,z2,z3,z4,z5,z6,z7,z8,z9,WN,WO,z12,WP,WQ,WR,WS,z17,WT,WU,z20,z21,z22,z23,z24,z25,z26,z27,z28,z29,WV,z31,rfl⟩:=cz hz
 exact h.aaN.aL 100 1 rfl rfl rfl fun X bb hfit hp=>by
  refine sh ?_
  refine cM false [0] (cn) ?_
  repeat (intro _; first|refine eK ?_|refine eP ?_)
  refine sh ?_
  exact rM [0]
end Go.UM
namespace Go.UM
open Go.AM
set_option maxRecDepth 4000
def jq(b:List UInt8)(n:Int):List UInt8:=b++ [u8 (bA .i64 n 0),u8 (bA .i64 n 8),u8 (bA .i64 n 16),u8 (bA .i64 n 24)]
theorem hQ{b:List UInt8}(h:b.length=8)(n:Int):(jq b n).length=12:=by simp[jq,h]
theorem ww{r:List UInt8}(hr:r.length=8):∃x0 x1 x2 x3 x4 x5 x6 x7,r=[x0,x1,x2,x3,x4,x5,x6,x7]:=by
 match r,hr with
 |[x0,x1,x2,x3,x4,x5,x6,x7],_=>exact⟨x0,x1,x2,x3,x4,x5,x6,x7,rfl⟩
theorem se{R:Env}(h:GX R)(b:List UInt8)(n:Int)(hb:b.length=8):R.Pc 544 [.agg (b.map b8),.int .i64 n] (.agg ((jq b n).map b8)):=by
 obtain⟨b0,b1,b2,b3,b4,b5,b6,b7,rfl⟩:=ww hb
 exact h.GY.enter 200 rfl fun X bb hfit hp=>by
  refine sh ?_
  refine qd (n:=8) rfl rfl ?_
  refine sh ?_
  refine az.one 100 ?_
  refine sh ?_
  refine aw (by rfl) ?_
  refine sh ?_
  refine ai ?_
  refine sh ?_
  refine az.one 100 ?_
  refine sh ?_
  refine aw (by rfl) ?_
  refine sh ?_
  refine ai ?_
  refine sh ?_
  refine az.one 100 ?_
  refine sh ?_
  refine aw (by rfl) ?_
  refine sh ?_
  refine ai ?_
  refine sh ?_
  refine az.one 100 ?_
  refine sh ?_
  refine aw (by rfl) ?_
  refine sh ?_
  refine ai ?_
  refine sh ?_
  refine az.one 100 ?_
  refine sh ?_
  refine aD (by rfl) ?_
  refine sh ?_
  refine rT ?_
  all_goals repeat' (first|exact True.intro|refine And.intro ?_ ?_|(intro _u; clear _u)|(with_reducible first|exact aU.fg|refine eM ?_ ?_|refine eF ?_ ?_ ?_|refine eN ?_|refine eL ?_ ?_ ?_|refine eA ?_ ?_|refine bp.mk ⟨_,hp,rfl⟩ ?_ ?_)|refine bp.mk ⟨_,hp,rfl⟩ ?_ ?_)
  all_goals try first|with_reducible rfl|omega|exact .inl (by decide)|(simp; done)|rfl
  all_goals simp[b8,lx,jq]
end Go.UM
namespace Go.UM
open Go.AM
set_option maxRecDepth 4000
def fI(i m:Int):List UInt8:=(gW [] 2 [i,m]).1
def xy(B:List UInt8->List UInt8->Int->List UInt8)(U:List UInt8->List UInt8->List UInt8->List UInt8->List UInt8)(k base mark:List UInt8)(i:Nat)(b:List UInt8):List UInt8:=
 fI i b.length++ir B U k (jq base (i+1)) (fI i b.length++mark) b
variable {B:List UInt8->List UInt8->Int->List UInt8} {U:List UInt8->List UInt8->List UInt8->List UInt8->List UInt8}
theorem H4{R:Env}(h:GZ R)(BC:jU R B)(UC:qm R U){l:Nat}{r:Loop}(hlp:A7 R r mz)(k n mark out b:List UInt8)(i:Nat)(hk:k.length=32)(hn:n.length=8)(hm:mark.length=16)(hb:b.length<=256)(hi:i<65536)(ho:out.length<=500000000)(hf:(fI i b.length).length=4)(hpe:(gW [] 2 [(i:Int),(b.length:Int)]).2=0):
  Wc (GB R.P l r mz.ss) ([.int .i64 i,.aH 1 (aq b)]++ [.loc 0 1 0 0,.be (n.map b8) 0,.loc 1 1 0 0,.loc 2 1 0 0]) [(0,.var (R.ty 63) (k.map b8)),(1,.var (R.ty 51) [.bi 3 out.length]),(2,.var (R.ty 51) [.aH 1 (aq mark)]),(3,.arr (R.ty 4) 1 (aq out))] (.bool true)
   [(0,.var (R.ty 63) (k.map b8)),(1,.var (R.ty 51) [.bi 3 (out++xy B U k n mark i b).length]),(2,.var (R.ty 51) [.aH 1 (aq mark)]),(3,.arr (R.ty 4) 1 (aq (out++xy B U k n mark i b)))] 4:=by
 have cn:=se h.pe n (i+1) hn
 have hnl:=hQ hn (i+1)
 unfold xy
 generalize jq n (i+1)=nn at cn hnl ⊢
 have cs:=Ct h.DN BC UC k nn (fI i b.length++mark) b hk hnl (by simp; omega) (by omega)
 have dK:=fu BC UC k nn (fI i b.length++mark) b
 generalize ir B U k nn (fI i b.length++mark) b=z at cs dK ⊢
 have cc:=pB h.uW [fI i b.length,mark] (by simp) (by simp; omega)
 rw[show [fI i b.length,mark].flatten=fI i b.length++mark by simp]at cc
 have cp:R.Pc 54 [.aH 1 (aq []),.int .i64 2,.aH 1 (de .u64 [(i:Int),(b.length:Int)])] (.aG [.aH 1 (aq (gW [] 2 [(i:Int),(b.length:Int)]).1),.int .i64 (gW [] 2 [(i:Int),(b.length:Int)]).2]):=(mC h.rC [] 2 [(i:Int),(b.length:Int)] (by simp) (by intro x hx; simp at hx; omega)).pc fZ
 rw[hpe]at cp
 unfold fI at cs cc hf ⊢
 generalize (gW [] 2 [(i:Int),(b.length:Int)]).1=f at cs cc cp hf ⊢
 obtain⟨k0,k1,k2,k3,k4,k5,k6,k7,k8,k9,eo,ep,eu,ez,eB,eC,eD,eE,eG,eH,eJ,eQ,eR,eT,eU,eV,eW,eX,eY,fe,fh,fi,rfl⟩:=cz hk
 obtain⟨n0,n1,n2,n3,n4,n5,n6,n7,rfl⟩:=ww hn
 obtain⟨Yh,Yi,Yj,Yk,Yl,Ym,Yn,Yo,Yp,Yq,KW,KX,rfl⟩:=ll hnl
 exact Env.Nh hlp 100 4 rfl rfl rfl fun X bb hfit hp=>by
  refine st ?_
  intro X hp
  refine sh ?_
  refine aj.let [4] rfl hp rfl ?_
  repeat ((intro _u; clear _u); first|refine eZ ?_|refine eZ ?_ (by simp; omega)|refine lD.drop ?_)
  refine sh ?_
  refine cM false [] (cp.mc h.rC.o54.hb) ?_
  repeat (intro _; first|refine eK ?_|refine eP ?_)
  refine sh ?_
  refine aj.pure h.pe.GY.hb cn rfl ?_
  refine sh ?_
  refine cM true [] (cc) ?_
  repeat (intro _; first|refine eK ?_|refine eP ?_)
  refine sh ?_
  refine cM true [] (cs) ?_
  repeat (intro _; first|refine eK ?_|refine eP ?_)
  refine sh ?_
  refine rM [0,1,2,3] ?_
  all_goals repeat' (first|exact True.intro|refine And.intro ?_ ?_|(intro _u; clear _u)|(with_reducible first|exact aU.fg|refine eM ?_ ?_|refine eF ?_ ?_ ?_|refine eN ?_|refine eL ?_ ?_ ?_|refine eA ?_ ?_|refine bp.mk ⟨_,hp,rfl⟩ ?_ ?_)|refine bp.mk ⟨_,hp,rfl⟩ ?_ ?_)
  all_goals try first|with_reducible rfl|omega|exact .inl (by decide)|(simp; done)|rfl
  all_goals simp[aq]
end Go.UM
