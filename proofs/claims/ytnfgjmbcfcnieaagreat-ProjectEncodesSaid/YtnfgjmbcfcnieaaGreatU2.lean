/- Of the reckoning machine, and what is proved with it: texts joined by program. -/
import Derived.Test.YtnfgjmbcfcnieaaGreatU1
import Derived.Test.YtnfgjmbcfcnieaaGreatU0
import Derived.Test.YtnfgjmbcfcnieaaGreatK3
set_option linter.all false
namespace Go.UM
open Go.AM
set_option maxRecDepth 4000
set_option maxHeartbeats 2000000 in
theorem zo {R:Env} (h:L6 R) (s:fP) (ok:s.Ok):R.Pc 500 [.agg s.row] (.aO 1 (bc (aL s.ap))):=
 h.RN.enter 300 rfl fun X bb hfit hp=>by
  have nt:=ok.nt
  have hl:aZ .i64 (s.br.length:Int):=by simp only[aZ]; omega
  refine sh ?_
  refine cM true [] (Ip h.iO (s.br.length:Int) hl) ?_
  repeat (intro _; first|refine eK ?_|refine eP ?_)
  refine sh ?_
  refine gZ 200 (fun k:Nat=>k≤s.br.length) (fun k=>⟨[(1,.loc 0 1 0 0),(3,.bh 2 (aL ((s.br.length:Int)::(s.br.take k).flatMap gK.ap)).length),(4,.int .i64 k)],[(0,.var (R.ty 59) s.row),(2,.arr (R.ty 4) 1 (bc (aL ((s.br.length:Int)::(s.br.take k).flatMap gK.ap))))],3⟩) (fun k=>s.br.length - k) (0) ?_ ?_
  ·exact Nat.zero_le _
  ·intro k hk
   dsimp only
   refine sh ?_
   refine cS (fun h1=> ?_) (fun h1=> ?_)
   ·obtain⟨x,hx⟩:∃u_,s.br[k]? =some u_:=⟨_,List.getElem?_eq_getElem (by first|omega|(simp<;>omega))⟩
    refine sh ?_
    refine ah hx ?_
    have sN:=List.mem_of_getElem? hx
    have e1:=cJ (f:=gK.ap) hx
    have e2:=bY (gK.ap) 19 (s.br.take k) fun y hy=>by first|exact Nat.le_refl _|(have:=n0.2 y (List.mem_of_mem_take hy); simp only[cz.ap,List.length_append,bT,List.length_cons,List.length_nil]; omega)
    rw[List.length_take]at e2
    generalize (s.br.take k).flatMap gK.ap=C at e1 e2 ⊢
    have e3:=aK ((s.br.length:Int)::C)
    rw[List.length_cons]at e3
    have f0:(aL ((s.br.length:Int)::C)).length≤20000:=by omega
    generalize hB:aL ((s.br.length:Int)::C)=B at f0 ⊢
    have dX:=ok.t x sN
    refine sh ?_
    refine aN.one 100 ?_
    refine sh ?_
    refine aG (by decide) ?_
    refine sh ?_
    refine cM true [2] (dF h.iO (B) [x.p.a,x.p.b,x.p.c] (by omega) (by simp) (by simpa using dX.p)) ?_
    repeat (intro _; first|refine eK ?_|refine eP ?_)
    have g0:(B++aL [x.p.a,x.p.b,x.p.c]).length≤500000+1000:=by
     have:=aK [x.p.a,x.p.b,x.p.c]
     rw[List.length_append,this]; simp only[List.length_cons,List.length_nil]; omega
    refine sh ?_
    refine aN.one 100 ?_
    refine sh ?_
    refine aG (by decide) ?_
    refine sh ?_
    refine cM true [2] (dF h.iO (B++aL [x.p.a,x.p.b,x.p.c]) [x.q.a,x.q.b,x.q.c] (by omega) (by simp) (by simpa using dX.q)) ?_
    repeat (intro _; first|refine eK ?_|refine eP ?_)
    have g1:(B++aL [x.p.a,x.p.b,x.p.c]++aL [x.q.a,x.q.b,x.q.c]).length≤500000+2000:=by
     have:=aK [x.q.a,x.q.b,x.q.c]
     rw[List.length_append,this]; simp only[List.length_cons,List.length_nil]; omega
    refine sh ?_
    refine aN.one 100 ?_
    refine sh ?_
    refine aG (by decide) ?_
    refine sh ?_
    refine cM true [2] (dF h.iO (B++aL [x.p.a,x.p.b,x.p.c]++aL [x.q.a,x.q.b,x.q.c]) [x.r.a,x.r.b,x.r.c] (by omega) (by simp) (by simpa using dX.r)) ?_
    repeat (intro _; first|refine eK ?_|refine eP ?_)
    have g2:(B++aL [x.p.a,x.p.b,x.p.c]++aL [x.q.a,x.q.b,x.q.c]++aL [x.r.a,x.r.b,x.r.c]).length≤500000+3000:=by
     have:=aK [x.r.a,x.r.b,x.r.c]
     rw[List.length_append,this]; simp only[List.length_cons,List.length_nil]; omega
    refine sh ?_
    refine aN.one 100 ?_
    refine sh ?_
    refine aT (by decide) ?_
    refine sh ?_
    refine aN.one 100 ?_
    refine sh ?_
    refine aG (by decide) ?_
    refine sh ?_
    refine cM true [2] (dF h.iO (B++aL [x.p.a,x.p.b,x.p.c]++aL [x.q.a,x.q.b,x.q.c]++aL [x.r.a,x.r.b,x.r.c]) [x.ua,x.ub] (by omega) (by simp) (by simpa using dX.u)) ?_
    repeat (intro _; first|refine eK ?_|refine eP ?_)
    have g3:(B++aL [x.p.a,x.p.b,x.p.c]++aL [x.q.a,x.q.b,x.q.c]++aL [x.r.a,x.r.b,x.r.c]++aL [x.ua,x.ub]).length≤500000+4000:=by
     have:=aK [x.ua,x.ub]
     rw[List.length_append,this]; simp only[List.length_cons,List.length_nil]; omega
    refine sh ?_
    refine aN.one 100 ?_
    refine sh ?_
    refine aG (by decide) ?_
    refine sh ?_
    refine cM true [2] (dF h.iO (B++aL [x.p.a,x.p.b,x.p.c]++aL [x.q.a,x.q.b,x.q.c]++aL [x.r.a,x.r.b,x.r.c]++aL [x.ua,x.ub]) [x.va,x.vb] (by omega) (by simp) (by simpa using dX.v)) ?_
    repeat (intro _; first|refine eK ?_|refine eP ?_)
    have g4:(B++aL [x.p.a,x.p.b,x.p.c]++aL [x.q.a,x.q.b,x.q.c]++aL [x.r.a,x.r.b,x.r.c]++aL [x.ua,x.ub]++aL [x.va,x.vb]).length≤500000+5000:=by
     have:=aK [x.va,x.vb]
     rw[List.length_append,this]; simp only[List.length_cons,List.length_nil]; omega
    refine sh ?_
    refine aN.one 100 ?_
    refine sh ?_
    refine aG (by decide) ?_
    refine sh ?_
    refine cM true [2] (dF h.iO (B++aL [x.p.a,x.p.b,x.p.c]++aL [x.q.a,x.q.b,x.q.c]++aL [x.r.a,x.r.b,x.r.c]++aL [x.ua,x.ub]++aL [x.va,x.vb]) [x.wa,x.wb] (by omega) (by simp) (by simpa using dX.w)) ?_
    repeat (intro _; first|refine eK ?_|refine eP ?_)
    have g5:(B++aL [x.p.a,x.p.b,x.p.c]++aL [x.q.a,x.q.b,x.q.c]++aL [x.r.a,x.r.b,x.r.c]++aL [x.ua,x.ub]++aL [x.va,x.vb]++aL [x.wa,x.wb]).length≤500000+6000:=by
     have:=aK [x.wa,x.wb]
     rw[List.length_append,this]; simp only[List.length_cons,List.length_nil]; omega
    refine sh ?_
    refine aN.one 100 ?_
    refine sh ?_
    refine aT (by decide) ?_
    have hm:=dX.m
    have hm8:0≤x.iH∧x.iH≤255:=by have:=hm.2.2.2; simp only[aZ]at this; omega
    have hmk:aZ .i64 x.iH:=by have:=hm.2.2.2; simp only[aZ]at this ⊢; omega
    refine sh ?_
    refine cM true [2] (dF h.iO (B++aL [x.p.a,x.p.b,x.p.c]++aL [x.q.a,x.q.b,x.q.c]++aL [x.r.a,x.r.b,x.r.c]++aL [x.ua,x.ub]++aL [x.va,x.vb]++aL [x.wa,x.wb]) [x.fJ,x.dS,x.obj,x.iH] (by omega) (by simp) (by simpa using⟨hm.1,hm.2.1,hm.2.2.1,hmk⟩)) ?_
    repeat (intro _; first|refine eK ?_|refine eP ?_)
    have g7:(B++aL [x.p.a,x.p.b,x.p.c]++aL [x.q.a,x.q.b,x.q.c]++aL [x.r.a,x.r.b,x.r.c]++aL [x.ua,x.ub]++aL [x.va,x.vb]++aL [x.wa,x.wb]++aL [x.fJ,x.dS,x.obj,x.iH]).length≤500000+8000:=by
     have:=aK [x.fJ,x.dS,x.obj,x.iH]
     rw[List.length_append,this]; simp only[List.length_cons,List.length_nil]; omega
    have e5:aL ((s.br.length:Int)::(C++x.ap))=B++aL [x.p.a,x.p.b,x.p.c]++aL [x.q.a,x.q.b,x.q.c]++aL [x.r.a,x.r.b,x.r.c]++aL [x.ua,x.ub]++aL [x.va,x.vb]++aL [x.wa,x.wb]++aL [x.fJ,x.dS,x.obj,x.iH]:=by
     rw[←hB]; simp[aL,gK.ap,jo]
    refine sh ?_
    refine r9 [0,1,2] (k+1) ?_ ?_ ?_
    ·omega
    ·omega
    ·all_goals repeat' (first|exact True.intro|refine And.intro ?_ ?_|(intro _u; clear _u)|(with_reducible first|exact aw.fg|refine eM ?_ ?_|refine eF ?_ ?_ ?_|refine eN ?_|refine eL ?_ ?_ ?_|refine eA ?_ ?_|refine az.mk ⟨_,hp,rfl⟩ ?_ ?_)|refine az.mk ⟨_,hp,rfl⟩ ?_ ?_)
     all_goals try first|with_reducible rfl|omega|exact .inl (by decide)|(simp; done)|rfl
     all_goals (rw[e1,e5]; try simp)
   ·rw[List.take_of_length_le (by omega)]
    clear hk h1
    have Wi:(aL ((s.br.length:Int)::s.br.flatMap gK.ap)).length≤20000:=by
     have:=bY (gK.ap) 19 s.br fun y hy=>by first|exact Nat.le_refl _|(have:=n0.2 y hy; simp only[cz.ap,List.length_append,bT,List.length_cons,List.length_nil]; omega)
     rw[aK,List.length_cons]; omega
    generalize MU:aL ((s.br.length:Int)::s.br.flatMap gK.ap)=A0 at Wi ⊢
    have n1:=ok.nm
    have sq:aZ .i64 (s.bD.length:Int):=by simp only[aZ]; omega
    refine sh ?_
    refine cM true [2] (dF h.iO A0 [(s.bD.length:Int)] (by omega) (by simp) (by simpa using sq)) ?_
    repeat (intro _; first|refine eK ?_|refine eP ?_)
    refine sh ?_
    refine gZ 200 (fun k:Nat=>k≤s.bD.length) (fun k=>⟨[(1,.loc 0 1 0 0),(3,.bh 2 (A0++aL ((s.bD.length:Int)::(s.bD.take k).flatMap ej.ap)).length),(8,.int .i64 k)],[(0,.var (R.ty 59) s.row),(2,.arr (R.ty 4) 1 (bc (A0++aL ((s.bD.length:Int)::(s.bD.take k).flatMap ej.ap))))],3⟩) (fun k=>s.bD.length - k) (0) ?_ ?_
    ·exact Nat.zero_le _
    ·intro k hk
     dsimp only
     refine sh ?_
     refine cS (fun h1=> ?_) (fun h1=> ?_)
     ·obtain⟨x,hx⟩:∃u_,s.bD[k]? =some u_:=⟨_,List.getElem?_eq_getElem (by first|omega|(simp<;>omega))⟩
      refine sh ?_
      refine ah hx ?_
      have sN:=List.mem_of_getElem? hx
      have e1:=cJ (f:=ej.ap) hx
      have e2:=bY (ej.ap) 5 (s.bD.take k) fun y hy=>by first|exact Nat.le_refl _|(have:=n1.2 y (List.mem_of_mem_take hy); simp only[cz.ap,List.length_append,bT,List.length_cons,List.length_nil]; omega)
      rw[List.length_take]at e2
      generalize (s.bD.take k).flatMap ej.ap=C at e1 e2 ⊢
      have e3:=aK ((s.bD.length:Int)::C)
      rw[List.length_cons]at e3
      have f0:(A0++aL ((s.bD.length:Int)::C)).length≤30000:=by rw[List.length_append]; omega
      generalize hB:A0++aL ((s.bD.length:Int)::C)=B at f0 ⊢
      have dX:=ok.m x sN
      refine sh ?_
      refine cM true [2] (dF h.iO (B) [x.k,x.c.a,x.c.b,x.c.c,x.r] (by omega) (by simp) (by simpa[ej.ap]using dX)) ?_
      repeat (intro _; first|refine eK ?_|refine eP ?_)
      have g0:(B++aL [x.k,x.c.a,x.c.b,x.c.c,x.r]).length≤500000+1000:=by
       have:=aK [x.k,x.c.a,x.c.b,x.c.c,x.r]
       rw[List.length_append,this]; simp only[List.length_cons,List.length_nil]; omega
      have e5:A0++aL ((s.bD.length:Int)::(C++x.ap))=B++aL [x.k,x.c.a,x.c.b,x.c.c,x.r]:=by
       rw[←hB]; simp[aL,ej.ap]
      refine sh ?_
      refine r9 [0,1,2] (k+1) ?_ ?_ ?_
      ·omega
      ·omega
      ·all_goals repeat' (first|exact True.intro|refine And.intro ?_ ?_|(intro _u; clear _u)|(with_reducible first|exact aw.fg|refine eM ?_ ?_|refine eF ?_ ?_ ?_|refine eN ?_|refine eL ?_ ?_ ?_|refine eA ?_ ?_|refine az.mk ⟨_,hp,rfl⟩ ?_ ?_)|refine az.mk ⟨_,hp,rfl⟩ ?_ ?_)
       all_goals try first|with_reducible rfl|omega|exact .inl (by decide)|(simp; done)|rfl
       all_goals (rw[e1,e5]; try simp)
     ·rw[List.take_of_length_le (by omega)]
      clear hk h1
      have Wj:(A0++aL ((s.bD.length:Int)::s.bD.flatMap ej.ap)).length≤30000:=by
       have:=bY (ej.ap) 5 s.bD fun y hy=>by first|exact Nat.le_refl _|(have:=n1.2 y hy; simp only[cz.ap,List.length_append,bT,List.length_cons,List.length_nil]; omega)
       rw[List.length_append,aK,List.length_cons]; omega
      generalize MV:A0++aL ((s.bD.length:Int)::s.bD.flatMap ej.ap)=A1 at Wj ⊢
      have n2:=ok.nx
      have hl2:aZ .i64 (s.be.length:Int):=by simp only[aZ]; omega
      refine sh ?_
      refine cM true [2] (dF h.iO A1 [(s.be.length:Int)] (by omega) (by simp) (by simpa using hl2)) ?_
      repeat (intro _; first|refine eK ?_|refine eP ?_)
      refine sh ?_
      refine gZ 200 (fun k:Nat=>k≤s.be.length) (fun k=>⟨[(1,.loc 0 1 0 0),(3,.bh 2 (A1++aL ((s.be.length:Int)::(s.be.take k).flatMap cz.ap)).length),(10,.int .i64 k)],[(0,.var (R.ty 59) s.row),(2,.arr (R.ty 4) 1 (bc (A1++aL ((s.be.length:Int)::(s.be.take k).flatMap cz.ap))))],3⟩) (fun k=>s.be.length - k) (0) ?_ ?_
      ·exact Nat.zero_le _
      ·intro k hk
       dsimp only
       refine sh ?_
       refine cS (fun h1=> ?_) (fun h1=> ?_)
       ·obtain⟨x,hx⟩:∃u_,s.be[k]? =some u_:=⟨_,List.getElem?_eq_getElem (by first|omega|(simp<;>omega))⟩
        refine sh ?_
        refine ah hx ?_
        have sN:=List.mem_of_getElem? hx
        have e1:=cJ (f:=cz.ap) hx
        have e2:=bY (cz.ap) 1000 (s.be.take k) fun y hy=>by first|exact Nat.le_refl _|(have:=n2.2 y (List.mem_of_mem_take hy); simp only[cz.ap,List.length_append,bT,List.length_cons,List.length_nil]; omega)
        rw[List.length_take]at e2
        generalize (s.be.take k).flatMap cz.ap=C at e1 e2 ⊢
        have e3:=aK ((s.be.length:Int)::C)
        rw[List.length_cons]at e3
        have f0:(A1++aL ((s.be.length:Int)::C)).length≤200000:=by rw[List.length_append]; omega
        generalize hB:A1++aL ((s.be.length:Int)::C)=B at f0 ⊢
        have dX:=ok.x x sN
        have Zx:=n2.2 x sN
        have i1:aZ .i64 x.side:=dX _ (by simp[cz.ap])
        have i2:aZ .i64 (x.t.length:Int):=by simp only[aZ]; omega
        refine sh ?_
        refine cM true [2] (dF h.iO (B) [x.side,(x.t.length:Int)] (by omega) (by simp) (by simpa using⟨i1,i2⟩)) ?_
        repeat (intro _; first|refine eK ?_|refine eP ?_)
        have g0:(B++aL [x.side,(x.t.length:Int)]).length≤500000+1000:=by
         have:=aK [x.side,(x.t.length:Int)]
         rw[List.length_append,this]; simp only[List.length_cons,List.length_nil]; omega
        generalize hD:B++aL [x.side,(x.t.length:Int)]=D at g0 ⊢
        refine sh ?_
        refine aN.inv 200 (fun j:Nat=>j≤x.t.length) (fun j=>⟨[(1,.loc 0 1 0 0),(3,.bh 2 (D++aL (jo (x.t.take j))).length),(10,.int .i64 k),(11,.loc 3 1 0 0),(12,.int .i64 j)],[(0,.var (R.ty 59) s.row),(2,.arr (R.ty 4) 1 (bc (D++aL (jo (x.t.take j))))),(3,.var (R.ty 12) x.row)],4⟩) (fun j=>x.t.length - j) (0) ?_ ⟨⟨_,hp,rfl⟩,?_,?_⟩ ?_
        ·exact Nat.zero_le _
        ·all_goals repeat' (first|exact True.intro|refine And.intro ?_ ?_|(intro _u; clear _u)|(with_reducible first|exact aw.fg|refine eM ?_ ?_|refine eF ?_ ?_ ?_|refine eN ?_|refine eL ?_ ?_ ?_|refine eA ?_ ?_|refine az.mk ⟨_,hp,rfl⟩ ?_ ?_)|refine az.mk ⟨_,hp,rfl⟩ ?_ ?_)
         all_goals try first|with_reducible rfl|omega|exact .inl (by decide)|(simp; done)|rfl
         all_goals simp[aL,jo]
        ·all_goals repeat' (first|exact True.intro|refine And.intro ?_ ?_|(intro _u; clear _u)|(with_reducible first|exact aw.fg|refine eM ?_ ?_|refine eF ?_ ?_ ?_|refine eN ?_|refine eL ?_ ?_ ?_|refine eA ?_ ?_|refine az.mk ⟨_,hp,rfl⟩ ?_ ?_)|refine az.mk ⟨_,hp,rfl⟩ ?_ ?_)
         all_goals try first|with_reducible rfl|omega|exact .inl (by decide)|(simp; done)|rfl
         all_goals simp[aL,jo]
        ·intro j hj
         dsimp only
         refine sh ?_
         refine cS (fun h2=> ?_) (fun h2=> ?_)
         ·have hy0:j<x.t.length:=by omega
          obtain⟨y,hy⟩:∃y,x.t[j]? =some y:=⟨_,List.getElem?_eq_getElem hy0⟩
          have JL:=List.mem_of_getElem? hy
          have q1:=rV hy
          have q2:=aK (jo (x.t.take j))
          rw[bT,List.length_take]at q2
          generalize jo (x.t.take j)=T at q1 q2 ⊢
          have q3:(D++aL T).length≤600000:=by rw[List.length_append]; omega
          have q4:∀z ∈ [y.a,y.b,y.c],aZ .i64 z:=fun z hz=>dX z (by simp only[cz.ap,List.mem_append]; exact .inr (List.mem_flatMap.2 ⟨y,JL,hz⟩))
          refine sh ?_
          refine ah hy ?_
          refine sh ?_
          refine ah hy ?_
          refine sh ?_
          refine ah hy ?_
          refine sh ?_
          refine cM true [2] (dF h.iO (D++aL T) [y.a,y.b,y.c] (by omega) (by simp) q4) ?_
          repeat (intro _; first|refine eK ?_|refine eP ?_)
          refine sh ?_
          refine r9 [0,1,2,3] (j+1) ?_ ?_ ?_
          ·omega
          ·omega
          ·all_goals repeat' (first|exact True.intro|refine And.intro ?_ ?_|(intro _u; clear _u)|(with_reducible first|exact aw.fg|refine eM ?_ ?_|refine eF ?_ ?_ ?_|refine eN ?_|refine eL ?_ ?_ ?_|refine eA ?_ ?_|refine az.mk ⟨_,hp,rfl⟩ ?_ ?_)|refine az.mk ⟨_,hp,rfl⟩ ?_ ?_)
           all_goals try first|with_reducible rfl|omega|exact .inl (by decide)|(simp; done)|rfl
           all_goals (rw[q1,p6]; try simp)
         ·rw[List.take_of_length_le (by omega)]
          have e5:A1++aL ((s.be.length:Int)::(C++x.ap))=D++aL (jo x.t):=by
           rw[←hD,←hB]; simp[aL,cz.ap]
          refine sh ?_
          refine r9 [0,1,2] (k+1) ?_ ?_ ?_
          ·omega
          ·omega
          ·all_goals repeat' (first|exact True.intro|refine And.intro ?_ ?_|(intro _u; clear _u)|(with_reducible first|exact aw.fg|refine eM ?_ ?_|refine eF ?_ ?_ ?_|refine eN ?_|refine eL ?_ ?_ ?_|refine eA ?_ ?_|refine az.mk ⟨_,hp,rfl⟩ ?_ ?_)|refine az.mk ⟨_,hp,rfl⟩ ?_ ?_)
           all_goals try first|with_reducible rfl|omega|exact .inl (by decide)|(simp; done)|rfl
           all_goals (rw[e1,e5]; try simp)
       ·rw[List.take_of_length_le (by omega)]
        clear hk h1
        have Wl:(A1++aL ((s.be.length:Int)::s.be.flatMap cz.ap)).length≤200000:=by
         have:=bY (cz.ap) 1000 s.be fun y hy=>by first|exact Nat.le_refl _|(have:=n2.2 y hy; simp only[cz.ap,List.length_append,bT,List.length_cons,List.length_nil]; omega)
         rw[List.length_append,aK,List.length_cons]; omega
        generalize MW:A1++aL ((s.be.length:Int)::s.be.flatMap cz.ap)=A2 at Wl ⊢
        have n3:=ok.nl
        have Wm:aZ .i64 (s.bI.length:Int):=by simp only[aZ]; omega
        refine sh ?_
        refine cM true [2] (dF h.iO A2 [(s.bI.length:Int)] (by omega) (by simp) (by simpa using Wm)) ?_
        repeat (intro _; first|refine eK ?_|refine eP ?_)
        refine sh ?_
        refine gZ 200 (fun k:Nat=>k≤s.bI.length) (fun k=>⟨[(1,.loc 0 1 0 0),(3,.bh 2 (A2++aL ((s.bI.length:Int)::(s.bI.take k).flatMap ed.ap)).length),(13,.int .i64 k)],[(0,.var (R.ty 59) s.row),(2,.arr (R.ty 4) 1 (bc (A2++aL ((s.bI.length:Int)::(s.bI.take k).flatMap ed.ap))))],3⟩) (fun k=>s.bI.length - k) (0) ?_ ?_
        ·exact Nat.zero_le _
        ·intro k hk
         dsimp only
         refine sh ?_
         refine cS (fun h1=> ?_) (fun h1=> ?_)
         ·obtain⟨x,hx⟩:∃u_,s.bI[k]? =some u_:=⟨_,List.getElem?_eq_getElem (by first|omega|(simp<;>omega))⟩
          refine sh ?_
          refine ah hx ?_
          have sN:=List.mem_of_getElem? hx
          have e1:=cJ (f:=ed.ap) hx
          have e2:=bY (ed.ap) 13 (s.bI.take k) fun y hy=>by first|exact Nat.le_refl _|(have:=n3.2 y (List.mem_of_mem_take hy); simp only[cz.ap,List.length_append,bT,List.length_cons,List.length_nil]; omega)
          rw[List.length_take]at e2
          generalize (s.bI.take k).flatMap ed.ap=C at e1 e2 ⊢
          have e3:=aK ((s.bI.length:Int)::C)
          rw[List.length_cons]at e3
          have f0:(A2++aL ((s.bI.length:Int)::C)).length≤220000:=by rw[List.length_append]; omega
          generalize hB:A2++aL ((s.bI.length:Int)::C)=B at f0 ⊢
          have dX:=ok.l x sN
          refine sh ?_
          refine cM true [2] (dF h.iO (B) [x.k,x.c.a,x.c.b,x.c.c,x.p.a,x.p.b,x.p.c,x.u.a,x.u.b,x.u.c,x.v.a,x.v.b,x.v.c] (by omega) (by simp) (by simpa[ed.ap,jo]using dX)) ?_
          repeat (intro _; first|refine eK ?_|refine eP ?_)
          have g0:(B++aL [x.k,x.c.a,x.c.b,x.c.c,x.p.a,x.p.b,x.p.c,x.u.a,x.u.b,x.u.c,x.v.a,x.v.b,x.v.c]).length≤500000+1000:=by
           have:=aK [x.k,x.c.a,x.c.b,x.c.c,x.p.a,x.p.b,x.p.c,x.u.a,x.u.b,x.u.c,x.v.a,x.v.b,x.v.c]
           rw[List.length_append,this]; simp only[List.length_cons,List.length_nil]; omega
          have e5:A2++aL ((s.bI.length:Int)::(C++x.ap))=B++aL [x.k,x.c.a,x.c.b,x.c.c,x.p.a,x.p.b,x.p.c,x.u.a,x.u.b,x.u.c,x.v.a,x.v.b,x.v.c]:=by
           rw[←hB]; simp[aL,ed.ap,jo]
          refine sh ?_
          refine r9 [0,1,2] (k+1) ?_ ?_ ?_
          ·omega
          ·omega
          ·all_goals repeat' (first|exact True.intro|refine And.intro ?_ ?_|(intro _u; clear _u)|(with_reducible first|exact aw.fg|refine eM ?_ ?_|refine eF ?_ ?_ ?_|refine eN ?_|refine eL ?_ ?_ ?_|refine eA ?_ ?_|refine az.mk ⟨_,hp,rfl⟩ ?_ ?_)|refine az.mk ⟨_,hp,rfl⟩ ?_ ?_)
           all_goals try first|with_reducible rfl|omega|exact .inl (by decide)|(simp; done)|rfl
           all_goals (rw[e1,e5]; try simp)
         ·rw[List.take_of_length_le (by omega)]
          clear hk h1
          have Wn:(A2++aL ((s.bI.length:Int)::s.bI.flatMap ed.ap)).length≤220000:=by
           have:=bY (ed.ap) 13 s.bI fun y hy=>by first|exact Nat.le_refl _|(have:=n3.2 y hy; simp only[cz.ap,List.length_append,bT,List.length_cons,List.length_nil]; omega)
           rw[List.length_append,aK,List.length_cons]; omega
          generalize MX:A2++aL ((s.bI.length:Int)::s.bI.flatMap ed.ap)=A3 at Wn ⊢
          have n4:=ok.ni
          have Pg:aZ .i64 (s.ids.length:Int):=by simp only[aZ]; omega
          refine sh ?_
          refine cM true [2] (dF h.iO A3 [(s.ids.length:Int)] (by omega) (by simp) (by simpa using Pg)) ?_
          repeat (intro _; first|refine eK ?_|refine eP ?_)
          refine sh ?_
          refine gZ 200 (fun k:Nat=>k≤s.ids.length) (fun k=>⟨[(1,.loc 0 1 0 0),(3,.bh 2 (A3++aL ((s.ids.length:Int)::(s.ids.take k).flatMap (fun x=>[wr .i64 x]))).length),(15,.int .i64 k)],[(0,.var (R.ty 59) s.row),(2,.arr (R.ty 4) 1 (bc (A3++aL ((s.ids.length:Int)::(s.ids.take k).flatMap (fun x=>[wr .i64 x])))))],3⟩) (fun k=>s.ids.length - k) (0) ?_ ?_
          ·exact Nat.zero_le _
          ·intro k hk
           dsimp only
           refine sh ?_
           refine cS (fun h1=> ?_) (fun h1=> ?_)
           ·obtain⟨x,hx⟩:∃u_,s.ids[k]? =some u_:=⟨_,List.getElem?_eq_getElem (by first|omega|(simp<;>omega))⟩
            refine sh ?_
            refine ah hx ?_
            have sN:=List.mem_of_getElem? hx
            have e1:=cJ (f:=fun x=>[wr .i64 x]) hx
            have e2:=bY (fun x=>[wr .i64 x]) 1 (s.ids.take k) fun y hy=>by first|exact Nat.le_refl _|(have:=n4.2 y (List.mem_of_mem_take hy); simp only[cz.ap,List.length_append,bT,List.length_cons,List.length_nil]; omega)
            rw[List.length_take]at e2
            generalize (s.ids.take k).flatMap (fun x=>[wr .i64 x])=C at e1 e2 ⊢
            have e3:=aK ((s.ids.length:Int)::C)
            rw[List.length_cons]at e3
            have f0:(A3++aL ((s.ids.length:Int)::C)).length≤230000:=by rw[List.length_append]; omega
            generalize hB:A3++aL ((s.ids.length:Int)::C)=B at f0 ⊢
            refine sh ?_
            refine bX ?_
            have i1:aZ .i64 (wr .i64 x):=rz x
            refine sh ?_
            refine cM true [2] (dF h.iO (B) [wr .i64 x] (by omega) (by simp) (by simpa using i1)) ?_
            repeat (intro _; first|refine eK ?_|refine eP ?_)
            have g0:(B++aL [wr .i64 x]).length≤500000+1000:=by
             have:=aK [wr .i64 x]
             rw[List.length_append,this]; simp only[List.length_cons,List.length_nil]; omega
            have e5:A3++aL ((s.ids.length:Int)::(C++ [wr .i64 x]))=B++aL [wr .i64 x]:=by
             rw[←hB]; simp[aL]
            refine sh ?_
            refine r9 [0,1,2] (k+1) ?_ ?_ ?_
            ·omega
            ·omega
            ·all_goals repeat' (first|exact True.intro|refine And.intro ?_ ?_|(intro _u; clear _u)|(with_reducible first|exact aw.fg|refine eM ?_ ?_|refine eF ?_ ?_ ?_|refine eN ?_|refine eL ?_ ?_ ?_|refine eA ?_ ?_|refine az.mk ⟨_,hp,rfl⟩ ?_ ?_)|refine az.mk ⟨_,hp,rfl⟩ ?_ ?_)
             all_goals try first|with_reducible rfl|omega|exact .inl (by decide)|(simp; done)|rfl
             all_goals (rw[e1,e5]; try simp)
           ·rw[List.take_of_length_le (by omega)]
            clear hk h1
            have Wo:(A3++aL ((s.ids.length:Int)::s.ids.flatMap (fun x=>[wr .i64 x]))).length≤230000:=by
             have:=bY (fun x=>[wr .i64 x]) 1 s.ids fun y hy=>by first|exact Nat.le_refl _|(have:=n4.2 y hy; simp only[cz.ap,List.length_append,bT,List.length_cons,List.length_nil]; omega)
             rw[List.length_append,aK,List.length_cons]; omega
            generalize MY:A3++aL ((s.ids.length:Int)::s.ids.flatMap (fun x=>[wr .i64 x]))=A4 at Wo ⊢
            have n5:=ok.nb
            have Wp:aZ .i64 (s.bR.length:Int):=by simp only[aZ]; omega
            refine sh ?_
            refine cM true [2] (dF h.iO A4 [(s.bR.length:Int)] (by omega) (by simp) (by simpa using Wp)) ?_
            repeat (intro _; first|refine eK ?_|refine eP ?_)
            refine sh ?_
            refine gZ 200 (fun k:Nat=>k≤s.bR.length) (fun k=>⟨[(1,.loc 0 1 0 0),(3,.bh 2 (A4++aL ((s.bR.length:Int)::(s.bR.take k).flatMap (fun x=>[x]))).length),(16,.int .i64 k)],[(0,.var (R.ty 59) s.row),(2,.arr (R.ty 4) 1 (bc (A4++aL ((s.bR.length:Int)::(s.bR.take k).flatMap (fun x=>[x])))))],3⟩) (fun k=>s.bR.length - k) (0) ?_ ?_
            ·exact Nat.zero_le _
            ·intro k hk
             dsimp only
             refine sh ?_
             refine cS (fun h1=> ?_) (fun h1=> ?_)
             ·obtain⟨x,hx⟩:∃u_,s.bR[k]? =some u_:=⟨_,List.getElem?_eq_getElem (by first|omega|(simp<;>omega))⟩
              refine sh ?_
              refine ah hx ?_
              have sN:=List.mem_of_getElem? hx
              have e1:=cJ (f:=fun x=>[x]) hx
              have e2:=bY (fun x=>[x]) 1 (s.bR.take k) fun y hy=>by first|exact Nat.le_refl _|(have:=n5.2 y (List.mem_of_mem_take hy); simp only[cz.ap,List.length_append,bT,List.length_cons,List.length_nil]; omega)
              rw[List.length_take]at e2
              generalize (s.bR.take k).flatMap (fun x=>[x])=C at e1 e2 ⊢
              have e3:=aK ((s.bR.length:Int)::C)
              rw[List.length_cons]at e3
              have f0:(A4++aL ((s.bR.length:Int)::C)).length≤240000:=by rw[List.length_append]; omega
              generalize hB:A4++aL ((s.bR.length:Int)::C)=B at f0 ⊢
              have i0:=ok.b x sN
              have i1:0≤x∧x≤4294967295:=by simp only[aZ]at i0; omega
              have i2:aZ .i64 x:=by simp only[aZ]; omega
              refine sh ?_
              refine cM true [2] (dF h.iO (B) [x] (by omega) (by simp) (by simpa using i2)) ?_
              repeat (intro _; first|refine eK ?_|refine eP ?_)
              have g0:(B++aL [x]).length≤500000+1000:=by
               have:=aK [x]
               rw[List.length_append,this]; simp only[List.length_cons,List.length_nil]; omega
              have e5:A4++aL ((s.bR.length:Int)::(C++ [x]))=B++aL [x]:=by
               rw[←hB]; simp[aL]
              refine sh ?_
              refine r9 [0,1,2] (k+1) ?_ ?_ ?_
              ·omega
              ·omega
              ·all_goals repeat' (first|exact True.intro|refine And.intro ?_ ?_|(intro _u; clear _u)|(with_reducible first|exact aw.fg|refine eM ?_ ?_|refine eF ?_ ?_ ?_|refine eN ?_|refine eL ?_ ?_ ?_|refine eA ?_ ?_|refine az.mk ⟨_,hp,rfl⟩ ?_ ?_)|refine az.mk ⟨_,hp,rfl⟩ ?_ ?_)
               all_goals try first|with_reducible rfl|omega|exact .inl (by decide)|(simp; done)|rfl
               all_goals (rw[e1,e5]; try simp)
             ·rw[List.take_of_length_le (by omega)]
              clear hk h1
              have Wq:(A4++aL ((s.bR.length:Int)::s.bR.flatMap (fun x=>[x]))).length≤240000:=by
               have:=bY (fun x=>[x]) 1 s.bR fun y hy=>by first|exact Nat.le_refl _|(have:=n5.2 y hy; simp only[cz.ap,List.length_append,bT,List.length_cons,List.length_nil]; omega)
               rw[List.length_append,aK,List.length_cons]; omega
              generalize MZ:A4++aL ((s.bR.length:Int)::s.bR.flatMap (fun x=>[x]))=A5 at Wq ⊢
              obtain⟨z1,z2,z3⟩:=ok.e
              have y1:0≤s.nH∧s.nH≤4294967295:=by simp only[aZ]at z1; omega
              have y2:0≤s.fr∧s.fr≤4294967295:=by simp only[aZ]at z2; omega
              have y3:0≤s.to∧s.to≤4294967295:=by simp only[aZ]at z3; omega
              refine sh ?_
              refine cM true [2] (dF h.iO A5 [s.nH,s.fr,s.to] (by omega) (by simp) (by simp only[List.mem_cons,List.not_mem_nil,or_false,aZ]; omega)) ?_
              repeat (intro _; first|refine eK ?_|refine eP ?_)
              have e9:aL s.ap=A5++aL [s.nH,s.fr,s.to]:=by
               rw[←MZ,←MY,←MX,←MW,←MV,←MU]; simp[fP.ap,oB,aL]
              rw[e9]
              refine sh ?_
              exact rT
end Go.UM
namespace Go.UM
open Go.AM
set_option maxRecDepth 4000
theorem Js {R:Env} (h:Vs R) (a b:List UInt8):R.Pc 47 [.aO 1 (bc a),.aO 1 (bc b)] (.bool (a==b)):=
 h.Vt.enter 60 rfl fun X bb hfit hp=>by
  refine sh ?_
  exact rT
end Go.UM
namespace Go.UM
open Go.AM
set_option maxRecDepth 4000
theorem sO {R:Env} (h:Md R) (hw:R.Pz true 493 [] (.bool true)) (a b:fP) (ha:a.sa.Ok) (hb:b.sa.Ok):R.Pz true 497 [.agg a.row,.agg b.row] (.bool true):=
 h.V4.D9 100 rfl fun X bb hfit hp hz=>by
  refine sh ?_
  refine aq.pure h.BW.Mb.hb (AI h.BW a) rfl ?_
  refine sh ?_
  refine aq.pure h.BW.Mb.hb (AI h.BW b) rfl ?_
  generalize a.sa=a at ha ⊢
  generalize b.sa=b at hb ⊢
  refine sh ?_
  refine aq.pure h.BX.L3.hb (uf h.BX a ha) rfl ?_
  refine sh ?_
  refine aq.pure h.BX.L3.hb (uf h.BX b hb) rfl ?_
  refine sh ?_
  refine aq.pure h.HI.RN.hb (zo h.HI a ha) rfl ?_
  refine sh ?_
  refine aq.pure h.n47.Vt.hb (Js h.n47 (aL a.ap) (aL a.ap)) rfl ?_
  refine sh ?_
  refine aG (by simp) ?_
  refine sh ?_
  refine aq.pure h.n47.Vt.hb (Js h.n47 (aL a.ap) (aL b.ap)) rfl ?_
  refine sh ?_
  refine aq.pure h.HG.RJ.hb (Io h.HG a b ha hb) rfl ?_
  have e:(aL a.ap==aL b.ap)=seq a b:=by
   rw[Bool.eq_iff_iff,beq_iff_eq,bytes_inj ha hb]
   by_cases hq:a=b
   ·exact⟨fun _=>Im hq,fun _=>hq⟩
   ·rw[gg hq]
    simp[hq]
  rw[e]
  refine sh ?_
  refine aG (by simp) ?_
  refine sh ?_
  refine aq.pure h.HH.RP.hb hw rfl ?_
  refine sh ?_
  exact rT
end Go.UM
namespace Go.UM
open Go.AM
set_option maxRecDepth 4000
def gz (f:Mf) (l:Int):Int:=if l<0∨8≤l then 0 else f.iH l.toNat
abbrev ZF (f:Mf):List AV:=[.int .u8 f.m0,.int .u8 f.m1,.int .u8 f.m2,.int .u8 f.m3,.int .u8 f.m4,.int .u8 f.m5,.int .u8 f.m6,.int .u8 f.m7]
theorem p7 {R:Env} (h:TF R) (f:Mf) (l:Int):R.Pc 11 [.agg (ZF f),.int .i64 l] (.int .u8 (gz f l)):=
 h.Re.enter 60 rfl fun X b hfit hp=>by
  refine sh ?_
  refine cS (fun h1=> ?_) (fun h1=> ?_)
  ·refine sh ?_
   refine rT ?_
   all_goals repeat' (first|exact True.intro|refine And.intro ?_ ?_|(intro _u; clear _u)|(with_reducible first|exact aw.fg|refine eM ?_ ?_|refine eF ?_ ?_ ?_|refine eN ?_|refine eL ?_ ?_ ?_|refine eA ?_ ?_|refine az.mk ⟨_,hp,rfl⟩ ?_ ?_)|refine az.mk ⟨_,hp,rfl⟩ ?_ ?_)
   all_goals try first|with_reducible rfl|omega|exact .inl (by decide)|(simp; done)|rfl
   simp[gz,h1]
  ·refine sh ?_
   refine cS (fun h2=> ?_) (fun h2=> ?_)
   ·refine sh ?_
    refine rT ?_
    all_goals repeat' (first|exact True.intro|refine And.intro ?_ ?_|(intro _u; clear _u)|(with_reducible first|exact aw.fg|refine eM ?_ ?_|refine eF ?_ ?_ ?_|refine eN ?_|refine eL ?_ ?_ ?_|refine eA ?_ ?_|refine az.mk ⟨_,hp,rfl⟩ ?_ ?_)|refine az.mk ⟨_,hp,rfl⟩ ?_ ?_)
    all_goals try first|with_reducible rfl|omega|exact .inl (by decide)|(simp; done)|rfl
    have h2:8≤l:=by omega
    simp[gz,h2]
   ·refine st ?_
    obtain h3|h3|h3|h3|h3|h3|h3|h3:l=0∨l=1∨l=2∨l=3∨l=4∨l=5∨l=6∨l=7:=by omega
    all_goals subst h3; intro _u; clear _u
    all_goals first|refine pg 0 rfl rfl ?_|refine pg 1 rfl rfl ?_|refine pg 2 rfl rfl ?_|refine pg 3 rfl rfl ?_|refine pg 4 rfl rfl ?_|refine pg 5 rfl rfl ?_|refine pg 6 rfl rfl ?_|refine pg 7 rfl rfl ?_
    all_goals
     refine sh ?_
     exact rT
theorem Iq {R:Env} (h:VL R) (f:Mf) (l:Int):R.Pc 12 [.agg (ZF f),.int .i64 l] (.bool (gz f l != 0)):=
 h.Zd.enter 60 rfl fun X b hfit hp=>by
  refine sh ?_
  refine aq.pure h.n11.Re.hb (p7 h.n11 f l) rfl ?_
  refine sh ?_
  exact rT
def FG (a b:Int):Int:=eE .or .u32 a b
theorem FH {a:Int} (h:aZ .u32 a):FG 0 a=a:=by
 have h:0≤a∧a≤4294967295:=h
 obtain⟨n,rfl⟩:∃n:Nat,a=n:=⟨a.toNat,by omega⟩
 have hn:n<2 ^ 32:=by omega
 show IntKind.wrap .u32 ((BitVec.ofInt 32 0||| BitVec.ofInt 32 (n:Int)).toNat:Int)=_
 have e1:(BitVec.ofInt 32 0||| BitVec.ofInt 32 (n:Int))=BitVec.ofNat 32 n:=by simp
 rw[e1,BitVec.toNat_ofNat,Nat.mod_eq_of_lt hn]
 show IntKind.wrap .u32 (n:Int)=_
 simp[IntKind.wrap,IntKind.bits,IntKind.signed]
 omega
theorem M7 (a b:Int):aZ .u32 (FG a b):=by
 have:((BitVec.ofInt 32 a||| BitVec.ofInt 32 b).toNat:Int)<4294967296:=by
  have:=(BitVec.ofInt 32 a||| BitVec.ofInt 32 b).isLt
  omega
 show 0≤IntKind.wrap .u32 ((BitVec.ofInt 32 a||| BitVec.ofInt 32 b).toNat:Int)∧IntKind.wrap .u32 ((BitVec.ofInt 32 a||| BitVec.ofInt 32 b).toNat:Int)≤4294967295
 generalize ((BitVec.ofInt 32 a||| BitVec.ofInt 32 b).toNat:Int)=z at this
 simp[IntKind.wrap,IntKind.bits,IntKind.signed]
 omega
theorem FI {R:Env} (h:TE R) (x y:Int):R.Pc 17 [.int .u32 x,.int .u32 y] (.int .u32 (FG x y)):=
 h.VK.enter 60 rfl fun X b hfit hp=>by
  refine sh ?_
  exact rT
theorem FJ {R:Env} (h:VJ R) (k:TE R) (a b:Int) (ha:aZ .u32 a):R.Pc 16 [.int .u32 0,.aO 1 (aY .u32 [a,b]),.bW (.fn (R.ft 17)) []] (.int .u32 (FG a b)):=
 h.Y'.enter 60 rfl fun X bb hfit hp=>by
  refine sh ?_
  refine aN.one 100 ?_
  refine sh ?_
  refine aG (by rfl) ?_
  obtain⟨x,hx⟩:∃u_,[a,b][0]? =some u_:=⟨_,List.getElem?_eq_getElem (by first|omega|(simp<;>omega))⟩
  refine sh ?_
  refine ah hx ?_
  obtain rfl:x=a:=by simpa using hx.symm
  refine sh ?_
  refine aq.pure k.VK.hb (FI k _ _) rfl ?_
  rw[FH ha]
  refine sh ?_
  refine aN.one 100 ?_
  refine sh ?_
  refine aG (by rfl) ?_
  obtain⟨y,hy⟩:∃u_,[x,b][1]? =some u_:=⟨_,List.getElem?_eq_getElem (by first|omega|(simp<;>omega))⟩
  refine sh ?_
  refine ah hy ?_
  obtain rfl:y=b:=by simpa using hy.symm
  refine sh ?_
  refine aq.pure k.VK.hb (FI k _ _) rfl ?_
  refine sh ?_
  refine aN.one 100 ?_
  refine sh ?_
  refine aT (by rfl) ?_
  refine sh ?_
  exact rT
theorem Ir {R:Env} (h:N4 R) (a b:Int) (ha:aZ .u32 a):R.Pc 4 [.aO 1 (aY .u32 [a,b])] (.int .u32 (FG a b)):=
 h.o4.enter 60 rfl fun X bb hfit hp=>by
  refine sh ?_
  refine aq.pure h.n16.Y'.hb (FJ h.n16 h.n17 a b ha) rfl ?_
  refine sh ?_
  exact rT
theorem FK {R:Env} (h:TG R) (a b:Int) (m:Mf):R.Pc 19 [.agg [.int .u32 a,.int .u32 b],.agg m.row] (.agg [.int .u32 (max a m.first),.int .u32 (min b m.last)]):=
 h.Zh.enter 60 rfl fun X bb hfit hp=>by
  refine sh ?_
  exact rT
theorem FL {R:Env} (h:VM R) (k:TG R) (a b:Int) (m:Mf):R.Pc 18 [.agg [.int .u32 a,.int .u32 b],.aO 15 [m.row],.bW (.fn (R.ft 19)) []] (.agg [.int .u32 (max a m.first),.int .u32 (min b m.last)]):=
 h.Zf.enter 60 rfl fun X bb hfit hp=>by
  refine sh ?_
  refine aN.one 100 ?_
  refine sh ?_
  refine aG (by rfl) ?_
  refine sh ?_
  refine ah (f:=Mf.row) (l:=[m]) (i:=0) rfl ?_
  refine sh ?_
  refine aq.pure k.Zh.hb (FK k a b m) rfl ?_
  refine sh ?_
  refine aN.one 100 ?_
  refine sh ?_
  refine aT (by rfl) ?_
  refine sh ?_
  exact rT
theorem FM {R:Env} (h:VN R) (a b:Int) (m:Mf):R.Pc 14 [.int .u32 a,.int .u32 b,.aO 15 [m.row]] (.aU [.int .u32 (max a m.first),.int .u32 (min b m.last)]):=
 h.Zj.enter 60 rfl fun X bb hfit hp=>by
  refine sh ?_
  refine aq.pure h.n18.Zf.hb (FL h.n18 h.n19 a b m) rfl ?_
  refine sh ?_
  exact rT
end Go.UM
namespace Go.UM
open Go.AM
set_option maxRecDepth 4000
structure jJ where
 s:fP
 ms:List Rw
 pl:List (Int × Int)
 ks:List (Int × Int)
def fP.Jt:fP:=⟨[],[],[],[],[],[],0,0,4294967295⟩
def jJ.Jt:jJ:=⟨fP.Jt,[],[],[]⟩
def kW (s:fP) (r:Rw):fP:=⟨s.br,if r.a.k=3 then s.bD++ [r.a.mt]else s.bD,if r.a.k=2 then s.be++ [r.a.x]else s.be,if r.a.k=4 then s.bI++ [r.a.li]else s.bI,s.ids++ [r.f.id],s.bR++ [r.f.label],FG s.nH r.f.label,max s.fr r.f.first,min s.to r.f.last⟩
def vy (lay:Int) (z:jJ) (r:Rw):jJ:=if gz r.f lay=0 then z else
 ⟨kW z.s r,if r.a.k=1 then z.ms++ [r]else z.ms,z.pl++ [(r.h,(z.s.ids.length:Int))],if r.a.k=3 then z.ks++ [(r.h,(z.s.bD.length:Int))]else if r.a.k=2 then z.ks++ [(r.h,(z.s.be.length:Int))]else z.ks⟩
def gU (lay:Int) (l:List Rw):jJ:=l.foldl (vy lay) jJ.Jt
theorem ug (lay:Int) (l:List Rw) (r:Rw):gU lay (l++ [r])=vy lay (gU lay l) r:=by simp[gU]
theorem nI {P:List Rw→jJ→Prop} (lay:Int) (h0:P [] jJ.Jt) (hs:∀l z r,P l z→P (l++ [r]) (vy lay z r)) (l:List Rw):P l (gU lay l):=by
 have:∀n,∀l:List Rw,l.length=n→P l (gU lay l):=by
  intro n
  induction n with
  |zero=>intro l hl; rw[List.eq_nil_of_length_eq_zero hl]; exact h0
  |succ n ih=>
   intro l hl
   obtain⟨m,r,rfl⟩:∃m r,l=m++ [r]:=⟨l.dropLast,l.getLast (by intro e; simp[e]at hl),(List.dropLast_concat_getLast _).symm⟩
   rw[ug]
   exact hs m _ r (ih m (by simpa using hl))
 exact this _ l rfl
structure SH (n:Nat) (z:jJ):Prop where
 t:z.s.br=[]
 m:z.s.bD.length≤n
 x:z.s.be.length≤n
 l:z.s.bI.length≤n
 i:z.s.ids.length≤n
 b:z.s.bR.length≤n
 c:aZ .u32 z.s.nH
 ms:z.ms.length≤n
 pl:z.pl.length≤n
 ks:z.ks.length≤n
theorem AJ (lay:Int) (l:List Rw):SH l.length (gU lay l):=by
 refine nI (P:=fun l z=>SH l.length z) lay ⟨rfl,Nat.le_refl _,Nat.le_refl _,Nat.le_refl _,Nat.le_refl _,Nat.le_refl _,⟨by decide,by decide⟩,Nat.le_refl _,Nat.le_refl _,Nat.le_refl _⟩ (fun l z r h=> ?_) l
 obtain⟨h0,h1,h2,h3,h4,h5,h6,h7,h8,h9⟩:=h
 have e:(l++ [r]).length=l.length+1:=by simp
 rw[e]
 unfold vy kW
 split
 ·exact⟨h0,by omega,by omega,by omega,by omega,by omega,h6,by omega,by omega,by omega⟩
 ·refine⟨h0,?_,?_,?_,?_,?_,M7 _ _,?_,?_,?_⟩<;>dsimp only<;>repeat' split
  all_goals (try simp only[List.length_append,List.length_singleton]); omega
theorem FN (lay:Int) (l:List Rw):(∀q ∈ (gU lay l).ms,q ∈ l)∧(∀q ∈ (gU lay l).pl,∃r ∈ l,r.h=q.1)∧(∀q ∈ (gU lay l).ks,∃r ∈ l,r.h=q.1):=by
 refine nI (P:=fun l z=>(∀q ∈ z.ms,q ∈ l)∧(∀q ∈ z.pl,∃r ∈ l,r.h=q.1)∧(∀q ∈ z.ks,∃r ∈ l,r.h=q.1)) lay (by simp[jJ.Jt]) (fun l z r h=> ?_) l
 obtain⟨h1,h2,h3⟩:=h
 have up:∀ {q:Int × Int},(∃r ∈ l,r.h=q.1)→∃x ∈ l++ [r],x.h=q.1:=fun⟨x,hx,e⟩=>⟨x,by simp[hx],e⟩
 have top:∀ {q:Int × Int},q.1=r.h→∃x ∈ l++ [r],x.h=q.1:=fun e=>⟨r,by simp,e.symm⟩
 unfold vy
 split
 ·exact⟨fun q hq=>by simp[h1 q hq],fun q hq=>up (h2 q hq),fun q hq=>up (h3 q hq)⟩
 ·refine⟨fun q hq=> ?_,fun q hq=> ?_,fun q hq=> ?_⟩
  ·dsimp only at hq
   split at hq
   ·rcases List.mem_append.1 hq with k|k
    ·simp[h1 q k]
    ·simp at k; simp[k]
   ·simp[h1 q hq]
  ·rcases List.mem_append.1 hq with k|k
   ·exact up (h2 q k)
   ·simp at k; exact top (by rw[k])
  ·dsimp only at hq
   split at hq
   ·rcases List.mem_append.1 hq with k|k
    ·exact up (h3 q k)
    ·simp at k; exact top (by rw[k])
   ·split at hq
    ·rcases List.mem_append.1 hq with k|k
     ·exact up (h3 q k)
     ·simp at k; exact top (by rw[k])
    ·exact up (h3 q hq)
def gL (l:List (Int × Int)) (h:Int):Option Int:=(l.find? fun q=>q.1==h).map (·.2)
theorem Wr {h:Int} {l:List (Int × Int)}:∀e ∈ cW l,dE [.i] [.int .i64 h] e=true:=by
 intro e he
 obtain⟨r,_,rfl⟩:=List.mem_map.1 he
 rfl
theorem zp (h:Int):∀l:List (Int × Int),∃i:Nat,cg [.int .i64 h] (cW l)=(gL l h).map fun v=>(i,[.int .i64 v])
 |[]=>⟨0,rfl⟩
 |r::l=>by
  obtain⟨i,hi⟩:=zp h l
  have e:lE [.int .i64 h] (p2 r)=(r.1==h):=by
   show ((h==r.1)&&true)=_
   rw[Bool.and_true]; exact Bool.beq_comm
  by_cases hh:(r.1==h)=true
  ·refine⟨0,?_⟩
   show (if lE [.int .i64 h] (p2 r)then some (0,(p2 r).drop 1)else _)=_
   rw[e,if_pos hh]; simp only[gL,List.find?_cons,hh]; rfl
  ·refine⟨i+1,?_⟩
   show (if lE [.int .i64 h] (p2 r)then some (0,(p2 r).drop 1)else (cg [.int .i64 h] (cW l)).map fun q=>(q.1+1,q.2))=_
   rw[e,if_neg hh,hi]; simp only[gL,List.find?_cons,hh]
   cases List.find? (fun q=>q.1==h) l<;>rfl
theorem xA {h:Int} {l:List (Int × Int)} {K:Option (Nat × List AV)→Prop} (k:∀i:Nat,K ((gL l h).map fun v=>(i,[.int .i64 v]))):J9 [.i] [.int .i64 h] (cW l) K:=by
 obtain⟨i,hi⟩:=zp h l
 exact⟨Wr,by rw[hi]; exact k i⟩
theorem uh {l:List (Int × Int)} {h:Int} (hn:∀q ∈ l,q.1≠h):gL l h=none:=by
 unfold gL
 rw[List.find?_eq_none.2 fun q hq=>by simpa using hn q hq]; rfl
theorem FP {l:List Rw} {h:Int} (hn:∀q ∈ l,q.h≠h):cX l h=none:=by
 unfold cX
 exact List.find?_eq_none.2 fun q hq=>by simpa using hn q hq
abbrev zq (R:Env) (z:jJ):aj:=[(0,.var (R.ty 61) [.bh 4 z.s.br.length,.bh 5 z.s.bD.length,.bh 6 z.s.be.length,.bh 7 z.s.bI.length,.bh 8 z.s.ids.length,.bh 9 z.s.bR.length,.int .u32 z.s.nH,.int .u32 z.s.fr,.int .u32 z.s.to,.omap 1,.omap 2,.omap 3]),
 (1,.map 1 false true true 41 (jm z.ms)),(2,.map 1 false false true 2 (cW z.pl)),(3,.map 1 false false true 2 (cW z.ks)),
 (4,.arr (R.ty 60) 19 (ko z.s.br)),(5,.arr (R.ty 40) 5 (eY z.s.bD)),(6,.arr (R.ty 12) 2 (e7 z.s.be)),(7,.arr (R.ty 41) 13 (e6 z.s.bI)),(8,.arr (R.ty 6) 1 (aY .u64 z.s.ids)),(9,.arr (R.ty 0) 1 (aY .u32 z.s.bR))]
abbrev Ju (R:Env):aj:=[(0,.var (R.ty 61) [.an,.an,.an,.an,.an,.an,.int .u32 0,.int .u32 0,.int .u32 0,.omap 1,.omap 2,.omap 3]),
 (1,.map 1 false true true 41 []),(2,.map 1 false false true 2 []),(3,.map 1 false false true 2 [])]
set_option maxHeartbeats 8000000 in
theorem Is {R:Env} (h:LP R) (L:List Rw) (lay:Int) (hl:L.length≤1000000) (Ws:L.Pairwise fun a b=>a.h<b.h):
  R.Mc 505 [.loc 0 1 0 0,.aO 40 (vo L),.int .i64 lay] (Ju R) (.aU []) (zq R (gU lay L)) 10:=
 h.VX.cr 200 4 rfl rfl rfl fun X bb hfit hp=>by
  unfold Ju
  refine sh ?_
  refine gZ 200 (fun i:Nat=>i≤L.length) (fun i=>⟨[(0,.loc 0 1 0 0),(2,.int .i64 lay),(12,.aO 40 (vo L)),(13,.int .i64 L.length),(14,.int .i64 i)],zq R (gU lay (L.take i)),10⟩) (fun i=>L.length - i) (0) ?_ ?_
  ·exact Nat.zero_le _
  ·intro i hi
   dsimp only
   have B:=AJ lay (L.take i)
   have Kx:=FN lay (L.take i)
   have ht:(L.take i).length=i:=by rw[List.length_take]; omega
   rw[ht]at B
   refine sh ?_
   refine cS (fun h1=> ?_) (fun h1=> ?_)
   ·obtain⟨r,hr⟩:∃u_,L[i]? =some u_:=⟨_,List.getElem?_eq_getElem (by first|omega|(simp<;>omega))⟩
    refine sh ?_
    refine ah hr ?_
    have e2:gU lay (L.take (i+1))=vy lay (gU lay (L.take i)) r:=by rw[aA hr,ug]
    have lt:∀q ∈ L.take i,q.h≠r.h:=fun q hq=>by
     obtain⟨j,hj,rfl⟩:=List.getElem_of_mem hq
     rw[List.getElem_take]
     obtain⟨a1,rfl⟩:=List.getElem?_eq_some_iff.1 hr
     have:=List.pairwise_iff_getElem.1 Ws j i (by omega) a1 (by omega)
     omega
    obtain⟨z,hz⟩:∃z,gU lay (L.take i)=z:=⟨_,rfl⟩
    rw[hz]at e2 B Kx ⊢
    obtain⟨b0,b1,b2,b3,b4,b5,b6,b7,b8,b9⟩:=B
    obtain⟨k1,k2,k3⟩:=Kx
    have g1:cX z.ms r.h=none:=FP fun q hq=>lt q (k1 q hq)
    have g2:gL z.pl r.h=none:=uh fun q hq=>by obtain⟨x,hx,e⟩:=k2 q hq; rw[←e]; exact lt x hx
    have g3:gL z.ks r.h=none:=uh fun q hq=>by obtain⟨x,hx,e⟩:=k3 q hq; rw[←e]; exact lt x hx
    unfold vy at e2
    refine sh ?_
    refine aq.pure h.n12.Zd.hb (Iq h.n12 r.f lay) rfl ?_
    by_cases hb:gz r.f lay=0
    ·refine sh ?_
     refine aG (by simp[hb]) ?_
     rw[if_pos hb]at e2
     refine sh ?_
     refine nX (i+1) ?_ ?_ ⟨_,hp,rfl⟩ ?_ ?_
     ·omega
     ·omega
     ·all_goals repeat' (first|exact True.intro|refine And.intro ?_ ?_|(intro _u; clear _u)|(with_reducible first|exact aw.fg|refine eM ?_ ?_|refine eF ?_ ?_ ?_|refine eN ?_|refine eL ?_ ?_ ?_|refine eA ?_ ?_|refine az.mk ⟨_,hp,rfl⟩ ?_ ?_)|refine az.mk ⟨_,hp,rfl⟩ ?_ ?_)
      all_goals try first|with_reducible rfl|omega|exact .inl (by decide)|(simp; done)|rfl
      all_goals (rw[e2]; done)
     ·all_goals repeat' (first|exact True.intro|refine And.intro ?_ ?_|(intro _u; clear _u)|(with_reducible first|exact aw.fg|refine eM ?_ ?_|refine eF ?_ ?_ ?_|refine eN ?_|refine eL ?_ ?_ ?_|refine eA ?_ ?_|refine az.mk ⟨_,hp,rfl⟩ ?_ ?_)|refine az.mk ⟨_,hp,rfl⟩ ?_ ?_)
      all_goals try first|with_reducible rfl|omega|exact .inl (by decide)|(simp; done)|rfl
      all_goals (rw[e2]; done)
    ·refine sh ?_
     refine aT (by simp[hb]) ?_
     rw[if_neg hb]at e2
     refine sh ?_
     refine xA fun j=> ?_
     rw[g2]
     dsimp only[Option.map_none]
     refine sh ?_
     refine cM true [] ((Ir h.n4 z.s.nH r.f.label b6).mc h.n4.o4.hb) ?_
     repeat (intro _; first|refine eK ?_|refine eP ?_)
     refine sh ?_
     refine cM true [] ((FM h.n14 z.s.fr z.s.to r.f).mc h.n14.Zj.hb) ?_
     repeat (intro _; first|refine eK ?_|refine eP ?_)
     refine sh ?_
     refine cS (fun q1=> ?_) (fun q1=> ?_)
     ·have e3:gU lay (L.take (i+1))=⟨kW z.s r,z.ms++ [r],z.pl++ [(r.h,(z.s.ids.length:Int))],z.ks⟩:=by rw[e2]; simp[q1]
      have e4:kW z.s r=⟨z.s.br,z.s.bD,z.s.be,z.s.bI,z.s.ids++ [r.f.id],z.s.bR++ [r.f.label],FG z.s.nH r.f.label,max z.s.fr r.f.first,min z.s.to r.f.last⟩:=by unfold kW; simp[q1]
      rw[e4]at e3
      refine sh ?_
      refine nB fun j=> ?_
      rw[g1]
      dsimp only[Option.map_none]
      refine sh ?_
      refine nX (i+1) ?_ ?_ ⟨_,hp,rfl⟩ ?_ ?_
      ·omega
      ·omega
      ·all_goals repeat' (first|exact True.intro|refine And.intro ?_ ?_|(intro _u; clear _u)|(with_reducible first|exact aw.fg|refine eM ?_ ?_|refine eF ?_ ?_ ?_|refine eN ?_|refine eL ?_ ?_ ?_|refine eA ?_ ?_|refine az.mk ⟨_,hp,rfl⟩ ?_ ?_)|refine az.mk ⟨_,hp,rfl⟩ ?_ ?_)
       all_goals try first|with_reducible rfl|omega|exact .inl (by decide)|(simp; done)|rfl
      ·all_goals repeat' (first|exact True.intro|refine And.intro ?_ ?_|(intro _u; clear _u)|(with_reducible first|exact aw.fg|refine eM ?_ ?_|refine eF ?_ ?_ ?_|refine eN ?_|refine eL ?_ ?_ ?_|refine eA ?_ ?_|refine az.mk ⟨_,hp,rfl⟩ ?_ ?_)|refine az.mk ⟨_,hp,rfl⟩ ?_ ?_)
       all_goals try first|with_reducible rfl|omega|exact .inl (by decide)|(simp; done)|rfl
       all_goals first|(rw[e3]; done)|(rw[e3]; simp[aY,cW,p2,jm,Aw,Rw.row,eY,e7,e6,ej.row,cz.row,ed.row]; done)
     ·refine sh ?_
      refine cS (fun q3=> ?_) (fun q3=> ?_)
      ·have e3:gU lay (L.take (i+1))=⟨kW z.s r,z.ms,z.pl++ [(r.h,(z.s.ids.length:Int))],z.ks++ [(r.h,(z.s.bD.length:Int))]⟩:=by rw[e2]; simp[q3]
       have e4:kW z.s r=⟨z.s.br,z.s.bD++ [r.a.mt],z.s.be,z.s.bI,z.s.ids++ [r.f.id],z.s.bR++ [r.f.label],FG z.s.nH r.f.label,max z.s.fr r.f.first,min z.s.to r.f.last⟩:=by unfold kW; simp[q3]
       rw[e4]at e3
       refine sh ?_
       refine xA fun j=> ?_
       rw[g3]
       dsimp only[Option.map_none]
       refine sh ?_
       refine nX (i+1) ?_ ?_ ⟨_,hp,rfl⟩ ?_ ?_
       ·omega
       ·omega
       ·all_goals repeat' (first|exact True.intro|refine And.intro ?_ ?_|(intro _u; clear _u)|(with_reducible first|exact aw.fg|refine eM ?_ ?_|refine eF ?_ ?_ ?_|refine eN ?_|refine eL ?_ ?_ ?_|refine eA ?_ ?_|refine az.mk ⟨_,hp,rfl⟩ ?_ ?_)|refine az.mk ⟨_,hp,rfl⟩ ?_ ?_)
        all_goals try first|with_reducible rfl|omega|exact .inl (by decide)|(simp; done)|rfl
       ·all_goals repeat' (first|exact True.intro|refine And.intro ?_ ?_|(intro _u; clear _u)|(with_reducible first|exact aw.fg|refine eM ?_ ?_|refine eF ?_ ?_ ?_|refine eN ?_|refine eL ?_ ?_ ?_|refine eA ?_ ?_|refine az.mk ⟨_,hp,rfl⟩ ?_ ?_)|refine az.mk ⟨_,hp,rfl⟩ ?_ ?_)
        all_goals try first|with_reducible rfl|omega|exact .inl (by decide)|(simp; done)|rfl
        all_goals first|(rw[e3]; done)|(rw[e3]; simp[aY,cW,p2,jm,Aw,Rw.row,eY,e7,e6,ej.row,cz.row,ed.row]; done)
      ·refine sh ?_
       refine cS (fun q2=> ?_) (fun q2=> ?_)
       ·have e3:gU lay (L.take (i+1))=⟨kW z.s r,z.ms,z.pl++ [(r.h,(z.s.ids.length:Int))],z.ks++ [(r.h,(z.s.be.length:Int))]⟩:=by rw[e2]; simp[q2]
        have e4:kW z.s r=⟨z.s.br,z.s.bD,z.s.be++ [r.a.x],z.s.bI,z.s.ids++ [r.f.id],z.s.bR++ [r.f.label],FG z.s.nH r.f.label,max z.s.fr r.f.first,min z.s.to r.f.last⟩:=by unfold kW; simp[q2]
        rw[e4]at e3
        refine sh ?_
        refine xA fun j=> ?_
        rw[g3]
        dsimp only[Option.map_none]
        refine sh ?_
        refine nX (i+1) ?_ ?_ ⟨_,hp,rfl⟩ ?_ ?_
        ·omega
        ·omega
        ·all_goals repeat' (first|exact True.intro|refine And.intro ?_ ?_|(intro _u; clear _u)|(with_reducible first|exact aw.fg|refine eM ?_ ?_|refine eF ?_ ?_ ?_|refine eN ?_|refine eL ?_ ?_ ?_|refine eA ?_ ?_|refine az.mk ⟨_,hp,rfl⟩ ?_ ?_)|refine az.mk ⟨_,hp,rfl⟩ ?_ ?_)
         all_goals try first|with_reducible rfl|omega|exact .inl (by decide)|(simp; done)|rfl
        ·all_goals repeat' (first|exact True.intro|refine And.intro ?_ ?_|(intro _u; clear _u)|(with_reducible first|exact aw.fg|refine eM ?_ ?_|refine eF ?_ ?_ ?_|refine eN ?_|refine eL ?_ ?_ ?_|refine eA ?_ ?_|refine az.mk ⟨_,hp,rfl⟩ ?_ ?_)|refine az.mk ⟨_,hp,rfl⟩ ?_ ?_)
         all_goals try first|with_reducible rfl|omega|exact .inl (by decide)|(simp; done)|rfl
         all_goals first|(rw[e3]; done)|(rw[e3]; simp[aY,cW,p2,jm,Aw,Rw.row,eY,e7,e6,ej.row,cz.row,ed.row]; done)
       ·have e3:gU lay (L.take (i+1))=⟨kW z.s r,z.ms,z.pl++ [(r.h,(z.s.ids.length:Int))],z.ks⟩:=by rw[e2]; simp[q1,q2,q3]
        refine sh ?_
        refine cS (fun q4=> ?_) (fun q4=> ?_)
        ·have e4:kW z.s r=⟨z.s.br,z.s.bD,z.s.be,z.s.bI++ [r.a.li],z.s.ids++ [r.f.id],z.s.bR++ [r.f.label],FG z.s.nH r.f.label,max z.s.fr r.f.first,min z.s.to r.f.last⟩:=by unfold kW; simp[q4]
         rw[e4]at e3
         refine sh ?_
         refine nX (i+1) ?_ ?_ ⟨_,hp,rfl⟩ ?_ ?_
         ·omega
         ·omega
         ·all_goals repeat' (first|exact True.intro|refine And.intro ?_ ?_|(intro _u; clear _u)|(with_reducible first|exact aw.fg|refine eM ?_ ?_|refine eF ?_ ?_ ?_|refine eN ?_|refine eL ?_ ?_ ?_|refine eA ?_ ?_|refine az.mk ⟨_,hp,rfl⟩ ?_ ?_)|refine az.mk ⟨_,hp,rfl⟩ ?_ ?_)
          all_goals try first|with_reducible rfl|omega|exact .inl (by decide)|(simp; done)|rfl
         ·all_goals repeat' (first|exact True.intro|refine And.intro ?_ ?_|(intro _u; clear _u)|(with_reducible first|exact aw.fg|refine eM ?_ ?_|refine eF ?_ ?_ ?_|refine eN ?_|refine eL ?_ ?_ ?_|refine eA ?_ ?_|refine az.mk ⟨_,hp,rfl⟩ ?_ ?_)|refine az.mk ⟨_,hp,rfl⟩ ?_ ?_)
          all_goals try first|with_reducible rfl|omega|exact .inl (by decide)|(simp; done)|rfl
          all_goals first|(rw[e3]; done)|(rw[e3]; simp[aY,cW,p2,jm,Aw,Rw.row,eY,e7,e6,ej.row,cz.row,ed.row]; done)
        ·have e4:kW z.s r=⟨z.s.br,z.s.bD,z.s.be,z.s.bI,z.s.ids++ [r.f.id],z.s.bR++ [r.f.label],FG z.s.nH r.f.label,max z.s.fr r.f.first,min z.s.to r.f.last⟩:=by unfold kW; simp[q2,q3,q4]
         rw[e4]at e3
         refine sh ?_
         refine nX (i+1) ?_ ?_ ⟨_,hp,rfl⟩ ?_ ?_
         ·omega
         ·omega
         ·all_goals repeat' (first|exact True.intro|refine And.intro ?_ ?_|(intro _u; clear _u)|(with_reducible first|exact aw.fg|refine eM ?_ ?_|refine eF ?_ ?_ ?_|refine eN ?_|refine eL ?_ ?_ ?_|refine eA ?_ ?_|refine az.mk ⟨_,hp,rfl⟩ ?_ ?_)|refine az.mk ⟨_,hp,rfl⟩ ?_ ?_)
          all_goals try first|with_reducible rfl|omega|exact .inl (by decide)|(simp; done)|rfl
         ·all_goals repeat' (first|exact True.intro|refine And.intro ?_ ?_|(intro _u; clear _u)|(with_reducible first|exact aw.fg|refine eM ?_ ?_|refine eF ?_ ?_ ?_|refine eN ?_|refine eL ?_ ?_ ?_|refine eA ?_ ?_|refine az.mk ⟨_,hp,rfl⟩ ?_ ?_)|refine az.mk ⟨_,hp,rfl⟩ ?_ ?_)
          all_goals try first|with_reducible rfl|omega|exact .inl (by decide)|(simp; done)|rfl
          all_goals first|(rw[e3]; done)|(rw[e3]; simp[aY,cW,p2,jm,Aw,Rw.row,eY,e7,e6,ej.row,cz.row,ed.row]; done)
   ·rw[List.take_of_length_le (by omega)]
    refine sh ?_
    exact rM [0,1,2,3,4,5,6,7,8,9]
end Go.UM
namespace Go.UM
open Go.AM
set_option maxRecDepth 4000
def SI (l:List T3) (i:Int):T3:=l.getD i.toNat ⟨0,0,0⟩
def Jv (l:List (Int × Int)) (i:Int):Int × Int:=l.getD i.toNat (0,0)
def kX (x:Af) (m:Ms) (fJ dS obj iH:Int) (c:T3):gK:=
 ⟨(de x (SI m.v c.a)).1,(de x (SI m.v c.b)).1,(de x (SI m.v c.c)).1,(Jv m.uv c.a).1,(Jv m.uv c.a).2,(Jv m.uv c.b).1,(Jv m.uv c.b).2,(Jv m.uv c.c).1,(Jv m.uv c.c).2,fJ,dS,obj,iH⟩
def fP.add (s:fP) (l:List gK):fP:=⟨s.br++l,s.bD,s.be,s.bI,s.ids,s.bR,s.nH,s.fr,s.to⟩
def jJ.add (z:jJ) (l:List gK):jJ:=⟨z.s.add l,z.ms,z.pl,z.ks⟩
def sP (z:jJ) (k:In):Option Int:=if k.dS=0 then some (-1)else gL z.ks k.dS
def jp (lay:Int) (z:jJ) (k:In):jJ:=match cX z.ms k.cC,gL z.ks k.fJ,sP z k with
 |some r,some m,some t=>z.add (r.a.m.t.map (kX k.t r.a.m m t ((gL z.pl k.cC).getD 0) (gz r.f lay)))
 |_,_,_=>z
theorem SJ {l:List (Int × Int)} (h:∀q ∈ l,aZ .i64 q.1∧aZ .i64 q.2):∀r ∈ cW l,iL r=true:=by
 intro r hr
 obtain⟨q,hq,rfl⟩:=List.mem_map.1 hr
 have:=h q hq
 simp[p2,iL]
theorem SK (l:List (Int × Int)) (h:Int):AQ (cg [.int .i64 h] (cW l))= .int .i64 ((gL l h).getD 0):=by
 obtain⟨i,hi⟩:=zp h l
 rw[hi]
 cases gL l h<;>rfl
theorem fL {l:List T3} {i:Int} {v:T3} (h:l[i.toNat]? =some v):SI l i=v:=by rw[SI,List.getD_eq_getElem?_getD,h]; rfl
theorem fM {l:List (Int × Int)} {i:Int} {v:Int × Int} (h:l[i.toNat]? =some v):Jv l i=v:=by rw[Jv,List.getD_eq_getElem?_getD,h]; rfl
theorem add_succ {z:jJ} {l:List gK} {j:Nat} {c:gK} (h:l[j]? =some c):(z.add (l.take (j+1))).s.br=(z.add (l.take j)).s.br++ [c]:=by
 rw[aA h]
 simp[jJ.add,fP.add]
theorem oD {lay:Int} {z:jJ} {k:In} (h:cX z.ms k.cC=none∨gL z.ks k.fJ=none∨sP z k=none):jp lay z k=z:=by
 unfold jp
 rcases h with h|h|h
 ·rw[h]
 ·rw[h]; cases cX z.ms k.cC<;>rfl
 ·rw[h]; cases cX z.ms k.cC<;>cases gL z.ks k.fJ<;>rfl
theorem rX {lay:Int} {z:jJ} {k:In} {r:Rw} {m t:Int} (h1:cX z.ms k.cC=some r) (h2:gL z.ks k.fJ=some m) (h3:sP z k=some t):
  jp lay z k=z.add (r.a.m.t.map (kX k.t r.a.m m t ((gL z.pl k.cC).getD 0) (gz r.f lay))):=by
 unfold jp
 rw[h1,h2,h3]
set_option maxHeartbeats 8000000 in
theorem Iu {R:Env} (h:LQ R) (z:jJ) (k:In) (lay:Int) (ok:∀r ∈ z.ms,r.a.k=1∧kT r) (hx:k.t.I) (ht:z.s.br.length≤1000000) (IG:∀q ∈ z.pl,aZ .i64 q.1∧aZ .i64 q.2):
  R.Mc 506 [.loc 0 1 0 0,.agg k.row,.int .i64 lay] (zq R z) (.aU []) (zq R (jp lay z k)) 10:=
 h.VY.cr 200 10 rfl rfl rfl fun X bb hfit hp=>by
  have M8:=SJ IG
  have M9:=SK z.pl k.cC
  refine sh ?_
  refine nB fun i1=> ?_
  cases hr:cX z.ms k.cC with
  |none=>
   have hsk:jp lay z k=z:=oD (.inl hr)
   dsimp only[Option.map_none]
   refine sh ?_
   refine xA fun i2=> ?_
   cases hm:gL z.ks k.fJ
   all_goals
    dsimp only[Option.map_none,Option.map_some]
    refine sh ?_
    refine xA fun i3=> ?_
    cases ht:gL z.ks k.dS
    all_goals
     dsimp only[Option.map_none,Option.map_some]
     refine sh ?_
     refine cS (fun k0=> ?_) (fun k0=> ?_)
     ·rw[hsk]
      refine sh ?_
      exact rM [0,1,2,3,4,5,6,7,8,9]
     ·rw[hsk]
      refine sh ?_
      exact rM [0,1,2,3,4,5,6,7,8,9]
  |some r=>
   dsimp only[Option.map_some]
   refine sh ?_
   refine xA fun i2=> ?_
   cases hm:gL z.ks k.fJ with
   |none=>
    have hsk:jp lay z k=z:=oD (.inr (.inl hm))
    dsimp only[Option.map_none]
    refine sh ?_
    refine xA fun i3=> ?_
    cases ht:gL z.ks k.dS
    all_goals
     dsimp only[Option.map_none,Option.map_some]
     refine sh ?_
     refine cS (fun k0=> ?_) (fun k0=> ?_)
     ·rw[hsk]
      refine sh ?_
      exact rM [0,1,2,3,4,5,6,7,8,9]
     ·rw[hsk]
      refine sh ?_
      exact rM [0,1,2,3,4,5,6,7,8,9]
   |some m=>
    dsimp only[Option.map_some]
    refine sh ?_
    refine xA fun i3=> ?_
    cases ZG:gL z.ks k.dS with
    |none=>
     dsimp only[Option.map_none]
     refine sh ?_
     refine cS (fun k0=> ?_) (fun k0=> ?_)
     ·obtain⟨t,TU⟩:∃t:Int,-1=t:=⟨_,rfl⟩
      have et:sP z k=some t:=by rw[sP,if_pos k0,TU]
      rw[rX hr hm et]
      have rk:=ok r (kU hr).1
      have rm:=kR (by have:=(hG rk.2.a).1; rw[own,if_pos rk.1]at this; exact this)
      have FQ:∀v ∈ r.a.m.v,v.I:=fun v hv=>by
       have:=rm.pv v hv
       exact⟨by simp only[aZ]; omega,by simp only[aZ]; omega,by simp only[aZ]; omega⟩
      obtain⟨ob,Jw⟩:∃ob,(gL z.pl k.cC).getD 0=ob:=⟨_,rfl⟩
      rw[Jw]
      obtain⟨g,hg⟩:∃g,kX k.t r.a.m m t ob (gz r.f lay)=g:=⟨_,rfl⟩
      rw[hg]
      obtain⟨T,hT⟩:∃T,r.a.m.t.map g=T:=⟨_,rfl⟩
      have ZH:T.length=r.a.m.t.length:=by rw[←hT,List.length_map]
      rw[hT]
      refine sh ?_
      refine aN.inv 200 (fun j:Nat=>j≤r.a.m.t.length) (fun j=>⟨[(0,.loc 0 1 0 0),(2,.int .i64 lay),(4,.loc 10 1 0 0),(6,.loc 11 1 0 0),(8,.int .i64 m),(10,.int .i64 t),(12,.loc 12 1 0 0),(65,.aO 3 (bF r.a.m.t)),(66,.int .i64 r.a.m.t.length),(67,.int .i64 j)],zq R (z.add (T.take j))++ [(10,.var (R.ty 44) k.row),(11,.var (R.ty 45) r.row),(12,.var (R.ty 25) r.a.m.row)],13⟩) (fun j=>r.a.m.t.length - j) (0) ?_ ⟨⟨_,hp,rfl⟩,?_,?_⟩ ?_
      ·exact Nat.zero_le _
      ·all_goals repeat' (first|exact True.intro|refine And.intro ?_ ?_|(intro _u; clear _u)|(with_reducible first|exact aw.fg|refine eM ?_ ?_|refine eF ?_ ?_ ?_|refine eN ?_|refine eL ?_ ?_ ?_|refine eA ?_ ?_|refine az.mk ⟨_,hp,rfl⟩ ?_ ?_)|refine az.mk ⟨_,hp,rfl⟩ ?_ ?_)
       all_goals try first|with_reducible rfl|omega|exact .inl (by decide)|(simp; done)|rfl
       all_goals (simp[jJ.add,fP.add]; done)
      ·all_goals repeat' (first|exact True.intro|refine And.intro ?_ ?_|(intro _u; clear _u)|(with_reducible first|exact aw.fg|refine eM ?_ ?_|refine eF ?_ ?_ ?_|refine eN ?_|refine eL ?_ ?_ ?_|refine eA ?_ ?_|refine az.mk ⟨_,hp,rfl⟩ ?_ ?_)|refine az.mk ⟨_,hp,rfl⟩ ?_ ?_)
       all_goals try first|with_reducible rfl|omega|exact .inl (by decide)|(simp; done)|rfl
       all_goals (simp[jJ.add,fP.add]; done)
      ·intro j hj
       dsimp only
       refine sh ?_
       refine cS (fun h1=> ?_) (fun h1=> ?_)
       ·obtain⟨c,hc⟩:∃u_,r.a.m.t[j]? =some u_:=⟨_,List.getElem?_eq_getElem (by first|omega|(simp<;>omega))⟩
        refine sh ?_
        refine ah hc ?_
        have xE:=rm.pt c (List.mem_of_getElem? hc)
        have ZI:=rm.uv
        have Dd:=rm.t.2
        have hlen:(z.add (T.take j)).s.br.length≤1000064:=by
         have:=rm.t.2
         simp[jJ.add,fP.add]; omega
        refine sh ?_
        refine V8 M8 (M9.trans (by rw[Jw])) ?_
        refine sh ?_
        refine aq.pure h.n11.Re.hb (p7 h.n11 r.f lay) rfl ?_
        refine sh ?_
        refine aN.one 200 ?_
        refine sh ?_
        refine aG (by rfl) ?_
        obtain⟨va,r7⟩:∃u_,r.a.m.v[c.a.toNat]? =some u_:=⟨_,List.getElem?_eq_getElem (by omega)⟩
        obtain⟨ua,Jx⟩:∃u_,r.a.m.uv[c.a.toNat]? =some u_:=⟨_,List.getElem?_eq_getElem (by omega)⟩
        refine sh ?_
        refine ah r7 ?_
        refine sh ?_
        refine aq.pure h.n241.rD.hb (eB h.n241 hx (FQ va (List.mem_of_getElem? r7))) rfl ?_
        refine sh ?_
        refine ah Jx ?_
        refine sh ?_
        refine aN.one 200 ?_
        refine sh ?_
        refine aG (by rfl) ?_
        obtain⟨vb,FR⟩:∃u_,r.a.m.v[c.b.toNat]? =some u_:=⟨_,List.getElem?_eq_getElem (by omega)⟩
        obtain⟨ub,Jy⟩:∃u_,r.a.m.uv[c.b.toNat]? =some u_:=⟨_,List.getElem?_eq_getElem (by omega)⟩
        refine sh ?_
        refine ah FR ?_
        refine sh ?_
        refine aq.pure h.n241.rD.hb (eB h.n241 hx (FQ vb (List.mem_of_getElem? FR))) rfl ?_
        refine sh ?_
        refine ah Jy ?_
        refine sh ?_
        refine aN.one 200 ?_
        refine sh ?_
        refine aG (by rfl) ?_
        obtain⟨vc,FT⟩:∃u_,r.a.m.v[c.c.toNat]? =some u_:=⟨_,List.getElem?_eq_getElem (by omega)⟩
        obtain⟨uc,Jz⟩:∃u_,r.a.m.uv[c.c.toNat]? =some u_:=⟨_,List.getElem?_eq_getElem (by omega)⟩
        refine sh ?_
        refine ah FT ?_
        refine sh ?_
        refine aq.pure h.n241.rD.hb (eB h.n241 hx (FQ vc (List.mem_of_getElem? FT))) rfl ?_
        refine sh ?_
        refine ah Jz ?_
        refine sh ?_
        refine aN.one 200 ?_
        refine sh ?_
        refine aT (by rfl) ?_
        have e3:(kX k.t r.a.m m t ob (gz r.f lay) c)=⟨(de k.t va).1,(de k.t vb).1,(de k.t vc).1,ua.1,ua.2,ub.1,ub.2,uc.1,uc.2,m,t,ob,gz r.f lay⟩:=by
         simp only[kX,fL r7,fL FR,fL FT,fM Jx,fM Jy,fM Jz]
        rw[hg]at e3
        have JA:T[j]? =some (g c):=by rw[←hT,List.getElem?_map,hc]; rfl
        refine sh ?_
        refine nX (j+1) ?_ ?_ ⟨_,hp,rfl⟩ ?_ ?_
        ·omega
        ·omega
        ·all_goals repeat' (first|exact True.intro|refine And.intro ?_ ?_|(intro _u; clear _u)|(with_reducible first|exact aw.fg|refine eM ?_ ?_|refine eF ?_ ?_ ?_|refine eN ?_|refine eL ?_ ?_ ?_|refine eA ?_ ?_|refine az.mk ⟨_,hp,rfl⟩ ?_ ?_)|refine az.mk ⟨_,hp,rfl⟩ ?_ ?_)
         all_goals try first|with_reducible rfl|omega|exact .inl (by decide)|(simp; done)|rfl
         all_goals (rw[add_succ JA]; simp; done)
        ·all_goals repeat' (first|exact True.intro|refine And.intro ?_ ?_|(intro _u; clear _u)|(with_reducible first|exact aw.fg|refine eM ?_ ?_|refine eF ?_ ?_ ?_|refine eN ?_|refine eL ?_ ?_ ?_|refine eA ?_ ?_|refine az.mk ⟨_,hp,rfl⟩ ?_ ?_)|refine az.mk ⟨_,hp,rfl⟩ ?_ ?_)
         all_goals try first|with_reducible rfl|omega|exact .inl (by decide)|(simp; done)|rfl
         all_goals (rw[add_succ JA]; simp[ko,e3,gK.row]; done)
       ·rw[List.take_of_length_le (by omega)]
        refine sh ?_
        exact rM [0,1,2,3,4,5,6,7,8,9]
     ·rw[oD (.inr (.inr (by rw[sP,if_neg k0,ZG])))]
      refine sh ?_
      exact rM [0,1,2,3,4,5,6,7,8,9]
    |some t=>
     dsimp only[Option.map_some]
     refine sh ?_
     refine cS (fun k0=> ?_) (fun k0=> ?_)
     ·obtain⟨t,TU⟩:∃t:Int,-1=t:=⟨_,rfl⟩
      have et:sP z k=some t:=by rw[sP,if_pos k0,TU]
      rw[rX hr hm et]
      have rk:=ok r (kU hr).1
      have rm:=kR (by have:=(hG rk.2.a).1; rw[own,if_pos rk.1]at this; exact this)
      have FQ:∀v ∈ r.a.m.v,v.I:=fun v hv=>by
       have:=rm.pv v hv
       exact⟨by simp only[aZ]; omega,by simp only[aZ]; omega,by simp only[aZ]; omega⟩
      obtain⟨ob,Jw⟩:∃ob,(gL z.pl k.cC).getD 0=ob:=⟨_,rfl⟩
      rw[Jw]
      obtain⟨g,hg⟩:∃g,kX k.t r.a.m m t ob (gz r.f lay)=g:=⟨_,rfl⟩
      rw[hg]
      obtain⟨T,hT⟩:∃T,r.a.m.t.map g=T:=⟨_,rfl⟩
      have ZH:T.length=r.a.m.t.length:=by rw[←hT,List.length_map]
      rw[hT]
      refine sh ?_
      refine aN.inv 200 (fun j:Nat=>j≤r.a.m.t.length) (fun j=>⟨[(0,.loc 0 1 0 0),(2,.int .i64 lay),(4,.loc 10 1 0 0),(6,.loc 11 1 0 0),(8,.int .i64 m),(10,.int .i64 t),(12,.loc 12 1 0 0),(65,.aO 3 (bF r.a.m.t)),(66,.int .i64 r.a.m.t.length),(67,.int .i64 j)],zq R (z.add (T.take j))++ [(10,.var (R.ty 44) k.row),(11,.var (R.ty 45) r.row),(12,.var (R.ty 25) r.a.m.row)],13⟩) (fun j=>r.a.m.t.length - j) (0) ?_ ⟨⟨_,hp,rfl⟩,?_,?_⟩ ?_
      ·exact Nat.zero_le _
      ·all_goals repeat' (first|exact True.intro|refine And.intro ?_ ?_|(intro _u; clear _u)|(with_reducible first|exact aw.fg|refine eM ?_ ?_|refine eF ?_ ?_ ?_|refine eN ?_|refine eL ?_ ?_ ?_|refine eA ?_ ?_|refine az.mk ⟨_,hp,rfl⟩ ?_ ?_)|refine az.mk ⟨_,hp,rfl⟩ ?_ ?_)
       all_goals try first|with_reducible rfl|omega|exact .inl (by decide)|(simp; done)|rfl
       all_goals (simp[jJ.add,fP.add]; done)
      ·all_goals repeat' (first|exact True.intro|refine And.intro ?_ ?_|(intro _u; clear _u)|(with_reducible first|exact aw.fg|refine eM ?_ ?_|refine eF ?_ ?_ ?_|refine eN ?_|refine eL ?_ ?_ ?_|refine eA ?_ ?_|refine az.mk ⟨_,hp,rfl⟩ ?_ ?_)|refine az.mk ⟨_,hp,rfl⟩ ?_ ?_)
       all_goals try first|with_reducible rfl|omega|exact .inl (by decide)|(simp; done)|rfl
       all_goals (simp[jJ.add,fP.add]; done)
      ·intro j hj
       dsimp only
       refine sh ?_
       refine cS (fun h1=> ?_) (fun h1=> ?_)
       ·obtain⟨c,hc⟩:∃u_,r.a.m.t[j]? =some u_:=⟨_,List.getElem?_eq_getElem (by first|omega|(simp<;>omega))⟩
        refine sh ?_
        refine ah hc ?_
        have xE:=rm.pt c (List.mem_of_getElem? hc)
        have ZI:=rm.uv
        have Dd:=rm.t.2
        have hlen:(z.add (T.take j)).s.br.length≤1000064:=by
         have:=rm.t.2
         simp[jJ.add,fP.add]; omega
        refine sh ?_
        refine V8 M8 (M9.trans (by rw[Jw])) ?_
        refine sh ?_
        refine aq.pure h.n11.Re.hb (p7 h.n11 r.f lay) rfl ?_
        refine sh ?_
        refine aN.one 200 ?_
        refine sh ?_
        refine aG (by rfl) ?_
        obtain⟨va,r7⟩:∃u_,r.a.m.v[c.a.toNat]? =some u_:=⟨_,List.getElem?_eq_getElem (by omega)⟩
        obtain⟨ua,Jx⟩:∃u_,r.a.m.uv[c.a.toNat]? =some u_:=⟨_,List.getElem?_eq_getElem (by omega)⟩
        refine sh ?_
        refine ah r7 ?_
        refine sh ?_
        refine aq.pure h.n241.rD.hb (eB h.n241 hx (FQ va (List.mem_of_getElem? r7))) rfl ?_
        refine sh ?_
        refine ah Jx ?_
        refine sh ?_
        refine aN.one 200 ?_
        refine sh ?_
        refine aG (by rfl) ?_
        obtain⟨vb,FR⟩:∃u_,r.a.m.v[c.b.toNat]? =some u_:=⟨_,List.getElem?_eq_getElem (by omega)⟩
        obtain⟨ub,Jy⟩:∃u_,r.a.m.uv[c.b.toNat]? =some u_:=⟨_,List.getElem?_eq_getElem (by omega)⟩
        refine sh ?_
        refine ah FR ?_
        refine sh ?_
        refine aq.pure h.n241.rD.hb (eB h.n241 hx (FQ vb (List.mem_of_getElem? FR))) rfl ?_
        refine sh ?_
        refine ah Jy ?_
        refine sh ?_
        refine aN.one 200 ?_
        refine sh ?_
        refine aG (by rfl) ?_
        obtain⟨vc,FT⟩:∃u_,r.a.m.v[c.c.toNat]? =some u_:=⟨_,List.getElem?_eq_getElem (by omega)⟩
        obtain⟨uc,Jz⟩:∃u_,r.a.m.uv[c.c.toNat]? =some u_:=⟨_,List.getElem?_eq_getElem (by omega)⟩
        refine sh ?_
        refine ah FT ?_
        refine sh ?_
        refine aq.pure h.n241.rD.hb (eB h.n241 hx (FQ vc (List.mem_of_getElem? FT))) rfl ?_
        refine sh ?_
        refine ah Jz ?_
        refine sh ?_
        refine aN.one 200 ?_
        refine sh ?_
        refine aT (by rfl) ?_
        have e3:(kX k.t r.a.m m t ob (gz r.f lay) c)=⟨(de k.t va).1,(de k.t vb).1,(de k.t vc).1,ua.1,ua.2,ub.1,ub.2,uc.1,uc.2,m,t,ob,gz r.f lay⟩:=by
         simp only[kX,fL r7,fL FR,fL FT,fM Jx,fM Jy,fM Jz]
        rw[hg]at e3
        have JA:T[j]? =some (g c):=by rw[←hT,List.getElem?_map,hc]; rfl
        refine sh ?_
        refine nX (j+1) ?_ ?_ ⟨_,hp,rfl⟩ ?_ ?_
        ·omega
        ·omega
        ·all_goals repeat' (first|exact True.intro|refine And.intro ?_ ?_|(intro _u; clear _u)|(with_reducible first|exact aw.fg|refine eM ?_ ?_|refine eF ?_ ?_ ?_|refine eN ?_|refine eL ?_ ?_ ?_|refine eA ?_ ?_|refine az.mk ⟨_,hp,rfl⟩ ?_ ?_)|refine az.mk ⟨_,hp,rfl⟩ ?_ ?_)
         all_goals try first|with_reducible rfl|omega|exact .inl (by decide)|(simp; done)|rfl
         all_goals (rw[add_succ JA]; simp; done)
        ·all_goals repeat' (first|exact True.intro|refine And.intro ?_ ?_|(intro _u; clear _u)|(with_reducible first|exact aw.fg|refine eM ?_ ?_|refine eF ?_ ?_ ?_|refine eN ?_|refine eL ?_ ?_ ?_|refine eA ?_ ?_|refine az.mk ⟨_,hp,rfl⟩ ?_ ?_)|refine az.mk ⟨_,hp,rfl⟩ ?_ ?_)
         all_goals try first|with_reducible rfl|omega|exact .inl (by decide)|(simp; done)|rfl
         all_goals (rw[add_succ JA]; simp[ko,e3,gK.row]; done)
       ·rw[List.take_of_length_le (by omega)]
        refine sh ?_
        exact rM [0,1,2,3,4,5,6,7,8,9]
     ·have TU:t=t:=rfl
      have et:sP z k=some t:=by rw[sP,if_neg k0,ZG]
      rw[rX hr hm et]
      have rk:=ok r (kU hr).1
      have rm:=kR (by have:=(hG rk.2.a).1; rw[own,if_pos rk.1]at this; exact this)
      have FQ:∀v ∈ r.a.m.v,v.I:=fun v hv=>by
       have:=rm.pv v hv
       exact⟨by simp only[aZ]; omega,by simp only[aZ]; omega,by simp only[aZ]; omega⟩
      obtain⟨ob,Jw⟩:∃ob,(gL z.pl k.cC).getD 0=ob:=⟨_,rfl⟩
      rw[Jw]
      obtain⟨g,hg⟩:∃g,kX k.t r.a.m m t ob (gz r.f lay)=g:=⟨_,rfl⟩
      rw[hg]
      obtain⟨T,hT⟩:∃T,r.a.m.t.map g=T:=⟨_,rfl⟩
      have ZH:T.length=r.a.m.t.length:=by rw[←hT,List.length_map]
      rw[hT]
      refine sh ?_
      refine aN.inv 200 (fun j:Nat=>j≤r.a.m.t.length) (fun j=>⟨[(0,.loc 0 1 0 0),(2,.int .i64 lay),(4,.loc 10 1 0 0),(6,.loc 11 1 0 0),(8,.int .i64 m),(10,.int .i64 t),(12,.loc 12 1 0 0),(65,.aO 3 (bF r.a.m.t)),(66,.int .i64 r.a.m.t.length),(67,.int .i64 j)],zq R (z.add (T.take j))++ [(10,.var (R.ty 44) k.row),(11,.var (R.ty 45) r.row),(12,.var (R.ty 25) r.a.m.row)],13⟩) (fun j=>r.a.m.t.length - j) (0) ?_ ⟨⟨_,hp,rfl⟩,?_,?_⟩ ?_
      ·exact Nat.zero_le _
      ·all_goals repeat' (first|exact True.intro|refine And.intro ?_ ?_|(intro _u; clear _u)|(with_reducible first|exact aw.fg|refine eM ?_ ?_|refine eF ?_ ?_ ?_|refine eN ?_|refine eL ?_ ?_ ?_|refine eA ?_ ?_|refine az.mk ⟨_,hp,rfl⟩ ?_ ?_)|refine az.mk ⟨_,hp,rfl⟩ ?_ ?_)
       all_goals try first|with_reducible rfl|omega|exact .inl (by decide)|(simp; done)|rfl
       all_goals (simp[jJ.add,fP.add]; done)
      ·all_goals repeat' (first|exact True.intro|refine And.intro ?_ ?_|(intro _u; clear _u)|(with_reducible first|exact aw.fg|refine eM ?_ ?_|refine eF ?_ ?_ ?_|refine eN ?_|refine eL ?_ ?_ ?_|refine eA ?_ ?_|refine az.mk ⟨_,hp,rfl⟩ ?_ ?_)|refine az.mk ⟨_,hp,rfl⟩ ?_ ?_)
       all_goals try first|with_reducible rfl|omega|exact .inl (by decide)|(simp; done)|rfl
       all_goals (simp[jJ.add,fP.add]; done)
      ·intro j hj
       dsimp only
       refine sh ?_
       refine cS (fun h1=> ?_) (fun h1=> ?_)
       ·obtain⟨c,hc⟩:∃u_,r.a.m.t[j]? =some u_:=⟨_,List.getElem?_eq_getElem (by first|omega|(simp<;>omega))⟩
        refine sh ?_
        refine ah hc ?_
        have xE:=rm.pt c (List.mem_of_getElem? hc)
        have ZI:=rm.uv
        have Dd:=rm.t.2
        have hlen:(z.add (T.take j)).s.br.length≤1000064:=by
         have:=rm.t.2
         simp[jJ.add,fP.add]; omega
        refine sh ?_
        refine V8 M8 (M9.trans (by rw[Jw])) ?_
        refine sh ?_
        refine aq.pure h.n11.Re.hb (p7 h.n11 r.f lay) rfl ?_
        refine sh ?_
        refine aN.one 200 ?_
        refine sh ?_
        refine aG (by rfl) ?_
        obtain⟨va,r7⟩:∃u_,r.a.m.v[c.a.toNat]? =some u_:=⟨_,List.getElem?_eq_getElem (by omega)⟩
        obtain⟨ua,Jx⟩:∃u_,r.a.m.uv[c.a.toNat]? =some u_:=⟨_,List.getElem?_eq_getElem (by omega)⟩
        refine sh ?_
        refine ah r7 ?_
        refine sh ?_
        refine aq.pure h.n241.rD.hb (eB h.n241 hx (FQ va (List.mem_of_getElem? r7))) rfl ?_
        refine sh ?_
        refine ah Jx ?_
        refine sh ?_
        refine aN.one 200 ?_
        refine sh ?_
        refine aG (by rfl) ?_
        obtain⟨vb,FR⟩:∃u_,r.a.m.v[c.b.toNat]? =some u_:=⟨_,List.getElem?_eq_getElem (by omega)⟩
        obtain⟨ub,Jy⟩:∃u_,r.a.m.uv[c.b.toNat]? =some u_:=⟨_,List.getElem?_eq_getElem (by omega)⟩
        refine sh ?_
        refine ah FR ?_
        refine sh ?_
        refine aq.pure h.n241.rD.hb (eB h.n241 hx (FQ vb (List.mem_of_getElem? FR))) rfl ?_
        refine sh ?_
        refine ah Jy ?_
        refine sh ?_
        refine aN.one 200 ?_
        refine sh ?_
        refine aG (by rfl) ?_
        obtain⟨vc,FT⟩:∃u_,r.a.m.v[c.c.toNat]? =some u_:=⟨_,List.getElem?_eq_getElem (by omega)⟩
        obtain⟨uc,Jz⟩:∃u_,r.a.m.uv[c.c.toNat]? =some u_:=⟨_,List.getElem?_eq_getElem (by omega)⟩
        refine sh ?_
        refine ah FT ?_
        refine sh ?_
        refine aq.pure h.n241.rD.hb (eB h.n241 hx (FQ vc (List.mem_of_getElem? FT))) rfl ?_
        refine sh ?_
        refine ah Jz ?_
        refine sh ?_
        refine aN.one 200 ?_
        refine sh ?_
        refine aT (by rfl) ?_
        have e3:(kX k.t r.a.m m t ob (gz r.f lay) c)=⟨(de k.t va).1,(de k.t vb).1,(de k.t vc).1,ua.1,ua.2,ub.1,ub.2,uc.1,uc.2,m,t,ob,gz r.f lay⟩:=by
         simp only[kX,fL r7,fL FR,fL FT,fM Jx,fM Jy,fM Jz]
        rw[hg]at e3
        have JA:T[j]? =some (g c):=by rw[←hT,List.getElem?_map,hc]; rfl
        refine sh ?_
        refine nX (j+1) ?_ ?_ ⟨_,hp,rfl⟩ ?_ ?_
        ·omega
        ·omega
        ·all_goals repeat' (first|exact True.intro|refine And.intro ?_ ?_|(intro _u; clear _u)|(with_reducible first|exact aw.fg|refine eM ?_ ?_|refine eF ?_ ?_ ?_|refine eN ?_|refine eL ?_ ?_ ?_|refine eA ?_ ?_|refine az.mk ⟨_,hp,rfl⟩ ?_ ?_)|refine az.mk ⟨_,hp,rfl⟩ ?_ ?_)
         all_goals try first|with_reducible rfl|omega|exact .inl (by decide)|(simp; done)|rfl
         all_goals (rw[add_succ JA]; simp; done)
        ·all_goals repeat' (first|exact True.intro|refine And.intro ?_ ?_|(intro _u; clear _u)|(with_reducible first|exact aw.fg|refine eM ?_ ?_|refine eF ?_ ?_ ?_|refine eN ?_|refine eL ?_ ?_ ?_|refine eA ?_ ?_|refine az.mk ⟨_,hp,rfl⟩ ?_ ?_)|refine az.mk ⟨_,hp,rfl⟩ ?_ ?_)
         all_goals try first|with_reducible rfl|omega|exact .inl (by decide)|(simp; done)|rfl
         all_goals (rw[add_succ JA]; simp[ko,e3,gK.row]; done)
       ·rw[List.take_of_length_le (by omega)]
        refine sh ?_
        exact rM [0,1,2,3,4,5,6,7,8,9]
end Go.UM
namespace Go.UM
open Go.AM
set_option maxRecDepth 4000
theorem fbm:pP.bare.H':=by refine⟨?_,?_,?_,?_⟩<;>simp[pP,As.bare]
end Go.UM
namespace Go.UM
open Go.AM
set_option maxRecDepth 4000
def nJ (lay:Int) (L:List Rw) (N:List In):jJ:=N.foldl (jp lay) (gU lay L)
theorem Cz (lay:Int) (L:List Rw) (N:List In) (k:In):nJ lay L (N++ [k])=jp lay (nJ lay L N) k:=by simp[nJ]
theorem ui (lay:Int) (z:jJ) (k:In):(jp lay z k).ms=z.ms∧(jp lay z k).pl=z.pl∧(jp lay z k).ks=z.ks:=by
 unfold jp
 split<;>exact⟨rfl,rfl,rfl⟩
theorem zu (lay:Int) (N:List In):∀z:jJ,(N.foldl (jp lay) z).ms=z.ms∧(N.foldl (jp lay) z).pl=z.pl∧(N.foldl (jp lay) z).ks=z.ks:=by
 induction N with
 |nil=>exact fun z=>⟨rfl,rfl,rfl⟩
 |cons k N ih=>
  intro z
  obtain⟨h1,h2,h3⟩:=ih (jp lay z k)
  obtain⟨g1,g2,g3⟩:=ui lay z k
  exact⟨h1.trans g1,h2.trans g2,h3.trans g3⟩
theorem CA {lay:Int} {z:jJ} {k:In} (ok:∀r ∈ z.ms,r.a.k=1∧kT r):(jp lay z k).s.br.length≤z.s.br.length+64:=by
 unfold jp
 split
 ·rename_i r m t h1 _ _
  have rk:=ok r (kU h1).1
  have rm:=kR (by have:=(hG rk.2.a).1; rw[own,if_pos rk.1]at this; exact this)
  have:=rm.t.2
  simp[jJ.add,fP.add]; omega
 ·omega
theorem FU (lay:Int) (L:List Rw) (ok:∀r ∈ L,kT r):∀r ∈ (gU lay L).ms,r.a.k=1∧kT r:=by
 refine nI (P:=fun l z=>(∀r ∈ l,kT r)→∀r ∈ z.ms,r.a.k=1∧kT r) lay (by simp[jJ.Jt]) (fun l z x h ok r hr=> ?_) L ok
 have old:=h (fun r hr=>ok r (by simp[hr]))
 unfold vy at hr
 split at hr
 ·exact old r hr
 ·dsimp only at hr
  split at hr
  ·rename_i k1
   rcases List.mem_append.1 hr with q|q
   ·exact old r q
   ·simp only[List.mem_singleton]at q
    subst q
    exact⟨k1,ok r (by simp)⟩
  ·exact old r hr
theorem Na (lay:Int) (L:List Rw) (ok:∀r ∈ L,kT r) (hl:L.length≤1000000):∀q ∈ (gU lay L).pl,aZ .i64 q.1∧aZ .i64 q.2:=by
 have:∀q ∈ (gU lay L).pl,(1≤q.1∧q.1≤65536)∧(0≤q.2∧q.2≤L.length):=by
  refine nI (P:=fun l z=>(∀r ∈ l,kT r)→z.s.ids.length≤l.length∧∀q ∈ z.pl,(1≤q.1∧q.1≤65536)∧(0≤q.2∧q.2≤(l.length:Int))) lay (by simp[jJ.Jt,fP.Jt]) (fun l z x h ok=> ?_) L ok |>.2
  obtain⟨h1,h2⟩:=h (fun r hr=>ok r (by simp[hr]))
  have e:(l++ [x]).length=l.length+1:=by simp
  rw[e]
  unfold vy
  split
  ·exact⟨by omega,fun q hq=>by have:=h2 q hq; omega⟩
  ·refine⟨by simp[kW]; omega,fun q hq=> ?_⟩
   rcases List.mem_append.1 hq with k|k
   ·have:=h2 q k; omega
   ·simp only[List.mem_singleton]at k
    subst k
    have:=(ok x (by simp)).h
    dsimp only
    omega
 intro q hq
 have:=this q hq
 exact⟨by simp only[aZ]; omega,by simp only[aZ]; omega⟩
theorem CB (lay:Int) (L:List Rw) (N:List In) (ok:∀r ∈ L,kT r):(nJ lay L N).s.br.length≤64*N.length:=by
 have:∀ (N:List In) (z:jJ),(∀r ∈ z.ms,r.a.k=1∧kT r)→(N.foldl (jp lay) z).s.br.length≤z.s.br.length+64*N.length:=by
  intro N
  induction N with
  |nil=>intro z _; simp
  |cons k N ih=>
   intro z hz
   have h1:=ih (jp lay z k) (by rw[(ui lay z k).1]; exact hz)
   have h2:=CA (lay:=lay) (k:=k) hz
   rw[List.foldl_cons,List.length_cons]
   omega
 have h:=this N (gU lay L) (FU lay L ok)
 rw[(AJ lay L).t]at h
 simpa[nJ]using h
abbrev SL (R:Env) (d:Bool) (t:Tb) (z:jJ):aj:=[(0,.map 1 false true d 41 (jm t.rows)),(1,.map 4 true true false 16 (ki t.ins)),(2,.var (R.ty 47) [.omap 0,.omap 1]),(3,.var (R.ty 59) [.an,.an,.an,.an,.an,.an,.int .u32 0,.int .u32 0,.int .u32 0]),
 (10,.var (R.ty 61) [.bh 12 z.s.br.length,.bh 13 z.s.bD.length,.bh 14 z.s.be.length,.bh 15 z.s.bI.length,.bh 16 z.s.ids.length,.bh 17 z.s.bR.length,.int .u32 z.s.nH,.int .u32 z.s.fr,.int .u32 z.s.to,.omap 7,.omap 8,.omap 9]),
 (7,.map 1 false true true 41 (jm z.ms)),(8,.map 1 false false true 2 (cW z.pl)),(9,.map 1 false false true 2 (cW z.ks)),
 (12,.arr (R.ty 60) 19 (ko z.s.br)),(13,.arr (R.ty 40) 5 (eY z.s.bD)),(14,.arr (R.ty 12) 2 (e7 z.s.be)),(15,.arr (R.ty 41) 13 (e6 z.s.bI)),(16,.arr (R.ty 6) 1 (aY .u64 z.s.ids)),(17,.arr (R.ty 0) 1 (aY .u32 z.s.bR))]
set_option maxHeartbeats 4000000 in
theorem Nb {R:Env} (h:LR R) (K:ue R) (C:SF R) (gl:List In→List In) (S:xu R gl) (hs:Jr gl) (t:Tb) {n:Nat} (ok:rS t n) (hn:n≤10000) (hx:∀x ∈ t.ins,x.t.I) (lay:Int) (aaV:0≤lay∧lay<8):
  R.Mz true 491 [.loc 2 1 0 0,.int .i64 lay] (gJ R false false t) (.aU [.agg (nJ lay (dA t.rows) (je t.ins)).s.row,.int .i64 0]) (gJ R false false t) 3:=
 h.VZ.Ag 200 3 rfl rfl rfl fun X bb hfit hp hz=>by
  have h1:=ok.rl
  have h2:=ok.il
  have c1:=Ij h.LS K false false t ok (by omega)
  have c2:=Fl h.LU gl S hs false false t ok.nd (by omega)
  obtain⟨L,hL⟩:∃L,dA t.rows=L:=⟨_,rfl⟩
  obtain⟨N,hN⟩:∃N,je t.ins=N:=⟨_,rfl⟩
  have aaW:L.length≤10000:=by rw[←hL,gT]; omega
  have aaX:N.length≤10000:=by rw[←hN,vt]; omega
  have Ws:L.Pairwise (fun a b=>a.h<b.h):=hL ▸ Ct ok.rd
  have Wt:∀r ∈ L,kT r:=fun r hr=>ok.row r (oA.1 (hL ▸ hr))
  have xok:∀x ∈ N,x.t.I:=fun x hx'=>hx x (Cs.1 (hN ▸ hx'))
  rw[hL]at c1 ⊢
  rw[hN]at c2 ⊢
  unfold gJ
  refine sh ?_
  refine cM false [0,1,2] (MT h.LV C false false t) ?_
  repeat (intro _; first|refine eK ?_|refine eP ?_)
  refine sh ?_
  refine cS (fun k1=> ?_) (fun k1=> ?_)
  ·exact absurd k1 (by omega)
  ·refine sh ?_
   refine cS (fun k2=> ?_) (fun k2=> ?_)
   ·exact absurd k2 (by omega)
   ·refine sh ?_
    refine cM false [0,1,2] (c1) ?_
    repeat (intro _; first|refine eK ?_|refine eP ?_)
    refine sh ?_
    refine aq.let [11] rfl hp rfl ?_
    repeat ((intro _u; clear _u); first|refine eZ ?_|refine eZ ?_ (by simp; omega)|refine Ec.drop ?_)
    refine sh ?_
    refine cM false [10,7,8,9] (Is h.LW L lay (by omega) Ws) ?_
    repeat (intro _; first|refine eK ?_|refine eP ?_)
    refine sh ?_
    refine cM false [0,1,2] (c2) ?_
    repeat (intro _; first|refine eK ?_|refine eP ?_)
    refine sh ?_
    refine gZ 200 (fun i:Nat=>i≤N.length) (fun i=>⟨[(1,.int .i64 lay),(4,.loc 3 1 0 0),(6,.loc 10 1 0 0),(33,.aO 16 (ki N)),(34,.int .i64 N.length),(35,.int .i64 i)],SL R false t (nJ lay L (N.take i)),18⟩) (fun i=>N.length - i) (0) ?_ ?_
    ·exact Nat.zero_le _
    ·intro i hi
     dsimp only
     refine sh ?_
     refine cS (fun g1=> ?_) (fun g1=> ?_)
     ·obtain⟨x,hx⟩:∃u_,N[i]? =some u_:=⟨_,List.getElem?_eq_getElem (by first|omega|(simp<;>omega))⟩
      refine sh ?_
      refine ah hx ?_
      have zm:=zu lay (N.take i) (gU lay L)
      refine sh ?_
      refine cM false [10,7,8,9,12,13,14,15,16,17] (Iu h.LX (nJ lay L (N.take i)) x lay (by rw[nJ,zm.1]; exact FU lay L Wt) (xok x (List.mem_of_getElem? hx)) (by have:=CB lay L (N.take i) Wt; rw[List.length_take]at this; omega) (by rw[nJ,zm.2.1]; exact Na lay L Wt (by omega))) ?_
      repeat (intro _; first|refine eK ?_|refine eP ?_)
      rw[←Cz,←aA hx]
      refine sh ?_
      refine r8 (i+1) ?_ ?_
      ·omega
      ·omega
     ·rw[List.take_of_length_le (by omega)]
      refine sh ?_
      exact rM [0,1,2]
end Go.UM
namespace Go.UM
open Go.AM
set_option maxRecDepth 4000
def m19:Ms:=⟨[⟨0,0,0⟩,⟨5,0,0⟩,⟨0,7,0⟩],[(0,0),(0,0),(0,0)],[⟨0,1,2⟩,⟨2,1,0⟩]⟩
def FV:As:=⟨1,m19,⟨0,[]⟩,⟨0,z3,0⟩,⟨0,z3,z3,z3,z3⟩⟩
def f19 (k:Int):Mf:=⟨0,k,0,1,0,0,0,0,0,0,0,0,0,0,0⟩
def CC:In:=⟨1,2,0,0,ED⟩
theorem Nc:pN FV=0:=by kernel_rfl
def AK:List Rw:=[⟨1,f19 1,FV⟩,⟨2,f19 3,pP⟩]
def t19:Tb:=⟨AK,[CC]⟩
theorem SM:jG ⟨[],[]⟩ 1 (f19 1) FV=(⟨[⟨1,f19 1,FV⟩],[]⟩,0):=by unfold jG; rw[Nc]; rfl
theorem SN:jG ⟨[⟨1,f19 1,FV⟩],[]⟩ 2 (f19 3) pP=(⟨AK,[]⟩,0):=by unfold jG; rw[AF]; rfl
theorem SO:zi ⟨AK,[]⟩ CC=(t19,0):=by kernel_rfl
theorem Wu:dA AK=AK:=by
 refine (zn (l:=AK) ?_ (List.Perm.refl _) ?_).symm
 ·simp[AK]
 ·simp[AK,kV]
theorem Wv:je [CC]=[CC]:=by simp[je]
theorem p19:(nJ 0 AK [CC]).s.br.length=2∧(nJ 0 AK [CC]).s.bD.length=1∧((nJ 0 AK [CC]).s.br.map (·.dS))=[-1,-1]:=⟨by kernel_rfl,by kernel_rfl,by kernel_rfl⟩
theorem Iv:rS t19 3∧∀x ∈ t19.ins,x.t.I:=by
 have h1:=xv Fm (hd:=1) (f:=f19 1) (a:=FV) (by simp[FV])
 rw[SM]at h1
 have h2:=xv h1 (hd:=2) (f:=f19 3) (a:=pP) (by simp[pP])
 rw[SN]at h2
 have h3:=Ii h2 (x:=CC)
 rw[SO]at h3
 refine⟨h3,fun x hx=> ?_⟩
 have:x=CC:=by simpa[t19]using hx
 subst this
 exact HR
set_option maxHeartbeats 4000000 in
theorem CD {R:Env} (h:L7 R) (K:ue R) (C:SF R) (gl:List In→List In) (S:xu R gl) (hs:Jr gl):R.Pz true 493 [] (.bool true):=
 h.RP.D9 200 rfl fun X bb hfit hp hz=>by
  have c1:=Fc h.n346 true true ⟨[],[]⟩ 1 (f19 1) FV (by simp[FV]) (by refine⟨?_,?_,?_,?_⟩<;>simp[FV,m19,As.bare,sM]) (by simp)
  have c2:=Fc h.n346 true true ⟨[⟨1,f19 1,FV⟩],[]⟩ 2 (f19 3) pP (by simp[pP]) fbm (by simp)
  have c3:=MN h.L8 true true ⟨AK,[]⟩ CC (fun r hr=>Iv.1.row r hr) (Iv.2 CC (by simp[t19])) (by simp)
  have c4:=Nb h.L9 K C gl S hs t19 Iv.1 (by omega) Iv.2 0 (by omega)
  rw[show t19.rows=AK from rfl,Wu,show t19.ins=[CC]from rfl,Wv]at c4
  obtain⟨q1,q2,q3⟩:=p19
  obtain⟨Z,hZ⟩:∃Z,(nJ 0 AK [CC]).s=Z:=⟨_,rfl⟩
  rw[hZ]at c4 q1 q2 q3
  rw[SM]at c1
  rw[SN]at c2
  rw[SO]at c3
  refine sh ?_
  refine cM false [] (MK h.n345) ?_
  repeat (intro _; first|refine eK ?_|refine eP ?_)
  refine sh ?_
  refine Pe 3 rfl rfl (by omega) ?_
  refine sh ?_
  refine aq.let [3,4,5] rfl hp rfl ?_
  repeat ((intro _u; clear _u); first|refine eZ ?_|refine eZ ?_ (by simp; omega)|refine Ec.drop ?_)
  refine sh ?_
  refine cM false [0,1,2] (c1) ?_
  repeat (intro _; first|refine eK ?_|refine eP ?_)
  refine sh ?_
  refine cM false [0,1,2] (c2) ?_
  repeat (intro _; first|refine eK ?_|refine eP ?_)
  refine sh ?_
  refine aq.pure h.n221.Qy.hb (HY h.n221) rfl ?_
  refine sh ?_
  refine cM false [0,1,2] (c3) ?_
  repeat (intro _; first|refine eK ?_|refine eP ?_)
  refine sh ?_
  refine cM false [0,1,2] (c4) ?_
  repeat (intro _; first|refine eK ?_|refine eP ?_)
  refine sh ?_
  refine aG (by rfl) ?_
  refine sh ?_
  refine aG (by rw[q1]; rfl) ?_
  refine sh ?_
  refine aG (by rw[q2]; rfl) ?_
  obtain⟨a,ha⟩:∃u_,Z.br[0]? =some u_:=⟨_,List.getElem?_eq_getElem (by first|omega|(simp<;>omega))⟩
  refine sh ?_
  refine ah ha ?_
  refine sh ?_
  refine rT ?_
  all_goals repeat' (first|exact True.intro|refine And.intro ?_ ?_|(intro _u; clear _u)|(with_reducible first|exact aw.fg|refine eM ?_ ?_|refine eF ?_ ?_ ?_|refine eN ?_|refine eL ?_ ?_ ?_|refine eA ?_ ?_|refine az.mk ⟨_,hp,rfl⟩ ?_ ?_)|refine az.mk ⟨_,hp,rfl⟩ ?_ ?_)
  all_goals try first|with_reducible rfl|omega|exact .inl (by decide)|(simp; done)|rfl
  have SC:a.dS= -1:=by
   have:=congrArg (fun l=>l[0]?) q3
   simp[ha]at this
   exact this
  simp[SC]
end Go.UM
namespace Go.UM
open Go.AM
set_option maxRecDepth 4000
theorem xB {k a b c r:Int} (h0:aZ .i64 k) (h1:aZ .i64 a) (h2:aZ .i64 b) (h3:aZ .i64 c) (h4:aZ .i64 r):∀y ∈ (ej.ap ⟨k,⟨a,b,c⟩,r⟩),aZ .i64 y:=fun y hy=>by
 simp only[ej.ap,List.cons_append,List.nil_append,List.mem_cons,List.not_mem_nil,or_false]at hy
 rcases hy with rfl|rfl|rfl|rfl|rfl<;>assumption
theorem uj {l:ed} (h0:aZ .i64 l.k) (h1:l.c.I) (h2:l.p.I) (h3:l.u.I) (h4:l.v.I):∀y ∈ l.ap,aZ .i64 y:=fun y hy=>by
 obtain⟨a1,a2,a3⟩:=h1
 obtain⟨b1,b2,b3⟩:=h2
 obtain⟨c1,c2,c3⟩:=h3
 obtain⟨d1,d2,d3⟩:=h4
 simp only[ed.ap,jo,List.flatMap_cons,List.flatMap_nil,List.cons_append,List.nil_append,List.append_nil,List.mem_cons,List.not_mem_nil,or_false]at hy
 rcases hy with rfl|rfl|rfl|rfl|rfl|rfl|rfl|rfl|rfl|rfl|rfl|rfl|rfl<;>assumption
def cz.I (t:cz):Prop:=aZ .i64 t.side∧∀p ∈ t.t,p.I
theorem FW {t:cz} (h:t.I) (hl:t.t.length≤1000):∀y ∈ t.ap,aZ .i64 y:=fun y hy=>by
 simp only[cz.ap,List.cons_append,List.nil_append,List.mem_cons]at hy
 rcases hy with rfl|rfl|hy
 ·exact h.1
 ·simp only[aZ]; omega
 ·obtain⟨p,hp,hy⟩:=List.mem_flatMap.1 hy
  obtain⟨h1,h2,h3⟩:=h.2 p hp
  simp only[List.mem_cons,List.not_mem_nil,or_false]at hy
  rcases hy with rfl|rfl|rfl<;>assumption
structure fP.I (s:fP):Prop where
 t:∀t ∈ s.br,t.Ok
 m:∀m ∈ s.bD,∀x ∈ m.ap,aZ .i64 x
 x:∀t ∈ s.be,t.I
 l:∀t ∈ s.bI,∀x ∈ t.ap,aZ .i64 x
 i:∀x ∈ s.ids,aZ .u64 x
 b:∀x ∈ s.bR,aZ .u32 x
 e:aZ .u32 s.nH∧aZ .u32 s.fr∧aZ .u32 s.to
theorem xC {s:fP} (h:s.I):s.sa.Ok:=by
 have tk:∀ {α:Type} {l:List α} {n:Nat} {x:α},x ∈ l.take n→x ∈ l:=fun h=>List.mem_of_mem_take h
 have hx:∀t ∈ s.sa.be,t.t.length≤260∧t.I:=fun t ht=>by
  obtain⟨u,hu,rfl⟩:=List.mem_map.1 ht
  have hu:=h.x u (tk hu)
  exact⟨by simp[cz.jI]; omega,hu.1,fun p hp=>hu.2 p (tk hp)⟩
 refine⟨?_,?_,⟨?_,fun t ht=> ?_⟩,?_,?_,?_,fun t ht=>h.t t (tk ht),fun t ht=>h.m t (tk ht),fun t ht=> ?_,fun t ht=>h.l t (tk ht),fun t ht=>h.i t (tk ht),fun t ht=>h.b t (tk ht),h.e⟩
 ·simp[fP.sa]; omega
 ·simp[fP.sa]; omega
 ·simp[fP.sa]; omega
 ·have:=(hx t ht).1; omega
 ·simp[fP.sa]; omega
 ·simp[fP.sa]; omega
 ·simp[fP.sa]; omega
 ·have:=hx t ht; exact FW this.2 (by omega)
theorem xD {R:Env} (h:Md R) (K:ue R) (C:SF R) (gl:List In→List In) (S:xu R gl) (hs:Jr gl) (a b:fP) (ha:a.I) (hb:b.I):R.Pz true 497 [.agg a.row,.agg b.row] (.bool true):=
 sO h (CD h.HH K C gl S hs) a b (xC ha) (xC hb)
end Go.UM
namespace Go.UM
open Go.AM
theorem AL {T:TT} {n e:Nat} {k:IntKind} {es:List (List AV)} (hT:T.d e= .int k) (h:∀r ∈ es,wS T (n+1) e r):∃l:List Int,es=aY k l∧∀x ∈ l,aZ k x:=by
 obtain⟨l,rfl,hl⟩:=dI (f:=fun c:Int=>[AV.int k c]) (p:=fun c=>aZ k c) (es:=es) fun r hr=>by
  have h1:=h r hr
  simp only[wS,hT]at h1
  obtain⟨x,rfl,hx⟩:=h1
  exact⟨x,rfl,Jb hx⟩
 exact⟨l,rfl,hl⟩
end Go.UM
