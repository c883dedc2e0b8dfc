/- Of the reckoning machine, and what is proved with it: texts joined by program. -/
import Derived.Test.YtnfgjmbcfcnieaaGreatU2
import Derived.Test.YtnfgjmbcfcnieaaGreatK3
import Derived.Test.YtnfgjmbcfcnieaaGreatU0
set_option linter.all false
namespace Go.UM
open Go.AM
set_option maxRecDepth 4000
def dI(V:List Rw)(lay:Int)(s:cV)(k:In):cV:=
 if bx V k.bc 0<0\/ bx V k.dp 3<0\/(bx V k.cw 2<0/\k.cw≠0)then s else match V[(bx V k.bc 0).toNat]? with
  |some r=>s.add (r.a.m.t.map (gR k.t r.a.m (bx V k.dp 3) (bx V k.cw 2) (bx V k.bc 0) (cX r.f lay)))
  |none=>s
def Cv(lay:Int)(d:Tb):cV:=d.ins.foldl (dI (ci lay d.rows) lay) ((ci lay d.rows).foldl cO cV.nA)
structure Yt(n:Nat)(s:cV):Prop where
 t:s.aS=[]
 m:s.bw.length<=n
 x:s.aW.length<=n
 l:s.bG.length<=n
 i:s.ids.length<=n
 b:s.bL.length<=n
theorem r8:∀(l:List Rw)(s:cV)(n:Nat),Yt n s->Yt (n+l.length) (l.foldl cO s)
 |[],s,n,h=>h
 |r::l,s,n,h=>by
  have:=r8 l (cO s r) (n+1) (by
   obtain⟨h0,h1,h2,h3,h4,h5⟩:=h
   refine⟨h0,?_,?_,?_,?_,?_⟩<;>unfold cO<;>dsimp only<;>repeat' split
   all_goals (try simp only[List.length_append,List.length_singleton]); omega)
  rw[List.foldl_cons,List.length_cons]
  rwa[show n+ (l.length+1)=n+1+l.length by omega]
theorem uH(s:cV)(l:List j8):(s.add l).aS.length=s.aS.length+l.length:=by simp[cV.add]
abbrev MV(R:Env)(d:Tb)(s:cV):ah:=[(0,.var (R.ty 56) [.aD 40 (gT d.rows),.aD 16 (cN d.ins)]),(1,.var (R.ty 59) [.ai,.ai,.ai,.ai,.ai,.ai,.int .u32 0,.int .u32 0,.int .u32 0]),
 (2,.var (R.ty 59) [.aV 3 s.aS.length,.aV 4 s.bw.length,.aV 5 s.aW.length,.aV 6 s.bG.length,.aV 7 s.ids.length,.aV 8 s.bL.length,.int .u32 s.nz,.int .u32 s.fr,.int .u32 s.to]),
 (3,.arr (R.ty 60) 19 (oH s.aS)),(4,.arr (R.ty 40) 5 (gP s.bw)),(5,.arr (R.ty 12) 2 (gn s.aW)),(6,.arr (R.ty 41) 13 (gQ s.bG)),(7,.arr (R.ty 6) 1 (bp .u64 s.ids)),(8,.arr (R.ty 0) 1 (bp .u32 s.bL))]
theorem DM(V:List Rw):V.filter (kC 0)=V:=List.filter_eq_self.2 fun r _=>by simp[kC]
theorem lG(V:List Rw)(h:Int):(∃(o:Nat)(r:Rw),bx V h 0=o/\V[o]? =some r/\r.h=h)\/ bx V h 0= -1:=by
 unfold bx
 rw[DM]
 rcases gk (dm h) V with⟨i,r,e1,e2,e3,_⟩|⟨e1,_⟩
 ·exact .inl ⟨i,r,e1,e2,by simpa[dm]using e3⟩
 ·exact .inr e1
theorem yq{V:List Rw}(ok:∀r ∈ V,r.a.m.t.length<=64)(lay:Int):∀(N:List In)(s:cV),(N.foldl (dI V lay) s).aS.length<=s.aS.length+64*N.length
 |[],s=>by simp
 |k::N,s=>by
  have h1:=yq ok lay N (dI V lay s k)
  have h2:(dI V lay s k).aS.length<=s.aS.length+64:=by
   unfold dI
   split
   ·omega
   ·split
    ·rename_i r hr
     rw[uH,List.length_map]
     have:=ok r (List.mem_of_getElem? hr)
     omega
    ·omega
  rw[List.foldl_cons,List.length_cons]
  omega
theorem AG{r:Rw}(o:fA r):r.a.m.t.length<=64:=by
 obtain⟨h1,h2,_⟩:=dA o.a
 by_cases k:r.a.k=1
 ·rw[own,if_pos k]at h1
  exact (ul h1).2.1
 ·have e:r.a.m=vn:=by
   have e1:r.a.bare.m=(As.zero r.a.k).m:=by rw[h2]
   have e2:r.a.bare.m=r.a.m:=by unfold As.bare; rw[if_neg k]; repeat' split
                                all_goals rfl
   rw[<-e2,e1]; rfl
  rw[e]; simp[vn]
set_option maxHeartbeats 16000000 in
theorem MW{R:Env}(h:LN R)(d:Tb)(lay:Int)(AD:0<=lay/\lay<8)(hl:d.rows.length<=10000)(hil:d.ins.length<=10000)(ok:∀r ∈ d.rows,fA r)(xi:∀x ∈ d.ins,x.t.I)(io:∀x ∈ d.ins,Co d.rows x)(rd:d.rows.Pairwise fun a b=>a.h≠b.h):
  R.Mc 502 [.loc 0 1 0 0,.int .i64 lay] (iq R d) (.aQ [.agg (Cv lay d).row,.int .i64 0]) (iq R d) 1:=
 h.XJ.aY 200 1 rfl rfl rfl fun X bb hfit hp=>by
  unfold iq
  refine sh ?_
  refine cS (fun k1=> ?_) (fun k1=> ?_)
  ·exact absurd k1 (by omega)
  ·refine sh ?_
   refine cS (fun k2=> ?_) (fun k2=> ?_)
   ·exact absurd k2 (by omega)
   ·refine sh ?_
    refine ae.pure h.LO.XG.hb (MU h.LO d.rows lay (by omega)) rfl ?_
    unfold Cv
    have vl:(ci lay d.rows).length<=10000:=Nat.le_trans (List.length_filter_le _ _) hl
    have vok:∀r ∈ ci lay d.rows,fA r:=fun r hr=>ok r (List.mem_filter.1 hr).1
    obtain⟨V,hV⟩:∃V,ci lay d.rows=V:=⟨_,rfl⟩
    rw[hV]at vl vok ⊢
    refine sh ?_
    refine eH 200 (fun i:Nat=>i<=V.length) (fun i=>⟨[(0,.loc 0 1 0 0),(1,.int .i64 lay),(4,.loc 1 1 0 0),(6,.aD 40 (gT V)),(7,.loc 2 1 0 0),(8,.int .i64 i)],MV R d ((V.take i).foldl cO cV.nA),9⟩) (fun i=>V.length - i) (0) ?_ ?_
    ·exact Nat.zero_le _
    ·intro i hi
     dsimp only
     have B:=r8 (V.take i) cV.nA 0 ⟨rfl,Nat.le_refl _,Nat.le_refl _,Nat.le_refl _,Nat.le_refl _,Nat.le_refl _⟩
     rw[show 0+ (V.take i).length=i by rw[List.length_take]; omega]at B
     refine sh ?_
     refine cS (fun h1=> ?_) (fun h1=> ?_)
     ·obtain⟨r,hr⟩:∃u_,V[i]? =some u_:=⟨_,List.getElem?_eq_getElem (by first|omega|(simp<;>omega))⟩
      refine sh ?_
      refine aa hr ?_
      have e2:(V.take (i+1)).foldl cO cV.nA=cO ((V.take i).foldl cO cV.nA) r:=by rw[ao hr,List.foldl_append]; rfl
      obtain⟨s,hs⟩:∃s,(V.take i).foldl cO cV.nA=s:=⟨_,rfl⟩
      rw[hs]at e2 B ⊢
      obtain⟨b0,b1,b2,b3,b4,b5⟩:=B
      refine sh ?_
      refine ae.pure h.LP.Xy.hb (MO h.LP s.nz r.f.label) rfl ?_
      refine sh ?_
      refine cS (fun a1=> ?_) (fun a1=> ?_)
      all_goals
       refine sh ?_
       refine cS (fun a2=> ?_) (fun a2=> ?_)
      all_goals
       refine sh ?_
       refine aa hr ?_
       refine sh ?_
       refine cS (fun q2=> ?_) (fun q2=> ?_)
       ·have e4:cO s r=⟨s.aS,s.bw,s.aW++ [r.a.x],s.bG,s.ids++ [r.f.id],s.bL++ [r.f.label],AL s.nz r.f.label,max s.fr r.f.first,min s.to r.f.last⟩:=by unfold cO; simp[q2]
        refine sh ?_
        refine aa hr ?_
        rw[e4]at e2
        refine sh ?_
        refine nX (i+1) ?_ ?_ ⟨_,hp,rfl⟩ ?_ ?_
        ·omega
        ·omega
        ·exact fu
        ·all_goals repeat' (first|exact True.intro|refine And.intro ?_ ?_|(intro _u; clear _u)|(with_reducible first|exact eu.fg|refine eM ?_ ?_|refine eF ?_ ?_ ?_|refine eN ?_|refine eL ?_ ?_ ?_|refine eA ?_ ?_|refine jy.mk ⟨_,hp,rfl⟩ ?_ ?_)|refine jy.mk ⟨_,hp,rfl⟩ ?_ ?_)
         all_goals try first|with_reducible rfl|omega|exact .inl (by decide)|(simp; done)|rfl
         all_goals first|(rw[e2]; done)|(rw[e2]; dsimp only; omega)|(rw[e2]; simp[bp,gP,gn,gQ,fk.row,dN.row,eV.row]; done)
       ·refine sh ?_
        refine cS (fun q3=> ?_) (fun q3=> ?_)
        ·have e4:cO s r=⟨s.aS,s.bw++ [r.a.mt],s.aW,s.bG,s.ids++ [r.f.id],s.bL++ [r.f.label],AL s.nz r.f.label,max s.fr r.f.first,min s.to r.f.last⟩:=by unfold cO; simp[q3]
         refine sh ?_
         refine aa hr ?_
         rw[e4]at e2
         refine sh ?_
         refine nX (i+1) ?_ ?_ ⟨_,hp,rfl⟩ ?_ ?_
         ·omega
         ·omega
         ·exact fu
         ·all_goals repeat' (first|exact True.intro|refine And.intro ?_ ?_|(intro _u; clear _u)|(with_reducible first|exact eu.fg|refine eM ?_ ?_|refine eF ?_ ?_ ?_|refine eN ?_|refine eL ?_ ?_ ?_|refine eA ?_ ?_|refine jy.mk ⟨_,hp,rfl⟩ ?_ ?_)|refine jy.mk ⟨_,hp,rfl⟩ ?_ ?_)
          all_goals try first|with_reducible rfl|omega|exact .inl (by decide)|(simp; done)|rfl
          all_goals first|(rw[e2]; done)|(rw[e2]; dsimp only; omega)|(rw[e2]; simp[bp,gP,gn,gQ,fk.row,dN.row,eV.row]; done)
        ·refine sh ?_
         refine cS (fun q4=> ?_) (fun q4=> ?_)
         ·have e4:cO s r=⟨s.aS,s.bw,s.aW,s.bG++ [r.a.li],s.ids++ [r.f.id],s.bL++ [r.f.label],AL s.nz r.f.label,max s.fr r.f.first,min s.to r.f.last⟩:=by unfold cO; simp[q4]
          refine sh ?_
          refine aa hr ?_
          rw[e4]at e2
          refine sh ?_
          refine nX (i+1) ?_ ?_ ⟨_,hp,rfl⟩ ?_ ?_
          ·omega
          ·omega
          ·exact fu
          ·all_goals repeat' (first|exact True.intro|refine And.intro ?_ ?_|(intro _u; clear _u)|(with_reducible first|exact eu.fg|refine eM ?_ ?_|refine eF ?_ ?_ ?_|refine eN ?_|refine eL ?_ ?_ ?_|refine eA ?_ ?_|refine jy.mk ⟨_,hp,rfl⟩ ?_ ?_)|refine jy.mk ⟨_,hp,rfl⟩ ?_ ?_)
           all_goals try first|with_reducible rfl|omega|exact .inl (by decide)|(simp; done)|rfl
           all_goals first|(rw[e2]; done)|(rw[e2]; dsimp only; omega)|(rw[e2]; simp[bp,gP,gn,gQ,fk.row,dN.row,eV.row]; done)
         ·have e4:cO s r=⟨s.aS,s.bw,s.aW,s.bG,s.ids++ [r.f.id],s.bL++ [r.f.label],AL s.nz r.f.label,max s.fr r.f.first,min s.to r.f.last⟩:=by unfold cO; simp[q2,q3,q4]
          rw[e4]at e2
          refine sh ?_
          refine nX (i+1) ?_ ?_ ⟨_,hp,rfl⟩ ?_ ?_
          ·omega
          ·omega
          ·exact fu
          ·all_goals repeat' (first|exact True.intro|refine And.intro ?_ ?_|(intro _u; clear _u)|(with_reducible first|exact eu.fg|refine eM ?_ ?_|refine eF ?_ ?_ ?_|refine eN ?_|refine eL ?_ ?_ ?_|refine eA ?_ ?_|refine jy.mk ⟨_,hp,rfl⟩ ?_ ?_)|refine jy.mk ⟨_,hp,rfl⟩ ?_ ?_)
           all_goals try first|with_reducible rfl|omega|exact .inl (by decide)|(simp; done)|rfl
           all_goals first|(rw[e2]; done)|(rw[e2]; dsimp only; omega)|(rw[e2]; simp[bp,gP,gn,gQ,fk.row,dN.row,eV.row]; done)
     ·rw[List.take_of_length_le (show V.length<=i by omega)]
      have S0:=r8 V cV.nA 0 ⟨rfl,Nat.le_refl _,Nat.le_refl _,Nat.le_refl _,Nat.le_refl _,Nat.le_refl _⟩
      have vr:∀r ∈ V,r ∈ d.rows:=fun r hr=>by rw[<-hV]at hr; exact (List.mem_filter.1 hr).1
      obtain⟨s0,hs0⟩:∃s0,V.foldl cO cV.nA=s0:=⟨_,rfl⟩
      rw[hs0]at S0 ⊢
      refine sh ?_
      refine eH 200 (fun i:Nat=>i<=d.ins.length) (fun i=>⟨[(0,.loc 0 1 0 0),(1,.int .i64 lay),(4,.loc 1 1 0 0),(6,.aD 40 (gT V)),(7,.loc 2 1 0 0),(10,.int .i64 i)],MV R d ((d.ins.take i).foldl (dI V lay) s0),9⟩) (fun i=>d.ins.length - i) (0) ?_ ?_
      ·exact Nat.zero_le _
      ·intro i hi
       dsimp only
       refine sh ?_
       refine cS (fun h1=> ?_) (fun h1=> ?_)
       ·obtain⟨x,hx⟩:∃u_,d.ins[i]? =some u_:=⟨_,List.getElem?_eq_getElem (by first|omega|(simp<;>omega))⟩
        refine sh ?_
        refine aa hx ?_
        have e2:(d.ins.take (i+1)).foldl (dI V lay) s0=dI V lay ((d.ins.take i).foldl (dI V lay) s0) x:=by rw[ao hx,List.foldl_append]; rfl
        have tl:=yq (V:=V) (fun r hr=>AG (vok r hr)) lay (d.ins.take i) s0
        rw[S0.t,List.length_take]at tl
        obtain⟨s,hs⟩:∃s,(d.ins.take i).foldl (dI V lay) s0=s:=⟨_,rfl⟩
        rw[hs]at e2 tl ⊢
        simp only[List.length_nil]at tl
        refine sh ?_
        refine ae.pure h.zR.LM.hb (uG h.zR V x.bc 0 (by omega)) rfl ?_
        refine sh ?_
        refine ae.pure h.zR.LM.hb (uG h.zR V x.dp 3 (by omega)) rfl ?_
        refine sh ?_
        refine ae.pure h.zR.LM.hb (uG h.zR V x.cw 2 (by omega)) rfl ?_
        have eI:dI V lay s x=dI V lay s x:=rfl
        conv at eI=>rhs; unfold dI
        obtain⟨Mt,hMt⟩:∃Mt,bx V x.dp 3=Mt:=⟨_,rfl⟩
        obtain⟨Tx,hTx⟩:∃Tx,bx V x.cw 2=Tx:=⟨_,rfl⟩
        rw[hMt,hTx]at eI ⊢
        rcases lG V x.bc with⟨o,r,q1,hr,q3⟩|q1
        ·rw[q1]at eI ⊢
         have hol:=(List.getElem?_eq_some_iff.1 hr).1
         obtain⟨a,i1,i2⟩:∃a,be d.rows x.bc=some a/\a.f.kind=1:=let ⟨a,_,p1,p2,_⟩:=io x (List.mem_of_getElem? hx); ⟨a,p1,p2⟩
         have ra:r=a:=by
          have:=dV rd (vr r (List.mem_of_getElem? hr))
          rw[q3,i1]at this
          exact (Option.some.inj this).symm
         have rk:=vok r (List.mem_of_getElem? hr)
         have rk1:r.a.k=1:=rk.k.symm.trans (by rw[ra]; exact i2)
         have rm:=iD (by have:=(dA rk.a).1; rw[own,if_pos rk1]at this; exact this)
         have yx:∀v ∈ r.a.m.v,v.I:=fun v hv=>by
          have:=rm.pv v hv
          exact⟨by simp only[aR]; omega,by simp only[aR]; omega,by simp only[aR]; omega⟩
         rw[Int.toNat_natCast,hr]at eI
         dsimp only at eI
         refine sh ?_
         refine ay (by simp) ?_
         refine sh ?_
         refine cS (fun j1=> ?_) (fun j1=> ?_)
         ·rw[if_pos (by omega)]at eI
          refine sh ?_
          refine nX (i+1) ?_ ?_ ⟨_,hp,rfl⟩ ?_ ?_
          ·omega
          ·omega
          ·exact fu
          ·all_goals repeat' (first|exact True.intro|refine And.intro ?_ ?_|(intro _u; clear _u)|(with_reducible first|exact eu.fg|refine eM ?_ ?_|refine eF ?_ ?_ ?_|refine eN ?_|refine eL ?_ ?_ ?_|refine eA ?_ ?_|refine jy.mk ⟨_,hp,rfl⟩ ?_ ?_)|refine jy.mk ⟨_,hp,rfl⟩ ?_ ?_)
           all_goals try first|with_reducible rfl|omega|exact .inl (by decide)|(simp; done)|rfl
           all_goals (rw[e2,eI]; done)
         ·refine sh ?_
          refine cS (fun j2=> ?_) (fun j2=> ?_)
          ·refine sh ?_
           refine cS (fun j3=> ?_) (fun j3=> ?_)
           ·rw[if_pos (by omega)]at eI
            refine sh ?_
            refine nX (i+1) ?_ ?_ ⟨_,hp,rfl⟩ ?_ ?_
            ·omega
            ·omega
            ·exact fu
            ·all_goals repeat' (first|exact True.intro|refine And.intro ?_ ?_|(intro _u; clear _u)|(with_reducible first|exact eu.fg|refine eM ?_ ?_|refine eF ?_ ?_ ?_|refine eN ?_|refine eL ?_ ?_ ?_|refine eA ?_ ?_|refine jy.mk ⟨_,hp,rfl⟩ ?_ ?_)|refine jy.mk ⟨_,hp,rfl⟩ ?_ ?_)
             all_goals try first|with_reducible rfl|omega|exact .inl (by decide)|(simp; done)|rfl
             all_goals (rw[e2,eI]; done)
           ·rw[if_neg (by omega)]at eI
            refine sh ?_
            refine aa hr ?_
            obtain⟨g,hg⟩:∃g,gR x.t r.a.m Mt Tx (o:Int) (cX r.f lay)=g:=⟨_,rfl⟩
            rw[hg]at eI
            obtain⟨T,hT⟩:∃T,r.a.m.t.map g=T:=⟨_,rfl⟩
            have ZL:T.length=r.a.m.t.length:=by rw[<-hT,List.length_map]
            rw[hT]at eI
            refine sh ?_
            refine aj.inv 200 (fun j:Nat=>j<=r.a.m.t.length) (fun j=>⟨[(0,.loc 0 1 0 0),(1,.int .i64 lay),(4,.loc 1 1 0 0),(6,.aD 40 (gT V)),(7,.loc 2 1 0 0),(10,.int .i64 i),(11,.loc 9 1 0 0),(12,.int .i64 o),(13,.int .i64 Mt),(14,.int .i64 Tx),(15,.loc 10 1 0 0),(16,.int .i64 j)],MV R d (s.add (T.take j))++ [(9,.var (R.ty 44) x.row),(10,.var (R.ty 25) r.a.m.row)],11⟩) (fun j=>r.a.m.t.length - j) (0) ?_ ⟨⟨_,hp,rfl⟩,?_,?_⟩ ?_
            ·exact Nat.zero_le _
            ·exact fu
             all_goals (simp[cV.add]; done)
            ·refine iH ?_ ?_
             all_goals (simp[cV.add]; done)
            ·intro j hj
             dsimp only
             refine sh ?_
             refine cS (fun h1=> ?_) (fun h1=> ?_)
             ·obtain⟨c,hc⟩:∃u_,r.a.m.t[j]? =some u_:=⟨_,List.getElem?_eq_getElem (by omega)⟩
              have si:=rm.pt c (List.mem_of_getElem? hc)
              have Yn:=rm.uv
              have CI:=rm.t.2
              have hlen:(s.add (T.take j)).aS.length<=1000064:=by rw[uH,List.length_take]; omega
              refine sh ?_
              refine aa hr ?_
              refine sh ?_
              refine ae.pure h.vi.LI.hb (uC h.vi r.f lay) rfl ?_
              refine sh ?_
              refine aj.one 200 ?_
              refine sh ?_
              refine af (by rfl) ?_
              refine sh ?_
              refine aa hc ?_
              obtain⟨va,oL⟩:∃u_,r.a.m.v[c.a.toNat]? =some u_:=⟨_,List.getElem?_eq_getElem (by omega)⟩
              obtain⟨ua,DI⟩:∃u_,r.a.m.uv[c.a.toNat]? =some u_:=⟨_,List.getElem?_eq_getElem (by omega)⟩
              refine sh ?_
              refine aa oL ?_
              refine sh ?_
              refine ae.pure h.n242.vh.hb (fj h.n242 (xi x (List.mem_of_getElem? hx)) (yx va (List.mem_of_getElem? oL))) rfl ?_
              refine sh ?_
              refine aa DI ?_
              refine sh ?_
              refine aj.one 200 ?_
              refine sh ?_
              refine af (by rfl) ?_
              refine sh ?_
              refine aa hc ?_
              obtain⟨vb,yo⟩:∃u_,r.a.m.v[c.b.toNat]? =some u_:=⟨_,List.getElem?_eq_getElem (by omega)⟩
              obtain⟨ub,DJ⟩:∃u_,r.a.m.uv[c.b.toNat]? =some u_:=⟨_,List.getElem?_eq_getElem (by omega)⟩
              refine sh ?_
              refine aa yo ?_
              refine sh ?_
              refine ae.pure h.n242.vh.hb (fj h.n242 (xi x (List.mem_of_getElem? hx)) (yx vb (List.mem_of_getElem? yo))) rfl ?_
              refine sh ?_
              refine aa DJ ?_
              refine sh ?_
              refine aj.one 200 ?_
              refine sh ?_
              refine af (by rfl) ?_
              refine sh ?_
              refine aa hc ?_
              obtain⟨vc,yp⟩:∃u_,r.a.m.v[c.c.toNat]? =some u_:=⟨_,List.getElem?_eq_getElem (by omega)⟩
              obtain⟨uc,DK⟩:∃u_,r.a.m.uv[c.c.toNat]? =some u_:=⟨_,List.getElem?_eq_getElem (by omega)⟩
              refine sh ?_
              refine aa yp ?_
              refine sh ?_
              refine ae.pure h.n242.vh.hb (fj h.n242 (xi x (List.mem_of_getElem? hx)) (yx vc (List.mem_of_getElem? yp))) rfl ?_
              refine sh ?_
              refine aa DK ?_
              refine sh ?_
              refine aj.one 200 ?_
              refine sh ?_
              refine ay (by rfl) ?_
              have e3:(gR x.t r.a.m Mt Tx (o:Int) (cX r.f lay) c)=⟨(bK x.t va).1,(bK x.t vb).1,(bK x.t vc).1,ua.1,ua.2,ub.1,ub.2,uc.1,uc.2,Mt,Tx,o,cX r.f lay⟩:=by
               simp only[gR,du oL,du yo,du yp,da DI,da DJ,da DK]
              rw[hg]at e3
              have Gk:T[j]? =some (g c):=by rw[<-hT,List.getElem?_map,hc]; rfl
              have e5:(s.add (T.take (j+1))).aS=(s.add (T.take j)).aS++ [g c]:=by rw[ao Gk]; simp[cV.add]
              refine sh ?_
              refine nX (j+1) ?_ ?_ ⟨_,hp,rfl⟩ ?_ ?_
              ·omega
              ·omega
              ·exact fu
              ·refine iH ?_ ?_
               all_goals first|(rw[e5]; simp; done)|(rw[e5]; simp[oH,e3,j8.row]; done)
             ·rw[List.take_of_length_le (by omega)]
              refine sh ?_
              refine nX (i+1) ?_ ?_ ⟨_,hp,rfl⟩ ?_ ?_
              ·omega
              ·omega
              ·exact fu
              ·all_goals repeat' (first|exact True.intro|refine And.intro ?_ ?_|(intro _u; clear _u)|(with_reducible first|exact eu.fg|refine eM ?_ ?_|refine eF ?_ ?_ ?_|refine eN ?_|refine eL ?_ ?_ ?_|refine eA ?_ ?_|refine jy.mk ⟨_,hp,rfl⟩ ?_ ?_)|refine jy.mk ⟨_,hp,rfl⟩ ?_ ?_)
               all_goals try first|with_reducible rfl|omega|exact .inl (by decide)|(simp; done)|rfl
               all_goals (rw[e2,eI]; done)
          ·rw[if_neg (by omega)]at eI
           refine sh ?_
           refine aa hr ?_
           obtain⟨g,hg⟩:∃g,gR x.t r.a.m Mt Tx (o:Int) (cX r.f lay)=g:=⟨_,rfl⟩
           rw[hg]at eI
           obtain⟨T,hT⟩:∃T,r.a.m.t.map g=T:=⟨_,rfl⟩
           have ZL:T.length=r.a.m.t.length:=by rw[<-hT,List.length_map]
           rw[hT]at eI
           refine sh ?_
           refine aj.inv 200 (fun j:Nat=>j<=r.a.m.t.length) (fun j=>⟨[(0,.loc 0 1 0 0),(1,.int .i64 lay),(4,.loc 1 1 0 0),(6,.aD 40 (gT V)),(7,.loc 2 1 0 0),(10,.int .i64 i),(11,.loc 9 1 0 0),(12,.int .i64 o),(13,.int .i64 Mt),(14,.int .i64 Tx),(15,.loc 10 1 0 0),(16,.int .i64 j)],MV R d (s.add (T.take j))++ [(9,.var (R.ty 44) x.row),(10,.var (R.ty 25) r.a.m.row)],11⟩) (fun j=>r.a.m.t.length - j) (0) ?_ ⟨⟨_,hp,rfl⟩,?_,?_⟩ ?_
           ·exact Nat.zero_le _
           ·exact fu
            all_goals (simp[cV.add]; done)
           ·refine iH ?_ ?_
            all_goals (simp[cV.add]; done)
           ·intro j hj
            dsimp only
            refine sh ?_
            refine cS (fun h1=> ?_) (fun h1=> ?_)
            ·obtain⟨c,hc⟩:∃u_,r.a.m.t[j]? =some u_:=⟨_,List.getElem?_eq_getElem (by omega)⟩
             have si:=rm.pt c (List.mem_of_getElem? hc)
             have Yn:=rm.uv
             have CI:=rm.t.2
             have hlen:(s.add (T.take j)).aS.length<=1000064:=by rw[uH,List.length_take]; omega
             refine sh ?_
             refine aa hr ?_
             refine sh ?_
             refine ae.pure h.vi.LI.hb (uC h.vi r.f lay) rfl ?_
             refine sh ?_
             refine aj.one 200 ?_
             refine sh ?_
             refine af (by rfl) ?_
             refine sh ?_
             refine aa hc ?_
             obtain⟨va,oL⟩:∃u_,r.a.m.v[c.a.toNat]? =some u_:=⟨_,List.getElem?_eq_getElem (by omega)⟩
             obtain⟨ua,DI⟩:∃u_,r.a.m.uv[c.a.toNat]? =some u_:=⟨_,List.getElem?_eq_getElem (by omega)⟩
             refine sh ?_
             refine aa oL ?_
             refine sh ?_
             refine ae.pure h.n242.vh.hb (fj h.n242 (xi x (List.mem_of_getElem? hx)) (yx va (List.mem_of_getElem? oL))) rfl ?_
             refine sh ?_
             refine aa DI ?_
             refine sh ?_
             refine aj.one 200 ?_
             refine sh ?_
             refine af (by rfl) ?_
             refine sh ?_
             refine aa hc ?_
             obtain⟨vb,yo⟩:∃u_,r.a.m.v[c.b.toNat]? =some u_:=⟨_,List.getElem?_eq_getElem (by omega)⟩
             obtain⟨ub,DJ⟩:∃u_,r.a.m.uv[c.b.toNat]? =some u_:=⟨_,List.getElem?_eq_getElem (by omega)⟩
             refine sh ?_
             refine aa yo ?_
             refine sh ?_
             refine ae.pure h.n242.vh.hb (fj h.n242 (xi x (List.mem_of_getElem? hx)) (yx vb (List.mem_of_getElem? yo))) rfl ?_
             refine sh ?_
             refine aa DJ ?_
             refine sh ?_
             refine aj.one 200 ?_
             refine sh ?_
             refine af (by rfl) ?_
             refine sh ?_
             refine aa hc ?_
             obtain⟨vc,yp⟩:∃u_,r.a.m.v[c.c.toNat]? =some u_:=⟨_,List.getElem?_eq_getElem (by omega)⟩
             obtain⟨uc,DK⟩:∃u_,r.a.m.uv[c.c.toNat]? =some u_:=⟨_,List.getElem?_eq_getElem (by omega)⟩
             refine sh ?_
             refine aa yp ?_
             refine sh ?_
             refine ae.pure h.n242.vh.hb (fj h.n242 (xi x (List.mem_of_getElem? hx)) (yx vc (List.mem_of_getElem? yp))) rfl ?_
             refine sh ?_
             refine aa DK ?_
             refine sh ?_
             refine aj.one 200 ?_
             refine sh ?_
             refine ay (by rfl) ?_
             have e3:(gR x.t r.a.m Mt Tx (o:Int) (cX r.f lay) c)=⟨(bK x.t va).1,(bK x.t vb).1,(bK x.t vc).1,ua.1,ua.2,ub.1,ub.2,uc.1,uc.2,Mt,Tx,o,cX r.f lay⟩:=by
              simp only[gR,du oL,du yo,du yp,da DI,da DJ,da DK]
             rw[hg]at e3
             have Gk:T[j]? =some (g c):=by rw[<-hT,List.getElem?_map,hc]; rfl
             have e5:(s.add (T.take (j+1))).aS=(s.add (T.take j)).aS++ [g c]:=by rw[ao Gk]; simp[cV.add]
             refine sh ?_
             refine nX (j+1) ?_ ?_ ⟨_,hp,rfl⟩ ?_ ?_
             ·omega
             ·omega
             ·exact fu
             ·refine iH ?_ ?_
              all_goals first|(rw[e5]; simp; done)|(rw[e5]; simp[oH,e3,j8.row]; done)
            ·rw[List.take_of_length_le (by omega)]
             refine sh ?_
             refine nX (i+1) ?_ ?_ ⟨_,hp,rfl⟩ ?_ ?_
             ·omega
             ·omega
             ·exact fu
             ·all_goals repeat' (first|exact True.intro|refine And.intro ?_ ?_|(intro _u; clear _u)|(with_reducible first|exact eu.fg|refine eM ?_ ?_|refine eF ?_ ?_ ?_|refine eN ?_|refine eL ?_ ?_ ?_|refine eA ?_ ?_|refine jy.mk ⟨_,hp,rfl⟩ ?_ ?_)|refine jy.mk ⟨_,hp,rfl⟩ ?_ ?_)
              all_goals try first|with_reducible rfl|omega|exact .inl (by decide)|(simp; done)|rfl
              all_goals (rw[e2,eI]; done)
        ·rw[q1]at eI ⊢
         rw[if_pos (.inl (by omega))]at eI
         refine sh ?_
         refine af (by rfl) ?_
         refine sh ?_
         refine nX (i+1) ?_ ?_ ⟨_,hp,rfl⟩ ?_ ?_
         ·omega
         ·omega
         ·exact fu
         ·all_goals repeat' (first|exact True.intro|refine And.intro ?_ ?_|(intro _u; clear _u)|(with_reducible first|exact eu.fg|refine eM ?_ ?_|refine eF ?_ ?_ ?_|refine eN ?_|refine eL ?_ ?_ ?_|refine eA ?_ ?_|refine jy.mk ⟨_,hp,rfl⟩ ?_ ?_)|refine jy.mk ⟨_,hp,rfl⟩ ?_ ?_)
          all_goals try first|with_reducible rfl|omega|exact .inl (by decide)|(simp; done)|rfl
          all_goals (rw[e2,eI]; done)
       ·rw[List.take_of_length_le (by omega)]
        refine sh ?_
        exact rM [0]
end Go.UM
namespace Go.UM
open Go.AM
set_option maxRecDepth 4000
theorem AH{α:Type}{p:α->Bool}{l m:List α}(h:0<=pO p l):pO p (l++m)=pO p l:=by
 unfold pO at h ⊢
 rw[List.findIdx?_append]
 cases e:l.findIdx? p with
 |some i=>rfl
 |none=>rw[e]at h; simp at h
theorem re{α:Type}{p:α->Bool}{l:List α}{x:α}(h:∀y ∈ l,p y=false)(hx:p x=true):pO p (l++ [x])=l.length:=by
 unfold pO
 rw[List.findIdx?_append,List.findIdx?_eq_none_iff.2 h]
 simp[List.findIdx?_cons,hx]
theorem Sh{α:Type}{p:α->Bool}{l:List α}{x:α}(hm:x ∈ l)(hx:p x=true):0<=pO p l:=by
 rcases gk p l with⟨i,r,e1,_⟩|⟨_,e2⟩
 ·omega
 ·rw[List.find?_eq_none]at e2
  exact absurd hx (by simpa using e2 x hm)
theorem kT{V:List Rw}{r:Rw}(hr:r ∈ V){k:Int}(hk:kC k r=true):0<=bx V r.h k:=Sh (List.mem_filter.2 ⟨hr,hk⟩) (by simp[dm])
theorem iF{V:List Rw}{h:Int}(hn:∀r ∈ V,r.h≠h)(k:Int):bx V h k= -1:=pR fun y hy=>by
 simpa[dm]using hn y (List.mem_filter.1 hy).1
theorem uI{V W:List Rw}{h k:Int}(e:0<=bx V h k):bx (V++W) h k=bx V h k:=by
 unfold bx at e ⊢
 rw[List.filter_append]
 exact AH e
def kk(r:Rw):Bool:=r.a.k==3||r.a.k==2
theorem AI(l:List (Int × Int))(q:Int × Int)(h:Int):eT (l++ [q]) h=(eT l h).or (if q.1=h then some q.2 else none):=by
 unfold eT
 rw[List.find?_append]
 cases List.find? (fun q=>q.1==h) l with
 |some x=>rfl
 |none=>
  by_cases e:q.1=h
  ·simp[List.find?_cons,e]
  ·have:(q.1==h)=false:=by simpa using e
   simp[List.find?_cons,this,e]
structure AJ(V:List Rw)(z:jF):Prop where
 s:z.s=V.foldl cO cV.nA
 ms:z.ms=V.filter fun r=>r.a.k==1
 li:z.s.ids.length=V.length
 lm:z.s.bw.length=(V.filter (kC 3)).length
 lx:z.s.aW.length=(V.filter (kC 2)).length
 pl:∀h,eT z.pl h=if 0<=bx V h 0 then some (bx V h 0)else none
 ks:∀h,eT z.ks h=(V.find? fun r=>kk r&&dm h r).map fun r=>bx V h r.a.k
theorem F5{V:List Rw}{z:jF}{lay:Int}{x:Rw}(h:AJ V z)(hb:cX x.f lay≠0):AJ (V++ [x]) (qu lay z x):=by
 obtain⟨h1,h2,h3,h4,h5,h6,h7⟩:=h
 unfold qu
 rw[if_neg hb]
 refine⟨?_,?_,?_,?_,?_,fun k=> ?_,fun k=> ?_⟩
 ·simp[h1]
 ·dsimp only
  rw[List.filter_append,h2]
  by_cases k:x.a.k=1<;>simp[k]
 ·simp[cO,h3]
 ·show (cO z.s x).bw.length=_
  unfold cO
  dsimp only
  rw[List.filter_append,List.length_append]
  by_cases k:x.a.k=3
  ·simp[k,h4,kC]
  ·have:kC 3 x=false:=by simp[kC,k]
   simp[k,h4,this]
 ·show (cO z.s x).aW.length=_
  unfold cO
  dsimp only
  rw[List.filter_append,List.length_append]
  by_cases k:x.a.k=2
  ·simp[k,h5,kC]
  ·have:kC 2 x=false:=by simp[kC,k]
   simp[k,h5,this]
 ·dsimp only
  rw[AI,h6]
  by_cases e:0<=bx V k 0
  ·rw[if_pos e,uI e,if_pos e]; rfl
  ·rw[if_neg e]
   have hn:∀r ∈ V,dm k r=false:=fun r hr=>by
    cases q:dm k r with
    |false=>rfl
    |true=>
     have q:r.h=k:=by simpa[dm]using q
     exact absurd (q ▸ kT hr (k:=0) (by simp[kC])) e
   by_cases ex:x.h=k
   ·have e2:bx (V++ [x]) k 0=V.length:=by
     unfold bx
     rw[DM]
     exact re hn (by simp[dm,ex])
    rw[if_pos ex,e2,if_pos (by omega),h3]; rfl
   ·have e2:bx (V++ [x]) k 0= -1:=iF (fun r hr=>by
     rcases List.mem_append.1 hr with q|q
     ·simpa[dm]using hn r q
     ·simp only[List.mem_singleton]at q
      subst q
      exact ex) 0
    rw[if_neg ex,e2,if_neg (by omega)]; rfl
 ·dsimp only
  rw[List.find?_append]
  have old:∀r,V.find? (fun r=>kk r&&dm k r)=some r->bx (V++ [x]) k r.a.k=bx V k r.a.k:=fun r hr=>by
   have hm:=List.mem_of_find?_eq_some hr
   have hp:=List.find?_some hr
   simp only[Bool.and_eq_true]at hp
   have hh:r.h=k:=by simpa[dm]using hp.2
   exact uI (hh ▸ kT hm (by simp[kC]))
  by_cases hkx:kk x=true
  ·have ZM:x.a.k=3\/ x.a.k=2:=by simpa[kk]using hkx
   have e:(if x.a.k=3 then z.ks++ [(x.h,(z.s.bw.length:Int))]else if x.a.k=2 then z.ks++ [(x.h,(z.s.aW.length:Int))]else z.ks)=z.ks++ [(x.h,((V.filter (kC x.a.k)).length:Int))]:=by
    rcases ZM with q|q
    ·rw[if_pos q,h4,q]
    ·rw[if_neg (by omega),if_pos q,h5,q]
   rw[e,AI,h7]
   cases hf:V.find? (fun r=>kk r&&dm k r)with
   |some r=>simp[old r hf]
   |none=>
    have hn:∀y ∈ V.filter (kC x.a.k),dm k y=false:=fun y hy=>by
     obtain⟨m1,m2⟩:=List.mem_filter.1 hy
     have m3:y.a.k=x.a.k:=by
      have:x.a.k=0\/ y.a.k=x.a.k:=by simpa[kC]using m2
      omega
     have:=List.find?_eq_none.1 hf y m1
     have hk:kk y=true:=by simp only[kk,m3]; exact hkx
     rw[hk]at this
     simpa using this
    by_cases ex:x.h=k
    ·have hx:dm k x=true:=by simp[dm,ex]
     have e2:bx (V++ [x]) k x.a.k=(V.filter (kC x.a.k)).length:=by
      unfold bx
      rw[List.filter_append,show [x].filter (kC x.a.k)=[x] by simp[kC]]
      exact re hn hx
     simp[List.find?_cons,hkx,hx,ex,e2]
    ·have hx:dm k x=false:=by simp[dm,ex]
     simp[List.find?_cons,hkx,hx,ex]
  ·have hkx:kk x=false:=by simpa using hkx
   have ZM:x.a.k≠3/\x.a.k≠2:=by simpa[kk]using hkx
   rw[if_neg ZM.1,if_neg ZM.2,h7]
   cases hf:V.find? (fun r=>kk r&&dm k r)with
   |some r=>simp[old r hf]
   |none=>simp[List.find?_cons,hkx]
theorem DN(lay:Int)(L:List Rw):AJ (ci lay L) (iT lay L):=by
 refine mF (P:=fun l z=>AJ (ci lay l) z) lay ⟨rfl,rfl,rfl,rfl,rfl,fun h=>rfl,fun h=>rfl⟩ (fun l z x h=> ?_) L
 unfold ci at h ⊢
 rw[List.filter_append]
 by_cases hb:cX x.f lay=0
 ·have e:qu lay z x=z:=by unfold qu; rw[if_pos hb]
  have e2:[x].filter (ku lay)=[]:=by simp[ku,hb]
  rw[e,e2,List.append_nil]
  exact h
 ·have e2:[x].filter (ku lay)=[x]:=by simp[ku,hb]
  rw[e2]
  exact F5 h hb
end Go.UM
namespace Go.UM
open Go.AM
set_option maxRecDepth 4000
theorem wW{α:Type}{p:α->Bool}{l:List α}{x:α}(hm:x ∈ l)(hx:p x=true)(hu:∀y ∈ l,p y=true->y=x):l.find? p=some x:=by
 cases h:l.find? p with
 |none=>exact absurd hx (by simpa using List.find?_eq_none.1 h x hm)
 |some y=>rw[hu y (List.mem_of_find?_eq_some h) (List.find?_some h)]
theorem oJ{L:List Rw}(rd:L.Pairwise fun a b=>a.h≠b.h)(lay:Int){h:Int}{r:Rw}(e:be L h=some r):
  (r ∈ ci lay L/\∀y ∈ ci lay L,y.h=h->y=r)\/∀y ∈ ci lay L,y.h≠h:=by
 have un:∀y ∈ L,y.h=h->y=r:=fun y hy k=>by
  have:=dV rd hy
  rw[k,e]at this
  exact (Option.some.inj this).symm
 cases hs:ku lay r with
 |true=>exact .inl ⟨List.mem_filter.2 ⟨(cJ e).1,hs⟩,fun y hy k=>un y (List.mem_filter.1 hy).1 k⟩
 |false=>
  refine .inr fun y hy k=> ?_
  obtain⟨h1,h2⟩:=List.mem_filter.1 hy
  rw[un y h1 k,hs]at h2
  cases h2
theorem DO{V:List Rw}{z:jF}(S:AJ V z){h:Int}{r:Rw}(hr:r ∈ V)(hh:r.h=h)(hu:∀y ∈ V,y.h=h->y=r)(hk:kk r=true):eT z.ks h=some (bx V h r.a.k):=by
 rw[S.ks,wW hr (by simp[hk,dm,hh]) (fun y hy k=>hu y hy (by simp[dm]at k; exact k.2))]; rfl
theorem Jx{V:List Rw}{z:jF}(S:AJ V z){h:Int}(hn:∀y ∈ V,y.h≠h):eT z.ks h=none:=by
 rw[S.ks,List.find?_eq_none.2 fun y hy=>by simp[dm,hn y hy]]; rfl
theorem Yu{L:List Rw}(rd:L.Pairwise fun a b=>a.h≠b.h)(Jt:∀r ∈ L,fA r)(lay:Int){z z':jF}(S:AJ (ci lay L) z)(e1:z'.ms=z.ms)(e2:z'.pl=z.pl)(e3:z'.ks=z.ks){k:In}(io:Co L k):(je lay z' k).s=dI (ci lay L) lay z'.s k:=by
 obtain⟨a,b,ha,ka,hb,kb,hx,_⟩:=io
 have vr:∀r ∈ ci lay L,fA r:=fun r hr=>Jt r (List.mem_filter.1 hr).1
 have a1:a.a.k=1:=(Jt a (cJ ha).1).k.symm.trans ka
 have b3:b.a.k=3:=(Jt b (cJ hb).1).k.symm.trans kb
 have sa:=oJ rd lay ha
 have sb:=oJ rd lay hb
 have sx:k.cw=0\/∃c,c.a.k=2/\c.h=k.cw/\((c ∈ ci lay L/\∀y ∈ ci lay L,y.h=k.cw->y=c)\/∀y ∈ ci lay L,y.h≠k.cw):=hx.imp_right fun⟨c,h1,h2⟩=>
  ⟨c,(Jt c (cJ h1).1).k.symm.trans h2,(cJ h1).2,oJ rd lay h1⟩
 obtain⟨V,hV⟩:∃V,ci lay L=V:=⟨_,rfl⟩
 rw[hV]at S vr sa sb sx ⊢
 unfold dI je uE
 rw[e1,e2,e3]
 rcases sa with⟨am,au⟩|an
 ·have r1:be z.ms k.bc=some a:=by
   rw[S.ms]
   exact wW (List.mem_filter.2 ⟨am,by simp[a1]⟩) (by simp[(cJ ha).2]) (fun y hy q=>au y (List.mem_filter.1 hy).1 (by simpa using q))
  have o1:0<=bx V k.bc 0:=(cJ ha).2 ▸ kT am (by simp[kC])
  have o2:V[(bx V k.bc 0).toNat]? =some a:=by
   rcases lG V k.bc with⟨o,r,q1,q2,q3⟩|q
   ·rw[q1,Int.toNat_natCast,q2,au r (List.mem_of_getElem? q2) q3]
   ·omega
  have o3:(eT z.pl k.bc).getD 0=bx V k.bc 0:=by rw[S.pl,if_pos o1]; rfl
  rw[r1,o2,o3]
  rcases sb with⟨bm,bu⟩|bn
  ·have m1:=DO S bm (cJ hb).2 bu (by simp[kk,b3])
   rw[b3]at m1
   have m2:0<=bx V k.dp 3:=(cJ hb).2 ▸ kT bm (by simp[kC,b3])
   rw[m1]
   by_cases k0:k.cw=0
   ·have t1:bx V k.cw 2= -1:=iF (fun r hr=>by have:=(vr r hr).h; omega) 2
    rw[if_pos k0,if_neg (by omega),t1]; rfl
   ·rw[if_neg k0]
    rcases sx with sx|⟨c,c2,ch,sc⟩
    ·exact absurd sx k0
    ·rcases sc with⟨cm,cu⟩|cn
     ·have t1:=DO S cm ch cu (by simp[kk,c2])
      rw[c2]at t1
      have t2:0<=bx V k.cw 2:=ch ▸ kT cm (by simp[kC,c2])
      rw[t1,if_neg (by omega)]; rfl
     ·rw[Jx S cn,iF cn 2,if_pos (by omega)]
  ·generalize (if k.cw=0 then some (-1:Int)else eT z.ks k.cw)=tx
   rw[Jx S bn,iF bn 3,if_pos (by omega)]
 ·have r1:be z.ms k.bc=none:=by
   rw[S.ms]
   exact AC fun q hq=>an q (List.mem_filter.1 hq).1
  generalize (if k.cw=0 then some (-1:Int)else eT z.ks k.cw)=tx
  rw[r1,iF an 0,if_pos (by omega)]
theorem DP{L:List Rw}(rd:L.Pairwise fun a b=>a.h≠b.h)(Jt:∀r ∈ L,fA r)(lay:Int){z:jF}(S:AJ (ci lay L) z):∀(N:List In)(z':jF),z'.ms=z.ms->z'.pl=z.pl->z'.ks=z.ks->(∀k ∈ N,Co L k)->(N.foldl (je lay) z').s=N.foldl (dI (ci lay L) lay) z'.s
 |[],z',_,_,_,_=>rfl
 |k::N,z',e1,e2,e3,io=>by
  obtain⟨g1,g2,g3⟩:=qw lay z' k
  rw[List.foldl_cons,List.foldl_cons,DP rd Jt lay S N _ (g1.trans e1) (g2.trans e2) (g3.trans e3) (fun k hk=>io k (by simp[hk])),Yu rd Jt lay S e1 e2 e3 (io k (by simp))]
theorem Jy{t:Tb}{n:Nat}(ok:jE t n)(sd:oE t)(lay:Int):(nB lay (bv t.rows) (cQ t.ins)).s=Cv lay (kr t):=by
 have rd:(bv t.rows).Pairwise fun a b=>a.h≠b.h:=(kR ok.rd).imp fun {a b} h=>by omega
 have S:=DN lay (bv t.rows)
 unfold nB Cv kr
 rw[DP rd (fun r hr=>ok.row r (eo.1 hr)) lay S _ _ rfl rfl rfl (fun k hk=>(sd.ok k (im.1 hk)).mono (fun r h=>fX ok.rd h) (fun r h=>fX ok.rd h) (fun r h=>fX ok.rd h)),S.s]
end Go.UM
namespace Go.UM
open Go.AM
set_option maxRecDepth 4000
structure Mf.I(w:Mf):Prop where
 id:aR .u64 w.id
 la:aR .u32 w.label
 fi:aR .u32 w.first
 li:aR .u32 w.last
 ms:∀i,aR .u8 (w.gv i)
structure Ac.I(c:Ac):Prop where
 t:c.i.t.I
 f:c.f.I
def lH(l:List Ac):Tb:=l.foldl (fun t c=>(Cl t c.lB).1) ⟨[],[]⟩
theorem wX(l:List Ac)(c:Ac):lH (l++ [c])=(Cl (lH l) c.lB).1:=by simp[lH]
structure Yv(r:Rw):Prop where
 f:r.f.I
 x:r.a.x.t.length<=260
theorem Jz{t:Tb}{c:Ac}(h:∀r ∈ t.rows,Yv r)(hc:c.f.I):∀r ∈ (Cl t c.lB).1.rows,Yv r:=by
 intro r hr
 unfold Cl at hr
 split at hr
 ·rw[wL]at hr
  dsimp only at hr
  split at hr
  ·rcases List.mem_append.1 hr with q|q
   ·exact h r q
   ·simp only[List.mem_singleton]at q
    subst q
    exact⟨hc,by simp[Ac.lB,As.lB]; omega⟩
  ·exact h r hr
 ·split at hr
  ·unfold fR at hr
   split at hr
   ·exact h r (List.eraseP_sublist.subset hr)
   ·exact h r hr
  ·split at hr
   ·have e:(kp t c.lB.i).1.rows=t.rows:=by
     unfold kp
     repeat' split
     all_goals rfl
    rw[e]at hr
    exact h r hr
   ·unfold mE at hr
    split at hr
    ·exact h r hr
    ·exact h r hr
theorem DQ:∀(l:List Ac),(∀c ∈ l,c.I)->jE (lH l) l.length/\oE (lH l)/\∀r ∈ (lH l).rows,Yv r:=by
 intro l
 have:∀n,∀l:List Ac,l.length=n->(∀c ∈ l,c.I)->jE (lH l) l.length/\oE (lH l)/\∀r ∈ (lH l).rows,Yv r:=by
  intro n
  induction n with
  |zero=>
   intro l hl _
   rw[List.eq_nil_of_length_eq_zero hl]
   exact⟨An,I7,by simp[lH]⟩
  |succ n ih=>
   intro l hl hc
   obtain⟨m,c,rfl⟩:∃m c,l=m++ [c]:=⟨l.dropLast,l.getLast (by intro e; simp[e]at hl),(List.dropLast_concat_getLast _).symm⟩
   obtain⟨h1,h2,h3⟩:=ih m (by simpa using hl) (fun c oi=>hc c (by simp[oi]))
   have cI:=hc c (by simp)
   rw[wX,List.length_append]
   exact⟨IV h1 (Jd c),RZ h2 cI.t,Jz h3 cI.f⟩
 exact this _ l rfl
set_option maxHeartbeats 4000000 in
theorem JA{R:Env}(h:Rh R)(l:List Ac)(hc:∀c ∈ l,c.I):R.Mc 490 [.aD 57 (Cq l)] [] (.aQ [.loc 2 1 0 0,.loc 3 1 0 0]) (eb R false false (lH (l.take 30))++ [(3,.var (R.ty 56) [.aD 40 (gT (bv (lH (l.take 30)).rows)),.aD 16 (cN (cQ (lH (l.take 30)).ins))])]) 4:=
 h.ab'.aY 200 0 rfl rfl rfl fun X bb hfit hp=>by
  refine sh ?_
  refine cM false [] (IH h.n345) ?_
  repeat (intro _; first|refine eK ?_|refine eP ?_)
  refine sh ?_
  refine aj.inv 200 (fun i:Nat=>i<=30/\i<=l.length) (fun i=>⟨[(0,.aD 57 (Cq l)),(4,.loc 2 1 0 0),(5,.loc 3 1 0 0),(6,.int .i64 i)],eb R false false (lH (l.take i))++ [(3,.var (R.ty 56) [.aD 40 (gT (bv (lH (l.take i)).rows)),.aD 16 (cN (cQ (lH (l.take i)).ins))])],4⟩) (fun i=>30 - i) (0) ?_ ⟨⟨_,hp,rfl⟩,?_,?_⟩ ?_
  ·exact⟨Nat.zero_le _,Nat.zero_le _⟩
  ·exact fu
  ·refine iH ?_ ?_
   all_goals first|(show gT (bv [])=[]; simp[bv,gT]; done)|(show cN (cQ [])=[]; simp[cQ,cN]; done)
  ·rintro i ⟨hi,hil⟩
   dsimp only
   obtain⟨ok,sd,xr⟩:=DQ (l.take i) (fun c oi=>hc c (List.mem_of_mem_take oi))
   rw[show (l.take i).length=i by rw[List.length_take]; omega]at ok
   refine sh ?_
   refine cS (fun h1=> ?_) (fun h1=> ?_)
   refine sh ?_
   refine cS (fun h2=> ?_) (fun h2=> ?_)
   ·obtain⟨c,oi⟩:∃u_,l[i]? =some u_:=⟨_,List.getElem?_eq_getElem (by omega)⟩
    have hxc:=(hc c (List.mem_of_getElem? oi)).t
    have okT:=IV ok (c:=c.lB) (Jd c)
    have cT:=Ye h.Rk false false (lH (l.take i)) c.lB ok (by omega) (Jd c) (Yh c) hxc
    have cR:=MH h.Rl (kr (lH (l.take i))) c.lB (fun r hr=>ok.row r (eo.1 hr)) (Yo c) hxc (by have:=ok.rl; simp[kr]; omega) (by have:=ok.il; simp[kr,jd]; omega)
    rw[R5 ok]at cR
    dsimp only[kr]at cR
    rw[<-wX,<-ao oi]at cT cR
    refine sh ?_
    refine aa oi ?_
    refine sh ?_
    refine ae.pure h.LQ.Xt.hb (MB h.LQ c) rfl ?_
    refine sh ?_
    refine cM false [0,1,2] (cT) ?_
    repeat (intro _; first|refine eK ?_|refine eP ?_)
    refine sh ?_
    refine cM false [3] (cR) ?_
    repeat (intro _; first|refine eK ?_|refine eP ?_)
    refine sh ?_
    refine lO (i+1) ?_ ?_
    ·exact⟨by omega,by omega⟩
    ·omega
   ·have e:i=30:=by omega
    subst e
    refine sh ?_
    exact rM [0,1,2,3]
   ·rw[show l.take i=l.take 30 by rw[List.take_of_length_le (by omega),List.take_of_length_le (by omega)]]
    refine sh ?_
    exact rM [0,1,2,3]
end Go.UM
namespace Go.UM
open Go.AM
set_option maxRecDepth 4000
structure F6(s:cV):Prop where
 m:∀m ∈ s.bw,∀x ∈ m.ap,aR .i64 x
 x:∀t ∈ s.aW,t.t.length<=256/\∀x ∈ t.ap,aR .i64 x
 l:∀t ∈ s.bG,∀x ∈ t.ap,aR .i64 x
 i:∀x ∈ s.ids,aR .u64 x
 b:∀x ∈ s.bL,aR .u32 x
 e:aR .u32 s.nz/\aR .u32 s.fr/\aR .u32 s.to
theorem MX{r:Rw}(o:fA r)(k:r.a.k=3):∀x ∈ r.a.mt.ap,aR .i64 x:=by
 have h:=(dA o.a).1
 rw[own,if_neg (by omega),if_neg (by omega),if_pos k]at h
 have:=uh h
 exact Jv (k:=r.a.mt.k) (a:=r.a.mt.c.a) (b:=r.a.mt.c.b) (c:=r.a.mt.c.c) (r:=r.a.mt.r) (by simp only[aR]; omega) (by simp only[aR]; omega) (by simp only[aR]; omega) (by simp only[aR]; omega) (by simp only[aR]; omega)
theorem MY{r:Rw}(o:fA r)(k:r.a.k=4):∀x ∈ r.a.li.ap,aR .i64 x:=by
 have h:=(dA o.a).1
 rw[own,if_neg (by omega),if_neg (by omega),if_neg (by omega),if_pos k]at h
 obtain⟨h0,h1,h2,h3,h4⟩:=ug h
 exact F4 (by simp only[aR]; omega) ⟨by simp only[aR]; omega,by simp only[aR]; omega,by simp only[aR]; omega⟩ ⟨by simp only[aR]; omega,by simp only[aR]; omega,by simp only[aR]; omega⟩
  ⟨by simp only[aR]; omega,by simp only[aR]; omega,by simp only[aR]; omega⟩ ⟨by simp only[aR]; omega,by simp only[aR]; omega,by simp only[aR]; omega⟩
theorem MZ{r:Rw}(o:fA r)(k:r.a.k=2):r.a.x.t.length<=256/\∀x ∈ r.a.x.ap,aR .i64 x:=by
 have h:=(dA o.a).1
 rw[own,if_neg (by omega),if_pos k]at h
 have hl:=II h
 obtain⟨s,_,g⟩:=rY h
 refine⟨hl,Jw ⟨?_,fun p hp=> ?_⟩ (by omega)⟩
 ·have:=mT s
  simp only[aR]; omega
 ·have:=(T3.fN p).1 (List.all_eq_true.1 g p hp)
  exact⟨by simp only[aR]; omega,by simp only[aR]; omega,by simp only[aR]; omega⟩
theorem Si{s:cV}{r:Rw}(h:F6 s)(o:fA r)(f:r.f.I):F6 (cO s r):=by
 obtain⟨h1,h2,h3,h4,h5,h6,h7,h8⟩:=h
 have app:∀{α:Type}{P:α->Prop}{l:List α}{y:α},(∀x ∈ l,P x)->P y->∀x ∈ l++ [y],P x:=fun hl hy x hx=>by
  rcases List.mem_append.1 hx with q|q
  ·exact hl x q
  ·simp only[List.mem_singleton]at q
   subst q; exact hy
 unfold cO
 refine⟨?_,?_,?_,app h4 f.id,app h5 f.la,Jj _ _,?_,?_⟩
 ·dsimp only
  split
  ·exact app h1 (MX o (by assumption))
  ·exact h1
 ·dsimp only
  split
  ·exact app (P:=fun t:dN=>t.t.length<=256/\∀x ∈ t.ap,aR .i64 x) h2 (MZ o (by assumption))
  ·exact h2
 ·dsimp only
  split
  ·exact app h3 (MY o (by assumption))
  ·exact h3
 ·have:=f.fi
  simp only[aR]at this h7 ⊢
  omega
 ·have:=f.li
  simp only[aR]at this h8 ⊢
  omega
theorem JB:∀(V:List Rw)(s:cV),F6 s->(∀r ∈ V,fA r/\r.f.I)->F6 (V.foldl cO s)
 |[],s,h,_=>h
 |r::V,s,h,o=>JB V _ (Si h (o r (by simp)).1 (o r (by simp)).2) fun q hq=>o q (by simp[hq])
theorem Yw:F6 cV.nA:=⟨by simp[cV.nA],by simp[cV.nA],by simp[cV.nA],by simp[cV.nA],by simp[cV.nA],⟨by decide,by decide⟩,⟨by decide,by decide⟩,⟨by decide,by decide⟩⟩
structure Yx(p:T3):Prop where
 a: -65536<=p.a/\p.a<=65536
 b: -65536<=p.b/\p.b<=65536
 c: -65536<=p.c/\p.c<=65536
theorem uJ(a:Af)(p:T3):Yx (bK a p).1:=by
 have hz:Yx z3:=⟨by decide,by decide,by decide⟩
 unfold bK
 split
 ·exact hz
 ·unfold nW
  split
  ·exact hz
  ·rename_i hn
   simp only[Fi,Bool.or_eq_true,decide_eq_true_eq,not_or]at hn
   simp only[LZ]
   exact⟨by dsimp only; omega,by dsimp only; omega,by dsimp only; omega⟩
structure F7(nm nx ni:Nat)(t:j8):Prop where
 p:Yx t.p
 q:Yx t.q
 r:Yx t.r
 u:(0<=t.ua/\t.ua<=65535/\0<=t.ub/\t.ub<=65535)/\(0<=t.va/\t.va<=65535/\0<=t.vb/\t.vb<=65535)/\(0<=t.wa/\t.wa<=65535/\0<=t.wb/\t.wb<=65535)
 dp:0<=t.dp/\t.dp<nm
 cw: -1<=t.cw/\t.cw<nx
 obj:0<=t.obj/\t.obj<ni
 gv:t.gv≠0/\aR .u8 t.gv
theorem Cw{α:Type}(p:α->Bool)(l:List α): -1<=pO p l/\pO p l<l.length:=by
 rcases gk p l with⟨i,r,e1,e2,_⟩|⟨e1,_⟩
 ·have:=(List.getElem?_eq_some_iff.1 e2).1
  omega
 ·omega
theorem Yy{x:Af}{m:Ms}(rm:m.ZG){dp cw obj gv:Int}{nm nx ni:Nat}(h1:0<=dp/\dp<nm)(h2: -1<=cw/\cw<nx)(h3:0<=obj/\obj<ni)(h4:gv≠0/\aR .u8 gv){c:T3}(hc:c ∈ m.t):F7 nm nx ni (gR x m dp cw obj gv c):=by
 have si:=rm.pt c hc
 have Yn:=rm.uv
 have u:∀i:Int,0<=i->i<m.v.length->0<=(Gj m.uv i).1/\(Gj m.uv i).1<=65535/\0<=(Gj m.uv i).2/\(Gj m.uv i).2<=65535:=fun i i1 i2=>by
  obtain⟨y,hy⟩:∃y,m.uv[i.toNat]? =some y:=⟨_,List.getElem?_eq_getElem (by omega)⟩
  rw[da hy]
  exact rm.pu y (List.mem_of_getElem? hy)
 exact⟨uJ _ _,uJ _ _,uJ _ _,⟨u c.a (by omega) (by omega),u c.b (by omega) (by omega),u c.c (by omega) (by omega)⟩,h1,h2,h3,h4⟩
theorem M4{f:Mf}(h:f.I)(lay:Int):aR .u8 (cX f lay):=by
 unfold cX
 split
 ·exact⟨by decide,by decide⟩
 ·exact h.ms _
theorem M5{V:List Rw}{lay:Int}(vo:∀r ∈ V,fA r/\r.f.I/\cX r.f lay≠0){s:cV}{k:In}(mk:∀r ∈ V,r.h=k.bc->r.a.k=1){nm nx ni:Nat}(em:nm=(V.filter (kC 3)).length)(ex:nx=(V.filter (kC 2)).length)(ei:ni=V.length)(h:∀t ∈ s.aS,F7 nm nx ni t):
  ∀t ∈ (dI V lay s k).aS,F7 nm nx ni t:=by
 unfold dI
 split
 ·exact h
 ·rename_i hn
  split
  ·rename_i r hr
   intro t ht
   rcases List.mem_append.1 ht with q|q
   ·exact h t q
   ·obtain⟨c,hc,rfl⟩:=List.mem_map.1 q
    have hm:=List.mem_of_getElem? hr
    obtain⟨v1,v2,v3⟩:=vo r hm
    have rh:r.h=k.bc:=by
     rcases lG V k.bc with⟨o,r',q1,q2,q3⟩|q1
     ·rw[q1,Int.toNat_natCast,q2]at hr
      rw[<-Option.some.inj hr]; exact q3
     ·omega
    have k1:=mk r hm rh
    have rm:=iD (by have:=(dA v1.a).1; rw[own,if_pos k1]at this; exact this)
    have p3:=Cw (dm k.dp) (V.filter (kC 3))
    have p2:=Cw (dm k.cw) (V.filter (kC 2))
    have p0:=Cw (dm k.bc) (V.filter (kC 0))
    rw[DM]at p0
    have e0:bx V k.bc 0=pO (dm k.bc) V:=by rw[bx,DM]
    have e3:bx V k.dp 3=pO (dm k.dp) (V.filter (kC 3)):=rfl
    have e2:bx V k.cw 2=pO (dm k.cw) (V.filter (kC 2)):=rfl
    exact Yy rm (by omega) (by omega) (by omega) ⟨v3,M4 v2 lay⟩ hc
  ·exact h
theorem DR(V:List Rw)(lay:Int):∀(N:List In)(s:cV),∃T,N.foldl (dI V lay) s=⟨T,s.bw,s.aW,s.bG,s.ids,s.bL,s.nz,s.fr,s.to⟩
 |[],s=>⟨s.aS,rfl⟩
 |k::N,s=>by
  obtain⟨T,hT⟩:=DR V lay N (dI V lay s k)
  refine⟨T,?_⟩
  rw[List.foldl_cons,hT]
  unfold dI
  repeat' split
  all_goals rfl
theorem wY{V:List Rw}{lay:Int}(vo:∀r ∈ V,fA r/\r.f.I/\cX r.f lay≠0){nm nx ni:Nat}(em:nm=(V.filter (kC 3)).length)(ex:nx=(V.filter (kC 2)).length)(ei:ni=V.length):∀(N:List In)(s:cV),(∀k ∈ N,∀r ∈ V,r.h=k.bc->r.a.k=1)->
  (∀t ∈ s.aS,F7 nm nx ni t)->∀t ∈ (N.foldl (dI V lay) s).aS,F7 nm nx ni t
 |[],s,_,h=>h
 |k::N,s,mk,h=>wY vo em ex ei N _ (fun q hq=>mk q (by simp[hq])) (M5 vo (mk k (by simp)) em ex ei h)
structure Sj(n:Nat)(s:cV):Prop where
 o:F6 s
 t:∀t ∈ s.aS,F7 s.bw.length s.aW.length s.ids.length t
 nt:s.aS.length<=64*n
 nm:s.bw.length+s.aW.length+s.bG.length<=s.ids.length
 ni:s.ids.length<=n
 nb:s.bL.length<=n
 w:s.fr<=s.to\/ 0<s.ids.length
theorem Sk{t:Tb}{n:Nat}(ok:jE t n)(sd:oE t)(xr:∀r ∈ t.rows,Yv r)(lay:Int):Sj n (Cv lay (kr t)):=by
 have S:=DN lay (bv t.rows)
 have vs:∀r ∈ ci lay (bv t.rows),fA r/\r.f.I/\cX r.f lay≠0:=fun r hr=>by
  obtain⟨h1,h2⟩:=List.mem_filter.1 hr
  have h1:=eo.1 h1
  exact⟨ok.row r h1,(xr r h1).f,by simpa[ku]using h2⟩
 have vl:(ci lay (bv t.rows)).length<=n:=Nat.le_trans (List.length_filter_le _ _) (by rw[gO]; exact ok.rl)
 have mk:∀k ∈ cQ t.ins,∀r ∈ ci lay (bv t.rows),r.h=k.bc->r.a.k=1:=fun k hk r hr e=>by
  obtain⟨a,_,i1,i2,_⟩:=sd.ok k (im.1 hk)
  have hm:=eo.1 (List.mem_filter.1 hr).1
  have:=dV ok.rd hm
  rw[e,i1]at this
  have e2:a=r:=Option.some.inj this
  exact (ok.row r hm).k.symm.trans (e2 ▸ i2)
 unfold Cv kr
 dsimp only
 have o0:=JB (ci lay (bv t.rows)) cV.nA Yw fun r hr=>⟨(vs r hr).1,(vs r hr).2.1⟩
 have hm:∀(V:List Rw)(s:cV),s.bw.length+s.aW.length+s.bG.length<=s.ids.length->(V.foldl cO s).bw.length+ (V.foldl cO s).aW.length+ (V.foldl cO s).bG.length<=(V.foldl cO s).ids.length:=by
  intro V
  induction V with
  |nil=>intro s h; exact h
  |cons r V ih=>
   intro s h
   refine ih _ ?_
   unfold cO
   dsimp only
   rw[List.length_append,List.length_singleton]
   repeat' split
   all_goals (try simp only[List.length_append,List.length_singleton])
   all_goals omega
 have hm:=hm (ci lay (bv t.rows)) cV.nA (by simp[cV.nA])
 have hb:=r8 (ci lay (bv t.rows)) cV.nA 0 ⟨rfl,Nat.le_refl _,Nat.le_refl _,Nat.le_refl _,Nat.le_refl _,Nat.le_refl _⟩
 have l1:=S.li
 have l2:=S.lm
 have l3:=S.lx
 rw[S.s]at l1 l2 l3
 have tr:=wY vs l2 l3 l1 (cQ t.ins) ((ci lay (bv t.rows)).foldl cO cV.nA) mk (by rw[hb.t]; simp)
 have tl:=yq (V:=ci lay (bv t.rows)) (fun r hr=>AG (vs r hr).1) lay (cQ t.ins) ((ci lay (bv t.rows)).foldl cO cV.nA)
 rw[hb.t]at tl
 obtain⟨T,hT⟩:=DR (ci lay (bv t.rows)) lay (cQ t.ins) ((ci lay (bv t.rows)).foldl cO cV.nA)
 rw[hT]at tr tl ⊢
 have il:=ok.il
 rw[jd]at tl
 have b5:=hb.b
 have hw:((ci lay (bv t.rows)).foldl cO cV.nA).fr<=((ci lay (bv t.rows)).foldl cO cV.nA).to\/ 0< ((ci lay (bv t.rows)).foldl cO cV.nA).ids.length:=by
  cases hV:ci lay (bv t.rows)with
  |nil=>exact .inl (by decide)
  |cons a V=>
   rw[hV]at l1
   exact .inr (by rw[l1]; simp)
 refine⟨⟨o0.m,o0.x,o0.l,o0.i,o0.b,o0.e⟩,tr,?_,hm,?_,?_,hw⟩
 ·simp only[List.length_nil]at tl
  dsimp only at tl ⊢
  omega
 ·dsimp only; omega
 ·dsimp only; omega
theorem Sj.ok{n:Nat}{s:cV}(h:Sj n s)(hn:n<=30):s.Ok:=by
 obtain⟨o,t,nt,nm,ni,nb,_⟩:=h
 refine⟨by omega,by omega,⟨by omega,fun t ht=>by have:=(o.x t ht).1; omega⟩,by omega,by omega,by omega,fun x hx=> ?_,o.m,fun t ht=>(o.x t ht).2,o.l,o.i,o.b,o.e⟩
 obtain⟨⟨p1,p2,p3⟩,⟨q1,q2,q3⟩,⟨r1,r2,r3⟩,⟨u,v,w⟩,a1,a2,a3,a4⟩:=t x hx
 refine⟨⟨?_,?_,?_⟩,⟨?_,?_,?_⟩,⟨?_,?_,?_⟩,⟨?_,?_⟩,⟨?_,?_⟩,⟨?_,?_⟩,?_,?_,?_,a4.2⟩
 all_goals (simp only[aR]; omega)
end Go.UM
namespace Go.UM
open Go.AM
set_option maxRecDepth 4000
def cV.no:cV:=⟨[],[],[],[],[],[],0,0,0⟩
theorem Yz:cV.no.Ok:=⟨by simp[cV.no],by simp[cV.no],by simp[cV.no],by simp[cV.no],by simp[cV.no],by simp[cV.no],by simp[cV.no],by simp[cV.no],by simp[cV.no],by simp[cV.no],by simp[cV.no],by simp[cV.no],⟨by decide,by decide⟩,⟨by decide,by decide⟩,⟨by decide,by decide⟩⟩
theorem M6{R:Env}(h:BU R)(C:SL R)(t:Tb)(lay:Int)(AD:lay<0\/ 8<=lay):R.Mc 491 [.loc 2 1 0 0,.int .i64 lay] (eb R false false t) (.aQ [.agg cV.no.row,.int .i64 13]) (eb R false false t) 3:=
 h.Lq.aY 200 3 rfl rfl rfl fun X bb hfit hp=>by
  unfold eb
  refine sh ?_
  refine cM false [0,1,2] (Je h.E6 C false false t) ?_
  repeat (intro _; first|refine eK ?_|refine eP ?_)
  refine sh ?_
  refine cS (fun k1=> ?_) (fun k1=> ?_)
  ·refine sh ?_
   exact rM [0,1,2]
  ·refine sh ?_
   refine cS (fun k2=> ?_) (fun k2=> ?_)
   ·refine sh ?_
    exact rM [0,1,2]
   ·exact absurd AD (by omega)
theorem JC{R:Env}(h:H1 R):R.Mc 430 [.loc 0 1 0 0] (yi R) .bM (yi R) 1:=
 h.Qg.aY 60 1 rfl rfl rfl fun X bb hfit hp=>by
  unfold yi
  refine sh ?_
  refine cM false [0] (MI h.ja) ?_
  repeat (intro _; first|refine eK ?_|refine eP ?_)
  refine sh ?_
  exact rM [0]
theorem DT{R:Env}(h:BU R)(lay:Int):R.Mc 491 [.loc 0 1 0 0,.int .i64 lay] (yi R) (.aQ [.agg cV.no.row,.int .i64 1]) (yi R) 1:=
 h.Lq.aY 100 1 rfl rfl rfl fun X bb hfit hp=>by
  unfold yi
  refine sh ?_
  refine cM false [0] (JC h.E6) ?_
  repeat (intro _; first|refine eK ?_|refine eP ?_)
  refine sh ?_
  exact rM [0]
theorem DU{R:Env}(h:BU R)(lay:Int):R.Mc 491 [.bM,.int .i64 lay] [] (.aQ [.agg cV.no.row,.int .i64 1]) [] 0:=
 h.Lq.aY 100 0 rfl rfl rfl fun X bb hfit hp=>by
  refine sh ?_
  refine cM false [] (MK h.E6) ?_
  repeat (intro _; first|refine eK ?_|refine eP ?_)
  refine sh ?_
  exact rM []
theorem JD{R:Env}(h:LN R)(d:Tb)(lay:Int)(AD:lay<0\/ 8<=lay):R.Mc 502 [.loc 0 1 0 0,.int .i64 lay] (iq R d) (.aQ [.agg cV.no.row,.int .i64 13]) (iq R d) 1:=
 h.XJ.aY 100 1 rfl rfl rfl fun X bb hfit hp=>by
  unfold iq
  refine sh ?_
  refine cS (fun k1=> ?_) (fun k1=> ?_)
  ·refine sh ?_
   exact rM [0]
  ·refine sh ?_
   refine cS (fun k2=> ?_) (fun k2=> ?_)
   ·refine sh ?_
    exact rM [0]
   ·exact absurd AD (by omega)
theorem acG{id kind label m0 m1 m2 m3 m4 m5 m6 m7 first last size chunks:Int}(h0:aR .u64 id)(h2:aR .u32 label)(g0:aR .u8 m0)(g1:aR .u8 m1)(g2:aR .u8 m2)(g3:aR .u8 m3)(g4:aR .u8 m4)(g5:aR .u8 m5)(g6:aR .u8 m6)(g7:aR .u8 m7)(h3:aR .u32 first)(h4:aR .u32 last):
  Mf.I ⟨id,kind,label,m0,m1,m2,m3,m4,m5,m6,m7,first,last,size,chunks⟩:=
 ⟨h0,h2,h3,h4,fun i=>by
   match i with
   |0=>exact g0
   |1=>exact g1
   |2=>exact g2
   |3=>exact g3
   |4=>exact g4
   |5=>exact g5
   |6=>exact g6
   |7=>exact g7
   |n+8=>exact (⟨by decide,by decide⟩:aR .u8 0)⟩
set_option maxHeartbeats 4000000 in
theorem JE{R:Env}(h:XO R)(K:wK R)(C:SL R)(gU:List In->List In)(S:Am R gU)(hs:MA gU)(l:List Ac)(hc:∀c ∈ l,c.I)(lay cls:Int):R.Pz true 501 [.aD 57 (Cq l),.int .i64 lay,.int .i64 cls] (.bool true):=
 h.aca.HC 200 rfl fun X bb hfit hp hz=>by
  obtain⟨ok,sd,xr⟩:=DQ (l.take 30) (fun c oi=>hc c (List.mem_of_mem_take oi))
  have hn:(l.take 30).length<=30:=by rw[List.length_take]; omega
  have T:=JA h.Rq l hc
  obtain⟨t,ht⟩:∃t,lH (l.take 30)=t:=⟨_,rfl⟩
  rw[ht]at T ok sd xr
  refine sh ?_
  refine cM false [] (T) ?_
  repeat (intro _; first|refine eK ?_|refine eP ?_)
  by_cases AD:0<=lay/\lay<8
  ·have c1:=Js h.tJ K C gU S hs t ok (by omega) sd.it lay AD
   have c2:=MW h.LR (kr t) lay AD (by have:=ok.rl; simp[kr]; omega) (by have:=ok.il; simp[kr,jd]; omega) (fun r hr=>ok.row r (eo.1 hr)) (fun x hx=>sd.it x (im.1 hx))
    (fun x hx=>(sd.ok x (im.1 hx)).mono (fun r h=>fX ok.rd h) (fun r h=>fX ok.rd h) (fun r h=>fX ok.rd h)) ((kR ok.rd).imp fun {a b} h=>by omega)
   have Zs:=(Sk ok sd xr lay).ok hn
   rw[Jy ok sd lay]at c1
   obtain⟨Z,hZ⟩:∃Z,Cv lay (kr t)=Z:=⟨_,rfl⟩
   rw[hZ]at c1 c2 Zs
   dsimp only[kr]at c2
   refine sh ?_
   refine cM false [0,1,2] (c1) ?_
   repeat (intro _; first|refine eK ?_|refine eP ?_)
   refine sh ?_
   refine cM false [3] (c2) ?_
   repeat (intro _; first|refine eK ?_|refine eP ?_)
   refine sh ?_
   refine cM false [6] (DT h.tJ 0) ?_
   repeat (intro _; first|refine eK ?_|refine eP ?_)
   refine sh ?_
   refine cM false [] (DU h.tJ 0) ?_
   repeat (intro _; first|refine eK ?_|refine eP ?_)
   refine sh ?_
   refine ae.pure h.Fa.Q9.hb (by have:=DF h.Fa Z Z Zs Zs; rwa[DE rfl]at this) rfl ?_
   refine sh ?_
   refine af (by rfl) ?_
   refine sh ?_
   refine ae.pure h.Fc.Qr.hb (Jp h.Fc Z cls) rfl ?_
   refine sh ?_
   refine ae.pure h.Fg.Rg.hb (DG h.Fg Z cls) rfl ?_
   refine sh ?_
   refine af (by simp) ?_
   refine sh ?_
   refine ae.pure h.Fe.Qu.hb (wS h.Fe Z Zs) rfl ?_
   refine sh ?_
   refine ae.pure h.Ff.Rb.hb (uB h.Ff Z Zs) rfl ?_
   refine sh ?_
   refine ae.pure h.n47.o47.hb (NV h.n47 (aJ Z.ap) (aJ Z.ap)) rfl ?_
   refine sh ?_
   refine af (by simp) ?_
   refine sh ?_
   refine af (by rfl) ?_
   refine sh ?_
   refine af (by rfl) ?_
   refine sh ?_
   refine ae.pure h.Fb.Rp.hb (wV h.Fb K C gU S hs) rfl ?_
   refine sh ?_
   exact rT
  ·have c1:=M6 h.tJ C t lay (by omega)
   have c2:=JD h.LR (kr t) lay (by omega)
   have Zs:=Yz
   obtain⟨Z,hZ⟩:∃Z,cV.no=Z:=⟨_,rfl⟩
   rw[hZ]at c1 c2 Zs
   dsimp only[kr]at c2
   refine sh ?_
   refine cM false [0,1,2] (c1) ?_
   repeat (intro _; first|refine eK ?_|refine eP ?_)
   refine sh ?_
   refine cM false [3] (c2) ?_
   repeat (intro _; first|refine eK ?_|refine eP ?_)
   refine sh ?_
   refine cM false [6] (DT h.tJ 0) ?_
   repeat (intro _; first|refine eK ?_|refine eP ?_)
   refine sh ?_
   refine cM false [] (DU h.tJ 0) ?_
   repeat (intro _; first|refine eK ?_|refine eP ?_)
   refine sh ?_
   refine ae.pure h.Fa.Q9.hb (by have:=DF h.Fa Z Z Zs Zs; rwa[DE rfl]at this) rfl ?_
   refine sh ?_
   refine af (by rfl) ?_
   refine sh ?_
   refine ae.pure h.Fc.Qr.hb (Jp h.Fc Z cls) rfl ?_
   refine sh ?_
   refine ae.pure h.Fg.Rg.hb (DG h.Fg Z cls) rfl ?_
   refine sh ?_
   refine af (by simp) ?_
   refine sh ?_
   refine ae.pure h.Fe.Qu.hb (wS h.Fe Z Zs) rfl ?_
   refine sh ?_
   refine ae.pure h.Ff.Rb.hb (uB h.Ff Z Zs) rfl ?_
   refine sh ?_
   refine ae.pure h.n47.o47.hb (NV h.n47 (aJ Z.ap) (aJ Z.ap)) rfl ?_
   refine sh ?_
   refine af (by simp) ?_
   refine sh ?_
   refine af (by rfl) ?_
   refine sh ?_
   refine af (by rfl) ?_
   refine sh ?_
   refine ae.pure h.Fb.Rp.hb (wV h.Fb K C gU S hs) rfl ?_
   refine sh ?_
   exact rT
end Go.UM
namespace Go.UM
open Go.AM
end Go.UM
