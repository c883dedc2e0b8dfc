/- Of the reckoning machine, and what is proved with it: texts joined by program. -/
import Derived.Test.YtnfgjmbcfcnieaaGreatU2
import Derived.Test.YtnfgjmbcfcnieaaGreatK3
import Derived.Test.YtnfgjmbcfcnieaaGreatU0
set_option linter.all false
namespace Go.UM
open Go.AM
set_option maxRecDepth 4000
structure EI (s:ec):Prop where
 m:∀m ∈ s.ff,∀x ∈ m.aQ,bg .i64 x
 x:∀t ∈ s.dg,t.t.length≤256∧∀x ∈ t.aQ,bg .i64 x
 l:∀t ∈ s.gw,∀x ∈ t.aQ,bg .i64 x
 i:∀x ∈ s.ids,bg .u64 x
 b:∀x ∈ s.js,bg .u32 x
 e:bg .u32 s.xV∧bg .u32 s.fr∧bg .u32 s.to
theorem Le {r:Rw} (o:fE r) (k:r.a.k=3):∀x ∈ r.a.mt.aQ,bg .i64 x:=by
 have h:=(dB o.a).1
 rw[own,if_neg (by omega),if_neg (by omega),if_pos k]at h
 have:=tK h
 exact If (k:=r.a.mt.k) (a:=r.a.mt.c.a) (b:=r.a.mt.c.b) (c:=r.a.mt.c.c) (r:=r.a.mt.r) (by simp only[bg]; omega) (by simp only[bg]; omega) (by simp only[bg]; omega) (by simp only[bg]; omega) (by simp only[bg]; omega)
theorem Lf {r:Rw} (o:fE r) (k:r.a.k=4):∀x ∈ r.a.li.aQ,bg .i64 x:=by
 have h:=(dB o.a).1
 rw[own,if_neg (by omega),if_neg (by omega),if_neg (by omega),if_pos k]at h
 obtain⟨h0,h1,h2,h3,h4⟩:=tJ h
 exact EG (by simp only[bg]; omega) ⟨by simp only[bg]; omega,by simp only[bg]; omega,by simp only[bg]; omega⟩ ⟨by simp only[bg]; omega,by simp only[bg]; omega,by simp only[bg]; omega⟩
  ⟨by simp only[bg]; omega,by simp only[bg]; omega,by simp only[bg]; omega⟩ ⟨by simp only[bg]; omega,by simp only[bg]; omega,by simp only[bg]; omega⟩
theorem Lg {r:Rw} (o:fE r) (k:r.a.k=2):r.a.x.t.length≤256∧∀x ∈ r.a.x.aQ,bg .i64 x:=by
 have h:=(dB o.a).1
 rw[own,if_neg (by omega),if_pos k]at h
 have hl:=Hv h
 obtain⟨s,_,g⟩:=rG h
 refine⟨hl,Ig ⟨?_,fun p hp=> ?_⟩ (by omega)⟩
 ·have:=kY s
  simp only[bg]; omega
 ·have:=(T3.fe p).1 (List.all_eq_true.1 g p hp)
  exact⟨by simp only[bg]; omega,by simp only[bg]; omega,by simp only[bg]; omega⟩
theorem Qt {s:ec} {r:Rw} (h:EI s) (o:fE r) (f:r.f.I):EI (dD s r):=by
 obtain⟨h1,h2,h3,h4,h5,h6,h7,h8⟩:=h
 have app:∀ {α:Type} {P:α→Prop} {l:List α} {y:α},(∀x ∈ l,P x)→P y→∀x ∈ l++ [y],P x:=fun hl hy x hx=>by
  rcases List.mem_append.1 hx with q|q
  ·exact hl x q
  ·simp only[List.mem_singleton]at q
   subst q; exact hy
 unfold dD
 refine⟨?_,?_,?_,app h4 f.id,app h5 f.la,HZ _ _,?_,?_⟩
 ·dsimp only
  split
  ·exact app h1 (Le o (by assumption))
  ·exact h1
 ·dsimp only
  split
  ·exact app (P:=fun t:hG=>t.t.length≤256∧∀x ∈ t.aQ,bg .i64 x) h2 (Lg o (by assumption))
  ·exact h2
 ·dsimp only
  split
  ·exact app h3 (Lf o (by assumption))
  ·exact h3
 ·have:=f.fi
  simp only[bg]at this h7 ⊢
  omega
 ·have:=f.li
  simp only[bg]at this h8 ⊢
  omega
theorem Ip:∀ (V:List Rw) (s:ec),EI s→(∀r ∈ V,fE r∧r.f.I)→EI (V.foldl dD s)
 |[],s,h,_=>h
 |r::V,s,h,o=>Ip V _ (Qt h (o r (by simp)).1 (o r (by simp)).2) fun q hq=>o q (by simp[hq])
theorem WH:EI ec.qP:=⟨by simp[ec.qP],by simp[ec.qP],by simp[ec.qP],by simp[ec.qP],by simp[ec.qP],⟨by decide,by decide⟩,⟨by decide,by decide⟩,⟨by decide,by decide⟩⟩
structure WI (p:T3):Prop where
 a: -65536≤p.a∧p.a≤65536
 b: -65536≤p.b∧p.b≤65536
 c: -65536≤p.c∧p.c≤65536
theorem ug (a:Af) (p:T3):WI (bX a p).1:=by
 have hz:WI z3:=⟨by decide,by decide,by decide⟩
 unfold bX
 split
 ·exact hz
 ·unfold nz
  split
  ·exact hz
  ·rename_i hn
   simp only[DV,Bool.or_eq_true,decide_eq_true_eq,not_or]at hn
   simp only[Kw]
   exact⟨by dsimp only; omega,by dsimp only; omega,by dsimp only; omega⟩
structure EJ (nm nx ni:Nat) (t:rK):Prop where
 p:WI t.p
 q:WI t.q
 r:WI t.r
 u:(0≤t.ua∧t.ua≤65535∧0≤t.ub∧t.ub≤65535)∧(0≤t.va∧t.va≤65535∧0≤t.vb∧t.vb≤65535)∧(0≤t.wa∧t.wa≤65535∧0≤t.wb∧t.wb≤65535)
 dr:0≤t.dr∧t.dr<nm
 ct: -1≤t.ct∧t.ct<nx
 obj:0≤t.obj∧t.obj<ni
 lC:t.lC≠0∧bg .u8 t.lC
theorem Bw {α:Type} (p:α→Bool) (l:List α): -1≤pm p l∧pm p l<l.length:=by
 rcases fN p l with⟨i,r,e1,e2,_⟩|⟨e1,_⟩
 ·have:=(List.getElem?_eq_some_iff.1 e2).1
  omega
 ·omega
theorem WJ {x:Af} {m:Ms} (rm:m.QW) {dr ct obj lC:Int} {nm nx ni:Nat} (h1:0≤dr∧dr<nm) (h2: -1≤ct∧ct<nx) (h3:0≤obj∧obj<ni) (h4:lC≠0∧bg .u8 lC) {c:T3} (hc:c ∈ m.t):EJ nm nx ni (kz x m dr ct obj lC c):=by
 have ur:=rm.pt c hc
 have huv:=rm.uv
 have u:∀i:Int,0≤i→i<m.v.length→0≤(EV m.uv i).1∧(EV m.uv i).1≤65535∧0≤(EV m.uv i).2∧(EV m.uv i).2≤65535:=fun i i1 i2=>by
  obtain⟨y,hy⟩:∃y,m.uv[i.toNat]? =some y:=⟨_,List.getElem?_eq_getElem (by omega)⟩
  rw[fh hy]
  exact rm.pu y (List.mem_of_getElem? hy)
 exact⟨ug _ _,ug _ _,ug _ _,⟨u c.a (by omega) (by omega),u c.b (by omega) (by omega),u c.c (by omega) (by omega)⟩,h1,h2,h3,h4⟩
theorem Lh {f:Mf} (h:f.I) (lay:Int):bg .u8 (dH f lay):=by
 unfold dH
 split
 ·exact⟨by decide,by decide⟩
 ·exact h.ms _
theorem Li {V:List Rw} {lay:Int} (vo:∀r ∈ V,fE r∧r.f.I∧dH r.f lay≠0) {s:ec} {k:In} (mk:∀r ∈ V,r.h=k.aT→r.a.k=1) {nm nx ni:Nat} (em:nm=(V.filter (nE 3)).length) (ex:nx=(V.filter (nE 2)).length) (ei:ni=V.length) (h:∀t ∈ s.cj,EJ nm nx ni t):
  ∀t ∈ (dI V lay s k).cj,EJ nm nx ni t:=by
 unfold dI
 split
 ·exact h
 ·rename_i hn
  split
  ·rename_i r hr
   intro t ht
   rcases List.mem_append.1 ht with q|q
   ·exact h t q
   ·obtain⟨c,hc,rfl⟩:=List.mem_map.1 q
    have hm:=List.mem_of_getElem? hr
    obtain⟨v1,v2,v3⟩:=vo r hm
    have rh:r.h=k.aT:=by
     rcases pq V k.aT with⟨o,r',q1,q2,q3⟩|q1
     ·rw[q1,Int.toNat_natCast,q2]at hr
      rw[←Option.some.inj hr]; exact q3
     ·omega
    have k1:=mk r hm rh
    have rm:=jc (by have:=(dB v1.a).1; rw[own,if_pos k1]at this; exact this)
    have p3:=Bw (dC k.dr) (V.filter (nE 3))
    have p2:=Bw (dC k.ct) (V.filter (nE 2))
    have p0:=Bw (dC k.aT) (V.filter (nE 0))
    rw[CD]at p0
    have e0:bD V k.aT 0=pm (dC k.aT) V:=by rw[bD,CD]
    have e3:bD V k.dr 3=pm (dC k.dr) (V.filter (nE 3)):=rfl
    have e2:bD V k.ct 2=pm (dC k.ct) (V.filter (nE 2)):=rfl
    exact WJ rm (by omega) (by omega) (by omega) ⟨v3,Lh v2 lay⟩ hc
  ·exact h
theorem CJ (V:List Rw) (lay:Int):∀ (N:List In) (s:ec),∃T,N.foldl (dI V lay) s=⟨T,s.ff,s.dg,s.gw,s.ids,s.js,s.xV,s.fr,s.to⟩
 |[],s=>⟨s.cj,rfl⟩
 |k::N,s=>by
  obtain⟨T,hT⟩:=CJ V lay N (dI V lay s k)
  refine⟨T,?_⟩
  rw[List.foldl_cons,hT]
  unfold dI
  repeat' split
  all_goals rfl
theorem wv {V:List Rw} {lay:Int} (vo:∀r ∈ V,fE r∧r.f.I∧dH r.f lay≠0) {nm nx ni:Nat} (em:nm=(V.filter (nE 3)).length) (ex:nx=(V.filter (nE 2)).length) (ei:ni=V.length):∀ (N:List In) (s:ec),(∀k ∈ N,∀r ∈ V,r.h=k.aT→r.a.k=1)→
  (∀t ∈ s.cj,EJ nm nx ni t)→∀t ∈ (N.foldl (dI V lay) s).cj,EJ nm nx ni t
 |[],s,_,h=>h
 |k::N,s,mk,h=>wv vo em ex ei N _ (fun q hq=>mk q (by simp[hq])) (Li vo (mk k (by simp)) em ex ei h)
structure Qu (n:Nat) (s:ec):Prop where
 o:EI s
 t:∀t ∈ s.cj,EJ s.ff.length s.dg.length s.ids.length t
 nt:s.cj.length≤64*n
 nm:s.ff.length+s.dg.length+s.gw.length≤s.ids.length
 ni:s.ids.length≤n
 nb:s.js.length≤n
 w:s.fr≤s.to∨0<s.ids.length
theorem Qv {t:Tb} {n:Nat} (ok:jf t n) (sd:oe t) (xr:∀r ∈ t.rows,WG r) (lay:Int):Qu n (Ih lay (oi t)):=by
 have S:=CF lay (bf t.rows)
 have vs:∀r ∈ c8 lay (bf t.rows),fE r∧r.f.I∧dH r.f lay≠0:=fun r hr=>by
  obtain⟨h1,h2⟩:=List.mem_filter.1 hr
  have h1:=eC.1 h1
  exact⟨ok.row r h1,(xr r h1).f,by simpa[oj]using h2⟩
 have vl:(c8 lay (bf t.rows)).length≤n:=Nat.le_trans (List.length_filter_le _ _) (by rw[gn]; exact ok.rl)
 have mk:∀k ∈ cE t.ins,∀r ∈ c8 lay (bf t.rows),r.h=k.aT→r.a.k=1:=fun k hk r hr e=>by
  obtain⟨a,_,i1,i2,_⟩:=sd.ok k (kr.1 hk)
  have hm:=eC.1 (List.mem_filter.1 hr).1
  have:=ek ok.rd hm
  rw[e,i1]at this
  have e2:a=r:=Option.some.inj this
  exact (ok.row r hm).k.symm.trans (e2 ▸ i2)
 unfold Ih oi
 dsimp only
 have o0:=Ip (c8 lay (bf t.rows)) ec.qP WH fun r hr=>⟨(vs r hr).1,(vs r hr).2.1⟩
 have hm:∀ (V:List Rw) (s:ec),s.ff.length+s.dg.length+s.gw.length≤s.ids.length→(V.foldl dD s).ff.length+ (V.foldl dD s).dg.length+ (V.foldl dD s).gw.length≤(V.foldl dD s).ids.length:=by
  intro V
  induction V with
  |nil=>intro s h; exact h
  |cons r V ih=>
   intro s h
   refine ih _ ?_
   unfold dD
   dsimp only
   rw[List.length_append,List.length_singleton]
   repeat' split
   all_goals (try simp only[List.length_append,List.length_singleton])
   all_goals omega
 have hm:=hm (c8 lay (bf t.rows)) ec.qP (by simp[ec.qP])
 have hb:=CC (c8 lay (bf t.rows)) ec.qP 0 ⟨rfl,Nat.le_refl _,Nat.le_refl _,Nat.le_refl _,Nat.le_refl _,Nat.le_refl _⟩
 have l1:=S.li
 have l2:=S.lm
 have l3:=S.lx
 rw[S.s]at l1 l2 l3
 have tr:=wv vs l2 l3 l1 (cE t.ins) ((c8 lay (bf t.rows)).foldl dD ec.qP) mk (by rw[hb.t]; simp)
 have tl:=CE (V:=c8 lay (bf t.rows)) (fun r hr=>Ij (vs r hr).1) lay (cE t.ins) ((c8 lay (bf t.rows)).foldl dD ec.qP)
 rw[hb.t]at tl
 obtain⟨T,hT⟩:=CJ (c8 lay (bf t.rows)) lay (cE t.ins) ((c8 lay (bf t.rows)).foldl dD ec.qP)
 rw[hT]at tr tl ⊢
 have il:=ok.il
 rw[lf]at tl
 have b5:=hb.b
 have hw:((c8 lay (bf t.rows)).foldl dD ec.qP).fr≤((c8 lay (bf t.rows)).foldl dD ec.qP).to∨0< ((c8 lay (bf t.rows)).foldl dD ec.qP).ids.length:=by
  cases hV:c8 lay (bf t.rows)with
  |nil=>exact .inl (by decide)
  |cons a V=>
   rw[hV]at l1
   exact .inr (by rw[l1]; simp)
 refine⟨⟨o0.m,o0.x,o0.l,o0.i,o0.b,o0.e⟩,tr,?_,hm,?_,?_,hw⟩
 ·simp only[List.length_nil]at tl
  dsimp only at tl ⊢
  omega
 ·dsimp only; omega
 ·dsimp only; omega
theorem Qu.ok {n:Nat} {s:ec} (h:Qu n s) (hn:n≤30):s.Ok:=by
 obtain⟨o,t,nt,nm,ni,nb,_⟩:=h
 refine⟨by omega,by omega,⟨by omega,fun t ht=>by have:=(o.x t ht).1; omega⟩,by omega,by omega,by omega,fun x hx=> ?_,o.m,fun t ht=>(o.x t ht).2,o.l,o.i,o.b,o.e⟩
 obtain⟨⟨p1,p2,p3⟩,⟨q1,q2,q3⟩,⟨r1,r2,r3⟩,⟨u,v,w⟩,a1,a2,a3,a4⟩:=t x hx
 refine⟨⟨?_,?_,?_⟩,⟨?_,?_,?_⟩,⟨?_,?_,?_⟩,⟨?_,?_⟩,⟨?_,?_⟩,⟨?_,?_⟩,?_,?_,?_,a4.2⟩
 all_goals (simp only[bg]; omega)
end Go.UM
namespace Go.UM
open Go.AM
set_option maxRecDepth 4000
def ec.no:ec:=⟨[],[],[],[],[],[],0,0,0⟩
theorem aaU {id kind label m0 m1 m2 m3 m4 m5 m6 m7 first last size chunks:Int} (h0:bg .u64 id) (h2:bg .u32 label) (g0:bg .u8 m0) (g1:bg .u8 m1) (g2:bg .u8 m2) (g3:bg .u8 m3) (g4:bg .u8 m4) (g5:bg .u8 m5) (g6:bg .u8 m6) (g7:bg .u8 m7) (h3:bg .u32 first) (h4:bg .u32 last):
  Mf.I ⟨id,kind,label,m0,m1,m2,m3,m4,m5,m6,m7,first,last,size,chunks⟩:=
 ⟨h0,h2,h3,h4,fun i=>by
   match i with
   |0=>exact g0
   |1=>exact g1
   |2=>exact g2
   |3=>exact g3
   |4=>exact g4
   |5=>exact g5
   |6=>exact g6
   |7=>exact g7
   |n+8=>exact (⟨by decide,by decide⟩:bg .u8 0)⟩
end Go.UM
namespace Go.UM
open Go.AM
set_option maxRecDepth 4000
theorem Qw (x:Int) (h:0≤x):0≤x.tmod 8∧x.tmod 8<8:=by
 rw[Int.tmod_eq_emod_of_nonneg h]
 omega
theorem tm8 (x:Int): -7≤x.tmod 8∧x.tmod 8≤7:=by
 rcases Int.le_total 0 x with h|h
 ·have:=Qw x h; omega
 ·have:=Qw (-x) (by omega)
  rw[Int.neg_tmod]at this
  omega
set_option maxHeartbeats 4000000 in
theorem Iq {R:Env} (h:VM R) (K:v6 R) (C:Wr R) (gv:List In→List In) (S:zv R gv) (hs:K2 gv) (l:List Ac) (hc:∀c ∈ l,c.I) (lay:Int) (hly:bg .i64 lay):R.Pz true 494 [.aJ 57 (xM l),.int .i64 lay] (.bool true):=
 h.aaz.Gp 200 rfl fun X bb hfit hp hz=>by
  obtain⟨ok,sd,xr⟩:=CI (l.take 30) (fun c nM=>hc c (List.mem_of_mem_take nM))
  have hn:(l.take 30).length≤30:=by rw[List.length_take]; omega
  have T:=Io h.PK l hc
  obtain⟨t,ht⟩:∃t,lg (l.take 30)=t:=⟨_,rfl⟩
  rw[ht]at T ok sd xr
  have h8:=tm8 lay
  have hy:=Qw (lay.tmod 8+8) (by omega)
  have c1:=Ib h.DQ K C gv S hs t ok (by omega) sd.it _ hy
  have Zs:=Qv ok sd xr ((lay.tmod 8+8).tmod 8)
  rw[Il ok sd _]at c1
  obtain⟨y,Ir⟩:∃y,(lay.tmod 8+8).tmod 8=y:=⟨_,rfl⟩
  obtain⟨Z,hZ⟩:∃Z,Ih ((lay.tmod 8+8).tmod 8) (oi t)=Z:=⟨_,rfl⟩
  rw[hZ]at c1 Zs
  refine sh ?_
  refine cM false [] (T) ?_
  repeat (intro _; first|refine eK ?_|refine eP ?_)
  refine sh ?_
  refine cM false [0,1,2] (c1) ?_
  repeat (intro _; first|refine eK ?_|refine eP ?_)
  obtain⟨_,tS,nt,nm,ni,nb,w⟩:=Zs
  refine sh ?_
  refine aj (by rfl) ?_
  refine sh ?_
  refine cS (fun w1=> ?_) (fun w1=> ?_)
  ·refine sh ?_
   refine aj (by rw[beq_eq_false_iff_ne]; omega) ?_
   refine sh ?_
   refine aj (by simp; omega) ?_
   refine sh ?_
   refine gW 200 (fun i:Nat=>i≤Z.cj.length) (fun i=>⟨[(7,.loc 4 1 0 0),(64,.aJ 19 (qa Z.cj)),(65,.int .i64 Z.cj.length),(66,.int .i64 i)],[(4,.var (R.ty 59) Z.row)],5⟩) (fun i=>Z.cj.length - i) (0) ?_ ?_
   ·exact Nat.zero_le _
   ·intro i hi
    dsimp only
    refine sh ?_
    refine cS (fun h1=> ?_) (fun h1=> ?_)
    ·obtain⟨x,hx⟩:∃u_,Z.cj[i]? =some u_:=⟨_,List.getElem?_eq_getElem (by first|omega|(simp<;>omega))⟩
     refine sh ?_
     refine aa hx ?_
     obtain⟨⟨p1,p2,p3⟩,⟨q1,q2,q3⟩,⟨r1,r2,r3⟩,_,s1,s2,s3,s4⟩:=tS x (List.mem_of_getElem? hx)
     refine sh ?_
     refine aj (by simp; omega) ?_
     refine sh ?_
     refine aj (by simp; omega) ?_
     refine sh ?_
     refine aj (by simp; omega) ?_
     refine sh ?_
     refine aj (by simp; omega) ?_
     refine sh ?_
     refine aj (by simp; omega) ?_
     refine sh ?_
     refine aj (by simp; omega) ?_
     refine sh ?_
     refine aj (by simp; exact s4.1) ?_
     refine sh ?_
     refine aq.one 200 ?_
     refine sh ?_
     refine af (by rfl) ?_
     refine sh ?_
     refine aj (by simp; omega) ?_
     refine sh ?_
     refine aj (by simp; omega) ?_
     refine sh ?_
     refine aq.one 200 ?_
     refine sh ?_
     refine af (by rfl) ?_
     refine sh ?_
     refine aj (by simp; omega) ?_
     refine sh ?_
     refine aj (by simp; omega) ?_
     refine sh ?_
     refine aq.one 200 ?_
     refine sh ?_
     refine af (by rfl) ?_
     refine sh ?_
     refine aj (by simp; omega) ?_
     refine sh ?_
     refine aj (by simp; omega) ?_
     refine sh ?_
     refine aq.one 200 ?_
     refine sh ?_
     refine aj (by rfl) ?_
     refine sh ?_
     refine lz (i+1) ?_ ?_
     ·omega
     ·omega
    ·refine sh ?_
     refine gW 200 (fun j:Nat=>j≤3) (fun j=>⟨[(7,.loc 4 1 0 0),(137,.int .i64 j)],[(4,.var (R.ty 59) Z.row)],5⟩) (fun j=>3 - j) (0) ?_ ?_
     ·exact Nat.zero_le _
     ·intro j hj
      dsimp only
      refine sh ?_
      refine cS (fun g1=> ?_) (fun g1=> ?_)
      ·refine sh ?_
       refine ae.pure h.uP.Ka.hb (xR h.uP j) rfl ?_
       refine sh ?_
       refine ae.pure h.DT.O1.hb (H6 h.DT Z j) rfl ?_
       have f1:(qO Z j==0)=decide ((Z.cj.length:Int)≤Bs j∧(Z.gw.length:Int)≤H5 j):=by
        unfold qO
        split<;>rename_i k
        ·rw[eq_comm,decide_eq_false_iff_not.2 (by omega)]; rfl
        ·rw[eq_comm,decide_eq_true_iff.2 (by omega)]; rfl
       have f2:16≤Bs (j:Int):=by
        have:j=0∨j=1∨j=2:=by omega
        rcases this with rfl|rfl|rfl<;>decide
       refine sh ?_
       refine cS (fun u1=> ?_) (fun u1=> ?_)
       ·refine sh ?_
        refine aj (by rw[f1]; simp[u1]) ?_
        refine sh ?_
        refine aj (by simp; omega) ?_
        refine sh ?_
        refine lz (j+1) ?_ ?_
        ·omega
        ·omega
       ·refine sh ?_
        refine aj (by rw[f1]; simp; omega) ?_
        refine sh ?_
        refine aj (by simp; omega) ?_
        refine sh ?_
        refine lz (j+1) ?_ ?_
        ·omega
        ·omega
      ·refine sh ?_
       refine ae.pure h.DR.PJ.hb (wo h.DR K C gv S hs) rfl ?_
       refine sh ?_
       exact rT
  ·refine sh ?_
   refine aj (by simp; omega) ?_
   refine sh ?_
   refine gW 200 (fun i:Nat=>i≤Z.cj.length) (fun i=>⟨[(7,.loc 4 1 0 0),(64,.aJ 19 (qa Z.cj)),(65,.int .i64 Z.cj.length),(66,.int .i64 i)],[(4,.var (R.ty 59) Z.row)],5⟩) (fun i=>Z.cj.length - i) (0) ?_ ?_
   ·exact Nat.zero_le _
   ·intro i hi
    dsimp only
    refine sh ?_
    refine cS (fun h1=> ?_) (fun h1=> ?_)
    ·obtain⟨x,hx⟩:∃u_,Z.cj[i]? =some u_:=⟨_,List.getElem?_eq_getElem (by first|omega|(simp<;>omega))⟩
     refine sh ?_
     refine aa hx ?_
     obtain⟨⟨p1,p2,p3⟩,⟨q1,q2,q3⟩,⟨r1,r2,r3⟩,_,s1,s2,s3,s4⟩:=tS x (List.mem_of_getElem? hx)
     refine sh ?_
     refine aj (by simp; omega) ?_
     refine sh ?_
     refine aj (by simp; omega) ?_
     refine sh ?_
     refine aj (by simp; omega) ?_
     refine sh ?_
     refine aj (by simp; omega) ?_
     refine sh ?_
     refine aj (by simp; omega) ?_
     refine sh ?_
     refine aj (by simp; omega) ?_
     refine sh ?_
     refine aj (by simp; exact s4.1) ?_
     refine sh ?_
     refine aq.one 200 ?_
     refine sh ?_
     refine af (by rfl) ?_
     refine sh ?_
     refine aj (by simp; omega) ?_
     refine sh ?_
     refine aj (by simp; omega) ?_
     refine sh ?_
     refine aq.one 200 ?_
     refine sh ?_
     refine af (by rfl) ?_
     refine sh ?_
     refine aj (by simp; omega) ?_
     refine sh ?_
     refine aj (by simp; omega) ?_
     refine sh ?_
     refine aq.one 200 ?_
     refine sh ?_
     refine af (by rfl) ?_
     refine sh ?_
     refine aj (by simp; omega) ?_
     refine sh ?_
     refine aj (by simp; omega) ?_
     refine sh ?_
     refine aq.one 200 ?_
     refine sh ?_
     refine aj (by rfl) ?_
     refine sh ?_
     refine lz (i+1) ?_ ?_
     ·omega
     ·omega
    ·refine sh ?_
     refine gW 200 (fun j:Nat=>j≤3) (fun j=>⟨[(7,.loc 4 1 0 0),(137,.int .i64 j)],[(4,.var (R.ty 59) Z.row)],5⟩) (fun j=>3 - j) (0) ?_ ?_
     ·exact Nat.zero_le _
     ·intro j hj
      dsimp only
      refine sh ?_
      refine cS (fun g1=> ?_) (fun g1=> ?_)
      ·refine sh ?_
       refine ae.pure h.uP.Ka.hb (xR h.uP j) rfl ?_
       refine sh ?_
       refine ae.pure h.DT.O1.hb (H6 h.DT Z j) rfl ?_
       have f1:(qO Z j==0)=decide ((Z.cj.length:Int)≤Bs j∧(Z.gw.length:Int)≤H5 j):=by
        unfold qO
        split<;>rename_i k
        ·rw[eq_comm,decide_eq_false_iff_not.2 (by omega)]; rfl
        ·rw[eq_comm,decide_eq_true_iff.2 (by omega)]; rfl
       have f2:16≤Bs (j:Int):=by
        have:j=0∨j=1∨j=2:=by omega
        rcases this with rfl|rfl|rfl<;>decide
       refine sh ?_
       refine cS (fun u1=> ?_) (fun u1=> ?_)
       ·refine sh ?_
        refine aj (by rw[f1]; simp[u1]) ?_
        refine sh ?_
        refine aj (by simp; omega) ?_
        refine sh ?_
        refine lz (j+1) ?_ ?_
        ·omega
        ·omega
       ·refine sh ?_
        refine aj (by rw[f1]; simp; omega) ?_
        refine sh ?_
        refine aj (by simp; omega) ?_
        refine sh ?_
        refine lz (j+1) ?_ ?_
        ·omega
        ·omega
      ·refine sh ?_
       refine ae.pure h.DR.PJ.hb (wo h.DR K C gv S hs) rfl ?_
       refine sh ?_
       exact rT
end Go.UM
namespace Go.UM
open Go.AM
end Go.UM
