/- ProjectEncodes holds: for every input the law returns true and leaves what came in as it was. No condition. -/
import Derived.Test.YtnfgjmbcfcnieaaGreatRows
import Derived.Test.YtnfgjmbcfcnieaaGreatEnv
import Derived.Test.YtnfgjmbcfcnieaaGreatLib
import Derived.Test.YtnfgjmbcfcnieaaGreatU2
import Derived.Test.YtnfgjmbcfcnieaaGreatK3
import Derived.ProofKit
namespace Go.Proofs.YtnfgjmbcfcnieaaGreat
open Go.AM Go.UM
set_option maxRecDepth 100000
theorem own:ownKnob Tryz.prog.godebug=none:=by kernel_rfl
theorem laid:laidOutB Tryz.prog=true:=by kernel_rfl
theorem my (fN:List AV) (hc:BT tt 8 Tryz.f5.params.toList fN):fC true Tryz.prog 5 fN (.bool true):=by
 refine tR (T:=tt) (n:=8) (ts:=[66,66]) (K:=fun fN=>fC true Tryz.prog 5 fN (.bool true)) ?_ hc
 intro ats _ Yb ams _ Yc axs _ Yd als _ Ye ais _ Yf abs _ habs aa haa af haf ao hao
 obtain⟨sat,rfl,hat⟩:∃l:List gK,ats=ko l∧∀x ∈ l,x.Ok:=dI fun r hr=>by
  refine c7 (T:=tt) 6 77 (fun r=>∃x:gK,r=gK.row x∧x.Ok) r ?_ (Yb r hr)
  intro q0 zx q1 hq1 q2 ur q3 FX q4 FY q5 Nk q6 Nl q7 Nn q8 No q9 Np Nq zy Nr zA Ns zB Yg Nt Yh Nu Yi Nv Yj Nw Yk Nx Yl Ny
  exact⟨⟨⟨q0,q1,q2⟩,⟨q3,q4,q5⟩,⟨q6,q7,q8⟩,q9,Nq,Nr,Ns,Yg,Yh,Yi,Yj,Yk,Yl⟩,rfl,⟨⟨zx,hq1,ur⟩,⟨FX,FY,Nk⟩,⟨Nl,Nn,No⟩,⟨Np,zy⟩,⟨zA,zB⟩,⟨Nt,Nu⟩,⟨Nv,Nw,Nx,Ny⟩⟩⟩
 obtain⟨am,rfl,ham⟩:∃l:List ej,ams=eY l∧∀x ∈ l,(∀y ∈ x.ap,aZ .i64 y):=dI fun r hr=>by
  refine c7 (T:=tt) 6 37 (fun r=>∃x:ej,r=ej.row x∧(∀y ∈ x.ap,aZ .i64 y)) r ?_ (Yc r hr)
  intro q0 zx q1 hq1 q2 ur q3 FX q4 FY
  exact⟨⟨q0,⟨q1,q2,q3⟩,q4⟩,rfl,xB zx hq1 ur FX FY⟩
 obtain⟨ax,rfl,hax⟩:∃l:List cz,axs=e7 l∧∀x ∈ l,x.I:=dI fun r hr=>by
  refine c7 (T:=tt) 6 34 (fun r=>∃x:cz,r=cz.row x∧x.I) r ?_ (Yd r hr)
  intro sd Ym ps _ hps
  obtain⟨pt,rfl,hpt⟩:∃l:List T3,ps=bF l∧∀x ∈ l,x.I:=dI fun r hr=>by
   refine c7 (T:=tt) 4 35 (fun r=>∃x:T3,r=t3 x∧x.I) r ?_ (hps r hr)
   intro q0 zx q1 hq1 q2 ur
   exact⟨⟨q0,q1,q2⟩,rfl,zx,hq1,ur⟩
  exact⟨⟨sd,pt⟩,rfl,Ym,hpt⟩
 obtain⟨al,rfl,dJ⟩:∃l:List ed,als=e6 l∧∀x ∈ l,(∀y ∈ x.ap,aZ .i64 y):=dI fun r hr=>by
  refine c7 (T:=tt) 6 41 (fun r=>∃x:ed,r=ed.row x∧(∀y ∈ x.ap,aZ .i64 y)) r ?_ (Ye r hr)
  intro q0 zx q1 hq1 q2 ur q3 FX q4 FY q5 Nk q6 Nl q7 Nn q8 No q9 Np Nq zy Nr zA Ns zB
  exact⟨⟨q0,⟨q1,q2,q3⟩,⟨q4,q5,q6⟩,⟨q7,q8,q9⟩,⟨Nq,Nr,Ns⟩⟩,rfl,uj zx ⟨hq1,ur,FX⟩ ⟨FY,Nk,Nl⟩ ⟨Nn,No,Np⟩ ⟨zy,zA,zB⟩⟩
 obtain⟨ai,rfl,hai⟩:=AL (T:=tt) (n:=5) (k:= .u64) (by kernel_rfl) Yf
 obtain⟨ab,rfl,hab⟩:=AL (T:=tt) (n:=5) (k:= .u32) (by kernel_rfl) habs
 intro bts _ Yn bms _ Yo bxs _ Yp bls _ Yq bis _ Yr bbs _ Ys ba hba bf hbf bo hbo
 obtain⟨bt,rfl,hbt⟩:∃l:List gK,bts=ko l∧∀x ∈ l,x.Ok:=dI fun r hr=>by
  refine c7 (T:=tt) 6 77 (fun r=>∃x:gK,r=gK.row x∧x.Ok) r ?_ (Yn r hr)
  intro q0 zx q1 hq1 q2 ur q3 FX q4 FY q5 Nk q6 Nl q7 Nn q8 No q9 Np Nq zy Nr zA Ns zB Yg Nt Yh Nu Yi Nv Yj Nw Yk Nx Yl Ny
  exact⟨⟨⟨q0,q1,q2⟩,⟨q3,q4,q5⟩,⟨q6,q7,q8⟩,q9,Nq,Nr,Ns,Yg,Yh,Yi,Yj,Yk,Yl⟩,rfl,⟨⟨zx,hq1,ur⟩,⟨FX,FY,Nk⟩,⟨Nl,Nn,No⟩,⟨Np,zy⟩,⟨zA,zB⟩,⟨Nt,Nu⟩,⟨Nv,Nw,Nx,Ny⟩⟩⟩
 obtain⟨bm,rfl,OB⟩:∃l:List ej,bms=eY l∧∀x ∈ l,(∀y ∈ x.ap,aZ .i64 y):=dI fun r hr=>by
  refine c7 (T:=tt) 6 37 (fun r=>∃x:ej,r=ej.row x∧(∀y ∈ x.ap,aZ .i64 y)) r ?_ (Yo r hr)
  intro q0 zx q1 hq1 q2 ur q3 FX q4 FY
  exact⟨⟨q0,⟨q1,q2,q3⟩,q4⟩,rfl,xB zx hq1 ur FX FY⟩
 obtain⟨bx,rfl,hbx⟩:∃l:List cz,bxs=e7 l∧∀x ∈ l,x.I:=dI fun r hr=>by
  refine c7 (T:=tt) 6 34 (fun r=>∃x:cz,r=cz.row x∧x.I) r ?_ (Yp r hr)
  intro sd Ym ps _ hps
  obtain⟨pt,rfl,hpt⟩:∃l:List T3,ps=bF l∧∀x ∈ l,x.I:=dI fun r hr=>by
   refine c7 (T:=tt) 4 35 (fun r=>∃x:T3,r=t3 x∧x.I) r ?_ (hps r hr)
   intro q0 zx q1 hq1 q2 ur
   exact⟨⟨q0,q1,q2⟩,rfl,zx,hq1,ur⟩
  exact⟨⟨sd,pt⟩,rfl,Ym,hpt⟩
 obtain⟨bl,rfl,qZ⟩:∃l:List ed,bls=e6 l∧∀x ∈ l,(∀y ∈ x.ap,aZ .i64 y):=dI fun r hr=>by
  refine c7 (T:=tt) 6 41 (fun r=>∃x:ed,r=ed.row x∧(∀y ∈ x.ap,aZ .i64 y)) r ?_ (Yq r hr)
  intro q0 zx q1 hq1 q2 ur q3 FX q4 FY q5 Nk q6 Nl q7 Nn q8 No q9 Np Nq zy Nr zA Ns zB
  exact⟨⟨q0,⟨q1,q2,q3⟩,⟨q4,q5,q6⟩,⟨q7,q8,q9⟩,⟨Nq,Nr,Ns⟩⟩,rfl,uj zx ⟨hq1,ur,FX⟩ ⟨FY,Nk,Nl⟩ ⟨Nn,No,Np⟩ ⟨zy,zA,zB⟩⟩
 obtain⟨bi,rfl,Gk⟩:=AL (T:=tt) (n:=5) (k:= .u64) (by kernel_rfl) Yr
 obtain⟨bb,rfl,hbb⟩:=AL (T:=tt) (n:=5) (k:= .u32) (by kernel_rfl) Ys
 exact xD (R:=R) Ya SQ clI Nj SR Iy ⟨sat,am,ax,al,ai,ab,aa,af,ao⟩ ⟨bt,bm,bx,bl,bi,bb,ba,bf,bo⟩ ⟨hat,ham,hax,dJ,hai,hab,haa,haf,hao⟩ ⟨hbt,OB,hbx,qZ,Gk,hbb,hba,hbf,hbo⟩
theorem kp (os:Os) (started:os.Started) (H:Type) (enc:TypeId × Value→H):
  ReturnsInHanded {} Tryz.checked os 5 .any (Rows.projectEncodesSpec.pre6 enc Tryz.prog Tryz.f5 Rows.projectEncodesRow.domain false) (Rows.projectEncodesSpec.post enc Tryz.prog Tryz.f5 false true false false):=
 Eu (C:=Tryz.checked) (T:=tt) (n:=8) (tb:=4) hT.tt own started (by kernel_rfl) Tryz.func5
  (ChangeSpec.witness6 (enc:=enc) (C:=Tryz.checked) false ⟨#[],#[.agg #[.slice none 0 0,.slice none 0 0,.slice none 0 0,.slice none 0 0,.slice none 0 0,.slice none 0 0,.int .u32 0,.int .u32 0,.int .u32 0],.agg #[.slice none 0 0,.slice none 0 0,.slice none 0 0,.slice none 0 0,.slice none 0 0,.slice none 0 0,.int .u32 0,.int .u32 0,.int .u32 0]],[]⟩ 8 (by kernel_rfl) (by kernel_rfl) (by kernel_rfl) (by kernel_rfl))
  laid (by kernel_rfl) rfl (fun ds h=>by match ds,h with|[_,_],_=>rfl) rfl Tryz.underlying4 my
theorem projectEncodes_holds:Rows.ProjectEncodesSaid:=
 OpenClaim.holds_of_wide 5 Tryz.f5 rfl rfl rfl rfl rfl rfl rfl ⟨rfl,rfl,rfl,rfl,rfl⟩ rfl rfl rfl rfl rfl (by kernel_rfl) Tryz.func5 (by kernel_rfl)
  (of_decide_eq_true (by kernel_rfl)) (by unfold Func.isWrapper; first|(rw[if_pos (by decide+kernel)]; kernel_rfl)|(rw[if_neg (by decide+kernel)]; exact⟨rfl,rfl⟩))
  (fun os started H enc _=>kp os started H enc)
end Go.Proofs.YtnfgjmbcfcnieaaGreat
