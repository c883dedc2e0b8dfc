/- TablePlays holds: for every input the law returns true and leaves what came in as it was. No condition. -/
import Derived.Test.YtahjfplikclhlaaGreatRows
import Derived.Test.YtahjfplikclhlaaGreatEnv
import Derived.Test.YtahjfplikclhlaaGreatLib
import Derived.Test.YtahjfplikclhlaaGreatU2
import Derived.Test.YtahjfplikclhlaaGreatK3
import Derived.ProofKit
namespace Go.Proofs.YtahjfplikclhlaaGreat
open Go.AM Go.UM
set_option maxRecDepth 100000
theorem own:ownKnob Tryz.prog.godebug=none:=by kernel_rfl
theorem laid:laidOutB Tryz.prog=true:=by kernel_rfl
theorem sm (fH:List AV) (hc:BO tt 8 Tryz.f7.params.toList fH):fA true Tryz.prog 7 fH (.bool true):=by
 refine uf (T:=tt) (n:=8) (ts:=[22]) (K:=fun fH=>fA true Tryz.prog 7 fH (.bool true)) ?_ hc
 intro ls _ hls
 obtain⟨l,rfl,hx⟩:∃l:List Ac,ls=xX l∧∀c ∈ l,c.i.t.I:=jy fun r hr=>by
  refine eR (T:=tt) 7 61 (fun r=>∃x:Ac,r=x.row∧x.i.t.I) r ?_ (hls r hr)
  intro pk _ ph _ pf0 _ pf1 _ pf2 _ pf3 _ pf4 _ pf5 _ pf6 _ pf7 _ pf8 _ pf9 _ Za _ Zb _ Zc _ Zd _ Ze _ pxk _ Zf _ Zg Tr _ Ts Zh _ Zi pxs _ Zj _ Zk Zl _ Zm _ Zn _ Zo _ Zp _ Zq _ Zr _ Zs _ Zt _ Zu _ Zv _ Zw _ Zx _ Zy _ Zz _ Tt _ Tu _ Tv _ pye _ pya _ pyo _ pyn _ ZA Tw ZB Tx ZC Ty ZD Tz ZE TA ZF TB ZG TC ZH TE ZI TF ZJ TG ZK TH ZL TI
  obtain⟨pxv,rfl,-⟩:∃l:List T3,Zf=bD l∧∀x ∈ l,True:=jy fun r hr=>by
   refine eR (T:=tt) 3 47 (fun r=>∃x:T3,r=t3 x∧True) r ?_ (Zg r hr)
   intro a _ b _ c _
   exact⟨⟨a,b,c⟩,rfl,trivial⟩
  obtain⟨ZM,rfl,-⟩:∃l:List (Int × Int),Tr=dL l∧∀x ∈ l,True:=jy fun r hr=>by
   refine eR (T:=tt) 3 118 (fun r=>∃x:Int × Int,r=p2 x∧True) r ?_ (Ts r hr)
   intro a _ b _
   exact⟨(a,b),rfl,trivial⟩
  obtain⟨pxt,rfl,-⟩:∃l:List T3,Zh=bD l∧∀x ∈ l,True:=jy fun r hr=>by
   refine eR (T:=tt) 3 43 (fun r=>∃x:T3,r=t3 x∧True) r ?_ (Zi r hr)
   intro a _ b _ c _
   exact⟨⟨a,b,c⟩,rfl,trivial⟩
  obtain⟨pxx,rfl,-⟩:∃l:List T3,Zj=bD l∧∀x ∈ l,True:=jy fun r hr=>by
   refine eR (T:=tt) 3 43 (fun r=>∃x:T3,r=t3 x∧True) r ?_ (Zk r hr)
   intro a _ b _ c _
   exact⟨⟨a,b,c⟩,rfl,trivial⟩
  exact⟨⟨pk,ph,⟨pf0,pf1,pf2,pf3,pf4,pf5,pf6,pf7,pf8,pf9,Za,Zb,Zc,Zd,Ze⟩,⟨pxk,⟨pxv,ZM,pxt⟩,⟨pxs,pxx⟩,⟨Zl,⟨Zm,Zn,Zo⟩,Zp⟩,⟨Zq,⟨Zr,Zs,Zt⟩,⟨Zu,Zv,Zw⟩,⟨Zx,Zy,Zz⟩,⟨Tt,Tu,Tv⟩⟩⟩,⟨pye,pya,pyo,pyn,⟨ZA,ZB,ZC,ZD,ZE,ZF,ZG,ZH,ZI,⟨ZJ,ZK,ZL⟩⟩⟩⟩,rfl,⟨Tw,Tx,Ty,Tz,TA,TB,TC,TE,TF,⟨TG,TH,TI⟩⟩⟩
 exact CD (R:=R) Y' Tp clI No Tq IB l hx
theorem nS (os:Os) (started:os.Started) (H:Type) (bX:TypeId × Value→H):
  ReturnsInHanded {} Tryz.checked os 7 .any (Rows.tablePlaysSpec.pre6 bX Tryz.prog Tryz.f7 Rows.tablePlaysRow.domain false) (Rows.tablePlaysSpec.post bX Tryz.prog Tryz.f7 false true false false):=
 Es (C:=Tryz.checked) (T:=tt) (n:=8) (tb:=4) hT.tt own started (by kernel_rfl) Tryz.func7
  (ChangeSpec.witness6 (enc:=bX) (C:=Tryz.checked) false ⟨#[],#[.slice none 0 0],[]⟩ 8 (by kernel_rfl) (by kernel_rfl) (by kernel_rfl) (by kernel_rfl))
  laid (by kernel_rfl) rfl (fun ds h=>by match ds,h with|[_],_=>rfl) rfl Tryz.underlying4 sm
theorem tablePlays_holds:Rows.TablePlaysSaid:=
 OpenClaim.holds_of_wide 7 Tryz.f7 rfl rfl rfl rfl rfl rfl rfl ⟨rfl,rfl,rfl,rfl,rfl⟩ rfl rfl rfl rfl rfl (by kernel_rfl) Tryz.func7 (by kernel_rfl)
  (of_decide_eq_true (by kernel_rfl)) (by unfold Func.isWrapper; first|(rw[if_pos (by decide+kernel)]; kernel_rfl)|(rw[if_neg (by decide+kernel)]; exact⟨rfl,rfl⟩))
  (fun os started H bX _=>nS os started H bX)
end Go.Proofs.YtahjfplikclhlaaGreat
