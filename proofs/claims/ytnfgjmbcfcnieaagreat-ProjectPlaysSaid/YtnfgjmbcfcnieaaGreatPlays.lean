/- ProjectPlays holds: for every input the law returns true and leaves what came in as it was. No condition. -/
import Derived.Test.YtnfgjmbcfcnieaaGreatRows
import Derived.Test.YtnfgjmbcfcnieaaGreatEnv
import Derived.Test.YtnfgjmbcfcnieaaGreatLib
import Derived.Test.YtnfgjmbcfcnieaaGreatU3
import Derived.Test.YtnfgjmbcfcnieaaGreatK3
import Derived.ProofKit
namespace Go.Proofs.YtnfgjmbcfcnieaaGreat
open Go.AM Go.UM
set_option maxRecDepth 100000
theorem own:ownKnob Tryz.prog.godebug=none:=by kernel_rfl
theorem laid:laidOutB Tryz.prog=true:=by kernel_rfl
theorem qx(ff:List AV)(hc:E3 tt 8 Tryz.f6.params.toList ff):gH true Tryz.prog 6 ff (.bool true):=by
 refine wB (T:=tt) (n:=8) (ts:=[22,3,3]) (K:=fun ff=>gH true Tryz.prog 6 ff (.bool true)) ?_ hc
 intro ls _ hls
 obtain⟨l,rfl,hx⟩:∃l:List Ac,ls=Cq l/\∀c ∈ l,c.I:=kM fun r hr=>by
  refine gi (T:=tt) 7 53 (fun r=>∃x:Ac,r=x.row/\x.I) r ?_ (hls r hr)
  intro pk _ ph _ pf0 ae7 pf1 aiG pf2 ae8 pf3 ae9 pf4 ae' pf5 afa pf6 afb pf7 afc pf8 afd pf9 afe aff YD afg YE afh YF afi ag7 afj ag8 pxk _ afk _ afl YG _ YH afm _ afn pxs _ afo _ afp afq _ afr _ afs _ aft _ afu _ afw _ afx _ afy _ afz _ afA _ afB _ afC _ afD _ afE _ afF _ YI _ YJ _ YK _ pye _ pya _ pyo _ pyn _ afG YL afH YM afI YN afJ YO afK YP afL YQ afM YR afN YS afO YT afP YU afQ YV afR YW
  obtain⟨pxv,rfl,-⟩:∃l:List T3,afk=bW l/\∀x ∈ l,True:=kM fun r hr=>by
   refine gi (T:=tt) 3 39 (fun r=>∃x:T3,r=t3 x/\True) r ?_ (afl r hr)
   intro a _ b _ c _
   exact⟨⟨a,b,c⟩,rfl,trivial⟩
  obtain⟨afS,rfl,-⟩:∃l:List (Int × Int),YG=dH l/\∀x ∈ l,True:=kM fun r hr=>by
   refine gi (T:=tt) 3 74 (fun r=>∃x:(Int × Int),r=p2 x/\True) r ?_ (YH r hr)
   intro a _ b _
   exact⟨(a,b),rfl,trivial⟩
  obtain⟨pxt,rfl,-⟩:∃l:List T3,afm=bW l/\∀x ∈ l,True:=kM fun r hr=>by
   refine gi (T:=tt) 3 35 (fun r=>∃x:T3,r=t3 x/\True) r ?_ (afn r hr)
   intro a _ b _ c _
   exact⟨⟨a,b,c⟩,rfl,trivial⟩
  obtain⟨pxx,rfl,-⟩:∃l:List T3,afo=bW l/\∀x ∈ l,True:=kM fun r hr=>by
   refine gi (T:=tt) 3 35 (fun r=>∃x:T3,r=t3 x/\True) r ?_ (afp r hr)
   intro a _ b _ c _
   exact⟨⟨a,b,c⟩,rfl,trivial⟩
  exact⟨⟨pk,ph,⟨pf0,pf1,pf2,pf3,pf4,pf5,pf6,pf7,pf8,pf9,aff,afg,afh,afi,afj⟩,⟨pxk,⟨pxv,afS,pxt⟩,⟨pxs,pxx⟩,⟨afq,⟨afr,afs,aft⟩,afu⟩,⟨afw,⟨afx,afy,afz⟩,⟨afA,afB,afC⟩,⟨afD,afE,afF⟩,⟨YI,YJ,YK⟩⟩⟩,⟨pye,pya,pyo,pyn,⟨afG,afH,afI,afJ,afK,afL,afM,afN,afO,⟨afP,afQ,afR⟩⟩⟩⟩,rfl,⟨⟨YL,YM,YN,YO,YP,YQ,YR,YS,YT,⟨YU,YV,YW⟩⟩,acG ae7 ae8 ae9 ae' afa afb afc afd afe YD YE YF⟩⟩
 intro ly _ cs _
 exact JE (R:=R) ae6 YB clI Sr YC M9 l hx ly cs
theorem nC(os:Os)(started:os.Started)(H:Type)(enc:TypeId × Value->H):
  ReturnsInHanded {} Tryz.checked os 6 .any (Rows.projectPlaysSpec.pre6 enc Tryz.prog Tryz.f6 Rows.projectPlaysRow.domain false) (Rows.projectPlaysSpec.post enc Tryz.prog Tryz.f6 false true false false):=
 HW (C:=Tryz.checked) (T:=tt) (n:=8) (tb:=4) hT.tt own started (by kernel_rfl) Tryz.func6
  (ChangeSpec.witness6 (enc:=enc) (C:=Tryz.checked) false ⟨#[],#[.slice none 0 0,.int .i64 0,.int .i64 0],[]⟩ 8 (by kernel_rfl) (by kernel_rfl) (by kernel_rfl) (by kernel_rfl))
  laid (by kernel_rfl) rfl (fun ds h=>by match ds,h with|[_,_,_],_=>rfl) rfl Tryz.underlying4 qx
theorem projectPlays_holds:Rows.ProjectPlaysSaid:=
 OpenClaim.holds_of_wide 6 Tryz.f6 rfl rfl rfl rfl rfl rfl rfl ⟨rfl,rfl,rfl,rfl,rfl⟩ rfl rfl rfl rfl rfl (by kernel_rfl) Tryz.func6 (by kernel_rfl)
  (of_decide_eq_true (by kernel_rfl)) (by unfold Func.isWrapper; first|(rw[if_pos (by decide+kernel)]; kernel_rfl)|(rw[if_neg (by decide+kernel)]; exact⟨rfl,rfl⟩))
  (fun os started H enc _=>nC os started H enc)
end Go.Proofs.YtnfgjmbcfcnieaaGreat
