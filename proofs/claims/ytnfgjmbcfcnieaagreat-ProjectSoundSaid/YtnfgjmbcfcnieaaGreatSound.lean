/- ProjectSound holds: for every input the law returns true and leaves what came in as it was. No condition. -/
import Derived.Test.YtnfgjmbcfcnieaaGreatRows
import Derived.Test.YtnfgjmbcfcnieaaGreatEnv
import Derived.Test.YtnfgjmbcfcnieaaGreatLib
import Derived.Test.YtnfgjmbcfcnieaaGreatU3
import Derived.Test.YtnfgjmbcfcnieaaGreatK3
import Derived.ProofKit
namespace Go.Proofs.YtnfgjmbcfcnieaaGreat
open Go.AM Go.UM
set_option maxRecDepth 100000
theorem own:ownKnob Tryz.prog.godebug=none:=by kernel_rfl
theorem laid:laidOutB Tryz.prog=true:=by kernel_rfl
theorem qe (gq:List AV) (hc:DK tt 8 Tryz.f4.params.toList gq):gf true Tryz.prog 4 gq (.bool true):=by
 refine vT (T:=tt) (n:=8) (ts:=[22,3]) (K:=fun gq=>gf true Tryz.prog 4 gq (.bool true)) ?_ hc
 intro ls _ hls
 obtain⟨l,rfl,hx⟩:∃l:List Ac,ls=xM l∧∀c ∈ l,c.I:=kj fun r hr=>by
  refine fL (T:=tt) 7 53 (fun r=>∃x:Ac,r=x.row∧x.I) r ?_ (hls r hr)
  intro pk _ ph _ pf0 ac8 pf1 agE pf2 ac9 pf3 ac' pf4 ada pf5 adb pf6 ade pf7 adf pf8 adg pf9 adh adi WN adj WO adk WP adl afa adm afb pxk _ adn _ ado WQ _ WR adp _ adq pxs _ ads _ adt adu _ adv _ adw _ adx _ ady _ adz _ adA _ adB _ adC _ adD _ adE _ adF _ adG _ adH _ adI _ WS _ WT _ WU _ pye _ pya _ pyo _ pyn _ adJ WV adK WW adL WX adM WY adN WZ adO W4 adP W5 adQ W6 adR W7 adS W8 adT W9 adU Xa
  obtain⟨pxv,rfl,-⟩:∃l:List T3,adn=bJ l∧∀x ∈ l,True:=kj fun r hr=>by
   refine fL (T:=tt) 3 39 (fun r=>∃x:T3,r=t3 x∧True) r ?_ (ado r hr)
   intro a _ b _ c _
   exact⟨⟨a,b,c⟩,rfl,trivial⟩
  obtain⟨adV,rfl,-⟩:∃l:List (Int × Int),WQ=cV l∧∀x ∈ l,True:=kj fun r hr=>by
   refine fL (T:=tt) 3 74 (fun r=>∃x:(Int × Int),r=p2 x∧True) r ?_ (WR r hr)
   intro a _ b _
   exact⟨(a,b),rfl,trivial⟩
  obtain⟨pxt,rfl,-⟩:∃l:List T3,adp=bJ l∧∀x ∈ l,True:=kj fun r hr=>by
   refine fL (T:=tt) 3 35 (fun r=>∃x:T3,r=t3 x∧True) r ?_ (adq r hr)
   intro a _ b _ c _
   exact⟨⟨a,b,c⟩,rfl,trivial⟩
  obtain⟨pxx,rfl,-⟩:∃l:List T3,ads=bJ l∧∀x ∈ l,True:=kj fun r hr=>by
   refine fL (T:=tt) 3 35 (fun r=>∃x:T3,r=t3 x∧True) r ?_ (adt r hr)
   intro a _ b _ c _
   exact⟨⟨a,b,c⟩,rfl,trivial⟩
  exact⟨⟨pk,ph,⟨pf0,pf1,pf2,pf3,pf4,pf5,pf6,pf7,pf8,pf9,adi,adj,adk,adl,adm⟩,⟨pxk,⟨pxv,adV,pxt⟩,⟨pxs,pxx⟩,⟨adu,⟨adv,adw,adx⟩,ady⟩,⟨adz,⟨adA,adB,adC⟩,⟨adD,adE,adF⟩,⟨adG,adH,adI⟩,⟨WS,WT,WU⟩⟩⟩,⟨pye,pya,pyo,pyn,⟨adJ,adK,adL,adM,adN,adO,adP,adQ,adR,⟨adS,adT,adU⟩⟩⟩⟩,rfl,⟨⟨WV,WW,WX,WY,WZ,W4,W5,W6,W7,⟨W8,W9,Xa⟩⟩,aaU ac8 ac9 ac' ada adb ade adf adg adh WN WO WP⟩⟩
 intro ly hly
 exact Iq (R:=R) ac7 WL clI QB WM Ll l hx ly hly
theorem mR (os:Os) (started:os.Started) (H:Type) (enc:TypeId × Value→H):
  ReturnsInHanded {} Tryz.checked os 4 .any (Rows.projectSoundSpec.pre6 enc Tryz.prog Tryz.f4 Rows.projectSoundRow.domain false) (Rows.projectSoundSpec.post enc Tryz.prog Tryz.f4 false true false false):=
 GM (C:=Tryz.checked) (T:=tt) (n:=8) (tb:=4) hT.tt own started (by kernel_rfl) Tryz.func4
  (ChangeSpec.witness6 (enc:=enc) (C:=Tryz.checked) false ⟨#[],#[.slice none 0 0,.int .i64 0],[]⟩ 8 (by kernel_rfl) (by kernel_rfl) (by kernel_rfl) (by kernel_rfl))
  laid (by kernel_rfl) rfl (fun ds h=>by match ds,h with|[_,_],_=>rfl) rfl Tryz.underlying4 qe
theorem projectSound_holds:Rows.ProjectSoundSaid:=
 OpenClaim.holds_of_wide 4 Tryz.f4 rfl rfl rfl rfl rfl rfl rfl ⟨rfl,rfl,rfl,rfl,rfl⟩ rfl rfl rfl rfl rfl (by kernel_rfl) Tryz.func4 (by kernel_rfl)
  (of_decide_eq_true (by kernel_rfl)) (by unfold Func.isWrapper; first|(rw[if_pos (by decide+kernel)]; kernel_rfl)|(rw[if_neg (by decide+kernel)]; exact⟨rfl,rfl⟩))
  (fun os started H enc _=>mR os started H enc)
end Go.Proofs.YtnfgjmbcfcnieaaGreat
