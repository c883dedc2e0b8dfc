/- ProjectHides holds: for every input the law returns true and leaves what came in as it was. No condition. -/
import Derived.Test.YtnfgjmbcfcnieaaGreatRows
import Derived.Test.YtnfgjmbcfcnieaaGreatEnv
import Derived.Test.YtnfgjmbcfcnieaaGreatLib
import Derived.Test.YtnfgjmbcfcnieaaGreatU2
import Derived.Test.YtnfgjmbcfcnieaaGreatK3
import Derived.ProofKit
namespace Go.Proofs.YtnfgjmbcfcnieaaGreat
open Go.AM Go.UM
set_option maxRecDepth 100000
theorem own:ownKnob Tryz.prog.godebug=none:=by kernel_rfl
theorem laid:laidOutB Tryz.prog=true:=by kernel_rfl
theorem qH (gC:List AV) (hc:EF tt 8 Tryz.f3.params.toList gC):gq true Tryz.prog 3 gC (.bool true):=by
 refine wD (T:=tt) (n:=8) (ts:=[22,3]) (K:=fun gC=>gq true Tryz.prog 3 gC (.bool true)) ?_ hc
 intro ls _ hls
 obtain⟨l,rfl,hx⟩:∃l:List Ac,ls=jy l/\∀c ∈ l,c.I:=kJ fun r hr=>by
  refine fR (T:=tt) 7 53 (fun r=>∃x:Ac,r=x.row/\x.I) r ?_ (hls r hr)
  intro pk _ ph _ pf0 aeh pf1 ah0 pf2 aei pf3 aej pf4 aek pf5 ael pf6 aem pf7 aen pf8 aeo pf9 aep aeq XW aer XX aes XY aet ago aeu agp pxk _ aev _ aew XZ _ X0 aex _ aey pxs _ aez _ aeA aeB _ aeC _ aeD _ aeE _ aeF _ aeG _ aeH _ aeI _ aeJ _ aeK _ aeL _ aeM _ aeN _ aeO _ aeP _ X1 _ X2 _ X3 _ pye _ pya _ pyo _ pyn _ aeQ X4 aeR X5 aeS X6 aeT X7 aeU X8 aeV X9 aeW X' aeX Ya aeY Yb aeZ Yc ae0 Yd ae1 Ye
  obtain⟨pxv,rfl,-⟩:∃l:List T3,aev=bJ l/\∀x ∈ l,True:=kJ fun r hr=>by
   refine fR (T:=tt) 3 39 (fun r=>∃x:T3,r=t3 x/\True) r ?_ (aew r hr)
   intro a _ b _ c _
   exact⟨⟨a,b,c⟩,rfl,trivial⟩
  obtain⟨ae2,rfl,-⟩:∃l:List (Int × Int),XZ=cW l/\∀x ∈ l,True:=kJ fun r hr=>by
   refine fR (T:=tt) 3 74 (fun r=>∃x:(Int × Int),r=p2 x/\True) r ?_ (X0 r hr)
   intro a _ b _
   exact⟨(a,b),rfl,trivial⟩
  obtain⟨pxt,rfl,-⟩:∃l:List T3,aex=bJ l/\∀x ∈ l,True:=kJ fun r hr=>by
   refine fR (T:=tt) 3 35 (fun r=>∃x:T3,r=t3 x/\True) r ?_ (aey r hr)
   intro a _ b _ c _
   exact⟨⟨a,b,c⟩,rfl,trivial⟩
  obtain⟨pxx,rfl,-⟩:∃l:List T3,aez=bJ l/\∀x ∈ l,True:=kJ fun r hr=>by
   refine fR (T:=tt) 3 35 (fun r=>∃x:T3,r=t3 x/\True) r ?_ (aeA r hr)
   intro a _ b _ c _
   exact⟨⟨a,b,c⟩,rfl,trivial⟩
  exact⟨⟨pk,ph,⟨pf0,pf1,pf2,pf3,pf4,pf5,pf6,pf7,pf8,pf9,aeq,aer,aes,aet,aeu⟩,⟨pxk,⟨pxv,ae2,pxt⟩,⟨pxs,pxx⟩,⟨aeB,⟨aeC,aeD,aeE⟩,aeF⟩,⟨aeG,⟨aeH,aeI,aeJ⟩,⟨aeK,aeL,aeM⟩,⟨aeN,aeO,aeP⟩,⟨X1,X2,X3⟩⟩⟩,⟨pye,pya,pyo,pyn,⟨aeQ,aeR,aeS,aeT,aeU,aeV,aeW,aeX,aeY,⟨aeZ,ae0,ae1⟩⟩⟩⟩,rfl,⟨⟨X4,X5,X6,X7,X8,X9,X',Ya,Yb,⟨Yc,Yd,Ye⟩⟩,ab0 aeh aei aej aek ael aem aen aeo aep XW XX XY⟩⟩
 intro ly XS
 exact Ji (R:=R) aeg XU clI RG XV Mr l hx ly XS
theorem nI (os:Os) (started:os.Started) (H:Type) (enc:TypeId × Value->H):
  ReturnsInHanded {} Tryz.checked os 3 .any (Rows.projectHidesSpec.pre6 enc Tryz.prog Tryz.f3 Rows.projectHidesRow.domain false) (Rows.projectHidesSpec.post enc Tryz.prog Tryz.f3 false true false false):=
 HA (C:=Tryz.checked) (T:=tt) (n:=8) (tb:=4) hT.tt own started (by kernel_rfl) Tryz.func3
  (ChangeSpec.witness6 (enc:=enc) (C:=Tryz.checked) false ⟨#[],#[.slice none 0 0,.int .i64 0],[]⟩ 8 (by kernel_rfl) (by kernel_rfl) (by kernel_rfl) (by kernel_rfl))
  laid (by kernel_rfl) rfl (fun ds h=>by match ds,h with|[_,_],_=>rfl) rfl Tryz.underlying4 qH
theorem projectHides_holds:Rows.ProjectHidesSaid:=
 OpenClaim.holds_of_wide 3 Tryz.f3 rfl rfl rfl rfl rfl rfl rfl ⟨rfl,rfl,rfl,rfl,rfl⟩ rfl rfl rfl rfl rfl (by kernel_rfl) Tryz.func3 (by kernel_rfl)
  (of_decide_eq_true (by kernel_rfl)) (by unfold Func.isWrapper; first|(rw[if_pos (by decide+kernel)]; kernel_rfl)|(rw[if_neg (by decide+kernel)]; exact⟨rfl,rfl⟩))
  (fun os started H enc _=>nI os started H enc)
end Go.Proofs.YtnfgjmbcfcnieaaGreat
