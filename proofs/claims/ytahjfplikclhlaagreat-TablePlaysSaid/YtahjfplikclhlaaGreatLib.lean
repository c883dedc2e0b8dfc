/- What the library says of its sorts holds at this program: the numbers of its functions, and one application each. No condition. -/
import Derived.Shelf.SlIterI.Nil
import Derived.Shelf.SortM.Plain
import Derived.Shelf.SortM.SortNone
import Derived.Shelf.SlSortCmp.NoneTotal
import Derived.Shelf.SlGeneric
import Derived.Ground.SlsfProg
import Derived.Ground.GgzProg
import Derived.Ground.SlgmProg
import Derived.Shelf.SlMaps.Clone
import Derived.Ground.SlmcProg
import Derived.Test.YtahjfplikclhlaaGreatProg
import Derived.Test.YtahjfplikclhlaaGreatEnv
import Derived.Test.YtahjfplikclhlaaGreatU2
namespace Go.Proofs
open Go.Shelf
def Tryz.sk:Go.Shelf.Ren:=⟨fun|6=>28|15=>55|14=>54|28=>87|29=>88|20=>79|21=>80|22=>81|23=>82|24=>83|25=>84|26=>85|27=>86|46=>130|47=>131|48=>132|49=>133|50=>134|57=>164|n=>n,fun|22=>27|24=>59|25=>97|3=>3|39=>122|0=>0|53=>32|55=>31|4=>4|46=>143|45=>142|50=>147|5=>5|9=>9|66=>188|70=>192|76=>222|77=>223|n=>n,fun|n=>n⟩
theorem Tryz.Nj:Go.Proofs.SlLaysF0.n6 Tryz.prog Tryz.sk:= {
 mixed:=by kernel_rfl
 f6:=⟨Tryz.f28.name,by decide,Tryz.func28.trans (congrArg some (by kernel_rfl))⟩
 f14:=⟨Tryz.f54.name,by decide,Tryz.func54.trans (congrArg some (by kernel_rfl))⟩
 f15:=Tryz.func55.trans (congrArg some (by kernel_rfl))
 f20:=⟨Tryz.f79.name,by decide,Tryz.func79.trans (congrArg some (by kernel_rfl))⟩
 f21:=⟨Tryz.f80.name,by decide,Tryz.func80.trans (congrArg some (by kernel_rfl))⟩
 f22:=⟨Tryz.f81.name,by decide,Tryz.func81.trans (congrArg some (by kernel_rfl))⟩
 f23:=⟨Tryz.f82.name,by decide,Tryz.func82.trans (congrArg some (by kernel_rfl))⟩
 f24:=⟨Tryz.f83.name,by decide,Tryz.func83.trans (congrArg some (by kernel_rfl))⟩
 f25:=⟨Tryz.f84.name,by decide,Tryz.func84.trans (congrArg some (by kernel_rfl))⟩
 f26:=⟨Tryz.f85.name,by decide,Tryz.func85.trans (congrArg some (by kernel_rfl))⟩
 f27:=⟨Tryz.f86.name,by decide,Tryz.func86.trans (congrArg some (by kernel_rfl))⟩
 f28:=Tryz.func87.trans (congrArg some (by kernel_rfl))
 f29:=Tryz.func88.trans (congrArg some (by kernel_rfl))
 f46:=⟨Tryz.f130.name,by decide,Tryz.func130.trans (congrArg some (by kernel_rfl))⟩
 f47:=Tryz.func131.trans (congrArg some (by kernel_rfl))
 f48:=Tryz.func132.trans (congrArg some (by kernel_rfl))
 f49:=⟨Tryz.f133.name,by decide,Tryz.func133.trans (congrArg some (by kernel_rfl))⟩
 f50:=⟨Tryz.f134.name,by decide,Tryz.func134.trans (congrArg some (by kernel_rfl))⟩
 f57:=⟨Tryz.f164.name,by decide,Tryz.func164.trans (congrArg some (by kernel_rfl))⟩
 t0:=Tryz.underlying0
 a0:=Tryz.isAgg0
 z0:=Tryz.sizeOf0
 v0:=Tryz.zeroValue0
 t3:=Tryz.underlying3
 a3:=Tryz.isAgg3
 z3:=Tryz.sizeOf3
 v3:=Tryz.zeroValue3
 t4:=Tryz.underlying4
 a4:=Tryz.isAgg4
 z4:=Tryz.sizeOf4
 v4:=Tryz.zeroValue4
 t5:=Tryz.underlying5
 a5:=Tryz.isAgg5
 z5:=Tryz.sizeOf5
 v5:=Tryz.zeroValue5
 t9:=Tryz.underlying9
 a9:=Tryz.isAgg9
 z9:=Tryz.sizeOf9
 v9:=Tryz.zeroValue9
 t22:=Tryz.underlying27
 a22:=Tryz.isAgg27
 z22:=Tryz.sizeOf27
 v22:=Tryz.zeroValue27
 t25:=Tryz.underlying97
 a25:=Tryz.isAgg97
 z25:=Tryz.sizeOf97
 v25:=Tryz.zeroValue97
 t39:=Tryz.underlying122
 a39:=Tryz.isAgg122
 z39:=Tryz.sizeOf122
 v39:=Tryz.zeroValue122
 t45:=Tryz.underlying142
 a45:=Tryz.isAgg142
 z45:=Tryz.sizeOf142
 v45:=Tryz.zeroValue142
 t46:=Tryz.underlying143
 a46:=Tryz.isAgg143
 z46:=Tryz.sizeOf143
 v46:=Tryz.zeroValue143
 t50:=Tryz.underlying147
 a50:=Tryz.isAgg147
 z50:=Tryz.sizeOf147
 v50:=Tryz.zeroValue147
 t53:=Tryz.underlying32
 a53:=Tryz.isAgg32
 z53:=Tryz.sizeOf32
 v53:=Tryz.zeroValue32
 t55:=Tryz.underlying31
 a55:=Tryz.isAgg31
 z55:=Tryz.sizeOf31
 v55:=Tryz.zeroValue31
 t66:=Tryz.underlying188
 a66:=Tryz.isAgg188
 z66:=Tryz.sizeOf188
 v66:=Tryz.zeroValue188
 t70:=Tryz.underlying192
 a70:=Tryz.isAgg192
 z70:=Tryz.sizeOf192
 v70:=Tryz.zeroValue192
 t76:=Tryz.underlying222
 a76:=Tryz.isAgg222
 z76:=Tryz.sizeOf222
 v76:=Tryz.zeroValue222
 t77:=Tryz.underlying223
 a77:=Tryz.isAgg223
 z77:=Tryz.sizeOf223
 v77:=Tryz.zeroValue223}
def Tryz.uz:Go.Shelf.Ren:=⟨fun|7=>26|10=>50|n=>n,fun|23=>82|26=>3|3=>70|28=>89|0=>0|27=>88|33=>115|4=>4|n=>n,fun|n=>n⟩
theorem Tryz.To:Go.Proofs.SlLaysZI.n7 Tryz.prog Tryz.uz:= {
 mixed:=by kernel_rfl
 f7:=⟨Tryz.f26.name,by decide,Tryz.func26.trans (congrArg some (by kernel_rfl))⟩
 f10:=⟨Tryz.f50.name,by decide,Tryz.func50.trans (congrArg some (by kernel_rfl))⟩
 t0:=Tryz.underlying0
 a0:=Tryz.isAgg0
 z0:=Tryz.sizeOf0
 v0:=Tryz.zeroValue0
 t4:=Tryz.underlying4
 a4:=Tryz.isAgg4
 z4:=Tryz.sizeOf4
 v4:=Tryz.zeroValue4
 t23:=Tryz.underlying82
 a23:=Tryz.isAgg82
 z23:=Tryz.sizeOf82
 v23:=Tryz.zeroValue82
 t26:=Tryz.underlying3
 a26:=Tryz.isAgg3
 z26:=Tryz.sizeOf3
 v26:=Tryz.zeroValue3
 t27:=Tryz.underlying88
 a27:=Tryz.isAgg88
 z27:=Tryz.sizeOf88
 v27:=Tryz.zeroValue88
 t28:=Tryz.underlying89
 a28:=Tryz.isAgg89
 z28:=Tryz.sizeOf89
 v28:=Tryz.zeroValue89
 t33:=Tryz.underlying115
 a33:=Tryz.isAgg115
 z33:=Tryz.sizeOf115
 v33:=Tryz.zeroValue115}
def Tryz.pD:Go.Shelf.Ren:=⟨fun|6=>25|8=>48|9=>49|11=>77|13=>55|12=>78|23=>87|24=>88|14=>121|15=>122|16=>123|17=>124|18=>125|19=>126|20=>127|21=>128|22=>129|25=>161|26=>131|27=>132|28=>162|29=>163|30=>89|31=>182|n=>n,fun|26=>3|28=>89|24=>86|0=>0|3=>3|37=>122|48=>32|50=>31|4=>4|40=>143|39=>142|45=>147|5=>5|9=>9|51=>188|55=>192|57=>222|58=>223|33=>115|n=>n,fun|n=>n⟩
theorem Tryz.Iz:Go.Proofs.SlLaysZI.n6 Tryz.prog Tryz.pD:= {
 mixed:=by kernel_rfl
 f6:=⟨Tryz.f25.name,by decide,Tryz.func25.trans (congrArg some (by kernel_rfl))⟩
 f8:=⟨Tryz.f48.name,by decide,Tryz.func48.trans (congrArg some (by kernel_rfl))⟩
 f11:=⟨Tryz.f77.name,by decide,Tryz.func77.trans (congrArg some (by kernel_rfl))⟩
 t0:=Tryz.underlying0
 a0:=Tryz.isAgg0
 z0:=Tryz.sizeOf0
 v0:=Tryz.zeroValue0
 t24:=Tryz.underlying86
 a24:=Tryz.isAgg86
 z24:=Tryz.sizeOf86
 v24:=Tryz.zeroValue86
 t26:=Tryz.underlying3
 a26:=Tryz.isAgg3
 z26:=Tryz.sizeOf3
 v26:=Tryz.zeroValue3
 t28:=Tryz.underlying89
 a28:=Tryz.isAgg89
 z28:=Tryz.sizeOf89
 v28:=Tryz.zeroValue89
 i26:=by kernel_rfl}
def Tryz.CF:Go.Shelf.Ren:=⟨fun|5=>49|8=>55|7=>78|19=>87|20=>88|10=>121|11=>122|12=>123|13=>124|14=>125|15=>126|16=>127|17=>128|18=>129|30=>161|31=>131|32=>132|33=>162|34=>163|35=>89|40=>182|n=>n,fun|23=>86|25=>3|3=>3|32=>122|22=>86|0=>0|44=>32|46=>31|4=>4|36=>143|35=>142|41=>147|5=>5|9=>9|53=>188|57=>192|63=>222|64=>223|n=>n,fun|n=>n⟩
theorem Tryz.Jt:Go.Proofs.SlLaysM.n5 Tryz.prog Tryz.CF:= {
 mixed:=by kernel_rfl
 f5:=⟨Tryz.f49.name,by decide,Tryz.func49.trans (congrArg some (by kernel_rfl))⟩
 f7:=⟨Tryz.f78.name,by decide,Tryz.func78.trans (congrArg some (by kernel_rfl))⟩
 f8:=Tryz.func55.trans (congrArg some (by kernel_rfl))
 f10:=⟨Tryz.f121.name,by decide,Tryz.func121.trans (congrArg some (by kernel_rfl))⟩
 f11:=⟨Tryz.f122.name,by decide,Tryz.func122.trans (congrArg some (by kernel_rfl))⟩
 f12:=⟨Tryz.f123.name,by decide,Tryz.func123.trans (congrArg some (by kernel_rfl))⟩
 f13:=⟨Tryz.f124.name,by decide,Tryz.func124.trans (congrArg some (by kernel_rfl))⟩
 f14:=⟨Tryz.f125.name,by decide,Tryz.func125.trans (congrArg some (by kernel_rfl))⟩
 f15:=⟨Tryz.f126.name,by decide,Tryz.func126.trans (congrArg some (by kernel_rfl))⟩
 f16:=⟨Tryz.f127.name,by decide,Tryz.func127.trans (congrArg some (by kernel_rfl))⟩
 f17:=⟨Tryz.f128.name,by decide,Tryz.func128.trans (congrArg some (by kernel_rfl))⟩
 f18:=⟨Tryz.f129.name,by decide,Tryz.func129.trans (congrArg some (by kernel_rfl))⟩
 f19:=Tryz.func87.trans (congrArg some (by kernel_rfl))
 f20:=Tryz.func88.trans (congrArg some (by kernel_rfl))
 f30:=⟨Tryz.f161.name,by decide,Tryz.func161.trans (congrArg some (by kernel_rfl))⟩
 f31:=Tryz.func131.trans (congrArg some (by kernel_rfl))
 f32:=Tryz.func132.trans (congrArg some (by kernel_rfl))
 f33:=⟨Tryz.f162.name,by decide,Tryz.func162.trans (congrArg some (by kernel_rfl))⟩
 f34:=⟨Tryz.f163.name,by decide,Tryz.func163.trans (congrArg some (by kernel_rfl))⟩
 f35:=⟨Tryz.f89.name,by decide,Tryz.func89.trans (congrArg some (by kernel_rfl))⟩
 f40:=⟨Tryz.f182.name,by decide,Tryz.func182.trans (congrArg some (by kernel_rfl))⟩
 t0:=Tryz.underlying0
 a0:=Tryz.isAgg0
 z0:=Tryz.sizeOf0
 v0:=Tryz.zeroValue0
 t3:=Tryz.underlying3
 a3:=Tryz.isAgg3
 z3:=Tryz.sizeOf3
 v3:=Tryz.zeroValue3
 t4:=Tryz.underlying4
 a4:=Tryz.isAgg4
 z4:=Tryz.sizeOf4
 v4:=Tryz.zeroValue4
 t5:=Tryz.underlying5
 a5:=Tryz.isAgg5
 z5:=Tryz.sizeOf5
 v5:=Tryz.zeroValue5
 t9:=Tryz.underlying9
 a9:=Tryz.isAgg9
 z9:=Tryz.sizeOf9
 v9:=Tryz.zeroValue9
 t22:=Tryz.underlying86
 a22:=Tryz.isAgg86
 z22:=Tryz.sizeOf86
 v22:=Tryz.zeroValue86
 t23:=Tryz.underlying86
 a23:=Tryz.isAgg86
 z23:=Tryz.sizeOf86
 v23:=Tryz.zeroValue86
 t25:=Tryz.underlying3
 a25:=Tryz.isAgg3
 z25:=Tryz.sizeOf3
 v25:=Tryz.zeroValue3
 t32:=Tryz.underlying122
 a32:=Tryz.isAgg122
 z32:=Tryz.sizeOf122
 v32:=Tryz.zeroValue122
 t35:=Tryz.underlying142
 a35:=Tryz.isAgg142
 z35:=Tryz.sizeOf142
 v35:=Tryz.zeroValue142
 t36:=Tryz.underlying143
 a36:=Tryz.isAgg143
 z36:=Tryz.sizeOf143
 v36:=Tryz.zeroValue143
 t41:=Tryz.underlying147
 a41:=Tryz.isAgg147
 z41:=Tryz.sizeOf147
 v41:=Tryz.zeroValue147
 t44:=Tryz.underlying32
 a44:=Tryz.isAgg32
 z44:=Tryz.sizeOf32
 v44:=Tryz.zeroValue32
 t46:=Tryz.underlying31
 a46:=Tryz.isAgg31
 z46:=Tryz.sizeOf31
 v46:=Tryz.zeroValue31
 t53:=Tryz.underlying188
 a53:=Tryz.isAgg188
 z53:=Tryz.sizeOf188
 v53:=Tryz.zeroValue188
 t57:=Tryz.underlying192
 a57:=Tryz.isAgg192
 z57:=Tryz.sizeOf192
 v57:=Tryz.zeroValue192
 t63:=Tryz.underlying222
 a63:=Tryz.isAgg222
 z63:=Tryz.sizeOf222
 v63:=Tryz.zeroValue222
 t64:=Tryz.underlying223
 a64:=Tryz.isAgg223
 z64:=Tryz.sizeOf223
 v64:=Tryz.zeroValue223}
def Tryz.zC:Go.Shelf.Ren:=⟨fun|5=>41|7=>66|n=>n,fun|23=>82|25=>3|3=>70|4=>4|20=>20|n=>n,fun|n=>n⟩
theorem Tryz.Nk:Go.Proofs.SlLaysW.n5 Tryz.prog Tryz.zC:= {
 mixed:=by kernel_rfl
 f5:=⟨Tryz.f41.name,by decide,Tryz.func41.trans (congrArg some (by kernel_rfl))⟩
 f7:=Tryz.func66.trans (congrArg some (by kernel_rfl))
 t4:=Tryz.underlying4
 a4:=Tryz.isAgg4
 z4:=Tryz.sizeOf4
 v4:=Tryz.zeroValue4
 t20:=Tryz.underlying20
 a20:=Tryz.isAgg20
 z20:=Tryz.sizeOf20
 v20:=Tryz.zeroValue20
 t23:=Tryz.underlying82
 a23:=Tryz.isAgg82
 z23:=Tryz.sizeOf82
 v23:=Tryz.zeroValue82}
def Tryz.zD:Go.Shelf.Ren:=⟨fun|5=>42|7=>66|n=>n,fun|23=>83|25=>93|3=>57|4=>4|20=>20|n=>n,fun|n=>n⟩
theorem Tryz.Nl:Go.Proofs.SlLaysW.n5 Tryz.prog Tryz.zD:= {
 mixed:=by kernel_rfl
 f5:=⟨Tryz.f42.name,by decide,Tryz.func42.trans (congrArg some (by kernel_rfl))⟩
 f7:=Tryz.func66.trans (congrArg some (by kernel_rfl))
 t4:=Tryz.underlying4
 a4:=Tryz.isAgg4
 z4:=Tryz.sizeOf4
 v4:=Tryz.zeroValue4
 t20:=Tryz.underlying20
 a20:=Tryz.isAgg20
 z20:=Tryz.sizeOf20
 v20:=Tryz.zeroValue20
 t23:=Tryz.underlying83
 a23:=Tryz.isAgg83
 z23:=Tryz.sizeOf83
 v23:=Tryz.zeroValue83}
end Go.Proofs
namespace Go.Proofs.YtahjfplikclhlaaGreat
open Go.AM Go.UM Go.RowKit Go.Maps Go.Sort Go.Shelf Go.Lib
theorem Nn (m:Nat):AnyZI.SortsIn Tryz.prog Tryz.pD Fence.wide m:=
 ⟨fun aP off cap ss W hH hblk hsz=>callsIn_wide.2 (AnyM.slices_Sort_int Tryz.Jt aP off cap ss W hH hblk hsz),
  fun p cap W=>callsIn_wide.2 (AnyM.slices_Sort_int_none Tryz.Jt p cap W)⟩
theorem IA:AL Tryz.prog 25 50 3 3:=by
 intro b nn Bm D0 Q w hBm hc hown hmax hbytes
 have hseq:SeqGives Fence.wide 2 Tryz.prog 50 #[.pointer (some ⟨Bm,0,none⟩)] encZ (fun ss=>ss.Perm (intKeys D0)) (Maps.size D0) w:=
  AnyZI.keys_gives (ρ:=Tryz.uz) {Tryz.To with} Fence.wide _ trivial rfl (by omega) Bm b nn D0 w hBm hc hown
 exact (callsIn_wide (n:=5)).1 (AnyZI.sorted_in Tryz.Iz Fence.wide 5 trivial trivial trivial trivial rfl (by omega) (Nn _) (enters_of Tryz.func49 (by kernel_rfl) rfl) 50 #[.pointer (some ⟨Bm,0,none⟩)] trivial (enters_of Tryz.func50 (by kernel_rfl) rfl) _ _ hmax hbytes _ hseq)
theorem Tp:xN R:=FC (kt:=3) Lv.We.hb Tryz.underlying3 IA
abbrev No:List In→List In:=vN j5
theorem Tq:Fw R No:=zy (P:=Tryz.prog) (ρ:=Tryz.sk) Tryz.Nj Tryz.isAgg59 Tryz.sizeOf59 (fun _=>rfl) sc (enters_of Tryz.func29 (by kernel_rfl) rfl)
theorem IB:M6 No:=FE
theorem clI:WW R:=⟨fun d es=>xV LB.Wg.hb (fun b en ck w h=>AnyW.maps_Clone Tryz.Nk b en ck w h) 1 false true d 41 es,fun d es=>xV LC.Wh.hb (fun b en ck w h=>AnyW.maps_Clone Tryz.Nl b en ck w h) 4 true true d 16 es⟩
end Go.Proofs.YtahjfplikclhlaaGreat
