/- What the library says of its sorts and clones holds at this program: the numbers of its functions, and one application each. No condition. -/
import Derived.Shelf.SlIterI.Nil
import Derived.Shelf.SortM.Plain
import Derived.Shelf.SortM.SortNone
import Derived.Shelf.SlSortCmp.NoneTotal
import Derived.Shelf.SlGeneric
import Derived.Ground.SlsfProg
import Derived.Ground.GgzProg
import Derived.Ground.SlgmProg
import Derived.Shelf.SlMaps.Clone
import Derived.Ground.SlmcProg
import Derived.Test.YtldnjomnleaibaaGreatDoorProg
import Derived.Test.YtldnjomnleaibaaGreatDoorEnv
import Derived.Test.YtldnjomnleaibaaGreatDoorU2
namespace Go.Proofs
open Go.Shelf
def Tryz.BN:Go.Shelf.Ren:=⟨fun|6=>219|15=>286|14=>285|28=>342|29=>343|20=>334|21=>335|22=>336|23=>337|24=>338|25=>339|26=>340|27=>341|46=>391|47=>392|48=>393|49=>394|50=>395|57=>426|n=>n,fun|22=>290|24=>35|25=>371|3=>3|39=>95|0=>0|53=>43|55=>36|4=>4|46=>522|45=>521|50=>372|5=>5|9=>9|66=>574|70=>578|76=>612|77=>384|n=>n,fun|n=>n⟩
theorem Tryz.Qv:Go.Proofs.SlLaysF0.n6 Tryz.prog Tryz.BN:= {
 mixed:=by kernel_rfl
 f6:=⟨Tryz.f219.name,by decide,Tryz.func219.trans (congrArg some (by kernel_rfl))⟩
 f14:=⟨Tryz.f285.name,by decide,Tryz.func285.trans (congrArg some (by kernel_rfl))⟩
 f15:=Tryz.func286.trans (congrArg some (by kernel_rfl))
 f20:=⟨Tryz.f334.name,by decide,Tryz.func334.trans (congrArg some (by kernel_rfl))⟩
 f21:=⟨Tryz.f335.name,by decide,Tryz.func335.trans (congrArg some (by kernel_rfl))⟩
 f22:=⟨Tryz.f336.name,by decide,Tryz.func336.trans (congrArg some (by kernel_rfl))⟩
 f23:=⟨Tryz.f337.name,by decide,Tryz.func337.trans (congrArg some (by kernel_rfl))⟩
 f24:=⟨Tryz.f338.name,by decide,Tryz.func338.trans (congrArg some (by kernel_rfl))⟩
 f25:=⟨Tryz.f339.name,by decide,Tryz.func339.trans (congrArg some (by kernel_rfl))⟩
 f26:=⟨Tryz.f340.name,by decide,Tryz.func340.trans (congrArg some (by kernel_rfl))⟩
 f27:=⟨Tryz.f341.name,by decide,Tryz.func341.trans (congrArg some (by kernel_rfl))⟩
 f28:=Tryz.func342.trans (congrArg some (by kernel_rfl))
 f29:=Tryz.func343.trans (congrArg some (by kernel_rfl))
 f46:=⟨Tryz.f391.name,by decide,Tryz.func391.trans (congrArg some (by kernel_rfl))⟩
 f47:=Tryz.func392.trans (congrArg some (by kernel_rfl))
 f48:=Tryz.func393.trans (congrArg some (by kernel_rfl))
 f49:=⟨Tryz.f394.name,by decide,Tryz.func394.trans (congrArg some (by kernel_rfl))⟩
 f50:=⟨Tryz.f395.name,by decide,Tryz.func395.trans (congrArg some (by kernel_rfl))⟩
 f57:=⟨Tryz.f426.name,by decide,Tryz.func426.trans (congrArg some (by kernel_rfl))⟩
 t0:=Tryz.underlying0
 a0:=Tryz.isAgg0
 z0:=Tryz.sizeOf0
 v0:=Tryz.zeroValue0
 t3:=Tryz.underlying3
 a3:=Tryz.isAgg3
 z3:=Tryz.sizeOf3
 v3:=Tryz.zeroValue3
 t4:=Tryz.underlying4
 a4:=Tryz.isAgg4
 z4:=Tryz.sizeOf4
 v4:=Tryz.zeroValue4
 t5:=Tryz.underlying5
 a5:=Tryz.isAgg5
 z5:=Tryz.sizeOf5
 v5:=Tryz.zeroValue5
 t9:=Tryz.underlying9
 a9:=Tryz.isAgg9
 z9:=Tryz.sizeOf9
 v9:=Tryz.zeroValue9
 t22:=Tryz.underlying290
 a22:=Tryz.isAgg290
 z22:=Tryz.sizeOf290
 v22:=Tryz.zeroValue290
 t25:=Tryz.underlying371
 a25:=Tryz.isAgg371
 z25:=Tryz.sizeOf371
 v25:=Tryz.zeroValue371
 t39:=Tryz.underlying95
 a39:=Tryz.isAgg95
 z39:=Tryz.sizeOf95
 v39:=Tryz.zeroValue95
 t45:=Tryz.underlying521
 a45:=Tryz.isAgg521
 z45:=Tryz.sizeOf521
 v45:=Tryz.zeroValue521
 t46:=Tryz.underlying522
 a46:=Tryz.isAgg522
 z46:=Tryz.sizeOf522
 v46:=Tryz.zeroValue522
 t50:=Tryz.underlying372
 a50:=Tryz.isAgg372
 z50:=Tryz.sizeOf372
 v50:=Tryz.zeroValue372
 t53:=Tryz.underlying43
 a53:=Tryz.isAgg43
 z53:=Tryz.sizeOf43
 v53:=Tryz.zeroValue43
 t55:=Tryz.underlying36
 a55:=Tryz.isAgg36
 z55:=Tryz.sizeOf36
 v55:=Tryz.zeroValue36
 t66:=Tryz.underlying574
 a66:=Tryz.isAgg574
 z66:=Tryz.sizeOf574
 v66:=Tryz.zeroValue574
 t70:=Tryz.underlying578
 a70:=Tryz.isAgg578
 z70:=Tryz.sizeOf578
 v70:=Tryz.zeroValue578
 t76:=Tryz.underlying612
 a76:=Tryz.isAgg612
 z76:=Tryz.sizeOf612
 v76:=Tryz.zeroValue612
 t77:=Tryz.underlying384
 a77:=Tryz.isAgg384
 z77:=Tryz.sizeOf384
 v77:=Tryz.zeroValue384}
def Tryz.wy:Go.Shelf.Ren:=⟨fun|7=>218|10=>284|n=>n,fun|23=>155|26=>3|3=>164|28=>367|0=>0|27=>366|33=>440|4=>4|n=>n,fun|n=>n⟩
theorem Tryz.Xa:Go.Proofs.SlLaysZI.n7 Tryz.prog Tryz.wy:= {
 mixed:=by kernel_rfl
 f7:=⟨Tryz.f218.name,by decide,Tryz.func218.trans (congrArg some (by kernel_rfl))⟩
 f10:=⟨Tryz.f284.name,by decide,Tryz.func284.trans (congrArg some (by kernel_rfl))⟩
 t0:=Tryz.underlying0
 a0:=Tryz.isAgg0
 z0:=Tryz.sizeOf0
 v0:=Tryz.zeroValue0
 t4:=Tryz.underlying4
 a4:=Tryz.isAgg4
 z4:=Tryz.sizeOf4
 v4:=Tryz.zeroValue4
 t23:=Tryz.underlying155
 a23:=Tryz.isAgg155
 z23:=Tryz.sizeOf155
 v23:=Tryz.zeroValue155
 t26:=Tryz.underlying3
 a26:=Tryz.isAgg3
 z26:=Tryz.sizeOf3
 v26:=Tryz.zeroValue3
 t27:=Tryz.underlying366
 a27:=Tryz.isAgg366
 z27:=Tryz.sizeOf366
 v27:=Tryz.zeroValue366
 t28:=Tryz.underlying367
 a28:=Tryz.isAgg367
 z28:=Tryz.sizeOf367
 v28:=Tryz.zeroValue367
 t33:=Tryz.underlying440
 a33:=Tryz.isAgg440
 z33:=Tryz.sizeOf440
 v33:=Tryz.zeroValue440}
def Tryz.qZ:Go.Shelf.Ren:=⟨fun|6=>217|8=>282|9=>283|11=>332|13=>286|12=>333|23=>342|24=>343|14=>382|15=>383|16=>384|17=>385|18=>386|19=>387|20=>388|21=>389|22=>390|25=>423|26=>392|27=>393|28=>424|29=>425|30=>344|31=>443|n=>n,fun|26=>3|28=>367|24=>47|0=>0|3=>3|37=>95|48=>43|50=>36|4=>4|40=>522|39=>521|45=>372|5=>5|9=>9|51=>574|55=>578|57=>612|58=>384|33=>440|n=>n,fun|n=>n⟩
theorem Tryz.K9:Go.Proofs.SlLaysZI.n6 Tryz.prog Tryz.qZ:= {
 mixed:=by kernel_rfl
 f6:=⟨Tryz.f217.name,by decide,Tryz.func217.trans (congrArg some (by kernel_rfl))⟩
 f8:=⟨Tryz.f282.name,by decide,Tryz.func282.trans (congrArg some (by kernel_rfl))⟩
 f11:=⟨Tryz.f332.name,by decide,Tryz.func332.trans (congrArg some (by kernel_rfl))⟩
 t0:=Tryz.underlying0
 a0:=Tryz.isAgg0
 z0:=Tryz.sizeOf0
 v0:=Tryz.zeroValue0
 t24:=Tryz.underlying47
 a24:=Tryz.isAgg47
 z24:=Tryz.sizeOf47
 v24:=Tryz.zeroValue47
 t26:=Tryz.underlying3
 a26:=Tryz.isAgg3
 z26:=Tryz.sizeOf3
 v26:=Tryz.zeroValue3
 t28:=Tryz.underlying367
 a28:=Tryz.isAgg367
 z28:=Tryz.sizeOf367
 v28:=Tryz.zeroValue367
 i26:=by kernel_rfl}
def Tryz.EG:Go.Shelf.Ren:=⟨fun|5=>283|8=>286|7=>333|19=>342|20=>343|10=>382|11=>383|12=>384|13=>385|14=>386|15=>387|16=>388|17=>389|18=>390|30=>423|31=>392|32=>393|33=>424|34=>425|35=>344|40=>443|n=>n,fun|23=>47|25=>3|3=>3|32=>95|22=>47|0=>0|44=>43|46=>36|4=>4|36=>522|35=>521|41=>372|5=>5|9=>9|53=>574|57=>578|63=>612|64=>384|n=>n,fun|n=>n⟩
theorem Tryz.L9:Go.Proofs.SlLaysM.n5 Tryz.prog Tryz.EG:= {
 mixed:=by kernel_rfl
 f5:=⟨Tryz.f283.name,by decide,Tryz.func283.trans (congrArg some (by kernel_rfl))⟩
 f7:=⟨Tryz.f333.name,by decide,Tryz.func333.trans (congrArg some (by kernel_rfl))⟩
 f8:=Tryz.func286.trans (congrArg some (by kernel_rfl))
 f10:=⟨Tryz.f382.name,by decide,Tryz.func382.trans (congrArg some (by kernel_rfl))⟩
 f11:=⟨Tryz.f383.name,by decide,Tryz.func383.trans (congrArg some (by kernel_rfl))⟩
 f12:=⟨Tryz.f384.name,by decide,Tryz.func384.trans (congrArg some (by kernel_rfl))⟩
 f13:=⟨Tryz.f385.name,by decide,Tryz.func385.trans (congrArg some (by kernel_rfl))⟩
 f14:=⟨Tryz.f386.name,by decide,Tryz.func386.trans (congrArg some (by kernel_rfl))⟩
 f15:=⟨Tryz.f387.name,by decide,Tryz.func387.trans (congrArg some (by kernel_rfl))⟩
 f16:=⟨Tryz.f388.name,by decide,Tryz.func388.trans (congrArg some (by kernel_rfl))⟩
 f17:=⟨Tryz.f389.name,by decide,Tryz.func389.trans (congrArg some (by kernel_rfl))⟩
 f18:=⟨Tryz.f390.name,by decide,Tryz.func390.trans (congrArg some (by kernel_rfl))⟩
 f19:=Tryz.func342.trans (congrArg some (by kernel_rfl))
 f20:=Tryz.func343.trans (congrArg some (by kernel_rfl))
 f30:=⟨Tryz.f423.name,by decide,Tryz.func423.trans (congrArg some (by kernel_rfl))⟩
 f31:=Tryz.func392.trans (congrArg some (by kernel_rfl))
 f32:=Tryz.func393.trans (congrArg some (by kernel_rfl))
 f33:=⟨Tryz.f424.name,by decide,Tryz.func424.trans (congrArg some (by kernel_rfl))⟩
 f34:=⟨Tryz.f425.name,by decide,Tryz.func425.trans (congrArg some (by kernel_rfl))⟩
 f35:=⟨Tryz.f344.name,by decide,Tryz.func344.trans (congrArg some (by kernel_rfl))⟩
 f40:=⟨Tryz.f443.name,by decide,Tryz.func443.trans (congrArg some (by kernel_rfl))⟩
 t0:=Tryz.underlying0
 a0:=Tryz.isAgg0
 z0:=Tryz.sizeOf0
 v0:=Tryz.zeroValue0
 t3:=Tryz.underlying3
 a3:=Tryz.isAgg3
 z3:=Tryz.sizeOf3
 v3:=Tryz.zeroValue3
 t4:=Tryz.underlying4
 a4:=Tryz.isAgg4
 z4:=Tryz.sizeOf4
 v4:=Tryz.zeroValue4
 t5:=Tryz.underlying5
 a5:=Tryz.isAgg5
 z5:=Tryz.sizeOf5
 v5:=Tryz.zeroValue5
 t9:=Tryz.underlying9
 a9:=Tryz.isAgg9
 z9:=Tryz.sizeOf9
 v9:=Tryz.zeroValue9
 t22:=Tryz.underlying47
 a22:=Tryz.isAgg47
 z22:=Tryz.sizeOf47
 v22:=Tryz.zeroValue47
 t23:=Tryz.underlying47
 a23:=Tryz.isAgg47
 z23:=Tryz.sizeOf47
 v23:=Tryz.zeroValue47
 t25:=Tryz.underlying3
 a25:=Tryz.isAgg3
 z25:=Tryz.sizeOf3
 v25:=Tryz.zeroValue3
 t32:=Tryz.underlying95
 a32:=Tryz.isAgg95
 z32:=Tryz.sizeOf95
 v32:=Tryz.zeroValue95
 t35:=Tryz.underlying521
 a35:=Tryz.isAgg521
 z35:=Tryz.sizeOf521
 v35:=Tryz.zeroValue521
 t36:=Tryz.underlying522
 a36:=Tryz.isAgg522
 z36:=Tryz.sizeOf522
 v36:=Tryz.zeroValue522
 t41:=Tryz.underlying372
 a41:=Tryz.isAgg372
 z41:=Tryz.sizeOf372
 v41:=Tryz.zeroValue372
 t44:=Tryz.underlying43
 a44:=Tryz.isAgg43
 z44:=Tryz.sizeOf43
 v44:=Tryz.zeroValue43
 t46:=Tryz.underlying36
 a46:=Tryz.isAgg36
 z46:=Tryz.sizeOf36
 v46:=Tryz.zeroValue36
 t53:=Tryz.underlying574
 a53:=Tryz.isAgg574
 z53:=Tryz.sizeOf574
 v53:=Tryz.zeroValue574
 t57:=Tryz.underlying578
 a57:=Tryz.isAgg578
 z57:=Tryz.sizeOf578
 v57:=Tryz.zeroValue578
 t63:=Tryz.underlying612
 a63:=Tryz.isAgg612
 z63:=Tryz.sizeOf612
 v63:=Tryz.zeroValue612
 t64:=Tryz.underlying384
 a64:=Tryz.isAgg384
 z64:=Tryz.sizeOf384
 v64:=Tryz.zeroValue384}
def Tryz.BO:Go.Shelf.Ren:=⟨fun|5=>212|7=>277|n=>n,fun|23=>155|25=>3|3=>164|4=>4|20=>20|n=>n,fun|n=>n⟩
theorem Tryz.Qw:Go.Proofs.SlLaysW.n5 Tryz.prog Tryz.BO:= {
 mixed:=by kernel_rfl
 f5:=⟨Tryz.f212.name,by decide,Tryz.func212.trans (congrArg some (by kernel_rfl))⟩
 f7:=Tryz.func277.trans (congrArg some (by kernel_rfl))
 t4:=Tryz.underlying4
 a4:=Tryz.isAgg4
 z4:=Tryz.sizeOf4
 v4:=Tryz.zeroValue4
 t20:=Tryz.underlying20
 a20:=Tryz.isAgg20
 z20:=Tryz.sizeOf20
 v20:=Tryz.zeroValue20
 t23:=Tryz.underlying155
 a23:=Tryz.isAgg155
 z23:=Tryz.sizeOf155
 v23:=Tryz.zeroValue155}
def Tryz.BQ:Go.Shelf.Ren:=⟨fun|5=>213|7=>277|n=>n,fun|23=>156|25=>170|3=>33|4=>4|20=>20|n=>n,fun|n=>n⟩
theorem Tryz.Qx:Go.Proofs.SlLaysW.n5 Tryz.prog Tryz.BQ:= {
 mixed:=by kernel_rfl
 f5:=⟨Tryz.f213.name,by decide,Tryz.func213.trans (congrArg some (by kernel_rfl))⟩
 f7:=Tryz.func277.trans (congrArg some (by kernel_rfl))
 t4:=Tryz.underlying4
 a4:=Tryz.isAgg4
 z4:=Tryz.sizeOf4
 v4:=Tryz.zeroValue4
 t20:=Tryz.underlying20
 a20:=Tryz.isAgg20
 z20:=Tryz.sizeOf20
 v20:=Tryz.zeroValue20
 t23:=Tryz.underlying156
 a23:=Tryz.isAgg156
 z23:=Tryz.sizeOf156
 v23:=Tryz.zeroValue156}
end Go.Proofs
namespace Go.Proofs.YtldnjomnleaibaaGreatDoor
open Go.AM Go.UM Go.RowKit Go.Maps Go.Sort Go.Shelf Go.Lib
theorem Qy(m:Nat):AnyZI.SortsIn Tryz.prog Tryz.qZ Fence.wide m:=
 ⟨fun aS off cap ss W hH hblk hsz=>callsIn_wide.2 (AnyM.slices_Sort_int Tryz.L9 aS off cap ss W hH hblk hsz),
  fun p cap W=>callsIn_wide.2 (AnyM.slices_Sort_int_none Tryz.L9 p cap W)⟩
theorem La:zJ Tryz.prog 217 284 3 3:=by
 intro b nn Bm D0 Q w hBm hc hown hmax hbytes
 have hseq:SeqGives Fence.wide 2 Tryz.prog 284 #[.pointer (some ⟨Bm,0,none⟩)] encZ (fun ss=>ss.Perm (intKeys D0)) (Maps.size D0) w:=
  AnyZI.keys_gives (ρ:=Tryz.wy) {Tryz.Xa with} Fence.wide _ trivial rfl (by omega) Bm b nn D0 w hBm hc hown
 exact (callsIn_wide (n:=5)).1 (AnyZI.sorted_in Tryz.K9 Fence.wide 5 trivial trivial trivial trivial rfl (by omega) (Qy _) (enters_of Tryz.func283 (by kernel_rfl) rfl) 284 #[.pointer (some ⟨Bm,0,none⟩)] trivial (enters_of Tryz.func284 (by kernel_rfl) rfl) _ _ hmax hbytes _ hseq)
theorem aed:BL R:=⟨HG (kt:=3) O3.aaf.hb La,HH fun p cap fv w=>AnyF.slices_SortFunc_none Tryz.Qv p cap fv w,
 zI O7.aah.hb (fun b en ck w h=>AnyW.maps_Clone Tryz.Qw b en ck w h) 1 false true true 41 [],zI O8.aai.hb (fun b en ck w h=>AnyW.maps_Clone Tryz.Qx b en ck w h) 4 true true true 16 []⟩
end Go.Proofs.YtldnjomnleaibaaGreatDoor
