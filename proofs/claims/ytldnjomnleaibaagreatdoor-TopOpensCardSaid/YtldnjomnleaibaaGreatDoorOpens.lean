/- TopOpens holds: for every input the law returns true and leaves what came in as it was. No condition but the tie's: package-level tables of the library start as the program's text lays them (the tied card). -/
import Derived.Test.YtldnjomnleaibaaGreatDoorCards
import Derived.Test.YtldnjomnleaibaaGreatDoorTie
import Derived.Test.YtldnjomnleaibaaGreatDoorEnv
import Derived.Test.YtldnjomnleaibaaGreatDoorLib
import Derived.Test.YtldnjomnleaibaaGreatDoorG0
import Derived.Test.YtldnjomnleaibaaGreatDoorG1
import Derived.Test.YtldnjomnleaibaaGreatDoorG2
import Derived.Test.YtldnjomnleaibaaGreatDoorG3
import Derived.Test.YtldnjomnleaibaaGreatDoorG4
import Derived.Test.YtldnjomnleaibaaGreatDoorG5
import Derived.Test.YtldnjomnleaibaaGreatDoorG6
import Derived.Test.YtldnjomnleaibaaGreatDoorG7
import Derived.Test.YtldnjomnleaibaaGreatDoorG8
import Derived.Test.YtldnjomnleaibaaGreatDoorG9
import Derived.Test.YtldnjomnleaibaaGreatDoorGW
import Derived.Test.YtldnjomnleaibaaGreatDoorGC
import Derived.Test.YtldnjomnleaibaaGreatDoorU2
import Derived.Test.YtldnjomnleaibaaGreatDoorK3
import Derived.ProofKit
import Derived.LaidMore
import Derived.OpenShut
import Derived.Stop.Joined
namespace Go.Proofs.YtldnjomnleaibaaGreatDoor
open Go.AM Go.UM
set_option maxRecDepth 100000
theorem own:ownKnob Tryz.prog.godebug=none:=by kernel_rfl
theorem xA(ek:List AV)(hc:DH tt 6 Tryz.f5.params.toList ek):gl true Tryz.prog 5 ek (.bool true):=by
 refine v6 (T:=tt) (n:=6) (ts:=[22,67,81]) (K:=fun ek=>gl true Tryz.prog 5 ek (.bool true)) ?_ hc
 intro k0 g0 k1 g1 k2 g2 k3 g3 k4 g4 k5 g5 k6 g6 k7 g7 k8 g8 k9 g9 eo g10 ep g11 eu g12 ez g13 eB g14 eC g15 eD g16 eE g17 eG g18 eH g19 eJ g20 eQ g21 eR g22 eT g23 eU g24 eV g25 eW g26 eX g27 eY g28 fe g29 fh g30 fi g31
 intro a0 h0 a1 h1 a2 h2 a3 h3 a4 h4 a5 h5 a6 h6 a7 h7 a8 h8 a9 h9 a10 h10 a11 Dj a12 Gb a13 QK a14 Xy
 intro pk hpk pvs _ hpv aee _ aef pts _ hpt ps _ pxs _ hpx pm0 _ pm1 _ pm2 _ pm3 _ pm4 _ pl0 _ pl1 _ pl2 _ pl3 _ pl4 _ pl5 _ pl6 _ pl7 _ pl8 _ pl9 _ aeg _ aeh _ aei _
 obtain⟨pv,rfl,-⟩:∃l:List (T3),pvs=bn l/\∀x ∈ l,True:=my fun r hr=>by
  refine gV (T:=tt) 3 38 (fun r=>∃x:T3,r=t3 x/\True) r ?_ (hpv r hr)
  intro a _ b _ c _
  exact⟨⟨a,b,c⟩,rfl,trivial⟩
 obtain⟨puv,rfl,-⟩:∃l:List (Int × Int),aee=dA l/\∀x ∈ l,True:=my fun r hr=>by
  refine gV (T:=tt) 3 149 (fun r=>∃x:Int × Int,r=p2 x/\True) r ?_ (aef r hr)
  intro a _ b _
  exact⟨(a,b),rfl,trivial⟩
 obtain⟨pt,rfl,-⟩:∃l:List (T3),pts=bn l/\∀x ∈ l,True:=my fun r hr=>by
  refine gV (T:=tt) 3 75 (fun r=>∃x:T3,r=t3 x/\True) r ?_ (hpt r hr)
  intro a _ b _ c _
  exact⟨⟨a,b,c⟩,rfl,trivial⟩
 obtain⟨px,rfl,-⟩:∃l:List (T3),pxs=bn l/\∀x ∈ l,True:=my fun r hr=>by
  refine gV (T:=tt) 3 75 (fun r=>∃x:T3,r=t3 x/\True) r ?_ (hpx r hr)
  intro a _ b _ c _
  exact⟨⟨a,b,c⟩,rfl,trivial⟩
 have c:=EF (R:=R) aec aed [u8 k0,u8 k1,u8 k2,u8 k3,u8 k4,u8 k5,u8 k6,u8 k7,u8 k8,u8 k9,u8 eo,u8 ep,u8 eu,u8 ez,u8 eB,u8 eC,u8 eD,u8 eE,u8 eG,u8 eH,u8 eJ,u8 eQ,u8 eR,u8 eT,u8 eU,u8 eV,u8 eW,u8 eX,u8 eY,u8 fe,u8 fh,u8 fi] rfl ⟨a0,a1,a2,a3,a4,a5,a6,a7,a8,a9,a10,a11,a12,a13,a14⟩ ⟨h0,h1,h2,EE h3 h4 h5 h6 h7 h8 h9 h10,Dj,Gb,QK,Xy⟩ ⟨pk,⟨pv,puv,pt⟩,⟨ps,px⟩,⟨pm0,⟨pm1,pm2,pm3⟩,pm4⟩,⟨pl0,⟨pl1,pl2,pl3⟩,⟨pl4,pl5,pl6⟩,⟨pl7,pl8,pl9⟩,⟨aeg,aeh,aei⟩⟩⟩ hpk
 have e:=W8 [k0,k1,k2,k3,k4,k5,k6,k7,k8,k9,eo,ep,eu,ez,eB,eC,eD,eE,eG,eH,eJ,eQ,eR,eT,eU,eV,eW,eX,eY,fe,fh,fi] ⟨g0,g1,g2,g3,g4,g5,g6,g7,g8,g9,g10,g11,g12,g13,g14,g15,g16,g17,g18,g19,g20,g21,g22,g23,g24,g25,g26,g27,g28,g29,g30,g31,trivial⟩
 rw[show List.map b8 [u8 k0,u8 k1,u8 k2,u8 k3,u8 k4,u8 k5,u8 k6,u8 k7,u8 k8,u8 k9,u8 eo,u8 ep,u8 eu,u8 ez,u8 eB,u8 eC,u8 eD,u8 eE,u8 eG,u8 eH,u8 eJ,u8 eQ,u8 eR,u8 eT,u8 eU,u8 eV,u8 eW,u8 eX,u8 eY,u8 fe,u8 fh,u8 fi]=List.map (AV.int .u8) [k0,k1,k2,k3,k4,k5,k6,k7,k8,k9,eo,ep,eu,ez,eB,eC,eD,eE,eG,eH,eJ,eQ,eR,eT,eU,eV,eW,eX,eY,fe,fh,fi]from e.symm]at c
 exact c
theorem rJ(os:Os)(started:os.Started)(H:Type)(enc:TypeId × Value->H):
  ReturnsInHanded {} Tryz.checked os 5 .any (fun w args=>(Rows.topOpensSpec.pre enc Tryz.prog Tryz.f5 [] false w args/\laidMetH Tryz.prog Rows.topOpensRow.laid w)/\sizedMet enc Tryz.prog Tryz.f5 (OpenSpec.ofChange Rows.topOpensSpec) false w args)
   (Rows.topOpensSpec.post enc Tryz.prog Tryz.f5 false true false false):=
 DI (C:=Tryz.checked) (T:=tt) (n:=6) (tb:=4) (X:=fun w _=>laidMetH Tryz.prog Rows.topOpensRow.laid w) (fun _ _ _ hh h=>h.of_heap hh) hT.tt own started (by kernel_rfl) Tryz.func5
  (wit os H enc)
  laid (by kernel_rfl) rfl (fun ds h=>by match ds,h with|[_,_,_],_=>rfl) rfl Tryz.underlying4 xA
theorem u3:Rows.TopOpensSaid:=
 OpenClaim.holds_of_wide 5 Tryz.f5 rfl rfl rfl rfl rfl rfl rfl ⟨rfl,rfl,rfl,rfl,rfl⟩ rfl rfl rfl rfl rfl (by kernel_rfl) Tryz.func5 closed
  (of_decide_eq_true (by kernel_rfl)) (by unfold Func.isWrapper; first|(rw[if_pos (by decide+kernel)]; kernel_rfl)|(rw[if_neg (by decide+kernel)]; exact⟨rfl,rfl⟩))
  (fun os started H enc _=>rJ os started H enc)
theorem uq(f:FuncId)(fn:Func)(hf:Tryz.pinned.checked.prog.funcNamed "umbra/umbratop.TopOpens" =some f)(hfn:Tryz.pinned.checked.prog.funcs[f]? =some fn):
  true=Tryz.pinned.checked.prog.looks []/\∀(j:Nat) t,fn.params[j]? =some t->Tryz.pinned.checked.prog.wantsStandIn t=false:=by
 obtain rfl:f=5:=Option.some.inj ((show Tryz.prog.funcNamed "umbra/umbratop.TopOpens" =some 5 by kernel_rfl).symm.trans hf) |>.symm
 obtain rfl:fn=Tryz.f5:=(Option.some.inj (Tryz.func5.symm.trans hfn)).symm
 refine⟨by kernel_rfl,fun j t ht=> ?_⟩
 have hall:∀t ∈ Tryz.f5.params.toList,Tryz.prog.wantsStandIn t=false:=by
  have h:Tryz.f5.params.toList=[22,67,81]:=by kernel_rfl
  rw[h]
  intro t ht
  simp only[List.mem_cons,List.not_mem_nil,or_false]at ht
  rcases ht with rfl|rfl|rfl
  all_goals exact (by kernel_rfl)
 exact hall t (by simpa using Array.mem_of_getElem? ht)
theorem topOpens_holds:Rows.TopOpensCardSaid:=
 Claim7.holds_tied_plain_at .later [] _ _ _ _ u3 (fun _ h=>by cases h) (by kernel_rfl) (fun _ h=>by cases h) topOpens_row_tie rfl ⟨rfl,rfl⟩ (by kernel_rfl) rfl uq K8
end Go.Proofs.YtldnjomnleaibaaGreatDoor
