/-
  Proved: at each of twelve jobs board.Render answers the first fault: drills ahead of layers, each in order, and a job that may be none first of all; or an image where there is none (heliographlaw27.BoardFaults returns true). Conditions: the row's own.
-/
import Derived.Test.YtfldplmgkeiimaaGreatDoorR41
set_option linter.all false
set_option maxRecDepth 100000
namespace Go.Proofs.YtfldplmgkeiimaaGreatDoor
abbrev afq:=@MakeChecks.laidMetH_plain
namespace BoardFaults
open Go.ChangeShapes Go.WideShapes Go.ChangeAt Go.RowKit
open ef dd
open pk (lf)
theorem lifted(os:Os)(started:os.Started)(H:Type)(enc:TypeId×Value→H):
  ReturnsInHanded {} Tryz.checked os 9 .any (fun w args=>(Rows.boardFaultsSpec.pre enc Tryz.prog Tryz.f9 [] false w args∧laidMetH Tryz.prog Rows.boardFaultsRow.laid w)∧sizedMet enc Tryz.prog Tryz.f9 (OpenSpec.ofChange Rows.boardFaultsSpec) false w args)
   (Rows.boardFaultsSpec.post enc Tryz.prog Tryz.f9 false true false false):=by
 refine Qk.avi started (by kernel_rfl) Tryz.func9 rfl (by kernel_rfl) (by kernel_rfl) (fun hV avp=>?_)
  (ChangeSpec.witness_shaped (enc:=enc) (C:=Tryz.checked) (os:=os) (X:=fun w _=>laidMetH Tryz.prog Rows.boardFaultsRow.laid w) false (World.laidAll Tryz.prog os Rows.boardFaultsRow.laid) #[I 0] 8 (World.laidAll_os _ _ _)
   (World.shaped_of_ZipB (by kernel_rfl) (by kernel_rfl)) (by kernel_rfl) (by kernel_rfl) (by kernel_rfl)
   (by rw[afq _ _ _ (by kernel_rfl)];exact laidMet_laidAll _ (by kernel_rfl) (by kernel_rfl))) ?_
 ·match hV,avp with
  |[a0],_=>rfl
 intro W base args hV p sc hA _ _ jJ ff;rw[afq _ _ _ (by kernel_rfl)] at jJ;rw[Tryz.params9] at hA sc;obtain⟨v0,axV,d0,axW,fO,fS,axX,rfl,rfl,aS,ju⟩:=trodAll_cons hA;obtain⟨rfl,rfl,rfl⟩:=trodAll_nil ju;obtain rfl:args= #[v0]:=by cases args;simp_all
 obtain⟨aD,rfl,rfl,rfl,w0⟩:=open_int vv (sc 0 3 v0 rfl rfl) aS;have cu:-9223372036854775808≤aD∧aD≤9223372036854775807:=by simpa[Lit.wf,IntKind.min,IntKind.max,IntKind.signed,IntKind.bits] using w0
 exact walk aD cu.1 cu.2 W ff
theorem said:Rows.BoardFaultsSaid:=
 OpenClaim.holds_of_wide 9 Tryz.f9 rfl rfl rfl rfl rfl rfl rfl ⟨rfl,rfl,rfl,rfl,rfl⟩ rfl rfl rfl rfl rfl (by as_aux_lemma=>kernel_rfl) Tryz.func9 closed
  (Mj (by as_aux_lemma=>kernel_rfl)) (by unfold Func.isWrapper;first|(rw[bb (by decide+kernel)];kernel_rfl)|(rw[aW (by decide+kernel)];exact⟨rfl,rfl⟩))
  (fun os started H enc _=>lifted os started H enc)
theorem plain(f:FuncId)(fn:Func)(hf:Tryz.pinned.checked.prog.funcNamed Rows.boardFaultsRow.func=some f)(HR:Tryz.pinned.checked.prog.funcs[f]?=some fn):
  true=Tryz.pinned.checked.prog.looks []∧∀(j:Nat) t,fn.params[j]?=some t→Tryz.pinned.checked.prog.wantsStandIn t=false:=by
 obtain rfl:f=9:=q5 ((show Tryz.prog.funcNamed Rows.boardFaultsRow.func=some 9 by kernel_rfl).symm.trans hf)|>.symm;obtain rfl:fn=Tryz.f9:=(q5 (Tryz.func9.symm.trans HR)).symm;refine⟨by kernel_rfl,fun j t bE=>?_⟩;have hm:t∈Tryz.f9.params.toList:=by simpa using Array.mem_of_getElem? bE
 have ix:(Tryz.f9.params.toList.all fun u=>!Tryz.prog.wantsStandIn u)=true:=by kernel_rfl
 exact (show Tryz.prog.wantsStandIn t=false by simpa using List.all_eq_true.1 ix t hm)
theorem card:Rows.BoardFaultsCardSaid:=
 Claim7.holds_tied_plain_at .later [] _ _ _ _ said (fun _ h=>by cases h) (by as_aux_lemma=>kernel_rfl) (fun _ h=>by cases h) boardFaults_row_tie rfl ⟨rfl,rfl⟩ (by as_aux_lemma=>kernel_rfl) rfl plain (by as_aux_lemma=>kernel_rfl)
#print axioms card
end BoardFaults
end Go.Proofs.YtfldplmgkeiimaaGreatDoor
