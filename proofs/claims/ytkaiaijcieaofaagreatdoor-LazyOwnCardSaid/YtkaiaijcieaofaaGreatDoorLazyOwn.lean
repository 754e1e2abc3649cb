/-
  Proved: for every slice of integers, what lazy answers may be changed by who asked, and who asks next has it as it was made (heliographlaw26.LazyOwn returns true). Conditions: the row's own.
-/
import Derived.Test.YtkaiaijcieaofaaGreatDoorQ40
set_option linter.all false
set_option maxRecDepth 100000
namespace Go.Proofs.YtkaiaijcieaofaaGreatDoor
abbrev ag6:=@MakeChecks.laidMetH_plain
namespace LazyOwn
open Go.ChangeShapes Go.WideShapes Go.ChangeAt Go.WideMaps Go.WideElems Go.RowKit
open ef Gb c1
open mI (mN)
theorem lifted(os:Os)(started:os.Started)(H:Type)(enc:TypeId×Value→H):
  ReturnsInHanded {} Tryz.checked os 3 .any (fun w args=>(Rows.lazyOwnSpec.pre enc Tryz.prog Tryz.f3 [] false w args∧laidMetH Tryz.prog Rows.lazyOwnRow.laid w)∧sizedMet enc Tryz.prog Tryz.f3 (OpenSpec.ofChange Rows.lazyOwnSpec) false w args)
   (Rows.lazyOwnSpec.post enc Tryz.prog Tryz.f3 false true false false):=by
 refine Rt.auc started (by kernel_rfl) Tryz.func3 rfl (by kernel_rfl) (by kernel_rfl) (fun dU auj=>?_)
  (ChangeSpec.witness_shaped (enc:=enc) (C:=Tryz.checked) (os:=os) (X:=fun w _=>laidMetH Tryz.prog Rows.lazyOwnRow.laid w) false (World.laidAll Tryz.prog os Rows.lazyOwnRow.laid) #[J 0] 8 (World.laidAll_os _ _ _)
   (World.shaped_of_ZipB (by kernel_rfl) (by kernel_rfl)) (by kernel_rfl) (by kernel_rfl) (by kernel_rfl)
   (by rw[ag6 _ _ _ (by kernel_rfl)];exact laidMet_laidAll _ (by kernel_rfl) (by kernel_rfl))) ?_
 ·match dU,auj with
  |[a0],_=>rfl
 intro W base args dU p Nf hA _ _ C6 hg;rw[ag6 _ _ _ (by kernel_rfl)] at C6;rw[Tryz.params3] at hA Nf;obtain⟨v0,axZ,d0,ax0,ho,eB,ax1,rfl,rfl,aF,du⟩:=trodAll_cons hA;obtain⟨rfl,rfl,rfl⟩:=trodAll_nil du;obtain rfl:args= #[v0]:=by cases args;simp_all
 obtain⟨a0,aV,auk,rfl,g0,gP,z0⟩:=yA.atZ Tryz.underlying22 KI (by kernel_rfl) (Nf 0 22 v0 rfl rfl) aF;exact walk a0 aV auk g0 gP W z0 hg
theorem said:Rows.LazyOwnSaid:=
 OpenClaim.holds_of_wide 3 Tryz.f3 rfl rfl rfl rfl rfl rfl rfl ⟨rfl,rfl,rfl,rfl,rfl⟩ rfl rfl rfl rfl rfl (by as_aux_lemma=>kernel_rfl) Tryz.func3 closed
  (of_decide_eq_true (by as_aux_lemma=>kernel_rfl)) (by unfold Func.isWrapper;first|(rw[aW (by decide+kernel)];kernel_rfl)|(rw[aN (by decide+kernel)];exact⟨rfl,rfl⟩))
  (fun os started H enc _=>lifted os started H enc)
theorem plain(f:FuncId)(fn:Func)(hf:Tryz.pinned.checked.prog.funcNamed Rows.lazyOwnRow.func=some f)(XB:Tryz.pinned.checked.prog.funcs[f]?=some fn):
  true=Tryz.pinned.checked.prog.looks []∧∀(j:Nat) t,fn.params[j]?=some t→Tryz.pinned.checked.prog.wantsStandIn t=false:=by
 obtain rfl:f=3:=wi ((show Tryz.prog.funcNamed Rows.lazyOwnRow.func=some 3 by kernel_rfl).symm.trans hf)|>.symm;obtain rfl:fn=Tryz.f3:=(wi (Tryz.func3.symm.trans XB)).symm;refine⟨by kernel_rfl,fun j t bc=>?_⟩;have hm:t∈Tryz.f3.params.toList:=by simpa using Array.mem_of_getElem? bc
 have nc:(Tryz.f3.params.toList.all fun u=>!Tryz.prog.wantsStandIn u)=true:=by kernel_rfl
 exact (show Tryz.prog.wantsStandIn t=false by simpa using List.all_eq_true.1 nc t hm)
theorem card:Rows.LazyOwnCardSaid:=
 Claim7.holds_tied_plain_at .later [] _ _ _ _ said (fun _ h=>by cases h) (by as_aux_lemma=>kernel_rfl) (fun _ h=>by cases h) lazyOwn_row_tie rfl ⟨rfl,rfl⟩ (by as_aux_lemma=>kernel_rfl) rfl plain (by as_aux_lemma=>kernel_rfl)
#print axioms card
end LazyOwn
end Go.Proofs.YtkaiaijcieaofaaGreatDoor
