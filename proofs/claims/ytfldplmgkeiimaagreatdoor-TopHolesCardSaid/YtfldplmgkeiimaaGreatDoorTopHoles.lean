/-
  Proved: a contour within another one is a hole of it, and the same told as a clear region behind it is covered alike, pixel for pixel, in any of these views (heliographtop.TopHoles returns true). Conditions: the row's own.
-/
import Derived.Test.YtfldplmgkeiimaaGreatDoorQ41
set_option linter.all false
set_option maxRecDepth 100000
namespace Go.Proofs.YtfldplmgkeiimaaGreatDoor
abbrev ahU:=@MakeChecks.laidMetH_plain
abbrev NH:=@Proofs.Tryz.underlying2
namespace TopHoles
open Go.ChangeShapes Go.WideShapes Go.ChangeAt Go.WideMaps Go.WideElems Go.RowKit
open el dE RP
open cf (hV)
theorem lifted(os:Os)(started:os.Started)(H:Type)(enc:TypeId×Value→H):
  ReturnsInHanded {} Tryz.checked os 3 .any (fun w args=>(Rows.topHolesSpec.pre enc Tryz.prog Tryz.f3 [] false w args∧laidMetH Tryz.prog Rows.topHolesRow.laid w)∧sizedMet enc Tryz.prog Tryz.f3 (OpenSpec.ofChange Rows.topHolesSpec) false w args)
   (Rows.topHolesSpec.post enc Tryz.prog Tryz.f3 false true false false):=by
 refine ahR.avs started (by kernel_rfl) Tryz.func3 rfl (by kernel_rfl) (by kernel_rfl) (fun iw avy=>?_)
  (ChangeSpec.witness_shaped (enc:=enc) (C:=Tryz.checked) (os:=os) (X:=fun w _=>laidMetH Tryz.prog Rows.topHolesRow.laid w) false (World.laidAll Tryz.prog os Rows.topHolesRow.laid) #[I 0,I 0,I 0,I 0,ay 0] 8 (World.laidAll_os _ _ _)
   (World.shaped_of_ZipB (by kernel_rfl) (by kernel_rfl)) (by kernel_rfl) (by kernel_rfl) (by kernel_rfl)
   (by rw[ahU _ _ _ (by kernel_rfl)];exact laidMet_laidAll _ (by kernel_rfl) (by kernel_rfl))) ?_
 ·match iw,avy with
  |[a0,a',a2,a3,a4],_=>rfl
 intro W base args iw p uj hA _ _ lU;rw[ahU _ _ _ (by kernel_rfl)] at lU;rw[Tryz.params3] at hA uj;obtain⟨v0,aym,d0,ayn,eK,e8,ayo,rfl,rfl,aQ,jD⟩:=trodAll_cons hA;obtain⟨v1,ayp,d1,ayq,er,bN,rfl,rfl,rfl,aa,ie⟩:=trodAll_cons jD;obtain⟨v2,ayr,d2,ays,ee,ch,rfl,rfl,rfl,ah,ly⟩:=trodAll_cons ie;obtain⟨v3,ayt,d3,ayu,zk,ep,rfl,rfl,rfl,ax,qD⟩:=trodAll_cons ly;obtain⟨v4,ayv,d4,ayw,zl,gx,rfl,rfl,rfl,bg,sf⟩:=trodAll_cons qD;obtain⟨rfl,rfl,rfl⟩:=trodAll_nil sf;obtain rfl:args= #[v0,v1,v2,v3,v4]:=by cases args;simp_all
 obtain⟨ao,rfl,rfl,rfl,w0⟩:=open_int NH (uj 0 2 v0 rfl rfl) aQ;have bX:-9223372036854775808≤ao∧ao≤9223372036854775807:=by simpa[Lit.wf,IntKind.min,IntKind.max,IntKind.signed,IntKind.bits] using w0
 obtain⟨ar,rfl,rfl,rfl,bE⟩:=open_int NH (uj 1 2 v1 rfl rfl) aa;have b3:-9223372036854775808≤ar∧ar≤9223372036854775807:=by simpa[Lit.wf,IntKind.min,IntKind.max,IntKind.signed,IntKind.bits] using bE
 obtain⟨gY,rfl,rfl,rfl,cr⟩:=open_int NH (uj 2 2 v2 rfl rfl) ah;have bc:-9223372036854775808≤gY∧gY≤9223372036854775807:=by simpa[Lit.wf,IntKind.min,IntKind.max,IntKind.signed,IntKind.bits] using cr
 obtain⟨mL,rfl,rfl,rfl,dJ⟩:=open_int NH (uj 3 2 v3 rfl rfl) ax;have ev:-9223372036854775808≤mL∧mL≤9223372036854775807:=by simpa[Lit.wf,IntKind.min,IntKind.max,IntKind.signed,IntKind.bits] using dJ
 obtain⟨a4,bF,MX,rfl,g4,zF,z4⟩:=dE.ava Tryz.underlying22 NH (by kernel_rfl) (uj 4 22 v4 rfl rfl) bg;exact walk ao bX.1 bX.2 ar b3.1 b3.2 gY bc.1 bc.2 mL ev.1 ev.2 a4 bF MX g4 zF W z4
theorem said:Rows.TopHolesSaid:=
 OpenClaim.holds_of_wide 3 Tryz.f3 rfl rfl rfl rfl rfl rfl rfl ⟨rfl,rfl,rfl,rfl,rfl⟩ rfl rfl rfl rfl rfl (by as_aux_lemma=>kernel_rfl) Tryz.func3 closed
  (S1 (by as_aux_lemma=>kernel_rfl)) (by unfold Func.isWrapper;first|(rw[aT (by decide+kernel)];kernel_rfl)|(rw[aK (by decide+kernel)];exact⟨rfl,rfl⟩))
  (fun os started H enc _=>lifted os started H enc)
theorem plain(f:FuncId)(fn:Func)(hf:Tryz.pinned.checked.prog.funcNamed Rows.topHolesRow.func=some f)(X6:Tryz.pinned.checked.prog.funcs[f]?=some fn):
  true=Tryz.pinned.checked.prog.looks []∧∀(j:Nat) t,fn.params[j]?=some t→Tryz.pinned.checked.prog.wantsStandIn t=false:=by
 obtain rfl:f=3:=C7 ((show Tryz.prog.funcNamed Rows.topHolesRow.func=some 3 by kernel_rfl).symm.trans hf)|>.symm;obtain rfl:fn=Tryz.f3:=(C7 (Tryz.func3.symm.trans X6)).symm;refine⟨by kernel_rfl,fun j t bH=>?_⟩;have hm:t∈Tryz.f3.params.toList:=by simpa using Array.mem_of_getElem? bH
 have nG:(Tryz.f3.params.toList.all fun u=>!Tryz.prog.wantsStandIn u)=true:=by kernel_rfl
 exact (show Tryz.prog.wantsStandIn t=false by simpa using List.all_eq_true.1 nG t hm)
theorem card:Rows.TopHolesCardSaid:=
 Claim7.holds_tied_plain_at .later [] _ _ _ _ said (fun _ h=>by cases h) (by as_aux_lemma=>kernel_rfl) (fun _ h=>by cases h) topHoles_row_tie rfl ⟨rfl,rfl⟩ (by as_aux_lemma=>kernel_rfl) rfl plain (by as_aux_lemma=>kernel_rfl)
#print axioms card
end TopHoles
end Go.Proofs.YtfldplmgkeiimaaGreatDoor
