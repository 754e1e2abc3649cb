/-
  Proved: a macro's aperture flashed is as the same apertures flashed one by one, where nothing is taken away: any few discs and boxes of numbers, anywhere, any view (heliographtop.TopMacros returns true). Conditions: the row's own.
-/
import Derived.Test.YtfldplmgkeiimaaGreatDoorQ41
import Derived.Test.YtfldplmgkeiimaaGreatDoorQ40
set_option linter.all false
set_option maxRecDepth 100000
namespace Go.Proofs.YtfldplmgkeiimaaGreatDoor
abbrev ah7:=@MakeChecks.laidMetH_plain
abbrev Rd:=@Proofs.Tryz.underlying2
namespace TopMacros
open Go.ChangeShapes Go.WideShapes Go.ChangeAt Go.WideMaps Go.WideElems Go.RowKit
open dH c4 uy
open bS (h3 cz)
theorem lifted(os:Os)(started:os.Started)(H:Type)(enc:TypeId×Value→H):
  ReturnsInHanded {} Tryz.checked os 4 .any (fun w args=>(Rows.topMacrosSpec.pre enc Tryz.prog Tryz.f4 [] false w args∧laidMetH Tryz.prog Rows.topMacrosRow.laid w)∧sizedMet enc Tryz.prog Tryz.f4 (OpenSpec.ofChange Rows.topMacrosSpec) false w args)
   (Rows.topMacrosSpec.post enc Tryz.prog Tryz.f4 false true false false):=by
 refine ah4.awu started (by kernel_rfl) Tryz.func4 rfl (by kernel_rfl) (by kernel_rfl) (fun hX awA=>?_)
  (ChangeSpec.witness_shaped (enc:=enc) (C:=Tryz.checked) (os:=os) (X:=fun w _=>laidMetH Tryz.prog Rows.topMacrosRow.laid w) false (World.laidAll Tryz.prog os Rows.topMacrosRow.laid) #[J 0,I 0,I 0,J 0] 8 (World.laidAll_os _ _ _)
   (World.shaped_of_ZipB (by kernel_rfl) (by kernel_rfl)) (by kernel_rfl) (by kernel_rfl) (by kernel_rfl)
   (by rw[ah7 _ _ _ (by kernel_rfl)];exact laidMet_laidAll _ (by kernel_rfl) (by kernel_rfl))) ?_
 ·match hX,awA with
  |[a0,bE,a2,a3],_=>rfl
 intro W base args hX p vz hA _ _ lu;rw[ah7 _ _ _ (by kernel_rfl)] at lu;rw[Tryz.params4] at hA vz;obtain⟨v0,azj,d0,azk,gf,fm,azl,rfl,rfl,aT,gZ⟩:=trodAll_cons hA;obtain⟨v1,azm,d1,azn,e8,bW,rfl,rfl,rfl,av,fM⟩:=trodAll_cons gZ;obtain⟨v2,azo,d2,azp,dN,cj,rfl,rfl,rfl,az,kO⟩:=trodAll_cons fM;obtain⟨v3,azq,d3,azr,ze,eb,rfl,rfl,rfl,aF,p5⟩:=trodAll_cons kO;obtain⟨rfl,rfl,rfl⟩:=trodAll_nil p5;obtain rfl:args= #[v0,v1,v2,v3]:=by cases args;simp_all
 obtain⟨a0,aN,Mz,rfl,g0,bQ,z0⟩:=c4.ahg Ve Rd (by kernel_rfl) (vz 0 22 v0 rfl rfl) aT;obtain⟨aG,rfl,rfl,rfl,bV⟩:=open_int Rd (vz 1 2 v1 rfl rfl) av;have cE:-9223372036854775808≤aG∧aG≤9223372036854775807:=by simpa[Lit.wf,IntKind.min,IntKind.max,IntKind.signed,IntKind.bits] using bV
 obtain⟨jL,rfl,rfl,rfl,bY⟩:=open_int Rd (vz 2 2 v2 rfl rfl) az;have bo:-9223372036854775808≤jL∧jL≤9223372036854775807:=by simpa[Lit.wf,IntKind.min,IntKind.max,IntKind.signed,IntKind.bits] using bY
 obtain⟨a3,c3,x',rfl,g3,il,z3⟩:=c4.ahg Ve Rd (by kernel_rfl) (vz 3 22 v3 rfl rfl) aF;exact walk a0 aN Mz g0 bQ aG cE.1 cE.2 jL bo.1 bo.2 a3 c3 x' g3 il W z0 z3
theorem said:Rows.TopMacrosSaid:=
 OpenClaim.holds_of_wide 4 Tryz.f4 rfl rfl rfl rfl rfl rfl rfl ⟨rfl,rfl,rfl,rfl,rfl⟩ rfl rfl rfl rfl rfl (by as_aux_lemma=>kernel_rfl) Tryz.func4 closed
  (of_decide_eq_true (by as_aux_lemma=>kernel_rfl)) (by unfold Func.isWrapper;first|(rw[a8 (by decide+kernel)];kernel_rfl)|(rw[aR (by decide+kernel)];exact⟨rfl,rfl⟩))
  (fun os started H enc _=>lifted os started H enc)
theorem plain(f:FuncId)(fn:Func)(hf:Tryz.pinned.checked.prog.funcNamed Rows.topMacrosRow.func=some f)(Xl:Tryz.pinned.checked.prog.funcs[f]?=some fn):
  true=Tryz.pinned.checked.prog.looks []∧∀(j:Nat) t,fn.params[j]?=some t→Tryz.pinned.checked.prog.wantsStandIn t=false:=by
 obtain rfl:f=4:=EJ ((show Tryz.prog.funcNamed Rows.topMacrosRow.func=some 4 by kernel_rfl).symm.trans hf)|>.symm;obtain rfl:fn=Tryz.f4:=(EJ (Tryz.func4.symm.trans Xl)).symm;refine⟨by kernel_rfl,fun j t bB=>?_⟩;have hm:t∈Tryz.f4.params.toList:=by simpa using Array.mem_of_getElem? bB
 have lE:(Tryz.f4.params.toList.all fun u=>!Tryz.prog.wantsStandIn u)=true:=by kernel_rfl
 exact (show Tryz.prog.wantsStandIn t=false by simpa using List.all_eq_true.1 lE t hm)
theorem card:Rows.TopMacrosCardSaid:=
 Claim7.holds_tied_plain_at .later [] _ _ _ _ said (fun _ h=>by cases h) (by as_aux_lemma=>kernel_rfl) (fun _ h=>by cases h) topMacros_row_tie rfl ⟨rfl,rfl⟩ (by as_aux_lemma=>kernel_rfl) rfl plain (by as_aux_lemma=>kernel_rfl)
#print axioms card
end TopMacros
end Go.Proofs.YtfldplmgkeiimaaGreatDoor
