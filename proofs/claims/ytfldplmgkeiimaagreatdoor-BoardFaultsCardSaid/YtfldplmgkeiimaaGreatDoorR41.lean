/- Lemmas. -/
import Derived.Test.YtfldplmgkeiimaaGreatDoorR40
import Derived.ProofKit
import Derived.Test.YtfldplmgkeiimaaGreatDoorCards
import Derived.Test.YtfldplmgkeiimaaGreatDoorTie
import Derived.OpenShut
import Derived.LaidMore
import Derived.Lay
import Derived.LaidOnce
import Derived.Stop.Joined
import Derived.SevenTiedAt
import Derived.Lib.LaidTab
import Derived.Lib.LaidU8
import Derived.Shelf.Vars
set_option linter.all false
set_option maxRecDepth 100000
set_option maxHeartbeats 32000000
namespace Go.Proofs.YtfldplmgkeiimaaGreatDoor
namespace BoardFaults
open Go.ChangeShapes Go.WideShapes Go.ChangeAt Go.RowKit
open ef dd
open pk (lf)
theorem avc{a b c:aeo}(h:ao a a b)(az:ao b b c):ao a a c:=h.trans (az.mono h.size)
abbrev V':TypeId:=27
abbrev HQ:TypeId:=84
theorem avd{w:aeo}{k:Nat}{a b c d e f:ada}{t:aai}(h:an w k (#[a,b,c,d,e,f]) t):ak w k 0 a∧ak w k 1 b∧ak w k 2 c∧ak w k 3 d∧ak w k 4 e∧ak w k 5 f:=⟨cell_of h rfl,cell_of h rfl,cell_of h rfl,cell_of h rfl,cell_of h rfl,cell_of h rfl⟩
theorem walk(aD:Int)(ave:-9223372036854775808≤aD)(avf:aD≤9223372036854775807)(w:aeo)(ff:lf w):
  Calls Tryz.prog 9 #[I aD] w fun e w'=>e=ab (U true)∧ao w w w':=by
 clear ave avf;have avg:=aq ff;clear ff;obtain⟨m,hm,jB⟩:∃m:Nat,bits .and .i64 aD 255=(m:Int)∧m≤255:=⟨(aD%256).toNat,by rw[Bits.agb];omega,by omega⟩;obtain⟨k,ay,fs⟩:∃k:Nat,(m:Int)%12=(k:Int)∧k<12:=⟨m%12,by omega,by omega⟩;have qP:(k:Int)<12:=by omega
 have qi:(0:Int)≤(k:Int):=by omega
 go_enter Tryz.func9,Tryz.ntmps9;go_upto_region 4 with fail;have pE:=aq (a6 w (ai (#[I 0,I 0,I 8,I 1,I 1,I 0]) V'));have b0:=aq (bY w (ai (#[I 0,I 0,I 8,I 1,I 1,I 0]) V'));generalize w.alloc (.cells #[I 0,I 0,I 8,I 1,I 1,I 0] V')=W0 at pE b0⊢;obtain⟨v0,v1,v2,v3,v4,v5⟩:=avd b0.out;go_upto_region 5 with fail;rename_i K hK;refine ava (V:=w.heap.size) ⟨rfl,rfl,rfl,rfl,rfl,rfl,b0.out⟩ (by kernel_rfl) rfl (by kernel_rfl) (by kernel_rfl) (fun a hX ax hd hs hx aF=>?_);refine hK _ _ ?_;clear hK;obtain⟨gq,gM,hg,hh,hj,gT,hk,hl,ho,hq,j6,fM,bK⟩:=aF;obtain⟨f,rfl⟩:=avb hs hd (show a.eval (.tmp 0)=I aD from hx 0 (by decide)) (show a.eval (.tmp 2)=U false from hx 2 (by decide)) fM;clear hs hd hx fM;have uD:=aq (pE.out.trans (ax.mono pE.out.size));have IN:=aq (asl (avg.out.below uD.out) bK.1 bK.2.1 bK.2.2.1 bK.2.2.2.1 bK.2.2.2.2.1 bK.2.2.2.2.2.1 bK.2.2.2.2.2.2.1 bK.2.2.2.2.2.2.2.1 bK.2.2.2.2.2.2.2.2.1 bK.2.2.2.2.2.2.2.2.2.1 k fs);have cy:=aq (show hX.heap[j6]?=some (.cells (LN gq gM hg hh hj gT hk hl ho hq) HQ) from bK.2.2.2.2.2.2.2.2.2.2);clear ax bK v0 v1 v2 v3 v4 v5 b0 pE;obtain⟨cm,cq,bQ,bM,cB,ch,pl,nl,cl,ew,bn,ec,bJ,bO,ba,aB,st,f0,f1,f2,f3,eD,hR⟩:=IN.out;have bw:=aq hR;have key:∀j,j<17→∀u,[Value.int .i64 cm,I cq,I bQ,I bM,I cB,I ch,ad pl nl cl,ad ew bn ec,I bJ,I bO,I ba,I aB,I st,I f0,I f1,I f2,I f3][j]?=some u→ak hX j6 (k *17+j) u:=fun j cd u hu=>cell_of cy.out ((asj eD cd).trans hu);clear hR eD IN;have s0:ak hX j6 (k *17) (I cm):=key 0 (by decide) _ rfl;have s1:ak hX j6 (k *17+1) (I cq):=key 1 (by decide) _ rfl;have s2:ak hX j6 (k *17+2) (I bQ):=key 2 (by decide) _ rfl;have nd:ak hX j6 (k *17+3) (I bM):=key 3 (by decide) _ rfl;have qz:ak hX j6 (k *17+4) (I cB):=key 4 (by decide) _ rfl;have qA:ak hX j6 (k *17+5) (I ch):=key 5 (by decide) _ rfl;have qB:ak hX j6 (k *17+6) (ad pl nl cl):=key 6 (by decide) _ rfl;have qC:ak hX j6 (k *17+7) (ad ew bn ec):=key 7 (by decide) _ rfl;have qD:ak hX j6 (k *17+8) (I bJ):=key 8 (by decide) _ rfl;have qE:ak hX j6 (k *17+9) (I bO):=key 9 (by decide) _ rfl;have Wa:ak hX j6 (k *17+10) (I ba):=key 10 (by decide) _ rfl;have Wb:ak hX j6 (k *17+11) (I aB):=key 11 (by decide) _ rfl;have Wc:ak hX j6 (k *17+12) (I st):=key 12 (by decide) _ rfl;have Qg:ak hX j6 (k *17+13) (I f0):=key 13 (by decide) _ rfl;have Qh:ak hX j6 (k *17+14) (I f1):=key 14 (by decide) _ rfl;have Qi:ak hX j6 (k *17+15) (I f2):=key 15 (by decide) _ rfl;have Qj:ak hX j6 (k *17+16) (I f3):=key 16 (by decide) _ rfl;clear key;go_upto_region 7 with fail;have o9:=aq (uD.out.trans ((a6 hX (ai (#[I cm,I cq,I bQ,I bM,I cB,I ch,ad pl nl cl,ad ew bn ec,I bJ,I bO,I ba,I aB,I st,I f0,I f1,I f2,I f3]) HQ)).mono uD.out.size));have Lq:=aq (fun Z (eY:Below (hX.alloc (ai (#[I cm,I cq,I bQ,I bM,I cB,I ch,ad pl nl cl,ad ew bn ec,I bJ,I bO,I ba,I aB,I st,I f0,I f1,I f2,I f3]) HQ)).heap.size (hX.alloc (ai (#[I cm,I cq,I bQ,I bM,I cB,I ch,ad pl nl cl,ad ew bn ec,I bJ,I bO,I ba,I aB,I st,I f0,I f1,I f2,I f3]) HQ)) Z)=>bw.out Z (avc (a6 hX _) eY));have lT:=aq (bY hX (ai (#[I cm,I cq,I bQ,I bM,I cB,I ch,ad pl nl cl,ad ew bn ec,I bJ,I bO,I ba,I aB,I st,I f0,I f1,I f2,I f3]) HQ));generalize hX.alloc (.cells #[I cm,I cq,I bQ,I bM,I cB,I ch,ad pl nl cl,ad ew bn ec,I bJ,I bO,I ba,I aB,I st,I f0,I f1,I f2,I f3] HQ)=cU at o9 Lq lT⊢;clear s0 s1 s2 nd qz qA qB qC qD qE Wa Wb Wc Qg Qh Qi Qj cy bw uD ay hm;obtain⟨X,c7⟩:=ar hX.heap.size;rw[c7] at lT⊢;clear c7;have s0:ak cU X 0 (I cm):=cell_of lT.out rfl;have s1:ak cU X 1 (I cq):=cell_of lT.out rfl;have s2:ak cU X 2 (I bQ):=cell_of lT.out rfl;have nd:ak cU X 3 (I bM):=cell_of lT.out rfl;have qz:ak cU X 4 (I cB):=cell_of lT.out rfl;have qA:ak cU X 5 (I ch):=cell_of lT.out rfl;have qB:ak cU X 6 (ad pl nl cl):=cell_of lT.out rfl;have qC:ak cU X 7 (ad ew bn ec):=cell_of lT.out rfl;have qD:ak cU X 8 (I bJ):=cell_of lT.out rfl;have qE:ak cU X 9 (I bO):=cell_of lT.out rfl;have Wa:ak cU X 10 (I ba):=cell_of lT.out rfl;have Wb:ak cU X 11 (I aB):=cell_of lT.out rfl;have Wc:ak cU X 12 (I st):=cell_of lT.out rfl;have Qg:ak cU X 13 (I f0):=cell_of lT.out rfl;have Qh:ak cU X 14 (I f1):=cell_of lT.out rfl;have Qi:ak cU X 15 (I f2):=cell_of lT.out rfl;have Qj:ak cU X 16 (I f3):=cell_of lT.out rfl;have hr:=Lq.out cU (Below.refl _ _);go_upto_region 8 with (first|(go_at_call 20;(with_reducible refine hr.mono ?_);rintro e eT ⟨la,eI,eM,c,q,n,cp,rfl,HR⟩)|fail);have afj:=aq HR;have xS:ao cU cU ((eT.alloc (ai (#[I eI,I eM,U c,ad q n cp]) jO)).alloc (ai (#[I f0,I f1,I f2,I f3]) eN)):=(la.alloc la.size _).alloc (dx la.size (a6 eT _).size) _;have afk:af (((eT.alloc (ai (#[I eI,I eM,U c,ad q n cp]) jO)).alloc (ai (#[I f0,I f1,I f2,I f3]) eN)).heap[eT.heap.size]?=some (.cells #[I eI,I eM,U c,ad q n cp] jO)):=aU (bY eT _) (a6 _ _);have HN:af (((eT.alloc (ai (#[I eI,I eM,U c,ad q n cp]) jO)).alloc (ai (#[I f0,I f1,I f2,I f3]) eN)).heap[eT.heap.size+1]?=some (.cells #[I f0,I f1,I f2,I f3] eN)):=by have a2:=bY (eT.alloc (ai (#[I eI,I eM,U c,ad q n cp]) jO)) (ai (#[I f0,I f1,I f2,I f3]) eN);rw[show (eT.alloc (ai (#[I eI,I eM,U c,ad q n cp]) jO)).heap.size=eT.heap.size+1 from sx _] at a2;exact a2
 have L1:=aq (aU lT.out xS);have kl:=aq (o9.out.trans (xS.mono o9.out.size));clear hr la xS HR lT o9 Lq s0 s1 s2 nd qz qA qB qC qD qE Wa Wb Wc Qg Qh Qi Qj;generalize (eT.alloc (ai (#[I eI,I eM,U c,ad q n cp]) jO)).alloc (.cells #[I f0,I f1,I f2,I f3] eN)=e6 at afk HN L1 kl⊢;obtain⟨i0,lN,i2,i3⟩:=jN afk.out;obtain⟨a0,bA,a2,a3⟩:=jN HN.out;have Qg:ak e6 X 13 (I f0):=cell_of L1.out rfl;have Qh:ak e6 X 14 (I f1):=cell_of L1.out rfl;have Qi:ak e6 X 15 (I f2):=cell_of L1.out rfl;have Qj:ak e6 X 16 (I f3):=cell_of L1.out rfl;have afl:=arZ e6;by_cases aC:f3=0
 ·have hn:0<(n:Int):=(by have:=afj.out.1 aC;omega);go_wp2_with (first|(go_at_call 31;(with_reducible refine afl.mono ?_);rintro e aeX ⟨rfl,AR⟩)|fail);go_ret;exact⟨rfl,kl.out.trans (AR.mono kl.out.size)⟩
 ·have hn:¬0<(n:Int):=fun h=>aC (afj.out.2 (by omega));go_wp2_with (first|(go_at_call 31;(with_reducible refine afl.mono ?_);rintro e aeX ⟨rfl,AR⟩)|fail)
  all_goals first
   |(go_ret;exact⟨rfl,kl.out.trans (AR.mono kl.out.size)⟩)
   |(rename_i aR;exact absurd (by rw[beq_eq_false_iff_ne.2 aC,ey (show ¬0<n by omega)]) aR)
end BoardFaults
namespace Qk
open Go.ChangeShapes Go.WideShapes Go.ChangeAt Go.RowKit kR
theorem own:ownKnob Tryz.prog.godebug=none:=by kernel_rfl
theorem laidOut:laidOutB Tryz.prog=true:=by kernel_rfl
theorem afm{H:Type}{enc:TypeId×Value→H}{P:Program}(aA:laidOutB P=true){W ko:aeo}(ax:ao W W ko):
  ∀{ts:List TypeId} {vs:aev} {hV:List (DataW H)} {ps:List MemPlace},(ts.all fun t=>P.readableRec t&&decide (t<P.types.size))=true→
   DataW.TrodAll enc P W 0 (fun _=>true) true ts vs hV ps→(∀x∈ps,x.block<W.heap.size)→DataW.TrodAll enc P ko 0 (fun b=>decide (b<W.heap.size)) true ts vs hV ps
 |[],[],[],_,_,h,_=>h
 |[],[],_::_,_,_,h,_=>h.elim
 |[],_::_,[],_,_,h,_=>h.elim
 |[],_::_,_::_,_,_,h,_=>h.elim
 |_::_,[],_,_,_,h,_=>h.elim
 |_::_,_::_,[],_,_,h,_=>h.elim
 |t::ts,v::vs,d::hV,ps,hr,h,bR=>by obtain⟨p,q,av,az,rfl⟩:=h;simp only[List.all_cons,jh,jR] at hr;exact⟨p,q,Below.trod aA hr.1.1 hr.1.2 av ax (fun x hx=>bR x (by simp[hx])),afm aA ax hr.2 az (fun x hx=>bR x (by simp[hx])),rfl⟩
end Qk
namespace BoardFaults
open Go.ChangeShapes Go.WideShapes Go.ChangeAt Go.RowKit
theorem closed:joinedFacts Tryz.pinned.checked.prog 9 Tryz.f9 Rows.boardFaultsSpec Rows.boardFaultsRow=true:=by
 unfold joinedFacts;simp only[jh]
 repeat' (apply And.intro)
 all_goals (as_aux_lemma=>kernel_rfl)
end BoardFaults
namespace Qk
open Go.ChangeShapes Go.WideShapes Go.ChangeAt Go.RowKit kR pk
theorem avh{w:aeo}(h:w.ShapedOpen Tryz.prog):lf w:=
 cell_of_shapedOpen_int (P:=Tryz.prog) (g:=0) (t:=3) (zero:= #[I 0]) h (Mj (by kernel_rfl)) (by kernel_rfl) rfl (by kernel_rfl) (by kernel_rfl) vv
theorem avi{os:Os}(started:os.Started){f:FuncId}{fn:Func}{s:ChangeSpec}{laid:List (String×DataW Unit)}{H:Type}{enc:TypeId×Value→H}
  (avj:Tryz.prog.inits.idxOf? f=none) (HR:Tryz.prog.funcs[f]?=some fn) (We:s.vars=[]) (dA:fn.resultTypes= #[4])
  (avk:(fn.params.toList.all fun t=>Tryz.prog.readableRec t&&decide (t<Tryz.prog.types.size))=true)
  (Wf:∀hV:List (DataW H),hV.length=fn.params.size→s.fn H (hV++[])={results:=[.lit (.bool true)],args:=hV,vars:=[]})
  (witness:∃(w:aeo) (tape:Tape) (i:Input),w.os=os∧(w.forCall tape i).Shaped Tryz.prog∧i.vars=[]∧Input.okWide Tryz.prog (w.forCall tape i) .any w.heap.size f i∧
   ((s.pre enc Tryz.prog fn [] false (w.forCall tape i).memory i.args∧laidMetH Tryz.prog laid (w.forCall tape i).memory)∧sizedMet enc Tryz.prog fn (OpenSpec.ofChange s) false (w.forCall tape i).memory i.args)∧({}:Assume).holds Tryz.prog (lone (Frame.enter Tryz.prog f i.args .normal) [] (w.forCall tape i)))
  (walk:∀(W:aeo) (base:Nat) (args:ajv) (hV:List (DataW H)) (p:List MemPlace),
   (∀(j:Nat) t v,fn.params[j]?=some t→args[j]?=some v→Value.okWide Tryz.prog W .any base t v)→
   DataW.TrodAll enc Tryz.prog W 0 (fun _=>true) true fn.params.toList args.toList hV p→
   (DataW.weightsEach Tryz.prog fn.params.toList hV).all (· ≤reachBytes)=true→
   W.noneFrozen p→laidMetH Tryz.prog laid W→lf W→Calls Tryz.prog f args W fun e ko=>e=ab (U true)∧ao W W ko):
  ReturnsInHanded {} Tryz.checked os f .any (fun w args=>(s.pre enc Tryz.prog fn [] false w args∧laidMetH Tryz.prog laid w)∧sizedMet enc Tryz.prog fn (OpenSpec.ofChange s) false w args) (s.post enc Tryz.prog fn false true false false):=by
 refine returnsInHanded_of_calls own started avj witness ?_;intro w0 tape i _ el _ eF Yx _;obtain⟨_,_,_,avl,avm,_,_,_,_,sc⟩:=eF;obtain rfl:fn=avl:=q5 (HR.symm.trans avm);obtain⟨⟨⟨hV,gs,before,afn,_⟩,hx⟩,cz⟩:=Yx;have bo:=DataW.Whole.of_heap (w':=w0.forCall tape i) (by rfl) afn;have iF:=cz.weights afn;have jJ:laidMetH Tryz.prog laid (w0.forCall tape i):=hx.of_heap (by rfl);have ff:=avh el;generalize w0.forCall tape i=W at sc bo jJ ff⊢
 suffices key:Calls Tryz.prog f i.args W fun e ko=>∃v,e=ab v∧s.post enc Tryz.prog fn false true false false W i.args v ko by refine key.mono fun e ko ⟨v,he,hp⟩=>?_;subst he;exact ChangeSpec.post_blind hp
 have afo:=bo;obtain⟨p,q,hA0,nk,rfl,nE,QO⟩:=bo;have hA:DataW.TrodAll enc Tryz.prog W 0 (fun _=>true) true fn.params.toList i.args.toList hV p:=hA0
 have Dw:gs=[]∧q=[]:=by
  rw[We] at nk;cases gs with
  |nil=>exact⟨rfl,nk⟩
  |cons _ _=>exact nk.elim
 obtain⟨rfl,rfl⟩:=Dw;have avn:(DataW.weightsEach Tryz.prog fn.params.toList hV).all (· ≤reachBytes)=true:=by have a7:s.plain.varTypes Tryz.prog=[]:=(by show s.vars.filterMap _=[];rw[We];rfl);have h:=iF;have bf:DataSpec.varTypes Tryz.prog (OpenSpec.ofChange s).bare.plain=[]:=a7;rw[bf,List.append_nil,List.append_nil] at h;exact h
 have bR:∀x∈p,x.block<W.heap.size:=fun x hx=>afo.lt x (by simp[hx]);have avo:W.noneFrozen p:=by simpa using nE
 have hlen:hV.length=fn.params.size:=by
  have:∀{ts:List TypeId} {vs:aev} {hV:List (DataW H)} {ps:List MemPlace},DataW.TrodAll enc Tryz.prog W 0 (fun _=>true) true ts vs hV ps→hV.length=ts.length:=by
   intro ts
   induction ts with
   |nil=>intro vs hV ps h;cases vs<;>cases hV<;>first|rfl|exact h.elim
   |cons t ts cO=>
    intro vs hV ps h;cases vs with
    |nil=>exact h.elim
    |cons v vs=>
     cases hV with
     |nil=>exact h.elim
     |cons d hV=>
      obtain⟨p,q,_,az,_⟩:=h;simp[cO az]
  simpa using this hA
 refine (walk W _ _ hV p sc hA avn avo jJ ff).mono fun e ko ⟨he,ax⟩=>?_;subst he;refine⟨_,rfl,hV,[],p++[],[],p,[],afo,?_,?_,?_,ax.frame _,fun h=>by cases h⟩
 ·rw[Wf hV hlen,dA];exact trodAll_mk1 (shut_bool Tryz.underlying4 _)
 ·rw[Wf hV hlen];exact afm laidOut ax avk hA bR
 ·rw[Wf hV hlen,We];rfl
end Qk
