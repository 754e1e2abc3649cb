/- Lemmas. -/
import Derived.Test.YtfldplmgkeiimaaGreatDoorQ2
import Derived.Test.YtfldplmgkeiimaaGreatDoorCards
import Derived.Test.YtfldplmgkeiimaaGreatDoorTie
import Derived.ProofKit
import Derived.OpenShut
import Derived.LaidMore
import Derived.Lay
import Derived.LaidOnce
import Derived.Stop.Joined
import Derived.SevenTiedAt
import Derived.Lib.LaidTab
import Derived.Lib.LaidU8
set_option linter.all false
set_option maxRecDepth 100000
set_option maxHeartbeats 25600000
namespace Go.Proofs.YtfldplmgkeiimaaGreatDoor
namespace ah4
open Go.ChangeShapes Go.WideShapes Go.ChangeAt Go.RowKit ny
theorem own:ownKnob Tryz.prog.godebug=none:=by kernel_rfl
theorem laidOut:laidOutB Tryz.prog=true:=by kernel_rfl
theorem ah5{H:Type}{enc:TypeId×Value→H}{P:Program}(aA:laidOutB P=true){W ng:aeo}(ay:ao W W ng):
  ∀{ts:List TypeId} {vs:aev} {hX:List (DataW H)} {ps:List MemPlace},(ts.all fun t=>P.readableRec t&&decide (t<P.types.size))=true→
   DataW.TrodAll enc P W 0 (fun _=>true) true ts vs hX ps→(∀x∈ps,x.block<W.heap.size)→DataW.TrodAll enc P ng 0 (fun b=>decide (b<W.heap.size)) true ts vs hX ps
 |[],[],[],_,_,h,_=>h
 |[],[],_::_,_,_,h,_=>h.elim
 |[],_::_,[],_,_,h,_=>h.elim
 |[],_::_,_::_,_,_,h,_=>h.elim
 |_::_,[],_,_,_,h,_=>h.elim
 |_::_,_::_,[],_,_,h,_=>h.elim
 |t::ts,v::vs,d::hX,ps,hr,h,b1=>by obtain⟨p,q,av,az,rfl⟩:=h;simp only[GF,ix,iO] at hr;exact⟨p,q,Below.trod aA hr.1.1 hr.1.2 av ay (fun x hx=>b1 x (by simp[hx])),ah5 aA ay hr.2 az (fun x hx=>b1 x (by simp[hx])),rfl⟩
theorem awu{os:Os}(started:os.Started){f:FuncId}{fn:Func}{s:ChangeSpec}{laid:List (String×DataW Unit)}{H:Type}{enc:TypeId×Value→H}
  (awv:Tryz.prog.inits.idxOf? f=none) (Xl:Tryz.prog.funcs[f]?=some fn) (Xm:s.vars=[]) (dQ:fn.resultTypes= #[4])
  (aww:(fn.params.toList.all fun t=>Tryz.prog.readableRec t&&decide (t<Tryz.prog.types.size))=true)
  (Xn:∀hX:List (DataW H),hX.length=fn.params.size→s.fn H (hX++[])={results:=[.lit (.bool true)],args:=hX,vars:=[]})
  (witness:∃(w:aeo) (tape:Tape) (i:Input),w.os=os∧(w.forCall tape i).Shaped Tryz.prog∧i.vars=[]∧Input.okWide Tryz.prog (w.forCall tape i) .any w.heap.size f i∧
   ((s.pre enc Tryz.prog fn [] false (w.forCall tape i).memory i.args∧laidMetH Tryz.prog laid (w.forCall tape i).memory)∧sizedMet enc Tryz.prog fn (OpenSpec.ofChange s) false (w.forCall tape i).memory i.args)∧({}:Assume).holds Tryz.prog (lone (Frame.enter Tryz.prog f i.args .normal) [] (w.forCall tape i)))
  (walk:∀(W:aeo) (base:Nat) (args:ajv) (hX:List (DataW H)) (p:List MemPlace),
   (∀(j:Nat) t v,fn.params[j]?=some t→args[j]?=some v→Value.okWide Tryz.prog W .any base t v)→
   DataW.TrodAll enc Tryz.prog W 0 (fun _=>true) true fn.params.toList args.toList hX p→
   (DataW.weightsEach Tryz.prog fn.params.toList hX).all (· ≤reachBytes)=true→
   W.noneFrozen p→laidMetH Tryz.prog laid W→Calls Tryz.prog f args W fun e ng=>e=ab (U true)∧ao W W ng):
  ReturnsInHanded {} Tryz.checked os f .any (fun w args=>(s.pre enc Tryz.prog fn [] false w args∧laidMetH Tryz.prog laid w)∧sizedMet enc Tryz.prog fn (OpenSpec.ofChange s) false w args) (s.post enc Tryz.prog fn false true false false):=by
 refine returnsInHanded_of_change_and (C:=Tryz.checked) (X:=fun w _=>laidMetH Tryz.prog laid w) (fun _ _ _ aJ h=>h.of_heap aJ) own started awv Xl witness ?_;intro W base args hX gs before awx br _ gK lu _;have vz:∀(j:Nat) t v,fn.params[j]?=some t→args[j]?=some v→Value.okWide Tryz.prog W .any base t v:=awx;have ah6:=br;obtain⟨p,q,hA0,lg,rfl,n5,YR⟩:=br;have hA:DataW.TrodAll enc Tryz.prog W 0 (fun _=>true) true fn.params.toList args.toList hX p:=hA0
 have Ew:gs=[]∧q=[]:=by
  rw[Xm] at lg;cases gs with
  |nil=>exact⟨rfl,lg⟩
  |cons _ _=>exact lg.elim
 obtain⟨rfl,rfl⟩:=Ew;have awy:(DataW.weightsEach Tryz.prog fn.params.toList hX).all (· ≤reachBytes)=true:=by have a1:s.plain.varTypes Tryz.prog=[]:=(by show s.vars.filterMap _=[];rw[Xm];rfl);have h:=gK;rw[show (s.plain.varTypes Tryz.checked.prog)=[] from a1,List.append_nil,List.append_nil] at h;exact h
 have b1:∀x∈p,x.block<W.heap.size:=fun x hx=>ah6.lt x (by simp[hx]);have awz:W.noneFrozen p:=by simpa using n5
 have hlen:hX.length=fn.params.size:=by
  have:∀{ts:List TypeId} {vs:aev} {hX:List (DataW H)} {ps:List MemPlace},DataW.TrodAll enc Tryz.prog W 0 (fun _=>true) true ts vs hX ps→hX.length=ts.length:=by
   intro ts
   induction ts with
   |nil=>intro vs hX ps h;cases vs<;>cases hX<;>first|rfl|exact h.elim
   |cons t ts cT=>
    intro vs hX ps h;cases vs with
    |nil=>exact h.elim
    |cons v vs=>
     cases hX with
     |nil=>exact h.elim
     |cons d hX=>
      obtain⟨p,q,_,az,_⟩:=h;simp[cT az]
  simpa using this hA
 refine (walk W base args hX p vz hA awy awz lu).mono fun e ng ⟨he,ay⟩=>?_;subst he;refine⟨_,rfl,hX,[],p++[],[],p,[],ah6,?_,?_,?_,ay.frame _,fun h=>by cases h⟩
 ·rw[Xn hX hlen,dQ];exact trodAll_mk1 (shut_bool Tryz.underlying4 _)
 ·rw[Xn hX hlen];exact ah5 laidOut ay aww hA b1
 ·rw[Xn hX hlen,Xm];rfl
end ah4
namespace TopMacros
open Go.ChangeShapes Go.WideShapes Go.ChangeAt Go.RowKit
theorem closed:joinedFacts Tryz.pinned.checked.prog 4 Tryz.f4 Rows.topMacrosSpec Rows.topMacrosRow=true:=by
 unfold joinedFacts;simp only[ix]
 repeat' (apply And.intro)
 all_goals (as_aux_lemma=>kernel_rfl)
end TopMacros
