/- Lemmas. -/
import Derived.Test.YtfldplmgkeiimaaGreatDoorR39
import Derived.Laws.Tables
import Derived.Great.BuildSlice
set_option linter.all false
set_option maxRecDepth 100000
namespace Go.Proofs.YtfldplmgkeiimaaGreatDoor
abbrev CG:=@Proofs.Tryz.underlying28
namespace dd
open Go.RowKit
section
variable{P:Program}{o:Oper}{a:Act}{w:aeo}
variable{x:Operand}{v:ada}
theorem zg(h:o.op=.move x)(aY:a.eval x=v):(execOp a.eval o).run P w=.ok (.value v) w:=by rw[←aY];unfold execOp;rw[h];rfl
theorem asu(h:o.op=.assign x)(aY:a.eval x=v):(execOp a.eval o).run P w=.ok (.value v) w:=by rw[←aY];unfold execOp;rw[h];rfl
variable{t:aai}
theorem gr{ps:List (Nat×Operand)}{c:ajv}(h:o.op=.build t ps.toArray)(ax:P.built t (ps.map fun (i,x)=>(i,a.eval x))=some c):(execOp a.eval o).run P w=.ok (.value (.agg c)) w:=by unfold execOp;rw[h];simp only[zV,run_build w t (ps.toArray.map fun (i,x)=>(i,a.eval x)) c (by simpa using ax),uZ];rfl
theorem x4(h:o.op=.load t x)(aA:(Instr.loadAt t (a.eval x)).run P w=.ok v w):(execOp a.eval o).run P w=.ok (.value v) w:=by unfold execOp;rw[h];simp only[zV,aA,uZ];rfl
theorem afc{e:aai}{y:Operand}{w':aeo}(h:o.op=.makeSlice t x y)(aA:(Instr.makeSlice t (a.eval x) (a.eval y)).run P w=.ok v w'):(execOp a.eval o).run P w=.ok (.value v) w':=by unfold execOp;rw[h];simp only[zV,aA,uZ];rfl
theorem AU{e:aai}{len:Nat}{ps:List (Nat×Operand)}{c:ajv}(h:o.op=.buildSlice t len ps.toArray)(hu:P.underlying t=some (.slice e))(l4:P.builtSlice e len (ps.map fun (i,x)=>(i,a.eval x))=some c):(execOp a.eval o).run P w=.ok (.value (ag w.heap.size 0 len len)) (w.alloc (ai c e)):=by
 have hf:P.builtSlice e len (ps.toArray.map fun (i,x)=>(i,a.eval x)).toList=some c:=by simpa using l4
 have hr:(Instr.buildSlice t len (ps.toArray.map fun (i,x)=>(i,a.eval x))).run P w=.ok (ag w.heap.size 0 len len) (w.alloc (ai c e)):=by
  unfold Program.builtSlice at hf;cases LA:P.info? e with
  |none=>simp[LA] at hf
  |some Qd=>
   simp only[LA] at hf;cases cz:Qd.zero with
   |none=>simp[cz] at hf
   |some z=>
    simp only[cz] at hf;by_cases hc:len *Qd.size > 2^24∨len *Qd.size=0
    ·simp[hc] at hf
    ·rw[aW hc] at hf;exact run_buildSlice w t e len _ c Qd z hu LA cz (fun fD=>hc (Or.inl fD)) (fun fD=>hc (Or.inr fD)) hf
 unfold execOp;rw[h];simp only[zV,hr,uZ];rfl
end
def Fe(p:ada→aeo→Prop):Prop:=∀v w w',p v w→ao w w w'→p v w'
def fG(c:ada):ada→aeo→Prop:=fun v _=>v=c
def g1(f:Nat→ada)(o:Obj):ada→aeo→Prop:=fun v w=>∃N,v=f N∧w.heap[N]?=some o
def g2(f:Nat→Nat→ada)(o nD:Obj):ada→aeo→Prop:=fun v w=>∃N M,v=f N M∧w.heap[N]?=some o∧w.heap[M]?=some nD
theorem fQ(c:ada):Fe (fG c):=fun _ _ _ h _=>h
theorem mu{w w':aeo}{N:Nat}{o:Obj}(h:w.heap[N]?=some o)(ax:ao w w w'):w'.heap[N]?=some o:=(ax.block N (lt_of_heap h)).trans h
theorem lC(f:Nat→ada)(o:Obj):Fe (g1 f o):=fun _ _ _ ⟨N,av,az⟩ ax=>⟨N,av,mu az ax⟩
theorem afd(f:Nat→Nat→ada)(o nD:Obj):Fe (g2 f o nD):=fun _ _ _ ⟨N,M,av,az,aC⟩ ax=>⟨N,M,av,mu az ax,mu aC ax⟩
def afe(gq gM hg hh hj gT hk hl ho hq j6:Nat)(w:aeo):Prop:=w.heap[gq]?=some (.cells #[aa gg,I 0,I 0,I 0,I (-1),U false] c8)∧an w gM (#[aa pg,I 0,I 0,I 0,I 0,U false,aa gg,I 0,I 0,I 0,I 0,U false]) c8∧an w hg (#[aa gg,I 0,I 0,I 0,I 0,U false]) c8∧an w hh (#[aa th,aa ti]) 9∧an w hj (#[aa eB,I 0,I 0,I 0,I 0,U false]) c8∧an w gT (#[aa eB,I 0,I 0,I 0,I 0,U false]) c8∧an w hk (#[aa eB,I 0,I 0,I 0,I 0,U false,aa eB,I 0,I 0,I 0,I 0,U false]) c8∧an w hl (madeCells #[aa ⟨#[]⟩,I 0,I 0,I 0,I 0,U false] 198) c8∧an w ho (madeCells #[aa ⟨#[]⟩] 33) 9∧an w hq (#[aa (⟨#[]⟩:Ua),I 0,I 0,I 0,I 0,U false]) c8∧an w j6 (LN gq gM hg hh hj gT hk hl ho hq) 84
def Qe:ada→aeo→Prop:=fun v w=>∃gq gM hg hh hj gT hk hl ho hq j6,v=ad (some (aj j6 0)) 12 12∧afe gq gM hg hh hj gT hk hl ho hq j6 w
theorem aff:Fe Qe:=fun _ _ _ ⟨gq,gM,hg,hh,hj,gT,hk,hl,ho,hq,j6,h,aS,av,az,aC,bt,cr,c4,ez,eS,fM,mw⟩ ax=>⟨gq,gM,hg,hh,hj,gT,hk,hl,ho,hq,j6,h,mu aS ax,mu av ax,mu az ax,mu aC ax,mu bt ax,mu cr ax,mu c4 ax,mu ez ax,mu eS ax,mu fM ax,mu mw ax⟩
def asv:List (Value→aeo→Prop):=[fG (.agg #[I 0,I 0,I 0,I 0,I 0,I 0,J 0,J 0,I 0,I 0,I 0,I 0,I 0]),fG (.agg #[I 0,I 0,I 0,I 1]),fG (.agg #[I 0,I 0,I 0,I 0,I 0,I 0,J 0,J 0,I 0,I 0,I 0,I 0,I 0,I 0,I 0,I 0,I 1]),fG (.agg #[I 0,I 0,I 8,I 1,I 1,I 0]),fG (.agg #[I 0,I 0,I 8,I 1,I 1,I 0,J 0,J 0,I 0,I 0,I 0,I 0,I 0]),fG (.agg #[I 0,I 0,I 0,I 0]),fG (.agg #[I 0,I 0,I 8,I 1,I 1,I 0,J 0,J 0,I 0,I 0,I 0,I 0,I 0,I 0,I 0,I 0,I 0]),fG (.agg #[I 0,I 0,I 8,I 1,I 1,I 0]),fG (.agg #[I 0,I 256,I 0]),fG (.agg #[I 0,I 0,I 8,I 1,I 1,I 0,J 0,J 0,I 0,I 256,I 0,I 0,I 0]),fG (.agg #[I 0,I 0,I 0,I 1]),fG (.agg #[I 0,I 0,I 8,I 1,I 1,I 0,J 0,J 0,I 0,I 256,I 0,I 0,I 0,I 0,I 0,I 0,I 1]),fG (.agg #[I 0,I 0,I 8,I 1,I 1,I 0]),fG (aa gg),fG (.agg #[aa gg,I 0,I 0,I 0,I (-1),U false]),g1 (fun gq=>(ad (some (aj gq 0)) 1 1)) (ai (#[aa gg,I 0,I 0,I 0,I (-1),U false]) c8),g1 (fun gq=>(.agg #[I 0,I 0,I 8,I 1,I 1,I 0,ag gq 0 1 1,J 0,I 0,I 0,I 0,I 0,I 0])) (ai (#[aa gg,I 0,I 0,I 0,I (-1),U false]) c8),fG (.agg #[I 0,I 0,I 0,I 1]),g1 (fun gq=>(.agg #[I 0,I 0,I 8,I 1,I 1,I 0,ag gq 0 1 1,J 0,I 0,I 0,I 0,I 0,I 0,I 0,I 0,I 0,I 1])) (ai (#[aa gg,I 0,I 0,I 0,I (-1),U false]) c8),fG (.agg #[I 0,I 0,I 8,I 1,I 1,I 0]),fG (aa pg),fG (.agg #[aa pg,I 0,I 0,I 0,I 0,U false]),fG (aa gg),fG (.agg #[aa gg,I 0,I 0,I 0,I 0,U false]),g1 (fun gM=>(ad (some (aj gM 0)) 2 2)) (ai (#[aa pg,I 0,I 0,I 0,I 0,U false,aa gg,I 0,I 0,I 0,I 0,U false]) c8),g1 (fun gM=>(.agg #[I 0,I 0,I 8,I 1,I 1,I 0,ag gM 0 2 2,J 0,I 0,I 0,I 0,I 0,I 9])) (ai (#[aa pg,I 0,I 0,I 0,I 0,U false,aa gg,I 0,I 0,I 0,I 0,U false]) c8),fG (.agg #[I 1,I 1,I 4,I 4]),g1 (fun gM=>(.agg #[I 0,I 0,I 8,I 1,I 1,I 0,ag gM 0 2 2,J 0,I 0,I 0,I 0,I 0,I 9,I 1,I 1,I 4,I 4])) (ai (#[aa pg,I 0,I 0,I 0,I 0,U false,aa gg,I 0,I 0,I 0,I 0,U false]) c8),fG (.agg #[I 0,I 0,I 8,I 1,I 1,I 0]),fG (aa gg),fG (.agg #[aa gg,I 0,I 0,I 0,I 0,U false]),g1 (fun hg=>(ad (some (aj hg 0)) 1 1)) (ai (#[aa gg,I 0,I 0,I 0,I 0,U false]) c8),fG (aa th),fG (aa ti),g1 (fun hh=>(ad (some (aj hh 0)) 2 2)) (ai (#[aa th,aa ti]) 9),g2 (fun hg hh=>(.agg #[I 0,I 0,I 8,I 1,I 1,I 0,ag hg 0 1 1,ag hh 0 2 2,I 0,I 0,I 0,I 0,I 0])) (ai (#[aa gg,I 0,I 0,I 0,I 0,U false]) c8) (ai (#[aa th,aa ti]) 9),fG (.agg #[I 2,I 1,I 4,I 4]),g2 (fun hg hh=>(.agg #[I 0,I 0,I 8,I 1,I 1,I 0,ag hg 0 1 1,ag hh 0 2 2,I 0,I 0,I 0,I 0,I 0,I 2,I 1,I 4,I 4])) (ai (#[aa gg,I 0,I 0,I 0,I 0,U false]) c8) (ai (#[aa th,aa ti]) 9),fG (.agg #[I 0,I 0,I 8,I 1,I 1,I 0]),fG (aa eB),fG (.agg #[aa eB,I 0,I 0,I 0,I 0,U false]),g1 (fun hj=>(ad (some (aj hj 0)) 1 1)) (ai (#[aa eB,I 0,I 0,I 0,I 0,U false]) c8),g1 (fun hj=>(.agg #[I 0,I 0,I 8,I 1,I 1,I 0,ag hj 0 1 1,J 0,I 0,I 0,I 0,I 0,I 9])) (ai (#[aa eB,I 0,I 0,I 0,I 0,U false]) c8),fG (.agg #[I 1,I 0,I 36,I 6]),g1 (fun hj=>(.agg #[I 0,I 0,I 8,I 1,I 1,I 0,ag hj 0 1 1,J 0,I 0,I 0,I 0,I 0,I 9,I 1,I 0,I 36,I 6])) (ai (#[aa eB,I 0,I 0,I 0,I 0,U false]) c8),fG (.agg #[I 0,I 0,I 8,I 1,I 1,I 0]),fG (aa eB),fG (.agg #[aa eB,I 0,I 0,I 0,I 0,U false]),g1 (fun gT=>(ad (some (aj gT 0)) 1 1)) (ai (#[aa eB,I 0,I 0,I 0,I 0,U false]) c8),g1 (fun gT=>(.agg #[I 0,I 0,I 8,I 1,I 1,I 0,ag gT 0 1 1,J 0,I 0,I 0,I 0,I 1,I 0])) (ai (#[aa eB,I 0,I 0,I 0,I 0,U false]) c8),fG (.agg #[I 1,I 0,I 0,I 6]),g1 (fun gT=>(.agg #[I 0,I 0,I 8,I 1,I 1,I 0,ag gT 0 1 1,J 0,I 0,I 0,I 0,I 1,I 0,I 1,I 0,I 0,I 6])) (ai (#[aa eB,I 0,I 0,I 0,I 0,U false]) c8),fG (.agg #[I 0,I 0,I 8,I 1,I 1,I 0]),fG (aa eB),fG (.agg #[aa eB,I 0,I 0,I 0,I 0,U false]),fG (aa eB),fG (.agg #[aa eB,I 0,I 0,I 0,I 0,U false]),g1 (fun hk=>(ad (some (aj hk 0)) 2 2)) (ai (#[aa eB,I 0,I 0,I 0,I 0,U false,aa eB,I 0,I 0,I 0,I 0,U false]) c8),g1 (fun hk=>(.agg #[I 0,I 0,I 8,I 1,I 1,I 0,ag hk 0 2 2,J 0,I 0,I 0,I 0,I 1,I 1])) (ai (#[aa eB,I 0,I 0,I 0,I 0,U false,aa eB,I 0,I 0,I 0,I 0,U false]) c8),fG (.agg #[I 1,I 1,I 0,I 6]),g1 (fun hk=>(.agg #[I 0,I 0,I 8,I 1,I 1,I 0,ag hk 0 2 2,J 0,I 0,I 0,I 0,I 1,I 1,I 1,I 1,I 0,I 6])) (ai (#[aa eB,I 0,I 0,I 0,I 0,U false,aa eB,I 0,I 0,I 0,I 0,U false]) c8),fG (.agg #[I 0,I 0,I 8,I 1,I 1,I 0]),g1 (fun hl=>(ad (some (aj hl 0)) 33 33)) (ai (madeCells #[aa ⟨#[]⟩,I 0,I 0,I 0,I 0,U false] 198) c8),g1 (fun hl=>(.agg #[I 0,I 0,I 8,I 1,I 1,I 0,ag hl 0 33 33,J 0,I 0,I 0,I 0,I 0,I 0])) (ai (madeCells #[aa ⟨#[]⟩,I 0,I 0,I 0,I 0,U false] 198) c8),fG (.agg #[I 0,I 0,I 0,I 1]),g1 (fun hl=>(.agg #[I 0,I 0,I 8,I 1,I 1,I 0,ag hl 0 33 33,J 0,I 0,I 0,I 0,I 0,I 0,I 0,I 0,I 0,I 1])) (ai (madeCells #[aa ⟨#[]⟩,I 0,I 0,I 0,I 0,U false] 198) c8),fG (.agg #[I 0,I 0,I 8,I 1,I 1,I 0]),g1 (fun ho=>(ad (some (aj ho 0)) 33 33)) (ai (madeCells #[aa ⟨#[]⟩] 33) 9),g1 (fun ho=>(.agg #[I 0,I 0,I 8,I 1,I 1,I 0,J 0,ag ho 0 33 33,I 0,I 0,I 0,I 0,I 0])) (ai (madeCells #[aa ⟨#[]⟩] 33) 9),fG (.agg #[I 0,I 0,I 0,I 1]),g1 (fun ho=>(.agg #[I 0,I 0,I 8,I 1,I 1,I 0,J 0,ag ho 0 33 33,I 0,I 0,I 0,I 0,I 0,I 0,I 0,I 0,I 1])) (ai (madeCells #[aa ⟨#[]⟩] 33) 9),fG (.agg #[I 0,I 0,I 8,I 1,I 1,I 0]),fG (.agg #[aa ⟨#[]⟩,I 0,I 0,I 0,I 0,U false]),g1 (fun hq=>(ad (some (aj hq 0)) 1 1)) (ai (#[aa (⟨#[]⟩:Ua),I 0,I 0,I 0,I 0,U false]) c8),g1 (fun hq=>(.agg #[I 0,I 0,I 8,I 1,I 1,I 0,ag hq 0 1 1,J 0,I 0,I 0,I 0,I 0,I 0])) (ai (#[aa (⟨#[]⟩:Ua),I 0,I 0,I 0,I 0,U false]) c8),fG (.agg #[I 1,I 0,I 0,I 11]),g1 (fun hq=>(.agg #[I 0,I 0,I 8,I 1,I 1,I 0,ag hq 0 1 1,J 0,I 0,I 0,I 0,I 0,I 0,I 1,I 0,I 0,I 11])) (ai (#[aa (⟨#[]⟩:Ua),I 0,I 0,I 0,I 0,U false]) c8),Qe,Qe]
def CH(i:Nat):Tmp:=if i<78 then 14+i else 9
abbrev LO(i:Nat):ada→aeo→Prop:=asv.getD i fun _ _=>True
def Qf(p:afp):Nat→Prop
 |0=>True
 |n+1=>Qf p n∧p n
theorem Qf.at{p:afp}:∀{n:Nat},Qf p n→∀i,i<n→p i
 |n+1,h,i,hi=>(HS (Nat.le_of_lt_succ hi)).elim (fun fD=>h.1.at i fD) (fun e=>e ▸ h.2)
theorem afg:∀{l:List (Value→aeo→Prop)},(∀p∈l,Fe p)→∀i,Fe (l.getD i fun _ _=>True)
 |[],_,_=>fun _ _ _ _ _=>trivial
 |p::l,h,0=>h p (List.mem_cons_self ..)
 |p::l,h,i+1=>afg (l:=l) (fun q aR=>h q (Ew _ aR)) i
theorem all_nil{p:(Value→aeo→Prop)→Prop}:∀x∈ [],p x:=fun _ h=>absurd h (by simp)
theorem all_cons{p:(Value→aeo→Prop)→Prop}{x:ada→aeo→Prop}{l:List (Value→aeo→Prop)}(h:p x)(az:∀y∈l,p y):∀y∈x::l,p y:=fun y hy=>by
 rcases List.mem_cons.1 hy with rfl|hy
 ·exact h
 ·exact az y hy
theorem asw(i:Nat):Fe (LO i):=afg (all_cons (fQ _) (all_cons (fQ _) (all_cons (fQ _) (all_cons (fQ _) (all_cons (fQ _) (all_cons (fQ _) (all_cons (fQ _) (all_cons (fQ _) (all_cons (fQ _) (all_cons (fQ _) (all_cons (fQ _) (all_cons (fQ _) (all_cons (fQ _) (all_cons (fQ _) (all_cons (fQ _) (all_cons (lC _ _) (all_cons (lC _ _) (all_cons (fQ _) (all_cons (lC _ _) (all_cons (fQ _) (all_cons (fQ _) (all_cons (fQ _) (all_cons (fQ _) (all_cons (fQ _) (all_cons (lC _ _) (all_cons (lC _ _) (all_cons (fQ _) (all_cons (lC _ _) (all_cons (fQ _) (all_cons (fQ _) (all_cons (fQ _) (all_cons (lC _ _) (all_cons (fQ _) (all_cons (fQ _) (all_cons (lC _ _) (all_cons (afd _ _ _) (all_cons (fQ _) (all_cons (afd _ _ _) (all_cons (fQ _) (all_cons (fQ _) (all_cons (fQ _) (all_cons (lC _ _) (all_cons (lC _ _) (all_cons (fQ _) (all_cons (lC _ _) (all_cons (fQ _) (all_cons (fQ _) (all_cons (fQ _) (all_cons (lC _ _) (all_cons (lC _ _) (all_cons (fQ _) (all_cons (lC _ _) (all_cons (fQ _) (all_cons (fQ _) (all_cons (fQ _) (all_cons (fQ _) (all_cons (fQ _) (all_cons (lC _ _) (all_cons (lC _ _) (all_cons (fQ _) (all_cons (lC _ _) (all_cons (fQ _) (all_cons (lC _ _) (all_cons (lC _ _) (all_cons (fQ _) (all_cons (lC _ _) (all_cons (fQ _) (all_cons (lC _ _) (all_cons (lC _ _) (all_cons (fQ _) (all_cons (lC _ _) (all_cons (fQ _) (all_cons (fQ _) (all_cons (lC _ _) (all_cons (lC _ _) (all_cons (fQ _) (all_cons (lC _ _) (all_cons (aff) (all_cons (aff) (all_nil)))))))))))))))))))))))))))))))))))))))))))))))))))))))))))))))))))))))))))))))) i
def Ff:List (Op×List Nat):=[(.build 32 #[],[]),(.build 39 #[(3,.const (I 1))],[]),(.build 84 #[(0,.tmp 14),(1,.tmp 15)],[0,1]),(.load 27 (.tmp 7),[]),(.build 32 #[(0,.tmp 17)],[3]),(.build 39 #[],[]),(.build 84 #[(0,.tmp 18),(1,.tmp 19)],[4,5]),(.load 27 (.tmp 7),[]),(.build 30 #[(0,.const (I 0)),(1,.const (I 256)),(2,.const (I 0))],[]),(.build 32 #[(0,.tmp 21),(3,.tmp 22)],[7,8]),(.build 39 #[(3,.const (I 1))],[]),(.build 84 #[(0,.tmp 23),(1,.tmp 24)],[9,10]),(.load 27 (.tmp 7),[]),(.move (.tmp 4),[]),(.build 35 #[(0,.tmp 27),(4,.const (I (-1)))],[13]),(.buildSlice 28 1 #[(0,.tmp 28)],[14]),(.build 32 #[(0,.tmp 26),(1,.tmp 29)],[12,15]),(.build 39 #[(3,.const (I 1))],[]),(.build 84 #[(0,.tmp 30),(1,.tmp 31)],[16,17]),(.load 27 (.tmp 7),[]),(.move (.tmp 3),[]),(.build 35 #[(0,.tmp 34)],[20]),(.move (.tmp 4),[]),(.build 35 #[(0,.tmp 36)],[22]),(.buildSlice 28 2 #[(0,.tmp 35),(1,.tmp 37)],[21,23]),(.build 32 #[(0,.tmp 33),(1,.tmp 38),(5,.const (I 9))],[19,24]),(.build 39 #[(0,.const (I 1)),(1,.const (I 1)),(2,.const (I 4)),(3,.const (I 4))],[]),(.build 84 #[(0,.tmp 39),(1,.tmp 40)],[25,26]),(.load 27 (.tmp 7),[]),(.move (.tmp 4),[]),(.build 35 #[(0,.tmp 43)],[29]),(.buildSlice 28 1 #[(0,.tmp 44)],[30]),(.move (.tmp 5),[]),(.move (.tmp 6),[]),(.buildSlice 29 2 #[(0,.tmp 46),(1,.tmp 47)],[32,33]),(.build 32 #[(0,.tmp 42),(1,.tmp 45),(2,.tmp 48)],[28,31,34]),(.build 39 #[(0,.const (I 2)),(1,.const (I 1)),(2,.const (I 4)),(3,.const (I 4))],[]),(.build 84 #[(0,.tmp 49),(1,.tmp 50)],[35,36]),(.load 27 (.tmp 7),[]),(.move (.tmp 8),[]),(.build 35 #[(0,.tmp 53)],[39]),(.buildSlice 28 1 #[(0,.tmp 54)],[40]),(.build 32 #[(0,.tmp 52),(1,.tmp 55),(5,.const (I 9))],[38,41]),(.build 39 #[(0,.const (I 1)),(2,.const (I 36)),(3,.const (I 6))],[]),(.build 84 #[(0,.tmp 56),(1,.tmp 57)],[42,43]),(.load 27 (.tmp 7),[]),(.move (.tmp 8),[]),(.build 35 #[(0,.tmp 60)],[46]),(.buildSlice 28 1 #[(0,.tmp 61)],[47]),(.build 32 #[(0,.tmp 59),(1,.tmp 62),(4,.const (I 1))],[45,48]),(.build 39 #[(0,.const (I 1)),(3,.const (I 6))],[]),(.build 84 #[(0,.tmp 63),(1,.tmp 64)],[49,50]),(.load 27 (.tmp 7),[]),(.move (.tmp 8),[]),(.build 35 #[(0,.tmp 67)],[53]),(.move (.tmp 8),[]),(.build 35 #[(0,.tmp 69)],[55]),(.buildSlice 28 2 #[(0,.tmp 68),(1,.tmp 70)],[54,56]),(.build 32 #[(0,.tmp 66),(1,.tmp 71),(4,.const (I 1)),(5,.const (I 1))],[52,57]),(.build 39 #[(0,.const (I 1)),(1,.const (I 1)),(3,.const (I 6))],[]),(.build 84 #[(0,.tmp 72),(1,.tmp 73)],[58,59]),(.load 27 (.tmp 7),[]),(.makeSlice 28 (.const (I 33)) (.const (I 33)),[]),(.build 32 #[(0,.tmp 75),(1,.tmp 76)],[61,62]),(.build 39 #[(3,.const (I 1))],[]),(.build 84 #[(0,.tmp 77),(1,.tmp 78)],[63,64]),(.load 27 (.tmp 7),[]),(.makeSlice 29 (.const (I 33)) (.const (I 33)),[]),(.build 32 #[(0,.tmp 80),(2,.tmp 81)],[66,67]),(.build 39 #[(3,.const (I 1))],[]),(.build 84 #[(0,.tmp 82),(1,.tmp 83)],[68,69]),(.load 27 (.tmp 7),[]),(.build 35 #[],[]),(.buildSlice 28 1 #[(0,.tmp 86)],[72]),(.build 32 #[(0,.tmp 85),(1,.tmp 87)],[71,73]),(.build 39 #[(0,.const (I 1)),(3,.const (I 11))],[]),(.build 84 #[(0,.tmp 88),(1,.tmp 89)],[74,75]),(.buildSlice 85 12 #[(0,.tmp 16),(1,.tmp 20),(2,.tmp 25),(3,.tmp 32),(4,.tmp 41),(5,.tmp 51),(6,.tmp 58),(7,.tmp 65),(8,.tmp 74),(9,.tmp 79),(10,.tmp 84),(11,.tmp 90)],[2,6,11,18,27,37,44,51,60,65,70,76]),(.assign (.tmp 91),[77])]
def HP(ops:Array Oper):List (List Nat)→Nat→Bool
 |[],_=>true
 | qc :: l,i=>(match ops[i]? with
  |some o=>o.after.all (fun e=>!Region.binds .any e || decide (e.on<i))&&qc.all (fun j=>decide (j<79)&&o.after.any fun e=>Region.binds .any e&&e.on==j)
  |none=>false)&&HP ops l (i+1)
theorem afh{ops:Array Oper}:∀{l:List (List Nat)} {k:Nat},HP ops l k=true→∀i qc,l[i]?=some qc→∃o,ops[k+i]?=some o∧(∀e∈o.after,Region.binds .any e=true→e.on<k+i)∧∀j∈qc,j<79∧∃e∈o.after,Region.binds .any e=true∧e.on=j
 |[],_,_,_,_,h=>by simp at h
 |qc::l,k,h,i,afi,hi=>by
  unfold HP at h;rw[jh] at h;cases i with
  |succ i=>
   have:=afh h.2 i afi (by simpa using hi)
   rwa [show k+1+i=k+(i+1) by omega] at this
  |zero=>
   obtain rfl:qc=afi:=(by simpa using hi);have av:=h.1;cases bm:ops[k]? with
   |none=>rw[bm] at av;cases av
   |some o=>
    rw[bm] at av;simp only[jh,Array.all_eq_true,HZ,Array.any_eq_true,Bb,Rs,jR,uR] at av;refine⟨o,rfl,fun e he ax=>?_,fun j cd=>?_⟩
    ·obtain⟨p3,ay,rfl⟩:=Array.getElem_of_mem he;rcases av.1 p3 ay with az|az
     ·rw[ax] at az;cases az
     ·exact az
    ·obtain⟨az,p3,ay,aC,bt⟩:=av.2 j cd;exact⟨az,_,Array.getElem_mem ay,aC,bt⟩
structure LP(V:Nat)(a0:Act)(w0:aeo):Prop where
 g:a0.eval (.tmp 3)=aa pg
 b:a0.eval (.tmp 4)=aa gg
 h:a0.eval (.tmp 5)=aa th
 w:a0.eval (.tmp 6)=aa ti
 f:a0.eval (.tmp 8)=aa eB
 p:a0.eval (.tmp 7)=.pointer (some (aj V 0))
 v:an w0 V (#[I 0,I 0,I 8,I 1,I 1,I 0]) 27
theorem nB{t:Nat}(h:t<14∧t≠9):∀i,i<79→CH i≠t:=fun i hi e=>by have e:(if i<78 then 14+i else 9)=(t:Nat):=e;split at e<;>omega
abbrev asx:Value:=.agg #[I 0,I 0,I 8,I 1,I 1,I 0]
variable{V:Nat}
theorem x5{w:aeo}(h:an w V (#[I 0,I 0,I 8,I 1,I 1,I 0]) 27):(Instr.loadAt 27 (ah V 0)).run Tryz.prog w=.ok asx w:=by have v0:=cell_of (i:=0) h rfl;have v1:=cell_of (i:=1) h rfl;have v2:=cell_of (i:=2) h rfl;have v3:=cell_of (i:=3) h rfl;have v4:=cell_of (i:=4) h rfl;have v5:=cell_of (i:=5) h rfl;go_simp
abbrev dN(i:Nat)(op:Op)(qc:List Nat):Prop:=∀(V:Nat) (a0:Act) (w0:aeo),LP V a0 w0→∀o:Oper,o.op=op→∀(a:Act) (w:aeo),ao w0 w0 w→(∀t,(∀i,i<79→CH i≠t)→a.eval (.tmp t)=a0.eval (.tmp t))→(∀j∈qc,LO j (a.eval (.tmp (CH j))) w)→∃v w',(execOp a.eval o).run Tryz.prog w=.ok (.value v) w'∧ao w w w'∧LO i v w'
theorem asy:(Tryz.prog.info? c8).map (fun i=>(i.zero,i.size,i.bytes))=some (some (.agg #[aa ⟨#[]⟩,I 0,I 0,I 0,I 0,U false]),6,56):=by kernel_rfl
theorem Uj:(Tryz.prog.info? 9).map (fun i=>(i.zero,i.size,i.bytes))=some (some (aa ⟨#[]⟩),1,16):=by kernel_rfl
theorem asz:dN 0 (.build 32 #[]) []:=fun V a0 w0 H o bP a w ax hx aF=>by
 have hc:Tryz.prog.built 32 []=some #[I 0,I 0,I 0,I 0,I 0,I 0,J 0,J 0,I 0,I 0,I 0,I 0,I 0]:=by kernel_rfl
 exact⟨_,w,gr bP hc,Below.refl _ _,rfl⟩
theorem asA:dN 1 (.build 39 #[(3,.const (I 1))]) []:=fun V a0 w0 H o bP a w ax hx aF=>by
 have hc:Tryz.prog.built 39 [(3,I 1)]=some #[I 0,I 0,I 0,I 1]:=by kernel_rfl
 exact⟨_,w,gr bP hc,Below.refl _ _,rfl⟩
theorem asB:dN 2 (.build 84 #[(0,.tmp 14),(1,.tmp 15)]) [0,1]:=fun V a0 w0 H o bP a w ax hx aF=>by
 have asC:a.eval (.tmp 14)=(.agg #[I 0,I 0,I 0,I 0,I 0,I 0,J 0,J 0,I 0,I 0,I 0,I 0,I 0]):=aF 0 (by simp);have asD:a.eval (.tmp 15)=(.agg #[I 0,I 0,I 0,I 1]):=aF 1 (by simp);have hc:Tryz.prog.built 84 [(0,a.eval (.tmp 14)),(1,a.eval (.tmp 15))]=some #[I 0,I 0,I 0,I 0,I 0,I 0,J 0,J 0,I 0,I 0,I 0,I 0,I 0,I 0,I 0,I 0,I 1]:=by rw[asC,asD];kernel_rfl
 exact⟨_,w,gr bP hc,Below.refl _ _,rfl⟩
theorem asE:dN 3 (.load 27 (.tmp 7)) []:=fun V a0 w0 H o bP a w ax hx aF=>by have iO:a.eval (.tmp 7)=_:=(hx 7 (nB (by decide))).trans H.p;exact⟨_,w,x4 bP (by rw[iO];exact x5 (aU H.v ax)),Below.refl _ _,rfl⟩
theorem asF:dN 4 (.build 32 #[(0,.tmp 17)]) [3]:=fun V a0 w0 H o bP a w ax hx aF=>by
 have asG:a.eval (.tmp 17)=(.agg #[I 0,I 0,I 8,I 1,I 1,I 0]):=aF 3 (by simp);have hc:Tryz.prog.built 32 [(0,a.eval (.tmp 17))]=some #[I 0,I 0,I 8,I 1,I 1,I 0,J 0,J 0,I 0,I 0,I 0,I 0,I 0]:=by rw[asG];kernel_rfl
 exact⟨_,w,gr bP hc,Below.refl _ _,rfl⟩
theorem asH:dN 5 (.build 39 #[]) []:=fun V a0 w0 H o bP a w ax hx aF=>by
 have hc:Tryz.prog.built 39 []=some #[I 0,I 0,I 0,I 0]:=by kernel_rfl
 exact⟨_,w,gr bP hc,Below.refl _ _,rfl⟩
theorem asI:dN 6 (.build 84 #[(0,.tmp 18),(1,.tmp 19)]) [4,5]:=fun V a0 w0 H o bP a w ax hx aF=>by
 have asJ:a.eval (.tmp 18)=(.agg #[I 0,I 0,I 8,I 1,I 1,I 0,J 0,J 0,I 0,I 0,I 0,I 0,I 0]):=aF 4 (by simp);have asK:a.eval (.tmp 19)=(.agg #[I 0,I 0,I 0,I 0]):=aF 5 (by simp);have hc:Tryz.prog.built 84 [(0,a.eval (.tmp 18)),(1,a.eval (.tmp 19))]=some #[I 0,I 0,I 8,I 1,I 1,I 0,J 0,J 0,I 0,I 0,I 0,I 0,I 0,I 0,I 0,I 0,I 0]:=by rw[asJ,asK];kernel_rfl
 exact⟨_,w,gr bP hc,Below.refl _ _,rfl⟩
theorem asL:dN 7 (.load 27 (.tmp 7)) []:=fun V a0 w0 H o bP a w ax hx aF=>by have iO:a.eval (.tmp 7)=_:=(hx 7 (nB (by decide))).trans H.p;exact⟨_,w,x4 bP (by rw[iO];exact x5 (aU H.v ax)),Below.refl _ _,rfl⟩
theorem asM:dN 8 (.build 30 #[(0,.const (I 0)),(1,.const (I 256)),(2,.const (I 0))]) []:=fun V a0 w0 H o bP a w ax hx aF=>by
 have hc:Tryz.prog.built 30 [(0,I 0),(1,I 256),(2,I 0)]=some #[I 0,I 256,I 0]:=by kernel_rfl
 exact⟨_,w,gr bP hc,Below.refl _ _,rfl⟩
theorem asN:dN 9 (.build 32 #[(0,.tmp 21),(3,.tmp 22)]) [7,8]:=fun V a0 w0 H o bP a w ax hx aF=>by
 have asO:a.eval (.tmp 21)=(.agg #[I 0,I 0,I 8,I 1,I 1,I 0]):=aF 7 (by simp);have asP:a.eval (.tmp 22)=(.agg #[I 0,I 256,I 0]):=aF 8 (by simp);have hc:Tryz.prog.built 32 [(0,a.eval (.tmp 21)),(3,a.eval (.tmp 22))]=some #[I 0,I 0,I 8,I 1,I 1,I 0,J 0,J 0,I 0,I 256,I 0,I 0,I 0]:=by rw[asO,asP];kernel_rfl
 exact⟨_,w,gr bP hc,Below.refl _ _,rfl⟩
theorem asQ:dN 10 (.build 39 #[(3,.const (I 1))]) []:=fun V a0 w0 H o bP a w ax hx aF=>by
 have hc:Tryz.prog.built 39 [(3,I 1)]=some #[I 0,I 0,I 0,I 1]:=by kernel_rfl
 exact⟨_,w,gr bP hc,Below.refl _ _,rfl⟩
theorem asR:dN 11 (.build 84 #[(0,.tmp 23),(1,.tmp 24)]) [9,10]:=fun V a0 w0 H o bP a w ax hx aF=>by
 have asS:a.eval (.tmp 23)=(.agg #[I 0,I 0,I 8,I 1,I 1,I 0,J 0,J 0,I 0,I 256,I 0,I 0,I 0]):=aF 9 (by simp);have asT:a.eval (.tmp 24)=(.agg #[I 0,I 0,I 0,I 1]):=aF 10 (by simp);have hc:Tryz.prog.built 84 [(0,a.eval (.tmp 23)),(1,a.eval (.tmp 24))]=some #[I 0,I 0,I 8,I 1,I 1,I 0,J 0,J 0,I 0,I 256,I 0,I 0,I 0,I 0,I 0,I 0,I 1]:=by rw[asS,asT];kernel_rfl
 exact⟨_,w,gr bP hc,Below.refl _ _,rfl⟩
theorem asU:dN 12 (.load 27 (.tmp 7)) []:=fun V a0 w0 H o bP a w ax hx aF=>by have iO:a.eval (.tmp 7)=_:=(hx 7 (nB (by decide))).trans H.p;exact⟨_,w,x4 bP (by rw[iO];exact x5 (aU H.v ax)),Below.refl _ _,rfl⟩
theorem asV:dN 13 (.move (.tmp 4)) []:=fun V a0 w0 H o bP a w ax hx aF=>by have hO:a.eval (.tmp 4)=_:=(hx 4 (nB (by decide))).trans H.b;exact⟨_,w,zg bP hO,Below.refl _ _,rfl⟩
theorem asW:dN 14 (.build 35 #[(0,.tmp 27),(4,.const (I (-1)))]) [13]:=fun V a0 w0 H o bP a w ax hx aF=>by
 have asX:a.eval (.tmp 27)=(aa gg):=aF 13 (by simp);have hc:Tryz.prog.built 35 [(0,a.eval (.tmp 27)),(4,I (-1))]=some #[aa gg,I 0,I 0,I 0,I (-1),U false]:=by rw[asX];kernel_rfl
 exact⟨_,w,gr bP hc,Below.refl _ _,rfl⟩
theorem asY:dN 15 (.buildSlice 28 1 #[(0,.tmp 28)]) [14]:=fun V a0 w0 H o bP a w ax hx aF=>by
 have asZ:a.eval (.tmp 28)=(.agg #[aa gg,I 0,I 0,I 0,I (-1),U false]):=aF 14 (by simp);have hc:Tryz.prog.builtSlice c8 1 [(0,a.eval (.tmp 28))]=some #[aa gg,I 0,I 0,I 0,I (-1),U false]:=by rw[asZ];kernel_rfl
 exact⟨_,_,AU bP CG hc,a6 _ _,⟨w.heap.size,rfl,bY _ _⟩⟩
theorem as0:dN 16 (.build 32 #[(0,.tmp 26),(1,.tmp 29)]) [12,15]:=fun V a0 w0 H o bP a w ax hx aF=>by
 have as1:a.eval (.tmp 26)=(.agg #[I 0,I 0,I 8,I 1,I 1,I 0]):=aF 12 (by simp);obtain⟨gq,as2,LQ⟩:∃gq,a.eval (.tmp 29)=(ad (some (aj gq 0)) 1 1)∧an w gq (#[aa gg,I 0,I 0,I 0,I (-1),U false]) c8:=aF 15 (by simp);have hc:Tryz.prog.built 32 [(0,a.eval (.tmp 26)),(1,a.eval (.tmp 29))]=some #[I 0,I 0,I 8,I 1,I 1,I 0,ad (some (aj gq 0)) 1 1,J 0,I 0,I 0,I 0,I 0,I 0]:=by rw[as1,as2];kernel_rfl
 exact⟨_,w,gr bP hc,Below.refl _ _,⟨gq,rfl,LQ⟩⟩
theorem as3:dN 17 (.build 39 #[(3,.const (I 1))]) []:=fun V a0 w0 H o bP a w ax hx aF=>by
 have hc:Tryz.prog.built 39 [(3,I 1)]=some #[I 0,I 0,I 0,I 1]:=by kernel_rfl
 exact⟨_,w,gr bP hc,Below.refl _ _,rfl⟩
theorem as4:dN 18 (.build 84 #[(0,.tmp 30),(1,.tmp 31)]) [16,17]:=fun V a0 w0 H o bP a w ax hx aF=>by
 obtain⟨gq,as5,LQ⟩:∃gq,a.eval (.tmp 30)=(.agg #[I 0,I 0,I 8,I 1,I 1,I 0,ag gq 0 1 1,J 0,I 0,I 0,I 0,I 0,I 0])∧an w gq (#[aa gg,I 0,I 0,I 0,I (-1),U false]) c8:=aF 16 (by simp);have as6:a.eval (.tmp 31)=(.agg #[I 0,I 0,I 0,I 1]):=aF 17 (by simp);have hc:Tryz.prog.built 84 [(0,a.eval (.tmp 30)),(1,a.eval (.tmp 31))]=some #[I 0,I 0,I 8,I 1,I 1,I 0,ad (some (aj gq 0)) 1 1,J 0,I 0,I 0,I 0,I 0,I 0,I 0,I 0,I 0,I 1]:=by rw[as5,as6];kernel_rfl
 exact⟨_,w,gr bP hc,Below.refl _ _,⟨gq,rfl,LQ⟩⟩
theorem as7:dN 19 (.load 27 (.tmp 7)) []:=fun V a0 w0 H o bP a w ax hx aF=>by have iO:a.eval (.tmp 7)=_:=(hx 7 (nB (by decide))).trans H.p;exact⟨_,w,x4 bP (by rw[iO];exact x5 (aU H.v ax)),Below.refl _ _,rfl⟩
theorem as8:dN 20 (.move (.tmp 3)) []:=fun V a0 w0 H o bP a w ax hx aF=>by have cM:a.eval (.tmp 3)=_:=(hx 3 (nB (by decide))).trans H.g;exact⟨_,w,zg bP cM,Below.refl _ _,rfl⟩
theorem as9:dN 21 (.build 35 #[(0,.tmp 34)]) [20]:=fun V a0 w0 H o bP a w ax hx aF=>by
 have ata:a.eval (.tmp 34)=(aa pg):=aF 20 (by simp);have hc:Tryz.prog.built 35 [(0,a.eval (.tmp 34))]=some #[aa pg,I 0,I 0,I 0,I 0,U false]:=by rw[ata];kernel_rfl
 exact⟨_,w,gr bP hc,Below.refl _ _,rfl⟩
theorem atb:dN 22 (.move (.tmp 4)) []:=fun V a0 w0 H o bP a w ax hx aF=>by have hO:a.eval (.tmp 4)=_:=(hx 4 (nB (by decide))).trans H.b;exact⟨_,w,zg bP hO,Below.refl _ _,rfl⟩
theorem atc:dN 23 (.build 35 #[(0,.tmp 36)]) [22]:=fun V a0 w0 H o bP a w ax hx aF=>by
 have atd:a.eval (.tmp 36)=(aa gg):=aF 22 (by simp);have hc:Tryz.prog.built 35 [(0,a.eval (.tmp 36))]=some #[aa gg,I 0,I 0,I 0,I 0,U false]:=by rw[atd];kernel_rfl
 exact⟨_,w,gr bP hc,Below.refl _ _,rfl⟩
theorem ate:dN 24 (.buildSlice 28 2 #[(0,.tmp 35),(1,.tmp 37)]) [21,23]:=fun V a0 w0 H o bP a w ax hx aF=>by
 have atf:a.eval (.tmp 35)=(.agg #[aa pg,I 0,I 0,I 0,I 0,U false]):=aF 21 (by simp);have abR:a.eval (.tmp 37)=(.agg #[aa gg,I 0,I 0,I 0,I 0,U false]):=aF 23 (by simp);have hc:Tryz.prog.builtSlice c8 2 [(0,a.eval (.tmp 35)),(1,a.eval (.tmp 37))]=some #[aa pg,I 0,I 0,I 0,I 0,U false,aa gg,I 0,I 0,I 0,I 0,U false]:=by rw[atf,abR];kernel_rfl
 exact⟨_,_,AU bP CG hc,a6 _ _,⟨w.heap.size,rfl,bY _ _⟩⟩
theorem atg:dN 25 (.build 32 #[(0,.tmp 33),(1,.tmp 38),(5,.const (I 9))]) [19,24]:=fun V a0 w0 H o bP a w ax hx aF=>by
 have ath:a.eval (.tmp 33)=(.agg #[I 0,I 0,I 8,I 1,I 1,I 0]):=aF 19 (by simp);obtain⟨gM,ati,LR⟩:∃gM,a.eval (.tmp 38)=(ad (some (aj gM 0)) 2 2)∧an w gM (#[aa pg,I 0,I 0,I 0,I 0,U false,aa gg,I 0,I 0,I 0,I 0,U false]) c8:=aF 24 (by simp);have hc:Tryz.prog.built 32 [(0,a.eval (.tmp 33)),(1,a.eval (.tmp 38)),(5,I 9)]=some #[I 0,I 0,I 8,I 1,I 1,I 0,ad (some (aj gM 0)) 2 2,J 0,I 0,I 0,I 0,I 0,I 9]:=by rw[ath,ati];kernel_rfl
 exact⟨_,w,gr bP hc,Below.refl _ _,⟨gM,rfl,LR⟩⟩
theorem atj:dN 26 (.build 39 #[(0,.const (I 1)),(1,.const (I 1)),(2,.const (I 4)),(3,.const (I 4))]) []:=fun V a0 w0 H o bP a w ax hx aF=>by
 have hc:Tryz.prog.built 39 [(0,I 1),(1,I 1),(2,I 4),(3,I 4)]=some #[I 1,I 1,I 4,I 4]:=by kernel_rfl
 exact⟨_,w,gr bP hc,Below.refl _ _,rfl⟩
theorem atk:dN 27 (.build 84 #[(0,.tmp 39),(1,.tmp 40)]) [25,26]:=fun V a0 w0 H o bP a w ax hx aF=>by
 obtain⟨gM,atl,LR⟩:∃gM,a.eval (.tmp 39)=(.agg #[I 0,I 0,I 8,I 1,I 1,I 0,ag gM 0 2 2,J 0,I 0,I 0,I 0,I 0,I 9])∧an w gM (#[aa pg,I 0,I 0,I 0,I 0,U false,aa gg,I 0,I 0,I 0,I 0,U false]) c8:=aF 25 (by simp);have atm:a.eval (.tmp 40)=(.agg #[I 1,I 1,I 4,I 4]):=aF 26 (by simp);have hc:Tryz.prog.built 84 [(0,a.eval (.tmp 39)),(1,a.eval (.tmp 40))]=some #[I 0,I 0,I 8,I 1,I 1,I 0,ad (some (aj gM 0)) 2 2,J 0,I 0,I 0,I 0,I 0,I 9,I 1,I 1,I 4,I 4]:=by rw[atl,atm];kernel_rfl
 exact⟨_,w,gr bP hc,Below.refl _ _,⟨gM,rfl,LR⟩⟩
theorem atn:dN 28 (.load 27 (.tmp 7)) []:=fun V a0 w0 H o bP a w ax hx aF=>by have iO:a.eval (.tmp 7)=_:=(hx 7 (nB (by decide))).trans H.p;exact⟨_,w,x4 bP (by rw[iO];exact x5 (aU H.v ax)),Below.refl _ _,rfl⟩
theorem ato:dN 29 (.move (.tmp 4)) []:=fun V a0 w0 H o bP a w ax hx aF=>by have hO:a.eval (.tmp 4)=_:=(hx 4 (nB (by decide))).trans H.b;exact⟨_,w,zg bP hO,Below.refl _ _,rfl⟩
theorem atp:dN 30 (.build 35 #[(0,.tmp 43)]) [29]:=fun V a0 w0 H o bP a w ax hx aF=>by
 have atq:a.eval (.tmp 43)=(aa gg):=aF 29 (by simp);have hc:Tryz.prog.built 35 [(0,a.eval (.tmp 43))]=some #[aa gg,I 0,I 0,I 0,I 0,U false]:=by rw[atq];kernel_rfl
 exact⟨_,w,gr bP hc,Below.refl _ _,rfl⟩
theorem atr:dN 31 (.buildSlice 28 1 #[(0,.tmp 44)]) [30]:=fun V a0 w0 H o bP a w ax hx aF=>by
 have ats:a.eval (.tmp 44)=(.agg #[aa gg,I 0,I 0,I 0,I 0,U false]):=aF 30 (by simp);have hc:Tryz.prog.builtSlice c8 1 [(0,a.eval (.tmp 44))]=some #[aa gg,I 0,I 0,I 0,I 0,U false]:=by rw[ats];kernel_rfl
 exact⟨_,_,AU bP CG hc,a6 _ _,⟨w.heap.size,rfl,bY _ _⟩⟩
theorem att:dN 32 (.move (.tmp 5)) []:=fun V a0 w0 H o bP a w ax hx aF=>by have nN:a.eval (.tmp 5)=_:=(hx 5 (nB (by decide))).trans H.h;exact⟨_,w,zg bP nN,Below.refl _ _,rfl⟩
theorem atu:dN 33 (.move (.tmp 6)) []:=fun V a0 w0 H o bP a w ax hx aF=>by have jW:a.eval (.tmp 6)=_:=(hx 6 (nB (by decide))).trans H.w;exact⟨_,w,zg bP jW,Below.refl _ _,rfl⟩
theorem atv:dN 34 (.buildSlice 29 2 #[(0,.tmp 46),(1,.tmp 47)]) [32,33]:=fun V a0 w0 H o bP a w ax hx aF=>by
 have atw:a.eval (.tmp 46)=(aa th):=aF 32 (by simp);have atx:a.eval (.tmp 47)=(aa ti):=aF 33 (by simp);have hc:Tryz.prog.builtSlice 9 2 [(0,a.eval (.tmp 46)),(1,a.eval (.tmp 47))]=some #[aa th,aa ti]:=by rw[atw,atx];kernel_rfl
 exact⟨_,_,AU bP Ug hc,a6 _ _,⟨w.heap.size,rfl,bY _ _⟩⟩
theorem aty:dN 35 (.build 32 #[(0,.tmp 42),(1,.tmp 45),(2,.tmp 48)]) [28,31,34]:=fun V a0 w0 H o bP a w ax hx aF=>by
 have Uw:a.eval (.tmp 42)=(.agg #[I 0,I 0,I 8,I 1,I 1,I 0]):=aF 28 (by simp);obtain⟨hg,atz,LS⟩:∃hg,a.eval (.tmp 45)=(ad (some (aj hg 0)) 1 1)∧an w hg (#[aa gg,I 0,I 0,I 0,I 0,U false]) c8:=aF 31 (by simp);obtain⟨hh,atA,LU⟩:∃hh,a.eval (.tmp 48)=(ad (some (aj hh 0)) 2 2)∧an w hh (#[aa th,aa ti]) 9:=aF 34 (by simp);have hc:Tryz.prog.built 32 [(0,a.eval (.tmp 42)),(1,a.eval (.tmp 45)),(2,a.eval (.tmp 48))]=some #[I 0,I 0,I 8,I 1,I 1,I 0,ad (some (aj hg 0)) 1 1,ad (some (aj hh 0)) 2 2,I 0,I 0,I 0,I 0,I 0]:=by rw[Uw,atz,atA];kernel_rfl
 exact⟨_,w,gr bP hc,Below.refl _ _,⟨hg,hh,rfl,LS,LU⟩⟩
theorem atB:dN 36 (.build 39 #[(0,.const (I 2)),(1,.const (I 1)),(2,.const (I 4)),(3,.const (I 4))]) []:=fun V a0 w0 H o bP a w ax hx aF=>by
 have hc:Tryz.prog.built 39 [(0,I 2),(1,I 1),(2,I 4),(3,I 4)]=some #[I 2,I 1,I 4,I 4]:=by kernel_rfl
 exact⟨_,w,gr bP hc,Below.refl _ _,rfl⟩
theorem atC:dN 37 (.build 84 #[(0,.tmp 49),(1,.tmp 50)]) [35,36]:=fun V a0 w0 H o bP a w ax hx aF=>by
 obtain⟨hg,hh,atD,LS,LU⟩:∃hg hh,a.eval (.tmp 49)=(.agg #[I 0,I 0,I 8,I 1,I 1,I 0,ag hg 0 1 1,ag hh 0 2 2,I 0,I 0,I 0,I 0,I 0])∧an w hg (#[aa gg,I 0,I 0,I 0,I 0,U false]) c8∧an w hh (#[aa th,aa ti]) 9:=aF 35 (by simp);have atE:a.eval (.tmp 50)=(.agg #[I 2,I 1,I 4,I 4]):=aF 36 (by simp);have hc:Tryz.prog.built 84 [(0,a.eval (.tmp 49)),(1,a.eval (.tmp 50))]=some #[I 0,I 0,I 8,I 1,I 1,I 0,ad (some (aj hg 0)) 1 1,ad (some (aj hh 0)) 2 2,I 0,I 0,I 0,I 0,I 0,I 2,I 1,I 4,I 4]:=by rw[atD,atE];kernel_rfl
 exact⟨_,w,gr bP hc,Below.refl _ _,⟨hg,hh,rfl,LS,LU⟩⟩
theorem atF:dN 38 (.load 27 (.tmp 7)) []:=fun V a0 w0 H o bP a w ax hx aF=>by have iO:a.eval (.tmp 7)=_:=(hx 7 (nB (by decide))).trans H.p;exact⟨_,w,x4 bP (by rw[iO];exact x5 (aU H.v ax)),Below.refl _ _,rfl⟩
theorem atG:dN 39 (.move (.tmp 8)) []:=fun V a0 w0 H o bP a w ax hx aF=>by have iP:a.eval (.tmp 8)=_:=(hx 8 (nB (by decide))).trans H.f;exact⟨_,w,zg bP iP,Below.refl _ _,rfl⟩
theorem atH:dN 40 (.build 35 #[(0,.tmp 53)]) [39]:=fun V a0 w0 H o bP a w ax hx aF=>by
 have atI:a.eval (.tmp 53)=(aa eB):=aF 39 (by simp);have hc:Tryz.prog.built 35 [(0,a.eval (.tmp 53))]=some #[aa eB,I 0,I 0,I 0,I 0,U false]:=by rw[atI];kernel_rfl
 exact⟨_,w,gr bP hc,Below.refl _ _,rfl⟩
theorem atJ:dN 41 (.buildSlice 28 1 #[(0,.tmp 54)]) [40]:=fun V a0 w0 H o bP a w ax hx aF=>by
 have atK:a.eval (.tmp 54)=(.agg #[aa eB,I 0,I 0,I 0,I 0,U false]):=aF 40 (by simp);have hc:Tryz.prog.builtSlice c8 1 [(0,a.eval (.tmp 54))]=some #[aa eB,I 0,I 0,I 0,I 0,U false]:=by rw[atK];kernel_rfl
 exact⟨_,_,AU bP CG hc,a6 _ _,⟨w.heap.size,rfl,bY _ _⟩⟩
theorem atL:dN 42 (.build 32 #[(0,.tmp 52),(1,.tmp 55),(5,.const (I 9))]) [38,41]:=fun V a0 w0 H o bP a w ax hx aF=>by
 have atM:a.eval (.tmp 52)=(.agg #[I 0,I 0,I 8,I 1,I 1,I 0]):=aF 38 (by simp);obtain⟨hj,atN,LV⟩:∃hj,a.eval (.tmp 55)=(ad (some (aj hj 0)) 1 1)∧an w hj (#[aa eB,I 0,I 0,I 0,I 0,U false]) c8:=aF 41 (by simp);have hc:Tryz.prog.built 32 [(0,a.eval (.tmp 52)),(1,a.eval (.tmp 55)),(5,I 9)]=some #[I 0,I 0,I 8,I 1,I 1,I 0,ad (some (aj hj 0)) 1 1,J 0,I 0,I 0,I 0,I 0,I 9]:=by rw[atM,atN];kernel_rfl
 exact⟨_,w,gr bP hc,Below.refl _ _,⟨hj,rfl,LV⟩⟩
theorem atO:dN 43 (.build 39 #[(0,.const (I 1)),(2,.const (I 36)),(3,.const (I 6))]) []:=fun V a0 w0 H o bP a w ax hx aF=>by
 have hc:Tryz.prog.built 39 [(0,I 1),(2,I 36),(3,I 6)]=some #[I 1,I 0,I 36,I 6]:=by kernel_rfl
 exact⟨_,w,gr bP hc,Below.refl _ _,rfl⟩
theorem atP:dN 44 (.build 84 #[(0,.tmp 56),(1,.tmp 57)]) [42,43]:=fun V a0 w0 H o bP a w ax hx aF=>by
 obtain⟨hj,atQ,LV⟩:∃hj,a.eval (.tmp 56)=(.agg #[I 0,I 0,I 8,I 1,I 1,I 0,ag hj 0 1 1,J 0,I 0,I 0,I 0,I 0,I 9])∧an w hj (#[aa eB,I 0,I 0,I 0,I 0,U false]) c8:=aF 42 (by simp);have atS:a.eval (.tmp 57)=(.agg #[I 1,I 0,I 36,I 6]):=aF 43 (by simp);have hc:Tryz.prog.built 84 [(0,a.eval (.tmp 56)),(1,a.eval (.tmp 57))]=some #[I 0,I 0,I 8,I 1,I 1,I 0,ad (some (aj hj 0)) 1 1,J 0,I 0,I 0,I 0,I 0,I 9,I 1,I 0,I 36,I 6]:=by rw[atQ,atS];kernel_rfl
 exact⟨_,w,gr bP hc,Below.refl _ _,⟨hj,rfl,LV⟩⟩
theorem atT:dN 45 (.load 27 (.tmp 7)) []:=fun V a0 w0 H o bP a w ax hx aF=>by have iO:a.eval (.tmp 7)=_:=(hx 7 (nB (by decide))).trans H.p;exact⟨_,w,x4 bP (by rw[iO];exact x5 (aU H.v ax)),Below.refl _ _,rfl⟩
theorem atU:dN 46 (.move (.tmp 8)) []:=fun V a0 w0 H o bP a w ax hx aF=>by have iP:a.eval (.tmp 8)=_:=(hx 8 (nB (by decide))).trans H.f;exact⟨_,w,zg bP iP,Below.refl _ _,rfl⟩
theorem atV:dN 47 (.build 35 #[(0,.tmp 60)]) [46]:=fun V a0 w0 H o bP a w ax hx aF=>by
 have atW:a.eval (.tmp 60)=(aa eB):=aF 46 (by simp);have hc:Tryz.prog.built 35 [(0,a.eval (.tmp 60))]=some #[aa eB,I 0,I 0,I 0,I 0,U false]:=by rw[atW];kernel_rfl
 exact⟨_,w,gr bP hc,Below.refl _ _,rfl⟩
theorem atX:dN 48 (.buildSlice 28 1 #[(0,.tmp 61)]) [47]:=fun V a0 w0 H o bP a w ax hx aF=>by
 have atY:a.eval (.tmp 61)=(.agg #[aa eB,I 0,I 0,I 0,I 0,U false]):=aF 47 (by simp);have hc:Tryz.prog.builtSlice c8 1 [(0,a.eval (.tmp 61))]=some #[aa eB,I 0,I 0,I 0,I 0,U false]:=by rw[atY];kernel_rfl
 exact⟨_,_,AU bP CG hc,a6 _ _,⟨w.heap.size,rfl,bY _ _⟩⟩
theorem atZ:dN 49 (.build 32 #[(0,.tmp 59),(1,.tmp 62),(4,.const (I 1))]) [45,48]:=fun V a0 w0 H o bP a w ax hx aF=>by
 have at0:a.eval (.tmp 59)=(.agg #[I 0,I 0,I 8,I 1,I 1,I 0]):=aF 45 (by simp);obtain⟨gT,at1,LW⟩:∃gT,a.eval (.tmp 62)=(ad (some (aj gT 0)) 1 1)∧an w gT (#[aa eB,I 0,I 0,I 0,I 0,U false]) c8:=aF 48 (by simp);have hc:Tryz.prog.built 32 [(0,a.eval (.tmp 59)),(1,a.eval (.tmp 62)),(4,I 1)]=some #[I 0,I 0,I 8,I 1,I 1,I 0,ad (some (aj gT 0)) 1 1,J 0,I 0,I 0,I 0,I 1,I 0]:=by rw[at0,at1];kernel_rfl
 exact⟨_,w,gr bP hc,Below.refl _ _,⟨gT,rfl,LW⟩⟩
theorem at2:dN 50 (.build 39 #[(0,.const (I 1)),(3,.const (I 6))]) []:=fun V a0 w0 H o bP a w ax hx aF=>by
 have hc:Tryz.prog.built 39 [(0,I 1),(3,I 6)]=some #[I 1,I 0,I 0,I 6]:=by kernel_rfl
 exact⟨_,w,gr bP hc,Below.refl _ _,rfl⟩
theorem at3:dN 51 (.build 84 #[(0,.tmp 63),(1,.tmp 64)]) [49,50]:=fun V a0 w0 H o bP a w ax hx aF=>by
 obtain⟨gT,at4,LW⟩:∃gT,a.eval (.tmp 63)=(.agg #[I 0,I 0,I 8,I 1,I 1,I 0,ag gT 0 1 1,J 0,I 0,I 0,I 0,I 1,I 0])∧an w gT (#[aa eB,I 0,I 0,I 0,I 0,U false]) c8:=aF 49 (by simp);have at5:a.eval (.tmp 64)=(.agg #[I 1,I 0,I 0,I 6]):=aF 50 (by simp);have hc:Tryz.prog.built 84 [(0,a.eval (.tmp 63)),(1,a.eval (.tmp 64))]=some #[I 0,I 0,I 8,I 1,I 1,I 0,ad (some (aj gT 0)) 1 1,J 0,I 0,I 0,I 0,I 1,I 0,I 1,I 0,I 0,I 6]:=by rw[at4,at5];kernel_rfl
 exact⟨_,w,gr bP hc,Below.refl _ _,⟨gT,rfl,LW⟩⟩
theorem at6:dN 52 (.load 27 (.tmp 7)) []:=fun V a0 w0 H o bP a w ax hx aF=>by have iO:a.eval (.tmp 7)=_:=(hx 7 (nB (by decide))).trans H.p;exact⟨_,w,x4 bP (by rw[iO];exact x5 (aU H.v ax)),Below.refl _ _,rfl⟩
theorem at7:dN 53 (.move (.tmp 8)) []:=fun V a0 w0 H o bP a w ax hx aF=>by have iP:a.eval (.tmp 8)=_:=(hx 8 (nB (by decide))).trans H.f;exact⟨_,w,zg bP iP,Below.refl _ _,rfl⟩
theorem aua:dN 54 (.build 35 #[(0,.tmp 67)]) [53]:=fun V a0 w0 H o bP a w ax hx aF=>by
 have aub:a.eval (.tmp 67)=(aa eB):=aF 53 (by simp);have hc:Tryz.prog.built 35 [(0,a.eval (.tmp 67))]=some #[aa eB,I 0,I 0,I 0,I 0,U false]:=by rw[aub];kernel_rfl
 exact⟨_,w,gr bP hc,Below.refl _ _,rfl⟩
theorem auc:dN 55 (.move (.tmp 8)) []:=fun V a0 w0 H o bP a w ax hx aF=>by have iP:a.eval (.tmp 8)=_:=(hx 8 (nB (by decide))).trans H.f;exact⟨_,w,zg bP iP,Below.refl _ _,rfl⟩
theorem aud:dN 56 (.build 35 #[(0,.tmp 69)]) [55]:=fun V a0 w0 H o bP a w ax hx aF=>by
 have aue:a.eval (.tmp 69)=(aa eB):=aF 55 (by simp);have hc:Tryz.prog.built 35 [(0,a.eval (.tmp 69))]=some #[aa eB,I 0,I 0,I 0,I 0,U false]:=by rw[aue];kernel_rfl
 exact⟨_,w,gr bP hc,Below.refl _ _,rfl⟩
theorem auf:dN 57 (.buildSlice 28 2 #[(0,.tmp 68),(1,.tmp 70)]) [54,56]:=fun V a0 w0 H o bP a w ax hx aF=>by
 have aug:a.eval (.tmp 68)=(.agg #[aa eB,I 0,I 0,I 0,I 0,U false]):=aF 54 (by simp);have auh:a.eval (.tmp 70)=(.agg #[aa eB,I 0,I 0,I 0,I 0,U false]):=aF 56 (by simp);have hc:Tryz.prog.builtSlice c8 2 [(0,a.eval (.tmp 68)),(1,a.eval (.tmp 70))]=some #[aa eB,I 0,I 0,I 0,I 0,U false,aa eB,I 0,I 0,I 0,I 0,U false]:=by rw[aug,auh];kernel_rfl
 exact⟨_,_,AU bP CG hc,a6 _ _,⟨w.heap.size,rfl,bY _ _⟩⟩
theorem aui:dN 58 (.build 32 #[(0,.tmp 66),(1,.tmp 71),(4,.const (I 1)),(5,.const (I 1))]) [52,57]:=fun V a0 w0 H o bP a w ax hx aF=>by
 have auj:a.eval (.tmp 66)=(.agg #[I 0,I 0,I 8,I 1,I 1,I 0]):=aF 52 (by simp);obtain⟨hk,auk,LX⟩:∃hk,a.eval (.tmp 71)=(ad (some (aj hk 0)) 2 2)∧an w hk (#[aa eB,I 0,I 0,I 0,I 0,U false,aa eB,I 0,I 0,I 0,I 0,U false]) c8:=aF 57 (by simp);have hc:Tryz.prog.built 32 [(0,a.eval (.tmp 66)),(1,a.eval (.tmp 71)),(4,I 1),(5,I 1)]=some #[I 0,I 0,I 8,I 1,I 1,I 0,ad (some (aj hk 0)) 2 2,J 0,I 0,I 0,I 0,I 1,I 1]:=by rw[auj,auk];kernel_rfl
 exact⟨_,w,gr bP hc,Below.refl _ _,⟨hk,rfl,LX⟩⟩
theorem aul:dN 59 (.build 39 #[(0,.const (I 1)),(1,.const (I 1)),(3,.const (I 6))]) []:=fun V a0 w0 H o bP a w ax hx aF=>by
 have hc:Tryz.prog.built 39 [(0,I 1),(1,I 1),(3,I 6)]=some #[I 1,I 1,I 0,I 6]:=by kernel_rfl
 exact⟨_,w,gr bP hc,Below.refl _ _,rfl⟩
theorem aum:dN 60 (.build 84 #[(0,.tmp 72),(1,.tmp 73)]) [58,59]:=fun V a0 w0 H o bP a w ax hx aF=>by
 obtain⟨hk,aun,LX⟩:∃hk,a.eval (.tmp 72)=(.agg #[I 0,I 0,I 8,I 1,I 1,I 0,ag hk 0 2 2,J 0,I 0,I 0,I 0,I 1,I 1])∧an w hk (#[aa eB,I 0,I 0,I 0,I 0,U false,aa eB,I 0,I 0,I 0,I 0,U false]) c8:=aF 58 (by simp);have auo:a.eval (.tmp 73)=(.agg #[I 1,I 1,I 0,I 6]):=aF 59 (by simp);have hc:Tryz.prog.built 84 [(0,a.eval (.tmp 72)),(1,a.eval (.tmp 73))]=some #[I 0,I 0,I 8,I 1,I 1,I 0,ad (some (aj hk 0)) 2 2,J 0,I 0,I 0,I 0,I 1,I 1,I 1,I 1,I 0,I 6]:=by rw[aun,auo];kernel_rfl
 exact⟨_,w,gr bP hc,Below.refl _ _,⟨hk,rfl,LX⟩⟩
theorem aup:dN 61 (.load 27 (.tmp 7)) []:=fun V a0 w0 H o bP a w ax hx aF=>by have iO:a.eval (.tmp 7)=_:=(hx 7 (nB (by decide))).trans H.p;exact⟨_,w,x4 bP (by rw[iO];exact x5 (aU H.v ax)),Below.refl _ _,rfl⟩
theorem auq:dN 62 (.makeSlice 28 (.const (I 33)) (.const (I 33))) []:=fun V a0 w0 H o bP a w ax hx aF=>by exact⟨_,_,afc (e:=c8) bP (zJ 28 c8 (.agg #[aa ⟨#[]⟩,I 0,I 0,I 0,I 0,U false]) 6 56 CG asy 33 (by decide) (by decide) w),a6 _ _,⟨w.heap.size,rfl,bY _ _⟩⟩
theorem aur:dN 63 (.build 32 #[(0,.tmp 75),(1,.tmp 76)]) [61,62]:=fun V a0 w0 H o bP a w ax hx aF=>by
 have aus:a.eval (.tmp 75)=(.agg #[I 0,I 0,I 8,I 1,I 1,I 0]):=aF 61 (by simp);obtain⟨hl,aut,LY⟩:∃hl,a.eval (.tmp 76)=(ad (some (aj hl 0)) 33 33)∧an w hl (madeCells #[aa ⟨#[]⟩,I 0,I 0,I 0,I 0,U false] 198) c8:=aF 62 (by simp);have hc:Tryz.prog.built 32 [(0,a.eval (.tmp 75)),(1,a.eval (.tmp 76))]=some #[I 0,I 0,I 8,I 1,I 1,I 0,ad (some (aj hl 0)) 33 33,J 0,I 0,I 0,I 0,I 0,I 0]:=by rw[aus,aut];kernel_rfl
 exact⟨_,w,gr bP hc,Below.refl _ _,⟨hl,rfl,LY⟩⟩
theorem auu:dN 64 (.build 39 #[(3,.const (I 1))]) []:=fun V a0 w0 H o bP a w ax hx aF=>by
 have hc:Tryz.prog.built 39 [(3,I 1)]=some #[I 0,I 0,I 0,I 1]:=by kernel_rfl
 exact⟨_,w,gr bP hc,Below.refl _ _,rfl⟩
theorem auv:dN 65 (.build 84 #[(0,.tmp 77),(1,.tmp 78)]) [63,64]:=fun V a0 w0 H o bP a w ax hx aF=>by
 obtain⟨hl,auw,LY⟩:∃hl,a.eval (.tmp 77)=(.agg #[I 0,I 0,I 8,I 1,I 1,I 0,ag hl 0 33 33,J 0,I 0,I 0,I 0,I 0,I 0])∧an w hl (madeCells #[aa ⟨#[]⟩,I 0,I 0,I 0,I 0,U false] 198) c8:=aF 63 (by simp);have auy:a.eval (.tmp 78)=(.agg #[I 0,I 0,I 0,I 1]):=aF 64 (by simp);have hc:Tryz.prog.built 84 [(0,a.eval (.tmp 77)),(1,a.eval (.tmp 78))]=some #[I 0,I 0,I 8,I 1,I 1,I 0,ad (some (aj hl 0)) 33 33,J 0,I 0,I 0,I 0,I 0,I 0,I 0,I 0,I 0,I 1]:=by rw[auw,auy];kernel_rfl
 exact⟨_,w,gr bP hc,Below.refl _ _,⟨hl,rfl,LY⟩⟩
theorem auz:dN 66 (.load 27 (.tmp 7)) []:=fun V a0 w0 H o bP a w ax hx aF=>by have iO:a.eval (.tmp 7)=_:=(hx 7 (nB (by decide))).trans H.p;exact⟨_,w,x4 bP (by rw[iO];exact x5 (aU H.v ax)),Below.refl _ _,rfl⟩
theorem auA:dN 67 (.makeSlice 29 (.const (I 33)) (.const (I 33))) []:=fun V a0 w0 H o bP a w ax hx aF=>by exact⟨_,_,afc (e:=9) bP (zJ 29 9 (aa ⟨#[]⟩) 1 16 Ug Uj 33 (by decide) (by decide) w),a6 _ _,⟨w.heap.size,rfl,bY _ _⟩⟩
theorem auB:dN 68 (.build 32 #[(0,.tmp 80),(2,.tmp 81)]) [66,67]:=fun V a0 w0 H o bP a w ax hx aF=>by
 have auC:a.eval (.tmp 80)=(.agg #[I 0,I 0,I 8,I 1,I 1,I 0]):=aF 66 (by simp);obtain⟨ho,auD,LZ⟩:∃ho,a.eval (.tmp 81)=(ad (some (aj ho 0)) 33 33)∧an w ho (madeCells #[aa ⟨#[]⟩] 33) 9:=aF 67 (by simp);have hc:Tryz.prog.built 32 [(0,a.eval (.tmp 80)),(2,a.eval (.tmp 81))]=some #[I 0,I 0,I 8,I 1,I 1,I 0,J 0,ad (some (aj ho 0)) 33 33,I 0,I 0,I 0,I 0,I 0]:=by rw[auC,auD];kernel_rfl
 exact⟨_,w,gr bP hc,Below.refl _ _,⟨ho,rfl,LZ⟩⟩
theorem auE:dN 69 (.build 39 #[(3,.const (I 1))]) []:=fun V a0 w0 H o bP a w ax hx aF=>by
 have hc:Tryz.prog.built 39 [(3,I 1)]=some #[I 0,I 0,I 0,I 1]:=by kernel_rfl
 exact⟨_,w,gr bP hc,Below.refl _ _,rfl⟩
theorem auF:dN 70 (.build 84 #[(0,.tmp 82),(1,.tmp 83)]) [68,69]:=fun V a0 w0 H o bP a w ax hx aF=>by
 obtain⟨ho,auG,LZ⟩:∃ho,a.eval (.tmp 82)=(.agg #[I 0,I 0,I 8,I 1,I 1,I 0,J 0,ag ho 0 33 33,I 0,I 0,I 0,I 0,I 0])∧an w ho (madeCells #[aa ⟨#[]⟩] 33) 9:=aF 68 (by simp);have auH:a.eval (.tmp 83)=(.agg #[I 0,I 0,I 0,I 1]):=aF 69 (by simp);have hc:Tryz.prog.built 84 [(0,a.eval (.tmp 82)),(1,a.eval (.tmp 83))]=some #[I 0,I 0,I 8,I 1,I 1,I 0,J 0,ad (some (aj ho 0)) 33 33,I 0,I 0,I 0,I 0,I 0,I 0,I 0,I 0,I 1]:=by rw[auG,auH];kernel_rfl
 exact⟨_,w,gr bP hc,Below.refl _ _,⟨ho,rfl,LZ⟩⟩
theorem auI:dN 71 (.load 27 (.tmp 7)) []:=fun V a0 w0 H o bP a w ax hx aF=>by have iO:a.eval (.tmp 7)=_:=(hx 7 (nB (by decide))).trans H.p;exact⟨_,w,x4 bP (by rw[iO];exact x5 (aU H.v ax)),Below.refl _ _,rfl⟩
theorem auJ:dN 72 (.build 35 #[]) []:=fun V a0 w0 H o bP a w ax hx aF=>by
 have hc:Tryz.prog.built 35 []=some #[aa ⟨#[]⟩,I 0,I 0,I 0,I 0,U false]:=by kernel_rfl
 exact⟨_,w,gr bP hc,Below.refl _ _,rfl⟩
theorem auK:dN 73 (.buildSlice 28 1 #[(0,.tmp 86)]) [72]:=fun V a0 w0 H o bP a w ax hx aF=>by
 have auL:a.eval (.tmp 86)=(.agg #[aa ⟨#[]⟩,I 0,I 0,I 0,I 0,U false]):=aF 72 (by simp);have hc:Tryz.prog.builtSlice c8 1 [(0,a.eval (.tmp 86))]=some #[aa (⟨#[]⟩:Ua),I 0,I 0,I 0,I 0,U false]:=by rw[auL];kernel_rfl
 exact⟨_,_,AU bP CG hc,a6 _ _,⟨w.heap.size,rfl,bY _ _⟩⟩
theorem auM:dN 74 (.build 32 #[(0,.tmp 85),(1,.tmp 87)]) [71,73]:=fun V a0 w0 H o bP a w ax hx aF=>by
 have auN:a.eval (.tmp 85)=(.agg #[I 0,I 0,I 8,I 1,I 1,I 0]):=aF 71 (by simp);obtain⟨hq,auO,L0⟩:∃hq,a.eval (.tmp 87)=(ad (some (aj hq 0)) 1 1)∧an w hq (#[aa (⟨#[]⟩:Ua),I 0,I 0,I 0,I 0,U false]) c8:=aF 73 (by simp);have hc:Tryz.prog.built 32 [(0,a.eval (.tmp 85)),(1,a.eval (.tmp 87))]=some #[I 0,I 0,I 8,I 1,I 1,I 0,ad (some (aj hq 0)) 1 1,J 0,I 0,I 0,I 0,I 0,I 0]:=by rw[auN,auO];kernel_rfl
 exact⟨_,w,gr bP hc,Below.refl _ _,⟨hq,rfl,L0⟩⟩
theorem auP:dN 75 (.build 39 #[(0,.const (I 1)),(3,.const (I 11))]) []:=fun V a0 w0 H o bP a w ax hx aF=>by
 have hc:Tryz.prog.built 39 [(0,I 1),(3,I 11)]=some #[I 1,I 0,I 0,I 11]:=by kernel_rfl
 exact⟨_,w,gr bP hc,Below.refl _ _,rfl⟩
theorem auQ:dN 76 (.build 84 #[(0,.tmp 88),(1,.tmp 89)]) [74,75]:=fun V a0 w0 H o bP a w ax hx aF=>by
 obtain⟨hq,auR,L0⟩:∃hq,a.eval (.tmp 88)=(.agg #[I 0,I 0,I 8,I 1,I 1,I 0,ag hq 0 1 1,J 0,I 0,I 0,I 0,I 0,I 0])∧an w hq (#[aa (⟨#[]⟩:Ua),I 0,I 0,I 0,I 0,U false]) c8:=aF 74 (by simp);have auS:a.eval (.tmp 89)=(.agg #[I 1,I 0,I 0,I 11]):=aF 75 (by simp);have hc:Tryz.prog.built 84 [(0,a.eval (.tmp 88)),(1,a.eval (.tmp 89))]=some #[I 0,I 0,I 8,I 1,I 1,I 0,ad (some (aj hq 0)) 1 1,J 0,I 0,I 0,I 0,I 0,I 0,I 1,I 0,I 0,I 11]:=by rw[auR,auS];kernel_rfl
 exact⟨_,w,gr bP hc,Below.refl _ _,⟨hq,rfl,L0⟩⟩
theorem auU:dN 77 (.buildSlice 85 12 #[(0,.tmp 16),(1,.tmp 20),(2,.tmp 25),(3,.tmp 32),(4,.tmp 41),(5,.tmp 51),(6,.tmp 58),(7,.tmp 65),(8,.tmp 74),(9,.tmp 79),(10,.tmp 84),(11,.tmp 90)]) [2,6,11,18,27,37,44,51,60,65,70,76]:=fun V a0 w0 H o bP a w ax hx aF=>by
 have auV:a.eval (.tmp 16)=(.agg #[I 0,I 0,I 0,I 0,I 0,I 0,J 0,J 0,I 0,I 0,I 0,I 0,I 0,I 0,I 0,I 0,I 1]):=aF 2 (by simp);have auW:a.eval (.tmp 20)=(.agg #[I 0,I 0,I 8,I 1,I 1,I 0,J 0,J 0,I 0,I 0,I 0,I 0,I 0,I 0,I 0,I 0,I 0]):=aF 6 (by simp);have auX:a.eval (.tmp 25)=(.agg #[I 0,I 0,I 8,I 1,I 1,I 0,J 0,J 0,I 0,I 256,I 0,I 0,I 0,I 0,I 0,I 0,I 1]):=aF 11 (by simp);obtain⟨gq,auY,LQ⟩:∃gq,a.eval (.tmp 32)=(.agg #[I 0,I 0,I 8,I 1,I 1,I 0,ag gq 0 1 1,J 0,I 0,I 0,I 0,I 0,I 0,I 0,I 0,I 0,I 1])∧an w gq (#[aa gg,I 0,I 0,I 0,I (-1),U false]) c8:=aF 18 (by simp);obtain⟨gM,auZ,LR⟩:∃gM,a.eval (.tmp 41)=(.agg #[I 0,I 0,I 8,I 1,I 1,I 0,ag gM 0 2 2,J 0,I 0,I 0,I 0,I 0,I 9,I 1,I 1,I 4,I 4])∧an w gM (#[aa pg,I 0,I 0,I 0,I 0,U false,aa gg,I 0,I 0,I 0,I 0,U false]) c8:=aF 27 (by simp);obtain⟨hg,hh,au0,LS,LU⟩:∃hg hh,a.eval (.tmp 51)=(.agg #[I 0,I 0,I 8,I 1,I 1,I 0,ag hg 0 1 1,ag hh 0 2 2,I 0,I 0,I 0,I 0,I 0,I 2,I 1,I 4,I 4])∧an w hg (#[aa gg,I 0,I 0,I 0,I 0,U false]) c8∧an w hh (#[aa th,aa ti]) 9:=aF 37 (by simp);obtain⟨hj,au1,LV⟩:∃hj,a.eval (.tmp 58)=(.agg #[I 0,I 0,I 8,I 1,I 1,I 0,ag hj 0 1 1,J 0,I 0,I 0,I 0,I 0,I 9,I 1,I 0,I 36,I 6])∧an w hj (#[aa eB,I 0,I 0,I 0,I 0,U false]) c8:=aF 44 (by simp);obtain⟨gT,au2,LW⟩:∃gT,a.eval (.tmp 65)=(.agg #[I 0,I 0,I 8,I 1,I 1,I 0,ag gT 0 1 1,J 0,I 0,I 0,I 0,I 1,I 0,I 1,I 0,I 0,I 6])∧an w gT (#[aa eB,I 0,I 0,I 0,I 0,U false]) c8:=aF 51 (by simp);obtain⟨hk,au3,LX⟩:∃hk,a.eval (.tmp 74)=(.agg #[I 0,I 0,I 8,I 1,I 1,I 0,ag hk 0 2 2,J 0,I 0,I 0,I 0,I 1,I 1,I 1,I 1,I 0,I 6])∧an w hk (#[aa eB,I 0,I 0,I 0,I 0,U false,aa eB,I 0,I 0,I 0,I 0,U false]) c8:=aF 60 (by simp);obtain⟨hl,au4,LY⟩:∃hl,a.eval (.tmp 79)=(.agg #[I 0,I 0,I 8,I 1,I 1,I 0,ag hl 0 33 33,J 0,I 0,I 0,I 0,I 0,I 0,I 0,I 0,I 0,I 1])∧an w hl (madeCells #[aa ⟨#[]⟩,I 0,I 0,I 0,I 0,U false] 198) c8:=aF 65 (by simp);obtain⟨ho,au5,LZ⟩:∃ho,a.eval (.tmp 84)=(.agg #[I 0,I 0,I 8,I 1,I 1,I 0,J 0,ag ho 0 33 33,I 0,I 0,I 0,I 0,I 0,I 0,I 0,I 0,I 1])∧an w ho (madeCells #[aa ⟨#[]⟩] 33) 9:=aF 70 (by simp);obtain⟨hq,au6,L0⟩:∃hq,a.eval (.tmp 90)=(.agg #[I 0,I 0,I 8,I 1,I 1,I 0,ag hq 0 1 1,J 0,I 0,I 0,I 0,I 0,I 0,I 1,I 0,I 0,I 11])∧an w hq (#[aa (⟨#[]⟩:Ua),I 0,I 0,I 0,I 0,U false]) c8:=aF 76 (by simp);have hc:Tryz.prog.builtSlice 84 12 [(0,a.eval (.tmp 16)),(1,a.eval (.tmp 20)),(2,a.eval (.tmp 25)),(3,a.eval (.tmp 32)),(4,a.eval (.tmp 41)),(5,a.eval (.tmp 51)),(6,a.eval (.tmp 58)),(7,a.eval (.tmp 65)),(8,a.eval (.tmp 74)),(9,a.eval (.tmp 79)),(10,a.eval (.tmp 84)),(11,a.eval (.tmp 90))]=some (LN gq gM hg hh hj gT hk hl ho hq):=by rw[auV,auW,auX,auY,auZ,au0,au1,au2,au3,au4,au5,au6];kernel_rfl
 have dc:=a6 w (ai (LN gq gM hg hh hj gT hk hl ho hq) 84);exact⟨_,_,AU bP Tryz.underlying85 hc,dc,⟨gq,gM,hg,hh,hj,gT,hk,hl,ho,hq,w.heap.size,rfl,mu LQ dc,mu LR dc,mu LS dc,mu LU dc,mu LV dc,mu LW dc,mu LX dc,mu LY dc,mu LZ dc,mu L0 dc,bY _ _⟩⟩
theorem au7:dN 78 (.assign (.tmp 91)) [77]:=fun V a0 w0 H o bP a w ax hx aF=>by obtain⟨gq,gM,hg,hh,hj,gT,hk,hl,ho,hq,j6,au8,q⟩:∃gq gM hg hh hj gT hk hl ho hq j6,a.eval (.tmp 91)=(ad (some (aj j6 0)) 12 12)∧afe gq gM hg hh hj gT hk hl ho hq j6 w:=aF 77 (by simp);exact⟨_,w,asu bP au8,Below.refl _ _,⟨gq,gM,hg,hh,hj,gT,hk,hl,ho,hq,j6,rfl,q⟩⟩
variable{ops:Array Oper}{a0:Act}{w0:aeo}
theorem dS(av:ops.toList.map (fun o=>(o.op,o.dst,o.guard))=(Ff.zipIdx 0).map fun x=>(x.1.1,some (CH x.2),none))(az:HP ops (Ff.map (·.2)) 0=true){i:Nat}{op:Op}{qc:List Nat}(hi:Ff[i]?=some (op,qc))(H:LP V a0 w0)(hs:dN i op qc):Qc Tryz.prog ops CH 79 a0 w0 LO i:=by obtain⟨o,bm,aC,bt⟩:=afh az i qc (by rw[xb,hi];rfl);rw[j7] at bm aC;have cr:=fp (·[i]?) av;simp only[xb,vw,bm,List.getElem?_zipIdx,hi,yH,n7,gh,j7] at cr;obtain⟨c4,ez,eS⟩:=cr;exact⟨o,bm,eS,ez,aC,qc,bt,fun a w ax hx aF=>hs V a0 w0 H o c4 a w ax hx aF⟩
theorem au9(H:LP V a0 w0)(av:ops.toList.map (fun o=>(o.op,o.dst,o.guard))=(Ff.zipIdx 0).map fun x=>(x.1.1,some (CH x.2),none))(az:HP ops (Ff.map (·.2)) 0=true):Qf (Qc Tryz.prog ops CH 79 a0 w0 LO) 79:=
 ⟨⟨⟨⟨⟨⟨⟨⟨⟨⟨⟨⟨⟨⟨⟨⟨⟨⟨⟨⟨⟨⟨⟨⟨⟨⟨⟨⟨⟨⟨⟨⟨⟨⟨⟨⟨⟨⟨⟨⟨⟨⟨⟨⟨⟨⟨⟨⟨⟨⟨⟨⟨⟨⟨⟨⟨⟨⟨⟨⟨⟨⟨⟨⟨⟨⟨⟨⟨⟨⟨⟨⟨⟨⟨⟨⟨⟨⟨⟨trivial,dS av az (i:=0) rfl H asz⟩,dS av az (i:=1) rfl H asA⟩,dS av az (i:=2) rfl H asB⟩,dS av az (i:=3) rfl H asE⟩,dS av az (i:=4) rfl H asF⟩,dS av az (i:=5) rfl H asH⟩,dS av az (i:=6) rfl H asI⟩,dS av az (i:=7) rfl H asL⟩,dS av az (i:=8) rfl H asM⟩,dS av az (i:=9) rfl H asN⟩,dS av az (i:=10) rfl H asQ⟩,dS av az (i:=11) rfl H asR⟩,dS av az (i:=12) rfl H asU⟩,dS av az (i:=13) rfl H asV⟩,dS av az (i:=14) rfl H asW⟩,dS av az (i:=15) rfl H asY⟩,dS av az (i:=16) rfl H as0⟩,dS av az (i:=17) rfl H as3⟩,dS av az (i:=18) rfl H as4⟩,dS av az (i:=19) rfl H as7⟩,dS av az (i:=20) rfl H as8⟩,dS av az (i:=21) rfl H as9⟩,dS av az (i:=22) rfl H atb⟩,dS av az (i:=23) rfl H atc⟩,dS av az (i:=24) rfl H ate⟩,dS av az (i:=25) rfl H atg⟩,dS av az (i:=26) rfl H atj⟩,dS av az (i:=27) rfl H atk⟩,dS av az (i:=28) rfl H atn⟩,dS av az (i:=29) rfl H ato⟩,dS av az (i:=30) rfl H atp⟩,dS av az (i:=31) rfl H atr⟩,dS av az (i:=32) rfl H att⟩,dS av az (i:=33) rfl H atu⟩,dS av az (i:=34) rfl H atv⟩,dS av az (i:=35) rfl H aty⟩,dS av az (i:=36) rfl H atB⟩,dS av az (i:=37) rfl H atC⟩,dS av az (i:=38) rfl H atF⟩,dS av az (i:=39) rfl H atG⟩,dS av az (i:=40) rfl H atH⟩,dS av az (i:=41) rfl H atJ⟩,dS av az (i:=42) rfl H atL⟩,dS av az (i:=43) rfl H atO⟩,dS av az (i:=44) rfl H atP⟩,dS av az (i:=45) rfl H atT⟩,dS av az (i:=46) rfl H atU⟩,dS av az (i:=47) rfl H atV⟩,dS av az (i:=48) rfl H atX⟩,dS av az (i:=49) rfl H atZ⟩,dS av az (i:=50) rfl H at2⟩,dS av az (i:=51) rfl H at3⟩,dS av az (i:=52) rfl H at6⟩,dS av az (i:=53) rfl H at7⟩,dS av az (i:=54) rfl H aua⟩,dS av az (i:=55) rfl H auc⟩,dS av az (i:=56) rfl H aud⟩,dS av az (i:=57) rfl H auf⟩,dS av az (i:=58) rfl H aui⟩,dS av az (i:=59) rfl H aul⟩,dS av az (i:=60) rfl H aum⟩,dS av az (i:=61) rfl H aup⟩,dS av az (i:=62) rfl H auq⟩,dS av az (i:=63) rfl H aur⟩,dS av az (i:=64) rfl H auu⟩,dS av az (i:=65) rfl H auv⟩,dS av az (i:=66) rfl H auz⟩,dS av az (i:=67) rfl H auA⟩,dS av az (i:=68) rfl H auB⟩,dS av az (i:=69) rfl H auE⟩,dS av az (i:=70) rfl H auF⟩,dS av az (i:=71) rfl H auI⟩,dS av az (i:=72) rfl H auJ⟩,dS av az (i:=73) rfl H auK⟩,dS av az (i:=74) rfl H auM⟩,dS av az (i:=75) rfl H auP⟩,dS av az (i:=76) rfl H auQ⟩,dS av az (i:=77) rfl H auU⟩,dS av az (i:=78) rfl H au7⟩
theorem ava{id:Nat}{Q:Exit→Act→aeo→Prop}(H:LP V a0 w0)(hm:Tryz.prog.follows .mixedOrders=true)(hs:a0.tmps.size=123)(av:ops.toList.map (fun o=>(o.op,o.dst,o.guard))=(Ff.zipIdx 0).map fun x=>(x.1.1,some (CH x.2),none))(az:HP ops (Ff.map (·.2)) 0=true)
  (J5:∀(a:Act) (w:aeo),ao w0 w0 w→a.defers=a0.defers→a.tmps.size=123→(∀t,t<14∧t≠9→a.eval (.tmp t)=a0.eval (.tmp t))→Qe (a.eval (.tmp 9)) w→Q .normal a w):(Code.region id ops true).wp Tryz.prog Q a0 w0:=by
 have hn:ops.size=79:=by have:=fp List.length av;rw[gO,Array.length_toList,gO,List.length_zipIdx] at this;exact this
 have xt:LP V a0 w0.drew:=⟨H.g,H.b,H.h,H.w,H.f,H.p,H.v⟩;have r':ao w0 w0 w0.drew:=Below.refl _ _|>.drew;refine wp_region_any hm (ast (m:=123) hn (fun i hi=>(au9 xt av az).at i hi) (fun i j hi cd e=>by have e:(if i<78 then 14+i else 9)=if j<78 then 14+j else 9:=e;split at e<;>split at e<;>omega) (fun i hi=>by show (if i<78 then 14+i else 9)<123;split<;>omega) (fun i v w w' h ax=>asw i v w w' h ax) (fun a w h=>?_) ops.size (Array.replicate ops.size false) a0 w0.drew (by rw[Array.size_replicate,hn]) ?_ ⟨Below.refl _ _,rfl,hs,fun _ _=>rfl,fun i hi h=>?_⟩)
 ·exact J5 a w (r'.trans (h.aX.mono r'.size)) h.defs h.bD (fun t bE=>h.out t (nB bE)) (h.has 78 (by decide) (by simp))
 ·rw[Array.toList_replicate,List.count_replicate_self];exact bx _
 ·rw[Array.getElem?_replicate] at h;split at h<;>simp at h
theorem avb{a:Act}{v0 v2 v9:ada}(hs:a.tmps.size=123)(hd:a.defers=[])(aS:a.eval (.tmp 0)=v0)(az:a.eval (.tmp 2)=v2)(fM:a.eval (.tmp 9)=v9):∃f:Nat→ada,a=⟨#[v0,f 1,v2,f 3,f 4,f 5,f 6,f 7,f 8,v9,f 10,f 11,f 12,f 13,f 14,f 15,f 16,f 17,f 18,f 19,f 20,f 21,f 22,f 23,f 24,f 25,f 26,f 27,f 28,f 29,f 30,f 31,f 32,f 33,f 34,f 35,f 36,f 37,f 38,f 39,f 40,f 41,f 42,f 43,f 44,f 45,f 46,f 47,f 48,f 49,f 50,f 51,f 52,f 53,f 54,f 55,f 56,f 57,f 58,f 59,f 60,f 61,f 62,f 63,f 64,f 65,f 66,f 67,f 68,f 69,f 70,f 71,f 72,f 73,f 74,f 75,f 76,f 77,f 78,f 79,f 80,f 81,f 82,f 83,f 84,f 85,f 86,f 87,f 88,f 89,f 90,f 91,f 92,f 93,f 94,f 95,f 96,f 97,f 98,f 99,f 100,f 101,f 102,f 103,f 104,f 105,f 106,f 107,f 108,f 109,f 110,f 111,f 112,f 113,f 114,f 115,f 116,f 117,f 118,f 119,f 120,f 121,f 122],[]⟩:=by
 obtain⟨T,D⟩:=a;obtain rfl:D=[]:=hd;refine⟨fun t=>T.getD t undef,?_⟩;have fC:T.toList=(List.range 123).map fun t=>T.getD t undef:=by refine RY (by simpa using hs) fun i av az=>?_;rw[IS,List.getElem_range,Qx,AS,Nd (by simpa using av)];rfl
 have aS:T.getD 0 undef=v0:=aS;have az:T.getD 2 undef=v2:=az;have fM:T.getD 9 undef=v9:=fM;subst aS az fM
 congr 1
 exact Array.ext' fC
end dd
